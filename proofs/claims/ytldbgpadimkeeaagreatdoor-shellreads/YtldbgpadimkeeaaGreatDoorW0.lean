/- The walk: what each function of the program does at arguments that are not known; and what the law comes to. Conditions: the table of functions holds these functions. -/
import Derived.Test.YtldbgpadimkeeaaGreatDoorH
import Derived.Test.YtldbgpadimkeeaaGreatDoorG
import Derived.Test.YtldbgpadimkeeaaGreatDoorFast0
set_option linter.all false
namespace Go.Am.Seat
section
variable {a b d e f g j k l m n o p q s t v w : AV}
theorem t1_1 : y1 (T1 a b) = a := rfl
theorem t1_3 : y3 (T1 a b) = b := rfl
theorem t2_3 : y3 (T2 a) = a := rfl
theorem IV : y3 (T3 a b) = a := rfl
theorem t3_4 : y4 (T3 a b) = b := rfl
theorem IW : y3 (T4 a b) = a := rfl
theorem IX : y5 (T4 a b) = b := rfl
theorem t6_3 : y3 (T6 a b d) = a := rfl
theorem t6_5 : y5 (T6 a b d) = b := rfl
theorem t6_6 : y6 (T6 a b d) = d := rfl
theorem t7_0 : y0 (T7 a b) = a := rfl
theorem t7_3 : y3 (T7 a b) = b := rfl
theorem t8_0 : y0 (T8 a b d) = a := rfl
theorem t8_3 : y3 (T8 a b d) = b := rfl
theorem t8_4 : y4 (T8 a b d) = d := rfl
theorem t10_1 : y1 (T10 a b) = a := rfl
theorem t10_2 : y2 (T10 a b) = b := rfl
theorem t11_1 : y1 (T11 a b d) = a := rfl
theorem t11_2 : y2 (T11 a b d) = b := rfl
theorem t11_3 : y3 (T11 a b d) = d := rfl
theorem t12_1 : y1 (T12 a b d e) = a := rfl
theorem t12_2 : y2 (T12 a b d e) = b := rfl
theorem t12_3 : y3 (T12 a b d e) = d := rfl
theorem t12_4 : y4 (T12 a b d e) = e := rfl
theorem tn : y0 (T13 a) = a := rfl
theorem t14_1 : y1 (T14 a b d e f) = a := rfl
theorem t14_3 : y3 (T14 a b d e f) = b := rfl
theorem t14_41 : y41 (T14 a b d e f) = d := rfl
theorem t14_42 : y42 (T14 a b d e f) = e := rfl
theorem t14_43 : y43 (T14 a b d e f) = f := rfl
theorem t15_3 : y3 (T15 a b d e) = a := rfl
theorem t15_62 : y62 (T15 a b d e) = b := rfl
theorem t15_63 : y63 (T15 a b d e) = d := rfl
theorem t15_64 : y64 (T15 a b d e) = e := rfl
theorem t16_3 : y3 (T16 a b d e f) = a := rfl
theorem t16_7 : y7 (T16 a b d e f) = b := rfl
theorem t16_62 : y62 (T16 a b d e f) = d := rfl
theorem t16_63 : y63 (T16 a b d e f) = e := rfl
theorem t16_64 : y64 (T16 a b d e f) = f := rfl
theorem t17_3 : y3 (T17 a b d e f g j k) = a := rfl
theorem t17_7 : y7 (T17 a b d e f g j k) = b := rfl
theorem t17_62 : y62 (T17 a b d e f g j k) = d := rfl
theorem t17_63 : y63 (T17 a b d e f g j k) = e := rfl
theorem t17_64 : y64 (T17 a b d e f g j k) = f := rfl
theorem t17_78 : y78 (T17 a b d e f g j k) = g := rfl
theorem t17_79 : y79 (T17 a b d e f g j k) = j := rfl
theorem t17_80 : y80 (T17 a b d e f g j k) = k := rfl
theorem t19_1 : y1 (T19 a b) = a := rfl
theorem t19_5 : y5 (T19 a b) = b := rfl
theorem t20_1 : y1 (T20 a b d) = a := rfl
theorem vB : y5 (T20 a b d) = b := rfl
theorem t20_6 : y6 (T20 a b d) = d := rfl
theorem fU : y0 (T21 a b d) = a := rfl
theorem fV : y1 (T21 a b d) = b := rfl
theorem fW : y5 (T21 a b d) = d := rfl
theorem t22_0 : y0 (T22 a b d e) = a := rfl
theorem t22_1 : y1 (T22 a b d e) = b := rfl
theorem t22_5 : y5 (T22 a b d e) = d := rfl
theorem t22_6 : y6 (T22 a b d e) = e := rfl
theorem t23_0 : y0 (T23 a b d e f) = a := rfl
theorem t23_1 : y1 (T23 a b d e f) = b := rfl
theorem t23_5 : y5 (T23 a b d e f) = d := rfl
theorem t23_6 : y6 (T23 a b d e f) = e := rfl
theorem t23_7 : y7 (T23 a b d e f) = f := rfl
theorem t24_0 : y0 (T24 a b d e f g) = a := rfl
theorem t24_1 : y1 (T24 a b d e f g) = b := rfl
theorem t24_5 : y5 (T24 a b d e f g) = d := rfl
theorem t24_6 : y6 (T24 a b d e f g) = e := rfl
theorem t24_7 : y7 (T24 a b d e f g) = f := rfl
theorem t24_8 : y8 (T24 a b d e f g) = g := rfl
theorem vC : y0 (T25 a b d e f g j) = a := rfl
theorem vD : y1 (T25 a b d e f g j) = b := rfl
theorem vE : y5 (T25 a b d e f g j) = d := rfl
theorem vF : y6 (T25 a b d e f g j) = e := rfl
theorem vG : y7 (T25 a b d e f g j) = f := rfl
theorem vH : y8 (T25 a b d e f g j) = g := rfl
theorem vI : y9 (T25 a b d e f g j) = j := rfl
theorem t26_1 : y1 (T26 a) = a := rfl
theorem t27_1 : y1 (T27 a b d e) = a := rfl
theorem t27_38 : y38 (T27 a b d e) = b := rfl
theorem t27_39 : y39 (T27 a b d e) = d := rfl
theorem t27_40 : y40 (T27 a b d e) = e := rfl
theorem t29_58 : y58 (T29 a b d) = a := rfl
theorem t29_59 : y59 (T29 a b d) = b := rfl
theorem t29_60 : y60 (T29 a b d) = d := rfl
theorem t31_0 : y0 (T31 a b d) = a := rfl
theorem t31_1 : y1 (T31 a b d) = b := rfl
theorem t31_6 : y6 (T31 a b d) = d := rfl
theorem lP : y5 (T32 a b d) = a := rfl
theorem lQ : y6 (T32 a b d) = b := rfl
theorem lR : y7 (T32 a b d) = d := rfl
theorem t33_8 : y8 (T33 a b d) = a := rfl
theorem t33_9 : y9 (T33 a b d) = b := rfl
theorem t33_10 : y10 (T33 a b d) = d := rfl
theorem t35_3 : y3 (T35 a b d) = a := rfl
theorem t35_4 : y4 (T35 a b d) = b := rfl
theorem t35_5 : y5 (T35 a b d) = d := rfl
theorem gJ : y0 (T36 a b) = a := rfl
theorem gK : y1 (T36 a b) = b := rfl
theorem zy : y0 (T38 a b d e f) = a := rfl
theorem zz : y1 (T38 a b d e f) = b := rfl
theorem tp : y11 (T38 a b d e f) = d := rfl
theorem tq : y12 (T38 a b d e f) = e := rfl
theorem tr : y13 (T38 a b d e f) = f := rfl
theorem t39_0 : y0 (T39 a b) = a := rfl
theorem t39_9 : y9 (T39 a b) = b := rfl
theorem t41_0 : y0 (T41 a b d e) = a := rfl
theorem t41_2 : y2 (T41 a b d e) = b := rfl
theorem t41_4 : y4 (T41 a b d e) = d := rfl
theorem t41_5 : y5 (T41 a b d e) = e := rfl
theorem t42_0 : y0 (T42 a b d e f) = a := rfl
theorem t42_2 : y2 (T42 a b d e f) = b := rfl
theorem t42_4 : y4 (T42 a b d e f) = d := rfl
theorem t42_5 : y5 (T42 a b d e f) = e := rfl
theorem t42_6 : y6 (T42 a b d e f) = f := rfl
theorem t43_0 : y0 (T43 a b d e f) = a := rfl
theorem t43_2 : y2 (T43 a b d e f) = b := rfl
theorem t43_4 : y4 (T43 a b d e f) = d := rfl
theorem t43_5 : y5 (T43 a b d e f) = e := rfl
theorem t43_8 : y8 (T43 a b d e f) = f := rfl
theorem t45_2 : y2 (T45 a b) = a := rfl
theorem t45_5 : y5 (T45 a b) = b := rfl
theorem t47_0 : y0 (T47 a b) = a := rfl
theorem t47_6 : y6 (T47 a b) = b := rfl
theorem t48_0 : y0 (T48 a b d) = a := rfl
theorem t48_2 : y2 (T48 a b d) = b := rfl
theorem t48_3 : y3 (T48 a b d) = d := rfl
theorem t49_0 : y0 (T49 a b d e) = a := rfl
theorem t49_2 : y2 (T49 a b d e) = b := rfl
theorem t49_3 : y3 (T49 a b d e) = d := rfl
theorem t49_4 : y4 (T49 a b d e) = e := rfl
theorem t50_0 : y0 (T50 a b d e f) = a := rfl
theorem t50_1 : y1 (T50 a b d e f) = b := rfl
theorem t50_2 : y2 (T50 a b d e f) = d := rfl
theorem t50_3 : y3 (T50 a b d e f) = e := rfl
theorem t50_9 : y9 (T50 a b d e f) = f := rfl
theorem zA : y0 (T51 a b d e f g) = a := rfl
theorem zB : y1 (T51 a b d e f g) = b := rfl
theorem zC : y2 (T51 a b d e f g) = d := rfl
theorem zD : y3 (T51 a b d e f g) = e := rfl
theorem zE : y9 (T51 a b d e f g) = f := rfl
theorem tu : y10 (T51 a b d e f g) = g := rfl
theorem t52_0 : y0 (T52 a b d e) = a := rfl
theorem t52_2 : y2 (T52 a b d e) = b := rfl
theorem t52_3 : y3 (T52 a b d e) = d := rfl
theorem t52_9 : y9 (T52 a b d e) = e := rfl
theorem t53_0 : y0 (T53 a b) = a := rfl
theorem t53_11 : y11 (T53 a b) = b := rfl
theorem t55_3 : y3 (T55 a b d e f g j) = a := rfl
theorem t55_4 : y4 (T55 a b d e f g j) = b := rfl
theorem t55_5 : y5 (T55 a b d e f g j) = d := rfl
theorem t55_6 : y6 (T55 a b d e f g j) = e := rfl
theorem t55_7 : y7 (T55 a b d e f g j) = f := rfl
theorem t55_8 : y8 (T55 a b d e f g j) = g := rfl
theorem t55_9 : y9 (T55 a b d e f g j) = j := rfl
theorem t57_3 : y3 (T57 a b d e f g j) = a := rfl
theorem t57_4 : y4 (T57 a b d e f g j) = b := rfl
theorem t57_5 : y5 (T57 a b d e f g j) = d := rfl
theorem t57_6 : y6 (T57 a b d e f g j) = e := rfl
theorem t57_7 : y7 (T57 a b d e f g j) = f := rfl
theorem t57_8 : y8 (T57 a b d e f g j) = g := rfl
theorem t57_10 : y10 (T57 a b d e f g j) = j := rfl
theorem t58_0 : y0 (T58 a b d) = a := rfl
theorem t58_1 : y1 (T58 a b d) = b := rfl
theorem t58_2 : y2 (T58 a b d) = d := rfl
theorem t59_0 : y0 (T59 a b d) = a := rfl
theorem t59_2 : y2 (T59 a b d) = b := rfl
theorem t59_7 : y7 (T59 a b d) = d := rfl
theorem t60_5 : y5 (T60 a b) = a := rfl
theorem t60_6 : y6 (T60 a b) = b := rfl
end
end Go.Am.Seat
namespace Go.Am
noncomputable section
section
variable {h h' : Hp} {v x y : AV} {k : AV → Hp → RS} {q : P4} {o n m es el : Nat} {l : List AV}
theorem bR : Seat.tR (.ok v h) k = k v h := rfl
theorem aw {e : RV} (g : e = .ok v h') : Seat.tR e k = k v h' := by rw [g]; rfl
theorem al {e : RV} {k : AV → RS} (g : e = .ok v h') : Seat.tQ e k = k v := by rw [g]; rfl
theorem NN {e : RT} (g : e = .ok v h') : Seat.tX e k = k v h' := by rw [g]; rfl
theorem aF {c : Cf} {f : Nat} {l : List AV} (g : c f l h = .ok v h') : Seat.C c f l h k = k v h' := by
 show RT.elim k _ _ (c f l h) = _
 rw [g]; rfl
theorem an {d : Nat} : Seat.A d (.ptr q o) h k = k (.ptr q (o + d)) h := rfl
theorem cu : Seat.J (.ptr q o) h k = k (.ptr q o) h := rfl
theorem aD {a : AV} (g : Seat.lD a h = .ok v h') : Seat.L a h k = k v h' := by
 show (@RV.rec (fun _ => RS) k (fun n => .err n) (Seat.lD a h)) = _
 rw [g]
theorem fk {a : AV} (g : Seat.pk m a h = .ok v h') : Seat.M m a h k = k v h' := by
 show (@RV.rec (fun _ => RS) k (fun n => .err n) (Seat.pk m a h)) = _
 rw [g]
theorem cJ {a b : AV} (g : Seat.sT a b h = .ok v h') : Seat.W a b h k = k v h' := by
 show (@RV.rec (fun _ => RS) k (fun n => .err n) (Seat.sT a b h)) = _
 rw [g]
theorem fX {a b : AV} (g : Seat.Kj m a b h = .ok v h') : Seat.S m a b h k = k v h' := by
 show (@RV.rec (fun _ => RS) k (fun n => .err n) (Seat.Kj m a b h)) = _
 rw [g]
theorem jh {a : AV} (g : Seat.bx m a h = .ok v h') : Seat.B m a h k = k v h' := by
 show (@RV.rec (fun _ => RS) k (fun n => .err n) (Seat.bx m a h)) = _
 rw [g]
theorem iI {c : Cl} (g : Seat.Rq m n c h = .ok v h') : Seat.O m n c h k = k v h' := by
 show (@RV.rec (fun _ => RS) k (fun n => .err n) (Seat.Rq m n c h)) = _
 rw [g]
theorem mY {z : List AV} {ps : List Part} (g : Seat.bl z ps h = .ok v h') : Seat.U z ps h k = k v h' := by
 show (@RV.rec (fun _ => RS) k (fun n => .err n) (Seat.bl z ps h)) = _
 rw [g]
theorem vJ {a : AV} (g : Seat.ext m a h = .ok v h') : Seat.E m a h k = k v h' := by
 show (@RV.rec (fun _ => RS) k (fun n => .err n) (Seat.ext m a h)) = _
 rw [g]
theorem aR {a : AV} (g : Am.len a h = .ok v h') : Seat.G a h k = k v h' := by
 show (@RV.rec (fun _ => RS) k (fun n => .err n) (Am.len a h)) = _
 rw [g]
theorem cN {a b : AV} (g : Seat.iX m a b h = .ok v h') : Seat.X m a b h k = k v h' := by
 show (@RV.rec (fun _ => RS) k (fun n => .err n) (Seat.iX m a b h)) = _
 rw [g]
theorem ew {a b : RS} : Seat.I (.bool true) a b = a := rfl
theorem dP {a b : RS} : Seat.I (.bool false) a b = b := rfl
theorem bC {a b : RS} {c : Prop} [Decidable c] : Seat.I (.bool (decide c)) a b = if c then a else b := by
 by_cases hc : c
 ·rw [if_pos hc, decide_eq_true hc]; rfl
 ·rw [if_neg hc, decide_eq_false hc]; rfl
theorem RQ {a b : RS} {c : Bool} : Seat.I (.bool c) a b = if c = true then a else b := by cases c <;> rfl
theorem zF (k : IntKind) : nh k k = true := by cases k <;> rfl
theorem kQ {f : IntKind → Int → Int → AV} (k : IntKind) (a b : Int) : Aq f (.int k a) (.int k b) h = .ok (f k a b) h := by
 show (@Bool.rec (fun _ => RV) (.err 4) (.ok (f k a b) h) (nh k k)) = _
 rw [zF]
theorem lS (k : IntKind) (a b : Int) : pq (.int k a) (.int k b) h = .ok (.bool (decide (a < b))) h := (kQ k a b).trans (by rw [pM])
theorem gy (k : IntKind) (a b : Int) : cB (.int k a) (.int k b) h = .ok (.bool (decide (b < a))) h := (kQ k a b).trans (by rw [pM])
theorem RR (k : IntKind) (a b : Int) : FC (.int k a) (.int k b) h = .ok (.bool (decide (a ≤ b))) h := (kQ k a b).trans (by rw [wW])
theorem NO (k : IntKind) (a b : Int) : we (.int k a) (.int k b) h = .ok (.bool (decide (b ≤ a))) h := (kQ k a b).trans (by rw [wW])
theorem IY (k : IntKind) (a b : Int) : DH (.int k a) (.int k b) h = .ok (.bool (decide (a = b))) h := (kQ k a b).trans (by rw [il])
theorem Dc (k : IntKind) (a b : Int) : ig (.int k a) (.int k b) h = .ok (.bool (!decide (a = b))) h := (kQ k a b).trans (by rw [il])
theorem rF (k : IntKind) (a b : Int) : qu (.int k a) (.int k b) h = .ok (.int k (k.wrap (a + b))) h := (kQ k a b).trans (by rw [dC, rD])
theorem IZ (k : IntKind) (a b : Int) : kU (.int k a) (.int k b) h = .ok (.int k (k.wrap (a - b))) h := (kQ k a b).trans (by rw [dC, rD, wT, Int.sub_eq_add_neg])
theorem PQ (k : IntKind) (a b : Int) : uF (.int k a) (.int k b) h = .ok (.int k (k.wrap (a * b))) h := (kQ k a b).trans (by rw [dC, wV])
theorem eH (k k' : IntKind) (a : Int) : cK (.toInt k) (.int k' a) h = .ok (.int k (k.wrap a)) h := by
 show RV.ok (.int k (iR k a)) h = _
 rw [dC]
theorem dQ (b : Bool) : jz (.bool b) h = .ok (.bool (!b)) h := by cases b <;> rfl
theorem aV (k' : IntKind) (a b : Int) : Seat.Y (.int k' a) (.int k' b) h k = k (.bool (decide (a < b))) h := by
 show (@RV.rec (fun _ => RS) k (fun n => .err n) (pq _ _ _)) = _
 rw [lS]
theorem zG (k' : IntKind) (a b : Int) : Seat.Q (.int k' a) (.int k' b) h k = k (.bool (decide (a = b))) h := by
 show (@RV.rec (fun _ => RS) k (fun n => .err n) (DH _ _ _)) = _
 rw [IY]
theorem lh (k' : IntKind) (a b : Int) : Seat.D (.int k' a) (.int k' b) h k = k (.int k' (k'.wrap (a + b))) h := by
 show (@RV.rec (fun _ => RS) k (fun n => .err n) (qu _ _ _)) = _
 rw [rF]
theorem vK (k' : IntKind) (a b : Int) : Seat.Z (.int k' a) (.int k' b) h k = k (.int k' (k'.wrap (a - b))) h := by
 show (@RV.rec (fun _ => RS) k (fun n => .err n) (kU _ _ _)) = _
 rw [IZ]
theorem Dd (s : List Nat) : jA (.str s) h = .ok (.int .i64 (s.length : Int)) h := rfl
theorem Ja (s t : List Nat) : xO (.str s) (.str t) h = .ok (.bool (decide (s = t))) h := by
 show RV.ok (.bool (iU s t)) h = _
 rw [iq]
theorem PR (s t : List Nat) : xQ (.str s) (.str t) h = .ok (.bool (!decide (s = t))) h := by
 show RV.ok (.bool (Bool.not (iU s t))) h = _
 rw [iq]
theorem Jb (c : Cs h q o l) (j : Nat) (hj : j < l.length) : Seat.lD (.ptr q (o + j)) h = .ok l[j] h := by
 obtain ⟨el, n, ex, fl, c, e, r1, r2⟩ := c
 show (Obj.bp (ah q h) (fun _ n _ _ c => @Bool.rec (fun _ => RV) (.err 13) (.ok (eP (o + j) c) h) (FW (o + j) n)) (.err 14) : RV) = _
 rw [e]
 show (@Bool.rec (fun _ => RV) (.err 13) (.ok (eP (o + j) c) h) (Nat.ble (Nat.succ (o + j)) n)) = _
 rw [Nat.ble_eq_true_of_le (by omega), r2 j hj]
theorem Bt (c : Cs h q o l) (hj : 0 < l.length) : Seat.lD (.ptr q o) h = .ok l[0] h := Jb c 0 hj
theorem tv {c : Cl} : ∀ {l : List AV} {o : Nat}, (∀ k (hk : k < l.length), eP (o + k) c = l[k]) → bP l.length c o = l
 | [], _, _ => rfl
 | a :: l, o, g => by
  have h0 := g 0 (by simp)
  have : bP l.length c (o + 1) = l := tv fun k hk => by
   have := g (k + 1) (by simp; omega)
   rw [show o + 1 + k = o + (k + 1) by omega, this]; rfl
  show eP o c :: bP l.length c (o + 1) = a :: l
  rw [this]
  simp at h0
  rw [h0]
theorem bD (c : Cs h q o l) (hm : l.length = m) : Seat.pk m (.ptr q o) h = .ok (.agg l) h := by
 obtain ⟨el, n, ex, fl, c, e, r1, r2⟩ := c
 show (Obj.bp (ah q h) (fun _ n _ _ c => @Bool.rec (fun _ => RV) (.err 16) (.ok (.agg (bP m c o)) h) (Nat.ble (Nat.add o m) n)) (.err 17) : RV) = _
 rw [e]
 show (@Bool.rec (fun _ => RV) (.err 16) (.ok (.agg (bP m c o)) h) (Nat.ble (o + m) n)) = _
 rw [Nat.ble_eq_true_of_le (by omega), ← hm, tv r2]
def vL (x : AV) (es n : Nat) (q : P4) (o : Nat) : Prop := (∃ cap, x = .slice q o n cap) ∨ x = .ft q o n es ∨ (x = .ai ∧ n = 0)
theorem fg (s : vL x es n q o) : Am.len x h = .ok (.int .i64 (n : Int)) h := by
 rcases s with ⟨cap, rfl⟩ | rfl | ⟨rfl, rfl⟩ <;> rfl
theorem bS (s : vL x es n q o) {i : Nat} (hi : i < n) : Seat.iX es x (.int .i64 (i : Int)) h = .ok (.ptr q (o + i * es)) h := by
 rcases s with ⟨cap, rfl⟩ | rfl | ⟨rfl, rfl⟩
 ·show (@Bool.rec (fun _ => RV) (.err 54) (.ok (.ptr q (o + i * es)) h) (Nat.ble (Nat.succ i) n)) = _
  rw [Nat.ble_eq_true_of_le hi]
 ·show (@Bool.rec (fun _ => RV) (.err 54) (.ok (.ptr q (o + i * es)) h) (Nat.ble (Nat.succ i) n)) = _
  rw [Nat.ble_eq_true_of_le hi]
 ·omega
theorem tw (s : vL x es n q o) (hes : 0 < es) (c : n ≠ 0 → Cs h q o l) (hl : l.length = n * es) (k : List AV → RV) (e : RV) : elems es x h k e = k l := by
 have key : iV es q o n h k e = k l := by
  cases n with
  | zero =>
   have : l = [] := List.length_eq_zero_iff.1 (by rw [hl, Nat.zero_mul])
   rw [this]; rfl
  | succ n =>
   obtain ⟨el, m, ex, fl, cl, g, r1, r2⟩ := c (by omega)
   show (Obj.bp (ah q h) (fun _ m _ _ c => @Bool.rec (fun _ => RV) e (k (bP (Nat.mul (Nat.succ n) es) c o)) (Nat.ble (Nat.add o (Nat.mul (Nat.succ n) es)) m)) e : RV) = _
   rw [g]
   show (@Bool.rec (fun _ => RV) e (k (bP ((n + 1) * es) cl o)) (Nat.ble (o + (n + 1) * es) m)) = _
   rw [Nat.ble_eq_true_of_le (by omega), ← hl, tv r2]
 rcases s with ⟨cap, rfl⟩ | rfl | ⟨rfl, rfl⟩
 ·exact key
 ·show (@Bool.rec (fun _ => RV) e (iV es q o n h k e) (Nat.beq es es)) = _
  rw [Nat.beq_refl]; exact key
 ·have : l = [] := List.length_eq_zero_iff.1 (by rw [hl, Nat.zero_mul])
  rw [this]; rfl
def dh (h : Hp) (x : AV) (el es : Nat) (l : List AV) (b : P4 → Prop) : Prop := (l = [] ∧ (x = .ai ∨ ∃ q, x = .slice q 0 0 0)) ∨ ∃ q n, x = .ft q 0 n es ∧ l.length = n * es ∧ Ob h q el false .plain l ∧ b q
theorem dh.sl {b : P4 → Prop} (w : dh h x el es l b) (hes : 0 < es) : ∃ q n, vL x es n q 0 ∧ l.length = n * es ∧ (n ≠ 0 → Cs h q 0 l) := by
 rcases w with ⟨rfl, rfl | ⟨q, rfl⟩⟩ | ⟨q, n, rfl, hl, ob, _⟩
 ·exact ⟨.eL 0 0, 0, .inr (.inr ⟨rfl, rfl⟩), by simp, fun h => absurd rfl h⟩
 ·exact ⟨q, 0, .inl ⟨0, rfl⟩, by simp, fun h => absurd rfl h⟩
 ·exact ⟨q, n, .inr (.inl rfl), hl, fun _ => ob.cs (k := 0) (fun j hj => ⟨by omega, by simp⟩) (by omega)⟩
theorem Ob.NP (W : Wf h) {ex : Bool} {fl : Fl} {c : Cl} (hn : Gd c ∧ l.length ≤ bM c) (hg : ∀ k (hk : k < l.length), eP k c = l[k]) : Ob (yO h (.cells el l.length ex fl c)) h.next el ex fl l :=
 ⟨c, by rw [jQ, if_pos rfl], hn, hg⟩
theorem fJ (W : Wf h) {b : P4 → Prop} (w : dh h x el es l b) (hes : 0 < es) {new : List AV} (hnew' : new.length = m * es) (hsz : l.length + new.length ≤ 16777216) :
  ∃ x' h', mD el es m new x h = .ok x' h' ∧ dh h' x' el es (l ++ new) (fun q => b q ∨ ah q h = .none) ∧ Wf h' ∧ ∀ q, ah q h ≠ .none → ¬ b q → ah q h' = ah q h := by
 have hnl : new = [] → l ++ new = l := by rintro rfl; simp
 rcases w with ⟨rfl, hx⟩ | ⟨q, n, rfl, hl, ob, hb⟩
 ·cases m with
  | zero =>
   have : new = [] := List.length_eq_zero_iff.1 (by rw [hnew', Nat.zero_mul])
   subst this
   refine ⟨x, h, ?_, .inl ⟨rfl, hx⟩, W, fun _ _ _ => rfl⟩
   rcases hx with rfl | ⟨q, rfl⟩ <;> rfl
  | succ m =>
   have e : mD el es (m + 1) new x h = ij el false .plain new.length (ng new) h (fun i h => .ok (.ft i 0 (m + 1) es) h) := by
    have g : pw el es 0 (m + 1) .nil new h = ij el false .plain new.length (ng new) h (fun i h => .ok (.ft i 0 (m + 1) es) h) := by
     unfold pw ma
     rw [show Nat.add 0 (m + 1) = m + 1 from Nat.zero_add _]
     rfl
    rcases hx with rfl | ⟨q, rfl⟩
    ·exact g
    ·have e2 : mD el es (m + 1) new (.slice q 0 0 0) h = (@Bool.rec (fun _ => RV) (pw el es 0 (m + 1) .nil new h) (jZ q (Nat.add 0 (Nat.mul 0 es)) new h (fun h => .ok (.slice q 0 (Nat.add 0 (Nat.succ m)) 0) h)) (Nat.ble (0 + (m + 1)) 0)) := rfl
     have : Nat.ble (0 + (m + 1)) 0 = false := by rw [Nat.zero_add]; rfl
     rw [e2, this]
     exact g
   rw [e, xe W (by rw [(Gd.of new (by simpa using hsz)).1.max]; exact (Gd.of new (by simpa using hsz)).2)]
   refine ⟨_, _, rfl, .inr ⟨h.next, m + 1, rfl, by simpa using hnew', ?_, .inr W.fresh⟩, W.yO _, fun q hq _ => Old.yO W _ q hq⟩
   exact Ob.NP W (Gd.of new (by simpa using hsz)) (fun k hk => jR new (by simpa using hsz) k hk)
 ·cases m with
  | zero =>
   have : new = [] := List.length_eq_zero_iff.1 (by rw [hnew', Nat.zero_mul])
   subst this
   refine ⟨.ft q 0 n es, h, ?_, .inr ⟨q, n, rfl, by simpa using hl, by simpa using ob, .inl hb⟩, W, fun _ _ _ => rfl⟩
   show (@Bool.rec (fun _ => RV) (.err 81) (.ok (.ft q 0 n es) h) (Nat.beq es es)) = _
   rw [Nat.beq_refl]
  | succ m =>
   obtain ⟨c, e1, e2, e3⟩ := ob
   have hne : ah q h ≠ .none := by rw [e1]; simp
   have hsum : (n + (m + 1)) * es = l.length + new.length := by rw [Nat.add_mul, ← hl, ← hnew']
   have hpos : 0 < new.length := by rw [hnew']; exact Nat.mul_pos (by omega) hes
   have W2 : Wf (dY q .dead h) := W.dY hne
   have hnx : (dY q .dead h).next = h.next := rfl
   have hcf : Gd (cH new l.length (jV ((n + (m + 1)) * es) c)) ∧ l.length + new.length ≤ bM (cH new l.length (jV ((n + (m + 1)) * es) c)) := by
    rw [fj, hsum]
    obtain ⟨a1, a2⟩ := e2.1.fit (l.length + new.length) hsz
    exact ⟨a1.cH _ _, a2⟩
   have e : mD el es (m + 1) new (.ft q 0 n es) h = ij el false .plain (l ++ new).length (cH new l.length (jV ((n + (m + 1)) * es) c)) (dY q .dead h) (fun j h => .ok (.ft j 0 (n + (m + 1)) es) h) := by
    show (@Bool.rec (fun _ => RV) (.err 81) (Gk el es (m + 1) new q 0 n h) (Nat.beq es es)) = _
    rw [Nat.beq_refl]
    show (Obj.bp (ah q h) _ (.err 84) : RV) = _
    rw [e1]
    show (@Bool.rec (fun _ => RV) (@Bool.rec (fun _ => RV) (.err 83) (@Bool.rec (fun _ => RV) (@Bool.rec (fun _ => RV) (mN q el ((n + (m + 1)) * es) .plain (ng (List.append (bP (n * es) c 0) new)) (n + (m + 1)) es h)
     (mN q el ((n + (m + 1)) * es) .plain (cH new l.length (jV ((n + (m + 1)) * es) c)) (n + (m + 1)) es h) (Bool.and (Nat.beq 0 0) (Nat.beq (n * es) l.length))) (.err 81) (Bool.or false (Bool.not (Nat.beq el el)))) (Nat.ble (0 + n * es) l.length)) _ (Nat.ble (0 + (n + (m + 1)) * es) l.length)) = _
    have b1 : Nat.ble (0 + (n + (m + 1)) * es) l.length = false := by
     rw [← Bool.not_eq_true]
     intro g
     have := Nat.le_of_ble_eq_true g
     omega
    have b2 : Nat.ble (0 + n * es) l.length = true := Nat.ble_eq_true_of_le (by omega)
    have b3 : Nat.beq (n * es) l.length = true := by rw [hl]; exact Nat.beq_refl _
    have b4 : Nat.beq el el = true := Nat.beq_refl _
    rw [b1, b2, b3, b4]
    show mN q el ((n + (m + 1)) * es) .plain _ (n + (m + 1)) es h = _
    unfold mN
    rw [List.length_append, hsum]
   rw [e, xe W2 (by rw [hcf.1.max, List.length_append]; exact hcf.2)]
   refine ⟨_, _, rfl, .inr ⟨h.next, n + (m + 1), rfl, by rw [List.length_append, hsum], ?_, .inr W.fresh⟩, W2.yO _, fun j hj hbj => ?_⟩
   ·refine Ob.NP W2 ⟨hcf.1, by rw [List.length_append]; exact hcf.2⟩ (fun k hk => ?_)
    rw [hsum]
    refine zp l new ?_ e2.2 e3 k hk
    rw [hsum] at hcf
    exact hcf.2
   ·rw [jQ, hnx, if_neg (fun g => by rw [g] at hj; exact hj W.fresh), aN, if_neg (fun g => by rw [g] at hbj; exact hbj hb)]
end
end
noncomputable section
section
variable {h h' : Hp} {v x y : AV} {q : P4} {o n m es el k : Nat} {l l' : List AV} {ex : Bool}
theorem cP (b : Ob h q el ex .plain l) (hk : k < l.length) (hv : v.one = true) : ∃ h', Seat.sT (.ptr q k) v h = .ok .undef h' ∧ Ob h' q el ex .plain (l.set k v) ∧ (∀ j, j ≠ q → ah j h' = ah j h) ∧ h'.next = h.next := by
 obtain ⟨c, e1, e2, e3⟩ := b
 refine ⟨dY q (.cells el l.length ex .plain (lu k v c)) h, ?_, ⟨lu k v c, by rw [aN, if_pos rfl, List.length_set], ⟨e2.1.lu _ _, by rw [iC, List.length_set]; exact e2.2⟩, fun j hj => ?_⟩, fun j hj => by rw [aN, if_neg hj], rfl⟩
 ·show (Obj.bp (ah q h) _ (.err 21) : RV) = _
  rw [e1]
  show (@Bool.rec (fun _ => RV) (.err 20) (.ok .undef (dY q (.cells el l.length ex .plain (lu k v c)) h)) (Bool.and (Nat.ble (k + 1) l.length) v.one)) = _
  rw [Nat.ble_eq_true_of_le hk, hv]
  rfl
 ·have hj' : j < l.length := by simpa using hj
  rw [pL c (by have := e2.2; omega) (by have := e2.2; omega), List.getElem_set]
  by_cases h1 : j = k
  ·rw [if_pos h1, if_pos h1.symm]
  ·rw [if_neg h1, if_neg (fun g => h1 g.symm)]
   exact e3 j hj'
theorem ef (b : Ob h q el ex .plain l) (hm : l'.length = m) (hk : k + m ≤ l.length) : ∃ h', Seat.Kj m (.ptr q k) (.agg l') h = .ok .undef h' ∧ Ob h' q el ex .plain (l.take k ++ (l' ++ l.drop (k + m))) ∧ (∀ j, j ≠ q → ah j h' = ah j h) ∧ h'.next = h.next := by
 obtain ⟨c, e1, e2, e3⟩ := b
 have hlen : (l.take k ++ (l' ++ l.drop (k + m))).length = l.length := by simp; omega
 refine ⟨dY q (.cells el l.length ex .plain (cH l' k c)) h, ?_, ⟨cH l' k c, by rw [aN, if_pos rfl, hlen], ⟨e2.1.cH _ _, by rw [fj, hlen]; exact e2.2⟩, fun j hj => ?_⟩, fun j hj => by rw [aN, if_neg hj], rfl⟩
 ·show (Obj.bp (ah q h) _ (.err 27) : RV) = _
  rw [e1]
  show (@Bool.rec (fun _ => RV) (.err 24) (@Bool.rec (fun _ => RV) (.err 25) (.ok .undef (dY q (.cells el l.length ex .plain (cH l' k c)) h)) (Nat.beq l'.length m)) (Nat.ble (Nat.add k m) l.length)) = _
  rw [Nat.ble_eq_true_of_le (show Nat.add k m ≤ l.length from hk), hm, Nat.beq_refl]
 ·have hj' : j < l.length := by rw [hlen] at hj; exact hj
  have hr := e2.2
  rw [kK l' k c j (by omega) (by omega)]
  by_cases h1 : j < k
  ·rw [dif_neg (by omega), List.getElem_append_left (by simp; omega), List.getElem_take, e3 j hj']
  ·by_cases h2 : j < k + m
   ·rw [dif_pos (by omega), List.getElem_append_right (by simp; omega), List.getElem_append_left (by simp; omega)]
    congr 1
    simp; omega
   ·rw [dif_neg (by omega), List.getElem_append_right (by simp; omega), List.getElem_append_right (by simp; omega), List.getElem_drop, e3 j hj']
    congr 1
    simp; omega
theorem fK (W : Wf h) {c : Cl} (g : Gd c) (hn : n ≤ bM c) : ∃ q h', Seat.Rq el n c h = .ok (.ptr q 0) h' ∧ ah q h = .none ∧ Ob h' q el true .plain (bP n c 0) ∧ Old h h' ∧ Wf h' ∧ ∀ j, j ≠ q → ah j h' = ah j h := by
 have hl : (bP n c 0).length = n := aW n c 0
 have e : Seat.Rq el n c h = ij el true .plain (bP n c 0).length c h um := by rw [hl]; rfl
 obtain ⟨q, h', e1, e2, e3, e4, e5, e6⟩ := tx (el := el) (ex := true) (fl := .plain) W (bP n c 0) (c := c) ⟨g, by rw [hl]; exact hn⟩ (fun k hk => by rw [mT, Nat.zero_add]) um
 exact ⟨q, h', by rw [e, e1]; rfl, e2, e3, e4, e5, e6⟩
theorem lj (W : Wf h) (hl : l.length ≤ 16777216) : ∃ q h', Seat.bx el (.agg l) h = .ok (.ptr q 0) h' ∧ ah q h = .none ∧ Ob h' q el true .plain l ∧ Old h h' ∧ Wf h' ∧ ∀ j, j ≠ q → ah j h' = ah j h := by
 have e : Seat.bx el (.agg l) h = ij el true .plain l.length (ng l) h um := rfl
 obtain ⟨q, h', e1, r⟩ := tx (el := el) (ex := true) (fl := .plain) W l (c := ng l) (Gd.of l hl) (fun k hk => jR l hl k hk) um
 exact ⟨q, h', by rw [e, e1]; rfl, r⟩
theorem fm (W : Wf h) {z : List AV} {ps : List Part} (hf : fits ps .nil = true) (hl : fill ps .nil z = l) (hn : l.length ≤ 16777216) : ∃ q h', Seat.bs el es n z ps h = .ok (.slice q 0 n n) h' ∧ ah q h = .none ∧ Ob h' q el true .plain l ∧ Old h h' ∧ Wf h' ∧ ∀ j, j ≠ q → ah j h' = ah j h := by
 have e : Seat.bs el es n z ps h = ij el true .plain l.length (ng l) h (fun i h => .ok (.slice i 0 n n) h) := by
  show (@Bool.rec (fun _ => RV) (.err 133) (Cm el n (fill ps .nil z) h) (fits ps .nil)) = _
  rw [hf, hl]; rfl
 obtain ⟨q, h', e1, r⟩ := tx (el := el) (ex := true) (fl := .plain) W l (c := ng l) (Gd.of l hn) (fun k hk => jR l hn k hk) (fun i h => .ok (.slice i 0 n n) h)
 exact ⟨q, h', by rw [e, e1], r⟩
theorem dB (s : vL y es m q o) (hes : 0 < es) (c : m ≠ 0 → Cs h q o l) (hl : l.length = m * es) (hm : m * es ≤ 4294967296) : df el es x y h = mD el es m l x h := by
 have key : (@Bool.rec (fun _ => RV) (.err 86) (elems es y h (fun new => mD el es m new x h) (.err 87)) (Nat.ble (Nat.mul m es) 4294967296)) = mD el es m l x h := by
  rw [Nat.ble_eq_true_of_le (show Nat.mul m es ≤ 4294967296 from hm)]
  exact tw s hes c hl _ _
 rcases s with ⟨cap, rfl⟩ | rfl | ⟨rfl, rfl⟩ <;> exact key
theorem oQ (s : List Nat) : byteCells s = s.map fun b : Nat => AV.int .u8 (b : Int) := by
 induction s with
 | nil => rfl
 | cons b s ih => exact congrArg (AV.int .u8 (b : Int) :: ·) ih
theorem De (s : List Nat) : jj el (.c x) (.c (.str s)) .nil h = mD el 1 s.length (s.map fun b : Nat => AV.int .u8 (b : Int)) x h := by
 show mD el 1 s.length (byteCells s) x h = _
 rw [oQ]
theorem dh.mono {b b' : P4 → Prop} (w : dh h x el es l b) (g : ∀ q, b q → b' q) : dh h x el es l b' := by
 rcases w with w | ⟨q, n, e1, e2, e3, e4⟩
 ·exact .inl w
 ·exact .inr ⟨q, n, e1, e2, e3, g q e4⟩
theorem dh.old {b : P4 → Prop} (w : dh h x el es l b) (O : ∀ q, b q → ah q h ≠ .none → ah q h' = ah q h) : dh h' x el es l b := by
 rcases w with w | ⟨q, n, e1, e2, e3, e4⟩
 ·exact .inl w
 ·exact .inr ⟨q, n, e1, e2, e3.eq (O q e4 e3.ne), e4⟩
theorem Old.none {h0 : Hp} (O : Old h0 h) (hq : ah q h = .none) : ah q h0 = .none := by
 cases g : ah q h0 with
 | none => rfl
 | _ =>
  have := O q (by rw [g]; simp)
  rw [hq, g] at this
  cases this
theorem Wf.of (W : Wf h) (hn : h'.next = h.next) (g : ∀ j, ah j h = .none → ah j h' = .none) : Wf h' := by
 obtain ⟨N, e, f⟩ := W
 exact ⟨N, by rw [hn, e], fun m hm => g _ (f m hm)⟩
end
end
noncomputable section
def Km (f : Nat → Nat → Obj) (g : Nat → Obj) (n : Nat) : T4 := Nat.rec (.mk .nil f) (fun j t => dy (P4.of j) (g j) t) n
theorem mZ (f : Nat → Nat → Obj) (g : Nat → Obj) (b o : Nat) : ∀ n, cL (.eL b o) (Km f g n) = f b o
 | 0 => rfl
 | n + 1 => by
  have e : cL (.eL b o) (Km f g (n + 1)) = if P4.eL b o = P4.of n then g n else cL (.eL b o) (Km f g n) := dq (.eL b o) (P4.of n) (g n) (Km f g n)
  rw [e, if_neg (by intro e; cases e), mZ f g b o n]
theorem vM (f : Nat → Nat → Obj) (g : Nat → Obj) (a b c d : H) : ∀ n, n ≤ 65536 → cL (.mk a b c d) (Km f g n) = if nW (.mk a b c d) < n then g (nW (.mk a b c d)) else .none
 | 0, _ => by
  rw [if_neg (by omega)]
  show O1.get d (O2.get c (O3.get b (O4.get a .nil))) = _
  rw [O4.get_nil, O3.get_nil, O2.get_nil, O1.get_nil]
 | m + 1, hm => by
  have e : cL (.mk a b c d) (Km f g (m + 1)) = if P4.mk a b c d = P4.of m then g m else cL (.mk a b c d) (Km f g m) := dq (.mk a b c d) (P4.of m) (g m) (Km f g m)
  rw [e, vM f g a b c d m (by omega)]
  by_cases h : P4.mk a b c d = P4.of m
  ·rw [if_pos h, h, xf (by omega), if_pos (by omega)]
  ·rw [if_neg h]
   have h1 : nW (.mk a b c d) ≠ m := fun e => h (by rw [← e, Bu])
   by_cases h2 : nW (.mk a b c d) < m
   ·rw [if_pos h2, if_pos (by omega)]
   ·rw [if_neg h2, if_neg (by omega)]
theorem PS (a b c d : H) : nW (.mk a b c d) < 65536 := by
 have ha := a.fD
 have hb := b.fD
 have hc := c.fD
 have hd := d.fD
 show a.nat * 4096 + b.nat * 256 + c.nat * 16 + d.nat < 65536
 omega
theorem Df (g : P4 → Obj) : ∃ h : Hp, ∀ q, ah q h = g q := by
 obtain ⟨n, hn⟩ : ∃ n, n = 65536 := ⟨_, rfl⟩
 refine ⟨.mk (Km (fun b o => g (.eL b o)) (fun j => g (P4.of j)) n) (.eL 0 0), fun q => ?_⟩
 cases q with
 | eL b o => exact mZ _ _ b o n
 | mk a b c d =>
  have e : ah (.mk a b c d) (.mk (Km (fun b o => g (.eL b o)) (fun j => g (P4.of j)) n) (.eL 0 0)) = _ := vM (fun b o => g (.eL b o)) (fun j => g (P4.of j)) a b c d n (by omega)
  rw [e, if_pos (by rw [hn]; exact PS a b c d), Bu]
variable {p : Pg} {h h' h1 : Hp} {r r' : A2} {v x y : AV} {q : P4} {o n m es el : Nat} {l : List AV} {s : RS} {k : AV → Hp → RS}
theorem zH {f : (AV → Hp → RS) → RS} : Seat.gD (.bool true) true f h k = f k := rfl
theorem LV {f : (AV → Hp → RS) → RS} : Seat.gD (.bool false) false f h k = f k := rfl
theorem vN {f : (AV → Hp → RS) → RS} : Seat.gD (.bool false) true f h k = k cM h := rfl
theorem Dg {f : (AV → Hp → RS) → RS} : Seat.gD (.bool true) false f h k = k cM h := rfl
theorem pV {a b : AV} : dX (.c (.bool true)) (.c a) (.c b) .nil h = .ok a h := rfl
theorem tz {a b : AV} : dX (.c (.bool false)) (.c a) (.c b) .nil h = .ok b h := rfl
theorem LW (s : List Nat) (n : Nat) (hn : n ≤ s.length) : fw (.c (.str s)) .none (.some (.c (Seat.pi n))) .nil h = .ok (.str (s.take n)) h := by
 show (@Bool.rec (fun _ => RV) (.err 49) (@Bool.rec (fun _ => RV) (.err 49) (.ok (.str (List.take (Nat.sub n 0) (List.drop 0 s))) h) (Nat.ble n s.length)) (Nat.ble 0 n)) = _
 rw [Nat.ble_eq_true_of_le hn, Nat.ble_eq_true_of_le (Nat.zero_le n)]
 rfl
theorem vO (W : Wf h) (sl : vL x es n q o) {i : Nat} (hi : i < n) (c : Cs h q (o + i * es) l) (hl : l.length = es) {c0 : Cl} (hc : Gd c0) (hr : es ≤ bM c0) :
  ∃ j h', (∀ K : AV → Hp → RS, Seat.X es x (.int .i64 (i : Int)) h (fun g h => Seat.M es g h fun k h => Seat.O el es c0 h fun l h => Seat.S es l k h fun _ h => K l h) = K (.ptr j 0) h') ∧ ah j h = .none ∧ Ob h' j el true .plain l ∧ Old h h' ∧ Wf h' ∧ ∀ k, k ≠ j → ah k h' = ah k h := by
 obtain ⟨j, h1, e1, e2, e3, e4, e5, e6⟩ := fK (el := el) W hc hr
 have hg : (bP es c0 0).length = es := aW es c0 0
 obtain ⟨h2, f1, f2, f3, f4⟩ := ef (k := 0) (m := es) (l' := l) e3 hl (by omega)
 refine ⟨j, h2, fun K => ?_, e2, ?_, fun k hk => ?_, e5.of f4 fun k hk => ?_, fun k hk => ?_⟩
 ·rw [cN (bS sl hi), fk (bD c hl), iI e1, fX f1]
 ·have : (bP es c0 0).take 0 ++ (l ++ (bP es c0 0).drop (0 + es)) = l := by
   rw [List.drop_of_length_le (by omega)]; simp
  rw [this] at f2; exact f2
 ·have : k ≠ j := fun g => by rw [g] at hk; exact hk e2
  rw [f3 k this, e4 k hk]
 ·by_cases g : k = j
  ·rw [g] at hk; exact absurd hk e3.ne
  ·rw [f3 k g]; exact hk
 ·rw [f3 k hk, e6 k hk]
def Os (p : Pg) (l : List GI) (r : A2) (h : Hp) (s : RS) : Prop := Ev fun m => fe p (exec p m) l r h = s
theorem Rn.ops {l : List GI} (e : Os p l r h s) : Rn p (.ops l) r h s := Ev.succ e
theorem Os.nil : Os p [] r h (.nm r h) := .all fun _ => rfl
variable {gs : List GI} {d : bX} {aop : nV} {f : Nat} {xs : List AO} {a b : H} {w : Bool} {i : AI}
theorem Os.step (e : aop.run r h = .ok v h') (g : Os p gs (dg d v r) h' s) : Os p (.o d (.op aop) :: gs) r h s := g.mono fun m g => by
 show Cq d (fe p (exec p m) gs) r (aop.run r h) = s
 rw [e]; exact g
theorem Os.call (e : Cv p f (fR xs r) h v h') (g : Os p gs (dg d v r) h' s) : Os p (.o d (.call f xs) :: gs) r h s := e.EO g fun m e g => by
 show stepT d (fe p (exec p m) gs) r (aB p (exec p m) f (fR xs r) h) = s
 rw [e]; exact g
theorem Os.on (hb : aC a b r = .bool w) (g : Os p (.o d i :: gs) r h s) : Os p (.g a b w d i :: gs) r h s := g.mono fun m g => by
 show AV.bN (gb w (aC a b r)) (jm d (fe p (exec p m) gs) r h i p (exec p m) w) (.err 210) = s
 rw [hb, ← g]
 cases w <;> rfl
theorem Os.off (hb : aC a b r = .bool (!w)) (g : Os p gs (dg d cM r) h s) : Os p (.g a b w d i :: gs) r h s := g.mono fun m g => by
 show AV.bN (gb w (aC a b r)) (jm d (fe p (exec p m) gs) r h i p (exec p m) w) (.err 210) = s
 rw [hb, ← g]
 cases w <;> rfl
end
noncomputable section
variable {p : Pg} {h h' : Hp} {r r' : A2} {s : RS} {body x : AC}
theorem Rn.to {k : Cf → Iv → (A2 → Hp → RS) → A2 → Hp → RS} (e : Ev fun m => ∀ K : A2 → Hp → RS, k (aB p (exec p m)) (aH p (exec p m)) K r h = K r' h') (g : Rn p x r' h' s) : Rn p (.ag k x) r h s :=
 .ag (e.EO g fun _ e g => (e _).trans g)
theorem Rn.di {k : Cf → Iv → (A2 → Hp → RS) → A2 → Hp → RS} (e : ∀ c i (K : A2 → Hp → RS), k c i K r h = K r' h') (g : Rn p x r' h' s) : Rn p (.ag k x) r h s := .to (.all fun _ K => e _ _ K) g
theorem Rn.aJ {k : Cf → Iv → (A2 → Hp → RS) → A2 → Hp → RS} (e : ∀ c i (K : A2 → Hp → RS), k c i K r h = s) : Rn p (.ag k x) r h s := .ag (.all fun _ => e _ _ _)
theorem eo (n : Nat) {Inv : Nat → A2 → Hp → Prop} {S : RS → Prop} (step : ∀ i r h, i < n → Inv i r h → (∃ r' h', Rn p body r h (.nm r' h') ∧ Inv (i + 1) r' h') ∨ ∃ s, S s ∧ Rn p (.loop body) r h s)
  (fin : ∀ r h, Inv n r h → ∃ s, S s ∧ Rn p (.loop body) r h s) : ∀ k i r h, i + k = n → Inv i r h → ∃ s, S s ∧ Rn p (.loop body) r h s
 | 0, i, r, h, e, I => by
  rw [show i = n by omega] at I
  exact fin r h I
 | k + 1, i, r, h, e, I => by
  rcases step i r h (by omega) I with ⟨r', h', g, I⟩ | g
  ·obtain ⟨s, hs, g'⟩ := eo n step fin k (i + 1) r' h' (by omega) I
   exact ⟨s, hs, .loop g g'⟩
  ·exact g
theorem zI (n : Nat) {Inv : Nat → A2 → Hp → Prop} {l : Nat} (step : ∀ i r h, i < n → Inv i r h → ∃ r' h', Rn p body r h (.nm r' h') ∧ Inv (i + 1) r' h')
  (fin : ∀ r h, Inv n r h → Rn p body r h (.ex l r h)) (I : Inv 0 r h) : ∃ r' h', Inv n r' h' ∧ Rn p (.loop body) r h (.ex l r' h') := by
 obtain ⟨s, ⟨r', h', e, I⟩, g⟩ := eo (p := p) (body := body) n (Inv := Inv) (S := fun s => ∃ r' h', s = .ex l r' h' ∧ Inv n r' h') (fun i r h hi I => .inl (step i r h hi I)) (fun r h I => ⟨_, ⟨r, h, rfl, I⟩, .cW (fin r h I)⟩) n 0 r h (by omega) I
 exact ⟨r', h', I, e ▸ g⟩
theorem gU (n : Nat) {Inv : Nat → A2 → Hp → Prop} {l : Nat} {Re : A2} (step : ∀ i r h, i < n → Inv i r h → ∃ r' h', Rn p body r h (.nm r' h') ∧ Inv (i + 1) r' h')
  (fin : ∀ r h, Inv n r h → Rn p body r h (.ex l Re h)) (I : Inv 0 r h) : ∃ r' h', Inv n r' h' ∧ Rn p (.loop body) r h (.ex l Re h') := by
 obtain ⟨s, ⟨r', h', e, I⟩, g⟩ := eo (p := p) (body := body) n (Inv := Inv) (S := fun s => ∃ r' h', s = .ex l Re h' ∧ Inv n r' h') (fun i r h hi I => .inl (step i r h hi I)) (fun r h I => ⟨_, ⟨r, h, rfl, I⟩, .cW (fin r h I)⟩) n 0 r h (by omega) I
 exact ⟨r', h', I, e ▸ g⟩
end
noncomputable section
variable {p : Pg} {h h' h1 h1' h2 h2' g g' : Hp} {r r' : A2} {s : RS} {v v' x : AV} {hs : List Hp}
def Ds (p : Pg) (l : List DI) (r : A2) (h g : Hp) (hs : List Hp) (s : RS) : Prop := Ev fun m => dK p (exec p m) l r h g hs = s
theorem Rn.nT {l : List DI} (e : Ds p l r h h [] s) : Rn p (.nT l) r h s := Ev.succ e
theorem Ds.nil : Ds p [] r h g hs (.nm r h) := .all fun _ => rfl
variable {l : List DI} {d : bX} {aop : nV} {f : Nat} {xs : List AO} {a b : H} {w : Bool} {i : AI} {bk : Bk}
theorem xh : ∀ hs : List Hp, fy aop r v hs 0 = true
 | [] => rfl
 | _ :: _ => rfl
theorem Ds.dk (e : aop.run r g = .ok v g') (k : Ds p l (dg d v r) h g hs s) : Ds p (.mk (.rd 0) (.o d (.op aop)) :: l) r h g hs s := k.mono fun m k => by
 show ye d aop 0 (dK p (exec p m) l) r h g hs (aop.run r g) = s
 rw [e]
 show (@Bool.rec (fun _ => RS) (.err 211) (dK p (exec p m) l (dg d v r) h g hs) (fy aop r v hs 0)) = s
 rw [xh]; exact k
theorem Ds.xi (e : aop.run r g = .ok v g') (e1 : aop.run r h1 = .ok v h1') (sv : same v v = true) (k : Ds p l (dg d v r) h g (h1 :: hs) s) : Ds p (.mk (.rd 1) (.o d (.op aop)) :: l) r h g (h1 :: hs) s := k.mono fun m k => by
 show ye d aop 1 (dK p (exec p m) l) r h g (h1 :: hs) (aop.run r g) = s
 rw [e]
 show (@Bool.rec (fun _ => RS) (.err 211) (dK p (exec p m) l (dg d v r) h g (h1 :: hs)) (@RV.rec (fun _ => Bool) (fun v' _ => @Bool.rec (fun _ => Bool) false (fy aop r v hs 0) (same v v')) (fun _ => false) (aop.run r h1))) = s
 rw [e1]
 show (@Bool.rec (fun _ => RS) (.err 211) (dK p (exec p m) l (dg d v r) h g (h1 :: hs)) (@Bool.rec (fun _ => Bool) false (fy aop r v hs 0) (same v v))) = s
 rw [sv, xh]; exact k
theorem Ds.Sy (e : aop.run r g = .ok v g') (e1 : aop.run r h1 = .ok v h1') (e2 : aop.run r h2 = .ok v h2') (sv : same v v = true) (k : Ds p l (dg d v r) h g (h1 :: h2 :: hs) s) : Ds p (.mk (.rd 2) (.o d (.op aop)) :: l) r h g (h1 :: h2 :: hs) s := k.mono fun m k => by
 show ye d aop 2 (dK p (exec p m) l) r h g (h1 :: h2 :: hs) (aop.run r g) = s
 rw [e]
 show (@Bool.rec (fun _ => RS) (.err 211) (dK p (exec p m) l (dg d v r) h g (h1 :: h2 :: hs)) (@RV.rec (fun _ => Bool) (fun v' _ => @Bool.rec (fun _ => Bool) false (@RV.rec (fun _ => Bool) (fun v' _ => @Bool.rec (fun _ => Bool) false (fy aop r v hs 0) (same v v')) (fun _ => false) (aop.run r h2)) (same v v')) (fun _ => false) (aop.run r h1))) = s
 rw [e1, e2]
 show (@Bool.rec (fun _ => RS) (.err 211) (dK p (exec p m) l (dg d v r) h g (h1 :: h2 :: hs)) (@Bool.rec (fun _ => Bool) false (@Bool.rec (fun _ => Bool) false (fy aop r v hs 0) (same v v)) (same v v))) = s
 rw [sv, xh]; exact k
theorem Ds.call (e : Cv p f (fR xs r) h v h') (k : Ds p l (dg d v r) h' h' (g :: hs) s) : Ds p (.mk .dZ (.o d (.call f xs)) :: l) r h g hs s := e.EO k fun m e k => by
 show mE d (dK p (exec p m) l) r g hs (aB p (exec p m) f (fR xs r) h) = s
 rw [e]; exact k
theorem Ds.on (hb : aC a b r = .bool w) (k : Ds p (.mk bk (.o d i) :: l) r h g hs s) : Ds p (.mk bk (.g a b w d i) :: l) r h g hs s := k.mono fun m k => by
 show AV.bN (gb w (aC a b r)) (DL bk d i (dK p (exec p m) l) r h g hs p (exec p m) w) (.err 212) = s
 rw [hb, ← k]
 cases w <;> rfl
theorem Ds.eN {n : Nat} (hb : aC a b r = .bool (!w)) (k : Ds p l (dg d cM r) h g hs s) : Ds p (.mk (.rd n) (.g a b w d i) :: l) r h g hs s := k.mono fun m k => by
 show AV.bN (gb w (aC a b r)) (DL (.rd n) d i (dK p (exec p m) l) r h g hs p (exec p m) w) (.err 212) = s
 rw [hb, ← k]
 cases w <;> rfl
theorem Ds.RU (hb : aC a b r = .bool (!w)) (k : Ds p l (dg d cM r) h h (g :: hs) s) : Ds p (.mk .dZ (.g a b w d i) :: l) r h g hs s := k.mono fun m k => by
 show AV.bN (gb w (aC a b r)) (DL .dZ d i (dK p (exec p m) l) r h g hs p (exec p m) w) (.err 212) = s
 rw [hb, ← k]
 cases w <;> rfl
theorem tA (q : P4) : rL q q = true := kq.2 rfl
theorem EP (q : P4) (o : Nat) : kX (.ptr q o) (.ptr q o) = true := by
 show (Bool.and (rL q q) (Nat.beq o o)) = true
 rw [Nat.beq_refl, tA]; rfl
theorem mu (k : IntKind) (n : Int) : kX (.int k n) (.int k n) = true := by
 show (@Bool.rec (fun _ => Bool) false (xB n n) (nh k k)) = true
 rw [zF, il, decide_eq_true rfl]
theorem vP (s : List Nat) : kX (.str s) (.str s) = true := by
 show iU s s = true
 rw [iq, decide_eq_true rfl]
theorem lT {es n : Nat} {q : P4} {o : Nat} (sl : vL x es n q o) : kX x x = true := by
 rcases sl with ⟨cap, rfl⟩ | rfl | ⟨rfl, _⟩
 ·show (Bool.and (rL q q) (Bool.and (Nat.beq o o) (Bool.and (Nat.beq n n) (Nat.beq cap cap)))) = true
  simp only [Nat.beq_refl, tA]; rfl
 ·show (Bool.and (rL q q) (Bool.and (Nat.beq o o) (Bool.and (Nat.beq n n) (Nat.beq es es)))) = true
  simp only [Nat.beq_refl, tA]; rfl
 ·rfl
theorem dD (q : P4) (o : Nat) : same (.ptr q o) (.ptr q o) = true := EP q o
theorem jS (k : IntKind) (n : Int) : same (.int k n) (.int k n) = true := mu k n
theorem tD : ∀ {l : List AV}, (∀ v, v ∈ l → kX v v = true) → qy l l = true
 | [], _ => rfl
 | v :: l, g => by
  show (@Bool.rec (fun _ => Bool) false (qy l l) (kX v v)) = true
  rw [g v (by simp), tD fun w hw => g w (by simp [hw])]
theorem Jc {l : List AV} (g : ∀ v, v ∈ l → kX v v = true) : same (.agg l) (.agg l) = true := by
 show qy l l = true
 exact tD g
end
end Go.Am
namespace Go.Cod
abbrev Bs := List UInt8
def le : Nat → Nat → Bs
 | 0, _ => []
 | k + 1, n => UInt8.ofNat n :: le k (n / 256)
def un : Bs → Nat
 | [] => 0
 | b :: l => b.toNat + 256 * un l
theorem bL : ∀ k n, (le k n).length = k
 | 0, _ => rfl
 | k + 1, n => by simp [le, bL k]
theorem Dh : ∀ l, un l < 256 ^ l.length
 | [] => by simp [un]
 | b :: l => by
  have h := Dh l
  have hb := b.toNat_lt
  simp only [un, List.length_cons, Nat.pow_succ]
  omega
def u64 (n : Int) : Nat := (n % 18446744073709551616).toNat
def s64 (n : Nat) : Int := if n < 9223372036854775808 then n else (n : Int) - 18446744073709551616
def nJ (n : Int) : Bs := le 8 (u64 n)
def text (s : Bs) : Bs := le 2 s.length ++ s
abbrev Rd := Option Bs
def take (k : Nat) : Rd → Bs × Rd
 | none => ([], none)
 | some l => if l.length < k then ([], none) else (l.take k, some (l.drop k))
def get (k : Nat) (r : Rd) : Nat × Rd := (un (take k r).1, (take k r).2)
def aq (r : Rd) : Int × Rd := (s64 (get 8 r).1, (get 8 r).2)
def bJ (r : Rd) : Nat × Rd := get 1 r
def aL (most : Nat) (r : Rd) : Bs × Rd :=
 let (n, r) := get 2 r
 match r with
 | none => ([], none)
 | some l => if n > most then ([], none) else take n (some l)
structure lU where
 kind : Int
 n : Int
 s : Bs
deriving DecidableEq
structure mI where
 table : Bs
 row : List lU
 remove : Bool
deriving DecidableEq
structure po where
 au : Int
 seq : Int
 kind : Int
 name : Bs
 text : Bs
 bB : List (Bs × Int)
 changes : List mI
deriving DecidableEq
def small (n : Int) : Bool := decide (-2147483648 ≤ n) && decide (n ≤ 2147483647)
def short (s : Bs) : Bool := decide (s.length ≤ 65535)
def cS (n : Int) : Prop := -9223372036854775808 ≤ n ∧ n ≤ 9223372036854775807
def fL (v : lU) : Bool := small v.kind && short v.s
def iJ (c : mI) : Bool := short c.table && decide (c.row.length ≤ 255) && c.row.all fL
def takes (e : po) : Bool := small e.au && small e.seq && small e.kind && short e.name && short e.text && decide (e.bB.length ≤ 255) && decide (e.changes.length ≤ 255) &&
 e.bB.all (fun c => short c.1 && small c.2) && e.changes.all iJ
def nK (v : lU) : Bs := nJ v.kind ++ nJ v.n ++ Cod.text v.s
def nL (c : mI) : Bs := Cod.text c.table ++ le 1 c.row.length ++ c.row.flatMap nK ++ le 1 (if c.remove then 1 else 0)
def nM (c : Bs × Int) : Bs := Cod.text c.1 ++ nJ c.2
def enc (e : po) : Bs := nJ e.au ++ nJ e.seq ++ nJ e.kind ++ Cod.text e.name ++ Cod.text e.text ++ le 1 e.bB.length ++ e.bB.flatMap nM ++ le 1 e.changes.length ++ e.changes.flatMap nL
def many {α : Type} (f : Rd → α × Rd) : Nat → Rd → List α × Rd
 | 0, r => ([], r)
 | k + 1, r => let (a, r1) := f r; let (l, r2) := many f k r1; (a :: l, r2)
def lV (r : Rd) : lU × Rd :=
 let (k, r) := aq r; let (n, r) := aq r; let (s, r) := aL 65535 r
 (⟨k, n, s⟩, r)
def nN (r : Rd) : mI × Rd :=
 let (t, r) := aL 65535 r; let (k, r) := bJ r; let (row, r) := many lV k r; let (b, r) := bJ r
 (⟨t, row, decide (0 < b)⟩, r)
def xj (r : Rd) : (Bs × Int) × Rd := let (t, r) := aL 65535 r; let (k, r) := aq r; ((t, k), r)
def Jd (r : Rd) : po × Rd :=
 let (c, r) := aq r; let (s, r) := aq r; let (k, r) := aq r; let (n, r) := aL 65535 r; let (t, r) := aL 65535 r
 let (a, r) := bJ r; let (bB, r) := many xj a r; let (b, r) := bJ r; let (ch, r) := many nN b r
 (⟨c, s, k, n, t, bB, ch⟩, r)
def dec (b : Bs) : Option po :=
 let (e, r) := Jd (some b)
 if r = some [] ∧ takes e = true ∧ enc e = b then some e else none
theorem Je {n : Int} (h : small n = true) : -9223372036854775808 ≤ n ∧ n ≤ 9223372036854775807 := by
 unfold small at h
 simp only [Bool.and_eq_true, decide_eq_true_eq] at h
 omega
def fits (e : po) : Prop := ∀ c, c ∈ e.changes → ∀ v, v ∈ c.row → cS v.n
end Go.Cod
namespace Go.Cod
structure pW where
 kind : Nat
 au : Int
 node : Int
 n : Int
 name : Bs
 entry : po
deriving DecidableEq
def jT (k : Nat) (r : Rd) : Option (pW × Bs) :=
 let (c, r) := aq r; let (n, r) := aq r; let (m, r) := aq r; let (name, r) := aL 255 r; let (t, r) := aL 65535 r
 match dec t, r with
 | some e, some l => if small c && small n && small m then some (⟨k, c, n, m, name, e⟩, l) else none
 | _, _ => none
def more (g : Option (pW × Bs)) (k : Bs → List pW) : List pW := match g with
 | none => []
 | some (s, l') => s :: k l'
theorem pX (k : Bs → List pW) : more none k = [] := rfl
theorem pY (s : pW) (l : Bs) (k : Bs → List pW) : more (some (s, l)) k = s :: k l := rfl
def items : Nat → Nat → Bs → List pW
 | 0, _, _ => []
 | f + 1, room, l => match l with
  | [] => []
  | b :: l => if room = 0 then [] else if b.toNat < 1 ∨ 9 < b.toNat then items f room l else more (jT b.toNat (some l)) (items f (room - 1))
theorem pZ (f room : Nat) : items f room [] = [] := by cases f <;> rfl
theorem nO (f room : Nat) (b : UInt8) (l : Bs) : items (f + 1) room (b :: l) = if room = 0 then [] else if b.toNat < 1 ∨ 9 < b.toNat then items f room l else more (jT b.toNat (some l)) (items f (room - 1)) := rfl
end Go.Cod
namespace Go.Cod
structure nX where
 kind : Int
 au : Int
 node : Int
 n : Int
 name : Bs
 entry : po
deriving DecidableEq
def gV (k : Int) : Int := if k < -1000 ∨ 1000 < k then 0 else k
def qZ (v : lU) : lU := ⟨gV v.kind, v.n, v.s.take 41⟩
def lW (c : mI) : mI := ⟨c.table.take 20, (c.row.take 7).map qZ, c.remove⟩
def aO (e : po) : po := ⟨e.au, e.seq, e.kind, e.name.take 20, e.text.take 700, ((e.bB.take 8).takeWhile fun c => decide (c.1.length ≤ 20)).map fun c => (c.1, gV c.2), (e.changes.take 9).map lW⟩
def bm (s : nX) : nX := { s with entry := aO s.entry }
def fM (s : nX) : Bool := !(decide (s.kind < 1) || decide (9 < s.kind) || !small s.au || !small s.node || !small s.n || decide (255 < s.name.length) || !small s.entry.au || !small s.entry.seq || !small s.entry.kind || decide (255 < s.entry.bB.length) || decide (255 < s.entry.changes.length)) &&
 (s.entry.bB.all fun c => small c.2) && (s.entry.changes.all fun c => !decide (255 < c.row.length) && c.row.all fun v => small v.kind)
def zJ (s : nX) : Bool := small s.au && small s.node && small s.n && (decide (1 ≤ s.kind) && decide (s.kind ≤ 9) && decide (s.name.length ≤ 255) && takes s.entry)
def qa (s : nX) : Bs := le 1 (u64 s.kind) ++ (nJ s.au ++ (nJ s.node ++ (nJ s.n ++ (Cod.text s.name ++ Cod.text (enc s.entry)))))
theorem nP (k : Int) : small (gV k) = true := by
 unfold gV small
 split <;> simp <;> omega
theorem Bv (v : lU) : fL (qZ v) = true := by
 unfold fL qZ short
 simp only [nP, List.length_take, Bool.true_and, decide_eq_true_eq]
 omega
theorem Bw (c : mI) : iJ (lW c) = true := by
 unfold iJ lW short
 simp only [List.length_take, List.length_map, Bool.and_eq_true, decide_eq_true_eq, List.all_eq_true, List.mem_map]
 refine ⟨⟨by omega, by omega⟩, ?_⟩
 rintro v ⟨x, _, rfl⟩
 exact Bv x
theorem jx {α : Type} {p : α → Bool} : ∀ {l : List α} {a : α}, a ∈ l.takeWhile p → p a = true
 | [], _, h => by simp at h
 | b :: l, a, h => by
  rw [List.takeWhile_cons] at h
  split at h
  ·rename_i hb
   rcases List.mem_cons.1 h with rfl | h
   ·exact hb
   ·exact jx h
  ·simp at h
theorem Bx (s : nX) : zJ (bm s) = fM (bm s) := by
 have h1 : (aO s.entry).bB.all (fun c => short c.1 && small c.2) = true := by
  unfold aO short
  simp only [List.all_eq_true, List.mem_map, Bool.and_eq_true, decide_eq_true_eq]
  rintro c ⟨x, hx, rfl⟩
  have := jx hx
  simp only [decide_eq_true_eq] at this
  exact ⟨by simp only; omega, nP _⟩
 have h2 : (aO s.entry).changes.all iJ = true := by
  unfold aO
  simp only [List.all_eq_true, List.mem_map]
  rintro c ⟨x, _, rfl⟩
  exact Bw x
 have h3 : (aO s.entry).bB.all (fun c => small c.2) = true := by
  rw [List.all_eq_true] at h1 ⊢
  intro c hc
  have := h1 c hc
  rw [Bool.and_eq_true] at this
  exact this.2
 have h4 : (aO s.entry).changes.all (fun c => !decide (255 < c.row.length) && c.row.all fun v => small v.kind) = true := by
  rw [List.all_eq_true] at h2 ⊢
  intro c hc
  have := h2 c hc
  unfold iJ fL at this
  simp only [Bool.and_eq_true, decide_eq_true_eq, List.all_eq_true] at this
  simp only [Bool.and_eq_true, Bool.not_eq_true', decide_eq_false_iff_not, List.all_eq_true]
  exact ⟨by omega, fun v hv => (this.2 v hv).1⟩
 have h5 : (aO s.entry).bB.length ≤ 8 := by
  unfold aO
  simp only [List.length_map]
  exact Nat.le_trans (List.takeWhile_sublist _).length_le (by simp; omega)
 have h6 : (aO s.entry).changes.length ≤ 9 := by
  unfold aO
  simp only [List.length_map, List.length_take]
  omega
 have h7 : (aO s.entry).name.length ≤ 20 ∧ (aO s.entry).text.length ≤ 700 := by
  unfold aO
  simp only [List.length_take]
  omega
 have e : (bm s).entry = aO s.entry := rfl
 unfold zJ fM takes
 rw [e, h1, h2, h3, h4]
 have a1 : decide (255 < (aO s.entry).bB.length) = false := by simp; omega
 have a2 : decide (255 < (aO s.entry).changes.length) = false := by simp; omega
 have a3 : decide ((aO s.entry).bB.length ≤ 255) = true := by simp; omega
 have a4 : decide ((aO s.entry).changes.length ≤ 255) = true := by simp; omega
 have a5 : short (aO s.entry).name = true := by unfold short; simp; omega
 have a6 : short (aO s.entry).text = true := by unfold short; simp; omega
 have b1 : decide ((bm s).kind < 1) = !decide (1 ≤ (bm s).kind) := by
  by_cases h : 1 ≤ (bm s).kind <;> simp [h] <;> omega
 have b2 : decide (9 < (bm s).kind) = !decide ((bm s).kind ≤ 9) := by
  by_cases h : (bm s).kind ≤ 9 <;> simp [h] <;> omega
 have b3 : decide (255 < (bm s).name.length) = !decide ((bm s).name.length ≤ 255) := by
  by_cases h : (bm s).name.length ≤ 255 <;> simp [h] <;> omega
 rw [a1, a2, a3, a4, a5, a6, b1, b2, b3]
 cases small (bm s).au <;> cases small (bm s).node <;> cases small (bm s).n <;> cases decide (1 ≤ (bm s).kind) <;> cases decide ((bm s).kind ≤ 9) <;> cases decide ((bm s).name.length ≤ 255) <;>
  cases small (aO s.entry).au <;> cases small (aO s.entry).seq <;> cases small (aO s.entry).kind <;> rfl
theorem aK (n : Int) : (nJ n).length = 8 := bL 8 _
theorem aM (s : Bs) : (Cod.text s).length = 2 + s.length := by unfold Cod.text; simp [bL]
theorem tF {α : Type} {f : α → Bs} {k : Nat} : ∀ {l : List α}, (∀ a, a ∈ l → (f a).length ≤ k) → (l.flatMap f).length ≤ l.length * k
 | [], _ => by simp
 | a :: l, h => by
  have h1 := h a (by simp)
  have h2 := tF (l := l) fun b hb => h b (by simp [hb])
  simp only [List.flatMap_cons, List.length_append, List.length_cons, Nat.add_mul]
  omega
end Go.Cod
namespace Go.Cod
def Ft {α : Type} (f : Rd → α × Rd) (g : α → Nat) : Prop := ∀ r a l', f r = (a, some l') → ∃ l, r = some l ∧ g a + l'.length = l.length
theorem Ft.at {α : Type} {f : Rd → α × Rd} {g : α → Nat} (c : Ft f g) {r : Rd} {l' : Bs} (h : (f r).2 = some l') : ∃ l, r = some l ∧ g (f r).1 + l'.length = l.length := c r (f r).1 l' (Prod.ext rfl h)
theorem zK (k : Nat) (r : Rd) (a : Bs) (l' : Bs) (h : take k r = (a, some l')) : ∃ l, r = some l ∧ a.length = k ∧ k + l'.length = l.length := by
 unfold take at h
 cases r with
 | none => cases h
 | some l =>
  simp only at h
  split at h
  ·cases h
  ·rename_i hk
   cases h
   exact ⟨l, rfl, by simp; omega, by simp; omega⟩
theorem xk (k : Nat) : Ft (get k) fun _ => k := fun r a l' h => by
 have h : ((un (take k r).1, (take k r).2) : Nat × Rd) = (a, some l') := h
 obtain ⟨l, e, _, n⟩ := zK k r (take k r).1 l' (Prod.ext rfl (show (take k r).2 = some l' from congrArg Prod.snd h))
 exact ⟨l, e, n⟩
theorem fN : Ft aq fun _ => 8 := fun r a l' h => xk 8 r (get 8 r).1 l' (Prod.ext rfl (show (get 8 r).2 = some l' from congrArg Prod.snd h))
theorem oS : Ft bJ fun _ => 1 := xk 1
theorem iK (most : Nat) : Ft (aL most) fun s => 2 + s.length := fun r a l' h => by
 unfold aL at h
 cases hg : get 2 r with
 | mk n r1 =>
  rw [hg] at h
  cases r1 with
  | none => cases h
  | some l1 =>
   simp only at h
   split at h
   ·cases h
   ·obtain ⟨l2, e2, n1, n2⟩ := zK n _ _ _ h
    cases e2
    obtain ⟨l, e, n3⟩ := xk 2 r n l1 hg
    exact ⟨l, e, by simp only at n3 ⊢; omega⟩
theorem oT {α : Type} {f : Rd → α × Rd} {g : α → Bs} (c : Ft f fun a => (g a).length) : ∀ k, Ft (many f k) fun l => (l.flatMap g).length
 | 0, r, a, l', h => by cases h; exact ⟨l', rfl, by simp⟩
 | k + 1, r, a, l', h => by
  have h2 : (many f k (f r).2).2 = some l' := congrArg Prod.snd h
  have h1 : a = (f r).1 :: (many f k (f r).2).1 := (congrArg Prod.fst h).symm
  obtain ⟨l1, e1, n1⟩ := (oT c k).at h2
  obtain ⟨l, e, n⟩ := c.at e1
  refine ⟨l, e, ?_⟩
  subst h1
  simp only [List.flatMap_cons, List.length_append] at n1 n ⊢
  omega
theorem LX : Ft lV fun v => (nK v).length := fun r v l' h => by
 have h2 : (aL 65535 (aq (aq r).2).2).2 = some l' := congrArg Prod.snd h
 have h1 : v = ⟨(aq r).1, (aq (aq r).2).1, (aL 65535 (aq (aq r).2).2).1⟩ := (congrArg Prod.fst h).symm
 obtain ⟨l3, e3, n3⟩ := (iK 65535).at h2
 obtain ⟨l2, e2, n2⟩ := fN.at e3
 obtain ⟨l1, e1, n1⟩ := fN.at e2
 refine ⟨l1, e1, ?_⟩
 subst h1
 unfold nK
 simp only at *
 simp only [List.length_append, aK, aM]
 omega
theorem LY : Ft xj fun c => (nM c).length := fun r c l' h => by
 have h2 : (aq (aL 65535 r).2).2 = some l' := congrArg Prod.snd h
 have h1 : c = ((aL 65535 r).1, (aq (aL 65535 r).2).1) := (congrArg Prod.fst h).symm
 obtain ⟨l2, e2, n2⟩ := fN.at h2
 obtain ⟨l1, e1, n1⟩ := (iK 65535).at e2
 refine ⟨l1, e1, ?_⟩
 subst h1
 unfold nM
 simp only at *
 simp only [List.length_append, aK, aM]
 omega
theorem LZ : Ft nN fun c => (nL c).length := fun r c l' h => by
 have h2 : (bJ (many lV (bJ (aL 65535 r).2).1 (bJ (aL 65535 r).2).2).2).2 = some l' := congrArg Prod.snd h
 have h1 : c = ⟨(aL 65535 r).1, (many lV (bJ (aL 65535 r).2).1 (bJ (aL 65535 r).2).2).1, decide (0 < (bJ (many lV (bJ (aL 65535 r).2).1 (bJ (aL 65535 r).2).2).2).1)⟩ := (congrArg Prod.fst h).symm
 obtain ⟨l4, e4, n4⟩ := oS.at h2
 obtain ⟨l3, e3, n3⟩ := (oT LX _).at e4
 obtain ⟨l2, e2, n2⟩ := oS.at e3
 obtain ⟨l1, e1, n1⟩ := (iK 65535).at e2
 refine ⟨l1, e1, ?_⟩
 subst h1
 unfold nL
 simp only at *
 simp only [List.length_append, aM, bL]
 omega
theorem xl (r : Rd) : Jd r = let r1 := aq r; let r2 := aq r1.2; let r3 := aq r2.2; let r4 := aL 65535 r3.2; let r5 := aL 65535 r4.2; let r6 := bJ r5.2; let r7 := many xj r6.1 r6.2; let r8 := bJ r7.2; let r9 := many nN r8.1 r8.2
  (⟨r1.1, r2.1, r3.1, r4.1, r5.1, r7.1, r9.1⟩, r9.2) := rfl
theorem Ma : Ft Jd fun e => (enc e).length := fun r e l' h => by
 rw [xl] at h
 have h1 := (congrArg Prod.fst h).symm
 have h2 := congrArg Prod.snd h
 simp only at h1 h2
 obtain ⟨l9, e9, n9⟩ := (oT LZ _).at h2
 obtain ⟨l8, e8, n8⟩ := oS.at e9
 obtain ⟨l7, e7, n7⟩ := (oT LY _).at e8
 obtain ⟨l6, e6, n6⟩ := oS.at e7
 obtain ⟨l5, e5, n5⟩ := (iK 65535).at e6
 obtain ⟨l4, e4, n4⟩ := (iK 65535).at e5
 obtain ⟨l3, e3, n3⟩ := fN.at e4
 obtain ⟨l2, e2, n2⟩ := fN.at e3
 obtain ⟨l1, e1, n1⟩ := fN.at e2
 refine ⟨l1, e1, ?_⟩
 subst h1
 unfold enc
 simp only [List.length_append, aK, aM, bL]
 omega
theorem PT {n : Nat} (h : n < 18446744073709551616) : cS (s64 n) := by
 unfold s64 cS
 split <;> omega
theorem oU (k : Nat) (r : Rd) : (take k r).1.length ≤ k := by
 unfold take
 cases r with
 | none => simp
 | some l =>
  simp only
  split
  ·simp
  ·simp; omega
theorem eO (k : Nat) (r : Rd) : (get k r).1 < 256 ^ k := by
 unfold get
 exact Nat.lt_of_lt_of_le (Dh _) (Nat.pow_le_pow_right (by omega) (oU k r))
theorem mw (r : Rd) : cS (aq r).1 := PT (eO 8 r)
theorem kR (most : Nat) (r : Rd) : (aL most r).1.length ≤ 65535 := by
 unfold aL
 have hl := eO 2 r
 cases hg : get 2 r with
 | mk n r1 =>
  rw [hg] at hl
  cases r1 with
  | none => simp
  | some l =>
   simp only
   split
   ·simp
   ·have := oU n (some l)
    simp only at hl
    omega
theorem oV {α : Type} {f : Rd → α × Rd} {P : α → Prop} (g : ∀ r, P (f r).1) : ∀ (k : Nat) (r : Rd) (a : α), a ∈ (many f k r).1 → P a
 | 0, _, _, h => by cases h
 | k + 1, r, a, h => by
  have h : a ∈ (f r).1 :: (many f k (f r).2).1 := h
  rcases List.mem_cons.1 h with rfl | h
  ·exact g r
  ·exact oV g k _ a h
theorem iL {α : Type} {f : Rd → α × Rd} : ∀ (i : Nat) (r : Rd), (many f i r).1.length = i
 | 0, _ => rfl
 | i + 1, r => by
  show (many f i (f r).2).1.length + 1 = _
  rw [iL i]
theorem oW {α : Type} {f : Rd → α × Rd} : ∀ (i : Nat) (r : Rd), many f (i + 1) r = ((many f i r).1 ++ [(f (many f i r).2).1], (f (many f i r).2).2)
 | 0, r => rfl
 | i + 1, r => by
  have e := oW (f := f) i (f r).2
  show ((f r).1 :: (many f (i + 1) (f r).2).1, (many f (i + 1) (f r).2).2) = _
  rw [e]; rfl
theorem zL {k : Nat} {r : Rd} {st : pW} {l2 : Bs} (h : jT k r = some (st, l2)) : ∃ l, r = some l ∧ l2.length ≤ l.length := by
 have h : (match dec (aL 65535 (aL 255 (aq (aq (aq r).2).2).2).2).1, (aL 65535 (aL 255 (aq (aq (aq r).2).2).2).2).2 with
  | some e, some l => if small (aq r).1 && small (aq (aq r).2).1 && small (aq (aq (aq r).2).2).1 then some ((⟨k, (aq r).1, (aq (aq r).2).1, (aq (aq (aq r).2).2).1, (aL 255 (aq (aq (aq r).2).2).2).1, e⟩ : pW), l) else none
  | _, _ => none) = some (st, l2) := h
 cases hd : dec (aL 65535 (aL 255 (aq (aq (aq r).2).2).2).2).1 with
 | none => rw [hd] at h; cases h
 | some e =>
  cases hr : (aL 65535 (aL 255 (aq (aq (aq r).2).2).2).2).2 with
  | none => rw [hd, hr] at h; cases h
  | some l5 =>
   rw [hd, hr] at h
   simp only at h
   split at h
   ·have e2 : l5 = l2 := (Prod.mk.inj (Option.some.inj h)).2
    subst e2
    obtain ⟨l4, e4, n4⟩ := (iK 65535).at hr
    obtain ⟨l3, e3, n3⟩ := (iK 255).at e4
    obtain ⟨l2, e2, n2⟩ := fN.at e3
    obtain ⟨l1, e1, n1⟩ := fN.at e2
    obtain ⟨l0, e0, n0⟩ := fN.at e1
    exact ⟨l0, e0, by omega⟩
   ·cases h
theorem qb : ∀ (f room : Nat) (l : Bs), (items f room l).length ≤ room
 | 0, _, _ => by simp [items]
 | f + 1, room, [] => by rw [pZ]; simp
 | f + 1, room, b :: l => by
  rw [nO]
  split
  ·simp
  ·rename_i hr
   split
   ·exact qb f room l
   ·cases hg : jT b.toNat (some l) with
    | none => rw [pX]; simp
    | some z =>
     obtain ⟨st, l2⟩ := z
     rw [pY]
     have := qb f (room - 1) l2
     simp
     omega
end Go.Cod
namespace Go.Am
open Go.Cod
noncomputable section
def cT {α : Type} (h : Hp) (es : Nat) (f : List AV → α → Prop) (x : AV) (xs : List α) : Prop :=
 ∃ q o, ((∃ cap, xs.length ≤ cap ∧ x = .slice q o xs.length cap) ∨ x = .ft q o xs.length es ∨ (x = .ai ∧ xs = [])) ∧ ∀ i (hi : i < xs.length), ∃ l, l.length = es ∧ Cs h q (o + i * es) l ∧ f l xs[i]
abbrev bu (s : Bs) : AV := .str (s.map UInt8.toNat)
abbrev i64 (n : Int) : AV := .int .i64 n
def iQ (v : lU) : List AV := [i64 v.kind, i64 v.n, bu v.s]
def dU (h : Hp) (x : AV) (r : List lU) : Prop := cT h 3 (fun l v => l = iQ v) x r
def uB (x : AV) (c : mI) : List AV := [bu c.table, x, .bool c.remove]
def gz (h : Hp) (l : List AV) (c : mI) : Prop := ∃ x, l = uB x c ∧ dU h x c.row
def aZ (h : Hp) (x : AV) (l : List mI) : Prop := cT h 3 (gz h) x l
def aQ (h : Hp) (x : AV) (l : List (Bs × Int)) : Prop := cT h 2 (fun l c => l = [bu c.1, i64 c.2]) x l
def cE (x y : AV) (e : po) : List AV := [i64 e.au, i64 e.seq, i64 e.kind, bu e.name, bu e.text, x, y]
def vQ (h : Hp) (l : List AV) (e : po) : Prop := ∃ x y, l = cE x y e ∧ aQ h x e.bB ∧ aZ h y e.changes
def eZ (x y : AV) (s : nX) : List AV := [i64 s.kind, i64 s.au, i64 s.node, i64 s.n, bu s.name] ++ cE x y s.entry
def eu (h : Hp) (l : List AV) (s : nX) : Prop := ∃ x y, l = eZ x y s ∧ aQ h x s.entry.bB ∧ aZ h y s.entry.changes
def dc (h : Hp) (x : AV) (l : List nX) : Prop := cT h 12 (eu h) x l
def eD (P : Program) (t : TypeId) : Option (List TypeId) := match P.underlying t with
 | some (.struct fs) => some (fs.toList.map (·.type))
 | _ => none
def fo (P : Program) (t : TypeId) : Option (TypeId × Nat) := match P.underlying t with
 | some (.slice e) => some (e, P.cellsOf e)
 | _ => none
section
variable {H : Type} {P : Program} {h : Hp} {rec : TypeId → List AV → DataW H → Prop} {t : TypeId} {cs : List AV} {d : DataW H}
inductive Fu (rec : TypeId → List AV → DataW H → Prop) : List TypeId → List (List AV) → List (DataW H) → Prop
 | nil : Fu rec [] [] []
 | cons (t : TypeId) (l : List AV) (p : DataW H) (ts : List TypeId) (ls : List (List AV)) (ps : List (DataW H)) : rec t l p → Fu rec ts ls ps → Fu rec (t :: ts) (l :: ls) (p :: ps)
theorem Fu.of : ∀ {ts : List TypeId} {ls : List (List AV)} {ps : List (DataW H)}, ls.length = ts.length → ps.length = ts.length → (∀ (i : Nat) (t : TypeId), ts[i]? = some t → ∃ l p, ls[i]? = some l ∧ ps[i]? = some p ∧ rec t l p) → Fu rec ts ls ps
 | [], [], [], _, _, _ => .nil
 | t :: ts, l :: ls, p :: ps, h1, h2, g => by
  obtain ⟨l', p', e1, e2, e3⟩ := g 0 t rfl
  simp at e1 e2
  subst e1 e2
  exact .cons t l p ts ls ps e3 (Fu.of (by simpa using h1) (by simpa using h2) fun i u hu => by simpa using g (i + 1) u (by simpa using hu))
 | [], _ :: _, _, h1, _, _ => by simp at h1
 | [], [], _ :: _, _, h2, _ => by simp at h2
 | _ :: _, [], _, h1, _, _ => by simp at h1
 | _ :: _, _ :: _, [], _, h2, _ => by simp at h2
theorem Fu.inv {ts : List TypeId} {ls : List (List AV)} {ps : List (DataW H)} (a : Fu rec (t :: ts) ls ps) : ∃ l ls' p ps', ls = l :: ls' ∧ ps = p :: ps' ∧ rec t l p ∧ Fu rec ts ls' ps' := by
 cases a with | cons _ l p _ ls ps h1 h2 => exact ⟨l, ls, p, ps, rfl, rfl, h1, h2⟩
theorem Fu.none {ls : List (List AV)} {ps : List (DataW H)} (a : Fu rec [] ls ps) : ls = [] ∧ ps = [] := by cases a; exact ⟨rfl, rfl⟩
theorem fO.struct {ts : List TypeId} (hs : eD P t = some ts) (r : fO P h rec t cs d) : ∃ ls ps, cs = ls.flatten ∧ d = .agg ps ∧ Fu rec ts ls ps := by
 unfold eD at hs
 unfold fO at r
 split at hs
 ·rename_i fs hu
  rw [hu] at r
  obtain ⟨ps, ls, e1, e2, e3, e4, g⟩ := r
  cases hs
  refine ⟨ls, ps, e1, e2, .of (by simp [e4]) (by simp [e3]) fun i t ht => ?_⟩
  simp only [List.getElem?_map, Option.map_eq_some_iff] at ht
  obtain ⟨f, hf, rfl⟩ := ht
  obtain ⟨l, p, a, b, _, c⟩ := g i f (by simpa using hf)
  exact ⟨l, p, a, b, c⟩
 ·cases hs
theorem fO.int {k : IntKind} (hu : P.underlying t = some (.int k)) (r : fO P h rec t cs d) : ∃ z, cs = [.int k z] ∧ d = .lit (.int k z) ∧ (Lit.int k z).wf = true := by
 unfold fO at r
 rw [hu] at r
 exact r
theorem fO.str (hu : P.underlying t = some .string) (r : fO P h rec t cs d) : ∃ s : List UInt8, cs = [bu s] ∧ d = .lit (.string s) := by
 unfold fO at r
 rw [hu] at r
 exact r
theorem fO.bool (hu : P.underlying t = some .bool) (r : fO P h rec t cs d) : ∃ b, cs = [.bool b] ∧ d = .lit (.bool b) := by
 unfold fO at r
 rw [hu] at r
 exact r
structure lq (bk : DataW H → Nat) (bkA : List (DataW H) → Nat) : Prop where
 str : ∀ b, bk (.lit (.string b)) = b.length + 1
 slice : ∀ e s, bk (.slice e s) = bkA e + bkA s + 1
 agg : ∀ p, bk (.agg p) = bkA p + 1
 nil : bkA [] = 0
 cons : ∀ d r, bkA (d :: r) = bk d + bkA r
 pos : ∀ d, 1 ≤ bk d
variable {bk : DataW H → Nat} {bkA : List (DataW H) → Nat}
theorem lq.len (K : lq bk bkA) : ∀ l : List (DataW H), l.length ≤ bkA l
 | [] => by simp
 | d :: l => by
  have := K.len l
  have := K.pos d
  rw [K.cons]
  simp
  omega
theorem lq.mem (K : lq bk bkA) {d : DataW H} : ∀ {l : List (DataW H)}, d ∈ l → bk d ≤ bkA l
 | e :: l, hm => by
  rw [K.cons]
  rcases List.mem_cons.1 hm with rfl | hm
  ·omega
  ·have := K.mem hm
   omega
theorem fO.slice (K : lq bk bkA) {α : Type} {f : List AV → α → Prop} {Q : α → Prop} {e : TypeId} {es B : Nat} (hs : fo P t = some (e, es)) (r : fO P h rec t cs d) (hB : bk d ≤ B)
  (g : ∀ l d, rec e l d → bk d ≤ B → ∃ a, f l a ∧ Q a) : ∃ x xs, cs = [x] ∧ cT h es f x xs ∧ xs.length ≤ B ∧ ∀ a, a ∈ xs → Q a := by
 unfold fo at hs
 unfold fO at r
 split at hs
 ·rename_i e' hu
  rw [hu] at r
  cases hs
  rcases r with ⟨rfl, rfl⟩ | ⟨p, cap, elems, rest, ls, rfl, hcap, rfl, hl, hr⟩
  ·exact ⟨.ai, [], rfl, ⟨.eL 0 0, 0, .inr (.inr ⟨rfl, rfl⟩), fun i hi => by simp at hi⟩, by simp, fun a ha => by simp at ha⟩
  ·have hel := K.len elems
   rw [K.slice] at hB
   have mk : ∀ (k : Nat), k ≤ elems.length → ∃ xs : List α, xs.length = k ∧ (∀ i (hi : i < xs.length), ∃ l, l.length = P.cellsOf e ∧ Cs h p (i * P.cellsOf e) l ∧ f l xs[i]) ∧ ∀ a, a ∈ xs → Q a := by
    intro k
    induction k with
    | zero => exact fun _ => ⟨[], rfl, fun i hi => by simp at hi, fun a ha => by simp at ha⟩
    | succ k ih =>
     intro hk
     obtain ⟨xs, e1, e2, e3⟩ := ih (by omega)
     obtain ⟨c1, c2, c3⟩ := hr k (by omega) (by omega)
     have hm := K.mem (List.getElem_mem (show k < elems.length by omega))
     obtain ⟨a, ha, hq⟩ := g _ _ c3 (by omega)
     refine ⟨xs ++ [a], by simp [e1], fun i hi => ?_, fun b hb => ?_⟩
     ·by_cases hik : i < xs.length
      ·obtain ⟨l, l1, l2, l3⟩ := e2 i hik
       exact ⟨l, l1, l2, by rw [List.getElem_append_left hik]; exact l3⟩
      ·have : i = k := by simp [e1] at hi; omega
       subst this
       refine ⟨_, c2, c1, ?_⟩
       rw [List.getElem_append_right (by omega)]
       simp only [e1, Nat.sub_self, List.getElem_cons_zero]
       exact ha
     ·rcases List.mem_append.1 hb with hb | hb
      ·exact e3 b hb
      ·simp at hb
       rw [hb]; exact hq
   obtain ⟨xs, e1, e2, e3⟩ := mk elems.length (Nat.le_refl _)
   refine ⟨_, xs, rfl, ⟨p, 0, .inl ⟨cap, by omega, by rw [e1]⟩, fun i hi => ?_⟩, by omega, e3⟩
   obtain ⟨l, l1, l2, l3⟩ := e2 i hi
   exact ⟨l, l1, by rw [Nat.zero_add]; exact l2, l3⟩
 ·cases hs
theorem lX {z : Int} (h : (Lit.int .i64 z).wf = true) : cS z := by
 simp only [Lit.wf, Bool.and_eq_true, decide_eq_true_eq] at h
 exact ⟨h.1, h.2⟩
structure fp (P : Program) (tI tN tT tB tV tR tG tGs tC tCs tE tS tL : TypeId) : Prop where
 i : P.underlying tI = some (.int .i64)
 n : P.underlying tN = some (.int .i64)
 t : P.underlying tT = some .string
 b : P.underlying tB = some .bool
 v : eD P tV = some [tI, tN, tT]
 r : fo P tR = some (tV, 3)
 g : eD P tG = some [tT, tR, tB]
 gs : fo P tGs = some (tG, 3)
 c : eD P tC = some [tT, tI]
 cs : fo P tCs = some (tC, 2)
 e : eD P tE = some [tI, tI, tI, tT, tT, tCs, tGs]
 s : eD P tS = some [tI, tI, tI, tI, tT, tE]
 l : fo P tL = some (tS, 12)
def RW (B : Nat) (v : lU) : Prop := cS v.kind ∧ cS v.n ∧ v.s.length ≤ B
def Sz (B : Nat) (c : mI) : Prop := c.table.length ≤ B ∧ c.row.length ≤ B ∧ ∀ v, v ∈ c.row → RW B v
def xF (B : Nat) (e : po) : Prop := cS e.au ∧ cS e.seq ∧ cS e.kind ∧ e.name.length ≤ B ∧ e.text.length ≤ B ∧ e.bB.length ≤ B ∧ (∀ c, c ∈ e.bB → c.1.length ≤ B ∧ cS c.2) ∧ e.changes.length ≤ B ∧ ∀ c, c ∈ e.changes → Sz B c
def Mb (B : Nat) (s : nX) : Prop := cS s.kind ∧ cS s.au ∧ cS s.node ∧ cS s.n ∧ s.name.length ≤ B ∧ xF B s.entry
variable {tI tN tT tB tV tR tG tGs tC tCs tE tS tL : TypeId} {B n : Nat}
theorem rd_val (T : fp P tI tN tT tB tV tR tG tGs tC tCs tE tS tL) (K : lq bk bkA) {l : List AV} (r : qc P h (n + 2) tV l d) (hB : bk d ≤ B) : ∃ v, l = iQ v ∧ RW B v := by
 obtain ⟨ls, ps, rfl, rfl, a⟩ := fO.struct T.v r
 obtain ⟨_, _, _, _, rfl, rfl, a0, a⟩ := a.inv; obtain ⟨_, _, _, _, rfl, rfl, a1, a⟩ := a.inv; obtain ⟨_, _, _, _, rfl, rfl, a2, a⟩ := a.inv; obtain ⟨rfl, rfl⟩ := a.none
 obtain ⟨z0, rfl, rfl, w0⟩ := fO.int T.i a0
 obtain ⟨z1, rfl, rfl, w1⟩ := fO.int T.n a1
 obtain ⟨s, rfl, rfl⟩ := fO.str T.t a2
 rw [K.agg] at hB
 have := K.mem (l := [DataW.lit (.int .i64 z0), .lit (.int .i64 z1), .lit (.string s)]) (d := .lit (.string s)) (by simp)
 rw [K.str] at this
 exact ⟨⟨z0, z1, s⟩, rfl, lX w0, lX w1, by simp only; omega⟩
theorem PU (T : fp P tI tN tT tB tV tR tG tGs tC tCs tE tS tL) (K : lq bk bkA) {l : List AV} (r : qc P h (n + 3) tR l d) (hB : bk d ≤ B) : ∃ x row, l = [x] ∧ dU h x row ∧ row.length ≤ B ∧ ∀ v, v ∈ row → RW B v :=
 fO.slice K T.r r hB fun _ _ r hb => rd_val T K r hb
theorem PV (T : fp P tI tN tT tB tV tR tG tGs tC tCs tE tS tL) (K : lq bk bkA) {l : List AV} (r : qc P h (n + 4) tG l d) (hB : bk d ≤ B) : ∃ c, gz h l c ∧ Sz B c := by
 obtain ⟨ls, ps, rfl, rfl, a⟩ := fO.struct T.g r
 obtain ⟨_, _, p0, _, rfl, rfl, a0, a⟩ := a.inv; obtain ⟨_, _, p1, _, rfl, rfl, a1, a⟩ := a.inv; obtain ⟨_, _, p2, _, rfl, rfl, a2, a⟩ := a.inv; obtain ⟨rfl, rfl⟩ := a.none
 rw [K.agg] at hB
 have h0 := K.mem (l := [p0, p1, p2]) (d := p0) (by simp)
 have h1 := K.mem (l := [p0, p1, p2]) (d := p1) (by simp)
 obtain ⟨s, rfl, rfl⟩ := fO.str T.t a0
 obtain ⟨x, row, rfl, hr, hl, hv⟩ := PU T K a1 (B := B) (by omega)
 obtain ⟨b, rfl, rfl⟩ := fO.bool T.b a2
 rw [K.str] at h0
 exact ⟨⟨s, row, b⟩, ⟨x, rfl, hr⟩, by simp only; omega, hl, hv⟩
theorem PW (T : fp P tI tN tT tB tV tR tG tGs tC tCs tE tS tL) (K : lq bk bkA) {l : List AV} (r : qc P h (n + 2) tC l d) (hB : bk d ≤ B) : ∃ c : Bs × Int, l = [bu c.1, i64 c.2] ∧ c.1.length ≤ B ∧ cS c.2 := by
 obtain ⟨ls, ps, rfl, rfl, a⟩ := fO.struct T.c r
 obtain ⟨_, _, p0, _, rfl, rfl, a0, a⟩ := a.inv; obtain ⟨_, _, p1, _, rfl, rfl, a1, a⟩ := a.inv; obtain ⟨rfl, rfl⟩ := a.none
 rw [K.agg] at hB
 have h0 := K.mem (l := [p0, p1]) (d := p0) (by simp)
 obtain ⟨s, rfl, rfl⟩ := fO.str T.t a0
 obtain ⟨z, rfl, rfl, w⟩ := fO.int T.i a1
 rw [K.str] at h0
 exact ⟨(s, z), rfl, by simp only; omega, lX w⟩
theorem PX (T : fp P tI tN tT tB tV tR tG tGs tC tCs tE tS tL) (K : lq bk bkA) {l : List AV} (r : qc P h (n + 6) tE l d) (hB : bk d ≤ B) : ∃ e, vQ h l e ∧ xF B e := by
 obtain ⟨ls, ps, rfl, rfl, a⟩ := fO.struct T.e r
 obtain ⟨_, _, p0, _, rfl, rfl, a0, a⟩ := a.inv; obtain ⟨_, _, p1, _, rfl, rfl, a1, a⟩ := a.inv; obtain ⟨_, _, p2, _, rfl, rfl, a2, a⟩ := a.inv; obtain ⟨_, _, p3, _, rfl, rfl, a3, a⟩ := a.inv; obtain ⟨_, _, p4, _, rfl, rfl, a4, a⟩ := a.inv; obtain ⟨_, _, p5, _, rfl, rfl, a5, a⟩ := a.inv; obtain ⟨_, _, p6, _, rfl, rfl, a6, a⟩ := a.inv; obtain ⟨rfl, rfl⟩ := a.none
 rw [K.agg] at hB
 have h3 := K.mem (l := [p0, p1, p2, p3, p4, p5, p6]) (d := p3) (by simp)
 have h4 := K.mem (l := [p0, p1, p2, p3, p4, p5, p6]) (d := p4) (by simp)
 have h5 := K.mem (l := [p0, p1, p2, p3, p4, p5, p6]) (d := p5) (by simp)
 have h6 := K.mem (l := [p0, p1, p2, p3, p4, p5, p6]) (d := p6) (by simp)
 obtain ⟨z0, rfl, rfl, w0⟩ := fO.int T.i a0
 obtain ⟨z1, rfl, rfl, w1⟩ := fO.int T.i a1
 obtain ⟨z2, rfl, rfl, w2⟩ := fO.int T.i a2
 obtain ⟨s, rfl, rfl⟩ := fO.str T.t a3
 obtain ⟨s', rfl, rfl⟩ := fO.str T.t a4
 obtain ⟨x, bB, rfl, hx, hl, hc⟩ := fO.slice (f := fun l (c : Bs × Int) => l = [bu c.1, i64 c.2]) (Q := fun c : Bs × Int => c.1.length ≤ B ∧ cS c.2) K T.cs a5 (B := B) (by omega) fun _ _ r hb => PW (n := n + 2) T K r hb
 obtain ⟨y, chs, rfl, hy, hm, hg⟩ := fO.slice K T.gs a6 (B := B) (by omega) fun _ _ r hb => PV T K r hb
 rw [K.str] at h3 h4
 exact ⟨⟨z0, z1, z2, s, s', bB, chs⟩, ⟨x, y, rfl, hx, hy⟩, lX w0, lX w1, lX w2, by simp only; omega, by simp only; omega, hl, hc, hm, hg⟩
theorem PY (T : fp P tI tN tT tB tV tR tG tGs tC tCs tE tS tL) (K : lq bk bkA) {l : List AV} (r : qc P h (n + 7) tS l d) (hB : bk d ≤ B) : ∃ s, eu h l s ∧ Mb B s := by
 obtain ⟨ls, ps, rfl, rfl, a⟩ := fO.struct T.s r
 obtain ⟨_, _, p0, _, rfl, rfl, a0, a⟩ := a.inv; obtain ⟨_, _, p1, _, rfl, rfl, a1, a⟩ := a.inv; obtain ⟨_, _, p2, _, rfl, rfl, a2, a⟩ := a.inv; obtain ⟨_, _, p3, _, rfl, rfl, a3, a⟩ := a.inv; obtain ⟨_, _, p4, _, rfl, rfl, a4, a⟩ := a.inv; obtain ⟨_, _, p5, _, rfl, rfl, a5, a⟩ := a.inv; obtain ⟨rfl, rfl⟩ := a.none
 rw [K.agg] at hB
 have h4 := K.mem (l := [p0, p1, p2, p3, p4, p5]) (d := p4) (by simp)
 have h5 := K.mem (l := [p0, p1, p2, p3, p4, p5]) (d := p5) (by simp)
 obtain ⟨z0, rfl, rfl, w0⟩ := fO.int T.i a0
 obtain ⟨z1, rfl, rfl, w1⟩ := fO.int T.i a1
 obtain ⟨z2, rfl, rfl, w2⟩ := fO.int T.i a2
 obtain ⟨z3, rfl, rfl, w3⟩ := fO.int T.i a3
 obtain ⟨s, rfl, rfl⟩ := fO.str T.t a4
 obtain ⟨e, ⟨x, y, rfl, hx, hy⟩, he⟩ := PX T K a5 (B := B) (by omega)
 rw [K.str] at h4
 exact ⟨⟨z0, z1, z2, z3, s, e⟩, ⟨x, y, by simp [eZ, cE, i64], hx, hy⟩, lX w0, lX w1, lX w2, lX w3, by simp only; omega, he⟩
theorem Mc (T : fp P tI tN tT tB tV tR tG tGs tC tCs tE tS tL) (K : lq bk bkA) {l : List AV} (r : qc P h (n + 8) tL l d) (hB : bk d ≤ B) : ∃ x xs, l = [x] ∧ dc h x xs ∧ xs.length ≤ B ∧ ∀ s, s ∈ xs → Mb B s :=
 fO.slice K T.l r hB fun _ _ r hb => PY T K r hb
end
end
end Go.Am
namespace Go.Am.Seat
open Go.Cod
noncomputable section
structure ER (p : Pg) : Prop where
 e12 : ak 37 p.fs = f37
 e13 : ak 40 p.fs = f40
 e15 : ak 38 p.fs = f38
 e16 : ak 39 p.fs = f39
 e18 : ak 41 p.fs = f41
 e27 : ak 66 p.fs = f66
 e28 : ak 67 p.fs = f67
 e29 : ak 43 p.fs = f43
def bc (s : Bs) : List AV := s.map fun b => AV.int .u8 (b.toNat : Int)
theorem bw (s : Bs) : (bc s).length = s.length := by simp [bc]
theorem tH (s t : Bs) : bc (s ++ t) = bc s ++ bc t := by simp [bc]
structure Wr (h0 h : Hp) (q : P4) (s : Bs) : Prop where
 old : Old h0 h
 wf : Wf h
 new : ah q h0 = .none
 ob : ∃ sv, sv.one = true ∧ Ob h q 123 true .plain [sv] ∧ dh h sv 5 1 (bc s) fun j => ah j h0 = .none ∧ j ≠ q
variable {p : Pg} {h0 h h' : Hp} {q : P4} {s : Bs}
theorem my {x : AV} {el es : Nat} {l : List AV} {b : P4 → Prop} (w : dh h x el es l b) : x.one = true := by
 rcases w with ⟨_, rfl | ⟨q, rfl⟩⟩ | ⟨q, n, rfl, _⟩ <;> rfl
theorem Wr.app (w : Wr h0 h q s) {sv : AV} (ho : Ob h q 123 true .plain [sv]) (hw : dh h sv 5 1 (bc s) fun j => ah j h0 = .none ∧ j ≠ q) (t : Bs) (hl : s.length + t.length ≤ 16777216) :
  ∃ x h1 h2, mD 5 1 t.length (bc t) sv h = .ok x h1 ∧ sT (.ptr q 0) x h1 = .ok .undef h2 ∧ Wr h0 h2 q (s ++ t) := by
 obtain ⟨x, h1, e1, e2, e3, e4⟩ := fJ (m := t.length) w.wf hw (by omega) (new := bc t) (by simp [bw]) (by simpa [bw] using hl)
 have hq : ah q h1 = ah q h := e4 q ho.ne (fun g => g.2 rfl)
 have ho1 := ho.eq hq
 obtain ⟨h2, f1, f2, f3, f4⟩ := cP (k := 0) ho1 (by simp) (my e2)
 refine ⟨x, h1, h2, e1, f1, ⟨fun j hj => ?_, ?_, w.new, x, my e2, f2, ?_⟩⟩
 ·have hjq : j ≠ q := fun g => by rw [g] at hj; exact hj w.new
  rw [f3 j hjq, e4 j (by rw [w.old j hj]; exact hj) (fun g => hj g.1), w.old j hj]
 ·exact e3.of f4 fun j hj => by
   by_cases g : j = q
   ·rw [g, hq] at hj
    exact absurd hj ho.ne
   ·rw [f3 j g]; exact hj
 ·rw [tH]
  refine (e2.mono fun j hj => ?_).old fun j hj _ => f3 j hj.2
  rcases hj with hj | hj
  ·exact hj
  ·exact ⟨w.old.none hj, fun g => by rw [g] at hj; exact ho.ne hj⟩
theorem Wr.up (w : Wr h0 h q s) (O : Old h h') (W : Wf h') : Wr h0 h' q s := by
 obtain ⟨sv, e1, e2, e3⟩ := w.ob
 exact ⟨w.old.trans O, W, w.new, sv, e1, e2.old O, e3.old fun j _ hj => O j hj⟩
theorem Wr.tJ (w : Wr h0 h q s) (t : Bs) {m : Nat} (hm : t.length = m) {z : List AV} {ps : List Part} (hf : fits ps .nil = true) (hz : fill ps .nil z = bc t) (hl : s.length + t.length ≤ 16777216) :
  ∃ sv l h1 x h2 h3, Seat.lD (.ptr q 0) h = .ok sv h ∧ Seat.bs 5 1 m z ps h = .ok l h1 ∧ df 5 1 sv l h1 = .ok x h2 ∧ sT (.ptr q 0) x h2 = .ok .undef h3 ∧ Wr h0 h3 q (s ++ t) := by
 subst hm
 obtain ⟨sv, e1, e2, e3⟩ := w.ob
 obtain ⟨j, h1, f1, f2, f3, f4, f5, f6⟩ := fm (el := 5) (es := 1) (n := t.length) w.wf hf hz (by simp [bw]; omega)
 have w1 := w.up f4 f5
 obtain ⟨x, h2, h3, g1, g2, g3⟩ := w1.app (e2.old f4) (e3.old fun j _ hj => f4 j hj) t hl
 refine ⟨sv, _, h1, x, h2, h3, Bt (e2.cs (k := 0) (m := [sv]) (fun j hj => ⟨by omega, by simp⟩) (by simp)) (by simp), f1, ?_, g2, g3⟩
 rw [dB (m := t.length) (q := j) (o := 0) (l := bc t) (.inl ⟨_, rfl⟩) (by omega) (fun _ => f3.cs (k := 0) (fun j hj => ⟨by omega, by simp⟩) (by simp)) (by simp [bw]) (by omega)]
 exact g1
theorem w8 (n : Int) : IntKind.u8.wrap n = n % 256 := rfl
theorem w64 (n : Int) : IntKind.u64.wrap n = n % 18446744073709551616 := rfl
theorem gW (n : Int) (h : cS n) : IntKind.i64.wrap n = n := by
 unfold cS at h
 unfold IntKind.wrap
 dsimp only
 split
 ·rename_i g
  rw [Bool.and_eq_true, decide_eq_true_eq] at g
  have g1 : n % 18446744073709551616 ≥ 9223372036854775808 := g.2
  show n % 18446744073709551616 - 18446744073709551616 = n
  omega
 ·rename_i g
  rw [Bool.and_eq_true, decide_eq_true_eq] at g
  have g1 : ¬ n % 18446744073709551616 ≥ 9223372036854775808 := fun x => g ⟨rfl, x⟩
  show n % 18446744073709551616 = n
  omega
theorem SY (n : Nat) : bK .shr (.int .u64 n) (.int .u64 (.ofNat 8)) h = .ok (.int .u64 (n / 256 : Nat)) h := rfl
theorem Jf (k : Nat) : ∀ {n : Nat} {h : Hp} {s : Bs} {c : AC} {r0 : A2}, (∀ s, Rn p (.ag qk .skip) (T31 (.ptr q 0) (.int .u64 n) (.int .i64 k)) h s → Rn p c r0 h s) → Wr h0 h q s → n < 18446744073709551616 → s.length + k ≤ 16777216 → k ≤ 1000 →
  ∃ h', Rn p (.sat (.ag k66_0 (.seq (.label 0) (.ag qk .skip))) c) r0 h (.ret T5 h') ∧ Wr h0 h' q (s ++ le k n) := by
 induction k with
 | zero =>
  intro n h s c r0 hc w _ _ _
  refine ⟨h, .rG (hc _ (.ag (.all fun m => ?_))), by simpa [le] using w⟩
  simp only [qk, K3, t31_0, t31_1, t31_6, i0]
  rw [zG, bC, if_pos (by rfl)]
 | succ k ih =>
  intro n h s c r0 hc w hn hs hk
  obtain ⟨sv, l, h1, x, h2, h3, e1, e2, e3, e4, e5⟩ := w.tJ [UInt8.ofNat n] (m := 1) rfl (z := [.int .u8 (.ofNat 0)]) (ps := [.mk 0 1 (.c (.int .u8 ((n : Int) % 256)))]) rfl (by simp [bc]; rfl) (by simp; omega)
  obtain ⟨h', f1, f2⟩ := ih (n := n / 256) (h := h3) (s := s ++ [UInt8.ofNat n]) (c := .seq .skip (.ag qk .skip)) (fun _ e => .seq .skip e) e5 (by omega) (by simp; omega) (by omega)
  refine ⟨h', .xm (i := 0) (hc _ (.ag (.all fun m => ?_))) rfl f1, by simpa [le] using f2⟩
  simp only [qk, K3, t31_0, t31_1, t31_6, i0, i1]
  rw [zG, bC, if_neg (by simp; omega), cu, an, aD e1, eH, w8, bR, aw e2, aw e3, cu, an, cJ e4, SY, bR, vK, gW _ (by unfold cS; simp; omega)]
  simp
section
variable {a b c d : AV}
theorem cm : y0 (bE [a] 0 .nil) = a := rfl
theorem dE : y0 (bE [a, b] 0 .nil) = a := rfl
theorem dF : y1 (bE [a, b] 0 .nil) = b := rfl
theorem qH : y0 (bE [a, b, c] 0 .nil) = a := rfl
theorem qI : y1 (bE [a, b, c] 0 .nil) = b := rfl
theorem qJ : y2 (bE [a, b, c] 0 .nil) = c := rfl
end
theorem Bz (T : ER p) (w : Wr h0 h q s) {n k : Nat} (hn : n < 18446744073709551616) (hs : s.length + k ≤ 16777216) (hk : k ≤ 1000) :
  ∃ h', Cv p 66 [.ptr q 0, .int .u64 n, .int .i64 k] h cM h' ∧ Wr h0 h' q (s ++ le k n) := by
 have hc : ∀ s, Rn p (.ag qk .skip) (T31 (.ptr q 0) (.int .u64 n) (.int .i64 k)) h s → Rn p (.ag k66_0 (.seq (.label 0) (.ag qk .skip))) (bE [.ptr q 0, .int .u64 n, .int .i64 k] 0 .nil) h s := by
  intro s e
  refine .ag (Ev.mono (Rn.seq (a := .label 0) .label e) fun m e => ?_)
  simp only [k66_0, K3, qH, qI, qJ]
  exact e
 obtain ⟨h', e1, e2⟩ := Jf k hc w hn hs hk
 exact ⟨h', .of T.e27 (by simp) (.scope e1) rfl, e2⟩
theorem rH (T : ER p) (w : Wr h0 h q s) {n : Int} (hs : s.length + 1 ≤ 16777216) :
  ∃ h', Cv p 40 [.ptr q 0, i64 n] h cM h' ∧ Wr h0 h' q (s ++ le 1 (u64 n)) := by
 obtain ⟨h', e1, e2⟩ := Bz T w (n := u64 n) (k := 1) (by unfold u64; omega) hs (by omega)
 refine ⟨h', .qK (r' := T5) (h1 := h') T.e13 (by simp) (.ag ?_) rfl, e2⟩
 refine Ev.mono e1 fun m e => ?_
 simp only [k40_0, K2, dE, dF, i1, i64]
 rw [eH, w64, bR]
 have g : n % 18446744073709551616 = (u64 n : Int) := by unfold u64; omega
 rw [g]
 exact aF e
theorem Jg (T : ER p) (w : Wr h0 h q s) {n : Int} (hs : s.length + 2 ≤ 16777216) :
  ∃ h', Cv p 67 [.ptr q 0, i64 n] h cM h' ∧ Wr h0 h' q (s ++ le 2 (u64 n)) := by
 obtain ⟨h', e1, e2⟩ := Bz T w (n := u64 n) (k := 2) (by unfold u64; omega) hs (by omega)
 refine ⟨h', .qK (r' := T5) (h1 := h') T.e28 (by simp) (.ag ?_) rfl, e2⟩
 refine Ev.mono e1 fun m e => ?_
 simp only [k67_0, K2, dE, dF, pi, i64]
 rw [eH, w64, bR]
 have g : n % 18446744073709551616 = (u64 n : Int) := by unfold u64; omega
 rw [g]
 exact aF e
theorem mz (T : ER p) (w : Wr h0 h q s) {n : Int} (hs : s.length + 8 ≤ 16777216) :
  ∃ h', Cv p 38 [.ptr q 0, i64 n] h cM h' ∧ Wr h0 h' q (s ++ nJ n) := by
 obtain ⟨h', e1, e2⟩ := Bz T w (n := u64 n) (k := 8) (by unfold u64; omega) hs (by omega)
 refine ⟨h', .qK (r' := T5) (h1 := h') T.e15 (by simp) (.ag ?_) rfl, e2⟩
 refine Ev.mono e1 fun m e => ?_
 simp only [k38_0, K2, dE, dF, pi, i64]
 rw [eH, w64, bR]
 have g : n % 18446744073709551616 = (u64 n : Int) := by unfold u64; omega
 rw [g]
 exact aF e
theorem mA (n : Nat) (h : n < 18446744073709551616) : u64 n = n := by unfold u64; omega
theorem oX (T : ER p) (w : Wr h0 h q s) {t : Bs} (hs : s.length + (2 + t.length) ≤ 16777216) :
  ∃ h', Cv p 39 [.ptr q 0, bu t] h cM h' ∧ Wr h0 h' q (s ++ Cod.text t) := by
 obtain ⟨h1, e1, w1⟩ := Jg T w (n := t.length) (by omega)
 obtain ⟨sv, g1, g2, g3⟩ := w1.ob
 have hl2 : (s ++ le 2 (u64 (t.length : Int))).length = s.length + 2 := by simp [bL]
 obtain ⟨x, h2, h3, f1, f2, f3⟩ := w1.app g2 g3 t (by rw [hl2]; omega)
 refine ⟨h3, .qK (r' := T5) (h1 := h3) T.e16 (by simp) (.ag ?_) rfl, ?_⟩
 ·refine Ev.mono e1 fun m e => ?_
  simp only [k39_0, K2, dE, dF, bu]
  simp only [i64] at e
  have ec : (t.map UInt8.toNat).map (fun b : Nat => AV.int .u8 (b : Int)) = bc t := by simp [bc]
  rw [Dd, bR, List.length_map, aF e, cu, an, aD (Bt (g2.cs (k := 0) (m := [sv]) (fun j hj => ⟨by omega, by simp⟩) (by simp)) (by simp)), aw (by rw [De, ec, List.length_map]; exact f1), cu, an, cJ f2]
 ·rw [mA _ (by omega)] at f3
  simpa [Cod.text] using f3
end
open Go.Cod
noncomputable section
variable {p : Pg} {h0 h h' h1 : Hp} {q : P4} {s : Bs}
theorem Wr.base (w : Wr h0 h q s) (O : Old h h1) (W : Wf h1) : ∃ h0', Old h0 h0' ∧ Wr h0' h1 q s ∧ ∀ j, ah j h = .none → ah j h0' = ah j h1 := by
 classical
 obtain ⟨h0', g⟩ := Df fun j => if ah j h = .none then ah j h1 else ah j h0
 have g1 : ∀ j, ah j h = .none → ah j h0' = ah j h1 := fun j hj => by rw [g, if_pos hj]
 have g2 : ∀ j, ah j h ≠ .none → ah j h0' = ah j h0 := fun j hj => by rw [g, if_neg hj]
 obtain ⟨sv, e1, e2, e3⟩ := w.ob
 refine ⟨h0', fun j hj => g2 j (by rw [w.old j hj]; exact hj), ⟨fun j hj => ?_, W, by rw [g2 q e2.ne]; exact w.new, sv, e1, e2.old O, ?_⟩, g1⟩
 ·by_cases hn : ah j h = .none
  ·rw [g1 j hn]
  ·rw [g2 j hn] at hj ⊢
   rw [O j hn, w.old j hj]
 ·rcases e3 with e3 | ⟨q', n, f1, f2, f3, f4⟩
  ·exact .inl e3
  ·exact .inr ⟨q', n, f1, f2, f3.old O, by rw [g2 q' f3.ne]; exact f4.1, f4.2⟩
theorem Wr.SZ {h0' : Hp} (w : Wr h0' h q s) (O : Old h0 h0') : Wr h0 h q s := by
 obtain ⟨sv, e1, e2, e3⟩ := w.ob
 exact ⟨O.trans w.old, w.wf, O.none w.new, sv, e1, e2, e3.mono fun j hj => ⟨O.none hj.1, hj.2⟩⟩
variable {α : Type} {es : Nat} {f : List AV → α → Prop} {x : AV} {xs : List α}
theorem cT.sl (r : cT h es f x xs) : ∃ q o, vL x es xs.length q o ∧ ∀ i (hi : i < xs.length), ∃ l, l.length = es ∧ Cs h q (o + i * es) l ∧ f l xs[i] := by
 obtain ⟨q, o, e, g⟩ := r
 refine ⟨q, o, ?_, g⟩
 rcases e with ⟨c, _, e⟩ | e | ⟨e, rfl⟩
 ·exact .inl ⟨c, e⟩
 ·exact .inr (.inl e)
 ·exact .inr (.inr ⟨e, rfl⟩)
theorem cT.up {f' : List AV → α → Prop} (r : cT h es f x xs) (O : Old h h') (g : ∀ l a, a ∈ xs → f l a → f' l a) : cT h' es f' x xs := by
 obtain ⟨q, o, e, k⟩ := r
 refine ⟨q, o, e, fun i hi => ?_⟩
 obtain ⟨l, a, b, c⟩ := k i hi
 exact ⟨l, a, b.old O, g _ _ (by simp) c⟩
theorem dU.up {r : List lU} (a : dU h x r) (O : Old h h') : dU h' x r := cT.up a O fun _ _ _ e => e
theorem gz.up {l : List AV} {c : mI} (a : gz h l c) (O : Old h h') : gz h' l c := let ⟨x, e, r⟩ := a; ⟨x, e, dU.up r O⟩
theorem aZ.up {r : List mI} (a : aZ h x r) (O : Old h h') : aZ h' x r := cT.up a O fun _ _ _ e => gz.up e O
theorem aQ.up {r : List (Bs × Int)} (a : aQ h x r) (O : Old h h') : aQ h' x r := cT.up a O fun _ _ _ e => e
theorem eu.up {l : List AV} {e : nX} (a : eu h l e) (O : Old h h') : eu h' l e := let ⟨x, y, g, r1, r2⟩ := a; ⟨x, y, g, aQ.up r1 O, aZ.up r2 O⟩
theorem dc.up {r : List nX} (a : dc h x r) (O : Old h h') : dc h' x r := cT.up a O fun _ _ _ e => eu.up e O
theorem BA (s : Bs) : ∀ (k : List Nat → RV) (e : RV), gO (bc s) k e = k (s.map UInt8.toNat) := by
 induction s with
 | nil => intro k e; rfl
 | cons b s ih =>
  intro k e
  show gO (.int .u8 (b.toNat : Int) :: bc s) k e = _
  rw [oK]
  show (@Bool.rec (fun _ => RV) e (gO (bc s) (fun s => k (b.toNat :: s)) e) (Nat.ble b.toNat 255)) = _
  have hb := b.toNat_lt
  rw [Nat.ble_eq_true_of_le (by omega), ih]
  rfl
def dW (h : Hp) (x : AV) (s : Bs) : Prop := ∃ q o n, vL x 1 n q o ∧ s.length = n ∧ (n ≠ 0 → Cs h q o (bc s))
theorem dh.BB {b : P4 → Prop} (w : dh h x 5 1 (bc s) b) : dW h x s := by
 obtain ⟨q, n, e1, e2, e3⟩ := w.sl (by omega)
 exact ⟨q, 0, n, e1, by rw [bw] at e2; omega, e3⟩
theorem tK (r : dW h x s) : cK .Kh x h = .ok (bu s) h := by
 obtain ⟨q, o, n, e1, e2, e3⟩ := r
 show elems 1 x h (fun l => gO l (fun s => .ok (.str s) h) (.err 33)) (.err 34) = _
 rw [tw e1 (by omega) e3 (by rw [bw]; omega), BA]
theorem dW.len (r : dW h x s) : Am.len x h = .ok (.int .i64 (s.length : Int)) h := by
 obtain ⟨q, o, n, e1, e2, e3⟩ := r
 rw [fg e1, e2]
theorem dW.up (r : dW h x s) (O : Old h h') : dW h' x s := by
 obtain ⟨q, o, n, e1, e2, e3⟩ := r
 exact ⟨q, o, n, e1, e2, fun g => (e3 g).old O⟩
theorem ES (T : ER p) (W : Wf h) : ∃ q h', Cv p 37 [] h (.ptr q 0) h' ∧ Wr h h' q [] ∧ Old h h' := by
 obtain ⟨q, h1, e1, e2, e3, e4, e5, e6⟩ := lj (el := 123) (l := [.ai]) W (by simp)
 refine ⟨q, h1, .of (r' := T13 (.ptr q 0)) (h1 := h1) T.e12 (by simp) (.ag (.all fun m => ?_)) rfl, ⟨e4, e5, e2, .ai, rfl, e3, .inl ⟨rfl, .inl rfl⟩⟩, e4⟩
 simp only [k37_0]
 rw [mY (v := .agg [.ai]) (h' := h) rfl, jh e1]
theorem Jh (e29 : ak 43 p.fs = f43) (W : Wf h) {b : P4 → Prop} (w : dh h x 5 1 (bc s) b) (hl : s.length ≤ 16777216) : ∃ v h', Cv p 43 [x] h v h' ∧ dh h' v 5 1 (bc s) (fun j => ah j h = .none) ∧ Old h h' ∧ Wf h' := by
 by_cases hx : x = .ai
 ·subst hx
  refine ⟨.ai, h, .of (r' := T0 .ai) (h1 := h) e29 (by simp) (.ag (.all fun m => ?_)) rfl, ?_, .refl h, W⟩
  ·have hn : bK (.jB .s) .ai .ai h = .ok (.bool true) h := rfl
   simp only [xK, K1, cm]
   rw [aw hn, ew]
  ·rcases w with ⟨w, _⟩ | ⟨q, n, g, _⟩
   ·exact .inl ⟨w, .inl rfl⟩
   ·cases g
 ·have hn : bK (.jB .s) x .ai h = .ok (.bool false) h := by
   rcases w with ⟨_, rfl | ⟨q, rfl⟩⟩ | ⟨q, n, rfl, _⟩
   ·exact absurd rfl hx
   ·rfl
   ·rfl
  obtain ⟨j, h1, f1, f2, f3, f4, f5, f6⟩ := fm (el := 5) (es := 1) (n := 0) (z := []) (ps := []) (l := []) W rfl rfl (by simp)
  obtain ⟨q, o, n, g1, g2, g3⟩ := dW.up (dh.BB w) f4
  obtain ⟨v, h2, c1, c2, c3, c4⟩ := fJ (m := n) (es := 1) f5 (x := .slice j 0 0 0) (b := fun _ => False) (el := 5) (l := []) (.inl ⟨rfl, .inr ⟨j, rfl⟩⟩) (by omega) (new := bc s) (by rw [bw]; omega) (by simp [bw]; omega)
  refine ⟨v, h2, .of (r' := T0 v) (h1 := h2) e29 (by simp) (.ag (.all fun m => ?_)) rfl, ?_, fun k hk => ?_, c3⟩
  ·simp only [xK, K1, cm]
   rw [aw hn, dP, aw f1, aw (by rw [dB g1 (by omega) g3 (by rw [bw]; omega) (by omega)]; exact c1)]
  ·refine dh.mono c2 fun k hk => ?_
   rcases hk with hk | hk
   ·exact hk.elim
   ·exact f4.none hk
  ·have := f4 k hk
   rw [c4 k (by rw [this]; exact hk) (fun g => g), this]
theorem Md (T : ER p) (e29 : ak 43 p.fs = f43) (w : Wr h0 h q s) (hl : s.length ≤ 16777216) : ∃ v h', Cv p 41 [.ptr q 0] h v h' ∧ dh h' v 5 1 (bc s) (fun j => ah j h0 = .none) ∧ Old h0 h' ∧ Wf h' := by
 obtain ⟨sv, e1, e2, e3⟩ := w.ob
 obtain ⟨v, h', f1, f2, f3, f4⟩ := Jh (p := p) e29 w.wf e3 hl
 refine ⟨v, h', .of (r' := T0 v) (h1 := h') T.e18 (by simp) (.ag (f1.mono fun m e => ?_)) rfl, dh.mono f2 fun j hj => w.old.none hj, w.old.trans f3, f4⟩
 simp only [k41_0, K1, cm]
 rw [cu, an, aD (Bt (e2.cs (k := 0) (m := [sv]) (fun j hj => ⟨by omega, by simp⟩) (by simp)) (by simp))]
 exact (aF e)
end
open Go.Cod
noncomputable section
variable {p : Pg} {h0 h h' h1 : Hp} {q : P4} {s : Bs} {x y : AV}
theorem aj {h : Hp} {q : P4} {o : Nat} {l : List AV} (c : Cs h q o l) (k : Nat) {v : AV} (e : l[k]? = some v) : lD (.ptr q (o + k)) h = .ok v h := by
 obtain ⟨hk, e⟩ := List.getElem?_eq_some_iff.1 e
 rw [Jb c k hk, e]
theorem aP {h : Hp} {q : P4} {o : Nat} {l : List AV} (c : Cs h q o l) {v : AV} (e : l[0]? = some v) : lD (.ptr q o) h = .ok v h := aj c 0 e
theorem eE (e : ak 14 p.fs = f14) (n : Int) : Cv p 14 [i64 n] h (.bool (small n)) h := by
 refine .of (r' := T0 (.bool (small n))) (h1 := h) e (by simp) (.aJ fun c i K => ?_) rfl
 simp only [k14_0, K1, cm, i64, ni, pi]
 (rw [NO, bR]; try rfl)
 by_cases hc : Int.negSucc 2147483647 ≤ n
 ·(rewrite [decide_eq_true hc]; (try dsimp only); rewrite [zH]; (try dsimp only); rewrite [zH]; (try dsimp only); rewrite [aV]; (try dsimp only); rewrite [pV]; (try dsimp only); rewrite [bR]; (try dsimp only); try rfl)
  congr 3
  unfold small
  rw [decide_eq_true (show -2147483648 ≤ n from hc), Bool.true_and, decide_eq_decide]
  show n < 2147483648 ↔ n ≤ 2147483647
  omega
 ·(rw [decide_eq_false hc, vN, vN, tz, bR]; try rfl)
  congr 3
  unfold small
  rw [decide_eq_false (show ¬ -2147483648 ≤ n from hc)]
  rfl
theorem xn (e : ak 33 p.fs = f33) (n : Int) : Cv p 33 [i64 n] h (i64 (gV n)) h := by
 refine .of (r' := T0 (i64 (gV n))) (h1 := h) e (by simp) (.ag (Ev.succ (.all fun m => ?_))) rfl
 simp only [k33_0, K1, cm, i64, ni, pi]
 (rw [aV]; try rfl)
 by_cases hc : n < Int.negSucc 999
 ·(rw [decide_eq_true hc, Dg, Dg, pV, bR, ew, i0]; try rfl)
  unfold gV
  rw [if_pos (.inl hc)]
  rfl
 ·(rewrite [decide_eq_false hc]; (try dsimp only); rewrite [LV]; (try dsimp only); rewrite [LV]; (try dsimp only); rewrite [gy]; (try dsimp only); rewrite [bR]; (try dsimp only); rewrite [tz]; (try dsimp only); rewrite [bR]; (try dsimp only); rewrite [bC]; (try dsimp only); try rfl)
  have hc' : ¬ n < -1000 := hc
  by_cases hd : (1000 : Int) < n
  ·rw [if_pos (show Int.ofNat 1000 < n from hd), i0]
   unfold gV
   rw [if_pos (.inr hd)]
   rfl
  ·rw [if_neg (show ¬ Int.ofNat 1000 < n from hd)]
   unfold gV
   rw [if_neg (by omega)]
   rfl
theorem gA {α : Type} {f : α → Bool} {l : List α} {i : Nat} (hi : i < l.length) : (l.take (i + 1)).all f = ((l.take i).all f && f l[i]) := by
 rw [List.take_succ_eq_append_getElem hi, List.all_append]; simp
theorem all_false {α : Type} {f : α → Bool} {l : List α} {i : Nat} (hi : i < l.length) (h : f l[i] = false) : l.all f = false := by
 rw [List.all_eq_false]; exact ⟨_, List.getElem_mem hi, by simp [h]⟩
theorem mB {n : Int} (K : AV → Hp → RS) : Seat.Y (.int .i64 n) (.int .i64 (.negSucc 2147483647)) h (fun j h => gD j false (fun k => k (.int .i64 n) h) h fun k h => gD j false (fun l => tR (cB k (.int .i64 (.ofNat 2147483647)) h) fun m h => l m h) h fun l h =>
  tR (dX (.c j) (.c (.bool true)) (.c l) .nil h) fun m h => K m h) = K (.bool (!small n)) h := by
 (rw [aV]; try rfl)
 by_cases hc : n < Int.negSucc 2147483647
 ·(rw [decide_eq_true hc, Dg, Dg, pV, bR]; try rfl)
  have : small n = false := by
   unfold small
   rw [decide_eq_false (show ¬ -2147483648 ≤ n from fun g => by have : n < -2147483648 := hc; omega)]; rfl
  rw [this]; rfl
 ·(rewrite [decide_eq_false hc]; (try dsimp only); rewrite [LV]; (try dsimp only); rewrite [LV]; (try dsimp only); rewrite [gy]; (try dsimp only); rewrite [bR]; (try dsimp only); rewrite [tz]; (try dsimp only); rewrite [bR]; (try dsimp only); try rfl)
  have hc' : -2147483648 ≤ n := by have : ¬ n < -2147483648 := hc; omega
  congr 2
  unfold small
  rw [decide_eq_true hc', Bool.true_and, ← decide_not, decide_eq_decide]
  show (2147483647 : Int) < n ↔ _
  omega
theorem qd (e : ak 63 p.fs = f63) {ns : List Int} (r : cT h 1 (fun l n => l = [i64 n]) x ns) (hn : ns.length < 9223372036854775807) : Cv p 63 [x] h (.bool (ns.all small)) h := by
 obtain ⟨q, o, sl, g⟩ := cT.sl r
 have key : ∃ s, (s = .ret (T0 (.bool (ns.all small))) h ∨ (∃ r', s = .ex 0 r' h) ∧ ns.all small = true) ∧ Rn p (.loop (.ag uI (.ag xL .skip))) (T32 x (i64 ns.length) i0) h s := by
  refine eo ns.length (Inv := fun i r h' => r = T32 x (i64 ns.length) (i64 i) ∧ h' = h ∧ (ns.take i).all small = true) (fun i r h' hi I => ?_) (fun r h' I => ?_) ns.length 0 _ h (by omega) ⟨rfl, rfl, by simp⟩
  ·obtain ⟨rfl, rfl, I⟩ := I
   obtain ⟨l, l1, l2, rfl⟩ := g i hi
   cases hs : small ns[i] with
   | true =>
    left
    refine ⟨_, _, .di (r' := T32 x (i64 ns.length) (i64 i)) (h' := h') (fun c i' K => ?_) (.ag (Ev.succ (.all fun m => ?_))), rfl, rfl, by rw [gA hi, I, hs]; rfl⟩
    ·simp only [uI, K3, lP, lQ, lR, i64, ni, pi]
     (rw [aV, bC, if_pos (by omega), cN (bS sl hi), aD (aP l2 rfl), mB, hs, Bool.not_true, dP]; try rfl)
    ·show xL (aB p (exec p (m + 1))) (aH p (exec p (m + 1))) (fun r h => exec p (m + 1) .skip r h) _ h' = _
     simp only [xL, K3, lP, lQ, lR, i64, i1]
     (rw [lh, gW _ (by unfold cS; simp; omega)]; try rfl)
   | false =>
    right
    refine ⟨_, .inl rfl, .dV (.aJ fun c i' K => ?_)⟩
    simp only [uI, K3, lP, lQ, lR, i64, ni, pi]
    (rw [aV, bC, if_pos (by omega), cN (bS sl hi), aD (aP l2 rfl), mB, hs, Bool.not_false, ew, all_false hi hs]; try rfl)
  ·obtain ⟨rfl, rfl, I⟩ := I
   refine ⟨_, .inr ⟨⟨T5, rfl⟩, by simpa using I⟩, .cW (.aJ fun c i' K => ?_)⟩
   simp only [uI, K3, lP, lQ, lR, i64]
   (rw [aV, bC, if_neg (by omega)]; try rfl)
 obtain ⟨s, hs, k⟩ := key
 have k1 : Rn p (.ag k63_1 (.block 0 (.loop (.ag uI (.ag xL .skip))))) (T13 x) h (RS.rec (fun _ _ => s) (fun _ r h => .nm r h) (fun _ _ _ => s) (fun _ _ => s) (fun _ => s) (fun _ _ _ => s) s) := by
  refine .di (r' := T32 x (i64 ns.length) i0) (h' := h) (fun c i' K => ?_) ?_
  ·simp only [k63_1, K1, tn]
   (rw [aR (fg sl)]; try rfl)
  ·rcases hs with rfl | ⟨⟨r', rfl⟩, _⟩
   ·exact .cA k
   ·exact .br k
 rcases hs with rfl | ⟨⟨r', rfl⟩, ha⟩
 ·exact .of (r' := T0 (.bool (ns.all small))) (h1 := h) e (by simp) (.di (r' := T13 x) (h' := h) (fun c i' K => by simp only [k63_0, K1, cm]) (.cX k1)) rfl
 ·refine .of (r' := T0 (.bool (ns.all small))) (h1 := h) e (by simp) (.di (r' := T13 x) (h' := h) (fun c i' K => by simp only [k63_0, K1, cm]) (.seq k1 (.aJ fun c i' K => ?_))) rfl
  rw [ha]; rfl
end
open Go.Cod
noncomputable section
variable {p : Pg} {h0 h h' h1 : Hp} {q : P4} {s : Bs} {x y : AV}
theorem dR (s : Bs) : jA (bu s) h = .ok (.int .i64 (s.length : Int)) h := by rw [bu, Dd, List.length_map]
theorem oY (e : ak 64 p.fs = f64) {ns : List Bs} (r : cT h 1 (fun l n => l = [bu n]) x ns) (hn : ns.length < 9223372036854775807) : Cv p 64 [x] h (.bool (ns.all Cod.short)) h := by
 obtain ⟨q, o, sl, g⟩ := cT.sl r
 have key : ∃ s, (s = .ret (T0 (.bool (ns.all Cod.short))) h ∨ (∃ r', s = .ex 0 r' h) ∧ ns.all Cod.short = true) ∧ Rn p (.loop (.ag uJ .skip)) (T32 x (i64 ns.length) i0) h s := by
  refine eo ns.length (Inv := fun i r h' => r = T32 x (i64 ns.length) (i64 i) ∧ h' = h ∧ (ns.take i).all Cod.short = true) (fun i r h' hi I => ?_) (fun r h' I => ?_) ns.length 0 _ h (by omega) ⟨rfl, rfl, by simp⟩
  ·obtain ⟨rfl, rfl, I⟩ := I
   obtain ⟨l, l1, l2, rfl⟩ := g i hi
   cases hs : Cod.short ns[i] with
   | true =>
    left
    refine ⟨_, _, .aJ fun c i' K => ?_, rfl, rfl, by rw [gA hi, I, hs]; rfl⟩
    simp only [uJ, K3, lP, lQ, lR]
    (rw [aV, bC, if_pos (by omega), cN (bS sl hi), aD (aP l2 rfl), dR, bR, gy, bR, bC, if_neg (by unfold Cod.short at hs; simp at hs; show ¬ (65535 : Int) < _; omega), lh, gW _ (by unfold cS; simp; omega)]; try rfl)
   | false =>
    right
    refine ⟨_, .inl rfl, .dV (.aJ fun c i' K => ?_)⟩
    simp only [uJ, K3, lP, lQ, lR]
    (rw [aV, bC, if_pos (by omega), cN (bS sl hi), aD (aP l2 rfl), dR, bR, gy, bR, bC, if_pos (by unfold Cod.short at hs; simp at hs; show (65535 : Int) < _; omega), all_false hi hs]; try rfl)
  ·obtain ⟨rfl, rfl, I⟩ := I
   refine ⟨_, .inr ⟨⟨T32 x (i64 ns.length) (i64 ns.length), rfl⟩, by simpa using I⟩, .cW (.aJ fun c i' K => ?_)⟩
   simp only [uJ, K3, lP, lQ, lR]
   (rw [aV, bC, if_neg (by omega)]; try rfl)
 obtain ⟨s, hs, k⟩ := key
 have k1 : Rn p (.ag k64_1 (.block 0 (.loop (.ag uJ .skip)))) (T13 x) h (RS.rec (fun _ _ => s) (fun _ r h => .nm r h) (fun _ _ _ => s) (fun _ _ => s) (fun _ => s) (fun _ _ _ => s) s) := by
  refine .di (r' := T32 x (i64 ns.length) i0) (h' := h) (fun c i' K => ?_) ?_
  ·simp only [k64_1, K1, tn]
   (rw [aR (fg sl)]; try rfl)
  ·rcases hs with rfl | ⟨⟨r', rfl⟩, _⟩
   ·exact .cA k
   ·exact .br k
 rcases hs with rfl | ⟨⟨r', rfl⟩, ha⟩
 ·exact .of (r' := T0 (.bool (ns.all Cod.short))) (h1 := h) e (by simp) (.di (r' := T13 x) (h' := h) (fun c i' K => by simp only [k64_0, K1, cm]) (.cX k1)) rfl
 ·refine .of (r' := T0 (.bool (ns.all Cod.short))) (h1 := h) e (by simp) (.di (r' := T13 x) (h' := h) (fun c i' K => by simp only [k64_0, K1, cm]) (.seq k1 (.aJ fun c i' K => ?_))) rfl
  rw [ha]; rfl
theorem Ji (W : Wf h) {el : Nat} {v z : AV} (hv : v.one = true) (hc : AV.cs v = [v]) (ha : v.asAgg = .no) : ∃ j h', Seat.bs el 1 1 [z] [.mk 0 1 (.c v)] h = .ok (.slice j 0 1 1) h' ∧ Cs h' j 0 [v] ∧ Old h h' ∧ Wf h' := by
 obtain ⟨j, h1, f1, f2, f3, f4, f5, f6⟩ := fm (el := el) (es := 1) (n := 1) (z := [z]) (ps := [.mk 0 1 (.c v)]) (l := [v]) W (by
  show (OL.rec (@Bool.rec (fun _ => Bool) false true (Bool.and v.one (Nat.beq 1 1))) (fun l => @Bool.rec (fun _ => Bool) false true (Nat.beq l.length 1)) v.asAgg : Bool) = true
  rw [ha, hv]; rfl) (by show mM (AV.cs v) 0 [z] = [v]; rw [hc]; rfl) (by simp)
 exact ⟨j, h1, f1, f3.cs (k := 0) (fun j hj => ⟨by omega, by simp⟩) (by simp), f4, f5⟩
theorem Di (W : Wf h) {el : Nat} {z : AV} (n : Int) : ∃ x h', Seat.bs el 1 1 [z] [.mk 0 1 (.c (i64 n))] h = .ok x h' ∧ cT h' 1 (fun l n => l = [i64 n]) x [n] ∧ Old h h' ∧ Wf h' := by
 obtain ⟨j, h1, f1, f2, f3, f4⟩ := Ji W (el := el) (v := i64 n) (z := z) rfl rfl rfl
 refine ⟨_, h1, f1, ⟨j, 0, .inl ⟨1, by simp, rfl⟩, fun i hi => ⟨_, rfl, ?_, rfl⟩⟩, f3, f4⟩
 have : i = 0 := by simpa using hi
 subst this
 simpa using f2
theorem xp (W : Wf h) {el : Nat} {z : AV} (n : Bs) : ∃ x h', Seat.bs el 1 1 [z] [.mk 0 1 (.c (bu n))] h = .ok x h' ∧ cT h' 1 (fun l n => l = [bu n]) x [n] ∧ Old h h' ∧ Wf h' := by
 obtain ⟨j, h1, f1, f2, f3, f4⟩ := Ji W (el := el) (v := bu n) (z := z) rfl rfl rfl
 refine ⟨_, h1, f1, ⟨j, 0, .inl ⟨1, by simp, rfl⟩, fun i hi => ⟨_, rfl, ?_, rfl⟩⟩, f3, f4⟩
 have : i = 0 := by simpa using hi
 subst this
 simpa using f2
end
open Go.Cod
noncomputable section
variable {p : Pg} {h0 h h' h1 : Hp} {q j : P4} {s : Bs} {x y a b d : AV}
theorem Me (e38 : ak 63 p.fs = f63) (e39 : ak 64 p.fs = f64) {v : lU} (W : Wf h) (c : Cs h j 0 (iQ v)) : ∃ r' h', Os p [of d14 0 r4, ol d15 r14, o d16 (.cG 3 1 1 [i0] [.mk 0 1 r15]), oc d17 63 [r16], o d18 (.un .not r17), m d19 r18,
   .g .h1 .h3 false d20 (.op (.fP 2 r4)), .g .h1 .h3 false d21 (.op (.fQ r20)), .g .h1 .h3 false d22 (.op (.cG 9 1 1 [iS] [.mk 0 1 r21])), .g .h1 .h3 false d23 (.call 64 [r22]), .g .h1 .h3 false d24 (.op (.un .not r23)),
   o d25 (.pick r19 (.c (.bool true)) r24)] (T34 (.ptr j 0) a b d) h (.nm r' h') ∧ y8 r' = a ∧ y9 r' = b ∧ y10 r' = d ∧ y25 r' = .bool (!fL v) ∧ Old h h' ∧ Wf h' := by
 obtain ⟨x1, h1, f1, f2, f3, f4⟩ := Di W (el := 3) (z := i0) v.kind
 have n1 := qd (h := h1) e38 f2 (by simp)
 cases hk : small v.kind with
 | true =>
  have n1 : Cv p 63 [x1] h1 (.bool true) h1 := by simpa [hk] using n1
  obtain ⟨x2, h2, g1, g2, g3, g4⟩ := xp f4 (el := 9) (z := iS) v.s
  have n2 : Cv p 64 [x2] h2 (.bool (Cod.short v.s)) h2 := by simpa using oY (h := h2) e39 g2 (by simp)
  refine ⟨_, h2, .step (v := .ptr j 0) (h' := h) rfl <| .step (v := i64 v.kind) (h' := h) (aP c rfl) <| .step (v := x1) (h' := h1) f1 <| .call (v := .bool true) (h' := h1) n1 <|
   .step (v := .bool false) (h' := h1) rfl <| .step (v := .bool false) (h' := h1) rfl <| .on rfl <| .step (v := .ptr j 2) (h' := h1) rfl <| .on rfl <| .step (v := bu v.s) (h' := h1) (aj (c.old f3) 2 rfl) <|
   .on rfl <| .step (v := x2) (h' := h2) g1 <| .on rfl <| .call (v := .bool (Cod.short v.s)) (h' := h2) n2 <| .on rfl <| .step (v := .bool (!Cod.short v.s)) (h' := h2) (dQ _) <| .step (v := .bool (!Cod.short v.s)) (h' := h2) rfl <| .nil,
   rfl, rfl, rfl, ?_, f3.trans g3, g4⟩
  unfold fL
  rw [hk]; rfl
 | false =>
  have n1 : Cv p 63 [x1] h1 (.bool false) h1 := by simpa [hk] using n1
  refine ⟨_, h1, .step (v := .ptr j 0) (h' := h) rfl <| .step (v := i64 v.kind) (h' := h) (aP c rfl) <| .step (v := x1) (h' := h1) f1 <| .call (v := .bool false) (h' := h1) n1 <|
   .step (v := .bool true) (h' := h1) rfl <| .step (v := .bool true) (h' := h1) rfl <| .off rfl <| .off rfl <| .off rfl <| .off rfl <| .off rfl <| .step (v := .bool true) (h' := h1) rfl <| .nil,
   rfl, rfl, rfl, ?_, f3, f4⟩
  unfold fL
  rw [hk]; rfl
theorem Mf {body c A : AC} {bb : Bool} {i : Nat} {r r0 : A2} {P : Hp → Prop} (key : ∃ s, (∃ h', P h' ∧ ((∃ r', s = .ex i r' h' ∧ bb = true) ∨ (s = .ret (T0 (.bool false)) h' ∧ bb = false))) ∧ Rn p (.loop body) r h s)
  (fin : ∀ r' h', Rn p A r' h' (.ret (T0 (.bool true)) h')) (pre : ∀ s, Rn p (.block i (.loop body)) r h s → Rn p c r0 h1 s) : ∃ h', P h' ∧ Rn p (.seq c A) r0 h1 (.ret (T0 (.bool bb)) h') := by
 obtain ⟨s, ⟨h', hp, ⟨r', rfl, rfl⟩ | ⟨rfl, rfl⟩⟩, k⟩ := key
 ·exact ⟨h', hp, .seq (pre _ (.br k)) (fin _ _)⟩
 ·exact ⟨h', hp, .cX (pre _ (.cA k))⟩
def bh : AC → AC
 | .ag _ x => x
 | .seq _ x => x
 | c => c
theorem PZ (e38 : ak 63 p.fs = f63) (e39 : ak 64 p.fs = f64) (e40 : ak 65 p.fs = f65) (W : Wf h) {row : List lU} (r : dU h x row) (hn : row.length < 9223372036854775807) :
  ∃ h', Cv p 65 [x] h (.bool (decide (row.length ≤ 255) && row.all fL)) h' ∧ Old h h' ∧ Wf h' := by
 obtain ⟨q, o', sl, g⟩ := cT.sl r
 by_cases hl : row.length ≤ 255
 ·have fin : ∃ h', (Old h h' ∧ Wf h') ∧ Rn p (bh x65) (T13 x) h (.ret (T0 (.bool (row.all fL))) h') := by
   refine Mf (r := T33 x (i64 row.length) i0) (h := h) ?_ (fun r' h' => .aJ fun c i K => rfl) (fun s e => .di (r' := T33 x (i64 row.length) i0) (h' := h) (fun c i K => ?_) e)
   ·refine eo row.length (Inv := fun i r h' => r = T33 x (i64 row.length) (i64 i) ∧ (Old h h' ∧ Wf h') ∧ (row.take i).all fL = true) (fun i r h' hi I => ?_) (fun r h' I => ?_) row.length 0 _ h (by omega) ⟨rfl, ⟨.refl h, W⟩, by simp⟩
    ·obtain ⟨rfl, ⟨O, W'⟩, I⟩ := I
     obtain ⟨l, l1, l2, rfl⟩ := g i hi
     obtain ⟨j, h2, c1, c2, c3, c4, c5, _⟩ := vO (el := 48) W' sl hi (l2.old O) l1 (c0 := .k1 (Y3 i0 i0 iS)) trivial (by decide)
     obtain ⟨r3, h3, o1, o2, o3, o4, o5, o6, o7⟩ := Me (p := p) (a := x) (b := i64 row.length) (d := i64 i) e38 e39 c5 (c3.cs (k := 0) (m := iQ row[i]) (fun j hj => ⟨by omega, by simp⟩) (by simp))
     have s1 : ∀ c i' (K : A2 → Hp → RS), k65_2 c i' K (T33 x (i64 row.length) (i64 i)) h' = K (T33 x (i64 row.length) (i64 i)) h' := fun c i' K => by
      simp only [k65_2, K3, t33_8, t33_9, t33_10]
      (rw [aV, bC, if_pos (by omega)]; try rfl)
     have s2 : ∀ c i' (K : A2 → Hp → RS), k65_3 c i' K (T33 x (i64 row.length) (i64 i)) h' = K (T34 (.ptr j 0) x (i64 row.length) (i64 i)) h2 := fun c i' K => by
      simp only [k65_3, K3, t33_8, t33_9, t33_10]
      (rw [c1]; try rfl)
     have s3 : ∀ c i' (K : A2 → Hp → RS), k65_4 c i' K r3 h3 = Seat.I (.bool (!fL row[i])) (.ret (T0 (.bool false)) h3) (.nm (T33 x (i64 row.length) (i64 i)) h3) := fun c i' K => by
      simp only [k65_4, K4, o2, o3, o4, o5]
     cases hs : fL row[i] with
     | true =>
      refine .inl ⟨_, h3, .di s1 (.seq (.block (.di s2 (.seq (.ops o1) (.aJ fun c i' K => by rw [s3, hs, Bool.not_true, dP])))) (.aJ (s := .nm (T33 x (i64 row.length) (i64 (i + 1))) h3) fun c i' K => ?_)), rfl, ⟨(O.trans c4).trans o6, o7⟩, by rw [gA hi, I, hs]; rfl⟩
      simp only [k65_5, K3, t33_8, t33_9, t33_10]
      (rw [lh, gW _ (by unfold cS; simp; omega)]; try rfl)
     | false =>
      exact .inr ⟨_, ⟨h3, ⟨(O.trans c4).trans o6, o7⟩, .inr ⟨rfl, all_false hi hs⟩⟩, .dV (.di s1 (.cX (.cA (.di s2 (.seq (.ops o1) (.aJ fun c i' K => by rw [s3, hs, Bool.not_false, ew]))))))⟩
    ·obtain ⟨rfl, O, I⟩ := I
     refine ⟨_, ⟨h', O, .inl ⟨T5, rfl, by simpa using I⟩⟩, .cW (.aJ fun c i' K => ?_)⟩
     simp only [k65_2, K3, t33_8, t33_9, t33_10]
     (rw [aV, bC, if_neg (by omega)]; try rfl)
   ·simp only [k65_1, K1, tn]
    (rw [aR (fg sl)]; try rfl)
  obtain ⟨h', O, k⟩ := fin
  refine ⟨h', .of (r' := T0 (.bool (row.all fL))) (h1 := h') e40 (by simp) (.di (r' := T13 x) (h' := h) (fun c i K => ?_) k) (by rw [decide_eq_true hl]; rfl), O⟩
  simp only [k65_0, K1, cm]
  (rw [aR (fg sl), gy, bR, bC, if_neg (by show ¬ (255 : Int) < _; omega)]; try rfl)
 ·refine ⟨h, .of (r' := T0 (.bool false)) (h1 := h) e40 (by simp) (.aJ fun c i K => ?_) (by rw [decide_eq_false hl]; rfl), .refl h, W⟩
  simp only [k65_0, K1, cm]
  (rw [aR (fg sl), gy, bR, bC, if_pos (by show (255 : Int) < _; omega)]; try rfl)
end
open Go.Cod
noncomputable section
variable {p : Pg} {h0 h h' h1 : Hp} {q j : P4} {s : Bs} {x y a b d : AV}
theorem Mg (W : Wf h) {el : Nat} {z : AV} (a b c : Int) : ∃ x h', Seat.bs el 1 3 [z, z, z] [.mk 0 1 (.c (i64 a)), .mk 1 1 (.c (i64 b)), .mk 2 1 (.c (i64 c))] h = .ok x h' ∧ cT h' 1 (fun l n => l = [i64 n]) x [a, b, c] ∧ Old h h' ∧ Wf h' := by
 obtain ⟨j, h1, f1, f2, f3, f4, f5, f6⟩ := fm (el := el) (es := 1) (n := 3) (z := [z, z, z]) (ps := [.mk 0 1 (.c (i64 a)), .mk 1 1 (.c (i64 b)), .mk 2 1 (.c (i64 c))]) (l := [i64 a, i64 b, i64 c]) W rfl rfl (by simp)
 refine ⟨_, h1, f1, ⟨j, 0, .inl ⟨3, by simp, rfl⟩, fun i hi => ⟨_, rfl, f3.cs (k := 0 + i * 1) (m := [i64 ([a, b, c][i])]) (fun k hk => ?_) (by simp at hi ⊢; omega), rfl⟩⟩, f4, f5⟩
 have hk : k = 0 := by simpa using hk
 subst hk
 have hi : i < 3 := hi
 match i, hi with
 | 0, _ => exact ⟨by simp, rfl⟩
 | 1, _ => exact ⟨by simp, rfl⟩
 | 2, _ => exact ⟨by simp, rfl⟩
theorem Mh (W : Wf h) {el : Nat} {z : AV} (a b : Bs) : ∃ x h', Seat.bs el 1 2 [z, z] [.mk 0 1 (.c (bu a)), .mk 1 1 (.c (bu b))] h = .ok x h' ∧ cT h' 1 (fun l n => l = [bu n]) x [a, b] ∧ Old h h' ∧ Wf h' := by
 obtain ⟨j, h1, f1, f2, f3, f4, f5, f6⟩ := fm (el := el) (es := 1) (n := 2) (z := [z, z]) (ps := [.mk 0 1 (.c (bu a)), .mk 1 1 (.c (bu b))]) (l := [bu a, bu b]) W rfl rfl (by simp)
 refine ⟨_, h1, f1, ⟨j, 0, .inl ⟨2, by simp, rfl⟩, fun i hi => ⟨_, rfl, f3.cs (k := 0 + i * 1) (m := [bu ([a, b][i])]) (fun k hk => ?_) (by simp at hi ⊢; omega), rfl⟩⟩, f4, f5⟩
 have hk : k = 0 := by simpa using hk
 subst hk
 have hi : i < 2 := hi
 match i, hi with
 | 0, _ => exact ⟨by simp, rfl⟩
 | 1, _ => exact ⟨by simp, rfl⟩
theorem cT.len {α : Type} {es : Nat} {f : List AV → α → Prop} {x : AV} {xs : List α} (r : cT h es f x xs) : Am.len x h = .ok (.int .i64 (xs.length : Int)) h := by
 obtain ⟨q, o, sl, _⟩ := cT.sl r
 exact fg sl
def fst : AC → AC
 | .seq a _ => a
 | .ag _ a => a
 | .block _ a => a
 | .loop a => a
 | c => c
def dp : Nat → AC → AC
 | 0, c => c
 | n + 1, c => dp n (fst c)
def opsL : AC → List GI
 | .ops l => l
 | _ => []
theorem NQ (n : Nat) : bK .gt (i64 n) (pi 255) h = .ok (.bool (!decide (n ≤ 255))) h := by
 show cB (.int .i64 n) (.int .i64 (.ofNat 255)) h = _
 rw [gy, ← decide_not]
 congr 2
 rw [decide_eq_decide]
 show (255 : Int) < _ ↔ _
 omega
def kS (e : po) : Bool := (small e.au && small e.seq && small e.kind) && (Cod.short e.name && Cod.short e.text) && decide (e.bB.length ≤ 255) && decide (e.changes.length ≤ 255)
theorem Mi (e38 : ak 63 p.fs = f63) (e39 : ak 64 p.fs = f64) {e : po} (W : Wf h) (c : Cs h j 0 (cE x y e)) (r1 : aQ h x e.bB) (r2 : aZ h y e.changes) :
  ∃ r' h', Os p (opsL (fst (fst (bh x36)))) (T26 (.ptr j 0)) h (.nm r' h') ∧ y1 r' = .ptr j 0 ∧ y36 r' = .bool (!kS e) ∧ Old h h' ∧ Wf h' := by
 obtain ⟨x1, h1, f1, f2, f3, f4⟩ := Mg W (el := 3) (z := i0) e.au e.seq e.kind
 have n1 := qd (h := h1) e38 f2 (by simp)
 cases hk : [e.au, e.seq, e.kind].all small with
 | false =>
  rw [hk] at n1
  refine ⟨_, h1, .step (v := .ptr j 0) (h' := h) rfl <| .step (v := i64 e.au) (h' := h) (aP c rfl) <| .step (v := .ptr j 1) (h' := h) rfl <| .step (v := i64 e.seq) (h' := h) (aj c 1 rfl) <| .step (v := .ptr j 2) (h' := h) rfl <| .step (v := i64 e.kind) (h' := h) (aj c 2 rfl) <| .step (v := x1) (h' := h1) f1 <| .call (v := .bool false) (h' := h1) n1 <| .step (v := .bool true) (h' := h1) rfl <| .step (v := .bool true) (h' := h1) rfl <| .off rfl <| .off rfl <| .off rfl <| .off rfl <| .off rfl <| .off rfl <| .off rfl <| .step (v := .bool true) (h' := h1) rfl <| .step (v := .bool true) (h' := h1) rfl <| .off rfl <| .off rfl <| .off rfl <| .off rfl <| .step (v := .bool true) (h' := h1) rfl <| .step (v := .bool true) (h' := h1) rfl <| .off rfl <| .off rfl <| .off rfl <| .off rfl <| .step (v := .bool true) (h' := h1) rfl <| .nil, rfl, ?_, f3, f4⟩
  have : (small e.au && small e.seq && small e.kind) = false := by simpa [Bool.and_assoc] using hk
  unfold kS; rw [this]; rfl
 | true =>
  rw [hk] at n1
  have k1 : (small e.au && small e.seq && small e.kind) = true := by simpa [Bool.and_assoc] using hk
  obtain ⟨x2, h2, g1, g2, g3, g4⟩ := Mh f4 (el := 9) (z := iS) e.name e.text
  have n2 := oY (h := h2) e39 g2 (by simp)
  cases hk2 : [e.name, e.text].all Cod.short with
  | false =>
   rw [hk2] at n2
   refine ⟨_, h2, .step (v := .ptr j 0) (h' := h) rfl <| .step (v := i64 e.au) (h' := h) (aP c rfl) <| .step (v := .ptr j 1) (h' := h) rfl <| .step (v := i64 e.seq) (h' := h) (aj c 1 rfl) <| .step (v := .ptr j 2) (h' := h) rfl <| .step (v := i64 e.kind) (h' := h) (aj c 2 rfl) <| .step (v := x1) (h' := h1) f1 <| .call (v := .bool true) (h' := h1) n1 <| .step (v := .bool false) (h' := h1) rfl <| .step (v := .bool false) (h' := h1) rfl <| .on rfl <| .step (v := .ptr j 3) (h' := h1) rfl <| .on rfl <| .step (v := bu e.name) (h' := h1) (aj (c.old f3) 3 rfl) <| .on rfl <| .step (v := .ptr j 4) (h' := h1) rfl <| .on rfl <| .step (v := bu e.text) (h' := h1) (aj (c.old f3) 4 rfl) <| .on rfl <| .step (v := x2) (h' := h2) g1 <| .on rfl <| .call (v := .bool false) (h' := h2) n2 <| .on rfl <| .step (v := .bool true) (h' := h2) rfl <| .step (v := .bool true) (h' := h2) rfl <| .step (v := .bool true) (h' := h2) rfl <| .off rfl <| .off rfl <| .off rfl <| .off rfl <| .step (v := .bool true) (h' := h2) rfl <| .step (v := .bool true) (h' := h2) rfl <| .off rfl <| .off rfl <| .off rfl <| .off rfl <| .step (v := .bool true) (h' := h2) rfl <| .nil, rfl, ?_, f3.trans g3, g4⟩
   have : (Cod.short e.name && Cod.short e.text) = false := by simpa using hk2
   unfold kS; rw [k1, this]; rfl
  | true =>
   rw [hk2] at n2
   have k2 : (Cod.short e.name && Cod.short e.text) = true := by simpa using hk2
   have gt3 := NQ (h := h2) e.bB.length
   have gt4 := NQ (h := h2) e.changes.length
   cases hk3 : decide (e.bB.length ≤ 255) with
   | false =>
    rw [hk3] at gt3
    refine ⟨_, h2, .step (v := .ptr j 0) (h' := h) rfl <| .step (v := i64 e.au) (h' := h) (aP c rfl) <| .step (v := .ptr j 1) (h' := h) rfl <| .step (v := i64 e.seq) (h' := h) (aj c 1 rfl) <| .step (v := .ptr j 2) (h' := h) rfl <| .step (v := i64 e.kind) (h' := h) (aj c 2 rfl) <| .step (v := x1) (h' := h1) f1 <| .call (v := .bool true) (h' := h1) n1 <| .step (v := .bool false) (h' := h1) rfl <| .step (v := .bool false) (h' := h1) rfl <| .on rfl <| .step (v := .ptr j 3) (h' := h1) rfl <| .on rfl <| .step (v := bu e.name) (h' := h1) (aj (c.old f3) 3 rfl) <| .on rfl <| .step (v := .ptr j 4) (h' := h1) rfl <| .on rfl <| .step (v := bu e.text) (h' := h1) (aj (c.old f3) 4 rfl) <| .on rfl <| .step (v := x2) (h' := h2) g1 <| .on rfl <| .call (v := .bool true) (h' := h2) n2 <| .on rfl <| .step (v := .bool false) (h' := h2) rfl <| .step (v := .bool false) (h' := h2) rfl <| .step (v := .bool false) (h' := h2) rfl <| .on rfl <| .step (v := .ptr j 5) (h' := h2) rfl <| .on rfl <| .step (v := x) (h' := h2) (aj (c.old (f3.trans g3)) 5 rfl) <| .on rfl <| .step (v := i64 e.bB.length) (h' := h2) (cT.len (aQ.up r1 (f3.trans g3))) <| .on rfl <| .step (v := .bool true) (h' := h2) gt3 <| .step (v := .bool true) (h' := h2) rfl <| .step (v := .bool true) (h' := h2) rfl <| .off rfl <| .off rfl <| .off rfl <| .off rfl <| .step (v := .bool true) (h' := h2) rfl <| .nil, rfl, ?_, f3.trans g3, g4⟩
    unfold kS; rw [k1, k2, hk3]; rfl
   | true =>
    rw [hk3] at gt3
    refine ⟨_, h2, .step (v := .ptr j 0) (h' := h) rfl <| .step (v := i64 e.au) (h' := h) (aP c rfl) <| .step (v := .ptr j 1) (h' := h) rfl <| .step (v := i64 e.seq) (h' := h) (aj c 1 rfl) <| .step (v := .ptr j 2) (h' := h) rfl <| .step (v := i64 e.kind) (h' := h) (aj c 2 rfl) <| .step (v := x1) (h' := h1) f1 <| .call (v := .bool true) (h' := h1) n1 <| .step (v := .bool false) (h' := h1) rfl <| .step (v := .bool false) (h' := h1) rfl <| .on rfl <| .step (v := .ptr j 3) (h' := h1) rfl <| .on rfl <| .step (v := bu e.name) (h' := h1) (aj (c.old f3) 3 rfl) <| .on rfl <| .step (v := .ptr j 4) (h' := h1) rfl <| .on rfl <| .step (v := bu e.text) (h' := h1) (aj (c.old f3) 4 rfl) <| .on rfl <| .step (v := x2) (h' := h2) g1 <| .on rfl <| .call (v := .bool true) (h' := h2) n2 <| .on rfl <| .step (v := .bool false) (h' := h2) rfl <| .step (v := .bool false) (h' := h2) rfl <| .step (v := .bool false) (h' := h2) rfl <| .on rfl <| .step (v := .ptr j 5) (h' := h2) rfl <| .on rfl <| .step (v := x) (h' := h2) (aj (c.old (f3.trans g3)) 5 rfl) <| .on rfl <| .step (v := i64 e.bB.length) (h' := h2) (cT.len (aQ.up r1 (f3.trans g3))) <| .on rfl <| .step (v := .bool false) (h' := h2) gt3 <| .step (v := .bool false) (h' := h2) rfl <| .step (v := .bool false) (h' := h2) rfl <| .on rfl <| .step (v := .ptr j 6) (h' := h2) rfl <| .on rfl <| .step (v := y) (h' := h2) (aj (c.old (f3.trans g3)) 6 rfl) <| .on rfl <| .step (v := i64 e.changes.length) (h' := h2) (cT.len (aZ.up r2 (f3.trans g3))) <| .on rfl <| .step (v := .bool (!decide (e.changes.length ≤ 255))) (h' := h2) gt4 <| .step (v := .bool (!decide (e.changes.length ≤ 255))) (h' := h2) rfl <| .nil, rfl, ?_, f3.trans g3, g4⟩
    unfold kS; rw [k1, k2, hk3]; rfl
theorem Mj (e38 : ak 63 p.fs = f63) (e39 : ak 64 p.fs = f64) {cl : Bs × Int} (W : Wf h) (c : Cs h j 0 [bu cl.1, i64 cl.2]) :
  ∃ r' h', Os p (opsL (dp 9 (bh (bh x36)))) (T28 a (.ptr j 0) b d y) h (.nm r' h') ∧ y1 r' = a ∧ y38 r' = b ∧ y39 r' = d ∧ y40 r' = y ∧ y55 r' = .bool (!(Cod.short cl.1 && small cl.2)) ∧ Old h h' ∧ Wf h' := by
 obtain ⟨x1, h1, f1, f2, f3, f4⟩ := Di W (el := 3) (z := i0) cl.2
 have n1 := qd (h := h1) e38 f2 (by simp)
 cases hk : small cl.2 with
 | true =>
  have n1 : Cv p 63 [x1] h1 (.bool true) h1 := by simpa [hk] using n1
  obtain ⟨x2, h2, g1, g2, g3, g4⟩ := xp f4 (el := 9) (z := iS) cl.1
  have n2 : Cv p 64 [x2] h2 (.bool (Cod.short cl.1)) h2 := by simpa using oY (h := h2) e39 g2 (by simp)
  refine ⟨_, h2, .step (v := .ptr j 1) (h' := h) rfl <| .step (v := i64 cl.2) (h' := h) (aj c 1 rfl) <| .step (v := x1) (h' := h1) f1 <| .call (v := .bool true) (h' := h1) n1 <| .step (v := .bool false) (h' := h1) rfl <| .step (v := .bool false) (h' := h1) rfl <| .on rfl <| .step (v := .ptr j 0) (h' := h1) rfl <| .on rfl <| .step (v := bu cl.1) (h' := h1) (aP (c.old f3) rfl) <| .on rfl <| .step (v := x2) (h' := h2) g1 <| .on rfl <| .call (v := .bool (Cod.short cl.1)) (h' := h2) n2 <| .on rfl <| .step (v := .bool (!Cod.short cl.1)) (h' := h2) (dQ _) <| .step (v := .bool (!Cod.short cl.1)) (h' := h2) rfl <| .nil, rfl, rfl, rfl, rfl, ?_, f3.trans g3, g4⟩
  rw [Bool.and_true]; rfl
 | false =>
  have n1 : Cv p 63 [x1] h1 (.bool false) h1 := by simpa [hk] using n1
  refine ⟨_, h1, .step (v := .ptr j 1) (h' := h) rfl <| .step (v := i64 cl.2) (h' := h) (aj c 1 rfl) <| .step (v := x1) (h' := h1) f1 <| .call (v := .bool false) (h' := h1) n1 <| .step (v := .bool true) (h' := h1) rfl <| .step (v := .bool true) (h' := h1) rfl <| .off rfl <| .off rfl <| .off rfl <| .off rfl <| .off rfl <| .step (v := .bool true) (h' := h1) rfl <| .nil, rfl, rfl, rfl, rfl, ?_, f3, f4⟩
  rw [Bool.and_false]; rfl
def Qa (r : List lU) : Bool := decide (r.length ≤ 255) && r.all fL
theorem Mk (e38 : ak 63 p.fs = f63) (e39 : ak 64 p.fs = f64) (e40 : ak 65 p.fs = f65) {cg : mI} (W : Wf h) (c : Cs h j 0 (uB x cg)) (r : dU h x cg.row) (hn : cg.row.length < 9223372036854775807) :
  ∃ r' h', Os p (opsL (dp 9 (bh (bh (bh x36))))) (T30 (.ptr j 0) a b d) h (.nm r' h') ∧ y58 r' = a ∧ y59 r' = b ∧ y60 r' = d ∧ y74 r' = .bool (!iJ cg) ∧ Old h h' ∧ Wf h' := by
 obtain ⟨x1, h1, f1, f2, f3, f4⟩ := xp W (el := 9) (z := iS) cg.table
 have n1 := oY (h := h1) e39 f2 (by simp)
 cases hk : Cod.short cg.table with
 | true =>
  have n1 : Cv p 64 [x1] h1 (.bool true) h1 := by simpa [hk] using n1
  obtain ⟨h2, n2, g3, g4⟩ := PZ (p := p) e38 e39 e40 f4 (dU.up r f3) hn
  refine ⟨_, h2, .step (v := .ptr j 0) (h' := h) rfl <| .step (v := bu cg.table) (h' := h) (aP c rfl) <| .step (v := x1) (h' := h1) f1 <| .call (v := .bool true) (h' := h1) n1 <| .step (v := .bool false) (h' := h1) rfl <| .step (v := .bool false) (h' := h1) rfl <| .on rfl <| .step (v := .ptr j 1) (h' := h1) rfl <| .on rfl <| .step (v := x) (h' := h1) (aj (c.old f3) 1 rfl) <| .on rfl <| .call (v := .bool (Qa cg.row)) (h' := h2) n2 <| .on rfl <| .step (v := .bool (!Qa cg.row)) (h' := h2) (dQ _) <| .step (v := .bool (!Qa cg.row)) (h' := h2) rfl <| .nil, rfl, rfl, rfl, ?_, f3.trans g3, g4⟩
  unfold iJ; rw [hk, Bool.true_and]; rfl
 | false =>
  have n1 : Cv p 64 [x1] h1 (.bool false) h1 := by simpa [hk] using n1
  refine ⟨_, h1, .step (v := .ptr j 0) (h' := h) rfl <| .step (v := bu cg.table) (h' := h) (aP c rfl) <| .step (v := x1) (h' := h1) f1 <| .call (v := .bool false) (h' := h1) n1 <| .step (v := .bool true) (h' := h1) rfl <| .step (v := .bool true) (h' := h1) rfl <| .off rfl <| .off rfl <| .off rfl <| .off rfl <| .step (v := .bool true) (h' := h1) rfl <| .nil, rfl, rfl, rfl, ?_, f3, f4⟩
  unfold iJ; rw [hk]; rfl
theorem zM {α : Type} {f : List AV → α → Prop} {es el : Nat} {c0 : Cl} {xs : List α} {pred : α → Bool} {R : Nat → A2} {Rc : Nat → AV → A2} {kA kB kC kD : KF} {O : List GI} {bl lab : Nat} (rd : cT h es f x xs) (W : Wf h) (g0 : Gd c0) (g1 : es ≤ bM c0)
  (hA : ∀ i h c i' K, i < xs.length → kA c i' K (R i) h = K (R i) h) {Re : A2} (hE : ∀ h c i' K, kA c i' K (R xs.length) h = .ex lab Re h)
  (hB : ∀ i h c i' K, i < xs.length → kB c i' K (R i) h = Seat.X es x (.int .i64 (i : Int)) h (fun g h => Seat.M es g h fun k h => Seat.O el es c0 h fun l h => Seat.S es l k h fun _ h => K (Rc i l) h))
  (hO : ∀ i h2 j l a, i < xs.length → a ∈ xs → f l a → Old h h2 → Wf h2 → Cs h2 j 0 l → ∃ r' h3, Os p O (Rc i (.ptr j 0)) h2 (.nm r' h3) ∧ Old h2 h3 ∧ Wf h3 ∧ ∀ c i' K, kC c i' K r' h3 = Seat.I (.bool (!pred a)) (.ret (T0 (.bool false)) h3) (.nm (R i) h3))
  (hD : ∀ i h c i' K, i < xs.length → kD c i' K (R i) h = .nm (R (i + 1)) h) :
  ∃ s, (∃ h', (Old h h' ∧ Wf h') ∧ ((s = .ex lab Re h' ∧ xs.all pred = true) ∨ (s = .ret (T0 (.bool false)) h' ∧ xs.all pred = false))) ∧ Rn p (.loop (.ag kA (.seq (.block bl (.ag kB (.seq (.ops O) (.ag kC .skip)))) (.ag kD .skip)))) (R 0) h s := by
 obtain ⟨q, o', sl, g⟩ := cT.sl rd
 refine eo xs.length (Inv := fun i r h' => r = R i ∧ (Old h h' ∧ Wf h') ∧ (xs.take i).all pred = true) (fun i r h' hi I => ?_) (fun r h' I => ?_) xs.length 0 _ h (by omega) ⟨rfl, ⟨.refl h, W⟩, by simp⟩
 ·obtain ⟨rfl, ⟨O, W'⟩, I⟩ := I
  obtain ⟨l, l1, l2, l3⟩ := g i hi
  obtain ⟨j, h2, c1, c2, c3, c4, c5, _⟩ := vO (el := el) W' sl hi (l2.old O) l1 (c0 := c0) g0 g1
  obtain ⟨r3, h3, o1, o6, o7, o8⟩ := hO i h2 j l xs[i] hi (by simp) l3 (O.trans c4) c5 (c3.cs (k := 0) (m := l) (fun j hj => ⟨by omega, by simp⟩) (by simp))
  have s2 : ∀ c i' (K : A2 → Hp → RS), kB c i' K (R i) h' = K (Rc i (.ptr j 0)) h2 := fun c i' K => by rw [hB i h' c i' K hi, c1]
  cases hs : pred xs[i] with
  | true =>
   exact .inl ⟨_, h3, .di (fun c i' K => hA i h' c i' K hi) (.seq (.block (.di s2 (.seq (.ops o1) (.aJ fun c i' K => by rw [o8, hs, Bool.not_true, dP])))) (.aJ fun c i' K => hD i h3 c i' K hi)), rfl, ⟨(O.trans c4).trans o6, o7⟩, by rw [gA hi, I, hs]; rfl⟩
  | false =>
   exact .inr ⟨_, ⟨h3, ⟨(O.trans c4).trans o6, o7⟩, .inr ⟨rfl, all_false hi hs⟩⟩, .dV (.di (fun c i' K => hA i h' c i' K hi) (.cX (.cA (.di s2 (.seq (.ops o1) (.aJ fun c i' K => by rw [o8, hs, Bool.not_false, ew]))))))⟩
 ·obtain ⟨rfl, O, I⟩ := I
  exact ⟨_, ⟨h', O, .inl ⟨rfl, by simpa using I⟩⟩, .cW (.aJ fun c i' K => hE h' c i' K)⟩
end
open Go.Cod
noncomputable section
variable {p : Pg} {h0 h h' h1 : Hp} {q j : P4} {s : Bs} {x y a b d : AV}
theorem Ob.c0 {el : Nat} {ex : Bool} {fl : Fl} {l : List AV} (o : Ob h j el ex fl l) : Cs h j 0 l := o.cs (k := 0) (m := l) (fun k hk => ⟨by omega, by simp⟩) (by simp)
structure Ml (p : Pg) : Prop where
 e10 : ak 14 p.fs = f14
 e26 : ak 36 p.fs = f36
 e38 : ak 63 p.fs = f63
 e39 : ak 64 p.fs = f64
 e40 : ak 65 p.fs = f65
theorem dj {h : Hp} {k : AV → Hp → RS} {i n : Nat} (hi : i < n) (hn : n < 9223372036854775807) : Seat.D (i64 (i : Int)) i1 h k = k (i64 ((i + 1 : Nat) : Int)) h := by
 rw [lh, gW _ (by unfold cS; simp; omega)]; rfl
theorem zN (T : Ml p) (W : Wf h) {l : List AV} {e : po} {B : Nat} (r : vQ h l e) (bd : xF B e) (hB : B < 9223372036854775807) : ∃ h', Cv p 36 [.agg l] h (.bool (takes e)) h' ∧ Old h h' ∧ Wf h' := by
 obtain ⟨x, y, rfl, r1, r2⟩ := r
 obtain ⟨b1, b2, b3, b4, b5, b6, b7, b8, b9⟩ := bd
 obtain ⟨j, h1, f1, f2, f3, f4, f5, f6⟩ := lj (el := 28) (l := cE x y e) W (by simp [cE])
 obtain ⟨r3, h3, o1, o2, o3, o4, o5⟩ := Mi (p := p) T.e38 T.e39 f5 (Ob.c0 f3) (aQ.up r1 f4) (aZ.up r2 f4)
 have ht : takes e = (kS e && e.bB.all (fun c => Cod.short c.1 && small c.2) && e.changes.all iJ) := by unfold takes kS; simp only [Bool.and_assoc]
 have s0 : ∀ c i' (K : A2 → Hp → RS), k36_0 c i' K (bE [.agg (cE x y e)] 0 .nil) h = K (T26 (.ptr j 0)) h1 := fun c i' K => by
  simp only [k36_0, K1, cm]
  (rw [jh f1]; try rfl)
 have s1 : ∀ c i' (K : A2 → Hp → RS), k36_1 c i' K r3 h3 = Seat.I (.bool (!kS e)) (.ret (T0 (.bool false)) h3) (.nm (T26 (.ptr j 0)) h3) := fun c i' K => by simp only [k36_1, K2, o2, o3]
 have out : ∀ (bb : Bool) (h' : Hp), Rn p (bh x36) (T26 (.ptr j 0)) h1 (.ret (T0 (.bool bb)) h') → Cv p 36 [.agg (cE x y e)] h (.bool bb) h' := fun bb h' k => .of T.e26 (by simp) (.di s0 k) rfl
 cases hk : kS e with
 | false =>
  refine ⟨h3, out _ _ (.cX (.seq (.ops o1) (.aJ fun c i' K => ?_))), f4.trans o4, o5⟩
  rw [s1, hk, Bool.not_false, ew, ht, hk]; rfl
 | true =>
  have O3 := f4.trans o4
  have c3 := (Ob.c0 f3).old o4
  have rc := aQ.up r1 O3
  have a1 : ∀ c i' (K : A2 → Hp → RS), k36_2 c i' K (T26 (.ptr j 0)) h3 = K (T27 (.ptr j 0) x (i64 e.bB.length) i0) h3 := fun c i' K => by
   simp only [k36_2, K1, t26_1]
   (rw [an, aD (aj c3 5 rfl), aR (cT.len rc)]; try rfl)
  obtain ⟨s4, ⟨h4, ⟨O4, W4⟩, k4⟩, l4⟩ := zM (p := p) (c0 := .k1 (Y2 iS i0)) (el := 42) (pred := fun c : Bs × Int => Cod.short c.1 && small c.2) (R := fun i => T27 (.ptr j 0) x (i64 e.bB.length) (i64 i)) (Rc := fun i l => T28 (.ptr j 0) l x (i64 e.bB.length) (i64 i))
   (kA := k36_3) (kB := k36_4) (kC := k36_5) (kD := k36_6) (O := opsL (dp 9 (bh (bh x36)))) (bl := 1) (lab := 0) rc o5 trivial (by decide)
   (fun i h c i' K hi => by
    simp only [k36_3, K4, t27_1, t27_38, t27_39, t27_40]
    (rw [aV, bC, if_pos (by omega)]; try rfl))
   (Re := T26 (.ptr j 0)) (fun h c i' K => by
    simp only [k36_3, K4, t27_1, t27_38, t27_39, t27_40]
    (rw [aV, bC, if_neg (by omega)]; try rfl))
   (fun i h c i' K hi => by simp only [k36_4, K4, t27_1, t27_38, t27_39, t27_40])
   (fun i h2 j2 l cl hi hm hl O2 W2 c2 => by
    subst hl
    obtain ⟨r', h3, p1, p2, p3, p4, p5, p6, p7, p8⟩ := Mj (p := p) (a := .ptr j 0) (b := x) (d := i64 e.bB.length) (y := i64 i) T.e38 T.e39 W2 c2
    exact ⟨r', h3, p1, p7, p8, fun c i' K => by simp only [k36_5, K5, p2, p3, p4, p5, p6]⟩)
   (fun i h c i' K hi => by
    simp only [k36_6, K4, t27_1, t27_38, t27_39, t27_40]
    (rw [dj hi (by omega)]; try rfl))
  rcases k4 with ⟨rfl, ha⟩ | ⟨rfl, ha⟩
  ·have O4' := O3.trans O4
   have c4 := c3.old O4
   have rg := aZ.up r2 O4'
   have a2 : ∀ c i' (K : A2 → Hp → RS), k36_7 c i' K (T26 (.ptr j 0)) h4 = K (T29 y (i64 e.changes.length) i0) h4 := fun c i' K => by
    simp only [k36_7, K1, t26_1]
    (rw [an, aD (aj c4 6 rfl), aR (cT.len rg)]; try rfl)
   obtain ⟨s5, ⟨h5, ⟨O5, W5⟩, k5⟩, l5⟩ := zM (p := p) (c0 := .k1 (Y3 iS .ai (.bool false))) (el := 46) (pred := iJ) (R := fun i => T29 y (i64 e.changes.length) (i64 i)) (Rc := fun i l => T30 l y (i64 e.changes.length) (i64 i))
    (kA := k36_8) (kB := k36_9) (kC := k36_10) (kD := k36_11) (O := opsL (dp 9 (bh (bh (bh x36))))) (bl := 3) (lab := 2) rg W4 trivial (by decide)
    (fun i h c i' K hi => by
     simp only [k36_8, K3, t29_58, t29_59, t29_60]
     (rw [aV, bC, if_pos (by omega)]; try rfl))
    (Re := T5) (fun h c i' K => by
     simp only [k36_8, K3, t29_58, t29_59, t29_60]
     (rw [aV, bC, if_neg (by omega)]; try rfl))
    (fun i h c i' K hi => by simp only [k36_9, K3, t29_58, t29_59, t29_60])
    (fun i h2 j2 l cg hi hm hl O2 W2 c2 => by
     obtain ⟨z, rfl, hz⟩ := hl
     obtain ⟨r', h3, p1, p2, p3, p4, p5, p6, p7⟩ := Mk (p := p) (a := y) (b := i64 e.changes.length) (d := i64 i) T.e38 T.e39 T.e40 W2 c2 (dU.up hz O2) (by have := (b9 cg hm).2.1; omega)
     exact ⟨r', h3, p1, p6, p7, fun c i' K => by simp only [k36_10, K4, p2, p3, p4, p5]⟩)
    (fun i h c i' K hi => by
     simp only [k36_11, K3, t29_58, t29_59, t29_60]
     (rw [dj hi (by omega)]; try rfl))
   have pre : ∀ bb h' , Rn p (bh (bh (bh x36))) (T26 (.ptr j 0)) h4 (.ret (T0 (.bool bb)) h') → Rn p (bh x36) (T26 (.ptr j 0)) h1 (.ret (T0 (.bool bb)) h') := fun bb h' k =>
    .seq (.seq (.ops o1) (.aJ (s := .nm (T26 (.ptr j 0)) h3) fun c i' K => by rw [s1, hk, Bool.not_true, dP])) (.seq (.di a1 (.br l4)) k)
   have hb : takes e = e.changes.all iJ := by rw [ht, hk, ha]; simp
   rcases k5 with ⟨rfl, hc⟩ | ⟨rfl, hc⟩
   ·refine ⟨h5, out _ _ (pre _ _ (.seq (.di a2 (.br l5)) (.aJ fun c i' K => ?_))), O4'.trans O5, W5⟩
    rw [hb, hc]; rfl
   ·refine ⟨h5, out _ _ (pre _ _ (.cX (.di a2 (.cA ?_)))), O4'.trans O5, W5⟩
    rw [hb, hc]; exact l5
  ·refine ⟨h4, out _ _ (.seq (.seq (.ops o1) (.aJ (s := .nm (T26 (.ptr j 0)) h3) fun c i' K => ?_)) (.cX (.di a1 (.cA ?_)))), O3.trans O4, W4⟩
   ·rw [s1, hk, Bool.not_true, dP]
   ·rw [ht, hk, ha]
    exact l4
end
open Go.Cod
noncomputable section
variable {p : Pg} {h0 h h' h1 : Hp} {q j : P4} {s : Bs} {x y a b d e f : AV}
theorem fq {α : Type} {g : α → Bs} {l : List α} {i : Nat} (hi : i < l.length) : (l.take (i + 1)).flatMap g = (l.take i).flatMap g ++ g l[i] := by
 rw [List.take_succ_eq_append_getElem hi, List.flatMap_append]; simp
theorem gX {α : Type} {g : α → Bs} (l : List α) (i : Nat) : ((l.take i).flatMap g).length ≤ (l.flatMap g).length := by
 conv => rhs; rw [← List.take_append_drop i l, List.flatMap_append, List.length_append]
 omega
theorem Wr.copy (w : Wr h0 h q s) {es n el o i : Nat} {x : AV} {q' : P4} {l : List AV} (sl : vL x es n q' o) (hi : i < n) (c : Cs h0 q' (o + i * es) l) (hl : l.length = es) {c0 : Cl} (hc : Gd c0) (hr : es ≤ bM c0) :
  ∃ j h1 h0', (∀ K : AV → Hp → RS, Seat.X es x (.int .i64 (i : Int)) h (fun g h => Seat.M es g h fun k h => Seat.O el es c0 h fun l h => Seat.S es l k h fun _ h => K l h) = K (.ptr j 0) h1) ∧ Old h0 h0' ∧ Wr h0' h1 q s ∧ Cs h0' j 0 l := by
 obtain ⟨j, h1, c1, c2, c3, c4, c5, _⟩ := vO (el := el) w.wf sl hi (c.old w.old) hl hc hr
 obtain ⟨h0', g1, g2, g3⟩ := w.base c4 c5
 exact ⟨j, h1, h0', c1, g1, g2, (Ob.c0 c3).eq (g3 j c2)⟩
theorem Jj (T : ER p) {row : List lU} (w : Wr h0 h q s) (r : dU h0 x row) (hs : s.length + (row.flatMap nK).length ≤ 16777216) (hn : row.length < 9223372036854775807) :
  ∃ h', Rn p (.loop (.ag xJ .skip)) (T17 (.ptr q 0) a b d e x (i64 row.length) i0) h (.ex 4 (T17 (.ptr q 0) a b d e x (i64 row.length) (i64 row.length)) h') ∧ Wr h0 h' q (s ++ row.flatMap nK) := by
 obtain ⟨q', o', sl, g⟩ := cT.sl r
 obtain ⟨r', h', ⟨_, I⟩, k⟩ := gU (p := p) (body := .ag xJ .skip) (r := T17 (.ptr q 0) a b d e x (i64 row.length) i0) (h := h) row.length
  (Inv := fun i r h => r = T17 (.ptr q 0) a b d e x (i64 row.length) (i64 i) ∧ Wr h0 h q (s ++ (row.take i).flatMap nK)) (l := 4) (Re := T17 (.ptr q 0) a b d e x (i64 row.length) (i64 row.length)) (fun i r h hi I => by
   obtain ⟨rfl, w⟩ := I
   obtain ⟨l, l1, l2, rfl⟩ := g i hi
   obtain ⟨j, h1, h0', c1, c2, c3, c4⟩ := w.copy (el := 48) sl hi l2 l1 (c0 := .k1 (Y3 i0 i0 iS)) trivial (by decide)
   have hz : (s ++ (row.take i).flatMap nK).length + (nK row[i]).length ≤ 16777216 := by
    have := gX (g := nK) row (i + 1)
    rw [fq hi, List.length_append] at this
    rw [List.length_append]; omega
   have hv : (nK row[i]).length = 8 + 8 + (2 + row[i].s.length) := by unfold nK; simp only [List.length_append, aK, aM]
   obtain ⟨h2, a1, w2⟩ := mz T c3 (n := row[i].kind) (by omega)
   obtain ⟨h3, a2, w3⟩ := mz T w2 (n := row[i].n) (by rw [List.length_append, aK]; omega)
   obtain ⟨h4, a3, w4⟩ := oX T w3 (t := row[i].s) (by rw [List.length_append, List.length_append, aK, aK]; omega)
   refine ⟨T17 (.ptr q 0) a b d e x (i64 row.length) (i64 (i + 1 : Nat)), h4, .ag ((a1.and (a2.and a3)).mono fun m g => ?_), rfl, ?_⟩
   ·obtain ⟨g1, g2, g3⟩ := g
    simp only [xJ, K8, t17_3, t17_7, t17_62, t17_63, t17_64, t17_78, t17_79, t17_80]
    (rw [aV, bC, if_pos (by omega), c1, an, aD (aP (c4.old c3.old) rfl), aF g1, an, aD (aj (c4.old w2.old) 1 rfl), aF g2, an, aD (aj (c4.old w3.old) 2 rfl), aF g3, dj hi hn]; try rfl)
   ·have := w4.SZ c2
    rw [fq hi, nK]
    simpa only [List.append_assoc] using this) (fun r h I => by
   obtain ⟨rfl, w⟩ := I
   refine .aJ fun c i K => ?_
   simp only [xJ, K8, t17_3, t17_7, t17_62, t17_63, t17_64, t17_78, t17_79, t17_80]
   (rw [aV, bC, if_neg (by omega)]; try rfl)) ⟨rfl, by simpa using w⟩
 exact ⟨h', k, by simpa using I⟩
theorem zO (c : mI) : (nL c).length = (2 + c.table.length) + 1 + (c.row.flatMap nK).length + 1 := by unfold nL; simp only [List.length_append, aM, bL]
theorem Jk (T : ER p) {cs : List mI} (w : Wr h0 h q s) (r : aZ h0 x cs) (hs : s.length + (cs.flatMap nL).length ≤ 16777216) (hn : cs.length < 9223372036854775807) (hr : ∀ c, c ∈ cs → c.row.length < 9223372036854775807) :
  ∃ h', Rn p (dp 3 (bh (bh (bh (bh x19))))) (T15 (.ptr q 0) x (i64 cs.length) i0) h (.ex 2 (T2 (.ptr q 0)) h') ∧ Wr h0 h' q (s ++ cs.flatMap nL) := by
 obtain ⟨q', o', sl, g⟩ := cT.sl r
 obtain ⟨r', h', ⟨_, I⟩, k⟩ := gU (p := p) (body := dp 4 (bh (bh (bh (bh x19))))) (r := T15 (.ptr q 0) x (i64 cs.length) i0) (h := h) cs.length
  (Inv := fun i r h => r = T15 (.ptr q 0) x (i64 cs.length) (i64 i) ∧ Wr h0 h q (s ++ (cs.take i).flatMap nL)) (l := 2) (Re := T2 (.ptr q 0)) (fun i r h hi I => by
   obtain ⟨rfl, w⟩ := I
   obtain ⟨l, l1, l2, z, rfl, hrow⟩ := g i hi
   obtain ⟨j, h1, h0', c1, c2, c3, c4⟩ := w.copy (el := 46) sl hi l2 l1 (c0 := .k1 (Y3 iS .ai (.bool false))) trivial (by decide)
   have hz : (s ++ (cs.take i).flatMap nL).length + (nL cs[i]).length ≤ 16777216 := by
    have := gX (g := nL) cs (i + 1)
    rw [fq hi, List.length_append] at this
    rw [List.length_append]; omega
   rw [zO] at hz
   have hl := hr cs[i] (by simp)
   obtain ⟨h2, a1, w2⟩ := oX T c3 (t := cs[i].table) (by omega)
   obtain ⟨h3, a2, w3⟩ := rH T w2 (n := cs[i].row.length) (by rw [List.length_append, aM]; omega)
   have hrow' : dU h0' z cs[i].row := dU.up hrow c2
   obtain ⟨h4, a3, w4⟩ := Jj (p := p) (a := .ptr j 0) (b := x) (d := i64 cs.length) (e := i64 i) T w3 hrow' (by rw [List.length_append, List.length_append, aM, bL]; omega) hl
   obtain ⟨h5, a4, w5⟩ := rH T w4 (n := if cs[i].remove then 1 else 0) (by rw [List.length_append, List.length_append, List.length_append, aM, bL]; omega)
   have s1 : ∀ c i' (K : A2 → Hp → RS), k19_6 c i' K (T15 (.ptr q 0) x (i64 cs.length) (i64 i)) h = K (T15 (.ptr q 0) x (i64 cs.length) (i64 i)) h := fun c i' K => by
    simp only [k19_6, K4, t15_3, t15_62, t15_63, t15_64]
    (rw [aV, bC, if_pos (by omega)]; try rfl)
   have s2 : Ev fun m => ∀ K : A2 → Hp → RS, k19_7 (aB p (exec p m)) (aH p (exec p m)) K (T15 (.ptr q 0) x (i64 cs.length) (i64 i)) h = K (T16 (.ptr q 0) (.ptr j 0) x (i64 cs.length) (i64 i)) h3 := (a1.and a2).mono fun m g K => by
    obtain ⟨g1, g2⟩ := g
    simp only [k19_7, K4, t15_3, t15_62, t15_63, t15_64]
    (rw [c1, an, aD (aP (c4.old c3.old) rfl), aF g1, an, aD (aj (c4.old w2.old) 1 rfl), aR (cT.len (dU.up hrow' w2.old)), aF g2]; try rfl)
   have s3 : ∀ c i' (K : A2 → Hp → RS), k19_8 c i' K (T16 (.ptr q 0) (.ptr j 0) x (i64 cs.length) (i64 i)) h3 = K (T17 (.ptr q 0) (.ptr j 0) x (i64 cs.length) (i64 i) z (i64 cs[i].row.length) i0) h3 := fun c i' K => by
    simp only [k19_8, K5, t16_3, t16_7, t16_62, t16_63, t16_64]
    (rw [an, aD (aj (c4.old w3.old) 1 rfl), aR (cT.len (dU.up hrow' w3.old))]; try rfl)
   have s4 : Rn p (.ag k19_10 .skip) (T17 (.ptr q 0) (.ptr j 0) x (i64 cs.length) (i64 i) z (i64 cs[i].row.length) (i64 cs[i].row.length)) h4 (.nm (T15 (.ptr q 0) x (i64 cs.length) (i64 i)) h5) := .ag (a4.mono fun m g4 => by
    simp only [k19_10, K5, t17_3, t17_7, t17_62, t17_63, t17_64]
    (rw [an, aD (aj (c4.old w4.old) 2 rfl), RQ]; try rfl)
    cases hb : cs[i].remove with
    | true =>
     rw [hb] at g4
     rw [if_pos rfl]
     exact aF g4
    | false =>
     rw [hb] at g4
     rw [if_neg (by simp)]
     exact aF g4)
   have s5 : ∀ c i' (K : A2 → Hp → RS), k19_11 c i' K (T15 (.ptr q 0) x (i64 cs.length) (i64 i)) h5 = .nm (T15 (.ptr q 0) x (i64 cs.length) (i64 (i + 1 : Nat))) h5 := fun c i' K => by
    simp only [k19_11, K4, t15_3, t15_62, t15_63, t15_64]
    (rw [dj hi hn]; try rfl)
   refine ⟨_, h5, .di s1 (.seq (.block (.to s2 (.seq (.di s3 (.br a3)) s4))) (.aJ s5)), rfl, ?_⟩
   have w6 := w5.SZ c2
   rw [mA _ (by omega)] at w6
   have hb : u64 (if cs[i].remove then 1 else 0) = if cs[i].remove then 1 else 0 := by split <;> rfl
   rw [hb] at w6
   rw [fq hi, nL]
   simpa only [List.append_assoc] using w6) (fun r h I => by
   obtain ⟨rfl, w⟩ := I
   refine .aJ fun c i K => ?_
   simp only [k19_6, K4, t15_3, t15_62, t15_63, t15_64]
   (rw [aV, bC, if_neg (by omega)]; try rfl)) ⟨rfl, by simpa using w⟩
 exact ⟨h', k, by simpa using I⟩
theorem Jl (T : ER p) {cs : List (Bs × Int)} (w : Wr h0 h q s) (r : aQ h0 x cs) (hs : s.length + (cs.flatMap nM).length ≤ 16777216) (hn : cs.length < 9223372036854775807) :
  ∃ h', Rn p (dp 3 (bh (bh x19))) (T14 a (.ptr q 0) x (i64 cs.length) i0) h (.ex 0 (T14 a (.ptr q 0) x (i64 cs.length) (i64 cs.length)) h') ∧ Wr h0 h' q (s ++ cs.flatMap nM) := by
 obtain ⟨q', o', sl, g⟩ := cT.sl r
 obtain ⟨r', h', ⟨_, I⟩, k⟩ := gU (p := p) (body := dp 4 (bh (bh x19))) (r := T14 a (.ptr q 0) x (i64 cs.length) i0) (h := h) cs.length
  (Inv := fun i r h => r = T14 a (.ptr q 0) x (i64 cs.length) (i64 i) ∧ Wr h0 h q (s ++ (cs.take i).flatMap nM)) (l := 0) (Re := T14 a (.ptr q 0) x (i64 cs.length) (i64 cs.length)) (fun i r h hi I => by
   obtain ⟨rfl, w⟩ := I
   obtain ⟨l, l1, l2, rfl⟩ := g i hi
   obtain ⟨j, h1, h0', c1, c2, c3, c4⟩ := w.copy (el := 42) sl hi l2 l1 (c0 := .k1 (Y2 iS i0)) trivial (by decide)
   have hz : (s ++ (cs.take i).flatMap nM).length + (nM cs[i]).length ≤ 16777216 := by
    have := gX (g := nM) cs (i + 1)
    rw [fq hi, List.length_append] at this
    rw [List.length_append]; omega
   have hv : (nM cs[i]).length = (2 + cs[i].1.length) + 8 := by unfold nM; simp only [List.length_append, aK, aM]
   obtain ⟨h2, a1, w2⟩ := oX T c3 (t := cs[i].1) (by omega)
   obtain ⟨h3, a2, w3⟩ := mz T w2 (n := cs[i].2) (by rw [List.length_append, aM]; omega)
   refine ⟨T14 a (.ptr q 0) x (i64 cs.length) (i64 (i + 1 : Nat)), h3, .ag ((a1.and a2).mono fun m g => ?_), rfl, ?_⟩
   ·obtain ⟨g1, g2⟩ := g
    simp only [k19_3, K5, t14_1, t14_3, t14_41, t14_42, t14_43]
    (rw [aV, bC, if_pos (by omega), c1, an, aD (aP (c4.old c3.old) rfl), aF g1, an, aD (aj (c4.old w2.old) 1 rfl), aF g2, dj hi hn]; try rfl)
   ·have := w3.SZ c2
    rw [fq hi, nM]
    simpa only [List.append_assoc] using this) (fun r h I => by
   obtain ⟨rfl, w⟩ := I
   refine .aJ fun c i K => ?_
   simp only [k19_3, K5, t14_1, t14_3, t14_41, t14_42, t14_43]
   (rw [aV, bC, if_neg (by omega)]; try rfl)) ⟨rfl, by simpa using w⟩
 exact ⟨h', k, by simpa using I⟩
end
open Go.Cod
noncomputable section
variable {p : Pg} {h0 h h' h1 h2 : Hp} {q j : P4} {s full : Bs} {x y sv : AV} {r : Rd}
def Fr (q : P4) (h h' : Hp) : Prop := ∀ j, j ≠ q → ah j h ≠ .none → ah j h' = ah j h
theorem Fr.refl (q : P4) (h : Hp) : Fr q h h := fun _ _ _ => rfl
theorem Fr.trans (a : Fr q h h1) (b : Fr q h1 h2) : Fr q h h2 := fun j hq hj => (b j hq (by rw [a j hq hj]; exact hj)).trans (a j hq hj)
theorem Fr.of (O : Old h h') : Fr q h h' := fun j _ hj => O j hj
theorem Fr.old (F : Fr q h h') (O : Old h0 h) (hq : ah q h0 = .none) : Old h0 h' := fun j hj => by
 have e := O j hj
 rw [F j (fun g => by rw [g] at hj; exact hj hq) (by rw [e]; exact hj), e]
theorem Fr.ob (F : Fr q h h') {el : Nat} {ex : Bool} {fl : Fl} {l : List AV} (o : Ob h j el ex fl l) (hj : j ≠ q) : Ob h' j el ex fl l := o.eq (F j hj o.ne)
theorem _root_.Go.Am.Ob.apart {el el' : Nat} {ex ex' : Bool} {fl fl' : Fl} {l l' : List AV} (o : Ob h q el ex fl l) (o' : Ob h j el' ex' fl' l') (g : el ≠ el' ∨ ex ≠ ex') : q ≠ j := by
 rintro rfl
 obtain ⟨c, e, _⟩ := o
 obtain ⟨c', e', _⟩ := o'
 rw [e] at e'
 obtain ⟨a1, _, a2, _⟩ := Obj.cells.inj e'
 rcases g with g | g
 ·exact g a1
 ·exact g a2
theorem Fr.own (F : Fr q h h') {el es el' : Nat} {ex' : Bool} {fl' : Fl} {l l' : List AV} {b : P4 → Prop} (w : dh h x el es l b) (o : Ob h q el' ex' fl' l') (g : el' ≠ el ∨ ex' ≠ false) : dh h' x el es l b := by
 rcases w with w | ⟨k, n, e1, e2, e3, e4⟩
 ·exact .inl w
 ·exact .inr ⟨k, n, e1, e2, F.ob e3 (fun e => (o.apart e3 g) e.symm), e4⟩
structure BC (h : Hp) (q : P4) (sv : AV) (full : Bs) (a : Nat) (why wh : Int) : Prop where
 wf : Wf h
 ob : Ob h q 94 true .plain [sv, i64 a, i64 why, i64 wh]
 own : dh h sv 5 1 (bc full) fun _ => True
 len : full.length ≤ 16777216
 gM : a ≤ full.length
def gF (h : Hp) (q : P4) (r : Rd) : Prop := ∃ sv full a why wh, BC h q sv full a why wh ∧ r = if why = 0 then some (full.drop a) else none
theorem BC.c {a : Nat} {why wh : Int} (w : BC h q sv full a why wh) : Cs h q 0 [sv, i64 a, i64 why, i64 wh] := Ob.c0 w.ob
theorem BC.set {a a' : Nat} {why wh why' wh' : Int} (w : BC h q sv full a why wh) (o : Ob h' q 94 true .plain [sv, i64 a', i64 why', i64 wh']) (g : ∀ j, j ≠ q → ah j h' = ah j h) (hn : h'.next = h.next) (ha : a' ≤ full.length) :
  BC h' q sv full a' why' wh' where
 wf := w.wf.of hn fun j hj => by rw [g j (fun e => by rw [e] at hj; exact w.ob.ne hj)]; exact hj
 ob := o
 own := Fr.own (fun j hj _ => g j hj) w.own w.ob (.inr (by simp))
 len := w.len
 gM := ha
theorem gF.wf (w : gF h q r) : Wf h := let ⟨_, _, _, _, _, w, _⟩ := w; w.wf
theorem gF.ne (w : gF h q r) : ah q h ≠ .none := let ⟨_, _, _, _, _, w, _⟩ := w; w.ob.ne
theorem gF.apart (w : gF h q r) {el : Nat} {ex : Bool} {fl : Fl} {l : List AV} (o : Ob h j el ex fl l) (g : el ≠ 94) : j ≠ q := let ⟨_, _, _, _, _, w, _⟩ := w; o.apart w.ob (.inl g)
theorem gF.up (w : gF h q r) (O : Old h h') (W : Wf h') : gF h' q r := let ⟨sv, full, a, why, wh, w, e⟩ := w; ⟨sv, full, a, why, wh, ⟨W, w.ob.old O, w.own.old fun j _ hj => O j hj, w.len, w.gM⟩, e⟩
theorem gF.fr (w : gF h q r) {el : Nat} {fl : Fl} {l : List AV} (o : Ob h j el true fl l) (hj : el ≠ 94) (F : Fr j h h') (W : Wf h') : gF h' q r :=
 let ⟨sv, full, a, why, wh, w, e⟩ := w
 ⟨sv, full, a, why, wh, ⟨W, F.ob w.ob (fun g => o.apart w.ob (.inl hj) g.symm), F.own w.own o (.inr (by simp)), w.len, w.gM⟩, e⟩
theorem vR {a : Int} (ha : a ≠ 0) : ig (i64 a) i0 h = .ok (.bool true) h := by
 have := Dc (h := h) .i64 a (Int.ofNat 0)
 rw [decide_eq_false (show ¬ a = Int.ofNat 0 from ha)] at this
 exact this
theorem tM {a : Int} (ha : a = 0) : ig (i64 a) i0 h = .ok (.bool false) h := by subst ha; rfl
theorem vS (e99 : ak 72 p.fs = f72) (w : gF h q r) {e n : Int} (he : e ≠ 0) : ∃ h', Cv p 72 [.ptr q 0, i64 e, i64 n] h cM h' ∧ gF h' q none ∧ Fr q h h' := by
 obtain ⟨sv, full, a, why, wh, w, hr⟩ := w
 by_cases hw : why = 0
 ·obtain ⟨h1, g1, g2, g3, g4⟩ := cP (k := 2) (v := i64 e) w.ob (by simp) rfl
  obtain ⟨h2, k1, k2, k3, k4⟩ := cP (k := 3) (v := i64 n) g2 (by simp) rfl
  refine ⟨h2, .qK (r' := T5) (h1 := h2) e99 (by simp) (.ag (.all fun m => ?_)) rfl, ⟨sv, full, a, e, n, w.set k2 (fun j hj => by rw [k3 j hj, g3 j hj]) (by rw [k4, g4]) w.gM, (if_neg he).symm⟩, fun j hj _ => by rw [k3 j hj, g3 j hj]⟩
  simp only [k72_0, K3, qH, qI, qJ]
  (rw [cu, an, aD (aj w.c 2 rfl), zG, bC, if_pos (show why = Int.ofNat 0 from hw), cu, an, cJ g1, cu, an, cJ k1]; try rfl)
 ·refine ⟨h, .qK (r' := T5) (h1 := h) e99 (by simp) (.ag (.all fun m => ?_)) rfl, ⟨sv, full, a, why, wh, w, (if_neg hw).symm⟩, .refl q h⟩
  simp only [k72_0, K3, qH, qI, qJ]
  (rw [cu, an, aD (aj w.c 2 rfl), zG, bC, if_neg (show ¬ why = Int.ofNat 0 from hw)]; try rfl)
def Qb (x : AV) (a k : Nat) : AV := match x with
 | .ft q _ _ _ => .ft q a k 1
 | y => y
theorem BD {b : P4 → Prop} (w : dh h x 5 1 (bc s) b) {a k : Nat} (hk : a + k ≤ s.length) : fu 1 (.c x) (.some (.c (i64 a))) (.some (.c (i64 (a + k : Nat)))) .none .nil h = .ok (Qb x a k) h ∧ dW h (Qb x a k) ((s.drop a).take k) := by
 rcases w with ⟨e, hv⟩ | ⟨k', n, rfl, e2, e3, _⟩
 ·have hs : s = [] := by cases s with | nil => rfl | cons _ _ => simp [bc] at e
  subst hs
  have h1 : a = 0 := by simp at hk; omega
  have h2 : k = 0 := by simp at hk; omega
  subst h1 h2
  rcases hv with rfl | ⟨z, rfl⟩
  ·exact ⟨rfl, .eL 0 0, 0, 0, .inr (.inr ⟨rfl, rfl⟩), rfl, fun g => absurd rfl g⟩
  ·exact ⟨rfl, z, 0, 0, .inl ⟨0, rfl⟩, rfl, fun g => absurd rfl g⟩
 ·rw [bw, Nat.mul_one] at e2
  have hb := e3
  obtain ⟨c, f1, f2, f3⟩ := hb
  refine ⟨?_, k', a, k, .inr (.inl rfl), by simp; omega, fun _ => e3.cs (k := a) (m := bc ((s.drop a).take k)) (fun i hi => ?_) ?_⟩
  ·show (@Bool.rec (fun _ => RV) (.err 42) (Obj.bp (ah k' h) (fun _ m _ _ _ => @Bool.rec (fun _ => RV) (.err 45) (.ok (.ft k' (Nat.add 0 (Nat.mul a 1)) (Nat.sub (a + k) a) 1) h) (Nat.ble (Nat.add 0 (Nat.mul (a + k) 1)) m)) (.err 46)) (Nat.ble a (a + k))) = _
   rw [Nat.ble_eq_true_of_le (Nat.le_add_right a k), f1]
   show (@Bool.rec (fun _ => RV) (.err 45) (.ok (.ft k' (0 + a * 1) (a + k - a) 1) h) (Nat.ble (0 + (a + k) * 1) (bc s).length)) = _
   rw [Nat.ble_eq_true_of_le (show 0 + (a + k) * 1 ≤ (bc s).length by rw [bw]; omega), Nat.mul_one, Nat.zero_add, Nat.add_sub_cancel_left]
   rfl
  ·have hi' : i < k ∧ i < s.length - a := by simpa [bc, Nat.lt_min] using hi
   refine ⟨by rw [bw]; omega, ?_⟩
   simp [bc]
  ·rw [bw, bw]
   simp
   omega
theorem Mm {b : P4 → Prop} (w : dh h x 5 1 (bc s) b) {a k : Nat} (hk : a + k ≤ s.length) : ∃ v, fu 1 (.c x) (.some (.c (i64 a))) (.some (.c (i64 (a + k : Nat)))) .none .nil h = .ok v h ∧ dW h v ((s.drop a).take k) := ⟨_, BD w hk⟩
theorem Jm {a b : Nat} (hb : b ≤ a) (ha : a ≤ 9223372036854775807) : kU (i64 a) (i64 b) h = .ok (i64 ((a - b : Nat) : Int)) h := by
 rw [IZ, gW _ (by unfold cS; omega), show (a : Int) - (b : Int) = ((a - b : Nat) : Int) by omega]
theorem Jn (a b : Int) : cB (i64 a) (i64 b) h = .ok (.bool (decide (b < a))) h := gy _ _ _
theorem Dj (e97 : ak 70 p.fs = f70) (e99 : ak 72 p.fs = f72) (w : gF h q r) {k : Nat} (hk : k ≤ 16777216) : ∃ v h', Cv p 70 [.ptr q 0, i64 k] h v h' ∧ dW h' v (Cod.take k r).1 ∧ gF h' q (Cod.take k r).2 ∧ Fr q h h' := by
 obtain ⟨sv, full, a, why, wh, w, hr⟩ := w
 have n0 : nC (.ptr q 0) h = .ok (.ptr q 0) h := rfl
 have a0 : fA 0 (.ptr q 0) h = .ok (.ptr q 0) h := rfl
 have a1 : fA 1 (.ptr q 0) h = .ok (.ptr q 1) h := rfl
 have l0 : lD (.ptr q 0) h = .ok sv h := aP w.c rfl
 have l1 : lD (.ptr q 1) h = .ok (i64 a) h := aj w.c 1 rfl
 have hfl := w.len
 have hal := w.gM
 by_cases hw : why = 0
 ·rw [if_pos hw] at hr
  have z0 : ∀ c i (K : A2 → Hp → RS), k70_0 c i K (bE [.ptr q 0, i64 k] 0 .nil) h = K (T36 (.ptr q 0) (i64 k)) h := fun c i K => by
   simp only [k70_0, K2, dE, dF]
   (rw [cu, an, aD (aj w.c 2 rfl), aw (tM hw), dP]; try rfl)
  have hs := Jm (h := h) hal (by omega)
  by_cases hl : full.length - a < k
  ·obtain ⟨h1, c1, w1, F1⟩ := vS (p := p) e99 ⟨sv, full, a, why, wh, w, rfl⟩ (e := 10) (n := full.length) (by omega)
   have c1 : Cv p 72 [.ptr q 0, pi 10, i64 full.length] h cM h1 := c1
   have ht : Cod.take k r = ([], none) := by subst hr; unfold Cod.take; simp only [List.length_drop]; rw [if_pos hl]
   rw [ht]
   refine ⟨.ai, h1, .of (r' := T18 .ai) (h1 := h1) e97 (by simp) (.di z0 (.ag (c1.mono fun m g1 => ?_))) rfl, ⟨.eL 0 0, 0, 0, .inr (.inr ⟨rfl, rfl⟩), rfl, fun g => absurd rfl g⟩, w1, F1⟩
   simp only [k70_1, K2, gJ, gK]
   (rw [al n0, al a0, al l0, al (dW.len (dh.BB w.own)), al n0, al a1, al l1, al hs, al (Jn _ _), bC, if_pos (by omega), cu, an, aD (aP w.c rfl), aR (dW.len (dh.BB w.own)), aF g1]; try rfl)
  ·have ht : Cod.take k r = ((full.drop a).take k, some ((full.drop a).drop k)) := by subst hr; unfold Cod.take; simp only [List.length_drop]; rw [if_neg hl]
   rw [ht]
   obtain ⟨h1, g1, g2, g3, g4⟩ := cP (k := 1) (v := i64 (a + k : Nat)) w.ob (by simp) rfl
   have w1 : BC h1 q sv full (a + k) why wh := w.set g2 g3 g4 (by omega)
   obtain ⟨v, s1, s2⟩ := Mm (h := h1) (a := a) (k := k) w1.own (by omega)
   refine ⟨v, h1, .of (r' := T18 v) (h1 := h1) e97 (by simp) (.di z0 (.di (r' := T36 (.ptr q 0) (i64 k)) (h' := h) (fun c i K => ?_) (.di (r' := T36 (.ptr q 0) (i64 k)) (h' := h1) (fun c i K => ?_) (.aJ fun c i K => ?_)))) rfl, s2, ⟨sv, full, a + k, why, wh, w1, by rw [if_pos hw, List.drop_drop]⟩, fun j hj _ => g3 j hj⟩
   ·simp only [k70_1, K2, gJ, gK]
    (rw [al n0, al a0, al l0, al (dW.len (dh.BB w.own)), al n0, al a1, al l1, al hs, al (Jn _ _), bC, if_neg (by omega)]; try rfl)
   ·simp only [k70_2, K2, gJ, gK]
    have hd : ∀ K : AV → Hp → RS, Seat.D (i64 a) (i64 k) h K = K (i64 (a + k : Nat)) h := fun K => by
     rw [lh, gW _ (by unfold cS; omega)]; rfl
    (rw [cu, an, aD (aj w.c 1 rfl), hd, cu, an, cJ g1]; try rfl)
   ·simp only [k70_3, K2, gJ, gK]
    have n0 : nC (.ptr q 0) h1 = .ok (.ptr q 0) h1 := rfl
    have a0 : fA 0 (.ptr q 0) h1 = .ok (.ptr q 0) h1 := rfl
    have a1 : fA 1 (.ptr q 0) h1 = .ok (.ptr q 1) h1 := rfl
    have l0 : lD (.ptr q 0) h1 = .ok sv h1 := aP w1.c rfl
    have l1 : lD (.ptr q 1) h1 = .ok (i64 (a + k : Nat)) h1 := aj w1.c 1 rfl
    have hs : kU (i64 (a + k : Nat)) (i64 k) h1 = .ok (i64 a) h1 := by
     rw [Jm (by omega) (by omega), Nat.add_sub_cancel]
    (rw [al n0, al a0, al l0, al n0, al a1, al l1, al hs, al n0, al a1, al l1, al s1]; try rfl)
 ·rw [if_neg hw] at hr
  subst hr
  refine ⟨.ai, h, .of (r' := T18 .ai) (h1 := h) e97 (by simp) (.aJ fun c i K => ?_) rfl, ⟨.eL 0 0, 0, 0, .inr (.inr ⟨rfl, rfl⟩), rfl, fun g => absurd rfl g⟩, ⟨sv, full, a, why, wh, w, (if_neg hw).symm⟩, .refl q h⟩
  simp only [k70_0, K2, dE, dF]
  (rw [cu, an, aD (aj w.c 2 rfl), aw (vR hw), ew]; try rfl)
theorem RX (n : Nat) (hn : n * 256 < 18446744073709551616) : bK .shl (.int .u64 (n : Int)) (.int .u64 (.ofNat 8)) h = .ok (.int .u64 ((n * 256 : Nat) : Int)) h := by
 show RV.ok (.int .u64 (.ofNat (n * 256 % 18446744073709551616))) h = _
 rw [Nat.mod_eq_of_lt hn]; rfl
theorem Jo (m b : Nat) (hb : b < 256) (hm : m * 256 < 18446744073709551616) : Fy (.int .u64 ((m * 256 : Nat) : Int)) (.int .u64 (b : Int)) h = .ok (.int .u64 ((b + 256 * m : Nat) : Int)) h := by
 show RV.ok (.int .u64 (.ofNat (Nat.lor (m * 256 % 18446744073709551616) (b % 18446744073709551616) % 18446744073709551616))) h = _
 have e : Nat.lor (m * 256) b = b + 256 * m := by
  have := Nat.shiftLeft_add_eq_or_of_lt (show b < 2 ^ 8 from hb) m
  rw [Nat.shiftLeft_eq] at this
  have this : m * 256 + b = Nat.lor (m * 256) b := this
  rw [← this]; omega
 rw [Nat.mod_eq_of_lt hm, Nat.mod_eq_of_lt (show b < 18446744073709551616 by omega), e, Nat.mod_eq_of_lt (by omega)]; rfl
theorem NT (b : UInt8) : cK (.toInt .u64) (.int .u8 (b.toNat : Int)) h = .ok (.int .u64 (b.toNat : Int)) h := by
 rw [eH, w64]
 have := b.toNat_lt
 rw [show ((b.toNat : Int) % 18446744073709551616) = (b.toNat : Int) by omega]
theorem tP {K : AV → Hp → RS} {i : Nat} (hi : i < 9223372036854775807) : Seat.Z (i64 ((i + 1 : Nat) : Int)) i1 h K = K (i64 (i : Int)) h := by
 rw [vK, gW _ (by unfold cS; simp; omega)]
 simp
theorem dW.at (rb : dW h x s) {i : Nat} (hi : i < s.length) : ∃ a, iX 1 x (i64 (i : Int)) h = .ok a h ∧ lD a h = .ok (.int .u8 (s[i].toNat : Int)) h := by
 obtain ⟨q, o, n, e1, e2, e3⟩ := rb
 have c := e3 (by omega)
 refine ⟨.ptr q (o + i), by have := bS (h := h) e1 (i := i) (by omega); rw [Nat.mul_one] at this; exact this, ?_⟩
 rw [Jb c i (by rw [bw]; exact hi)]
 simp [bc]
theorem Dk {n : Nat} : cB (i64 ((n + 1 : Nat) : Int)) i0 h = .ok (.bool true) h := by
 have := gy (h := h) .i64 ((n + 1 : Nat) : Int) (Int.ofNat 0)
 rw [decide_eq_true (show Int.ofNat 0 < ((n + 1 : Nat) : Int) by show (0 : Int) < _; omega)] at this
 exact this
theorem zP (rb : dW h x s) (hs : s.length ≤ 8) : ∀ (i : Nat), i ≤ s.length → ∀ {c : AC} {r0 : A2} {hc : Hp}, (∀ st, Rn p (.ag uL .skip) (T32 (.int .u64 (un (s.drop i) : Nat)) x (i64 i)) h st → Rn p c r0 hc st) →
  Rn p (.sat (.ag k44_1 (.seq (.label 0) (.ag uL .skip))) c) r0 hc (.ret (T18 (.int .u64 (un s : Nat))) h)
 | 0, _, c, r0, hc, g => .rG (g _ (.aJ fun c i K => by
   simp only [uL, K3, lP, lQ, lR]
   have g0 : cB (i64 ((0 : Nat) : Int)) i0 h = .ok (.bool false) h := rfl
   (rw [aw g0, dP]; try rfl)))
 | i + 1, hi, c, r0, hc, g => by
  obtain ⟨a, b1, b2⟩ := rb.at (i := i) (by omega)
  have hd : s.drop i = s[i] :: s.drop (i + 1) := List.drop_eq_getElem_cons (by omega)
  have hu : un (s.drop i) = s[i].toNat + 256 * un (s.drop (i + 1)) := by rw [hd]; rfl
  have hlt : un (s.drop (i + 1)) * 256 < 18446744073709551616 := by
   have h1 := Dh (s.drop (i + 1))
   have h2 : 256 ^ (s.drop (i + 1)).length ≤ 256 ^ 7 := Nat.pow_le_pow_right (by omega) (by simp; omega)
   omega
  have hb := s[i].toNat_lt
  refine .xm (i := 0) (g _ (.aJ (s := .go 0 (T32 (.int .u64 (un (s.drop i) : Nat)) x (i64 i)) h) fun c i' K => ?_)) rfl (zP rb hs i (by omega) (c := .seq .skip (.ag uL .skip)) fun _ e => .seq .skip e)
  rw [hu]
  simp only [uL, K3, lP, lQ, lR]
  (rw [aw Dk, ew, tP (by omega), aw (RX _ hlt), cN b1, aD b2, aw (NT _), aw (Jo _ _ hb hlt)]; try rfl)
structure oZ (p : Pg) : Prop where
 e36 : ak 21 p.fs = f21
 e38 : ak 23 p.fs = f23
 e58 : ak 43 p.fs = f43
 e63 : ak 44 p.fs = f44
 e64 : ak 46 p.fs = f46
 e65 : ak 47 p.fs = f47
 e66 : ak 48 p.fs = f48
 e73 : ak 54 p.fs = f54
 e97 : ak 70 p.fs = f70
 e98 : ak 71 p.fs = f71
 e99 : ak 72 p.fs = f72
theorem BE (T : oZ p) (w : gF h q r) {k : Nat} (hk : k ≤ 8) : ∃ h', Cv p 44 [.ptr q 0, pi k] h (.int .u64 ((Cod.get k r).1 : Nat)) h' ∧ gF h' q (Cod.get k r).2 ∧ Fr q h h' := by
 obtain ⟨v, h1, c1, rb, w1, F⟩ := Dj (p := p) T.e97 T.e99 w (k := k) (by omega)
 have c1 : Cv p 70 [.ptr q 0, pi k] h v h1 := c1
 have hl := Cod.oU k r
 refine ⟨h1, .of (r' := T18 (.int .u64 (un (Cod.take k r).1 : Nat))) (h1 := h1) T.e63 (by simp) (.di (r' := T36 (.ptr q 0) (pi k)) (h' := h) (fun c i K => by simp only [k44_0, K2, dE, dF])
  (.scope (zP (p := p) rb (by omega) (Cod.take k r).1.length (Nat.le_refl _) fun st e => ?_))) rfl, w1, F⟩
 rw [List.drop_length] at e
 refine .to (r' := T32 (.int .u64 (.ofNat 0)) v (i64 (Cod.take k r).1.length)) (h' := h1) (c1.mono fun m g K => ?_) (.seq .label e)
 simp only [k44_1, K2, gJ, gK]
 (rw [aF g, aR (dW.len rb)]; try rfl)
theorem xq {n : Nat} (hn : n < 9223372036854775808) : cK (.toInt .i64) (.int .u64 (n : Int)) h = .ok (i64 (n : Int)) h := by
 rw [eH, gW _ (by unfold cS; omega)]
theorem zQ (n : Nat) (hn : n < 18446744073709551616) : IntKind.i64.wrap (n : Int) = s64 n := by
 unfold IntKind.wrap s64
 dsimp only
 split
 ·rename_i g
  rw [Bool.and_eq_true, decide_eq_true_eq] at g
  have g1 : (n : Int) % 18446744073709551616 ≥ 9223372036854775808 := g.2
  show (n : Int) % 18446744073709551616 - 18446744073709551616 = _
  rw [if_neg (by omega)]; omega
 ·rename_i g
  rw [Bool.and_eq_true, decide_eq_true_eq] at g
  have g1 : ¬ (n : Int) % 18446744073709551616 ≥ 9223372036854775808 := fun x => g ⟨rfl, x⟩
  show (n : Int) % 18446744073709551616 = _
  rw [if_pos (by omega)]; omega
theorem lY (T : oZ p) (w : gF h q r) : ∃ h', Cv p 23 [.ptr q 0] h (i64 ((bJ r).1 : Nat)) h' ∧ gF h' q (bJ r).2 ∧ Fr q h h' := by
 obtain ⟨h1, c1, w1, F⟩ := BE T w (k := 1) (by omega)
 have c1 : Cv p 44 [.ptr q 0, i1] h (.int .u64 ((bJ r).1 : Nat)) h1 := c1
 have hl : (bJ r).1 < 256 := Cod.eO 1 r
 refine ⟨h1, .of (r' := T0 (i64 ((bJ r).1 : Nat))) (h1 := h1) T.e38 (by simp) (.ag (c1.mono fun m g => ?_)) rfl, w1, F⟩
 simp only [k23_0, K1, cm]
 (rw [aF g, aw (xq (by omega))]; try rfl)
theorem ET (T : oZ p) (w : gF h q r) : ∃ h', Cv p 71 [.ptr q 0] h (i64 ((Cod.get 2 r).1 : Nat)) h' ∧ gF h' q (Cod.get 2 r).2 ∧ Fr q h h' := by
 obtain ⟨h1, c1, w1, F⟩ := BE T w (k := 2) (by omega)
 have hl := Cod.eO 2 r
 refine ⟨h1, .of (r' := T0 (i64 ((Cod.get 2 r).1 : Nat))) (h1 := h1) T.e98 (by simp) (.ag (c1.mono fun m g => ?_)) rfl, w1, F⟩
 simp only [k71_0, K1, cm]
 (rw [aF g, aw (xq (by omega))]; try rfl)
theorem iM (T : oZ p) (w : gF h q r) : ∃ h', Cv p 46 [.ptr q 0] h (i64 (aq r).1) h' ∧ gF h' q (aq r).2 ∧ Fr q h h' := by
 obtain ⟨h1, c1, w1, F⟩ := BE T w (k := 8) (by omega)
 have hl := Cod.eO 8 r
 have e : cK (.toInt .i64) (.int .u64 ((Cod.get 8 r).1 : Nat)) h1 = .ok (i64 (aq r).1) h1 := by
  rw [eH, zQ _ hl]; rfl
 refine ⟨h1, .of (r' := T0 (i64 (aq r).1)) (h1 := h1) T.e64 (by simp) (.ag (c1.mono fun m g => ?_)) rfl, w1, F⟩
 simp only [k46_0, K1, cm]
 (rw [aF g, aw e]; try rfl)
def NU (most : Nat) (n : Nat) : Rd → Rd
 | none => none
 | some l => if n > most then none else some l
theorem tU (most : Nat) (r : Rd) : aL most r = Cod.take (Cod.get 2 r).1 (NU most (Cod.get 2 r).1 (Cod.get 2 r).2) := by
 unfold aL
 cases hg : Cod.get 2 r with
 | mk n r1 =>
  cases r1 with
  | none => rfl
  | some l =>
   simp only [NU]
   split
   ·rfl
   ·rfl
theorem Jp (w : gF h q r) {n most : Nat} {f : AV} : ∃ r', Os p (opsL (fst (fst (bh x47)))) (T22 (.ptr q 0) (pi most) f (i64 n)) h (.nm r' h) ∧ y0 r' = .ptr q 0 ∧ y5 r' = f ∧ y6 r' = i64 n ∧ y23 r' = .bool (r.isSome && decide (most < n)) := by
 obtain ⟨sv, full, a, why, wh, w, hr⟩ := w
 have l2 : lD (.ptr q 2) h = .ok (i64 why) h := aj w.c 2 rfl
 by_cases hw : why = 0
 ·rw [if_pos hw] at hr
  subst hr
  have e0 : bK .eq (i64 why) i0 h = .ok (.bool true) h := by subst hw; rfl
  have e1 : bK .gt (i64 n) (pi most) h = .ok (.bool (decide (most < n))) h := by
   show cB (i64 n) (i64 most) h = _
   rw [Jn]
   congr 2
   rw [decide_eq_decide]; omega
  exact ⟨_, .step (v := .ptr q 0) (h' := h) rfl <| .step (v := .ptr q 0) (h' := h) rfl <| .step (v := .ptr q 2) (h' := h) rfl <| .step (v := i64 why) (h' := h) l2 <| .step (v := .bool true) (h' := h) e0 <| .step (v := .bool true) (h' := h) rfl <|
   .on rfl <| .step (v := i64 n) (h' := h) rfl <| .on rfl <| .step (v := pi most) (h' := h) rfl <| .on rfl <| .step (v := pi most) (h' := h) rfl <| .on rfl <| .step (v := .bool (decide (most < n))) (h' := h) e1 <|
   .step (v := .bool (decide (most < n))) (h' := h) rfl <| .nil, rfl, rfl, rfl, rfl⟩
 ·rw [if_neg hw] at hr
  subst hr
  have e0 : bK .eq (i64 why) i0 h = .ok (.bool false) h := by
   show DH (.int .i64 why) (.int .i64 (.ofNat 0)) h = _
   rw [IY, decide_eq_false (show ¬ why = Int.ofNat 0 from hw)]
  exact ⟨_, .step (v := .ptr q 0) (h' := h) rfl <| .step (v := .ptr q 0) (h' := h) rfl <| .step (v := .ptr q 2) (h' := h) rfl <| .step (v := i64 why) (h' := h) l2 <| .step (v := .bool false) (h' := h) e0 <| .step (v := .bool false) (h' := h) rfl <|
   .off rfl <| .off rfl <| .off rfl <| .off rfl <| .step (v := .bool false) (h' := h) rfl <| .nil, rfl, rfl, rfl, rfl⟩
theorem iO (T : oZ p) (w : gF h q r) (most : Nat) : ∃ h', Cv p 47 [.ptr q 0, pi most] h (bu (aL most r).1) h' ∧ gF h' q (aL most r).2 ∧ Fr q h h' := by
 have w' := w
 obtain ⟨sv, full, a, why, wh, wx, hr⟩ := w'
 obtain ⟨h1, c1, w1, F1⟩ := ET T w
 obtain ⟨r', o1, o2, o3, o4, o5⟩ := Jp (p := p) w1 (n := (Cod.get 2 r).1) (most := most) (f := i64 a)
 have hl := Cod.eO 2 r
 generalize hn : (Cod.get 2 r).1 = n at *
 have s0 : Ev fun m => ∀ K : A2 → Hp → RS, k47_0 (aB p (exec p m)) (aH p (exec p m)) K (bE [.ptr q 0, pi most] 0 .nil) h = K (T22 (.ptr q 0) (pi most) (i64 a) (i64 n)) h1 := c1.mono fun m g K => by
  simp only [k47_0, K2, dE, dF]
  (rw [cu, an, aD (aj wx.c 1 rfl), aF g]; try rfl)
 have Kn : ∃ h2, Rn p (.ag k47_1 .skip) r' h1 (.nm (T47 (.ptr q 0) (i64 n)) h2) ∧ gF h2 q (NU most n (Cod.get 2 r).2) ∧ Fr q h1 h2 := by
  cases hb : ((Cod.get 2 r).2.isSome && decide (most < n)) with
  | true =>
   obtain ⟨h2, c2, w2, F2⟩ := vS (p := p) T.e99 w1 (e := 3) (n := a) (by omega)
   have c2 : Cv p 72 [.ptr q 0, pi 3, i64 a] h1 cM h2 := c2
   refine ⟨h2, .ag (c2.mono fun m g => ?_), ?_, F2⟩
   ·simp only [k47_1, K4, o2, o3, o4, o5, hb]
    (rw [ew, aF g]; try rfl)
   ·rw [Bool.and_eq_true, decide_eq_true_eq] at hb
    cases hg : (Cod.get 2 r).2 with
    | none => exact w2
    | some l =>
     have : NU most n (some l) = none := if_pos hb.2
     rw [this]; exact w2
  | false =>
   refine ⟨h1, .aJ fun c i K => ?_, ?_, .refl q h1⟩
   ·simp only [k47_1, K4, o2, o3, o4, o5, hb]
    (rw [dP]; try rfl)
   ·cases hg : (Cod.get 2 r).2 with
    | none => rw [hg] at w1; exact w1
    | some l =>
     rw [hg] at hb w1
     have : NU most n (some l) = some l := if_neg (by simpa using hb)
     rw [this]; exact w1
 obtain ⟨h2, k2, w2, F2⟩ := Kn
 obtain ⟨v, h3, c3, rb, w3, F3⟩ := Dj (p := p) T.e97 T.e99 w2 (k := n) (by omega)
 rw [tU, hn]
 refine ⟨h3, .of (r' := T18 (bu _)) (h1 := h3) T.e65 (by simp) (.to s0 (.seq (.seq (.ops o1) k2) (.ag (c3.mono fun m g => ?_)))) rfl, w3, (F1.trans F2).trans F3⟩
 simp only [k47_2, K2, t47_0, t47_6]
 (rw [aF g, aw (tK rb)]; try rfl)
theorem Jq (e58 : ak 43 p.fs = f43) (W : Wf h) (r : dW h x s) (hl : s.length ≤ 16777216) : ∃ v h', Cv p 43 [x] h v h' ∧ dh h' v 5 1 (bc s) (fun j => ah j h = .none) ∧ Old h h' ∧ Wf h' := by
 obtain ⟨q, o, n, g1, g2, g3⟩ := r
 by_cases hx : x = .ai
 ·subst hx
  refine ⟨.ai, h, .of (r' := T0 .ai) (h1 := h) e58 (by simp) (.ag (.all fun m => ?_)) rfl, ?_, .refl h, W⟩
  ·have hn : bK (.jB .s) .ai .ai h = .ok (.bool true) h := rfl
   simp only [xK, K1, cm]
   rw [aw hn, ew]
  ·rcases g1 with ⟨_, g⟩ | g | ⟨_, g⟩
   ·cases g
   ·cases g
   ·have : s = [] := by cases s with | nil => rfl | cons _ _ => simp at g2; omega
    subst this
    exact .inl ⟨rfl, .inl rfl⟩
 ·have hn : bK (.jB .s) x .ai h = .ok (.bool false) h := by
   rcases g1 with ⟨_, rfl⟩ | rfl | ⟨rfl, _⟩
   ·rfl
   ·rfl
   ·exact absurd rfl hx
  obtain ⟨j, h1, f1, f2, f3, f4, f5, f6⟩ := fm (el := 5) (es := 1) (n := 0) (z := []) (ps := []) (l := []) W rfl rfl (by simp)
  obtain ⟨v, h2, c1, c2, c3, c4⟩ := fJ (m := n) (es := 1) f5 (x := .slice j 0 0 0) (b := fun _ => False) (el := 5) (l := []) (.inl ⟨rfl, .inr ⟨j, rfl⟩⟩) (by omega) (new := bc s) (by rw [bw]; omega) (by simp [bw]; omega)
  refine ⟨v, h2, .of (r' := T0 v) (h1 := h2) e58 (by simp) (.ag (.all fun m => ?_)) rfl, ?_, fun k hk => ?_, c3⟩
  ·simp only [xK, K1, cm]
   rw [aw hn, dP, aw f1, aw (by rw [dB g1 (by omega) (fun z => (g3 z).old f4) (by rw [bw]; omega) (by omega)]; exact c1)]
  ·refine dh.mono c2 fun k hk => ?_
   rcases hk with hk | hk
   ·exact hk.elim
   ·exact f4.none hk
  ·have := f4 k hk
   rw [c4 k (by rw [this]; exact hk) (fun g => g), this]
theorem Qc {b : P4 → Prop} {l : List AV} (w : dh h x 5 1 l b) : bl [.ai, i0, i0, i0] [.mk 0 1 (.c x)] h = .ok (.agg [x, i0, i0, i0]) h := by
 rcases w with ⟨_, rfl | ⟨q, rfl⟩⟩ | ⟨q, n, rfl, _⟩ <;> rfl
theorem vT (T : oZ p) (W : Wf h) (rb : dW h x s) (hl : s.length ≤ 16777216) : ∃ q h', Cv p 21 [x] h (.ptr q 0) h' ∧ gF h' q (some s) ∧ ah q h = .none ∧ Old h h' := by
 obtain ⟨v, h1, c1, c2, c3, c4⟩ := Jq (p := p) T.e58 W rb hl
 obtain ⟨q, h2, e1, e2, e3, e4, e5, e6⟩ := lj (el := 94) (l := [v, i0, i0, i0]) c4 (by simp)
 refine ⟨q, h2, .of (r' := T0 (.ptr q 0)) (h1 := h2) T.e36 (by simp) (.ag (c1.mono fun m g => ?_)) rfl, ⟨v, s, 0, 0, 0, ⟨e5, e3, (dh.mono c2 fun _ _ => True.intro).old fun j _ hj => e4 j hj, hl, by omega⟩, by simp⟩, c3.none e2, c3.trans e4⟩
 simp only [k21_0, K1, cm]
 (rw [aF g, mY (Qc c2), jh e1]; try rfl)
theorem BF (T : oZ p) (w : gF h q r) : Cv p 48 [.ptr q 0] h (.bool r.isNone) h := by
 obtain ⟨sv, full, a, why, wh, w, hr⟩ := w
 by_cases hw : why = 0
 ·rw [if_pos hw] at hr
  subst hr
  refine .of (r' := T0 (.bool false)) (h1 := h) T.e66 (by simp) (.aJ fun c i K => ?_) rfl
  simp only [k48_0, K1, cm]
  (rw [cu, an, aD (aj w.c 2 rfl), aw (tM hw)]; try rfl)
 ·rw [if_neg hw] at hr
  subst hr
  refine .of (r' := T0 (.bool true)) (h1 := h) T.e66 (by simp) (.aJ fun c i K => ?_) rfl
  simp only [k48_0, K1, cm]
  (rw [cu, an, aD (aj w.c 2 rfl), aw (vR hw)]; try rfl)
theorem Qd (T : oZ p) (w : gF h q r) : ∃ n m : Int, Cv p 54 [.ptr q 0] h (.nZ [i64 n, i64 m]) h ∧ (n = 0 ↔ r = some []) := by
 obtain ⟨sv, full, a, why, wh, w, hr⟩ := w
 have n0 : nC (.ptr q 0) h = .ok (.ptr q 0) h := rfl
 have a0 : fA 0 (.ptr q 0) h = .ok (.ptr q 0) h := rfl
 have a1 : fA 1 (.ptr q 0) h = .ok (.ptr q 1) h := rfl
 have a2 : fA 2 (.ptr q 0) h = .ok (.ptr q 2) h := rfl
 have a3 : fA 3 (.ptr q 0) h = .ok (.ptr q 3) h := rfl
 have l0 : lD (.ptr q 0) h = .ok sv h := aP w.c rfl
 have l1 : lD (.ptr q 1) h = .ok (i64 a) h := aj w.c 1 rfl
 have l2 : lD (.ptr q 2) h = .ok (i64 why) h := aj w.c 2 rfl
 have l3 : lD (.ptr q 3) h = .ok (i64 wh) h := aj w.c 3 rfl
 have hal := w.gM
 have s0 : ∀ c i (K : A2 → Hp → RS), k54_0 c i K (bE [.ptr q 0] 0 .nil) h = K (T13 (.ptr q 0)) h := fun c i K => by simp only [k54_0, K1, cm]
 by_cases hw : why = 0
 ·rw [if_pos hw] at hr
  have lt : pq (i64 a) (i64 full.length) h = .ok (.bool (decide ((a : Int) < full.length))) h := lS _ _ _
  by_cases hl : a < full.length
  ·refine ⟨11, a, .of (r' := T40 (pi 11) (i64 a)) (h1 := h) T.e73 (by simp) (.di s0 (.aJ fun c i K => ?_)) rfl, ?_⟩
   ·simp only [k54_1, K1, tn]
    (rw [cu, an, aD (aj w.c 2 rfl), aw (tM hw), dP, al n0, al a1, al l1, al n0, al a0, al l0, al (dW.len (dh.BB w.own)), al lt, bC, if_pos (by omega), al n0, al a1, al l1]; try rfl)
   ·subst hr
    constructor
    ·intro h; omega
    ·intro h
     have h := Option.some.inj h
     have : (full.drop a).length = 0 := by rw [h]; rfl
     rw [List.length_drop] at this
     omega
  ·refine ⟨0, 0, .of (r' := T40 i0 i0) (h1 := h) T.e73 (by simp) (.di s0 (.di (r' := T5) (h' := h) (fun c i K => ?_) (.aJ fun c i K => rfl))) rfl, ?_⟩
   ·simp only [k54_1, K1, tn]
    (rw [cu, an, aD (aj w.c 2 rfl), aw (tM hw), dP, al n0, al a1, al l1, al n0, al a0, al l0, al (dW.len (dh.BB w.own)), al lt, bC, if_neg (by omega)]; try rfl)
   ·subst hr
    exact ⟨fun _ => by rw [List.drop_of_length_le (by omega)], fun _ => rfl⟩
 ·rw [if_neg hw] at hr
  subst hr
  refine ⟨why, wh, .of (r' := T40 (i64 why) (i64 wh)) (h1 := h) T.e73 (by simp) (.di s0 (.aJ fun c i K => ?_)) rfl, ⟨fun g => absurd g hw, fun g => by cases g⟩⟩
  simp only [k54_1, K1, tn]
  (rw [cu, an, aD (aj w.c 2 rfl), aw (vR hw), ew, al n0, al a2, al l2, al n0, al a3, al l3]; try rfl)
theorem Mn (e37 : ak 22 p.fs = f22) (w : gF h q r) : Cv p 22 [.ptr q 0] h (i64 ((r.getD []).length : Nat)) h := by
 obtain ⟨sv, full, a, why, wh, w, hr⟩ := w
 have n0 : nC (.ptr q 0) h = .ok (.ptr q 0) h := rfl
 have a0 : fA 0 (.ptr q 0) h = .ok (.ptr q 0) h := rfl
 have a1 : fA 1 (.ptr q 0) h = .ok (.ptr q 1) h := rfl
 have l0 : lD (.ptr q 0) h = .ok sv h := aP w.c rfl
 have l1 : lD (.ptr q 1) h = .ok (i64 a) h := aj w.c 1 rfl
 by_cases hw : why = 0
 ·rw [if_pos hw] at hr
  have hs := Jm (h := h) w.gM (by have := w.len; omega)
  have e : (r.getD []).length = full.length - a := by subst hr; simp
  rw [e]
  refine .of (r' := T0 (i64 (full.length - a : Nat))) (h1 := h) e37 (by simp) (.aJ fun c i K => ?_) rfl
  simp only [k22_0, K1, cm]
  (rw [cu, an, aD (aj w.c 2 rfl), aw (tM hw), dP, al n0, al a0, al l0, al (dW.len (dh.BB w.own)), al n0, al a1, al l1, al hs]; try rfl)
 ·rw [if_neg hw] at hr
  subst hr
  refine .of (r' := T0 i0) (h1 := h) e37 (by simp) (.aJ fun c i K => ?_) rfl
  simp only [k22_0, K1, cm]
  (rw [cu, an, aD (aj w.c 2 rfl), aw (vR hw), ew]; try rfl)
end
open Go.Cod
noncomputable section
variable {p : Pg} {h0 h h' h1 h2 : Hp} {q j k jb jf : P4} {s full : Bs} {x y xv : AV} {r rr : Rd}
theorem pa (W : Wf h) {el es m : Nat} {l : List AV} {b : P4 → Prop} (w : dh h x el es l b) (hes : 0 < es) {new : List AV} (hn : new.length = m * es) (hs : l.length + new.length ≤ 16777216) :
  ∃ v h', mD el es m new x h = .ok v h' ∧ dh h' v el es (l ++ new) (fun j => b j ∨ ah j h = .none) ∧ Wf h' ∧ (∀ k, ah k h ≠ .none → ¬ b k → ah k h' = ah k h) ∧
   ∀ k el' ex' fl' l', Ob h k el' ex' fl' l' → (el' ≠ el ∨ ex' ≠ false) → ah k h' = ah k h := by
 have w' : dh h x el es l fun j => b j ∧ ∃ n c, ah j h = .cells el n false .plain c := by
  rcases w with w | ⟨q, n, e1, e2, e3, e4⟩
  ·exact .inl w
  ·obtain ⟨c, f1, f2⟩ := e3
   exact .inr ⟨q, n, e1, e2, ⟨c, f1, f2⟩, e4, _, c, f1⟩
 obtain ⟨v, h', c1, c2, c3, c4⟩ := fJ W w' hes hn hs
 refine ⟨v, h', c1, dh.mono c2 fun j hj => hj.imp_left (·.1), c3, fun k hk hb => c4 k hk fun g => hb g.1, fun k el' ex' fl' l' o g => c4 k o.ne ?_⟩
 rintro ⟨_, n, c, e⟩
 obtain ⟨c', e', _⟩ := o
 rw [e] at e'
 obtain ⟨a1, _, a2, _⟩ := Obj.cells.inj e'
 rcases g with g | g
 ·exact g a1.symm
 ·exact g a2.symm
theorem _root_.Go.Am.dh.cq {el es : Nat} {l : List AV} {b : P4 → Prop} (w : dh h x el es l b) (g : ∀ k fl l', Ob h k el false fl l' → ah k h' = ah k h) : dh h' x el es l b := by
 rcases w with w | ⟨q, n, e1, e2, e3, e4⟩
 ·exact .inl w
 ·exact .inr ⟨q, n, e1, e2, e3.eq (g _ _ _ e3), e4⟩
theorem gF.cq (w : gF h q r) (W : Wf h') (g : ∀ k el ex fl l, Ob h k el ex fl l → el = 94 ∨ el = 5 → ah k h' = ah k h) : gF h' q r :=
 let ⟨sv, full, a, why, wh, w, e⟩ := w
 ⟨sv, full, a, why, wh, ⟨W, w.ob.eq (g _ _ _ _ _ w.ob (.inl rfl)), w.own.cq fun k _ _ o => g k _ _ _ _ o (.inr rfl), w.len, w.gM⟩, e⟩
theorem Fr.set (F : Fr q h h') (hk : ah k h = .none) (g : ∀ j, j ≠ k → ah j h1 = ah j h') : Fr q h h1 := fun j hj hn => by
 rw [g j (fun e => by rw [e] at hn; exact hn hk), F j hj hn]
theorem Fr.none (F : Fr q h h') (hq : ah q h' ≠ .none) (hk : ah k h' = .none) : ah k h = .none := by
 have e : k ≠ q := fun e => by rw [e] at hk; exact hq hk
 cases g : ah k h with
 | none => rfl
 | _ =>
  have := F k e (by rw [g]; simp)
  rw [hk, g] at this
  cases this
structure EU (h : Hp) (q jb jf : P4) (t : Bs) (h' : Hp) (xv : AV) (vs : List lU) (rr : Rd) : Prop where
 fr : Fr q h h'
 rd : gF h' q rr
 ob : Ob h' jb 46 true .plain [iS, .ai, .bool false]
 of : Ob h' jf 46 true .plain [bu t, xv, .bool false]
 ow : dh h' xv 48 3 (vs.flatMap iQ) fun j => ah j h = .none
variable {t : Bs} {vs : List lU}
theorem EU.qe (I : EU h q jb jf t h' xv vs r) (w : gF h2 q rr) (F : Fr q h' h2) : EU h q jb jf t h2 xv vs rr := by
 obtain ⟨_, _, _, _, _, w0, _⟩ := I.rd
 exact ⟨I.fr.trans F, w, F.ob I.ob (I.rd.apart I.ob (by decide)), F.ob I.of (I.rd.apart I.of (by decide)), F.own I.ow w0.ob (.inl (by decide))⟩
theorem EU.up (I : EU h q jb jf t h' xv vs r) (O : Old h' h2) (W : Wf h2) : EU h q jb jf t h2 xv vs r :=
 ⟨I.fr.trans (.of O), I.rd.up O W, I.ob.old O, I.of.old O, I.ow.old fun j _ hj => O j hj⟩
theorem dt {el : Nat} {ex : Bool} {fl : Fl} {l : List AV} (W : Wf h) (o : Ob h k el ex fl l) (g : ∀ j, j ≠ k → ah j h' = ah j h) (hn : h'.next = h.next) : Wf h' :=
 W.of hn fun j hj => by rw [g j (fun e => by rw [e] at hj; exact o.ne hj)]; exact hj
theorem EU.st (I : EU h q jb jf t h' xv vs r) {el : Nat} {fl : Fl} {l : List AV} (o : Ob h' k el true fl l) (h1 : el ≠ 94) (h70 : el ≠ 46) (hk : ah k h = .none) (g : ∀ j, j ≠ k → ah j h2 = ah j h') (hn : h2.next = h'.next) : EU h q jb jf t h2 xv vs r :=
 ⟨I.fr.set hk g, I.rd.fr o h1 (fun j hj _ => g j hj) (dt I.rd.wf o g hn), I.ob.eq (g _ (I.ob.apart o (.inl (Ne.symm h70)))), I.of.eq (g _ (I.of.apart o (.inl (Ne.symm h70)))), Fr.own (fun j hj _ => g j hj) I.ow o (.inr (by simp))⟩
theorem Jr (vs : List lU) (v : lU) : (vs ++ [v]).flatMap iQ = vs.flatMap iQ ++ iQ v := by simp
theorem RY (vs : List lU) : (vs.flatMap iQ).length = vs.length * 3 := by
 induction vs with
 | nil => rfl
 | cons v vs ih => simp only [List.flatMap_cons, List.length_append, ih, List.length_cons]; simp [iQ]; omega
theorem Js (T : oZ p) (I : EU h q jb jf t h' xv vs r) (nb : ah jb h = .none) (nf : ah jf h = .none) (hne : jb ≠ jf) (hv : vs.length ≤ 1000) {m : Nat} (hm : m < 1000) :
  ∃ xv' h2, Rn p (.ag xN (.ag k53_3 .skip)) (T49 (.ptr q 0) (.ptr jb 0) (.ptr jf 0) (i64 (m + 1 : Nat))) h' (.nm (T49 (.ptr q 0) (.ptr jb 0) (.ptr jf 0) (i64 m)) h2) ∧ EU h q jb jf t h2 xv' (vs ++ [(lV r).1]) (lV r).2 := by
 obtain ⟨h1, c1, w1, F1⟩ := iM T I.rd
 have I1 := I.qe w1 F1
 obtain ⟨h2, c2, w2, F2⟩ := iM T I1.rd
 have I2 := I1.qe w2 F2
 generalize ha : (aq r).1 = a at *
 generalize hr1 : (aq r).2 = r1 at *
 generalize hb : (aq r1).1 = b at *
 generalize hr2 : (aq r1).2 = r2 at *
 obtain ⟨l, h3, e1, e2, e3, e4, e5, _⟩ := fK (el := 48) (n := 3) I2.rd.wf (c := .k1 (Y3 i0 i0 iS)) trivial (by decide)
 have I3 := I2.up e4 e5
 have hl : ah l h = .none := I2.fr.none I2.rd.ne e2
 obtain ⟨h4, f1, f2, f3, f4⟩ := ef (k := 0) (m := 3) (l' := [i64 a, i64 b, iS]) e3 rfl (by rw [aW]; omega)
 have f2 : Ob h4 l 48 true .plain [i64 a, i64 b, iS] := f2
 have I4 := I3.st e3 (by decide) (by decide) hl f3 f4
 obtain ⟨h5, c5, w5, F5⟩ := iO T I4.rd 65535
 have I5 := I4.qe w5 F5
 have o5 := F5.ob f2 (I4.rd.apart f2 (by decide))
 generalize hs : (aL 65535 r2).1 = s at *
 generalize hr3 : (aL 65535 r2).2 = r3 at *
 obtain ⟨h6, g1, g2, g3, g4⟩ := cP (k := 2) (v := bu s) o5 (by simp) rfl
 have g2 : Ob h6 l 48 true .plain [i64 a, i64 b, bu s] := g2
 have I6 := I5.st o5 (by decide) (by decide) hl g3 g4
 have hv' : lV r = (⟨a, b, s⟩, r3) := by
  show ((⟨(aq r).1, (aq (aq r).2).1, (aL 65535 (aq (aq r).2).2).1⟩ : lU), (aL 65535 (aq (aq r).2).2).2) = _
  rw [ha, hr1, hb, hr2, hs, hr3]
 rw [hv']
 obtain ⟨m', h7, u1, u2, u3, u4, u5, u6⟩ := fm (el := 48) (es := 3) (n := 1) (z := [i0, i0, iS]) (ps := [.mk 0 3 (.c (.agg [i64 a, i64 b, bu s]))]) (l := [i64 a, i64 b, bu s]) I6.rd.wf rfl rfl (by simp)
 have I7 := I6.up u4 u5
 obtain ⟨v', h8, z1, z2, z3, z4, z5⟩ := pa (m := 1) I7.rd.wf I7.ow (by omega) (new := [i64 a, i64 b, bu s]) rfl (by rw [RY]; simp; omega)
 have V : df 48 3 xv (.slice m' 0 1 1) h7 = .ok v' h8 := by
  rw [dB (m := 1) (q := m') (o := 0) (l := [i64 a, i64 b, bu s]) (.inl ⟨_, rfl⟩) (by omega) (fun _ => Ob.c0 u3) rfl (by omega)]
  exact z1
 have of8 := I7.of.eq (z5 _ _ _ _ _ I7.of (.inl (by decide)))
 have ob8 := I7.ob.eq (z5 _ _ _ _ _ I7.ob (.inl (by decide)))
 have rd8 : gF h8 q r3 := I7.rd.cq z3 fun k el ex fl l o g => z5 k el ex fl l o (.inl (by rcases g with rfl | rfl <;> decide))
 have fr8 : Fr q h h8 := fun j hj hn => by
  have e := I7.fr j hj hn
  rw [z4 j (by rw [e]; exact hn) (fun g => hn g), e]
 obtain ⟨h9, k1, k2, k3, k4⟩ := cP (k := 1) (v := v') of8 (by simp) (my z2)
 have k2 : Ob h9 jf 46 true .plain [bu t, v', .bool false] := k2
 refine ⟨v', h9, .to (r' := T49 (.ptr q 0) (.ptr jb 0) (.ptr jf 0) (i64 (m + 1 : Nat))) (h' := h9) ((c1.and (c2.and c5)).mono fun n g K => ?_) (.aJ fun c i K => ?_), ⟨fr8.set nf k3, rd8.fr of8 (by decide) (fun j hj _ => k3 j hj) (dt z3 of8 k3 k4), ob8.eq (k3 jb hne), k2, ?_⟩⟩
 ·obtain ⟨gg1, gg2, gg5⟩ := g
  simp only [xN, K4, t49_0, t49_2, t49_3, t49_4]
  have U0 : bl [i0, i0, iS] [.mk 0 1 (.c (i64 a)), .mk 1 1 (.c (i64 b))] h2 = .ok (.agg [i64 a, i64 b, iS]) h2 := rfl
  (rw [aw Dk, ew, aF gg1, aF gg2, mY U0, iI e1, fX f1, aF gg5, an, Nat.zero_add, cJ g1, an, aD (aj (Ob.c0 I6.of) 1 rfl), fk (bD (m := 3) (Ob.c0 g2) rfl), aw u1, aw V, an, Nat.zero_add, cJ k1]; try rfl)
 ·simp only [k53_3, K4, t49_0, t49_2, t49_3, t49_4]
  (rw [tP (by omega)]; try rfl)
 ·rw [Jr]
  exact (dh.mono (Fr.own (fun j hj _ => k3 j hj) z2 of8 (.inr (by simp))) fun j hj => hj.elim id fun g => I7.fr.none I7.rd.ne g)
theorem Mo (T : oZ p) (e72 : ak 53 p.fs = f53) (w : gF h q r) : ∃ xv h', Cv p 53 [.ptr q 0] h (.agg (uB xv (nN r).1)) h' ∧ gF h' q (nN r).2 ∧ Fr q h h' ∧ dh h' xv 48 3 ((nN r).1.row.flatMap iQ) fun j => ah j h = .none := by
 obtain ⟨jb, h1, a1, a2, a3, a4, a5, _⟩ := fK (el := 46) (n := 3) w.wf (c := .k1 (Y3 iS .ai (.bool false))) trivial (by decide)
 have a3 : Ob h1 jb 46 true .plain [iS, .ai, .bool false] := a3
 have w1 := w.up a4 a5
 obtain ⟨h2, c2, w2, F2⟩ := iO T w1 65535
 generalize ht : (aL 65535 r).1 = t at *
 generalize hr1 : (aL 65535 r).2 = r1 at *
 have b2 := F2.ob a3 (w1.apart a3 (by decide))
 obtain ⟨jf, h3, b1, b3, b4, b5, b6, _⟩ := fK (el := 46) (n := 3) w2.wf (c := .k1 (Y3 iS .ai (.bool false))) trivial (by decide)
 have b4 : Ob h3 jf 46 true .plain [iS, .ai, .bool false] := b4
 have hne : jb ≠ jf := fun e => b2.ne (e ▸ b3)
 obtain ⟨h4, d1, d2, d3, d4⟩ := ef (k := 0) (m := 3) (l' := [bu t, .ai, .bool false]) b4 rfl (by simp)
 have d2 : Ob h4 jf 46 true .plain [bu t, .ai, .bool false] := d2
 have F12 : Fr q h h2 := (Fr.of a4).trans F2
 have nb : ah jb h = .none := a2
 have nf : ah jf h = .none := F12.none w2.ne b3
 have I4 : EU h q jb jf t h4 .ai [] r1 := ⟨(F12.trans (.of b5)).set nf d3, (w2.up b5 b6).fr b4 (by decide) (fun j hj _ => d3 j hj) (dt b6 b4 d3 d4), (b2.old b5).eq (d3 jb hne), d2, .inl ⟨rfl, .inl rfl⟩⟩
 obtain ⟨h5, c5, w5, F5⟩ := lY T I4.rd
 have I5 := I4.qe w5 F5
 have hn : (bJ r1).1 < 256 := Cod.eO 1 r1
 generalize hk : (bJ r1).1 = n at *
 generalize hr2 : (bJ r1).2 = r2 at *
 obtain ⟨r', h6, ⟨xv, _, I6⟩, k6⟩ := gU (p := p) (body := .ag xN (.ag k53_3 .skip)) (r := T49 (.ptr q 0) (.ptr jb 0) (.ptr jf 0) (i64 n)) (h := h5) n
  (Inv := fun i r h' => ∃ xv, r = T49 (.ptr q 0) (.ptr jb 0) (.ptr jf 0) (i64 (n - i : Nat)) ∧ EU h q jb jf t h' xv (many lV i r2).1 (many lV i r2).2) (l := 0) (Re := T48 (.ptr q 0) (.ptr jb 0) (.ptr jf 0)) (fun i r h' hi I => by
   obtain ⟨xv, rfl, I⟩ := I
   obtain ⟨m, hm⟩ : ∃ m, n - i = m + 1 := ⟨n - i - 1, by omega⟩
   obtain ⟨xv', h2, k, I'⟩ := Js (p := p) T I nb nf hne (by rw [iL]; omega) (m := m) (by omega)
   rw [hm]
   refine ⟨_, h2, k, xv', by rw [show n - (i + 1) = m by omega], ?_⟩
   rw [oW]
   exact I') (fun r h' I => by
   obtain ⟨xv, rfl, I⟩ := I
   refine .aJ fun c i K => ?_
   rw [Nat.sub_self]
   simp only [xN, K4, t49_0, t49_2, t49_3, t49_4]
   have g0 : cB (i64 ((0 : Nat) : Int)) i0 h' = .ok (.bool false) h' := rfl
   (rw [aw g0, dP]; try rfl)) ⟨.ai, rfl, I5⟩
 obtain ⟨h7, c7, w7, F7⟩ := lY T I6.rd
 have I7 := I6.qe w7 F7
 generalize hvs : (many lV n r2).1 = vs at *
 generalize hr3 : (many lV n r2).2 = r3 at *
 generalize hb : (bJ r3).1 = b at *
 generalize hr4 : (bJ r3).2 = r4 at *
 have hc : nN r = (⟨t, vs, decide (0 < b)⟩, r4) := by
  show ((⟨(aL 65535 r).1, (many lV (bJ (aL 65535 r).2).1 (bJ (aL 65535 r).2).2).1, decide (0 < (bJ (many lV (bJ (aL 65535 r).2).1 (bJ (aL 65535 r).2).2).2).1)⟩ : mI), (bJ (many lV (bJ (aL 65535 r).2).1 (bJ (aL 65535 r).2).2).2).2) = _
  rw [ht, hr1, hk, hr2, hvs, hr3, hb, hr4]
 rw [hc]
 have gt : cB (i64 (b : Nat)) i0 h7 = .ok (.bool (decide (0 < b))) h7 := by
  show cB (i64 (b : Nat)) (i64 0) h7 = _
  rw [Jn]
  congr 2
  rw [decide_eq_decide]; omega
 obtain ⟨h8, g1, g2, g3, g4⟩ := cP (k := 2) (v := .bool (decide (0 < b))) I7.of (by simp) rfl
 have g2 : Ob h8 jf 46 true .plain [bu t, xv, .bool (decide (0 < b))] := g2
 have ob8 := I7.ob.eq (g3 jb hne)
 obtain ⟨h9, k1, k2, k3, k4⟩ := ef (k := 0) (m := 3) (l' := [bu t, xv, .bool (decide (0 < b))]) ob8 rfl (by simp)
 have k2 : Ob h9 jb 46 true .plain [bu t, xv, .bool (decide (0 < b))] := k2
 have s0 : Ev fun m => ∀ K : A2 → Hp → RS, k53_0 (aB p (exec p m)) (aH p (exec p m)) K (bE [.ptr q 0] 0 .nil) h = K (T48 (.ptr q 0) (.ptr jb 0) (.ptr jf 0)) h4 := c2.mono fun m g K => by
  simp only [k53_0, K1, cm]
  have U0 : bl [iS, .ai, .bool false] [.mk 0 1 (.c (bu t))] h2 = .ok (.agg [bu t, .ai, .bool false]) h2 := rfl
  (rw [iI a1, aF g, mY U0, iI b1, fX d1]; try rfl)
 have s1 : Ev fun m => ∀ K : A2 → Hp → RS, k53_1 (aB p (exec p m)) (aH p (exec p m)) K (T48 (.ptr q 0) (.ptr jb 0) (.ptr jf 0)) h4 = K (T49 (.ptr q 0) (.ptr jb 0) (.ptr jf 0) (i64 n)) h5 := c5.mono fun m g K => by
  simp only [k53_1, K3, t48_0, t48_2, t48_3]
  (rw [aF g]; try rfl)
 have rt : qR [.agg 3 .h0 .h2] (T0 (.ptr jb 0)) h9 = .ok (.agg (uB xv ⟨t, vs, decide (0 < b)⟩)) h9 := by
  show (RV.rec (fun v _ => .ok v h9) (fun n => .err n) (Seat.pk 3 (.ptr jb 0) h9) : RV) = _
  rw [bD (m := 3) (Ob.c0 k2) rfl]; rfl
 refine ⟨xv, h9, .of (r' := T0 (.ptr jb 0)) (h1 := h9) e72 (by simp) (.to s0 (.seq (.to s1 (.br k6)) (.ag (c7.mono fun m g => ?_)))) rt, ?_, (I7.fr.set nf g3).set nb k3, ?_⟩
 ·simp only [k53_4, K3, t48_0, t48_2, t48_3]
  (rw [aF g, aw gt, an, Nat.zero_add, cJ g1, fk (bD (m := 3) (Ob.c0 g2) rfl), fX k1]; try rfl)
 ·have w8 := I7.rd.fr I7.of (by decide) (fun j hj _ => g3 j hj) (dt I7.rd.wf I7.of g3 g4)
  exact w8.fr ob8 (by decide) (fun j hj _ => k3 j hj) (dt w8.wf ob8 k3 k4)
 ·exact Fr.own (fun j hj _ => k3 j hj) (Fr.own (fun j hj _ => g3 j hj) I7.ow I7.of (.inr (by simp))) ob8 (.inr (by simp))
end
open Go.Cod
noncomputable section
variable {p : Pg} {h0 h h' h1 : Hp} {q j : P4} {s : Bs} {x y a b d e f : AV}
theorem vU (T : ER p) (TT : Ml p) (e17 : ak 19 p.fs = f19) (e29 : ak 43 p.fs = f43) (W : Wf h) {l : List AV} {e : po} {B : Nat} (r : vQ h l e) (bd : xF B e) (hB : B < 9223372036854775807) (hs : (enc e).length ≤ 16777216) :
  ∃ v h', Cv p 19 [.agg l] h v h' ∧ dh h' v 5 1 (bc (if takes e = true then enc e else [])) (fun j => ah j h = .none) ∧ Old h h' ∧ Wf h' := by
 obtain ⟨x, y, rfl, r1, r2⟩ := r
 obtain ⟨j, h1, f1, f2, f3, f4, f5, f6⟩ := lj (el := 28) (l := cE x y e) W (by simp [cE])
 obtain ⟨h2, t1, t2, t3⟩ := zN (p := p) TT f5 (l := cE x y e) (e := e) ⟨x, y, rfl, aQ.up r1 f4, aZ.up r2 f4⟩ bd hB
 have M1 := bD (m := 7) (Ob.c0 f3) (by simp [cE])
 cases ht : takes e with
 | false =>
  rw [ht] at t1
  refine ⟨.ai, h2, .of (r' := T0 .ai) (h1 := h2) e17 (by simp) (.ag (t1.mono fun m g => ?_)) rfl, ?_, f4.trans t2, t3⟩
  ·simp only [k19_0, K1, cm]
   (rw [jh f1, fk M1, aF g, dQ, bR, Bool.not_false, ew]; try rfl)
  ·rw [if_neg (by simp)]
   exact .inl ⟨rfl, .inl rfl⟩
 | true =>
  rw [ht] at t1
  rw [if_pos rfl]
  obtain ⟨b1, b2, b3, b4, b5, b6, b7, b8, b9⟩ := bd
  have O2 := f4.trans t2
  have c2 := (Ob.c0 f3).old t2
  have rc := aQ.up r1 O2
  have rg := aZ.up r2 O2
  obtain ⟨q, h3, a0, w3, _⟩ := ES T t3
  have hz : (enc e).length = 8 + 8 + 8 + (2 + e.name.length) + (2 + e.text.length) + 1 + (e.bB.flatMap nM).length + 1 + (e.changes.flatMap nL).length := by
   unfold enc; simp only [List.length_append, aK, aM, bL]
  obtain ⟨h4, a1, w4⟩ := mz T w3 (n := e.au) (by simp)
  obtain ⟨h5, a2, w5⟩ := mz T w4 (n := e.seq) (by simp [aK])
  obtain ⟨h6, a3, w6⟩ := mz T w5 (n := e.kind) (by simp [aK])
  obtain ⟨h7, a4, w7⟩ := oX T w6 (t := e.name) (by simp only [List.length_append, List.length_nil, aK]; omega)
  obtain ⟨h8, a5, w8⟩ := oX T w7 (t := e.text) (by simp only [List.length_append, List.length_nil, aK, aM]; omega)
  obtain ⟨h9, a6, w9⟩ := rH T w8 (n := e.bB.length) (by simp only [List.length_append, List.length_nil, aK, aM]; omega)
  obtain ⟨ha, a7, wa⟩ := Jl (p := p) (a := .ptr j 0) T w9 rc (by simp only [List.length_append, List.length_nil, aK, aM, bL]; omega) (by omega)
  obtain ⟨hb, a8, wb⟩ := rH T wa (n := e.changes.length) (by simp only [List.length_append, List.length_nil, aK, aM, bL]; omega)
  obtain ⟨hc, a9, wc⟩ := Jk (p := p) T wb rg (by simp only [List.length_append, List.length_nil, aK, aM, bL]; omega) (by omega) (fun c hc => by have := (b9 c hc).2.1; omega)
  obtain ⟨v, hd, aa, wd, Od, Wd⟩ := Md T e29 wc (by simp only [List.length_append, List.length_nil, aK, aM, bL]; omega)
  have s0 : Ev fun m => ∀ K : A2 → Hp → RS, k19_0 (aB p (exec p m)) (aH p (exec p m)) K (bE [.agg (cE x y e)] 0 .nil) h = K (T1 (.ptr j 0) (.ptr q 0)) h6 := (t1.and (a0.and (a1.and (a2.and a3)))).mono fun m g K => by
   obtain ⟨g0, g1, g2, g3, g4⟩ := g
   simp only [k19_0, K1, cm]
   (rw [jh f1, fk M1, aF g0, dQ, bR, Bool.not_true, dP, aF g1, an, aD (aP (c2.old w3.old) rfl), aF g2, an, aD (aj (c2.old w4.old) 1 rfl), aF g3, an, aD (aj (c2.old w5.old) 2 rfl), aF g4]; try rfl)
  have s1 : Ev fun m => ∀ K : A2 → Hp → RS, k19_1 (aB p (exec p m)) (aH p (exec p m)) K (T1 (.ptr j 0) (.ptr q 0)) h6 = K (T1 (.ptr j 0) (.ptr q 0)) h9 := (a4.and (a5.and a6)).mono fun m g K => by
   obtain ⟨g0, g1, g2⟩ := g
   simp only [k19_1, K2, t1_1, t1_3]
   (rw [an, aD (aj (c2.old w6.old) 3 rfl), aF g0, an, aD (aj (c2.old w7.old) 4 rfl), aF g1, an, aD (aj (c2.old w8.old) 5 rfl), aR (cT.len (aQ.up rc w8.old)), aF g2]; try rfl)
  have s2 : ∀ c i' (K : A2 → Hp → RS), k19_2 c i' K (T1 (.ptr j 0) (.ptr q 0)) h9 = K (T14 (.ptr j 0) (.ptr q 0) x (i64 e.bB.length) i0) h9 := fun c i' K => by
   simp only [k19_2, K2, t1_1, t1_3]
   (rw [an, aD (aj (c2.old w9.old) 5 rfl), aR (cT.len (aQ.up rc w9.old))]; try rfl)
  have s4 : Ev fun m => ∀ K : A2 → Hp → RS, k19_4 (aB p (exec p m)) (aH p (exec p m)) K (T14 (.ptr j 0) (.ptr q 0) x (i64 e.bB.length) (i64 e.bB.length)) ha = K (T1 (.ptr j 0) (.ptr q 0)) hb := a8.mono fun m g K => by
   simp only [k19_4, K2, t14_1, t14_3]
   (rw [an, aD (aj (c2.old wa.old) 6 rfl), aR (cT.len (aZ.up rg wa.old)), aF g]; try rfl)
  have s5 : ∀ c i' (K : A2 → Hp → RS), k19_5 c i' K (T1 (.ptr j 0) (.ptr q 0)) hb = K (T15 (.ptr q 0) y (i64 e.changes.length) i0) hb := fun c i' K => by
   simp only [k19_5, K2, t1_1, t1_3]
   (rw [an, aD (aj (c2.old wb.old) 6 rfl), aR (cT.len (aZ.up rg wb.old))]; try rfl)
  have s6 : Rn p (.ag k19_12 .skip) (T2 (.ptr q 0)) hc (.ret (T0 v) hd) := .ag (aa.mono fun m g => by
   simp only [k19_12, K1, t2_3]
   (rw [aF g]; try rfl))
  refine ⟨v, hd, .of (r' := T0 v) (h1 := hd) e17 (by simp) (.to s0 (.to s1 (.seq (.di s2 (.br a7)) (.to s4 (.seq (.di s5 (.br a9)) s6))))) rfl, ?_, O2.trans Od, Wd⟩
  have k1 := mA e.bB.length (by omega)
  have k2 := mA e.changes.length (by omega)
  rw [k1, k2] at wd
  refine dh.mono (b := fun j => ah j h2 = .none) ?_ fun j hj => O2.none hj
  simpa only [enc, List.nil_append, List.append_assoc] using wd
end
open Go.Cod
noncomputable section
variable {p : Pg} {h0 h h' h1 h2 : Hp} {q j k jb jk : P4} {s full : Bs} {x y xv xc xg : AV} {r rr : Rd}
def Jt (c : Bs × Int) : List AV := [bu c.1, i64 c.2]
def pc (b : P4 → Prop) (h : Hp) (x : AV) (cs : List mI) : Prop := ∃ xs : List AV, xs.length = cs.length ∧ dh h x 46 3 (List.zipWith uB xs cs).flatten b ∧ ∀ i (h1 : i < xs.length) (h2 : i < cs.length), dh h xs[i] 48 3 (cs[i].row.flatMap iQ) fun _ => True
theorem pc.cq {b : P4 → Prop} {cs : List mI} (w : pc b h x cs) (g : ∀ k el fl l, Ob h k el false fl l → el = 48 ∨ el = 46 → ah k h' = ah k h) : pc b h' x cs := by
 obtain ⟨xs, e1, e2, e3⟩ := w
 exact ⟨xs, e1, e2.cq fun k fl l o => g k _ _ _ o (.inr rfl), fun i h1 h2 => (e3 i h1 h2).cq fun k fl l o => g k _ _ _ o (.inl rfl)⟩
structure rh (h0 : Hp) (q jb jk : P4) (e : po) (h' : Hp) (xc xg : AV) (rr : Rd) : Prop where
 old : Old h0 h'
 rd : gF h' q rr
 ob : Ob h' jb 28 true .plain [i0, i0, i0, iS, iS, .ai, .ai]
 ok : Ob h' jk 28 true .plain (cE xc xg e)
 oc : dh h' xc 42 2 (e.bB.flatMap Jt) fun j => ah j h0 = .none
 og : pc (fun j => ah j h0 = .none) h' xg e.changes
variable {e : po}
theorem rh.one (I : rh h0 q jb jk e h' xc xg r) {el : Nat} {fl : Fl} {l : List AV} (o : Ob h' k el true fl l) (F : Fr k h' h2) (hk : ah k h0 = .none) (w : gF h2 q rr) (h26 : el ≠ 28) : rh h0 q jb jk e h2 xc xg rr :=
 ⟨F.old I.old hk, w, F.ob I.ob (I.ob.apart o (.inl (Ne.symm h26))), F.ob I.ok (I.ok.apart o (.inl (Ne.symm h26))), F.own I.oc o (.inr (by simp)), I.og.cq fun j el' fl' l' o' _ => F j (o'.apart o (.inr (by simp))) o'.ne⟩
theorem rh.qe (I : rh h0 q jb jk e h' xc xg r) (hq : ah q h0 = .none) (w : gF h2 q rr) (F : Fr q h' h2) : rh h0 q jb jk e h2 xc xg rr := by
 obtain ⟨_, _, _, _, _, w0, _⟩ := I.rd
 exact I.one w0.ob F hq w (by decide)
theorem rh.up (I : rh h0 q jb jk e h' xc xg r) (O : Old h' h2) (W : Wf h2) : rh h0 q jb jk e h2 xc xg r :=
 ⟨I.old.trans O, I.rd.up O W, I.ob.old O, I.ok.old O, I.oc.old fun j _ hj => O j hj, I.og.cq fun j _ _ _ o _ => O j o.ne⟩
theorem rh.st (I : rh h0 q jb jk e h' xc xg r) {el : Nat} {fl : Fl} {l : List AV} (o : Ob h' k el true fl l) (h1 : el ≠ 94) (h26 : el ≠ 28) (hk : ah k h0 = .none) (g : ∀ j, j ≠ k → ah j h2 = ah j h') (hn : h2.next = h'.next) : rh h0 q jb jk e h2 xc xg r :=
 I.one o (fun j hj _ => g j hj) hk (I.rd.fr o h1 (fun j hj _ => g j hj) (dt I.rd.wf o g hn)) h26
theorem Ju (cs : List (Bs × Int)) (c : Bs × Int) : (cs ++ [c]).flatMap Jt = cs.flatMap Jt ++ Jt c := by simp
theorem RZ (cs : List (Bs × Int)) : (cs.flatMap Jt).length = cs.length * 2 := by
 induction cs with
 | nil => rfl
 | cons v vs ih => simp only [List.flatMap_cons, List.length_append, ih, List.length_cons]; simp [Jt]; omega
theorem Jv (T : oZ p) (I : rh h0 q jb jk e h' xc xg r) (hq : ah q h0 = .none) (hk : ah jk h0 = .none) (hne : jb ≠ jk) (hv : e.bB.length ≤ 1000) {a : AV} {m : Nat} (hm : m < 1000) :
  ∃ xc' h2, Rn p (.ag xM (.ag k29_3 .skip)) (T42 a (.ptr jb 0) (.ptr q 0) (.ptr jk 0) (i64 (m + 1 : Nat))) h' (.nm (T42 a (.ptr jb 0) (.ptr q 0) (.ptr jk 0) (i64 m)) h2) ∧ rh h0 q jb jk { e with bB := e.bB ++ [(xj r).1] } h2 xc' xg (xj r).2 := by
 obtain ⟨h1, c1, w1, F1⟩ := iO T I.rd 65535
 have I1 := I.qe hq w1 F1
 generalize hs : (aL 65535 r).1 = s at *
 generalize hr1 : (aL 65535 r).2 = r1 at *
 obtain ⟨l, h3, e1, e2, e3, e4, e5, _⟩ := fK (el := 42) (n := 2) I1.rd.wf (c := .k1 (Y2 iS i0)) trivial (by decide)
 have I3 := I1.up e4 e5
 have hl : ah l h0 = .none := I1.old.none e2
 obtain ⟨h4, f1, f2, f3, f4⟩ := ef (k := 0) (m := 2) (l' := [bu s, i0]) e3 rfl (by rw [aW]; omega)
 have f2 : Ob h4 l 42 true .plain [bu s, i0] := f2
 have I4 := I3.st e3 (by decide) (by decide) hl f3 f4
 obtain ⟨h5, c5, w5, F5⟩ := iM T I4.rd
 have I5 := I4.qe hq w5 F5
 have o5 := F5.ob f2 (I4.rd.apart f2 (by decide))
 generalize hn : (aq r1).1 = n at *
 generalize hr2 : (aq r1).2 = r2 at *
 obtain ⟨h6, g1, g2, g3, g4⟩ := cP (k := 1) (v := i64 n) o5 (by simp) rfl
 have g2 : Ob h6 l 42 true .plain [bu s, i64 n] := g2
 have I6 := I5.st o5 (by decide) (by decide) hl g3 g4
 have hv' : xj r = ((s, n), r2) := by
  show (((aL 65535 r).1, (aq (aL 65535 r).2).1), (aq (aL 65535 r).2).2) = _
  rw [hs, hr1, hn, hr2]
 rw [hv']
 obtain ⟨m', h7, u1, u2, u3, u4, u5, u6⟩ := fm (el := 42) (es := 2) (n := 1) (z := [iS, i0]) (ps := [.mk 0 2 (.c (.agg [bu s, i64 n]))]) (l := [bu s, i64 n]) I6.rd.wf rfl rfl (by simp)
 have I7 := I6.up u4 u5
 obtain ⟨v', h8, z1, z2, z3, z4, z5⟩ := pa (m := 1) I7.rd.wf I7.oc (by omega) (new := [bu s, i64 n]) rfl (by rw [RZ]; simp; omega)
 have V : df 42 2 xc (.slice m' 0 1 1) h7 = .ok v' h8 := by
  rw [dB (m := 1) (q := m') (o := 0) (l := [bu s, i64 n]) (.inl ⟨_, rfl⟩) (by omega) (fun _ => Ob.c0 u3) rfl (by omega)]
  exact z1
 have ok8 := I7.ok.eq (z5 _ _ _ _ _ I7.ok (.inl (by decide)))
 have ob8 := I7.ob.eq (z5 _ _ _ _ _ I7.ob (.inl (by decide)))
 have rd8 : gF h8 q r2 := I7.rd.cq z3 fun k el ex fl l o g => z5 k el ex fl l o (.inl (by rcases g with rfl | rfl <;> decide))
 have old8 : Old h0 h8 := fun j hj => by
  have e := I7.old j hj
  rw [z4 j (by rw [e]; exact hj) (fun g => hj g), e]
 have og8 : pc (fun j => ah j h0 = .none) h8 xg e.changes := I7.og.cq fun k el fl l o g => z5 k el _ fl l o (.inl (by rcases g with rfl | rfl <;> decide))
 obtain ⟨h9, k1, k2, k3, k4⟩ := cP (k := 5) (v := v') ok8 (by simp [cE]) (my z2)
 have k2 : Ob h9 jk 28 true .plain (cE v' xg { e with bB := e.bB ++ [(s, n)] }) := k2
 refine ⟨v', h9, .to (r' := T42 a (.ptr jb 0) (.ptr q 0) (.ptr jk 0) (i64 (m + 1 : Nat))) (h' := h9) ((c1.and c5).mono fun n g K => ?_) (.aJ fun c i K => ?_),
  ⟨Fr.old (fun j hj _ => k3 j hj) old8 hk, rd8.fr ok8 (by decide) (fun j hj _ => k3 j hj) (dt z3 ok8 k3 k4), ob8.eq (k3 jb hne), k2, ?_, og8.cq fun k el fl l o _ => k3 k (o.apart ok8 (.inr (by simp)))⟩⟩
 ·obtain ⟨gg1, gg5⟩ := g
  simp only [xM, K5, t42_0, t42_2, t42_4, t42_5, t42_6]
  have U0 : bl [iS, i0] [.mk 0 1 (.c (bu s))] h1 = .ok (.agg [bu s, i0]) h1 := rfl
  (rw [aw Dk, ew, aF gg1, mY U0, iI e1, fX f1, aF gg5, an, Nat.zero_add, cJ g1, an, aD (aj (Ob.c0 I6.ok) 5 rfl), fk (bD (m := 2) (Ob.c0 g2) rfl), aw u1, aw V, an, Nat.zero_add, cJ k1]; try rfl)
 ·simp only [k29_3, K5, t42_0, t42_2, t42_4, t42_5, t42_6]
  (rw [tP (by omega)]; try rfl)
 ·rw [Ju]
  exact dh.mono (Fr.own (fun j hj _ => k3 j hj) z2 ok8 (.inr (by simp))) fun j hj => hj.elim id fun g => I7.old.none g
theorem _root_.Go.Am.Ds.dZ {p : Pg} {l : List DI} {d : bX} {aop : nV} {rg : A2} {h h' g : Hp} {hs : List Hp} {v : AV} {st : RS} (e : aop.run rg h = .ok v h') (k : Ds p l (dg d v rg) h' h' (g :: hs) st) : Ds p (.mk .dZ (.o d (.op aop)) :: l) rg h g hs st := k.mono fun m k => by
 show mE d (dK p (exec p m) l) rg g hs (aop.run rg h).nU = st
 rw [e]; exact k
theorem zR {el es : Nat} {l : List AV} {b : P4 → Prop} (w : dh h x el es l b) : same x x = true := by
 rcases w with ⟨_, rfl | ⟨q, rfl⟩⟩ | ⟨q, n, rfl, _⟩
 ·rfl
 ·exact lT (es := 1) (n := 0) (q := q) (o := 0) (.inl ⟨0, rfl⟩)
 ·exact lT (es := es) (n := n) (q := q) (o := 0) (.inr (.inl rfl))
theorem Mp {xs : List AV} {cs : List mI} (hl : xs.length = cs.length) (a : AV) (c : mI) : (List.zipWith uB (xs ++ [a]) (cs ++ [c])).flatten = (List.zipWith uB xs cs).flatten ++ uB a c := by
 rw [List.zipWith_append hl]; simp
theorem Mq {xs : List AV} {cs : List mI} (hl : xs.length = cs.length) : (List.zipWith uB xs cs).flatten.length = cs.length * 3 := by
 induction xs generalizing cs with
 | nil => cases cs with | nil => rfl | cons _ _ => simp at hl
 | cons a xs ih => cases cs with
  | nil => simp at hl
  | cons c cs =>
   simp only [List.zipWith_cons_cons, List.flatten_cons, List.length_append, ih (by simpa using hl), List.length_cons]
   simp [uB]; omega
theorem Jw (T : oZ p) (e72 : ak 53 p.fs = f53) (I : rh h0 q jb jk e h' xc xg r) (hq : ah q h0 = .none) (hk : ah jk h0 = .none) (hne : jb ≠ jk) (hv : e.changes.length ≤ 1000) {a : AV} {m : Nat} (hm : m < 1000) :
  ∃ xg' h2, Rn p (dp 4 (bh (bh x29))) (T43 a (.ptr jb 0) (.ptr q 0) (.ptr jk 0) (i64 (m + 1 : Nat))) h' (.nm (T43 a (.ptr jb 0) (.ptr q 0) (.ptr jk 0) (i64 m)) h2) ∧ rh h0 q jb jk { e with changes := e.changes ++ [(nN r).1] } h2 xc xg' (nN r).2 := by
 obtain ⟨xv, h1, c1, w1, F1, ow1⟩ := Mo (p := p) T e72 I.rd
 have I1 := I.qe hq w1 F1
 generalize hc : (nN r).1 = c at *
 generalize hr1 : (nN r).2 = r1 at *
 obtain ⟨m', h2, u1, u2, u3, u4, u5, u6⟩ := fm (el := 46) (es := 3) (n := 1) (z := [iS, .ai, .bool false]) (ps := [.mk 0 3 (.c (.agg (uB xv c)))]) (l := uB xv c) I1.rd.wf rfl rfl (by simp [uB])
 have I2 := I1.up u4 u5
 have ow2 := ow1.old fun j _ hj => u4 j hj
 obtain ⟨xs, g1, g2, g3⟩ := I2.og
 obtain ⟨v', h3, z1, z2, z3, z4, z5⟩ := pa (m := 1) I2.rd.wf g2 (by omega) (new := uB xv c) rfl (by rw [Mq g1]; simp [uB]; omega)
 have V : df 46 3 xg (.slice m' 0 1 1) h2 = .ok v' h3 := by
  rw [dB (m := 1) (q := m') (o := 0) (l := uB xv c) (.inl ⟨_, rfl⟩) (by omega) (fun _ => Ob.c0 u3) rfl (by omega)]
  exact z1
 have ok3 := I2.ok.eq (z5 _ _ _ _ _ I2.ok (.inl (by decide)))
 have ob3 := I2.ob.eq (z5 _ _ _ _ _ I2.ob (.inl (by decide)))
 have rd3 : gF h3 q r1 := I2.rd.cq z3 fun k el ex fl l o g => z5 k el ex fl l o (.inl (by rcases g with rfl | rfl <;> decide))
 have old3 : Old h0 h3 := fun j hj => by
  have e := I2.old j hj
  rw [z4 j (by rw [e]; exact hj) (fun g => hj g), e]
 have oc3 := I2.oc.cq (h' := h3) fun k fl l o => z5 k _ _ fl l o (.inl (by decide))
 have rows3 : ∀ i (h1 : i < xs.length) (h2 : i < e.changes.length), dh h3 xs[i] 48 3 (e.changes[i].row.flatMap iQ) fun _ => True := fun i a1 a2 => (g3 i a1 a2).cq fun k fl l o => z5 k _ _ fl l o (.inl (by decide))
 have ow3 := ow2.cq (h' := h3) fun k fl l o => z5 k _ _ fl l o (.inl (by decide))
 obtain ⟨h4, k1, k2, k3, k4⟩ := cP (k := 6) (v := v') ok3 (by simp [cE]) (my z2)
 have k2 : Ob h4 jk 28 true .plain (cE xc v' { e with changes := e.changes ++ [c] }) := k2
 have kp : ∀ k el fl l, Ob h3 k el false fl l → ah k h4 = ah k h3 := fun k el fl l o => k3 k (o.apart ok3 (.inr (by simp)))
 have sm := zR g2
 have L0 : lD (.ptr jk 6) h' = .ok xg h' := aj (Ob.c0 I.ok) 6 rfl
 have L1 : lD (.ptr jk 6) h1 = .ok xg h1 := aj (Ob.c0 I1.ok) 6 rfl
 have L2 : lD (.ptr jk 6) h2 = .ok xg h2 := aj (Ob.c0 I2.ok) 6 rfl
 have s5 : ∀ cc i (K : A2 → Hp → RS), k29_5 cc i K (T43 a (.ptr jb 0) (.ptr q 0) (.ptr jk 0) (i64 (m + 1 : Nat))) h' = K (T43 a (.ptr jb 0) (.ptr q 0) (.ptr jk 0) (i64 (m + 1 : Nat))) h' := fun cc i K => by
  simp only [k29_5, K5, t43_0, t43_2, t43_4, t43_5, t43_8]
  (rw [aw Dk, ew]; try rfl)
 have ops : ∃ r', Rn p (dp 6 (bh (bh x29))) (T43 a (.ptr jb 0) (.ptr q 0) (.ptr jk 0) (i64 (m + 1 : Nat))) h' (.nm r' h4) ∧ y0 r' = a ∧ y2 r' = .ptr jb 0 ∧ y4 r' = .ptr q 0 ∧ y5 r' = .ptr jk 0 ∧ y8 r' = i64 (m + 1 : Nat) :=
  ⟨_, .block (.nT (.dk (v := .ptr q 0) (g' := h') rfl <| .call (v := .agg (uB xv c)) (h' := h1) c1 <| .dZ (v := .slice m' 0 1 1) (h' := h2) u1 <|
   .Sy (v := .ptr jk 6) (g' := h2) (h1' := h1) (h2' := h') rfl rfl rfl (dD _ _) <| .Sy (v := xg) (g' := h2) (h1' := h1) (h2' := h') L2 L1 L0 sm <|
   .dZ (v := v') (h' := h3) V <| .dk (v := .ptr jk 6) (g' := h3) rfl <| .dZ (v := .undef) (h' := h4) k1 <| .nil)), rfl, rfl, rfl, rfl, rfl⟩
 obtain ⟨r', o1, o2, o3, o4, o5, o6⟩ := ops
 refine ⟨v', h4, .di s5 (.seq o1 (.aJ fun cc i K => ?_)), ⟨Fr.old (fun j hj _ => k3 j hj) old3 hk, rd3.fr ok3 (by decide) (fun j hj _ => k3 j hj) (dt z3 ok3 k3 k4), ob3.eq (k3 jb hne), k2, oc3.cq fun k fl l o => kp k _ fl l o, xs ++ [xv], by simp [g1], ?_, fun i a1 a2 => ?_⟩⟩
 ·simp only [k29_6, K5, o2, o3, o4, o5, o6]
  (rw [tP (by omega)]; try rfl)
 ·rw [Mp g1]
  exact dh.mono (z2.cq fun k fl l o => kp k _ fl l o) fun j hj => hj.elim id fun g => I2.old.none g
 ·by_cases hi : i < xs.length
  ·simp only [List.getElem_append_left hi, List.getElem_append_left (show i < e.changes.length by omega)]
   exact (rows3 i hi (by omega)).cq fun k fl l o => kp k _ fl l o
  ·have hi' : i = xs.length := by simp at a1; omega
   subst hi'
   have q1 : (xs ++ [xv])[xs.length]'a1 = xv := by simp
   have q2 : (e.changes ++ [c])[xs.length]'a2 = c := by
    have := List.getElem_append_right (as := e.changes) (bs := [c]) (i := xs.length) (by omega) (h₂ := a2)
    rw [this]; simp
   rw [q1, q2]
   exact dh.mono (ow3.cq fun k fl l o => kp k _ fl l o) fun _ _ => True.intro
end
open Go.Cod
noncomputable section
variable {p : Pg} {h0 h h' h1 : Hp} {q j : P4} {s : Bs} {x y a b d e f : AV}
theorem BG (e14 : ak 45 p.fs = f45) (W : Wf h) : ∃ k h', Cv p 45 [.ptr j 0] h (.slice k 0 3 3) h' ∧ Cs h' k 0 [.ptr j 1, .ptr j 2, .ptr j 3] ∧ Old h h' ∧ Wf h' ∧ ah k h = .none := by
 obtain ⟨k, h1, f1, f2, f3, f4, f5, f6⟩ := fm (el := 99) (es := 1) (n := 3) (z := [.cV, .cV, .cV]) (ps := [.mk 0 1 (.c (.ptr j 1)), .mk 1 1 (.c (.ptr j 2)), .mk 2 1 (.c (.ptr j 3))]) (l := [.ptr j 1, .ptr j 2, .ptr j 3]) W rfl rfl (by simp)
 refine ⟨k, h1, .of (r' := T0 (.slice k 0 3 3)) (h1 := h1) e14 (by simp) (.aJ fun c i K => ?_) rfl, Ob.c0 f3, f4, f5, f2⟩
 simp only [k45_0, K1, cm]
 have n1 : nC (.ptr j 0) h = .ok (.ptr j 0) h := rfl
 have a1 : fA 1 (.ptr j 0) h = .ok (.ptr j 1) h := rfl
 have a2 : fA 2 (.ptr j 0) h = .ok (.ptr j 2) h := rfl
 have a3 : fA 3 (.ptr j 0) h = .ok (.ptr j 3) h := rfl
 (rw [al n1, al a1, al n1, al a2, al n1, al a3, f1]; try rfl)
theorem Ta (a b c d e : AV) (E : List AV) (k : Nat) (hk : k < E.length) : ([a, b, c, d, e] ++ E)[5 + k]'(by simp; omega) = E[k] := by
 rw [List.getElem_append_right (by simp)]
 simp
end
open Go.Cod
noncomputable section
variable {p : Pg} {h0 h h' h1 : Hp} {q j : P4} {s : Bs} {x y a b d e f : AV}
end
open Go.Cod
noncomputable section
variable {p : Pg} {h0 h h' h1 : Hp} {q j : P4} {s : Bs} {x y a b d e f : AV}
structure Tb (p : Pg) : Prop where
 t : ER p
 tt : Ml p
 e14 : ak 45 p.fs = f45
 e17 : ak 19 p.fs = f19
 e29 : ak 43 p.fs = f43
theorem qL (s : nX) : (qa s).length = 1 + 8 + 8 + 8 + (2 + s.name.length) + (2 + (enc s.entry).length) := by unfold qa; simp only [List.length_append, aK, aM, bL]; omega
theorem Jx {s : nX} (c : Cs h j 0 (eZ x y s)) : Cs h j 5 (cE x y s.entry) := by
 have := c.sub 5 (cE x y s.entry) (by simp [eZ, cE]) (fun k hk => Ta _ _ _ _ _ _ k hk)
 simpa using this
end
open Go.Cod
noncomputable section
variable {p : Pg} {h0 h h' h1 : Hp} {q j : P4} {s : Bs} {x y a b d e f : AV}
end
open Go.Cod
noncomputable section
variable {p : Pg} {h0 h h' h1 : Hp} {q j : P4} {s : Bs} {x y a b d e f : AV}
structure Bb (h0 h : Hp) (x : AV) (s : Bs) : Prop where
 old : Old h0 h
 wf : Wf h
 own : dh h x 5 1 (bc s) fun j => ah j h0 = .none
theorem Bb.rd (w : Bb h0 h x s) : dW h x s := dh.BB w.own
theorem Jy (W : Wf h) (r : dW h x s) (hl : s.length ≤ 16777216) : ∃ d h1 v h2, Seat.bs 5 1 0 [] [] h = .ok d h1 ∧ df 5 1 d x h1 = .ok v h2 ∧ Bb h h2 v s := by
 obtain ⟨j, h1, f1, f2, f3, f4, f5, f6⟩ := fm (el := 5) (es := 1) (n := 0) (z := []) (ps := []) (l := []) W rfl rfl (by simp)
 obtain ⟨q, o, n, g1, g2, g3⟩ := dW.up r f4
 obtain ⟨v, h2, c1, c2, c3, c4⟩ := fJ (m := n) (es := 1) f5 (x := .slice j 0 0 0) (b := fun _ => False) (el := 5) (l := []) (.inl ⟨rfl, .inr ⟨j, rfl⟩⟩) (by omega) (new := bc s) (by rw [bw]; omega) (by simp [bw]; omega)
 refine ⟨_, h1, v, h2, f1, by rw [dB g1 (by omega) g3 (by rw [bw]; omega) (by omega)]; exact c1, fun k hk => ?_, c3, dh.mono c2 fun k hk => ?_⟩
 ·have := f4 k hk
  rw [c4 k (by rw [this]; exact hk) (fun g => g), this]
 ·rcases hk with hk | hk
  ·exact hk.elim
  ·exact f4.none hk
theorem Bb.app (w : Bb h0 h x s) (t : Bs) {m : Nat} (hm : t.length = m) (hl : s.length + t.length ≤ 16777216) : ∃ v h2, mD 5 1 m (bc t) x h = .ok v h2 ∧ Bb h0 h2 v (s ++ t) := by
 subst hm
 obtain ⟨v, h2, c1, c2, c3, c4⟩ := fJ (m := t.length) (es := 1) w.wf w.own (by omega) (new := bc t) (by rw [bw]; omega) (by simp only [bw]; exact hl)
 refine ⟨v, h2, c1, fun k hk => ?_, c3, ?_⟩
 ·have := w.old k hk
  rw [c4 k (by rw [this]; exact hk) (fun g => hk g), this]
 ·rw [tH]
  refine dh.mono c2 fun k hk => ?_
  rcases hk with hk | hk
  ·exact hk
  ·exact w.old.none hk
theorem Bb.up (w : Bb h0 h x s) (O : Old h h') (W : Wf h') : Bb h0 h' x s := ⟨w.old.trans O, W, w.own.old fun j _ hj => O j hj⟩
theorem Bb.tJ (w : Bb h0 h x s) (t : Bs) {m : Nat} (hm : t.length = m) {z : List AV} {ps : List Part} (hf : fits ps .nil = true) (hz : fill ps .nil z = bc t) (hl : s.length + t.length ≤ 16777216) :
  ∃ l h1 v h2, Seat.bs 5 1 m z ps h = .ok l h1 ∧ df 5 1 x l h1 = .ok v h2 ∧ Bb h0 h2 v (s ++ t) := by
 obtain ⟨j, h1, f1, f2, f3, f4, f5, f6⟩ := fm (el := 5) (es := 1) (n := m) w.wf hf hz (by simp [bw]; omega)
 obtain ⟨v, h2, g1, g2⟩ := (Bb.up w f4 f5).app t hm hl
 refine ⟨_, h1, v, h2, f1, ?_, g2⟩
 rw [dB (m := m) (q := j) (o := 0) (l := bc t) (.inl ⟨_, rfl⟩) (by omega) (fun _ => Ob.c0 f3) (by simp [bw, hm]) (by omega)]
 exact g1
theorem Bb.Mr (w : Bb h0 h x s) (t : Bs) (hl : s.length + t.length ≤ 16777216) : ∃ v h2, jj 5 (.c x) (.c (bu t)) .nil h = .ok v h2 ∧ Bb h0 h2 v (s ++ t) := by
 obtain ⟨v, h2, g1, g2⟩ := w.app t rfl hl
 refine ⟨v, h2, ?_, g2⟩
 have ec : (t.map UInt8.toNat).map (fun b : Nat => AV.int .u8 (b : Int)) = bc t := by simp [bc]
 rw [De, ec, List.length_map]; exact g1
theorem le_succ (k n : Nat) : le (k + 1) n = le k n ++ [UInt8.ofNat (n / 256 ^ k)] := by
 induction k generalizing n with
 | zero => simp [le]
 | succ k ih =>
  rw [le, ih (n / 256), le, List.cons_append, Nat.div_div_eq_div_mul, Nat.pow_succ, Nat.mul_comm 256]
theorem Jz (m : Nat) (hm : m < 9223372036854775808) (i : Nat) (hi : i < 8) : (-((m : Int) + 1)) / ((256 ^ i : Nat) : Int) % 256 = (((18446744073709551615 - m) / 256 ^ i % 256 : Nat) : Int) := by
 have : i = 0 ∨ i = 1 ∨ i = 2 ∨ i = 3 ∨ i = 4 ∨ i = 5 ∨ i = 6 ∨ i = 7 := by omega
 rcases this with rfl | rfl | rfl | rfl | rfl | rfl | rfl | rfl
 all_goals simp only [Nat.reducePow]
 all_goals omega
theorem zS (n : Int) (hn : cS n) (i : Nat) (hi : i < 8) : ∃ z, bK .shr (.int .i64 n) (.int .u64 ((8 * i : Nat) : Int)) h = .ok (.int .i64 z) h ∧ z % 256 = ((u64 n / 256 ^ i % 256 : Nat) : Int) := by
 unfold cS at hn
 cases n with
 | ofNat m =>
  refine ⟨_, rfl, ?_⟩
  have hm : m ≤ 9223372036854775807 := by have := hn.2; simp at this; omega
  have hu : u64 (Int.ofNat m) = m := mA m (by omega)
  rw [hu]
  have : Nat.div m (Nat.pow 2 (Nat.min (8 * i) (iT .i64))) = m / 256 ^ i := by
   have e : Nat.min (8 * i) (iT .i64) = 8 * i := Nat.min_eq_left (show 8 * i ≤ 64 by omega)
   rw [e]
   show m / 2 ^ (8 * i) = _
   rw [Nat.pow_mul]
  rw [this]
  show ((m / 256 ^ i : Nat) : Int) % 256 = _
  omega
 | negSucc m =>
  refine ⟨_, rfl, ?_⟩
  have hm : m < 9223372036854775808 := by have := hn.1; omega
  have hu : u64 (Int.negSucc m) = 18446744073709551615 - m := by unfold u64; omega
  rw [hu]
  have e : Nat.min (8 * i) (iT .i64) = 8 * i := Nat.min_eq_left (show 8 * i ≤ 64 by omega)
  rw [e, Int.fdiv_eq_ediv_of_nonneg _ (by exact Int.le_of_lt (Int.pow_pos (by decide)))]
  have : (2 : Int) ^ (8 * i) = ((256 ^ i : Nat) : Int) := by rw [Int.pow_mul]; simp
  rw [this]
  rw [Int.negSucc_eq]
  exact Jz m hm i hi
end
open Go.Cod
noncomputable section
variable {p : Pg} {h0 h h' h1 : Hp} {q j : P4} {s : Bs} {x y a b d e f : AV}
structure JA (p : Pg) : Prop where
 e21 : ak 16 p.fs = f16
 e22 : ak 17 p.fs = f17
 e23 : ak 18 p.fs = f18
 e37 : ak 35 p.fs = f35
theorem Ms (n : Int) : [AV.int .u8 (n % 256)] = bc [UInt8.ofNat (u64 n)] := by
 show _ = [AV.int .u8 ((UInt8.ofNat (u64 n)).toNat : Int)]
 have : ((UInt8.ofNat (u64 n)).toNat : Int) = n % 256 := by
  have : (UInt8.ofNat (u64 n)).toNat = u64 n % 256 := by simp
  rw [this]; unfold u64; omega
 rw [this]
theorem BH (T : JA p) (W : Wf h) (r : dW h x s) (n : Int) (hl : s.length + 1 ≤ 16777216) : ∃ v h', Cv p 16 [x, i64 n] h v h' ∧ Bb h h' v (s ++ le 1 (u64 n)) := by
 obtain ⟨d, h1, v1, h2, f1, f2, w⟩ := Jy W r (by omega)
 obtain ⟨l, h3, v, h4, g1, g2, w2⟩ := w.tJ [UInt8.ofNat (u64 n)] (m := 1) rfl (z := [.int .u8 (.ofNat 0)]) (ps := [.mk 0 1 (.c (.int .u8 (n % 256)))]) rfl (by rw [← Ms]; rfl) (by simp; omega)
 refine ⟨v, h4, .of (r' := T18 v) (h1 := h4) T.e21 (by simp) (.aJ fun c i K => ?_) rfl, w2⟩
 simp only [k16_0, K2, dE, dF]
 (rw [aw f1, aw f2, eH, w8, bR, aw g1, aw g2]; try rfl)
theorem nQ (T : JA p) (W : Wf h) (r : dW h x s) (n : Int) (hn : cS n) (hl : s.length + 8 ≤ 16777216) : ∃ v h', Cv p 17 [x, i64 n] h v h' ∧ Bb h h' v (s ++ nJ n) := by
 obtain ⟨d, h1, v1, h2, f1, f2, w⟩ := Jy W r (by omega)
 obtain ⟨r', h', ⟨v, rfl, w'⟩, k⟩ := zI (p := p) (body := .ag k17_2 .skip) (r := T20 (i64 n) v1 i0) (h := h2) 8
  (Inv := fun i r h' => ∃ v, r = T20 (i64 n) v (i64 i) ∧ Bb h h' v (s ++ le i (u64 n))) (l := 0) (fun i r h' hi I => by
   obtain ⟨v, rfl, w⟩ := I
   obtain ⟨z, z1, z2⟩ := zS (h := h') n hn i hi
   obtain ⟨l, h3, v', h4, g1, g2, w2⟩ := w.tJ [UInt8.ofNat (u64 n / 256 ^ i)] (m := 1) rfl (z := [.int .u8 (.ofNat 0)]) (ps := [.mk 0 1 (.c (.int .u8 (z % 256)))]) rfl (by
    show [AV.int .u8 (z % 256)] = [AV.int .u8 ((UInt8.ofNat (u64 n / 256 ^ i)).toNat : Int)]
    rw [z2]; simp) (by simp [bL]; omega)
   refine ⟨_, h4, .aJ (s := .nm (T20 (i64 n) v' (i64 (i + 1 : Nat))) h4) fun c i' K => ?_, v', rfl, by rw [le_succ, ← List.append_assoc]; exact w2⟩
   simp only [k17_2, K3, t20_1, vB, t20_6]
   have e8 : (Int.ofNat 8 : Int) * (i : Int) = ((8 * i : Nat) : Int) := by simp
   (rw [aV, bC, if_pos (by show (i : Int) < 8; omega), PQ, e8, gW _ (by unfold cS; omega), bR, eH, w64, Int.emod_eq_of_lt (by omega) (by omega), bR, aw z1, eH, w8, bR, aw g1, aw g2, dj hi (by omega)]; try rfl)) (fun r h' I => by
   obtain ⟨v, rfl, w⟩ := I
   refine .aJ fun c i' K => ?_
   simp only [k17_2, K3, t20_1, vB, t20_6]
   (rw [aV, bC, if_neg (by show ¬ ((8 : Nat) : Int) < 8; omega)]; try rfl)) ⟨v1, rfl, by simpa [le] using w⟩
 have s0 : ∀ c i' (K : A2 → Hp → RS), k17_0 c i' K (bE [x, i64 n] 0 .nil) h = K (T19 (i64 n) v1) h2 := fun c i' K => by
  simp only [k17_0, K2, dE, dF]
  (rw [aw f1, aw f2]; try rfl)
 have s1 : ∀ c i' (K : A2 → Hp → RS), k17_1 c i' K (T19 (i64 n) v1) h2 = K (T20 (i64 n) v1 i0) h2 := fun c i' K => by
  simp only [k17_1, K2, t19_1, t19_5]
 have s2 : ∀ c i' (K : A2 → Hp → RS), k17_3 c i' K (T20 (i64 n) v (i64 (8 : Nat))) h' = .ret (T18 v) h' := fun c i' K => by
  simp only [k17_3, K1, vB]
 exact ⟨v, h', .of (r' := T18 v) (h1 := h') T.e22 (by simp) (.di s0 (.seq (.di s1 (.br k)) (.aJ s2))) rfl, w'⟩
theorem zT (T : JA p) (W : Wf h) (r : dW h x s) (n : Nat) (hn : n < 4294967296) (hl : s.length + 2 ≤ 16777216) : ∃ v h', Cv p 35 [x, i64 n] h v h' ∧ Bb h h' v (s ++ le 2 n) := by
 obtain ⟨d, h1, v1, h2, f1, f2, w⟩ := Jy W r (by omega)
 obtain ⟨z, z1, z2⟩ := zS (h := h2) n (by unfold cS; omega) 1 (by omega)
 have z2 : z % 256 = ((n / 256 % 256 : Nat) : Int) := by rw [z2, mA n (by omega), Nat.pow_one]
 obtain ⟨l, h3, v, h4, g1, g2, w2⟩ := w.tJ (le 2 n) (m := 2) rfl (z := [.int .u8 (.ofNat 0), .int .u8 (.ofNat 0)]) (ps := [.mk 0 1 (.c (.int .u8 ((n : Int) % 256))), .mk 1 1 (.c (.int .u8 (z % 256)))]) rfl (by
  show [AV.int .u8 ((n : Int) % 256), AV.int .u8 (z % 256)] = [AV.int .u8 ((UInt8.ofNat n).toNat : Int), AV.int .u8 ((UInt8.ofNat (n / 256)).toNat : Int)]
  rw [z2]; simp) (by simp [bL]; omega)
 refine ⟨v, h4, .of (r' := T18 v) (h1 := h4) T.e37 (by simp) (.aJ fun c i K => ?_) rfl, w2⟩
 simp only [k35_0, K2, dE, dF]
 (rw [aw f1, aw f2, eH, w8, bR]; try rfl)
 have z1 : bK .shr (.int .i64 (n : Int)) (.int .u64 (.ofNat 8)) h2 = .ok (.int .i64 z) h2 := z1
 (rw [aw z1, eH, w8, bR, aw g1, aw g2]; try rfl)
theorem tW (T : JA p) (W : Wf h) (r : dW h x s) (t : Bs) (ht : t.length < 4294967296) (hl : s.length + (2 + t.length) ≤ 16777216) : ∃ v h', Cv p 18 [x, bu t] h v h' ∧ Bb h h' v (s ++ Cod.text t) := by
 obtain ⟨v1, h1, a1, w1⟩ := zT T W r t.length ht (by omega)
 obtain ⟨v, h2, g1, w2⟩ := Bb.Mr w1 t (by simp [bL]; omega)
 refine ⟨v, h2, .of (r' := T18 v) (h1 := h2) T.e23 (by simp) (.ag (a1.mono fun m g => ?_)) rfl, by simpa [Cod.text] using w2⟩
 simp only [k18_0, K2, dE, dF]
 (rw [dR, bR, aF g, aw g1]; try rfl)
end
open Go.Cod
noncomputable section
variable {p : Pg} {h0 h h' h1 : Hp} {q j : P4} {s : Bs} {x y a b d e f : AV}
theorem JB {e : po} (r1 : aQ h x e.bB) (r2 : aZ h y e.changes) : same (.agg (cE x y e)) (.agg (cE x y e)) = true := by
 obtain ⟨_, _, s1, _⟩ := cT.sl r1
 obtain ⟨_, _, s2, _⟩ := cT.sl r2
 refine Jc fun v hv => ?_
 simp only [cE, List.mem_cons, List.not_mem_nil, or_false] at hv
 rcases hv with rfl | rfl | rfl | rfl | rfl | rfl | rfl
 ·exact mu _ _
 ·exact mu _ _
 ·exact mu _ _
 ·exact vP _
 ·exact vP _
 ·exact lT s1
 ·exact lT s2
structure Qe (p : Pg) : Prop where
 s : Tb p
 r : JA p
 e8 : ak 6 p.fs = f6
theorem JC (T : Qe p) {st : nX} {B : Nat} {v1 : AV} (W : Wf h) (c : Cs h j 0 (eZ x y st)) (r1 : aQ h x st.entry.bB) (r2 : aZ h y st.entry.changes) (bd : Mb B st) (hB : B < 9223372036854775807) (ht : takes st.entry = true) (he : (enc st.entry).length ≤ 65535)
  (hv : dW h v1 s) (hn : st.name.length < 4294967296) (hs : s.length + (24 + (2 + st.name.length) + (2 + (enc st.entry).length)) ≤ 16777216) :
  ∃ r' h' v, Rn p (dp 8 (bh x6)) (T9 a v1 d (.ptr j 0)) h (.nm r' h') ∧ y0 r' = a ∧ y3 r' = v ∧ y4 r' = d ∧ Bb h h' v (s ++ (nJ st.au ++ (nJ st.node ++ (nJ st.n ++ (Cod.text st.name ++ Cod.text (enc st.entry)))))) := by
 obtain ⟨b1, b2, b3, b4, b5, b6⟩ := bd
 obtain ⟨v2, h2, a1, w1⟩ := nQ (p := p) T.r W hv st.au b2 (by omega)
 obtain ⟨v3, h3, a2, w2⟩ := nQ (p := p) T.r w1.wf (Bb.rd w1) st.node b3 (by simp only [List.length_append, aK]; omega)
 obtain ⟨v4, h4, a3, w3⟩ := nQ (p := p) T.r w2.wf (Bb.rd w2) st.n b4 (by simp only [List.length_append, aK]; omega)
 obtain ⟨v5, h5, a4, w4⟩ := tW (p := p) T.r w3.wf (Bb.rd w3) st.name hn (by simp only [List.length_append, aK]; omega)
 have O2 := w1.old
 have O3 := O2.trans w2.old
 have O4 := O3.trans w3.old
 have O5 := O4.trans w4.old
 obtain ⟨v6, h6, a5, o5, O6, W6⟩ := vU (p := p) T.s.t T.s.tt T.s.e17 T.s.e29 w4.wf (l := cE x y st.entry) (e := st.entry) ⟨x, y, rfl, aQ.up r1 O5, aZ.up r2 O5⟩ b6 hB (by omega)
 rw [ht, if_pos rfl] at o5
 have rb := dh.BB o5
 obtain ⟨v7, h7, a6, w6⟩ := tW (p := p) T.r W6 (dW.up (Bb.rd w4) O6) (enc st.entry) (by omega) (by simp only [List.length_append, aK, aM]; omega)
 have c5 := Jx c
 refine ⟨_, h7, v7, .seq (.nT (
  .dk (v := v1) (g' := h) rfl <| .dk (v := .ptr j 1) (g' := h) rfl <| .dk (v := i64 st.au) (g' := h) (aj c 1 rfl) <| .call (v := v2) (h' := h2) a1 <|
  .xi (v := .ptr j 2) (g' := h2) (h1' := h) rfl rfl (dD _ _) <| .xi (v := i64 st.node) (g' := h2) (h1' := h) (aj (c.old O2) 2 rfl) (aj c 2 rfl) (jS _ _) <| .call (v := v3) (h' := h3) a2 <|
  .Sy (v := .ptr j 3) (g' := h3) (h1' := h2) (h2' := h) rfl rfl rfl (dD _ _) <| .Sy (v := i64 st.n) (g' := h3) (h1' := h2) (h2' := h) (aj (c.old O3) 3 rfl) (aj (c.old O2) 3 rfl) (aj c 3 rfl) (jS _ _) <| .call (v := v4) (h' := h4) a3 <|
  .dk (v := v4) (g' := h4) rfl <| .nil)) (.nT (
  .dk (v := v4) (g' := h4) rfl <| .dk (v := .ptr j 4) (g' := h4) rfl <| .dk (v := bu st.name) (g' := h4) (aj (c.old O4) 4 rfl) <| .call (v := v5) (h' := h5) a4 <|
  .xi (v := .ptr j 5) (g' := h5) (h1' := h4) rfl rfl (dD _ _) <| .xi (v := .agg (cE x y st.entry)) (g' := h5) (h1' := h4) (bD (m := 7) (c5.old O5) (by simp [cE])) (bD (m := 7) (c5.old O4) (by simp [cE])) (JB r1 r2) <| .call (v := v6) (h' := h6) a5 <|
  .dk (v := bu (enc st.entry)) (g' := h6) (tK rb) <| .call (v := v7) (h' := h7) a6 <| .dk (v := v7) (g' := h7) rfl <| .nil)), rfl, rfl, rfl, ?_⟩
 refine ⟨O5.trans (O6.trans w6.old), w6.wf, dh.mono (b := fun j => ah j h6 = .none) ?_ fun j hj => (O5.trans O6).none hj⟩
 have := w6.own
 simpa only [List.append_assoc] using this
end
open Go.Cod
noncomputable section
variable {p : Pg} {h0 h h' h1 : Hp} {q j : P4} {s : Bs} {x y a b d e f : AV}
theorem JD (T : Qe p) (W : Wf h) {ss : List nX} {B : Nat} (r : dc h x ss) (bd : ∀ s, s ∈ ss → Mb B s) (hB : B < 4294967296) (hn : ss.length < 9223372036854775807) (ht : ∀ s, s ∈ ss → takes s.entry = true) (he : ∀ s, s ∈ ss → (enc s.entry).length ≤ 65535) (hs : (ss.flatMap qa).length ≤ 16777216) :
  ∃ v h', Cv p 6 [x] h v h' ∧ Bb h h' v (ss.flatMap qa) := by
 obtain ⟨q', o', sl, g⟩ := cT.sl r
 have key : ∃ st, (∃ v h', st = .ex 0 (T2 v) h' ∧ Bb h h' v (ss.flatMap qa)) ∧ Rn p (.loop (dp 4 (bh x6))) (T8 x .ai i0) h st := by
  refine eo ss.length (Inv := fun i r h' => ∃ v, r = T8 x v (i64 i) ∧ Bb h h' v ((ss.take i).flatMap qa)) (fun i r h' hi I => ?_) (fun r h' I => ?_) ss.length 0 _ h (by omega) ⟨.ai, rfl, .refl h, W, .inl ⟨rfl, .inl rfl⟩⟩
  ·obtain ⟨v, rfl, w⟩ := I
   obtain ⟨l, l1, l2, xc, yc, rfl, r1, r2⟩ := g i hi
   obtain ⟨j, h2, c1, c2, c3, c4, c5, _⟩ := vO (el := 30) w.wf sl hi (l2.old w.old) l1 (c0 := .k1 (Y12 i0 i0 i0 i0 iS i0 i0 i0 iS iS .ai .ai)) trivial (by decide)
   have hz : ((ss.take i).flatMap qa).length + (qa ss[i]).length ≤ 16777216 := by
    have := gX (g := qa) ss (i + 1)
    rw [fq hi, List.length_append] at this
    omega
   have hl := qL ss[i]
   have hb := bd ss[i] (by simp)
   obtain ⟨v1, h3, a1, w1⟩ := BH (p := p) T.r c5 (dW.up (Bb.rd w) c4) ss[i].kind (by omega)
   have O2 := w.old.trans c4
   have O3 := O2.trans w1.old
   have hnm : ss[i].name.length ≤ B := hb.2.2.2.2.1
   obtain ⟨r', h4, v4, k, y0', y3', y4', w4⟩ := JC (p := p) (a := x) (d := i64 i) T w1.wf ((Ob.c0 c3).old w1.old) (aQ.up r1 O3) (aZ.up r2 O3) hb (by omega) (ht _ (by simp)) (he _ (by simp)) (Bb.rd w1) (by omega) (by simp only [List.length_append, bL]; omega)
   have s1 : ∀ c i' (K : A2 → Hp → RS), k6_2 c i' K (T8 x v (i64 i)) h' = K (T8 x v (i64 i)) h' := fun c i' K => by
    simp only [k6_2, K3, t8_0, t8_3, t8_4]
    (rw [aR (cT.len (dc.up r w.old)), aV, bC, if_pos (by omega)]; try rfl)
   have s2 : Ev fun m => ∀ K : A2 → Hp → RS, k6_3 (aB p (exec p m)) (aH p (exec p m)) K (T8 x v (i64 i)) h' = K (T9 x v1 (i64 i) (.ptr j 0)) h3 := a1.mono fun m g K => by
    simp only [k6_3, K3, t8_0, t8_3, t8_4]
    (rw [c1, an, aD (aP (Ob.c0 c3) rfl), aF g]; try rfl)
   have s3 : ∀ c i' (K : A2 → Hp → RS), k6_4 c i' K r' h4 = .nm (T8 x v4 (i64 (i + 1 : Nat))) h4 := fun c i' K => by
    simp only [k6_4, K3, y0', y3', y4']
    (rw [dj hi hn]; try rfl)
   refine .inl ⟨_, h4, .di s1 (.seq (.block (.to s2 k)) (.aJ s3)), v4, rfl, O3.trans w4.old, w4.wf, ?_⟩
   refine dh.mono (b := fun j => ah j h3 = .none) ?_ fun j hj => O3.none hj
   have := w4.own
   rw [fq hi, qa]
   simpa only [List.append_assoc] using this
  ·obtain ⟨v, rfl, w⟩ := I
   rw [List.take_length] at w
   refine ⟨_, ⟨v, h', rfl, w⟩, .cW (.aJ fun c i' K => ?_)⟩
   simp only [k6_2, K3, t8_0, t8_3, t8_4]
   (rw [aR (cT.len (dc.up r w.old)), aV, bC, if_neg (by omega)]; try rfl)
 obtain ⟨st, ⟨v, h', rfl, w⟩, k⟩ := key
 have s0 : ∀ c i' (K : A2 → Hp → RS), k6_0 c i' K (bE [x] 0 .nil) h = K (T7 x .ai) h := fun c i' K => by
  simp only [k6_0, K1, cm]
 have s1 : ∀ c i' (K : A2 → Hp → RS), k6_1 c i' K (T7 x .ai) h = K (T8 x .ai i0) h := fun c i' K => by
  simp only [k6_1, K2, t7_0, t7_3]
 have s2 : ∀ c i' (K : A2 → Hp → RS), k6_5 c i' K (T2 v) h' = .ret (T0 v) h' := fun c i' K => by
  simp only [k6_5, K1, t2_3]
 exact ⟨v, h', .of (r' := T0 v) (h1 := h') T.e8 (by simp) (.di s0 (.seq (.di s1 (.br k)) (.aJ s2))) rfl, w⟩
end
open Go.Cod
noncomputable section
variable {p : Pg} {h0 h h' h1 : Hp} {q j : P4} {s : Bs} {x y a b d e f : AV}
theorem Dl (s : Bs) (n : Nat) (hn : n ≤ s.length) : fw (.c (bu s)) .none (.some (.c (pi n))) .nil h = .ok (bu (s.take n)) h := by
 rw [bu, LW _ _ (by simpa using hn), ← List.map_take]
theorem xr {A C : List AV} {a b c v : AV} : (A ++ ([a, b, c] ++ C)).set (A.length + 2) v = A ++ ([a, b, v] ++ C) ∧ (A ++ ([a, b, c] ++ C)).set A.length v = A ++ ([v, b, c] ++ C) := by
 constructor
 ·rw [List.set_append_right _ _ (by omega)]; simp
 ·rw [List.set_append_right _ _ (by omega)]; simp
theorem Ob.Kn {el : Nat} {ex : Bool} {fl : Fl} {A C : List AV} {m : List AV} (o : Ob h q el ex fl (A ++ (m ++ C))) : Cs h q A.length m :=
 o.cs (fun j hj => ⟨by simp; omega, by rw [List.getElem_append_right (by omega), List.getElem_append_left (by omega)]; simp⟩) (by simp)
theorem Mt (e24 : ak 33 p.fs = f33) {A C : List AV} {v : lU} {n i : Nat} (W : Wf h) (o : Ob h q 48 false .plain (A ++ (iQ v ++ C))) (hA : A.length = i * 3) (hi : i < n) :
  ∃ h', (∀ X s', Rn p X (T25 a b d e f (.ft q 0 n 3) (i64 i)) h' s' → Rn p (.ag uG X) (T25 a b d e f (.ft q 0 n 3) (i64 i)) h s') ∧ Ob h' q 48 false .plain (A ++ (iQ (qZ v) ++ C)) ∧ (∀ j, j ≠ q → ah j h' = ah j h) ∧ Wf h' := by
 have sl : vL (.ft q 0 n 3) 3 n q 0 := .inr (.inl rfl)
 have hp : 0 + i * 3 = A.length := by omega
 have gt : cB (i64 v.s.length) (pi 41) h = .ok (.bool (decide ((41 : Int) < v.s.length))) h := gy _ _ _
 by_cases hc : 41 < v.s.length
 ·obtain ⟨h2, a1, a2, a3, a4⟩ := cP (k := A.length + 2) (v := bu (v.s.take 41)) o (by simp [iQ]) rfl
  have a2 : Ob h2 q 48 false .plain (A ++ ([i64 v.kind, i64 v.n, bu (v.s.take 41)] ++ C)) := by
   have e := (xr (A := A) (C := C) (a := i64 v.kind) (b := i64 v.n) (c := bu v.s) (v := bu (v.s.take 41))).1
   rw [show A ++ (iQ v ++ C) = A ++ ([i64 v.kind, i64 v.n, bu v.s] ++ C) from rfl, e] at a2; exact a2
  have nr := xn (p := p) (h := h2) e24 v.kind
  obtain ⟨h3, b1, b2, b3, b4⟩ := cP (k := A.length) (v := i64 (gV v.kind)) a2 (by simp) rfl
  have b2 : Ob h3 q 48 false .plain (A ++ ([i64 (gV v.kind), i64 v.n, bu (v.s.take 41)] ++ C)) := by
   rw [(xr (A := A) (C := C) (a := i64 v.kind) (b := i64 v.n) (c := bu (v.s.take 41)) (v := i64 (gV v.kind))).2] at b2; exact b2
  refine ⟨h3, fun X s' e => .to (nr.mono fun m g K => ?_) e, b2, fun j hj => by rw [b3 j hj, a3 j hj], ?_⟩
  ·simp only [uG, K7, vC, vD, vE, vF, vG, vH, vI]
   (rw [cN (bS sl hi), hp, an, aD (aj (Ob.Kn o) 2 rfl), dR, bR, aw gt, bC, if_pos (by omega), cN (bS sl hi), hp, an, aD (aj (Ob.Kn o) 2 rfl), aw (Dl _ _ (by omega)), cN (bS sl hi), hp, an, cJ a1, cN (bS sl hi), hp, an, Nat.add_zero, aD (aP (Ob.Kn a2) rfl), aF g, cN (bS sl hi), hp, an, Nat.add_zero, cJ b1]; try rfl)
  ·refine W.of (by rw [b4, a4]) fun j hj => ?_
   have hq : j ≠ q := fun g => o.ne (g ▸ hj)
   rw [b3 j hq, a3 j hq, hj]
 ·have nr := xn (p := p) (h := h) e24 v.kind
  obtain ⟨h3, b1, b2, b3, b4⟩ := cP (k := A.length) (v := i64 (gV v.kind)) o (by simp [iQ]) rfl
  have b2 : Ob h3 q 48 false .plain (A ++ ([i64 (gV v.kind), i64 v.n, bu v.s] ++ C)) := by
   have e := (xr (A := A) (C := C) (a := i64 v.kind) (b := i64 v.n) (c := bu v.s) (v := i64 (gV v.kind))).2
   rw [show A ++ (iQ v ++ C) = A ++ ([i64 v.kind, i64 v.n, bu v.s] ++ C) from rfl, e] at b2; exact b2
  refine ⟨h3, fun X s' e => .to (nr.mono fun m g K => ?_) e, ?_, b3, ?_⟩
  ·simp only [uG, K7, vC, vD, vE, vF, vG, vH, vI]
   (rw [cN (bS sl hi), hp, an, aD (aj (Ob.Kn o) 2 rfl), dR, bR, aw gt, bC, if_neg (by omega), cN (bS sl hi), hp, an, Nat.add_zero, aD (aP (Ob.Kn o) rfl), aF g, cN (bS sl hi), hp, an, Nat.add_zero, cJ b1]; try rfl)
  ·have : iQ (qZ v) = [i64 (gV v.kind), i64 v.n, bu v.s] := by
    unfold iQ qZ
    rw [List.take_of_length_le (by omega)]
   rw [this]; exact b2
  ·refine W.of b4 fun j hj => ?_
   have hq : j ≠ q := fun g => o.ne (g ▸ hj)
   rw [b3 j hq, hj]
end
open Go.Cod
noncomputable section
variable {p : Pg} {h0 h h' h1 : Hp} {q j : P4} {s : Bs} {x y a b d e f g : AV}
theorem NV {α β : Type} {g : α → List β} {l : List α} {i : Nat} (hi : i < l.length) : (l.take (i + 1)).flatMap g = (l.take i).flatMap g ++ g l[i] := by
 rw [List.take_succ_eq_append_getElem hi, List.flatMap_append]; simp
theorem NW {α β : Type} {g : α → List β} {l : List α} {i : Nat} (hi : i < l.length) : (l.drop i).flatMap g = g l[i] ++ (l.drop (i + 1)).flatMap g := by
 rw [List.drop_eq_getElem_cons hi, List.flatMap_cons]
theorem gl : ∀ l : List lU, (l.flatMap iQ).length = l.length * 3
 | [] => rfl
 | v :: l => by simp [iQ, gl l]; omega
def mJ (h : Hp) (g : AV) (row : List lU) (B : P4 → Prop) : Prop := (row = [] ∧ (g = .ai ∨ ∃ q, g = .slice q 0 0 0)) ∨ ∃ q rest, g = .ft q 0 row.length 3 ∧ Ob h q 48 false .plain (row.flatMap iQ ++ rest) ∧ B q
theorem mJ.rd {B : P4 → Prop} {row : List lU} (w : mJ h g row B) (O : ∀ q, B q → ah q h ≠ .none → ah q h' = ah q h) : dU h' g row := by
 rcases w with ⟨rfl, rfl | ⟨q, rfl⟩⟩ | ⟨q, rest, rfl, o, hb⟩
 ·exact ⟨.eL 0 0, 0, .inr (.inr ⟨rfl, rfl⟩), fun i hi => absurd hi (by simp)⟩
 ·exact ⟨q, 0, .inl ⟨0, by simp, rfl⟩, fun i hi => absurd hi (by simp)⟩
 ·have o := o.eq (O q hb o.ne)
  refine ⟨q, 0, .inr (.inl rfl), fun i hi => ⟨_, rfl, ?_, rfl⟩⟩
  have e : row.flatMap iQ ++ rest = (row.take i).flatMap iQ ++ (iQ row[i] ++ ((row.drop (i + 1)).flatMap iQ ++ rest)) := by
   conv => lhs; rw [← List.take_append_drop i row]
   rw [List.flatMap_append, NW hi]
   simp only [List.append_assoc]
  rw [e] at o
  have := Ob.Kn o
  rw [gl, List.length_take, Nat.min_eq_left (by omega)] at this
  rw [Nat.zero_add]; exact this
theorem mJ.len {B : P4 → Prop} {row : List lU} (w : mJ h g row B) : Am.len g h = .ok (.int .i64 (row.length : Int)) h := by
 rcases w with ⟨rfl, rfl | ⟨q, rfl⟩⟩ | ⟨q, rest, rfl, o, hb⟩ <;> rfl
theorem JE (e24 : ak 33 p.fs = f33) {B : P4 → Prop} {row : List lU} (W : Wf h) (w : mJ h g row B) (hn : row.length < 9223372036854775807) :
  ∃ h', Rn p (.loop (.ag uH (.ag uG (.ag k34_8 .skip)))) (T25 a b d e f g i0) h (.ex 2 (T24 a b d e f g) h') ∧ mJ h' g (row.map qZ) B ∧ (∀ j, ¬ B j → ah j h' = ah j h) ∧ (∀ j, ah j h ≠ .none → ah j h' ≠ .none) ∧ Wf h' := by
 rcases w with ⟨rfl, hg⟩ | ⟨q, rest, rfl, o, hb⟩
 ·refine ⟨h, .cW (.aJ fun c i' K => ?_), .inl ⟨rfl, hg⟩, fun _ _ => rfl, fun _ hj => hj, W⟩
  have hl : Am.len g h = .ok (.int .i64 0) h := by rcases hg with rfl | ⟨q, rfl⟩ <;> rfl
  simp only [uH, K7, vC, vD, vE, vF, vG, vH, vI]
  (rw [aR hl, aV, bC, if_neg (by decide)]; try rfl)
 ·obtain ⟨r', h', ⟨_, I1, I2, I3, I4⟩, k⟩ := gU (p := p) (body := .ag uH (.ag uG (.ag k34_8 .skip))) (r := T25 a b d e f (.ft q 0 row.length 3) i0) (h := h) row.length
   (Inv := fun i r h' => r = T25 a b d e f (.ft q 0 row.length 3) (i64 i) ∧ Ob h' q 48 false .plain (((row.take i).map qZ).flatMap iQ ++ ((row.drop i).flatMap iQ ++ rest)) ∧ (∀ j, j ≠ q → ah j h' = ah j h) ∧ Wf h' ∧ True) (l := 2) (Re := T24 a b d e f (.ft q 0 row.length 3)) (fun i r h' hi I => by
    obtain ⟨rfl, o, O, W, _⟩ := I
    rw [NW hi, List.append_assoc] at o
    obtain ⟨h2, k, o2, O2, W2⟩ := Mt (p := p) (a := a) (b := b) (d := d) (e := e) (f := f) (n := row.length) e24 W o (by rw [gl, List.length_map, List.length_take, Nat.min_eq_left (by omega)]) hi
    refine ⟨T25 a b d e f (.ft q 0 row.length 3) (i64 (i + 1 : Nat)), h2, .di (r' := T25 a b d e f (.ft q 0 row.length 3) (i64 i)) (h' := h') (fun c i' K => ?_) (k _ _ (.aJ fun c i' K => ?_)), rfl, ?_, fun j hj => by rw [O2 j hj, O j hj], W2, trivial⟩
    ·simp only [uH, K7, vC, vD, vE, vF, vG, vH, vI]
     (rw [aR (fg (es := 3) (.inr (.inl rfl))), aV, bC, if_pos (by omega)]; try rfl)
    ·simp only [k34_8, K7, vC, vD, vE, vF, vG, vH, vI]
     (rw [dj hi hn]; try rfl)
    ·rw [List.take_succ_eq_append_getElem hi, List.map_append, List.flatMap_append]
     simpa only [List.map_cons, List.map_nil, List.flatMap_cons, List.flatMap_nil, List.append_nil, List.append_assoc] using o2) (fun r h' I => by
    obtain ⟨rfl, o, O, W, _⟩ := I
    refine .aJ fun c i K => ?_
    simp only [uH, K7, vC, vD, vE, vF, vG, vH, vI]
    (rw [aR (fg (es := 3) (.inr (.inl rfl))), aV, bC, if_neg (by omega)]; try rfl)) ⟨rfl, by simpa using o, fun _ _ => rfl, W, trivial⟩
  have I1' : Ob h' q 48 false .plain ((row.map qZ).flatMap iQ ++ rest) := by simpa using I1
  refine ⟨h', k, .inr ⟨q, rest, by rw [List.length_map], I1', hb⟩, fun j hj => I2 j (fun g => hj (g ▸ hb)), fun j hj => ?_, I3⟩
  by_cases g : j = q
  ·rw [g]; exact I1'.ne
  ·rw [I2 j g]; exact hj
end
open Go.Cod
noncomputable section
variable {p : Pg} {h hb h' h2 : Hp} {q j : P4} {x y v : AV} {α : Type} {f : Hp → List AV → α → Prop} {xs : List α} {el es : Nat}
structure Lb (h hb h' : Hp) (v : AV) (el es : Nat) (f : Hp → List AV → α → Prop) (xs : List α) : Prop where
 old : Old h h'
 wf : Wf h'
 own : ∃ hr L, Old hb hr ∧ Old hr h' ∧ (∀ j, ah j hr ≠ .none → ah j hb ≠ .none ∨ ah j h = .none) ∧ dh h' v el es (List.flatten L) (fun j => ah j hr = .none ∧ ah j h = .none) ∧ L.length = xs.length ∧ ∀ i (hi : i < L.length) (hx : i < xs.length), L[i].length = es ∧ f hr L[i] xs[i]
theorem Lb.nil (W : Wf h) (O : Old hb h) (hv : v = .ai ∨ ∃ q, v = .slice q 0 0 0) : Lb h hb h v el es f [] :=
 ⟨.refl h, W, hb, [], .refl hb, O, fun _ hj => .inl hj, .inl ⟨rfl, hv⟩, rfl, fun i hi => absurd hi (by simp)⟩
theorem gB {es : Nat} : ∀ {L : List (List AV)}, (∀ i (hi : i < L.length), L[i].length = es) → L.flatten.length = L.length * es
 | [], _ => by simp
 | a :: L, g => by
  have h0 := g 0 (by simp)
  have := gB (L := L) fun i hi => g (i + 1) (by simp; omega)
  simp only [List.flatten_cons, List.length_append, List.length_cons, this, Nat.add_mul]
  simp at h0
  omega
theorem Lb.app (w : Lb h hb h' v el es f xs) (mono : ∀ h1 h2 l a, Old h1 h2 → f h1 l a → f h2 l a) (hes : 0 < es) (O : Old h' h2) (W : Wf h2) {l : List AV} {a : α} (hl : l.length = es)
  (hf : ∀ hr, Old hb hr → (∀ j, ah j h' = .none → ah j hr = ah j h2) → f hr l a) (hs : (xs.length + 1) * es ≤ 16777216) :
  ∃ v' h3, mD el es 1 l v h2 = .ok v' h3 ∧ Lb h hb h3 v' el es f (xs ++ [a]) ∧ ∀ j, ah j h' = .none → ah j h2 ≠ .none → ah j h3 = ah j h2 := by
 classical
 obtain ⟨w1, w2, hr, L, r1, r2, r3, r4, r5, r6⟩ := w
 obtain ⟨hr', g⟩ := Df fun j => if ah j h' = .none then ah j h2 else ah j hr
 have g1 : ∀ j, ah j h' = .none → ah j hr' = ah j h2 := fun j hj => by rw [g, if_pos hj]
 have g2 : ∀ j, ah j h' ≠ .none → ah j hr' = ah j hr := fun j hj => by rw [g, if_neg hj]
 have O1 : Old hr hr' := fun j hj => g2 j (by rw [r2 j hj]; exact hj)
 have O2 : Old hr' h2 := fun j hj => by
  by_cases hn : ah j h' = .none
  ·rw [g1 j hn]
  ·rw [g2 j hn] at hj ⊢
   rw [O j hn, r2 j hj]
 have ow : dh h2 v el es L.flatten (fun j => ah j hr' = .none ∧ ah j h = .none) := by
  rcases r4 with r4 | ⟨q, n, e1, e2, e3, e4⟩
  ·exact .inl r4
  ·exact .inr ⟨q, n, e1, e2, e3.old O, by rw [g2 q e3.ne]; exact e4.1, e4.2⟩
 have hL := gB (es := es) (L := L) fun i hi => (r6 i hi (by omega)).1
 have hs' : xs.length * es + es ≤ 16777216 := by rw [Nat.add_mul] at hs; omega
 obtain ⟨v', h3, c1, c2, c3, c4⟩ := fJ (m := 1) W ow hes (new := l) (by omega) (by rw [hL, r5]; omega)
 have O3 : Old hr' h3 := fun j hj => by
  have e := O2 j hj
  rw [c4 j (by rw [e]; exact hj) (fun g => hj g.1), e]
 refine ⟨v', h3, c1, ⟨?_, c3, hr', L ++ [l], r1.trans O1, O3, ?_, ?_, by simp [r5], ?_⟩, fun j hj hj2 => by rw [O3 j (by rw [g1 j hj]; exact hj2), g1 j hj]⟩
 ·intro j hj
  have e := (w1.trans O) j hj
  rw [c4 j (by rw [e]; exact hj) (fun g => hj g.2), e]
 ·intro j hj
  by_cases hn : ah j h' = .none
  ·exact .inr (w1.none hn)
  ·rw [g2 j hn] at hj
   exact r3 j hj
 ·simp only [List.flatten_append, List.flatten_cons, List.flatten_nil, List.append_nil]
  refine dh.mono c2 fun j hj => ?_
  rcases hj with hj | hj
  ·exact hj
  ·exact ⟨O2.none hj, (w1.trans O).none hj⟩
 ·intro i hi hx
  by_cases hi' : i < L.length
  ·have := r6 i hi' (by omega)
   rw [List.getElem_append_left hi', List.getElem_append_left (by omega)]
   exact ⟨this.1, mono _ _ _ _ O1 this.2⟩
  ·have : i = L.length := by simp at hi; omega
   subst this
   have a1 : (L ++ [l])[L.length]'hi = l := by simp
   have a2 : (xs ++ [a])[L.length]'hx = a := by
    have := List.getElem_append_right (as := xs) (bs := [a]) (i := L.length) (by omega) (h₂ := hx)
    rw [this]; simp
   rw [a1, a2]
   exact ⟨hl, hf hr' (r1.trans O1) g1⟩
theorem Lb.up (w : Lb h hb h' v el es f xs) (O : Old h' h2) (W : Wf h2) : Lb h hb h2 v el es f xs := by
 obtain ⟨w1, w2, hr, L, r1, r2, r3, r4, r5⟩ := w
 refine ⟨w1.trans O, W, hr, L, r1, r2.trans O, r3, ?_, r5⟩
 rcases r4 with r4 | ⟨q, n, e1, e2, e3, e4⟩
 ·exact .inl r4
 ·exact .inr ⟨q, n, e1, e2, e3.old O, e4⟩
theorem Lb.rd (w : Lb h hb h' v el es f xs) (mono : ∀ h1 h2 l a, Old h1 h2 → f h1 l a → f h2 l a) (hes : 0 < es) : ∃ hr, Old hb hr ∧ Old hr h' ∧ (∀ j, ah j hr ≠ .none → ah j hb ≠ .none ∨ ah j h = .none) ∧ cT hr es (f hr) v xs := by
 classical
 obtain ⟨w1, w2, hr, L, r1, r2, r3, r4, r5, r6⟩ := w
 rcases r4 with ⟨e, hv⟩ | ⟨q, n, rfl, e2, e3, e4⟩
 ·refine ⟨hr, r1, r2, r3, ?_⟩
  have hL := gB (es := es) (L := L) fun i hi => (r6 i hi (by omega)).1
  have : xs = [] := by
   rw [e, List.length_nil] at hL
   have : L.length = 0 := (Nat.mul_eq_zero.1 hL.symm).resolve_right (by omega)
   exact List.length_eq_zero_iff.1 (by omega)
  subst this
  rcases hv with rfl | ⟨q, rfl⟩
  ·exact ⟨.eL 0 0, 0, .inr (.inr ⟨rfl, rfl⟩), fun i hi => absurd hi (by simp)⟩
  ·exact ⟨q, 0, .inl ⟨0, by simp, rfl⟩, fun i hi => absurd hi (by simp)⟩
 ·obtain ⟨hr', g⟩ := Df fun j => if j = q then ah j h' else ah j hr
  have gq : ah q hr' = ah q h' := by rw [g, if_pos rfl]
  have g2 : ∀ j, j ≠ q → ah j hr' = ah j hr := fun j hj => by rw [g, if_neg hj]
  have O1 : Old hr hr' := fun j hj => g2 j (fun e => hj (e ▸ e4.1))
  have O2 : Old hr' h' := fun j hj => by
   by_cases e : j = q
   ·rw [e, gq]
   ·rw [g2 j e] at hj ⊢
    exact r2 j hj
  have hL := gB (es := es) (L := L) fun i hi => (r6 i hi (by omega)).1
  have hn : n = xs.length := by
   rw [hL, r5] at e2
   exact (Nat.eq_of_mul_eq_mul_right hes e2).symm
  subst hn
  refine ⟨hr', r1.trans O1, O2, fun j hj => ?_, q, 0, .inr (.inl rfl), fun i hi => ?_⟩
  ·by_cases e : j = q
   ·rw [e]; exact .inr e4.2
   ·rw [g2 j e] at hj; exact r3 j hj
  ·have hi' : i < L.length := by omega
   obtain ⟨k1, k2⟩ := r6 i hi' hi
   refine ⟨L[i], k1, ?_, mono _ _ _ _ O1 k2⟩
   have e : L.flatten = (L.take i).flatten ++ (L[i] ++ (L.drop (i + 1)).flatten) := by
    conv => lhs; rw [← List.take_append_drop i L]
    rw [List.flatten_append, List.drop_eq_getElem_cons hi', List.flatten_cons]
   rw [e] at e3
   have := Ob.Kn (e3.eq (h' := hr') gq)
   rw [gB (es := es) (fun k hk => by rw [List.getElem_take]; exact (r6 k (by simp at hk; omega) (by simp at hk; omega)).1), List.length_take, Nat.min_eq_left (by omega)] at this
   rw [Nat.zero_add]; exact this
end
open Go.Cod
noncomputable section
variable {p : Pg} {h0 h h' h1 h2 : Hp} {q j k jb jk : P4} {s full : Bs} {x y xv xc xg : AV} {r rr : Rd} {e : po}
theorem Qf (r : Rd) : RW 65535 (lV r).1 := ⟨Cod.mw _, Cod.mw _, Cod.kR _ _⟩
theorem Qg (r : Rd) : Sz 65535 (nN r).1 := by
 refine ⟨Cod.kR _ _, ?_, fun v hv => Cod.oV (P := RW 65535) Qf _ _ v hv⟩
 show (many lV (bJ (aL 65535 r).2).1 (bJ (aL 65535 r).2).2).1.length ≤ _
 rw [Cod.iL]
 have : (bJ (aL 65535 r).2).1 < 256 := Cod.eO 1 _
 omega
theorem Qh (r : Rd) : xF 65535 (Jd r).1 := by
 rw [xl]
 refine ⟨Cod.mw _, Cod.mw _, Cod.mw _, Cod.kR _ _, Cod.kR _ _, ?_, fun c hc => Cod.oV (P := fun c : Bs × Int => c.1.length ≤ 65535 ∧ cS c.2) (fun r => ⟨Cod.kR _ _, Cod.mw _⟩) _ _ c hc, ?_, fun c hc => Cod.oV (P := Sz 65535) Qg _ _ c hc⟩
 ·simp only [Cod.iL]
  have : ∀ r, (bJ r).1 < 256 := fun r => Cod.eO 1 r
  exact Nat.le_trans (Nat.le_of_lt (this _)) (by omega)
 ·simp only [Cod.iL]
  have : ∀ r, (bJ r).1 < 256 := fun r => Cod.eO 1 r
  exact Nat.le_trans (Nat.le_of_lt (this _)) (by omega)
theorem rI {α : Type} {f : List AV → α → Prop} {el es : Nat} {b : P4 → Prop} {L : List (List AV)} {xs : List α} (hes : 0 < es) (w : dh h x el es L.flatten b) (hl : L.length = xs.length) (g : ∀ i (h1 : i < L.length) (h2 : i < xs.length), L[i].length = es ∧ f L[i] xs[i]) : cT h es f x xs := by
 have hL := gB (es := es) (L := L) fun i hi => (g i hi (by omega)).1
 rcases w with ⟨e, hv⟩ | ⟨q, n, rfl, e2, e3, _⟩
 ·have : xs = [] := by
   rw [e, List.length_nil] at hL
   have : L.length = 0 := (Nat.mul_eq_zero.1 hL.symm).resolve_right (by omega)
   exact List.length_eq_zero_iff.1 (by omega)
  subst this
  rcases hv with rfl | ⟨q, rfl⟩
  ·exact ⟨.eL 0 0, 0, .inr (.inr ⟨rfl, rfl⟩), fun i hi => absurd hi (by simp)⟩
  ·exact ⟨q, 0, .inl ⟨0, by simp, rfl⟩, fun i hi => absurd hi (by simp)⟩
 ·have hn : n = xs.length := by
   rw [hL, hl] at e2
   exact (Nat.eq_of_mul_eq_mul_right hes e2).symm
  subst hn
  refine ⟨q, 0, .inr (.inl rfl), fun i hi => ?_⟩
  have hi' : i < L.length := by omega
  obtain ⟨k1, k2⟩ := g i hi' hi
  refine ⟨L[i], k1, ?_, k2⟩
  have e : L.flatten = (L.take i).flatten ++ (L[i] ++ (L.drop (i + 1)).flatten) := by
   conv => lhs; rw [← List.take_append_drop i L]
   rw [List.flatten_append, List.drop_eq_getElem_cons hi', List.flatten_cons]
  rw [e] at e3
  have := Ob.Kn e3
  rw [gB (es := es) (fun k hk => by rw [List.getElem_take]; exact (g k (by simp at hk; omega) (by simp at hk; omega)).1), List.length_take, Nat.min_eq_left (by omega)] at this
  rw [Nat.zero_add]; exact this
theorem lk {α : Type} (g : α → List AV) (l : List α) : l.flatMap g = (l.map g).flatten := by rw [List.flatMap_def]
theorem zU {b : P4 → Prop} {cs : List (Bs × Int)} (w : dh h x 42 2 (cs.flatMap Jt) b) : aQ h x cs := by
 rw [lk] at w
 exact rI (by omega) w (by simp) fun i h1 h2 => by simp [Jt]
theorem Mu {b : P4 → Prop} {row : List lU} (w : dh h x 48 3 (row.flatMap iQ) b) : dU h x row := by
 rw [lk] at w
 exact rI (by omega) w (by simp) fun i h1 h2 => by simp [iQ]
theorem zV {b : P4 → Prop} {cs : List mI} (w : pc b h x cs) : aZ h x cs := by
 obtain ⟨xs, e1, e2, e3⟩ := w
 refine rI (by omega) e2 (by simp [e1]) fun i h1 h2 => ?_
 have hx : i < xs.length := by omega
 refine ⟨by simp [uB], xs[i], by simp, Mu (e3 i hx h2)⟩
theorem rh.NA (I : rh h0 q jb jk e h' xc xg r) : vQ h' (cE xc xg e) e := ⟨xc, xg, rfl, zU I.oc, zV I.og⟩
theorem rh.put (I : rh h0 q jb jk e h' xc xg r) (hne : jb ≠ jk) (hk : ah jk h0 = .none) {i : Nat} {v : AV} (hi : i < 7) (hv : v.one = true) {e' : po} (he : (cE xc xg e).set i v = cE xc xg e') (h1 : e'.bB = e.bB) (h2 : e'.changes = e.changes) :
  ∃ h2, sT (.ptr jk i) v h' = .ok .undef h2 ∧ rh h0 q jb jk e' h2 xc xg r := by
 obtain ⟨h2, k1, k2, k3, k4⟩ := cP (k := i) (v := v) I.ok (by simpa [cE] using hi) hv
 refine ⟨h2, k1, Fr.old (fun j hj _ => k3 j hj) I.old hk, I.rd.fr I.ok (by decide) (fun j hj _ => k3 j hj) (dt I.rd.wf I.ok k3 k4), I.ob.eq (k3 jb hne), he ▸ k2, ?_, ?_⟩
 ·rw [h1]; exact Fr.own (fun j hj _ => k3 j hj) I.oc I.ok (.inr (by simp))
 ·rw [‹e'.changes = e.changes›]; exact I.og.cq fun k el fl l o _ => k3 k (o.apart I.ok (.inr (by simp)))
structure JF (p : Pg) : Prop where
 d : oZ p
 w : ER p
 t : Ml p
 e30 : ak 19 p.fs = f19
 e45 : ak 29 p.fs = f29
 e72 : ak 53 p.fs = f53
 e74 : ak 55 p.fs = f55
theorem JG (e74 : ak 55 p.fs = f55) {t : Bs} (a : dW h x s) (b : dW h y t) : Cv p 55 [x, y] h (.bool (decide (s = t))) h := by
 refine .of (r' := T18 (.bool (decide (s = t)))) (h1 := h) e74 (by simp) (.aJ fun c i K => ?_) rfl
 simp only [k55_0, K2, dE, dF]
 have e : decide (s.map UInt8.toNat = t.map UInt8.toNat) = decide (s = t) := by
  rw [decide_eq_decide]
  refine ⟨fun g => ?_, fun g => by rw [g]⟩
  exact List.map_inj_right (fun a b g => UInt8.toNat_inj.1 g) |>.1 g
 (rw [aw (tK a), aw (tK b), aw (Ja _ _), e]; try rfl)
theorem Mv (T : JF p) (I : rh h0 q jb jk e h' xc xg r) (bd : xF 65535 e) {n : Int} (hs : n = 0 → takes e = true → (enc e).length ≤ 16777216) (rb : dW h' x s) :
  ∃ r' h2, Rn p (dp 3 (bh (bh (bh x29)))) (T44 x (.ptr jb 0) (.ptr jk 0) (i64 n)) h' (.nm r' h2) ∧ Old h' h2 ∧ Wf h2 ∧ y2 r' = .ptr jb 0 ∧ y5 r' = .ptr jk 0 ∧ y75 r' = .bool (!(decide (n = 0) && (takes e && decide (enc e = s)))) := by
 have L0 : Seat.pk 7 (.ptr jk 0) h' = .ok (.agg (cE xc xg e)) h' := bD (m := 7) (Ob.c0 I.ok) (by simp [cE])
 by_cases hn : n = 0
 ·have e0 : bK .ne (i64 n) i0 h' = .ok (.bool false) h' := tM hn
  obtain ⟨h1, t1, t2, t3⟩ := zN (p := p) T.t I.rd.wf I.NA bd (by omega)
  have L1 : Seat.pk 7 (.ptr jk 0) h1 = .ok (.agg (cE xc xg e)) h1 := bD (m := 7) ((Ob.c0 I.ok).old t2) (by simp [cE])
  cases ht : takes e with
  | false =>
   rw [ht] at t1
   refine ⟨_, h1, .ops (.step (v := i64 n) (h' := h') rfl <| .step (v := .bool false) (h' := h') e0 <| .step (v := .bool false) (h' := h') rfl <| .on rfl <| .step (v := .agg (cE xc xg e)) (h' := h') L0 <| .on rfl <| .call (v := .bool false) (h' := h1) t1 <|
    .on rfl <| .step (v := .bool true) (h' := h1) rfl <| .step (v := .bool true) (h' := h1) rfl <| .step (v := .bool true) (h' := h1) rfl <| .off rfl <| .off rfl <| .off rfl <| .off rfl <| .off rfl <| .step (v := .bool true) (h' := h1) rfl <| .nil), t2, t3, rfl, rfl, ?_⟩
   rw [Bool.false_and, Bool.and_false]; rfl
  | true =>
   rw [ht] at t1
   obtain ⟨v, h2, c1, c2, c3, c4⟩ := vU (p := p) T.w T.t T.e30 T.d.e58 t3 (l := cE xc xg e) (e := e) (let ⟨a, b, c, d, f⟩ := I.NA; ⟨a, b, c, aQ.up d t2, aZ.up f t2⟩) bd (by omega) (hs hn ht)
   rw [if_pos ht] at c2
   have eq := JG (p := p) (h := h2) T.e74 (dh.BB c2) ((rb.up t2).up c3)
   refine ⟨_, h2, .ops (.step (v := i64 n) (h' := h') rfl <| .step (v := .bool false) (h' := h') e0 <| .step (v := .bool false) (h' := h') rfl <| .on rfl <| .step (v := .agg (cE xc xg e)) (h' := h') L0 <| .on rfl <| .call (v := .bool true) (h' := h1) t1 <|
    .on rfl <| .step (v := .bool false) (h' := h1) rfl <| .step (v := .bool false) (h' := h1) rfl <| .step (v := .bool false) (h' := h1) rfl <| .on rfl <| .step (v := .agg (cE xc xg e)) (h' := h1) L1 <| .on rfl <| .call (v := v) (h' := h2) c1 <|
    .on rfl <| .step (v := x) (h' := h2) rfl <| .on rfl <| .call (v := .bool (decide (enc e = s))) (h' := h2) eq <| .on rfl <| .step (v := .bool (!decide (enc e = s))) (h' := h2) (dQ _) <| .step (v := .bool (!decide (enc e = s))) (h' := h2) rfl <| .nil), t2.trans c3, c4, rfl, rfl, ?_⟩
   rw [decide_eq_true hn, Bool.true_and, Bool.true_and]
   rfl
 ·have e0 : bK .ne (i64 n) i0 h' = .ok (.bool true) h' := vR hn
  refine ⟨_, h', .ops (.step (v := i64 n) (h' := h') rfl <| .step (v := .bool true) (h' := h') e0 <| .step (v := .bool true) (h' := h') rfl <| .off rfl <| .off rfl <| .off rfl <| .step (v := .bool true) (h' := h') rfl <| .step (v := .bool true) (h' := h') rfl <|
   .off rfl <| .off rfl <| .off rfl <| .off rfl <| .off rfl <| .step (v := .bool true) (h' := h') rfl <| .nil), .refl h', I.rd.wf, rfl, rfl, ?_⟩
  rw [decide_eq_false hn]; rfl
abbrev BI : List AV := [i0, i0, i0, iS, iS, .ai, .ai]
theorem vV (T : JF p) (W : Wf h) (rb : dW h x s) (hl : s.length ≤ 16777216) : ∃ l h' n, Cv p 29 [x] h (.nZ [.agg l, i64 n]) h' ∧ Old h h' ∧ Wf h' ∧
  ((∃ e xc xg, dec s = some e ∧ n = 0 ∧ l = cE xc xg e ∧ dh h' xc 42 2 (e.bB.flatMap Jt) (fun j => ah j h = .none) ∧ pc (fun j => ah j h = .none) h' xg e.changes ∧ xF 65535 e) ∨ (dec s = none ∧ n = 12 ∧ l = BI)) := by
 have hg := xl (some s)
 simp only at hg
 obtain ⟨jb, h1, a1, a2, a3, a4, a5, _⟩ := fK (el := 28) (n := 7) W (c := .k1 (Y7 i0 i0 i0 iS iS .ai .ai)) trivial (by decide)
 have a3 : Ob h1 jb 28 true .plain BI := a3
 obtain ⟨q, h2, c2, w2, nq, O2⟩ := vT T.d a5 (rb.up a4) hl
 obtain ⟨h3, c3, w3, F3⟩ := iM T.d w2
 generalize hA : aq (some s) = A at *
 obtain ⟨h4, c4, w4, F4⟩ := iM T.d w3
 generalize hB : aq A.2 = B at *
 obtain ⟨h5, c5, w5, F5⟩ := iM T.d w4
 generalize hC : aq B.2 = C at *
 have F25 := (F3.trans F4).trans F5
 have O15 : Old h1 h5 := F25.old O2 nq
 have b5 := a3.old O15
 obtain ⟨jk, h6, b1, b3, b4, b6, b7, _⟩ := fK (el := 28) (n := 7) w5.wf (c := .k1 (Y7 i0 i0 i0 iS iS .ai .ai)) trivial (by decide)
 have b4 : Ob h6 jk 28 true .plain BI := b4
 have hne : jb ≠ jk := fun g => b5.ne (g ▸ b3)
 have hq : ah q h = .none := a4.none nq
 have hb : ah jb h = .none := a2
 have hk : ah jk h = .none := (a4.trans O15).none b3
 obtain ⟨h7, d1, d2, d3, d4⟩ := ef (k := 0) (m := 7) (l' := [i64 A.1, i64 B.1, i64 C.1, iS, iS, .ai, .ai]) b4 rfl (by simp)
 have d2 : Ob h7 jk 28 true .plain (cE .ai .ai ⟨A.1, B.1, C.1, [], [], [], []⟩) := d2
 have I7 : rh h q jb jk ⟨A.1, B.1, C.1, [], [], [], []⟩ h7 .ai .ai C.2 := ⟨Fr.old (fun j hj _ => d3 j hj) ((a4.trans O15).trans b6) hk, (w5.up b6 b7).fr b4 (by decide) (fun j hj _ => d3 j hj) (dt b7 b4 d3 d4), (b5.old b6).eq (d3 jb hne), d2, .inl ⟨rfl, .inl rfl⟩, [], rfl, .inl ⟨rfl, .inl rfl⟩, fun i h1 => by cases h1⟩
 obtain ⟨h8, c8, w8, F8⟩ := iO T.d I7.rd 65535
 have I8 := I7.qe hq w8 F8
 generalize hD : aL 65535 C.2 = D at *
 obtain ⟨h9, g9, I9⟩ := I8.put hne hk (i := 3) (v := bu D.1) (by omega) rfl (e' := ⟨A.1, B.1, C.1, D.1, [], [], []⟩) rfl rfl rfl
 obtain ⟨h10, c10, w10, F10⟩ := iO T.d I9.rd 65535
 have I10 := I9.qe hq w10 F10
 generalize hE : aL 65535 D.2 = E at *
 obtain ⟨h11, g11, I11⟩ := I10.put hne hk (i := 4) (v := bu E.1) (by omega) rfl (e' := ⟨A.1, B.1, C.1, D.1, E.1, [], []⟩) rfl rfl rfl
 have s0 : Ev fun m => ∀ K : A2 → Hp → RS, k29_0 (aB p (exec p m)) (aH p (exec p m)) K (bE [x] 0 .nil) h = K (T41 x (.ptr jb 0) (.ptr q 0) (.ptr jk 0)) h11 := (c2.and (c3.and (c4.and (c5.and (c8.and c10))))).mono fun m g K => by
  obtain ⟨z2, z3, z4, z5, z8, z10⟩ := g
  simp only [k29_0, K1, cm]
  have U0 : bl [i0, i0, i0, iS, iS, .ai, .ai] [.mk 0 1 (.c (i64 A.1)), .mk 1 1 (.c (i64 B.1)), .mk 2 1 (.c (i64 C.1))] h5 = .ok (.agg [i64 A.1, i64 B.1, i64 C.1, iS, iS, .ai, .ai]) h5 := rfl
  (rw [iI a1, aF z2, aF z3, aF z4, aF z5, mY U0, iI b1, fX d1, aF z8, an, Nat.zero_add, cJ g9, aF z10, an, Nat.zero_add, cJ g11]; try rfl)
 -- the columns
 obtain ⟨h12, c12, w12, F12⟩ := lY T.d I11.rd
 have I12 := I11.qe hq w12 F12
 have hn1 : (bJ E.2).1 < 256 := Cod.eO 1 E.2
 generalize hF : bJ E.2 = F at *
 have s1 : Ev fun m => ∀ K : A2 → Hp → RS, k29_1 (aB p (exec p m)) (aH p (exec p m)) K (T41 x (.ptr jb 0) (.ptr q 0) (.ptr jk 0)) h11 = K (T42 x (.ptr jb 0) (.ptr q 0) (.ptr jk 0) (i64 (F.1 : Nat))) h12 := c12.mono fun m g K => by
  simp only [k29_1, K4, t41_0, t41_2, t41_4, t41_5]
  (rw [aF g]; try rfl)
 obtain ⟨_, h13, ⟨xc, _, I13⟩, l13⟩ := gU (p := p) (body := .ag xM (.ag k29_3 .skip)) (r := T42 x (.ptr jb 0) (.ptr q 0) (.ptr jk 0) (i64 (F.1 : Nat))) (h := h12) F.1
  (Inv := fun i r h' => ∃ xc, r = T42 x (.ptr jb 0) (.ptr q 0) (.ptr jk 0) (i64 (F.1 - i : Nat)) ∧ rh h q jb jk ⟨A.1, B.1, C.1, D.1, E.1, (many xj i F.2).1, []⟩ h' xc .ai (many xj i F.2).2) (l := 0) (Re := T41 x (.ptr jb 0) (.ptr q 0) (.ptr jk 0)) (fun i r h' hi I => by
   obtain ⟨xc, rfl, I⟩ := I
   obtain ⟨m, hm⟩ : ∃ m, F.1 - i = m + 1 := ⟨F.1 - i - 1, by omega⟩
   obtain ⟨xc', h2, k, I'⟩ := Jv (p := p) T.d I hq hk hne (by simp only [Cod.iL]; omega) (a := x) (m := m) (by omega)
   rw [hm]
   refine ⟨_, h2, k, xc', by rw [show F.1 - (i + 1) = m by omega], ?_⟩
   rw [Cod.oW]
   exact I') (fun r h' I => by
   obtain ⟨xc, rfl, I⟩ := I
   refine .aJ fun c i K => ?_
   rw [Nat.sub_self]
   simp only [xM, K5, t42_0, t42_2, t42_4, t42_5, t42_6]
   have g0 : cB (i64 ((0 : Nat) : Int)) i0 h' = .ok (.bool false) h' := rfl
   (rw [aw g0, dP]; try rfl)) ⟨.ai, rfl, I12⟩
 generalize hG : many xj F.1 F.2 = G at *
 -- the changes
 obtain ⟨h14, c14, w14, F14⟩ := lY T.d I13.rd
 have I14 := I13.qe hq w14 F14
 have hn2 : (bJ G.2).1 < 256 := Cod.eO 1 G.2
 generalize hH : bJ G.2 = H at *
 have s2 : Ev fun m => ∀ K : A2 → Hp → RS, k29_4 (aB p (exec p m)) (aH p (exec p m)) K (T41 x (.ptr jb 0) (.ptr q 0) (.ptr jk 0)) h13 = K (T43 x (.ptr jb 0) (.ptr q 0) (.ptr jk 0) (i64 (H.1 : Nat))) h14 := c14.mono fun m g K => by
  simp only [k29_4, K4, t41_0, t41_2, t41_4, t41_5]
  (rw [aF g]; try rfl)
 obtain ⟨_, h15, ⟨xg, _, I15⟩, l15⟩ := gU (p := p) (body := dp 4 (bh (bh x29))) (r := T43 x (.ptr jb 0) (.ptr q 0) (.ptr jk 0) (i64 (H.1 : Nat))) (h := h14) H.1
  (Inv := fun i r h' => ∃ xg, r = T43 x (.ptr jb 0) (.ptr q 0) (.ptr jk 0) (i64 (H.1 - i : Nat)) ∧ rh h q jb jk ⟨A.1, B.1, C.1, D.1, E.1, G.1, (many nN i H.2).1⟩ h' xc xg (many nN i H.2).2) (l := 2) (Re := T41 x (.ptr jb 0) (.ptr q 0) (.ptr jk 0)) (fun i r h' hi I => by
   obtain ⟨xg, rfl, I⟩ := I
   obtain ⟨m, hm⟩ : ∃ m, H.1 - i = m + 1 := ⟨H.1 - i - 1, by omega⟩
   obtain ⟨xg', h2, k, I'⟩ := Jw (p := p) T.d T.e72 I hq hk hne (by simp only [Cod.iL]; omega) (a := x) (m := m) (by omega)
   rw [hm]
   refine ⟨_, h2, k, xg', by rw [show H.1 - (i + 1) = m by omega], ?_⟩
   rw [Cod.oW]
   exact I') (fun r h' I => by
   obtain ⟨xg, rfl, I⟩ := I
   refine .aJ fun c i K => ?_
   rw [Nat.sub_self]
   simp only [k29_5, K5, t43_0, t43_2, t43_4, t43_5, t43_8]
   have g0 : cB (i64 ((0 : Nat) : Int)) i0 h' = .ok (.bool false) h' := rfl
   (rw [aw g0, dP]; try rfl)) ⟨.ai, rfl, I14⟩
 generalize hJ : many nN H.1 H.2 = J at *
 have he : Jd (some s) = (⟨A.1, B.1, C.1, D.1, E.1, G.1, J.1⟩, J.2) := by rw [hg]
 have bd : xF 65535 ⟨A.1, B.1, C.1, D.1, E.1, G.1, J.1⟩ := by have := Qh (some s); rwa [he] at this
 generalize hen : (⟨A.1, B.1, C.1, D.1, E.1, G.1, J.1⟩ : po) = e at *
 have hdec : dec s = if J.2 = some [] ∧ takes e = true ∧ enc e = s then some e else none := by
  unfold dec; rw [he]
 obtain ⟨n, m, c16, hn⟩ := Qd T.d I15.rd
 have hlen : J.2 = some [] → (enc e).length ≤ 16777216 := fun g => by
  obtain ⟨l, e1, e2⟩ := Ma _ _ [] (he.trans (by rw [g]))
  cases e1
  simp at e2
  omega
 have rb15 : dW h15 x s := rb.up I15.old
 obtain ⟨r', h16, k16, O16, W16, q2, q5, q75⟩ := Mv (p := p) T I15 bd (n := n) (fun g _ => hlen (hn.1 g)) rb15
 have s7 : Ev fun m => ∀ K : A2 → Hp → RS, k29_7 (aB p (exec p m)) (aH p (exec p m)) K (T41 x (.ptr jb 0) (.ptr q 0) (.ptr jk 0)) h15 = K (T44 x (.ptr jb 0) (.ptr jk 0) (i64 n)) h15 := c16.mono fun mm g K => by
  simp only [k29_7, K4, t41_0, t41_2, t41_4, t41_5]
  have x0 : Seat.ext 0 (.nZ [i64 n, i64 m]) h15 = .ok (i64 n) h15 := rfl
  have x1 : Seat.ext 1 (.nZ [i64 n, i64 m]) h15 = .ok (i64 m) h15 := rfl
  (rw [aF g, vJ x0, vJ x1]; try rfl)
 have ob16 := I15.ob.old O16
 have ok16 := I15.ok.old O16
 have old16 := I15.old.trans O16
 have pre : ∀ st, Rn p (bh (bh (bh x29))) (T41 x (.ptr jb 0) (.ptr q 0) (.ptr jk 0)) h15 st → Rn p x29 (bE [x] 0 .nil) h st := fun st g =>
  .to s0 (.seq (.to s1 (.br l13)) (.seq (.to s2 (.br l15)) g))
 have fin : ∀ (l : List AV) (hl : l.length = 7) (nn : Int) (hh : Hp), Ob hh jb 28 true .plain l → Rn p x29 (bE [x] 0 .nil) h (.ret (T40 (.ptr jb 0) (i64 nn)) hh) → Cv p 29 [x] h (.nZ [.agg l, i64 nn]) hh := fun l hl nn hh o g => by
  refine .of (r' := T40 (.ptr jb 0) (i64 nn)) (h1 := hh) T.e45 (by simp) g ?_
  show (RV.rec (fun v _ => .ok (.nZ [v, i64 nn]) hh) (fun n => .err n) (Seat.pk 7 (.ptr jb 0) hh) : RV) = _
  rw [bD (m := 7) (Ob.c0 o) hl]
 cases hg : (decide (n = 0) && (takes e && decide (enc e = s))) with
 | true =>
  obtain ⟨h17, k1, k2, k3, k4⟩ := ef (k := 0) (m := 7) (l' := cE xc xg e) ob16 (by simp [cE]) (by simp)
  have k2 : Ob h17 jb 28 true .plain (cE xc xg e) := k2
  have hg' : n = 0 ∧ takes e = true ∧ enc e = s := by simpa using hg
  refine ⟨cE xc xg e, h17, 0, fin _ (by simp [cE]) 0 h17 k2 (pre _ (.seq (.to s7 (.seq k16 (.aJ (s := .nm (T45 (.ptr jb 0) (.ptr jk 0)) h16) fun c i K => ?_))) (.aJ fun c i K => ?_))), Fr.old (fun j hj _ => k3 j hj) old16 hb, dt W16 ob16 k3 k4, .inl ⟨e, xc, xg, ?_, rfl, rfl, ?_, ?_, bd⟩⟩
  ·simp only [k29_8, K3, q2, q5, q75, hg]
   rfl
  ·simp only [k29_9, K2, t45_2, t45_5]
   (rw [fk (bD (m := 7) (Ob.c0 ok16) (by simp [cE])), fX k1]; try rfl)
  ·rw [hdec, if_pos ⟨hn.1 hg'.1, hg'.2.1, hg'.2.2⟩]
  ·have := Fr.own (fun j hj _ => k3 j hj) (I15.oc.old fun j _ hj => O16 j hj) ob16 (.inr (by simp))
   rw [← hen] at this ⊢
   exact this
  ·have := (I15.og.cq fun k el fl l o _ => O16 k o.ne).cq (h' := h17) fun k el fl l o _ => k3 k (o.apart ob16 (.inr (by simp)))
   rw [← hen] at this ⊢
   exact this
 | false =>
  obtain ⟨h17, k1, k2, k3, k4⟩ := ef (k := 0) (m := 7) (l' := BI) ob16 rfl (by simp)
  have k2 : Ob h17 jb 28 true .plain BI := k2
  refine ⟨BI, h17, 12, fin _ rfl 12 h17 k2 (pre _ (.cX (.to s7 (.seq k16 (.aJ fun c i K => ?_))))), Fr.old (fun j hj _ => k3 j hj) old16 hb, dt W16 ob16 k3 k4, .inr ⟨?_, rfl, rfl⟩⟩
  ·simp only [k29_8, K3, q2, q5, q75, hg]
   have U0 : bl [i0, i0, i0, iS, iS, .ai, .ai] [] h16 = .ok (.agg BI) h16 := rfl
   (rw [Bool.not_false, ew, mY U0, fX k1]; try rfl)
  ·rw [hdec, if_neg]
   rintro ⟨a1, a2, a3⟩
   rw [decide_eq_true (hn.2 a1), a2, decide_eq_true a3] at hg
   cases hg
end
end Go.Am.Seat
