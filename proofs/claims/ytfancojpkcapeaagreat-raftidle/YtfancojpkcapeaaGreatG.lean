/- Runs of the abstract machine at arguments that are not known. Conditions: the table of functions is the program's (Env). -/
import Derived.Test.YtfancojpkcapeaaGreatS2
import Derived.Test.YtfancojpkcapeaaGreatH
import Derived.KernelRfl
import Derived.RangeFuncRecord
import Derived.LoopNIn
import Derived.Lib.MakeNoZero
import Derived.Laws.Externs
import Derived.WalkKit
import Derived.ProofKit
import Derived.OpenShut
import Derived.ChangeStays
import Derived.ChangeArms
import Derived.Deep.DeepHandedRow
import Derived.Stop.Joined
set_option linter.all false
namespace Go.Am.Crc
open Go.Am.Seat
set_option maxRecDepth 20000
noncomputable section
def cC_4 : AC := (.seq (.ops [o d18 (.bin .lt r17 (.c (pi 8)))])
 (.seq (.cond r18 .skip
 (.exit 2))
 (.seq (.block 3 (.seq (.ops [o d19 (.mv r3),
 o d20 (.bin .and r19 (.c (.int .u32 (.ofNat 1)))),
 o d6 (.mv r20)])
 (.seq (.ops [o d21 (.mv r3),
 o d22 (.bin .shr r21 (.c (.int .u64 (.ofNat 1)))),
 o d3 (.mv r22)])
 (.seq (.ops [o d23 (.mv r6),
 o d24 (.bin .eq r23 (.c (.int .u32 (.ofNat 1))))])
 (.cond r24 (.ops [o d25 (.mv r3),
 o d26 (.bin .xor r25 (.c (.int .u32 (.ofNat 3988292384)))),
 o d3 (.mv r26)])
 .skip)))))
 (.ops [o d27 (.bin .add r17 (.c (pi 1))),
 o d17 (.mv r27)]))))
def cC_3 : AC := (.seq (.ops [o d11 (.AQ 1 r7 r9),
 o d12 (.eU r11),
 o d5 (.mv r12)])
 (.seq (.ops [o d13 (.mv r3),
 o d14 (.mv r5),
 o d15 (.conv (.toInt .u32) r14),
 o d16 (.bin .xor r13 r15),
 o d3 (.mv r16)])
 (.seq (.ops [o d17 (.mv (.c (pi 0)))])
 (.block 2 (.loop cC_4)))))
def cC_5 : AC := (.ops [o d28 (.bin .add r9 (.c (pi 1))),
 o d9 (.mv r28)])
def cC_2 : AC := (.seq (.ops [o d10 (.bin .lt r9 r8)])
 (.seq (.cond r10 .skip
 (.exit 0))
 (.seq (.block 1 cC_3) cC_5)))
def cC_1 : AC := (.seq (.ops [o d7 (.mv r0),
 o d8 (.len r7),
 o d9 (.mv (.c (pi 0)))])
 (.block 0 (.loop cC_2)))
def cC_6 : AC := (.seq (.ops [o d29 (.mv r3),
 o d30 (.un .SN r29),
 o d2 (.mv r30)])
 .ret)
def cC_0 : AC := (.seq (.ops [o d2 (.mv (.c (.int .u32 (.ofNat 0))))])
 (.seq (.ops [o d3 (.mv (.c (.int .u32 (.ofNat 4294967295))))])
 (.seq cC_1 cC_6)))
def bC : AC := cC_0
def sC : List Rs := [.t .h0 .h2]
def T0 (v0 v3 : AV) : A2 := .mk (.mk v0 .undef .undef v3 .undef .undef .undef .undef .undef .undef .undef .undef .undef .undef .undef .undef) .nil .nil .nil .nil .nil .nil .nil .nil .nil .nil .nil .nil .nil .nil .nil
def T1 (v2 : AV) : A2 := .mk (.mk .undef .undef v2 .undef .undef .undef .undef .undef .undef .undef .undef .undef .undef .undef .undef .undef) .nil .nil .nil .nil .nil .nil .nil .nil .nil .nil .nil .nil .nil .nil .nil
def T2 (v3 : AV) : A2 := .mk (.mk .undef .undef .undef v3 .undef .undef .undef .undef .undef .undef .undef .undef .undef .undef .undef .undef) .nil .nil .nil .nil .nil .nil .nil .nil .nil .nil .nil .nil .nil .nil .nil
def T3 (v3 v7 v8 v9 : AV) : A2 := .mk (.mk .undef .undef .undef v3 .undef .undef .undef v7 v8 v9 .undef .undef .undef .undef .undef .undef) .nil .nil .nil .nil .nil .nil .nil .nil .nil .nil .nil .nil .nil .nil .nil
def T4 (v3 v7 v8 v9 v17 : AV) : A2 := .mk (.mk .undef .undef .undef v3 .undef .undef .undef v7 v8 v9 .undef .undef .undef .undef .undef .undef) (.mk .undef v17 .undef .undef .undef .undef .undef .undef .undef .undef .undef .undef .undef .undef .undef .undef) .nil .nil .nil .nil .nil .nil .nil .nil .nil .nil .nil .nil .nil .nil
def EW : Cf → Iv → (A2 → Hp → RS) → A2 → Hp → RS := fun cf iv rx r h => (fun (x23 x24 x25 x26 x27 : AV) =>
 tR (mY x27 (pi 8) h) fun v28 h29 =>
 PB v28 (tR (sL x23 (.int .u32 (.ofNat 1)) h29) fun v30 h31 =>
 tR (bK .shr x23 (.int .u64 (.ofNat 1)) h31) fun v32 h33 =>
 tR (wN v30 (.int .u32 (.ofNat 1)) h33) fun v34 h35 =>
 PB v34 (tR (nv v32 (.int .u32 (.ofNat 3988292384)) h35) fun v36 h37 =>
 tR (fX x27 (pi 1) h37) fun v38 h39 =>
 .nm (T4 v36 x24 x25 x26 v38) h39) (tR (fX x27 (pi 1) h35) fun v40 h41 =>
 .nm (T4 v32 x24 x25 x26 v40) h41)) (.ex 2 (T4 x23 x24 x25 x26 x27) h29)) (aq .h0 .h3 r) (aq .h0 .h7 r) (aq .h0 .h8 r) (aq .h0 .h9 r) (aq .h1 .h1 r)
def Ie : Cf → Iv → (A2 → Hp → RS) → A2 → Hp → RS := fun cf iv rx r h => (fun (x11 x12 x13 x14 : AV) =>
 tR (ix 1 x12 x14 h) fun v15 h16 =>
 tR (ld v15 h16) fun v17 h18 =>
 tR (cK (.toInt .u32) v17 h18) fun v19 h20 =>
 tR (nv x11 v19 h20) fun v21 h22 =>
 rx (T4 v21 x12 x13 x14 (pi 0)) h22) (aq .h0 .h3 r) (aq .h0 .h7 r) (aq .h0 .h8 r) (aq .h0 .h9 r)
def vl : Cf → Iv → (A2 → Hp → RS) → A2 → Hp → RS := fun cf iv rx r h => (fun (x42 x43 x44 x45 : AV) =>
 tR (fX x45 (pi 1) h) fun v46 h47 =>
 .nm (T3 x42 x43 x44 v46) h47) (aq .h0 .h3 r) (aq .h0 .h7 r) (aq .h0 .h8 r) (aq .h0 .h9 r)
def zl : Cf → Iv → (A2 → Hp → RS) → A2 → Hp → RS := fun cf iv rx r h => (fun (x5 x6 x7 x8 : AV) =>
 tR (mY x8 x7 h) fun v9 h10 =>
 PB v9 (rx (T3 x5 x6 x7 x8) h10) (.ex 0 (T2 x5) h10)) (aq .h0 .h3 r) (aq .h0 .h7 r) (aq .h0 .h8 r) (aq .h0 .h9 r)
def kC_1 : Cf → Iv → (A2 → Hp → RS) → A2 → Hp → RS := fun cf iv rx r h => (fun (x1 x2 : AV) =>
 tR (len x1 h) fun v3 h4 =>
 rx (T3 x2 x1 v3 (pi 0)) h4) (aq .h0 .h0 r) (aq .h0 .h3 r)
def Ig : Cf → Iv → (A2 → Hp → RS) → A2 → Hp → RS := fun cf iv rx r h => (fun (x48 : AV) =>
 tR (sO x48 h) fun v49 h50 =>
 .ret (T1 v49) h50) (aq .h0 .h3 r)
def kC_0 : Cf → Iv → (A2 → Hp → RS) → A2 → Hp → RS := fun cf iv rx r h => (fun (x0 : AV) =>
 rx (T0 x0 (.int .u32 (.ofNat 4294967295))) h) (aq .h0 .h0 r)
def xC : AC := (.ag kC_0 (.seq (.ag kC_1 (.block 0 (.loop (.ag zl (.seq (.block 1 (.ag Ie (.block 2 (.loop (.ag EW .skip))))) (.ag vl .skip)))))) (.ag Ig .skip)))
def zC : List Rs := [.t .h0 .h2]
theorem eC_4 : EW = hG cC_4 4 [3, 7, 8, 9, 17] [3, 7, 8, 9, 17] [] [] := by kernel_rfl
theorem eC_3 : Ie = hG cC_3 3 [3, 7, 8, 9] [] [] [3, 7, 8, 9, 17] := by kernel_rfl
theorem eC_5 : vl = hG cC_5 1 [3, 7, 8, 9] [3, 7, 8, 9] [] [] := by kernel_rfl
theorem eC_2 : zl = hG cC_2 2 [3, 7, 8, 9] [3] [] [3, 7, 8, 9] := by kernel_rfl
theorem eC_1 : kC_1 = hG cC_1 1 [0, 3] [] [] [3, 7, 8, 9] := by kernel_rfl
theorem eC_6 : Ig = hG cC_6 2 [3] [2] [2] [] := by kernel_rfl
theorem eC_0 : kC_0 = hG cC_0 2 [0] [] [] [0, 3] := by kernel_rfl
theorem iC : Impl bC xC := (.ag (c := cC_0) 2 [0] [] [] [0, 3] rfl eC_0 (.seq (.ag (c := cC_1) 1 [0, 3] [] [] [3, 7, 8, 9] rfl eC_1 (.block (.loop (.ag (c := cC_2) 2 [3, 7, 8, 9] [3] [] [3, 7, 8, 9] rfl eC_2 (.seq (.block (.ag (c := cC_3) 3 [3, 7, 8, 9] [] [] [3, 7, 8, 9, 17] rfl eC_3 (.block (.loop (.ag (c := cC_4) 4 [3, 7, 8, 9, 17] [3, 7, 8, 9, 17] [] [] rfl eC_4 (.refl _)))))) (.ag (c := cC_5) 1 [3, 7, 8, 9] [3, 7, 8, 9] [] [] rfl eC_5 (.refl _))))))) (.ag (c := cC_6) 2 [3] [2] [2] [] rfl eC_6 (.refl _))))
end
section
variable {cf : Cf} {iv : Iv} {rx : A2 → Hp → RS} {h : Hp}
theorem LR (x23 x24 x25 x26 x27 : AV) : EW cf iv rx (T4 x23 x24 x25 x26 x27) h =
 tR (mY x27 (pi 8) h) fun v28 h29 =>
 PB v28 (tR (sL x23 (.int .u32 (.ofNat 1)) h29) fun v30 h31 =>
 tR (bK .shr x23 (.int .u64 (.ofNat 1)) h31) fun v32 h33 =>
 tR (wN v30 (.int .u32 (.ofNat 1)) h33) fun v34 h35 =>
 PB v34 (tR (nv v32 (.int .u32 (.ofNat 3988292384)) h35) fun v36 h37 =>
 tR (fX x27 (pi 1) h37) fun v38 h39 =>
 .nm (T4 v36 x24 x25 x26 v38) h39) (tR (fX x27 (pi 1) h35) fun v40 h41 =>
 .nm (T4 v32 x24 x25 x26 v40) h41)) (.ex 2 (T4 x23 x24 x25 x26 x27) h29) := rfl
theorem LS (x11 x12 x13 x14 : AV) : Ie cf iv rx (T3 x11 x12 x13 x14) h =
 tR (ix 1 x12 x14 h) fun v15 h16 =>
 tR (ld v15 h16) fun v17 h18 =>
 tR (cK (.toInt .u32) v17 h18) fun v19 h20 =>
 tR (nv x11 v19 h20) fun v21 h22 =>
 rx (T4 v21 x12 x13 x14 (pi 0)) h22 := rfl
theorem Dp (x5 x6 x7 x8 : AV) : zl cf iv rx (T3 x5 x6 x7 x8) h =
 tR (mY x8 x7 h) fun v9 h10 =>
 PB v9 (rx (T3 x5 x6 x7 x8) h10) (.ex 0 (T2 x5) h10) := rfl
theorem LU (x48 : AV) : Ig cf iv rx (T2 x48) h =
 tR (sO x48 h) fun v49 h50 =>
 .ret (T1 v49) h50 := rfl
end
section
variable {cf : Cf} {iv : Iv} {rx : A2 → Hp → RS} {h : Hp} {x y z : AV} {p : Pg}
def u32 (n : Nat) : AV := .int .u32 (.ofNat n)
theorem bS (v : AV) (h : Hp) (k : AV → Hp → RS) : tR (.ok v h) k = k v h := rfl
theorem Dq (t : Bool) (a b : RS) : PB (.bool t) a b = (@Bool.rec (fun _ => RS) b a t) := rfl
theorem Ih (a b : Nat) : mY (pi a) (pi b) h = .ok (.bool (Nat.ble (a + 1) b)) h := rfl
theorem lB {c d : Nat} (hc : c < 4294967296) (hd : d < 4294967296) : sL (u32 c) (u32 d) h = .ok (u32 (Nat.land c d)) h := by
 show RV.ok (.int .u32 (.ofNat (Nat.land (c % 4294967296) (d % 4294967296) % 4294967296))) h = _
 rw [Nat.mod_eq_of_lt hc, Nat.mod_eq_of_lt hd, Nat.mod_eq_of_lt (a := Nat.land c d) (Nat.lt_of_le_of_lt (show Nat.land c d ≤ c from Nat.and_le_left) hc)]; rfl
theorem qC {c d : Nat} (hc : c < 4294967296) (hd : d < 4294967296) : Nat.xor c d < 4294967296 := Nat.xor_lt_two_pow (n := 32) hc hd
theorem Ii {c d : Nat} (hc : c < 4294967296) (hd : d < 4294967296) : nv (u32 c) (u32 d) h = .ok (u32 (Nat.xor c d)) h := by
 show RV.ok (.int .u32 (.ofNat (Nat.xor (c % 4294967296) (d % 4294967296) % 4294967296))) h = _
 rw [Nat.mod_eq_of_lt hc, Nat.mod_eq_of_lt hd, Nat.mod_eq_of_lt (qC hc hd)]; rfl
theorem PC {c : Nat} : bK .shr (u32 c) (.int .u64 (.ofNat 1)) h = .ok (u32 (c / 2)) h := rfl
theorem RH {c d : Nat} : wN (u32 c) (u32 d) h = .ok (.bool (Nat.beq c d)) h := rfl
theorem BP {a : Nat} (ha : a + 1 ≤ 9223372036854775807) : fX (pi a) (pi 1) h = .ok (pi (a + 1)) h := by
 show RV.ok (.int .i64 (@Bool.rec (fun _ => Int) (IntKind.wrap .i64 (.ofNat (a + 1))) (.ofNat (a + 1)) (Nat.ble (a + 1) 9223372036854775807))) h = _
 rw [Nat.ble_eq_true_of_le ha]
theorem tJ {c : Nat} (hc : c < 4294967296) : (Nat.land c 1 = 1 ∧ od c = Nat.xor (c / 2) 3988292384) ∨ (Nat.land c 1 = 0 ∧ od c = c / 2) := by
 have e : Nat.shiftRight c 1 = c / 2 := rfl
 have l : Nat.land c 1 = c % 2 := Nat.and_one_is_mod c
 unfold od
 rw [e, l]
 rcases Nat.mod_two_eq_zero_or_one c with g | g
 ·right; rw [g]; exact ⟨rfl, Nat.xor_zero _⟩
 ·left; rw [g]; exact ⟨rfl, rfl⟩
theorem Dr {c : Nat} (hc : c < 4294967296) : od c < 4294967296 := by
 rcases tJ hc with ⟨_, e⟩ | ⟨_, e⟩ <;> rw [e]
 ·exact qC (by omega) (by omega)
 ·omega
theorem k5 (a b c d e : AV) : vl cf iv rx (T4 a b c d e) h = tR (fX d (pi 1) h) fun v h => .nm (T3 a b c v) h := rfl
theorem RI {c k : Nat} (hc : c < 4294967296) (hk : k < 8) : EW cf iv rx (T4 (u32 c) x y z (pi k)) h = .nm (T4 (u32 (od c)) x y z (pi (k + 1))) h := by
 rw [LR, Ih, bS, Dq, Nat.ble_eq_true_of_le (by omega : k + 1 ≤ 8)]
 show tR (sL (u32 c) (u32 1) h) (fun _ _ => _) = _
 rw [lB hc (by omega), bS, PC, bS]
 show tR (wN (u32 (Nat.land c 1)) (u32 1) h) (fun _ _ => _) = _
 rw [RH, bS, Dq]
 rcases tJ hc with ⟨e1, e2⟩ | ⟨e1, e2⟩
 ·rw [e1, e2]
  show tR (nv (u32 (c / 2)) (u32 3988292384) h) (fun _ _ => _) = _
  rw [Ii (by omega) (by omega), bS, BP (by omega), bS]
 ·rw [e1, e2]
  show tR (fX (pi k) (pi 1) h) (fun _ _ => _) = _
  rw [BP (by omega), bS]
def LV : Nat → Nat → Nat
 | 0, c => c
 | j + 1, c => LV j (od c)
theorem Ij (c : Nat) : LV 8 c = Bi c := rfl
theorem xy : ∀ (j c : Nat), c < 4294967296 → LV j c < 4294967296
 | 0, _, h => h
 | j + 1, _, h => xy j _ (Dr h)
noncomputable abbrev L4 : AC := .loop (.ag EW .skip)
theorem NA (m : Nat) : ∀ (j c : Nat), c < 4294967296 → j ≤ 8 → exec p (m + 3 + j) L4 (T4 (u32 c) x y z (pi (8 - j))) h = .ex 2 (T4 (u32 (LV j c)) x y z (pi 8)) h
 | 0, c, hc, _ => rfl
 | j + 1, c, hc, hj => by
  rw [show m + 3 + (j + 1) = m + 2 + j + 1 + 1 by omega]
  show RS.bind (EW (aw p (exec p (m + 2 + j))) (aF p (exec p (m + 2 + j))) (fun r h => exec p (m + 2 + j) .skip r h) (T4 (u32 c) x y z (pi (8 - (j + 1)))) h) (fun r h => exec p (m + 2 + j + 1) L4 r h) (fun _ _ _ => _) (fun _ _ _ => _) = _
  rw [RI hc (by omega), show m + 2 + j + 1 = m + 3 + j by omega]
  show exec p (m + 3 + j) L4 (T4 (u32 (od c)) x y z (pi (8 - (j + 1) + 1))) h = _
  rw [show 8 - (j + 1) + 1 = 8 - j by omega]
  exact NA m j _ (Dr hc) (by omega)
noncomputable abbrev B3 : AC := .ag Ie (.block 2 L4)
noncomputable abbrev L2 : AC := .loop (.ag zl (.seq (.block 1 B3) (.ag vl .skip)))
def Rd (x : AV) (h : Hp) (i b : Nat) : Prop := ∃ q, ix 1 x (pi i) h = .ok q h ∧ ld q h = .ok (.int .u8 (.ofNat b)) h
theorem RJ (m : Nat) {c i b : Nat} (hc : c < 4294967296) (hr : Rd x h i b) (hb : b ≤ 255) : exec p (m + 14) B3 (T3 (u32 c) x y (pi i)) h = .nm (T4 (u32 (Bi (Nat.xor c b))) x y (pi i) (pi 8)) h := by
 obtain ⟨q, e1, e2⟩ := hr
 show Ie (aw p (exec p (m + 13))) (aF p (exec p (m + 13))) (fun r h => exec p (m + 13) (.block 2 L4) r h) (T3 (u32 c) x y (pi i)) h = _
 rw [LS, e1, bS, e2, bS]
 have e3 : cK (.toInt .u32) (.int .u8 (.ofNat b)) h = .ok (u32 b) h := by
  show RV.ok (.int .u32 (.ofNat (b % 4294967296))) h = _
  rw [Nat.mod_eq_of_lt (by omega)]; rfl
 rw [e3, bS]
 rw [Ii hc (by omega), bS]
 show RS.bind (exec p (m + 12) L4 (T4 (u32 (Nat.xor c b)) x y (pi i) (pi 0)) h) (fun _ _ => _) (fun _ _ _ => _) (fun _ _ _ => _) = _
 have := NA (p := p) (h := h) (x := x) (y := y) (z := pi i) (m + 1) 8 (Nat.xor c b) (qC hc (by omega)) (Nat.le_refl _)
 rw [Ij] at this
 have e4 : exec p (m + 12) L4 (T4 (u32 (Nat.xor c b)) x y (pi i) (pi 0)) h = .ex 2 (T4 (u32 (Bi (Nat.xor c b))) x y (pi i) (pi 8)) h := this
 rw [e4]
 rfl
theorem NC (m n : Nat) (hn : n < 9223372036854775807) : ∀ (t : List Nat) (i c : Nat), c < 4294967296 → i + t.length = n → (∀ (j : Nat) (hj : j < t.length), Rd x h (i + j) t[j] ∧ t[j] ≤ 255) →
  exec p (m + 20 + t.length) L2 (T3 (u32 c) x (pi n) (pi i)) h = .ex 0 (T2 (u32 (Gs t c))) h
 | [], i, c, hc, hi, _ => by
  have hi : i = n := by simpa using hi
  subst hi
  have : zl (aw p (exec p (m + 18))) (aF p (exec p (m + 18))) (fun r h => exec p (m + 18) (.seq (.block 1 B3) (.ag vl .skip)) r h) (T3 (u32 c) x (pi i) (pi i)) h = .ex 0 (T2 (u32 c)) h := by
   rw [Dp, Ih, bS, Dq]
   have : Nat.ble (i + 1) i = false := by rw [Bool.eq_false_iff]; intro e; have := Nat.le_of_ble_eq_true e; omega
   rw [this]
  show RS.bind (zl (aw p (exec p (m + 18))) (aF p (exec p (m + 18))) (fun r h => exec p (m + 18) (.seq (.block 1 B3) (.ag vl .skip)) r h) (T3 (u32 c) x (pi i) (pi i)) h) (fun _ _ => _) (fun _ _ _ => _) (fun _ _ _ => _) = _
  rw [this]; rfl
 | b :: t, i, c, hc, hi, hr => by
  have hl : i + 1 + t.length = n := by simp only [List.length_cons] at hi; omega
  obtain ⟨r0, hb⟩ := hr 0 (by simp)
  have r0 : Rd x h i b := r0
  have hb : b ≤ 255 := hb
  have ih := NC m n hn t (i + 1) (Bi (Nat.xor c b)) (by rw [← Ij]; exact xy 8 _ (qC hc (by omega))) hl (fun j hj => by
   have := hr (j + 1) (by simpa using hj)
   rw [show i + 1 + j = i + (j + 1) by omega]; simpa using this)
  have : zl (aw p (exec p (m + 19 + t.length))) (aF p (exec p (m + 19 + t.length))) (fun r h => exec p (m + 19 + t.length) (.seq (.block 1 B3) (.ag vl .skip)) r h) (T3 (u32 c) x (pi n) (pi i)) h = .nm (T3 (u32 (Bi (Nat.xor c b))) x (pi n) (pi (i + 1))) h := by
   rw [Dp, Ih, bS, Dq, Nat.ble_eq_true_of_le (by omega : i + 1 ≤ n)]
   show exec p (m + 19 + t.length) (.seq (.block 1 B3) (.ag vl .skip)) (T3 (u32 c) x (pi n) (pi i)) h = _
   rw [show m + 19 + t.length = (m + 3 + t.length) + 14 + 1 + 1 by omega]
   show RS.bind (RS.bind (exec p ((m + 3 + t.length) + 14) B3 (T3 (u32 c) x (pi n) (pi i)) h) (fun _ _ => _) (fun _ _ _ => _) (fun _ _ _ => _)) (fun _ _ => _) (fun _ _ _ => _) (fun _ _ _ => _) = _
   rw [RJ _ hc r0 hb]
   show vl (aw p (exec p (m + 3 + t.length + 14))) (aF p (exec p (m + 3 + t.length + 14))) (fun r h => exec p (m + 3 + t.length + 14) .skip r h) (T4 (u32 (Bi (Nat.xor c b))) x (pi n) (pi i) (pi 8)) h = _
   rw [k5, BP (by omega), bS]
  rw [show m + 20 + (b :: t).length = m + 19 + t.length + 1 + 1 by simp only [List.length_cons]; omega]
  show RS.bind (zl (aw p (exec p (m + 19 + t.length))) (aF p (exec p (m + 19 + t.length))) (fun r h => exec p (m + 19 + t.length) (.seq (.block 1 B3) (.ag vl .skip)) r h) (T3 (u32 c) x (pi n) (pi i)) h) (fun r h => exec p (m + 19 + t.length + 1) L2 r h) (fun _ _ _ => _) (fun _ _ _ => _) = _
  rw [this, show m + 19 + t.length + 1 = m + 20 + t.length by omega]
  exact ih
theorem PD {c : Nat} (hc : c < 4294967296) : sO (u32 c) h = .ok (u32 (Nat.xor 4294967295 c)) h := by
 show RV.ok (.int .u32 (IntKind.wrap .u32 (BitVec.ofInt 32 4294967295 ^^^ BitVec.ofInt 32 (.ofNat c)).toNat)) h = _
 have e : (BitVec.ofInt 32 4294967295 ^^^ BitVec.ofInt 32 (.ofNat c)).toNat = Nat.xor 4294967295 c := by
  rw [BitVec.toNat_xor]
  have e1 : (BitVec.ofInt 32 4294967295).toNat = 4294967295 := rfl
  have e2 : (BitVec.ofInt 32 (.ofNat c)).toNat = c := by
   rw [BitVec.toNat_ofInt]
   show ((Int.ofNat c) % ((2 ^ 32 : Nat) : Int)).toNat = c
   have : (Int.ofNat c) = (c : Int) := rfl
   rw [this]; omega
  rw [e1, e2]; rfl
 rw [e]
 have e2 : IntKind.wrap .u32 (Int.ofNat (Nat.xor 4294967295 c)) = Int.ofNat (Nat.xor 4294967295 c) := by
  rw [← de]
  show Int.ofNat (Nat.xor 4294967295 c % 4294967296) = _
  rw [Nat.mod_eq_of_lt (qC (by omega) hc)]
 rw [show ((Nat.xor 4294967295 c : Nat) : Int) = Int.ofNat (Nat.xor 4294967295 c) from rfl, e2]; rfl
theorem Dt : ∀ (t : List Nat) (c : Nat), c < 4294967296 → (∀ b ∈ t, b ≤ 255) → Gs t c < 4294967296
 | [], _, hc, _ => hc
 | b :: t, c, hc, hb => Dt t _ (by
   have := hb b (by simp)
   rw [← Ij]; exact xy 8 _ (qC hc (by omega))) (fun a ha => hb a (by simp [ha]))
theorem run (s : List Nat) (hn : s.length < 9223372036854775807) (hl : len x h = .ok (eT s.length) h) (hr : ∀ (j : Nat) (hj : j < s.length), Rd x h j s[j] ∧ s[j] ≤ 255) :
  dQ zC (exec p (s.length + 30) xC (aR [x] 0 .nil) h) = .ok (u32 (sV s)) h := by
 have hb : ∀ b ∈ s, b ≤ 255 := fun b hb => by
  obtain ⟨j, hj, rfl⟩ := List.mem_iff_getElem.1 hb
  exact (hr j hj).2
 have hc : Gs s 4294967295 < 4294967296 := Dt s _ (by omega) hb
 have e2 := NC (p := p) (x := x) (h := h) 6 s.length hn s 0 4294967295 (by omega) (by omega) (fun j hj => by rw [Nat.zero_add]; exact hr j hj)
 have e1 : exec p (s.length + 30) xC (aR [x] 0 .nil) h = .ret (T1 (u32 (sV s))) h := by
  show RS.bind (tR (len x h) fun v3 h4 => exec p (s.length + 27) (.block 0 L2) (T3 (u32 4294967295) x v3 (pi 0)) h4) (fun r h => exec p (s.length + 28) (.ag Ig .skip) r h) (fun _ _ _ => _) (fun _ _ _ => _) = _
  rw [hl, bS]
  show RS.bind (RS.bind (exec p (s.length + 26) L2 (T3 (u32 4294967295) x (pi s.length) (pi 0)) h) (fun _ _ => _) (fun _ _ _ => _) (fun _ _ _ => _)) (fun _ _ => _) (fun _ _ _ => _) (fun _ _ _ => _) = _
  rw [show s.length + 26 = 6 + 20 + s.length by omega, e2]
  show Ig (aw p (exec p (s.length + 27))) (aF p (exec p (s.length + 27))) (fun r h => exec p (s.length + 27) .skip r h) (T2 (u32 (Gs s 4294967295))) h = _
  rw [LU, PD hc, bS]; rfl
 rw [e1]; rfl
end
section
variable {h h' : Hp} {x v : AV} {P : Program} {G : Gl} [NB G] {names : List String} {φ : aK} {w : World}
theorem PE (mixed : P.follows .mixedOrders = true) : Env P G names (.mk .nil []) :=
 ⟨mixed, fun t k f hm => (List.not_mem_nil hm).elim, fun f => by
  have : ar f F3.nil = .none := by
   show F1.get _ (F2.get _ (F3.get _ .nil)) = _
   rw [show F3.get (dC (Nat.div f 256)) .nil = .nil by cases dC (Nat.div f 256) <;> rfl, show F2.get (dC (Nat.mod (Nat.div f 16) 16)) .nil = .nil by cases dC (Nat.mod (Nat.div f 16) 16) <;> rfl]
   cases dC (Nat.mod f 16) <;> rfl
  show (match ar f F3.nil with | .none => True | .mk body res => _ | .oV k body res => _ | .Nq body res => _ | .ext k => _)
  rw [this]; trivial⟩
theorem zm (mixed : P.follows .mixedOrders = true) {k : PK} {f : Nat} {body : AC} {res : List Rs} (F : qv P G names f body res)
  (hr : ∀ (φ : aK) (h : Hp) (w : World) (args : List AV), HR φ h w → (du k args h).Safe → args.length ≤ 256 ∧ ∃ m, dQ res (exec (.mk .nil []) m body (aR args 0 .nil) h) = du k args h) : kc P G k f := by
 intro φ h w args vals hg H hv hs
 obtain ⟨hl, m, hm⟩ := hr φ h w args H hs
 have E : Env P G names (.mk .nil []) := PE mixed
 have C := Dh E (Ik E) m
 have e2 : (@Bool.rec (fun _ => RT) (.err 207) (dQ res (exec (.mk .nil []) m body (aR args 0 .nil) h)) (Nat.ble args.length 256)) = du k args h := by
  rw [Nat.ble_eq_true_of_le hl]; exact hm
 have := (xu C F hg H hv (by rw [e2]; exact hs)).2
 rw [e2] at this
 exact this
theorem fm : ∀ {l : List AV} {k : List Nat → RV} {q : Nat}, dG l k (.err q) = .ok v h' → ∃ s : List Nat, l = byteCells s ∧ (∀ b ∈ s, b ≤ 255) ∧ k s = .ok v h'
 | [], k, q, e => ⟨[], rfl, by simp, e⟩
 | a :: l, k, q, e => by
  obtain ⟨kd, n, rfl, e⟩ := bB e
  obtain ⟨g, e⟩ := aB e
  have gk : kd = .u8 := by cases kd <;> first | rfl | cases g
  subst gk
  cases n with
  | ofNat m =>
   obtain ⟨g, e⟩ := aB e
   obtain ⟨s, rfl, h1, h2⟩ := fm e
   exact ⟨m :: s, rfl, by
    intro b hb
    rcases List.mem_cons.1 hb with rfl | hb
    ·exact Nat.le_of_ble_eq_true g
    ·exact h1 b hb, h2⟩
  | negSucc m => cases e
theorem nK : ∀ (s : List Nat) (j : Nat) (hj : j < s.length) (hj2 : j < (byteCells s).length), (byteCells s)[j] = .int .u8 (.ofNat s[j])
 | _ :: _, 0, _, _ => rfl
 | _ :: s, j + 1, hj, hj2 => nK s j (by simpa using hj) (by have : j + 1 < (byteCells s).length + 1 := hj2; omega)
theorem jx : ∀ (s : List Nat), (byteCells s).length = s.length
 | [] => rfl
 | _ :: s => congrArg (· + 1) (jx s)
theorem BQ (hle : ∀ n, len x h = .ok (eT n) h → n ≤ 4611686018427387904) {k : List AV → RV} {q : Nat} (e : elems 1 x h k (.err q) = .ok v h') : ∃ l : List AV, k l = .ok v h' ∧ len x h = .ok (eT l.length) h ∧ l.length < 9223372036854775807 ∧
  ∀ (j : Nat) (hj : j < l.length), ∃ a, ix 1 x (pi j) h = .ok a h ∧ ld a h = .ok l[j] h := by
 have go : ∀ (i : P4) (o n : Nat), (∀ j, ix 1 x (pi j) h = Bg 1 i o n j h) → len x h = .ok (eT n) h → fG 1 i o n h k (.err q) = .ok v h' → ∃ l : List AV, k l = .ok v h' ∧ len x h = .ok (eT l.length) h ∧ l.length < 9223372036854775807 ∧
   ∀ (j : Nat) (hj : j < l.length), ∃ a, ix 1 x (pi j) h = .ok a h ∧ ld a h = .ok l[j] h := by
  intro i o n hx hl e
  unfold fG at e
  rcases fx e with ⟨rfl, e⟩ | ⟨n, rfl, e⟩
  ·exact ⟨[], e, hl, by simp, fun j hj => by simp at hj⟩
  ·obtain ⟨el, m, ex, fl, cl, hi, e⟩ := aV e
   obtain ⟨hb, e⟩ := aB e
   have hb : o + (n + 1) * 1 ≤ m := Nat.le_of_ble_eq_true hb
   have hlen : (bH (Nat.mul (Nat.succ n) 1) cl o).length = n + 1 := by rw [bO]; exact Nat.mul_one _
   have hm := hle _ hl
   refine ⟨_, e, by rw [hlen]; exact hl, by rw [hlen]; omega, fun j hj => ?_⟩
   have hj' : j < n + 1 := by rw [hlen] at hj; exact hj
   refine ⟨.ptr i (o + j * 1), ?_, ?_⟩
   ·rw [hx]
    show (@Bool.rec (fun _ => RV) _ _ (Nat.ble (j + 1) (n + 1)) : RV) = _
    rw [Nat.ble_eq_true_of_le (by omega)]; rfl
   ·show Obj.aN (ah i h) (fun _ n _ _ c => (@Bool.rec (fun _ => RV) (.err 13) (.ok (eI (o + j * 1) c) h) (FK (o + j * 1) n) : RV)) (.err 14) = _
    rw [hi]
    show (@Bool.rec (fun _ => RV) (.err 13) (.ok (eI (o + j * 1) cl) h) (Nat.ble (o + j * 1 + 1) m) : RV) = _
    rw [Nat.ble_eq_true_of_le (by omega)]
    show RV.ok (eI (o + j * 1) cl) h = _
    rw [jy, Nat.mul_one]
 rcases dH e with ⟨i, o, l, c, rfl, e⟩ | ⟨i, o, l, c, rfl, e⟩ | ⟨rfl, e⟩
 ·exact go i o l (fun _ => rfl) rfl e
 ·obtain ⟨g, e⟩ := aB e
  exact go i o l (fun _ => rfl) rfl e
 ·exact ⟨[], e, rfl, by simp, fun j hj => by simp at hj⟩
theorem LW (φ : aK) (h : Hp) (w : World) (args : List AV) (H : HR φ h w) (hs : (du .Rf args h).Safe) : args.length ≤ 256 ∧ ∃ m, dQ zC (exec (.mk .nil []) m xC (aR args 0 .nil) h) = du .Rf args h := by
 match args with
 | [] => exact (RT.Safe.err hs).elim
 | _ :: _ :: _ => exact (RT.Safe.err hs).elim
 | [x] =>
  refine ⟨by simp, ?_⟩
  have hs : (vI x h).iU.Safe := hs
  obtain ⟨v, h', e⟩ := oZ hs
  show ∃ m, _ = (vI x h).iU
  rw [e]
  have e : oS x (fun n => @Bool.rec (fun _ => RV) (.err 141) (elems 1 x h (fun l => dG l (fun s => .ok (.int .u32 (.ofNat (sV s))) h) (.err 140)) (.err 141)) (Nat.ble n 4611686018427387904)) (.err 141) = .ok v h' := e
  have inj : ∀ {l n : Nat}, RV.ok (eT l) h = RV.ok (eT n) h → l = n := fun g => by
   have g : AV.int .i64 (.ofNat _) = AV.int .i64 (.ofNat _) := (RV.an g).1
   cases g; rfl
  obtain ⟨hle, e⟩ : (∀ n, len x h = .ok (eT n) h → n ≤ 4611686018427387904) ∧ elems 1 x h (fun l => dG l (fun s => .ok (.int .u32 (.ofNat (sV s))) h) (.err 140)) (.err 141) = .ok v h' := by
   rcases dH e with ⟨i, o, l, c, rfl, e2⟩ | ⟨i, o, l, c, rfl, e2⟩ | ⟨rfl, e2⟩
   ·have e3 : (@Bool.rec (fun _ => RV) (.err 141) _ (Nat.ble l 4611686018427387904)) = .ok v h' := e2
    obtain ⟨hb, e4⟩ := aB e3
    exact ⟨fun n hn => by rw [← inj hn]; exact Nat.le_of_ble_eq_true hb, e4⟩
   ·have e3 : (@Bool.rec (fun _ => RV) (.err 141) _ (Nat.ble l 4611686018427387904)) = .ok v h' := e2
    obtain ⟨hb, e4⟩ := aB e3
    exact ⟨fun n hn => by rw [← inj hn]; exact Nat.le_of_ble_eq_true hb, e4⟩
   ·exact ⟨fun n hn => by rw [← inj hn]; exact Nat.zero_le _, e2⟩
  obtain ⟨l, e, hl, hn, hr⟩ := BQ hle e
  obtain ⟨s, rfl, hb, e⟩ := fm e
  cases e
  rw [jx] at hl hn
  refine ⟨s.length + 30, run s hn hl fun j hj => ⟨?_, hb _ (List.getElem_mem hj)⟩⟩
  obtain ⟨a, h1, h2⟩ := hr j (by rw [jx]; exact hj)
  rw [nK s j hj] at h2
  exact ⟨a, h1, h2⟩
theorem BR (mixed : P.follows .mixedOrders = true) {f : Nat} {fn : Func} (hf : P.funcs[f]? = some fn) (hc : cF P G names fn = .mk bC sC) : kc P G .Rf f :=
 zm mixed (body := xC) (res := zC) ⟨fn, bC, hf, hc, iC⟩ LW
end
end Go.Am.Crc
namespace Go.Am
section
variable {P : Program} {φ φ' : aK} {h h' : Hp} {w w' : World} {v : AV} {r : A2} {a : Act} {cv : Value} {n : Nat} {G : Gl} [NB G] {names : List String}
def LX (φ : aK) (h : Hp) (b : Nat) : Prop := ∀ i p, live (ah i h) → φ i = some p → p.dm ≠ b
theorem LX.new (H : HR φ h w) {b : Nat} (hb : w.heap.size ≤ b) : LX φ h b := fun i p _ hp => by have := H.bound i p hp; omega
theorem LX.step {b : Nat} (O : LX φ h b) (hb : b < w.heap.size) (S : Step φ h w φ' h' w') : LX φ' h' b ∧ w'.heap[b]? = w.heap[b]? := by
 refine ⟨fun i p hl hp => ?_, S.keeps.rest b hb fun i p hl hp => O i p hl.1 hp⟩
 rcases S.new i p hl hp with ⟨h1, h2, _⟩ | h1 | ⟨j, q, h1, h2, h3⟩
 ·exact O i p h1 h2
 ·omega
 ·rw [← h3]; exact O j q h1.1 h2
theorem HR.off (H : HR φ h w) (hs : w.heap.size ≤ w'.heap.size) (hk : ∀ b, (∃ i p, live (ah i h) ∧ φ i = some p ∧ p.dm = b) → w'.heap[b]? = w.heap[b]?) : HR φ h w' where
 obj i hl := let ⟨p, h1, h2⟩ := H.obj i hl; ⟨p, h1, by rw [hk _ ⟨i, p, hl, h1, rfl⟩]; exact h2⟩
 inj := H.inj
 fresh := H.fresh
 bound i p hp := Nat.lt_of_lt_of_le (H.bound i p hp) hs
structure Kz (φ₀ : aK) (h₀ : Hp) (w₀ : World) (l D : Nat) (rc : Loop) (φ : aK) (h : Hp) (w : World) : Prop where
 hr : HR φ h w
 step : Step φ₀ h₀ w₀ φ h w
 l0 : w₀.heap.size ≤ l
 d0 : w₀.heap.size ≤ D
 ne : D ≠ l
 Il : LX φ h l
 Im : LX φ h D
 LY : w.heap[l]? = some (.loop rc)
 QF : w.heap[D]? = some (.deferred (some []))
variable {φ₀ : aK} {h₀ : Hp} {w₀ : World} {l D : Nat} {rc : Loop}
theorem qD {b : Nat} {o : Go.Obj} (h : w.heap[b]? = some o) : b < w.heap.size := (Array.getElem?_eq_some_iff.1 h).1
theorem Kz.go (R : Kz φ₀ h₀ w₀ l D rc φ h w) (H : HR φ' h' w') (S : Step φ h w φ' h' w') : Kz φ₀ h₀ w₀ l D rc φ' h' w' := by
 obtain ⟨a1, a2⟩ := R.Il.step (qD R.LY) S
 obtain ⟨b1, b2⟩ := R.Im.step (qD R.QF) S
 exact ⟨H, R.step.trans S, R.l0, R.d0, R.ne, a1, b1, a2.trans R.LY, b2.trans R.QF⟩
theorem tK (S : Step φ₀ h₀ w₀ φ h w) (hs : w.heap.size ≤ w'.heap.size) (hk : ∀ b, b < w₀.heap.size → w'.heap[b]? = w.heap[b]?) (ht : w'.tape = w.tape) (ho : w'.os = w.os) (hu : w'.output = w.output) : Step φ₀ h₀ w₀ φ h w' :=
 ⟨S.le, ⟨Nat.le_trans S.keeps.size hs, fun b hb hn => (hk b hb).trans (S.keeps.rest b hb hn), ht.trans S.keeps.tape, ho.trans S.keeps.os, hu.trans S.keeps.output⟩, S.new⟩
theorem Kz.put (R : Kz φ₀ h₀ w₀ l D rc φ h w) (rc' : Loop) : Kz φ₀ h₀ w₀ l D rc' φ h (w.putObj l (.loop rc')) where
 hr := R.hr.off (by simp) fun b ⟨i, p, hl, hp, e⟩ => World.putObj_heap_other (by rw [← e]; exact R.Il i p hl hp)
 step := tK R.step (by simp) (fun b hb => World.putObj_heap_other (by have := R.l0; omega)) rfl rfl rfl
 l0 := R.l0
 d0 := R.d0
 ne := R.ne
 Il := R.Il
 Im := R.Im
 LY := World.putObj_heap_same (qD R.LY)
 QF := (World.putObj_heap_other R.ne).trans R.QF
theorem St.zn (S : St n G φ r h a w) (hl : φ.le φ') (H : HR φ' h' w') : St n G φ' r h' a w' :=
 ⟨H, fun t ht => (S.aE t ht).mono hl, S.fJ, S.size, S.iW.mono hl⟩
theorem wb {o : Oper} {i : AI} (hop : cE P G names o = some i) : ∀ c, o.op ≠ .defer c := by
 intro c e
 simp only [cE, e] at hop
 cases hop
theorem oA {f : AV → Hp → RT} {y : RT} : ∀ {x z : RT}, x.aJ z → z = .ok v h → (f v h).aJ y → (RT.elim f (fun n => .err n) (fun n g => .ch n g) x).aJ y
 | _, _, .ok _ _, e, g => by cases e; exact g
 | _, _, .err _, e, _ => by cases e
 | _, _, .ch n k c _ hc hl, e, g => .ch n _ c _ hc (oA hl e g)
theorem tM {f : AV → Hp → RT} {q : Nat} : ∀ {x z : RT}, x.aJ z → z = .err q → (RT.elim f (fun n => .err n) (fun n g => .ch n g) x).aJ (.err q)
 | _, _, .ok _ _, e => by cases e
 | _, _, .err _, e => by cases e; exact .err _
 | _, _, .ch n k c _ hc hl, e => .ch n _ c _ hc (tM hl e)
theorem BS {f : AV → Hp → RT} {x : RT} (hs : (RT.elim f (fun n => .err n) (fun n g => .ch n g) x).Safe) : x.Safe ∧ ∀ v h, x.aJ (.ok v h) → (f v h).Safe :=
 ⟨fun _ hn => hs _ (tM hn rfl), fun _ _ hl _ hn => hs _ (oA hl rfl hn)⟩
theorem EX {k : A2 → Hp → RT} {i : GI} {l : List GI} (he : (fC k (i :: l) r h).Safe) :
  ∃ d, (∃ y v1 h1, i = .o d (.op y) ∧ y.run r h = .ok v1 h1 ∧ fC k (i :: l) r h = fC k l (bN d v1 r) h1) ∨
   (∃ s x, i = .o d (.yk s x) ∧ (iZ s (ev x r) h).Safe ∧ ∀ v1 h1, (iZ s (ev x r) h).aJ (.ok v1 h1) → (fC k l (bN d v1 r) h1).Safe ∧ ∀ z, (fC k l (bN d v1 r) h1).aJ z → (fC k (i :: l) r h).aJ z) := by
 cases i with
 | o d i =>
  cases i with
  | op y =>
   have e : fC k (.o d (.op y) :: l) r h = (RV.rec (fun v h => fC k l (bN d v r) h) (fun n => .err n) (y.run r h) : RT) := rfl
   cases hy : y.run r h with
   | ok v1 h1 => rw [hy] at e; exact ⟨d, .inl ⟨y, v1, h1, rfl, hy, e⟩⟩
   | err q => rw [e, hy] at he; exact (RT.Safe.err he).elim
  | yk s x =>
   have e : fC k (.o d (.yk s x) :: l) r h = RT.elim (fun v h => fC k l (bN d v r) h) (fun n => .err n) (fun n f => .ch n f) (iZ s (ev x r) h) := rfl
   rw [e] at he
   obtain ⟨s1, s2⟩ := BS he
   refine ⟨d, .inr ⟨s, x, rfl, s1, fun v1 h1 hl => ⟨s2 v1 h1 hl, fun z hz => ?_⟩⟩⟩
   rw [e]
   exact oA hl rfl hz
  | call f xs => exact (RT.Safe.err he).elim
  | lz x xs => exact (RT.Safe.err he).elim
  | inv k x xs => exact (RT.Safe.err he).elim
 | g a b w d i => exact (RT.Safe.err he).elim
theorem ND {ops : Array Oper} {o : Oper} {d : aQ} {i : AI} (e : iA P G n names ops o = .o d i) (hi : i ≠ .op (.bad 400)) : o.guard = none ∧ kp G n o.dst = some d ∧ cE P G names o = some i := by
 unfold iA at e
 split at e
 ·rename_i d' x hd hx
  split at e
  ·rename_i hg
   cases e; exact ⟨hg, hd, hx⟩
  ·split at e
   ·split at e
    ·cases e
    ·cases e; exact absurd rfl hi
   ·cases e; exact absurd rfl hi
 ·cases e; exact absurd rfl hi
abbrev Sd (n : Nat) (G : Gl) (φ : aK) (r : A2) (h : Hp) (a : Act) (w : World) : Prop := St n G φ r h { a with defers := [] } w
theorem Sd.Nt (S : Sd n G φ r h a w) {q : Operand} {x : AO} (e : cO G q = some x) : VR φ (ev x r) (a.eval q) := by
 have := St.Nt S e
 cases q <;> exact this
theorem Sd.put (S : Sd n G φ r h a w) {o : Option Tmp} {d : aQ} (hd : kp G n o = some d) (hv : VR φ' v cv) (H : HR φ' h' w') (T : Step φ h w φ' h' w') : Sd n G φ' (bN d v r) h' (a.put o cv) w' := by
 have := St.put S hd hv H T
 cases o <;> exact this
def RK (os : List Oper) (a a1 : Act) : Prop := a1.defers = a.defers ∧ ∀ t, (∀ o ∈ os, o.dst ≠ some t) → a1.tmps.getD t undef = a.tmps.getD t undef
theorem mQ {d : Option Tmp} {t : Nat} (hd : d ≠ some t) (x : Value) : (a.put d x).tmps.getD t undef = a.tmps.getD t undef := by
 cases d with
 | none => rfl
 | some s =>
  have : s ≠ t := fun e => hd (by rw [e])
  simp [Act.put, Array.getD_eq_getD_getElem?, Array.getElem?_setIfInBounds_ne this]
theorem qE {t : Nat} (ht : t < a.tmps.size) (x : Value) : (a.put (some t) x).tmps.getD t undef = x := by
 simp [Act.put, Array.getD_eq_getD_getElem?, ht]
theorem xz {F : Fence} {m : Nat} (hF : ∀ f, F.fn f) {ops : Array Oper} {k : A2 → Hp → RT} (rest : List Nat) : ∀ (os pre : List Oper) (post : List Oper) (r : A2) (h : Hp) (φ : aK) (a : Act) (w : World), ops.toList = pre ++ (os ++ post) → Sd n G φ r h a w →
  (fC k (os.map fun o => iA P G n names ops o) r h).Safe →
  ∀ {Q : Exit → Act → World → Prop},
  (∀ r1 h1 φ1 a1 w1, (k r1 h1).Safe → (∀ z, (k r1 h1).aJ z → (fC k (os.map fun o => iA P G n names ops o) r h).aJ z) → Sd n G φ1 r1 h1 a1 w1 → Step φ h w φ1 h1 w1 → RK os a a1 → wpOpsIn F m P ops Q rest a1 w1) →
  wpOpsIn F m P ops Q (List.range' pre.length os.length ++ rest) a w
 | [], pre, post, r, h, φ, a, w, e, S, he, Q, hQ => hQ r h φ a w he (fun _ hz => hz) S (.refl _ _ _) ⟨rfl, fun _ _ => rfl⟩
 | o :: os, pre, post, r, h, φ, a, w, e, S, he, Q, hQ => by
  have hoi : ops[pre.length]? = some o := by rw [← Array.getElem?_toList, e]; simp
  rw [List.length_cons, List.range'_succ]
  have hρ : ∀ q x, cO G q = some x → VR φ (ev x r) (a.eval q) := fun q x e => Sd.Nt S e
  have next : ∀ (d : aQ) (v1 : AV) (h1 : Hp) (φ1 : aK) (cv : Value) (w1 : World), kp G n o.dst = some d → VR φ1 v1 cv → HR φ1 h1 w1 → Step φ h w φ1 h1 w1 → (fC k (os.map fun o => iA P G n names ops o) (bN d v1 r) h1).Safe →
    (∀ z, (fC k (os.map fun o => iA P G n names ops o) (bN d v1 r) h1).aJ z → (fC k ((o :: os).map fun o => iA P G n names ops o) r h).aJ z) →
    wpOpsIn F m P ops Q (List.range' (pre.length + 1) os.length ++ rest) (a.put o.dst cv) w1 := by
   intro d v1 h1 φ1 cv w1 hd hv H1 T1 he1 hl1
   have := xz (k := k) hF rest os (pre ++ [o]) post (bN d v1 r) h1 φ1 (a.put o.dst cv) w1 (by rw [e]; simp) (Sd.put S hd hv H1 T1) he1 (Q := Q)
    (fun r2 h2 φ2 a2 w2 hk hl2 S2 T2 ht => hQ r2 h2 φ2 a2 w2 hk (fun z hz => hl1 z (hl2 z hz)) S2 (T1.trans T2) ⟨ht.1.trans (by cases o.dst <;> rfl), fun t hn => (ht.2 t fun o ho => hn o (by simp [ho])).trans (mQ (hn o (by simp)) cv)⟩)
   simpa using this
  show (match ops[pre.length]? with
   | none => _
   | some o => _)
  rw [hoi]
  obtain ⟨d, ⟨y, v1, h1, hi, hy, he1⟩ | ⟨s, x, hi, hsn, hl⟩⟩ := EX he
  ·obtain ⟨hg, hd, hop⟩ := ND hi (fun e => by cases e; cases hy)
   show if Region.wanted o (yielded ops a.tmps) = true then _ else _
   rw [if_pos (by simp [Region.wanted, hg])]
   refine ⟨fun f _ => hF f, ?_⟩
   rw [Oper.semAt_eq _ _ _ (wb hop)]
   obtain ⟨nx, w1, φ1, e1, e2, e3, e4⟩ := CX hρ (fun c => rfl) hop (show HR φ h w from S.hr) hy
   rw [e1]
   have he2 : (fC k (os.map fun o => iA P G n names ops o) (bN d v1 r) h1).Safe := by rw [← he1]; exact he
   have hl2 : ∀ z, (fC k (os.map fun o => iA P G n names ops o) (bN d v1 r) h1).aJ z → (fC k ((o :: os).map fun o => iA P G n names ops o) r h).aJ z := fun z hz => by rw [← he1] at hz; exact hz
   rcases e2 with ⟨cv, rfl, hv⟩ | ⟨rfl, rfl⟩
   ·exact next d v1 h1 φ1 cv w1 hd hv e3 e4 he2 hl2
   ·exact next d .undef h1 φ1 undef w1 hd (.undef _) e3 e4 he2 hl2
  ·obtain ⟨hg, hd, hop⟩ := ND hi (fun e => by cases e)
   show if Region.wanted o (yielded ops a.tmps) = true then _ else _
   rw [if_pos (by simp [Region.wanted, hg])]
   refine ⟨fun f _ => hF f, ?_⟩
   rw [Oper.semAt_eq _ _ _ (wb hop)]
   obtain ⟨cv, w1, φ1, v2, h2, hlf, e1, hv, e3, e4⟩ := yK hρ hop (show HR φ h w from S.hr) hsn
   rw [e1]
   obtain ⟨q1, q2⟩ := hl v2 h2 hlf
   exact next d _ _ φ1 cv w1 hd hv e3 e4 q1 q2
theorem eL {F : Fence} {m id : Nat} (hF : ∀ f, F.fn f) {ops : Array Oper} {l : List GI} (hl : l = ops.toList.map fun o => iA P G n names ops o) {k : A2 → Hp → RT} (S : Sd n G φ r h a w) (he : (fC k l r h).Safe) {X : RT} (hX : ∀ z, (fC k l r h).aJ z → X.aJ z) {Q : Exit → Act → World → Prop}
  (hQ : ∀ r1 h1 φ1 a1 w1, (k r1 h1).Safe → (∀ z, (k r1 h1).aJ z → X.aJ z) → Sd n G φ1 r1 h1 a1 w1 → Step φ h w φ1 h1 w1 → RK ops.toList a a1 → Q .normal a1 w1) : (Code.region id ops false).wpIn F m P Q a w := by
 subst hl
 have := xz (F := F) (m := m) hF (ops := ops) (Q := Q) [] ops.toList [] [] r h φ a w (by simp) S he (fun r1 h1 φ1 a1 w1 b1 b2 b3 b4 b5 => hQ r1 h1 φ1 a1 w1 b1 (fun z hz => hX z (b2 z hz)) b3 b4 b5)
 refine wpIn_region ?_
 rw [List.range_eq_range', ← Array.length_toList]
 simpa using this
structure zo (P : Program) (G : Gl) (names : List String) (f g : Nat) (l0 l1 k0 kn k2 k3 ra rb l4 : List GI) where
 fn : Func
 gn : Func
 i0 : Nat
 i1 : Nat
 i2 : Nat
 i3 : Nat
 i4 : Nat
 j0 : Nat
 j1 : Nat
 j2 : Nat
 j3 : Nat
 o0 : Array Oper
 o1 : Array Oper
 oa : Array Oper
 ob : Array Oper
 o4 : Array Oper
 p0 : Array Oper
 p1 : Array Oper
 p2 : Array Oper
 p3 : Array Oper
 om : Oper
 q3 : List Oper
 oc : Oper
 on : Oper
 cl : Call
 ty : TypeId
 hf : P.funcs[f]? = some fn
 fb : fn.body = some (.seq (.region i0 o0 false) (.seq (.seq (.region i1 o1 false) (.block 0 (.rangeFunc (.tmp 6) #[7] (.region i2 oa false) (.block 1 (.region i3 ob false))))) (.seq (.region i4 o4 false) .ret)))
 TP : fn.ntmps = 13
 fr : fn.results.toList.mapM (Nv P 13) = some [.t .h0 .h4]
 hg : P.funcs[g]? = some gn
 NF : gn.name ≠ "runtime.NumGoroutine"
 gb : gn.body = some (.seq (.region j0 p0 false) (.block 0 (.loop (.seq (.region j1 p1 false) (.seq (.cond (.tmp 7) .skip (.exit 0)) (.block 1 (.seq (.region j2 p2 false) (.seq (.region j3 p3 false) (.cond (.tmp 13) .ret .skip)))))))))
 TQ : gn.ntmps = 14
 gr : gn.results.toList.mapM (Nv P 14) = some []
 e0 : l0 = o0.toList.map fun o => iA P G 13 names o0 o
 e1 : l1 = o1.toList.map fun o => iA P G 13 names o1 o
 ea : ra = oa.toList.map fun o => iA P G 13 names oa o
 eb : rb = ob.toList.map fun o => iA P G 13 names ob o
 e4 : l4 = o4.toList.map fun o => iA P G 13 names o4 o
 a0 : k0 = p0.toList.map fun o => iA P G 14 names p0 o
 a1 : kn = p1.toList.map fun o => iA P G 14 names p1 o
 a2 : k2 = p2.toList.map fun o => iA P G 14 names p2 o
 a3 : k3 = q3.map fun o => iA P G 14 names p3 o
 s3 : p3.toList = om :: (q3 ++ [oc, on])
 mo : om.op = .move (.tmp 0) ∧ om.dst = some 10 ∧ om.guard = none
 co : oc.op = .call cl ∧ cl.callee = .value (.tmp 10) ∧ cl.args = #[.tmp 11] ∧ oc.dst = some 12 ∧ oc.guard = none
 no : on.op = .unOp .not ty (.tmp 12) ∧ on.dst = some 13 ∧ on.guard = none
 b0 : ∀ o ∈ p0.toList ++ (p1.toList ++ p2.toList), o.dst ≠ some 0
 b3 : ∀ o ∈ q3, o.dst ≠ some 10 ∧ o.dst ≠ some 0
end
section
variable {P : Program} {φ φ' : aK} {h h' : Hp} {w w' : World} {v : AV} {r : A2} {a : Act} {cv : Value} {n : Nat} {G : Gl} [NB G] {names : List String}
theorem Io {x : AV} {k : Nat → List AV → RT} {q : Nat} (e : (Gt x k (.err q)).Safe) : ∃ f cs, x = .fn f cs ∧ Gt x k (.err q) = k f cs := by
 cases x <;> first | exact ⟨_, _, rfl, rfl⟩ | exact (RT.Safe.err e).elim
theorem BU {x : AV} {k : Bool → RT} {q : Nat} (e : (rV x k (.err q)).Safe) : ∃ b, x = .bool b ∧ rV x k (.err q) = k b := by
 cases x <;> first | exact ⟨_, rfl, rfl⟩ | exact (RT.Safe.err e).elim
theorem alloc_old (o : Go.Obj) {b : Nat} (hb : b < w.heap.size) : (w.alloc o).heap[b]? = w.heap[b]? := by
 show (w.heap.push o)[b]? = _
 rw [Array.getElem?_push_lt hb, Array.getElem?_eq_getElem hb]
theorem PF (S : Sd n G φ r h a w) {t : Nat} (ht : t < 256) {f : Nat} {c : AV} (e : aq (hi t) (lo t) r = .fn f [c]) : ∃ cv, a.tmps.getD t undef = .func (.func f) #[] #[cv] ∧ VR φ c cv := by
 have := S.Ls t ht
 rw [e] at this
 have : VR φ (.fn f [c]) (a.tmps.getD t undef) := this
 generalize a.tmps.getD t undef = z at this
 cases this with
 | fn _ _ vs hvs =>
  cases hvs with
  | cons _ cv _ _ h1 h2 => cases h2; exact ⟨cv, rfl, h1⟩
theorem Ip (S : Sd n G φ r h a w) {t : Nat} (ht : t < 256) {b : Bool} (e : aq (hi t) (lo t) r = .bool b) : a.tmps.getD t undef = .bool b := by
 have := S.Ls t ht
 rw [e] at this
 exact this.dc
variable {f g : Nat} {l0 l1 k0 kn k2 k3 ra rb l4 : List GI}
theorem Iq (q : Nat) : List.range (q + 3) = 0 :: (List.range' 1 q ++ [q + 1, q + 2]) := by
 rw [List.range_eq_range', show q + 3 = (q + 2) + 1 by omega, List.range'_succ]
 congr 1
 rw [show q + 2 = q + 2 by rfl, ← List.range'_append_1]
 simp [List.range'_succ]
 omega
set_option maxHeartbeats 2000000 in
theorem LZ (C : zo P G names f g l0 l1 k0 kn k2 k3 ra rb l4) : kc P G (.Oy g l0 l1 k0 kn k2 k3 ra rb l4) f := by
 intro φ h w args vals hg H hv hs
 obtain ⟨X, hX⟩ : ∃ X, du (.Oy g l0 l1 k0 kn k2 k3 ra rb l4) args h = X := ⟨_, rfl⟩
 rw [hX] at hs ⊢
 obtain ⟨s, x, rfl, eX⟩ : ∃ s x, args = [s, x] ∧ wX g l0 l1 k0 kn k2 k3 ra rb l4 s x h = X := by
  match args with
  | [] => have : X = .err 154 := hX.symm; rw [this] at hs; exact (RT.Safe.err hs).elim
  | [_] => have : X = .err 154 := hX.symm; rw [this] at hs; exact (RT.Safe.err hs).elim
  | [s, x] => exact ⟨s, x, rfl, hX⟩
  | _ :: _ :: _ :: _ => have : X = .err 154 := hX.symm; rw [this] at hs; exact (RT.Safe.err hs).elim
 have e : (wX g l0 l1 k0 kn k2 k3 ra rb l4 s x h).Safe := by rw [eX]; exact hs
 have L : ∀ z, (wX g l0 l1 k0 kn k2 k3 ra rb l4 s x h).aJ z → X.aJ z := fun z hz => by rw [eX] at hz; exact hz
 have hF : ∀ f, Fence.wide.fn f := fun _ => trivial
 have S0 := St.start H hv hg (by simp : [s, x].length ≤ 256) 13
 refine (callsIn_wide (n := 2)).1 (callsIn_of_wp_marks C.hf C.fb trivial ?_)
 rw [C.TP]
 refine wpIn_seq (eL hF C.e0 S0 e L ?_)
 intro r1 h1 φ1 a1 w1 e1 L1 S1 T1 K1
 refine wpIn_seq (wpIn_seq (eL hF C.e1 S1 e1 L1 ?_))
 intro r2 h2 φ2 a2 w2 e2 L2 S2 T2 K2
 have T := T1.trans T2
 have hd : a2.defers = [] := K2.1.trans K1.1
 obtain ⟨g', cs, hx, ex⟩ := Io e2
 have ex : Nn g k0 kn k2 k3 ra rb l4 r2 h2 = _ := ex
 rw [ex] at e2 L2
 obtain ⟨hgg, ey⟩ : g = g' ∧ ∃ c, cs = [c] ∧ (Bl k0 kn k2 k3 ra rb l4 r2 c h2).Safe ∧ ∀ z, (Bl k0 kn k2 k3 ra rb l4 r2 c h2).aJ z → X.aJ z := by
  cases hb : Nat.beq g g' with
  | false => rw [hb] at e2; exact (RT.Safe.err e2).elim
  | true =>
   rw [hb] at e2 L2
   refine ⟨Nat.eq_of_beq_eq_true hb, ?_⟩
   match cs with
   | [] => exact (RT.Safe.err e2).elim
   | [c] => exact ⟨c, rfl, e2, L2⟩
   | _ :: _ :: _ => exact (RT.Safe.err e2).elim
 subst hgg
 obtain ⟨c, rfl, ez, Lz⟩ := ey
 clear e2 L2 ex
 obtain ⟨cv, h6, hc⟩ := PF S2 (t := 6) (by omega) hx
 refine wpIn_block (wpIn_rangeFunc fun fn' _ => ?_)
 obtain ⟨D, hD⟩ : ∃ D, D = w2.heap.size := ⟨_, rfl⟩
 obtain ⟨l, hl⟩ : ∃ l, l = w2.heap.size + 1 := ⟨_, rfl⟩
 obtain ⟨rc, hrc⟩ : ∃ rc : LoopState → Loop, rc = fun st => { state := st, pending := none, fn := fn', tmps := a2.tmps, params := #[7], assign := .region C.i2 C.oa false, body := .block 1 (.region C.i3 C.ob false), defers := D } := ⟨_, rfl⟩
 obtain ⟨W0, hW0⟩ : ∃ W0, W0 = (w2.alloc (.deferred (some []))).alloc (.loop (rc .ready)) := ⟨_, rfl⟩
 have hsz : W0.heap.size = w2.heap.size + 2 := by rw [hW0]; simp
 have hold : ∀ b, b < w2.heap.size → W0.heap[b]? = w2.heap[b]? := fun b hb => by
  rw [hW0, alloc_old _ (by simp; omega), alloc_old _ hb]
 have H2 : HR φ2 h2 w2 := S2.hr
 have R0 : Kz φ h w l D (rc .ready) φ2 h2 W0 := {
  hr := H2.ext (by omega) hold
  step := tK T (by omega) (fun b hb => hold b (Nat.lt_of_lt_of_le hb T.keeps.size)) (by rw [hW0]; rfl) (by rw [hW0]; rfl) (by rw [hW0]; rfl)
  l0 := by have := T.keeps.size; omega
  d0 := by have := T.keeps.size; omega
  ne := by omega
  Il := LX.new H2 (by omega)
  Im := LX.new H2 (by omega)
  LY := by
   rw [hW0, hl]
   have := World.alloc_heap_new (w2.alloc (.deferred (some []))) (.loop (rc .ready))
   simpa using this
  QF := by
   rw [hW0, hD, alloc_old _ (by simp)]
   exact World.alloc_heap_new w2 _ }
 -- what comes behind the range
 have fin : ∀ (φ3 : aK) (h3 : Hp) (w3 : World), Kz φ h w l D (rc .ready) φ3 h3 w3 → φ2.le φ3 → (vJ l4 r2 h3).Safe → (∀ z, (vJ l4 r2 h3).aJ z → X.aJ z) → ∃ w4, (Instr.endLoop l).run P w3 = .ok none w4 ∧
   (Code.seq (.region C.i4 C.o4 false) .ret).wpIn Fence.wide 2 P (bodyPostM Fence.wide 2 P C.fn (eB φ h w X)) { a2 with defers := { target := .collected D, args := #[] } :: a2.defers } w4 := by
  intro φ3 h3 w3 R le e L
  refine ⟨w3.putObj l (.loop { rc .ready with state := .exhausted }), by
   have := run_endLoop (P := P) R.LY (by rw [hrc]; simp)
   rw [this, hrc], ?_⟩
  have R4 := R.put { rc .ready with state := .exhausted }
  have S4 : Sd 13 G φ3 r2 h3 { a2 with defers := { target := .collected D, args := #[] } :: a2.defers } (w3.putObj l (.loop { rc .ready with state := .exhausted })) := St.zn S2 le R4.hr
  refine wpIn_seq (eL hF C.e4 S4 e L ?_)
  intro r5 h5 φ5 a5 w5 e L S5 T5 K5
  have R5 := R4.go S5.hr T5
  refine wpIn_ret ?_
  show LeavesInM Fence.wide 2 P C.fn a5.tmps _ a5.defers .returning w5
  rw [K5.1]
  refine ⟨by simp, .inl ⟨D, _, rfl, run_takeDeferred R5.QF, ?_⟩⟩
  rw [hd]
  have H6 : HR φ5 h5 (w5.putObj D (.deferred none)) := R5.hr.off (by simp) fun b ⟨i, p, hl, hp, e⟩ => World.putObj_heap_other (by rw [← e]; exact R5.Im i p hl hp)
  have S6 := St.zn S5 (aK.le_refl _) H6
  obtain ⟨_, cv5, hres, hv5⟩ := ku (fn := C.fn) (v := aq .h0 .h4 r5) (h' := h5) S6 C.fr rfl
  exact ⟨cv5, hres, aq .h0 .h4 r5, h5, cv5, φ5, L _ (.ok _ _), rfl, hv5, H6, tK R5.step (by simp) (fun b hb => World.putObj_heap_other (by have := R5.d0; omega)) rfl rfl rfl⟩
 have eg : ∀ args w, (callFunc g args).run P w = .ok (.enter g args) w := fun args w => fK C.hg C.NF C.gb
 refine ⟨l, [{ target := .collected D, args := #[] }], W0, { target := .fn (.func g) #[cv], args := #[.func (.yield l) #[] #[]] }, W0, g, #[.func (.yield l) #[] #[], cv], W0, ?_, ?_, fun _ _ => trivial, ?_, fun _ => by omega, ?_⟩
 ·rw [hW0, hrc, hl, hD]
  exact run_enterLoop_outer _ _ _ _ _
 ·have h6s : a2.tmps[6]?.getD undef = .func (.func g) #[] #[cv] := by rw [← Array.getD_eq_getD_getElem?]; exact h6
  simp [resolve, go_sem, h6s]
 ·simp [invoke, go_sem, eg]
 refine callsIn_of_wp C.hg C.gb trivial ?_
 rw [C.TQ]
 have Sg := St.start (vals := [.func (.yield l) #[] #[], cv]) R0.hr (.cons _ _ _ _ (.undef _) (.cons _ _ _ _ hc .nil)) S2.iW (by simp : [AV.undef, c].length ≤ 256) 14
 refine wpIn_seq (eL hF C.a0 Sg ez Lz ?_)
 intro q1 h3 φ3 b1 w3 e3 L3 Sq1 T3 K3
 have y1 : b1.tmps.getD 0 undef = .func (.yield l) #[] #[] := K3.2 0 fun o ho => C.b0 o (by simp [ho])
 refine wpIn_block (wpIn_loop_rounds 13 ?_)
 rw [roundsIn_succ]
 have over : ∀ (q : A2) (h3 : Hp) (φ3 : aK) (b : Act) (w3 : World), Sd 14 G φ3 q h3 b w3 → b.defers = [] → Kz φ h w l D (rc .ready) φ3 h3 w3 → φ2.le φ3 → (vJ l4 r2 h3).Safe → (∀ z, (vJ l4 r2 h3).aJ z → X.aJ z) →
   b.defers = [] ∧ ∃ x, (results C.gn b.tmps).run P w3 = .ok x w3 ∧ ∃ w4, (Instr.endLoop l).run P w3 = .ok none w4 ∧
   (Code.seq (.region C.i4 C.o4 false) .ret).wpIn Fence.wide 2 P (bodyPostM Fence.wide 2 P C.fn (eB φ h w X)) { a2 with defers := { target := .collected D, args := #[] } :: a2.defers } w4 := by
  intro q h3 φ3 b w3 S hb R le e L
  obtain ⟨_, x, hres, _⟩ := ku (fn := C.gn) (v := aH) (h' := h3) S C.gr rfl
  exact ⟨hb, x, hres, fin φ3 h3 w3 R le e L⟩
 -- the rounds
 refine wpIn_seq (eL hF C.a1 Sq1 e3 L3 ?_)
 intro q2 h4 φ4 b2 w4 e4 L4 Sq2 T4 K4
 have y2 : b2.tmps.getD 0 undef = .func (.yield l) #[] #[] := (K4.2 0 fun o ho => C.b0 o (by simp [ho])).trans y1
 have R1 := R0.go Sq1.hr T3
 have R2 := R1.go Sq2.hr T4
 have le4 : φ2.le φ4 := aK.le_trans T3.le T4.le
 have d2 : b2.defers = [] := K4.1.trans K3.1
 clear e3 L3 K3 K4 y1 Sq1 T3 T4 R1
 generalize (12 : Nat) = fuel at e4 L4 ⊢
 induction fuel generalizing q2 h4 φ4 b2 w4 with
 | zero => exact (RT.Safe.err e4).elim
 | succ fuel ih =>
 obtain ⟨t, ht, e5⟩ := BU (show (rV (aq .h0 .h7 q2) (fun t => (@Bool.rec (fun _ => RT) (vJ l4 r2 h4) (CT (Bj kn k2 k3 ra rb l4 r2 fuel) kn k2 k3 ra rb r2 q2 h4) t : RT)) (.err 156)).Safe from e4)
 have e5 : Bj kn k2 k3 ra rb l4 r2 (fuel + 1) q2 h4 = _ := e5
 rw [e5] at e4 L4
 have h7 : b2.eval (.tmp 7) = .bool t := Ip Sq2 (t := 7) (by omega) ht
 cases t with
 | false =>
  obtain ⟨c1, x, c2, w5, c3, c4⟩ := over q2 h4 φ4 b2 w4 Sq2 d2 R2 le4 e4 L4
  exact wpIn_seq (wpIn_cond_false h7 (wpIn_exit ⟨c1, x, c2, none, w5, c3, c4⟩))
 | true =>
  refine wpIn_seq (wpIn_cond_true h7 (wpIn_skip ?_))
  refine wpIn_block (wpIn_seq (eL hF C.a2 Sq2 e4 L4 ?_))
  intro q3 h5 φ5 b3 w5 e6 L6 Sq3 T5 K5
  have y3 : b3.eval (.tmp 0) = .func (.yield l) #[] #[] := (K5.2 0 fun o ho => C.b0 o (by simp [ho])).trans y2
  refine wpIn_seq (wpIn_region ?_)
  have hsz3 : C.p3.size = C.q3.length + 3 := by rw [← Array.length_toList, C.s3]; simp
  rw [hsz3, Iq]
  show (match C.p3[0]? with
   | none => _
   | some o => _)
  rw [show C.p3[0]? = some C.om by rw [← Array.getElem?_toList, C.s3]; rfl]
  show if Region.wanted C.om (yielded C.p3 b3.tmps) = true then _ else _
  rw [if_pos (by simp [Region.wanted, C.mo.2.2])]
  refine ⟨fun f _ => trivial, ?_⟩
  rw [Oper.semAt_eq _ _ _ (fun c e => by rw [C.mo.1] at e; cases e)]
  have hm : (execOp b3.eval C.om).run P w5 = .ok (.value (b3.eval (.tmp 0))) w5 := by simp [execOp, C.mo.1, go_sem]
  rw [hm]
  show wpOpsIn _ _ _ _ _ _ (b3.put C.om.dst (b3.eval (.tmp 0))) w5
  have Sq4 : Sd 14 G φ5 (jn .h0 .ha .undef q3) h5 (b3.put C.om.dst (b3.eval (.tmp 0))) w5 := Sd.put Sq3 (d := .t .h0 .ha) (by rw [C.mo.2.1]; exact rX (by omega) (by omega)) (.undef _) Sq3.hr (.refl _ _ _)
  have le5 : φ2.le φ5 := aK.le_trans le4 T5.le
  have R3 := R2.go Sq3.hr T5
  have s0 : (b3.put C.om.dst (b3.eval (.tmp 0))).tmps.getD 0 undef = .func (.yield l) #[] #[] := by rw [mQ (by rw [C.mo.2.1]; simp)]; exact y3
  refine xz hF [C.q3.length + 1, C.q3.length + 2] C.q3 [C.om] [C.oc, C.on] (jn .h0 .ha .undef q3) h5 φ5 (b3.put C.om.dst (b3.eval (.tmp 0))) w5 C.s3 Sq4 (by rw [← C.a3]; exact e6) ?_
  intro q5 h6 φ6 b5 w6 e7 L7 Sq5 T6 K6
  rw [← C.a3] at L7
  have L7 := fun z hz => L6 z (L7 z hz)
  have y5 : b5.tmps.getD 10 undef = .func (.yield l) #[] #[] := by
   rw [K6.2 10 (fun o ho => (C.b3 o ho).1), C.mo.2.1, qE (a := b3) (Nat.lt_of_lt_of_le (by omega) Sq3.size), y3]
  have y50 : b5.tmps.getD 0 undef = .func (.yield l) #[] #[] := (K6.2 0 (fun o ho => (C.b3 o ho).2)).trans s0
  have le6 : φ2.le φ6 := aK.le_trans le5 T6.le
  have R4 := R3.go Sq5.hr T6
  have d5 : b5.defers = [] := K6.1.trans ((show (b3.put C.om.dst (b3.eval (.tmp 0))).defers = b3.defers by cases C.om.dst <;> rfl).trans (K5.1.trans d2))
  show (match C.p3[C.q3.length + 1]? with
   | none => _
   | some o => _)
  rw [show C.p3[C.q3.length + 1]? = some C.oc by rw [← Array.getElem?_toList, C.s3]; simp]
  show if Region.wanted C.oc (yielded C.p3 b5.tmps) = true then _ else _
  rw [if_pos (by simp [Region.wanted, C.co.2.2.2.2])]
  refine ⟨fun f _ => trivial, ?_⟩
  rw [Oper.semAt_eq _ _ _ (fun c e => by rw [C.co.1] at e; cases e)]
  have hcall : (execOp b5.eval C.oc).run P w6 = .ok (.round l fn' (a2.tmps.setIfInBounds 7 (b5.eval (.tmp 11))) (.region C.i2 C.oa false) (.block 1 (.region C.i3 C.ob false))) w6 := by
   have y5s : b5.tmps[10]?.getD undef = .func (.yield l) #[] #[] := by rw [← Array.getD_eq_getD_getElem?]; exact y5
   have hy := run_yield (P := P) (args := #[b5.eval (.tmp 11)]) R4.LY (by rw [hrc]; rfl)
   have : (execOp b5.eval C.oc).run P w6 = (Instr.yield l #[b5.eval (.tmp 11)]).run P w6 := by
    simp [execOp, C.co.1, resolve, C.co.2.1, C.co.2.2.1, invoke, go_sem, y5s]
   rw [this]
   simpa [hrc] using hy
  rw [hcall]
  refine ⟨fun _ => by omega, roundIn_of_wpIn trivial ?_⟩
  have Sr : Sd 13 G φ6 (jn .h0 .h7 (aq .h0 .hb q5) r2) h6 { tmps := a2.tmps.setIfInBounds 7 (b5.eval (.tmp 11)), defers := [] } w6 :=
   St.put (St.zn S2 le6 Sq5.hr) (o := some 7) (d := .t .h0 .h7) (rX (by omega) (by omega)) (Sd.Nt (q := .tmp 11) (x := .t .h0 .hb) Sq5 (Rq (by omega))) Sq5.hr (.refl _ _ _)
  refine eL (fun _ => trivial) C.ea Sr e7 L7 ?_
  intro r6 h7' φ7 a6 w7 e8 L8 Sr6 T7 K7
  have R5 := R4.go Sr6.hr T7
  refine ⟨_, run_beginRound R5.LY (by rw [hrc]), ?_⟩
  have R6 := R5.put { rc .ready with state := .busy }
  refine wpIn_block (eL (fun _ => trivial) C.eb (St.zn Sr6 (aK.le_refl _) R6.hr) e8 L8 ?_)
  intro _ h8 φ8 a7 w8 e9 L9 Sr7 T8 K8
  have R7 := R6.go Sr7.hr T8
  refine ⟨_, _, run_endRound none R7.LY, ?_⟩
  have R8 : Kz φ h w l D (rc .ready) φ8 h8 (w8.putObj l (.loop { { rc .ready with state := .busy } with state := if (none : Option Code).isNone then .ready else .done, pending := none })) := by
   have := R7.put (rc .ready)
   rw [hrc] at this ⊢
   exact this
  obtain ⟨w9, hw9⟩ : ∃ w9, w9 = w8.putObj l (.loop { { rc .ready with state := .busy } with state := if (none : Option Code).isNone then .ready else .done, pending := none }) := ⟨_, rfl⟩
  rw [← hw9] at R8 ⊢
  show wpOpsIn _ _ _ _ _ [C.q3.length + 2] (b5.put C.oc.dst (.bool true)) w9
  have le8 : φ6.le φ8 := aK.le_trans T7.le T8.le
  have Sq6 : Sd 14 G φ8 (jn .h0 .hc .undef q5) h8 (b5.put C.oc.dst (.bool true)) w9 := Sd.put (St.zn Sq5 le8 R8.hr) (d := .t .h0 .hc) (by rw [C.co.2.2.2.1]; exact rX (by omega) (by omega)) (.undef _) R8.hr (.refl _ _ _)
  have y12 : (b5.put C.oc.dst (.bool true)).tmps.getD 12 undef = .bool true := by
   rw [C.co.2.2.2.1, qE (a := b5) (Nat.lt_of_lt_of_le (by omega) Sq5.size)]
  show (match C.p3[C.q3.length + 2]? with
   | none => _
   | some o => _)
  rw [show C.p3[C.q3.length + 2]? = some C.on by rw [← Array.getElem?_toList, C.s3]; simp]
  show if Region.wanted C.on (yielded C.p3 (b5.put C.oc.dst (.bool true)).tmps) = true then _ else _
  rw [if_pos (by simp [Region.wanted, C.no.2.2])]
  refine ⟨fun f _ => trivial, ?_⟩
  rw [Oper.semAt_eq _ _ _ (fun c e => by rw [C.no.1] at e; cases e)]
  have hnot : (execOp (b5.put C.oc.dst (.bool true)).eval C.on).run P w9 = .ok (.value (.bool false)) w9 := by
   have y12s : (b5.put C.oc.dst (.bool true)).tmps[12]?.getD undef = .bool true := by rw [← Array.getD_eq_getD_getElem?]; exact y12
   generalize b5.put C.oc.dst (.bool true) = b at y12s ⊢
   simp [execOp, C.no.1, go_sem, y12s, Op.unary]
  rw [hnot]
  obtain ⟨b6, hb6⟩ : ∃ b6, b6 = (b5.put C.oc.dst (.bool true)).put C.on.dst (.bool false) := ⟨_, rfl⟩
  have Sq7 : Sd 14 G φ8 (jn .h0 .hd .undef (jn .h0 .hc .undef q5)) h8 b6 w9 := by
   rw [hb6]; exact Sd.put Sq6 (d := .t .h0 .hd) (by rw [C.no.2.1]; exact rX (by omega) (by omega)) (.undef _) Sq6.hr (.refl _ _ _)
  have d6 : b6.defers = [] := by
   rw [hb6]
   have : ∀ (b : Act) (d : Option Tmp) (x : Value), (b.put d x).defers = b.defers := fun b d x => by cases d <;> rfl
   rw [this, this, d5]
  have y13 : b6.eval (.tmp 13) = .bool false := by
   rw [hb6, C.no.2.1]
   exact qE (a := b5.put C.oc.dst (.bool true)) (Nat.lt_of_lt_of_le (by omega) Sq6.size) _
  have y60 : b6.tmps.getD 0 undef = .func (.yield l) #[] #[] := by
   rw [hb6, mQ (by rw [C.no.2.1]; simp), mQ (by rw [C.co.2.2.2.1]; simp)]; exact y50
  show Code.wpIn _ _ _ (Code.cond (.tmp 13) .ret .skip) _ ((b5.put C.oc.dst (.bool true)).put C.on.dst (.bool false)) w9
  rw [← hb6]
  refine wpIn_cond_false y13 (wpIn_skip ?_)
  show Code.roundsIn _ _ _ _ _ (fuel + 1) b6 w9
  rw [roundsIn_succ]
  refine wpIn_seq (eL hF C.a1 Sq7 e9 L9 ?_)
  intro q7 h9 φ9 b7 w10 e10 L10 Sq8 T9 K9
  exact ih q7 h9 φ9 b7 w10 Sq8 ((K9.2 0 fun o ho => C.b0 o (by simp [ho])).trans y60) (R8.go Sq8.hr T9) (aK.le_trans le6 (aK.le_trans le8 T9.le)) (K9.1.trans d6) e10 L10
end
variable {P : Program} {φ : aK} {h h' : Hp} {w : World} {v : AV} {r : A2} {cx cy : Value} {G : Gl} {f : Nat} {fn : Func}
open Go.ChangeShapes Go.WideShapes Go.ChangeAt Go.RowKit
theorem Ma {x : RT} (e : fg x = true) : x.Safe ∧ ∀ v h, x.aJ (.ok v h) → v = .bool true := by
 have go : ∀ x : RT, fg x = true → ∀ y, x.aJ y → ∃ h, y = .ok (.bool true) h := by
  intro x
  induction x with
  | ok v h =>
   intro e y hy
   cases hy
   have e : AV.bn v (fun b => b) false = true := e
   cases v with
   | bool c =>
    have e3 : c = true := e
    rw [e3]
    exact ⟨_, rfl⟩
   | _ => cases e
  | err n => intro e; cases e
  | ch n k ih =>
   intro e y hy
   have e : Lh n (fun i => fg (k i)) = true := e
   have hall : ∀ m, Lh m (fun i => fg (k i)) = true → ∀ i, i < m → fg (k i) = true := by
    intro m
    induction m with
    | zero => intro _ i hi; omega
    | succ m im =>
     intro e i hi
     have e : (@Bool.rec (fun _ => Bool) false (Lh m (fun i => fg (k i))) (fg (k m))) = true := e
     cases hm : fg (k m) with
     | false => rw [hm] at e; cases e
     | true =>
      rw [hm] at e
      rcases Nat.lt_or_ge i m with h | h
      ·exact im e i h
      ·have : i = m := by omega
       subst this; exact hm
   cases hy with
   | ch _ _ c _ hc hl => exact ih c (hall n e c hc) y hl
 refine ⟨fun n hn => ?_, fun v h hl => ?_⟩
 ·obtain ⟨h, e2⟩ := go x e _ hn
  cases e2
 ·obtain ⟨h2, e2⟩ := go x e _ hl
  cases e2
  rfl
theorem Mb {W W' : World} {may : MemPlace → Prop} (hb : ∀ b, b < W.heap.size → W'.heap[b]? = W.heap[b]?) (ho : W'.os = W.os) (hu : W'.output = W.output) : W.keptBut W' may := by
 refine ⟨ho, hu, fun i hi => ?_⟩
 rw [hb i hi]
 cases W.heap[i]? with
 | none => rfl
 | some o => cases o <;> first | exact ⟨rfl, rfl, rfl, fun _ _ => rfl⟩ | exact .inr ⟨rfl, rfl⟩ | rfl
noncomputable section
def kF (w : World) (v : Value) : AV := match v with
 | .bool b => .bool b
 | .int k n => .int k n
 | .string s => .str (s.data.toList.map UInt8.toNat)
 | .float k n => .qd k n
 | .complex k a b => .iu k a b
 | .pointer none => .da
 | .pointer (some ⟨b, o, none⟩) => if b < w.heap.size then .ptr (.ft b o) 0 else .undef
 | .slice none 0 0 => .al
 | .slice (some ⟨b, o, none⟩) n c => if b < w.heap.size then .slice (.ft b o) 0 n c else if n = 0 ∧ c = 0 then .slice (.ft b o) 0 0 0 else .undef
 | .slice (some ⟨b, o, some _⟩) 0 0 => .slice (.ft b o) 0 0 0
 | _ => .undef
def tP (rc : Array Value) (o : Nat) : Nat := ((rc.toList.drop o).takeWhile Value.oneCell').length
def tU (w : World) (rc : Array Value) (i : Nat) : AV := match rc[i]? with
 | some v => kF w v
 | none => .undef
def EY (w : World) (b o : Nat) : Obj := match w.heap[b]? with
 | some (.cells rc el _) => if o ≤ rc.size then .cells el (tP rc o) false .ro (.kf (tP rc o) fun k => tU w rc (o + k)) else .dead
 | some _ => .dead
 | none => .none
def lO (w : World) (b o : Nat) : Nat := match w.heap[b]? with
 | some (.cells rc _ _) => rc.size - o
 | _ => 0
def oL (p : P4) : Nat := match p with
 | .mk a b c d => a.nat * 4096 + b.nat * 256 + c.nat * 16 + d.nat
 | .ft _ _ => 0
def xA (n : Nat) (w : World) : aK := fun i => match i with
 | .ft b o => if b < w.heap.size then some ⟨b, o, lO w b o⟩ else none
 | .mk a b c d => if oL (.mk a b c d) < n then some ⟨oL (.mk a b c d), 0, lO w (oL (.mk a b c d)) 0⟩ else none
def KA (f : Nat → Nat → Obj) (n : Nat) : T4 := Nat.rec (.mk .nil f) (fun j t => dt (P4.of j) .dead t) n
def AR (n : Nat) (w : World) : Hp := .mk (KA (EY w) n) (.ft w.heap.size 0)
theorem xB {n : Nat} (h : n < 65536) : oL (P4.of n) = n := by
 show (dC (n / 4096)).nat * 4096 + (dC (n / 256 % 16)).nat * 256 + (dC (n / 16 % 16)).nat * 16 + (dC (n % 16)).nat = n
 rw [fP (by omega), fP (by omega), fP (by omega), fP (by omega)]
 omega
theorem BV (a b c d : H) : P4.of (oL (.mk a b c d)) = .mk a b c d := by
 have ha := a.fQ
 have hb := b.fQ
 have hc := c.fQ
 have hd := d.fQ
 show P4.mk (dC ((a.nat * 4096 + b.nat * 256 + c.nat * 16 + d.nat) / 4096)) (dC ((a.nat * 4096 + b.nat * 256 + c.nat * 16 + d.nat) / 256 % 16)) (dC ((a.nat * 4096 + b.nat * 256 + c.nat * 16 + d.nat) / 16 % 16)) (dC ((a.nat * 4096 + b.nat * 256 + c.nat * 16 + d.nat) % 16)) = _
 rw [show (a.nat * 4096 + b.nat * 256 + c.nat * 16 + d.nat) / 4096 = a.nat by omega, show (a.nat * 4096 + b.nat * 256 + c.nat * 16 + d.nat) / 256 % 16 = b.nat by omega,
  show (a.nat * 4096 + b.nat * 256 + c.nat * 16 + d.nat) / 16 % 16 = c.nat by omega, show (a.nat * 4096 + b.nat * 256 + c.nat * 16 + d.nat) % 16 = d.nat by omega,
  mR, mR, mR, mR]
theorem jz (f : Nat → Nat → Obj) (b o : Nat) : ∀ n, cL (.ft b o) (KA f n) = f b o
 | 0 => rfl
 | n + 1 => by
  have e : cL (.ft b o) (KA f (n + 1)) = if P4.ft b o = P4.of n then .dead else cL (.ft b o) (KA f n) := dy (.ft b o) (P4.of n) .dead (KA f n)
  rw [e, if_neg (by intro e; cases e), jz f b o n]
theorem mS (f : Nat → Nat → Obj) (a b c d : H) : ∀ n, n ≤ 65536 → cL (.mk a b c d) (KA f n) = if oL (.mk a b c d) < n then .dead else .none
 | 0, _ => by
  rw [if_neg (by omega)]
  show O1.get d (O2.get c (O3.get b (O4.get a .nil))) = _
  rw [O4.get_nil, O3.get_nil, O2.get_nil, O1.get_nil]
 | m + 1, hm => by
  have e : cL (.mk a b c d) (KA f (m + 1)) = if P4.mk a b c d = P4.of m then .dead else cL (.mk a b c d) (KA f m) := dy (.mk a b c d) (P4.of m) .dead (KA f m)
  rw [e, mS f a b c d m (by omega)]
  by_cases h : P4.mk a b c d = P4.of m
  ·rw [if_pos h, h, xB (by omega), if_pos (by omega)]
  ·rw [if_neg h]
   have h1 : oL (.mk a b c d) ≠ m := fun e => h (by rw [← e, BV])
   by_cases h2 : oL (.mk a b c d) < m
   ·rw [if_pos h2, if_pos (by omega)]
   ·rw [if_neg h2, if_neg (by omega)]
theorem pA (n : Nat) (w : World) (b o : Nat) : ah (.ft b o) (AR n w) = EY w b o := jz _ b o n
theorem zp {n : Nat} {w : World} {i : P4} (hn : n ≤ 65536) (h : live (ah i (AR n w))) : ∃ b o rc el fz, i = .ft b o ∧ w.heap[b]? = some (.cells rc el fz) ∧ o ≤ rc.size ∧
  ah i (AR n w) = .cells el (tP rc o) false .ro (.kf (tP rc o) fun k => tU w rc (o + k)) := by
 cases i with
 | mk a b c d =>
  have e : ah (.mk a b c d) (AR n w) = if oL (.mk a b c d) < n then .dead else .none := mS _ a b c d n hn
  rw [e] at h
  split at h
  ·exact absurd rfl h.2
  ·exact absurd rfl h.1
 | ft b o =>
  rw [pA] at h ⊢
  unfold EY at h ⊢
  split at h
  ·rename_i rc el fz hb
   split at h
   ·rename_i ho
    exact ⟨b, o, rc, el, fz, rfl, hb, ho, if_pos ho⟩
   ·exact absurd rfl h.2
  ·exact absurd rfl h.2
  ·exact absurd rfl h.1
theorem BW {n : Nat} {w : World} {i : P4} (hn : n ≤ 65536) : ¬ wl (ah i (AR n w)) := by
 intro h
 obtain ⟨_, _, _, _, _, _, _, _, e⟩ := zp hn h.1
 rw [e] at h
 cases h.2
theorem Du (n : Nat) (w : World) (v : Value) : VR (xA n w) (kF w v) v := by
 unfold kF
 split
 ·exact .bool _
 ·exact .int _ _
 ·exact .str _ _ rfl
 ·exact .qd _ _
 ·exact .iu _ _ _
 ·exact .da
 ·rename_i b o
  split
  ·rename_i hb
   have h : xA n w (.ft b o) = some ⟨b, o, lO w b o⟩ := if_pos hb
   have := VR.ptr (φ := xA n w) _ 0 _ h
   simpa [Place.addr] using this
  ·exact .undef _
 ·exact .al
 ·rename_i b o k c
  split
  ·rename_i hb
   have h : xA n w (.ft b o) = some ⟨b, o, lO w b o⟩ := if_pos hb
   have := VR.slice (φ := xA n w) _ 0 k c _ h
   simpa [Place.addr] using this
  ·split
   ·rename_i h0
    obtain ⟨rfl, rfl⟩ := h0
    exact .hH _ _ _
   ·exact .undef _
 ·exact .hH _ _ _
 ·exact .undef _
theorem pB {p : Value → Bool} : ∀ (l : List Value) (k : Nat), k < (l.takeWhile p).length → ∃ v, l[k]? = some v ∧ p v = true
 | [], k, h => by simp at h
 | a :: l, k, h => by
  rw [List.takeWhile_cons] at h
  split at h
  ·rename_i ha
   cases k with
   | zero => exact ⟨a, rfl, ha⟩
   | succ k =>
    obtain ⟨v, h1, h2⟩ := pB l k (by simpa using h)
    exact ⟨v, by simpa using h1, h2⟩
  ·simp at h
theorem pC {p : Value → Bool} : ∀ (l : List Value) (m : Nat), (∀ k, k < m → ∃ v, l[k]? = some v ∧ p v = true) → m ≤ (l.takeWhile p).length
 | _, 0, _ => Nat.zero_le _
 | [], m + 1, h => by
  obtain ⟨v, h1, _⟩ := h 0 (by omega)
  simp at h1
 | a :: l, m + 1, h => by
  obtain ⟨v, h1, h2⟩ := h 0 (by omega)
  simp at h1
  subst h1
  rw [List.takeWhile_cons, if_pos h2]
  have := pC (p := p) l m fun k hk => by
   obtain ⟨v, g1, g2⟩ := h (k + 1) (by omega)
   exact ⟨v, by simpa using g1, g2⟩
  simpa using this
theorem Mc {rc : Array Value} {o k : Nat} (h : k < tP rc o) : ∃ v, rc[o + k]? = some v ∧ v.oneCell' = true := by
 obtain ⟨v, h1, h2⟩ := pB _ _ h
 rw [List.getElem?_drop] at h1
 exact ⟨v, by simpa using h1, h2⟩
theorem Md {rc : Array Value} {o m : Nat} (h : ∀ k, k < m → ∃ v, rc[o + k]? = some v ∧ v.oneCell' = true) : m ≤ tP rc o := by
 refine pC _ _ fun k hk => ?_
 obtain ⟨v, h1, h2⟩ := h k hk
 exact ⟨v, by rw [List.getElem?_drop]; simpa using h1, h2⟩
theorem Me {rc : Array Value} {o : Nat} : tP rc o ≤ rc.size - o := by
 unfold tP
 refine Nat.le_trans (List.takeWhile_sublist _).length_le ?_
 simp
theorem Up (n : Nat) (w : World) (hn : n ≤ 65536) (hs : n ≤ w.heap.size) : HR (xA n w) (AR n w) w where
 obj i hl := by
  obtain ⟨b, o, rc, el, fz, rfl, hb, ho, e⟩ := zp hn hl
  have hbs : b < w.heap.size := (Array.getElem?_eq_some_iff.1 hb).1
  have hr : lO w b o = rc.size - o := by unfold lO; rw [hb]
  refine ⟨⟨b, o, lO w b o⟩, if_pos hbs, ?_⟩
  rw [e]
  refine ⟨rc, fz, hb, by simp only [hr]; omega, by simp only [hr]; exact Me, (fun h => by cases h), Nat.le_refl _, fun k hk => ?_, trivial⟩
  obtain ⟨v, h1, h2⟩ := Mc hk
  refine ⟨v, h1, ?_, h2⟩
  show VR _ (tU w rc (o + k)) v
  unfold tU
  rw [h1]
  exact Du n w v
 inj i j p q hi hj hw := hw.elim (fun h => absurd h (BW hn)) (fun h => absurd h (BW hn))
 fresh i hi := by
  cases i with
  | mk a b c d =>
   have e : ah (.mk a b c d) (AR n w) = if oL (.mk a b c d) < n then .dead else .none := mS _ a b c d n hn
   rw [e] at hi
   split at hi
   ·cases hi
   ·rename_i h
    exact if_neg h
  | ft b o =>
   rw [pA] at hi
   unfold EY at hi
   split at hi
   ·split at hi <;> cases hi
   ·cases hi
   ·rename_i hb
    have : ¬ b < w.heap.size := by
     have := Array.getElem?_eq_none_iff.1 hb
     omega
    exact if_neg this
 bound i p hp := by
  cases i with
  | mk a b c d =>
   have hp : (if oL (.mk a b c d) < n then some (Place.mk (oL (.mk a b c d)) 0 (lO w (oL (.mk a b c d)) 0)) else none) = some p := hp
   split at hp
   ·cases hp
    show oL (.mk a b c d) < w.heap.size
    omega
   ·cases hp
  | ft b o =>
   have hp : (if b < w.heap.size then some (Place.mk b o (lO w b o)) else none) = some p := hp
   split at hp
   ·cases hp; assumption
   ·cases hp
theorem RL {n : Nat} {w : World} (hn : n ≤ 65536) : nf ⟨n, [], none⟩ (xA n w) := by
 refine ⟨fun g hg => ⟨lO w g 0, ?_⟩, fun x hx => by cases hx⟩
 have hg : g < n := hg
 have e : xA n w (P4.of g) = if oL (P4.of g) < n then some ⟨oL (P4.of g), 0, lO w (oL (P4.of g)) 0⟩ else none := rfl
 rw [e, xB (by omega), if_pos hg]
theorem Mf {P : Program} {names : List String} {p : Pg} {n : Nat} (E : Env P ⟨n, [], none⟩ names p) (m f : Nat) (vs : List Value) (w : World) (hn : n ≤ 65536) (hs : n ≤ w.heap.size) (h' : Hp)
  (e : aw p (exec p m) f (vs.map (kF w)) (AR n w) = .ok (.bool true) h') (hx : Di (ar f p.fs) = false := by rfl) :
  Calls P f vs.toArray w fun e w' => e = .returned (.bool true) ∧ w.heap.size ≤ w'.heap.size ∧ (∀ b, b < w.heap.size → w'.heap[b]? = w.heap[b]?) ∧ w'.os = w.os ∧ w'.output = w.output := by
 have hv : cM (xA n w) (vs.map (kF w)) vs := cM.BX (by simp) fun k h1 h2 => by
  rw [List.getElem_map]
  exact Du n w _
 refine (Dv E m f (vs.map (kF w)) vs (RL hn) (Up n w hn hs) hv (by rw [e]; intro q hq; cases hq) (Dj hx)).mono ?_
 rintro e' w' ⟨v, h2, cv, φ', hl, rfl, hvv, _, T⟩
 rw [e] at hl
 cases hl
 cases hvv
 exact ⟨rfl, T.keeps.size, fun b hb => T.keeps.rest b hb fun i p hl => absurd hl (BW hn), T.keeps.os, T.keeps.output⟩
def Cs (h : Hp) (p : P4) (o : Nat) (l : List AV) : Prop := ∃ el n ex fl c, ah p h = .cells el n ex fl c ∧ o + l.length ≤ n ∧ ∀ k (hk : k < l.length), eI (o + k) c = l[k]
theorem tW {w : World} {a : Addr} {v : Value} (h : w.cell? a = some v) : a.spot = none ∧ ∃ rc el fz, w.heap[a.block]? = some (.cells rc el fz) ∧ rc[a.off]? = some v := by
 unfold World.cell? at h
 split at h
 ·rename_i c el fz hb
  split at h
  ·cases h
  ·rename_i hsp
   exact ⟨by cases hh : a.spot with | none => rfl | some _ => rw [hh] at hsp; simp at hsp, c, el, fz, hb, h⟩
 ·cases h
theorem RM {w : World} {n : Nat} {b o m : Nat} {vs : List Value} (hv : ∀ k (hk : k < vs.length), w.cell? ⟨b, o + m + k, none⟩ = some vs[k]) (h1 : ∀ v, v ∈ vs → v.oneCell' = true)
  (hpre : ∀ k, k < m → ∃ v, w.cell? ⟨b, o + k, none⟩ = some v ∧ v.oneCell' = true) (h0 : vs ≠ []) : Cs (AR n w) (.ft b o) m (vs.map (kF w)) := by
 have hpos : 0 < vs.length := by cases vs with | nil => exact absurd rfl h0 | cons _ _ => simp
 obtain ⟨_, rc, el, fz, hb, g0⟩ := tW (hv 0 hpos)
 have hat : ∀ k v, w.cell? ⟨b, k, none⟩ = some v → rc[k]? = some v := fun k v h => by
  obtain ⟨_, rc2, el2, fz2, hb2, g⟩ := tW h
  have hb2 : w.heap[b]? = some (.cells rc2 el2 fz2) := hb2
  rw [hb] at hb2
  cases hb2
  exact g
 have hlt : o + m < rc.size := by
  have := (Array.getElem?_eq_some_iff.1 g0).1
  simpa using this
 have hrun : m + vs.length ≤ tP rc o := Md fun k hk => by
  rcases Nat.lt_or_ge k m with g | g
  ·obtain ⟨v, e1, e2⟩ := hpre k g
   exact ⟨v, hat _ _ e1, e2⟩
  ·refine ⟨vs[k - m]'(by omega), ?_, h1 _ (List.getElem_mem _)⟩
   have := hat _ _ (hv (k - m) (by omega))
   rwa [show o + m + (k - m) = o + k by omega] at this
 refine ⟨el, tP rc o, false, .ro, .kf (tP rc o) fun k => tU w rc (o + k), ?_, by simpa using hrun, fun k hk => ?_⟩
 ·rw [pA]
  unfold EY
  rw [hb]
  simp only
  rw [if_pos (by omega)]
 ·have hk' : k < vs.length := by simpa using hk
  show tU w rc (o + (m + k)) = _
  unfold tU
  rw [← Nat.add_assoc, hat _ _ (hv k hk'), List.getElem_map]
end
open Go.ChangeShapes
noncomputable section
section
variable {P : Program}
def gP (P : Program) : List Field → Nat → Bool
 | [], _ => true
 | f :: fs, o => (f.offset == o) && gP P fs (o + P.cellsOf f.type)
def gu (P : Program) : List Field → Nat
 | [] => 0
 | f :: fs => P.cellsOf f.type + gu P fs
def xD (P : Program) (l : List TypeId) (t : TypeId) : Bool := match P.underlying t with
 | some .bool => P.cellsOf t == 1
 | some (.int _) => P.cellsOf t == 1
 | some .string => P.cellsOf t == 1
 | some (.slice e) => (P.cellsOf t == 1) && (l.contains e && Nat.blt 0 (P.cellsOf e))
 | some (.struct fs) => (fs.toList.all fun f => l.contains f.type) && (P.cellsOf t == gu P fs.toList) && gP P fs.toList 0
 | _ => false
def tY (P : Program) (l : List TypeId) : Bool := l.all (xD P l)
theorem pD : ∀ fs : List Field, gu P fs = (fs.map fun f => P.cellsOf f.type).sum
 | [] => rfl
 | f :: fs => by simp [gu, pD fs]
theorem rC : ∀ (fs : List Field) (o : Nat), gP P fs o = true → ∀ (j : Nat) f, fs[j]? = some f → f.offset = o + ((fs.take j).map fun f => P.cellsOf f.type).sum
 | [], _, _, j, f, h => by simp at h
 | g :: fs, o, e, 0, f, h => by
  simp only [gP, Bool.and_eq_true, beq_iff_eq] at e
  simp at h
  subst h
  simpa using e.1
 | g :: fs, o, e, j + 1, f, h => by
  simp only [gP, Bool.and_eq_true, beq_iff_eq] at e
  have := rC fs _ e.2 j f (by simpa using h)
  rw [this]
  simp
  omega
theorem oB {l : List TypeId} (h : tY P l = true) {t : TypeId} (ht : t ∈ l) : xD P l t = true := List.all_eq_true.1 h t ht
theorem Mg {l : List TypeId} (h : tY P l = true) : Kids P (· ∈ l) where
 pointer {t e} ht hu := by
  have := oB h ht
  simp [xD, hu] at this
 slice {t e} ht hu := by
  have := oB h ht
  simp only [xD, hu, Bool.and_eq_true] at this
  simpa using this.2.1
 array {t e n} ht hu := by
  have := oB h ht
  simp [xD, hu] at this
 struct {t fs} ht hu := by
  have := oB h ht
  simp only [xD, hu, Bool.and_eq_true, List.all_eq_true, beq_iff_eq] at this
  obtain ⟨⟨h1, h2⟩, h3⟩ := this
  refine ⟨fun f hf => by simpa using h1 f hf, by rw [h2, pD], fun j f hf => ?_⟩
  have := rC _ _ h3 j f hf
  omega
 map {t k e} ht hu := by
  have := oB h ht
  simp [xD, hu] at this
theorem zq {l : List TypeId} (h : tY P l = true) : ∀ {t e : TypeId}, t ∈ l → P.underlying t = some (.slice e) → 0 < P.cellsOf e := by
 intro t e ht hu
 have := oB h ht
 simp only [xD, hu, Bool.and_eq_true] at this
 have h2 : Nat.ble 1 (P.cellsOf e) = true := this.2.2
 exact Nat.le_of_ble_eq_true h2
theorem pE {H : Type} {enc : TypeId × Value → H} {W W' : World} {l : List TypeId} (hk : tY P l = true) (hb : ∀ b, b < W.heap.size → W'.heap[b]? = W.heap[b]?) {sp : Nat → Bool} : ∀ {ts : List TypeId} {vs : List Value} {ds : List (DataW H)} {ps : List MemPlace},
  (∀ t, t ∈ ts → t ∈ l) → DataW.TrodAll enc P W 0 (fun _ => true) true ts vs ds ps → (∀ p, p ∈ ps → sp p.block = true) → DataW.TrodAll enc P W' 0 sp true ts vs ds ps
 | [], [], [], _, _, h, _ => h
 | t :: ts, v :: vs, d :: ds, _, hT, ⟨p, q, ⟨n, h1⟩, h2, rfl⟩, hs => by
  refine ⟨p, q, ⟨n, ?_⟩, pE hk hb (fun t ht => hT t (by simp [ht])) h2 (fun x hx => hs x (by simp [hx])), rfl⟩
  refine DataW.trod_stays (Mg hk) (zq hk) (fun h => by cases h) (hT t (by simp)) h1 (fun x hx => ?_) (fun x hx => hs x (by simp [hx]))
  have hlt := DataW.trod_lt n t _ _ h1 x hx
  cases x with
  | cell b off =>
   show W'.cell? ⟨b, off, none⟩ = W.cell? ⟨b, off, none⟩
   unfold World.cell?
   rw [hb b hlt]
  | map b => exact hb b hlt
 | [], _ :: _, _, _, _, h, _ => by cases h
 | [], [], _ :: _, _, _, h, _ => by cases h
 | _ :: _, [], _, _, _, h, _ => by cases h
 | _ :: _, _ :: _, [], _, _, h, _ => by cases h
theorem EZ {H : Type} {enc : TypeId × Value → H} {f : Func} {s : ChangeSpec} {apart fresh handsOn again : Bool} {W W' : World} {v : Value} {args : Array Value} {ds : List (DataW H)} {before : List MemPlace} {l : List TypeId}
  (hW : DataW.Whole enc P f.params.toList s.vars apart W args.toList ds [] before) (hvs : s.vars = [])
  (hres : ∀ (b : Nat) (sp : Nat → Bool) (hd : Bool), DataW.TrodAll enc P W' b sp hd f.resultTypes.toList (v.resultList f.resultTypes.size) (s.fn H ds).results [])
  (ha : (s.fn H ds).args = ds) (hg : (s.fn H ds).vars = []) (hk : tY P l = true) (hT : ∀ t, t ∈ f.params.toList → t ∈ l)
  (hb : ∀ b, b < W.heap.size → W'.heap[b]? = W.heap[b]?) (ho : W'.os = W.os) (hu : W'.output = W.output)
  (hok : ∀ (j : Nat) (t : TypeId) (r : Value), f.resultTypes[j]? = some t → (v.resultList f.resultTypes.size)[j]? = some r → Value.okWide P W' .any 0 t r) :
  s.post enc P f apart fresh handsOn again W args v W' := by
 have hlt := fun p hp => hW.lt p hp
 have hW0 := hW
 obtain ⟨p, q, hA, hV, rfl, hz, hn⟩ := hW0
 have hq : q = [] := by
  rw [hvs] at hV
  exact hV
 subst hq
 have hre : ∀ sp : Nat → Bool, (∀ x, x ∈ p → sp x.block = true) → DataW.TrodAll enc P W' 0 sp true f.params.toList args.toList ds p := fun sp hs => pE hk hb hT hA hs
 have hvars : ∀ sp : Nat → Bool, DataW.TrodVars enc P W' sp s.vars ([] : List (DataW H)) [] := fun sp => by rw [hvs]; rfl
 refine ⟨ds, [], p ++ [], [], p, [], hW, by rw [List.append_nil]; exact hres _ _ _, by rw [List.append_nil, ha]; exact hre _ (fun x hx => by simpa using hlt x (by simp [hx])), by rw [List.append_nil, hg]; exact hvars _,
  Mb hb ho hu, fun _ => ?_⟩
 refine ⟨hok, (s.fn H ds).results ++ ds, [], ([] ++ p) ++ [], ⟨[] ++ p, [], trodAll_append (hre _ (fun _ _ => rfl)) (hres _ _ _), hvars _, rfl, ?_, ?_⟩, ?_⟩
 ·intro b off hp
  have hp' : MemPlace.cell b off ∈ p ++ [] := by simpa using hp
  have := hz b off hp'
  have hl := hlt _ hp'
  unfold World.frozen? at this ⊢
  rw [hb b hl]
  exact this
 ·intro h
  have := hn h
  simpa using this
 ·intro x hx _
  simpa using hx
def lg {H : Type} (P : Program) (h : Hp) (rec : TypeId → List AV → DataW H → Prop) (t : TypeId) (cs : List AV) (d : DataW H) : Prop := match P.underlying t with
 | some .bool => ∃ b, cs = [.bool b] ∧ d = .lit (.bool b)
 | some (.int k) => ∃ z, cs = [.int k z] ∧ d = .lit (.int k z) ∧ (Lit.int k z).wf = true
 | some .string => ∃ s : List UInt8, cs = [.str (s.map UInt8.toNat)] ∧ d = .lit (.string s)
 | some (.slice e) => (cs = [.al] ∧ d = .nil) ∨ ∃ (p : P4) (cap : Nat) (elems rest : List (DataW H)) (ls : List (List AV)), cs = [.slice p 0 elems.length cap] ∧ elems.length ≤ cap ∧ d = .slice elems rest ∧ ls.length = elems.length ∧
   ∀ i (hi : i < elems.length) (hi' : i < ls.length), Cs h p (i * P.cellsOf e) ls[i] ∧ ls[i].length = P.cellsOf e ∧ rec e ls[i] elems[i]
 | some (.struct fs) => ∃ (parts : List (DataW H)) (ls : List (List AV)), cs = ls.flatten ∧ d = .agg parts ∧ parts.length = fs.size ∧ ls.length = fs.size ∧
   ∀ (i : Nat) (f : Field), fs[i]? = some f → ∃ l p, ls[i]? = some l ∧ parts[i]? = some p ∧ l.length = P.cellsOf f.type ∧ rec f.type l p
 | _ => False
def xE {H : Type} (P : Program) (h : Hp) (n : Nat) : TypeId → List AV → DataW H → Prop := Nat.rec (fun _ _ _ => False) (fun _ ih => lg P h ih) n
def qF (P : Program) : List Field → List Value → List (List Value)
 | [], _ => []
 | f :: fs, cs => cs.take (P.cellsOf f.type) :: qF P fs (cs.drop (P.cellsOf f.type))
theorem rD : ∀ (fs : List Field) (cs : List Value), (qF P fs cs).length = fs.length
 | [], _ => rfl
 | _ :: fs, _ => by simp [qF, rD fs]
theorem wc : ∀ (fs : List Field) (cs : List Value), cs.length = gu P fs → (qF P fs cs).flatten = cs
 | [], cs, h => by
  simp only [gu, List.length_eq_zero_iff] at h
  simp [qF, h]
 | f :: fs, cs, h => by
  simp only [gu] at h
  simp only [qF, List.flatten_cons]
  rw [wc fs _ (by simp; omega), List.take_append_drop]
theorem Dw : ∀ (fs : List Field) (cs : List Value) (o : Nat), gP P fs o = true → ∀ (all : List Value), cs = all.drop o → ∀ (j : Nat) f, fs[j]? = some f → (qF P fs cs)[j]? = some ((all.drop f.offset).take (P.cellsOf f.type))
 | [], _, _, _, _, _, j, f, h => by simp at h
 | g :: fs, cs, o, e, all, hc, 0, f, h => by
  simp only [gP, Bool.and_eq_true, beq_iff_eq] at e
  simp at h
  subst h
  simp [qF, e.1, hc]
 | g :: fs, cs, o, e, all, hc, j + 1, f, h => by
  simp only [gP, Bool.and_eq_true, beq_iff_eq] at e
  simp only [qF, List.getElem?_cons_succ]
  refine Dw fs _ _ e.2 all ?_ j f (by simpa using h)
  rw [hc, List.drop_drop]
theorem add_zero (a : Addr) : a.add 0 = a := by simp [Addr.add]
theorem Ir {a : Addr} (h : a.spot = none) (k : Nat) : a.add k = ⟨a.block, a.off + k, none⟩ := by
 unfold Addr.add
 split
 ·rename_i hk
  subst hk
  cases a
  simp_all
 ·rfl
theorem BZ {w : World} {a : Addr} {n c : Nat} (h : (a.spot = none ∧ a.block < w.heap.size) ∨ (n = 0 ∧ c = 0)) : kF w (.slice (some a) n c) = .slice (.ft a.block a.off) 0 n c := by
 obtain ⟨b, o, s⟩ := a
 cases s with
 | none =>
  show (if b < w.heap.size then AV.slice (.ft b o) 0 n c else if n = 0 ∧ c = 0 then .slice (.ft b o) 0 0 0 else .undef) = .slice (.ft b o) 0 n c
  split
  ·rfl
  ·rename_i hb
   rcases h with ⟨_, h⟩ | ⟨rfl, rfl⟩
   ·exact absurd h hb
   ·rw [if_pos ⟨rfl, rfl⟩]
 | some s =>
  rcases h with ⟨h, _⟩ | ⟨rfl, rfl⟩
  ·cases h
  ·rfl
theorem Iu {w : World} {b o m n : Nat} {cs : List Value} (h : w.cells? 0 ⟨b, o + m, none⟩ n = some cs) : cs.length = n ∧ ∀ k (hk : k < cs.length), w.cell? ⟨b, o + m + k, none⟩ = some cs[k] := by
 obtain ⟨_, hl, hc⟩ := World.cells?_some h
 refine ⟨hl, fun k hk => ?_⟩
 have := hc k (by omega)
 rw [Ir rfl, List.getElem?_eq_getElem hk] at this
 exact this
theorem reads {H : Type} {enc : TypeId × Value → H} {w : World} {g : Nat} {sp : Nat → Bool} {held : Bool} {l : List TypeId} (hk : tY P l = true) (hsp : ∀ b, sp b = true) : ∀ (n : Nat) (t : TypeId) (cs : List Value) (x : DataW H × List MemPlace), t ∈ l →
  DataW.trod enc P w 0 sp held n t cs = some x → xE P (AR g w) n t (cs.map (kF w)) x.1 ∧ (∀ v, v ∈ cs → v.oneCell' = true) ∧ cs.length = P.cellsOf t
 | 0, t, cs, x, _, h => by simp [DataW.trod] at h
 | n + 1, t, cs, x, ht, h => by
  have hkd := oB hk ht
  show lg P (AR g w) (xE P (AR g w) n) t (cs.map (kF w)) x.1 ∧ _
  unfold xD at hkd
  split at hkd
  ·rename_i hu
   obtain ⟨b, rfl, rfl⟩ := DataW.trod_bool hu h
   refine ⟨?_, fun v hv => ?_, by simpa using (beq_iff_eq.1 hkd).symm⟩
   ·unfold lg; rw [hu]
    exact ⟨b, rfl, rfl⟩
   ·simp at hv; rw [hv]; rfl
  ·rename_i k hu
   obtain ⟨z, rfl, rfl, hw⟩ := DataW.trod_int hu h
   refine ⟨?_, fun v hv => ?_, by simpa using (beq_iff_eq.1 hkd).symm⟩
   ·unfold lg; rw [hu]
    exact ⟨z, rfl, rfl, hw⟩
   ·simp at hv; rw [hv]; rfl
  ·rename_i hu
   obtain ⟨s, rfl, rfl, hs⟩ := DataW.trod_string hu h
   refine ⟨?_, fun v hv => ?_, by simpa using (beq_iff_eq.1 hkd).symm⟩
   ·unfold lg; rw [hu]
    exact ⟨s.data.toList, rfl, rfl⟩
   ·simp at hv; rw [hv]; rfl
  ·rename_i e hu
   simp only [Bool.and_eq_true] at hkd
   obtain ⟨h1, h2, h3⟩ := hkd
   have hes : 0 < P.cellsOf e := zq hk ht hu
   have hel : e ∈ l := by simpa using h2
   rcases DataW.trod_slice hu h with ⟨rfl, rfl⟩ | ⟨a, len, cap, elems, rest, m, hm, rfl, rfl, hb0, hle, hmax, hlen, hat, hrest, _⟩
   ·refine ⟨?_, fun v hv => ?_, by simpa using (beq_iff_eq.1 h1).symm⟩
    ·unfold lg; rw [hu]
     exact .inl ⟨rfl, rfl⟩
    ·simp at hv; rw [hv]; rfl
   ·obtain rfl : n = m := by omega
    obtain ⟨hr1, hr2⟩ := hrest (hsp _)
    have hval : (a.spot = none ∧ a.block < w.heap.size) ∨ (len = 0 ∧ cap = 0) := by
     rcases Nat.eq_zero_or_pos cap with hc | hc
     ·exact .inr ⟨by omega, hc⟩
     ·left
      have h0 : ∃ c0, w.cells? 0 a (P.cellsOf e) = some c0 := by
       rcases Nat.eq_zero_or_pos len with hz | hz
       ·have := hr2 0 (by omega)
        rw [List.getElem?_eq_getElem (by omega), Option.bind_eq_some_iff] at this
        obtain ⟨c0, g1, _⟩ := this
        refine ⟨c0, ?_⟩
        rw [hz, Nat.zero_add, Nat.zero_mul, add_zero] at g1
        exact g1
       ·have := hat 0 hz
        rw [List.getElem?_eq_getElem (by omega), Option.bind_eq_some_iff] at this
        obtain ⟨c0, g1, _⟩ := this
        refine ⟨c0, ?_⟩
        rw [Nat.zero_mul, add_zero] at g1
        exact g1
      obtain ⟨c0, g⟩ := h0
      obtain ⟨_, g1, g2⟩ := World.cells?_some g
      have := g2 0 hes
      rw [add_zero, List.getElem?_eq_getElem (by omega)] at this
      obtain ⟨s1, rc, el, fz, s2, _⟩ := tW this
      exact ⟨s1, (Array.getElem?_eq_some_iff.1 s2).1⟩
    have E : ∀ i, i < len → ∃ ci, (w.cells? 0 (a.add (i * P.cellsOf e)) (P.cellsOf e)) = some ci ∧ ∃ y, elems[i]? = some y ∧ DataW.trod enc P w 0 sp held n e ci = some y := fun i hi => by
     have := hat i hi
     have he : elems[i]? = some (elems[i]'(by omega)) := List.getElem?_eq_getElem (by omega)
     rw [he, Option.bind_eq_some_iff] at this
     obtain ⟨ci, g1, g2⟩ := this
     exact ⟨ci, g1, _, he, g2⟩
    have E2 : ∀ i, i < len → ∃ ci, (w.cells? 0 (a.add (i * P.cellsOf e)) (P.cellsOf e)).getD [] = ci ∧ (∀ k (hk : k < ci.length), w.cell? ⟨a.block, a.off + i * P.cellsOf e + k, none⟩ = some ci[k]) ∧ ci.length = P.cellsOf e ∧ (∀ v, v ∈ ci → v.oneCell' = true) ∧
      ∃ y, elems[i]? = some y ∧ xE P (AR g w) n e (ci.map (kF w)) y.1 := fun i hi => by
     obtain ⟨ci, g1, y, g2, g3⟩ := E i hi
     have hs : a.spot = none := (hval.resolve_right (by omega)).1
     obtain ⟨r1, r2, r3⟩ := reads hk hsp n e ci y hel g3
     have g4 := g1
     rw [Ir hs] at g4
     exact ⟨ci, by rw [g1]; rfl, (Iu g4).2, r3, r2, y, g2, r1⟩
    refine ⟨?_, fun v hv => ?_, by simpa using (beq_iff_eq.1 h1).symm⟩
    ·unfold lg; rw [hu]
     refine .inr ⟨.ft a.block a.off, cap, elems.map (·.1), rest.map (·.1), (List.range len).map fun i => ((w.cells? 0 (a.add (i * P.cellsOf e)) (P.cellsOf e)).getD []).map (kF w), ?_, by rw [List.length_map, hlen]; exact hle, rfl, by simp [hlen], fun i hi hi' => ?_⟩
     ·simp only [List.map_cons, List.map_nil, List.length_map, hlen]
      rw [BZ hval]
     ·have hil : i < len := by simpa [hlen] using hi
      obtain ⟨ci, e1, e2, e3, e4, y, e5, e6⟩ := E2 i hil
      have hci : ((List.range len).map fun i => ((w.cells? 0 (a.add (i * P.cellsOf e)) (P.cellsOf e)).getD []).map (kF w))[i] = ci.map (kF w) := by
       simp only [List.getElem_map, List.getElem_range, e1]
      have hy : (elems.map (·.1))[i] = y.1 := by
       rw [List.getElem_map]
       have := (List.getElem?_eq_some_iff.1 e5).2
       rw [this]
      rw [hci, hy]
      refine ⟨?_, by simpa using e3, e6⟩
      have hs : a.spot = none := (hval.resolve_right (by omega)).1
      refine RM e2 e4 (fun k hk => ?_) (by intro h0; rw [h0] at e3; simp at e3; omega)
      have hq : k / P.cellsOf e < i := Nat.div_lt_of_lt_mul (by rw [Nat.mul_comm]; exact hk)
      obtain ⟨cj, f1, f2, f3, f4, _⟩ := E2 (k / P.cellsOf e) (by omega)
      have hmod := Nat.mod_lt k hes
      have hdm := Nat.div_add_mod k (P.cellsOf e)
      rw [Nat.mul_comm] at hdm
      refine ⟨cj[k % P.cellsOf e]'(by omega), ?_, f4 _ (List.getElem_mem _)⟩
      have := f2 (k % P.cellsOf e) (by omega)
      rwa [show a.off + k / P.cellsOf e * P.cellsOf e + k % P.cellsOf e = a.off + k by omega] at this
    ·simp at hv; rw [hv]; rfl
  ·rename_i fs hu
   simp only [Bool.and_eq_true, List.all_eq_true, beq_iff_eq] at hkd
   obtain ⟨⟨h1, h2⟩, h3⟩ := hkd
   obtain ⟨xs, m, hm, rfl, hlen, hxl, hf⟩ := DataW.trod_struct hu h
   obtain rfl : n = m := by omega
   have C : ∀ (i : Nat) (f : Field), fs[i]? = some f → ∃ ch y, (qF P fs.toList cs)[i]? = some ch ∧ xs[i]? = some y ∧ xE P (AR g w) n f.type (ch.map (kF w)) y.1 ∧ (∀ v, v ∈ ch → v.oneCell' = true) ∧ ch.length = P.cellsOf f.type := fun i f hfi => by
    have hfi' : fs.toList[i]? = some f := by simpa using hfi
    have e1 := Dw fs.toList cs 0 h3 cs (by simp) i f hfi'
    have hi : i < xs.length := by rw [hxl]; exact (Array.getElem?_eq_some_iff.1 hfi).1
    have e2 := hf i f hfi
    rw [List.getElem?_eq_getElem hi] at e2
    have hft : f.type ∈ l := by
     have := h1 f (List.mem_of_getElem? hfi')
     simpa using this
    obtain ⟨r1, r2, r3⟩ := reads hk hsp n f.type _ _ hft e2
    exact ⟨_, _, e1, List.getElem?_eq_getElem hi, r1, r2, r3⟩
   have hflat : (qF P fs.toList cs).flatten = cs := wc _ _ (by rw [hlen, h2])
   have hcl : (qF P fs.toList cs).length = fs.size := by rw [rD]; simp
   refine ⟨?_, fun v hv => ?_, hlen⟩
   ·unfold lg; rw [hu]
    refine ⟨xs.map (·.1), (qF P fs.toList cs).map (List.map (kF w)), ?_, rfl, by simp [hxl], by simp [hcl], fun i f hfi => ?_⟩
    ·rw [← List.map_flatten, hflat]
    ·obtain ⟨ch, y, c1, c2, c3, c4, c5⟩ := C i f hfi
     exact ⟨ch.map (kF w), y.1, by rw [List.getElem?_map, c1]; rfl, by rw [List.getElem?_map, c2]; rfl, by simpa using c5, c3⟩
   ·rw [← hflat] at hv
    obtain ⟨ch, hch, hv⟩ := List.mem_flatten.1 hv
    obtain ⟨i, hi, rfl⟩ := List.getElem_of_mem hch
    have hfi : fs[i]? = some (fs[i]'(by omega)) := Array.getElem?_eq_getElem (by omega)
    obtain ⟨ch2, y, c1, c2, c3, c4, c5⟩ := C i _ hfi
    rw [List.getElem?_eq_getElem hi] at c1
    cases c1
    exact c4 v hv
  ·cases hkd
end
end
noncomputable section
def Ev (Q : Nat → Prop) : Prop := ∃ n, ∀ m, n ≤ m → Q m
theorem Ev.all {Q : Nat → Prop} (h : ∀ m, Q m) : Ev Q := ⟨0, fun m _ => h m⟩
theorem Ev.mono {Q R : Nat → Prop} (h : Ev Q) (g : ∀ m, Q m → R m) : Ev R := let ⟨n, h⟩ := h; ⟨n, fun m hm => g m (h m hm)⟩
theorem Ev.and {Q R : Nat → Prop} (h : Ev Q) (g : Ev R) : Ev fun m => Q m ∧ R m := let ⟨n, h⟩ := h; let ⟨k, g⟩ := g; ⟨max n k, fun m hm => ⟨h m (by omega), g m (by omega)⟩⟩
theorem Ev.Fa {Q R S : Nat → Prop} (h : Ev Q) (g : Ev R) (f : ∀ m, Q m → R m → S m) : Ev S := (h.and g).mono fun m x => f m x.1 x.2
theorem Ev.succ {Q : Nat → Prop} (h : Ev fun m => Q (m + 1)) : Ev Q := let ⟨n, h⟩ := h; ⟨n + 1, fun m hm => by
 obtain ⟨k, rfl⟩ : ∃ k, m = k + 1 := ⟨m - 1, by omega⟩
 exact h k (by omega)⟩
theorem Ev.some {Q : Nat → Prop} (h : Ev Q) : ∃ m, Q m := let ⟨n, h⟩ := h; ⟨n, h n (Nat.le_refl _)⟩
variable {p : Pg} {r r' : A2} {h h' h1 h2 : Hp} {s : RS} {a b c x : AC} {i f : Nat} {args : List AV} {v : AV}
def Rn (p : Pg) (c : AC) (r : A2) (h : Hp) (s : RS) : Prop := Ev fun m => exec p m c r h = s
def Cv (p : Pg) (f : Nat) (args : List AV) (h : Hp) (v : AV) (h' : Hp) : Prop := Ev fun m => aw p (exec p m) f args h = .ok v h'
theorem Rn.skip : Rn p .skip r h (.nm r h) := Ev.succ (.all fun _ => rfl)
theorem Rn.ret : Rn p .ret r h (.ret r h) := Ev.succ (.all fun _ => rfl)
theorem Rn.exit : Rn p (.exit i) r h (.ex i r h) := Ev.succ (.all fun _ => rfl)
theorem Rn.goto : Rn p (.goto i) r h (.go i r h) := Ev.succ (.all fun _ => rfl)
theorem Rn.label : Rn p (.label i) r h (.nm r h) := Ev.succ (.all fun _ => rfl)
theorem Rn.seq (e : Rn p a r h (.nm r' h')) (g : Rn p b r' h' s) : Rn p (.seq a b) r h s := Ev.succ (Ev.Fa e g fun m e g => by
 show RS.bind (exec p m a r h) _ _ _ = _
 rw [e]; exact g)
theorem Rn.jh (e : Rn p a r h (.ret r' h')) : Rn p (.seq a b) r h (.ret r' h') := Ev.succ (Ev.mono e fun m e => by
 show RS.bind (exec p m a r h) _ _ _ = _
 rw [e]; rfl)
theorem Rn.PG (e : Rn p a r h (.go i r' h')) : Rn p (.seq a b) r h (.go i r' h') := Ev.succ (Ev.mono e fun m e => by
 show RS.bind (exec p m a r h) _ _ _ = _
 rw [e]; rfl)
theorem Rn.block (e : Rn p a r h (.nm r' h')) : Rn p (.block i a) r h (.nm r' h') := Ev.succ (Ev.mono e fun m e => by
 show RS.bind (exec p m a r h) _ _ _ = _
 rw [e]; rfl)
theorem Rn.bJ (e : Rn p a r h (.ex i r' h')) : Rn p (.block i a) r h (.nm r' h') := Ev.succ (Ev.mono e fun m e => by
 show RS.bind (exec p m a r h) _ _ _ = _
 rw [e]
 show (@Bool.rec (fun _ => RS) _ _ (Nat.beq i i)) = _
 rw [Nat.beq_refl])
theorem Rn.Fb (e : Rn p a r h (.ret r' h')) : Rn p (.block i a) r h (.ret r' h') := Ev.succ (Ev.mono e fun m e => by
 show RS.bind (exec p m a r h) _ _ _ = _
 rw [e]; rfl)
theorem Rn.loop (e : Rn p a r h (.nm r' h')) (g : Rn p (.loop a) r' h' s) : Rn p (.loop a) r h s := Ev.succ (Ev.Fa e g fun m e g => by
 show RS.bind (exec p m a r h) _ _ _ = _
 rw [e]; exact g)
theorem Rn.fh (e : Rn p a r h (.ex i r' h')) : Rn p (.loop a) r h (.ex i r' h') := Ev.succ (Ev.mono e fun m e => by
 show RS.bind (exec p m a r h) _ _ _ = _
 rw [e]; rfl)
theorem Rn.Iw (e : Rn p a r h (.ret r' h')) : Rn p (.loop a) r h (.ret r' h') := Ev.succ (Ev.mono e fun m e => by
 show RS.bind (exec p m a r h) _ _ _ = _
 rw [e]; rfl)
theorem Rn.scope (e : Rn p (.sat a a) r h s) : Rn p (.scope a) r h s := by
 obtain ⟨n, e⟩ := e
 refine ⟨n + 1, fun m hm => ?_⟩
 obtain ⟨k, rfl⟩ : ∃ k, m = k + 1 := ⟨m - 1, by omega⟩
 exact e (k + 1) (by omega)
theorem Rn.sA (e : Rn p c r h (.ret r' h')) : Rn p (.sat a c) r h (.ret r' h') := Ev.succ (Ev.mono e fun m e => by
 show RS.bind (exec p m c r h) _ _ _ = _
 rw [e]; rfl)
theorem Rn.xF (e : Rn p c r h (.go i r' h')) (hf : cZ a i = some x) (g : Rn p (.sat a x) r' h' s) : Rn p (.sat a c) r h s := Ev.succ (Ev.Fa e g fun m e g => by
 show RS.bind (exec p m c r h) _ _ _ = _
 rw [e]
 show (Option.rec _ (fun c => exec p m (.sat a c) r' h') (cZ a i) : RS) = _
 rw [hf]; exact g)
theorem Rn.xG {c : AO} (hc : ev c r = .bool true) (e : Rn p a r h s) : Rn p (.cond c a b) r h s := Ev.succ (Ev.mono e fun m e => by
 show AV.bn (ev c r) _ _ = _
 rw [hc]; exact e)
theorem Rn.Ix {c : AO} (hc : ev c r = .bool false) (e : Rn p b r h s) : Rn p (.cond c a b) r h s := Ev.succ (Ev.mono e fun m e => by
 show AV.bn (ev c r) _ _ = _
 rw [hc]; exact e)
theorem Rn.ag {k : Cf → Iv → (A2 → Hp → RS) → A2 → Hp → RS} (e : Ev fun m => k (aw p (exec p m)) (aF p (exec p m)) (fun r h => exec p m x r h) r h = s) : Rn p (.ag k x) r h s := Ev.succ e
theorem Cv.of {body : AC} {res : List Rs} (hf : ar f p.fs = .mk body res) (hl : args.length ≤ 256) (e : Rn p body (aR args 0 .nil) h (.ret r' h1)) (hr : sY res r' h1 = .ok v h') : Cv p f args h v h' := Ev.mono e fun m e => by
 unfold aw
 rw [hf]
 show (@Bool.rec (fun _ => RT) _ _ (Nat.ble args.length 256)) = _
 rw [Nat.ble_eq_true_of_le hl]
 show dQ res (exec p m body (aR args 0 .nil) h) = _
 rw [e]
 show (sY res r' h1).iU = _
 rw [hr]; rfl
theorem Cv.cS {body : AC} {res : List Rs} (hf : ar f p.fs = .mk body res) (hl : args.length ≤ 256) (e : Rn p body (aR args 0 .nil) h (.nm r' h1)) (hr : sY res r' h1 = .ok v h') : Cv p f args h v h' := Ev.mono e fun m e => by
 unfold aw
 rw [hf]
 show (@Bool.rec (fun _ => RT) _ _ (Nat.ble args.length 256)) = _
 rw [Nat.ble_eq_true_of_le hl]
 show dQ res (exec p m body (aR args 0 .nil) h) = _
 rw [e]
 show (sY res r' h1).iU = _
 rw [hr]; rfl
theorem Cv.oV {k : PK} {body : AC} {res : List Rs} (hf : ar f p.fs = .oV k body res) (e : du k args h = .ok v h') : Cv p f args h v h' := .all fun m => by
 unfold aw
 rw [hf]
 show (RT.rec _ _ _ (du k args h) : RT) = _
 rw [e]
def Wf (h : Hp) : Prop := ∃ N, h.next = .ft N 0 ∧ ∀ m, N ≤ m → ah (.ft m 0) h = .none
def Old (h h' : Hp) : Prop := ∀ q, ah q h ≠ .none → ah q h' = ah q h
theorem Old.refl (h : Hp) : Old h h := fun _ _ => rfl
theorem Old.trans {h1 h2 h3 : Hp} (a : Old h1 h2) (b : Old h2 h3) : Old h1 h3 := fun q hq => (b q (by rw [a q hq]; exact hq)).trans (a q hq)
def we (h : Hp) (o : Obj) : Hp := .mk (dt h.next o h.tree) h.next.succ
theorem iI (h : Hp) (o : Obj) (q : P4) : ah q (we h o) = if q = h.next then o else ah q h := fO q
theorem Iy (h : Hp) (o : Obj) : (we h o).next = h.next.succ := rfl
theorem Wf.fresh (W : Wf h) : ah h.next h = .none := by
 obtain ⟨N, e, f⟩ := W
 rw [e]; exact f N (Nat.le_refl _)
theorem Wf.we (W : Wf h) (o : Obj) : Wf (we h o) := by
 obtain ⟨N, e, f⟩ := W
 refine ⟨N + 1, by rw [Iy, e]; rfl, fun m hm => ?_⟩
 rw [iI, e, if_neg (by intro g; cases g; omega)]
 exact f m (by omega)
theorem Old.we (W : Wf h) (o : Obj) : Old h (we h o) := fun q hq => by
 rw [iI, if_neg]
 intro e
 rw [e] at hq
 exact hq W.fresh
theorem Wf.cB (W : Wf h) {q : P4} {o : Obj} (hq : ah q h ≠ .none) : Wf (cB q o h) := by
 obtain ⟨N, e, f⟩ := W
 refine ⟨N, e, fun m hm => ?_⟩
 rw [aG, if_neg]
 ·exact f m hm
 ·intro g
  rw [← g] at hq
  exact hq (f m hm)
theorem wg (W : Wf h) (o : Obj) (k : P4 → Hp → RV) : iw o h k = k h.next (we h o) := by
 obtain ⟨t, nx⟩ := h
 have e : iw o (.mk t nx) k = (@Bool.rec (fun _ => RV) (.err 1) (k nx (.mk (dt nx o t) nx.succ)) (isNone (cL nx t))) := rfl
 have f : cL nx t = .none := W.fresh
 rw [e, f]
 rfl
theorem xH (W : Wf h) {el n : Nat} {ex : Bool} {fl : Fl} {c : Cl} (hn : n ≤ Bb c) (k : P4 → Hp → RV) : fB el ex fl n c h k = k h.next (we h (.cells el n ex fl c)) := by
 show (@Bool.rec (fun _ => RV) (.err 130) (iw (.cells el n ex fl c) h k) (Nat.ble n (Bb c))) = _
 rw [Nat.ble_eq_true_of_le hn]
 exact wg W _ k
def Gd (c : Cl) : Prop := match c with
 | .kf m _ => m = 16777216
 | _ => True
theorem Gd.max {c : Cl} (g : Gd c) : Bb c = bw c := by
 cases c with
 | kf m f =>
  have g : m = 16777216 := g
  subst g; rfl
 | _ => rfl
theorem Gd.lh {c : Cl} (g : Gd c) (i : Nat) (v : AV) : Gd (lh i v c) := by cases c <;> exact g
theorem Gd.bU (l : List AV) : ∀ (i : Nat) {c : Cl}, Gd c → Gd (bU l i c) := by
 induction l with
 | nil => intro i c g; exact g
 | cons v l ih => intro i c g; rw [kG]; exact ih _ (g.lh i v)
theorem Gd.grow {c : Cl} (g : Gd c) : Gd (bz c) := by
 cases c with
 | kf m f => exact g
 | k4 x => rfl
 | _ => trivial
theorem RN (c : Cl) (g : Gd c) : bw (bz (bz (bz (bz c)))) = 16777216 := by
 cases c with
 | kf m f => exact g
 | _ => rfl
theorem Gd.fit {c : Cl} (g : Gd c) (n : Nat) (hn : n ≤ 16777216) : Gd (jV n c) ∧ n ≤ bw (jV n c) := by
 unfold jV
 cases h1 : Nat.ble n (bw c) with
 | true => exact ⟨g, Nat.le_of_ble_eq_true h1⟩
 | false =>
  cases h2 : Nat.ble n (bw (bz c)) with
  | true => exact ⟨g.grow, Nat.le_of_ble_eq_true h2⟩
  | false =>
   cases h3 : Nat.ble n (bw (bz (bz c))) with
   | true => exact ⟨g.grow.grow, Nat.le_of_ble_eq_true h3⟩
   | false =>
    cases h4 : Nat.ble n (bw (bz (bz (bz c)))) with
    | true => exact ⟨g.grow.grow.grow, Nat.le_of_ble_eq_true h4⟩
    | false => exact ⟨g.grow.grow.grow.grow, by rw [RN c g]; exact hn⟩
theorem Gd.of (l : List AV) (hl : l.length ≤ 16777216) : Gd (mE l) ∧ l.length ≤ bw (mE l) := by
 have g : Gd FO := trivial
 obtain ⟨a, b⟩ := g.fit l.length hl
 unfold mE
 exact ⟨a.bU _ _, by rw [fy]; exact b⟩
theorem ir (l : List AV) (hl : l.length ≤ 16777216) (k : Nat) (hk : k < l.length) : eI k (mE l) = l[k] := fc l (Gd.of l hl).2 k hk
def Ob (h : Hp) (q : P4) (el : Nat) (ex : Bool) (fl : Fl) (l : List AV) : Prop := ∃ c, ah q h = .cells el l.length ex fl c ∧ (Gd c ∧ l.length ≤ bw c) ∧ ∀ k (hk : k < l.length), eI k c = l[k]
theorem Ob.ne {q : P4} {el : Nat} {ex : Bool} {fl : Fl} {l : List AV} (o : Ob h q el ex fl l) : ah q h ≠ .none := by
 obtain ⟨c, e, _⟩ := o
 rw [e]; simp
theorem Ob.old {q : P4} {el : Nat} {ex : Bool} {fl : Fl} {l : List AV} (o : Ob h q el ex fl l) (O : Old h h') : Ob h' q el ex fl l := by
 have hne := o.ne
 obtain ⟨c, e, r⟩ := o
 exact ⟨c, by rw [O q hne]; exact e, r⟩
theorem Ob.eq {q : P4} {el : Nat} {ex : Bool} {fl : Fl} {l : List AV} (o : Ob h q el ex fl l) (e : ah q h' = ah q h) : Ob h' q el ex fl l := by
 obtain ⟨c, g, r⟩ := o
 exact ⟨c, by rw [e]; exact g, r⟩
theorem Ob.cs {q : P4} {el : Nat} {ex : Bool} {fl : Fl} {l : List AV} (o : Ob h q el ex fl l) {k : Nat} {m : List AV} (hm : ∀ j (hj : j < m.length), ∃ hk : k + j < l.length, l[k + j] = m[j]) (hl : k + m.length ≤ l.length) : Cs h q k m := by
 obtain ⟨c, e, _, g⟩ := o
 refine ⟨el, l.length, ex, fl, c, e, hl, fun j hj => ?_⟩
 obtain ⟨hk, e⟩ := hm j hj
 rw [g _ hk, e]
theorem Cs.old {q : P4} {o : Nat} {l : List AV} (a : Cs h q o l) (O : Old h h') : Cs h' q o l := by
 obtain ⟨el, n, ex, fl, c, e, r⟩ := a
 exact ⟨el, n, ex, fl, c, by rw [O q (by rw [e]; simp)]; exact e, r⟩
theorem Cs.ne {q : P4} {o : Nat} {l : List AV} (a : Cs h q o l) : ah q h ≠ .none := by
 obtain ⟨el, n, ex, fl, c, e, r⟩ := a
 rw [e]; simp
theorem Cs.eq {q : P4} {o : Nat} {l : List AV} (a : Cs h q o l) (e : ah q h' = ah q h) : Cs h' q o l := by
 obtain ⟨el, n, ex, fl, c, g, r⟩ := a
 exact ⟨el, n, ex, fl, c, by rw [e]; exact g, r⟩
theorem Cs.sub {q : P4} {o : Nat} {l : List AV} (a : Cs h q o l) (k : Nat) (m : List AV) (hm : k + m.length ≤ l.length) (g : ∀ j (hj : j < m.length), l[k + j] = m[j]) : Cs h q (o + k) m := by
 obtain ⟨el, n, ex, fl, c, e, r1, r2⟩ := a
 refine ⟨el, n, ex, fl, c, e, by omega, fun j hj => ?_⟩
 rw [Nat.add_assoc, r2 (k + j) (by omega), g j hj]
theorem qG (W : Wf h) {el : Nat} {ex : Bool} {fl : Fl} (l : List AV) {c : Cl} (hc : Gd c ∧ l.length ≤ bw c) (hg : ∀ k (hk : k < l.length), eI k c = l[k]) (k : P4 → Hp → RV) :
  ∃ q h', fB el ex fl l.length c h k = k q h' ∧ ah q h = .none ∧ Ob h' q el ex fl l ∧ Old h h' ∧ Wf h' ∧ ∀ j, j ≠ q → ah j h' = ah j h := by
 refine ⟨h.next, we h (.cells el l.length ex fl c), xH W (by rw [hc.1.max]; exact hc.2) k, W.fresh, ⟨c, by rw [iI, if_pos rfl], hc, hg⟩, .we W _, W.we _, fun j hj => by rw [iI, if_neg hj]⟩
end
noncomputable section
variable {H : Type} {P : Program} {h : Hp} {rec rec' : TypeId → List AV → DataW H → Prop} {t : TypeId} {cs : List AV} {d : DataW H}
theorem lg.mono (g : ∀ t l d, rec t l d → rec' t l d) (r : lg P h rec t cs d) : lg P h rec' t cs d := by
 unfold lg at r ⊢
 cases hu : P.underlying t with
 | none => rw [hu] at r; exact r.elim
 | some u =>
  rw [hu] at r
  cases u with
  | bool => exact r
  | int k => exact r
  | string => exact r
  | slice e =>
   rcases r with r | ⟨p, cap, el, rest, ls, h1, h2, h3, h4, h5⟩
   ·exact .inl r
   ·exact .inr ⟨p, cap, el, rest, ls, h1, h2, h3, h4, fun i hi hi' => ⟨(h5 i hi hi').1, (h5 i hi hi').2.1, g _ _ _ (h5 i hi hi').2.2⟩⟩
  | struct fs =>
   obtain ⟨parts, ls, h1, h2, h3, h4, h5⟩ := r
   exact ⟨parts, ls, h1, h2, h3, h4, fun i f hf => let ⟨l, p, a, b, c, d⟩ := h5 i f hf; ⟨l, p, a, b, c, g _ _ _ d⟩⟩
  | _ => exact r.elim
theorem xE.succ : ∀ (n : Nat) (t : TypeId) (cs : List AV) (d : DataW H), xE P h n t cs d → xE P h (n + 1) t cs d
 | 0, _, _, _, r => r.elim
 | n + 1, t, cs, d, r => lg.mono (xE.succ n) r
theorem xE.add (n k : Nat) (t : TypeId) (cs : List AV) (d : DataW H) (r : xE P h n t cs d) : xE P h (n + k) t cs d := by
 induction k with
 | zero => exact r
 | succ k ih => exact xE.succ (n + k) t cs d ih
end
noncomputable section
def Nr (n : Nat) : Hp := .mk (KA (fun _ _ => .none) n) (P4.of n)
def Mh (n : Nat) : aK := fun i => match i with
 | .ft _ _ => none
 | .mk a b c d => if oL (.mk a b c d) < n then some ⟨oL (.mk a b c d), 0, 0⟩ else none
theorem xI (n b o : Nat) : ah (.ft b o) (Nr n) = .none := jz _ b o n
theorem zr {n : Nat} (hn : n ≤ 65536) (a b c d : H) : ah (.mk a b c d) (Nr n) = if oL (.mk a b c d) < n then .dead else .none := mS _ a b c d n hn
theorem tZ {n : Nat} (hn : n ≤ 65536) (i : P4) : ¬ live (ah i (Nr n)) := by
 intro h
 cases i with
 | ft b o => exact h.1 (xI n b o)
 | mk a b c d =>
  rw [zr hn] at h
  split at h
  ·exact h.2 rfl
  ·exact h.1 rfl
theorem Uq {n : Nat} {w : World} (hn : n ≤ 65536) (hs : n ≤ w.heap.size) : HR (Mh n) (Nr n) w where
 obj i hl := absurd hl (tZ hn i)
 inj i j p q hl := absurd hl (tZ hn i)
 fresh i hi := by
  cases i with
  | ft b o => rfl
  | mk a b c d =>
   rw [zr hn] at hi
   split at hi
   ·cases hi
   ·rename_i h
    exact if_neg h
 bound i p hp := by
  cases i with
  | ft b o => cases hp
  | mk a b c d =>
   have hp : (if oL (.mk a b c d) < n then some (Place.mk (oL (.mk a b c d)) 0 0) else none) = some p := hp
   split at hp
   ·cases hp
    show oL (.mk a b c d) < w.heap.size
    omega
   ·cases hp
theorem RO {n : Nat} (hn : n ≤ 65536) : nf ⟨n, [], none⟩ (Mh n) := by
 refine ⟨fun g hg => ⟨0, ?_⟩, fun x hx => by cases hx⟩
 have hg : g < n := hg
 have e : Mh n (P4.of g) = if oL (P4.of g) < n then some ⟨oL (P4.of g), 0, 0⟩ else none := rfl
 rw [e, xB (by omega), if_pos hg]
theorem Mi {P : Program} {names : List String} {p : Pg} {n : Nat} (E : Env P ⟨n, [], none⟩ names p) (m f : Nat) (hn : n ≤ 65536) (e : fg (aw p (exec p m) f [] (Nr n)) = true) (w : World) (hs : n ≤ w.heap.size) (hx : Di (ar f p.fs) = false := by rfl) :
  Calls P f #[] w fun e w' => e = .returned (.bool true) ∧ w.heap.size ≤ w'.heap.size ∧ (∀ b, b < w.heap.size → w'.heap[b]? = w.heap[b]?) ∧ w'.tape = w.tape ∧ w'.os = w.os ∧ w'.output = w.output := by
 obtain ⟨Og, ht⟩ := Ma e
 refine (Dv E m f [] [] (φ := Mh n) (RO hn) (Uq hn hs) .nil Og (Dj hx)).mono ?_
 rintro e w' ⟨v, h', cv, φ', hl, rfl, hv, _, T⟩
 have := ht v h' hl
 subst this
 cases hv
 exact ⟨rfl, T.keeps.size, fun b hb => T.keeps.rest b hb fun i p hl => absurd hl.1 (tZ hn i), T.keeps.tape, T.keeps.os, T.keeps.output⟩
def CW (args : List AV) (h : Hp) : RT := List.casesOn args (.ok (.bool true) h) (fun _ _ => .err 400)
theorem Eb {P : Program} {names : List String} {p : Pg} {n : Nat} (E : Env P ⟨n, [], none⟩ names p) (m f : Nat) (hn : n ≤ 65536) (e : fg (aw p (exec p m) f [] (Nr n)) = true) (hx : Di (ar f p.fs) = false := by rfl) :
  kc P ⟨n, [], none⟩ (.fn CW) f := by
 intro φ h w args vals hg H hv hs
 have hsz : n ≤ w.heap.size := by
  cases n with
  | zero => exact Nat.zero_le _
  | succ k =>
   obtain ⟨room, hp⟩ := hg.1 k (Nat.lt_succ_self k)
   have := H.bound _ _ hp
   exact this
 cases hv with
 | cons a v as vs h1 h2 => exact (RT.Safe.err (show (RT.err 400).Safe from hs)).elim
 | nil =>
  refine (Mi E m f hn e w hsz hx).mono ?_
  rintro x w' ⟨rfl, h1, h2, h3, h4, h5⟩
  exact ⟨.bool true, h, .bool true, φ, .ok _ _, rfl, .bool _, H.ext h1 h2, .ext h1 h2 h3 h4 h5⟩
end
open Go.ChangeShapes Go.WideShapes
noncomputable section
variable {H : Type} {enc : TypeId × Value → H}
section
variable {P : Program} {w : World} {r : Reach} {b0 : Nat} {t e : TypeId} {k : IntKind} {v : Value}
theorem zt (ht : P.underlying t = some (.slice e)) (h : Value.okWide P w r b0 t v) : v.cells.toList = [v] := by
 obtain ⟨a, n, c, rfl⟩ := okWide_slice ht h
 rfl
theorem Fc (ht : P.underlying t = some (.int k)) (h : Value.okWide P w r b0 t v) : v.cells.toList = [v] := by
 obtain ⟨n, rfl⟩ := okWide_int ht h
 rfl
end
end
end Go.Am
