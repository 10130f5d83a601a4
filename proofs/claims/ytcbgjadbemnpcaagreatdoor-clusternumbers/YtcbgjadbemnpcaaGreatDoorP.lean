/- Laws of some functions (the sum of bytes, slices.AppendSeq over the keys of a map, and others), and of closed runs. Conditions: their code is the one that is named. -/
import Derived.Test.YtcbgjadbemnpcaaGreatDoorS2
import Derived.Test.YtcbgjadbemnpcaaGreatDoorH
import Derived.Test.YtcbgjadbemnpcaaGreatDoorG0
import Derived.KernelRfl
import Derived.RangeFuncRecord
import Derived.LoopNIn
import Derived.Lib.MakeNoZero
import Derived.Laws.Externs
import Derived.WalkKit
import Derived.ProofKit
import Derived.OpenShut
import Derived.Lib.LaidTab
import Derived.Handed
set_option linter.all false
namespace Go.Am.Crc
open Go.Am.Seat
set_option linter.unusedVariables false
set_option maxRecDepth 20000
noncomputable section
def cC_4 : AC := (.seq (.ops [o d18 (.bin .lt r17 (.c (pi 8)))])
 (.seq (.cond r18 .skip
 (.exit 2))
 (.seq (.block 3 (.seq (.ops [o d19 (.mv r3),
 o d20 (.bin .and r19 (.c (.int .u32 (.ofNat 1)))),
 o d6 (.mv r20)])
 (.seq (.ops [o d21 (.mv r3),
 o d22 (.bin .shr r21 (.c (.int .u64 (.ofNat 1)))),
 o d3 (.mv r22)])
 (.seq (.ops [o d23 (.mv r6),
 o d24 (.bin .eq r23 (.c (.int .u32 (.ofNat 1))))])
 (.cond r24 (.ops [o d25 (.mv r3),
 o d26 (.bin .xor r25 (.c (.int .u32 (.ofNat 3988292384)))),
 o d3 (.mv r26)])
 .skip)))))
 (.ops [o d27 (.bin .add r17 (.c (pi 1))),
 o d17 (.mv r27)]))))
def cC_3 : AC := (.seq (.ops [o d11 (.ixs 1 r7 r9),
 o d12 (.ld1 r11),
 o d5 (.mv r12)])
 (.seq (.ops [o d13 (.mv r3),
 o d14 (.mv r5),
 o d15 (.conv (.toInt .u32) r14),
 o d16 (.bin .xor r13 r15),
 o d3 (.mv r16)])
 (.seq (.ops [o d17 (.mv (.c (pi 0)))])
 (.block 2 (.loop cC_4)))))
def cC_5 : AC := (.ops [o d28 (.bin .add r9 (.c (pi 1))),
 o d9 (.mv r28)])
def cC_2 : AC := (.seq (.ops [o d10 (.bin .lt r9 r8)])
 (.seq (.cond r10 .skip
 (.exit 0))
 (.seq (.block 1 cC_3) cC_5)))
def cC_1 : AC := (.seq (.ops [o d7 (.mv r0),
 o d8 (.len r7),
 o d9 (.mv (.c (pi 0)))])
 (.block 0 (.loop cC_2)))
def cC_6 : AC := (.seq (.ops [o d29 (.mv r3),
 o d30 (.un .com r29),
 o d2 (.mv r30)])
 .ret)
def cC_0 : AC := (.seq (.ops [o d2 (.mv (.c (.int .u32 (.ofNat 0))))])
 (.seq (.ops [o d3 (.mv (.c (.int .u32 (.ofNat 4294967295))))])
 (.seq cC_1 cC_6)))
def bC : AC := cC_0
def sC : List Rs := [.t .h0 .h2]
def T0 (v0 v3 : AV) : A2 := .mk (.mk v0 .undef .undef v3 .undef .undef .undef .undef .undef .undef .undef .undef .undef .undef .undef .undef) .nil .nil .nil .nil .nil .nil .nil .nil .nil .nil .nil .nil .nil .nil .nil
def T1 (v2 : AV) : A2 := .mk (.mk .undef .undef v2 .undef .undef .undef .undef .undef .undef .undef .undef .undef .undef .undef .undef .undef) .nil .nil .nil .nil .nil .nil .nil .nil .nil .nil .nil .nil .nil .nil .nil
def T2 (v3 : AV) : A2 := .mk (.mk .undef .undef .undef v3 .undef .undef .undef .undef .undef .undef .undef .undef .undef .undef .undef .undef) .nil .nil .nil .nil .nil .nil .nil .nil .nil .nil .nil .nil .nil .nil .nil
def T3 (v3 v7 v8 v9 : AV) : A2 := .mk (.mk .undef .undef .undef v3 .undef .undef .undef v7 v8 v9 .undef .undef .undef .undef .undef .undef) .nil .nil .nil .nil .nil .nil .nil .nil .nil .nil .nil .nil .nil .nil .nil
def T4 (v3 v7 v8 v9 v17 : AV) : A2 := .mk (.mk .undef .undef .undef v3 .undef .undef .undef v7 v8 v9 .undef .undef .undef .undef .undef .undef) (.mk .undef v17 .undef .undef .undef .undef .undef .undef .undef .undef .undef .undef .undef .undef .undef .undef) .nil .nil .nil .nil .nil .nil .nil .nil .nil .nil .nil .nil .nil .nil
def kC_4 : Cf → Iv → (A2 → Hp → RS) → A2 → Hp → RS := fun cf iv rx r h => (fun (x23 x24 x25 x26 x27 : AV) =>
 tR (b_lt x27 (pi 8) h) fun v28 h29 =>
 ifR v28 (tR (b_and x23 (.int .u32 (.ofNat 1)) h29) fun v30 h31 =>
 tR (bK .shr x23 (.int .u64 (.ofNat 1)) h31) fun v32 h33 =>
 tR (b_eq v30 (.int .u32 (.ofNat 1)) h33) fun v34 h35 =>
 ifR v34 (tR (b_xor v32 (.int .u32 (.ofNat 3988292384)) h35) fun v36 h37 =>
 tR (b_add x27 (pi 1) h37) fun v38 h39 =>
 .nm (T4 v36 x24 x25 x26 v38) h39) (tR (b_add x27 (pi 1) h35) fun v40 h41 =>
 .nm (T4 v32 x24 x25 x26 v40) h41)) (.ex 2 (T4 x23 x24 x25 x26 x27) h29)) (rget .h0 .h3 r) (rget .h0 .h7 r) (rget .h0 .h8 r) (rget .h0 .h9 r) (rget .h1 .h1 r)
def kC_3 : Cf → Iv → (A2 → Hp → RS) → A2 → Hp → RS := fun cf iv rx r h => (fun (x11 x12 x13 x14 : AV) =>
 tR (ix 1 x12 x14 h) fun v15 h16 =>
 tR (ld v15 h16) fun v17 h18 =>
 tR (cK (.toInt .u32) v17 h18) fun v19 h20 =>
 tR (b_xor x11 v19 h20) fun v21 h22 =>
 rx (T4 v21 x12 x13 x14 (pi 0)) h22) (rget .h0 .h3 r) (rget .h0 .h7 r) (rget .h0 .h8 r) (rget .h0 .h9 r)
def kC_5 : Cf → Iv → (A2 → Hp → RS) → A2 → Hp → RS := fun cf iv rx r h => (fun (x42 x43 x44 x45 : AV) =>
 tR (b_add x45 (pi 1) h) fun v46 h47 =>
 .nm (T3 x42 x43 x44 v46) h47) (rget .h0 .h3 r) (rget .h0 .h7 r) (rget .h0 .h8 r) (rget .h0 .h9 r)
def kC_2 : Cf → Iv → (A2 → Hp → RS) → A2 → Hp → RS := fun cf iv rx r h => (fun (x5 x6 x7 x8 : AV) =>
 tR (b_lt x8 x7 h) fun v9 h10 =>
 ifR v9 (rx (T3 x5 x6 x7 x8) h10) (.ex 0 (T2 x5) h10)) (rget .h0 .h3 r) (rget .h0 .h7 r) (rget .h0 .h8 r) (rget .h0 .h9 r)
def kC_1 : Cf → Iv → (A2 → Hp → RS) → A2 → Hp → RS := fun cf iv rx r h => (fun (x1 x2 : AV) =>
 tR (len x1 h) fun v3 h4 =>
 rx (T3 x2 x1 v3 (pi 0)) h4) (rget .h0 .h0 r) (rget .h0 .h3 r)
def kC_6 : Cf → Iv → (A2 → Hp → RS) → A2 → Hp → RS := fun cf iv rx r h => (fun (x48 : AV) =>
 tR (u_com x48 h) fun v49 h50 =>
 .ret (T1 v49) h50) (rget .h0 .h3 r)
def kC_0 : Cf → Iv → (A2 → Hp → RS) → A2 → Hp → RS := fun cf iv rx r h => (fun (x0 : AV) =>
 rx (T0 x0 (.int .u32 (.ofNat 4294967295))) h) (rget .h0 .h0 r)
def xC : AC := (.shal kC_0 (.seq (.shal kC_1 (.block 0 (.loop (.shal kC_2 (.seq (.block 1 (.shal kC_3 (.block 2 (.loop (.shal kC_4 .skip))))) (.shal kC_5 .skip)))))) (.shal kC_6 .skip)))
def zC : List Rs := [.t .h0 .h2]
theorem eC_4 : kC_4 = denTop cC_4 4 [3, 7, 8, 9, 17] [3, 7, 8, 9, 17] [] [] := by kernel_rfl
theorem eC_3 : kC_3 = denTop cC_3 3 [3, 7, 8, 9] [] [] [3, 7, 8, 9, 17] := by kernel_rfl
theorem eC_5 : kC_5 = denTop cC_5 1 [3, 7, 8, 9] [3, 7, 8, 9] [] [] := by kernel_rfl
theorem eC_2 : kC_2 = denTop cC_2 2 [3, 7, 8, 9] [3] [] [3, 7, 8, 9] := by kernel_rfl
theorem eC_1 : kC_1 = denTop cC_1 1 [0, 3] [] [] [3, 7, 8, 9] := by kernel_rfl
theorem eC_6 : kC_6 = denTop cC_6 2 [3] [2] [2] [] := by kernel_rfl
theorem eC_0 : kC_0 = denTop cC_0 2 [0] [] [] [0, 3] := by kernel_rfl
theorem iC : Impl bC xC := (.shal (c := cC_0) 2 [0] [] [] [0, 3] rfl eC_0 (.seq (.shal (c := cC_1) 1 [0, 3] [] [] [3, 7, 8, 9] rfl eC_1 (.block (.loop (.shal (c := cC_2) 2 [3, 7, 8, 9] [3] [] [3, 7, 8, 9] rfl eC_2 (.seq (.block (.shal (c := cC_3) 3 [3, 7, 8, 9] [] [] [3, 7, 8, 9, 17] rfl eC_3 (.block (.loop (.shal (c := cC_4) 4 [3, 7, 8, 9, 17] [3, 7, 8, 9, 17] [] [] rfl eC_4 (.refl _)))))) (.shal (c := cC_5) 1 [3, 7, 8, 9] [3, 7, 8, 9] [] [] rfl eC_5 (.refl _))))))) (.shal (c := cC_6) 2 [3] [2] [2] [] rfl eC_6 (.refl _))))
end
section
variable {cf : Cf} {iv : Iv} {rx : A2 → Hp → RS} {h : Hp}
theorem kC_4_eq (x23 x24 x25 x26 x27 : AV) : kC_4 cf iv rx (T4 x23 x24 x25 x26 x27) h =
 tR (b_lt x27 (pi 8) h) fun v28 h29 =>
 ifR v28 (tR (b_and x23 (.int .u32 (.ofNat 1)) h29) fun v30 h31 =>
 tR (bK .shr x23 (.int .u64 (.ofNat 1)) h31) fun v32 h33 =>
 tR (b_eq v30 (.int .u32 (.ofNat 1)) h33) fun v34 h35 =>
 ifR v34 (tR (b_xor v32 (.int .u32 (.ofNat 3988292384)) h35) fun v36 h37 =>
 tR (b_add x27 (pi 1) h37) fun v38 h39 =>
 .nm (T4 v36 x24 x25 x26 v38) h39) (tR (b_add x27 (pi 1) h35) fun v40 h41 =>
 .nm (T4 v32 x24 x25 x26 v40) h41)) (.ex 2 (T4 x23 x24 x25 x26 x27) h29) := rfl
theorem kC_3_eq (x11 x12 x13 x14 : AV) : kC_3 cf iv rx (T3 x11 x12 x13 x14) h =
 tR (ix 1 x12 x14 h) fun v15 h16 =>
 tR (ld v15 h16) fun v17 h18 =>
 tR (cK (.toInt .u32) v17 h18) fun v19 h20 =>
 tR (b_xor x11 v19 h20) fun v21 h22 =>
 rx (T4 v21 x12 x13 x14 (pi 0)) h22 := rfl
theorem kC_5_eq (x42 x43 x44 x45 : AV) : kC_5 cf iv rx (T3 x42 x43 x44 x45) h =
 tR (b_add x45 (pi 1) h) fun v46 h47 =>
 .nm (T3 x42 x43 x44 v46) h47 := rfl
theorem kC_2_eq (x5 x6 x7 x8 : AV) : kC_2 cf iv rx (T3 x5 x6 x7 x8) h =
 tR (b_lt x8 x7 h) fun v9 h10 =>
 ifR v9 (rx (T3 x5 x6 x7 x8) h10) (.ex 0 (T2 x5) h10) := rfl
theorem kC_1_eq (x1 x2 : AV) : kC_1 cf iv rx (T0 x1 x2) h =
 tR (len x1 h) fun v3 h4 =>
 rx (T3 x2 x1 v3 (pi 0)) h4 := rfl
theorem kC_6_eq (x48 : AV) : kC_6 cf iv rx (T2 x48) h =
 tR (u_com x48 h) fun v49 h50 =>
 .ret (T1 v49) h50 := rfl
end
section
variable {cf : Cf} {iv : Iv} {rx : A2 → Hp → RS} {h : Hp} {x y z : AV} {p : Pg}
def u32 (n : Nat) : AV := .int .u32 (.ofNat n)
theorem tR_ok (v : AV) (h : Hp) (k : AV → Hp → RS) : tR (.ok v h) k = k v h := rfl
theorem ifR_b (t : Bool) (a b : RS) : ifR (.bool t) a b = (@Bool.rec (fun _ => RS) b a t) := rfl
theorem lt_ok (a b : Nat) : b_lt (pi a) (pi b) h = .ok (.bool (Nat.ble (a + 1) b)) h := rfl
theorem and_ok {c d : Nat} (hc : c < 4294967296) (hd : d < 4294967296) : b_and (u32 c) (u32 d) h = .ok (u32 (Nat.land c d)) h := by
  show RV.ok (.int .u32 (.ofNat (Nat.land (c % 4294967296) (d % 4294967296) % 4294967296))) h = _
  rw [Nat.mod_eq_of_lt hc, Nat.mod_eq_of_lt hd, Nat.mod_eq_of_lt (a := Nat.land c d) (Nat.lt_of_le_of_lt (show Nat.land c d ≤ c from Nat.and_le_left) hc)]; rfl
theorem xor_lt {c d : Nat} (hc : c < 4294967296) (hd : d < 4294967296) : Nat.xor c d < 4294967296 := Nat.xor_lt_two_pow (n := 32) hc hd
theorem xor_ok {c d : Nat} (hc : c < 4294967296) (hd : d < 4294967296) : b_xor (u32 c) (u32 d) h = .ok (u32 (Nat.xor c d)) h := by
  show RV.ok (.int .u32 (.ofNat (Nat.xor (c % 4294967296) (d % 4294967296) % 4294967296))) h = _
  rw [Nat.mod_eq_of_lt hc, Nat.mod_eq_of_lt hd, Nat.mod_eq_of_lt (xor_lt hc hd)]; rfl
theorem shr_ok {c : Nat} : bK .shr (u32 c) (.int .u64 (.ofNat 1)) h = .ok (u32 (c / 2)) h := rfl
theorem eq_ok {c d : Nat} : b_eq (u32 c) (u32 d) h = .ok (.bool (Nat.beq c d)) h := rfl
theorem add_ok {a : Nat} (ha : a + 1 ≤ 9223372036854775807) : b_add (pi a) (pi 1) h = .ok (pi (a + 1)) h := by
  show RV.ok (.int .i64 (@Bool.rec (fun _ => Int) (IntKind.wrap .i64 (.ofNat (a + 1))) (.ofNat (a + 1)) (Nat.ble (a + 1) 9223372036854775807))) h = _
  rw [Nat.ble_eq_true_of_le ha]; rfl
theorem crc1_cases {c : Nat} (hc : c < 4294967296) : (Nat.land c 1 = 1 ∧ crc1 c = Nat.xor (c / 2) 3988292384) ∨ (Nat.land c 1 = 0 ∧ crc1 c = c / 2) := by
  have e : Nat.shiftRight c 1 = c / 2 := rfl
  have l : Nat.land c 1 = c % 2 := Nat.and_one_is_mod c
  unfold crc1
  rw [e, l]
  rcases Nat.mod_two_eq_zero_or_one c with g | g
  · right; rw [g]; exact ⟨rfl, Nat.xor_zero _⟩
  · left; rw [g]; exact ⟨rfl, rfl⟩
theorem crc1_lt {c : Nat} (hc : c < 4294967296) : crc1 c < 4294967296 := by
  rcases crc1_cases hc with ⟨_, e⟩ | ⟨_, e⟩ <;> rw [e]
  · exact xor_lt (by omega) (by omega)
  · omega
theorem k5 (a b c d e : AV) : kC_5 cf iv rx (T4 a b c d e) h = tR (b_add d (pi 1) h) fun v h => .nm (T3 a b c v) h := rfl
theorem step4 {c k : Nat} (hc : c < 4294967296) (hk : k < 8) : kC_4 cf iv rx (T4 (u32 c) x y z (pi k)) h = .nm (T4 (u32 (crc1 c)) x y z (pi (k + 1))) h := by
  rw [kC_4_eq, lt_ok, tR_ok, ifR_b, Nat.ble_eq_true_of_le (by omega : k + 1 ≤ 8)]
  show tR (b_and (u32 c) (u32 1) h) (fun _ _ => _) = _
  rw [and_ok hc (by omega), tR_ok, shr_ok, tR_ok]
  show tR (b_eq (u32 (Nat.land c 1)) (u32 1) h) (fun _ _ => _) = _
  rw [eq_ok, tR_ok, ifR_b]
  rcases crc1_cases hc with ⟨e1, e2⟩ | ⟨e1, e2⟩
  · rw [e1, e2]
    show tR (b_xor (u32 (c / 2)) (u32 3988292384) h) (fun _ _ => _) = _
    rw [xor_ok (by omega) (by omega), tR_ok, add_ok (by omega), tR_ok]
  · rw [e1, e2]
    show tR (b_add (pi k) (pi 1) h) (fun _ _ => _) = _
    rw [add_ok (by omega), tR_ok]
theorem stop4 {c : Nat} : kC_4 cf iv rx (T4 (u32 c) x y z (pi 8)) h = .ex 2 (T4 (u32 c) x y z (pi 8)) h := rfl
def crcn : Nat → Nat → Nat
  | 0, c => c
  | j + 1, c => crcn j (crc1 c)
theorem crcn8 (c : Nat) : crcn 8 c = crc8 c := rfl
theorem crcn_lt : ∀ (j c : Nat), c < 4294967296 → crcn j c < 4294967296
  | 0, _, h => h
  | j + 1, _, h => crcn_lt j _ (crc1_lt h)
noncomputable abbrev L4 : AC := .loop (.shal kC_4 .skip)
theorem loop4 (m : Nat) : ∀ (j c : Nat), c < 4294967296 → j ≤ 8 → exec p (m + 3 + j) L4 (T4 (u32 c) x y z (pi (8 - j))) h = .ex 2 (T4 (u32 (crcn j c)) x y z (pi 8)) h
  | 0, c, hc, _ => rfl
  | j + 1, c, hc, hj => by
    rw [show m + 3 + (j + 1) = m + 2 + j + 1 + 1 by omega]
    show RS.bind (kC_4 (callF p (exec p (m + 2 + j))) (callI p (exec p (m + 2 + j))) (fun r h => exec p (m + 2 + j) .skip r h) (T4 (u32 c) x y z (pi (8 - (j + 1)))) h) (fun r h => exec p (m + 2 + j + 1) L4 r h) (fun _ _ _ => _) (fun _ _ _ => _) = _
    rw [step4 hc (by omega), show m + 2 + j + 1 = m + 3 + j by omega]
    show exec p (m + 3 + j) L4 (T4 (u32 (crc1 c)) x y z (pi (8 - (j + 1) + 1))) h = _
    rw [show 8 - (j + 1) + 1 = 8 - j by omega]
    exact loop4 m j _ (crc1_lt hc) (by omega)
noncomputable abbrev B3 : AC := .shal kC_3 (.block 2 L4)
noncomputable abbrev L2 : AC := .loop (.shal kC_2 (.seq (.block 1 B3) (.shal kC_5 .skip)))
def Rd (x : AV) (h : Hp) (i b : Nat) : Prop := ∃ q, ix 1 x (pi i) h = .ok q h ∧ ld q h = .ok (.int .u8 (.ofNat b)) h
theorem step3 (m : Nat) {c i b : Nat} (hc : c < 4294967296) (hr : Rd x h i b) (hb : b ≤ 255) : exec p (m + 14) B3 (T3 (u32 c) x y (pi i)) h = .nm (T4 (u32 (crc8 (Nat.xor c b))) x y (pi i) (pi 8)) h := by
  obtain ⟨q, e1, e2⟩ := hr
  show kC_3 (callF p (exec p (m + 13))) (callI p (exec p (m + 13))) (fun r h => exec p (m + 13) (.block 2 L4) r h) (T3 (u32 c) x y (pi i)) h = _
  rw [kC_3_eq, e1, tR_ok, e2, tR_ok]
  have e3 : cK (.toInt .u32) (.int .u8 (.ofNat b)) h = .ok (u32 b) h := by
    show RV.ok (.int .u32 (.ofNat (b % 4294967296))) h = _
    rw [Nat.mod_eq_of_lt (by omega)]; rfl
  rw [e3, tR_ok]
  rw [xor_ok hc (by omega), tR_ok]
  show RS.bind (exec p (m + 12) L4 (T4 (u32 (Nat.xor c b)) x y (pi i) (pi 0)) h) (fun _ _ => _) (fun _ _ _ => _) (fun _ _ _ => _) = _
  have := loop4 (p := p) (h := h) (x := x) (y := y) (z := pi i) (m + 1) 8 (Nat.xor c b) (xor_lt hc (by omega)) (Nat.le_refl _)
  rw [crcn8] at this
  have e4 : exec p (m + 12) L4 (T4 (u32 (Nat.xor c b)) x y (pi i) (pi 0)) h = .ex 2 (T4 (u32 (crc8 (Nat.xor c b))) x y (pi i) (pi 8)) h := this
  rw [e4]
  rfl
theorem loop2 (m n : Nat) (hn : n < 9223372036854775807) : ∀ (t : List Nat) (i c : Nat), c < 4294967296 → i + t.length = n → (∀ (j : Nat) (hj : j < t.length), Rd x h (i + j) t[j] ∧ t[j] ≤ 255) →
    exec p (m + 20 + t.length) L2 (T3 (u32 c) x (pi n) (pi i)) h = .ex 0 (T2 (u32 (crcL t c))) h
  | [], i, c, hc, hi, _ => by
    have hi : i = n := by simpa using hi
    subst hi
    have : kC_2 (callF p (exec p (m + 18))) (callI p (exec p (m + 18))) (fun r h => exec p (m + 18) (.seq (.block 1 B3) (.shal kC_5 .skip)) r h) (T3 (u32 c) x (pi i) (pi i)) h = .ex 0 (T2 (u32 c)) h := by
      rw [kC_2_eq, lt_ok, tR_ok, ifR_b]
      have : Nat.ble (i + 1) i = false := by rw [Bool.eq_false_iff]; intro e; have := Nat.le_of_ble_eq_true e; omega
      rw [this]
    show RS.bind (kC_2 (callF p (exec p (m + 18))) (callI p (exec p (m + 18))) (fun r h => exec p (m + 18) (.seq (.block 1 B3) (.shal kC_5 .skip)) r h) (T3 (u32 c) x (pi i) (pi i)) h) (fun _ _ => _) (fun _ _ _ => _) (fun _ _ _ => _) = _
    rw [this]; rfl
  | b :: t, i, c, hc, hi, hr => by
    have hl : i + 1 + t.length = n := by simp only [List.length_cons] at hi; omega
    obtain ⟨r0, hb⟩ := hr 0 (by simp)
    have r0 : Rd x h i b := r0
    have hb : b ≤ 255 := hb
    have ih := loop2 m n hn t (i + 1) (crc8 (Nat.xor c b)) (by rw [← crcn8]; exact crcn_lt 8 _ (xor_lt hc (by omega))) hl (fun j hj => by
      have := hr (j + 1) (by simpa using hj)
      rw [show i + 1 + j = i + (j + 1) by omega]; simpa using this)
    have : kC_2 (callF p (exec p (m + 19 + t.length))) (callI p (exec p (m + 19 + t.length))) (fun r h => exec p (m + 19 + t.length) (.seq (.block 1 B3) (.shal kC_5 .skip)) r h) (T3 (u32 c) x (pi n) (pi i)) h = .nm (T3 (u32 (crc8 (Nat.xor c b))) x (pi n) (pi (i + 1))) h := by
      rw [kC_2_eq, lt_ok, tR_ok, ifR_b, Nat.ble_eq_true_of_le (by omega : i + 1 ≤ n)]
      show exec p (m + 19 + t.length) (.seq (.block 1 B3) (.shal kC_5 .skip)) (T3 (u32 c) x (pi n) (pi i)) h = _
      rw [show m + 19 + t.length = (m + 3 + t.length) + 14 + 1 + 1 by omega]
      show RS.bind (RS.bind (exec p ((m + 3 + t.length) + 14) B3 (T3 (u32 c) x (pi n) (pi i)) h) (fun _ _ => _) (fun _ _ _ => _) (fun _ _ _ => _)) (fun _ _ => _) (fun _ _ _ => _) (fun _ _ _ => _) = _
      rw [step3 _ hc r0 hb]
      show kC_5 (callF p (exec p (m + 3 + t.length + 14))) (callI p (exec p (m + 3 + t.length + 14))) (fun r h => exec p (m + 3 + t.length + 14) .skip r h) (T4 (u32 (crc8 (Nat.xor c b))) x (pi n) (pi i) (pi 8)) h = _
      rw [k5, add_ok (by omega), tR_ok]
    rw [show m + 20 + (b :: t).length = m + 19 + t.length + 1 + 1 by simp only [List.length_cons]; omega]
    show RS.bind (kC_2 (callF p (exec p (m + 19 + t.length))) (callI p (exec p (m + 19 + t.length))) (fun r h => exec p (m + 19 + t.length) (.seq (.block 1 B3) (.shal kC_5 .skip)) r h) (T3 (u32 c) x (pi n) (pi i)) h) (fun r h => exec p (m + 19 + t.length + 1) L2 r h) (fun _ _ _ => _) (fun _ _ _ => _) = _
    rw [this, show m + 19 + t.length + 1 = m + 20 + t.length by omega]
    exact ih
theorem com_ok {c : Nat} (hc : c < 4294967296) : u_com (u32 c) h = .ok (u32 (Nat.xor 4294967295 c)) h := by
  show RV.ok (.int .u32 (IntKind.wrap .u32 (BitVec.ofInt 32 4294967295 ^^^ BitVec.ofInt 32 (.ofNat c)).toNat)) h = _
  have e : (BitVec.ofInt 32 4294967295 ^^^ BitVec.ofInt 32 (.ofNat c)).toNat = Nat.xor 4294967295 c := by
    rw [BitVec.toNat_xor]
    have e1 : (BitVec.ofInt 32 4294967295).toNat = 4294967295 := rfl
    have e2 : (BitVec.ofInt 32 (.ofNat c)).toNat = c := by
      rw [BitVec.toNat_ofInt]
      show ((Int.ofNat c) % ((2 ^ 32 : Nat) : Int)).toNat = c
      have : (Int.ofNat c) = (c : Int) := rfl
      rw [this]; omega
    rw [e1, e2]; rfl
  rw [e]
  have e2 : IntKind.wrap .u32 (Int.ofNat (Nat.xor 4294967295 c)) = Int.ofNat (Nat.xor 4294967295 c) := by
    rw [← wrapK_eq]
    show Int.ofNat (Nat.xor 4294967295 c % 4294967296) = _
    rw [Nat.mod_eq_of_lt (xor_lt (by omega) hc)]
  rw [show ((Nat.xor 4294967295 c : Nat) : Int) = Int.ofNat (Nat.xor 4294967295 c) from rfl, e2]; rfl
theorem crcL_lt : ∀ (t : List Nat) (c : Nat), c < 4294967296 → (∀ b ∈ t, b ≤ 255) → crcL t c < 4294967296
  | [], _, hc, _ => hc
  | b :: t, c, hc, hb => crcL_lt t _ (by
      have := hb b (by simp)
      rw [← crcn8]; exact crcn_lt 8 _ (xor_lt hc (by omega))) (fun a ha => hb a (by simp [ha]))
theorem run (s : List Nat) (hn : s.length < 9223372036854775807) (hl : len x h = .ok (nat64 s.length) h) (hr : ∀ (j : Nat) (hj : j < s.length), Rd x h j s[j] ∧ s[j] ≤ 255) :
    callR zC (exec p (s.length + 30) xC (rputs [x] 0 .nil) h) = .ok (u32 (crcN s)) h := by
  have hb : ∀ b ∈ s, b ≤ 255 := fun b hb => by
    obtain ⟨j, hj, rfl⟩ := List.mem_iff_getElem.1 hb
    exact (hr j hj).2
  have hc : crcL s 4294967295 < 4294967296 := crcL_lt s _ (by omega) hb
  have e2 := loop2 (p := p) (x := x) (h := h) 6 s.length hn s 0 4294967295 (by omega) (by omega) (fun j hj => by rw [Nat.zero_add]; exact hr j hj)
  have e1 : exec p (s.length + 30) xC (rputs [x] 0 .nil) h = .ret (T1 (u32 (crcN s))) h := by
    show RS.bind (tR (len x h) fun v3 h4 => exec p (s.length + 27) (.block 0 L2) (T3 (u32 4294967295) x v3 (pi 0)) h4) (fun r h => exec p (s.length + 28) (.shal kC_6 .skip) r h) (fun _ _ _ => _) (fun _ _ _ => _) = _
    rw [hl, tR_ok]
    show RS.bind (RS.bind (exec p (s.length + 26) L2 (T3 (u32 4294967295) x (pi s.length) (pi 0)) h) (fun _ _ => _) (fun _ _ _ => _) (fun _ _ _ => _)) (fun _ _ => _) (fun _ _ _ => _) (fun _ _ _ => _) = _
    rw [show s.length + 26 = 6 + 20 + s.length by omega, e2]
    show kC_6 (callF p (exec p (s.length + 27))) (callI p (exec p (s.length + 27))) (fun r h => exec p (s.length + 27) .skip r h) (T2 (u32 (crcL s 4294967295))) h = _
    rw [kC_6_eq, com_ok hc, tR_ok]; rfl
  rw [e1]; rfl
end

section
variable {h h' : Hp} {x v : AV} {P : Program} {G : Gl} [NB G] {names : List String} {φ : Phi} {w : World}
theorem pg0_ok (mixed : P.follows .mixedOrders = true) : Env P G names (.mk .nil []) :=
  ⟨mixed, fun t k f hm => (List.not_mem_nil hm).elim, fun f => by
    have : fgetT f F3.nil = .none := by
      show F1.get _ (F2.get _ (F3.get _ .nil)) = _
      rw [show F3.get (dig (Nat.div f 256)) .nil = .nil by cases dig (Nat.div f 256) <;> rfl, show F2.get (dig (Nat.mod (Nat.div f 16) 16)) .nil = .nil by cases dig (Nat.mod (Nat.div f 16) 16) <;> rfl]
      cases dig (Nat.mod f 16) <;> rfl
    show (match fgetT f F3.nil with | .none => True | .mk body res => _ | .prim k body res => _ | .mkj body res => _ | .ext k => _)
    rw [this]; trivial⟩
theorem prim_of_run (mixed : P.follows .mixedOrders = true) {k : PK} {f : Nat} {body : AC} {res : List Rs} (F : FnOK P G names f body res)
    (hr : ∀ (φ : Phi) (h : Hp) (w : World) (args : List AV), HR φ h w → (primRun k args h).Safe → args.length ≤ 256 ∧ ∃ m, callR res (exec (.mk .nil []) m body (rputs args 0 .nil) h) = primRun k args h) : PrimOK P G k f := by
  intro φ h w args vals hg H hv hs
  obtain ⟨hl, m, hm⟩ := hr φ h w args H hs
  have E : Env P G names (.mk .nil []) := pg0_ok mixed
  have C := code_ok E (drw_ok E) m
  have e2 : (@Bool.rec (fun _ => RT) (.err 207) (callR res (exec (.mk .nil []) m body (rputs args 0 .nil) h)) (Nat.ble args.length 256)) = primRun k args h := by
    rw [Nat.ble_eq_true_of_le hl]; exact hm
  have := (body_ok C F hg H hv (by rw [e2]; exact hs)).2
  rw [e2] at this
  exact this
theorem bytesIn_ok : ∀ {l : List AV} {k : List Nat → RV} {q : Nat}, bytesIn l k (.err q) = .ok v h' → ∃ s : List Nat, l = byteCells s ∧ (∀ b ∈ s, b ≤ 255) ∧ k s = .ok v h'
  | [], k, q, e => ⟨[], rfl, by simp, e⟩
  | a :: l, k, q, e => by
    obtain ⟨kd, n, rfl, e⟩ := onInt_ok e
    obtain ⟨g, e⟩ := if_ok e
    have gk : kd = .u8 := by cases kd <;> first | rfl | cases g
    subst gk
    cases n with
    | ofNat m =>
      obtain ⟨g, e⟩ := if_ok e
      obtain ⟨s, rfl, h1, h2⟩ := bytesIn_ok e
      exact ⟨m :: s, rfl, by
        intro b hb
        rcases List.mem_cons.1 hb with rfl | hb
        · exact Nat.le_of_ble_eq_true g
        · exact h1 b hb, h2⟩
    | negSucc m => cases e
theorem byteCells_get : ∀ (s : List Nat) (j : Nat) (hj : j < s.length) (hj2 : j < (byteCells s).length), (byteCells s)[j] = .int .u8 (.ofNat s[j])
  | _ :: _, 0, _, _ => rfl
  | _ :: s, j + 1, hj, hj2 => byteCells_get s j (by simpa using hj) (by have : j + 1 < (byteCells s).length + 1 := hj2; omega)
theorem byteCells_len : ∀ (s : List Nat), (byteCells s).length = s.length
  | [] => rfl
  | _ :: s => congrArg (· + 1) (byteCells_len s)
theorem elems_read (H : HR φ h w) {k : List AV → RV} {q : Nat} (e : elems 1 x h k (.err q) = .ok v h') : ∃ l : List AV, k l = .ok v h' ∧ len x h = .ok (nat64 l.length) h ∧ l.length < 9223372036854775807 ∧
    ∀ (j : Nat) (hj : j < l.length), ∃ a, ix 1 x (pi j) h = .ok a h ∧ ld a h = .ok l[j] h := by
  have go : ∀ (i : P4) (o n : Nat), (∀ j, ix 1 x (pi j) h = ixAt 1 i o n j h) → len x h = .ok (nat64 n) h → elemsAt 1 i o n h k (.err q) = .ok v h' → ∃ l : List AV, k l = .ok v h' ∧ len x h = .ok (nat64 l.length) h ∧ l.length < 9223372036854775807 ∧
      ∀ (j : Nat) (hj : j < l.length), ∃ a, ix 1 x (pi j) h = .ok a h ∧ ld a h = .ok l[j] h := by
    intro i o n hx hl e
    unfold elemsAt at e
    rcases nat_cases e with ⟨rfl, e⟩ | ⟨n, rfl, e⟩
    · exact ⟨[], e, hl, by simp, fun j hj => by simp at hj⟩
    · obtain ⟨el, m, ex, fl, cl, hi, e⟩ := onCells_ok e
      obtain ⟨hb, e⟩ := if_ok e
      have hb : o + (n + 1) * 1 ≤ m := Nat.le_of_ble_eq_true hb
      have hlen : (cgets (Nat.mul (Nat.succ n) 1) cl o).length = n + 1 := by rw [length_cgets]; exact Nat.mul_one _
      have hm : m ≤ 65536 := by
        obtain ⟨p, _, ho⟩ := H.obj i (by rw [hi]; exact ⟨by simp, by simp⟩)
        rw [hi] at ho
        obtain ⟨_, _, _, _, _, _, h5, _⟩ := ho
        exact Nat.le_trans h5 (croom_le cl)
      refine ⟨_, e, by rw [hlen]; exact hl, by rw [hlen]; omega, fun j hj => ?_⟩
      have hj' : j < n + 1 := by rw [hlen] at hj; exact hj
      refine ⟨.ptr i (o + j * 1), ?_, ?_⟩
      · rw [hx]
        show (@Bool.rec (fun _ => RV) _ _ (Nat.ble (j + 1) (n + 1)) : RV) = _
        rw [Nat.ble_eq_true_of_le (by omega)]; rfl
      · show Obj.onCells (hget i h) (fun _ n _ _ c => (@Bool.rec (fun _ => RV) (.err 13) (.ok (cget (o + j * 1) c) h) (inb (o + j * 1) n) : RV)) (.err 14) = _
        rw [hi]
        show (@Bool.rec (fun _ => RV) (.err 13) (.ok (cget (o + j * 1) cl) h) (Nat.ble (o + j * 1 + 1) m) : RV) = _
        rw [Nat.ble_eq_true_of_le (by omega)]
        show RV.ok (cget (o + j * 1) cl) h = _
        rw [getElem_cgets, Nat.mul_one]
  rcases onSl_ok e with ⟨i, o, l, c, rfl, e⟩ | ⟨i, o, l, c, rfl, e⟩ | ⟨rfl, e⟩
  · exact go i o l (fun _ => rfl) rfl e
  · obtain ⟨g, e⟩ := if_ok e
    exact go i o l (fun _ => rfl) rfl e
  · exact ⟨[], e, rfl, by simp, fun j hj => by simp at hj⟩
theorem crc_run (φ : Phi) (h : Hp) (w : World) (args : List AV) (H : HR φ h w) (hs : (primRun .crc args h).Safe) : args.length ≤ 256 ∧ ∃ m, callR zC (exec (.mk .nil []) m xC (rputs args 0 .nil) h) = primRun .crc args h := by
  match args with
  | [] => exact (RT.Safe.err hs).elim
  | _ :: _ :: _ => exact (RT.Safe.err hs).elim
  | [x] =>
    refine ⟨by simp, ?_⟩
    have hs : (p_crc x h).toT.Safe := hs
    obtain ⟨v, h', e⟩ := toT_safe hs
    show ∃ m, _ = (p_crc x h).toT
    rw [e]
    have e : elems 1 x h (fun l => bytesIn l (fun s => .ok (.int .u32 (.ofNat (crcN s))) h) (.err 140)) (.err 141) = .ok v h' := e
    obtain ⟨l, e, hl, hn, hr⟩ := elems_read H e
    obtain ⟨s, rfl, hb, e⟩ := bytesIn_ok e
    cases e
    rw [byteCells_len] at hl hn
    refine ⟨s.length + 30, run s hn hl fun j hj => ⟨?_, hb _ (List.getElem_mem hj)⟩⟩
    obtain ⟨a, h1, h2⟩ := hr j (by rw [byteCells_len]; exact hj)
    rw [byteCells_get s j hj] at h2
    exact ⟨a, h1, h2⟩
theorem crc_ok (mixed : P.follows .mixedOrders = true) {f : Nat} {fn : Func} (hf : P.funcs[f]? = some fn) (hc : cF P G names fn = .mk bC sC) : PrimOK P G .crc f :=
  prim_of_run mixed (body := xC) (res := zC) ⟨fn, bC, hf, hc, iC⟩ crc_run
end
end Go.Am.Crc
namespace Go.Am
section
variable {P : Program} {φ φ' : Phi} {h h' : Hp} {w w' : World} {v : AV} {r : A2} {a : Act} {cv : Value} {n : Nat} {G : Gl} [NB G] {names : List String}
def Off (φ : Phi) (h : Hp) (b : Nat) : Prop := ∀ i p, live (hget i h) → φ i = some p → p.blk ≠ b
theorem Off.new (H : HR φ h w) {b : Nat} (hb : w.heap.size ≤ b) : Off φ h b := fun i p _ hp => by have := H.bound i p hp; omega
theorem Off.step {b : Nat} (O : Off φ h b) (hb : b < w.heap.size) (S : Step φ h w φ' h' w') : Off φ' h' b ∧ w'.heap[b]? = w.heap[b]? := by
  refine ⟨fun i p hl hp => ?_, S.keeps.rest b hb O⟩
  rcases S.new i p hl hp with ⟨h1, h2⟩ | h1 | ⟨j, q, h1, h2, h3⟩
  · exact O i p h1 h2
  · omega
  · rw [← h3]; exact O j q h1 h2
theorem HR.off (H : HR φ h w) (hs : w.heap.size ≤ w'.heap.size) (hk : ∀ b, (∃ i p, live (hget i h) ∧ φ i = some p ∧ p.blk = b) → w'.heap[b]? = w.heap[b]?) : HR φ h w' where
  obj i hl := let ⟨p, h1, h2⟩ := H.obj i hl; ⟨p, h1, by rw [hk _ ⟨i, p, hl, h1, rfl⟩]; exact h2⟩
  inj := H.inj
  fresh := H.fresh
  bound i p hp := Nat.lt_of_lt_of_le (H.bound i p hp) hs
structure Rng (φ₀ : Phi) (h₀ : Hp) (w₀ : World) (l D : Nat) (rc : Loop) (φ : Phi) (h : Hp) (w : World) : Prop where
  hr : HR φ h w
  step : Step φ₀ h₀ w₀ φ h w
  l0 : w₀.heap.size ≤ l
  d0 : w₀.heap.size ≤ D
  ne : D ≠ l
  offl : Off φ h l
  offd : Off φ h D
  rcd : w.heap[l]? = some (.loop rc)
  dfr : w.heap[D]? = some (.deferred (some []))
variable {φ₀ : Phi} {h₀ : Hp} {w₀ : World} {l D : Nat} {rc : Loop}
theorem lt_of_get {b : Nat} {o : Go.Obj} (h : w.heap[b]? = some o) : b < w.heap.size := (Array.getElem?_eq_some_iff.1 h).1
theorem Rng.go (R : Rng φ₀ h₀ w₀ l D rc φ h w) (H : HR φ' h' w') (S : Step φ h w φ' h' w') : Rng φ₀ h₀ w₀ l D rc φ' h' w' := by
  obtain ⟨a1, a2⟩ := R.offl.step (lt_of_get R.rcd) S
  obtain ⟨b1, b2⟩ := R.offd.step (lt_of_get R.dfr) S
  exact ⟨H, R.step.trans S, R.l0, R.d0, R.ne, a1, b1, a2.trans R.rcd, b2.trans R.dfr⟩
theorem step_mod (S : Step φ₀ h₀ w₀ φ h w) (hs : w.heap.size ≤ w'.heap.size) (hk : ∀ b, b < w₀.heap.size → w'.heap[b]? = w.heap[b]?) (ht : w'.tape = w.tape) (ho : w'.os = w.os) (hu : w'.output = w.output) : Step φ₀ h₀ w₀ φ h w' :=
  ⟨S.le, ⟨Nat.le_trans S.keeps.size hs, fun b hb hn => (hk b hb).trans (S.keeps.rest b hb hn), ht.trans S.keeps.tape, ho.trans S.keeps.os, hu.trans S.keeps.output⟩, S.new⟩
theorem Rng.put (R : Rng φ₀ h₀ w₀ l D rc φ h w) (rc' : Loop) : Rng φ₀ h₀ w₀ l D rc' φ h (w.putObj l (.loop rc')) where
  hr := R.hr.off (by simp) fun b ⟨i, p, hl, hp, e⟩ => World.putObj_heap_other (by rw [← e]; exact R.offl i p hl hp)
  step := step_mod R.step (by simp) (fun b hb => World.putObj_heap_other (by have := R.l0; omega)) rfl rfl rfl
  l0 := R.l0
  d0 := R.d0
  ne := R.ne
  offl := R.offl
  offd := R.offd
  rcd := World.putObj_heap_same (lt_of_get R.rcd)
  dfr := (World.putObj_heap_other R.ne).trans R.dfr
theorem St.later (S : St n G φ r h a w) (hl : φ.le φ') (H : HR φ' h' w') : St n G φ' r h' a w' :=
  ⟨H, fun t ht => (S.regs t ht).mono hl, S.nodef, S.size, S.glob.mono hl⟩
theorem cOp_defer {o : Oper} {i : AI} (hop : cOp P G names o = some i) : ∀ c, o.op ≠ .defer c := by
  intro c e
  simp only [cOp, e] at hop
  cases hop
theorem leaf_elimT {f : AV → Hp → RT} {y : RT} : ∀ {x z : RT}, x.Leaf z → z = .ok v h → (f v h).Leaf y → (RT.elim f (fun n => .err n) (fun n g => .ch n g) x).Leaf y
  | _, _, .ok _ _, e, g => by cases e; exact g
  | _, _, .err _, e, _ => by cases e
  | _, _, .ch n k c _ hc hl, e, g => .ch n _ c _ hc (leaf_elimT hl e g)
theorem leaf_elimE {f : AV → Hp → RT} {q : Nat} : ∀ {x z : RT}, x.Leaf z → z = .err q → (RT.elim f (fun n => .err n) (fun n g => .ch n g) x).Leaf (.err q)
  | _, _, .ok _ _, e => by cases e
  | _, _, .err _, e => by cases e; exact .err _
  | _, _, .ch n k c _ hc hl, e => .ch n _ c _ hc (leaf_elimE hl e)
theorem safe_elimT {f : AV → Hp → RT} {x : RT} (hs : (RT.elim f (fun n => .err n) (fun n g => .ch n g) x).Safe) : x.Safe ∧ ∀ v h, x.Leaf (.ok v h) → (f v h).Safe :=
  ⟨fun _ hn => hs _ (leaf_elimE hn rfl), fun _ _ hl _ hn => hs _ (leaf_elimT hl rfl hn)⟩
theorem runP_cons {k : A2 → Hp → RT} {i : GI} {l : List GI} (he : (runP k (i :: l) r h).Safe) :
    ∃ d, (∃ y v1 h1, i = .o d (.op y) ∧ y.run r h = .ok v1 h1 ∧ runP k (i :: l) r h = runP k l (dset d v1 r) h1) ∨
      (∃ s x, i = .o d (.nxt s x) ∧ (nextT s (ev x r) h).Safe ∧ ∀ v1 h1, (nextT s (ev x r) h).Leaf (.ok v1 h1) → (runP k l (dset d v1 r) h1).Safe ∧ ∀ z, (runP k l (dset d v1 r) h1).Leaf z → (runP k (i :: l) r h).Leaf z) := by
  cases i with
  | o d i =>
    cases i with
    | op y =>
      have e : runP k (.o d (.op y) :: l) r h = (RV.rec (fun v h => runP k l (dset d v r) h) (fun n => .err n) (y.run r h) : RT) := rfl
      cases hy : y.run r h with
      | ok v1 h1 => rw [hy] at e; exact ⟨d, .inl ⟨y, v1, h1, rfl, hy, e⟩⟩
      | err q => rw [e, hy] at he; exact (RT.Safe.err he).elim
    | nxt s x =>
      have e : runP k (.o d (.nxt s x) :: l) r h = RT.elim (fun v h => runP k l (dset d v r) h) (fun n => .err n) (fun n f => .ch n f) (nextT s (ev x r) h) := rfl
      rw [e] at he
      obtain ⟨s1, s2⟩ := safe_elimT he
      refine ⟨d, .inr ⟨s, x, rfl, s1, fun v1 h1 hl => ⟨s2 v1 h1 hl, fun z hz => ?_⟩⟩⟩
      rw [e]
      exact leaf_elimT hl rfl hz
    | call f xs => exact (RT.Safe.err he).elim
    | calld x xs => exact (RT.Safe.err he).elim
    | inv k x xs => exact (RT.Safe.err he).elim
  | g a b w d i => exact (RT.Safe.err he).elim
theorem cGI_o {ops : Array Oper} {o : Oper} {d : Dst} {i : AI} (e : cGI P G n names ops o = .o d i) (hi : i ≠ .op (.bad 400)) : o.guard = none ∧ cDst G n o.dst = some d ∧ cOp P G names o = some i := by
  unfold cGI at e
  split at e
  · rename_i d' x hd hx
    split at e
    · rename_i hg
      cases e; exact ⟨hg, hd, hx⟩
    · split at e
      · split at e
        · cases e
        · cases e; exact absurd rfl hi
      · cases e; exact absurd rfl hi
  · cases e; exact absurd rfl hi
abbrev Sd (n : Nat) (G : Gl) (φ : Phi) (r : A2) (h : Hp) (a : Act) (w : World) : Prop := St n G φ r h { a with defers := [] } w
theorem Sd.opd (S : Sd n G φ r h a w) {q : Operand} {x : AO} (e : cO G q = some x) : VR φ (ev x r) (a.eval q) := by
  have := St.opd S e
  cases q <;> exact this
theorem Sd.put (S : Sd n G φ r h a w) {o : Option Tmp} {d : Dst} (hd : cDst G n o = some d) (hv : VR φ' v cv) (H : HR φ' h' w') (T : Step φ h w φ' h' w') : Sd n G φ' (dset d v r) h' (a.put o cv) w' := by
  have := St.put S hd hv H T
  cases o <;> exact this
def Same (os : List Oper) (a a1 : Act) : Prop := a1.defers = a.defers ∧ ∀ t, (∀ o ∈ os, o.dst ≠ some t) → a1.tmps.getD t undef = a.tmps.getD t undef
theorem put_other {d : Option Tmp} {t : Nat} (hd : d ≠ some t) (x : Value) : (a.put d x).tmps.getD t undef = a.tmps.getD t undef := by
  cases d with
  | none => rfl
  | some s =>
    have : s ≠ t := fun e => hd (by rw [e])
    simp [Act.put, Array.getD_eq_getD_getElem?, Array.getElem?_setIfInBounds_ne this]
theorem put_self' {t : Nat} (ht : t < a.tmps.size) (x : Value) : (a.put (some t) x).tmps.getD t undef = x := by
  simp [Act.put, Array.getD_eq_getD_getElem?, ht]
theorem runP_in {F : Fence} {m : Nat} (hF : ∀ f, F.fn f) {ops : Array Oper} {k : A2 → Hp → RT} (rest : List Nat) : ∀ (os pre : List Oper) (post : List Oper) (r : A2) (h : Hp) (φ : Phi) (a : Act) (w : World), ops.toList = pre ++ (os ++ post) → Sd n G φ r h a w →
    (runP k (os.map fun o => cGI P G n names ops o) r h).Safe →
    ∀ {Q : Exit → Act → World → Prop},
    (∀ r1 h1 φ1 a1 w1, (k r1 h1).Safe → (∀ z, (k r1 h1).Leaf z → (runP k (os.map fun o => cGI P G n names ops o) r h).Leaf z) → Sd n G φ1 r1 h1 a1 w1 → Step φ h w φ1 h1 w1 → Same os a a1 → wpOpsIn F m P ops Q rest a1 w1) →
    wpOpsIn F m P ops Q (List.range' pre.length os.length ++ rest) a w
  | [], pre, post, r, h, φ, a, w, e, S, he, Q, hQ => hQ r h φ a w he (fun _ hz => hz) S (.refl _ _ _) ⟨rfl, fun _ _ => rfl⟩
  | o :: os, pre, post, r, h, φ, a, w, e, S, he, Q, hQ => by
    have hoi : ops[pre.length]? = some o := by rw [← Array.getElem?_toList, e]; simp
    rw [List.length_cons, List.range'_succ]
    have hρ : ∀ q x, cO G q = some x → VR φ (ev x r) (a.eval q) := fun q x e => Sd.opd S e
    have next : ∀ (d : Dst) (v1 : AV) (h1 : Hp) (φ1 : Phi) (cv : Value) (w1 : World), cDst G n o.dst = some d → VR φ1 v1 cv → HR φ1 h1 w1 → Step φ h w φ1 h1 w1 → (runP k (os.map fun o => cGI P G n names ops o) (dset d v1 r) h1).Safe →
        (∀ z, (runP k (os.map fun o => cGI P G n names ops o) (dset d v1 r) h1).Leaf z → (runP k ((o :: os).map fun o => cGI P G n names ops o) r h).Leaf z) →
        wpOpsIn F m P ops Q (List.range' (pre.length + 1) os.length ++ rest) (a.put o.dst cv) w1 := by
      intro d v1 h1 φ1 cv w1 hd hv H1 T1 he1 hl1
      have := runP_in (k := k) hF rest os (pre ++ [o]) post (dset d v1 r) h1 φ1 (a.put o.dst cv) w1 (by rw [e]; simp) (Sd.put S hd hv H1 T1) he1 (Q := Q)
        (fun r2 h2 φ2 a2 w2 hk hl2 S2 T2 ht => hQ r2 h2 φ2 a2 w2 hk (fun z hz => hl1 z (hl2 z hz)) S2 (T1.trans T2) ⟨ht.1.trans (by cases o.dst <;> rfl), fun t hn => (ht.2 t fun o ho => hn o (by simp [ho])).trans (put_other (hn o (by simp)) cv)⟩)
      simpa using this
    show (match ops[pre.length]? with
      | none => _
      | some o => _)
    rw [hoi]
    obtain ⟨d, ⟨y, v1, h1, hi, hy, he1⟩ | ⟨s, x, hi, hsn, hl⟩⟩ := runP_cons he
    · obtain ⟨hg, hd, hop⟩ := cGI_o hi (fun e => by cases e; cases hy)
      show if Region.wanted o (yielded ops a.tmps) = true then _ else _
      rw [if_pos (by simp [Region.wanted, hg])]
      refine ⟨fun f _ => hF f, ?_⟩
      rw [Oper.semAt_eq _ _ _ (cOp_defer hop)]
      obtain ⟨nx, w1, φ1, e1, e2, e3, e4⟩ := good_op hρ (fun c => rfl) hop (show HR φ h w from S.hr) hy
      rw [e1]
      have he2 : (runP k (os.map fun o => cGI P G n names ops o) (dset d v1 r) h1).Safe := by rw [← he1]; exact he
      have hl2 : ∀ z, (runP k (os.map fun o => cGI P G n names ops o) (dset d v1 r) h1).Leaf z → (runP k ((o :: os).map fun o => cGI P G n names ops o) r h).Leaf z := fun z hz => by rw [← he1] at hz; exact hz
      rcases e2 with ⟨cv, rfl, hv⟩ | ⟨rfl, rfl⟩
      · exact next d v1 h1 φ1 cv w1 hd hv e3 e4 he2 hl2
      · exact next d .undef h1 φ1 undef w1 hd (.undef _) e3 e4 he2 hl2
    · obtain ⟨hg, hd, hop⟩ := cGI_o hi (fun e => by cases e)
      show if Region.wanted o (yielded ops a.tmps) = true then _ else _
      rw [if_pos (by simp [Region.wanted, hg])]
      refine ⟨fun f _ => hF f, ?_⟩
      rw [Oper.semAt_eq _ _ _ (cOp_defer hop)]
      obtain ⟨cv, w1, φ1, v2, h2, hlf, e1, hv, e3, e4⟩ := good_nxt hρ hop (show HR φ h w from S.hr) hsn
      rw [e1]
      obtain ⟨q1, q2⟩ := hl v2 h2 hlf
      exact next d _ _ φ1 cv w1 hd hv e3 e4 q1 q2
theorem region_in {F : Fence} {m id : Nat} (hF : ∀ f, F.fn f) {ops : Array Oper} {l : List GI} (hl : l = ops.toList.map fun o => cGI P G n names ops o) {k : A2 → Hp → RT} (S : Sd n G φ r h a w) (he : (runP k l r h).Safe) {X : RT} (hX : ∀ z, (runP k l r h).Leaf z → X.Leaf z) {Q : Exit → Act → World → Prop}
    (hQ : ∀ r1 h1 φ1 a1 w1, (k r1 h1).Safe → (∀ z, (k r1 h1).Leaf z → X.Leaf z) → Sd n G φ1 r1 h1 a1 w1 → Step φ h w φ1 h1 w1 → Same ops.toList a a1 → Q .normal a1 w1) : (Code.region id ops false).wpIn F m P Q a w := by
  subst hl
  have := runP_in (F := F) (m := m) hF (ops := ops) (Q := Q) [] ops.toList [] [] r h φ a w (by simp) S he (fun r1 h1 φ1 a1 w1 b1 b2 b3 b4 b5 => hQ r1 h1 φ1 a1 w1 b1 (fun z hz => hX z (b2 z hz)) b3 b4 b5)
  refine wpIn_region ?_
  rw [List.range_eq_range', ← Array.length_toList]
  simpa using this
structure CollCode (P : Program) (G : Gl) (names : List String) (f g : Nat) (l0 l1 k0 kn k2 k3 ra rb l4 : List GI) where
  fn : Func
  gn : Func
  i0 : Nat
  i1 : Nat
  i2 : Nat
  i3 : Nat
  i4 : Nat
  j0 : Nat
  j1 : Nat
  j2 : Nat
  j3 : Nat
  o0 : Array Oper
  o1 : Array Oper
  oa : Array Oper
  ob : Array Oper
  o4 : Array Oper
  p0 : Array Oper
  p1 : Array Oper
  p2 : Array Oper
  p3 : Array Oper
  om : Oper
  q3 : List Oper
  oc : Oper
  on : Oper
  cl : Call
  ty : TypeId
  hf : P.funcs[f]? = some fn
  fb : fn.body = some (.seq (.region i0 o0 false) (.seq (.seq (.region i1 o1 false) (.block 0 (.rangeFunc (.tmp 6) #[7] (.region i2 oa false) (.block 1 (.region i3 ob false))))) (.seq (.region i4 o4 false) .ret)))
  fnt : fn.ntmps = 13
  fr : fn.results.toList.mapM (cRs P 13) = some [.t .h0 .h4]
  hg : P.funcs[g]? = some gn
  gname : gn.name ≠ "runtime.NumGoroutine"
  gb : gn.body = some (.seq (.region j0 p0 false) (.block 0 (.loop (.seq (.region j1 p1 false) (.seq (.cond (.tmp 7) .skip (.exit 0)) (.block 1 (.seq (.region j2 p2 false) (.seq (.region j3 p3 false) (.cond (.tmp 13) .ret .skip)))))))))
  gnt : gn.ntmps = 14
  gr : gn.results.toList.mapM (cRs P 14) = some []
  e0 : l0 = o0.toList.map fun o => cGI P G 13 names o0 o
  e1 : l1 = o1.toList.map fun o => cGI P G 13 names o1 o
  ea : ra = oa.toList.map fun o => cGI P G 13 names oa o
  eb : rb = ob.toList.map fun o => cGI P G 13 names ob o
  e4 : l4 = o4.toList.map fun o => cGI P G 13 names o4 o
  a0 : k0 = p0.toList.map fun o => cGI P G 14 names p0 o
  a1 : kn = p1.toList.map fun o => cGI P G 14 names p1 o
  a2 : k2 = p2.toList.map fun o => cGI P G 14 names p2 o
  a3 : k3 = q3.map fun o => cGI P G 14 names p3 o
  s3 : p3.toList = om :: (q3 ++ [oc, on])
  mo : om.op = .move (.tmp 0) ∧ om.dst = some 10 ∧ om.guard = none
  co : oc.op = .call cl ∧ cl.callee = .value (.tmp 10) ∧ cl.args = #[.tmp 11] ∧ oc.dst = some 12 ∧ oc.guard = none
  no : on.op = .unOp .not ty (.tmp 12) ∧ on.dst = some 13 ∧ on.guard = none
  b0 : ∀ o ∈ p0.toList ++ (p1.toList ++ p2.toList), o.dst ≠ some 0
  b3 : ∀ o ∈ q3, o.dst ≠ some 10 ∧ o.dst ≠ some 0
end
end Go.Am
namespace Go.Am
section
variable {P : Program} {φ φ' : Phi} {h h' : Hp} {w w' : World} {v : AV} {r : A2} {a : Act} {cv : Value} {n : Nat} {G : Gl} [NB G] {names : List String}
theorem onFnT_ok {x : AV} {k : Nat → List AV → RT} {q : Nat} (e : (onFnT x k (.err q)).Safe) : ∃ f cs, x = .fn f cs ∧ onFnT x k (.err q) = k f cs := by
  cases x <;> first | exact ⟨_, _, rfl, rfl⟩ | exact (RT.Safe.err e).elim
theorem onBoolT_ok {x : AV} {k : Bool → RT} {q : Nat} (e : (onBoolT x k (.err q)).Safe) : ∃ b, x = .bool b ∧ onBoolT x k (.err q) = k b := by
  cases x <;> first | exact ⟨_, rfl, rfl⟩ | exact (RT.Safe.err e).elim
theorem alloc_old (o : Go.Obj) {b : Nat} (hb : b < w.heap.size) : (w.alloc o).heap[b]? = w.heap[b]? := by
  show (w.heap.push o)[b]? = _
  rw [Array.getElem?_push_lt hb, Array.getElem?_eq_getElem hb]
theorem reg_fn (S : Sd n G φ r h a w) {t : Nat} (ht : t < 256) {f : Nat} {c : AV} (e : rget (hi t) (lo t) r = .fn f [c]) : ∃ cv, a.tmps.getD t undef = .func (.func f) #[] #[cv] ∧ VR φ c cv := by
  have := S.reg t ht
  rw [e] at this
  have : VR φ (.fn f [c]) (a.tmps.getD t undef) := this
  generalize a.tmps.getD t undef = z at this
  cases this with
  | fn _ _ vs hvs =>
    cases hvs with
    | cons _ cv _ _ h1 h2 => cases h2; exact ⟨cv, rfl, h1⟩
theorem reg_bool (S : Sd n G φ r h a w) {t : Nat} (ht : t < 256) {b : Bool} (e : rget (hi t) (lo t) r = .bool b) : a.tmps.getD t undef = .bool b := by
  have := S.reg t ht
  rw [e] at this
  exact this.bool_inv
variable {f g : Nat} {l0 l1 k0 kn k2 k3 ra rb l4 : List GI}
theorem range_p3 (q : Nat) : List.range (q + 3) = 0 :: (List.range' 1 q ++ [q + 1, q + 2]) := by
  rw [List.range_eq_range', show q + 3 = (q + 2) + 1 by omega, List.range'_succ]
  congr 1
  rw [show q + 2 = q + 2 by rfl, ← List.range'_append_1]
  simp [List.range'_succ]
  omega
set_option maxHeartbeats 2000000 in
theorem coll_ok (C : CollCode P G names f g l0 l1 k0 kn k2 k3 ra rb l4) : PrimOK P G (.coll g l0 l1 k0 kn k2 k3 ra rb l4) f := by
  intro φ h w args vals hg H hv hs
  obtain ⟨X, hX⟩ : ∃ X, primRun (.coll g l0 l1 k0 kn k2 k3 ra rb l4) args h = X := ⟨_, rfl⟩
  rw [hX] at hs ⊢
  obtain ⟨s, x, rfl, eX⟩ : ∃ s x, args = [s, x] ∧ p_coll g l0 l1 k0 kn k2 k3 ra rb l4 s x h = X := by
    match args with
    | [] => have : X = .err 154 := hX.symm; rw [this] at hs; exact (RT.Safe.err hs).elim
    | [_] => have : X = .err 154 := hX.symm; rw [this] at hs; exact (RT.Safe.err hs).elim
    | [s, x] => exact ⟨s, x, rfl, hX⟩
    | _ :: _ :: _ :: _ => have : X = .err 154 := hX.symm; rw [this] at hs; exact (RT.Safe.err hs).elim
  have e : (p_coll g l0 l1 k0 kn k2 k3 ra rb l4 s x h).Safe := by rw [eX]; exact hs
  have L : ∀ z, (p_coll g l0 l1 k0 kn k2 k3 ra rb l4 s x h).Leaf z → X.Leaf z := fun z hz => by rw [eX] at hz; exact hz
  have hF : ∀ f, Fence.wide.fn f := fun _ => trivial
  have S0 := St.start H hv hg (by simp : [s, x].length ≤ 256) 13
  refine (callsIn_wide (n := 2)).1 (callsIn_of_wp_marks C.hf C.fb trivial ?_)
  rw [C.fnt]
  refine wpIn_seq (region_in hF C.e0 S0 e L ?_)
  intro r1 h1 φ1 a1 w1 e1 L1 S1 T1 K1
  refine wpIn_seq (wpIn_seq (region_in hF C.e1 S1 e1 L1 ?_))
  intro r2 h2 φ2 a2 w2 e2 L2 S2 T2 K2
  have T := T1.trans T2
  have hd : a2.defers = [] := K2.1.trans K1.1
  obtain ⟨g', cs, hx, ex⟩ := onFnT_ok e2
  have ex : p_seq g k0 kn k2 k3 ra rb l4 r2 h2 = _ := ex
  rw [ex] at e2 L2
  obtain ⟨hgg, ey⟩ : g = g' ∧ ∃ c, cs = [c] ∧ (p_iter k0 kn k2 k3 ra rb l4 r2 c h2).Safe ∧ ∀ z, (p_iter k0 kn k2 k3 ra rb l4 r2 c h2).Leaf z → X.Leaf z := by
    cases hb : Nat.beq g g' with
    | false => rw [hb] at e2; exact (RT.Safe.err e2).elim
    | true =>
      rw [hb] at e2 L2
      refine ⟨Nat.eq_of_beq_eq_true hb, ?_⟩
      match cs with
      | [] => exact (RT.Safe.err e2).elim
      | [c] => exact ⟨c, rfl, e2, L2⟩
      | _ :: _ :: _ => exact (RT.Safe.err e2).elim
  subst hgg
  obtain ⟨c, rfl, ez, Lz⟩ := ey
  clear e2 L2 ex
  obtain ⟨cv, h6, hc⟩ := reg_fn S2 (t := 6) (by omega) hx
  refine wpIn_block (wpIn_rangeFunc fun fn' _ => ?_)
  obtain ⟨D, hD⟩ : ∃ D, D = w2.heap.size := ⟨_, rfl⟩
  obtain ⟨l, hl⟩ : ∃ l, l = w2.heap.size + 1 := ⟨_, rfl⟩
  obtain ⟨rc, hrc⟩ : ∃ rc : LoopState → Loop, rc = fun st => { state := st, pending := none, fn := fn', tmps := a2.tmps, params := #[7], assign := .region C.i2 C.oa false, body := .block 1 (.region C.i3 C.ob false), defers := D } := ⟨_, rfl⟩
  obtain ⟨W0, hW0⟩ : ∃ W0, W0 = (w2.alloc (.deferred (some []))).alloc (.loop (rc .ready)) := ⟨_, rfl⟩
  have hsz : W0.heap.size = w2.heap.size + 2 := by rw [hW0]; simp
  have hold : ∀ b, b < w2.heap.size → W0.heap[b]? = w2.heap[b]? := fun b hb => by
    rw [hW0, alloc_old _ (by simp; omega), alloc_old _ hb]
  have H2 : HR φ2 h2 w2 := S2.hr
  have R0 : Rng φ h w l D (rc .ready) φ2 h2 W0 := {
    hr := H2.ext (by omega) hold
    step := step_mod T (by omega) (fun b hb => hold b (Nat.lt_of_lt_of_le hb T.keeps.size)) (by rw [hW0]; rfl) (by rw [hW0]; rfl) (by rw [hW0]; rfl)
    l0 := by have := T.keeps.size; omega
    d0 := by have := T.keeps.size; omega
    ne := by omega
    offl := Off.new H2 (by omega)
    offd := Off.new H2 (by omega)
    rcd := by
      rw [hW0, hl]
      have := World.alloc_heap_new (w2.alloc (.deferred (some []))) (.loop (rc .ready))
      simpa using this
    dfr := by
      rw [hW0, hD, alloc_old _ (by simp)]
      exact World.alloc_heap_new w2 _ }
  -- what comes behind the range
  have fin : ∀ (φ3 : Phi) (h3 : Hp) (w3 : World), Rng φ h w l D (rc .ready) φ3 h3 w3 → φ2.le φ3 → (p_fin l4 r2 h3).Safe → (∀ z, (p_fin l4 r2 h3).Leaf z → X.Leaf z) → ∃ w4, (Instr.endLoop l).run P w3 = .ok none w4 ∧
      (Code.seq (.region C.i4 C.o4 false) .ret).wpIn Fence.wide 2 P (bodyPostM Fence.wide 2 P C.fn (CallPost φ h w X)) { a2 with defers := { target := .collected D, args := #[] } :: a2.defers } w4 := by
    intro φ3 h3 w3 R le e L
    refine ⟨w3.putObj l (.loop { rc .ready with state := .exhausted }), by
      have := run_endLoop (P := P) R.rcd (by rw [hrc]; simp)
      rw [this, hrc], ?_⟩
    have R4 := R.put { rc .ready with state := .exhausted }
    have S4 : Sd 13 G φ3 r2 h3 { a2 with defers := { target := .collected D, args := #[] } :: a2.defers } (w3.putObj l (.loop { rc .ready with state := .exhausted })) := St.later S2 le R4.hr
    refine wpIn_seq (region_in hF C.e4 S4 e L ?_)
    intro r5 h5 φ5 a5 w5 e L S5 T5 K5
    have R5 := R4.go S5.hr T5
    refine wpIn_ret ?_
    show LeavesInM Fence.wide 2 P C.fn a5.tmps _ a5.defers .returning w5
    rw [K5.1]
    refine ⟨by simp, .inl ⟨D, _, rfl, run_takeDeferred R5.dfr, ?_⟩⟩
    rw [hd]
    have H6 : HR φ5 h5 (w5.putObj D (.deferred none)) := R5.hr.off (by simp) fun b ⟨i, p, hl, hp, e⟩ => World.putObj_heap_other (by rw [← e]; exact R5.offd i p hl hp)
    have S6 := St.later S5 (Phi.le_refl _) H6
    obtain ⟨_, cv5, hres, hv5⟩ := results_ok (fn := C.fn) (v := rget .h0 .h4 r5) (h' := h5) S6 C.fr rfl
    exact ⟨cv5, hres, rget .h0 .h4 r5, h5, cv5, φ5, L _ (.ok _ _), rfl, hv5, H6, step_mod R5.step (by simp) (fun b hb => World.putObj_heap_other (by have := R5.d0; omega)) rfl rfl rfl⟩
  have eg : ∀ args w, (callFunc g args).run P w = .ok (.enter g args) w := fun args w => run_callFunc C.hg C.gname C.gb
  refine ⟨l, [{ target := .collected D, args := #[] }], W0, { target := .fn (.func g) #[cv], args := #[.func (.yield l) #[] #[]] }, W0, g, #[.func (.yield l) #[] #[], cv], W0, ?_, ?_, fun _ _ => trivial, ?_, fun _ => by omega, ?_⟩
  · rw [hW0, hrc, hl, hD]
    exact run_enterLoop_outer _ _ _ _ _
  · have h6s : a2.tmps[6]?.getD undef = .func (.func g) #[] #[cv] := by rw [← Array.getD_eq_getD_getElem?]; exact h6
    simp [resolve, go_sem, h6s]
  · simp [invoke, go_sem, eg]
  refine callsIn_of_wp C.hg C.gb trivial ?_
  rw [C.gnt]
  have Sg := St.start (vals := [.func (.yield l) #[] #[], cv]) R0.hr (.cons _ _ _ _ (.undef _) (.cons _ _ _ _ hc .nil)) S2.glob (by simp : [AV.undef, c].length ≤ 256) 14
  refine wpIn_seq (region_in hF C.a0 Sg ez Lz ?_)
  intro q1 h3 φ3 b1 w3 e3 L3 Sq1 T3 K3
  have y1 : b1.tmps.getD 0 undef = .func (.yield l) #[] #[] := K3.2 0 fun o ho => C.b0 o (by simp [ho])
  refine wpIn_block (wpIn_loop_rounds 13 ?_)
  rw [roundsIn_succ]
  have over : ∀ (q : A2) (h3 : Hp) (φ3 : Phi) (b : Act) (w3 : World), Sd 14 G φ3 q h3 b w3 → b.defers = [] → Rng φ h w l D (rc .ready) φ3 h3 w3 → φ2.le φ3 → (p_fin l4 r2 h3).Safe → (∀ z, (p_fin l4 r2 h3).Leaf z → X.Leaf z) →
      b.defers = [] ∧ ∃ x, (results C.gn b.tmps).run P w3 = .ok x w3 ∧ ∃ w4, (Instr.endLoop l).run P w3 = .ok none w4 ∧
      (Code.seq (.region C.i4 C.o4 false) .ret).wpIn Fence.wide 2 P (bodyPostM Fence.wide 2 P C.fn (CallPost φ h w X)) { a2 with defers := { target := .collected D, args := #[] } :: a2.defers } w4 := by
    intro q h3 φ3 b w3 S hb R le e L
    obtain ⟨_, x, hres, _⟩ := results_ok (fn := C.gn) (v := unitV) (h' := h3) S C.gr rfl
    exact ⟨hb, x, hres, fin φ3 h3 w3 R le e L⟩
  -- the rounds
  refine wpIn_seq (region_in hF C.a1 Sq1 e3 L3 ?_)
  intro q2 h4 φ4 b2 w4 e4 L4 Sq2 T4 K4
  have y2 : b2.tmps.getD 0 undef = .func (.yield l) #[] #[] := (K4.2 0 fun o ho => C.b0 o (by simp [ho])).trans y1
  have R1 := R0.go Sq1.hr T3
  have R2 := R1.go Sq2.hr T4
  have le4 : φ2.le φ4 := Phi.le_trans T3.le T4.le
  have d2 : b2.defers = [] := K4.1.trans K3.1
  clear e3 L3 K3 K4 y1 Sq1 T3 T4 R1
  generalize (12 : Nat) = fuel at e4 L4 ⊢
  induction fuel generalizing q2 h4 φ4 b2 w4 with
  | zero => exact (RT.Safe.err e4).elim
  | succ fuel ih =>
  obtain ⟨t, ht, e5⟩ := onBoolT_ok (show (onBoolT (rget .h0 .h7 q2) (fun t => (@Bool.rec (fun _ => RT) (p_fin l4 r2 h4) (p_round (p_loop kn k2 k3 ra rb l4 r2 fuel) kn k2 k3 ra rb r2 q2 h4) t : RT)) (.err 156)).Safe from e4)
  have e5 : p_loop kn k2 k3 ra rb l4 r2 (fuel + 1) q2 h4 = _ := e5
  rw [e5] at e4 L4
  have h7 : b2.eval (.tmp 7) = .bool t := reg_bool Sq2 (t := 7) (by omega) ht
  cases t with
  | false =>
    obtain ⟨c1, x, c2, w5, c3, c4⟩ := over q2 h4 φ4 b2 w4 Sq2 d2 R2 le4 e4 L4
    exact wpIn_seq (wpIn_cond_false h7 (wpIn_exit ⟨c1, x, c2, none, w5, c3, c4⟩))
  | true =>
    refine wpIn_seq (wpIn_cond_true h7 (wpIn_skip ?_))
    refine wpIn_block (wpIn_seq (region_in hF C.a2 Sq2 e4 L4 ?_))
    intro q3 h5 φ5 b3 w5 e6 L6 Sq3 T5 K5
    have y3 : b3.eval (.tmp 0) = .func (.yield l) #[] #[] := (K5.2 0 fun o ho => C.b0 o (by simp [ho])).trans y2
    refine wpIn_seq (wpIn_region ?_)
    have hsz3 : C.p3.size = C.q3.length + 3 := by rw [← Array.length_toList, C.s3]; simp
    rw [hsz3, range_p3]
    show (match C.p3[0]? with
      | none => _
      | some o => _)
    rw [show C.p3[0]? = some C.om by rw [← Array.getElem?_toList, C.s3]; rfl]
    show if Region.wanted C.om (yielded C.p3 b3.tmps) = true then _ else _
    rw [if_pos (by simp [Region.wanted, C.mo.2.2])]
    refine ⟨fun f _ => trivial, ?_⟩
    rw [Oper.semAt_eq _ _ _ (fun c e => by rw [C.mo.1] at e; cases e)]
    have hm : (execOp b3.eval C.om).run P w5 = .ok (.value (b3.eval (.tmp 0))) w5 := by simp [execOp, C.mo.1, go_sem]
    rw [hm]
    show wpOpsIn _ _ _ _ _ _ (b3.put C.om.dst (b3.eval (.tmp 0))) w5
    have Sq4 : Sd 14 G φ5 (rset .h0 .ha .undef q3) h5 (b3.put C.om.dst (b3.eval (.tmp 0))) w5 := Sd.put Sq3 (d := .t .h0 .ha) (by rw [C.mo.2.1]; exact cDst_at (by omega) (by omega)) (.undef _) Sq3.hr (.refl _ _ _)
    have le5 : φ2.le φ5 := Phi.le_trans le4 T5.le
    have R3 := R2.go Sq3.hr T5
    have s0 : (b3.put C.om.dst (b3.eval (.tmp 0))).tmps.getD 0 undef = .func (.yield l) #[] #[] := by rw [put_other (by rw [C.mo.2.1]; simp)]; exact y3
    refine runP_in hF [C.q3.length + 1, C.q3.length + 2] C.q3 [C.om] [C.oc, C.on] (rset .h0 .ha .undef q3) h5 φ5 (b3.put C.om.dst (b3.eval (.tmp 0))) w5 C.s3 Sq4 (by rw [← C.a3]; exact e6) ?_
    intro q5 h6 φ6 b5 w6 e7 L7 Sq5 T6 K6
    rw [← C.a3] at L7
    have L7 := fun z hz => L6 z (L7 z hz)
    have y5 : b5.tmps.getD 10 undef = .func (.yield l) #[] #[] := by
      rw [K6.2 10 (fun o ho => (C.b3 o ho).1), C.mo.2.1, put_self' (a := b3) (Nat.lt_of_lt_of_le (by omega) Sq3.size), y3]
    have y50 : b5.tmps.getD 0 undef = .func (.yield l) #[] #[] := (K6.2 0 (fun o ho => (C.b3 o ho).2)).trans s0
    have le6 : φ2.le φ6 := Phi.le_trans le5 T6.le
    have R4 := R3.go Sq5.hr T6
    have d5 : b5.defers = [] := K6.1.trans ((show (b3.put C.om.dst (b3.eval (.tmp 0))).defers = b3.defers by cases C.om.dst <;> rfl).trans (K5.1.trans d2))
    show (match C.p3[C.q3.length + 1]? with
      | none => _
      | some o => _)
    rw [show C.p3[C.q3.length + 1]? = some C.oc by rw [← Array.getElem?_toList, C.s3]; simp]
    show if Region.wanted C.oc (yielded C.p3 b5.tmps) = true then _ else _
    rw [if_pos (by simp [Region.wanted, C.co.2.2.2.2])]
    refine ⟨fun f _ => trivial, ?_⟩
    rw [Oper.semAt_eq _ _ _ (fun c e => by rw [C.co.1] at e; cases e)]
    have hcall : (execOp b5.eval C.oc).run P w6 = .ok (.round l fn' (a2.tmps.setIfInBounds 7 (b5.eval (.tmp 11))) (.region C.i2 C.oa false) (.block 1 (.region C.i3 C.ob false))) w6 := by
      have y5s : b5.tmps[10]?.getD undef = .func (.yield l) #[] #[] := by rw [← Array.getD_eq_getD_getElem?]; exact y5
      have hy := run_yield (P := P) (args := #[b5.eval (.tmp 11)]) R4.rcd (by rw [hrc]; rfl)
      have : (execOp b5.eval C.oc).run P w6 = (Instr.yield l #[b5.eval (.tmp 11)]).run P w6 := by
        simp [execOp, C.co.1, resolve, C.co.2.1, C.co.2.2.1, invoke, go_sem, y5s]
      rw [this]
      simpa [hrc] using hy
    rw [hcall]
    refine ⟨fun _ => by omega, roundIn_of_wpIn trivial ?_⟩
    have Sr : Sd 13 G φ6 (rset .h0 .h7 (rget .h0 .hb q5) r2) h6 { tmps := a2.tmps.setIfInBounds 7 (b5.eval (.tmp 11)), defers := [] } w6 :=
      St.put (St.later S2 le6 Sq5.hr) (o := some 7) (d := .t .h0 .h7) (cDst_at (by omega) (by omega)) (Sd.opd (q := .tmp 11) (x := .t .h0 .hb) Sq5 (cO_at (by omega))) Sq5.hr (.refl _ _ _)
    refine region_in (fun _ => trivial) C.ea Sr e7 L7 ?_
    intro r6 h7' φ7 a6 w7 e8 L8 Sr6 T7 K7
    have R5 := R4.go Sr6.hr T7
    refine ⟨_, run_beginRound R5.rcd (by rw [hrc]), ?_⟩
    have R6 := R5.put { rc .ready with state := .busy }
    refine wpIn_block (region_in (fun _ => trivial) C.eb (St.later Sr6 (Phi.le_refl _) R6.hr) e8 L8 ?_)
    intro _ h8 φ8 a7 w8 e9 L9 Sr7 T8 K8
    have R7 := R6.go Sr7.hr T8
    refine ⟨_, _, run_endRound none R7.rcd, ?_⟩
    have R8 : Rng φ h w l D (rc .ready) φ8 h8 (w8.putObj l (.loop { { rc .ready with state := .busy } with state := if (none : Option Code).isNone then .ready else .done, pending := none })) := by
      have := R7.put (rc .ready)
      rw [hrc] at this ⊢
      exact this
    obtain ⟨w9, hw9⟩ : ∃ w9, w9 = w8.putObj l (.loop { { rc .ready with state := .busy } with state := if (none : Option Code).isNone then .ready else .done, pending := none }) := ⟨_, rfl⟩
    rw [← hw9] at R8 ⊢
    show wpOpsIn _ _ _ _ _ [C.q3.length + 2] (b5.put C.oc.dst (.bool true)) w9
    have le8 : φ6.le φ8 := Phi.le_trans T7.le T8.le
    have Sq6 : Sd 14 G φ8 (rset .h0 .hc .undef q5) h8 (b5.put C.oc.dst (.bool true)) w9 := Sd.put (St.later Sq5 le8 R8.hr) (d := .t .h0 .hc) (by rw [C.co.2.2.2.1]; exact cDst_at (by omega) (by omega)) (.undef _) R8.hr (.refl _ _ _)
    have y12 : (b5.put C.oc.dst (.bool true)).tmps.getD 12 undef = .bool true := by
      rw [C.co.2.2.2.1, put_self' (a := b5) (Nat.lt_of_lt_of_le (by omega) Sq5.size)]
    show (match C.p3[C.q3.length + 2]? with
      | none => _
      | some o => _)
    rw [show C.p3[C.q3.length + 2]? = some C.on by rw [← Array.getElem?_toList, C.s3]; simp]
    show if Region.wanted C.on (yielded C.p3 (b5.put C.oc.dst (.bool true)).tmps) = true then _ else _
    rw [if_pos (by simp [Region.wanted, C.no.2.2])]
    refine ⟨fun f _ => trivial, ?_⟩
    rw [Oper.semAt_eq _ _ _ (fun c e => by rw [C.no.1] at e; cases e)]
    have hnot : (execOp (b5.put C.oc.dst (.bool true)).eval C.on).run P w9 = .ok (.value (.bool false)) w9 := by
      have y12s : (b5.put C.oc.dst (.bool true)).tmps[12]?.getD undef = .bool true := by rw [← Array.getD_eq_getD_getElem?]; exact y12
      generalize b5.put C.oc.dst (.bool true) = b at y12s ⊢
      simp [execOp, C.no.1, go_sem, y12s, Op.unary]
    rw [hnot]
    obtain ⟨b6, hb6⟩ : ∃ b6, b6 = (b5.put C.oc.dst (.bool true)).put C.on.dst (.bool false) := ⟨_, rfl⟩
    have Sq7 : Sd 14 G φ8 (rset .h0 .hd .undef (rset .h0 .hc .undef q5)) h8 b6 w9 := by
      rw [hb6]; exact Sd.put Sq6 (d := .t .h0 .hd) (by rw [C.no.2.1]; exact cDst_at (by omega) (by omega)) (.undef _) Sq6.hr (.refl _ _ _)
    have d6 : b6.defers = [] := by
      rw [hb6]
      have : ∀ (b : Act) (d : Option Tmp) (x : Value), (b.put d x).defers = b.defers := fun b d x => by cases d <;> rfl
      rw [this, this, d5]
    have y13 : b6.eval (.tmp 13) = .bool false := by
      rw [hb6, C.no.2.1]
      exact put_self' (a := b5.put C.oc.dst (.bool true)) (Nat.lt_of_lt_of_le (by omega) Sq6.size) _
    have y60 : b6.tmps.getD 0 undef = .func (.yield l) #[] #[] := by
      rw [hb6, put_other (by rw [C.no.2.1]; simp), put_other (by rw [C.co.2.2.2.1]; simp)]; exact y50
    show Code.wpIn _ _ _ (Code.cond (.tmp 13) .ret .skip) _ ((b5.put C.oc.dst (.bool true)).put C.on.dst (.bool false)) w9
    rw [← hb6]
    refine wpIn_cond_false y13 (wpIn_skip ?_)
    show Code.roundsIn _ _ _ _ _ (fuel + 1) b6 w9
    rw [roundsIn_succ]
    refine wpIn_seq (region_in hF C.a1 Sq7 e9 L9 ?_)
    intro q7 h9 φ9 b7 w10 e10 L10 Sq8 T9 K9
    exact ih q7 h9 φ9 b7 w10 Sq8 ((K9.2 0 fun o ho => C.b0 o (by simp [ho])).trans y60) (R8.go Sq8.hr T9) (Phi.le_trans le6 (Phi.le_trans le8 T9.le)) (K9.1.trans d6) e10 L10
end
end Go.Am
namespace Go.Am
variable {P : Program} {φ : Phi} {h h' : Hp} {w : World} {v : AV} {r : A2} {cx cy : Value} {G : Gl} {f : Nat} {fn : Func}
theorem args1_safe {args : List AV} {k : AV → RV} (hs : (args1 args k).toT.Safe) : ∃ x, args = [x] ∧ args1 args k = k x := by
  cases args with
  | nil => exact (RT.Safe.err hs).elim
  | cons a t => cases t with
    | nil => exact ⟨a, rfl, rfl⟩
    | cons b t => exact (RT.Safe.err hs).elim
theorem noesc_ok (hf : P.funcs[f]? = some fn) (hname : (fn.name == "runtime.NumGoroutine") = false) (hb : fn.body.isNone = true) (hn : Extern.findNext fn = none) (he : Extern.find fn = some Extern.AbiNoEscape.same) : ExtOK P G .noesc f := by
  intro φ h w args vals hg H hv hs
  obtain ⟨x, rfl, e⟩ := args1_safe (k := fun x => .ok x h) hs
  cases hv with
  | cons a c as cs h1 h2 =>
    cases h2
    refine ⟨c, w, ?_, x, h, c, φ, .ok _ _, rfl, h1, H, .refl _ _ _⟩
    rw [run_callFunc_extern hf hname hb hn he]
    rfl
theorem digits_u8 : ∀ (n t : Nat) (acc : Array Value), (∀ x, x ∈ acc → x.oneCell' = true) → ∀ x, x ∈ Extern.BytealgMakeNoZero.digits n t acc → x.oneCell' = true
  | 0, _, _, ha => ha
  | n + 1, t, acc, ha => digits_u8 n _ _ fun x hx => by
    rcases Array.mem_push.1 hx with g | g
    · exact ha x g
    · rw [g]; rfl
theorem run_mknz (w : World) (ps : Array TypeId) (t e : TypeId) (ht : P.underlying t = some (.slice e)) (n : Nat) (hn : n ≤ 281474976710656) :
    ∃ cs : Array Value, (Extern.BytealgMakeNoZero.makeNoZero ps #[t] #[.int .i64 n]).run P w = .ok (.slice (some ⟨w.heap.size, 0, none⟩) n cs.size) (w.drew.drew.alloc (.cells cs e)) ∧ n ≤ cs.size ∧ ∀ x, x ∈ cs → x.oneCell' = true := by
  have hdef : Extern.BytealgMakeNoZero.makeNoZero ps #[t] #[.int .i64 n] =
      (do
        let .slice elem ← underlying t | stuck "bytealg.MakeNoZero: slice type expected"
        if (n : Int) < 0 || (n : Int) > 2 ^ 48 then runtimePanic (.error "makeslice: len out of range")
        let cap ← choose (.appendCap (n : Int).toNat 0 elem)
        askRoom cap
        let bytes ← choose (.extern "internal/bytealg.MakeNoZero.bytes" 0)
        let a ← newRow elem (Extern.BytealgMakeNoZero.digits cap bytes #[])
        pure (.slice (some a) (n : Int).toNat cap)) := rfl
  refine ⟨Extern.BytealgMakeNoZero.digits (grownCap w n 0 e) ((Question.extern "internal/bytealg.MakeNoZero.bytes" 0).cut (w.tape (w.drawn + 1) (.extern "internal/bytealg.MakeNoZero.bytes" 0))) #[], ?_, ?_, digits_u8 _ _ _ (by simp)⟩
  · rw [hdef]
    have h1 : ¬ (n : Int) < 0 := by omega
    have h2 : ¬ (281474976710656 : Int) < (n : Int) := by omega
    simp [run_underlying ht, h1, h2, Question.forced, newRow, Lib.size_digits, grownCap]
  · rw [Lib.size_digits]
    simpa using grownCap_ge w n 0 e
theorem mknz_ok {ps : Array TypeId} {t el : TypeId} (hf : P.funcs[f]? = some fn) (hname : (fn.name == "runtime.NumGoroutine") = false) (hb : fn.body.isNone = true) (hn : Extern.findNext fn = none) (he : Extern.find fn = some (Extern.BytealgMakeNoZero.makeNoZero ps #[t])) (ht : P.underlying t = some (.slice el)) : ExtOK P G (.mknz el) f := by
  intro φ h w args vals hg H hv hs
  obtain ⟨x, rfl, e⟩ := args1_safe (k := fun x => p_mknz el x h) hs
  have hp : primRun (.mknz el) [x] h = (p_mknz el x h).toT := rfl
  rw [hp] at hs ⊢
  obtain ⟨v, h', hr⟩ := toT_safe hs
  rw [hr]
  obtain ⟨k, n, rfl, e1⟩ := onInt_ok hr
  obtain ⟨hk, e1⟩ := if_ok e1
  have hk : k = .i64 := by cases k <;> first | rfl | cases hk
  subst hk
  cases n with
  | negSucc n => cases e1
  | ofNat n =>
    obtain ⟨hb1, e1⟩ := if_ok e1
    have hb1 : n ≤ 65536 := Nat.le_of_ble_eq_true hb1
    obtain ⟨hr1, hn1, e2⟩ := hnew_ok e1
    obtain ⟨rfl, rfl⟩ := RV.ok_inj e2
    cases hv with
    | cons a c as cs h1 h2 =>
      cases h2
      rw [h1.int_inv]
      obtain ⟨cs, hrun, hcs, hone⟩ := run_mknz (P := P) w ps t el ht n (by omega)
      have hlen : (lrep n [AV.undef]).length = n := by rw [length_lrep]; simp
      obtain ⟨g1, g2⟩ := H.newCells (n' := h.next.succ) (w' := w.drew.drew.alloc (.cells cs el)) hn1
        (rc := cs) (el := el) (n := (lrep n [AV.undef]).length) (ex := false) (fl := .plain) (fz := (0, 0)) (c := cof (lrep n [AV.undef]))
        (by rw [hlen]; exact hcs) (by simp) hr1
        (fun k hk => by
          rw [hlen] at hk
          refine ⟨cs[k], Array.getElem?_eq_getElem (by omega), ?_, hone _ (Array.getElem_mem _)⟩
          rw [cget_cof _ hr1 k (by rw [hlen]; exact hk)]
          have : (lrep n [AV.undef])[k]'(by rw [hlen]; exact hk) = .undef := by rw [getElem_lrep n [AV.undef] k _ (by simp [Nat.mod_one])]; simp
          rw [this]
          exact .undef _) rfl rfl rfl rfl rfl
      refine ⟨.slice (some ⟨w.heap.size, 0, none⟩) n cs.size, w.drew.drew.alloc (.cells cs el), ?_, _, _, _, _, .ok _ _, rfl, ?_, g1, g2⟩
      · rw [run_callFunc_extern hf hname hb hn he]
        show ((Extern.BytealgMakeNoZero.makeNoZero ps #[t] #[.int .i64 (Int.ofNat n)]).run P w).andThen _ = _
        rw [show (Int.ofNat n) = ((n : Nat) : Int) from rfl, hrun]
        rfl
      · refine .slr _ 0 n 1 cs.size ⟨w.heap.size, 0, _⟩ ⟨w.heap.size, 0, none⟩ (Phi.put_self _ _ _) ?_ hcs rfl rfl (fun _ => rfl) (by omega)
        simp
theorem trunc_ok {P : Program} {G : Gl} {f : Nat} {fn : Func} (hf : P.funcs[f]? = some fn) (hname : (fn.name == "runtime.NumGoroutine") = false) (hb : fn.body.isNone = true) (hn : Extern.findNext fn = none) (he : Extern.find fn = some (Extern.MathFloor.toIntegral "math.archTrunc" .zero)) : ExtOK P G .trunc f := by
  intro φ h w args vals hg H hv hs
  obtain ⟨x, rfl, e⟩ := args1_safe (k := fun x => p_trunc x h) hs
  have hp : primRun .trunc [x] h = (p_trunc x h).toT := rfl
  rw [hp] at hs ⊢
  obtain ⟨v, h', hr⟩ := toT_safe hs
  rw [hr]
  obtain ⟨k, n, rfl, e1⟩ := onFlt_ok hr
  obtain ⟨hk, e1⟩ := if_ok e1
  have hk : k = .f64 := by cases k <;> first | rfl | cases hk
  subst hk
  have e1 : (match FloatKind.f64.decode n with | .nan _ _ => RV.err 180 | d => .ok (.flt .f64 (FloatKind.f64.encode (d.integral .zero))) h) = .ok v h' := e1
  cases hv with
  | cons a c as cs h1 h2 =>
    cases h2
    rw [h1.flt_inv]
    have hdef : Extern.MathFloor.toIntegral "math.archTrunc" .zero #[Value.float .f64 n] = (match FloatKind.f64.decode n with
        | .nan s t =>
          if FloatKind.f64.format.quiet t = t then pure (.float .f64 n) else do
          let kept ← choose (.extern "math.Floor,Ceil,Trunc,RoundToEven.signallingNaN kept" 2)
          pure (.float .f64 (if kept == 1 then n else FloatKind.f64.encode (.nan s (FloatKind.f64.format.quiet t))))
        | d => pure (.float .f64 (FloatKind.f64.encode (d.integral .zero)))) := rfl
    cases hd : FloatKind.f64.decode n with
    | nan s t => rw [hd] at e1; cases e1
    | infinity s =>
      rw [hd] at e1
      obtain ⟨rfl, rfl⟩ := RV.ok_inj e1
      refine ⟨_, w, ?_, _, h, _, φ, .ok _ _, rfl, .flt _ _, H, .refl _ _ _⟩
      rw [run_callFunc_extern hf hname hb hn he]
      show ((Extern.MathFloor.toIntegral "math.archTrunc" .zero #[.float .f64 n]).run P w).andThen _ = _
      rw [hdef, hd]
      rfl
    | number s m e =>
      rw [hd] at e1
      obtain ⟨rfl, rfl⟩ := RV.ok_inj e1
      refine ⟨_, w, ?_, _, h, _, φ, .ok _ _, rfl, .flt _ _, H, .refl _ _ _⟩
      rw [run_callFunc_extern hf hname hb hn he]
      show ((Extern.MathFloor.toIntegral "math.archTrunc" .zero #[.float .f64 n]).run P w).andThen _ = _
      rw [hdef, hd]
      rfl
end Go.Am
namespace Go.Am
theorem coll_cast {P : Program} {G : Gl} {f : Nat} {k k' : PK} (h : PrimOK P G k f) (e : k = k') : PrimOK P G k' f := e ▸ h
end Go.Am
namespace Go.Am
open Go.ChangeShapes Go.WideShapes Go.ChangeAt Go.RowKit
theorem true_of {x : RT} (e : isTrueT x = true) : x.Safe ∧ ∀ v h, x.Leaf (.ok v h) → v = .bool true := by
  have go : ∀ x : RT, isTrueT x = true → ∀ y, x.Leaf y → ∃ h, y = .ok (.bool true) h := by
    intro x
    induction x with
    | ok v h =>
      intro e y hy
      cases hy
      have e : AV.onBool v (fun b => b) false = true := e
      cases v with
      | bool c =>
        have e3 : c = true := e
        rw [e3]
        exact ⟨_, rfl⟩
      | _ => cases e
    | err n => intro e; cases e
    | ch n k ih =>
      intro e y hy
      have e : allN n (fun i => isTrueT (k i)) = true := e
      have hall : ∀ m, allN m (fun i => isTrueT (k i)) = true → ∀ i, i < m → isTrueT (k i) = true := by
        intro m
        induction m with
        | zero => intro _ i hi; omega
        | succ m im =>
          intro e i hi
          have e : (@Bool.rec (fun _ => Bool) false (allN m (fun i => isTrueT (k i))) (isTrueT (k m))) = true := e
          cases hm : isTrueT (k m) with
          | false => rw [hm] at e; cases e
          | true =>
            rw [hm] at e
            rcases Nat.lt_or_ge i m with h | h
            · exact im e i h
            · have : i = m := by omega
              subst this; exact hm
      cases hy with
      | ch _ _ c _ hc hl => exact ih c (hall n e c hc) y hl
  refine ⟨fun n hn => ?_, fun v h hl => ?_⟩
  · obtain ⟨h, e2⟩ := go x e _ hn
    cases e2
  · obtain ⟨h2, e2⟩ := go x e _ hl
    cases e2
    rfl
def phi0 : Phi := fun _ => none
theorem HR0 (w : World) : HR phi0 hp0 w where
  obj i hl := by
    have : hget i hp0 = .none := by
      obtain ⟨a, b, c, d⟩ := i
      show O1.get d (O2.get c (O3.get b (O4.get a .nil))) = _
      rw [O4.get_nil, O3.get_nil, O2.get_nil, O1.get_nil]
    exact absurd this hl.1
  inj i j p q hl := by
    have : hget i hp0 = .none := by
      obtain ⟨a, b, c, d⟩ := i
      show O1.get d (O2.get c (O3.get b (O4.get a .nil))) = _
      rw [O4.get_nil, O3.get_nil, O2.get_nil, O1.get_nil]
    exact absurd this hl.1
  fresh _ _ := rfl
  bound _ _ hp := by cases hp
theorem closed {P : Program} {names : List String} {p : Pg} (E : Env P 0 names p) (m f : Nat) (e : isTrueT (callF p (exec p m) f [] hp0) = true) (w : World) (hx : isExt (fgetT f p.fs) = false := by rfl) :
    Calls P f #[] w fun e w' => e = .returned (.bool true) ∧ w.heap.size ≤ w'.heap.size ∧ (∀ b, b < w.heap.size → w'.heap[b]? = w.heap[b]?) ∧ w'.os = w.os ∧ w'.output = w.output := by
  obtain ⟨hs, ht⟩ := true_of e
  refine (call_wp E m f [] [] (φ := phi0) ⟨fun g hg => absurd hg (Nat.not_lt_zero g), fun x hx => by cases hx⟩ (HR0 w) .nil hs (not_ext hx)).mono ?_
  rintro e w' ⟨v, h', cv, φ', hl, rfl, hv, _, T⟩
  have := ht v h' hl
  subst this
  cases hv
  refine ⟨rfl, T.keeps.size, fun b hb => T.keeps.rest b hb fun i p hl => ?_, T.keeps.os, T.keeps.output⟩
  obtain ⟨a, b, c, d⟩ := i
  have : hget (.mk a b c d) hp0 = .none := by
    show O1.get d (O2.get c (O3.get b (O4.get a .nil))) = _
    rw [O4.get_nil, O3.get_nil, O2.get_nil, O1.get_nil]
  exact absurd this hl.1
theorem kept_of {W W' : World} {may : MemPlace → Prop} (hb : ∀ b, b < W.heap.size → W'.heap[b]? = W.heap[b]?) (ho : W'.os = W.os) (hu : W'.output = W.output) : W.keptBut W' may := by
  refine ⟨ho, hu, fun i hi => ?_⟩
  rw [hb i hi]
  cases W.heap[i]? with
  | none => rfl
  | some o => cases o <;> first | exact ⟨rfl, rfl, rfl, fun _ _ => rfl⟩ | exact .inr ⟨rfl, rfl⟩ | rfl
theorem post_none {H : Type} {enc : TypeId × Value → H} {P : Program} {f : Func} {s : ChangeSpec} {apart fresh handsOn again : Bool} {W W' : World} {v : Value}
    (hW : DataW.Whole enc P f.params.toList s.vars apart W [] [] [] [])
    (hres : ∀ (b : Nat) (sp : Nat → Bool) (hd : Bool), DataW.TrodAll enc P W' b sp hd f.resultTypes.toList (v.resultList f.resultTypes.size) (s.fn H []).results [])
    (hargs : ∀ sp : Nat → Bool, DataW.TrodAll enc P W' 0 sp true f.params.toList [] (s.fn H []).args [])
    (hvars : ∀ sp : Nat → Bool, DataW.TrodVars enc P W' sp s.vars (s.fn H []).vars [])
    (hk : W.keptBut W' (· ∈ []))
    (hok : ∀ (j : Nat) (t : TypeId) (r : Value), f.resultTypes[j]? = some t → (v.resultList f.resultTypes.size)[j]? = some r → Value.okWide P W' .any 0 t r) :
    s.post enc P f apart fresh handsOn again W #[] v W' := by
  refine ⟨[], [], [], [], [], [], hW, hres _ _ _, hargs _, hvars _, World.keptBut_mono (fun p hp => ⟨hp, ?_⟩) hk, fun _ => ?_⟩
  · cases hp
  · refine ⟨hok, _, _, ([] ++ []) ++ [], ⟨[] ++ [], [], trodAll_append (hargs _) (hres _ _ _), hvars _, rfl, ?_, ?_⟩, ?_⟩
    · intro b off hp; simp at hp
    · intro _; simp
    · intro p hp; simp at hp
end Go.Am
namespace Go.Am
open Go.ChangeShapes Go.WideShapes Go.ChangeAt Go.RowKit
noncomputable section
theorem true_ofH {q : Hp → Bool} {x : RT} (e : isTrueH q x = true) : x.Safe ∧ ∀ v h, x.Leaf (.ok v h) → v = .bool true ∧ q h = true := by
  have go : ∀ x : RT, isTrueH q x = true → ∀ y, x.Leaf y → ∃ h, y = .ok (.bool true) h ∧ q h = true := by
    intro x
    induction x with
    | ok v h =>
      intro e y hy
      cases hy
      have e : AV.onBool v (fun b => (Bool.rec false (q h) b : Bool)) false = true := e
      cases v with
      | bool c =>
        have e3 : (Bool.rec false (q h) c : Bool) = true := e
        cases c with
        | false => cases e3
        | true => exact ⟨_, rfl, e3⟩
      | _ => cases e
    | err n => intro e; cases e
    | ch n k ih =>
      intro e y hy
      have e : allN n (fun i => isTrueH q (k i)) = true := e
      have hall : ∀ m, allN m (fun i => isTrueH q (k i)) = true → ∀ i, i < m → isTrueH q (k i) = true := by
        intro m
        induction m with
        | zero => intro _ i hi; omega
        | succ m im =>
          intro e i hi
          have e : (@Bool.rec (fun _ => Bool) false (allN m (fun i => isTrueH q (k i))) (isTrueH q (k m))) = true := e
          cases hm : isTrueH q (k m) with
          | false => rw [hm] at e; cases e
          | true =>
            rw [hm] at e
            rcases Nat.lt_or_ge i m with h | h
            · exact im e i h
            · have : i = m := by omega
              subst this; exact hm
      cases hy with
      | ch _ _ c _ hc hl => exact ih c (hall n e c hc) y hl
  refine ⟨fun n hn => ?_, fun v h hl => ?_⟩
  · obtain ⟨h, e2, _⟩ := go x e _ hn
    cases e2
  · obtain ⟨h2, e2, hq⟩ := go x e _ hl
    cases e2
    exact ⟨rfl, hq⟩
def pnat (p : P4) : Nat := match p with | .mk a b c d => a.nat * 4096 + b.nat * 256 + c.nat * 16 + d.nat
theorem pnat_pof {n : Nat} (h : n < 65536) : pnat (pof n) = n := by
  show (dig (n / 4096)).nat * 4096 + (dig (n / 256 % 16)).nat * 256 + (dig (n / 16 % 16)).nat * 16 + (dig (n % 16)).nat = n
  rw [dig_nat (by omega), dig_nat (by omega), dig_nat (by omega), dig_nat (by omega)]
  omega
theorem pof_pnat (p : P4) : pof (pnat p) = p := by
  obtain ⟨a, b, c, d⟩ := p
  have ha := a.nat_lt
  have hb := b.nat_lt
  have hc := c.nat_lt
  have hd := d.nat_lt
  show P4.mk (dig ((a.nat * 4096 + b.nat * 256 + c.nat * 16 + d.nat) / 4096)) (dig ((a.nat * 4096 + b.nat * 256 + c.nat * 16 + d.nat) / 256 % 16)) (dig ((a.nat * 4096 + b.nat * 256 + c.nat * 16 + d.nat) / 16 % 16)) (dig ((a.nat * 4096 + b.nat * 256 + c.nat * 16 + d.nat) % 16)) = _
  rw [show (a.nat * 4096 + b.nat * 256 + c.nat * 16 + d.nat) / 4096 = a.nat by omega, show (a.nat * 4096 + b.nat * 256 + c.nat * 16 + d.nat) / 256 % 16 = b.nat by omega,
    show (a.nat * 4096 + b.nat * 256 + c.nat * 16 + d.nat) / 16 % 16 = c.nat by omega, show (a.nat * 4096 + b.nat * 256 + c.nat * 16 + d.nat) % 16 = d.nat by omega,
    nat_dig, nat_dig, nat_dig, nat_dig]
theorem hgetT_trD (i : P4) : ∀ n, n ≤ 65536 → hgetT i (trD n) = if pnat i < n then .dead else .none := by
  intro n
  induction n with
  | zero =>
    intro _
    rw [if_neg (by omega)]
    obtain ⟨a, b, c, d⟩ := i
    show O1.get d (O2.get c (O3.get b (O4.get a .nil))) = _
    rw [O4.get_nil, O3.get_nil, O2.get_nil, O1.get_nil]
  | succ m ih =>
    intro hm
    have e : hgetT i (trD (m + 1)) = if i = pof m then .dead else hgetT i (trD m) := hget_hset i (pof m) .dead (.mk (trD m) (pof m))
    rw [e, ih (by omega)]
    by_cases h : i = pof m
    · subst h
      rw [if_pos rfl, pnat_pof (by omega), if_pos (by omega)]
    · rw [if_neg h]
      have h1 : pnat i ≠ m := fun e => h (by rw [← e, pof_pnat])
      by_cases h2 : pnat i < m
      · rw [if_pos h2, if_pos (by omega)]
      · rw [if_neg h2, if_neg (by omega)]
theorem hget_hpG (i : P4) (n g : Nat) (o : Obj) (hn : n ≤ 65536) : hget i (hpG n g o) = if i = pof g then o else if pnat i < n then .dead else .none := by
  have e : hget i (hpG n g o) = if i = pof g then o else hgetT i (trD n) := hget_hset i (pof g) o (.mk (trD n) (pof n))
  rw [e, hgetT_trD i n hn]
def phiG (n rm : Nat) : Phi := fun i => if pnat i < n then some ⟨pnat i, 0, rm⟩ else none
theorem phiG_pof {n rm g : Nat} (hg : g < n) (hn : n ≤ 65536) : phiG n rm (pof g) = some ⟨g, 0, rm⟩ := by
  unfold phiG
  rw [pnat_pof (by omega), if_pos hg]
theorem live_hpG {i : P4} {n g : Nat} {o : Obj} (hn : n ≤ 65536) (h : live (hget i (hpG n g o))) : i = pof g := by
  rw [hget_hpG i n g o hn] at h
  by_cases e : i = pof g
  · exact e
  · rw [if_neg e] at h
    split at h
    · exact absurd rfl h.2
    · exact absurd rfl h.1
theorem HRG {n g el : Nat} {k : IntKind} {zs : List Int} {w : World} (hn : n ≤ 65536) (hg : g < n) (hz : zs.length ≤ croom (cof (zs.map fun z => AV.int k z))) (hs : n ≤ w.heap.size)
    (hw : w.heap[g]? = some (.cells (zs.map fun z => Value.int k z).toArray el (0, 0))) : HR (phiG n zs.length) (hpG n g (gObj el k zs)) w where
  obj i hl := by
    obtain rfl := live_hpG hn hl
    refine ⟨⟨g, 0, zs.length⟩, phiG_pof hg hn, ?_⟩
    rw [hget_hpG _ n g _ hn, if_pos rfl]
    refine ⟨_, (0, 0), hw, by simp, Nat.le_refl _, fun _ => ⟨rfl, rfl⟩, hz, fun j hj => ?_, rfl⟩
    refine ⟨.int k zs[j], by simp [hj], ?_, rfl⟩
    rw [cget_cof _ (by simpa using hz) j (by simpa using hj), List.getElem_map]
    exact .int _ _
  inj i j p q hi hj ne _ _ := absurd ((live_hpG hn hi).trans (live_hpG hn hj).symm) ne
  fresh i hi := by
    rw [hget_hpG i n g _ hn] at hi
    split at hi
    · cases hi
    · split at hi
      · cases hi
      · rename_i h
        unfold phiG
        rw [if_neg h]
  bound i p hp := by
    unfold phiG at hp
    split at hp
    · cases hp
      show pnat i < _
      omega
    · cases hp
theorem avIs_ok {k : IntKind} {z : Int} {v : AV} (h : avIs k z v = true) : v = .int k z := by
  cases v with
  | int k' z' =>
    have h : (decide (k' = k) && decide (z' = z)) = true := h
    rw [Bool.and_eq_true] at h
    rw [of_decide_eq_true h.1, of_decide_eq_true h.2]
  | _ => cases h
theorem cellsAre_ok {k : IntKind} : ∀ {zs : List Int} {i : Nat} {c : Cl}, cellsAre k zs i c = true → ∀ (j : Nat) (hj : j < zs.length), cget (i + j) c = .int k zs[j]
  | [], _, _, _, j, hj => by simp at hj
  | z :: r, i, c, h, 0, _ => by
    have h : (avIs k z (cget i c) && cellsAre k r (i + 1) c) = true := h
    rw [Bool.and_eq_true] at h
    exact avIs_ok h.1
  | z :: r, i, c, h, j + 1, hj => by
    have h : (avIs k z (cget i c) && cellsAre k r (i + 1) c) = true := h
    rw [Bool.and_eq_true] at h
    have := cellsAre_ok h.2 j (by simpa using hj)
    rw [show i + (j + 1) = i + 1 + j by omega, this]
    rfl
theorem objIs_ok {el : Nat} {k : IntKind} {zs : List Int} {o : Obj} (h : objIs el k zs o = true) : ∃ c, o = .cells el zs.length true .plain c ∧ ∀ (j : Nat) (hj : j < zs.length), cget j c = .int k zs[j] := by
  cases o with
  | cells e n ex fl c =>
    cases ex with
    | false => cases h
    | true =>
      cases fl with
      | plain =>
        have h : (decide (e = el) && decide (n = zs.length) && cellsAre k zs 0 c) = true := h
        rw [Bool.and_eq_true, Bool.and_eq_true] at h
        obtain ⟨⟨h1, h2⟩, h3⟩ := h
        obtain rfl := of_decide_eq_true h1
        obtain rfl := of_decide_eq_true h2
        refine ⟨c, rfl, fun j hj => ?_⟩
        have := cellsAre_ok h3 j hj
        rwa [Nat.zero_add] at this
      | _ => cases h
  | _ => cases h
theorem closedG {P : Program} {names : List String} {p : Pg} {n g el : Nat} {k : IntKind} {zs : List Int} (E : Env P ⟨n, [], none⟩ names p) (m f : Nat) (hg : g < n) (hn : n ≤ 65536)
    (hz : zs.length ≤ croom (cof (zs.map fun z => AV.int k z)))
    (e : isTrueH (fun h => objIs el k zs (hget (pof g) h)) (callF p (exec p m) f [] (hpG n g (gObj el k zs))) = true) (w : World) (hs : n ≤ w.heap.size)
    (hw : w.heap[g]? = some (.cells (zs.map fun z => Value.int k z).toArray el (0, 0))) (hx : isExt (fgetT f p.fs) = false := by rfl) :
    Calls P f #[] w fun e w' => e = .returned (.bool true) ∧ w.heap.size ≤ w'.heap.size ∧ (∀ b, b < w.heap.size → w'.heap[b]? = w.heap[b]?) ∧ w'.os = w.os ∧ w'.output = w.output := by
  obtain ⟨hsf, ht⟩ := true_ofH e
  refine (call_wp E m f [] [] (φ := phiG n zs.length) ⟨fun i hi => ⟨zs.length, phiG_pof hi hn⟩, fun x hx => by cases hx⟩ (HRG hn hg hz hs hw) .nil hsf (not_ext hx)).mono ?_
  rintro e w' ⟨v, h', cv, φ', hl, rfl, hv, H', T⟩
  obtain ⟨rfl, hq⟩ := ht v h' hl
  cases hv
  refine ⟨rfl, T.keeps.size, fun b hb => ?_, T.keeps.os, T.keeps.output⟩
  by_cases hbg : b = g
  · subst hbg
    have hφ : φ' (pof b) = some ⟨b, 0, zs.length⟩ := T.le _ _ (phiG_pof hg hn)
    obtain ⟨c, hc, hcs⟩ := objIs_ok hq
    obtain ⟨q, hq1, hq2⟩ := H'.obj (pof b) (by rw [hc]; exact ⟨fun h => (by cases h), fun h => (by cases h)⟩)
    obtain rfl := Option.some.inj (hq1.symm.trans hφ)
    rw [hc] at hq2
    obtain ⟨rc, fz, h1, h2, _, _, _, h6, h7⟩ := hq2
    have h7 : fz = (0, 0) := h7
    subst h7
    have h1 : w'.heap[b]? = some (.cells rc el (0, 0)) := h1
    have h2 : 0 + zs.length = rc.size := h2
    have hrc : rc = (zs.map fun z => Value.int k z).toArray := by
      apply Array.ext
      · simp
        omega
      · intro j hj1 hj2
        have hj : j < zs.length := by simpa using hj2
        obtain ⟨cv, h8, h9, _⟩ := h6 j hj
        rw [hcs j hj] at h9
        cases h9
        have h8 : rc[0 + j]? = some (.int k zs[j]) := h8
        rw [Nat.zero_add, Array.getElem?_eq_getElem hj1] at h8
        rw [Option.some.inj h8]
        simp
    rw [h1, hw, hrc]
  · refine T.keeps.rest b hb fun i p hl hp he => hbg ?_
    obtain rfl := live_hpG hn hl
    rw [phiG_pof hg hn] at hp
    cases hp
    exact he.symm
theorem laid_reads {P : Program} {w : World} : ∀ {l : List (String × DataW Unit)} {ps : List MemPlace}, DataW.LaidVars P w l ps → ∀ n d, (n, d) ∈ l →
    ∃ g t cs fuel p, P.globalNamed n = some g ∧ (P.globals[g]?).map (·.type) = some t ∧ w.var? P n = some cs ∧ DataW.trod (fun _ => ()) P w 0 (fun _ => true) false fuel t cs.toList = some (d, p)
  | [], _, _, _, _, hm => by cases hm
  | (n', d') :: r, ps, h, n, d, hm => by
    obtain ⟨g, t, cs, fuel, p, q, h1, h2, h3, h4, h5, _⟩ := h
    rcases List.mem_cons.1 hm with e | e
    · cases e
      exact ⟨g, t, cs, fuel, p, h1, h2, h3, h4⟩
    · exact laid_reads h5 n d e
theorem tab_of_laid {P : Program} {W : World} {name : String} {k : IntKind} {zs : List Int} {l : List (String × DataW Unit)} {g : Nat} {t e n : Nat} {zero : Array Value}
    (h : laidMet P l W) (hm : (name, Lib.tabData k zs) ∈ l) (hsh : W.ShapedOpen P) (hgl : g < P.globals.size)
    (hrow : (((begin P (fun _ _ => 0) default).world.heap[g]?).bind Go.Obj.row?) = some (zero, t))
    (hg : P.globalNamed name = some g) (hty : (P.globals[g]?).map (·.type) = some t) (ht : P.underlying t = some (.array n e)) (he : P.underlying e = some (.int k)) (hce : P.cellsOf e = 1) (hct : P.cellsOf t = n) :
    W.heap[g]? = some (.cells (zs.map fun z => Value.int k z).toArray t (0, 0)) := by
  obtain ⟨ps, hv, _⟩ := h
  obtain ⟨g', t', cs, fuel, p, h1, h2, h3, h4⟩ := laid_reads hv _ _ hm
  obtain rfl := Option.some.inj (hg.symm.trans h1)
  obtain rfl := Option.some.inj (hty.symm.trans h2)
  have hcs := Lib.cells_of_tab ht he hce hct h4
  obtain ⟨cs2, h5, _⟩ := hsh.1 g zero t hgl hrow
  unfold World.var? at h3
  rw [hg] at h3
  have h3 : (match W.heap[g]? with | some (.cells cs _ _) => some cs | _ => none) = some cs := h3
  rw [h5] at h3
  have h3 : cs2 = cs := Option.some.inj h3
  subst h3
  rw [h5]
  have : cs2 = (zs.map fun z => Value.int k z).toArray := by
    apply Array.toList_inj.1
    rw [hcs]
  rw [this]
theorem tab_of_laid2 {P : Program} {W : World} {l : List (String × DataW Unit)} (name : String) (k : IntKind) (zs : List Int) (g t e n : Nat)
    (h : laidMet P l W) (hm : (name, Lib.tabData k zs) ∈ l) (hsh : W.ShapedOpen P) (hgl : g < P.globals.size)
    (hrow : ((((begin P (fun _ _ => 0) default).world.heap[g]?).bind Go.Obj.row?).map (·.2)) = some t)
    (hg : P.globalNamed name = some g) (hty : (P.globals[g]?).map (·.type) = some t) (ht : P.underlying t = some (.array n e)) (he : P.underlying e = some (.int k)) (hce : P.cellsOf e = 1) (hct : P.cellsOf t = n) :
    W.heap[g]? = some (.cells (zs.map fun z => Value.int k z).toArray t (0, 0)) := by
  obtain ⟨⟨zero, t'⟩, hr, rfl⟩ := Option.map_eq_some_iff.1 hrow
  exact tab_of_laid h hm hsh hgl hr hg hty ht he hce hct
theorem size_of_shaped {P : Program} {W : World} (g n : Nat) (hsh : W.ShapedOpen P) (hn : n = g + 1) (hgl : g < P.globals.size)
    (hrow : (((begin P (fun _ _ => 0) default).world.heap[g]?).bind Go.Obj.row?).isSome = true) : n ≤ W.heap.size := by
  obtain ⟨⟨zero, t⟩, hr⟩ := Option.isSome_iff_exists.1 hrow
  obtain ⟨cs, h, _⟩ := hsh.1 g zero t hgl hr
  have := (Array.getElem?_eq_some_iff.1 h).1
  omega
theorem wrapG {H : Type} {enc : TypeId × Value → H} {a : Assume} {C : Checked} {os : Os} {f : FuncId} {fn : Func} {s : ChangeSpec} {conds : List PathCond} {apart fresh handsOn again : Bool} {X : World → Array Value → Prop}
    (hX : ∀ (w w' : World) (args : Array Value), w.heap = w'.heap → X w args → X w' args)
    (own : ownKnob C.prog.godebug = none) (started : os.Started) (noInit : C.prog.inits.idxOf? f = none) (hfn : C.prog.funcs[f]? = some fn)
    (witness : ∃ (w : World) (tape : Tape) (i : Input), w.os = os ∧ (w.forCall tape i).Shaped C.prog ∧ i.vars = [] ∧ Input.okWide C.prog (w.forCall tape i) .any w.heap.size f i ∧
      ((s.pre enc C.prog fn conds apart (w.forCall tape i).memory i.args ∧ X (w.forCall tape i).memory i.args) ∧ sizedMet enc C.prog fn (OpenSpec.ofChange s) apart (w.forCall tape i).memory i.args) ∧ a.holds C.prog (lone (Frame.enter C.prog f i.args .normal) [] (w.forCall tape i)))
    (contract : ∀ (W : World) (base : Nat) (args : Array Value) (ds gs : List (DataW H)) (before : List MemPlace),
      (∀ (j : Nat) t v, fn.params[j]? = some t → args[j]? = some v → Value.okWide C.prog W .any base t v) →
      DataW.Whole enc C.prog fn.params.toList s.vars apart W args.toList ds gs before → X W args → W.ShapedOpen C.prog →
      Calls C.prog f args W fun e W' => ∃ v, e = .returned v ∧ s.post enc C.prog fn apart fresh handsOn again W args v W') :
    ReturnsInHanded a C os f .any (fun w args => (s.pre enc C.prog fn conds apart w args ∧ X w args) ∧ sizedMet enc C.prog fn (OpenSpec.ofChange s) apart w args) (s.post enc C.prog fn apart fresh handsOn again) := by
  refine returnsInHanded_of_calls own started noInit witness ?_
  intro w tape i _ hsh _ hok hpre _
  obtain ⟨_, _, _, fn', hfn', _, _, _, _, hval⟩ := hok
  have e : fn' = fn := Option.some.inj (hfn'.symm.trans hfn)
  subst e
  obtain ⟨⟨⟨ds, gs, before, hw, _⟩, hx⟩, _⟩ := hpre
  have hw' := DataW.Whole.of_heap (w' := w.forCall tape i) (by rfl) hw
  refine (contract (w.forCall tape i) w.heap.size i.args ds gs before hval hw' (hX _ _ _ (by rfl) hx) hsh).mono fun e W' ⟨v, he, hp⟩ => ?_
  subst he
  exact ChangeSpec.post_blind hp
end
end Go.Am
