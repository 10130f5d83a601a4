/- Runs of the abstract machine at arguments that are not known. Conditions: the table of functions is the program's (Env). -/
import Derived.Test.YtjnmlmmfnbcnjaaGreatDoorS2
import Derived.Test.YtjnmlmmfnbcnjaaGreatDoorH
import Derived.KernelRfl
import Derived.RangeFuncRecord
import Derived.LoopNIn
import Derived.Lib.MakeNoZero
import Derived.Laws.Externs
import Derived.MapKept
import Derived.WalkKit
import Derived.ProofKit
import Derived.OpenShut
import Derived.ChangeStays
import Derived.ChangeArms
import Derived.Deep.DeepHandedRow
import Derived.Stop.Joined
set_option linter.all false
namespace Go.Am.Crc
open Go.Am.Seat
set_option maxRecDepth 20000
noncomputable section
def T0 (v0 v3 : AV) : A2 := .mk (.mk v0 .undef .undef v3 .undef .undef .undef .undef .undef .undef .undef .undef .undef .undef .undef .undef) .nil .nil .nil .nil .nil .nil .nil .nil .nil .nil .nil .nil .nil .nil .nil
def T1 (v2 : AV) : A2 := .mk (.mk .undef .undef v2 .undef .undef .undef .undef .undef .undef .undef .undef .undef .undef .undef .undef .undef) .nil .nil .nil .nil .nil .nil .nil .nil .nil .nil .nil .nil .nil .nil .nil
def T2 (v3 : AV) : A2 := .mk (.mk .undef .undef .undef v3 .undef .undef .undef .undef .undef .undef .undef .undef .undef .undef .undef .undef) .nil .nil .nil .nil .nil .nil .nil .nil .nil .nil .nil .nil .nil .nil .nil
def T3 (v3 v7 v8 v9 : AV) : A2 := .mk (.mk .undef .undef .undef v3 .undef .undef .undef v7 v8 v9 .undef .undef .undef .undef .undef .undef) .nil .nil .nil .nil .nil .nil .nil .nil .nil .nil .nil .nil .nil .nil .nil
def T4 (v3 v7 v8 v9 v17 : AV) : A2 := .mk (.mk .undef .undef .undef v3 .undef .undef .undef v7 v8 v9 .undef .undef .undef .undef .undef .undef) (.mk .undef v17 .undef .undef .undef .undef .undef .undef .undef .undef .undef .undef .undef .undef .undef .undef) .nil .nil .nil .nil .nil .nil .nil .nil .nil .nil .nil .nil .nil .nil
def Ky : Cf → Iv → (A2 → Hp → RS) → A2 → Hp → RS := fun cf iv rx r h => (fun (x23 x24 x25 x26 x27 : AV) =>
 tR (qR x27 (pi 8) h) fun v28 h29 =>
 Rt v28 (tR (wF x23 (.int .u32 (.ofNat 1)) h29) fun v30 h31 =>
 tR (bK .shr x23 (.int .u64 (.ofNat 1)) h31) fun v32 h33 =>
 tR (uC v30 (.int .u32 (.ofNat 1)) h33) fun v34 h35 =>
 Rt v34 (tR (mq v32 (.int .u32 (.ofNat 3988292384)) h35) fun v36 h37 =>
 tR (jx x27 (pi 1) h37) fun v38 h39 =>
 .nm (T4 v36 x24 x25 x26 v38) h39) (tR (jx x27 (pi 1) h35) fun v40 h41 =>
 .nm (T4 v32 x24 x25 x26 v40) h41)) (.ex 2 (T4 x23 x24 x25 x26 x27) h29)) (an .h0 .h3 r) (an .h0 .h7 r) (an .h0 .h8 r) (an .h0 .h9 r) (an .h1 .h1 r)
def kC_3 : Cf → Iv → (A2 → Hp → RS) → A2 → Hp → RS := fun cf iv rx r h => (fun (x11 x12 x13 x14 : AV) =>
 tR (ix 1 x12 x14 h) fun v15 h16 =>
 tR (ld v15 h16) fun v17 h18 =>
 tR (cK (.toInt .u32) v17 h18) fun v19 h20 =>
 tR (mq x11 v19 h20) fun v21 h22 =>
 rx (T4 v21 x12 x13 x14 (pi 0)) h22) (an .h0 .h3 r) (an .h0 .h7 r) (an .h0 .h8 r) (an .h0 .h9 r)
def yN : Cf → Iv → (A2 → Hp → RS) → A2 → Hp → RS := fun cf iv rx r h => (fun (x42 x43 x44 x45 : AV) =>
 tR (jx x45 (pi 1) h) fun v46 h47 =>
 .nm (T3 x42 x43 x44 v46) h47) (an .h0 .h3 r) (an .h0 .h7 r) (an .h0 .h8 r) (an .h0 .h9 r)
def CH : Cf → Iv → (A2 → Hp → RS) → A2 → Hp → RS := fun cf iv rx r h => (fun (x5 x6 x7 x8 : AV) =>
 tR (qR x8 x7 h) fun v9 h10 =>
 Rt v9 (rx (T3 x5 x6 x7 x8) h10) (.ex 0 (T2 x5) h10)) (an .h0 .h3 r) (an .h0 .h7 r) (an .h0 .h8 r) (an .h0 .h9 r)
def kC_1 : Cf → Iv → (A2 → Hp → RS) → A2 → Hp → RS := fun cf iv rx r h => (fun (x1 x2 : AV) =>
 tR (len x1 h) fun v3 h4 =>
 rx (T3 x2 x1 v3 (pi 0)) h4) (an .h0 .h0 r) (an .h0 .h3 r)
def kC_6 : Cf → Iv → (A2 → Hp → RS) → A2 → Hp → RS := fun cf iv rx r h => (fun (x48 : AV) =>
 tR (wA x48 h) fun v49 h50 =>
 .ret (T1 v49) h50) (an .h0 .h3 r)
def kC_0 : Cf → Iv → (A2 → Hp → RS) → A2 → Hp → RS := fun cf iv rx r h => (fun (x0 : AV) =>
 rx (T0 x0 (.int .u32 (.ofNat 4294967295))) h) (an .h0 .h0 r)
def xC : AC := (.ah kC_0 (.seq (.ah kC_1 (.block 0 (.loop (.ah CH (.seq (.block 1 (.ah kC_3 (.block 2 (.loop (.ah Ky .skip))))) (.ah yN .skip)))))) (.ah kC_6 .skip)))
def zC : List Rs := [.t .h0 .h2]
end
section
variable {cf : Cf} {iv : Iv} {rx : A2 → Hp → RS} {h : Hp}
theorem ND (x23 x24 x25 x26 x27 : AV) : Ky cf iv rx (T4 x23 x24 x25 x26 x27) h =
 tR (qR x27 (pi 8) h) fun v28 h29 =>
 Rt v28 (tR (wF x23 (.int .u32 (.ofNat 1)) h29) fun v30 h31 =>
 tR (bK .shr x23 (.int .u64 (.ofNat 1)) h31) fun v32 h33 =>
 tR (uC v30 (.int .u32 (.ofNat 1)) h33) fun v34 h35 =>
 Rt v34 (tR (mq v32 (.int .u32 (.ofNat 3988292384)) h35) fun v36 h37 =>
 tR (jx x27 (pi 1) h37) fun v38 h39 =>
 .nm (T4 v36 x24 x25 x26 v38) h39) (tR (jx x27 (pi 1) h35) fun v40 h41 =>
 .nm (T4 v32 x24 x25 x26 v40) h41)) (.ex 2 (T4 x23 x24 x25 x26 x27) h29) := rfl
theorem NF (x11 x12 x13 x14 : AV) : kC_3 cf iv rx (T3 x11 x12 x13 x14) h =
 tR (ix 1 x12 x14 h) fun v15 h16 =>
 tR (ld v15 h16) fun v17 h18 =>
 tR (cK (.toInt .u32) v17 h18) fun v19 h20 =>
 tR (mq x11 v19 h20) fun v21 h22 =>
 rx (T4 v21 x12 x13 x14 (pi 0)) h22 := rfl
theorem EF (x5 x6 x7 x8 : AV) : CH cf iv rx (T3 x5 x6 x7 x8) h =
 tR (qR x8 x7 h) fun v9 h10 =>
 Rt v9 (rx (T3 x5 x6 x7 x8) h10) (.ex 0 (T2 x5) h10) := rfl
theorem NG (x48 : AV) : kC_6 cf iv rx (T2 x48) h =
 tR (wA x48 h) fun v49 h50 =>
 .ret (T1 v49) h50 := rfl
end
section
variable {cf : Cf} {iv : Iv} {rx : A2 → Hp → RS} {h : Hp} {x y z : AV} {p : Pg}
def u32 (n : Nat) : AV := .int .u32 (.ofNat n)
theorem br (v : AV) (h : Hp) (k : AV → Hp → RS) : tR (.ok v h) k = k v h := rfl
theorem EG (t : Bool) (a b : RS) : Rt (.bool t) a b = (@Bool.rec (fun _ => RS) b a t) := rfl
theorem Kz (a b : Nat) : qR (pi a) (pi b) h = .ok (.bool (Nat.ble (a + 1) b)) h := rfl
theorem lW {c d : Nat} (hc : c < 4294967296) (hd : d < 4294967296) : wF (u32 c) (u32 d) h = .ok (u32 (Nat.land c d)) h := by
 show RV.ok (.int .u32 (.ofNat (Nat.land (c % 4294967296) (d % 4294967296) % 4294967296))) h = _
 rw [Nat.mod_eq_of_lt hc, Nat.mod_eq_of_lt hd, Nat.mod_eq_of_lt (a := Nat.land c d) (Nat.lt_of_le_of_lt (show Nat.land c d ≤ c from Nat.and_le_left) hc)]; rfl
theorem rG {c d : Nat} (hc : c < 4294967296) (hd : d < 4294967296) : Nat.xor c d < 4294967296 := Nat.xor_lt_two_pow (n := 32) hc hd
theorem KA {c d : Nat} (hc : c < 4294967296) (hd : d < 4294967296) : mq (u32 c) (u32 d) h = .ok (u32 (Nat.xor c d)) h := by
 show RV.ok (.int .u32 (.ofNat (Nat.xor (c % 4294967296) (d % 4294967296) % 4294967296))) h = _
 rw [Nat.mod_eq_of_lt hc, Nat.mod_eq_of_lt hd, Nat.mod_eq_of_lt (rG hc hd)]; rfl
theorem RI {c : Nat} : bK .shr (u32 c) (.int .u64 (.ofNat 1)) h = .ok (u32 (c / 2)) h := rfl
theorem TH {c d : Nat} : uC (u32 c) (u32 d) h = .ok (.bool (Nat.beq c d)) h := rfl
theorem CI {a : Nat} (ha : a + 1 ≤ 9223372036854775807) : jx (pi a) (pi 1) h = .ok (pi (a + 1)) h := by
 show RV.ok (.int .i64 (@Bool.rec (fun _ => Int) (IntKind.wrap .i64 (.ofNat (a + 1))) (.ofNat (a + 1)) (Nat.ble (a + 1) 9223372036854775807))) h = _
 rw [Nat.ble_eq_true_of_le ha]
theorem vk {c : Nat} (hc : c < 4294967296) : (Nat.land c 1 = 1 ∧ oL c = Nat.xor (c / 2) 3988292384) ∨ (Nat.land c 1 = 0 ∧ oL c = c / 2) := by
 have e : Nat.shiftRight c 1 = c / 2 := rfl
 have l : Nat.land c 1 = c % 2 := Nat.and_one_is_mod c
 unfold oL
 rw [e, l]
 rcases Nat.mod_two_eq_zero_or_one c with g | g
 ·right; rw [g]; exact ⟨rfl, Nat.xor_zero _⟩
 ·left; rw [g]; exact ⟨rfl, rfl⟩
theorem EH {c : Nat} (hc : c < 4294967296) : oL c < 4294967296 := by
 rcases vk hc with ⟨_, e⟩ | ⟨_, e⟩ <;> rw [e]
 ·exact rG (by omega) (by omega)
 ·omega
theorem k5 (a b c d e : AV) : yN cf iv rx (T4 a b c d e) h = tR (jx d (pi 1) h) fun v h => .nm (T3 a b c v) h := rfl
theorem TI {c k : Nat} (hc : c < 4294967296) (hk : k < 8) : Ky cf iv rx (T4 (u32 c) x y z (pi k)) h = .nm (T4 (u32 (oL c)) x y z (pi (k + 1))) h := by
 rw [ND, Kz, br, EG, Nat.ble_eq_true_of_le (by omega : k + 1 ≤ 8)]
 show tR (wF (u32 c) (u32 1) h) (fun _ _ => _) = _
 rw [lW hc (by omega), br, RI, br]
 show tR (uC (u32 (Nat.land c 1)) (u32 1) h) (fun _ _ => _) = _
 rw [TH, br, EG]
 rcases vk hc with ⟨e1, e2⟩ | ⟨e1, e2⟩
 ·rw [e1, e2]
  show tR (mq (u32 (c / 2)) (u32 3988292384) h) (fun _ _ => _) = _
  rw [KA (by omega) (by omega), br, CI (by omega), br]
 ·rw [e1, e2]
  show tR (jx (pi k) (pi 1) h) (fun _ _ => _) = _
  rw [CI (by omega), br]
def NH : Nat → Nat → Nat
 | 0, c => c
 | j + 1, c => NH j (oL c)
theorem KB (c : Nat) : NH 8 c = Ca c := rfl
theorem yO : ∀ (j c : Nat), c < 4294967296 → NH j c < 4294967296
 | 0, _, h => h
 | j + 1, _, h => yO j _ (EH h)
noncomputable abbrev L4 : AC := .loop (.ah Ky .skip)
theorem PM (m : Nat) : ∀ (j c : Nat), c < 4294967296 → j ≤ 8 → exec p (m + 3 + j) L4 (T4 (u32 c) x y z (pi (8 - j))) h = .ex 2 (T4 (u32 (NH j c)) x y z (pi 8)) h
 | 0, c, hc, _ => rfl
 | j + 1, c, hc, hj => by
  rw [show m + 3 + (j + 1) = m + 2 + j + 1 + 1 by omega]
  show RS.bind (Ky (au p (exec p (m + 2 + j))) (aB p (exec p (m + 2 + j))) (fun r h => exec p (m + 2 + j) .skip r h) (T4 (u32 c) x y z (pi (8 - (j + 1)))) h) (fun r h => exec p (m + 2 + j + 1) L4 r h) (fun _ _ _ => _) (fun _ _ _ => _) = _
  rw [TI hc (by omega), show m + 2 + j + 1 = m + 3 + j by omega]
  show exec p (m + 3 + j) L4 (T4 (u32 (oL c)) x y z (pi (8 - (j + 1) + 1))) h = _
  rw [show 8 - (j + 1) + 1 = 8 - j by omega]
  exact PM m j _ (EH hc) (by omega)
noncomputable abbrev B3 : AC := .ah kC_3 (.block 2 L4)
noncomputable abbrev L2 : AC := .loop (.ah CH (.seq (.block 1 B3) (.ah yN .skip)))
def Rd (x : AV) (h : Hp) (i b : Nat) : Prop := ∃ q, ix 1 x (pi i) h = .ok q h ∧ ld q h = .ok (.int .u8 (.ofNat b)) h
theorem TJ (m : Nat) {c i b : Nat} (hc : c < 4294967296) (hr : Rd x h i b) (hb : b ≤ 255) : exec p (m + 14) B3 (T3 (u32 c) x y (pi i)) h = .nm (T4 (u32 (Ca (Nat.xor c b))) x y (pi i) (pi 8)) h := by
 obtain ⟨q, e1, e2⟩ := hr
 show kC_3 (au p (exec p (m + 13))) (aB p (exec p (m + 13))) (fun r h => exec p (m + 13) (.block 2 L4) r h) (T3 (u32 c) x y (pi i)) h = _
 rw [NF, e1, br, e2, br]
 have e3 : cK (.toInt .u32) (.int .u8 (.ofNat b)) h = .ok (u32 b) h := by
  show RV.ok (.int .u32 (.ofNat (b % 4294967296))) h = _
  rw [Nat.mod_eq_of_lt (by omega)]; rfl
 rw [e3, br]
 rw [KA hc (by omega), br]
 show RS.bind (exec p (m + 12) L4 (T4 (u32 (Nat.xor c b)) x y (pi i) (pi 0)) h) (fun _ _ => _) (fun _ _ _ => _) (fun _ _ _ => _) = _
 have := PM (p := p) (h := h) (x := x) (y := y) (z := pi i) (m + 1) 8 (Nat.xor c b) (rG hc (by omega)) (Nat.le_refl _)
 rw [KB] at this
 have e4 : exec p (m + 12) L4 (T4 (u32 (Nat.xor c b)) x y (pi i) (pi 0)) h = .ex 2 (T4 (u32 (Ca (Nat.xor c b))) x y (pi i) (pi 8)) h := this
 rw [e4]
 rfl
theorem PN (m n : Nat) (hn : n < 9223372036854775807) : ∀ (t : List Nat) (i c : Nat), c < 4294967296 → i + t.length = n → (∀ (j : Nat) (hj : j < t.length), Rd x h (i + j) t[j] ∧ t[j] ≤ 255) →
  exec p (m + 20 + t.length) L2 (T3 (u32 c) x (pi n) (pi i)) h = .ex 0 (T2 (u32 (Jh t c))) h
 | [], i, c, hc, hi, _ => by
  have hi : i = n := by simpa using hi
  subst hi
  have : CH (au p (exec p (m + 18))) (aB p (exec p (m + 18))) (fun r h => exec p (m + 18) (.seq (.block 1 B3) (.ah yN .skip)) r h) (T3 (u32 c) x (pi i) (pi i)) h = .ex 0 (T2 (u32 c)) h := by
   rw [EF, Kz, br, EG]
   have : Nat.ble (i + 1) i = false := by rw [Bool.eq_false_iff]; intro e; have := Nat.le_of_ble_eq_true e; omega
   rw [this]
  show RS.bind (CH (au p (exec p (m + 18))) (aB p (exec p (m + 18))) (fun r h => exec p (m + 18) (.seq (.block 1 B3) (.ah yN .skip)) r h) (T3 (u32 c) x (pi i) (pi i)) h) (fun _ _ => _) (fun _ _ _ => _) (fun _ _ _ => _) = _
  rw [this]; rfl
 | b :: t, i, c, hc, hi, hr => by
  have hl : i + 1 + t.length = n := by simp only [List.length_cons] at hi; omega
  obtain ⟨r0, hb⟩ := hr 0 (by simp)
  have r0 : Rd x h i b := r0
  have hb : b ≤ 255 := hb
  have ih := PN m n hn t (i + 1) (Ca (Nat.xor c b)) (by rw [← KB]; exact yO 8 _ (rG hc (by omega))) hl (fun j hj => by
   have := hr (j + 1) (by simpa using hj)
   rw [show i + 1 + j = i + (j + 1) by omega]; simpa using this)
  have : CH (au p (exec p (m + 19 + t.length))) (aB p (exec p (m + 19 + t.length))) (fun r h => exec p (m + 19 + t.length) (.seq (.block 1 B3) (.ah yN .skip)) r h) (T3 (u32 c) x (pi n) (pi i)) h = .nm (T3 (u32 (Ca (Nat.xor c b))) x (pi n) (pi (i + 1))) h := by
   rw [EF, Kz, br, EG, Nat.ble_eq_true_of_le (by omega : i + 1 ≤ n)]
   show exec p (m + 19 + t.length) (.seq (.block 1 B3) (.ah yN .skip)) (T3 (u32 c) x (pi n) (pi i)) h = _
   rw [show m + 19 + t.length = (m + 3 + t.length) + 14 + 1 + 1 by omega]
   show RS.bind (RS.bind (exec p ((m + 3 + t.length) + 14) B3 (T3 (u32 c) x (pi n) (pi i)) h) (fun _ _ => _) (fun _ _ _ => _) (fun _ _ _ => _)) (fun _ _ => _) (fun _ _ _ => _) (fun _ _ _ => _) = _
   rw [TJ _ hc r0 hb]
   show yN (au p (exec p (m + 3 + t.length + 14))) (aB p (exec p (m + 3 + t.length + 14))) (fun r h => exec p (m + 3 + t.length + 14) .skip r h) (T4 (u32 (Ca (Nat.xor c b))) x (pi n) (pi i) (pi 8)) h = _
   rw [k5, CI (by omega), br]
  rw [show m + 20 + (b :: t).length = m + 19 + t.length + 1 + 1 by simp only [List.length_cons]; omega]
  show RS.bind (CH (au p (exec p (m + 19 + t.length))) (aB p (exec p (m + 19 + t.length))) (fun r h => exec p (m + 19 + t.length) (.seq (.block 1 B3) (.ah yN .skip)) r h) (T3 (u32 c) x (pi n) (pi i)) h) (fun r h => exec p (m + 19 + t.length + 1) L2 r h) (fun _ _ _ => _) (fun _ _ _ => _) = _
  rw [this, show m + 19 + t.length + 1 = m + 20 + t.length by omega]
  exact ih
theorem RJ {c : Nat} (hc : c < 4294967296) : wA (u32 c) h = .ok (u32 (Nat.xor 4294967295 c)) h := by
 show RV.ok (.int .u32 (IntKind.wrap .u32 (BitVec.ofInt 32 4294967295 ^^^ BitVec.ofInt 32 (.ofNat c)).toNat)) h = _
 have e : (BitVec.ofInt 32 4294967295 ^^^ BitVec.ofInt 32 (.ofNat c)).toNat = Nat.xor 4294967295 c := by
  rw [BitVec.toNat_xor]
  have e1 : (BitVec.ofInt 32 4294967295).toNat = 4294967295 := rfl
  have e2 : (BitVec.ofInt 32 (.ofNat c)).toNat = c := by
   rw [BitVec.toNat_ofInt]
   show ((Int.ofNat c) % ((2 ^ 32 : Nat) : Int)).toNat = c
   have : (Int.ofNat c) = (c : Int) := rfl
   rw [this]; omega
  rw [e1, e2]; rfl
 rw [e]
 have e2 : IntKind.wrap .u32 (Int.ofNat (Nat.xor 4294967295 c)) = Int.ofNat (Nat.xor 4294967295 c) := by
  rw [← dr]
  show Int.ofNat (Nat.xor 4294967295 c % 4294967296) = _
  rw [Nat.mod_eq_of_lt (rG (by omega) hc)]
 rw [show ((Nat.xor 4294967295 c : Nat) : Int) = Int.ofNat (Nat.xor 4294967295 c) from rfl, e2]; rfl
theorem EI : ∀ (t : List Nat) (c : Nat), c < 4294967296 → (∀ b ∈ t, b ≤ 255) → Jh t c < 4294967296
 | [], _, hc, _ => hc
 | b :: t, c, hc, hb => EI t _ (by
   have := hb b (by simp)
   rw [← KB]; exact yO 8 _ (rG hc (by omega))) (fun a ha => hb a (by simp [ha]))
theorem run (s : List Nat) (hn : s.length < 9223372036854775807) (hl : len x h = .ok (fg s.length) h) (hr : ∀ (j : Nat) (hj : j < s.length), Rd x h j s[j] ∧ s[j] ≤ 255) :
  eu zC (exec p (s.length + 30) xC (aY [x] 0 .nil) h) = .ok (u32 (QW s)) h := by
 have hb : ∀ b ∈ s, b ≤ 255 := fun b hb => by
  obtain ⟨j, hj, rfl⟩ := List.mem_iff_getElem.1 hb
  exact (hr j hj).2
 have hc : Jh s 4294967295 < 4294967296 := EI s _ (by omega) hb
 have e2 := PN (p := p) (x := x) (h := h) 6 s.length hn s 0 4294967295 (by omega) (by omega) (fun j hj => by rw [Nat.zero_add]; exact hr j hj)
 have e1 : exec p (s.length + 30) xC (aY [x] 0 .nil) h = .ret (T1 (u32 (QW s))) h := by
  show RS.bind (tR (len x h) fun v3 h4 => exec p (s.length + 27) (.block 0 L2) (T3 (u32 4294967295) x v3 (pi 0)) h4) (fun r h => exec p (s.length + 28) (.ah kC_6 .skip) r h) (fun _ _ _ => _) (fun _ _ _ => _) = _
  rw [hl, br]
  show RS.bind (RS.bind (exec p (s.length + 26) L2 (T3 (u32 4294967295) x (pi s.length) (pi 0)) h) (fun _ _ => _) (fun _ _ _ => _) (fun _ _ _ => _)) (fun _ _ => _) (fun _ _ _ => _) (fun _ _ _ => _) = _
  rw [show s.length + 26 = 6 + 20 + s.length by omega, e2]
  show kC_6 (au p (exec p (s.length + 27))) (aB p (exec p (s.length + 27))) (fun r h => exec p (s.length + 27) .skip r h) (T2 (u32 (Jh s 4294967295))) h = _
  rw [NG, RJ hc, br]; rfl
 rw [e1]; rfl
end
section
variable {h h' : Hp} {x v : AV} {P : Program} {G : Gl} [NB G] {names : List String} {φ : aI} {w : World}
theorem fS : ∀ {l : List AV} {k : List Nat → RV} {q : Nat}, eQ l k (.err q) = .ok v h' → ∃ s : List Nat, l = byteCells s ∧ (∀ b ∈ s, b ≤ 255) ∧ k s = .ok v h'
 | [], k, q, e => ⟨[], rfl, by simp, e⟩
 | a :: l, k, q, e => by
  obtain ⟨kd, n, rfl, e⟩ := bD e
  obtain ⟨g, e⟩ := az e
  have gk : kd = .u8 := by cases kd <;> first | rfl | cases g
  subst gk
  cases n with
  | ofNat m =>
   obtain ⟨g, e⟩ := az e
   obtain ⟨s, rfl, h1, h2⟩ := fS e
   exact ⟨m :: s, rfl, by
    intro b hb
    rcases List.mem_cons.1 hb with rfl | hb
    ·exact Nat.le_of_ble_eq_true g
    ·exact h1 b hb, h2⟩
  | negSucc m => cases e
end
end Go.Am.Crc
namespace Go.Am
section
variable {P : Program} {φ φ' : aI} {h h' : Hp} {w w' : World} {v : AV} {r : A2} {a : Act} {cv : Value} {n : Nat} {G : Gl} [NB G] {names : List String}
def NI (φ : aI) (h : Hp) (b : Nat) : Prop := ∀ i p, live (ag i h) → φ i = some p → p.da ≠ b
theorem NI.new (H : HR φ h w) {b : Nat} (hb : w.heap.size ≤ b) : NI φ h b := fun i p _ hp => by have := H.bound i p hp; omega
theorem NI.step {b : Nat} (O : NI φ h b) (hb : b < w.heap.size) (S : Step φ h w φ' h' w') : NI φ' h' b ∧ w'.heap[b]? = w.heap[b]? := by
 refine ⟨fun i p hl hp => ?_, S.keeps.rest b hb fun i p hl hp => O i p hl.1 hp⟩
 rcases S.new i p hl hp with ⟨h1, h2, _⟩ | h1 | ⟨j, q, h1, h2, h3⟩
 ·exact O i p h1 h2
 ·omega
 ·rw [← h3]; exact O j q h1.1 h2
theorem HR.off (H : HR φ h w) (hs : w.heap.size ≤ w'.heap.size) (hk : ∀ b, (∃ i p, live (ag i h) ∧ φ i = some p ∧ p.da = b) → w'.heap[b]? = w.heap[b]?) : HR φ h w' where
 obj i hl := let ⟨p, h1, h2⟩ := H.obj i hl; ⟨p, h1, by rw [hk _ ⟨i, p, hl, h1, rfl⟩]; exact h2⟩
 inj := H.inj
 fresh := H.fresh
 bound i p hp := Nat.lt_of_lt_of_le (H.bound i p hp) hs
structure LS (φ₀ : aI) (h₀ : Hp) (w₀ : World) (l D : Nat) (rc : Loop) (φ : aI) (h : Hp) (w : World) : Prop where
 hr : HR φ h w
 step : Step φ₀ h₀ w₀ φ h w
 l0 : w₀.heap.size ≤ l
 d0 : w₀.heap.size ≤ D
 ne : D ≠ l
 KC : NI φ h l
 KD : NI φ h D
 NJ : w.heap[l]? = some (.loop rc)
 Ss : w.heap[D]? = some (.deferred (some []))
variable {φ₀ : aI} {h₀ : Hp} {w₀ : World} {l D : Nat} {rc : Loop}
theorem rH {b : Nat} {o : Go.Obj} (h : w.heap[b]? = some o) : b < w.heap.size := (Array.getElem?_eq_some_iff.1 h).1
theorem LS.go (R : LS φ₀ h₀ w₀ l D rc φ h w) (H : HR φ' h' w') (S : Step φ h w φ' h' w') : LS φ₀ h₀ w₀ l D rc φ' h' w' := by
 obtain ⟨a1, a2⟩ := R.KC.step (rH R.NJ) S
 obtain ⟨b1, b2⟩ := R.KD.step (rH R.Ss) S
 exact ⟨H, R.step.trans S, R.l0, R.d0, R.ne, a1, b1, a2.trans R.NJ, b2.trans R.Ss⟩
theorem vl (S : Step φ₀ h₀ w₀ φ h w) (hs : w.heap.size ≤ w'.heap.size) (hk : ∀ b, b < w₀.heap.size → w'.heap[b]? = w.heap[b]?) (ht : w'.tape = w.tape) (ho : w'.os = w.os) (hu : w'.output = w.output) : Step φ₀ h₀ w₀ φ h w' :=
 ⟨S.le, ⟨Nat.le_trans S.keeps.size hs, fun b hb hn => (hk b hb).trans (S.keeps.rest b hb hn), ht.trans S.keeps.tape, ho.trans S.keeps.os, hu.trans S.keeps.output⟩, S.new⟩
theorem LS.put (R : LS φ₀ h₀ w₀ l D rc φ h w) (rc' : Loop) : LS φ₀ h₀ w₀ l D rc' φ h (w.putObj l (.loop rc')) where
 hr := R.hr.off (by simp) fun b ⟨i, p, hl, hp, e⟩ => World.putObj_heap_other (by rw [← e]; exact R.KC i p hl hp)
 step := vl R.step (by simp) (fun b hb => World.putObj_heap_other (by have := R.l0; omega)) rfl rfl rfl
 l0 := R.l0
 d0 := R.d0
 ne := R.ne
 KC := R.KC
 KD := R.KD
 NJ := World.putObj_heap_same (rH R.NJ)
 Ss := (World.putObj_heap_other R.ne).trans R.Ss
theorem St.later (S : St n G φ r h a w) (hl : φ.le φ') (H : HR φ' h' w') : St n G φ' r h' a w' :=
 ⟨H, fun t ht => (S.aE t ht).mono hl, S.fu, S.size, S.iZ.mono hl⟩
theorem xi {o : Oper} {i : AI} (hop : cE P G names o = some i) : ∀ c, o.op ≠ .defer c := by
 intro c e
 simp only [cE, e] at hop
 cases hop
theorem oW {f : AV → Hp → RT} {y : RT} : ∀ {x z : RT}, x.aG z → z = .ok v h → (f v h).aG y → (RT.elim f (fun n => .err n) (fun n g => .ch n g) x).aG y
 | _, _, .ok _ _, e, g => by cases e; exact g
 | _, _, .err _, e, _ => by cases e
 | _, _, .ch n k c _ hc hl, e, g => .ch n _ c _ hc (oW hl e g)
theorem vm {f : AV → Hp → RT} {q : Nat} : ∀ {x z : RT}, x.aG z → z = .err q → (RT.elim f (fun n => .err n) (fun n g => .ch n g) x).aG (.err q)
 | _, _, .ok _ _, e => by cases e
 | _, _, .err _, e => by cases e; exact .err _
 | _, _, .ch n k c _ hc hl, e => .ch n _ c _ hc (vm hl e)
theorem CJ {f : AV → Hp → RT} {x : RT} (hs : (RT.elim f (fun n => .err n) (fun n g => .ch n g) x).Safe) : x.Safe ∧ ∀ v h, x.aG (.ok v h) → (f v h).Safe :=
 ⟨fun _ hn => hs _ (vm hn rfl), fun _ _ hl _ hn => hs _ (oW hl rfl hn)⟩
theorem Gv {k : A2 → Hp → RT} {i : GI} {l : List GI} (he : (fj k (i :: l) r h).Safe) :
  ∃ d, (∃ y v1 h1, i = .o d (.op y) ∧ y.run r h = .ok v1 h1 ∧ fj k (i :: l) r h = fj k l (cm d v1 r) h1) ∨
   (∃ s x, i = .o d (.Dc s x) ∧ (jh s (ev x r) h).Safe ∧ ∀ v1 h1, (jh s (ev x r) h).aG (.ok v1 h1) → (fj k l (cm d v1 r) h1).Safe ∧ ∀ z, (fj k l (cm d v1 r) h1).aG z → (fj k (i :: l) r h).aG z) := by
 cases i with
 | o d i =>
  cases i with
  | op y =>
   have e : fj k (.o d (.op y) :: l) r h = (RV.rec (fun v h => fj k l (cm d v r) h) (fun n => .err n) (y.run r h) : RT) := rfl
   cases hy : y.run r h with
   | ok v1 h1 => rw [hy] at e; exact ⟨d, .inl ⟨y, v1, h1, rfl, hy, e⟩⟩
   | err q => rw [e, hy] at he; exact (RT.Safe.err he).elim
  | Dc s x =>
   have e : fj k (.o d (.Dc s x) :: l) r h = RT.elim (fun v h => fj k l (cm d v r) h) (fun n => .err n) (fun n f => .ch n f) (jh s (ev x r) h) := rfl
   rw [e] at he
   obtain ⟨s1, s2⟩ := CJ he
   refine ⟨d, .inr ⟨s, x, rfl, s1, fun v1 h1 hl => ⟨s2 v1 h1 hl, fun z hz => ?_⟩⟩⟩
   rw [e]
   exact oW hl rfl hz
  | call f xs => exact (RT.Safe.err he).elim
  | lE x xs => exact (RT.Safe.err he).elim
  | inv k x xs => exact (RT.Safe.err he).elim
 | g a b w d i => exact (RT.Safe.err he).elim
theorem PO {ops : Array Oper} {o : Oper} {d : bw} {i : AI} (e : ir P G n names ops o = .o d i) (hi : i ≠ .op (.bad 400)) : o.guard = none ∧ kJ G n o.dst = some d ∧ cE P G names o = some i := by
 unfold ir at e
 split at e
 ·rename_i d' x hd hx
  split at e
  ·rename_i hg
   cases e; exact ⟨hg, hd, hx⟩
  ·split at e
   ·split at e
    ·cases e
    ·cases e; exact absurd rfl hi
   ·cases e; exact absurd rfl hi
 ·cases e; exact absurd rfl hi
abbrev Sd (n : Nat) (G : Gl) (φ : aI) (r : A2) (h : Hp) (a : Act) (w : World) : Prop := St n G φ r h { a with defers := [] } w
theorem Sd.OW (S : Sd n G φ r h a w) {q : Operand} {x : AO} (e : cO G q = some x) : VR φ (ev x r) (a.eval q) := by
 have := St.OW S e
 cases q <;> exact this
theorem Sd.put (S : Sd n G φ r h a w) {o : Option Tmp} {d : bw} (hd : kJ G n o = some d) (hv : VR φ' v cv) (H : HR φ' h' w') (T : Step φ h w φ' h' w') : Sd n G φ' (cm d v r) h' (a.put o cv) w' := by
 have := St.put S hd hv H T
 cases o <;> exact this
def TK (os : List Oper) (a a1 : Act) : Prop := a1.defers = a.defers ∧ ∀ t, (∀ o ∈ os, o.dst ≠ some t) → a1.tmps.getD t undef = a.tmps.getD t undef
theorem nA {d : Option Tmp} {t : Nat} (hd : d ≠ some t) (x : Value) : (a.put d x).tmps.getD t undef = a.tmps.getD t undef := by
 cases d with
 | none => rfl
 | some s =>
  have : s ≠ t := fun e => hd (by rw [e])
  simp [Act.put, Array.getD_eq_getD_getElem?, Array.getElem?_setIfInBounds_ne this]
theorem rI {t : Nat} (ht : t < a.tmps.size) (x : Value) : (a.put (some t) x).tmps.getD t undef = x := by
 simp [Act.put, Array.getD_eq_getD_getElem?, ht]
theorem yP {F : Fence} {m : Nat} (hF : ∀ f, F.fn f) {ops : Array Oper} {k : A2 → Hp → RT} (rest : List Nat) : ∀ (os pre : List Oper) (post : List Oper) (r : A2) (h : Hp) (φ : aI) (a : Act) (w : World), ops.toList = pre ++ (os ++ post) → Sd n G φ r h a w →
  (fj k (os.map fun o => ir P G n names ops o) r h).Safe →
  ∀ {Q : Exit → Act → World → Prop},
  (∀ r1 h1 φ1 a1 w1, (k r1 h1).Safe → (∀ z, (k r1 h1).aG z → (fj k (os.map fun o => ir P G n names ops o) r h).aG z) → Sd n G φ1 r1 h1 a1 w1 → Step φ h w φ1 h1 w1 → TK os a a1 → wpOpsIn F m P ops Q rest a1 w1) →
  wpOpsIn F m P ops Q (List.range' pre.length os.length ++ rest) a w
 | [], pre, post, r, h, φ, a, w, e, S, he, Q, hQ => hQ r h φ a w he (fun _ hz => hz) S (.refl _ _ _) ⟨rfl, fun _ _ => rfl⟩
 | o :: os, pre, post, r, h, φ, a, w, e, S, he, Q, hQ => by
  have hoi : ops[pre.length]? = some o := by rw [← Array.getElem?_toList, e]; simp
  rw [List.length_cons, List.range'_succ]
  have hρ : ∀ q x, cO G q = some x → VR φ (ev x r) (a.eval q) := fun q x e => Sd.OW S e
  have next : ∀ (d : bw) (v1 : AV) (h1 : Hp) (φ1 : aI) (cv : Value) (w1 : World), kJ G n o.dst = some d → VR φ1 v1 cv → HR φ1 h1 w1 → Step φ h w φ1 h1 w1 → (fj k (os.map fun o => ir P G n names ops o) (cm d v1 r) h1).Safe →
    (∀ z, (fj k (os.map fun o => ir P G n names ops o) (cm d v1 r) h1).aG z → (fj k ((o :: os).map fun o => ir P G n names ops o) r h).aG z) →
    wpOpsIn F m P ops Q (List.range' (pre.length + 1) os.length ++ rest) (a.put o.dst cv) w1 := by
   intro d v1 h1 φ1 cv w1 hd hv H1 T1 he1 hl1
   have := yP (k := k) hF rest os (pre ++ [o]) post (cm d v1 r) h1 φ1 (a.put o.dst cv) w1 (by rw [e]; simp) (Sd.put S hd hv H1 T1) he1 (Q := Q)
    (fun r2 h2 φ2 a2 w2 hk hl2 S2 T2 ht => hQ r2 h2 φ2 a2 w2 hk (fun z hz => hl1 z (hl2 z hz)) S2 (T1.trans T2) ⟨ht.1.trans (by cases o.dst <;> rfl), fun t hn => (ht.2 t fun o ho => hn o (by simp [ho])).trans (nA (hn o (by simp)) cv)⟩)
   simpa using this
  show (match ops[pre.length]? with
   | none => _
   | some o => _)
  rw [hoi]
  obtain ⟨d, ⟨y, v1, h1, hi, hy, he1⟩ | ⟨s, x, hi, hsn, hl⟩⟩ := Gv he
  ·obtain ⟨hg, hd, hop⟩ := PO hi (fun e => by cases e; cases hy)
   show if Region.wanted o (yielded ops a.tmps) = true then _ else _
   rw [if_pos (by simp [Region.wanted, hg])]
   refine ⟨fun f _ => hF f, ?_⟩
   rw [Oper.semAt_eq _ _ _ (xi hop)]
   obtain ⟨nx, w1, φ1, e1, e2, e3, e4⟩ := Dh hρ (fun c => rfl) hop (show HR φ h w from S.hr) hy
   rw [e1]
   have he2 : (fj k (os.map fun o => ir P G n names ops o) (cm d v1 r) h1).Safe := by rw [← he1]; exact he
   have hl2 : ∀ z, (fj k (os.map fun o => ir P G n names ops o) (cm d v1 r) h1).aG z → (fj k ((o :: os).map fun o => ir P G n names ops o) r h).aG z := fun z hz => by rw [← he1] at hz; exact hz
   rcases e2 with ⟨cv, rfl, hv⟩ | ⟨rfl, rfl⟩
   ·exact next d v1 h1 φ1 cv w1 hd hv e3 e4 he2 hl2
   ·exact next d .undef h1 φ1 undef w1 hd (.undef _) e3 e4 he2 hl2
  ·obtain ⟨hg, hd, hop⟩ := PO hi (fun e => by cases e)
   show if Region.wanted o (yielded ops a.tmps) = true then _ else _
   rw [if_pos (by simp [Region.wanted, hg])]
   refine ⟨fun f _ => hF f, ?_⟩
   rw [Oper.semAt_eq _ _ _ (xi hop)]
   obtain ⟨cv, w1, φ1, v2, h2, hlf, e1, hv, e3, e4⟩ := zx hρ hop (show HR φ h w from S.hr) hsn
   rw [e1]
   obtain ⟨q1, q2⟩ := hl v2 h2 hlf
   exact next d _ _ φ1 cv w1 hd hv e3 e4 q1 q2
theorem eJ {F : Fence} {m id : Nat} (hF : ∀ f, F.fn f) {ops : Array Oper} {l : List GI} (hl : l = ops.toList.map fun o => ir P G n names ops o) {k : A2 → Hp → RT} (S : Sd n G φ r h a w) (he : (fj k l r h).Safe) {X : RT} (hX : ∀ z, (fj k l r h).aG z → X.aG z) {Q : Exit → Act → World → Prop}
  (hQ : ∀ r1 h1 φ1 a1 w1, (k r1 h1).Safe → (∀ z, (k r1 h1).aG z → X.aG z) → Sd n G φ1 r1 h1 a1 w1 → Step φ h w φ1 h1 w1 → TK ops.toList a a1 → Q .normal a1 w1) : (Code.region id ops false).wpIn F m P Q a w := by
 subst hl
 have := yP (F := F) (m := m) hF (ops := ops) (Q := Q) [] ops.toList [] [] r h φ a w (by simp) S he (fun r1 h1 φ1 a1 w1 b1 b2 b3 b4 b5 => hQ r1 h1 φ1 a1 w1 b1 (fun z hz => hX z (b2 z hz)) b3 b4 b5)
 refine wpIn_region ?_
 rw [List.range_eq_range', ← Array.length_toList]
 simpa using this
structure AX (P : Program) (G : Gl) (names : List String) (f g : Nat) (l0 l1 k0 kn k2 k3 ra rb l4 : List GI) where
 fn : Func
 gn : Func
 i0 : Nat
 i1 : Nat
 i2 : Nat
 i3 : Nat
 i4 : Nat
 j0 : Nat
 j1 : Nat
 j2 : Nat
 j3 : Nat
 o0 : Array Oper
 o1 : Array Oper
 oa : Array Oper
 ob : Array Oper
 o4 : Array Oper
 p0 : Array Oper
 p1 : Array Oper
 p2 : Array Oper
 p3 : Array Oper
 om : Oper
 q3 : List Oper
 oc : Oper
 on : Oper
 cl : Call
 ty : TypeId
 hf : P.funcs[f]? = some fn
 fb : fn.body = some (.seq (.region i0 o0 false) (.seq (.seq (.region i1 o1 false) (.block 0 (.rangeFunc (.tmp 6) #[7] (.region i2 oa false) (.block 1 (.region i3 ob false))))) (.seq (.region i4 o4 false) .ret)))
 Vm : fn.ntmps = 13
 fr : fn.results.toList.mapM (OU P 13) = some [.t .h0 .h4]
 hg : P.funcs[g]? = some gn
 PQ : gn.name ≠ "runtime.NumGoroutine"
 gb : gn.body = some (.seq (.region j0 p0 false) (.block 0 (.loop (.seq (.region j1 p1 false) (.seq (.cond (.tmp 7) .skip (.exit 0)) (.block 1 (.seq (.region j2 p2 false) (.seq (.region j3 p3 false) (.cond (.tmp 13) .ret .skip)))))))))
 Vn : gn.ntmps = 14
 gr : gn.results.toList.mapM (OU P 14) = some []
 e0 : l0 = o0.toList.map fun o => ir P G 13 names o0 o
 e1 : l1 = o1.toList.map fun o => ir P G 13 names o1 o
 ea : ra = oa.toList.map fun o => ir P G 13 names oa o
 eb : rb = ob.toList.map fun o => ir P G 13 names ob o
 e4 : l4 = o4.toList.map fun o => ir P G 13 names o4 o
 a0 : k0 = p0.toList.map fun o => ir P G 14 names p0 o
 a1 : kn = p1.toList.map fun o => ir P G 14 names p1 o
 a2 : k2 = p2.toList.map fun o => ir P G 14 names p2 o
 a3 : k3 = q3.map fun o => ir P G 14 names p3 o
 s3 : p3.toList = om :: (q3 ++ [oc, on])
 mo : om.op = .move (.tmp 0) ∧ om.dst = some 10 ∧ om.guard = none
 co : oc.op = .call cl ∧ cl.callee = .value (.tmp 10) ∧ cl.args = #[.tmp 11] ∧ oc.dst = some 12 ∧ oc.guard = none
 no : on.op = .unOp .not ty (.tmp 12) ∧ on.dst = some 13 ∧ on.guard = none
 b0 : ∀ o ∈ p0.toList ++ (p1.toList ++ p2.toList), o.dst ≠ some 0
 b3 : ∀ o ∈ q3, o.dst ≠ some 10 ∧ o.dst ≠ some 0
end
section
variable {P : Program} {φ φ' : aI} {h h' : Hp} {w w' : World} {v : AV} {r : A2} {a : Act} {cv : Value} {n : Nat} {G : Gl} [NB G] {names : List String}
theorem KE {x : AV} {k : Nat → List AV → RT} {q : Nat} (e : (Ji x k (.err q)).Safe) : ∃ f cs, x = .fn f cs ∧ Ji x k (.err q) = k f cs := by
 cases x <;> first | exact ⟨_, _, rfl, rfl⟩ | exact (RT.Safe.err e).elim
theorem CL {x : AV} {k : Bool → RT} {q : Nat} (e : (td x k (.err q)).Safe) : ∃ b, x = .bool b ∧ td x k (.err q) = k b := by
 cases x <;> first | exact ⟨_, rfl, rfl⟩ | exact (RT.Safe.err e).elim
theorem alloc_old (o : Go.Obj) {b : Nat} (hb : b < w.heap.size) : (w.alloc o).heap[b]? = w.heap[b]? := by
 show (w.heap.push o)[b]? = _
 rw [Array.getElem?_push_lt hb, Array.getElem?_eq_getElem hb]
theorem RK (S : Sd n G φ r h a w) {t : Nat} (ht : t < 256) {f : Nat} {c : AV} (e : an (hi t) (lo t) r = .fn f [c]) : ∃ cv, a.tmps.getD t undef = .func (.func f) #[] #[cv] ∧ VR φ c cv := by
 have := S.Mo t ht
 rw [e] at this
 have : VR φ (.fn f [c]) (a.tmps.getD t undef) := this
 generalize a.tmps.getD t undef = z at this
 cases this with
 | fn _ _ vs hvs =>
  cases hvs with
  | cons _ cv _ _ h1 h2 => cases h2; exact ⟨cv, rfl, h1⟩
theorem KG (S : Sd n G φ r h a w) {t : Nat} (ht : t < 256) {b : Bool} (e : an (hi t) (lo t) r = .bool b) : a.tmps.getD t undef = .bool b := by
 have := S.Mo t ht
 rw [e] at this
 exact this.cW
variable {f g : Nat} {l0 l1 k0 kn k2 k3 ra rb l4 : List GI}
theorem KH (q : Nat) : List.range (q + 3) = 0 :: (List.range' 1 q ++ [q + 1, q + 2]) := by
 rw [List.range_eq_range', show q + 3 = (q + 2) + 1 by omega, List.range'_succ]
 congr 1
 rw [show q + 2 = q + 2 by rfl, ← List.range'_append_1]
 simp [List.range'_succ]
 omega
set_option maxHeartbeats 2000000 in
theorem NL (C : AX P G names f g l0 l1 k0 kn k2 k3 ra rb l4) : qH P G (.QV g l0 l1 k0 kn k2 k3 ra rb l4) f := by
 intro φ h w args vals hg H hv hs
 obtain ⟨X, hX⟩ : ∃ X, dH (.QV g l0 l1 k0 kn k2 k3 ra rb l4) args h = X := ⟨_, rfl⟩
 rw [hX] at hs ⊢
 obtain ⟨s, x, rfl, eX⟩ : ∃ s x, args = [s, x] ∧ yq g l0 l1 k0 kn k2 k3 ra rb l4 s x h = X := by
  match args with
  | [] => have : X = .err 154 := hX.symm; rw [this] at hs; exact (RT.Safe.err hs).elim
  | [_] => have : X = .err 154 := hX.symm; rw [this] at hs; exact (RT.Safe.err hs).elim
  | [s, x] => exact ⟨s, x, rfl, hX⟩
  | _ :: _ :: _ :: _ => have : X = .err 154 := hX.symm; rw [this] at hs; exact (RT.Safe.err hs).elim
 have e : (yq g l0 l1 k0 kn k2 k3 ra rb l4 s x h).Safe := by rw [eX]; exact hs
 have L : ∀ z, (yq g l0 l1 k0 kn k2 k3 ra rb l4 s x h).aG z → X.aG z := fun z hz => by rw [eX] at hz; exact hz
 have hF : ∀ f, Fence.wide.fn f := fun _ => trivial
 have S0 := St.start H hv hg (by simp : [s, x].length ≤ 256) 13
 refine (callsIn_wide (n := 2)).1 (callsIn_of_wp_marks C.hf C.fb trivial ?_)
 rw [C.Vm]
 refine wpIn_seq (eJ hF C.e0 S0 e L ?_)
 intro r1 h1 φ1 a1 w1 e1 L1 S1 T1 K1
 refine wpIn_seq (wpIn_seq (eJ hF C.e1 S1 e1 L1 ?_))
 intro r2 h2 φ2 a2 w2 e2 L2 S2 T2 K2
 have T := T1.trans T2
 have hd : a2.defers = [] := K2.1.trans K1.1
 obtain ⟨g', cs, hx, ex⟩ := KE e2
 have ex : Pk g k0 kn k2 k3 ra rb l4 r2 h2 = _ := ex
 rw [ex] at e2 L2
 obtain ⟨hgg, ey⟩ : g = g' ∧ ∃ c, cs = [c] ∧ (Cc k0 kn k2 k3 ra rb l4 r2 c h2).Safe ∧ ∀ z, (Cc k0 kn k2 k3 ra rb l4 r2 c h2).aG z → X.aG z := by
  cases hb : Nat.beq g g' with
  | false => rw [hb] at e2; exact (RT.Safe.err e2).elim
  | true =>
   rw [hb] at e2 L2
   refine ⟨Nat.eq_of_beq_eq_true hb, ?_⟩
   match cs with
   | [] => exact (RT.Safe.err e2).elim
   | [c] => exact ⟨c, rfl, e2, L2⟩
   | _ :: _ :: _ => exact (RT.Safe.err e2).elim
 subst hgg
 obtain ⟨c, rfl, ez, Lz⟩ := ey
 clear e2 L2 ex
 obtain ⟨cv, h6, hc⟩ := RK S2 (t := 6) (by omega) hx
 refine wpIn_block (wpIn_rangeFunc fun fn' _ => ?_)
 obtain ⟨D, hD⟩ : ∃ D, D = w2.heap.size := ⟨_, rfl⟩
 obtain ⟨l, hl⟩ : ∃ l, l = w2.heap.size + 1 := ⟨_, rfl⟩
 obtain ⟨rc, hrc⟩ : ∃ rc : LoopState → Loop, rc = fun st => { state := st, pending := none, fn := fn', tmps := a2.tmps, params := #[7], assign := .region C.i2 C.oa false, body := .block 1 (.region C.i3 C.ob false), defers := D } := ⟨_, rfl⟩
 obtain ⟨W0, hW0⟩ : ∃ W0, W0 = (w2.alloc (.deferred (some []))).alloc (.loop (rc .ready)) := ⟨_, rfl⟩
 have hsz : W0.heap.size = w2.heap.size + 2 := by rw [hW0]; simp
 have hold : ∀ b, b < w2.heap.size → W0.heap[b]? = w2.heap[b]? := fun b hb => by
  rw [hW0, alloc_old _ (by simp; omega), alloc_old _ hb]
 have H2 : HR φ2 h2 w2 := S2.hr
 have R0 : LS φ h w l D (rc .ready) φ2 h2 W0 := {
  hr := H2.ext (by omega) hold
  step := vl T (by omega) (fun b hb => hold b (Nat.lt_of_lt_of_le hb T.keeps.size)) (by rw [hW0]; rfl) (by rw [hW0]; rfl) (by rw [hW0]; rfl)
  l0 := by have := T.keeps.size; omega
  d0 := by have := T.keeps.size; omega
  ne := by omega
  KC := NI.new H2 (by omega)
  KD := NI.new H2 (by omega)
  NJ := by
   rw [hW0, hl]
   have := World.alloc_heap_new (w2.alloc (.deferred (some []))) (.loop (rc .ready))
   simpa using this
  Ss := by
   rw [hW0, hD, alloc_old _ (by simp)]
   exact World.alloc_heap_new w2 _ }
 -- what comes behind the range
 have fin : ∀ (φ3 : aI) (h3 : Hp) (w3 : World), LS φ h w l D (rc .ready) φ3 h3 w3 → φ2.le φ3 → (wH l4 r2 h3).Safe → (∀ z, (wH l4 r2 h3).aG z → X.aG z) → ∃ w4, (Instr.endLoop l).run P w3 = .ok none w4 ∧
   (Code.seq (.region C.i4 C.o4 false) .ret).wpIn Fence.wide 2 P (bodyPostM Fence.wide 2 P C.fn (dN φ h w X)) { a2 with defers := { target := .collected D, args := #[] } :: a2.defers } w4 := by
  intro φ3 h3 w3 R le e L
  refine ⟨w3.putObj l (.loop { rc .ready with state := .exhausted }), by
   have := run_endLoop (P := P) R.NJ (by rw [hrc]; simp)
   rw [this, hrc], ?_⟩
  have R4 := R.put { rc .ready with state := .exhausted }
  have S4 : Sd 13 G φ3 r2 h3 { a2 with defers := { target := .collected D, args := #[] } :: a2.defers } (w3.putObj l (.loop { rc .ready with state := .exhausted })) := St.later S2 le R4.hr
  refine wpIn_seq (eJ hF C.e4 S4 e L ?_)
  intro r5 h5 φ5 a5 w5 e L S5 T5 K5
  have R5 := R4.go S5.hr T5
  refine wpIn_ret ?_
  show LeavesInM Fence.wide 2 P C.fn a5.tmps _ a5.defers .returning w5
  rw [K5.1]
  refine ⟨by simp, .inl ⟨D, _, rfl, run_takeDeferred R5.Ss, ?_⟩⟩
  rw [hd]
  have H6 : HR φ5 h5 (w5.putObj D (.deferred none)) := R5.hr.off (by simp) fun b ⟨i, p, hl, hp, e⟩ => World.putObj_heap_other (by rw [← e]; exact R5.KD i p hl hp)
  have S6 := St.later S5 (aI.le_refl _) H6
  obtain ⟨_, cv5, hres, hv5⟩ := kQ (fn := C.fn) (v := an .h0 .h4 r5) (h' := h5) S6 C.fr rfl
  exact ⟨cv5, hres, an .h0 .h4 r5, h5, cv5, φ5, L _ (.ok _ _), rfl, hv5, H6, vl R5.step (by simp) (fun b hb => World.putObj_heap_other (by have := R5.d0; omega)) rfl rfl rfl⟩
 have eg : ∀ args w, (callFunc g args).run P w = .ok (.enter g args) w := fun args w => fw C.hg C.PQ C.gb
 refine ⟨l, [{ target := .collected D, args := #[] }], W0, { target := .fn (.func g) #[cv], args := #[.func (.yield l) #[] #[]] }, W0, g, #[.func (.yield l) #[] #[], cv], W0, ?_, ?_, fun _ _ => trivial, ?_, fun _ => by omega, ?_⟩
 ·rw [hW0, hrc, hl, hD]
  exact run_enterLoop_outer _ _ _ _ _
 ·have h6s : a2.tmps[6]?.getD undef = .func (.func g) #[] #[cv] := by rw [← Array.getD_eq_getD_getElem?]; exact h6
  simp [resolve, go_sem, h6s]
 ·simp [invoke, go_sem, eg]
 refine callsIn_of_wp C.hg C.gb trivial ?_
 rw [C.Vn]
 have Sg := St.start (vals := [.func (.yield l) #[] #[], cv]) R0.hr (.cons _ _ _ _ (.undef _) (.cons _ _ _ _ hc .nil)) S2.iZ (by simp : [AV.undef, c].length ≤ 256) 14
 refine wpIn_seq (eJ hF C.a0 Sg ez Lz ?_)
 intro q1 h3 φ3 b1 w3 e3 L3 Sq1 T3 K3
 have y1 : b1.tmps.getD 0 undef = .func (.yield l) #[] #[] := K3.2 0 fun o ho => C.b0 o (by simp [ho])
 refine wpIn_block (wpIn_loop_rounds 13 ?_)
 rw [roundsIn_succ]
 have over : ∀ (q : A2) (h3 : Hp) (φ3 : aI) (b : Act) (w3 : World), Sd 14 G φ3 q h3 b w3 → b.defers = [] → LS φ h w l D (rc .ready) φ3 h3 w3 → φ2.le φ3 → (wH l4 r2 h3).Safe → (∀ z, (wH l4 r2 h3).aG z → X.aG z) →
   b.defers = [] ∧ ∃ x, (results C.gn b.tmps).run P w3 = .ok x w3 ∧ ∃ w4, (Instr.endLoop l).run P w3 = .ok none w4 ∧
   (Code.seq (.region C.i4 C.o4 false) .ret).wpIn Fence.wide 2 P (bodyPostM Fence.wide 2 P C.fn (dN φ h w X)) { a2 with defers := { target := .collected D, args := #[] } :: a2.defers } w4 := by
  intro q h3 φ3 b w3 S hb R le e L
  obtain ⟨_, x, hres, _⟩ := kQ (fn := C.gn) (v := cn) (h' := h3) S C.gr rfl
  exact ⟨hb, x, hres, fin φ3 h3 w3 R le e L⟩
 -- the rounds
 refine wpIn_seq (eJ hF C.a1 Sq1 e3 L3 ?_)
 intro q2 h4 φ4 b2 w4 e4 L4 Sq2 T4 K4
 have y2 : b2.tmps.getD 0 undef = .func (.yield l) #[] #[] := (K4.2 0 fun o ho => C.b0 o (by simp [ho])).trans y1
 have R1 := R0.go Sq1.hr T3
 have R2 := R1.go Sq2.hr T4
 have le4 : φ2.le φ4 := aI.le_trans T3.le T4.le
 have d2 : b2.defers = [] := K4.1.trans K3.1
 clear e3 L3 K3 K4 y1 Sq1 T3 T4 R1
 generalize (12 : Nat) = fuel at e4 L4 ⊢
 induction fuel generalizing q2 h4 φ4 b2 w4 with
 | zero => exact (RT.Safe.err e4).elim
 | succ fuel ih =>
 obtain ⟨t, ht, e5⟩ := CL (show (td (an .h0 .h7 q2) (fun t => (@Bool.rec (fun _ => RT) (wH l4 r2 h4) (DX (Cb kn k2 k3 ra rb l4 r2 fuel) kn k2 k3 ra rb r2 q2 h4) t : RT)) (.err 156)).Safe from e4)
 have e5 : Cb kn k2 k3 ra rb l4 r2 (fuel + 1) q2 h4 = _ := e5
 rw [e5] at e4 L4
 have h7 : b2.eval (.tmp 7) = .bool t := KG Sq2 (t := 7) (by omega) ht
 cases t with
 | false =>
  obtain ⟨c1, x, c2, w5, c3, c4⟩ := over q2 h4 φ4 b2 w4 Sq2 d2 R2 le4 e4 L4
  exact wpIn_seq (wpIn_cond_false h7 (wpIn_exit ⟨c1, x, c2, none, w5, c3, c4⟩))
 | true =>
  refine wpIn_seq (wpIn_cond_true h7 (wpIn_skip ?_))
  refine wpIn_block (wpIn_seq (eJ hF C.a2 Sq2 e4 L4 ?_))
  intro q3 h5 φ5 b3 w5 e6 L6 Sq3 T5 K5
  have y3 : b3.eval (.tmp 0) = .func (.yield l) #[] #[] := (K5.2 0 fun o ho => C.b0 o (by simp [ho])).trans y2
  refine wpIn_seq (wpIn_region ?_)
  have hsz3 : C.p3.size = C.q3.length + 3 := by rw [← Array.length_toList, C.s3]; simp
  rw [hsz3, KH]
  show (match C.p3[0]? with
   | none => _
   | some o => _)
  rw [show C.p3[0]? = some C.om by rw [← Array.getElem?_toList, C.s3]; rfl]
  show if Region.wanted C.om (yielded C.p3 b3.tmps) = true then _ else _
  rw [if_pos (by simp [Region.wanted, C.mo.2.2])]
  refine ⟨fun f _ => trivial, ?_⟩
  rw [Oper.semAt_eq _ _ _ (fun c e => by rw [C.mo.1] at e; cases e)]
  have hm : (execOp b3.eval C.om).run P w5 = .ok (.value (b3.eval (.tmp 0))) w5 := by simp [execOp, C.mo.1, go_sem]
  rw [hm]
  show wpOpsIn _ _ _ _ _ _ (b3.put C.om.dst (b3.eval (.tmp 0))) w5
  have Sq4 : Sd 14 G φ5 (jG .h0 .ha .undef q3) h5 (b3.put C.om.dst (b3.eval (.tmp 0))) w5 := Sd.put Sq3 (d := .t .h0 .ha) (by rw [C.mo.2.1]; exact sP (by omega) (by omega)) (.undef _) Sq3.hr (.refl _ _ _)
  have le5 : φ2.le φ5 := aI.le_trans le4 T5.le
  have R3 := R2.go Sq3.hr T5
  have s0 : (b3.put C.om.dst (b3.eval (.tmp 0))).tmps.getD 0 undef = .func (.yield l) #[] #[] := by rw [nA (by rw [C.mo.2.1]; simp)]; exact y3
  refine yP hF [C.q3.length + 1, C.q3.length + 2] C.q3 [C.om] [C.oc, C.on] (jG .h0 .ha .undef q3) h5 φ5 (b3.put C.om.dst (b3.eval (.tmp 0))) w5 C.s3 Sq4 (by rw [← C.a3]; exact e6) ?_
  intro q5 h6 φ6 b5 w6 e7 L7 Sq5 T6 K6
  rw [← C.a3] at L7
  have L7 := fun z hz => L6 z (L7 z hz)
  have y5 : b5.tmps.getD 10 undef = .func (.yield l) #[] #[] := by
   rw [K6.2 10 (fun o ho => (C.b3 o ho).1), C.mo.2.1, rI (a := b3) (Nat.lt_of_lt_of_le (by omega) Sq3.size), y3]
  have y50 : b5.tmps.getD 0 undef = .func (.yield l) #[] #[] := (K6.2 0 (fun o ho => (C.b3 o ho).2)).trans s0
  have le6 : φ2.le φ6 := aI.le_trans le5 T6.le
  have R4 := R3.go Sq5.hr T6
  have d5 : b5.defers = [] := K6.1.trans ((show (b3.put C.om.dst (b3.eval (.tmp 0))).defers = b3.defers by cases C.om.dst <;> rfl).trans (K5.1.trans d2))
  show (match C.p3[C.q3.length + 1]? with
   | none => _
   | some o => _)
  rw [show C.p3[C.q3.length + 1]? = some C.oc by rw [← Array.getElem?_toList, C.s3]; simp]
  show if Region.wanted C.oc (yielded C.p3 b5.tmps) = true then _ else _
  rw [if_pos (by simp [Region.wanted, C.co.2.2.2.2])]
  refine ⟨fun f _ => trivial, ?_⟩
  rw [Oper.semAt_eq _ _ _ (fun c e => by rw [C.co.1] at e; cases e)]
  have hcall : (execOp b5.eval C.oc).run P w6 = .ok (.round l fn' (a2.tmps.setIfInBounds 7 (b5.eval (.tmp 11))) (.region C.i2 C.oa false) (.block 1 (.region C.i3 C.ob false))) w6 := by
   have y5s : b5.tmps[10]?.getD undef = .func (.yield l) #[] #[] := by rw [← Array.getD_eq_getD_getElem?]; exact y5
   have hy := run_yield (P := P) (args := #[b5.eval (.tmp 11)]) R4.NJ (by rw [hrc]; rfl)
   have : (execOp b5.eval C.oc).run P w6 = (Instr.yield l #[b5.eval (.tmp 11)]).run P w6 := by
    simp [execOp, C.co.1, resolve, C.co.2.1, C.co.2.2.1, invoke, go_sem, y5s]
   rw [this]
   simpa [hrc] using hy
  rw [hcall]
  refine ⟨fun _ => by omega, roundIn_of_wpIn trivial ?_⟩
  have Sr : Sd 13 G φ6 (jG .h0 .h7 (an .h0 .hb q5) r2) h6 { tmps := a2.tmps.setIfInBounds 7 (b5.eval (.tmp 11)), defers := [] } w6 :=
   St.put (St.later S2 le6 Sq5.hr) (o := some 7) (d := .t .h0 .h7) (sP (by omega) (by omega)) (Sd.OW (q := .tmp 11) (x := .t .h0 .hb) Sq5 (SD (by omega))) Sq5.hr (.refl _ _ _)
  refine eJ (fun _ => trivial) C.ea Sr e7 L7 ?_
  intro r6 h7' φ7 a6 w7 e8 L8 Sr6 T7 K7
  have R5 := R4.go Sr6.hr T7
  refine ⟨_, run_beginRound R5.NJ (by rw [hrc]), ?_⟩
  have R6 := R5.put { rc .ready with state := .busy }
  refine wpIn_block (eJ (fun _ => trivial) C.eb (St.later Sr6 (aI.le_refl _) R6.hr) e8 L8 ?_)
  intro _ h8 φ8 a7 w8 e9 L9 Sr7 T8 K8
  have R7 := R6.go Sr7.hr T8
  refine ⟨_, _, run_endRound none R7.NJ, ?_⟩
  have R8 : LS φ h w l D (rc .ready) φ8 h8 (w8.putObj l (.loop { { rc .ready with state := .busy } with state := if (none : Option Code).isNone then .ready else .done, pending := none })) := by
   have := R7.put (rc .ready)
   rw [hrc] at this ⊢
   exact this
  obtain ⟨w9, hw9⟩ : ∃ w9, w9 = w8.putObj l (.loop { { rc .ready with state := .busy } with state := if (none : Option Code).isNone then .ready else .done, pending := none }) := ⟨_, rfl⟩
  rw [← hw9] at R8 ⊢
  show wpOpsIn _ _ _ _ _ [C.q3.length + 2] (b5.put C.oc.dst (.bool true)) w9
  have le8 : φ6.le φ8 := aI.le_trans T7.le T8.le
  have Sq6 : Sd 14 G φ8 (jG .h0 .hc .undef q5) h8 (b5.put C.oc.dst (.bool true)) w9 := Sd.put (St.later Sq5 le8 R8.hr) (d := .t .h0 .hc) (by rw [C.co.2.2.2.1]; exact sP (by omega) (by omega)) (.undef _) R8.hr (.refl _ _ _)
  have y12 : (b5.put C.oc.dst (.bool true)).tmps.getD 12 undef = .bool true := by
   rw [C.co.2.2.2.1, rI (a := b5) (Nat.lt_of_lt_of_le (by omega) Sq5.size)]
  show (match C.p3[C.q3.length + 2]? with
   | none => _
   | some o => _)
  rw [show C.p3[C.q3.length + 2]? = some C.on by rw [← Array.getElem?_toList, C.s3]; simp]
  show if Region.wanted C.on (yielded C.p3 (b5.put C.oc.dst (.bool true)).tmps) = true then _ else _
  rw [if_pos (by simp [Region.wanted, C.no.2.2])]
  refine ⟨fun f _ => trivial, ?_⟩
  rw [Oper.semAt_eq _ _ _ (fun c e => by rw [C.no.1] at e; cases e)]
  have hnot : (execOp (b5.put C.oc.dst (.bool true)).eval C.on).run P w9 = .ok (.value (.bool false)) w9 := by
   have y12s : (b5.put C.oc.dst (.bool true)).tmps[12]?.getD undef = .bool true := by rw [← Array.getD_eq_getD_getElem?]; exact y12
   generalize b5.put C.oc.dst (.bool true) = b at y12s ⊢
   simp [execOp, C.no.1, go_sem, y12s, Op.unary]
  rw [hnot]
  obtain ⟨b6, hb6⟩ : ∃ b6, b6 = (b5.put C.oc.dst (.bool true)).put C.on.dst (.bool false) := ⟨_, rfl⟩
  have Sq7 : Sd 14 G φ8 (jG .h0 .hd .undef (jG .h0 .hc .undef q5)) h8 b6 w9 := by
   rw [hb6]; exact Sd.put Sq6 (d := .t .h0 .hd) (by rw [C.no.2.1]; exact sP (by omega) (by omega)) (.undef _) Sq6.hr (.refl _ _ _)
  have d6 : b6.defers = [] := by
   rw [hb6]
   have : ∀ (b : Act) (d : Option Tmp) (x : Value), (b.put d x).defers = b.defers := fun b d x => by cases d <;> rfl
   rw [this, this, d5]
  have y13 : b6.eval (.tmp 13) = .bool false := by
   rw [hb6, C.no.2.1]
   exact rI (a := b5.put C.oc.dst (.bool true)) (Nat.lt_of_lt_of_le (by omega) Sq6.size) _
  have y60 : b6.tmps.getD 0 undef = .func (.yield l) #[] #[] := by
   rw [hb6, nA (by rw [C.no.2.1]; simp), nA (by rw [C.co.2.2.2.1]; simp)]; exact y50
  show Code.wpIn _ _ _ (Code.cond (.tmp 13) .ret .skip) _ ((b5.put C.oc.dst (.bool true)).put C.on.dst (.bool false)) w9
  rw [← hb6]
  refine wpIn_cond_false y13 (wpIn_skip ?_)
  show Code.roundsIn _ _ _ _ _ (fuel + 1) b6 w9
  rw [roundsIn_succ]
  refine wpIn_seq (eJ hF C.a1 Sq7 e9 L9 ?_)
  intro q7 h9 φ9 b7 w10 e10 L10 Sq8 T9 K9
  exact ih q7 h9 φ9 b7 w10 Sq8 ((K9.2 0 fun o ho => C.b0 o (by simp [ho])).trans y60) (R8.go Sq8.hr T9) (aI.le_trans le6 (aI.le_trans le8 T9.le)) (K9.1.trans d6) e10 L10
end
variable {P : Program} {φ : aI} {h h' : Hp} {w : World} {v : AV} {r : A2} {cx cy : Value} {G : Gl} {f : Nat} {fn : Func}
theorem oX {args : List AV} {k : AV → RV} (hs : (uE args k).lL.Safe) : ∃ x, args = [x] ∧ uE args k = k x := by
 cases args with
 | nil => exact (RT.Safe.err hs).elim
 | cons a t => cases t with
  | nil => exact ⟨a, rfl, rfl⟩
  | cons b t => exact (RT.Safe.err hs).elim
theorem KI (hf : P.funcs[f]? = some fn) (hname : (fn.name == "runtime.NumGoroutine") = false) (hb : fn.body.isNone = true) (hn : Extern.findNext fn = none) (he : Extern.find fn = some Extern.AbiNoEscape.same) : lH P G .Jg f := by
 intro φ h w args vals hg H hv hs
 obtain ⟨x, rfl, e⟩ := oX (k := fun x => .ok x h) hs
 cases hv with
 | cons a c as cs h1 h2 =>
  cases h2
  refine ⟨c, w, ?_, x, h, c, φ, .ok _ _, rfl, h1, H, .refl _ _ _⟩
  rw [run_callFunc_extern hf hname hb hn he]
  rfl
theorem xj : ∀ (n t : Nat) (acc : Array Value), (∀ x, x ∈ acc → x.oneCell' = true) → ∀ x, x ∈ Extern.BytealgMakeNoZero.digits n t acc → x.oneCell' = true
 | 0, _, _, ha => ha
 | n + 1, t, acc, ha => xj n _ _ fun x hx => by
  rcases Array.mem_push.1 hx with g | g
  ·exact ha x g
  ·rw [g]; rfl
theorem KJ (w : World) (ps : Array TypeId) (t e : TypeId) (ht : P.underlying t = some (.slice e)) (n : Nat) (hn : n ≤ 281474976710656) :
  ∃ cs : Array Value, (Extern.BytealgMakeNoZero.makeNoZero ps #[t] #[.int .i64 n]).run P w = .ok (.slice (some ⟨w.heap.size, 0, none⟩) n cs.size) (w.drew.drew.alloc (.cells cs e)) ∧ n ≤ cs.size ∧ ∀ x, x ∈ cs → x.oneCell' = true := by
 have hdef : Extern.BytealgMakeNoZero.makeNoZero ps #[t] #[.int .i64 n] =
   (do
    let .slice elem ← underlying t | stuck "bytealg.MakeNoZero: slice type expected"
    if (n : Int) < 0 || (n : Int) > 2 ^ 48 then runtimePanic (.error "makeslice: len out of range")
    let cap ← choose (.appendCap (n : Int).toNat 0 elem)
    askRoom cap
    let bytes ← choose (.extern "internal/bytealg.MakeNoZero.bytes" 0)
    let a ← newRow elem (Extern.BytealgMakeNoZero.digits cap bytes #[])
    pure (.slice (some a) (n : Int).toNat cap)) := rfl
 refine ⟨Extern.BytealgMakeNoZero.digits (grownCap w n 0 e) ((Question.extern "internal/bytealg.MakeNoZero.bytes" 0).cut (w.tape (w.drawn + 1) (.extern "internal/bytealg.MakeNoZero.bytes" 0))) #[], ?_, ?_, xj _ _ _ (by simp)⟩
 ·rw [hdef]
  have h1 : ¬ (n : Int) < 0 := by omega
  have h2 : ¬ (281474976710656 : Int) < (n : Int) := by omega
  simp [run_underlying ht, h1, h2, Question.forced, newRow, Lib.size_digits, grownCap]
 ·rw [Lib.size_digits]
  simpa using grownCap_ge w n 0 e
theorem NM {ps : Array TypeId} {t el : TypeId} (hf : P.funcs[f]? = some fn) (hname : (fn.name == "runtime.NumGoroutine") = false) (hb : fn.body.isNone = true) (hn : Extern.findNext fn = none) (he : Extern.find fn = some (Extern.BytealgMakeNoZero.makeNoZero ps #[t])) (ht : P.underlying t = some (.slice el)) : lH P G (.Nc el) f := by
 intro φ h w args vals hg H hv hs
 obtain ⟨x, rfl, e⟩ := oX (k := fun x => Cd el x h) hs
 have hp : dH (.Nc el) [x] h = (Cd el x h).lL := rfl
 rw [hp] at hs ⊢
 obtain ⟨v, h', hr⟩ := jV hs
 rw [hr]
 obtain ⟨k, n, rfl, e1⟩ := bD hr
 obtain ⟨hk, e1⟩ := az e1
 have hk : k = .i64 := by cases k <;> first | rfl | cases hk
 subst hk
 cases n with
 | negSucc n => cases e1
 | ofNat n =>
  obtain ⟨hb1, e1⟩ := az e1
  have hb1 : n ≤ 65536 := Nat.le_of_ble_eq_true hb1
  obtain ⟨hr1, hn1, e2⟩ := jt e1
  obtain ⟨rfl, rfl⟩ := RV.ak e2
  cases hv with
  | cons a c as cs h1 h2 =>
   cases h2
   rw [h1.aW]
   obtain ⟨cs, hrun, hcs, hone⟩ := KJ (P := P) w ps t el ht n (by omega)
   have hlen : (dM n [AV.undef]).length = n := by rw [ff]; simp
   obtain ⟨g1, g2⟩ := H.pM (n' := h.next.succ) (w' := w.drew.drew.alloc (.cells cs el)) hn1
    (rc := cs) (el := el) (n := (dM n [AV.undef]).length) (ex := false) (fl := .plain) (fz := (0, 0)) (c := ox (dM n [AV.undef]))
    (by rw [hlen]; exact hcs) (by simp) hr1
    (fun k hk => by
     rw [hlen] at hk
     refine ⟨cs[k], Array.getElem?_eq_getElem (by omega), ?_, hone _ (Array.getElem_mem _)⟩
     rw [eB _ hr1 k (by rw [hlen]; exact hk)]
     have : (dM n [AV.undef])[k]'(by rw [hlen]; exact hk) = .undef := by rw [lu n [AV.undef] k _ (by simp [Nat.mod_one])]; simp
     rw [this]
     exact .undef _) rfl rfl rfl rfl rfl
   refine ⟨.slice (some ⟨w.heap.size, 0, none⟩) n cs.size, w.drew.drew.alloc (.cells cs el), ?_, _, _, _, _, .ok _ _, rfl, ?_, g1, g2⟩
   ·rw [run_callFunc_extern hf hname hb hn he]
    show ((Extern.BytealgMakeNoZero.makeNoZero ps #[t] #[.int .i64 (Int.ofNat n)]).run P w).andThen _ = _
    rw [show (Int.ofNat n) = ((n : Nat) : Int) from rfl, hrun]
    rfl
   ·refine .fq _ 0 n 1 cs.size ⟨w.heap.size, 0, _⟩ ⟨w.heap.size, 0, none⟩ (aI.aJ _ _ _) ?_ hcs rfl rfl (fun _ => rfl) (by omega)
    simp
theorem KL {P : Program} {G : Gl} {f : Nat} {fn : Func} (hf : P.funcs[f]? = some fn) (hname : (fn.name == "runtime.NumGoroutine") = false) (hb : fn.body.isNone = true) (hn : Extern.findNext fn = none) (he : Extern.find fn = some (Extern.MathFloor.toIntegral "math.archTrunc" .zero)) : lH P G .DW f := by
 intro φ h w args vals hg H hv hs
 obtain ⟨x, rfl, e⟩ := oX (k := fun x => yr x h) hs
 have hp : dH .DW [x] h = (yr x h).lL := rfl
 rw [hp] at hs ⊢
 obtain ⟨v, h', hr⟩ := jV hs
 rw [hr]
 obtain ⟨k, n, rfl, e1⟩ := ew hr
 obtain ⟨hk, e1⟩ := az e1
 have hk : k = .f64 := by cases k <;> first | rfl | cases hk
 subst hk
 have e1 : (match FloatKind.f64.decode n with | .nan _ _ => RV.err 180 | d => .ok (.nG .f64 (FloatKind.f64.encode (d.integral .zero))) h) = .ok v h' := e1
 cases hv with
 | cons a c as cs h1 h2 =>
  cases h2
  rw [h1.np]
  have hdef : Extern.MathFloor.toIntegral "math.archTrunc" .zero #[Value.float .f64 n] = (match FloatKind.f64.decode n with
    | .nan s t =>
     if FloatKind.f64.format.quiet t = t then pure (.float .f64 n) else do
     let kept ← choose (.extern "math.Floor,Ceil,Trunc,RoundToEven.signallingNaN kept" 2)
     pure (.float .f64 (if kept == 1 then n else FloatKind.f64.encode (.nan s (FloatKind.f64.format.quiet t))))
    | d => pure (.float .f64 (FloatKind.f64.encode (d.integral .zero)))) := rfl
  cases hd : FloatKind.f64.decode n with
  | nan s t => rw [hd] at e1; cases e1
  | infinity s =>
   rw [hd] at e1
   obtain ⟨rfl, rfl⟩ := RV.ak e1
   refine ⟨_, w, ?_, _, h, _, φ, .ok _ _, rfl, .nG _ _, H, .refl _ _ _⟩
   rw [run_callFunc_extern hf hname hb hn he]
   show ((Extern.MathFloor.toIntegral "math.archTrunc" .zero #[.float .f64 n]).run P w).andThen _ = _
   rw [hdef, hd]
   rfl
  | number s m e =>
   rw [hd] at e1
   obtain ⟨rfl, rfl⟩ := RV.ak e1
   refine ⟨_, w, ?_, _, h, _, φ, .ok _ _, rfl, .nG _ _, H, .refl _ _ _⟩
   rw [run_callFunc_extern hf hname hb hn he]
   show ((Extern.MathFloor.toIntegral "math.archTrunc" .zero #[.float .f64 n]).run P w).andThen _ = _
   rw [hdef, hd]
   rfl
open Seat
variable {P : Program} {φ : aI} {h h' : Hp} {w : World} {v : AV} {G : Gl} {f : Nat} {fn : Func}
def CM : Array Value → Sem Value := fun args => do
  let (x, y, c) ← Extern.MathBitsCarry.three "Add64" args
  pure (Extern.MathBitsCarry.pair ((x + y + c) % Extern.MathBitsCarry.m64) ((x + y + c) / Extern.MathBitsCarry.m64))
theorem CN {args : List AV} {k : Nat → Nat → Nat → AV} (hs : (yE args k h).Safe) : ∃ x y c, args = [.int .u64 (.ofNat x), .int .u64 (.ofNat y), .int .u64 (.ofNat c)] ∧ c ≤ 1 ∧ yE args k h = .ok (k x y c) h := by
 unfold yE at hs ⊢
 split at hs
 ·rename_i x y c
  cases hb : Nat.ble c 1 with
  | true => exact ⟨x, y, c, rfl, Nat.le_of_ble_eq_true hb, by rfl⟩
  | false => rw [hb] at hs; exact (RT.Safe.err hs).elim
 ·exact (RT.Safe.err hs).elim
theorem KM (name : String) (x y c : Nat) (hc : c ≤ 1) : (Extern.MathBitsCarry.three name #[.int .u64 (.ofNat x), .int .u64 (.ofNat y), .int .u64 (.ofNat c)]).run P w = .ok (x, y, c) w := by
 rcases (by omega : c = 0 ∨ c = 1) with rfl | rfl <;> rfl
theorem KN (hf : P.funcs[f]? = some fn) (hname : (fn.name == "runtime.NumGoroutine") = false) (hb : fn.body.isNone = true) (hn : Extern.findNext fn = none) (he : Extern.find fn = some CM) : lH P G (.fn yF) f := by
 intro φ h w args vals hg H hv hs
 obtain ⟨x, y, c, rfl, hc, e⟩ := CN (args := args) (h := h) hs
 have e : dH (.fn yF) [.int .u64 (.ofNat x), .int .u64 (.ofNat y), .int .u64 (.ofNat c)] h = _ := e
 rw [e]
 cases hv with
 | cons _ v1 _ vs h1 h2 => cases h2 with
  | cons _ v2 _ vs h2 h3 => cases h3 with
   | cons _ v3 _ vs h3 h4 =>
    cases h4
    rw [h1.aW, h2.aW, h3.aW]
    refine ⟨_, w, ?_, _, h, _, φ, .ok _ _, rfl, .jj _ _ (.cons _ _ _ _ (.int _ _) (.cons _ _ _ _ (.int _ _) .nil)), H, .refl _ _ _⟩
    rw [run_callFunc_extern hf hname hb hn he]
    show ((CM #[.int .u64 (.ofNat x), .int .u64 (.ofNat y), .int .u64 (.ofNat c)]).run P w).andThen _ = _
    unfold CM
    simp only [Sem.run_bind, KM _ x y c hc]
    rfl
theorem Gw (t i n : Nat) {es : Array MapEntry} (hb : w.heap[i]? = some (.map es n)) : (Extern.MapsClone.clone #[.iface t (.map (some i))]).run P w = .ok (.iface t (.map (some w.heap.size))) (w.alloc (.map es n)) := by
 have e : Extern.MapsClone.clone #[.iface t (.map (some i))] = (getObj i >>= fun o => match o with
   | .map entries clock => (newObj (.map entries clock) >>= fun n => pure (.iface t (.map (some n))))
   | _ => stuck "maps.clone: a map expected") := rfl
 rw [e]
 simp [MapKept.run_getObj_map hb, Result.andThen, go_sem]
theorem vn (hf : P.funcs[f]? = some fn) (hname : (fn.name == "runtime.NumGoroutine") = false) (hb : fn.body.isNone = true) (hn : Extern.findNext fn = none) (he : Extern.find fn = some Extern.MapsClone.clone) : lH P G (.fn rp) f := by
 intro φ h w args vals hg H hv hs
 have hs : (rp args h).Safe := hs
 show ∃ cv w', _ ∧ dN φ h w (rp args h) _ w'
 unfold rp at hs ⊢
 split at hs
 ·rename_i t i _
  obtain ⟨v, h', hr⟩ := jV hs
  rw [hr]
  have hr' : Obj.eD (ag i h) (fun l n => fZ (.map l n) h fun j h => .ok (.iface t (.map j)) h) (.err 401) = .ok v h' := hr
  cases ho : ag i h with
  | map l n =>
   rw [ho] at hr'
   have hr' : fZ (.map l n) h (fun j h => .ok (.iface t (.map j)) h) = .ok v h' := hr'
   obtain ⟨hi, he'⟩ := ic hr'
   obtain ⟨rfl, rfl⟩ := RV.ak he'
   cases hv with
   | cons _ v1 _ vs h1 h2 =>
    cases h2
    cases h1 with
    | iface _ _ x e1 =>
     cases e1 with
     | map _ p e2 =>
      obtain ⟨q, hq, o⟩ := H.obj i (by rw [ho]; exact ⟨by simp, by simp⟩)
      rw [ho] at o
      obtain ⟨es, ob, m⟩ := o
      rw [e2] at hq
      cases hq
      have hw : (w.alloc (.map es n)).heap = w.heap.push (.map es n) := rfl
      have hle := aI.iD (φ := φ) (i := h.next) ⟨w.heap.size, 0, 0⟩ (H.fresh _ hi)
      have g1 := H.new (w' := w.alloc (.map es n)) (n' := h.next.succ) (room := 0) hi hw (o := .map l n) (by simp) ⟨es, rfl, m.mono hle⟩
      refine ⟨_, w.alloc (.map es n), ?_, _, _, _, _, .ok _ _, rfl, .iface t _ _ (.map _ _ (aI.aJ _ _ _)), g1, hle, .new hw rfl rfl rfl, fun j q hj hq => ?_⟩
      ·rw [run_callFunc_extern hf hname hb hn he]
       show ((Extern.MapsClone.clone #[.iface t (.map (some p.da))]).run P w).andThen _ = _
       rw [Gw _ _ _ ob]
       rfl
      ·rw [eC] at hj
       by_cases e : j = h.next
       ·subst e
        rw [aI.aJ] at hq; cases hq
        exact .inr (.inl (Nat.le_refl _))
       ·rw [if_neg e] at hj
        exact .inl ⟨hj, by simpa [aI.put, e] using hq, fun x => by rw [eC, if_neg e] at x; exact x⟩
  | _ => rw [ho] at hr'; cases hr'
 ·exact (RT.Safe.err hs).elim
open Go.ChangeShapes Go.WideShapes Go.ChangeAt Go.RowKit
theorem NN {x : RT} (e : eR x = true) : x.Safe ∧ ∀ v h, x.aG (.ok v h) → v = .bool true := by
 have go : ∀ x : RT, eR x = true → ∀ y, x.aG y → ∃ h, y = .ok (.bool true) h := by
  intro x
  induction x with
  | ok v h =>
   intro e y hy
   cases hy
   have e : AV.bF v (fun b => b) false = true := e
   cases v with
   | bool c =>
    have e3 : c = true := e
    rw [e3]
    exact ⟨_, rfl⟩
   | _ => cases e
  | err n => intro e; cases e
  | ch n k ih =>
   intro e y hy
   have e : Nf n (fun i => eR (k i)) = true := e
   have hall : ∀ m, Nf m (fun i => eR (k i)) = true → ∀ i, i < m → eR (k i) = true := by
    intro m
    induction m with
    | zero => intro _ i hi; omega
    | succ m im =>
     intro e i hi
     have e : (@Bool.rec (fun _ => Bool) false (Nf m (fun i => eR (k i))) (eR (k m))) = true := e
     cases hm : eR (k m) with
     | false => rw [hm] at e; cases e
     | true =>
      rw [hm] at e
      rcases Nat.lt_or_ge i m with h | h
      ·exact im e i h
      ·have : i = m := by omega
       subst this; exact hm
   cases hy with
   | ch _ _ c _ hc hl => exact ih c (hall n e c hc) y hl
 refine ⟨fun n hn => ?_, fun v h hl => ?_⟩
 ·obtain ⟨h, e2⟩ := go x e _ hn
  cases e2
 ·obtain ⟨h2, e2⟩ := go x e _ hl
  cases e2
  rfl
theorem NO {W W' : World} {may : MemPlace → Prop} (hb : ∀ b, b < W.heap.size → W'.heap[b]? = W.heap[b]?) (ho : W'.os = W.os) (hu : W'.output = W.output) : W.keptBut W' may := by
 refine ⟨ho, hu, fun i hi => ?_⟩
 rw [hb i hi]
 cases W.heap[i]? with
 | none => rfl
 | some o => cases o <;> first | exact ⟨rfl, rfl, rfl, fun _ _ => rfl⟩ | exact .inr ⟨rfl, rfl⟩ | rfl
noncomputable section
def jO (w : World) (v : Value) : AV := match v with
 | .bool b => .bool b
 | .int k n => .int k n
 | .string s => .str (s.data.toList.map UInt8.toNat)
 | .float k n => .nG k n
 | .complex k a b => .iq k a b
 | .pointer none => .fo
 | .pointer (some ⟨b, o, none⟩) => if b < w.heap.size then .ptr (.eN b o) 0 else .undef
 | .slice none 0 0 => .ar
 | .slice (some ⟨b, o, none⟩) n c => if b < w.heap.size then .slice (.eN b o) 0 n c else if n = 0 ∧ c = 0 then .slice (.eN b o) 0 0 0 else .undef
 | .slice (some ⟨b, o, some _⟩) 0 0 => .slice (.eN b o) 0 0 0
 | _ => .undef
def vp (rc : Array Value) (o : Nat) : Nat := ((rc.toList.drop o).takeWhile Value.oneCell').length
def vq (w : World) (rc : Array Value) (i : Nat) : AV := match rc[i]? with
 | some v => jO w v
 | none => .undef
def Gu (w : World) (b o : Nat) : Obj := match w.heap[b]? with
 | some (.cells rc el _) => if o ≤ rc.size then .cells el (vp rc o) false .ro (.kf (vp rc o) fun k => vq w rc (o + k)) else .dead
 | some _ => .dead
 | none => .none
def mR (w : World) (b o : Nat) : Nat := match w.heap[b]? with
 | some (.cells rc _ _) => rc.size - o
 | _ => 0
def pa (p : P4) : Nat := match p with
 | .mk a b c d => a.nat * 4096 + b.nat * 256 + c.nat * 16 + d.nat
 | .eN _ _ => 0
def vh (n : Nat) (w : World) : aI := fun i => match i with
 | .eN b o => if b < w.heap.size then some ⟨b, o, mR w b o⟩ else none
 | .mk a b c d => if pa (.mk a b c d) < n then some ⟨pa (.mk a b c d), 0, mR w (pa (.mk a b c d)) 0⟩ else none
def LU (f : Nat → Nat → Obj) (n : Nat) : T4 := Nat.rec (.mk .nil f) (fun j t => df (P4.of j) .dead t) n
def AW (n : Nat) (w : World) : Hp := .mk (LU (Gu w) n) (.eN w.heap.size 0)
theorem yQ {n : Nat} (h : n < 65536) : pa (P4.of n) = n := by
 show (dw (n / 4096)).nat * 4096 + (dw (n / 256 % 16)).nat * 256 + (dw (n / 16 % 16)).nat * 16 + (dw (n % 16)).nat = n
 rw [fF (by omega), fF (by omega), fF (by omega), fF (by omega)]
 omega
theorem CP (a b c d : H) : P4.of (pa (.mk a b c d)) = .mk a b c d := by
 have ha := a.fI
 have hb := b.fI
 have hc := c.fI
 have hd := d.fI
 show P4.mk (dw ((a.nat * 4096 + b.nat * 256 + c.nat * 16 + d.nat) / 4096)) (dw ((a.nat * 4096 + b.nat * 256 + c.nat * 16 + d.nat) / 256 % 16)) (dw ((a.nat * 4096 + b.nat * 256 + c.nat * 16 + d.nat) / 16 % 16)) (dw ((a.nat * 4096 + b.nat * 256 + c.nat * 16 + d.nat) % 16)) = _
 rw [show (a.nat * 4096 + b.nat * 256 + c.nat * 16 + d.nat) / 4096 = a.nat by omega, show (a.nat * 4096 + b.nat * 256 + c.nat * 16 + d.nat) / 256 % 16 = b.nat by omega,
  show (a.nat * 4096 + b.nat * 256 + c.nat * 16 + d.nat) / 16 % 16 = c.nat by omega, show (a.nat * 4096 + b.nat * 256 + c.nat * 16 + d.nat) % 16 = d.nat by omega,
  nt, nt, nt, nt]
theorem jP (f : Nat → Nat → Obj) (b o : Nat) : ∀ n, cJ (.eN b o) (LU f n) = f b o
 | 0 => rfl
 | n + 1 => by
  have e : cJ (.eN b o) (LU f (n + 1)) = if P4.eN b o = P4.of n then .dead else cJ (.eN b o) (LU f n) := dg (.eN b o) (P4.of n) .dead (LU f n)
  rw [e, if_neg (by intro e; cases e), jP f b o n]
theorem nB (f : Nat → Nat → Obj) (a b c d : H) : ∀ n, n ≤ 65536 → cJ (.mk a b c d) (LU f n) = if pa (.mk a b c d) < n then .dead else .none
 | 0, _ => by
  rw [if_neg (by omega)]
  show O1.get d (O2.get c (O3.get b (O4.get a .nil))) = _
  rw [O4.get_nil, O3.get_nil, O2.get_nil, O1.get_nil]
 | m + 1, hm => by
  have e : cJ (.mk a b c d) (LU f (m + 1)) = if P4.mk a b c d = P4.of m then .dead else cJ (.mk a b c d) (LU f m) := dg (.mk a b c d) (P4.of m) .dead (LU f m)
  rw [e, nB f a b c d m (by omega)]
  by_cases h : P4.mk a b c d = P4.of m
  ·rw [if_pos h, h, yQ (by omega), if_pos (by omega)]
  ·rw [if_neg h]
   have h1 : pa (.mk a b c d) ≠ m := fun e => h (by rw [← e, CP])
   by_cases h2 : pa (.mk a b c d) < m
   ·rw [if_pos h2, if_pos (by omega)]
   ·rw [if_neg h2, if_neg (by omega)]
theorem pZ (n : Nat) (w : World) (b o : Nat) : ag (.eN b o) (AW n w) = Gu w b o := jP _ b o n
theorem AY {n : Nat} {w : World} {i : P4} (hn : n ≤ 65536) (h : live (ag i (AW n w))) : ∃ b o rc el fz, i = .eN b o ∧ w.heap[b]? = some (.cells rc el fz) ∧ o ≤ rc.size ∧
  ag i (AW n w) = .cells el (vp rc o) false .ro (.kf (vp rc o) fun k => vq w rc (o + k)) := by
 cases i with
 | mk a b c d =>
  have e : ag (.mk a b c d) (AW n w) = if pa (.mk a b c d) < n then .dead else .none := nB _ a b c d n hn
  rw [e] at h
  split at h
  ·exact absurd rfl h.2
  ·exact absurd rfl h.1
 | eN b o =>
  rw [pZ] at h ⊢
  unfold Gu at h ⊢
  split at h
  ·rename_i rc el fz hb
   split at h
   ·rename_i ho
    exact ⟨b, o, rc, el, fz, rfl, hb, ho, if_pos ho⟩
   ·exact absurd rfl h.2
  ·exact absurd rfl h.2
  ·exact absurd rfl h.1
theorem CF {n : Nat} {w : World} {i : P4} (hn : n ≤ 65536) : ¬ wl (ag i (AW n w)) := by
 intro h
 obtain ⟨_, _, _, _, _, _, _, _, e⟩ := AY hn h.1
 rw [e] at h
 cases h.2
theorem qa (n : Nat) (w : World) (v : Value) : VR (vh n w) (jO w v) v := by
 unfold jO
 split
 ·exact .bool _
 ·exact .int _ _
 ·exact .str _ _ rfl
 ·exact .nG _ _
 ·exact .iq _ _ _
 ·exact .fo
 ·rename_i b o
  split
  ·rename_i hb
   have h : vh n w (.eN b o) = some ⟨b, o, mR w b o⟩ := if_pos hb
   have := VR.ptr (φ := vh n w) _ 0 _ h
   simpa [Place.addr] using this
  ·exact .undef _
 ·exact .ar
 ·rename_i b o k c
  split
  ·rename_i hb
   have h : vh n w (.eN b o) = some ⟨b, o, mR w b o⟩ := if_pos hb
   have := VR.slice (φ := vh n w) _ 0 k c _ h
   simpa [Place.addr] using this
  ·split
   ·rename_i h0
    obtain ⟨rfl, rfl⟩ := h0
    exact .gN _ _ _
   ·exact .undef _
 ·exact .gN _ _ _
 ·exact .undef _
theorem qb {p : Value → Bool} : ∀ (l : List Value) (k : Nat), k < (l.takeWhile p).length → ∃ v, l[k]? = some v ∧ p v = true
 | [], k, h => by simp at h
 | a :: l, k, h => by
  rw [List.takeWhile_cons] at h
  split at h
  ·rename_i ha
   cases k with
   | zero => exact ⟨a, rfl, ha⟩
   | succ k =>
    obtain ⟨v, h1, h2⟩ := qb l k (by simpa using h)
    exact ⟨v, by simpa using h1, h2⟩
  ·simp at h
theorem qc {p : Value → Bool} : ∀ (l : List Value) (m : Nat), (∀ k, k < m → ∃ v, l[k]? = some v ∧ p v = true) → m ≤ (l.takeWhile p).length
 | _, 0, _ => Nat.zero_le _
 | [], m + 1, h => by
  obtain ⟨v, h1, _⟩ := h 0 (by omega)
  simp at h1
 | a :: l, m + 1, h => by
  obtain ⟨v, h1, h2⟩ := h 0 (by omega)
  simp at h1
  subst h1
  rw [List.takeWhile_cons, if_pos h2]
  have := qc (p := p) l m fun k hk => by
   obtain ⟨v, g1, g2⟩ := h (k + 1) (by omega)
   exact ⟨v, by simpa using g1, g2⟩
  simpa using this
theorem NP {rc : Array Value} {o k : Nat} (h : k < vp rc o) : ∃ v, rc[o + k]? = some v ∧ v.oneCell' = true := by
 obtain ⟨v, h1, h2⟩ := qb _ _ h
 rw [List.getElem?_drop] at h1
 exact ⟨v, by simpa using h1, h2⟩
theorem NQ {rc : Array Value} {o m : Nat} (h : ∀ k, k < m → ∃ v, rc[o + k]? = some v ∧ v.oneCell' = true) : m ≤ vp rc o := by
 refine qc _ _ fun k hk => ?_
 obtain ⟨v, h1, h2⟩ := h k hk
 exact ⟨v, by rw [List.getElem?_drop]; simpa using h1, h2⟩
theorem NT {rc : Array Value} {o : Nat} : vp rc o ≤ rc.size - o := by
 unfold vp
 refine Nat.le_trans (List.takeWhile_sublist _).length_le ?_
 simp
theorem Vz (n : Nat) (w : World) (hn : n ≤ 65536) (hs : n ≤ w.heap.size) : HR (vh n w) (AW n w) w where
 obj i hl := by
  obtain ⟨b, o, rc, el, fz, rfl, hb, ho, e⟩ := AY hn hl
  have hbs : b < w.heap.size := (Array.getElem?_eq_some_iff.1 hb).1
  have hr : mR w b o = rc.size - o := by unfold mR; rw [hb]
  refine ⟨⟨b, o, mR w b o⟩, if_pos hbs, ?_⟩
  rw [e]
  refine ⟨rc, fz, hb, by simp only [hr]; omega, by simp only [hr]; exact NT, (fun h => by cases h), Nat.le_refl _, fun k hk => ?_, trivial⟩
  obtain ⟨v, h1, h2⟩ := NP hk
  refine ⟨v, h1, ?_, h2⟩
  show VR _ (vq w rc (o + k)) v
  unfold vq
  rw [h1]
  exact qa n w v
 inj i j p q hi hj hw := hw.elim (fun h => absurd h (CF hn)) (fun h => absurd h (CF hn))
 fresh i hi := by
  cases i with
  | mk a b c d =>
   have e : ag (.mk a b c d) (AW n w) = if pa (.mk a b c d) < n then .dead else .none := nB _ a b c d n hn
   rw [e] at hi
   split at hi
   ·cases hi
   ·rename_i h
    exact if_neg h
  | eN b o =>
   rw [pZ] at hi
   unfold Gu at hi
   split at hi
   ·split at hi <;> cases hi
   ·cases hi
   ·rename_i hb
    have : ¬ b < w.heap.size := by
     have := Array.getElem?_eq_none_iff.1 hb
     omega
    exact if_neg this
 bound i p hp := by
  cases i with
  | mk a b c d =>
   have hp : (if pa (.mk a b c d) < n then some (Place.mk (pa (.mk a b c d)) 0 (mR w (pa (.mk a b c d)) 0)) else none) = some p := hp
   split at hp
   ·cases hp
    show pa (.mk a b c d) < w.heap.size
    omega
   ·cases hp
  | eN b o =>
   have hp : (if b < w.heap.size then some (Place.mk b o (mR w b o)) else none) = some p := hp
   split at hp
   ·cases hp; assumption
   ·cases hp
theorem TE {n : Nat} {w : World} (hn : n ≤ 65536) : nJ ⟨n, [], none⟩ (vh n w) := by
 refine ⟨fun g hg => ⟨mR w g 0, ?_⟩, fun x hx => by cases hx⟩
 have hg : g < n := hg
 have e : vh n w (P4.of g) = if pa (P4.of g) < n then some ⟨pa (P4.of g), 0, mR w (pa (P4.of g)) 0⟩ else none := rfl
 rw [e, yQ (by omega), if_pos hg]
def Cs (h : Hp) (p : P4) (o : Nat) (l : List AV) : Prop := ∃ el n ex fl c, ag p h = .cells el n ex fl c ∧ o + l.length ≤ n ∧ ∀ k (hk : k < l.length), eO (o + k) c = l[k]
theorem vr {w : World} {a : Addr} {v : Value} (h : w.cell? a = some v) : a.spot = none ∧ ∃ rc el fz, w.heap[a.block]? = some (.cells rc el fz) ∧ rc[a.off]? = some v := by
 unfold World.cell? at h
 split at h
 ·rename_i c el fz hb
  split at h
  ·cases h
  ·rename_i hsp
   exact ⟨by cases hh : a.spot with | none => rfl | some _ => rw [hh] at hsp; simp at hsp, c, el, fz, hb, h⟩
 ·cases h
theorem TL {w : World} {n : Nat} {b o m : Nat} {vs : List Value} (hv : ∀ k (hk : k < vs.length), w.cell? ⟨b, o + m + k, none⟩ = some vs[k]) (h1 : ∀ v, v ∈ vs → v.oneCell' = true)
  (hpre : ∀ k, k < m → ∃ v, w.cell? ⟨b, o + k, none⟩ = some v ∧ v.oneCell' = true) (h0 : vs ≠ []) : Cs (AW n w) (.eN b o) m (vs.map (jO w)) := by
 have hpos : 0 < vs.length := by cases vs with | nil => exact absurd rfl h0 | cons _ _ => simp
 obtain ⟨_, rc, el, fz, hb, g0⟩ := vr (hv 0 hpos)
 have hat : ∀ k v, w.cell? ⟨b, k, none⟩ = some v → rc[k]? = some v := fun k v h => by
  obtain ⟨_, rc2, el2, fz2, hb2, g⟩ := vr h
  have hb2 : w.heap[b]? = some (.cells rc2 el2 fz2) := hb2
  rw [hb] at hb2
  cases hb2
  exact g
 have hlt : o + m < rc.size := by
  have := (Array.getElem?_eq_some_iff.1 g0).1
  simpa using this
 have hrun : m + vs.length ≤ vp rc o := NQ fun k hk => by
  rcases Nat.lt_or_ge k m with g | g
  ·obtain ⟨v, e1, e2⟩ := hpre k g
   exact ⟨v, hat _ _ e1, e2⟩
  ·refine ⟨vs[k - m]'(by omega), ?_, h1 _ (List.getElem_mem _)⟩
   have := hat _ _ (hv (k - m) (by omega))
   rwa [show o + m + (k - m) = o + k by omega] at this
 refine ⟨el, vp rc o, false, .ro, .kf (vp rc o) fun k => vq w rc (o + k), ?_, by simpa using hrun, fun k hk => ?_⟩
 ·rw [pZ]
  unfold Gu
  rw [hb]
  simp only
  rw [if_pos (by omega)]
 ·have hk' : k < vs.length := by simpa using hk
  show vq w rc (o + (m + k)) = _
  unfold vq
  rw [← Nat.add_assoc, hat _ _ (hv k hk'), List.getElem_map]
end
open Go.ChangeShapes
noncomputable section
section
variable {P : Program}
def gH (P : Program) : List Field → Nat → Bool
 | [], _ => true
 | f :: fs, o => (f.offset == o) && gH P fs (o + P.cellsOf f.type)
def gg (P : Program) : List Field → Nat
 | [] => 0
 | f :: fs => P.cellsOf f.type + gg P fs
def yR (P : Program) (l : List TypeId) (t : TypeId) : Bool := match P.underlying t with
 | some .bool => P.cellsOf t == 1
 | some (.int _) => P.cellsOf t == 1
 | some .string => P.cellsOf t == 1
 | some (.slice e) => (P.cellsOf t == 1) && (l.contains e && Nat.blt 0 (P.cellsOf e))
 | some (.struct fs) => (fs.toList.all fun f => l.contains f.type) && (P.cellsOf t == gg P fs.toList) && gH P fs.toList 0
 | _ => false
def vi (P : Program) (l : List TypeId) : Bool := l.all (yR P l)
theorem qd : ∀ fs : List Field, gg P fs = (fs.map fun f => P.cellsOf f.type).sum
 | [] => rfl
 | f :: fs => by simp [gg, qd fs]
theorem sk : ∀ (fs : List Field) (o : Nat), gH P fs o = true → ∀ (j : Nat) f, fs[j]? = some f → f.offset = o + ((fs.take j).map fun f => P.cellsOf f.type).sum
 | [], _, _, j, f, h => by simp at h
 | g :: fs, o, e, 0, f, h => by
  simp only [gH, Bool.and_eq_true, beq_iff_eq] at e
  simp at h
  subst h
  simpa using e.1
 | g :: fs, o, e, j + 1, f, h => by
  simp only [gH, Bool.and_eq_true, beq_iff_eq] at e
  have := sk fs _ e.2 j f (by simpa using h)
  rw [this]
  simp
  omega
theorem oY {l : List TypeId} (h : vi P l = true) {t : TypeId} (ht : t ∈ l) : yR P l t = true := List.all_eq_true.1 h t ht
theorem NU {l : List TypeId} (h : vi P l = true) : Kids P (· ∈ l) where
 pointer {t e} ht hu := by
  have := oY h ht
  simp [yR, hu] at this
 slice {t e} ht hu := by
  have := oY h ht
  simp only [yR, hu, Bool.and_eq_true] at this
  simpa using this.2.1
 array {t e n} ht hu := by
  have := oY h ht
  simp [yR, hu] at this
 struct {t fs} ht hu := by
  have := oY h ht
  simp only [yR, hu, Bool.and_eq_true, List.all_eq_true, beq_iff_eq] at this
  obtain ⟨⟨h1, h2⟩, h3⟩ := this
  refine ⟨fun f hf => by simpa using h1 f hf, by rw [h2, qd], fun j f hf => ?_⟩
  have := sk _ _ h3 j f hf
  omega
 map {t k e} ht hu := by
  have := oY h ht
  simp [yR, hu] at this
theorem AZ {l : List TypeId} (h : vi P l = true) : ∀ {t e : TypeId}, t ∈ l → P.underlying t = some (.slice e) → 0 < P.cellsOf e := by
 intro t e ht hu
 have := oY h ht
 simp only [yR, hu, Bool.and_eq_true] at this
 have h2 : Nat.ble 1 (P.cellsOf e) = true := this.2.2
 exact Nat.le_of_ble_eq_true h2
theorem qe {H : Type} {enc : TypeId × Value → H} {W W' : World} {l : List TypeId} (hk : vi P l = true) (hb : ∀ b, b < W.heap.size → W'.heap[b]? = W.heap[b]?) {sp : Nat → Bool} : ∀ {ts : List TypeId} {vs : List Value} {ds : List (DataW H)} {ps : List MemPlace},
  (∀ t, t ∈ ts → t ∈ l) → DataW.TrodAll enc P W 0 (fun _ => true) true ts vs ds ps → (∀ p, p ∈ ps → sp p.block = true) → DataW.TrodAll enc P W' 0 sp true ts vs ds ps
 | [], [], [], _, _, h, _ => h
 | t :: ts, v :: vs, d :: ds, _, hT, ⟨p, q, ⟨n, h1⟩, h2, rfl⟩, hs => by
  refine ⟨p, q, ⟨n, ?_⟩, qe hk hb (fun t ht => hT t (by simp [ht])) h2 (fun x hx => hs x (by simp [hx])), rfl⟩
  refine DataW.trod_stays (NU hk) (AZ hk) (fun h => by cases h) (hT t (by simp)) h1 (fun x hx => ?_) (fun x hx => hs x (by simp [hx]))
  have hlt := DataW.trod_lt n t _ _ h1 x hx
  cases x with
  | cell b off =>
   show W'.cell? ⟨b, off, none⟩ = W.cell? ⟨b, off, none⟩
   unfold World.cell?
   rw [hb b hlt]
  | map b => exact hb b hlt
 | [], _ :: _, _, _, _, h, _ => by cases h
 | [], [], _ :: _, _, _, h, _ => by cases h
 | _ :: _, [], _, _, _, h, _ => by cases h
 | _ :: _, _ :: _, [], _, _, h, _ => by cases h
theorem FZ {H : Type} {enc : TypeId × Value → H} {f : Func} {s : ChangeSpec} {apart fresh handsOn again : Bool} {W W' : World} {v : Value} {args : Array Value} {ds : List (DataW H)} {before : List MemPlace} {l : List TypeId}
  (hW : DataW.Whole enc P f.params.toList s.vars apart W args.toList ds [] before) (hvs : s.vars = [])
  (hres : ∀ (b : Nat) (sp : Nat → Bool) (hd : Bool), DataW.TrodAll enc P W' b sp hd f.resultTypes.toList (v.resultList f.resultTypes.size) (s.fn H ds).results [])
  (ha : (s.fn H ds).args = ds) (hg : (s.fn H ds).vars = []) (hk : vi P l = true) (hT : ∀ t, t ∈ f.params.toList → t ∈ l)
  (hb : ∀ b, b < W.heap.size → W'.heap[b]? = W.heap[b]?) (ho : W'.os = W.os) (hu : W'.output = W.output)
  (hok : ∀ (j : Nat) (t : TypeId) (r : Value), f.resultTypes[j]? = some t → (v.resultList f.resultTypes.size)[j]? = some r → Value.okWide P W' .any 0 t r) :
  s.post enc P f apart fresh handsOn again W args v W' := by
 have hlt := fun p hp => hW.lt p hp
 have hW0 := hW
 obtain ⟨p, q, hA, hV, rfl, hz, hn⟩ := hW0
 have hq : q = [] := by
  rw [hvs] at hV
  exact hV
 subst hq
 have hre : ∀ sp : Nat → Bool, (∀ x, x ∈ p → sp x.block = true) → DataW.TrodAll enc P W' 0 sp true f.params.toList args.toList ds p := fun sp hs => qe hk hb hT hA hs
 have hvars : ∀ sp : Nat → Bool, DataW.TrodVars enc P W' sp s.vars ([] : List (DataW H)) [] := fun sp => by rw [hvs]; rfl
 refine ⟨ds, [], p ++ [], [], p, [], hW, by rw [List.append_nil]; exact hres _ _ _, by rw [List.append_nil, ha]; exact hre _ (fun x hx => by simpa using hlt x (by simp [hx])), by rw [List.append_nil, hg]; exact hvars _,
  NO hb ho hu, fun _ => ?_⟩
 refine ⟨hok, (s.fn H ds).results ++ ds, [], ([] ++ p) ++ [], ⟨[] ++ p, [], trodAll_append (hre _ (fun _ _ => rfl)) (hres _ _ _), hvars _, rfl, ?_, ?_⟩, ?_⟩
 ·intro b off hp
  have hp' : MemPlace.cell b off ∈ p ++ [] := by simpa using hp
  have := hz b off hp'
  have hl := hlt _ hp'
  unfold World.frozen? at this ⊢
  rw [hb b hl]
  exact this
 ·intro h
  have := hn h
  simpa using this
 ·intro x hx _
  simpa using hx
def gP {H : Type} (P : Program) (h : Hp) (rec : TypeId → List AV → DataW H → Prop) (t : TypeId) (cs : List AV) (d : DataW H) : Prop := match P.underlying t with
 | some .bool => ∃ b, cs = [.bool b] ∧ d = .lit (.bool b)
 | some (.int k) => ∃ z, cs = [.int k z] ∧ d = .lit (.int k z) ∧ (Lit.int k z).wf = true
 | some .string => ∃ s : List UInt8, cs = [.str (s.map UInt8.toNat)] ∧ d = .lit (.string s)
 | some (.slice e) => (cs = [.ar] ∧ d = .nil) ∨ ∃ (p : P4) (cap : Nat) (elems rest : List (DataW H)) (ls : List (List AV)), cs = [.slice p 0 elems.length cap] ∧ elems.length ≤ cap ∧ d = .slice elems rest ∧ ls.length = elems.length ∧
   ∀ i (hi : i < elems.length) (hi' : i < ls.length), Cs h p (i * P.cellsOf e) ls[i] ∧ ls[i].length = P.cellsOf e ∧ rec e ls[i] elems[i]
 | some (.struct fs) => ∃ (parts : List (DataW H)) (ls : List (List AV)), cs = ls.flatten ∧ d = .agg parts ∧ parts.length = fs.size ∧ ls.length = fs.size ∧
   ∀ (i : Nat) (f : Field), fs[i]? = some f → ∃ l p, ls[i]? = some l ∧ parts[i]? = some p ∧ l.length = P.cellsOf f.type ∧ rec f.type l p
 | _ => False
def tn {H : Type} (P : Program) (h : Hp) (n : Nat) : TypeId → List AV → DataW H → Prop := Nat.rec (fun _ _ _ => False) (fun _ ih => gP P h ih) n
def rJ (P : Program) : List Field → List Value → List (List Value)
 | [], _ => []
 | f :: fs, cs => cs.take (P.cellsOf f.type) :: rJ P fs (cs.drop (P.cellsOf f.type))
theorem sr : ∀ (fs : List Field) (cs : List Value), (rJ P fs cs).length = fs.length
 | [], _ => rfl
 | _ :: fs, _ => by simp [rJ, sr fs]
theorem xk : ∀ (fs : List Field) (cs : List Value), cs.length = gg P fs → (rJ P fs cs).flatten = cs
 | [], cs, h => by
  simp only [gg, List.length_eq_zero_iff] at h
  simp [rJ, h]
 | f :: fs, cs, h => by
  simp only [gg] at h
  simp only [rJ, List.flatten_cons]
  rw [xk fs _ (by simp; omega), List.take_append_drop]
theorem EJ : ∀ (fs : List Field) (cs : List Value) (o : Nat), gH P fs o = true → ∀ (all : List Value), cs = all.drop o → ∀ (j : Nat) f, fs[j]? = some f → (rJ P fs cs)[j]? = some ((all.drop f.offset).take (P.cellsOf f.type))
 | [], _, _, _, _, _, j, f, h => by simp at h
 | g :: fs, cs, o, e, all, hc, 0, f, h => by
  simp only [gH, Bool.and_eq_true, beq_iff_eq] at e
  simp at h
  subst h
  simp [rJ, e.1, hc]
 | g :: fs, cs, o, e, all, hc, j + 1, f, h => by
  simp only [gH, Bool.and_eq_true, beq_iff_eq] at e
  simp only [rJ, List.getElem?_cons_succ]
  refine EJ fs _ _ e.2 all ?_ j f (by simpa using h)
  rw [hc, List.drop_drop]
theorem add_zero (a : Addr) : a.add 0 = a := by simp [Addr.add]
theorem KP {a : Addr} (h : a.spot = none) (k : Nat) : a.add k = ⟨a.block, a.off + k, none⟩ := by
 unfold Addr.add
 split
 ·rename_i hk
  subst hk
  cases a
  simp_all
 ·rfl
theorem CQ {w : World} {a : Addr} {n c : Nat} (h : (a.spot = none ∧ a.block < w.heap.size) ∨ (n = 0 ∧ c = 0)) : jO w (.slice (some a) n c) = .slice (.eN a.block a.off) 0 n c := by
 obtain ⟨b, o, s⟩ := a
 cases s with
 | none =>
  show (if b < w.heap.size then AV.slice (.eN b o) 0 n c else if n = 0 ∧ c = 0 then .slice (.eN b o) 0 0 0 else .undef) = .slice (.eN b o) 0 n c
  split
  ·rfl
  ·rename_i hb
   rcases h with ⟨_, h⟩ | ⟨rfl, rfl⟩
   ·exact absurd h hb
   ·rw [if_pos ⟨rfl, rfl⟩]
 | some s =>
  rcases h with ⟨h, _⟩ | ⟨rfl, rfl⟩
  ·cases h
  ·rfl
theorem KQ {w : World} {b o m n : Nat} {cs : List Value} (h : w.cells? 0 ⟨b, o + m, none⟩ n = some cs) : cs.length = n ∧ ∀ k (hk : k < cs.length), w.cell? ⟨b, o + m + k, none⟩ = some cs[k] := by
 obtain ⟨_, hl, hc⟩ := World.cells?_some h
 refine ⟨hl, fun k hk => ?_⟩
 have := hc k (by omega)
 rw [KP rfl, List.getElem?_eq_getElem hk] at this
 exact this
theorem reads {H : Type} {enc : TypeId × Value → H} {w : World} {g : Nat} {sp : Nat → Bool} {held : Bool} {l : List TypeId} (hk : vi P l = true) (hsp : ∀ b, sp b = true) : ∀ (n : Nat) (t : TypeId) (cs : List Value) (x : DataW H × List MemPlace), t ∈ l →
  DataW.trod enc P w 0 sp held n t cs = some x → tn P (AW g w) n t (cs.map (jO w)) x.1 ∧ (∀ v, v ∈ cs → v.oneCell' = true) ∧ cs.length = P.cellsOf t
 | 0, t, cs, x, _, h => by simp [DataW.trod] at h
 | n + 1, t, cs, x, ht, h => by
  have hkd := oY hk ht
  show gP P (AW g w) (tn P (AW g w) n) t (cs.map (jO w)) x.1 ∧ _
  unfold yR at hkd
  split at hkd
  ·rename_i hu
   obtain ⟨b, rfl, rfl⟩ := DataW.trod_bool hu h
   refine ⟨?_, fun v hv => ?_, by simpa using (beq_iff_eq.1 hkd).symm⟩
   ·unfold gP; rw [hu]
    exact ⟨b, rfl, rfl⟩
   ·simp at hv; rw [hv]; rfl
  ·rename_i k hu
   obtain ⟨z, rfl, rfl, hw⟩ := DataW.trod_int hu h
   refine ⟨?_, fun v hv => ?_, by simpa using (beq_iff_eq.1 hkd).symm⟩
   ·unfold gP; rw [hu]
    exact ⟨z, rfl, rfl, hw⟩
   ·simp at hv; rw [hv]; rfl
  ·rename_i hu
   obtain ⟨s, rfl, rfl, hs⟩ := DataW.trod_string hu h
   refine ⟨?_, fun v hv => ?_, by simpa using (beq_iff_eq.1 hkd).symm⟩
   ·unfold gP; rw [hu]
    exact ⟨s.data.toList, rfl, rfl⟩
   ·simp at hv; rw [hv]; rfl
  ·rename_i e hu
   simp only [Bool.and_eq_true] at hkd
   obtain ⟨h1, h2, h3⟩ := hkd
   have hes : 0 < P.cellsOf e := AZ hk ht hu
   have hel : e ∈ l := by simpa using h2
   rcases DataW.trod_slice hu h with ⟨rfl, rfl⟩ | ⟨a, len, cap, elems, rest, m, hm, rfl, rfl, hb0, hle, hmax, hlen, hat, hrest, _⟩
   ·refine ⟨?_, fun v hv => ?_, by simpa using (beq_iff_eq.1 h1).symm⟩
    ·unfold gP; rw [hu]
     exact .inl ⟨rfl, rfl⟩
    ·simp at hv; rw [hv]; rfl
   ·obtain rfl : n = m := by omega
    obtain ⟨hr1, hr2⟩ := hrest (hsp _)
    have hval : (a.spot = none ∧ a.block < w.heap.size) ∨ (len = 0 ∧ cap = 0) := by
     rcases Nat.eq_zero_or_pos cap with hc | hc
     ·exact .inr ⟨by omega, hc⟩
     ·left
      have h0 : ∃ c0, w.cells? 0 a (P.cellsOf e) = some c0 := by
       rcases Nat.eq_zero_or_pos len with hz | hz
       ·have := hr2 0 (by omega)
        rw [List.getElem?_eq_getElem (by omega), Option.bind_eq_some_iff] at this
        obtain ⟨c0, g1, _⟩ := this
        refine ⟨c0, ?_⟩
        rw [hz, Nat.zero_add, Nat.zero_mul, add_zero] at g1
        exact g1
       ·have := hat 0 hz
        rw [List.getElem?_eq_getElem (by omega), Option.bind_eq_some_iff] at this
        obtain ⟨c0, g1, _⟩ := this
        refine ⟨c0, ?_⟩
        rw [Nat.zero_mul, add_zero] at g1
        exact g1
      obtain ⟨c0, g⟩ := h0
      obtain ⟨_, g1, g2⟩ := World.cells?_some g
      have := g2 0 hes
      rw [add_zero, List.getElem?_eq_getElem (by omega)] at this
      obtain ⟨s1, rc, el, fz, s2, _⟩ := vr this
      exact ⟨s1, (Array.getElem?_eq_some_iff.1 s2).1⟩
    have E : ∀ i, i < len → ∃ ci, (w.cells? 0 (a.add (i * P.cellsOf e)) (P.cellsOf e)) = some ci ∧ ∃ y, elems[i]? = some y ∧ DataW.trod enc P w 0 sp held n e ci = some y := fun i hi => by
     have := hat i hi
     have he : elems[i]? = some (elems[i]'(by omega)) := List.getElem?_eq_getElem (by omega)
     rw [he, Option.bind_eq_some_iff] at this
     obtain ⟨ci, g1, g2⟩ := this
     exact ⟨ci, g1, _, he, g2⟩
    have E2 : ∀ i, i < len → ∃ ci, (w.cells? 0 (a.add (i * P.cellsOf e)) (P.cellsOf e)).getD [] = ci ∧ (∀ k (hk : k < ci.length), w.cell? ⟨a.block, a.off + i * P.cellsOf e + k, none⟩ = some ci[k]) ∧ ci.length = P.cellsOf e ∧ (∀ v, v ∈ ci → v.oneCell' = true) ∧
      ∃ y, elems[i]? = some y ∧ tn P (AW g w) n e (ci.map (jO w)) y.1 := fun i hi => by
     obtain ⟨ci, g1, y, g2, g3⟩ := E i hi
     have hs : a.spot = none := (hval.resolve_right (by omega)).1
     obtain ⟨r1, r2, r3⟩ := reads hk hsp n e ci y hel g3
     have g4 := g1
     rw [KP hs] at g4
     exact ⟨ci, by rw [g1]; rfl, (KQ g4).2, r3, r2, y, g2, r1⟩
    refine ⟨?_, fun v hv => ?_, by simpa using (beq_iff_eq.1 h1).symm⟩
    ·unfold gP; rw [hu]
     refine .inr ⟨.eN a.block a.off, cap, elems.map (·.1), rest.map (·.1), (List.range len).map fun i => ((w.cells? 0 (a.add (i * P.cellsOf e)) (P.cellsOf e)).getD []).map (jO w), ?_, by rw [List.length_map, hlen]; exact hle, rfl, by simp [hlen], fun i hi hi' => ?_⟩
     ·simp only [List.map_cons, List.map_nil, List.length_map, hlen]
      rw [CQ hval]
     ·have hil : i < len := by simpa [hlen] using hi
      obtain ⟨ci, e1, e2, e3, e4, y, e5, e6⟩ := E2 i hil
      have hci : ((List.range len).map fun i => ((w.cells? 0 (a.add (i * P.cellsOf e)) (P.cellsOf e)).getD []).map (jO w))[i] = ci.map (jO w) := by
       simp only [List.getElem_map, List.getElem_range, e1]
      have hy : (elems.map (·.1))[i] = y.1 := by
       rw [List.getElem_map]
       have := (List.getElem?_eq_some_iff.1 e5).2
       rw [this]
      rw [hci, hy]
      refine ⟨?_, by simpa using e3, e6⟩
      have hs : a.spot = none := (hval.resolve_right (by omega)).1
      refine TL e2 e4 (fun k hk => ?_) (by intro h0; rw [h0] at e3; simp at e3; omega)
      have hq : k / P.cellsOf e < i := Nat.div_lt_of_lt_mul (by rw [Nat.mul_comm]; exact hk)
      obtain ⟨cj, f1, f2, f3, f4, _⟩ := E2 (k / P.cellsOf e) (by omega)
      have hmod := Nat.mod_lt k hes
      have hdm := Nat.div_add_mod k (P.cellsOf e)
      rw [Nat.mul_comm] at hdm
      refine ⟨cj[k % P.cellsOf e]'(by omega), ?_, f4 _ (List.getElem_mem _)⟩
      have := f2 (k % P.cellsOf e) (by omega)
      rwa [show a.off + k / P.cellsOf e * P.cellsOf e + k % P.cellsOf e = a.off + k by omega] at this
    ·simp at hv; rw [hv]; rfl
  ·rename_i fs hu
   simp only [Bool.and_eq_true, List.all_eq_true, beq_iff_eq] at hkd
   obtain ⟨⟨h1, h2⟩, h3⟩ := hkd
   obtain ⟨xs, m, hm, rfl, hlen, hxl, hf⟩ := DataW.trod_struct hu h
   obtain rfl : n = m := by omega
   have C : ∀ (i : Nat) (f : Field), fs[i]? = some f → ∃ ch y, (rJ P fs.toList cs)[i]? = some ch ∧ xs[i]? = some y ∧ tn P (AW g w) n f.type (ch.map (jO w)) y.1 ∧ (∀ v, v ∈ ch → v.oneCell' = true) ∧ ch.length = P.cellsOf f.type := fun i f hfi => by
    have hfi' : fs.toList[i]? = some f := by simpa using hfi
    have e1 := EJ fs.toList cs 0 h3 cs (by simp) i f hfi'
    have hi : i < xs.length := by rw [hxl]; exact (Array.getElem?_eq_some_iff.1 hfi).1
    have e2 := hf i f hfi
    rw [List.getElem?_eq_getElem hi] at e2
    have hft : f.type ∈ l := by
     have := h1 f (List.mem_of_getElem? hfi')
     simpa using this
    obtain ⟨r1, r2, r3⟩ := reads hk hsp n f.type _ _ hft e2
    exact ⟨_, _, e1, List.getElem?_eq_getElem hi, r1, r2, r3⟩
   have hflat : (rJ P fs.toList cs).flatten = cs := xk _ _ (by rw [hlen, h2])
   have hcl : (rJ P fs.toList cs).length = fs.size := by rw [sr]; simp
   refine ⟨?_, fun v hv => ?_, hlen⟩
   ·unfold gP; rw [hu]
    refine ⟨xs.map (·.1), (rJ P fs.toList cs).map (List.map (jO w)), ?_, rfl, by simp [hxl], by simp [hcl], fun i f hfi => ?_⟩
    ·rw [← List.map_flatten, hflat]
    ·obtain ⟨ch, y, c1, c2, c3, c4, c5⟩ := C i f hfi
     exact ⟨ch.map (jO w), y.1, by rw [List.getElem?_map, c1]; rfl, by rw [List.getElem?_map, c2]; rfl, by simpa using c5, c3⟩
   ·rw [← hflat] at hv
    obtain ⟨ch, hch, hv⟩ := List.mem_flatten.1 hv
    obtain ⟨i, hi, rfl⟩ := List.getElem_of_mem hch
    have hfi : fs[i]? = some (fs[i]'(by omega)) := Array.getElem?_eq_getElem (by omega)
    obtain ⟨ch2, y, c1, c2, c3, c4, c5⟩ := C i _ hfi
    rw [List.getElem?_eq_getElem hi] at c1
    cases c1
    exact c4 v hv
  ·cases hkd
end
end
noncomputable section
def Ev (Q : Nat → Prop) : Prop := ∃ n, ∀ m, n ≤ m → Q m
theorem Ev.all {Q : Nat → Prop} (h : ∀ m, Q m) : Ev Q := ⟨0, fun m _ => h m⟩
theorem Ev.mono {Q R : Nat → Prop} (h : Ev Q) (g : ∀ m, Q m → R m) : Ev R := let ⟨n, h⟩ := h; ⟨n, fun m hm => g m (h m hm)⟩
theorem Ev.and {Q R : Nat → Prop} (h : Ev Q) (g : Ev R) : Ev fun m => Q m ∧ R m := let ⟨n, h⟩ := h; let ⟨k, g⟩ := g; ⟨max n k, fun m hm => ⟨h m (by omega), g m (by omega)⟩⟩
theorem Ev.Gx {Q R S : Nat → Prop} (h : Ev Q) (g : Ev R) (f : ∀ m, Q m → R m → S m) : Ev S := (h.and g).mono fun m x => f m x.1 x.2
theorem Ev.succ {Q : Nat → Prop} (h : Ev fun m => Q (m + 1)) : Ev Q := let ⟨n, h⟩ := h; ⟨n + 1, fun m hm => by
 obtain ⟨k, rfl⟩ : ∃ k, m = k + 1 := ⟨m - 1, by omega⟩
 exact h k (by omega)⟩
theorem Ev.some {Q : Nat → Prop} (h : Ev Q) : ∃ m, Q m := let ⟨n, h⟩ := h; ⟨n, h n (Nat.le_refl _)⟩
variable {p : Pg} {r r' : A2} {h h' h1 h2 : Hp} {s : RS} {a b c x : AC} {i f : Nat} {args : List AV} {v : AV}
def Rn (p : Pg) (c : AC) (r : A2) (h : Hp) (s : RS) : Prop := Ev fun m => exec p m c r h = s
def Cv (p : Pg) (f : Nat) (args : List AV) (h : Hp) (v : AV) (h' : Hp) : Prop := Ev fun m => au p (exec p m) f args h = .ok v h'
theorem Rn.skip : Rn p .skip r h (.nm r h) := Ev.succ (.all fun _ => rfl)
theorem Rn.ret : Rn p .ret r h (.ret r h) := Ev.succ (.all fun _ => rfl)
theorem Rn.exit : Rn p (.exit i) r h (.ex i r h) := Ev.succ (.all fun _ => rfl)
theorem Rn.goto : Rn p (.goto i) r h (.go i r h) := Ev.succ (.all fun _ => rfl)
theorem Rn.label : Rn p (.label i) r h (.nm r h) := Ev.succ (.all fun _ => rfl)
theorem Rn.seq (e : Rn p a r h (.nm r' h')) (g : Rn p b r' h' s) : Rn p (.seq a b) r h s := Ev.succ (Ev.Gx e g fun m e g => by
 show RS.bind (exec p m a r h) _ _ _ = _
 rw [e]; exact g)
theorem Rn.dn (e : Rn p a r h (.ret r' h')) : Rn p (.seq a b) r h (.ret r' h') := Ev.succ (Ev.mono e fun m e => by
 show RS.bind (exec p m a r h) _ _ _ = _
 rw [e]; rfl)
theorem Rn.Cy (e : Rn p a r h (.ex i r' h')) : Rn p (.seq a b) r h (.ex i r' h') := Ev.succ (Ev.mono e fun m e => by
 show RS.bind (exec p m a r h) _ _ _ = _
 rw [e]; rfl)
theorem Rn.block (e : Rn p a r h (.nm r' h')) : Rn p (.block i a) r h (.nm r' h') := Ev.succ (Ev.mono e fun m e => by
 show RS.bind (exec p m a r h) _ _ _ = _
 rw [e]; rfl)
theorem Rn.bN (e : Rn p a r h (.ex i r' h')) : Rn p (.block i a) r h (.nm r' h') := Ev.succ (Ev.mono e fun m e => by
 show RS.bind (exec p m a r h) _ _ _ = _
 rw [e]
 show (@Bool.rec (fun _ => RS) _ _ (Nat.beq i i)) = _
 rw [Nat.beq_refl])
theorem Rn.cV (e : Rn p a r h (.ret r' h')) : Rn p (.block i a) r h (.ret r' h') := Ev.succ (Ev.mono e fun m e => by
 show RS.bind (exec p m a r h) _ _ _ = _
 rw [e]; rfl)
theorem Rn.loop (e : Rn p a r h (.nm r' h')) (g : Rn p (.loop a) r' h' s) : Rn p (.loop a) r h s := Ev.succ (Ev.Gx e g fun m e g => by
 show RS.bind (exec p m a r h) _ _ _ = _
 rw [e]; exact g)
theorem Rn.eI (e : Rn p a r h (.ex i r' h')) : Rn p (.loop a) r h (.ex i r' h') := Ev.succ (Ev.mono e fun m e => by
 show RS.bind (exec p m a r h) _ _ _ = _
 rw [e]; rfl)
theorem Rn.gG (e : Rn p a r h (.ret r' h')) : Rn p (.loop a) r h (.ret r' h') := Ev.succ (Ev.mono e fun m e => by
 show RS.bind (exec p m a r h) _ _ _ = _
 rw [e]; rfl)
theorem Rn.scope (e : Rn p (.sat a a) r h s) : Rn p (.scope a) r h s := by
 obtain ⟨n, e⟩ := e
 refine ⟨n + 1, fun m hm => ?_⟩
 obtain ⟨k, rfl⟩ : ∃ k, m = k + 1 := ⟨m - 1, by omega⟩
 exact e (k + 1) (by omega)
theorem Rn.EK (e : Rn p c r h (.ret r' h')) : Rn p (.sat a c) r h (.ret r' h') := Ev.succ (Ev.mono e fun m e => by
 show RS.bind (exec p m c r h) _ _ _ = _
 rw [e]; rfl)
theorem Rn.KR (e : Rn p c r h (.go i r' h')) (hf : cT a i = some x) (g : Rn p (.sat a x) r' h' s) : Rn p (.sat a c) r h s := Ev.succ (Ev.Gx e g fun m e g => by
 show RS.bind (exec p m c r h) _ _ _ = _
 rw [e]
 show (Option.rec _ (fun c => exec p m (.sat a c) r' h') (cT a i) : RS) = _
 rw [hf]; exact g)
theorem Rn.ah {k : Cf → Iv → (A2 → Hp → RS) → A2 → Hp → RS} (e : Ev fun m => k (au p (exec p m)) (aB p (exec p m)) (fun r h => exec p m x r h) r h = s) : Rn p (.ah k x) r h s := Ev.succ e
theorem Cv.of {body : AC} {res : List Rs} (hf : aq f p.fs = .mk body res) (hl : args.length ≤ 256) (e : Rn p body (aY args 0 .nil) h (.ret r' h1)) (hr : ue res r' h1 = .ok v h') : Cv p f args h v h' := Ev.mono e fun m e => by
 unfold au
 rw [hf]
 show (@Bool.rec (fun _ => RT) _ _ (Nat.ble args.length 256)) = _
 rw [Nat.ble_eq_true_of_le hl]
 show eu res (exec p m body (aY args 0 .nil) h) = _
 rw [e]
 show (ue res r' h1).lL = _
 rw [hr]; rfl
theorem Cv.xl {body : AC} {res : List Rs} (hf : aq f p.fs = .mk body res) (hl : args.length ≤ 256) (e : Rn p body (aY args 0 .nil) h (.nm r' h1)) (hr : ue res r' h1 = .ok v h') : Cv p f args h v h' := Ev.mono e fun m e => by
 unfold au
 rw [hf]
 show (@Bool.rec (fun _ => RT) _ _ (Nat.ble args.length 256)) = _
 rw [Nat.ble_eq_true_of_le hl]
 show eu res (exec p m body (aY args 0 .nil) h) = _
 rw [e]
 show (ue res r' h1).lL = _
 rw [hr]; rfl
theorem Cv.tz {k : PK} {body : AC} {res : List Rs} (hf : aq f p.fs = .tz k body res) (e : dH k args h = .ok v h') : Cv p f args h v h' := .all fun m => by
 unfold au
 rw [hf]
 show (RT.rec _ _ _ (dH k args h) : RT) = _
 rw [e]
def Wf (h : Hp) : Prop := ∃ N, h.next = .eN N 0 ∧ ∀ m, N ≤ m → ag (.eN m 0) h = .none
def Old (h h' : Hp) : Prop := ∀ q, ag q h ≠ .none → ag q h' = ag q h
theorem Old.refl (h : Hp) : Old h h := fun _ _ => rfl
theorem Old.trans {h1 h2 h3 : Hp} (a : Old h1 h2) (b : Old h2 h3) : Old h1 h3 := fun q hq => (b q (by rw [a q hq]; exact hq)).trans (a q hq)
def AL (h : Hp) (o : Obj) : Hp := .mk (df h.next o h.tree) h.next.succ
theorem kE (h : Hp) (o : Obj) (q : P4) : ag q (AL h o) = if q = h.next then o else ag q h := eC q
theorem KS (h : Hp) (o : Obj) : (AL h o).next = h.next.succ := rfl
theorem Wf.fresh (W : Wf h) : ag h.next h = .none := by
 obtain ⟨N, e, f⟩ := W
 rw [e]; exact f N (Nat.le_refl _)
theorem Wf.AL (W : Wf h) (o : Obj) : Wf (AL h o) := by
 obtain ⟨N, e, f⟩ := W
 refine ⟨N + 1, by rw [KS, e]; rfl, fun m hm => ?_⟩
 rw [kE, e, if_neg (by intro g; cases g; omega)]
 exact f m (by omega)
theorem Old.AL (W : Wf h) (o : Obj) : Old h (AL h o) := fun q hq => by
 rw [kE, if_neg]
 intro e
 rw [e] at hq
 exact hq W.fresh
theorem Wf.cM (W : Wf h) {q : P4} {o : Obj} (hq : ag q h ≠ .none) : Wf (cM q o h) := by
 obtain ⟨N, e, f⟩ := W
 refine ⟨N, e, fun m hm => ?_⟩
 rw [aF, if_neg]
 ·exact f m hm
 ·intro g
  rw [← g] at hq
  exact hq (f m hm)
theorem Gy (W : Wf h) (o : Obj) (k : P4 → Hp → RV) : fZ o h k = k h.next (AL h o) := by
 obtain ⟨t, nx⟩ := h
 have e : fZ o (.mk t nx) k = (@Bool.rec (fun _ => RV) (.err 1) (k nx (.mk (df nx o t) nx.succ)) (isNone (cJ nx t))) := rfl
 have f : cJ nx t = .none := W.fresh
 rw [e, f]
 rfl
theorem yS (W : Wf h) {el n : Nat} {ex : Bool} {fl : Fl} {c : Cl} (hn : n ≤ BW c) (k : P4 → Hp → RV) : ja el ex fl n c h k = k h.next (AL h (.cells el n ex fl c)) := by
 show (@Bool.rec (fun _ => RV) (.err 130) (fZ (.cells el n ex fl c) h k) (Nat.ble n (BW c))) = _
 rw [Nat.ble_eq_true_of_le hn]
 exact Gy W _ k
def Gd (c : Cl) : Prop := match c with
 | .kf m _ => m = 16777216
 | _ => True
theorem Gd.max {c : Cl} (g : Gd c) : BW c = bz c := by
 cases c with
 | kf m f =>
  have g : m = 16777216 := g
  subst g; rfl
 | _ => rfl
theorem Gd.mi {c : Cl} (g : Gd c) (i : Nat) (v : AV) : Gd (mi i v c) := by cases c <;> exact g
theorem Gd.cG (l : List AV) : ∀ (i : Nat) {c : Cl}, Gd c → Gd (cG l i c) := by
 induction l with
 | nil => intro i c g; exact g
 | cons v l ih => intro i c g; rw [lk]; exact ih _ (g.mi i v)
theorem Gd.grow {c : Cl} (g : Gd c) : Gd (bE c) := by
 cases c with
 | kf m f => exact g
 | k4 x => rfl
 | _ => trivial
theorem TM (c : Cl) (g : Gd c) : bz (bE (bE (bE (bE c)))) = 16777216 := by
 cases c with
 | kf m f => exact g
 | _ => rfl
theorem Gd.fit {c : Cl} (g : Gd c) (n : Nat) (hn : n ≤ 16777216) : Gd (kZ n c) ∧ n ≤ bz (kZ n c) := by
 unfold kZ
 cases h1 : Nat.ble n (bz c) with
 | true => exact ⟨g, Nat.le_of_ble_eq_true h1⟩
 | false =>
  cases h2 : Nat.ble n (bz (bE c)) with
  | true => exact ⟨g.grow, Nat.le_of_ble_eq_true h2⟩
  | false =>
   cases h3 : Nat.ble n (bz (bE (bE c))) with
   | true => exact ⟨g.grow.grow, Nat.le_of_ble_eq_true h3⟩
   | false =>
    cases h4 : Nat.ble n (bz (bE (bE (bE c)))) with
    | true => exact ⟨g.grow.grow.grow, Nat.le_of_ble_eq_true h4⟩
    | false => exact ⟨g.grow.grow.grow.grow, by rw [TM c g]; exact hn⟩
theorem Gd.of (l : List AV) (hl : l.length ≤ 16777216) : Gd (ox l) ∧ l.length ≤ bz (ox l) := by
 have g : Gd IQ := trivial
 obtain ⟨a, b⟩ := g.fit l.length hl
 unfold ox
 exact ⟨a.cG _ _, by rw [fh]; exact b⟩
theorem ny (l : List AV) (hl : l.length ≤ 16777216) (k : Nat) (hk : k < l.length) : eO k (ox l) = l[k] := eB l (Gd.of l hl).2 k hk
def Ob (h : Hp) (q : P4) (el : Nat) (ex : Bool) (fl : Fl) (l : List AV) : Prop := ∃ c, ag q h = .cells el l.length ex fl c ∧ (Gd c ∧ l.length ≤ bz c) ∧ ∀ k (hk : k < l.length), eO k c = l[k]
theorem Ob.ne {q : P4} {el : Nat} {ex : Bool} {fl : Fl} {l : List AV} (o : Ob h q el ex fl l) : ag q h ≠ .none := by
 obtain ⟨c, e, _⟩ := o
 rw [e]; simp
theorem Ob.old {q : P4} {el : Nat} {ex : Bool} {fl : Fl} {l : List AV} (o : Ob h q el ex fl l) (O : Old h h') : Ob h' q el ex fl l := by
 have hne := o.ne
 obtain ⟨c, e, r⟩ := o
 exact ⟨c, by rw [O q hne]; exact e, r⟩
theorem Ob.eq {q : P4} {el : Nat} {ex : Bool} {fl : Fl} {l : List AV} (o : Ob h q el ex fl l) (e : ag q h' = ag q h) : Ob h' q el ex fl l := by
 obtain ⟨c, g, r⟩ := o
 exact ⟨c, by rw [e]; exact g, r⟩
theorem Ob.cs {q : P4} {el : Nat} {ex : Bool} {fl : Fl} {l : List AV} (o : Ob h q el ex fl l) {k : Nat} {m : List AV} (hm : ∀ j (hj : j < m.length), ∃ hk : k + j < l.length, l[k + j] = m[j]) (hl : k + m.length ≤ l.length) : Cs h q k m := by
 obtain ⟨c, e, _, g⟩ := o
 refine ⟨el, l.length, ex, fl, c, e, hl, fun j hj => ?_⟩
 obtain ⟨hk, e⟩ := hm j hj
 rw [g _ hk, e]
theorem Cs.old {q : P4} {o : Nat} {l : List AV} (a : Cs h q o l) (O : Old h h') : Cs h' q o l := by
 obtain ⟨el, n, ex, fl, c, e, r⟩ := a
 exact ⟨el, n, ex, fl, c, by rw [O q (by rw [e]; simp)]; exact e, r⟩
theorem Cs.ne {q : P4} {o : Nat} {l : List AV} (a : Cs h q o l) : ag q h ≠ .none := by
 obtain ⟨el, n, ex, fl, c, e, r⟩ := a
 rw [e]; simp
theorem Cs.eq {q : P4} {o : Nat} {l : List AV} (a : Cs h q o l) (e : ag q h' = ag q h) : Cs h' q o l := by
 obtain ⟨el, n, ex, fl, c, g, r⟩ := a
 exact ⟨el, n, ex, fl, c, by rw [e]; exact g, r⟩
theorem Cs.sub {q : P4} {o : Nat} {l : List AV} (a : Cs h q o l) (k : Nat) (m : List AV) (hm : k + m.length ≤ l.length) (g : ∀ j (hj : j < m.length), l[k + j] = m[j]) : Cs h q (o + k) m := by
 obtain ⟨el, n, ex, fl, c, e, r1, r2⟩ := a
 refine ⟨el, n, ex, fl, c, e, by omega, fun j hj => ?_⟩
 rw [Nat.add_assoc, r2 (k + j) (by omega), g j hj]
theorem yK (W : Wf h) {el : Nat} {ex : Bool} {fl : Fl} (l : List AV) {c : Cl} (hc : Gd c ∧ l.length ≤ bz c) (hg : ∀ k (hk : k < l.length), eO k c = l[k]) (k : P4 → Hp → RV) :
  ∃ q h', ja el ex fl l.length c h k = k q h' ∧ ag q h = .none ∧ Ob h' q el ex fl l ∧ Old h h' ∧ Wf h' ∧ ∀ j, j ≠ q → ag j h' = ag j h := by
 refine ⟨h.next, AL h (.cells el l.length ex fl c), yS W (by rw [hc.1.max]; exact hc.2) k, W.fresh, ⟨c, by rw [kE, if_pos rfl], hc, hg⟩, .AL W _, W.AL _, fun j hj => by rw [kE, if_neg hj]⟩
end
noncomputable section
variable {H : Type} {P : Program} {h : Hp} {rec rec' : TypeId → List AV → DataW H → Prop} {t : TypeId} {cs : List AV} {d : DataW H}
theorem gP.mono (g : ∀ t l d, rec t l d → rec' t l d) (r : gP P h rec t cs d) : gP P h rec' t cs d := by
 unfold gP at r ⊢
 cases hu : P.underlying t with
 | none => rw [hu] at r; exact r.elim
 | some u =>
  rw [hu] at r
  cases u with
  | bool => exact r
  | int k => exact r
  | string => exact r
  | slice e =>
   rcases r with r | ⟨p, cap, el, rest, ls, h1, h2, h3, h4, h5⟩
   ·exact .inl r
   ·exact .inr ⟨p, cap, el, rest, ls, h1, h2, h3, h4, fun i hi hi' => ⟨(h5 i hi hi').1, (h5 i hi hi').2.1, g _ _ _ (h5 i hi hi').2.2⟩⟩
  | struct fs =>
   obtain ⟨parts, ls, h1, h2, h3, h4, h5⟩ := r
   exact ⟨parts, ls, h1, h2, h3, h4, fun i f hf => let ⟨l, p, a, b, c, d⟩ := h5 i f hf; ⟨l, p, a, b, c, g _ _ _ d⟩⟩
  | _ => exact r.elim
theorem tn.succ : ∀ (n : Nat) (t : TypeId) (cs : List AV) (d : DataW H), tn P h n t cs d → tn P h (n + 1) t cs d
 | 0, _, _, _, r => r.elim
 | n + 1, t, cs, d, r => gP.mono (tn.succ n) r
theorem tn.add (n k : Nat) (t : TypeId) (cs : List AV) (d : DataW H) (r : tn P h n t cs d) : tn P h (n + k) t cs d := by
 induction k with
 | zero => exact r
 | succ k ih => exact tn.succ (n + k) t cs d ih
end
noncomputable section
def PG (n : Nat) : Hp := .mk (LU (fun _ _ => .none) n) (P4.of n)
def NV (n : Nat) : aI := fun i => match i with
 | .eN _ _ => none
 | .mk a b c d => if pa (.mk a b c d) < n then some ⟨pa (.mk a b c d), 0, 0⟩ else none
theorem yT (n b o : Nat) : ag (.eN b o) (PG n) = .none := jP _ b o n
theorem Ba {n : Nat} (hn : n ≤ 65536) (a b c d : H) : ag (.mk a b c d) (PG n) = if pa (.mk a b c d) < n then .dead else .none := nB _ a b c d n hn
theorem vt {n : Nat} (hn : n ≤ 65536) (i : P4) : ¬ live (ag i (PG n)) := by
 intro h
 cases i with
 | eN b o => exact h.1 (yT n b o)
 | mk a b c d =>
  rw [Ba hn] at h
  split at h
  ·exact h.2 rfl
  ·exact h.1 rfl
theorem VA {n : Nat} {w : World} (hn : n ≤ 65536) (hs : n ≤ w.heap.size) : HR (NV n) (PG n) w where
 obj i hl := absurd hl (vt hn i)
 inj i j p q hl := absurd hl (vt hn i)
 fresh i hi := by
  cases i with
  | eN b o => rfl
  | mk a b c d =>
   rw [Ba hn] at hi
   split at hi
   ·cases hi
   ·rename_i h
    exact if_neg h
 bound i p hp := by
  cases i with
  | eN b o => cases hp
  | mk a b c d =>
   have hp : (if pa (.mk a b c d) < n then some (Place.mk (pa (.mk a b c d)) 0 0) else none) = some p := hp
   split at hp
   ·cases hp
    show pa (.mk a b c d) < w.heap.size
    omega
   ·cases hp
theorem TN {n : Nat} (hn : n ≤ 65536) : nJ ⟨n, [], none⟩ (NV n) := by
 refine ⟨fun g hg => ⟨0, ?_⟩, fun x hx => by cases hx⟩
 have hg : g < n := hg
 have e : NV n (P4.of g) = if pa (P4.of g) < n then some ⟨pa (P4.of g), 0, 0⟩ else none := rfl
 rw [e, yQ (by omega), if_pos hg]
theorem NW {P : Program} {names : List String} {p : Pg} {n : Nat} (E : Env P ⟨n, [], none⟩ names p) (m f : Nat) (hn : n ≤ 65536) (e : eR (au p (exec p m) f [] (PG n)) = true) (w : World) (hs : n ≤ w.heap.size) (hx : Dv (aq f p.fs) = false := by rfl) :
  Calls P f #[] w fun e w' => e = .returned (.bool true) ∧ w.heap.size ≤ w'.heap.size ∧ (∀ b, b < w.heap.size → w'.heap[b]? = w.heap[b]?) ∧ w'.tape = w.tape ∧ w'.os = w.os ∧ w'.output = w.output := by
 obtain ⟨Qw, ht⟩ := NN e
 refine (El E m f [] [] (φ := NV n) (TN hn) (VA hn hs) .nil Qw (Dw hx)).mono ?_
 rintro e w' ⟨v, h', cv, φ', hl, rfl, hv, _, T⟩
 have := ht v h' hl
 subst this
 cases hv
 exact ⟨rfl, T.keeps.size, fun b hb => T.keeps.rest b hb fun i p hl => absurd hl.1 (vt hn i), T.keeps.tape, T.keeps.os, T.keeps.output⟩
def Eg (args : List AV) (h : Hp) : RT := List.casesOn args (.ok (.bool true) h) (fun _ _ => .err 400)
theorem Gi {P : Program} {names : List String} {p : Pg} {n : Nat} (E : Env P ⟨n, [], none⟩ names p) (m f : Nat) (hn : n ≤ 65536) (e : eR (au p (exec p m) f [] (PG n)) = true) (hx : Dv (aq f p.fs) = false := by rfl) :
  qH P ⟨n, [], none⟩ (.fn Eg) f := by
 intro φ h w args vals hg H hv hs
 have hsz : n ≤ w.heap.size := by
  cases n with
  | zero => exact Nat.zero_le _
  | succ k =>
   obtain ⟨room, hp⟩ := hg.1 k (Nat.lt_succ_self k)
   have := H.bound _ _ hp
   exact this
 cases hv with
 | cons a v as vs h1 h2 => exact (RT.Safe.err (show (RT.err 400).Safe from hs)).elim
 | nil =>
  refine (NW E m f hn e w hsz hx).mono ?_
  rintro x w' ⟨rfl, h1, h2, h3, h4, h5⟩
  exact ⟨.bool true, h, .bool true, φ, .ok _ _, rfl, .bool _, H.ext h1 h2, .ext h1 h2 h3 h4 h5⟩
end
open Go.ChangeShapes Go.WideShapes
noncomputable section
variable {H : Type} {enc : TypeId × Value → H}
theorem Ce {C : Checked} {os : Os} {f : FuncId} {fn : Func} {s : OpenSpec} {conds : List PathCond} {apart : Bool} {laid : List (String × DataW Unit)} (modest : Bool) (w0 : World) (args : Array Value) (hos : w0.os = os)
  (hsh : (w0.forCall (fun _ _ => 0) ⟨#[], args, []⟩).Shaped C.prog)
  (hok : Input.okWideB C.prog (w0.forCall (fun _ _ => 0) ⟨#[], args, []⟩) f ⟨#[], args, []⟩ = true)
  (hrow : s.preRow enc C.prog fn conds apart laid (w0.forCall (fun _ _ => 0) ⟨#[], args, []⟩).memory args) :
  ∃ (w : World) (tape : Tape) (i : Input), w.os = os ∧ (w.forCall tape i).Shaped C.prog ∧ i.vars = [] ∧ Input.okWide C.prog (w.forCall tape i) .any w.heap.size f i ∧
   s.preRow enc C.prog fn conds apart laid (w.forCall tape i).memory i.args ∧ ({ modest := modest } : Assume).holds C.prog (lone (Frame.enter C.prog f i.args .normal) [] (w.forCall tape i)) :=
 ⟨w0, fun _ _ => 0, ⟨#[], args, []⟩, hos, hsh, (Input.okWide_of_okWideB (base := 0) hok).1, (Input.okWide_of_okWideB hok).2, hrow, by
  simp only [Assume.holds]
  exact ⟨by simp, by simp, fun _ => Modest.zero, by simp, by simp⟩⟩
theorem uF {P : Program} {W : World} (g n : Nat) (hsh : W.ShapedOpen P) (hn : n = g + 1) (hgl : g < P.globals.size)
  (hrow : (((begin P (fun _ _ => 0) default).world.heap[g]?).bind Go.Obj.row?).isSome = true) : n ≤ W.heap.size := by
 obtain ⟨⟨zero, t⟩, hr⟩ := Option.isSome_iff_exists.1 hrow
 obtain ⟨cs, h, _⟩ := hsh.1 g zero t hgl hr
 have := (Array.getElem?_eq_some_iff.1 h).1
 omega
section
variable {P : Program} {w : World} {r : Reach} {b0 : Nat} {t e : TypeId} {k : IntKind} {v : Value}
theorem An (ht : P.underlying t = some (.slice e)) (h : Value.okWide P w r b0 t v) : v.cells.toList = [v] := by
 obtain ⟨a, n, c, rfl⟩ := okWide_slice ht h
 rfl
theorem wI (ht : P.underlying t = some (.int k)) (h : Value.okWide P w r b0 t v) : v.cells.toList = [v] := by
 obtain ⟨n, rfl⟩ := okWide_int ht h
 rfl
end
end
end Go.Am
