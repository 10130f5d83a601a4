/- The abstract machine is sound: what its run says holds of the Go program. Conditions: the table of functions is the program's (Env). -/
import Derived.Test.YtjnmlmmfnbcnjaaGreatDoorB
import Derived.Laws.Sem
import Derived.Calls
import Derived.Laws.World
import Derived.Laws.Strings
import Derived.Laws.Strings2
import Derived.Laws.Concat
import Derived.Laws.StructEq
import Derived.Laws.Append
import Derived.Laws.IdiomStrings
import Derived.Laws.NewFold
import Derived.Laws.Cover2
import Derived.Laws.Cover3
import Derived.Laws.ComplexArith
set_option linter.all false
namespace Go.Am
theorem A1.dK (d : H) (v : AV) (x : A1) : A1.get d (A1.set d v x) = v := by cases d <;> cases x <;> rfl
theorem A1.bX {d e : H} (h : d ≠ e) (v : AV) (x : A1) : A1.get d (A1.set e v x) = A1.get d x := by
 cases d <;> cases e <;> first | exact absurd rfl h | (cases x <;> rfl)
theorem A1.get_nil (d : H) : A1.get d .nil = .undef := by cases d <;> rfl
theorem A2.dK (d : H) (v : A1) (x : A2) : A2.get d (A2.set d v x) = v := by cases d <;> cases x <;> rfl
theorem A2.bX {d e : H} (h : d ≠ e) (v : A1) (x : A2) : A2.get d (A2.set e v x) = A2.get d x := by
 cases d <;> cases e <;> first | exact absurd rfl h | (cases x <;> rfl)
theorem A2.get_nil (d : H) : A2.get d .nil = .nil := by cases d <;> rfl
theorem A3.dK (d : H) (v : A2) (x : A3) : A3.get d (A3.set d v x) = v := by cases d <;> cases x <;> rfl
theorem A3.bX {d e : H} (h : d ≠ e) (v : A2) (x : A3) : A3.get d (A3.set e v x) = A3.get d x := by
 cases d <;> cases e <;> first | exact absurd rfl h | (cases x <;> rfl)
theorem A3.get_nil (d : H) : A3.get d .nil = .nil := by cases d <;> rfl
theorem A4.dK (d : H) (v : A3) (x : A4) : A4.get d (A4.set d v x) = v := by cases d <;> cases x <;> rfl
theorem A4.bX {d e : H} (h : d ≠ e) (v : A3) (x : A4) : A4.get d (A4.set e v x) = A4.get d x := by
 cases d <;> cases e <;> first | exact absurd rfl h | (cases x <;> rfl)
theorem A4.get_nil (d : H) : A4.get d .nil = .nil := by cases d <;> rfl
theorem O1.dK (d : H) (v : Obj) (x : O1) : O1.get d (O1.set d v x) = v := by cases d <;> cases x <;> rfl
theorem O1.bX {d e : H} (h : d ≠ e) (v : Obj) (x : O1) : O1.get d (O1.set e v x) = O1.get d x := by
 cases d <;> cases e <;> first | exact absurd rfl h | (cases x <;> rfl)
theorem O1.get_nil (d : H) : O1.get d .nil = .none := by cases d <;> rfl
theorem O2.dK (d : H) (v : O1) (x : O2) : O2.get d (O2.set d v x) = v := by cases d <;> cases x <;> rfl
theorem O2.bX {d e : H} (h : d ≠ e) (v : O1) (x : O2) : O2.get d (O2.set e v x) = O2.get d x := by
 cases d <;> cases e <;> first | exact absurd rfl h | (cases x <;> rfl)
theorem O2.get_nil (d : H) : O2.get d .nil = .nil := by cases d <;> rfl
theorem O3.dK (d : H) (v : O2) (x : O3) : O3.get d (O3.set d v x) = v := by cases d <;> cases x <;> rfl
theorem O3.bX {d e : H} (h : d ≠ e) (v : O2) (x : O3) : O3.get d (O3.set e v x) = O3.get d x := by
 cases d <;> cases e <;> first | exact absurd rfl h | (cases x <;> rfl)
theorem O3.get_nil (d : H) : O3.get d .nil = .nil := by cases d <;> rfl
theorem O4.dK (d : H) (v : O3) (x : O4) : O4.get d (O4.set d v x) = v := by cases d <;> cases x <;> rfl
theorem O4.bX {d e : H} (h : d ≠ e) (v : O3) (x : O4) : O4.get d (O4.set e v x) = O4.get d x := by
 cases d <;> cases e <;> first | exact absurd rfl h | (cases x <;> rfl)
theorem O4.get_nil (d : H) : O4.get d .nil = .nil := by cases d <;> rfl
theorem Ao : ∀ n, n < 16 → (dw n).nat = n := by decide
theorem fF {n : Nat} (h : n < 16) : (dw n).nat = n := Ao n h
theorem nc {m n : Nat} (hm : m < 16) (hn : n < 16) (h : dw m = dw n) : m = n := by
 rw [← fF hm, ← fF hn, h]
noncomputable instance : DecidableEq H := fun a b => if h : a.nat = b.nat then .isTrue (by cases a <;> cases b <;> first | rfl | (exact absurd h (by decide))) else .isFalse (fun e => h (by rw [e]))
theorem A1.cH (d e : H) (v : AV) (x : A1) : A1.get d (A1.set e v x) = if d = e then v else A1.get d x := by
 by_cases h : d = e
 ·rw [if_pos h, h, A1.dK]
 ·rw [if_neg h, A1.bX h]
theorem A2.cH (d e : H) (v : A1) (x : A2) : A2.get d (A2.set e v x) = if d = e then v else A2.get d x := by
 by_cases h : d = e
 ·rw [if_pos h, h, A2.dK]
 ·rw [if_neg h, A2.bX h]
theorem A3.cH (d e : H) (v : A2) (x : A3) : A3.get d (A3.set e v x) = if d = e then v else A3.get d x := by
 by_cases h : d = e
 ·rw [if_pos h, h, A3.dK]
 ·rw [if_neg h, A3.bX h]
theorem A4.cH (d e : H) (v : A3) (x : A4) : A4.get d (A4.set e v x) = if d = e then v else A4.get d x := by
 by_cases h : d = e
 ·rw [if_pos h, h, A4.dK]
 ·rw [if_neg h, A4.bX h]
theorem hM (a b c d : H) (v : AV) (r : A2) : an a b (jG c d v r) = if a = c ∧ b = d then v else an a b r := by
 simp only [an, jG, A2.cH]
 by_cases h : a = c
 ·subst h
  simp only [if_true, A1.cH, true_and]
 ·simp [h]
theorem Rm (a b : Nat) : Nat.div a b = a / b := rfl
theorem Ro (a b : Nat) : Nat.mod a b = a % b := rfl
theorem PC {i j : Nat} (hi : i < 16) (hj : j < 16) (v : AV) (x : A1) : g1 i (t1 j v x) = if i = j then v else g1 i x := by
 simp only [g1, t1, A1.cH]
 by_cases h : i = j
 ·simp [h]
 ·rw [if_neg h, if_neg (fun e => h (nc hi hj e))]
theorem PD {i j : Nat} (hi : i < 256) (hj : j < 256) (v : AV) (x : A2) : g2 i (t2 j v x) = if i = j then v else g2 i x := by
 have hi' : i / 16 < 16 := by omega
 have hj' : j / 16 < 16 := by omega
 have hi2 : i % 16 < 16 := by omega
 have hj2 : j % 16 < 16 := by omega
 simp only [g2, t2, Vd, A2.cH, Rm, Ro]
 by_cases h : i / 16 = j / 16
 ·rw [if_pos (congrArg dw h)]
  have := PC hi2 hj2 v (A2.get (dw (j / 16)) x)
  simp only [g1] at this
  rw [this]
  by_cases e : i = j
  ·simp [e]
  ·rw [if_neg e, if_neg (by omega), h]
 ·rw [if_neg (fun e => h (nc hi' hj' e)), if_neg (fun e => h (by rw [e]))]
theorem PE {i j : Nat} (hi : i < 4096) (hj : j < 4096) (v : AV) (x : A3) : g3 i (t3 j v x) = if i = j then v else g3 i x := by
 have hi' : i / 256 < 16 := by omega
 have hj' : j / 256 < 16 := by omega
 simp only [g3, t3, Ve, A3.cH, Rm, Ro]
 by_cases h : i / 256 = j / 256
 ·rw [if_pos (congrArg dw h)]
  rw [PD (show i % 256 < 256 by omega) (show j % 256 < 256 by omega)]
  by_cases e : i = j
  ·simp [e]
  ·rw [if_neg e, if_neg (show ¬ (i % 256 = j % 256) by omega), h]
 ·rw [if_neg (fun e => h (nc hi' hj' e)), if_neg (fun e => h (by rw [e]))]
theorem Tw {i j : Nat} (hi : i < 65536) (hj : j < 65536) (v : AV) (x : A4) : g4 i (t4 j v x) = if i = j then v else g4 i x := by
 have hi' : i / 4096 < 16 := by omega
 have hj' : j / 4096 < 16 := by omega
 simp only [g4, t4, Vf, A4.cH, Rm, Ro]
 by_cases h : i / 4096 = j / 4096
 ·rw [if_pos (congrArg dw h)]
  rw [PE (show i % 4096 < 4096 by omega) (show j % 4096 < 4096 by omega)]
  by_cases e : i = j
  ·simp [e]
  ·rw [if_neg e, if_neg (show ¬ (i % 4096 = j % 4096) by omega), h]
 ·rw [if_neg (fun e => h (nc hi' hj' e)), if_neg (fun e => h (by rw [e]))]
theorem qV {i j : Nat} (c : Cl) (hi : i < bz c) (hj : j < bz c) (v : AV) : eO i (mi j v c) = if i = j then v else eO i c := by
 cases c with
 | k1 x => exact PC hi hj v x
 | k2 x => exact PD hi hj v x
 | k3 x => exact PE hi hj v x
 | k4 x => exact Tw hi hj v x
 | kf m f =>
  show (@Bool.rec (fun _ => AV) (f i) v (Nat.beq i j)) = if i = j then v else f i
  by_cases h : i = j
  ·subst h; rw [Nat.beq_refl, if_pos rfl]
  ·have : Nat.beq i j = false := by rw [← Bool.not_eq_true]; intro g; exact h (Nat.eq_of_beq_eq_true g)
   rw [this, if_neg h]
theorem iG (j : Nat) (v : AV) (c : Cl) : bz (mi j v c) = bz c := by cases c <;> rfl
theorem Ga (i : Nat) (c : Cl) : cG [] i c = c := rfl
theorem lk (v : AV) (l : List AV) (i : Nat) (c : Cl) : cG (v :: l) i c = cG l (i + 1) (mi i v c) := rfl
theorem fh (l : List AV) : ∀ (i : Nat) (c : Cl), bz (cG l i c) = bz c := by
 induction l with
 | nil => intro i c; rfl
 | cons v l ih => intro i c; rw [lk, ih, iG]
theorem ll (l : List AV) : ∀ (i : Nat) (c : Cl) (k : Nat), k < bz c → i + l.length ≤ bz c →
  eO k (cG l i c) = if h : i ≤ k ∧ k < i + l.length then l[k - i]'(by omega) else eO k c := by
 induction l with
 | nil => intro i c k hk hl; rw [Ga, dif_neg (by simp only [List.length_nil]; omega)]
 | cons v l ih =>
  intro i c k hk hl
  simp only [List.length_cons] at hl
  rw [lk, ih (i + 1) _ k (by rw [iG]; exact hk) (by rw [iG]; omega), qV c hk (by omega)]
  by_cases h1 : k = i
  ·subst h1
   rw [dif_neg (by omega), dif_pos (by simp), if_pos rfl]
   simp
  ·rw [if_neg h1]
   by_cases h2 : i ≤ k ∧ k < i + (l.length + 1)
   ·rw [dif_pos (by omega), dif_pos (by simpa using h2)]
    have : k - i = (k - (i + 1)) + 1 := by omega
    simp only [this, List.getElem_cons_succ]
   ·rw [dif_neg (by omega), dif_neg (by simpa using h2)]
theorem DY (c : Cl) : BW c ≤ 16777216 ∧ BW c ≤ bz c := by
 cases c with
 | kf m f =>
  show (@Bool.rec (fun _ => Nat) 0 m (Nat.ble m 16777216)) ≤ 16777216 ∧ (@Bool.rec (fun _ => Nat) 0 m (Nat.ble m 16777216)) ≤ m
  cases h : Nat.ble m 16777216
  ·exact ⟨Nat.zero_le _, Nat.zero_le _⟩
  ·exact ⟨Nat.le_of_ble_eq_true h, Nat.le_refl _⟩
 | _ => simp [bz, BW]
theorem dj (c : Cl) (k : Nat) (hk : k < bz c) : eO k (bE c) = eO k c := by
 cases c with
 | k1 x =>
  have : k < 16 := hk
  show A1.get (dw (k % 16)) (A2.get (dw (k / 16)) (A2.s0 x .nil)) = A1.get (dw k) x
  rw [show k / 16 = 0 by omega, show k % 16 = k by omega]; rfl
 | k2 x =>
  have : k < 256 := hk
  show g2 (k % 256) (A3.get (dw (k / 256)) (A3.s0 x .nil)) = g2 k x
  rw [show k / 256 = 0 by omega, show k % 256 = k by omega]; rfl
 | k3 x =>
  have : k < 4096 := hk
  show g3 (k % 4096) (A4.get (dw (k / 4096)) (A4.s0 x .nil)) = g3 k x
  rw [show k / 4096 = 0 by omega, show k % 4096 = k by omega]; rfl
 | k4 x => rfl
 | kf m f => rfl
theorem mw (c : Cl) : bz c ≤ bz (bE c) := by cases c <;> simp [bz, bE]
theorem Cg (n : Nat) (c : Cl) : kZ n c = c ∨ kZ n c = bE c ∨ kZ n c = bE (bE c) ∨ kZ n c = bE (bE (bE c)) ∨ kZ n c = bE (bE (bE (bE c))) := by
 unfold kZ
 cases Nat.ble n (bz c)
 ·cases Nat.ble n (bz (bE c))
  ·cases Nat.ble n (bz (bE (bE c)))
   ·cases Nat.ble n (bz (bE (bE (bE c))))
    ·exact .inr (.inr (.inr (.inr rfl)))
    ·exact .inr (.inr (.inr (.inl rfl)))
   ·exact .inr (.inr (.inl rfl))
  ·exact .inr (.inl rfl)
 ·exact .inl rfl
theorem Gb (n : Nat) (c : Cl) (k : Nat) (hk : k < bz c) : eO k (kZ n c) = eO k c := by
 have a1 := mw c
 have a2 := mw (bE c)
 have a3 := mw (bE (bE c))
 rcases Cg n c with h | h | h | h | h <;> rw [h]
 ·exact dj c k hk
 ·rw [dj _ k (by omega), dj c k hk]
 ·rw [dj _ k (by omega), dj _ k (by omega), dj c k hk]
 ·rw [dj _ k (by omega), dj _ k (by omega), dj _ k (by omega), dj c k hk]
theorem eB (l : List AV) (hr : l.length ≤ bz (ox l)) (k : Nat) (hk : k < l.length) : eO k (ox l) = l[k] := by
 unfold ox at hr ⊢
 rw [fh] at hr
 rw [ll l 0 _ k (by omega) (by omega), dif_pos (by omega)]
 simp
theorem Ch (c : Cl) (i : Nat) : bI 0 c i = [] := rfl
theorem oM (n : Nat) (c : Cl) (i : Nat) : bI (n + 1) c i = eO i c :: bI n c (i + 1) := rfl
theorem cD (n : Nat) : ∀ (c : Cl) (i : Nat), (bI n c i).length = n := by
 induction n with
 | zero => intro c i; rfl
 | succ n ih => intro c i; rw [oM, List.length_cons, ih]
theorem nX (n : Nat) : ∀ (c : Cl) (i k : Nat) (hk : k < (bI n c i).length), (bI n c i)[k] = eO (i + k) c := by
 induction n with
 | zero => intro c i k hk; simp [Ch] at hk
 | succ n ih =>
  intro c i k hk
  match k with
  | 0 => rfl
  | k + 1 =>
   have := ih c (i + 1) k (by simpa [oM] using hk)
   simp only [oM, List.getElem_cons_succ, this]
   congr 1; omega
noncomputable instance : DecidableEq P4 := fun a b => match a, b with
 | .mk a b c d, .mk a' b' c' d' => if h : a = a' ∧ b = b' ∧ c = c' ∧ d = d' then .isTrue (by obtain ⟨rfl, rfl, rfl, rfl⟩ := h; rfl) else .isFalse (fun e => h (by cases e; exact ⟨rfl, rfl, rfl, rfl⟩))
 | .eN m o, .eN n q => if h : m = n ∧ o = q then .isTrue (by rw [h.1, h.2]) else .isFalse (fun e => h (by cases e; exact ⟨rfl, rfl⟩))
 | .mk .., .eN .. => .isFalse (fun e => by cases e)
 | .eN .., .mk .. => .isFalse (fun e => by cases e)
theorem O1.cH (d e : H) (v : Obj) (x : O1) : O1.get d (O1.set e v x) = if d = e then v else O1.get d x := by
 by_cases h : d = e
 ·rw [if_pos h, h, O1.dK]
 ·rw [if_neg h, O1.bX h]
theorem O2.cH (d e : H) (v : O1) (x : O2) : O2.get d (O2.set e v x) = if d = e then v else O2.get d x := by
 by_cases h : d = e
 ·rw [if_pos h, h, O2.dK]
 ·rw [if_neg h, O2.bX h]
theorem O3.cH (d e : H) (v : O2) (x : O3) : O3.get d (O3.set e v x) = if d = e then v else O3.get d x := by
 by_cases h : d = e
 ·rw [if_pos h, h, O3.dK]
 ·rw [if_neg h, O3.bX h]
theorem O4.cH (d e : H) (v : O3) (x : O4) : O4.get d (O4.set e v x) = if d = e then v else O4.get d x := by
 by_cases h : d = e
 ·rw [if_pos h, h, O4.dK]
 ·rw [if_neg h, O4.bX h]
theorem dg (i j : P4) (o : Obj) (t : T4) : cJ i (df j o t) = if i = j then o else cJ i t := by
 obtain ⟨t, f⟩ := t
 cases i with
 | eN m q =>
  cases j with
  | mk a' b' c' d' => rw [if_neg (by simp)]; rfl
  | eN n s =>
   show (@Bool.rec (fun _ => Obj) (f m q) (@Bool.rec (fun _ => Obj) (f m q) o (Nat.beq q s)) (Nat.beq m n)) = if P4.eN m q = P4.eN n s then o else f m q
   by_cases h : m = n
   ·subst h
    rw [Nat.beq_refl]
    by_cases h2 : q = s
    ·subst h2; rw [Nat.beq_refl, if_pos rfl]
    ·have : Nat.beq q s = false := by rw [← Bool.not_eq_true]; intro g; exact h2 (Nat.eq_of_beq_eq_true g)
     rw [this, if_neg (by simpa using h2)]
   ·have : Nat.beq m n = false := by rw [← Bool.not_eq_true]; intro g; exact h (Nat.eq_of_beq_eq_true g)
    rw [this, if_neg (by simp [h])]
 | mk a b c d =>
 cases j with
 | eN n s => rw [if_neg (by simp)]; rfl
 | mk a' b' c' d' =>
 show O1.get d (O2.get c (O3.get b (O4.get a (O4.set a' (O3.set b' (O2.set c' (O1.set d' o (O2.get c' (O3.get b' (O4.get a' t)))) (O3.get b' (O4.get a' t))) (O4.get a' t)) t)))) = _
 rw [O4.cH]
 by_cases h1 : a = a'
 ·subst h1
  rw [if_pos rfl, O3.cH]
  by_cases h2 : b = b'
  ·subst h2
   rw [if_pos rfl, O2.cH]
   by_cases h3 : c = c'
   ·subst h3
    rw [if_pos rfl, O1.cH]
    by_cases h4 : d = d'
    ·subst h4; simp
    ·rw [if_neg h4, if_neg (by simp [h4])]; rfl
   ·rw [if_neg h3, if_neg (by simp [h3])]; rfl
  ·rw [if_neg h2, if_neg (by simp [h2])]; rfl
 ·rw [if_neg h1, if_neg (by simp [h1])]; rfl
theorem aF (i j : P4) (o : Obj) (h : Hp) : ag i (cM j o h) = if i = j then o else ag i h := by
 cases h with
 | mk t n => exact dg i j o t
structure Place where
 da : Nat
 base : Nat
 room : Nat
abbrev aI := P4 → Option Place
def aI.le (φ ψ : aI) : Prop := ∀ i p, φ i = some p → ψ i = some p
theorem aI.le_refl (φ : aI) : φ.le φ := fun _ _ h => h
theorem aI.le_trans {φ ψ χ : aI} (h : φ.le ψ) (h' : ψ.le χ) : φ.le χ := fun i p e => h' i p (h i p e)
def Place.addr (p : Place) (o : Nat) : Addr := ⟨p.da, p.base + o, none⟩
def UC (n : Nat) : Int := if n % 2 = 0 then (n / 2 : Nat) else -((n / 2 : Nat) : Int) - 1
mutual
inductive VR (φ : aI) : AV → Value → Prop
 | sym (i : P4) (p : Place) : φ i = some p → VR φ (.sym i) (.int .i64 (UC p.room))
 | undef (v : Value) : VR φ .undef v
 | bool (b : Bool) : VR φ (.bool b) (.bool b)
 | int (k : IntKind) (n : Int) : VR φ (.int k n) (.int k n)
 | str (s : ByteArray) (l : List Nat) : l = s.data.toList.map UInt8.toNat → VR φ (.str l) (.string s)
 | nG (k : FloatKind) (n : Nat) : VR φ (.nG k n) (.float k n)
 | iq (k : FloatKind) (a b : Nat) : VR φ (.iq k a b) (.complex k a b)
 | ptr (i : P4) (o : Nat) (p : Place) : φ i = some p → VR φ (.ptr i o) (.pointer (some (p.addr o)))
 | fo : VR φ .fo (.pointer none)
 | slice (i : P4) (o n c : Nat) (p : Place) : φ i = some p → VR φ (.slice i o n c) (.slice (some (p.addr o)) n c)
 | gN (i : P4) (o : Nat) (a : Addr) : VR φ (.slice i o 0 0) (.slice (some a) 0 0)
 | fq (i : P4) (o n es c : Nat) (p : Place) (a : Addr) : φ i = some p → o + c * es = p.room → n ≤ c → a.block = p.da → a.spot = none → (c ≠ 0 → a.off = p.base + o) → 0 < es →
   VR φ (.fq i o n es) (.slice (some a) n c)
 | ar : VR φ .ar (.slice none 0 0)
 | map (i : P4) (p : Place) : φ i = some p → VR φ (.map i) (.map (some p.da))
 | zj : VR φ .zj (.map none)
 | fn (f : Nat) (cs : List AV) (vs : List Value) : cL φ cs vs → VR φ (.fn f cs) (.func (.func f) #[] vs.toArray)
 | EY : VR φ .EY .nilFunc
 | iface (t : Nat) (v : AV) (x : Value) : VR φ v x → VR φ (.iface t v) (.iface t x)
 | Br : VR φ .Br .nilIface
 | agg (cs : List AV) (vs : List Value) : cL φ cs vs → (∀ v, v ∈ vs → v.oneCell' = true) → VR φ (.agg cs) (.agg vs.toArray)
 | jj (cs : List AV) (vs : List Value) : cL φ cs vs → VR φ (.jj cs) (.tuple vs.toArray)
inductive cL (φ : aI) : List AV → List Value → Prop
 | nil : cL φ [] []
 | cons (a : AV) (v : Value) (as : List AV) (vs : List Value) : VR φ a v → cL φ as vs → cL φ (a :: as) (v :: vs)
end
mutual
theorem VR.mono {φ ψ : aI} (h : φ.le ψ) : ∀ {a : AV} {v : Value}, VR φ a v → VR ψ a v
 | _, _, .undef v => .undef v
 | _, _, .sym i p e => .sym i p (h _ _ e)
 | _, _, .bool b => .bool b
 | _, _, .int k n => .int k n
 | _, _, .str s l e => .str s l e
 | _, _, .nG k n => .nG k n
 | _, _, .iq k a b => .iq k a b
 | _, _, .ptr i o p e => .ptr i o p (h _ _ e)
 | _, _, .fo => .fo
 | _, _, .slice i o n c p e => .slice i o n c p (h _ _ e)
 | _, _, .gN i o a => .gN i o a
 | _, _, .fq i o n es c p a e h1 h2 h3 h4 h5 h6 => .fq i o n es c p a (h _ _ e) h1 h2 h3 h4 h5 h6
 | _, _, .ar => .ar
 | _, _, .map i p e => .map i p (h _ _ e)
 | _, _, .zj => .zj
 | _, _, .fn f cs vs e => .fn f cs vs (cL.mono h e)
 | _, _, .EY => .EY
 | _, _, .iface t v x e => .iface t v x (VR.mono h e)
 | _, _, .Br => .Br
 | _, _, .agg cs vs e f => .agg cs vs (cL.mono h e) f
 | _, _, .jj cs vs e => .jj cs vs (cL.mono h e)
theorem cL.mono {φ ψ : aI} (h : φ.le ψ) : ∀ {as : List AV} {vs : List Value}, cL φ as vs → cL ψ as vs
 | _, _, .nil => .nil
 | _, _, .cons a v as vs e es => .cons a v as vs (VR.mono h e) (cL.mono h es)
end
theorem cL.length {φ : aI} : ∀ {as : List AV} {vs : List Value}, cL φ as vs → as.length = vs.length
 | _, _, .nil => rfl
 | _, _, .cons _ _ _ _ _ es => by simp [cL.length es]
theorem cL.get {φ : aI} : ∀ {as : List AV} {vs : List Value}, cL φ as vs → ∀ (k : Nat) (h : k < as.length) (h' : k < vs.length), VR φ as[k] vs[k]
 | _, _, .cons _ _ _ _ e _, 0, _, _ => e
 | _, _, .cons _ _ _ _ _ es, k + 1, h, h' => cL.get es k (by simpa using h) (by simpa using h')
theorem cL.Ci {φ : aI} : ∀ {as : List AV} {vs : List Value}, as.length = vs.length → (∀ (k : Nat) (h : k < as.length) (h' : k < vs.length), VR φ as[k] vs[k]) → cL φ as vs
 | [], [], _, _ => .nil
 | a :: as, v :: vs, hl, h => .cons a v as vs (h 0 (by simp) (by simp)) (cL.Ci (by simpa using hl) fun k h1 h2 => h (k + 1) (by simpa using h1) (by simpa using h2))
 | [], _ :: _, hl, _ => by simp at hl
 | _ :: _, [], hl, _ => by simp at hl
theorem cL.append {φ : aI} : ∀ {as bs : List AV} {vs ws : List Value}, cL φ as vs → cL φ bs ws → cL φ (as ++ bs) (vs ++ ws)
 | _, _, _, _, .nil, h => h
 | _, _, _, _, .cons a v as vs e es, h => .cons a v _ _ e (cL.append es h)
def Gc (fl : Fl) (fz : Nat × Nat) (size : Nat) : Prop := match fl with
 | .plain => fz = (0, 0)
 | .mark => ∀ k, k < size → ¬ (fz.1 ≤ k ∧ k < fz.2)
 | .Bw => True
 | .ro => True
inductive cS (φ : aI) : List KV → List MapEntry → Prop
 | nil : cS φ [] []
 | cons (k v : AV) (b : Nat) (e : MapEntry) (l : List KV) (es : List MapEntry) : VR φ k e.key → VR φ v e.val → e.born = b → cS φ l es → cS φ (.mk k v b :: l) (e :: es)
theorem cS.mono {φ ψ : aI} (h : φ.le ψ) : ∀ {l : List KV} {es : List MapEntry}, cS φ l es → cS ψ l es
 | _, _, .nil => .nil
 | _, _, .cons k v b e l es a c d r => .cons k v b e l es (a.mono h) (c.mono h) d (cS.mono h r)
def OR (φ : aI) (o : Obj) (p : Place) (x : Option Go.Obj) : Prop := match o with
 | .none => True
 | .dead => True
 | .cells el n ex fl c => ∃ (rc : Array Value) (fz : Nat × Nat), x = some (.cells rc el fz) ∧ p.base + p.room = rc.size ∧ n ≤ p.room ∧ (ex = true → p.base = 0 ∧ n = p.room) ∧ n ≤ bz c ∧
   (∀ k, k < n → ∃ cv, rc[p.base + k]? = some cv ∧ VR φ (eO k c) cv ∧ cv.oneCell' = true) ∧ Gc fl fz rc.size
 | .map l ck => ∃ es, x = some (.map es ck) ∧ cS φ l es.toList
 | .DJ s pos => p.base = 0 ∧ ∃ b : ByteArray, x = some (.stringIter b pos) ∧ s = b.data.toList.map UInt8.toNat
 | .wD m since seen last => p.base = 0 ∧ ∃ q, φ m = some q ∧ x = some (.mapIter (some q.da) since seen.toArray last)
 | .DL => p.base = 0 ∧ x = some (.mapIter none 0 #[] 0)
def live (o : Obj) : Prop := o ≠ .none ∧ o ≠ .dead
noncomputable def Obj.ro (o : Obj) : Bool := match o with
 | .cells _ _ _ fl _ => Hf fl
 | _ => false
def wl (o : Obj) : Prop := live o ∧ o.ro = false
structure HR (φ : aI) (h : Hp) (w : World) : Prop where
 obj : ∀ i, live (ag i h) → ∃ p, φ i = some p ∧ OR φ (ag i h) p w.heap[p.da]?
 inj : ∀ i j p q, live (ag i h) → live (ag j h) → wl (ag i h) ∨ wl (ag j h) → i ≠ j → φ i = some p → φ j = some q → p.da ≠ q.da
 fresh : ∀ i, ag i h = .none → φ i = none
 bound : ∀ i p, φ i = some p → p.da < w.heap.size
structure gy (φ : aI) (h : Hp) (w w' : World) : Prop where
 size : w.heap.size ≤ w'.heap.size
 rest : ∀ b, b < w.heap.size → (∀ i p, wl (ag i h) → φ i = some p → p.da ≠ b) → w'.heap[b]? = w.heap[b]?
 tape : w'.tape = w.tape
 os : w'.os = w.os
 output : w'.output = w.output
theorem gy.refl (φ : aI) (h : Hp) (w : World) : gy φ h w w := ⟨Nat.le_refl _, fun _ _ _ => rfl, rfl, rfl, rfl⟩
theorem gy.trans {φ ψ : aI} {h h' : Hp} {w w' w'' : World} (a : gy φ h w w') (b : gy ψ h' w' w'')
  (new : ∀ i p, live (ag i h') → ψ i = some p → (live (ag i h) ∧ φ i = some p ∧ (wl (ag i h') → wl (ag i h))) ∨ w.heap.size ≤ p.da ∨ ∃ j q, wl (ag j h) ∧ φ j = some q ∧ q.da = p.da) : gy φ h w w'' := by
 refine ⟨Nat.le_trans a.size b.size, fun x hx hn => ?_, b.tape.trans a.tape, b.os.trans a.os, b.output.trans a.output⟩
 rw [b.rest x (Nat.lt_of_lt_of_le hx a.size) ?_, a.rest x hx hn]
 intro i p hl hp
 rcases new i p hl.1 hp with ⟨h1, h2, h3⟩ | h1 | ⟨j, q, h1, h2, h3⟩
 ·exact hn i p (h3 hl) h2
 ·omega
 ·rw [← h3]; exact hn j q h1 h2
theorem VR.one {φ : aI} {a : AV} {v : Value} (h : VR φ a v) (ha : a.one = true) : v.oneCell' = true := by
 cases h <;> first | rfl | (cases ha)
theorem aV {el n : Nat} {ex : Bool} {fl : Fl} {c : Cl} : live (.cells el n ex fl c) := ⟨by simp, by simp⟩
theorem Jn {el n : Nat} {ex : Bool} {fl : Fl} {c : Cl} (hf : wr fl = true) : wl (.cells el n ex fl c) := ⟨aV, by cases fl <;> first | rfl | cases hf⟩
theorem nY {i : P4} {h : Hp} {el n : Nat} {ex : Bool} {fl : Fl} {c : Cl} (hi : ag i h = .cells el n ex fl c) (hf : wr fl = true) : wl (ag i h) := hi ▸ Jn hf
theorem pI {l : List KV} {c : Nat} : live (.map l c) := ⟨by simp, by simp⟩
theorem OR.mono {φ ψ : aI} (hφ : φ.le ψ) {o : Obj} {p : Place} {x : Option Go.Obj} (h : OR φ o p x) : OR ψ o p x := by
 cases o with
 | none => trivial
 | dead => trivial
 | cells el n ex fl c =>
  obtain ⟨rc, fz, h1, h2, h3, h4, h5, h6, h7⟩ := h
  exact ⟨rc, fz, h1, h2, h3, h4, h5, fun k hk => let ⟨cv, a, b, d⟩ := h6 k hk; ⟨cv, a, b.mono hφ, d⟩, h7⟩
 | map l ck => obtain ⟨es, h1, h2⟩ := h; exact ⟨es, h1, h2.mono hφ⟩
 | DJ s pos => exact h
 | wD m since seen last => obtain ⟨h0, q, h1, h2⟩ := h; exact ⟨h0, q, hφ _ _ h1, h2⟩
 | DL => exact h
theorem HR.set {φ : aI} {h : Hp} {w w' : World} (H : HR φ h w) {i : P4} {p : Place} {o' : Obj} (hwi : wl (ag i h)) (hp : φ i = some p)
  (hsz : w'.heap.size = w.heap.size) (hne : ∀ b, b ≠ p.da → w'.heap[b]? = w.heap[b]?) (hOR : OR φ o' p w'.heap[p.da]?) (ho : o' ≠ .none) : HR φ (cM i o' h) w' where
 obj j hj := by
  rw [aF] at hj ⊢
  by_cases e : j = i
  ·subst e
   rw [if_pos rfl] at hj ⊢
   exact ⟨p, hp, hOR⟩
  ·rw [if_neg e] at hj ⊢
   obtain ⟨q, hq, hr⟩ := H.obj j hj
   refine ⟨q, hq, ?_⟩
   rw [hne _ (H.inj j i q p hj hwi.1 (.inr hwi) e hq hp)]
   exact hr
 inj j k q r hj hk hw hjk hq hr := by
  rw [aF] at hj hk
  have hl := hwi.1
  have hw' : wl (ag j h) ∨ wl (ag k h) := by
   rw [aF, aF] at hw
   by_cases e : j = i
   ·subst e; exact .inl hwi
   ·by_cases e' : k = i
    ·subst e'; exact .inr hwi
    ·rwa [if_neg e, if_neg e'] at hw
  have hj' : live (ag j h) := by
   by_cases e : j = i
   ·subst e; exact hl
   ·rwa [if_neg e] at hj
  have hk' : live (ag k h) := by
   by_cases e : k = i
   ·subst e; exact hl
   ·rwa [if_neg e] at hk
  exact H.inj j k q r hj' hk' hw' hjk hq hr
 fresh j hj := by
  rw [aF] at hj
  by_cases e : j = i
  ·rw [if_pos e] at hj; exact absurd hj ho
  ·rw [if_neg e] at hj; exact H.fresh j hj
 bound j q hq := by rw [hsz]; exact H.bound j q hq
theorem gy.set {φ : aI} {h : Hp} {w w' : World} {i : P4} {p : Place} (hl : wl (ag i h)) (hp : φ i = some p)
  (hsz : w'.heap.size = w.heap.size) (hne : ∀ b, b ≠ p.da → w'.heap[b]? = w.heap[b]?) (ht : w'.tape = w.tape) (ho : w'.os = w.os) (hu : w'.output = w.output) : gy φ h w w' :=
 ⟨Nat.le_of_eq hsz.symm, fun b _ hb => hne b (fun e => hb i p hl hp e.symm), ht, ho, hu⟩
noncomputable def aI.put (φ : aI) (i : P4) (p : Place) : aI := fun j => if j = i then some p else φ j
theorem aI.aJ (φ : aI) (i : P4) (p : Place) : φ.put i p i = some p := by simp [aI.put]
theorem aI.iD {φ : aI} {i : P4} (p : Place) (h : φ i = none) : φ.le (φ.put i p) := by
 intro j q hq
 unfold aI.put
 by_cases e : j = i
 ·subst e; rw [h] at hq; cases hq
 ·rw [if_neg e]; exact hq
theorem HR.new {φ : aI} {h : Hp} {w w' : World} (H : HR φ h w) {o : Obj} {x : Go.Obj} {room : Nat} {i : P4} {n' : P4} (hi : ag i h = .none)
  (hw : w'.heap = w.heap.push x) (ho : o ≠ .none) (hOR : OR (φ.put i ⟨w.heap.size, 0, room⟩) o ⟨w.heap.size, 0, room⟩ (some x)) :
  HR (φ.put i ⟨w.heap.size, 0, room⟩) (.mk (df i o h.tree) n') w' := by
 have hφ := H.fresh i hi
 have hle := aI.iD (φ := φ) (i := i) ⟨w.heap.size, 0, room⟩ hφ
 have hg : ∀ j, ag j (.mk (df i o h.tree) n') = if j = i then o else ag j h := by
  intro j
  cases h with
  | mk t n => exact dg j i o t
 have hold : ∀ b, b < w.heap.size → w'.heap[b]? = w.heap[b]? := by
  intro b hb
  rw [hw, Array.getElem?_push, if_neg (by omega)]
 have hb : ∀ j q, j ≠ i → (φ.put i ⟨w.heap.size, 0, room⟩) j = some q → φ j = some q := by
  intro j q hj hq
  simpa [aI.put, hj] using hq
 refine ⟨fun j hj => ?_, fun j k q r hj hk hw2 hjk hq hr => ?_, fun j hj => ?_, fun j q hq => ?_⟩
 ·rw [hg] at hj ⊢
  by_cases e : j = i
  ·subst e
   refine ⟨_, aI.aJ _ _ _, ?_⟩
   rw [if_pos rfl]
   have : w'.heap[w.heap.size]? = some x := by rw [hw]; simp
   simpa [this] using hOR
  ·rw [if_neg e] at hj ⊢
   obtain ⟨q, hq, hr⟩ := H.obj j hj
   refine ⟨q, hle _ _ hq, ?_⟩
   rw [hold _ (H.bound j q hq)]
   exact hr.mono hle
 ·rw [hg] at hj hk
  by_cases e1 : j = i
  ·by_cases e2 : k = i
   ·exact absurd (e1.trans e2.symm) hjk
   ·have hr' := hb k r e2 hr
    have hq' : q = ⟨w.heap.size, 0, room⟩ := by rw [e1, aI.aJ] at hq; exact (Option.some.inj hq).symm
    have := H.bound k r hr'
    rw [hq']; show w.heap.size ≠ r.da; omega
  ·have hq' := hb j q e1 hq
   by_cases e2 : k = i
   ·have hr' : r = ⟨w.heap.size, 0, room⟩ := by rw [e2, aI.aJ] at hr; exact (Option.some.inj hr).symm
    have := H.bound j q hq'
    rw [hr']; show q.da ≠ w.heap.size; omega
   ·rw [if_neg e1] at hj
    rw [if_neg e2] at hk
    rw [hg, hg, if_neg e1, if_neg e2] at hw2
    exact H.inj j k q r hj hk hw2 hjk hq' (hb k r e2 hr)
 ·rw [hg] at hj
  by_cases e : j = i
  ·rw [if_pos e] at hj; exact absurd hj ho
  ·rw [if_neg e] at hj
   show (if j = i then some _ else φ j) = none
   rw [if_neg e]; exact H.fresh j hj
 ·by_cases e : j = i
  ·have hq' : q = ⟨w.heap.size, 0, room⟩ := by rw [e, aI.aJ] at hq; exact (Option.some.inj hq).symm
   rw [hq', hw]; simp
  ·have := H.bound j q (hb j q e hq)
   rw [hw]; simp; omega
theorem gy.new {φ : aI} {h : Hp} {w w' : World} {x : Go.Obj} (hw : w'.heap = w.heap.push x) (ht : w'.tape = w.tape) (ho : w'.os = w.os) (hu : w'.output = w.output) : gy φ h w w' :=
 ⟨by rw [hw]; simp, fun b hb _ => by rw [hw, Array.getElem?_push, if_neg (by omega)], ht, ho, hu⟩
theorem ic {o : Obj} {h : Hp} {k : P4 → Hp → RV} {v : AV} {h' : Hp} (e : fZ o h k = .ok v h') :
  ag h.next h = .none ∧ k h.next (.mk (df h.next o h.tree) h.next.succ) = .ok v h' := by
 cases h with
 | mk t nx =>
  have e' : (Bool.rec (RV.err 1) (k nx (.mk (df nx o t) nx.succ)) (isNone (cJ nx t)) : RV) = .ok v h' := e
  show cJ nx t = .none ∧ k nx (.mk (df nx o t) nx.succ) = .ok v h'
  cases hg : cJ nx t <;> simp [hg, isNone] at e' <;> exact ⟨rfl, e'⟩
structure Step (φ : aI) (h : Hp) (w : World) (φ' : aI) (h' : Hp) (w' : World) : Prop where
 le : φ.le φ'
 keeps : gy φ h w w'
 new : ∀ i p, live (ag i h') → φ' i = some p → (live (ag i h) ∧ φ i = some p ∧ (wl (ag i h') → wl (ag i h))) ∨ w.heap.size ≤ p.da ∨ ∃ j q, wl (ag j h) ∧ φ j = some q ∧ q.da = p.da
theorem Step.refl (φ : aI) (h : Hp) (w : World) : Step φ h w φ h w := ⟨φ.le_refl, .refl _ _ _, fun _ _ a b => .inl ⟨a, b, id⟩⟩
theorem Step.trans {φ ψ χ : aI} {h h' h'' : Hp} {w w' w'' : World} (a : Step φ h w ψ h' w') (b : Step ψ h' w' χ h'' w'') : Step φ h w χ h'' w'' := by
 refine ⟨aI.le_trans a.le b.le, a.keeps.trans b.keeps a.new, fun i p hl hp => ?_⟩
 rcases b.new i p hl hp with ⟨h1, h2, h3⟩ | h1 | ⟨j, q, h1, h2, h3⟩
 ·rcases a.new i p h1 h2 with ⟨g1, g2, g3⟩ | g | g
  ·exact .inl ⟨g1, g2, fun x => g3 (h3 x)⟩
  ·exact .inr (.inl g)
  ·exact .inr (.inr g)
 ·exact .inr (.inl (Nat.le_trans a.keeps.size h1))
 ·rcases a.new j q h1.1 h2 with ⟨g1, g2, g4⟩ | g1 | ⟨l, s, g1, g2, g3⟩
  ·exact .inr (.inr ⟨j, q, g4 h1, g2, h3⟩)
  ·exact .inr (.inl (h3 ▸ g1))
  ·exact .inr (.inr ⟨l, s, g1, g2, g3.trans h3⟩)
def Good (φ : aI) (h : Hp) (w : World) (v : AV) (h' : Hp) (r : Result Value) : Prop :=
 ∃ cv w' φ', r = .ok cv w' ∧ VR φ' v cv ∧ HR φ' h' w' ∧ Step φ h w φ' h' w'
def vS (φ : aI) (h : Hp) (w : World) (h' : Hp) (r : Result Unit) : Prop :=
 ∃ w' φ', r = .ok () w' ∧ HR φ' h' w' ∧ Step φ h w φ' h' w'
theorem Good.same {φ : aI} {h : Hp} {w : World} {v : AV} {cv : Value} {r : Result Value} (H : HR φ h w) (hv : VR φ v cv) (hr : r = .ok cv w) : Good φ h w v h r :=
 ⟨cv, w, φ, hr, hv, H, .refl _ _ _⟩
theorem RV.ak {v v' : AV} {h h' : Hp} (e : RV.ok v h = RV.ok v' h') : v = v' ∧ h = h' := by cases e; exact ⟨rfl, rfl⟩
section
variable {n : Nat} {v : AV} {h : Hp} {x : AV}
theorem bD {k : IntKind → Int → RV} (e : AV.dC x k (.err n) = .ok v h) : ∃ kd m, x = .int kd m ∧ k kd m = .ok v h := by
 cases x <;> first | exact ⟨_, _, rfl, e⟩ | cases e
theorem ng {k : Bool → RV} (e : AV.bF x k (.err n) = .ok v h) : ∃ b, x = .bool b ∧ k b = .ok v h := by
 cases x <;> first | exact ⟨_, rfl, e⟩ | cases e
theorem cP {k : List Nat → RV} (e : AV.jw x k (.err n) = .ok v h) : ∃ l, x = .str l ∧ k l = .ok v h := by
 cases x <;> first | exact ⟨_, rfl, e⟩ | cases e
theorem cQ {k : P4 → Nat → RV} (e : AV.fc x k (.err n) = .ok v h) : ∃ i o, x = .ptr i o ∧ k i o = .ok v h := by
 cases x <;> first | exact ⟨_, _, rfl, e⟩ | cases e
theorem dq {k : List AV → RV} (e : AV.nU x k (.err n) = .ok v h) : ∃ l, x = .agg l ∧ k l = .ok v h := by
 cases x <;> first | exact ⟨_, rfl, e⟩ | cases e
theorem Ab {k : List AV → RV} (e : AV.DP x k (.err n) = .ok v h) : ∃ l, x = .jj l ∧ k l = .ok v h := by
 cases x <;> first | exact ⟨_, rfl, e⟩ | cases e
theorem ew {k : FloatKind → Nat → RV} (e : AV.rT x k (.err n) = .ok v h) : ∃ a b, x = .nG a b ∧ k a b = .ok v h := by
 cases x <;> first | exact ⟨_, _, rfl, e⟩ | cases e
theorem fW {k : FloatKind → Nat → Nat → RV} (e : AV.uB x k (.err n) = .ok v h) : ∃ a b c, x = .iq a b c ∧ k a b c = .ok v h := by
 cases x <;> first | exact ⟨_, _, _, rfl, e⟩ | cases e
theorem fy {k : P4 → RV} {d : RV} (e : AV.eD x k d (.err n) = .ok v h) : (∃ i, x = .map i ∧ k i = .ok v h) ∨ (x = .zj ∧ d = .ok v h) := by
 cases x <;> first | exact .inl ⟨_, rfl, e⟩ | exact .inr ⟨rfl, e⟩ | cases e
theorem dW {k k' : P4 → Nat → Nat → Nat → RV} {d : RV} (e : AV.ml x k k' d (.err n) = .ok v h) :
  (∃ i o l c, x = .slice i o l c ∧ k i o l c = .ok v h) ∨ (∃ i o l c, x = .fq i o l c ∧ k' i o l c = .ok v h) ∨ (x = .ar ∧ d = .ok v h) := by
 cases x <;> first | exact .inl ⟨_, _, _, _, rfl, e⟩ | exact .inr (.inl ⟨_, _, _, _, rfl, e⟩) | exact .inr (.inr ⟨rfl, e⟩) | cases e
theorem aX {o : Obj} {k : Nat → Nat → Bool → Fl → Cl → RV} (e : Obj.aU o k (.err n) = .ok v h) : ∃ el m ex fl c, o = .cells el m ex fl c ∧ k el m ex fl c = .ok v h := by
 cases o <;> first | exact ⟨_, _, _, _, _, rfl, e⟩ | cases e
theorem dR {o : Obj} {k : List KV → Nat → RV} (e : Obj.eD o k (.err n) = .ok v h) : ∃ l c, o = .map l c ∧ k l c = .ok v h := by
 cases o <;> first | exact ⟨_, _, rfl, e⟩ | cases e
theorem az {b : Bool} {t : RV} (e : (Bool.rec (.err n) t b : RV) = .ok v h) : b = true ∧ t = .ok v h := by
 cases b
 ·cases e
 ·exact ⟨rfl, e⟩
theorem dc {k : Nat → RV} (e : eK x k (.err n) = .ok v h) : ∃ kd m, x = .int kd (.ofNat m) ∧ k m = .ok v h := by
 obtain ⟨kd, m, rfl, e'⟩ := bD e
 cases m with
 | ofNat m => exact ⟨kd, m, rfl, e'⟩
 | negSucc m => cases e'
end
theorem wJ {w : World} {p : Place} {o : Nat} {rc : Array Value} {el : TypeId} {fz : Nat × Nat} (h : w.heap[p.da]? = some (.cells rc el fz)) : w.cell? (p.addr o) = rc[p.base + o]? := by
 simp [World.cell?, Place.addr, h]
theorem HR.cell {φ : aI} {h : Hp} {w : World} (H : HR φ h w) {i : P4} {p : Place} {el n : Nat} {ex : Bool} {fl : Fl} {c : Cl} {o : Nat}
  (hi : ag i h = .cells el n ex fl c) (hp : φ i = some p) (ho : o < n) : ∃ cv, w.cell? (p.addr o) = some cv ∧ VR φ (eO o c) cv ∧ cv.oneCell' = true := by
 obtain ⟨q, hq, hr⟩ := H.obj i (hi ▸ aV)
 rw [hp] at hq; cases hq
 rw [hi] at hr
 obtain ⟨rc, fz, h1, h2, h3, h4, h5, h6, h7⟩ := hr
 obtain ⟨cv, a, b, d⟩ := h6 o ho
 exact ⟨cv, by rw [wJ h1]; exact a, b, d⟩
theorem ln (w : World) (a : Addr) (v : Value) : (w.setCell a v).heap.size = w.heap.size := by simp [World.setCell]
theorem uG (w : World) (a : Addr) (v : Value) {b : Nat} (hb : b ≠ a.block) : (w.setCell a v).heap[b]? = w.heap[b]? := by
 simp only [World.setCell, Array.getElem?_modify]
 rw [if_neg (fun e => hb e.symm)]
theorem Cj {w : World} {p : Place} {o : Nat} {rc : Array Value} {el : TypeId} {fz : Nat × Nat} (v : Value) (h : w.heap[p.da]? = some (.cells rc el fz)) :
  (w.setCell (p.addr o) v).heap[p.da]? = some (.cells (rc.setIfInBounds (p.base + o) v) el fz) := by
 simp only [World.setCell, Array.getElem?_modify, Place.addr]
 simp [h]
theorem HR.store {φ : aI} {h : Hp} {w : World} (H : HR φ h w) {i : P4} {p : Place} {el n : Nat} {ex : Bool} {fl : Fl} {c : Cl} {o : Nat} {v : AV} {cv : Value}
  (hi : ag i h = .cells el n ex fl c) (hp : φ i = some p) (ho : o < n) (hv : VR φ v cv) (h1 : cv.oneCell' = true) (hf : wr fl = true) :
  HR φ (cM i (.cells el n ex fl (mi o v c)) h) (w.setCell (p.addr o) cv) ∧ gy φ h w (w.setCell (p.addr o) cv) := by
 have hl : live (ag i h) := hi ▸ aV
 have hne : ∀ b, b ≠ p.da → (w.setCell (p.addr o) cv).heap[b]? = w.heap[b]? := fun b hb => uG w _ cv hb
 refine ⟨H.set (nY hi hf) hp (ln _ _ _) hne ?_ (by simp), gy.set (nY hi hf) hp (ln _ _ _) hne rfl rfl rfl⟩
 obtain ⟨q, hq, hr⟩ := H.obj i hl
 rw [hp] at hq; cases hq
 rw [hi] at hr
 obtain ⟨rc, fz, g1, g2, g3, g4, g5, g6, g7⟩ := hr
 refine ⟨rc.setIfInBounds (p.base + o) cv, fz, Cj cv g1, by simpa using g2, g3, g4, by rw [iG]; exact g5, fun k hk => ?_, by simpa using g7⟩
 rw [qV c (by omega) (by omega), Array.getElem?_setIfInBounds]
 by_cases e : k = o
 ·subst e
  exact ⟨cv, by rw [if_pos rfl, if_pos (by omega)], by rw [if_pos rfl]; exact hv, h1⟩
 ·rw [if_neg (by omega), if_neg e]
  exact g6 k hk
theorem uH {φ : aI} {h : Hp} {w : World} (H : HR φ h w) {i : P4} {p : Place} {el n : Nat} {ex : Bool} {fl : Fl} {c : Cl} {o : Nat}
  (hi : ag i h = .cells el n ex fl c) (hp : φ i = some p) (ho : o < n) (hf : wr fl = true) : w.frozen? (p.addr o) = false := by
 obtain ⟨q, hq, hr⟩ := H.obj i (hi ▸ aV)
 rw [hp] at hq; cases hq
 rw [hi] at hr
 obtain ⟨rc, fz, g1, g2, g3, g4, g5, g6, g7⟩ := hr
 simp only [World.frozen?, Place.addr, g1]
 cases fl with
 | plain => cases g7; simp
 | mark =>
  have := g7 (p.base + o) (by omega)
  rw [Bool.eq_false_iff]
  intro hh
  have hh' := Bool.and_eq_true_iff.1 hh
  exact this ⟨of_decide_eq_true hh'.1, of_decide_eq_true hh'.2⟩
 | Bw => cases hf
 | ro => cases hf
theorem vL {P : Program} {w : World} {a : Addr} {v : Value} (h : w.cell? a = some v) : (load a).run P w = .ok v w := by
 rw [run_load, h]
theorem iH {P : Program} {w : World} {a : Addr} {v u : Value} (hv : v.oneCell' = true) (h : w.cell? a = some u) (hf : w.frozen? a = false) : (store a v).run P w = .ok () (w.setCell a v) := by
 rw [run_store P w a v _ hv, h]; simp [hf]
theorem cX (p : Place) (o k : Nat) : (p.addr o).add k = p.addr (o + k) := by
 unfold Addr.add Place.addr
 split
 ·rename_i h; subst h; rfl
 ·simp [Nat.add_assoc]
variable {P : Program} {φ : aI} {h h' : Hp} {w : World} {v : AV} {x y z : AO} {r : A2}
theorem lX {i n : Nat} (e : Ha i n = true) : i < n := Nat.le_of_ble_eq_true e
theorem ai {t : TypeId} {d : TypeDesc} (hd : P.underlying t = some d) (w : World) : (underlying t).run P w = .ok d w := by
 simp [underlying, hd]
theorem bM {t : TypeId} {d : TypeInfo} (hd : P.info? t = some d) (w : World) : (typeInfo t).run P w = .ok d w := by
 simp [typeInfo, hd]
theorem aP {t : TypeId} {d : TypeInfo} (hd : P.info? t = some d) (w : World) : (sizeOf t).run P w = .ok d.size w := by
 simp [sizeOf, bM hd]
theorem hS {t : TypeId} {d : TypeDesc} (hd : P.underlying t = some d) (w : World) : (isAgg t).run P w = .ok (sN P t) w := by
 simp only [isAgg, Sem.run_bind, ai hd, Result.andThen_ok, sN, kH, hd, Option.getD_some]
 cases d <;> rfl
theorem ji {t : TypeId} {d : TypeDesc} (hd : P.underlying t = some d) : ∃ i, P.info? t = some i := by
 unfold Program.underlying at hd
 cases hi : P.info? t with
 | some i => exact ⟨i, rfl⟩
 | none => rw [hi] at hd; cases hd
theorem cR {t : TypeId} {i : TypeInfo} (hi : P.info? t = some i) : bp P t = i.size := by simp [bp, Program.cellsOf, hi]
theorem Hu {cx : Value} (H : HR φ h w) (hx : VR φ (ev x r) cx) {t : TypeId} {d : TypeDesc} (hd : P.underlying t = some d) (ha : sN P t = false)
  (e : jZ x r h = .ok v h') : Good φ h w v h' ((Instr.loadAt t cx).run P w) := by
 obtain ⟨i, o, ex, e⟩ := cQ e
 rw [ex] at hx
 obtain ⟨el, n, ex, fl, c, hi, e⟩ := aX e
 obtain ⟨hb, e⟩ := az e
 obtain ⟨rfl, rfl⟩ := RV.ak e
 cases hx with
 | ptr _ _ p hp =>
  obtain ⟨cv, h1, h2, h3⟩ := H.cell hi hp (lX hb)
  refine .same H h2 ?_
  simp [Instr.loadAt, Instr.sureAddr, loadVar, hS hd, ha, h1]
theorem oO {a : Addr} {cv u : Value} (h1 : cv.oneCell' = true) (hc : w.cell? a = some u) (hf : w.frozen? a = false) :
  (storeCells a [cv]).run P w = .ok () (w.setCell a cv) := by
 have : a.add 0 = a := by simp [Addr.add]
 simp [storeCells, this, iH h1 hc hf]
theorem wK {cv : Value} (h1 : cv.oneCell' = true) : cv.cells = #[cv] := by cases cv <;> first | rfl | cases h1
theorem Hx {cx cy : Value} (H : HR φ h w) (hx : VR φ (ev x r) cx) (hy : VR φ (ev y r) cy) {t : TypeId} {i : TypeInfo} (hi : P.info? t = some i) (hs : i.size = 1)
  (e : ur x y r h = .ok v h') :
  v = .undef ∧ vS φ h w h' ((Instr.storeAt t cx cy).run P w) := by
 obtain ⟨i, o, ex, e⟩ := cQ e
 rw [ex] at hx
 obtain ⟨el, n, ex, fl, c, hi', e⟩ := aX e
 obtain ⟨hw, e⟩ := az e
 obtain ⟨hb, e⟩ := az e
 obtain ⟨rfl, rfl⟩ := RV.ak e
 refine ⟨rfl, ?_⟩
 obtain ⟨hb, h1⟩ := Bool.and_eq_true_iff.1 hb
 have ho : o < n := lX hb
 cases hx with
 | ptr _ _ p hp =>
  obtain ⟨u, c1, c2, c3⟩ := H.cell hi' hp ho
  obtain ⟨g1, g2⟩ := H.store hi' hp ho hy (hy.one h1) hw
  refine ⟨_, φ, ?_, g1, φ.le_refl, g2, fun j q hj hq => ?_⟩
  ·simp [Instr.storeAt, Instr.sureAddr, storeVar, wK (hy.one h1), aP hi, hs, oO (hy.one h1) c1 (uH H hi' hp ho hw)]
  ·rw [aF] at hj
   by_cases ej : j = i
   ·subst ej; exact .inl ⟨hi' ▸ aV, hq, fun _ => nY hi' hw⟩
   ·rw [if_neg ej] at hj; exact .inl ⟨hj, hq, fun x => by rw [aF, if_neg ej] at x; exact x⟩
theorem run_loadCellsFrom {a : Addr} : ∀ (n i : Nat) (acc : Array Value) (l : List Value), l.length = n → (∀ k (hk : k < l.length), w.cell? (a.add (i + k)) = some l[k]) →
  (loadCellsFrom a i n acc).run P w = .ok (acc ++ l.toArray) w := by
 intro n
 induction n with
 | zero => intro i acc l hl _; rw [List.length_eq_zero_iff.1 hl]; simp [loadCellsFrom]
 | succ n ih =>
  intro i acc l hl hc
  match l, hl with
  | x :: l, hl =>
   have h0 := hc 0 (by simp)
   simp only [Nat.add_zero, List.getElem_cons_zero] at h0
   simp only [loadCellsFrom, Sem.run_bind, vL h0, Result.andThen_ok]
   rw [ih (i + 1) (acc.push x) l (by simpa using hl) ?_]
   ·simp
   ·intro k hk
    have := hc (k + 1) (by simp; omega)
    simpa [Nat.add_assoc, Nat.add_comm 1 k] using this
theorem run_loadCells {a : Addr} {n : Nat} {l : List Value} (hl : l.length = n) (hc : ∀ k (hk : k < l.length), w.cell? (a.add k) = some l[k]) : (loadCells a n).run P w = .ok l.toArray w := by
 unfold loadCells
 rw [run_loadCellsFrom n 0 #[] l hl (by simpa using hc)]
 simp
theorem HR.values (H : HR φ h w) {i : P4} {p : Place} {el n : Nat} {ex : Bool} {fl : Fl} {c : Cl} (hi : ag i h = .cells el n ex fl c) (hp : φ i = some p) :
  ∀ (m o : Nat), o + m ≤ n → ∃ l : List Value, l.length = m ∧ cL φ (bI m c o) l ∧ (∀ x, x ∈ l → x.oneCell' = true) ∧ (∀ k (hk : k < l.length), w.cell? ((p.addr o).add k) = some l[k]) := by
 intro m
 induction m with
 | zero => intro o _; exact ⟨[], rfl, .nil, by simp, by simp⟩
 | succ m ih =>
  intro o ho
  obtain ⟨l, h1, h2, h3, h4⟩ := ih (o + 1) (by omega)
  obtain ⟨cv, c1, c2, c3⟩ := H.cell hi hp (show o < n by omega)
  refine ⟨cv :: l, by simp [h1], .cons _ _ _ _ c2 h2, ?_, ?_⟩
  ·intro x hx
   cases List.mem_cons.1 hx with
   | inl e => exact e ▸ c3
   | inr e => exact h3 x e
  ·intro k hk
   match k with
   | 0 => simpa [cX] using c1
   | k + 1 =>
    have := h4 k (by simpa using hk)
    rw [cX] at this ⊢
    simpa [show o + 1 + k = o + (k + 1) by omega] using this
theorem Ht {cx : Value} (H : HR φ h w) (hx : VR φ (ev x r) cx) {t : TypeId} {d : TypeDesc} (hd : P.underlying t = some d) (ha : sN P t = true) {m : Nat} (hm : bp P t = m)
  (e : rR m x r h = .ok v h') :
  Good φ h w v h' ((Instr.loadAt t cx).run P w) := by
 obtain ⟨i, o, ex, e⟩ := cQ e
 rw [ex] at hx
 obtain ⟨el, n, ex, fl, c, hi, e⟩ := aX e
 obtain ⟨hb, e⟩ := az e
 obtain ⟨rfl, rfl⟩ := RV.ak e
 obtain ⟨inf, hinf⟩ := ji hd
 cases hx with
 | ptr _ _ p hp =>
  obtain ⟨l, h1, h2, h3, h4⟩ := H.values hi hp m o (by simpa using hb)
  refine .same H (.agg _ l h2 h3) ?_
  have hsz : inf.size = m := by rw [← cR hinf, hm]
  simp [Instr.loadAt, Instr.sureAddr, loadVar, hS hd, ha, aP hinf, hsz, run_loadCells h1 h4]
theorem my {i : P4} {p : Place} (hp : φ i = some p) {el n : Nat} {ex : Bool} {fl : Fl} (hf : wr fl = true) : ∀ (l : List AV) (vs : List Value) (h : Hp) (w : World) (c : Cl) (o k : Nat), HR φ h w → ag i h = .cells el n ex fl c → cL φ l vs → (∀ x, x ∈ vs → x.oneCell' = true) → o + k + l.length ≤ n →
  ∃ w', (storeCells (p.addr o) vs k).run P w = .ok () w' ∧ HR φ (cM i (.cells el n ex fl (cG l (o + k) c)) h) w' ∧ gy φ h w w' := by
 intro l
 induction l with
 | nil =>
  intro vs h w c o k H hi hl _ _
  cases hl
  refine ⟨w, rfl, ?_, .refl _ _ _⟩
  have hl : live (ag i h) := hi ▸ aV
  obtain ⟨q, hq, hr⟩ := H.obj i hl
  rw [hp] at hq; cases hq
  rw [hi] at hr
  exact H.set (nY hi hf) hp rfl (fun _ _ => rfl) hr (by simp)
 | cons a l ih =>
  intro vs h w c o k H hi hl h1 hn
  cases hl with
  | cons _ x _ xs hx hxs =>
   simp only [List.length_cons] at hn
   have ho : o + k < n := by omega
   have hx1 := h1 x (by simp)
   obtain ⟨u, c1, c2, c3⟩ := H.cell hi hp ho
   obtain ⟨g1, g2⟩ := H.store hi hp ho hx hx1 hf
   have hi2 : ag i (cM i (.cells el n ex fl (mi (o + k) a c)) h) = .cells el n ex fl (mi (o + k) a c) := by rw [aF, if_pos rfl]
   obtain ⟨w', r1, r2, r3⟩ := ih xs _ _ (mi (o + k) a c) o (k + 1) g1 hi2 hxs (fun y hy => h1 y (by simp [hy])) (by omega)
   refine ⟨w', ?_, ?_, ?_⟩
   ·simp only [storeCells, Sem.run_bind, cX, iH hx1 c1 (uH H hi hp ho hf), Result.andThen_ok]
    exact r1
   ·rw [lk]
    have H' := r2
    refine ⟨fun j hj => ?_, fun j m q s hj hm hw2 => ?_, fun j hj => ?_, H'.bound⟩
    ·have := H'.obj j
     simp only [aF] at this hj ⊢
     by_cases e : j = i
     ·simp only [e, if_true] at this hj ⊢; exact this hj
     ·simp only [e, if_false] at this hj ⊢; exact this hj
    ·have := H'.inj j m q s
     simp only [aF] at this hj hm hw2
     by_cases e : j = i <;> by_cases e' : m = i <;> simp only [e, e', if_true, if_false] at this hj hm hw2 ⊢ <;> exact this hj hm hw2
    ·have := H'.fresh j
     simp only [aF] at this hj
     by_cases e : j = i <;> simp only [e, if_true, if_false] at this hj ⊢ <;> exact this hj
   ·refine g2.trans r3 fun j q hj hq => ?_
    rw [aF] at hj
    by_cases e : j = i
    ·subst e; exact .inl ⟨hi ▸ aV, hq, fun _ => nY hi hf⟩
    ·rw [if_neg e] at hj; exact .inl ⟨hj, hq, fun x => by rw [aF, if_neg e] at x; exact x⟩
variable {P : Program} {φ : aI} {h h' : Hp} {w : World} {v : AV} {x y z : AO} {r : A2}
theorem yt {c : Value} {a : AV} (e : Bq c = some a) (φ : aI) : VR φ a c ∧ c.oneCell' = true := by
 unfold Bq at e
 split at e <;> cases e <;> refine ⟨?_, rfl⟩
 ·exact .bool _
 ·exact .int _ _
 ·exact .nG _ _
 ·exact .iq _ _ _
 ·exact .str _ _ rfl
 ·exact .fo
 ·exact .ar
 ·exact .zj
 ·exact .fn _ _ [] .nil
 ·exact .EY
 ·exact .Br
theorem nk (φ : aI) : ∀ {cs : List Value} {l : List AV}, cs.mapM Bq = some l → cL φ l cs ∧ ∀ c, c ∈ cs → c.oneCell' = true
 | [], l, e => by
  simp at e; subst e; exact ⟨.nil, by simp⟩
 | c :: cs, l, e => by
  simp only [List.mapM_cons, Option.pure_def, Option.bind_eq_bind, Option.bind_eq_some_iff, Option.some.injEq] at e
  obtain ⟨a, ha, as, has, rfl⟩ := e
  obtain ⟨h1, h2⟩ := yt ha φ
  obtain ⟨h3, h4⟩ := nk φ has
  refine ⟨.cons _ _ _ _ h1 h3, ?_⟩
  intro d hd
  cases List.mem_cons.1 hd with
  | inl e => exact e ▸ h2
  | inr e => exact h4 d e
theorem px {c : Value} {a : AV} (e : Dd c = some a) (φ : aI) : VR φ a c := by
 unfold Dd at e
 split at e
 ·rename_i cs
  simp only [Option.map_eq_some_iff] at e
  obtain ⟨l, hl, rfl⟩ := e
  obtain ⟨h1, h2⟩ := nk φ hl
  have := VR.agg (φ := φ) l cs.toList h1 h2
  simpa using this
 ·simp only [Option.map_eq_some_iff] at e
  obtain ⟨l, hl, rfl⟩ := e
  exact .iface _ _ _ (yt hl φ).1
 ·exact (yt e φ).1
theorem jt {el n : Nat} {ex : Bool} {fl : Fl} {c : Cl} {k : P4 → Hp → RV} (e : ja el ex fl n c h k = .ok v h') :
  n ≤ bz c ∧ ag h.next h = .none ∧ k h.next (.mk (df h.next (.cells el n ex fl c) h.tree) h.next.succ) = .ok v h' := by
 obtain ⟨hb, e⟩ := az e
 exact ⟨Nat.le_trans (Nat.le_of_ble_eq_true hb) (DY c).2, ic e⟩
theorem ta {el n : Nat} {ex : Bool} {fl : Fl} {c : Cl} {k : P4 → Hp → RV} (e : ja el ex fl n c h k = .ok v h') : n ≤ 16777216 := by
 obtain ⟨hb, e⟩ := az e
 exact Nat.le_trans (Nat.le_of_ble_eq_true hb) (DY c).1
theorem HR.pM (H : HR φ h w) {i n' : P4} (hi : ag i h = .none) {rc : Array Value} {el n : Nat} {ex : Bool} {fl : Fl} {fz : Nat × Nat} {c : Cl} (hn : n ≤ rc.size) (hex : ex = true → n = rc.size)
  (hr : n ≤ bz c) (hc : ∀ k, k < n → ∃ cv, rc[k]? = some cv ∧ VR φ (eO k c) cv ∧ cv.oneCell' = true) (hf : Gc fl fz rc.size) {w' : World} (hw : w'.heap = w.heap.push (.cells rc el fz))
  (ht : w'.tape = w.tape) (ho : w'.os = w.os) (hu : w'.output = w.output) :
  HR (φ.put i ⟨w.heap.size, 0, rc.size⟩) (.mk (df i (.cells el n ex fl c) h.tree) n') w' ∧ Step φ h w (φ.put i ⟨w.heap.size, 0, rc.size⟩) (.mk (df i (.cells el n ex fl c) h.tree) n') w' := by
 have hle := aI.iD (φ := φ) (i := i) ⟨w.heap.size, 0, rc.size⟩ (H.fresh i hi)
 refine ⟨H.new hi hw (by simp) ⟨rc, fz, rfl, by simp, hn, fun e => ⟨rfl, hex e⟩, hr, fun k hk => ?_, hf⟩, hle, .new hw ht ho hu, fun j q hj hq => ?_⟩
 ·obtain ⟨cv, a, b, d⟩ := hc k hk
  exact ⟨cv, by simpa using a, b.mono hle, d⟩
 ·by_cases e : j = i
  ·subst e
   rw [aI.aJ] at hq; cases hq
   exact .inr (.inl (Nat.le_refl _))
  ·have hg : ag j (.mk (df i (.cells el n ex fl c) h.tree) n') = ag j h := by
    cases h with
    | mk t m => exact (dg j i _ t).trans (if_neg e)
   rw [hg] at hj
   exact .inl ⟨hj, by simpa [aI.put, e] using hq, fun x => by rw [hg] at x; exact x⟩
theorem eA (el : TypeId) (cs : Array Value) : (newRow el cs).run P w = .ok ⟨w.heap.size, 0, none⟩ { w with heap := w.heap.push (.cells cs el) } := by
 simp [newRow]
theorem HR.DZ (H : HR φ h w) {i n' : P4} (hi : ag i h = .none) {l : List AV} {vs : List Value} (hl : cL φ l vs) (h1 : ∀ c, c ∈ vs → c.oneCell' = true) {el : Nat} {c : Cl} (hr : l.length ≤ bz c)
  (hc : ∀ k (hk : k < l.length), eO k c = l[k]) :
  HR (φ.put i ⟨w.heap.size, 0, vs.length⟩) (.mk (df i (.cells el l.length true .plain c) h.tree) n') { w with heap := w.heap.push (.cells vs.toArray el) } ∧
   Step φ h w (φ.put i ⟨w.heap.size, 0, vs.length⟩) (.mk (df i (.cells el l.length true .plain c) h.tree) n') { w with heap := w.heap.push (.cells vs.toArray el) } := by
 have hlen := hl.length
 have := H.pM (n' := n') hi (rc := vs.toArray) (el := el) (n := l.length) (ex := true) (fl := .plain) (fz := (0, 0)) (c := c) (by simp [hlen]) (fun _ => by simp [hlen]) hr
  (fun k hk => ⟨vs[k]'(by omega), by simp, by rw [hc k hk]; exact hl.get k hk (by omega), h1 _ (List.getElem_mem _)⟩) rfl (w' := { w with heap := w.heap.push (.cells vs.toArray el) }) rfl rfl rfl rfl
 simpa using this
theorem sZ {i : P4} (e : qP i h = .ok v h') : v = .ptr i 0 ∧ h' = h := by cases e; exact ⟨rfl, rfl⟩
theorem mz (H : HR φ h w) {l : List AV} {vs : List Value} (hl : cL φ l vs) (h1 : ∀ c, c ∈ vs → c.oneCell' = true) {el : Nat} {c : Cl}
  (hc : l.length ≤ bz c → ∀ k (hk : k < l.length), eO k c = l[k]) (e : ja el true .plain l.length c h qP = .ok v h') :
  Good φ h w v h' (.ok (.pointer (some ⟨w.heap.size, 0, none⟩)) { w with heap := w.heap.push (.cells vs.toArray el) }) := by
 obtain ⟨hr, hi, e⟩ := jt e
 obtain ⟨rfl, rfl⟩ := sZ e
 obtain ⟨g1, g2⟩ := H.DZ (n' := h.next.succ) hi hl h1 (el := el) hr (hc hr)
 refine ⟨_, _, _, rfl, ?_, g1, g2⟩
 have := VR.ptr (φ := φ.put h.next ⟨w.heap.size, 0, vs.length⟩) h.next 0 _ (aI.aJ _ _ _)
 simpa [Place.addr] using this
theorem Bx (H : HR φ h w) {t : TypeId} {zs : List AV} (hz : gw P t = some zs) (e : DT t zs.length (ox zs) r h = .ok v h') :
  Good φ h w v h' ((Instr.alloc t true (.tuple #[])).run P w) := by
 unfold gw at hz
 simp only [Option.bind_eq_some_iff] at hz
 obtain ⟨zv, ⟨inf, hinf, hzv⟩, hl⟩ := hz
 obtain ⟨g1, g2⟩ := nk φ hl
 have := mz H g1 g2 (fun hr k hk => eB zs hr k hk) e
 have hrun : (Instr.alloc t true (.tuple #[])).run P w = .ok (.pointer (some ⟨w.heap.size, 0, none⟩)) { w with heap := w.heap.push (.cells zv.cells t) } := by
  simp [Instr.alloc, zeroValue, bM hinf, hzv, newVar, eA]
 rw [hrun]
 simpa using this
theorem VR.jz {a : AV} {c : Value} (hv : VR φ a c) {l : List AV} (hl : (a = .agg l) ∨ (a.one = true ∧ l = [a])) : cL φ l c.cells.toList ∧ ∀ d, d ∈ c.cells.toList → d.oneCell' = true := by
 rcases hl with rfl | ⟨h1, rfl⟩
 ·cases hv with
  | agg _ vs hvs ho => exact ⟨by simpa [Value.cells] using hvs, by simpa [Value.cells] using ho⟩
 ·have := hv.one h1
  rw [wK this]
  exact ⟨.cons _ _ _ _ hv .nil, by simpa using this⟩
theorem Rp {a : AV} {f : List AV → RV} {g : RV} {e : RV} (he : (OL.rec g f a.asAgg : RV) = e) : (∃ l, a = .agg l ∧ f l = e) ∨ ((∀ l, a ≠ .agg l) ∧ g = e) := by
 cases a <;> first | exact .inl ⟨_, rfl, he⟩ | exact .inr ⟨fun l => by simp, he⟩
theorem Hr {cx : Value} (H : HR φ h w) (hx : VR φ (ev x r) cx) {t : TypeId} (e : zQ t x r h = .ok v h') : Good φ h w v h' ((Instr.box t cx).run P w) := by
 have hrun : (Instr.box t cx).run P w = .ok (.pointer (some ⟨w.heap.size, 0, none⟩)) { w with heap := w.heap.push (.cells cx.cells t) } := by
  simp [Instr.box, newVar, eA]
 rw [hrun]
 rcases Rp e with ⟨l, hl, e⟩ | ⟨_, e⟩
 ·obtain ⟨g1, g2⟩ := hx.jz (.inl hl)
  simpa using mz H g1 g2 (fun hr k hk => eB l hr k hk) e
 ·obtain ⟨h1, e⟩ := az e
  obtain ⟨g1, g2⟩ := hx.jz (.inr ⟨h1, rfl⟩)
  simpa using mz H g1 g2 (fun hr k hk => eB _ hr k hk) e
theorem Hw {cx cy : Value} (H : HR φ h w) (hx : VR φ (ev x r) cx) (hy : VR φ (ev y r) cy) {t : TypeId} {i : TypeInfo} (hi : P.info? t = some i) {m : Nat} (hm : bp P t = m)
  (e : zR m x y r h = .ok v h') : v = .undef ∧ vS φ h w h' ((Instr.storeAt t cx cy).run P w) := by
 obtain ⟨j, o, ex, e⟩ := cQ e
 rw [ex] at hx
 obtain ⟨el, n, ex, fl, c, hj, e⟩ := aX e
 obtain ⟨hw, e⟩ := az e
 obtain ⟨hb, e⟩ := az e
 obtain ⟨l, ey, e⟩ := dq e
 rw [ey] at hy
 obtain ⟨hlen, e⟩ := az e
 obtain ⟨rfl, rfl⟩ := RV.ak e
 refine ⟨rfl, ?_⟩
 have hle : o + m ≤ n := Nat.le_of_ble_eq_true hb
 have hlm : l.length = m := Nat.eq_of_beq_eq_true hlen
 cases hx with
 | ptr _ _ p hp =>
  cases hy with
  | agg _ vs hvs ho =>
   obtain ⟨w', r1, r2, r3⟩ := my (P := P) hp hw l vs h w c o 0 H hj hvs ho (by omega)
   refine ⟨w', φ, ?_, r2, φ.le_refl, r3, fun k q hk hq => ?_⟩
   ·have hsz : i.size = vs.length := by rw [← cR hi, hm, ← hlm, hvs.length]
    simp only [Instr.storeAt, Instr.sureAddr, storeVar, Value.cells]
    simp [aP hi, hsz, r1]
   ·rw [aF] at hk
    by_cases ek : k = j
    ·subst ek; exact .inl ⟨hj ▸ aV, hq, fun _ => nY hj hw⟩
    ·rw [if_neg ek] at hk; exact .inl ⟨hk, hq, fun x => by rw [aF, if_neg ek] at x; exact x⟩
variable {P : Program} {φ : aI} {h h' : Hp} {w : World} {v : AV} {x y z : AO} {r : A2}
theorem te (a b : Int) : QJ a b = a + b := by cases a <;> cases b <;> rfl
theorem yu (a : Int) : QK a = -a := by
 cases a with
 | ofNat m => cases m <;> rfl
 | negSucc m => rfl
theorem Ea (a b : Int) : MT a b = a * b := by cases a <;> cases b <;> rfl
theorem Ng (a b : Int) : QL a b = a.tdiv b := by cases a <;> cases b <;> rfl
theorem Nh (a b : Int) : IU a b = a.tmod b := by cases a <;> cases b <;> rfl
theorem yv (a b : Int) : SS a b = decide (a ≤ b) := by
 cases a with
 | ofNat m => cases b with
  | ofNat n => show Nat.ble m n = _; rw [Bool.eq_iff_iff, Nat.ble_eq]; simp
  | negSucc n => show false = _; symm; simp; omega
 | negSucc m => cases b with
  | ofNat n => show true = _; symm; simp; omega
  | negSucc n => show Nat.ble n m = _; rw [Bool.eq_iff_iff, Nat.ble_eq]; simp; omega
theorem qW (a b : Int) : MU a b = decide (a < b) := by
 cases a with
 | ofNat m => cases b with
  | ofNat n => show Nat.ble (m + 1) n = _; rw [Bool.eq_iff_iff, Nat.ble_eq]; simp; omega
  | negSucc n => show false = _; symm; simp; omega
 | negSucc m => cases b with
  | ofNat n => show true = _; symm; simp; omega
  | negSucc n => show Nat.ble (n + 1) m = _; rw [Bool.eq_iff_iff, Nat.ble_eq]; simp; omega
theorem gK (a b : Int) : ub a b = decide (a = b) := by
 cases a with
 | ofNat m => cases b with
  | ofNat n => show Nat.beq m n = _; rw [Bool.eq_iff_iff, Nat.beq_eq]; simp; omega
  | negSucc n => show false = _; symm; simp
 | negSucc m => cases b with
  | ofNat n => show false = _; symm; simp
  | negSucc n => show Nat.beq m n = _; rw [Bool.eq_iff_iff, Nat.beq_eq]; simp
theorem Eb (k : IntKind) (top : Nat) (n : Int) (hk : ∀ m : Int, -(top : Int) - 1 ≤ m → m ≤ top → k.wrap m = m) : wS k top n = k.wrap n := by
 cases n with
 | ofNat m =>
  show (Bool.rec _ _ (Nat.ble m top) : Int) = _
  cases hb : Nat.ble m top
  ·rfl
  ·have : m ≤ top := Nat.le_of_ble_eq_true hb
   show Int.ofNat m = k.wrap (Int.ofNat m)
   exact (hk _ (by simp; omega) (by simp; omega)).symm
 | negSucc m =>
  show (Bool.rec _ _ (Nat.ble m top) : Int) = _
  cases hb : Nat.ble m top
  ·rfl
  ·have : m ≤ top := Nat.le_of_ble_eq_true hb
   show Int.negSucc m = k.wrap (Int.negSucc m)
   exact (hk _ (by omega) (by omega)).symm
theorem Ec (k : IntKind) (size : Nat) (n : Int) (hk : ∀ m : Nat, k.wrap (m : Int) = ((m % size : Nat) : Int)) : wU k size n = k.wrap n := by
 cases n with
 | ofNat m => exact (hk m).symm
 | negSucc m => rfl
theorem dr (k : IntKind) (n : Int) : jv k n = k.wrap n := by
 cases k
 ·exact Eb _ _ _ (fun m h1 h2 => by simp only [IntKind.wrap, IntKind.bits, IntKind.signed]; simp; split <;> omega)
 ·exact Eb _ _ _ (fun m h1 h2 => by simp only [IntKind.wrap, IntKind.bits, IntKind.signed]; simp; split <;> omega)
 ·exact Eb _ _ _ (fun m h1 h2 => by simp only [IntKind.wrap, IntKind.bits, IntKind.signed]; simp; split <;> omega)
 ·exact Eb _ _ _ (fun m h1 h2 => by simp only [IntKind.wrap, IntKind.bits, IntKind.signed]; simp; split <;> omega)
 ·exact Ec _ _ _ (fun m => by simp only [IntKind.wrap, IntKind.bits, IntKind.signed]; simp)
 ·exact Ec _ _ _ (fun m => by simp only [IntKind.wrap, IntKind.bits, IntKind.signed]; simp)
 ·exact Ec _ _ _ (fun m => by simp only [IntKind.wrap, IntKind.bits, IntKind.signed]; simp)
 ·exact Ec _ _ _ (fun m => by simp only [IntKind.wrap, IntKind.bits, IntKind.signed]; simp)
theorem iu {a b : IntKind} (h : mc a b = true) : a = b := by cases a <;> cases b <;> first | rfl | cases h
theorem Iw {f : IntKind → Int → Int → AV} {a b : AV} (e : BP f a b h = .ok v h') : ∃ k m n, a = .int k m ∧ b = .int k n ∧ v = f k m n ∧ h' = h := by
 obtain ⟨k, m, ea, e1⟩ := bD e
 obtain ⟨k', n, eb, e2⟩ := bD e1
 obtain ⟨hk, e3⟩ := az e2
 subst ea eb
 obtain ⟨rfl, rfl⟩ := RV.ak e3
 obtain rfl := iu hk
 exact ⟨k, m, n, rfl, rfl, rfl, rfl⟩
theorem Ed {a : AV} (e : MW a h = .ok v h') : a = v ∧ h' = h ∧ a ≠ .undef := by
 cases a <;> first | (cases e; exact ⟨rfl, rfl, by simp⟩) | cases e
theorem Ix {f : IntKind → Int → Int → AV} {a b : AV} (e : ME f a b h = .ok v h') : ∃ k m n, a = .int k m ∧ b = .int k n ∧ v = f k m n ∧ h' = h ∧ v ≠ .undef := by
 obtain ⟨k, m, ea, e1⟩ := bD e
 obtain ⟨k', n, eb, e2⟩ := bD e1
 obtain ⟨hk, e3⟩ := az e2
 subst ea eb
 obtain ⟨g1, g2, g3⟩ := Ed e3
 obtain rfl := iu hk
 exact ⟨k, m, n, rfl, rfl, g1.symm, g2, g1 ▸ g3⟩
theorem VR.aW {k : IntKind} {n : Int} {c : Value} (hv : VR φ (.int k n) c) : c = .int k n := by cases hv; rfl
theorem VR.cW {b : Bool} {c : Value} (hv : VR φ (.bool b) c) : c = .bool b := by cases hv; rfl
theorem VR.db {l : List Nat} {c : Value} (hv : VR φ (.str l) c) : ∃ s : ByteArray, c = .string s ∧ l = s.data.toList.map UInt8.toNat := by cases hv; exact ⟨_, rfl, by assumption⟩
theorem eS {op : BinOp} {t : TypeId} {p q : Operand} {k k' : IntKind} {m n : Int} : (eqGuard op t p q (.int k m) (.int k' n)).run P w = .ok () w := by
 unfold eqGuard
 cases op <;> simp
section
variable {t : TypeId} {p q : Operand} {cx cy : Value}
theorem mA {f : IntKind → Int → Int → AV} {op : BinOp} (H : HR φ h w) {a b : AV} (hx : VR φ a cx) (hy : VR φ b cy) (e : BP f a b h = .ok v h')
  (hf : ∀ k m n, ∃ c, (binOp op t (.int k m) (.int k n)).run P w = .ok c w ∧ VR φ (f k m n) c) : Good φ h w v h' ((do eqGuard op t p q cx cy; binOp op t cx cy : Sem Value).run P w) := by
 obtain ⟨k, m, n, rfl, rfl, rfl, rfl⟩ := Iw e
 rw [hx.aW, hy.aW]
 obtain ⟨c, h1, h2⟩ := hf k m n
 refine .same H h2 ?_
 simp [eS, h1]
theorem qX {f : IntKind → Int → Int → AV} {op : BinOp} (H : HR φ h w) {a b : AV} (hx : VR φ a cx) (hy : VR φ b cy) (e : ME f a b h = .ok v h')
  (hf : ∀ k m n, f k m n ≠ .undef → ∃ c, (binOp op t (.int k m) (.int k n)).run P w = .ok c w ∧ VR φ (f k m n) c) : Good φ h w v h' ((do eqGuard op t p q cx cy; binOp op t cx cy : Sem Value).run P w) := by
 obtain ⟨k, m, n, rfl, rfl, rfl, rfl, hu⟩ := Ix e
 rw [hx.aW, hy.aW]
 obtain ⟨c, h1, h2⟩ := hf k m n hu
 refine .same H h2 ?_
 simp [eS, h1]
theorem Jo (H : HR φ h w) {a b : AV} (hx : VR φ a cx) (hy : VR φ b cy) (e : jx a b h = .ok v h') : Good φ h w v h' ((do eqGuard .add t p q cx cy; binOp .add t cx cy : Sem Value).run P w) :=
 mA H hx hy e fun k m n => ⟨.int k (k.wrap (m + n)), by simp [binOp, Op.intArith], by rw [dr, te]; exact .int _ _⟩
theorem Jp (H : HR φ h w) {a b : AV} (hx : VR φ a cx) (hy : VR φ b cy) (e : nV a b h = .ok v h') : Good φ h w v h' ((do eqGuard .sub t p q cx cy; binOp .sub t cx cy : Sem Value).run P w) :=
 mA H hx hy e fun k m n => ⟨.int k (k.wrap (m - n)), by simp [binOp, Op.intArith], by rw [dr, te, yu, ← Int.sub_eq_add_neg]; exact .int _ _⟩
theorem Jq (H : HR φ h w) {a b : AV} (hx : VR φ a cx) (hy : VR φ b cy) (e : IW a b h = .ok v h') : Good φ h w v h' ((do eqGuard .mul t p q cx cy; binOp .mul t cx cy : Sem Value).run P w) :=
 mA H hx hy e fun k m n => ⟨.int k (k.wrap (m * n)), by simp [binOp, Op.intArith], by rw [dr, Ea]; exact .int _ _⟩
theorem Jr (H : HR φ h w) {a b : AV} (hx : VR φ a cx) (hy : VR φ b cy) (e : IX a b h = .ok v h') : Good φ h w v h' ((do eqGuard .quo t p q cx cy; binOp .quo t cx cy : Sem Value).run P w) := by
 refine qX H hx hy e fun k m n hu => ?_
 rw [gK] at hu ⊢
 by_cases hz : n = 0
 ·subst hz; exact absurd rfl hu
 ·have : decide (n = Int.ofNat 0) = false := by simpa using hz
  rw [this]
  exact ⟨.int k (k.wrap (m.tdiv n)), by simp [binOp, Op.intDiv, hz], by show VR φ (.int k (jv k (QL m n))) _; rw [dr, Ng]; exact .int _ _⟩
theorem Js (H : HR φ h w) {a b : AV} (hx : VR φ a cx) (hy : VR φ b cy) (e : DR a b h = .ok v h') : Good φ h w v h' ((do eqGuard .rem t p q cx cy; binOp .rem t cx cy : Sem Value).run P w) := by
 refine qX H hx hy e fun k m n hu => ?_
 rw [gK] at hu ⊢
 by_cases hz : n = 0
 ·subst hz; exact absurd rfl hu
 ·have : decide (n = Int.ofNat 0) = false := by simpa using hz
  rw [this]
  exact ⟨.int k (m.tmod n), by simp [binOp, Op.intDiv, hz], by show VR φ (.int k (IU m n)) _; rw [Nh]; exact .int _ _⟩
theorem Jt (b : Nat) (m : Nat) : (BitVec.ofInt b (Int.ofNat m)).toNat = m % 2 ^ b := by
 simp only [BitVec.toNat_ofInt, Int.ofNat_eq_natCast]
 rw [show ((2 ^ b : Nat) : Int) = (2 ^ b : Nat) from rfl, ← Int.natCast_emod, Int.toNat_natCast]
theorem tf (k : IntKind) : mj k = k.bits := by cases k <;> rfl
theorem qY {f : Nat → Nat → Nat} {op : BinOp} {g : ∀ b, BitVec b → BitVec b → BitVec b} (hg : ∀ b (m n : BitVec b), (g b m n).toNat = f m.toNat n.toNat)
  (hop : ∀ k m n, (binOp op t (.int k m) (.int k n)).run P w = .ok (.int k (k.wrap (g k.bits (BitVec.ofInt k.bits m) (BitVec.ofInt k.bits n)).toNat)) w)
  (H : HR φ h w) {a b : AV} (hx : VR φ a cx) (hy : VR φ b cy) (e : ME (DM f) a b h = .ok v h') : Good φ h w v h' ((do eqGuard op t p q cx cy; binOp op t cx cy : Sem Value).run P w) := by
 refine qX H hx hy e fun k m n hu => ⟨_, hop k m n, ?_⟩
 cases m with
 | negSucc m => exact absurd rfl hu
 | ofNat m => cases n with
  | negSucc n => exact absurd rfl hu
  | ofNat n =>
   show VR φ (.int k (jv k (.ofNat (f (m % 2 ^ mj k) (n % 2 ^ mj k))))) _
   rw [dr, hg, Jt, Jt, tf]
   exact .int _ _
theorem Ju (H : HR φ h w) {a b : AV} (hx : VR φ a cx) (hy : VR φ b cy) (e : wF a b h = .ok v h') : Good φ h w v h' ((do eqGuard .and t p q cx cy; binOp .and t cx cy : Sem Value).run P w) :=
 qY (g := fun _ m n => m &&& n) (fun b m n => by simp) (fun k m n => by simp [binOp, Op.intBits]) H hx hy e
theorem Ni (H : HR φ h w) {a b : AV} (hx : VR φ a cx) (hy : VR φ b cy) (e : MX a b h = .ok v h') : Good φ h w v h' ((do eqGuard .or t p q cx cy; binOp .or t cx cy : Sem Value).run P w) :=
 qY (g := fun _ m n => m ||| n) (fun b m n => by simp) (fun k m n => by simp [binOp, Op.intBits]) H hx hy e
theorem Jv (H : HR φ h w) {a b : AV} (hx : VR φ a cx) (hy : VR φ b cy) (e : mq a b h = .ok v h') : Good φ h w v h' ((do eqGuard .xor t p q cx cy; binOp .xor t cx cy : Sem Value).run P w) :=
 qY (g := fun _ m n => m ^^^ n) (fun b m n => by simp) (fun k m n => by simp [binOp, Op.intBits]) H hx hy e
theorem Ge (H : HR φ h w) {a b : AV} (hx : VR φ a cx) (hy : VR φ b cy) (e : IY a b h = .ok v h') : Good φ h w v h' ((do eqGuard .andNot t p q cx cy; binOp .andNot t cx cy : Sem Value).run P w) :=
 mA H hx hy e fun k m n => ⟨_, by simp [binOp, Op.intBits], .int _ _⟩
theorem ko {op : BinOp} {f : Int → Int → Bool} (hop : ∀ m n : Int, (Op.intCmp op m n).run P w = .ok (.bool (f m n)) w) (hb : ∀ k (m n : Int), binOp op t (.int k m) (.int k n) = Op.intCmp op m n)
  (H : HR φ h w) {a b : AV} (hx : VR φ a cx) (hy : VR φ b cy) (e : BP (fun _ m n => .bool (f m n)) a b h = .ok v h') : Good φ h w v h' ((do eqGuard op t p q cx cy; binOp op t cx cy : Sem Value).run P w) :=
 mA H hx hy e fun k m n => ⟨_, by rw [hb]; exact hop m n, .bool _⟩
theorem Nj (H : HR φ h w) {a b : AV} (hx : VR φ a cx) (hy : VR φ b cy) (e : uC a b h = .ok v h') : Good φ h w v h' ((do eqGuard .eql t p q cx cy; binOp .eql t cx cy : Sem Value).run P w) :=
 ko (f := ub) (fun m n => by rw [gK]; rfl) (fun k m n => by simp [binOp]) H hx hy e
theorem Nk (H : HR φ h w) {a b : AV} (hx : VR φ a cx) (hy : VR φ b cy) (e : jL a b h = .ok v h') : Good φ h w v h' ((do eqGuard .neq t p q cx cy; binOp .neq t cx cy : Sem Value).run P w) :=
 ko (f := fun m n => Bool.not (ub m n)) (fun m n => by rw [gK]; rfl) (fun k m n => by simp [binOp]) H hx hy e
theorem Nl (H : HR φ h w) {a b : AV} (hx : VR φ a cx) (hy : VR φ b cy) (e : qR a b h = .ok v h') : Good φ h w v h' ((do eqGuard .lss t p q cx cy; binOp .lss t cx cy : Sem Value).run P w) :=
 ko (f := MU) (fun m n => by rw [qW]; rfl) (fun k m n => by simp [binOp]) H hx hy e
theorem Nm (H : HR φ h w) {a b : AV} (hx : VR φ a cx) (hy : VR φ b cy) (e : IZ a b h = .ok v h') : Good φ h w v h' ((do eqGuard .leq t p q cx cy; binOp .leq t cx cy : Sem Value).run P w) :=
 ko (f := SS) (fun m n => by rw [yv]; rfl) (fun k m n => by simp [binOp]) H hx hy e
theorem Nn (H : HR φ h w) {a b : AV} (hx : VR φ a cx) (hy : VR φ b cy) (e : dx a b h = .ok v h') : Good φ h w v h' ((do eqGuard .gtr t p q cx cy; binOp .gtr t cx cy : Sem Value).run P w) :=
 ko (f := fun m n => MU n m) (fun m n => by rw [qW]; rfl) (fun k m n => by simp [binOp]) H hx hy e
theorem Np (H : HR φ h w) {a b : AV} (hx : VR φ a cx) (hy : VR φ b cy) (e : yn a b h = .ok v h') : Good φ h w v h' ((do eqGuard .geq t p q cx cy; binOp .geq t cx cy : Sem Value).run P w) :=
 ko (f := fun m n => SS n m) (fun m n => by rw [yv]; rfl) (fun k m n => by simp [binOp]) H hx hy e
end
variable {P : Program} {φ : aI} {h h' : Hp} {w : World} {v : AV} {x y z : AO} {r : A2}
theorem iy : ∀ (a b : List Nat), iw a b = decide (a = b)
 | [], [] => rfl
 | [], _ :: _ => rfl
 | _ :: _, [] => rfl
 | x :: a, y :: b => by
  show (Bool.rec false (iw a b) (Nat.beq x y) : Bool) = _
  rw [iy a b, show Nat.beq x y = decide (x = y) by rw [Bool.eq_iff_iff, Nat.beq_eq]; simp]
  by_cases hxy : x = y
  ·subst hxy; simp
  ·simp [hxy]
theorem mB : ∀ (a b : List UInt8), wE (a.map UInt8.toNat) (b.map UInt8.toNat) = Op.bytesLess a b
 | [], [] => rfl
 | [], _ :: _ => rfl
 | _ :: _, [] => rfl
 | x :: a, y :: b => by
  show (Bool.rec (Nat.ble x.toNat y.toNat) (wE (a.map UInt8.toNat) (b.map UInt8.toNat)) (Nat.beq x.toNat y.toNat) : Bool) = (decide (x < y) || (x == y && Op.bytesLess a b))
  rw [mB a b, show Nat.beq x.toNat y.toNat = decide (x.toNat = y.toNat) by rw [Bool.eq_iff_iff, Nat.beq_eq]; simp]
  by_cases hxy : x = y
  ·subst hxy; simp
  ·have h1 : x.toNat ≠ y.toNat := fun e => hxy (UInt8.toNat_inj.1 e)
   have h2 : (x == y) = false := by simpa using hxy
   rw [h2]
   simp only [h1, decide_false, Bool.false_and, Bool.or_false]
   rw [Bool.eq_iff_iff, Nat.ble_eq]
   simp only [decide_eq_true_eq, UInt8.lt_iff_toNat_lt]
   omega
theorem vM {a b : List UInt8} : a.map UInt8.toNat = b.map UInt8.toNat ↔ a = b := by
 constructor
 ·intro e
  exact (List.map_inj_right (fun _ _ h => UInt8.toNat_inj.1 h)).1 e
 ·rintro rfl; rfl
theorem gC (a b : ByteArray) : iw (a.data.toList.map UInt8.toNat) (b.data.toList.map UInt8.toNat) = (a.toList == b.toList) := by
 rw [iy, ByteArray.toList_eq, ByteArray.toList_eq, Bool.eq_iff_iff, decide_eq_true_eq, beq_iff_eq, vM]
theorem eV : ∀ (a b : List UInt8), (!Op.bytesLess b a) = (Op.bytesLess a b || a == b)
 | [], [] => rfl
 | [], _ :: _ => rfl
 | _ :: _, [] => rfl
 | x :: a, y :: b => by
  show (!(decide (y < x) || (y == x && Op.bytesLess b a))) = ((decide (x < y) || (x == y && Op.bytesLess a b)) || (x :: a == y :: b))
  have ih := eV a b
  by_cases hxy : x = y
  ·subst hxy
   have : ¬ x < x := by simp
   simpa [this] using ih
  ·have h2 : (x == y) = false := by simpa using hxy
   have h3 : (y == x) = false := by simpa using fun e => hxy e.symm
   have h4 : (x :: a == y :: b) = false := by simp [hxy]
   rw [h2, h3, h4]
   simp only [Bool.false_and, Bool.or_false]
   rw [Bool.eq_iff_iff]
   have : x.toNat ≠ y.toNat := fun e => hxy (UInt8.toNat_inj.1 e)
   simp only [Bool.not_eq_true', decide_eq_false_iff_not, decide_eq_true_eq, UInt8.lt_iff_toNat_lt]
   omega
theorem Iy {f : List Nat → List Nat → AV} {a b : AV} (e : MF f a b h = .ok v h') : ∃ k m, a = .str k ∧ b = .str m ∧ v = f k m ∧ h' = h := by
 obtain ⟨k, rfl, e1⟩ := cP e
 obtain ⟨m, rfl, e2⟩ := cP e1
 obtain ⟨rfl, rfl⟩ := RV.ak e2
 exact ⟨k, m, rfl, rfl, rfl, rfl⟩
theorem lI {op : BinOp} {t : TypeId} {p q : Operand} {a b : ByteArray} : (eqGuard op t p q (.string a) (.string b)).run P w = .ok () w := by
 unfold eqGuard
 cases op <;> simp
section
variable {t : TypeId} {p q : Operand} {cx cy : Value}
theorem kq {f : List Nat → List Nat → AV} {op : BinOp} (H : HR φ h w) {a b : AV} (hx : VR φ a cx) (hy : VR φ b cy) (e : MF f a b h = .ok v h')
  (hf : ∀ s u : ByteArray, ∃ c, (binOp op t (.string s) (.string u)).run P w = .ok c w ∧ VR φ (f (s.data.toList.map UInt8.toNat) (u.data.toList.map UInt8.toNat)) c) : Good φ h w v h' ((do eqGuard op t p q cx cy; binOp op t cx cy : Sem Value).run P w) := by
 obtain ⟨k, m, rfl, rfl, rfl, rfl⟩ := Iy e
 obtain ⟨s, rfl, rfl⟩ := hx.db
 obtain ⟨u, rfl, rfl⟩ := hy.db
 obtain ⟨c, h1, h2⟩ := hf s u
 refine .same H h2 ?_
 simp [lI, h1]
theorem Jw (H : HR φ h w) {a b : AV} (hx : VR φ a cx) (hy : VR φ b cy) (e : dh a b h = .ok v h') : Good φ h w v h' ((do eqGuard .eql t p q cx cy; binOp .eql t cx cy : Sem Value).run P w) :=
 kq H hx hy e fun s u => ⟨.bool (s.toList == u.toList), by simp [binOp, Op.stringOp], by rw [gC]; exact .bool _⟩
theorem Jx (H : HR φ h w) {a b : AV} (hx : VR φ a cx) (hy : VR φ b cy) (e : Ak a b h = .ok v h') : Good φ h w v h' ((do eqGuard .neq t p q cx cy; binOp .neq t cx cy : Sem Value).run P w) :=
 kq H hx hy e fun s u => ⟨.bool (!(s.toList == u.toList)), by simp [binOp, Op.stringOp], by rw [gC]; exact .bool _⟩
theorem Jy (H : HR φ h w) {a b : AV} (hx : VR φ a cx) (hy : VR φ b cy) (e : Ja a b h = .ok v h') : Good φ h w v h' ((do eqGuard .lss t p q cx cy; binOp .lss t cx cy : Sem Value).run P w) :=
 kq H hx hy e fun s u => ⟨.bool (Op.bytesLess s.toList u.toList), by simp [binOp, Op.stringOp], by rw [mB, ByteArray.toList_eq, ByteArray.toList_eq]; exact .bool _⟩
theorem Jz (H : HR φ h w) {a b : AV} (hx : VR φ a cx) (hy : VR φ b cy) (e : Pe a b h = .ok v h') : Good φ h w v h' ((do eqGuard .gtr t p q cx cy; binOp .gtr t cx cy : Sem Value).run P w) :=
 kq H hx hy e fun s u => ⟨.bool (!(Op.bytesLess s.toList u.toList || s.toList == u.toList)), by simp [binOp, Op.stringOp], by
  rw [mB, ByteArray.toList_eq, ByteArray.toList_eq, ← eV, Bool.not_not]; exact .bool _⟩
theorem JA (H : HR φ h w) {a b : AV} (hx : VR φ a cx) (hy : VR φ b cy) (e : Pd a b h = .ok v h') : Good φ h w v h' ((do eqGuard .leq t p q cx cy; binOp .leq t cx cy : Sem Value).run P w) :=
 kq H hx hy e fun s u => ⟨.bool (Op.bytesLess s.toList u.toList || s.toList == u.toList), by simp [binOp, Op.stringOp], by
  rw [mB, ByteArray.toList_eq, ByteArray.toList_eq, ← eV]; exact .bool _⟩
theorem JB (H : HR φ h w) {a b : AV} (hx : VR φ a cx) (hy : VR φ b cy) (e : Pf a b h = .ok v h') : Good φ h w v h' ((do eqGuard .geq t p q cx cy; binOp .geq t cx cy : Sem Value).run P w) :=
 kq H hx hy e fun s u => ⟨.bool (!Op.bytesLess s.toList u.toList), by simp [binOp, Op.stringOp], by
  rw [mB, ByteArray.toList_eq, ByteArray.toList_eq]; exact .bool _⟩
theorem JC (H : HR φ h w) {a b : AV} (hx : VR φ a cx) (hy : VR φ b cy) (e : zX a b h = .ok v h') : Good φ h w v h' ((do eqGuard .add t p q cx cy; binOp .add t cx cy : Sem Value).run P w) := by
 obtain ⟨k, rfl, e1⟩ := cP e
 obtain ⟨m, rfl, e2⟩ := cP e1
 obtain ⟨hb, e3⟩ := az e2
 obtain ⟨rfl, rfl⟩ := RV.ak e3
 obtain ⟨s, rfl, rfl⟩ := hx.db
 obtain ⟨u, rfl, rfl⟩ := hy.db
 have hle := Nat.le_of_ble_eq_true hb
 simp only [List.length_map, Array.length_toList, Nat.add_eq] at hle
 refine .same H (.str (s ++ u) _ ?_) (cv := .string (s ++ u)) ?_
 ·simp
 ·have : (binOp .add t (.string s) (.string u)).run P w = .ok (.string (s ++ u)) w := by
   rw [binOp_string_add]
   exact run_string_add_sum w s u (by have h1 : s.size = s.data.size := rfl; have h2 : u.size = u.data.size := rfl; omega)
  simp [lI, this]
end
theorem Iu {neg : Bool} {b : EB} (e : EB.rv neg h b = .ok v h') : h' = h ∧ ((b = .yes ∧ v = .bool (!neg)) ∨ (b = .no ∧ v = .bool neg)) := by
 cases b
 ·cases e; exact ⟨rfl, .inl ⟨rfl, rfl⟩⟩
 ·cases e; exact ⟨rfl, .inr ⟨rfl, rfl⟩⟩
 ·cases e
theorem pN {a b : H} : pJ a b = true ↔ a = b := by cases a <;> cases b <;> simp [pJ, H.nat]
theorem jl {a b : P4} : qw a b = true ↔ a = b := by
 cases a with
 | eN m q =>
  cases b with
  | mk b1 b2 b3 b4 => exact ⟨fun e => Bool.noConfusion (show false = true from e), fun e => by cases e⟩
  | eN n s =>
   show (@Bool.rec (fun _ => Bool) false (Nat.beq q s) (Nat.beq m n)) = true ↔ _
   constructor
   ·intro e
    cases h : Nat.beq m n with
    | false => rw [h] at e; cases e
    | true => rw [h] at e; rw [Nat.eq_of_beq_eq_true h, Nat.eq_of_beq_eq_true e]
   ·intro e; cases e; rw [Nat.beq_refl m, Nat.beq_refl q]
 | mk a1 a2 a3 a4 =>
 cases b with
 | eN n s => exact ⟨fun e => Bool.noConfusion (show false = true from e), fun e => by cases e⟩
 | mk b1 b2 b3 b4 =>
 show (Bool.rec false (Bool.rec false (Bool.rec false (pJ a1 b1) (pJ a2 b2)) (pJ a3 b3)) (pJ a4 b4) : Bool) = true ↔ _
 rw [P4.mk.injEq, ← pN, ← pN, ← pN, ← pN]
 cases pJ a1 b1 <;> cases pJ a2 b2 <;> cases pJ a3 b3 <;> cases pJ a4 b4 <;> simp
variable {P : Program} {φ : aI} {h h' : Hp} {w : World} {v : AV} {x y z : AO} {r : A2}
theorem VR.kr {c : Value} (hv : VR φ .fo c) : c = .pointer none := by cases hv; rfl
theorem VR.fG {i : P4} {o : Nat} {c : Value} (hv : VR φ (.ptr i o) c) : ∃ p, φ i = some p ∧ c = .pointer (some (p.addr o)) := by cases hv; exact ⟨_, by assumption, rfl⟩
theorem rX {o : Obj} (e : fC o = true) : ∃ el n ex c, o = .cells el n ex .plain c := by
 cases o with
 | cells el n ex fl c => cases fl with
  | plain => exact ⟨_, _, _, _, rfl⟩
  | mark => cases e
  | Bw => cases e
  | ro => cases e
 | _ => cases e
theorem HR.plain (H : HR φ h w) {i : P4} {p : Place} {el n : Nat} {ex : Bool} {c : Cl} (hi : ag i h = .cells el n ex .plain c) (hp : φ i = some p) : ∃ rc, w.heap[p.da]? = some (.cells rc el (0, 0)) := by
 obtain ⟨q, hq, hr⟩ := H.obj i (hi ▸ aV)
 rw [hp] at hq; cases hq
 rw [hi] at hr
 obtain ⟨rc, fz, g1, g2, g3, g4, g5, g6, g7⟩ := hr
 exact ⟨rc, by rw [g1]; simp only [Gc] at g7; rw [g7]⟩
theorem oP {a b : Addr} {ra rb : Array Value} {ea eb : TypeId} (ha : w.heap[a.block]? = some (.cells ra ea (0, 0))) (hb : w.heap[b.block]? = some (.cells rb eb (0, 0))) (hne : a.block ≠ b.block) :
  (sameAddr a b).run P w = .ok false w := by
 have h1 : (a.block == b.block) = false := by simpa using hne
 have fa : ∀ o s, w.frozen? ⟨a.block, o, s⟩ = false := fun o s => by simp [World.frozen?, ha]
 have fb : ∀ o s, w.frozen? ⟨b.block, o, s⟩ = false := fun o s => by simp [World.frozen?, hb]
 have fa' : w.frozen? a = false := by obtain ⟨x, y, z⟩ := a; exact fa y z
 have fb' : w.frozen? b = false := by obtain ⟨x, y, z⟩ := b; exact fb y z
 have sa : w.shape? a.block = some (ea, ra.size) := by simp [World.shape?, ha]
 have sb : w.shape? b.block = some (eb, rb.size) := by simp [World.shape?, hb]
 simp [sameAddr, h1, fa', fb', noView, viewAt, sa, sb, mayBeOne, stringish, fa, fb]
theorem sG (d : Nat) {t e : TypeId} {x y : AV} {cx cy : Value} (H : HR φ h w) (hx : VR φ x cx) (hy : VR φ y cy) (ht : P.underlying t = some (.pointer e)) {ie : TypeInfo} (hi : P.info? e = some ie) (hs : ie.size ≠ 0) {b : Bool}
  (hb : QP h x y = EB.of b) : (Op.equalIn (d + 1) t cx cy).run P w = .ok b w := by
 cases x with
 | fo =>
  rw [hx.kr]
  cases y with
  | fo => rw [hy.kr]; cases b <;> cases hb; simp [Op.equalIn, ai ht]
  | ptr j q => obtain ⟨p, h1, rfl⟩ := hy.fG; cases b <;> cases hb; simp [Op.equalIn, ai ht]
  | _ => cases b <;> cases hb
 | ptr i o =>
  obtain ⟨p, h1, rfl⟩ := hx.fG
  cases y with
  | fo => rw [hy.kr]; cases b <;> cases hb; simp [Op.equalIn, ai ht]
  | ptr j q =>
   obtain ⟨p', h2, rfl⟩ := hy.fG
   change (Bool.rec (Bool.rec EB.bad (Bool.rec EB.bad EB.no (fC (ag j h))) (fC (ag i h))) (EB.of (Nat.beq o q)) (qw i j) : EB) = EB.of b at hb
   cases hij : qw i j with
   | true =>
    rw [hij] at hb
    obtain rfl := jl.1 hij
    rw [h1] at h2; cases h2
    have hb' : b = decide (o = q) := by
     have : Nat.beq o q = decide (o = q) := by rw [Bool.eq_iff_iff, Nat.beq_eq]; simp
     rw [← this]
     cases b <;> cases hq : Nat.beq o q <;> rw [hq] at hb <;> first | rfl | cases hb
    subst hb'
    simp only [Op.equalIn, Sem.run_bind, ai ht, Result.andThen_ok, aP hi, Place.addr, sameAddr]
    simp [hs]
    by_cases e : o = q <;> simp [e]
   | false =>
    rw [hij] at hb
    cases hp1 : fC (ag i h) with
    | false => rw [hp1] at hb; cases b <;> cases hb
    | true =>
     cases hp2 : fC (ag j h) with
     | false => rw [hp1, hp2] at hb; cases b <;> cases hb
     | true =>
      rw [hp1, hp2] at hb
      obtain ⟨el, n, ex, c, g1⟩ := rX hp1
      obtain ⟨el', n', ex', c', g2⟩ := rX hp2
      obtain ⟨ra, ha⟩ := H.plain g1 h1
      obtain ⟨rb, hb'⟩ := H.plain g2 h2
      have hne : p.da ≠ p'.da := H.inj i j p p' (g1 ▸ aV) (g2 ▸ aV) (.inl (nY g1 rfl)) (fun e => by rw [jl.2 e] at hij; cases hij) h1 h2
      have hbf : b = false := by cases b; rfl; cases hb
      subst hbf
      simp only [Op.equalIn, Sem.run_bind, ai ht, Result.andThen_ok, aP hi]
      simp [hs, oP (P := P) (a := p.addr o) (b := p'.addr q) ha hb' hne]
  | _ => cases b <;> cases hb
 | _ => cases b <;> cases hb
def Rq (P : Program) (k : KK) (t : TypeId) : Prop := match k with
 | .b => P.underlying t = some .bool
 | .i => ∃ k, P.underlying t = some (.int k)
 | .s => P.underlying t = some .string
 | .p => ∃ e ie, P.underlying t = some (.pointer e) ∧ P.info? e = some ie ∧ ie.size ≠ 0
theorem eG {a b : Bool} (e : EB.of a = EB.of b) : a = b := by cases a <;> cases b <;> first | rfl | cases e
theorem lp (d : Nat) {k : KK} {t : TypeId} {a c : AV} {ca cc : Value} (H : HR φ h w) (hx : VR φ a ca) (hy : VR φ c cc) (hk : Rq P k t) {b : Bool} (hb : DQ k h a c = EB.of b) :
  (Op.equalIn (d + 1) t ca cc).run P w = .ok b w := by
 cases k with
 | b =>
  cases a <;> (try (cases b <;> cases hb; done))
  rename_i m
  cases c <;> (try (cases b <;> cases hb; done))
  rename_i n
  rw [hx.cW, hy.cW, run_equalIn_bool' _ _ _ _ _ hk]
  have := eG (show EB.of (kL m n) = EB.of b from hb)
  subst this
  cases m <;> cases n <;> rfl
 | i =>
  obtain ⟨kk, hk⟩ := hk
  cases a <;> (try (cases b <;> cases hb; done))
  rename_i k1 m
  cases c <;> (try (cases b <;> cases hb; done))
  rename_i k2 n
  change (Bool.rec EB.bad (EB.of (ub m n)) (mc k1 k2) : EB) = _ at hb
  cases hq : mc k1 k2 with
  | false => rw [hq] at hb; cases b <;> cases hb
  | true =>
   rw [hq] at hb
   obtain rfl := iu hq
   rw [hx.aW, hy.aW, run_equalIn_int _ _ _ _ _ _ _ hk]
   have := eG (show EB.of (ub m n) = EB.of b from hb)
   subst this
   rw [gK]; rfl
 | s =>
  cases a <;> (try (cases b <;> cases hb; done))
  rename_i m
  cases c <;> (try (cases b <;> cases hb; done))
  rename_i n
  obtain ⟨s, rfl, rfl⟩ := hx.db
  obtain ⟨u, rfl, rfl⟩ := hy.db
  rw [run_equalIn_string _ _ _ _ _ hk]
  have := eG (show EB.of (iw _ _) = EB.of b from hb)
  subst this
  rw [gC]
 | p =>
  obtain ⟨e, ie, h1, h2, h3⟩ := hk
  exact sG d H hx hy h1 h2 h3 hb
variable {P : Program} {φ : aI} {h h' : Hp} {w : World} {v : AV} {x y z : AO} {r : A2}
theorem Ap {t : TypeId} {k : KK} (e : De P t = some k) : Rq P k t := by
 unfold De at e
 split at e
 ·cases e; assumption
 ·cases e; exact ⟨_, by assumption⟩
 ·cases e; assumption
 ·rename_i e' he
  split at e
  ·rename_i ie hie
   split at e
   ·cases e
   ·cases e; exact ⟨_, ie, he, hie, by assumption⟩
  ·cases e
 ·cases e
theorem Rq.kH {k : KK} {t : TypeId} (hk : Rq P k t) : ∃ d, P.underlying t = some d ∧ sN P t = false := by
 cases k with
 | b => exact ⟨_, hk, by simp [sN, Am.kH, (show P.underlying t = some .bool from hk)]⟩
 | i => obtain ⟨kk, hk⟩ := hk; exact ⟨_, hk, by simp [sN, Am.kH, hk]⟩
 | s => exact ⟨_, hk, by simp [sN, Am.kH, (show P.underlying t = some .string from hk)]⟩
 | p => obtain ⟨e, ie, hk, _⟩ := hk; exact ⟨_, hk, by simp [sN, Am.kH, hk]⟩
theorem gX {t : TypeId} {d : TypeDesc} (hd : P.underlying t = some d) (ha : sN P t = false) {cs : Array Value} {o : Nat} {c : Value} (hc : cs[o]? = some c) : (part t cs o).run P w = .ok c w := by
 simp [part, hS hd, ha, hc]
theorem yw (d : Nat) (H : HR φ h w) {xs ys : Array Value} : ∀ (fs : List Field) (i : Nat) (ks : List KK) (as bs : List AV) (vs ws : List Value), nN P fs i = some ks → cL φ as vs → cL φ bs ws →
  (∀ k (hk : k < vs.length), xs[i + k]? = some vs[k]) → (∀ k (hk : k < ws.length), ys[i + k]? = some ws[k]) → ∀ b, tc ks h as bs = EB.of b → (Op.eqFields (d + 1) xs ys fs).run P w = .ok b w := by
 intro fs
 induction fs with
 | nil =>
  intro i ks as bs vs ws hf ha hb _ _ b he
  cases hf
  cases ha with
  | nil => cases hb with
   | nil => cases b <;> cases he; rfl
   | cons => cases b <;> cases he
  | cons => cases b <;> cases he
 | cons f fs ih =>
  intro i ks as bs vs ws hf ha hb hxs hys b he
  unfold nN at hf
  split at hf
  ·cases hf
  ·rename_i hn
   split at hf
   ·rename_i k ks' hk hks
    cases hf
    have hname : f.name ≠ "_" := fun e => hn (.inl e)
    have hoff : f.offset = i := by
     rcases Nat.decEq f.offset i with e | e
     ·exact absurd (.inr e) hn
     ·exact e
    cases ha with
    | nil => cases b <;> cases he
    | cons a va as vs hva hvs =>
     cases hb with
     | nil => cases b <;> cases he
     | cons c vc bs ws hvc hws =>
      have hK := Ap hk
      obtain ⟨dd, hd, hag⟩ := hK.kH
      have p1 := gX (w := w) hd hag (show xs[f.offset]? = some va by rw [hoff]; exact hxs 0 (by simp))
      have p2 := gX (w := w) hd hag (show ys[f.offset]? = some vc by rw [hoff]; exact hys 0 (by simp))
      change (EB.rec (tc ks' h as bs) (EB.rec .no .no .bad (tc ks' h as bs)) .bad (DQ k h a c) : EB) = EB.of b at he
      have ih' := ih (i + 1) ks' as bs vs ws hks hvs hws (fun k hk => by have := hxs (k + 1) (by simp; omega); simpa [Nat.add_assoc, Nat.add_comm 1 k] using this) (fun k hk => by have := hys (k + 1) (by simp; omega); simpa [Nat.add_assoc, Nat.add_comm 1 k] using this)
      cases hq : DQ k h a c with
      | yes =>
       rw [hq] at he
       have e1 := lp (P := P) d H hva hvc hK (b := true) hq
       simp [Op.eqFields, hname, p1, p2, e1, ih' b he]
      | no =>
       rw [hq] at he
       have e1 := lp (P := P) d H hva hvc hK (b := false) hq
       have : b = false := by cases hz : tc ks' h as bs <;> rw [hz] at he <;> cases b <;> first | rfl | cases he
       subst this
       simp [Op.eqFields, hname, p1, p2, e1]
      | bad => rw [hq] at he; cases b <;> cases he
   ·cases hf
theorem ku (d : Nat) (H : HR φ h w) {t : TypeId} {ks : List KK} (hk : tu P t = some ks) {as bs : List AV} {vs ws : List Value} (ha : cL φ as vs) (hb : cL φ bs ws) {b : Bool} (he : tc ks h as bs = EB.of b) :
  (Op.equalIn (d + 2) t (.agg vs.toArray) (.agg ws.toArray)).run P w = .ok b w := by
 unfold tu at hk
 split at hk
 ·rename_i fs hfs
  split at hk
  ·cases hk
  ·rename_i hst
   have hF : P.fieldsOf t = fs := by simp [Program.fieldsOf, hfs]
   rw [run_equalIn_struct w (d + 1) t _ _ (by rw [hF]; exact hfs) (by simpa using hst), hF]
   exact yw d H fs.toList 0 ks as bs vs ws hk ha hb (by simp) (by simp) b he
 ·cases hk
theorem pO {neg : Bool} {b : EB} (e : EB.rv neg h b = .ok v h') : ∃ c, b = EB.of c ∧ v = .bool (c != neg) ∧ h' = h := by
 cases b
 ·cases e; exact ⟨true, rfl, by cases neg <;> rfl, rfl⟩
 ·cases e; exact ⟨false, rfl, by cases neg <;> rfl, rfl⟩
 ·cases e
section
variable {t : TypeId} {p q : Operand} {cx cy : Value}
theorem fH {op : BinOp} (hx : ∀ cs, cx ≠ .agg cs) (hy : cx ≠ .nilIface) : (eqGuard op t p q cx cy).run P w = .ok () w := by
 unfold eqGuard
 cases op <;> simp <;> cases cx <;> first | rfl | simp_all
theorem eP {b : Bool} (hs : (Op.equalIn 10000 t cx cy).run P w = .ok b w) (hx : ∀ k n, cx ≠ .int k n) (hf : ∀ k n, cx ≠ .float k n) (hc : ∀ k m n, cx ≠ .complex k m n) (hu : ∀ s, cx ≠ .string s) :
  (binOp .eql t cx cy).run P w = .ok (.bool b) w ∧ (binOp .neq t cx cy).run P w = .ok (.bool (!b)) w := by
 have e1 : binOp .eql t cx cy = (do pure (.bool (← Op.equal t cx cy)) : Sem Value) := by
  cases cx <;> first | exact absurd rfl (hx _ _) | exact absurd rfl (hf _ _) | exact absurd rfl (hc _ _ _) | exact absurd rfl (hu _) | (cases cy <;> rfl)
 have e2 : binOp .neq t cx cy = (do pure (.bool (!(← Op.equal t cx cy))) : Sem Value) := by
  cases cx <;> first | exact absurd rfl (hx _ _) | exact absurd rfl (hf _ _) | exact absurd rfl (hc _ _ _) | exact absurd rfl (hu _) | (cases cy <;> rfl)
 rw [e1, e2]
 simp [Op.equal, Op.maxDepth, hs]
theorem Aq (neg : Bool) (H : HR φ h w) {a b : AV} (hx : VR φ a cx) (hy : VR φ b cy) (ht : P.underlying t = some .bool) (e : EB.rv neg h (Ue a b) = .ok v h') :
  Good φ h w v h' ((do eqGuard (if neg then .neq else .eql) t p q cx cy; binOp (if neg then .neq else .eql) t cx cy : Sem Value).run P w) := by
 obtain ⟨c, hc, rfl, rfl⟩ := pO e
 have hr := lp (P := P) (t := t) 9999 (k := .b) H hx hy ht hc
 have hb : ∃ m, cx = .bool m := by
  cases a <;> (try (cases c <;> cases hc; done))
  exact ⟨_, hx.cW⟩
 obtain ⟨m, rfl⟩ := hb
 obtain ⟨g1, g2⟩ := eP hr (by simp) (by simp) (by simp) (by simp)
 refine .same H (.bool _) ?_
 cases neg
 ·simp [fH, g1]
 ·simp [fH, g2]
theorem Ar (neg : Bool) (H : HR φ h w) {a b : AV} (hx : VR φ a cx) (hy : VR φ b cy) (ht : Rq P .p t) (e : EB.rv neg h (QP h a b) = .ok v h') :
  Good φ h w v h' ((do eqGuard (if neg then .neq else .eql) t p q cx cy; binOp (if neg then .neq else .eql) t cx cy : Sem Value).run P w) := by
 obtain ⟨c, hc, rfl, rfl⟩ := pO e
 have hr := lp (P := P) (t := t) 9999 (k := .p) H hx hy ht hc
 have hb : ∃ m, cx = .pointer m := by
  cases a <;> (try (cases c <;> cases hc; done))
  ·obtain ⟨_, _, e⟩ := hx.fG; exact ⟨_, e⟩
  ·exact ⟨_, hx.kr⟩
 obtain ⟨m, rfl⟩ := hb
 obtain ⟨g1, g2⟩ := eP hr (by simp) (by simp) (by simp) (by simp)
 refine .same H (.bool _) ?_
 cases neg
 ·simp [fH, g1]
 ·simp [fH, g2]
theorem VR.gj {l : List AV} {c : Value} (hv : VR φ (.agg l) c) : ∃ vs : List Value, c = .agg vs.toArray ∧ cL φ l vs ∧ ∀ d, d ∈ vs → d.oneCell' = true := by cases hv; exact ⟨_, rfl, by assumption, by assumption⟩
theorem Au (neg : Bool) (H : HR φ h w) {a b : AV} (hx : VR φ a cx) (hy : VR φ b cy) {ks : List KK} (ht : tu P t = some ks) (hg : P.eqGuardType P.depth t = false) (e : zY neg ks a b h = .ok v h') :
  Good φ h w v h' ((do eqGuard (if neg then .neq else .eql) t p q cx cy; binOp (if neg then .neq else .eql) t cx cy : Sem Value).run P w) := by
 obtain ⟨as, rfl, e1⟩ := dq e
 obtain ⟨bs, rfl, e2⟩ := dq e1
 obtain ⟨c, hc, rfl, rfl⟩ := pO e2
 obtain ⟨vs, rfl, hvs, _⟩ := hx.gj
 obtain ⟨ws, rfl, hws, _⟩ := hy.gj
 have hr := ku (P := P) 9998 H ht hvs hws hc
 obtain ⟨g1, g2⟩ := eP hr (by simp) (by simp) (by simp) (by simp)
 refine .same H (.bool _) ?_
 cases neg
 ·simp [run_eqGuard_agg _ _ _ _ _ _ _ hg, g1]
 ·simp [run_eqGuard_agg _ _ _ _ _ _ _ hg, g2]
end
variable {t0 : TypeId} {P : Program} {φ : aI} {h h' : Hp} {w : World} {v : AV} {x y z : AO} {r : A2} {cx cy : Value}
theorem VR.Nq {l : List AV} {c : Value} (hv : VR φ (.jj l) c) : ∃ vs : List Value, c = .tuple vs.toArray ∧ cL φ l vs := by cases hv; exact ⟨_, rfl, by assumption⟩
theorem HB (H : HR φ h w) {a : AV} (hx : VR φ a cx) (e : nT a h = .ok v h') : Good φ h w v h' ((Op.unary .not cx).run P w) := by
 obtain ⟨b, rfl, e1⟩ := ng e
 obtain ⟨rfl, rfl⟩ := RV.ak e1
 rw [hx.cW]
 exact .same H (.bool _) rfl
theorem Hz (H : HR φ h w) {a : AV} (hx : VR φ a cx) (e : DF a h = .ok v h') : Good φ h w v h' ((Op.unary .neg cx).run P w) := by
 obtain ⟨k, n, rfl, e1⟩ := bD e
 obtain ⟨rfl, rfl⟩ := RV.ak e1
 rw [hx.aW]
 refine .same H (cv := .int k (k.wrap (-n))) (by rw [dr, yu]; exact .int _ _) ?_
 simp [Op.unary, Op.intArith]
theorem HC (H : HR φ h w) {a : AV} (hx : VR φ a cx) (e : wA a h = .ok v h') : Good φ h w v h' ((Op.unary .xor cx).run P w) := by
 obtain ⟨k, n, rfl, e1⟩ := bD e
 obtain ⟨rfl, rfl⟩ := RV.ak e1
 rw [hx.aW]
 exact .same H (.int _ _) (by simp [Op.unary, Op.intBits])
theorem Fs {cc ca cb : Value} (H : HR φ h w) {c a b : AO} (hc : VR φ (ev c r) cc) (ha : VR φ (ev a r) ca) (hb : VR φ (ev b r) cb) (e : fU c a b r h = .ok v h') :
  Good φ h w v h' ((do pure (if ← asBool cc then ca else cb) : Sem Value).run P w) := by
 obtain ⟨t, et, e1⟩ := ng e
 obtain ⟨rfl, rfl⟩ := RV.ak e1
 rw [et] at hc
 rw [hc.cW]
 cases t
 ·exact .same H hb (by simp [asBool])
 ·exact .same H ha (by simp [asBool])
theorem drop_cons {α : Type} {l t : List α} {i : Nat} {a : α} (e : l.drop i = a :: t) : ∃ hi : i < l.length, l[i] = a := by
 have hi : i < l.length := by
  rcases Nat.lt_or_ge i l.length with g | g
  ·exact g
  ·rw [List.drop_of_length_le g] at e; cases e
 refine ⟨hi, ?_⟩
 rw [List.drop_eq_getElem_cons hi] at e
 exact (List.cons.inj e).1
theorem yx {α : Type} {l : List α} {n : Nat} {k : α → RV} (e : (List.rec (.err n) (fun a _ _ => k a) l : RV) = .ok v h) : ∃ a t, l = a :: t ∧ k a = .ok v h := by
 cases l with
 | nil => cases e
 | cons a t => exact ⟨a, t, rfl, e⟩
theorem HT (H : HR φ h w) {i : Nat} (hx : VR φ (ev x r) cx) (e : wk i x r h = .ok v h') : Good φ h w v h' ((Instr.extract cx i).run P w) := by
 obtain ⟨l, el, e1⟩ := Ab e
 obtain ⟨a, t, ed, e2⟩ := yx (k := fun v => .ok v h) e1
 obtain ⟨rfl, rfl⟩ := RV.ak e2
 rw [el] at hx
 obtain ⟨vs, rfl, hvs⟩ := hx.Nq
 obtain ⟨hi, ha⟩ := drop_cons ed
 have hi' : i < vs.length := by rw [← hvs.length]; exact hi
 refine .same H (cv := vs[i]) (by rw [← ha]; exact hvs.get i hi hi') ?_
 simp [Instr.extract, hi']
theorem Fu (H : HR φ h w) (hx : VR φ (ev x r) cx) (e : qI x r h = .ok v h') : v = ev x r ∧ h' = h ∧ (cx ≠ .pointer none ∧ cx ≠ .nilIface ∧ cx ≠ .nilFunc) := by
 change (OP.rec (sA (ev x r) h) (fun i o => .ok (.ptr i o) h) (ev x r).gS : RV) = _ at e
 generalize ev x r = a at hx e
 cases hx <;> first
  | (cases e; exact ⟨rfl, rfl, by simp, by simp, by simp⟩)
  | (cases e; done)
theorem HJ (H : HR φ h w) (hx : VR φ (ev x r) cx) {t : TypeId} {fs : Array Field} {f : Nat} {fd : Field} {ie : TypeInfo} (ht : P.underlying t = some (.struct fs)) (hf : fs[f]? = some fd) (hi : P.info? fd.type = some ie) (hs : ie.size ≠ 0)
  (e : uv fd.offset x r h = .ok v h') : Good φ h w v h' ((Instr.fieldAt t cx f).run P w) := by
 obtain ⟨i, o, ep, e1⟩ := cQ e
 obtain ⟨rfl, rfl⟩ := RV.ak e1
 rw [ep] at hx
 obtain ⟨p, hp, rfl⟩ := hx.fG
 refine .same H (.ptr i (o + fd.offset) p hp) ?_
 simp [Instr.fieldAt, ai ht, hf, Instr.sureAddr, fieldPlace, aP hi, hs, cX]
theorem wL {k : IntKind} {m : Nat} {n : Nat} (hm : m < n) : (0 : Int) ≤ (Int.ofNat m) ∧ (Int.ofNat m) < (n : Int) := ⟨by simp, by simp; omega⟩
theorem HL (H : HR φ h w) (hx : VR φ (ev x r) cx) (hy : VR φ (ev y r) cy) {t e : TypeId} {n : Nat} {ie : TypeInfo} (ht : P.underlying t = some (.array n e)) (hi : P.info? e = some ie)
  (he : wj n ie.size x y r h = .ok v h') : Good φ h w v h' ((Instr.indexAt t cx cy).run P w) := by
 obtain ⟨kd, m, em, e1⟩ := dc he
 obtain ⟨i, o, ep, e2⟩ := cQ e1
 obtain ⟨hb, e3⟩ := az e2
 obtain ⟨rfl, rfl⟩ := RV.ak e3
 rw [ep] at hx
 rw [em] at hy
 obtain ⟨p, hp, rfl⟩ := hx.fG
 rw [hy.aW]
 have hm := lX hb
 refine .same H (.ptr i (o + m * ie.size) p hp) ?_
 have : (0 : Int) ≤ Int.ofNat m ∧ Int.ofNat m < (n : Int) := wL (k := kd) hm
 simp only [Instr.indexAt, asIntOf, Sem.run_bind, Sem.run_pure, Result.andThen_ok, ai ht, Instr.sureAddr]
 simp [this.2, aP hi, cX, hm]
theorem HM (H : HR φ h w) (hx : VR φ (ev x r) cx) (hy : VR φ (ev y r) cy) {t e : TypeId} {ie : TypeInfo} (ht : P.underlying t = some (.slice e)) (hi : P.info? e = some ie)
  (he : uw ie.size x y r h = .ok v h') : Good φ h w v h' ((Instr.indexAt t cx cy).run P w) := by
 obtain ⟨kd, m, em, e1⟩ := dc he
 rw [em] at hy
 rw [hy.aW]
 rcases dW e1 with ⟨i, o, n, c, es, e2⟩ | ⟨i, o, n, c, es, e2⟩ | ⟨es, e2⟩
 ·obtain ⟨hb, e3⟩ := az e2
  obtain ⟨rfl, rfl⟩ := RV.ak e3
  rw [es] at hx
  have hm := lX hb
  cases hx with
  | gN _ _ _ => omega
  | slice _ _ _ _ p hp =>
   refine .same H (.ptr i (o + m * ie.size) p hp) ?_
   simp only [Instr.indexAt, asIntOf, Sem.run_bind, Sem.run_pure, Result.andThen_ok, ai ht]
   simp [aP hi, cX, hm]
 ·obtain ⟨hb, e3⟩ := az e2
  obtain ⟨rfl, rfl⟩ := RV.ak e3
  rw [es] at hx
  have hm := lX hb
  cases hx with
  | fq _ _ _ _ cc p a hp h1 h2 h3 h4 h5 h6 =>
   have ha : a = p.addr o := by
    obtain ⟨ab, ao, as⟩ := a
    simp only at h3 h4 h5
    have := h5 (by omega)
    subst h3 h4 this
    rfl
   subst ha
   refine .same H (.ptr i (o + m * ie.size) p hp) ?_
   simp only [Instr.indexAt, asIntOf, Sem.run_bind, Sem.run_pure, Result.andThen_ok, ai ht]
   simp [aP hi, cX, hm]
 ·cases e2
theorem FA (H : HR φ h w) (hx : VR φ (ev x r) cx) (hy : VR φ (ev y r) cy) {t : TypeId} (ht : P.underlying t = some .string) (he : oI x y r h = .ok v h') : Good φ h w v h' ((Instr.index t cx cy).run P w) := by
 obtain ⟨kd, m, em, e1⟩ := dc he
 obtain ⟨l, el, e2⟩ := cP e1
 obtain ⟨b, tl, ed, e3⟩ := yx (k := fun b => .ok (.int .u8 (.ofNat b)) h) e2
 obtain ⟨rfl, rfl⟩ := RV.ak e3
 rw [el] at hx
 rw [em] at hy
 rw [hy.aW]
 obtain ⟨s, rfl, rfl⟩ := hx.db
 obtain ⟨hi, hb⟩ := drop_cons ed
 have hm : m < s.size := by simpa using hi
 refine .same H (cv := .int .u8 (s[m]).toNat) ?_ ?_
 ·have : b = (s[m]).toNat := by rw [← hb]; simp; rfl
  rw [this]; exact .int _ _
 ·simp only [Instr.index, asIntOf, Sem.run_bind, Sem.run_pure, Result.andThen_ok, ai ht]
  simp [ByteArray.getElem?_lt' s m hm]
theorem Hi {ts : Array TypeId} (hts : ts[0]? = some t0) (H : HR φ h w) {a : AV} (hx : VR φ a cx) {ty : TypeId} (ht : ∃ e, P.underlying t0 = some (.slice e)) (e : len a h = .ok v h') : Good φ h w v h' ((Builtin.len_ ts ty #[cx]).run P w) := by
 obtain ⟨e', ht'⟩ := ht
 rcases dW e with ⟨i, o, n, c, rfl, e1⟩ | ⟨i, o, n, c, rfl, e1⟩ | ⟨rfl, e1⟩
 ·obtain ⟨rfl, rfl⟩ := RV.ak e1
  cases hx <;> first | exact .same H (cv := goInt n) (.int _ _) (by simp [Builtin.len_, hts, ai ht']) | exact .same H (cv := goInt 0) (.int _ _) (by simp [Builtin.len_, hts, ai ht'])
 ·obtain ⟨rfl, rfl⟩ := RV.ak e1
  cases hx <;> first | exact .same H (cv := goInt n) (.int _ _) (by simp [Builtin.len_, hts, ai ht']) | exact .same H (cv := goInt 0) (.int _ _) (by simp [Builtin.len_, hts, ai ht'])
 ·obtain ⟨rfl, rfl⟩ := RV.ak e1
  cases hx <;> exact .same H (cv := goInt 0) (.int _ _) (by simp [Builtin.len_, hts, ai ht'])
theorem Fj {ts : Array TypeId} (hts : ts[0]? = some t0) (H : HR φ h w) {a : AV} (hx : VR φ a cx) {ty : TypeId} (ht : P.underlying t0 = some .string) (e : fQ a h = .ok v h') : Good φ h w v h' ((Builtin.len_ ts ty #[cx]).run P w) := by
 obtain ⟨l, rfl, e1⟩ := cP e
 obtain ⟨rfl, rfl⟩ := RV.ak e1
 obtain ⟨s, rfl, rfl⟩ := hx.db
 refine .same H (cv := goInt s.size) ?_ ?_
 ·simp only [fg, goInt, List.length_map, Array.length_toList]; exact .int _ _
 ·simp [Builtin.len_, hts, ai ht]
theorem Bu (H : HR φ h w) {a : AV} (hx : VR φ a cx) {s d : TypeId} {k k' : IntKind} (hs : P.underlying s = some (.int k')) (hd : P.underlying d = some (.int k)) (e : ym k a h = .ok v h') : Good φ h w v h' ((convert s d cx).run P w) := by
 obtain ⟨k1, n, rfl, e1⟩ := bD e
 obtain ⟨rfl, rfl⟩ := RV.ak e1
 rw [hx.aW]
 refine .same H (cv := .int k (k.wrap n)) (by rw [dr]; exact .int _ _) ?_
 simp [convert, ai hs, ai hd, Conv.intToInt]
variable {P : Program} {φ : aI} {h h' : Hp} {w : World} {v : AV} {x y z : AO} {r : A2} {cx cy : Value}
theorem yy : ∀ (l : List AV) (i : Nat) (a : AV), MZ l i a = l.set i a
 | [], i, a => by cases i <;> rfl
 | x :: l, 0, a => rfl
 | x :: l, i + 1, a => by
  show x :: MZ l i a = _
  rw [yy l i a]; rfl
theorem uI (a : AV) (as : List AV) (i : Nat) (l : List AV) : nR (a :: as) i l = nR as (i + 1) (MZ l i a) := rfl
theorem cL.set {φ : aI} : ∀ {as : List AV} {vs : List Value} (i : Nat) {a : AV} {c : Value}, cL φ as vs → VR φ a c → cL φ (as.set i a) (vs.set i c)
 | _, _, _, _, _, .nil, _ => .nil
 | _, _, 0, _, _, .cons _ _ _ _ _ es, h => .cons _ _ _ _ h es
 | _, _, i + 1, _, _, .cons _ _ _ _ e es, h => .cons _ _ _ _ e (cL.set i es h)
def sH : List Value → Nat → List Value → List Value
 | [], _, l => l
 | c :: cs, i, l => sH cs (i + 1) (l.set i c)
theorem uJ : ∀ (cs : List Value) (k off : Nat) (acc : Array Value), (cs.zipIdx k).foldl (fun a (p : Value × Nat) => a.setIfInBounds (off + p.2) p.1) acc = (sH cs (off + k) acc.toList).toArray
 | [], _, _, acc => by simp [sH]
 | c :: cs, k, off, acc => by
  simp only [List.zipIdx_cons, List.foldl_cons, sH]
  rw [uJ cs (k + 1) off]
  simp [Nat.add_assoc]
theorem cL.sH {φ : aI} : ∀ {as : List AV} {cs : List Value} (i : Nat) {bs : List AV} {ds : List Value}, cL φ as cs → cL φ bs ds → cL φ (nR as i bs) (Am.sH cs i ds)
 | _, _, _, _, _, .nil, h => h
 | _, _, i, _, _, .cons a c as cs e es, h => by
  rw [uI, yy]
  exact cL.sH (i + 1) es (h.set i e)
theorem rY : ∀ (cs : List Value) (i : Nat) (l : List Value), (sH cs i l).length = l.length
 | [], _, _ => rfl
 | c :: cs, i, l => by rw [sH, rY]; simp
theorem Av : ∀ (cs : List Value) (i : Nat) (l : List Value), (∀ c, c ∈ cs → c.oneCell' = true) → (∀ c, c ∈ l → c.oneCell' = true) → ∀ c, c ∈ sH cs i l → c.oneCell' = true
 | [], _, _, _, hl => hl
 | c :: cs, i, l, hc, hl => by
  refine Av cs (i + 1) (l.set i c) (fun d hd => hc d (by simp [hd])) fun d hd => ?_
  rcases List.mem_or_eq_of_mem_set hd with g | g
  ·exact hl d g
  ·exact g ▸ hc c (by simp)
def uz (φ : aI) (r : A2) (place : Nat → Option (Nat × Nat)) (p : Part) (q : Nat × Value) : Prop := match p with
 | .mk off sz x => place q.1 = some (off, sz) ∧ VR φ (ev x r) q.2
theorem Gf {p : Part} {ps : List Part} (e : fits (p :: ps) r = true) : (∃ off sz x, p = .mk off sz x ∧ ((∃ l, ev x r = .agg l ∧ l.length = sz) ∨ ((ev x r).one = true ∧ sz = 1))) ∧ fits ps r = true := by
  obtain ⟨off, sz, x⟩ := p
  change (OL.rec (Bool.rec false (fits ps r) (Bool.and (ev x r).one (Nat.beq sz 1))) (fun l => Bool.rec false (fits ps r) (Nat.beq l.length sz)) (ev x r).asAgg : Bool) = true at e
  cases hx : ev x r <;> rw [hx] at e
  case agg l =>
    cases hb : Nat.beq l.length sz
    · simp [AV.asAgg, hb] at e
    · simp [AV.asAgg, hb] at e
      exact ⟨⟨off, sz, x, rfl, .inl ⟨l, hx, Nat.eq_of_beq_eq_true hb⟩⟩, e⟩
  all_goals
    simp only [AV.asAgg, AV.one] at e
    first
      | (simp at e; done)
      | (cases hb : Nat.beq sz 1
         · simp [hb] at e
         · simp [hb] at e
           exact ⟨⟨off, sz, x, rfl, .inr ⟨by rw [hx]; rfl, Nat.eq_of_beq_eq_true hb⟩⟩, e⟩)
theorem wM (p : Part) (ps : List Part) (r : A2) (l : List AV) : fill (p :: ps) r l = match p with | .mk off _ x => fill ps r (nR (AV.cs (ev x r)) off l) := by
 obtain ⟨off, sz, x⟩ := p; rfl
theorem uA {place : Nat → Option (Nat × Nat)} : ∀ (ps : List Part) (qs : List (Nat × Value)) (l : List AV) (ds : List Value), ps.length = qs.length → (∀ k (h1 : k < ps.length) (h2 : k < qs.length), uz φ r place ps[k] qs[k]) → fits ps r = true →
  (∀ p, p ∈ ps → match p with | .mk off sz _ => off + sz ≤ ds.length) → cL φ l ds → (∀ c, c ∈ ds → c.oneCell' = true) →
  ∃ es : List Value, Instr.fill place ds.toArray qs = some es.toArray ∧ cL φ (fill ps r l) es ∧ ∀ c, c ∈ es → c.oneCell' = true := by
 intro ps
 induction ps with
 | nil =>
  intro qs l ds hl _ _ _ hv h1
  match qs, hl with
  | [], _ => exact ⟨ds, rfl, hv, h1⟩
 | cons p ps ih =>
  intro qs l ds hl hp hf hb hv h1
  match qs, hl with
  | (i, c) :: qs, hl =>
   obtain ⟨⟨off, sz, x, rfl, hx⟩, hf'⟩ := Gf hf
   obtain ⟨hpl, hvr⟩ := hp 0 (by simp) (by simp)
   have hcs : cL φ (AV.cs (ev x r)) c.cells.toList ∧ (∀ d, d ∈ c.cells.toList → d.oneCell' = true) ∧ c.cells.size = sz := by
    rcases hx with ⟨as, hx, hs⟩ | ⟨h2, hs⟩
    ·obtain ⟨g1, g2⟩ := hvr.jz (l := as) (.inl hx)
     have : AV.cs (ev x r) = as := by rw [hx]; rfl
     exact ⟨this ▸ g1, g2, by rw [← hs, g1.length]; simp⟩
    ·obtain ⟨g1, g2⟩ := hvr.jz (l := [ev x r]) (.inr ⟨h2, rfl⟩)
     have : AV.cs (ev x r) = [ev x r] := by
      revert h2; cases ev x r <;> intro h2 <;> first | rfl | cases h2
     exact ⟨this ▸ g1, g2, by have := g1.length; simp at this; omega⟩
   obtain ⟨g1, g2, g3⟩ := hcs
   have hoff := hb (.mk off sz x) (by simp)
   simp only at hoff
   have step := uJ c.cells.toList 0 off ds.toArray
   obtain ⟨es, r1, r2, r3⟩ := ih qs (nR (AV.cs (ev x r)) off l) (sH c.cells.toList off ds) (by simpa using hl) (fun k h1 h2 => hp (k + 1) (by simpa using h1) (by simpa using h2)) hf'
    (fun q hq => by have := hb q (by simp [hq]); revert this; obtain ⟨o', s', x'⟩ := q; simp only; rw [rY]; exact id)
    (cL.sH off g1 hv) (Av _ _ _ g2 h1)
   refine ⟨es, ?_, ?_, r3⟩
   ·have hpl' : place i = some (off, sz) := hpl
    simp only [Instr.fill, hpl', g3]
    rw [if_neg (by simp; omega)]
    rw [← r1]
    congr 1
    rw [← Array.foldl_toList, Array.toList_zipIdx]
    simpa using step
   ·rw [wM]; exact r2
variable {P : Program} {φ : aI} {h h' : Hp} {w : World} {v : AV} {x y z : AO} {r : A2} {cx cy : Value}
def Ck (rc : Array Value) (o : Nat) : List Value → Array Value
 | [] => rc
 | c :: cs => Ck (rc.setIfInBounds o c) (o + 1) cs
theorem qZ : ∀ (cs : List Value) (rc : Array Value) (o : Nat), (Ck rc o cs).size = rc.size
 | [], _, _ => rfl
 | c :: cs, rc, o => by rw [Ck, qZ]; simp
theorem Aw : ∀ (cs : List Value) (rc : Array Value) (o k : Nat), o + cs.length ≤ rc.size → (Ck rc o cs)[k]? = if h : o ≤ k ∧ k < o + cs.length then some (cs[k - o]'(by omega)) else rc[k]?
 | [], rc, o, k, _ => by rw [Ck, dif_neg (by simp only [List.length_nil]; omega)]
 | c :: cs, rc, o, k, hb => by
  simp only [List.length_cons] at hb
  rw [Ck, Aw cs _ (o + 1) k (by simp; omega), Array.getElem?_setIfInBounds]
  by_cases h1 : k = o
  ·subst h1
   rw [dif_neg (by omega), if_pos rfl, if_pos (by omega), dif_pos (by simp)]
   simp
  ·by_cases h2 : o ≤ k ∧ k < o + (cs.length + 1)
   ·rw [dif_pos (by omega), dif_pos (by simpa using h2)]
    have : k - o = (k - (o + 1)) + 1 := by omega
    simp only [this, List.getElem_cons_succ]
   ·rw [dif_neg (by omega), dif_neg (by simpa using h2), if_neg (by omega)]
theorem oQ {b base : Nat} : ∀ (vs : List Value) (w : World) (rc : Array Value) (el : TypeId) (fz : Nat × Nat) (k : Nat), w.heap[b]? = some (.cells rc el fz) → base + k + vs.length ≤ rc.size →
  (∀ j, j < rc.size → ¬ (fz.1 ≤ j ∧ j < fz.2)) → (∀ c, c ∈ vs → c.oneCell' = true) →
  ∃ w', (storeCells ⟨b, base, none⟩ vs k).run P w = .ok () w' ∧ w'.heap[b]? = some (.cells (Ck rc (base + k) vs) el fz) ∧ w'.heap.size = w.heap.size ∧ (∀ d, d ≠ b → w'.heap[d]? = w.heap[d]?) ∧ w'.tape = w.tape ∧ w'.os = w.os ∧ w'.output = w.output := by
 intro vs
 induction vs with
 | nil => intro w rc el fz k hb _ _ _; exact ⟨w, rfl, hb, rfl, fun _ _ => rfl, rfl, rfl, rfl⟩
 | cons c cs ih =>
  intro w rc el fz k hb hl hf h1
  simp only [List.length_cons] at hl
  have ha : (⟨b, base, none⟩ : Addr).add k = ⟨b, base + k, none⟩ := by
   unfold Addr.add; split
   ·rename_i e; subst e; rfl
   ·rfl
  have hc : w.cell? ⟨b, base + k, none⟩ = some rc[base + k] := by simp [World.cell?, hb]
  have hz : w.frozen? ⟨b, base + k, none⟩ = false := by
   simp only [World.frozen?, hb]
   rw [Bool.eq_false_iff]
   intro hh
   have hh' := Bool.and_eq_true_iff.1 hh
   exact hf (base + k) (by omega) ⟨of_decide_eq_true hh'.1, of_decide_eq_true hh'.2⟩
  have hs : (w.setCell ⟨b, base + k, none⟩ c).heap[b]? = some (.cells (rc.setIfInBounds (base + k) c) el fz) := by
   simp only [World.setCell, Array.getElem?_modify]
   simp [hb]
  obtain ⟨w', r1, r2, r3, r4, r5, r6, r7⟩ := ih (w.setCell ⟨b, base + k, none⟩ c) _ el fz (k + 1) hs (by simp; omega) (by simpa using hf) (fun d hd => h1 d (by simp [hd]))
  refine ⟨w', ?_, r2, r3.trans (ln _ _ _), fun d hd => (r4 d hd).trans (uG _ _ _ (by exact hd)), r5, r6, r7⟩
  simp only [storeCells, Sem.run_bind, ha, iH (h1 c (by simp)) hc hz, Result.andThen_ok]
  exact r1
structure Gg (P : Program) (φ : aI) (w : World) (u : TypeId) (es m : Nat) (new : List AV) (cy : Value) (ns : List Value) : Prop where
 JD : ∃ d, P.underlying u = some d ∧ ∀ k, d ≠ .int k
 len : (Builtin.lenOf cy).run P w = .ok m w
 size : ns.length = m * es
 rel : cL φ new ns
 one : ∀ c, c ∈ ns → c.oneCell' = true
 cells : ∀ w' : World, w'.heap = w.heap → (Builtin.firstCells es m cy).run P w' = .ok ns.toArray w'
def grown (w : World) (cs : Array Value) (e : TypeId) : World := w.drew.alloc (.cells cs e)
def dT (w : World) (need old : Nat) (e : TypeId) : Nat := (Question.appendCap need old e).cut (w.tape w.drawn (.appendCap need old e))
theorem Ax (w : World) (need old : Nat) (e : TypeId) : need ≤ dT w need old e := by simp [dT, Question.cut]
theorem uK {t u ty e : TypeId} {i : TypeInfo} (ht : P.underlying t = some (.slice e)) (hi : P.info? e = some i) {m : Nat} {new : List AV} {ns : List Value} (S : Gg P φ w u i.size m new cy ns)
  {base : Option Addr} {n c : Nat} (hc : n + m ≤ c) {w' : World} (hs : ∀ a, base = some a → (storeCells (a.add (n * i.size)) ns).run P w = .ok () w') (hn : base = none → w' = w) :
  (Builtin.append_ #[t, u] ty #[.slice base n c, cy]).run P w = .ok (.slice base (n + m) c) w' := by
 obtain ⟨d, hu, hd⟩ := S.JD
 have hz : (d matches TypeDesc.int _) = false := by cases d <;> first | rfl | exact absurd rfl (hd _)
 cases base with
 | none =>
  rw [hn rfl]
  simp [Builtin.append_, ai ht, ai hu, aP hi, hz, S.len, hc, S.cells w rfl]
 | some a =>
  simp [Builtin.append_, ai ht, ai hu, aP hi, hz, S.len, hc, S.cells w rfl, hs a rfl]
theorem sI {t u ty e : TypeId} {i : TypeInfo} {z : Value} (ht : P.underlying t = some (.slice e)) (hi : P.info? e = some i) (hz : i.zero = some z) {m : Nat} {new : List AV} {ns : List Value} (S : Gg P φ w u i.size m new cy ns)
  {base : Option Addr} {n c : Nat} (hc : ¬ n + m ≤ c) {os : List Value} (ho : ∀ w' : World, w'.heap = w.heap → (Builtin.firstCells i.size n (.slice base n c)).run P w' = .ok os.toArray w')
  (hb : (n + m) * i.bytes ≤ 140737488355328) (h63 : n + m ≤ 9223372036854775807) :
  (Builtin.append_ #[t, u] ty #[.slice base n c, cy]).run P w =
   .ok (.slice (some ⟨w.heap.size, 0, none⟩) (n + m) (dT w (n + m) c e)) (grown w (os.toArray ++ ns.toArray ++ Builtin.zeroCells z.cells (dT w (n + m) c e - (n + m))) e) := by
 obtain ⟨d, hu, hd⟩ := S.JD
 have hzz : (d matches TypeDesc.int _) = false := by cases d <;> first | rfl | exact absurd rfl (hd _)
 have h63' : ¬ (9223372036854775807 < ((n : Int) + (m : Int))) := by omega
 have h48 := growslice_fits (old := c) (show c < n + m by omega) hb
 have h48' : ¬ (281474976710656 < Builtin.nextslicecap (n + m) c * i.bytes) := by omega
 have hcell := S.cells w.drew rfl
 have hold := ho w.drew rfl
 simp only [grown, Array.append_assoc]
 simp [Builtin.append_, ai ht, ai hu, aP hi, bM hi, zeroValue, hz, hzz, S.len, hc, h63', h48', Question.forced, hcell, hold, newRow, dT]
structure Src (P : Program) (φ : aI) (w : World) (e u : TypeId) (es m : Nat) (new : List AV) (cy : Value) (ns : List Value) : Prop where
 Vj : ∀ (t ty : TypeId) (i : TypeInfo), P.underlying t = some (.slice e) → P.info? e = some i → i.size = es → ∀ (base : Option Addr) (n c : Nat), n + m ≤ c → ∀ w' : World, (∀ a, base = some a → (storeCells (a.add (n * es)) ns).run P w = .ok () w') → (base = none → w' = w) →
  (Builtin.append_ #[t, u] ty #[.slice base n c, cy]).run P w = .ok (.slice base (n + m) c) w'
 Vk : ∀ (t ty : TypeId) (i : TypeInfo) (z : Value), P.underlying t = some (.slice e) → P.info? e = some i → i.size = es → i.zero = some z → ∀ (base : Option Addr) (n c : Nat), ¬ n + m ≤ c → ∀ os : List Value, (∀ w' : World, w'.heap = w.heap → (Builtin.firstCells es n (.slice base n c)).run P w' = .ok os.toArray w') →
  (n + m) * i.bytes ≤ 140737488355328 → n + m ≤ 9223372036854775807 →
  (Builtin.append_ #[t, u] ty #[.slice base n c, cy]).run P w =
   .ok (.slice (some ⟨w.heap.size, 0, none⟩) (n + m) (dT w (n + m) c e)) (grown w (os.toArray ++ ns.toArray ++ Builtin.zeroCells z.cells (dT w (n + m) c e - (n + m))) e)
 size : ns.length = m * es
 rel : cL φ new ns
 one : ∀ c, c ∈ ns → c.oneCell' = true
theorem Gg.src {e u : TypeId} {es m : Nat} {new : List AV} {ns : List Value} (S : Gg P φ w u es m new cy ns) : Src P φ w e u es m new cy ns where
 Vj t ty i ht hi hs base n c hc w' h1 h2 := by subst hs; exact uK ht hi S hc h1 h2
 Vk t ty i z ht hi hs hz base n c hc os ho hb h63 := by subst hs; exact sI ht hi hz S hc ho hb h63
 size := S.size
 rel := S.rel
 one := S.one
theorem dk {t u ty e : TypeId} {i : TypeInfo} (ht : P.underlying t = some (.slice e)) (hi : P.info? e = some i) {m : Nat} {new : List AV} {ns : List Value} (S : Src P φ w e u i.size m new cy ns)
  {base : Option Addr} {n c : Nat} (hc : n + m ≤ c) {w' : World} (hs : ∀ a, base = some a → (storeCells (a.add (n * i.size)) ns).run P w = .ok () w') (hn : base = none → w' = w) :
  (Builtin.append_ #[t, u] ty #[.slice base n c, cy]).run P w = .ok (.slice base (n + m) c) w' := S.Vj t ty i ht hi rfl base n c hc w' hs hn
theorem mC {t u ty e : TypeId} {i : TypeInfo} {z : Value} (ht : P.underlying t = some (.slice e)) (hi : P.info? e = some i) (hz : i.zero = some z) {m : Nat} {new : List AV} {ns : List Value} (S : Src P φ w e u i.size m new cy ns)
  {base : Option Addr} {n c : Nat} (hc : ¬ n + m ≤ c) {os : List Value} (ho : ∀ w' : World, w'.heap = w.heap → (Builtin.firstCells i.size n (.slice base n c)).run P w' = .ok os.toArray w')
  (hb : (n + m) * i.bytes ≤ 140737488355328) (h63 : n + m ≤ 9223372036854775807) :
  (Builtin.append_ #[t, u] ty #[.slice base n c, cy]).run P w =
   .ok (.slice (some ⟨w.heap.size, 0, none⟩) (n + m) (dT w (n + m) c e)) (grown w (os.toArray ++ ns.toArray ++ Builtin.zeroCells z.cells (dT w (n + m) c e - (n + m))) e) := S.Vk t ty i z ht hi rfl hz base n c hc os ho hb h63
variable {P : Program} {φ : aI} {h h' : Hp} {w : World} {v : AV} {x y z : AO} {r : A2} {cx cy : Value}
theorem fX {n : Nat} {a : RV} {f : Nat → RV} {b : RV} (e : (Nat.rec a (fun m _ => f m) n : RV) = b) : (n = 0 ∧ a = b) ∨ ∃ m, n = m + 1 ∧ f m = b := by
 cases n with
 | zero => exact .inl ⟨rfl, e⟩
 | succ m => exact .inr ⟨m, rfl, e⟩
theorem fx {b : Bool} {s t u : RV} (e : (Bool.rec s t b : RV) = u) : (b = false ∧ s = u) ∨ (b = true ∧ t = u) := by
 cases b
 ·exact .inl ⟨rfl, e⟩
 ·exact .inr ⟨rfl, e⟩
theorem pP {k : Nat → RV} {n : Nat} {a : AV} (hx : VR φ a cx) (e : rU a k (.err n) = .ok v h) : ∃ m base c, cx = .slice base m c ∧ k m = .ok v h := by
 rcases dW e with ⟨i, o, l, c, rfl, e⟩ | ⟨i, o, l, c, rfl, e⟩ | ⟨rfl, e⟩ <;> cases hx <;> exact ⟨_, _, _, rfl, e⟩
theorem uL {w w' : World} (hw : w'.heap = w.heap) (a : Addr) : w'.cell? a = w.cell? a := by simp [World.cell?, hw]
structure Bp (P : Program) (φ : aI) (w : World) (es m : Nat) (new : List AV) (cy : Value) (ns : List Value) : Prop where
 size : ns.length = m * es
 rel : cL φ new ns
 one : ∀ c, c ∈ ns → c.oneCell' = true
 cells : ∀ w' : World, w'.heap = w.heap → (Builtin.firstCells es m cy).run P w' = .ok ns.toArray w'
 pre : ∀ k, k ≤ m → (Builtin.firstCells es k cy).run P w = .ok (ns.take (k * es)).toArray w
theorem iI {a : Addr} {l : List Value} (hc : ∀ k (hk : k < l.length), w.cell? (a.add k) = some l[k]) {n : Nat} (hn : n ≤ l.length) : (loadCells a n).run P w = .ok (l.take n).toArray w :=
 run_loadCells (by simp; omega) fun k hk => by
  rw [List.getElem_take]
  exact hc k (by simp at hk; omega)
theorem Bp.none (es : Nat) {a : Option Addr} {n c : Nat} : Bp P φ w es 0 [] (.slice a n c) [] where
 size := by simp
 rel := .nil
 one := by simp
 cells w' _ := by cases a <;> simp [Builtin.firstCells, loadCells, loadCellsFrom]
 pre k hk := by
  have : k = 0 := by omega
  subst this
  cases a <;> simp [Builtin.firstCells, loadCells, loadCellsFrom]
theorem oS (H : HR φ h w) {i : P4} {p : Place} (hp : φ i = some p) {es o n nn c : Nat} {k : List AV → RV} {q : Nat} {a : Addr} (ha : 0 < n → a = p.addr o) (e : jo es i o n h k (.err q) = .ok v h') :
  ∃ new ns, k new = .ok v h' ∧ Bp P φ w es n new (.slice (some a) nn c) ns ∧ (n = 0 ∨ ∃ el m ex fl cl, ag i h = .cells el m ex fl cl ∧ o + n * es ≤ m ∧ new = bI (n * es) cl o) := by
 unfold jo at e
 rcases fX e with ⟨rfl, e⟩ | ⟨n, rfl, e⟩
 ·exact ⟨[], [], e, Bp.none es, .inl rfl⟩
 ·obtain ⟨el, m, ex, fl, cl, hi, e⟩ := aX e
  obtain ⟨hb, e⟩ := az e
  have hb : o + (n + 1) * es ≤ m := Nat.le_of_ble_eq_true hb
  obtain ⟨l, h1, h2, h3, h4⟩ := H.values hi hp _ o hb
  rw [ha (by omega)]
  refine ⟨_, l, e, ⟨h1, h2, h3, fun w' hw => ?_, fun k hk => ?_⟩, .inr ⟨_, _, _, _, _, hi, hb, rfl⟩⟩
  ·simp only [Builtin.firstCells]
   exact run_loadCells h1 fun k hk => by rw [uL hw]; exact h4 k hk
  ·simp only [Builtin.firstCells]
   exact iI h4 (by rw [h1]; exact Nat.mul_le_mul_right _ hk)
theorem iJ {p : Place} {a : Addr} {o c : Nat} (h3 : a.block = p.da) (h4 : a.spot = none) (h5 : c ≠ 0 → a.off = p.base + o) (hc : 0 < c) : a = p.addr o := by
 obtain ⟨ab, ao, as⟩ := a
 simp only at h3 h4 h5
 have := h5 (by omega)
 subst h3 h4 this
 rfl
theorem uM (H : HR φ h w) {es : Nat} {a : AV} (hy : VR φ a cy) {k : List AV → RV} {q : Nat} (e : elems es a h k (.err q) = .ok v h') :
  ∃ b n c new ns, cy = .slice b n c ∧ k new = .ok v h' ∧ Bp P φ w es n new cy ns := by
 rcases dW e with ⟨i, o, l, c, rfl, e⟩ | ⟨i, o, l, c, rfl, e⟩ | ⟨rfl, e⟩
 ·cases hy with
  | gN _ _ _ => exact ⟨_, _, _, [], [], rfl, e, Bp.none es⟩
  | slice _ _ _ _ p hp =>
   obtain ⟨new, ns, h1, h2, _⟩ := oS (P := P) (nn := l) (c := c) H hp (a := p.addr o) (fun _ => rfl) e
   exact ⟨_, _, _, new, ns, rfl, h1, h2⟩
 ·obtain ⟨_, e⟩ := az e
  cases hy with
  | fq _ _ _ _ cc p a hp h1 h2 h3 h4 h5 h6 =>
   obtain ⟨new, ns, h1, h2, _⟩ := oS (P := P) (nn := l) (c := cc) H hp (a := a) (fun hl => iJ h3 h4 h5 (by omega)) e
   exact ⟨_, _, _, new, ns, rfl, h1, h2⟩
 ·cases hy
  exact ⟨_, _, _, [], [], rfl, e, Bp.none es⟩
theorem Bp.UD {es m c : Nat} {b : Option Addr} {new : List AV} {ns : List Value} (E : Bp P φ w es m new (.slice b m c) ns) {u f : TypeId} (hu : P.underlying u = some (.slice f)) : Gg P φ w u es m new (.slice b m c) ns where
 JD := ⟨_, hu, by simp⟩
 len := rfl
 size := E.size
 rel := E.rel
 one := E.one
 cells := E.cells
theorem Bp.src {es m c : Nat} {b : Option Addr} {new : List AV} {ns : List Value} (E : Bp P φ w es m new (.slice b m c) ns) {e u f : TypeId} (hu : P.underlying u = some (.slice f)) : Src P φ w e u es m new (.slice b m c) ns := (E.UD hu).src
theorem oT {i : P4} {o : Nat} {l : List AV} {k : Hp → RV} (e : lh i o l h k = .ok v h') : ∃ el n ex fl c, ag i h = .cells el n ex fl c ∧ wr fl = true ∧ o + l.length ≤ n ∧ k (cM i (.cells el n ex fl (cG l o c)) h) = .ok v h' := by
 obtain ⟨el, n, ex, fl, c, hi, e⟩ := aX e
 obtain ⟨hw, e⟩ := az e
 obtain ⟨hb, e⟩ := az e
 exact ⟨el, n, ex, fl, c, hi, hw, Nat.le_of_ble_eq_true hb, e⟩
theorem lq (H : HR φ h w) {i : P4} {p : Place} (hp : φ i = some p) {el n : Nat} {ex : Bool} {fl : Fl} {c : Cl} (hi : ag i h = .cells el n ex fl c) (hf : wr fl = true) {l : List AV} {vs : List Value} (hl : cL φ l vs) (h1 : ∀ x, x ∈ vs → x.oneCell' = true)
  {o : Nat} (hn : o + l.length ≤ n) : ∃ w', (storeCells (p.addr o) vs).run P w = .ok () w' ∧ HR φ (cM i (.cells el n ex fl (cG l o c)) h) w' ∧ Step φ h w φ (cM i (.cells el n ex fl (cG l o c)) h) w' := by
 obtain ⟨w', r1, r2, r3⟩ := my (P := P) hp hf l vs h w c o 0 H hi hl h1 (by omega)
 refine ⟨w', r1, r2, φ.le_refl, r3, fun k q hk hq => ?_⟩
 rw [aF] at hk
 by_cases ek : k = i
 ·subst ek; exact .inl ⟨hi ▸ aV, hq, fun _ => nY hi hf⟩
 ·rw [if_neg ek] at hk; exact .inl ⟨hk, hq, fun x => by rw [aF, if_neg ek] at x; exact x⟩
theorem mD (z : Array Value) (n : Nat) : (Builtin.zeroCells z n).size = n * z.size := by simp [Builtin.zeroCells]
theorem lr {t u ty e : TypeId} {i : TypeInfo} {zv : Value} (H : HR φ h w) (ht : P.underlying t = some (.slice e)) (hi : P.info? e = some i) (hz : i.zero = some zv) (hzs : zv.cells.size = i.size) (hby : i.bytes ≤ 1048576) (hes : 0 < i.size)
  {m : Nat} {new : List AV} {ns : List Value} (S : Src P φ w e u i.size m new cy ns) {base : Option Addr} {n c : Nat} (hc : ¬ n + m ≤ c) {old : List AV} {os : List Value} (E : Bp P φ w i.size n old (.slice base n c) os)
  (he : qS e i.size n m old new h = .ok v h') : Good φ h w v h' ((Builtin.append_ #[t, u] ty #[.slice base n c, cy]).run P w) := by
 have hroom := ta he
 obtain ⟨hr, hn, he⟩ := jt he
 obtain ⟨rfl, rfl⟩ := RV.ak he
 have hl1 := E.rel.length
 have hl2 := S.rel.length
 have hlen : (List.append old new).length = (n + m) * i.size := by
  show (old ++ new).length = _
  rw [List.length_append, hl1, hl2, E.size, S.size, Nat.add_mul]
 have hnm : n + m ≤ 16777216 := by
  have : (n + m) * 1 ≤ (n + m) * i.size := Nat.mul_le_mul_left _ hes
  omega
 have hbb : (n + m) * i.bytes ≤ 140737488355328 := by
  have : (n + m) * i.bytes ≤ 16777216 * 1048576 := Nat.mul_le_mul hnm hby
  omega
 have hrun := mC (P := P) (ty := ty) ht hi hz S hc E.cells hbb (by omega)
 rw [hrun]
 have hcap := Ax w (n + m) c e
 have hsz : (os.toArray ++ ns.toArray ++ Builtin.zeroCells zv.cells (dT w (n + m) c e - (n + m))).size = dT w (n + m) c e * i.size := by
  rw [Array.size_append, Array.size_append, mD, hzs]
  simp only [List.size_toArray]
  rw [E.size, S.size, ← Nat.add_mul, ← Nat.add_mul]
  congr 1; omega
 have hrel : cL φ (List.append old new) (os ++ ns) := E.rel.append S.rel
 obtain ⟨g1, g2⟩ := H.pM (n' := h.next.succ) (w' := grown w (os.toArray ++ ns.toArray ++ Builtin.zeroCells zv.cells (dT w (n + m) c e - (n + m))) e) hn
  (rc := os.toArray ++ ns.toArray ++ Builtin.zeroCells zv.cells (dT w (n + m) c e - (n + m))) (el := e) (n := (List.append old new).length) (ex := false) (fl := .plain) (fz := (0, 0)) (c := ox (List.append old new))
  (by rw [hsz, hlen]; exact Nat.mul_le_mul_right _ hcap) (by simp) hr
  (fun k hk => by
   have hk' : k < (os ++ ns).length := by rw [← hrel.length]; exact hk
   refine ⟨(os ++ ns)[k], ?_, ?_, ?_⟩
   ·rw [Array.getElem?_append_left (by simpa using hk'), List.append_toArray]
    simp only [List.getElem?_toArray]
    exact List.getElem?_eq_getElem hk'
   ·rw [eB _ hr k hk]; exact hrel.get k hk hk'
   ·rcases List.mem_append.1 (List.getElem_mem hk') with g | g
    ·exact E.one _ g
    ·exact S.one _ g) rfl rfl rfl rfl rfl
 refine ⟨_, _, _, rfl, ?_, g1, g2⟩
 refine .fq _ 0 (n + m) i.size (dT w (n + m) c e) ⟨w.heap.size, 0, _⟩ ⟨w.heap.size, 0, none⟩ (aI.aJ _ _ _) ?_ hcap rfl rfl (fun _ => rfl) hes
 rw [hsz]; simp
theorem vN {fl : Fl} {fz : Nat × Nat} {size : Nat} (hf : wr fl = true) (hk : Gc fl fz size) : ∀ j, j < size → ¬ (fz.1 ≤ j ∧ j < fz.2) := by
 cases fl with
 | plain => cases hk; intro j _; simp
 | mark => exact hk
 | Bw => cases hf
 | ro => cases hf
theorem Gh {fl : Fl} {size : Nat} : Gc fl (0, 0) size := by
 cases fl with
 | plain => rfl
 | mark => intro k _; simp
 | Bw => trivial
 | ro => trivial
theorem eC {h : Hp} {o : Obj} {n' : P4} (j : P4) : ag j (.mk (df h.next o h.tree) n') = if j = h.next then o else ag j h := by
 cases h with
 | mk t n => exact dg j n o t
theorem HR.mr (H : HR φ h w) {i : P4} {p : Place} (hp : φ i = some p) (hwi : wl (ag i h)) (hn : ag h.next (cM i .dead h) = .none) {q : Place} {w' : World} (hb : q.da = p.da ∨ q.da = w.heap.size)
  {o : Obj} (hlo : live o) (hsz : w.heap.size ≤ w'.heap.size) (hq : q.da < w'.heap.size) (hne : ∀ b, b < w.heap.size → b ≠ p.da → w'.heap[b]? = w.heap[b]?) (ho : OR (φ.put h.next q) o q w'.heap[q.da]?)
  (ht : w'.tape = w.tape) (hos : w'.os = w.os) (hu : w'.output = w.output) {n' : P4} :
  HR (φ.put h.next q) (.mk (df h.next o (cM i .dead h).tree) n') w' ∧ Step φ h w (φ.put h.next q) (.mk (df h.next o (cM i .dead h).tree) n') w' := by
 have hi := hwi.1
 have hni : h.next ≠ i := by
  intro e; rw [aF, if_pos e] at hn; cases hn
 rw [aF, if_neg hni] at hn
 have hφ := H.fresh _ hn
 have hle := aI.iD (φ := φ) (i := h.next) q hφ
 have hg : ∀ j, ag j (.mk (df h.next o (cM i .dead h).tree) n') = if j = h.next then o else if j = i then .dead else ag j h := by
  intro j
  have := eC (h := cM i .dead h) (o := o) (n' := n') j
  have hnx : (cM i .dead h).next = h.next := rfl
  rw [hnx] at this
  rw [this, aF]
 have hold : ∀ j r, j ≠ h.next → (φ.put h.next q) j = some r → φ j = some r := by
  intro j r hj hr; simpa [aI.put, hj] using hr
 have hlv : ∀ j, live (ag j (.mk (df h.next o (cM i .dead h).tree) n')) → j = h.next ∨ (j ≠ h.next ∧ j ≠ i ∧ live (ag j h)) := by
  intro j hj
  rw [hg] at hj
  by_cases e : j = h.next
  ·exact .inl e
  ·rw [if_neg e] at hj
   by_cases e' : j = i
   ·rw [if_pos e'] at hj; exact absurd rfl hj.2
   ·rw [if_neg e'] at hj; exact .inr ⟨e, e', hj⟩
 refine ⟨⟨fun j hj => ?_, fun j k s t hj hk hw2 hjk hs ht => ?_, fun j hj => ?_, fun j s hs => ?_⟩, hle, ⟨hsz, fun b hb' hnb => hne b hb' ?_, ht, hos, hu⟩, fun j s hj hs => ?_⟩
 ·rcases hlv j hj with rfl | ⟨e1, e2, e3⟩
  ·rw [hg, if_pos rfl]
   exact ⟨q, aI.aJ _ _ _, ho⟩
  ·rw [hg, if_neg e1, if_neg e2]
   obtain ⟨s, hs, hr⟩ := H.obj j e3
   refine ⟨s, hle _ _ hs, ?_⟩
   rw [hne _ (H.bound _ _ hs) (H.inj j i s p e3 hi (.inr hwi) e2 hs hp)]
   exact hr.mono hle
 ·rcases hlv j hj with rfl | ⟨e1, e2, e3⟩ <;> rcases hlv k hk with rfl | ⟨f1, f2, f3⟩
  ·exact absurd rfl hjk
  ·rw [aI.aJ] at hs; cases hs
   have ht' := hold k t f1 ht
   have h1 := H.inj k i t p f3 hi (.inr hwi) f2 ht' hp
   have h2 := H.bound k t ht'
   rcases hb with g | g <;> rw [g] <;> first | exact fun e => h1 e.symm | omega
  ·rw [aI.aJ] at ht; cases ht
   have hs' := hold j s e1 hs
   have h1 := H.inj j i s p e3 hi (.inr hwi) e2 hs' hp
   have h2 := H.bound j s hs'
   rcases hb with g | g <;> rw [g] <;> first | exact h1 | omega
  ·rw [hg, hg, if_neg e1, if_neg e2, if_neg f1, if_neg f2] at hw2
   exact H.inj j k s t e3 f3 hw2 hjk (hold j s e1 hs) (hold k t f1 ht)
 ·rw [hg] at hj
  by_cases e : j = h.next
  ·rw [if_pos e] at hj; exact absurd hj hlo.1
  ·rw [if_neg e] at hj
   show (if j = h.next then some _ else φ j) = none
   rw [if_neg e]
   by_cases e' : j = i
   ·rw [if_pos e'] at hj; cases hj
   ·rw [if_neg e'] at hj; exact H.fresh j hj
 ·by_cases e : j = h.next
  ·rw [e, aI.aJ] at hs; cases hs; exact hq
  ·exact Nat.lt_of_lt_of_le (H.bound j s (hold j s e hs)) hsz
 ·exact fun e => hnb i p hwi hp e.symm
 ·rcases hlv j hj with rfl | ⟨e1, e2, e3⟩
  ·rw [aI.aJ] at hs; cases hs
   rcases hb with g | g
   ·exact .inr (.inr ⟨i, p, hwi, hp, g.symm⟩)
   ·exact .inr (.inl (by omega))
  ·exact .inl ⟨e3, hold j s e1 hs, fun x => by rw [hg, if_neg e1, if_neg e2] at x; exact x⟩
variable {P : Program} {φ : aI} {h h' : Hp} {w : World} {v : AV} {x y z : AO} {r : A2} {cx cy : Value}
theorem Rr (H : HR φ h w) {i : P4} {p : Place} (hp : φ i = some p) {el k : Nat} {ex : Bool} {fl : Fl} {c : Cl} (hi : ag i h = .cells el k ex fl c) {es o n nn cc : Nat} {a : Addr} (ha : 0 < n → a = p.addr o) (hb : o + n * es ≤ k) :
  ∃ os, Bp P φ w es n (bI (n * es) c o) (.slice (some a) nn cc) os := by
 rcases Nat.eq_zero_or_pos n with rfl | hn
 ·refine ⟨[], ?_⟩
  rw [Nat.zero_mul]
  exact Bp.none es
 ·obtain ⟨l, h1, h2, h3, h4⟩ := H.values hi hp _ o hb
  rw [ha hn]
  refine ⟨l, h1, h2, h3, fun w' hw => ?_, fun k hk => ?_⟩
  ·simp only [Builtin.firstCells]
   exact run_loadCells h1 fun k hk => by rw [uL hw]; exact h4 k hk
  ·simp only [Builtin.firstCells]
   exact iI h4 (by rw [h1]; exact Nat.mul_le_mul_right _ hk)
theorem uN {t u ty e : TypeId} {i : TypeInfo} {zv : Value} (H : HR φ h w) (ht : P.underlying t = some (.slice e)) (hi : P.info? e = some i) (hz : i.zero = some zv) (hzs : zv.cells.size = i.size) (hby : i.bytes ≤ 1048576) (hes : 0 < i.size)
  {m : Nat} {new : List AV} {ns : List Value} (S : Src P φ w e u i.size m new cy ns) (hm : 0 < m) {j : P4} {o n : Nat} {cs : Value} (hs : VR φ (.fq j o n i.size) cs) {k : Nat} {fl : Fl} {c c' : Cl} (hj : ag j h = .cells e k false fl c) (hf : wr fl = true)
  (hb : o + n * i.size ≤ k) (hc' : (n + m) * i.size ≤ bz c' → ∀ x (hx : x < (bI (n * i.size) c o ++ new).length), eO x c' = (bI (n * i.size) c o ++ new)[x])
  (he : mr j e ((n + m) * i.size) fl c' (n + m) i.size h = .ok v h') : Good φ h w v h' ((Builtin.append_ #[t, u] ty #[cs, cy]).run P w) := by
 have hroom := ta he
 obtain ⟨hr, hn, he⟩ := jt he
 obtain ⟨rfl, rfl⟩ := RV.ak he
 have hcg := hc' hr
 cases hs with
 | fq _ _ _ _ cap p a hp h1 h2 h3 h4 h5 h6 =>
 have hl : live (ag j h) := hj ▸ aV
 obtain ⟨q, hq, hor⟩ := H.obj j hl
 rw [hp] at hq; cases hq
 rw [hj] at hor
 obtain ⟨rc, fz, g1, g2, g3, g4, g5, g6, g7⟩ := hor
 have ha : 0 < n → a = p.addr o := fun hn => iJ h3 h4 h5 (by omega)
 obtain ⟨os, E⟩ := Rr (P := P) H hp hj (nn := n) (cc := cap) ha hb
 have hrel : cL φ (bI (n * i.size) c o ++ new) (os ++ ns) := E.rel.append S.rel
 have hone : ∀ c, c ∈ os ++ ns → c.oneCell' = true := fun c hc => (List.mem_append.1 hc).elim (E.one c) (S.one c)
 have hlen : (os ++ ns).length = (n + m) * i.size := by rw [List.length_append, E.size, S.size, Nat.add_mul]
 change ag h.next (cM j .dead h) = .none at hn
 have hnx : ag h.next h = .none := by
  rw [aF] at hn
  by_cases e' : h.next = j
  ·rw [if_pos e'] at hn; cases hn
  ·rwa [if_neg e'] at hn
 have hφ := H.fresh _ hnx
 by_cases hin : n + m ≤ cap
 ·have ha' : a = p.addr o := iJ h3 h4 h5 (by omega)
  have hcap : (n + m) * i.size ≤ cap * i.size := Nat.mul_le_mul_right _ hin
  have hsum := Nat.add_mul n m i.size
  have hnsl := S.size
  obtain ⟨w', r1, r2, r3, r4, r5, r6, r7⟩ := oQ (P := P) (b := p.da) (base := p.base + (o + n * i.size)) ns w rc e fz 0 g1 (by omega) (vN hf g7) S.one
  have hst : (storeCells (a.add (n * i.size)) ns).run P w = .ok () w' := by rw [ha', cX]; exact r1
  rw [dk (P := P) (ty := ty) ht hi S hin (w' := w') (fun b hb => by cases hb; exact hst) (by simp)]
  obtain ⟨k1, k2⟩ := H.mr (n' := h.next.succ) hp (nY hj hf) hn (q := ⟨p.da, p.base + o, p.room - o⟩) (w' := w') (.inl rfl) (o := .cells e ((n + m) * i.size) false fl c') aV (by omega) (by rw [r3]; exact H.bound j p hp) (fun b _ hb => r4 b hb)
   (by
    refine ⟨_, fz, r2, by rw [qZ]; simp only; omega, by simp only; omega, by simp, hr, fun x hx => ?_, by rw [qZ]; exact g7⟩
    have hx' : x < (os ++ ns).length := by rw [hlen]; exact hx
    refine ⟨(os ++ ns)[x], ?_, ?_, hone _ (List.getElem_mem _)⟩
    ·rw [Aw _ _ _ _ (by omega)]
     have hosl := E.size
     by_cases hxo : x < os.length
     ·rw [dif_neg (by simp only; omega), List.getElem_append_left hxo]
      have := E.cells w rfl
      rw [ha'] at this
      obtain ⟨l, v1, v2, v3, v4⟩ := H.values hj hp _ o hb
      have hrun := run_loadCells (P := P) v1 v4
      simp only [Builtin.firstCells] at this
      rw [hrun] at this
      have hol : l = os := by simpa using this
      subst hol
      have := v4 x hxo
      rw [cX, wJ g1] at this
      rw [← Nat.add_assoc] at this
      exact this
     ·simp only
      rw [dif_pos (by omega), List.getElem_append_right (by omega)]
      congr 2
      omega
    ·rw [hcg x (by rw [hrel.length]; exact hx')]
     exact (hrel.get x (by rw [hrel.length]; exact hx') hx').mono (aI.iD _ hφ)) r5 r6 r7
  refine ⟨_, w', _, rfl, ?_, k1, k2⟩
  refine .fq _ 0 (n + m) i.size cap ⟨p.da, p.base + o, p.room - o⟩ a (aI.aJ _ _ _) (by simp only; omega) hin h3 h4 (fun hc => ?_) hes
  have := h5 hc
  simpa using this
 ·have hnm : n + m ≤ 16777216 := by
   have : (n + m) * 1 ≤ (n + m) * i.size := Nat.mul_le_mul_left _ hes
   omega
  have hbb : (n + m) * i.bytes ≤ 140737488355328 := by
   have : (n + m) * i.bytes ≤ 16777216 * 1048576 := Nat.mul_le_mul hnm hby
   omega
  rw [mC (P := P) (ty := ty) ht hi hz S hin E.cells hbb (by omega)]
  have hcap := Ax w (n + m) cap e
  have hsz : (os.toArray ++ ns.toArray ++ Builtin.zeroCells zv.cells (dT w (n + m) cap e - (n + m))).size = dT w (n + m) cap e * i.size := by
   rw [Array.size_append, Array.size_append, mD, hzs]
   simp only [List.size_toArray]
   rw [E.size, S.size, ← Nat.add_mul, ← Nat.add_mul]
   congr 1; omega
  have hheap : (grown w (os.toArray ++ ns.toArray ++ Builtin.zeroCells zv.cells (dT w (n + m) cap e - (n + m))) e).heap = w.heap.push (.cells (os.toArray ++ ns.toArray ++ Builtin.zeroCells zv.cells (dT w (n + m) cap e - (n + m))) e) := rfl
  obtain ⟨k1, k2⟩ := H.mr (n' := h.next.succ) hp (nY hj hf) hn (q := ⟨w.heap.size, 0, dT w (n + m) cap e * i.size⟩) (w' := grown w (os.toArray ++ ns.toArray ++ Builtin.zeroCells zv.cells (dT w (n + m) cap e - (n + m))) e) (.inr rfl)
   (o := .cells e ((n + m) * i.size) false fl c') aV (by rw [hheap]; simp) (by rw [hheap]; simp) (fun b hb _ => by rw [hheap, Array.getElem?_push, if_neg (by omega)])
   (by
    refine ⟨os.toArray ++ ns.toArray ++ Builtin.zeroCells zv.cells (dT w (n + m) cap e - (n + m)), (0, 0), by rw [hheap]; simp, by simp only [Nat.zero_add]; exact hsz.symm, Nat.mul_le_mul_right _ hcap, by simp, hr, fun x hx => ?_, Gh⟩
    have hx' : x < (os ++ ns).length := by rw [hlen]; exact hx
    refine ⟨(os ++ ns)[x], ?_, ?_, hone _ (List.getElem_mem _)⟩
    ·simp only [Nat.zero_add]
     rw [Array.getElem?_append_left (by simpa using hx'), List.append_toArray]
     simp only [List.getElem?_toArray]
     exact List.getElem?_eq_getElem hx'
    ·rw [hcg x (by rw [hrel.length]; exact hx')]
     exact (hrel.get x (by rw [hrel.length]; exact hx') hx').mono (aI.iD _ hφ)) rfl rfl rfl
  refine ⟨_, _, _, rfl, ?_, k1, k2⟩
  exact .fq _ 0 (n + m) i.size (dT w (n + m) cap e) ⟨w.heap.size, 0, _⟩ ⟨w.heap.size, 0, none⟩ (aI.aJ _ _ _) (by simp) hcap rfl rfl (fun _ => rfl) hes
variable {P : Program} {φ : aI} {h h' : Hp} {w : World} {v : AV} {x y z : AO} {r : A2} {cx cy : Value}
theorem Ay (l new : List AV) {c : Cl} (hl : l.length + new.length ≤ bz (cG new l.length (kZ (l.length + new.length) c))) (hr : l.length ≤ bz c) (hc : ∀ k (hk : k < l.length), eO k c = l[k]) (x : Nat) (hx : x < (l ++ new).length) :
  eO x (cG new l.length (kZ (l.length + new.length) c)) = (l ++ new)[x] := by
 rw [fh] at hl
 have hx' : x < l.length + new.length := by simpa using hx
 rw [ll _ _ _ _ (by omega) hl]
 by_cases h1 : x < l.length
 ·rw [dif_neg (by omega), Gb _ _ _ (by omega), hc x h1, List.getElem_append_left h1]
 ·rw [dif_pos (by omega), List.getElem_append_right (by omega)]
theorem Cm {t u ty e : TypeId} {i : TypeInfo} {zv : Value} (H : HR φ h w) (ht : P.underlying t = some (.slice e)) (hi : P.info? e = some i) (hz : i.zero = some zv) (hzs : zv.cells.size = i.size) (hby : i.bytes ≤ 1048576) (hes : 0 < i.size)
  {m : Nat} {new : List AV} {ns : List Value} (S : Src P φ w e u i.size m new cy ns) (hm : 0 < m) {j : P4} {o n : Nat} {cs : Value} (hs : VR φ (.fq j o n i.size) cs) (he : Jc e i.size m new j o n h = .ok v h') :
  Good φ h w v h' ((Builtin.append_ #[t, u] ty #[cs, cy]).run P w) := by
 obtain ⟨el, k, ex, fl, c, hj, he⟩ := aX he
 obtain ⟨hf, he⟩ := az he
 have hl : live (ag j h) := hj ▸ aV
 rcases fx he with ⟨hb, he⟩ | ⟨hb, he⟩
 ·obtain ⟨hb1, he⟩ := az he
  have hb1 : o + n * i.size ≤ k := Nat.le_of_ble_eq_true hb1
  have hlen : (bI (n * i.size) c o ++ new).length = (n + m) * i.size := by
   rw [List.length_append, cD, S.rel.length, S.size, Nat.add_mul]
  have hkr : k ≤ bz c := by
   obtain ⟨q, hq, hor⟩ := H.obj j hl
   rw [hj] at hor
   obtain ⟨rc, fz, g1, g2, g3, g4, g5, g6, g7⟩ := hor
   exact g5
  rcases fx he with ⟨hx, he2⟩ | ⟨_, he2⟩
  ·have hx : (ex || !Nat.beq e el) = false := hx
   have hex : ex = false := by cases ex <;> simp_all
   have hel : e = el := by
    cases hbe : Nat.beq e el
    ·simp [hbe] at hx
    ·exact Nat.eq_of_beq_eq_true hbe
   subst hex hel
   rcases fx he2 with ⟨_, he3⟩ | ⟨h0, he3⟩
   ·refine uN H ht hi hz hzs hby hes S hm hs hj hf hb1 (fun hr x hx => ?_) he3
    refine eB _ ?_ x hx
    show (bI (n * i.size) c o ++ new).length ≤ _
    rw [hlen]; exact hr
   ·obtain ⟨h1, h2⟩ := Bool.and_eq_true_iff.1 h0
    have h1 : o = 0 := Nat.eq_of_beq_eq_true h1
    have h2 : n * i.size = k := Nat.eq_of_beq_eq_true h2
    subst h1 h2
    refine uN H ht hi hz hzs hby hes S hm hs hj hf hb1 (fun hr x hx => ?_) he3
    have hsz : (n + m) * i.size = (bI (n * i.size) c 0).length + new.length := by rw [cD, S.rel.length, S.size, Nat.add_mul]
    have hlc : n * i.size = (bI (n * i.size) c 0).length := (cD _ _ _).symm
    have hr' : (bI (n * i.size) c 0).length + new.length ≤ bz (cG new (bI (n * i.size) c 0).length (kZ ((bI (n * i.size) c 0).length + new.length) c)) := by
     rw [← hsz, ← hlc]; exact hr
    have := Ay (bI (n * i.size) c 0) new (c := c) hr' (by rw [← hlc]; exact hkr) (fun k hk => by rw [nX, Nat.zero_add]) x hx
    rw [← this, ← hsz, ← hlc]
    rfl
  ·cases he2
 ·have hb : o + (n + m) * i.size ≤ k := Nat.le_of_ble_eq_true hb
  obtain ⟨rfl, rfl⟩ := RV.ak he
  cases hs with
  | fq _ _ _ _ cap p a hp h1 h2 h3 h4 h5 h6 =>
  have hkr : k ≤ p.room := by
   obtain ⟨q, hq, hor⟩ := H.obj j hl
   rw [hp] at hq; cases hq
   rw [hj] at hor
   obtain ⟨rc, fz, g1, g2, g3, g4, g5, g6, g7⟩ := hor
   exact g3
  have hin : n + m ≤ cap := by
   have : (n + m) * i.size ≤ cap * i.size := by omega
   exact Nat.le_of_mul_le_mul_right this hes
  have ha : a = p.addr o := iJ h3 h4 h5 (by omega)
  have hsum := Nat.add_mul n m i.size
  obtain ⟨w', r1, r2, r3⟩ := lq (P := P) H hp hj hf S.rel S.one (o := o + n * i.size) (by rw [S.rel.length, S.size]; omega)
  rw [dk (P := P) (ty := ty) ht hi S hin (w' := w') (fun b hb => by cases hb; rw [ha, cX]; exact r1) (by simp)]
  exact ⟨_, w', φ, rfl, .fq _ _ _ _ cap p a hp h1 hin h3 h4 h5 h6, r2, r3⟩
theorem qE {t u ty e : TypeId} {i : TypeInfo} {zv : Value} (H : HR φ h w) (ht : P.underlying t = some (.slice e)) (hi : P.info? e = some i) (hz : i.zero = some zv) (hzs : zv.cells.size = i.size) (hby : i.bytes ≤ 1048576) (hes : 0 < i.size)
  {m : Nat} {new : List AV} {ns : List Value} (S : Src P φ w e u i.size m new cy ns) {s : AV} {cs : Value} (hs : VR φ s cs) (he : lN e i.size m new s h = .ok v h') :
  Good φ h w v h' ((Builtin.append_ #[t, u] ty #[cs, cy]).run P w) := by
 have hns0 : m = 0 → ns = [] := fun hm => by have := S.size; rw [hm, Nat.zero_mul] at this; exact List.length_eq_zero_iff.1 this
 rcases dW he with ⟨j, o, n, cap, rfl, he⟩ | ⟨j, o, n, es', rfl, he⟩ | ⟨rfl, he⟩
 ·rcases fx he with ⟨hb, he2⟩ | ⟨hb, he2⟩
  ·have hin : ¬ n + m ≤ cap := fun hle => by have := Nat.ble_eq_true_of_le hle; rw [show (n + m).ble cap = (n.add m).ble cap from rfl, hb] at this; cases this
   cases hs with
   | gN _ _ _ => exact lr H ht hi hz hzs hby hes S (n := 0) (c := 0) hin (Bp.none i.size) he2
   | slice _ _ _ _ p hp =>
   obtain ⟨old, os, he3, E, _⟩ := oS (P := P) (nn := n) (c := cap) H hp (a := p.addr o) (fun _ => rfl) he2
   exact lr H ht hi hz hzs hby hes S hin E he3
  ·have hin : n + m ≤ cap := Nat.le_of_ble_eq_true hb
   cases hs with
   | gN _ _ a0 =>
    rcases fX he2 with ⟨rfl, he3⟩ | ⟨m, rfl, he3⟩
    ·obtain ⟨rfl, rfl⟩ := RV.ak he3
     rw [dk (P := P) (ty := ty) ht hi S hin (w' := w) (fun b _ => by rw [hns0 rfl]; rfl) (fun _ => rfl)]
     exact .same H (.gN _ _ _) rfl
    ·omega
   | slice _ _ _ _ p hp =>
   rcases fX he2 with ⟨rfl, he3⟩ | ⟨m, rfl, he3⟩
   ·obtain ⟨rfl, rfl⟩ := RV.ak he3
    rw [dk (P := P) (ty := ty) ht hi S hin (w' := w) (fun b _ => by rw [hns0 rfl]; rfl) (fun _ => rfl)]
    exact .same H (.slice _ _ _ _ p hp) rfl
   ·obtain ⟨el, k, ex, fl, c, hj, hf, hb, he4⟩ := oT he3
    obtain ⟨rfl, rfl⟩ := RV.ak he4
    obtain ⟨w', r1, r2, r3⟩ := lq (P := P) H hp hj hf S.rel S.one (o := o + n * i.size) hb
    rw [dk (P := P) (ty := ty) ht hi S hin (w' := w') (fun b hb => by cases hb; rw [cX]; exact r1) (by simp)]
    exact ⟨_, w', φ, rfl, .slice _ _ _ _ p hp, r2, r3⟩
 ·obtain ⟨hes', he2⟩ := az he
  have hes' : i.size = es' := Nat.eq_of_beq_eq_true hes'
  subst hes'
  rcases fX he2 with ⟨h0, he3⟩ | ⟨m, h0, he3⟩
  ·obtain ⟨rfl, rfl⟩ := RV.ak he3
   cases hs with
   | fq _ _ _ _ cap p a hp h1 h2 h3 h4 h5 h6 =>
   subst h0
   rw [dk (P := P) (ty := ty) ht hi S h2 (w' := w) (fun b _ => by rw [hns0 rfl]; rfl) (fun _ => rfl)]
   exact .same H (.fq _ _ _ _ cap p a hp h1 h2 h3 h4 h5 h6) rfl
  ·subst h0
   exact Cm H ht hi hz hzs hby hes S (by omega) hs he3
 ·cases hs
  rcases fX he with ⟨rfl, he⟩ | ⟨m, rfl, he⟩
  ·obtain ⟨rfl, rfl⟩ := RV.ak he
   rw [dk (P := P) (ty := ty) ht hi S (Nat.le_refl 0) (w' := w) (by simp) (fun _ => rfl)]
   exact .same H .ar rfl
  ·exact lr H ht hi hz hzs hby hes S (n := 0) (c := 0) (by omega) (Bp.none i.size) he
theorem mY {e : TypeId} (hg : jE P e = true) : ∃ i zv, P.info? e = some i ∧ i.zero = some zv ∧ zv.cells.size = i.size ∧ i.bytes ≤ 1048576 := by
 unfold jE at hg
 split at hg
 ·rename_i i hi
  simp only [Bool.and_eq_true] at hg
  obtain ⟨h1, h2⟩ := hg
  split at h1
  ·rename_i zv hz
   exact ⟨i, zv, hi, hz, by simpa using h1, Nat.le_of_ble_eq_true h2⟩
  ·cases h1
 ·cases hg
theorem Hk {t u ty e f : TypeId} (H : HR φ h w) (hx : VR φ (ev x r) cx) (hy : VR φ (ev y r) cy) (ht : P.underlying t = some (.slice e)) (hu : P.underlying u = some (.slice f)) (hg : jE P e = true) (hes : bp P e ≠ 0)
  (he : wm e (bp P e) x y r h = .ok v h') : Good φ h w v h' ((Builtin.append_ #[t, u] ty #[cx, cy]).run P w) := by
 obtain ⟨i, zv, hi, hz, hzs, hby⟩ := mY hg
 rw [cR hi] at hes he
 unfold wm lj at he
 obtain ⟨m, base, c, rfl, he⟩ := pP hy he
 obtain ⟨hm, he⟩ := az he
 obtain ⟨b, n, c, new, ns, hcy, he, E⟩ := uM (P := P) H hy he
 cases hcy
 exact qE H ht hi hz hzs hby (by omega) (E.src hu) hx he
theorem gl (φ : aI) : ∀ (s : List UInt8), cL φ (byteCells (s.map UInt8.toNat)) (s.map fun b => Value.int .u8 b.toNat) ∧ ∀ c, c ∈ (s.map fun b => Value.int .u8 b.toNat) → c.oneCell' = true
 | [] => ⟨.nil, by simp⟩
 | b :: s => by
  obtain ⟨h1, h2⟩ := gl φ s
  refine ⟨.cons _ _ _ _ (.int _ _) h1, ?_⟩
  intro c hc
  simp only [List.map_cons, List.mem_cons] at hc
  rcases hc with rfl | hc
  ·rfl
  ·exact h2 c hc
theorem Fm {t u ty e : TypeId} (H : HR φ h w) (hx : VR φ (ev x r) cx) (hy : VR φ (ev y r) cy) (ht : P.underlying t = some (.slice e)) (hu : P.underlying u = some .string) (hg : jE P e = true) (hes : bp P e = 1)
  (he : me e x y r h = .ok v h') : Good φ h w v h' ((Builtin.append_ #[t, u] ty #[cx, cy]).run P w) := by
 obtain ⟨i, zv, hi, hz, hzs, hby⟩ := mY hg
 rw [cR hi] at hes
 obtain ⟨l, el, he⟩ := cP he
 rw [el] at hy
 obtain ⟨s, rfl, rfl⟩ := hy.db
 obtain ⟨g1, g2⟩ := gl φ s.data.toList
 have S : Gg P φ w u i.size s.size (byteCells (s.data.toList.map UInt8.toNat)) (.string s) (s.data.toList.map fun b => Value.int .u8 b.toNat) := by
  refine ⟨⟨_, hu, by simp⟩, rfl, by rw [hes]; simp, g1, g2, fun w' _ => ?_⟩
  simp only [Builtin.firstCells]
  have : s.extract 0 s.size = s := by simp
  rw [this]
  simp only [Sem.run_pure]
  congr 1
  apply Array.ext'
  simp
 have hl : (List.map UInt8.toNat s.data.toList).length = s.size := by simp
 rw [hl, ← hes] at he
 exact qE H ht hi hz hzs hby (by omega) S.src hx he
variable {P : Program} {φ : aI} {h h' : Hp} {w : World} {v : AV} {x y z : AO} {r : A2} {cx cy : Value}
def Ho (φ : aI) (r : A2) (x : OA) (c : Option Value) : Prop := match x, c with
 | .none, none => True
 | .some x, some c => VR φ (ev x r) c
 | _, _ => False
def Sm (c : Option Value) (d b : Nat) : Prop := (c = none ∧ b = d) ∨ ∃ k, c = some (.int k b)
theorem di {x : OA} {d : Nat} {k : Nat → RV} {q : Nat} {c : Option Value} (hx : Ho φ r x c) (e : fM x d r k (.err q) = .ok v h) : ∃ b, Sm c d b ∧ k b = .ok v h := by
 cases x with
 | none =>
  cases c with
  | none => exact ⟨d, .inl ⟨rfl, rfl⟩, e⟩
  | some c => exact hx.elim
 | some x =>
  cases c with
  | none => exact hx.elim
  | some c =>
   obtain ⟨kd, m, em, e⟩ := dc (show eK (ev x r) k (.err q) = .ok v h from e)
   have hx : VR φ (ev x r) c := hx
   rw [em] at hx
   rw [hx.aW]
   exact ⟨m, .inr ⟨kd, rfl⟩, e⟩
theorem bq {k : IntKind} {b y : Nat} {code : BoundsCode} (h : b ≤ y) : (Instr.sliceBound (.int k b) y code).run P w = .ok b w := by
 simp only [Instr.sliceBound, asIntOf, Sem.run_bind, Sem.run_pure, Result.andThen_ok]
 rw [if_pos ⟨by omega, by omega⟩]
 simp
theorem cN {s : Bool} {len cap : Nat} {lo hi mx : Option Value} {a b m : Nat} (hm : Sm mx cap m) (hb : Sm hi len b) (ha : Sm lo 0 a) (hmh : mx.isSome = true → hi.isSome = true) (h1 : a ≤ b) (h2 : hi.isSome = true → b ≤ m) (h3 : m ≤ cap) :
  (Instr.sliceBounds s len cap lo hi mx).run P w = .ok (a, b, m) w := by
 unfold Instr.sliceBounds
 rcases hm with ⟨rfl, rfl⟩ | ⟨km, rfl⟩
 ·rcases hb with ⟨rfl, rfl⟩ | ⟨kb, rfl⟩
  ·rcases ha with ⟨rfl, rfl⟩ | ⟨ka, rfl⟩
   ·simp
   ·simp [bq h1]
  ·have hbm := h2 rfl
   rcases ha with ⟨rfl, rfl⟩ | ⟨ka, rfl⟩
   ·simp [bq hbm]
   ·simp [bq hbm, bq h1]
 ·rcases hb with ⟨rfl, rfl⟩ | ⟨kb, rfl⟩
  ·simp at hmh
  ·have hbm := h2 rfl
   rcases ha with ⟨rfl, rfl⟩ | ⟨ka, rfl⟩
   ·simp [bq h3, bq hbm]
   ·simp [bq h3, bq hbm, bq h1]
theorem run_slice_any {t e : TypeId} {i : TypeInfo} (ht : P.underlying t = some (.slice e)) (hi : P.info? e = some i) {base : Option Addr} {len cap : Nat} {lo hh mx : Option Value} {a b m : Nat}
  (hb : (Instr.sliceBounds true len cap lo hh mx).run P w = .ok (a, b, m) w) :
  (Instr.sliceAt t (.slice base len cap) lo hh mx).run P w = .ok (.slice (if m = a then base else base.map (·.add (a * i.size))) (b - a) (m - a)) w := by
 simp [Instr.sliceAt, Instr.slice, ai ht, aP hi, hb]
theorem Sm.int {c : Option Value} {d b : Nat} (hb : Sm c d b) (hc : c.isSome = true) : ∃ k, c = some (.int k b) := by
 rcases hb with ⟨rfl, _⟩ | h
 ·cases hc
 ·exact h
theorem cY {a b : Nat} (e : Nat.ble a b = true) : a ≤ b := Nat.le_of_ble_eq_true e
theorem Cn {x : OA} {c : Option Value} (hx : Ho φ r x c) : isSome x = c.isSome := by
 cases x <;> cases c <;> first | rfl | exact hx.elim
theorem HR.room (H : HR φ h w) {i : P4} {p : Place} (hp : φ i = some p) {el n : Nat} {ex : Bool} {fl : Fl} {c : Cl} (hi : ag i h = .cells el n ex fl c) : n ≤ p.room := by
 obtain ⟨q, hq, hor⟩ := H.obj i (hi ▸ aV)
 rw [hp] at hq; cases hq
 rw [hi] at hor
 obtain ⟨rc, fz, g1, g2, g3, g4, g5, g6, g7⟩ := hor
 exact g3
theorem HI {t e : TypeId} {i : TypeInfo} (H : HR φ h w) (hx : VR φ (ev x r) cx) {lo hi mx : OA} {clo chi cmx : Option Value} (hlo : Ho φ r lo clo) (hhi : Ho φ r hi chi) (hmx : Ho φ r mx cmx) (ht : P.underlying t = some (.slice e)) (hie : P.info? e = some i) (hes : 0 < i.size)
  (hmh : cmx.isSome = true → chi.isSome = true) (he : fN i.size x lo hi mx r h = .ok v h') : Good φ h w v h' ((Instr.sliceAt t cx clo chi cmx).run P w) := by
 rcases dW he with ⟨j, o, n, cap, es, he⟩ | ⟨j, o, n, es', es, he⟩ | ⟨es, he⟩
 ·obtain ⟨m, hm, he⟩ := di hmx he
  obtain ⟨b, hb, he⟩ := di hhi he
  obtain ⟨a, ha, he⟩ := di hlo he
  obtain ⟨h1, he⟩ := az he
  obtain ⟨h2, he⟩ := az he
  obtain ⟨h3, he⟩ := az he
  obtain ⟨rfl, rfl⟩ := RV.ak he
  rw [es] at hx
  cases hx with
  | gN _ _ a0 =>
   have l1 := cY h1
   have l2 := cY h2
   have l3 := cY h3
   obtain rfl : m = 0 := by omega
   obtain rfl : b = 0 := by omega
   obtain rfl : a = 0 := by omega
   rw [run_slice_any ht hie (cN hm hb ha hmh (cY h1) (fun _ => cY h2) (cY h3))]
   exact .same H (.gN _ _ _) (by rw [if_pos rfl])
  | slice _ _ _ _ p hp =>
  rw [run_slice_any ht hie (cN hm hb ha hmh (cY h1) (fun _ => cY h2) (cY h3))]
  by_cases hma : m = a
  ·subst hma
   refine .same H ?_ (by rw [if_pos rfl])
   have : Nat.beq m m = true := Nat.beq_refl m
   rw [this]
   exact .slice _ _ _ _ p hp
  ·refine .same H ?_ (by rw [if_neg hma])
   have : Nat.beq m a = false := by
    cases hb : Nat.beq m a
    ·rfl
    ·exact absurd (Nat.eq_of_beq_eq_true hb) hma
   rw [this]
   show VR φ (.slice j (o + a * i.size) (b - a) (m - a)) _
   simp only [Option.map_some, cX]
   exact .slice _ _ _ _ p hp
 ·obtain ⟨hes', he2⟩ := az he
  have hes' : i.size = es' := Nat.eq_of_beq_eq_true hes'
  clear he
  subst hes'
  obtain ⟨b, hb, he3⟩ := di hhi he2
  obtain ⟨a, ha, he4⟩ := di hlo he3
  rw [es] at hx
  cases hx with
  | fq _ _ _ _ cap p ad hp h1 h2 h3 h4 h5 h6 =>
  have hs := Cn hmx
  rcases fx he4 with ⟨hn, he5⟩ | ⟨hn, he5⟩
  ·obtain ⟨hab, he6⟩ := az he5
   obtain ⟨el, k, ex, fl, c, hj, he7⟩ := aX he6
   obtain ⟨hbk, he8⟩ := az he7
   obtain ⟨rfl, rfl⟩ := RV.ak he8
   have hab := cY hab
   have hbk : o + b * i.size ≤ k := cY hbk
   have hroom := H.room hp hj
   have hcap : b ≤ cap := Nat.le_of_mul_le_mul_right (show b * i.size ≤ cap * i.size by omega) hes
   have hnone : cmx = none := by
    rw [hn] at hs; cases cmx
    ·rfl
    ·cases hs
   subst hnone
   rw [run_slice_any ht hie (cN (.inl ⟨rfl, rfl⟩) hb ha (by simp) hab (fun _ => hcap) (Nat.le_refl _))]
   refine .same H ?_ rfl
   have hsub : (cap - a) * i.size = cap * i.size - a * i.size := Nat.sub_mul _ _ _
   have hle : a * i.size ≤ cap * i.size := Nat.mul_le_mul_right _ (by omega)
   by_cases hca : cap = a
   ·rw [if_pos hca]
    exact .fq j (o + a * i.size) (b - a) i.size (cap - a) p ad hp (by omega) (by omega) h3 h4 (fun hc => absurd (by omega : cap - a = 0) hc) h6
   ·rw [if_neg hca, iJ h3 h4 h5 (by omega)]
    simp only [Option.map_some, cX]
    exact .fq j (o + a * i.size) (b - a) i.size (cap - a) p (p.addr (o + a * i.size)) hp (by omega) (by omega) rfl rfl (fun _ => rfl) h6
  ·obtain ⟨m, hm, he6⟩ := di hmx he5
   obtain ⟨hab, he7⟩ := az he6
   obtain ⟨hbm, he8⟩ := az he7
   obtain ⟨el, k, ex, fl, c, hj, he9⟩ := aX he8
   obtain ⟨hbk, he10⟩ := az he9
   obtain ⟨rfl, rfl⟩ := RV.ak he10
   have hab := cY hab
   obtain ⟨hm1, hbm⟩ := Bool.and_eq_true_iff.1 hbm
   have hbm := cY hbm
   have hm1 := cY hm1
   have hbk : o + m * i.size ≤ k := cY hbk
   have hroom := H.room hp hj
   have hcap : m ≤ cap := Nat.le_of_mul_le_mul_right (show m * i.size ≤ cap * i.size by omega) hes
   have hsome : cmx.isSome = true := by rw [← hs]; exact hn
   obtain ⟨km, rfl⟩ := hm.int hsome
   rw [run_slice_any ht hie (cN (.inr ⟨km, rfl⟩) hb ha hmh hab (fun _ => hbm) hcap)]
   have had := iJ h3 h4 h5 (by omega)
   subst had
   by_cases hma : m = a
   ·subst hma
    refine .same H ?_ (by rw [if_pos rfl])
    have : Nat.beq m m = true := Nat.beq_refl m
    rw [this]
    exact .slice _ _ _ _ p hp
   ·refine .same H ?_ (by rw [if_neg hma])
    have : Nat.beq m a = false := by
     cases hb : Nat.beq m a
     ·rfl
     ·exact absurd (Nat.eq_of_beq_eq_true hb) hma
    rw [this]
    show VR φ (.slice j (o + a * i.size) (b - a) (m - a)) _
    simp only [Option.map_some, cX]
    exact .slice _ _ _ _ p hp
 ·obtain ⟨m, hm, he⟩ := di hmx he
  obtain ⟨b, hb, he⟩ := di hhi he
  obtain ⟨a, ha, he⟩ := di hlo he
  obtain ⟨h1, he⟩ := az he
  obtain ⟨rfl, rfl⟩ := RV.ak he
  rw [es] at hx
  cases hx
  have h0 : m + (a + b) = 0 := Nat.eq_of_beq_eq_true h1
  have hm0 : m = 0 := by omega
  have ha0 : a = 0 := by omega
  have hb0 : b = 0 := by omega
  subst hm0 ha0 hb0
  rw [run_slice_any ht hie (cN hm hb ha hmh (Nat.le_refl _) (fun _ => Nat.le_refl _) (Nat.le_refl _))]
  exact .same H .ar (by simp)
theorem Fw {t e : TypeId} {i : TypeInfo} {n : Nat} (H : HR φ h w) (hx : VR φ (ev x r) cx) {lo hi mx : OA} {clo chi cmx : Option Value} (hlo : Ho φ r lo clo) (hhi : Ho φ r hi chi) (hmx : Ho φ r mx cmx) (ht : P.underlying t = some (.array n e)) (hie : P.info? e = some i)
  (hmh : cmx.isSome = true → chi.isSome = true) (he : qJ n i.size x lo hi mx r h = .ok v h') : Good φ h w v h' ((Instr.sliceAt t cx clo chi cmx).run P w) := by
 obtain ⟨j, o, es, he⟩ := cQ he
 obtain ⟨m, hm, he⟩ := di hmx he
 obtain ⟨b, hb, he⟩ := di hhi he
 obtain ⟨a, ha, he⟩ := di hlo he
 obtain ⟨h1, he⟩ := az he
 obtain ⟨h2, he⟩ := az he
 obtain ⟨h3, he⟩ := az he
 obtain ⟨rfl, rfl⟩ := RV.ak he
 rw [es] at hx
 obtain ⟨p, hp, rfl⟩ := hx.fG
 have hbd := cN (P := P) (w := w) (s := false) hm hb ha hmh (cY h1) (fun _ => cY h2) (cY h3)
 have hrun : (Instr.sliceAt t (.pointer (some (p.addr o))) clo chi cmx).run P w = .ok (.slice (some (if m = a then p.addr o else (p.addr o).add (a * i.size))) (b - a) (m - a)) w := by
  simp [Instr.sliceAt, ai ht, aP hie, Instr.sureAddr, hbd]
 rw [hrun]
 by_cases hma : m = a
 ·subst hma
  refine .same H ?_ (by rw [if_pos rfl])
  have : Nat.beq m m = true := Nat.beq_refl m
  rw [this]
  exact .slice _ _ _ _ p hp
 ·refine .same H ?_ (by rw [if_neg hma])
  have : Nat.beq m a = false := by
   cases hb : Nat.beq m a
   ·rfl
   ·exact absurd (Nat.eq_of_beq_eq_true hb) hma
  rw [this]
  show VR φ (.slice j (o + a * i.size) (b - a) (m - a)) _
  rw [cX]
  exact .slice _ _ _ _ p hp
theorem Fv {t : TypeId} (H : HR φ h w) (hx : VR φ (ev x r) cx) {lo hi : OA} {clo chi : Option Value} (hlo : Ho φ r lo clo) (hhi : Ho φ r hi chi) (ht : P.underlying t = some .string)
  (he : gM x lo hi r h = .ok v h') : Good φ h w v h' ((Instr.sliceAt t cx clo chi none).run P w) := by
 obtain ⟨s, es, he⟩ := cP he
 obtain ⟨b, hb, he⟩ := di hhi he
 obtain ⟨a, ha, he⟩ := di hlo he
 obtain ⟨h1, he⟩ := az he
 obtain ⟨h2, he⟩ := az he
 obtain ⟨rfl, rfl⟩ := RV.ak he
 rw [es] at hx
 obtain ⟨s, rfl, rfl⟩ := hx.db
 have hl : (List.map UInt8.toNat s.data.toList).length = s.size := by simp
 rw [hl] at hb h2
 have hbd := cN (P := P) (w := w) (s := false) (mx := none) (.inl ⟨rfl, rfl⟩) hb ha (by simp) (cY h1) (fun _ => cY h2) (Nat.le_refl _)
 refine .same H (cv := .string (s.extract a b)) (.str _ _ ?_) ?_
 ·show List.take (b - a) (List.drop a (List.map UInt8.toNat s.data.toList)) = _
  rw [ByteArray.data_extract, Array.toList_extract, List.extract_eq_take_drop, List.map_take, List.map_drop]
 ·simp [Instr.sliceAt, Instr.slice, ai ht, hbd]
variable {P : Program} {φ : aI} {h h' : Hp} {w : World} {v : AV} {x y z : AO} {r : A2} {cx cy : Value}
theorem pQ (a : AV) (l : List AV) (k : List Nat → RV) (e : RV) : eQ (a :: l) k e = AV.dC a (fun kd n => @Bool.rec (fun _ => RV) e (@Int.rec (fun _ => RV) (fun m => @Bool.rec (fun _ => RV) e (eQ l (fun s => k (m :: s)) e) (Nat.ble m 255)) (fun _ => e) n) (SY kd)) e := rfl
theorem fS : ∀ {l : List AV} {k : List Nat → RV} {q : Nat}, eQ l k (.err q) = .ok v h → ∃ bs : List UInt8, l = byteCells (bs.map UInt8.toNat) ∧ k (bs.map UInt8.toNat) = .ok v h
 | [], k, q, e => ⟨[], rfl, e⟩
 | a :: l, k, q, e => by
  rw [pQ] at e
  obtain ⟨kd, n, rfl, e⟩ := bD e
  obtain ⟨hk, e⟩ := az e
  have hk : kd = .u8 := by cases kd <;> first | rfl | cases hk
  subst hk
  cases n with
  | negSucc m => cases e
  | ofNat m =>
   obtain ⟨hm, e⟩ := az e
   have hm := cY hm
   obtain ⟨bs, rfl, e2⟩ := fS (l := l) (k := fun s => k (m :: s)) (q := q) e
   have hmm : (UInt8.ofNat m).toNat = m := by simp; omega
   refine ⟨UInt8.ofNat m :: bs, ?_, ?_⟩
   ·simp only [List.map_cons, hmm]; rfl
   ·simp only [List.map_cons, hmm]; exact e2
theorem nO {bs : List UInt8} {ns : List Value} (hv : cL φ (byteCells (bs.map UInt8.toNat)) ns) : ns = bs.map fun b => Value.int .u8 b.toNat := by
 induction bs generalizing ns with
 | nil => cases hv; rfl
 | cons b bs ih =>
  cases hv with
  | cons _ c _ cs h1 h2 => rw [h1.aW, ih h2]; rfl
theorem Hc {a : AV} (H : HR φ h w) (hx : VR φ a cx) {s d e : TypeId} (hs : P.underlying s = some (.slice e)) (he : P.underlying e = some (.int .u8)) (hd : P.underlying d = some .string) (ho : IE a h = .ok v h') :
  Good φ h w v h' ((convert s d cx).run P w) := by
 obtain ⟨b, n, c, new, ns, rfl, ho, E⟩ := uM (P := P) H hx ho
 obtain ⟨bs, rfl, ho2⟩ := fS ho
 obtain ⟨rfl, rfl⟩ := RV.ak ho2
 have hns := nO E.rel
 subst hns
 have hn : bs.length = n := by simpa using E.size
 refine .same H (cv := .string ⟨bs.toArray⟩) (.str _ _ (by simp)) ?_
 rw [run_convert_bytes_string w s d e b n c hs he hd]
 have hc := E.cells w rfl
 cases b with
 | none =>
  simp only [Builtin.firstCells, Sem.run_pure] at hc
  have : bs = [] := by
   have := (Result.ok.inj hc).1
   cases bs
   ·rfl
   ·simp at this
  subst this
  rfl
 | some a =>
  simp only [Builtin.firstCells, Nat.mul_one] at hc
  have hc' : (loadCells a n).run P w = .ok ((bs.map fun b => (b.toNat : Int)).map (Value.int .u8)).toArray w := by
   rw [hc, List.map_map]; rfl
  rw [run_bytesToString w a n c _ hc', foldl_push_byteCells]
  simp
theorem Hb {a : AV} (H : HR φ h w) (hx : VR φ a cx) {s d e : TypeId} (hs : P.underlying s = some .string) (he : P.underlying e = some (.int .u8)) (hd : P.underlying d = some (.slice e)) (ho : Pj e a h = .ok v h') :
  Good φ h w v h' ((convert s d cx).run P w) := by
 obtain ⟨l, rfl, ho⟩ := cP ho
 obtain ⟨b, rfl, rfl⟩ := hx.db
 obtain ⟨hr, hn, ho⟩ := jt ho
 obtain ⟨rfl, rfl⟩ := RV.ak ho
 rw [run_bytes_of_string w s d e b hs hd he]
 obtain ⟨g1, g2⟩ := gl φ b.data.toList
 have hl : (byteCells (b.data.toList.map UInt8.toNat)).length = b.size := by rw [g1.length]; simp
 have hcap : b.size ≤ grownCap w b.size 0 e := by simp [grownCap, Question.cut]
 have hsz : (bytesRow b (grownCap w b.size 0 e)).size = grownCap w b.size 0 e := by simp [bytesRow]; omega
 generalize hrow : bytesRow b (grownCap w b.size 0 e) = row at hsz ⊢
 generalize hcp : grownCap w b.size 0 e = cp at *
 have hfl : Gc .mark (row.size, row.size + 1) row.size := by intro k hk; simp; omega
 obtain ⟨k1, k2⟩ := H.pM (n' := h.next.succ) (w' := w.drew.alloc (.cells row e (row.size, row.size + 1))) hn (rc := row) (el := e) (n := (byteCells (b.data.toList.map UInt8.toNat)).length) (ex := false) (fl := .mark) (fz := (row.size, row.size + 1))
  (c := ox (byteCells (b.data.toList.map UInt8.toNat))) (by rw [hl, hsz]; exact hcap) (by simp) hr (fun k hk => by
   have hk' : k < (b.data.toList.map fun b => Value.int .u8 b.toNat).length := by rw [← g1.length]; exact hk
   refine ⟨(b.data.toList.map fun b => Value.int .u8 b.toNat)[k], ?_, ?_, g2 _ (List.getElem_mem _)⟩
   ·rw [← hrow, bytesRow, Array.getElem?_append_left (by simpa using hk')]
    simp only [List.length_map, Array.length_toList] at hk'
    rw [Array.getElem?_map, Array.getElem?_eq_getElem hk']
    simp
   ·rw [eB _ hr k hk]; exact g1.get k hk hk') hfl rfl rfl rfl rfl
 refine ⟨_, _, _, rfl, ?_, k1, k2⟩
 have hll : (List.map UInt8.toNat b.data.toList).length = b.size := by simp
 rw [hll]
 exact .fq _ 0 b.size 1 cp ⟨w.heap.size, 0, _⟩ ⟨w.heap.size, 0, none⟩ (aI.aJ _ _ _) (by simp only; omega) hcap rfl rfl (fun _ => rfl) (by omega)
theorem uO (H : HR φ h w) {s : AV} {base : Option Addr} {n c : Nat} (hs : VR φ s (.slice base n c)) {l : List AV} {vs : List Value} (hl : cL φ l vs) (h1 : ∀ c, c ∈ vs → c.oneCell' = true) (hn : n = 0 → l = []) {k : Hp → RV} (e : rV l s h k = .ok v h') :
  ∃ w' h2, k h2 = .ok v h' ∧ (∀ a, base = some a → (storeCells a vs).run P w = .ok () w') ∧ (base = none → w' = w) ∧ HR φ h2 w' ∧ Step φ h w φ h2 w' := by
 cases hl with
 | nil => exact ⟨w, h, e, fun a _ => rfl, fun _ => rfl, H, .refl _ _ _⟩
 | cons a cv as cvs ha has =>
  have hn0 : n ≠ 0 := fun h0 => by cases hn h0
  have e : AV.ml s (fun i o _ _ => lh i o (a :: as) h k) (fun i o _ _ => lh i o (a :: as) h k) (RV.err 93) (RV.err 93) = RV.ok v h' := e
  rcases dW e with ⟨i, o, l, c, rfl, e2⟩ | ⟨i, o, l, c, rfl, e2⟩ | ⟨rfl, e2⟩
  ·obtain ⟨el, k', ex, fl, c, hj, hf, hb, e3⟩ := oT e2
   cases hs with
   | gN _ _ _ => exact absurd rfl hn0
   | slice _ _ _ _ p hp =>
   obtain ⟨w', r1, r2, r3⟩ := lq (P := P) H hp hj hf (.cons a cv as cvs ha has) h1 (o := o) hb
   exact ⟨w', _, e3, fun b hb => by cases hb; exact r1, by simp, r2, r3⟩
  ·obtain ⟨el, k', ex, fl, c, hj, hf, hb, e3⟩ := oT e2
   cases hs with
   | fq _ _ _ _ cap p ad hp g1 g2 g3 g4 g5 g6 =>
   obtain ⟨w', r1, r2, r3⟩ := lq (P := P) H hp hj hf (.cons a cv as cvs ha has) h1 (o := o) hb
   exact ⟨w', _, e3, fun b hb => by cases hb; rw [iJ g3 g4 g5 (by omega)]; exact r1, by simp, r2, r3⟩
  ·cases e2
theorem cL.take : ∀ {as : List AV} {vs : List Value} (n : Nat), cL φ as vs → cL φ (as.take n) (vs.take n)
 | _, _, 0, _ => by simpa using cL.nil
 | _, _, n + 1, .nil => .nil
 | _, _, n + 1, .cons _ _ _ _ e es => .cons _ _ _ _ e (cL.take n es)
theorem Hl {ts : Array TypeId} {ty t e : TypeId} {i : TypeInfo} (hts : ts[0]? = some t) (H : HR φ h w) (hx : VR φ (ev x r) cx) (hy : VR φ (ev y r) cy) (ht : P.underlying t = some (.slice e)) (hi : P.info? e = some i) (hes : 0 < i.size)
  (he : wo i.size x y r h = .ok v h') : Good φ h w v h' ((Builtin.copy_ ts ty #[cx, cy]).run P w) := by
 unfold wo FY at he
 obtain ⟨n, base, c, rfl, he⟩ := pP hx he
 have hrun : ∀ {m : Nat} {arr : List Value} {w' : World}, (Builtin.lenOf cy).run P w = .ok m w → (Builtin.firstCells i.size (Nat.min m n) cy).run P w = .ok arr.toArray w → (∀ a, base = some a → (storeCells a arr).run P w = .ok () w') → (base = none → w' = w) →
   (Builtin.copy_ ts ty #[.slice base n c, cy]).run P w = .ok (goInt (Nat.min m n)) w' := by
  intro m arr w' h1 h2 h3 h4
  cases base with
  | none =>
   rw [h4 rfl]
   simp [Builtin.copy_, hts, ai ht, h1, aP hi, h2]
  | some a =>
   simp [Builtin.copy_, hts, ai ht, h1, aP hi, h2, h3 a rfl]
 have hcase : (∃ s, ev y r = .str s) ∨ (∀ s, ev y r ≠ .str s) := by
  cases ev y r <;> first | exact .inl ⟨_, rfl⟩ | exact .inr fun s => by simp
 rcases hcase with ⟨s, es⟩ | hns
 ·rw [es] at he hy
  obtain ⟨b, rfl, rfl⟩ := hy.db
  obtain ⟨g1, g2⟩ := gl φ (b.data.toList.take n)
  rw [List.map_take] at g1
  obtain ⟨hsz, he⟩ := az he
  have hsz := Nat.eq_of_beq_eq_true hsz
  obtain ⟨w', h2, he2, r1, r2, r3, r4⟩ := uO (P := P) H hx g1 g2 (fun h0 => by rw [h0]; rfl) he
  obtain ⟨rfl, rfl⟩ := RV.ak he2
  rw [hrun (m := b.size) rfl (by
   simp only [Builtin.firstCells, Sem.run_pure]
   congr 1
   apply Array.ext'
   rw [Array.toList_map, ByteArray.data_extract, Array.toList_extract, List.extract_eq_take_drop]
   simp only [List.drop_zero, Nat.sub_zero]
   congr 1
   show List.take (min b.size n) b.data.toList = _
   rw [List.take_eq_take_iff]
   simp
   have : b.size = b.data.size := rfl
   omega) r1 r2]
  refine ⟨_, w', φ, rfl, ?_, r3, r4⟩
  have hll : (List.map UInt8.toNat b.data.toList).length = b.size := by simp
  rw [hll]
  exact .int _ _
 ·have he2 : rU (ev y r) (fun m => elems i.size (ev y r) h (fun l => rV (List.take (Nat.mul n i.size) l) (ev x r) h (fun h => .ok (fg (Nat.min m n)) h)) (.err 94)) (.err 94) = .ok v h' := by
   revert he hns
   cases ev y r <;> intro he hns <;> first | exact he | exact absurd rfl (hns _)
  obtain ⟨m, b2, c2, rfl, he3⟩ := pP hy he2
  obtain ⟨b, m', c3, new, ns, hcy, he4, E⟩ := uM (P := P) H hy he3
  cases hcy
  have hrel := E.rel.take (Nat.mul n i.size)
  obtain ⟨w', h2, he5, r1, r2, r3, r4⟩ := uO (P := P) H hx hrel (fun c hc => E.one c (List.mem_of_mem_take hc)) (fun h0 => by rw [h0]; simp) he4
  obtain ⟨rfl, rfl⟩ := RV.ak he5
  have hpre := E.pre (Nat.min m n) (Nat.min_le_left _ _)
  have htk : List.take (Nat.min m n * i.size) ns = List.take (Nat.mul n i.size) ns := by
   rw [List.take_eq_take_iff, E.size]
   show min (min m n * i.size) (m * i.size) = min (n * i.size) (m * i.size)
   rcases Nat.le_total m n with g | g
   ·rw [Nat.min_eq_left g, Nat.min_self, Nat.min_eq_right (Nat.mul_le_mul_right _ g)]
   ·rw [Nat.min_eq_right g]
  rw [htk] at hpre
  rw [hrun (m := m) rfl hpre r1 r2]
  exact ⟨_, w', φ, rfl, .int _ _, r3, r4⟩
variable {P : Program} {φ : aI} {h h' : Hp} {w : World} {v : AV} {x y z : AO} {r : A2} {cx cy : Value}
theorem rh (z : List AV) : dM 0 z = [] := rfl
theorem ri (n : Nat) (z : List AV) : dM (n + 1) z = z ++ dM n z := rfl
theorem ff : ∀ (n : Nat) (z : List AV), (dM n z).length = n * z.length
 | 0, z => by rw [rh]; simp
 | n + 1, z => by rw [ri, List.length_append, ff n z, Nat.add_mul]; omega
theorem lu : ∀ (n : Nat) (z : List AV) (k : Nat) (hk : k < (dM n z).length) (hz : k % z.length < z.length), (dM n z)[k] = z[k % z.length]
 | 0, z, k, hk, _ => by rw [rh] at hk; simp at hk
 | n + 1, z, k, hk, hz => by
  by_cases h1 : k < z.length
  ·have : (dM (n + 1) z)[k] = z[k] := List.getElem_append_left h1
   rw [this]
   congr 1
   exact (Nat.mod_eq_of_lt h1).symm
  ·have h2 : k - z.length < (dM n z).length := by
    rw [ri, List.length_append] at hk; omega
   have : (dM (n + 1) z)[k] = (dM n z)[k - z.length] := List.getElem_append_right (by omega)
   have hmod : (k - z.length) % z.length = k % z.length := (Nat.mod_eq_sub_mod (by omega)).symm
   rw [this, lu n z _ h2 (by rw [hmod]; exact hz)]
   congr 1
theorem eL {z : List AV} {zc : Array Value} (hz : cL φ z zc.toList) (h1 : ∀ c, c ∈ zc.toList → c.oneCell' = true) (n m : Nat) (hm : m = n * zc.size) :
  cL φ (dM n z) ((Array.range m).map (zc[· % zc.size]!)).toList ∧ ∀ c, c ∈ ((Array.range m).map (zc[· % zc.size]!)).toList → c.oneCell' = true := by
 have hl : z.length = zc.size := by rw [hz.length]; simp
 have hpos : ∀ k, k < m → k % zc.size < zc.size := fun k hk => Nat.mod_lt _ (by
  rcases Nat.eq_zero_or_pos zc.size with g | g
  ·rw [g, Nat.mul_zero] at hm; omega
  ·exact g)
 refine ⟨cL.Ci (by rw [ff, hl]; simp [hm]) fun k hk hk' => ?_, fun c hc => ?_⟩
 ·have hkm : k < m := by rw [ff, hl] at hk; omega
  have hp := hpos k hkm
  rw [lu n z k hk (by rw [hl]; exact hp)]
  have hp' : k % z.length < zc.toList.length := by rw [hl]; simpa using hp
  have := hz.get (k % z.length) (by rw [hl]; exact hp) hp'
  have he : ((Array.range m).map (zc[· % zc.size]!)).toList[k] = zc.toList[k % z.length] := by
   simp only [Array.getElem_toList, Array.getElem_map, Array.getElem_range]
   rw [getElem!_pos zc (k % zc.size) hp]
   congr 1
   rw [hl]
  rw [he]
  exact this
 ·rw [Array.toList_map] at hc
  simp only [List.mem_map, Array.mem_toList_iff, Array.mem_range] at hc
  obtain ⟨k, hk, rfl⟩ := hc
  have hp := hpos k hk
  rw [getElem!_pos zc (k % zc.size) hp]
  exact h1 _ (by simp)
theorem gz {t : TypeId} {z : List AV} (hz : gw P t = some z) (φ : aI) : ∃ i zv, P.info? t = some i ∧ i.zero = some zv ∧ cL φ z zv.cells.toList ∧ ∀ c, c ∈ zv.cells.toList → c.oneCell' = true := by
 unfold gw at hz
 simp only [Option.bind_eq_some_iff] at hz
 obtain ⟨zv, ⟨inf, hinf, hzv⟩, hl⟩ := hz
 obtain ⟨g1, g2⟩ := nk φ hl
 exact ⟨inf, zv, hinf, hzv, g1, g2⟩
theorem Hm {ts : Array TypeId} {ty t e : TypeId} (hts : ts[0]? = some t) (H : HR φ h w) (hx : VR φ (ev x r) cx) (ht : P.underlying t = some (.slice e)) {zs : List AV} (hz : gw P e = some zs)
  (he : wq zs x r h = .ok v h') : Good φ h w v h' ((Builtin.clear_ ts ty #[cx]).run P w) := by
 unfold wq Tc at he
 obtain ⟨n, base, c, rfl, he2⟩ := pP hx he
 obtain ⟨i, zv, hi, hzv, g1, g2⟩ := gz hz φ
 obtain ⟨k1, k2⟩ := eL g1 g2 n _ rfl
 obtain ⟨w', h2, he3, r1, r2, r3, r4⟩ := uO (P := P) H hx k1 k2 (fun h0 => by rw [h0, rh]) he2
 obtain ⟨rfl, rfl⟩ := RV.ak he3
 have hv : VR φ cn (.tuple #[]) := .jj [] [] .nil
 have hrun : (Builtin.clear_ ts ty #[.slice base n c]).run P w = .ok (.tuple #[]) w' := by
  cases base with
  | none =>
   rw [r2 rfl]
   simp [Builtin.clear_, hts, ai ht]
  | some a =>
   have hr1 := r1 a rfl
   cases n with
   | zero =>
    have hw : w' = w := by
     have : ((Array.range (0 * zv.cells.size)).map (zv.cells[· % zv.cells.size]!)).toList = [] := by simp
     rw [this] at hr1
     simp [storeCells] at hr1
     exact hr1.symm
    rw [hw]
    simp [Builtin.clear_, hts, ai ht]
   | succ n =>
    have hr2 : (storeCells a (Builtin.zeroCells zv.cells (n + 1)).toList).run P w = .ok () w' := hr1
    simp [Builtin.clear_, hts, ai ht, zeroValue, bM hi, hzv, hr2]
 rw [hrun]
 exact ⟨_, w', φ, rfl, hv, r3, r4⟩
theorem nZ (H : HR φ h w) {l : List AV} {vs : List Value} (hl : cL φ l vs) (h1 : ∀ c, c ∈ vs → c.oneCell' = true) {el n c : Nat} (e : ja el true .plain l.length (ox l) h (fun i h => .ok (.slice i 0 n c) h) = .ok v h') :
  Good φ h w v h' (.ok (.slice (some ⟨w.heap.size, 0, none⟩) n c) { w with heap := w.heap.push (.cells vs.toArray el) }) := by
 obtain ⟨hr, hi, e⟩ := jt e
 obtain ⟨rfl, rfl⟩ := RV.ak e
 obtain ⟨g1, g2⟩ := H.DZ (n' := h.next.succ) hi hl h1 (el := el) hr (fun k hk => eB l hr k hk)
 refine ⟨_, _, _, rfl, ?_, g1, g2⟩
 have := VR.slice (φ := φ.put h.next ⟨w.heap.size, 0, vs.length⟩) h.next 0 n c _ (aI.aJ _ _ _)
 simpa [Place.addr] using this
theorem jU {G : Gl} {n : Nat} {place : Nat → Option (Nat × Nat)} {ρ : Operand → Value} : ∀ {qs : List (Nat × Operand)} {ps : List Part}, qx G n place qs = some ps → (∀ q, q ∈ qs → ∀ a, cO G q.2 = some a → VR φ (ev a r) (ρ q.2)) →
  ps.length = qs.length ∧ (∀ k (h1 : k < ps.length) (h2 : k < (qs.map fun q => (q.1, ρ q.2)).length), uz φ r place ps[k] (qs.map fun q => (q.1, ρ q.2))[k]) ∧ ∀ p, p ∈ ps → match p with | .mk off sz _ => off + sz ≤ n
 | [], ps, e, _ => by
  simp [qx] at e; subst e; simp
 | (i, o) :: qs, ps, e, hv => by
  unfold qx at e
  simp only [List.mapM_cons, Option.pure_def, Option.bind_eq_bind, Option.bind_eq_some_iff, Option.some.injEq] at e
  obtain ⟨p, ⟨⟨off, sz⟩, hpl, hp⟩, ps', hps, rfl⟩ := e
  obtain ⟨g1, g2, g3⟩ := jU (qs := qs) hps (fun q hq => hv q (by simp [hq]))
  simp only at hp
  split at hp
  ·rename_i hle
   simp only [Option.bind_eq_some_iff, Option.some.injEq] at hp
   obtain ⟨a, ha, rfl⟩ := hp
   refine ⟨by simp [g1], fun k h1 h2 => ?_, fun p hp => ?_⟩
   ·match k with
    | 0 => exact ⟨hpl, hv (i, o) (by simp) a ha⟩
    | k + 1 => exact g2 k (by simpa using h1) (by simpa using h2)
   ·rcases List.mem_cons.1 hp with rfl | hp
    ·exact hle
    ·exact g3 p hp
  ·cases hp
theorem tS {t : TypeId} {zs : List AV} (H : HR φ h w) (hz : gw P t = some zs) {place : Nat → Option (Nat × Nat)} {ps : List Part} {qs : List (Nat × Value)} (hl : ps.length = qs.length) (hp : ∀ k (h1 : k < ps.length) (h2 : k < qs.length), uz φ r place ps[k] qs[k])
  (hb : ∀ p, p ∈ ps → match p with | .mk off sz _ => off + sz ≤ zs.length) (ht : (∃ fs, P.underlying t = some (.struct fs) ∧ (∀ f, f ∈ fs → (P.info? f.type).isSome = true) ∧ place = (fun i => (fs[i]?).map fun f => (f.offset, bp P f.type))) ∨
   (∃ n e, P.underlying t = some (.array n e) ∧ (P.info? e).isSome = true ∧ place = fun i => some (i * bp P e, bp P e)))
  (he : kW zs ps r h = .ok v h') : Good φ h w v h' ((Instr.build t qs.toArray).run P w) := by
 obtain ⟨hf, he⟩ := az he
 obtain ⟨rfl, rfl⟩ := RV.ak he
 obtain ⟨i, zv, hi, hzv, g1, g2⟩ := gz hz φ
 obtain ⟨es, f1, f2, f3⟩ := uA ps qs zs zv.cells.toList hl hp hf (fun p hp' => by have := hb p hp'; rw [g1.length] at this; exact this) g1 g2
 refine .same H (cv := .agg es.toArray) (.agg _ _ f2 f3) ?_
 rcases ht with ⟨fs, ht, hfs, rfl⟩ | ⟨n, e, ht, hei, rfl⟩
 ·have hm : ∀ (l : List Field), (∀ f, f ∈ l → (P.info? f.type).isSome = true) → (l.mapM fun f => Prod.mk f.offset <$> sizeOf f.type).run P w = .ok (l.map fun f => (f.offset, bp P f.type)) w := by
   intro l
   induction l with
   | nil => intro _; rfl
   | cons f l ih =>
    intro hl
    obtain ⟨inf, hinf⟩ := Option.isSome_iff_exists.1 (hl f (by simp))
    simp [List.mapM_cons, aP hinf, ih (fun g hg => hl g (by simp [hg])), cR hinf]
  have hma := hm fs.toList (fun f hf => hfs f (by simpa using hf))
  have hplace : (fun (i : Nat) => (fs.toList.map fun (f : Field) => (f.offset, bp P f.type)).toArray[i]?) = fun (i : Nat) => (fs[i]?).map fun (f : Field) => (f.offset, bp P f.type) := by
   funext i; simp
  have f1' : Instr.fill (fun (i : Nat) => (fs.toList.map fun (f : Field) => (f.offset, bp P f.type)).toArray[i]?) zv.cells qs = some es.toArray := by rw [hplace]; simpa using f1
  simp [Instr.build, zeroValue, bM hi, hzv, ai ht, Array.mapM_eq_mapM_toList, hma]
  simp at f1'
  simp [f1']
 ·obtain ⟨inf, hinf⟩ := Option.isSome_iff_exists.1 hei
  rw [cR hinf] at f1
  have f1' : Instr.fill (fun i => some (i * inf.size, inf.size)) zv.cells qs = some es.toArray := by simpa using f1
  simp [Instr.build, zeroValue, bM hi, hzv, ai ht, aP hinf, f1']
theorem mh : ∀ (ps : List Part) (l : List AV), (fill ps r l).length = l.length
 | [], _ => rfl
 | .mk off sz x :: ps, l => by
  rw [wM]
  simp only
  rw [mh ps]
  have : ∀ (as : List AV) (i : Nat) (l : List AV), (nR as i l).length = l.length := by
   intro as
   induction as with
   | nil => intro i l; rfl
   | cons a as ih => intro i l; rw [uI, ih, yy]; simp
  exact this _ _ _
theorem zu {t e : TypeId} {zs : List AV} (H : HR φ h w) (ht : P.underlying t = some (.slice e)) (hz : gw P e = some zs) (hzl : zs.length = bp P e) (hes : bp P e ≠ 0) {n : Nat} {ps : List Part} {qs : List (Nat × Value)} (hl : ps.length = qs.length)
  (hp : ∀ k (h1 : k < ps.length) (h2 : k < qs.length), uz φ r (fun i => some (i * bp P e, bp P e)) ps[k] qs[k])
  (hb : ∀ p, p ∈ ps → match p with | .mk off sz _ => off + sz ≤ n * bp P e) (he : gB e (bp P e) n (dM n zs) ps r h = .ok v h') :
  Good φ h w v h' ((Instr.buildSlice t n qs.toArray).run P w) := by
 obtain ⟨hf, he⟩ := az he
 obtain ⟨i, zv, hi, hzv, g1, g2⟩ := gz hz φ
 rw [cR hi] at hzl hes hp hb
 have hzs : zv.cells.size = i.size := by rw [← hzl, g1.length]; simp
 obtain ⟨k1, k2⟩ := eL g1 g2 n (n * i.size) (by rw [hzs])
 have hlen : ((Array.range (n * i.size)).map (zv.cells[· % zv.cells.size]!)).toList.length = n * i.size := by simp
 obtain ⟨es, f1, f2, f3⟩ := uA ps qs (dM n zs) ((Array.range (n * i.size)).map (zv.cells[· % zv.cells.size]!)).toList hl hp hf (fun p hp' => by have := hb p hp'; rw [hlen]; exact this) k1 k2
 have hcr := ta he
 rw [mh, ff, hzl] at hcr
 have := nZ H f2 f3 he
 have hrun : (Instr.buildSlice t n qs.toArray).run P w = .ok (.slice (some ⟨w.heap.size, 0, none⟩) n n) { w with heap := w.heap.push (.cells es.toArray e) } := by
  have hbig : ¬ (16777216 < n * i.size) := by omega
  by_cases h0 : n * i.size = 0
  ·have hn0 : n = 0 := by
    rcases Nat.mul_eq_zero.1 h0 with g | g
    ·exact g
    ·exact absurd g hes
   subst hn0
   have hh : ((Array.range (0 * i.size)).map (zv.cells[· % zv.cells.size]!)).toList.toArray = #[] := by simp
   rw [hh] at f1
   have hh2 : ∀ g : Nat → Value, (Array.range 0).map g = #[] := by intro g; simp
   simp only [Instr.buildSlice, Sem.run_bind, ai ht, Result.andThen_ok, aP hi]
   simp only [Nat.zero_mul, hh2, f1]
   simp [eA]
  ·have f1' : Instr.fill (fun i_1 => some (i_1 * i.size, i.size)) ((Array.range (n * i.size)).map (zv.cells[· % zv.cells.size]!)) qs = some es.toArray := f1
   simp only [Instr.buildSlice, Sem.run_bind, ai ht, Result.andThen_ok, aP hi]
   rw [if_neg hbig]
   simp only [h0, if_false, zeroValue, Sem.run_bind, bM hi, hzv, Result.andThen_ok, Sem.run_pure, f1', eA]
 rw [hrun]
 exact this
variable {P : Program} {φ : aI} {h h' : Hp} {w : World} {v : AV} {x y z : AO} {r : A2} {cx cy : Value}
theorem cA {b : Nat} {o : Go.Obj} {es : Array MapEntry} {ck : Nat} (h1 : w.heap[b]? = some o) (ho : o = .map es ck) : (getObj b).run P w = .ok (.map es ck) w := by
 subst ho
 show (Sem.getObj b .pure).run P w = _
 simp [Sem.run, h1]
theorem HR.map (H : HR φ h w) {i : P4} {p : Place} {l : List KV} {ck : Nat} (hi : ag i h = .map l ck) (hp : φ i = some p) : ∃ es, w.heap[p.da]? = some (.map es ck) ∧ cS φ l es.toList := by
 obtain ⟨q, hq, hor⟩ := H.obj i (hi ▸ pI)
 rw [hp] at hq; cases hq
 rw [hi] at hor
 exact hor
theorem VR.lv {i : P4} {c : Value} (hv : VR φ (.map i) c) : ∃ p, φ i = some p ∧ c = .map (some p.da) := by cases hv; exact ⟨_, by assumption, rfl⟩
theorem VR.pR {c : Value} (hv : VR φ .zj c) : c = .map none := by cases hv; rfl
theorem cS.length : ∀ {l : List KV} {es : List MapEntry}, cS φ l es → l.length = es.length
 | _, _, .nil => rfl
 | _, _, .cons _ _ _ _ _ _ _ _ _ r => by simp [cS.length r]
theorem Fk {ts : Array TypeId} {ty t k e : TypeId} (hts : ts[0]? = some t) (H : HR φ h w) (hx : VR φ (ev x r) cx) (ht : P.underlying t = some (.map k e)) (he : qN x r h = .ok v h') :
  Good φ h w v h' ((Builtin.len_ ts ty #[cx]).run P w) := by
 rcases fy he with ⟨i, es, he⟩ | ⟨es, he⟩
 ·obtain ⟨l, c, hi, he⟩ := dR he
  obtain ⟨rfl, rfl⟩ := RV.ak he
  rw [es] at hx
  obtain ⟨p, hp, rfl⟩ := hx.lv
  obtain ⟨es, h1, h2⟩ := H.map hi hp
  refine .same H (cv := goInt es.size) ?_ (by simp [Builtin.len_, hts, ai ht, cA h1 rfl])
  have : l.length = es.size := by rw [h2.length]; simp
  rw [this]
  exact .int _ _
 ·obtain ⟨rfl, rfl⟩ := RV.ak he
  rw [es] at hx
  rw [hx.pR]
  exact .same H (cv := goInt 0) (.int _ _) (by simp [Builtin.len_, hts, ai ht])
theorem tU {t : TypeId} (H : HR φ h w) (he : xO r h = .ok v h') : Good φ h w v h' ((Instr.makeMap t none).run P w) := by
 obtain ⟨hi, he⟩ := ic he
 obtain ⟨rfl, rfl⟩ := RV.ak he
 have hw : ({ w with heap := w.heap.push (.map #[] 0) } : World).heap = w.heap.push (.map #[] 0) := rfl
 have hle := aI.iD (φ := φ) (i := h.next) ⟨w.heap.size, 0, 0⟩ (H.fresh _ hi)
 have g1 := H.new (w' := { w with heap := w.heap.push (.map #[] 0) }) (n' := h.next.succ) (room := 0) hi hw (o := .map [] 0) (by simp) ⟨#[], rfl, .nil⟩
 refine ⟨.map (some w.heap.size), _, _, rfl, .map _ _ (aI.aJ _ _ _), g1, hle, .new hw rfl rfl rfl, fun j q hj hq => ?_⟩
 rw [eC] at hj
 by_cases e : j = h.next
 ·subst e
  rw [aI.aJ] at hq; cases hq
  exact .inr (.inl (Nat.le_refl _))
 ·rw [if_neg e] at hj
  exact .inl ⟨hj, by simpa [aI.put, e] using hq, fun x => by rw [eC, if_neg e] at x; exact x⟩
theorem Hj {ts : Array TypeId} {ty t e : TypeId} (hts : ts[0]? = some t) (H : HR φ h w) (hx : VR φ (ev x r) cx) (ht : P.underlying t = some (.slice e)) (he : ux x r h = .ok v h') : Good φ h w v h' ((Builtin.cap_ ts ty #[cx]).run P w) := by
 rcases dW he with ⟨i, o, l, c, es, he⟩ | ⟨i, o, l, c, es, he⟩ | ⟨es, he⟩
 ·obtain ⟨rfl, rfl⟩ := RV.ak he
  rw [es] at hx
  cases hx <;> first | exact .same H (cv := goInt c) (.int _ _) (by simp [Builtin.cap_, hts, ai ht]) | exact .same H (cv := goInt 0) (.int _ _) (by simp [Builtin.cap_, hts, ai ht])
 ·cases he
 ·obtain ⟨rfl, rfl⟩ := RV.ak he
  rw [es] at hx
  cases hx
  exact .same H (cv := goInt 0) (.int _ _) (by simp [Builtin.cap_, hts, ai ht])
theorem jX {a b : FloatKind} (e : xW a b = true) : a = b := by cases a <;> cases b <;> first | rfl | cases e
theorem VR.np {k : FloatKind} {n : Nat} {c : Value} (hv : VR φ (.nG k n) c) : c = .float k n := by cases hv; rfl
theorem VR.pS {k : FloatKind} {m n : Nat} {c : Value} (hv : VR φ (.iq k m n) c) : c = .complex k m n := by cases hv; rfl
theorem Fq {ts : Array TypeId} {ty : TypeId} {k : FloatKind} (H : HR φ h w) (hx : VR φ (ev x r) cx) (hy : VR φ (ev y r) cy) (he : oJ k x y r h = .ok v h') : Good φ h w v h' ((Builtin.complex_ ts ty #[cx, cy]).run P w) := by
 obtain ⟨k1, a, ea, he⟩ := ew he
 obtain ⟨k2, b, eb, he⟩ := ew he
 obtain ⟨hk, he⟩ := az he
 obtain ⟨rfl, rfl⟩ := RV.ak he
 obtain ⟨h1, h2⟩ := Bool.and_eq_true_iff.1 hk
 have h1 := jX h1
 have h2 := jX h2
 subst h1 h2
 rw [ea] at hx
 rw [eb] at hy
 rw [hx.np, hy.np]
 refine .same H (.iq _ _ _) ?_
 show ((if k = k then pure (.complex k a b) else stuck "complex: parts of different kinds" : Sem Value)).run P w = _
 rw [if_pos rfl]; rfl
variable {P : Program} {φ : aI} {h h' : Hp} {w : World} {v : AV} {x y z : AO} {r : A2} {cx cy : Value}
theorem uP : ∀ {ks : List KK} {a b : List AV}, tc ks h a b ≠ .bad → a.length = ks.length
 | [], [], _, _ => rfl
 | [], _ :: _, _, e => absurd rfl e
 | k :: ks, [], _, e => absurd rfl e
 | k :: ks, x :: a, [], e => absurd rfl e
 | k :: ks, x :: a, y :: b, e => by
  have he : tc (k :: ks) h (x :: a) (y :: b) = @EB.rec (fun _ => EB) (tc ks h a b) (@EB.rec (fun _ => EB) .no .no .bad (tc ks h a b)) .bad (DQ k h x y) := rfl
  have : tc ks h a b ≠ .bad := by
   intro hb
   rw [he, hb] at e
   cases hk : DQ k h x y <;> rw [hk] at e <;> exact e rfl
  simp [uP this]
theorem uQ {f : Field} {fs : List Field} {i : Nat} {ks : List KK} (e : nN P (f :: fs) i = some ks) : f.name ≠ "_" ∧ f.offset = i ∧ ∃ k ks', De P f.type = some k ∧ nN P fs (i + 1) = some ks' ∧ ks = k :: ks' := by
 unfold nN at e
 split at e
 ·cases e
 ·rename_i hn
  split at e
  ·rename_i k ks' h1 h2
   cases e
   refine ⟨fun hh => hn (.inl hh), ?_, k, ks', h1, h2, rfl⟩
   by_cases g : f.offset = i
   ·exact g
   ·exact absurd (.inr g) hn
  ·cases e
theorem eH {t : TypeId} {k : KK} (hk : Rq P k t) (em : Bool) (n : Nat) (c : Value) : (Instr.checkKey em (n + 1) t c).run P w = .ok () w := by
 cases k with
 | b => simp [Instr.checkKey, ai (show P.underlying t = some .bool from hk)]
 | i => obtain ⟨kk, hk⟩ := hk; simp [Instr.checkKey, ai hk]
 | s => simp [Instr.checkKey, ai (show P.underlying t = some .string from hk)]
 | p => obtain ⟨e, ie, hk, _⟩ := hk; simp [Instr.checkKey, ai hk]
theorem nL (em : Bool) (n : Nat) (vs : Array Value) : ∀ (fs : List Field) (i : Nat) (ks : List KK), nN P fs i = some ks → i + fs.length ≤ vs.size →
  (forIn fs PUnit.unit fun f _ => if f.name ≠ "_" then (do let c ← part f.type vs f.offset; Instr.checkKey em (n + 1) f.type c; pure (ForInStep.yield PUnit.unit) : Sem (ForInStep PUnit)) else pure (ForInStep.yield PUnit.unit)).run P w = .ok PUnit.unit w := by
 intro fs
 induction fs with
 | nil => intro i ks _ _; rfl
 | cons f fs ih =>
  intro i ks e hl
  obtain ⟨h1, h2, k, ks', h3, h4, rfl⟩ := uQ e
  have hk := Ap h3
  obtain ⟨d, hd, ha⟩ := hk.kH
  simp only [List.length_cons] at hl
  have hp := gX (w := w) hd ha (cs := vs) (o := f.offset) (c := vs[i]) (by rw [h2]; simp)
  have := ih (i + 1) ks' h4 (by omega)
  simp only [List.forIn_cons, Sem.run_bind]
  simp [h1, hp, eH hk]
  simpa using this
theorem JE {kt : KT} {a : AV} (e : uD kt a h = true) : FX kt a a h ≠ .bad := by
 intro hb
 unfold uD at e
 rw [hb] at e
 cases e
theorem run_checkKey {t : TypeId} {kt : KT} (hk : ov P t = some kt) {a : AV} {c : Value} (hx : VR φ a c) (ho : uD kt a h = true) (em : Bool) : (Instr.checkKey em 10000 t c).run P w = .ok () w := by
 unfold ov at hk
 split at hk
 ·rename_i hd; cases hk; exact eH (k := .b) hd em 9999 c
 ·rename_i hd; cases hk; exact eH (k := .i) ⟨_, hd⟩ em 9999 c
 ·rename_i hd; cases hk; exact eH (k := .s) hd em 9999 c
 ·rename_i fs hd
  simp only [Option.map_eq_some_iff] at hk
  obtain ⟨ks, hks, rfl⟩ := hk
  have hne := JE ho
  have ⟨l, hl⟩ : ∃ l, a = .agg l := by
   cases a <;> first | exact ⟨_, rfl⟩ | exact absurd rfl hne
  subst hl
  obtain ⟨vs, rfl, hvs, h1⟩ := hx.gj
  have hlen := uP (show tc ks h l l ≠ .bad from hne)
  unfold tu at hks
  rw [hd] at hks
  simp only at hks
  split at hks
  ·cases hks
  ·have hF : ∀ (fs : List Field) (i : Nat) (ks : List KK), nN P fs i = some ks → fs.length = ks.length := by
    intro fs
    induction fs with
    | nil => intro i ks e; simp [nN] at e; subst e; rfl
    | cons f fs ih =>
     intro i ks e
     obtain ⟨_, _, k, ks', _, h4, rfl⟩ := uQ e
     simp [ih _ _ h4]
   have hfl := hF _ _ _ hks
   have := nL (w := w) em 9998 vs.toArray fs.toList 0 ks hks (by
    have := hvs.length
    simp only [Array.length_toList, List.size_toArray] at *; omega)
   show (Instr.checkKey em (9999 + 1) t (.agg vs.toArray)).run P w = _
   rw [Instr.checkKey]
   simp only [Sem.run_bind, ai hd, Result.andThen_ok]
   rw [← Array.forIn_toList]
   rw [this]
   rfl
 ·cases hk
variable {P : Program} {φ : aI} {h h' : Hp} {w : World} {v : AV} {x y z : AO} {r : A2} {cx cy : Value}
theorem yz {t : TypeId} {kt : KT} (H : HR φ h w) (hk : ov P t = some kt) {a c : AV} {ca cc : Value} (hx : VR φ a ca) (hy : VR φ c cc) {b : Bool} (hb : FX kt a c h = EB.of b) : (Op.equal t ca cc).run P w = .ok b w := by
 show (Op.equalIn 10000 t ca cc).run P w = .ok b w
 unfold ov at hk
 split at hk
 ·rename_i hd; cases hk; exact lp 9999 (k := .b) H hx hy hd hb
 ·rename_i hd; cases hk; exact lp 9999 (k := .i) H hx hy ⟨_, hd⟩ hb
 ·rename_i hd; cases hk; exact lp 9999 (k := .s) H hx hy hd hb
 ·rename_i fs hd
  simp only [Option.map_eq_some_iff] at hk
  obtain ⟨ks, hks, rfl⟩ := hk
  have ⟨l, hl⟩ : ∃ l, a = .agg l := by
   cases a <;> first | exact ⟨_, rfl⟩ | (cases b <;> cases hb)
  subst hl
  have ⟨m, hm⟩ : ∃ m, c = .agg m := by
   cases c <;> first | exact ⟨_, rfl⟩ | (cases b <;> cases hb)
  subst hm
  obtain ⟨vs, rfl, hvs, _⟩ := hx.gj
  obtain ⟨ws, rfl, hws, _⟩ := hy.gj
  exact ku 9998 H hks hvs hws hb
 ·cases hk
theorem mE {t : TypeId} {kt : KT} {d : TypeDesc} (hd : P.underlying t = some d) (hk : ov P t = some kt) {a c : AV} {ca cc : Value} (hx : VR φ a ca) (hy : VR φ c cc) {b : Bool} (hb : FX kt a c h = EB.of b) :
  Instr.sameNow d ca cc = none ∨ Instr.sameNow d ca cc = some b := by
 unfold ov at hk
 rw [hd] at hk
 cases d <;> try (cases hk; done)
 case bool =>
  cases hk
  cases a <;> (try (cases b <;> cases hb; done))
  rename_i m
  cases c <;> (try (cases b <;> cases hb; done))
  rename_i n
  have := eG (show EB.of (kL m n) = EB.of b from hb)
  subst this
  rw [hx.cW, hy.cW]
  right
  cases m <;> cases n <;> rfl
 case int kk =>
  cases hk
  cases a <;> (try (cases b <;> cases hb; done))
  rename_i k1 m
  cases c <;> (try (cases b <;> cases hb; done))
  rename_i k2 n
  change (Bool.rec EB.bad (EB.of (ub m n)) (mc k1 k2) : EB) = _ at hb
  cases hq : mc k1 k2 with
  | false => rw [hq] at hb; cases b <;> cases hb
  | true =>
   rw [hq] at hb
   obtain rfl := iu hq
   rw [hx.aW, hy.aW]
   have := eG (show EB.of (ub m n) = EB.of b from hb)
   subst this
   right
   simp [Instr.sameNow, gK]
   rfl
 case string =>
  cases hk
  cases a <;> (try (cases b <;> cases hb; done))
  rename_i m
  cases c <;> (try (cases b <;> cases hb; done))
  rename_i n
  obtain ⟨s, rfl, rfl⟩ := hx.db
  obtain ⟨u, rfl, rfl⟩ := hy.db
  have := eG (show EB.of (iw _ _) = EB.of b from hb)
  subst this
  right
  simp only [Instr.sameNow]
  rw [gC, beq_toListBytes]
 case struct fs => left; cases ca <;> rfl
theorem cS.cons_inv {k val : AV} {b : Nat} {l : List KV} {es : List MapEntry} (hm : cS φ (.mk k val b :: l) es) : ∃ e es', es = e :: es' ∧ VR φ k e.key ∧ VR φ val e.val ∧ e.born = b ∧ cS φ l es' := by
 cases hm; exact ⟨_, _, rfl, by assumption, by assumption, by assumption, by assumption⟩
inductive KF (kt : KT) (h : Hp) (a : AV) : List KV → Option (Nat × KV) → Prop
 | nil : KF kt h a [] none
 | here (k v : AV) (b : Nat) (l : List KV) : FX kt a k h = .yes → KF kt h a (.mk k v b :: l) (some (0, .mk k v b))
 | there (k v : AV) (b : Nat) (l : List KV) (j : Nat) (y : KV) : FX kt a k h = .no → KF kt h a l (some (j, y)) → KF kt h a (.mk k v b :: l) (some (j + 1, y))
 | Tx (k v : AV) (b : Nat) (l : List KV) : FX kt a k h = .no → KF kt h a l none → KF kt h a (.mk k v b :: l) none
noncomputable def Co (kt : KT) (a : AV) (l : List KV) (h : Hp) (k : Nat → AV → Nat → RV) (n e : RV) (i : Nat) : RV := dJ (β := Nat → RV) (fun _ => n)
 (fun y _ ih i => @KV.rec (fun _ => RV) (fun c v born => @EB.rec (fun _ => RV) (k i v born) (ih (Nat.succ i)) e (FX kt a c h)) y) l i
theorem kj {kt : KT} {a : AV} {k : Nat → AV → Nat → RV} {n : RV} {q : Nat} : ∀ {l : List KV} {i : Nat}, Co kt a l h k n (.err q) i = .ok v h' →
  (KF kt h a l none ∧ n = .ok v h') ∨ ∃ j kk val b, KF kt h a l (some (j, .mk kk val b)) ∧ k (i + j) val b = .ok v h'
 | [], i, e => .inl ⟨.nil, e⟩
 | .mk kk val b :: l, i, e => by
  have e2 : @EB.rec (fun _ => RV) (k i val b) (Co kt a l h k n (.err q) (i + 1)) (.err q) (FX kt a kk h) = .ok v h' := e
  cases hq : FX kt a kk h with
  | yes => rw [hq] at e2; exact .inr ⟨0, kk, val, b, .here _ _ _ _ hq, e2⟩
  | no =>
   rw [hq] at e2
   rcases kj (l := l) (i := i + 1) e2 with ⟨h1, h2⟩ | ⟨j, k2, v2, b2, h1, h2⟩
   ·exact .inl ⟨.Tx _ _ _ _ hq h1, h2⟩
   ·refine .inr ⟨j + 1, k2, v2, b2, .there _ _ _ _ _ _ hq h1, ?_⟩
    have : i + (j + 1) = i + 1 + j := by omega
    rw [this]; exact h2
  | bad => rw [hq] at e2; cases e2
theorem mf (kt : KT) (a : AV) (l : List KV) (h : Hp) (k : Nat → AV → Nat → RV) (n e : RV) : Al kt a l h k n e = Co kt a l h k n e 0 := rfl
theorem KF.find {kt : KT} (H : HR φ h w) {t : TypeId} {d : TypeDesc} (hd : P.underlying t = some d) (hk : ov P t = some kt) {a : AV} {ca : Value} (hx : VR φ a ca) : ∀ {l : List KV} {res : Option (Nat × KV)}, KF kt h a l res → ∀ {es : List MapEntry} (i : Nat), cS φ l es →
  ∃ cr : Option (Nat × Value), (Instr.findAsking t ca es i).run P w = .ok cr w ∧ (∀ q, Instr.findNow d ca es i = some q → q = cr) ∧
   (match res, cr with
    | none, none => True
    | some (j, .mk kk val b), some (j', cv) => j' = i + j ∧ VR φ val cv ∧ ∃ e, es[j]? = some e ∧ e.val = cv ∧ VR φ kk e.key ∧ FX kt a kk h = .yes ∧ e.born = b
    | _, _ => False)
 | _, _, .nil, es, i, hm => by
  cases hm
  exact ⟨none, rfl, fun q hq => by cases hq; rfl, trivial⟩
 | _, _, .here k v b l hq, es, i, hm => by
  obtain ⟨e, es', rfl, h1, h2, h3, h4⟩ := hm.cons_inv
  have hr := yz (b := true) H hk hx h1 hq
  refine ⟨some (i, e.val), by simp [Instr.findAsking, hr], fun q hq' => ?_, rfl, h2, e, rfl, rfl, h1, hq, h3⟩
  rcases mE (h := h) (b := true) hd hk hx h1 hq with g | g <;> simp only [Instr.findNow, g] at hq'
  ·cases hq'
  ·cases hq'; rfl
 | _, _, .there k v b l j y hq hr, es, i, hm => by
  obtain ⟨e, es', rfl, h1, h2, h3, h4⟩ := hm.cons_inv
  have hrn := yz (b := false) H hk hx h1 hq
  obtain ⟨cr, r1, r2, r3⟩ := KF.find H hd hk hx hr (i + 1) h4
  refine ⟨cr, by simp [Instr.findAsking, hrn, r1], fun q hq' => ?_, ?_⟩
  ·rcases mE (h := h) (b := false) hd hk hx h1 hq with g | g <;> simp only [Instr.findNow, g] at hq'
   ·cases hq'
   ·exact r2 q hq'
  ·obtain ⟨kk, val, bb⟩ := y
   cases cr with
   | none => exact r3.elim
   | some p =>
    obtain ⟨j', cv⟩ := p
    simp only at r3 ⊢
    obtain ⟨g1, g2, e', g3, g4⟩ := r3
    exact ⟨by omega, g2, e', by simpa using g3, g4⟩
 | _, _, .Tx k v b l hq hr, es, i, hm => by
  obtain ⟨e, es', rfl, h1, h2, h3, h4⟩ := hm.cons_inv
  have hrn := yz (b := false) H hk hx h1 hq
  obtain ⟨cr, r1, r2, r3⟩ := KF.find H hd hk hx hr (i + 1) h4
  refine ⟨cr, by simp [Instr.findAsking, hrn, r1], fun q hq' => ?_, by cases cr <;> exact r3⟩
  rcases mE (h := h) (b := false) hd hk hx h1 hq with g | g <;> simp only [Instr.findNow, g] at hq'
  ·cases hq'
  ·exact r2 q hq'
theorem run_findKey {t : TypeId} {d : TypeDesc} {ca : Value} {es : List MapEntry} (hd : P.underlying t = some d) {cr : Option (Nat × Value)} (h1 : (Instr.findAsking t ca es 0).run P w = .ok cr w) (h2 : ∀ q, Instr.findNow d ca es 0 = some q → q = cr) :
  (Instr.findKey t ca es).run P w = .ok cr w := by
 simp only [Instr.findKey, Sem.run_bind, ai hd, Result.andThen_ok]
 cases hf : Instr.findNow d ca es 0 with
 | none => exact h1
 | some q => rw [h2 q hf]; rfl
variable {P : Program} {φ : aI} {h h' : Hp} {w : World} {v : AV} {x y z : AO} {r : A2} {cx cy : Value}
theorem pT {t : TypeId} {kt : KT} (hk : ov P t = some kt) : ∃ d, P.underlying t = some d := by
 unfold ov at hk
 split at hk <;> first | exact ⟨_, by assumption⟩ | cases hk
theorem rj {ok found : Bool} {a : AV} {c : Value} (hv : VR φ a c) (e : DE ok found a h = .ok v h') : VR φ v (if ok then .tuple #[c, .bool found] else c) ∧ h' = h := by
 obtain ⟨rfl, rfl⟩ := RV.ak e
 cases ok
 ·exact ⟨hv, rfl⟩
 ·exact ⟨.jj [_, _] [_, _] (.cons _ _ _ _ hv (.cons _ _ _ _ (.bool _) .nil)), rfl⟩
theorem HO {t k e : TypeId} {kt : KT} {zv : AV} {ok : Bool} (H : HR φ h w) {a b : AV} (hx : VR φ a cx) (hy : VR φ b cy) (ht : P.underlying t = some (.map k e)) (hk : ov P k = some kt) (hz : kI P e = some zv)
  (he : Mb kt zv ok a b h = .ok v h') : Good φ h w v h' ((Instr.lookup t cx cy ok).run P w) := by
 obtain ⟨hok, he⟩ := az he
 obtain ⟨d, hd⟩ := pT hk
 unfold kI at hz
 simp only [Option.bind_eq_some_iff] at hz
 obtain ⟨cz, ⟨inf, hinf, hcz⟩, hz⟩ := hz
 have hvz := px hz φ
 rcases fy he with ⟨i, rfl, he2⟩ | ⟨rfl, he2⟩
 ·obtain ⟨l, c, hi, he3⟩ := dR he2
  obtain ⟨p, hp, rfl⟩ := hx.lv
  obtain ⟨es, h1, h2⟩ := H.map hi hp
  rw [mf] at he3
  have hck := fun em => run_checkKey (w := w) hk hy hok em
  rcases kj he3 with ⟨g1, g2⟩ | ⟨j, kk, val, bb, g1, g2⟩
  ·obtain ⟨cr, f1, f2, f3⟩ := g1.find H hd hk hy 0 h2
   cases cr with
   | some q => exact f3.elim
   | none =>
    obtain ⟨u1, u2⟩ := rj (φ := φ) hvz g2
    subst u2
    refine .same H u1 ?_
    simp [Instr.lookup, ai ht, cA h1 rfl, hck, run_findKey hd f1 f2, zeroValue, bM hinf, hcz]
  ·obtain ⟨cr, f1, f2, f3⟩ := g1.find H hd hk hy 0 h2
   cases cr with
   | none => exact f3.elim
   | some q =>
    obtain ⟨j', cv⟩ := q
    obtain ⟨_, u0, _⟩ := f3
    obtain ⟨u1, u2⟩ := rj (φ := φ) u0 g2
    subst u2
    refine .same H u1 ?_
    simp [Instr.lookup, ai ht, cA h1 rfl, hck, run_findKey hd f1 f2]
 ·rw [hx.pR]
  have hck := run_checkKey (w := w) hk hy hok true
  obtain ⟨u1, u2⟩ := rj (φ := φ) hvz he2
  subst u2
  refine .same H u1 ?_
  have hf : (Instr.findKey k cy []).run P w = .ok none w := run_findKey hd rfl (fun q hq => by cases hq; rfl)
  simp [Instr.lookup, ai ht, hck, hf, zeroValue, bM hinf, hcz]
theorem Cp {i : P4} {l : List KV} {ck : Nat} (hi : ag i h = .map l ck) : wl (ag i h) := hi ▸ ⟨pI, rfl⟩
theorem HR.rk (H : HR φ h w) {i : P4} {p : Place} {l l' : List KV} {ck ck' : Nat} (hi : ag i h = .map l ck) (hp : φ i = some p) {es : Array MapEntry} (hm : cS φ l' es.toList) {es0 : Array MapEntry} {ck0 : Nat} (ho : w.heap[p.da]? = some (.map es0 ck0)) :
  (setObj p.da (.map es ck')).run P w = .ok () { w with heap := w.heap.setIfInBounds p.da (.map es ck') } ∧ HR φ (cM i (.map l' ck') h) { w with heap := w.heap.setIfInBounds p.da (.map es ck') } ∧
   Step φ h w φ (cM i (.map l' ck') h) { w with heap := w.heap.setIfInBounds p.da (.map es ck') } := by
 have hl : live (ag i h) := hi ▸ pI
 have hb : p.da < w.heap.size := H.bound i p hp
 have hne : ∀ b, b ≠ p.da → (w.heap.setIfInBounds p.da (.map es ck'))[b]? = w.heap[b]? := fun b hb => by
  rw [Array.getElem?_setIfInBounds, if_neg (fun e => hb e.symm)]
 refine ⟨?_, H.set (Cp hi) hp (by simp) hne ⟨es, by simp [hb], hm⟩ (by simp), φ.le_refl, gy.set (Cp hi) hp (by simp) hne rfl rfl rfl, fun j q hj hq => ?_⟩
 ·show (Sem.setObj p.da (.map es ck') (.pure ())).run P w = _
  simp [Sem.run, ho]
 ·rw [aF] at hj
  by_cases e : j = i
  ·subst e; exact .inl ⟨hl, hq, fun _ => Cp hi⟩
  ·rw [if_neg e] at hj; exact .inl ⟨hj, hq, fun x => by rw [aF, if_neg e] at x; exact x⟩
theorem cS.snoc : ∀ {l : List KV} {es : List MapEntry} {k val : AV} {b : Nat} {e : MapEntry}, cS φ l es → VR φ k e.key → VR φ val e.val → e.born = b → cS φ (Am.snoc l (.mk k val b)) (es ++ [e])
 | _, _, _, _, _, _, .nil, h1, h2, h3 => .cons _ _ _ _ _ _ h1 h2 h3 .nil
 | _, _, _, _, _, _, .cons k v b e l es a c d r, h1, h2, h3 => .cons k v b e _ _ a c d (cS.snoc r h1 h2 h3)
theorem cS.del : ∀ {l : List KV} {es : List MapEntry} (j : Nat), cS φ l es → cS φ (QT j l) (es.eraseIdx j)
 | _, _, j, .nil => by cases j <;> exact .nil
 | _, _, 0, .cons k v b e l es a c d r => r
 | _, _, j + 1, .cons k v b e l es a c d r => .cons k v b e _ _ a c d (cS.del j r)
theorem Hn {ts : Array TypeId} {ty t k e : TypeId} {kt : KT} (hts : ts[0]? = some t) (H : HR φ h w) {a b : AV} (hx : VR φ a cx) (hy : VR φ b cy) (ht : P.underlying t = some (.map k e)) (hk : ov P k = some kt)
  (he : del kt a b h = .ok v h') : Good φ h w v h' ((Builtin.delete_ ts ty #[cx, cy]).run P w) := by
 obtain ⟨hok, he⟩ := az he
 obtain ⟨d, hd⟩ := pT hk
 have hv : VR φ cn (.tuple #[]) := .jj [] [] .nil
 rcases fy he with ⟨i, rfl, he2⟩ | ⟨rfl, he2⟩
 ·obtain ⟨l, c, hi, he3⟩ := dR he2
  obtain ⟨p, hp, rfl⟩ := hx.lv
  obtain ⟨es, h1, h2⟩ := H.map hi hp
  rw [mf] at he3
  have hck := fun em => run_checkKey (w := w) hk hy hok em
  rcases kj he3 with ⟨g1, g2⟩ | ⟨j, kk, val, bb, g1, g2⟩
  ·obtain ⟨cr, f1, f2, f3⟩ := g1.find H hd hk hy 0 h2
   cases cr with
   | some q => exact f3.elim
   | none =>
    obtain ⟨rfl, rfl⟩ := RV.ak g2
    have cM : w = { w with heap := w.heap.setIfInBounds p.da (.map es c) } := by
     have : w.heap.setIfInBounds p.da (.map es c) = w.heap := by
      apply Array.ext_getElem?
      intro q
      rw [Array.getElem?_setIfInBounds]
      by_cases e : p.da = q
      ·subst e
       have hb := H.bound i p hp
       rw [if_pos rfl, if_pos hb, h1]
      ·rw [if_neg e]
     rw [this]
    refine .same H hv ?_
    have hso : (setObj p.da (.map es c)).run P w = .ok () w := by
     have : (setObj p.da (.map es c)).run P w = .ok () { w with heap := w.heap.setIfInBounds p.da (.map es c) } := by
      show (Sem.setObj p.da (.map es c) (.pure ())).run P w = _
      simp [Sem.run, h1]
     rw [this, ← cM]
    simp [Builtin.delete_, hts, ai ht, cA h1 rfl, hck, run_findKey hd f1 f2, hso]
  ·obtain ⟨cr, f1, f2, f3⟩ := g1.find H hd hk hy 0 h2
   cases cr with
   | none => exact f3.elim
   | some q =>
    obtain ⟨j', cv⟩ := q
    obtain ⟨rfl, _⟩ := f3
    obtain ⟨rfl, rfl⟩ := RV.ak g2
    have hes : (es.eraseIdxIfInBounds (0 + j)).toList = es.toList.eraseIdx (0 + j) := by simp
    obtain ⟨s1, s2, s3⟩ := HR.rk (P := P) (ck' := c) H hi hp (es := es.eraseIdxIfInBounds (0 + j)) (l' := QT (0 + j) l) (by rw [hes]; exact h2.del _) h1
    exact ⟨.tuple #[], _, φ, by simp [Builtin.delete_, hts, ai ht, cA h1 rfl, hck, run_findKey hd f1 f2] at s1 ⊢; simp [s1], hv, s2, s3⟩
 ·obtain ⟨rfl, rfl⟩ := RV.ak he2
  rw [hx.pR]
  have hck := run_checkKey (w := w) hk hy hok true
  exact .same H hv (by simp [Builtin.delete_, hts, ai ht, hck])
variable {P : Program} {φ : aI} {h h' : Hp} {w : World} {v : AV} {x y z : AO} {r : A2} {cx cy : Value}
theorem Cq (a : AV) : (∃ i o, a = .ptr i o) ∨ a.gS = .no := by cases a <;> first | exact .inl ⟨_, _, rfl⟩ | exact .inr rfl
theorem uR {a : AV} (e : fD a = true) : a = .fo := by cases a <;> first | rfl | cases e
theorem pU {k : KK} {a c : AV} {ca cc : Value} (hx : VR φ a ca) (hy : VR φ c cc) (he : DQ k h a c = .yes) (n : Nat) : Instr.sameBits n cc ca = true := by
 cases k with
 | b =>
  cases a <;> (try (cases he; done))
  rename_i m
  cases c <;> (try (cases he; done))
  rename_i q
  rw [hx.cW, hy.cW]
  cases m <;> cases q <;> first | (cases he; done) | (cases n <;> simp [Instr.sameBits])
 | i =>
  cases a <;> (try (cases he; done))
  rename_i k1 m
  cases c <;> (try (cases he; done))
  rename_i k2 q
  change (Bool.rec EB.bad (EB.of (ub m q)) (mc k1 k2) : EB) = _ at he
  cases hq : mc k1 k2 with
  | false => rw [hq] at he; cases he
  | true =>
   rw [hq] at he
   obtain rfl := iu hq
   have := eG (b := true) (show EB.of (ub m q) = EB.of true from he)
   rw [gK, decide_eq_true_eq] at this
   subst this
   rw [hx.aW, hy.aW]
   cases n <;> simp [Instr.sameBits]
 | s =>
  cases a <;> (try (cases he; done))
  rename_i m
  cases c <;> (try (cases he; done))
  rename_i q
  obtain ⟨s, rfl, rfl⟩ := hx.db
  obtain ⟨u, rfl, rfl⟩ := hy.db
  have := eG (b := true) (show EB.of (iw _ _) = EB.of true from he)
  rw [gC, beq_iff_eq] at this
  cases n <;> simp [Instr.sameBits, beq_toListBytes, this]
 | p =>
  have he : QP h a c = .yes := he
  unfold QP at he
  rcases Cq a with ⟨i, o, rfl⟩ | ha
  ·rcases Cq c with ⟨j, q, rfl⟩ | hc
   ·change (Bool.rec (Bool.rec EB.bad (Bool.rec EB.bad .no (fC (ag j h))) (fC (ag i h))) (EB.of (Nat.beq o q)) (qw i j) : EB) = _ at he
    cases hp : qw i j with
    | false =>
     rw [hp] at he
     cases h1 : fC (ag i h) <;> cases h2 : fC (ag j h) <;> simp [h1, h2] at he
    | true =>
     rw [hp] at he
     obtain rfl := jl.1 hp
     have := eG (b := true) (show EB.of (Nat.beq o q) = EB.of true from he)
     have := Nat.eq_of_beq_eq_true this
     subst this
     obtain ⟨p, hp1, rfl⟩ := hx.fG
     obtain ⟨p', hp2, rfl⟩ := hy.fG
     rw [hp1] at hp2; cases hp2
     cases n <;> simp [Instr.sameBits]
   ·rw [hc] at he
    change (Bool.rec EB.bad .no (fD c) : EB) = _ at he
    cases hn : fD c <;> rw [hn] at he <;> cases he
  ·rw [ha] at he
   change (Bool.rec EB.bad (OP.rec (Bool.rec EB.bad .yes (fD c)) (fun _ _ => .no) c.gS) (fD a) : EB) = _ at he
   cases hn : fD a with
   | false => rw [hn] at he; cases he
   | true =>
    rw [hn] at he
    have := uR hn
    have he3 := he
    clear he
    subst this
    rcases Cq c with ⟨j, q, hc⟩ | hc
    ·rw [hc] at he3; cases he3
    ·rw [hc] at he3
     change (Bool.rec EB.bad .yes (fD c) : EB) = _ at he3
     cases hn2 : fD c with
     | false => rw [hn2] at he3; cases he3
     | true =>
      have := uR hn2
      subst this
      rw [hx.kr, hy.kr]
      cases n <;> simp [Instr.sameBits]
theorem pV (n : Nat) : ∀ {ks : List KK} {a c : List AV} {vs ws : List Value}, cL φ a vs → cL φ c ws → tc ks h a c = .yes → ws.length = vs.length ∧ (ws.zip vs).all (fun (x, y) => Instr.sameBits n x y) = true
 | [], [], [], _, _, .nil, .nil, _ => ⟨rfl, rfl⟩
 | [], [], _ :: _, _, _, _, _, e => by cases e
 | [], _ :: _, _, _, _, _, _, e => by cases e
 | k :: ks, [], _, _, _, _, _, e => by cases e
 | k :: ks, _ :: _, [], _, _, _, _, e => by cases e
 | k :: ks, x :: a, y :: c, _, _, .cons _ cx _ vs h1 h2, .cons _ cy _ ws h3 h4, e => by
  have he : @EB.rec (fun _ => EB) (tc ks h a c) (@EB.rec (fun _ => EB) .no .no .bad (tc ks h a c)) .bad (DQ k h x y) = .yes := e
  cases hk : DQ k h x y with
  | yes =>
   rw [hk] at he
   obtain ⟨g1, g2⟩ := pV n h2 h4 he
   exact ⟨by simp [g1], by simp [pU h1 h3 hk n]; simpa using g2⟩
  | no => rw [hk] at he; cases hr : tc ks h a c <;> rw [hr] at he <;> cases he
  | bad => rw [hk] at he; cases he
theorem pW {kt : KT} {a c : AV} {ca cc : Value} (hx : VR φ a ca) (hy : VR φ c cc) (he : FX kt a c h = .yes) : Instr.sameBits 10000 cc ca = true := by
 cases kt with
 | one k => exact pU hx hy he _
 | agg ks =>
  have ⟨l, hl⟩ : ∃ l, a = .agg l := by
   cases a <;> first | exact ⟨_, rfl⟩ | cases he
  subst hl
  have ⟨m, hm⟩ : ∃ m, c = .agg m := by
   cases c <;> first | exact ⟨_, rfl⟩ | cases he
  subst hm
  obtain ⟨vs, rfl, hvs, _⟩ := hx.gj
  obtain ⟨ws, rfl, hws, _⟩ := hy.gj
  obtain ⟨g1, g2⟩ := pV (h := h) 9999 hvs hws he
  show Instr.sameBits (9999 + 1) _ _ = true
  simp [Instr.sameBits, g1]
  simpa using g2
theorem cS.set : ∀ {l : List KV} {es : List MapEntry} (j : Nat) {k val : AV} {ck cv : Value}, cS φ l es → VR φ k ck → VR φ val cv → cS φ (yp j k val l) (es.modify j fun e => { e with key := ck, val := cv })
 | _, _, j, _, _, _, _, .nil, _, _ => by cases j <;> exact .nil
 | _, _, 0, k, val, ck, cv, .cons k0 v0 b e l es a c d r, h1, h2 => .cons _ _ _ _ _ _ h1 h2 d r
 | _, _, j + 1, k, val, ck, cv, .cons k0 v0 b e l es a c d r, h1, h2 => .cons k0 v0 b e _ _ a c d (cS.set j r h1 h2)
theorem zw {t k e : TypeId} {kt : KT} {cz : Value} (H : HR φ h w) {a b c : AV} (hx : VR φ a cx) (hy : VR φ b cy) (hz : VR φ c cz) (ht : P.underlying t = some (.map k e)) (hk : ov P k = some kt)
  (he : OO kt a b c h = .ok v h') : v = .undef ∧ vS φ h w h' ((Instr.mapUpdate t cx cy cz).run P w) := by
 obtain ⟨hok, he⟩ := az he
 obtain ⟨d, hd⟩ := pT hk
 rcases fy he with ⟨i, rfl, he2⟩ | ⟨rfl, he2⟩
 ·obtain ⟨l, ck, hi, he3⟩ := dR he2
  obtain ⟨p, hp, rfl⟩ := hx.lv
  obtain ⟨es, h1, h2⟩ := H.map hi hp
  rw [mf] at he3
  have hck := fun em => run_checkKey (w := w) hk hy hok em
  rcases kj he3 with ⟨g1, g2⟩ | ⟨j, kk, val, bb, g1, g2⟩
  ·obtain ⟨cr, f1, f2, f3⟩ := g1.find H hd hk hy 0 h2
   cases cr with
   | some q => exact f3.elim
   | none =>
    obtain ⟨rfl, rfl⟩ := RV.ak g2
    obtain ⟨s1, s2, s3⟩ := HR.rk (P := P) (ck' := ck + 1) H hi hp (es := es.push { key := cy, val := cz, born := ck }) (l' := snoc l (.mk b c ck)) (by rw [Array.toList_push]; exact h2.snoc hy hz rfl) h1
    refine ⟨rfl, _, φ, ?_, s2, s3⟩
    simp [Instr.mapUpdate, ai ht, cA h1 rfl, hck, run_findKey hd f1 f2, s1]
  ·obtain ⟨cr, f1, f2, f3⟩ := g1.find H hd hk hy 0 h2
   cases cr with
   | none => exact f3.elim
   | some q =>
    obtain ⟨j', cv⟩ := q
    obtain ⟨rfl, u0, e0, u1, u2, u3, u4, u5⟩ := f3
    obtain ⟨rfl, rfl⟩ := RV.ak g2
    have hsb := pW (h := h) hy u3 u4
    have hes : (es.modify (0 + j) fun e => { e with key := cy, val := cz }).toList = es.toList.modify (0 + j) fun e => { e with key := cy, val := cz } := by simp
    obtain ⟨s1, s2, s3⟩ := HR.rk (P := P) (ck' := ck) H hi hp (es := es.modify (0 + j) fun e => { e with key := cy, val := cz }) (l' := yp (0 + j) b c l) (by rw [hes]; exact h2.set _ hy hz) h1
    have hge : es[0 + j]? = some e0 := by rw [Nat.zero_add]; simpa using u1
    have hks : (Instr.keyThatStays (((es[0 + j]?).map (·.key)).getD cy) cy).run P w = .ok cy w := by
     rw [hge]
     simp [Instr.keyThatStays, hsb]
    refine ⟨rfl, _, φ, ?_, s2, s3⟩
    simp only [Instr.mapUpdate, Sem.run_bind, ai ht, Result.andThen_ok, cA h1 rfl, hck, run_findKey hd f1 f2, hks, s1]
 ·cases he2
variable {P : Program} {φ : aI} {h h' : Hp} {w : World} {v : AV} {x y z : AO} {r : A2} {cx cy : Value}
theorem HD {t : TypeId} {d : TypeDesc} (H : HR φ h w) (hx : VR φ (ev x r) cx) (hd : P.underlying t = some d) (hn : ∀ m, d ≠ .interface m) (he : zS t x r h = .ok v h') : Good φ h w v h' ((Instr.makeInterface t cx).run P w) := by
 obtain ⟨rfl, rfl⟩ := RV.ak he
 refine .same H (.iface t _ _ hx) ?_
 simp only [Instr.makeInterface, Sem.run_bind, ai hd, Result.andThen_ok]
 cases d <;> first | rfl | exact absurd rfl (hn _)
theorem JF (x : AO) (xs : List AO) (r : A2) : fL (x :: xs) r = ev x r :: fL xs r := rfl
theorem na {G : Gl} {ρ : Operand → Value} : ∀ {os : List Operand} {xs : List AO}, os.mapM (cO G) = some xs → (∀ o, o ∈ os → ∀ a, cO G o = some a → VR φ (ev a r) (ρ o)) → cL φ (fL xs r) (os.map ρ)
 | [], xs, e, _ => by simp at e; subst e; exact .nil
 | o :: os, xs, e, hv => by
  simp only [List.mapM_cons, Option.pure_def, Option.bind_eq_bind, Option.bind_eq_some_iff, Option.some.injEq] at e
  obtain ⟨a, ha, as, has, rfl⟩ := e
  rw [JF]
  exact .cons _ _ _ _ (hv o (by simp) a ha) (na has fun o ho => hv o (by simp [ho]))
theorem HE {f : Nat} {xs : List AO} {vs : List Value} (H : HR φ h w) (hx : cL φ (fL xs r) vs) (he : zT f xs r h = .ok v h') : Good φ h w v h' ((Instr.makeFunc (.func f) #[] vs.toArray).run P w) := by
 obtain ⟨rfl, rfl⟩ := RV.ak he
 exact .same H (.fn f _ _ hx) rfl
theorem HS {t xt : TypeId} {zv : AV} {ok : Bool} {a : AV} {d : TypeDesc} (H : HR φ h w) (hx : VR φ a cx) (hd : P.underlying t = some d) (hn : ∀ m, d ≠ .interface m) (hz : kI P t = some zv) (he : OQ t zv ok a h = .ok v h') :
  Good φ h w v h' ((Instr.typeAssert cx xt t ok).run P w) := by
 unfold kI at hz
 simp only [Option.bind_eq_some_iff] at hz
 obtain ⟨cz, ⟨inf, hinf, hcz⟩, hz⟩ := hz
 have hvz := px hz φ
 cases a <;> (try (cases he; done))
 ·rename_i u b
  cases hx with
  | iface _ _ c hc =>
  have he2 : (@Bool.rec (fun _ => RV) (@Bool.rec (fun _ => RV) (.err 109) (DE true false zv h) ok) (DE ok true b h) (Nat.beq t u)) = .ok v h' := he
  cases htu : Nat.beq t u with
  | true =>
   rw [htu] at he2
   have := Nat.eq_of_beq_eq_true htu
   subst this
   obtain ⟨u1, u2⟩ := rj hc he2
   subst u2
   refine .same H u1 ?_
   simp only [Instr.typeAssert, Sem.run_bind, ai hd, Result.andThen_ok]
   cases d <;> first | (simp; done) | exact absurd rfl (hn _)
  | false =>
   rw [htu] at he2
   have hne : u ≠ t := fun e => by subst e; rw [Nat.beq_refl] at htu; cases htu
   cases ok with
   | false => cases he2
   | true =>
    obtain ⟨u1, u2⟩ := rj (ok := true) hvz he2
    subst u2
    refine .same H u1 ?_
    simp only [Instr.typeAssert, Sem.run_bind, ai hd, Result.andThen_ok]
    cases d <;> first | (simp [hne, zeroValue, bM hinf, hcz]; done) | exact absurd rfl (hn _)
 ·cases hx
  cases ok with
  | false => cases he
  | true =>
   obtain ⟨u1, u2⟩ := rj (ok := true) hvz (show DE true false zv h = .ok v h' from he)
   subst u2
   refine .same H u1 ?_
   simp only [Instr.typeAssert, Sem.run_bind, ai hd, Result.andThen_ok]
   cases d <;> first | (simp [zeroValue, bM hinf, hcz]; done) | exact absurd rfl (hn _)
variable {P : Program} {φ : aI} {h h' : Hp} {w : World} {v : AV} {x y z : AO} {r : A2} {cx cy : Value}
theorem wrap64 {m : Nat} (hm : m ≤ 16777216) : IntKind.i64.wrap (m : Int) = (m : Int) := by
 have : jv .i64 (Int.ofNat m) = Int.ofNat m := by
  have hb : Nat.ble m 9223372036854775807 = true := Nat.ble_eq_true_of_le (by omega)
  show (@Bool.rec (fun _ => Int) _ (Int.ofNat m) (Nat.ble m 9223372036854775807)) = _
  rw [hb]
 rw [dr] at this
 exact this
theorem xP {t e : TypeId} {zs : List AV} (H : HR φ h w) (hx : VR φ (ev x r) cx) (hy : VR φ (ev y r) cy) (ht : P.underlying t = some (.slice e)) (hz : gw P e = some zs) (hzl : zs.length = bp P e) (hes : bp P e ≠ 0) (hg : jE P e = true)
  (he : fV e zs x y r h = .ok v h') : Good φ h w v h' ((Instr.makeSlice t cx cy).run P w) := by
 obtain ⟨k1, l, e1, he1⟩ := dc he
 obtain ⟨k2, c, e2, he2⟩ := dc he1
 obtain ⟨h1, he3⟩ := az he2
 obtain ⟨h2, he4⟩ := az he3
 have h1 := cY h1
 have h2 := cY h2
 rw [e1] at hx
 rw [e2] at hy
 rw [hx.aW, hy.aW]
 obtain ⟨i, zv, hi, hzv, hzs, hby⟩ := mY hg
 obtain ⟨i', zv', hi', hzv', g1, g2⟩ := gz hz φ
 rw [hi] at hi'; cases hi'
 rw [hzv] at hzv'; cases hzv'
 obtain ⟨k1', k2'⟩ := eL g1 g2 c (c * i.size) (by rw [hzs])
 have hN := nZ H k1' k2' he4
 rw [cR hi] at hes
 have hes' : i.size ≠ 0 := hes
 have hw1 := wrap64 (m := l) (by omega)
 have hw2 := wrap64 (m := c) (by omega)
 have hb : i.bytes * c ≤ 281474976710656 := by
  have : i.bytes * c ≤ 1048576 * 16777216 := Nat.mul_le_mul hby h2
  omega
 have hbi : ((i.bytes : Int) * (c : Int)) ≤ 281474976710656 := by
  have := Int.ofNat_le.2 hb
  simpa using this
 have hrun : (Instr.makeSlice t (.int k1 (Int.ofNat l)) (.int k2 (Int.ofNat c))).run P w = .ok (.slice (some ⟨w.heap.size, 0, none⟩) l c) { w with heap := w.heap.push (.cells ((Array.range (c * i.size)).map (zv.cells[· % zv.cells.size]!)) e) } := by
  have ha : ∀ (k : IntKind) (m : Nat), (asIntOf (.int k (m : Int))).run P w = .ok (k, (m : Int)) w := fun _ _ => rfl
  have hcond : ¬ (((((c : Int) < 0 ∨ 281474976710656 < (i.bytes : Int) * (c : Int)) ∨ (l : Int) < 0) ∨ c < l)) := by omega
  simp only [Instr.makeSlice]
  simp [aP hi, eA, ha, hw1, hw2, ai ht, bM hi, asInt, zeroValue, hzv]
  rw [if_neg hcond]
  by_cases h0 : c * i.size = 0
  ·rw [if_pos h0, h0]
   have : ∀ g : Nat → Value, (Array.range 0).map g = #[] := by intro g; simp
   rw [this, this]
  ·rw [if_neg h0]
 rw [hrun]
 exact hN
variable {P : Program} {φ : aI} {h h' : Hp} {w : World} {v : AV} {x y z : AO} {r : A2} {cx cy : Value}
theorem cL.drop : ∀ {as : List AV} {vs : List Value} (n : Nat), cL φ as vs → cL φ (as.drop n) (vs.drop n)
 | _, _, 0, h => by simpa using h
 | _, _, n + 1, .nil => by simpa using cL.nil
 | _, _, n + 1, .cons _ _ _ _ e es => cL.drop n es
theorem yA {t : TypeId} {d : TypeDesc} {i : TypeInfo} (hd : P.underlying t = some d) (ha : sN P t = true) (hi : P.info? t = some i) {vs : List Value} {o : Nat} : (part t vs.toArray o).run P w = .ok (.agg ((vs.drop o).take i.size).toArray) w := by
 have : vs.toArray.extract o (o + i.size) = ((vs.drop o).take i.size).toArray := by
  apply Array.ext'
  rw [Array.toList_extract, List.extract_eq_take_drop]
  simp
 simp [part, hS hd, ha, aP hi]
theorem uS {l : List AV} {vs : List Value} (H : HR φ h w) (hv : cL φ l vs) {t : TypeId} {d : TypeDesc} (hd : P.underlying t = some d) (ha : sN P t = false) {o n : Nat} (he : (List.rec (.err n) (fun v _ _ => .ok v h) (List.drop o l) : RV) = .ok v h') :
  Good φ h w v h' ((part t vs.toArray o).run P w) := by
 obtain ⟨a, tl, ed, e2⟩ := yx (k := fun v => .ok v h) he
 obtain ⟨rfl, rfl⟩ := RV.ak e2
 obtain ⟨hi, hb⟩ := drop_cons ed
 have hi' : o < vs.length := by rw [← hv.length]; exact hi
 exact .same H (cv := vs[o]) (by rw [← hb]; exact hv.get o hi hi') (gX hd ha (by simp [hi']))
theorem uT {l : List AV} {vs : List Value} (H : HR φ h w) (hv : cL φ l vs) (h1 : ∀ c, c ∈ vs → c.oneCell' = true) {t : TypeId} {d : TypeDesc} {i : TypeInfo} (hd : P.underlying t = some d) (ha : sN P t = true) (hi : P.info? t = some i) {o n : Nat}
  (he : (Bool.rec (.err n) (.ok (.agg (List.take i.size (List.drop o l))) h) (Nat.ble (o + i.size) l.length) : RV) = .ok v h') : Good φ h w v h' ((part t vs.toArray o).run P w) := by
 obtain ⟨hb, e2⟩ := az he
 obtain ⟨rfl, rfl⟩ := RV.ak e2
 exact .same H (.agg _ _ ((hv.drop o).take i.size) (fun c hc => h1 c (List.mem_of_mem_drop (List.mem_of_mem_take hc)))) (yA hd ha hi)
theorem Fy {t : TypeId} {fs : Array Field} {f : Nat} {fd : Field} {d : TypeDesc} (H : HR φ h w) (hx : VR φ (ev x r) cx) (ht : P.underlying t = some (.struct fs)) (hf : fs[f]? = some fd) (hd : P.underlying fd.type = some d) (ha : sN P fd.type = false)
  (he : qK fd.offset x r h = .ok v h') : Good φ h w v h' ((Instr.field t cx f).run P w) := by
 obtain ⟨l, el, he2⟩ := dq he
 rw [el] at hx
 obtain ⟨vs, rfl, hvs, _⟩ := hx.gj
 have := uS (P := P) H hvs hd ha he2
 simp [Instr.field, ai ht, hf, asAgg]
 exact this
theorem Fx {t : TypeId} {fs : Array Field} {f : Nat} {fd : Field} {d : TypeDesc} {i : TypeInfo} (H : HR φ h w) (hx : VR φ (ev x r) cx) (ht : P.underlying t = some (.struct fs)) (hf : fs[f]? = some fd) (hd : P.underlying fd.type = some d) (ha : sN P fd.type = true) (hi : P.info? fd.type = some i)
  (he : qL fd.offset i.size x r h = .ok v h') : Good φ h w v h' ((Instr.field t cx f).run P w) := by
 obtain ⟨l, el, he2⟩ := dq he
 rw [el] at hx
 obtain ⟨vs, rfl, hvs, h1⟩ := hx.gj
 have := uT (P := P) H hvs h1 hd ha hi he2
 simp [Instr.field, ai ht, hf, asAgg]
 exact this
theorem FB {t e : TypeId} {n : Nat} {d : TypeDesc} {i : TypeInfo} (H : HR φ h w) (hx : VR φ (ev x r) cx) (hy : VR φ (ev y r) cy) (ht : P.underlying t = some (.array n e)) (hd : P.underlying e = some d) (hi : P.info? e = some i)
  (he : qM n i.size (sN P e) x y r h = .ok v h') : Good φ h w v h' ((Instr.index t cx cy).run P w) := by
 obtain ⟨kd, m, em, e1⟩ := dc he
 obtain ⟨l, el, e2⟩ := dq e1
 obtain ⟨hb, e3⟩ := az e2
 rw [el] at hx
 rw [em] at hy
 obtain ⟨vs, rfl, hvs, h1⟩ := hx.gj
 rw [hy.aW]
 have hm := lX hb
 have hrun : (Instr.index t (.agg vs.toArray) (.int kd (Int.ofNat m))).run P w = (part e vs.toArray (m * i.size)).run P w := by
  have hr : (0 : Int) ≤ Int.ofNat m ∧ Int.ofNat m < (n : Int) := wL (k := kd) hm
  simp only [Instr.index, asIntOf, Sem.run_bind, Sem.run_pure, Result.andThen_ok, ai ht]
  rw [if_pos hr]
  simp [aP hi]
 rw [hrun]
 rcases fx e3 with ⟨ha, e4⟩ | ⟨ha, e4⟩
 ·exact uS H hvs hd ha e4
 ·exact uT H hvs h1 hd ha hi e4
variable {P : Program} {φ : aI} {h h' : Hp} {w : World} {v : AV} {x y z : AO} {r : A2} {cx cy : Value}
theorem JG (mn : Bool) (k : IntKind) (h : Hp) (a : Int) : zZ mn k h [] a = .ok (.int k a) h := rfl
theorem wz (mn : Bool) (k : IntKind) (h : Hp) (y : AV) (l : List AV) (a : Int) : zZ mn k h (y :: l) a = AV.dC y (fun k' b => @Bool.rec (fun _ => RV) (.err 76) (zZ mn k h l (BZ mn a b)) (mc k k')) (.err 76) := rfl
theorem JH (k : IntKind) (a b : Int) : (Builtin.max2 (.int k a) (.int k b)).run P w = .ok (.int k (BZ false a b)) w := by
 have : BZ false a b = if b > a then b else a := by
  show (@Bool.rec (fun _ => Int) a b (MU a b)) = _
  rw [qW]
  by_cases g : a < b
  ·rw [decide_eq_true g, if_pos g]
  ·rw [decide_eq_false g, if_neg g]
 rw [this]; rfl
theorem JI (k : IntKind) (a b : Int) : (Builtin.min2 (.int k a) (.int k b)).run P w = .ok (.int k (BZ true a b)) w := by
 have : BZ true a b = if b < a then b else a := by
  show (@Bool.rec (fun _ => Int) a b (MU b a)) = _
  rw [qW]
  by_cases g : b < a
  ·rw [decide_eq_true g, if_pos g]
  ·rw [decide_eq_false g, if_neg g]
 rw [this]; rfl
theorem yB {mn : Bool} {k : IntKind} {f : Value → Value → Sem Value} (hf : ∀ a b w, (f (.int k a) (.int k b)).run P w = .ok (.int k (BZ mn a b)) w) : ∀ {l : List AV} {vs : List Value} {a : Int}, cL φ l vs → zZ mn k h l a = .ok v h' →
  ∃ n, v = .int k n ∧ h' = h ∧ (vs.foldlM f (.int k a)).run P w = .ok (.int k n) w
 | [], _, a, .nil, e => by
  rw [JG] at e
  obtain ⟨rfl, rfl⟩ := RV.ak e
  exact ⟨a, rfl, rfl, rfl⟩
 | y :: l, _, a, .cons _ c _ cs h1 h2, e => by
  rw [wz] at e
  obtain ⟨k', b, rfl, e2⟩ := bD e
  obtain ⟨hk, e3⟩ := az e2
  have := iu hk
  subst this
  obtain ⟨n, r1, r2, r3⟩ := yB hf h2 e3
  refine ⟨n, r1, r2, ?_⟩
  rw [h1.aW]
  simp only [List.foldlM_cons, Sem.run_bind, hf, Result.andThen_ok]
  exact r3
theorem zt {ts : Array TypeId} {ty : TypeId} {mn : Bool} {xs : List AO} {vs : List Value} (H : HR φ h w) (hx : cL φ (fL xs r) vs) (he : zU mn xs r h = .ok v h') :
  Good φ h w v h' ((if mn then Builtin.min_ ts ty vs.toArray else Builtin.max_ ts ty vs.toArray).run P w) := by
 change II mn (fL xs r) h = _ at he
 generalize fL xs r = l at hx he
 cases hx with
 | nil => cases he
 | cons a c as cs h1 h2 =>
  have he : AV.dC a (fun k b => zZ mn k h as b) (.err 76) = .ok v h' := he
  obtain ⟨k, b, rfl, e2⟩ := bD he
  rw [h1.aW]
  cases mn with
  | false =>
   obtain ⟨n, r1, r2, r3⟩ := yB (P := P) (w := w) (f := Builtin.max2) (fun a b w => JH k a b) h2 e2
   subst r1 r2
   exact .same H (.int k n) (by simpa [Builtin.max_] using r3)
  | true =>
   obtain ⟨n, r1, r2, r3⟩ := yB (P := P) (w := w) (f := Builtin.min2) (fun a b w => JI k a b) h2 e2
   subst r1 r2
   exact .same H (.int k n) (by simpa [Builtin.min_] using r3)
variable {P : Program} {φ : aI} {h h' : Hp} {w : World} {v : AV} {x y z : AO} {r : A2} {cx cy : Value} {t : TypeId} {p q : Operand}
theorem BQ {f : IntKind → Int → Int → AV} {a b : AV} (e : Sj f a b h = .ok v h') : ∃ k k' m n, a = .int k m ∧ b = .int k' n ∧ v = f k m n ∧ h' = h ∧ v ≠ .undef := by
 obtain ⟨k, m, rfl, e4⟩ := bD e
 obtain ⟨k', n, rfl, e5⟩ := bD e4
 obtain ⟨e1, e2, e3⟩ := Ed e5
 exact ⟨k, k', m, n, rfl, rfl, e1.symm, e2, fun e => e3 (e1.trans e)⟩
theorem JJ (H : HR φ h w) {a b : AV} (hx : VR φ a cx) (hy : VR φ b cy) (e : Sj QR a b h = .ok v h') : Good φ h w v h' ((do eqGuard .shl t p q cx cy; binOp .shl t cx cy : Sem Value).run P w) := by
 obtain ⟨k, k', m, n, rfl, rfl, rfl, rfl, hn⟩ := BQ e
 rw [hx.aW, hy.aW]
 cases n with
 | negSucc n => exact absurd rfl hn
 | ofNat n =>
  have hv : QR k m (.ofNat n) = .int k (k.wrap (m * 2 ^ (min n k.bits))) := by
   show AV.int k (jv k (MT m (.ofNat (Nat.pow 2 (Nat.min n (mj k)))))) = _
   rw [dr, Ea, tf]
   congr 3
  rw [hv]
  refine .same H (.int _ _) ?_
  have h0 : ¬ ((n : Int) < 0) := by omega
  simp [eS, binOp, Op.shift, h0]
theorem JK (H : HR φ h w) {a b : AV} (hx : VR φ a cx) (hy : VR φ b cy) (e : Sj QS a b h = .ok v h') : Good φ h w v h' ((do eqGuard .shr t p q cx cy; binOp .shr t cx cy : Sem Value).run P w) := by
 obtain ⟨k, k', m, n, rfl, rfl, rfl, rfl, hn⟩ := BQ e
 rw [hx.aW, hy.aW]
 cases n with
 | negSucc n => exact absurd rfl hn
 | ofNat n =>
  have hv : QS k m (.ofNat n) = .int k (m.fdiv (2 ^ (min n k.bits))) := by
   cases m with
   | ofNat m =>
    show AV.int k (.ofNat (Nat.div m (Nat.pow 2 (Nat.min n (mj k))))) = _
    rw [tf]
    congr 1
    have : (2 : Int) ^ (min n k.bits) = ((2 ^ (min n k.bits) : Nat) : Int) := by simp
    rw [this, Int.fdiv_eq_ediv_of_nonneg _ (Int.natCast_nonneg _)]
    rfl
   | negSucc m =>
    show AV.int k (Int.fdiv (.negSucc m) (2 ^ (Nat.min n (mj k)))) = _
    rw [tf]
  rw [hv]
  refine .same H (.int _ _) ?_
  have h0 : ¬ ((n : Int) < 0) := by omega
  simp [eS, binOp, Op.shift, h0]
def Vl (P : Program) (k : NK) (t : TypeId) : Prop := match k with
 | .s => ∃ e, P.underlying t = some (.slice e)
 | .m => ∃ a b, P.underlying t = some (.map a b)
 | .f => ∃ a b c, P.underlying t = some (.func a b c)
 | .i => ∃ a, P.underlying t = some (.interface a)
def uU (k : NK) : Value := match k with
 | .s => .slice none 0 0
 | .m => .map none
 | .f => .nilFunc
 | .i => .nilIface
theorem fp {k : NK} {y : Operand} (e : vF k y = true) : y = .const (uU k) := by
 unfold vF at e
 split at e <;> first | rfl | cases e
theorem Az (d : Nat) {k : NK} (hk : Vl P k t) {a : AV} (hx : VR φ a cx) {c : Bool} (hc : tM k a = EB.of c) :
  (Op.equalIn (d + 1) t cx (uU k)).run P w = .ok c w ∧ (Op.equalIn (d + 1) t (uU k) cx).run P w = .ok c w := by
 unfold Op.equalIn
 cases k with
 | s =>
  obtain ⟨e, ht⟩ := hk
  simp only [Sem.run_bind, ai ht, Result.andThen_ok, uU]
  cases a <;> (try (cases c <;> cases hc; done)) <;> cases hx <;> cases c <;> (try (cases hc; done)) <;> exact ⟨rfl, rfl⟩
 | m =>
  obtain ⟨e, f, ht⟩ := hk
  simp only [Sem.run_bind, ai ht, Result.andThen_ok, uU]
  cases a <;> (try (cases c <;> cases hc; done)) <;> cases hx <;> cases c <;> (try (cases hc; done)) <;> exact ⟨rfl, rfl⟩
 | f =>
  obtain ⟨e, f, g, ht⟩ := hk
  simp only [Sem.run_bind, ai ht, Result.andThen_ok, uU]
  cases a <;> (try (cases c <;> cases hc; done)) <;> cases hx <;> cases c <;> (try (cases hc; done)) <;> exact ⟨rfl, rfl⟩
 | i =>
  obtain ⟨e, ht⟩ := hk
  simp only [Sem.run_bind, ai ht, Result.andThen_ok, uU]
  cases a <;> (try (cases c <;> cases hc; done)) <;> cases hx <;> cases c <;> (try (cases hc; done)) <;> exact ⟨rfl, rfl⟩
theorem AA {op : BinOp} {k : NK} {a : AV} (hx : VR φ a cx) {c : Bool} (hc : tM k a = EB.of c) (p : Operand) : (eqGuard op t p (.const (uU k)) cx (uU k)).run P w = .ok () w ∧ (eqGuard op t (.const (uU k)) p (uU k) cx).run P w = .ok () w := by
 unfold eqGuard
 cases k <;> cases a <;> (try (cases c <;> cases hc; done)) <;> cases hx <;> cases op <;> simp [uU]
theorem Cr (k : NK) : (∀ j n, uU k ≠ .int j n) ∧ (∀ j n, uU k ≠ .float j n) ∧ (∀ j m n, uU k ≠ .complex j m n) ∧ (∀ s, uU k ≠ .string s) := by
 cases k <;> simp [uU]
theorem yC {k : NK} {a : AV} (hx : VR φ a cx) {c : Bool} (hc : tM k a = EB.of c) : (∀ j n, cx ≠ .int j n) ∧ (∀ j n, cx ≠ .float j n) ∧ (∀ j m n, cx ≠ .complex j m n) ∧ (∀ s, cx ≠ .string s) := by
 cases k <;> cases a <;> (try (cases c <;> cases hc; done)) <;> cases hx <;> simp
theorem bO (neg : Bool) {k : NK} (hk : Vl P k t) (H : HR φ h w) {a : AV} (hx : VR φ a cx) (p : Operand) (e : EB.rv neg h (tM k a) = .ok v h') :
  Good φ h w v h' ((do eqGuard (if neg then .neq else .eql) t p (.const (uU k)) cx (uU k); binOp (if neg then .neq else .eql) t cx (uU k) : Sem Value).run P w) ∧
  Good φ h w v h' ((do eqGuard (if neg then .neq else .eql) t (.const (uU k)) p (uU k) cx; binOp (if neg then .neq else .eql) t (uU k) cx : Sem Value).run P w) := by
 obtain ⟨c, hc, rfl, rfl⟩ := pO e
 obtain ⟨r1, r2⟩ := Az (P := P) (w := w) 9999 hk hx hc
 obtain ⟨a1, a2, a3, a4⟩ := yC hx hc
 obtain ⟨b1, b2, b3, b4⟩ := Cr k
 obtain ⟨g1, g2⟩ := eP r1 a1 a2 a3 a4
 obtain ⟨g3, g4⟩ := eP r2 b1 b2 b3 b4
 have hg := fun op => AA (P := P) (w := w) (op := op) (t := t) hx hc p
 constructor
 ·refine .same H (.bool _) ?_
  cases neg
  ·simp [(hg _).1, g1]
  ·simp [(hg _).1, g2]
 ·refine .same H (.bool _) ?_
  cases neg
  ·simp [(hg _).2, g3]
  ·simp [(hg _).2, g4]
inductive RT.aG : RT → RT → Prop
 | ok (v : AV) (h : Hp) : aG (.ok v h) (.ok v h)
 | err (n : Nat) : aG (.err n) (.err n)
 | ch (n : Nat) (k : Nat → RT) (c : Nat) (y : RT) : c < n → aG (k c) y → aG (.ch n k) y
def RT.Safe (x : RT) : Prop := ∀ n, ¬ x.aG (.err n)
theorem RT.Safe.err {n : Nat} (h : (RT.err n).Safe) : False := h n (.err n)
theorem RT.Safe.ch {n c : Nat} {k : Nat → RT} (h : (RT.ch n k).Safe) (hc : c < n) : (k c).Safe := fun m hm => h m (.ch n k c _ hc hm)
variable {P : Program} {φ : aI} {h h' : Hp} {w : World} {v : AV} {x y z : AO} {r : A2} {cx cy : Value} {t : TypeId}
def wN (φ : aI) (h : Hp) (w : World) (x : RT) (r : Result Value) : Prop := ∃ v h', x.aG (.ok v h') ∧ Good φ h w v h' r
theorem Good.lL {x : RT} {r : Result Value} (g : Good φ h w v h' r) (e : x = .ok v h') : wN φ h w x r := ⟨v, h', e ▸ .ok v h', g⟩
theorem HR.heap {w' : World} (H : HR φ h w) (e : w'.heap = w.heap) : HR φ h w' := ⟨by rw [e]; exact H.obj, H.inj, H.fresh, by rw [e]; exact H.bound⟩
theorem Step.heap {w' : World} (e : w'.heap = w.heap) (ht : w'.tape = w.tape) (ho : w'.os = w.os) (hu : w'.output = w.output) : Step φ h w φ h w' :=
 ⟨φ.le_refl, ⟨by rw [e]; exact Nat.le_refl _, fun b _ _ => by rw [e], ht, ho, hu⟩, fun _ _ a b => .inl ⟨a, b, id⟩⟩
theorem HR.newObj (H : HR φ h w) {o : Obj} {ob : Go.Obj} (hi : ag h.next h = .none) (ho : o ≠ .none) (hOR : OR (φ.put h.next ⟨w.heap.size, 0, 0⟩) o ⟨w.heap.size, 0, 0⟩ (some ob)) :
  Good φ h w (.ptr h.next 0) (.mk (df h.next o h.tree) h.next.succ) (.ok (.pointer (some ⟨w.heap.size, 0, none⟩)) { w with heap := w.heap.push ob }) := by
 have hw : ({ w with heap := w.heap.push ob } : World).heap = w.heap.push ob := rfl
 have hle := aI.iD (φ := φ) (i := h.next) ⟨w.heap.size, 0, 0⟩ (H.fresh _ hi)
 have g1 := H.new (w' := { w with heap := w.heap.push ob }) (n' := h.next.succ) (room := 0) hi hw ho hOR
 refine ⟨_, _, _, rfl, ?_, g1, hle, .new hw rfl rfl rfl, fun j q hj hq => ?_⟩
 ·have := VR.ptr (φ := φ.put h.next ⟨w.heap.size, 0, 0⟩) h.next 0 _ (aI.aJ _ _ _)
  simpa [Place.addr] using this
 ·rw [eC] at hj
  by_cases e : j = h.next
  ·subst e
   rw [aI.aJ] at hq; cases hq
   exact .inr (.inl (Nat.le_refl _))
  ·rw [if_neg e] at hj
   exact .inl ⟨hj, by simpa [aI.put, e] using hq, fun x => by rw [eC, if_neg e] at x; exact x⟩
theorem run_newObj (o : Go.Obj) : (newObj o).run P w = .ok w.heap.size { w with heap := w.heap.push o } := by
 show (Sem.new o .pure).run P w = _
 simp [Sem.run]
theorem FC {k e : TypeId} (H : HR φ h w) (hx : VR φ (ev x r) cx) (ht : P.underlying t = some (.map k e)) (he : uy x r h = .ok v h') : Good φ h w v h' ((Instr.range t cx).run P w) := by
 rcases fy he with ⟨m, em, he2⟩ | ⟨em, he2⟩
 ·obtain ⟨l, c, hm, he3⟩ := dR he2
  rw [em] at hx
  obtain ⟨q, hq, rfl⟩ := hx.lv
  obtain ⟨es, h1, h2⟩ := H.map hm hq
  obtain ⟨hi, he4⟩ := ic he3
  obtain ⟨rfl, rfl⟩ := sZ he4
  have hle := aI.iD (φ := φ) (i := h.next) ⟨w.heap.size, 0, 0⟩ (H.fresh _ hi)
  have := H.newObj (o := .wD m c [] c) (ob := .mapIter (some q.da) c #[] c) hi (by simp) ⟨rfl, q, hle _ _ hq, rfl⟩
  simp [Instr.range, ai ht, cA h1 rfl, run_newObj]
  exact this
 ·obtain ⟨hi, he4⟩ := ic he2
  obtain ⟨rfl, rfl⟩ := sZ he4
  rw [em] at hx
  rw [hx.pR]
  have := H.newObj (o := .DL) (ob := .mapIter none 0 #[] 0) hi (by simp) ⟨rfl, rfl⟩
  simp [Instr.range, ai ht, run_newObj]
  exact this
variable {P : Program} {φ : aI} {h h' : Hp} {w : World} {v : AV} {x y z : AO} {r : A2} {cx cy : Value} {t : TypeId}
theorem Ee (x : Nat) : ∀ l : List Nat, Nb x l = l.contains x
 | [] => rfl
 | y :: l => by
  show (@Bool.rec (fun _ => Bool) (Nb x l) true (Nat.beq x y)) = _
  rw [Ee x l, List.contains_cons]
  by_cases e : x = y
  ·subst e; rw [Nat.beq_refl]; simp
  ·have : Nat.beq x y = false := by rw [← Bool.not_eq_true]; intro g; exact e (Nat.eq_of_beq_eq_true g)
   have e2 : (x == y) = false := by simp [e]
   rw [this, e2]; simp
theorem uV (seen : List Nat) : ∀ {l : List KV} {es : List MapEntry}, cS φ l es → cS φ (jM seen l) (es.filter fun e => !seen.contains e.born)
 | _, _, .nil => .nil
 | _, _, .cons k v b e l es h1 h2 h3 hr => by
  have ih := uV seen hr
  show cS φ (@Bool.rec (fun _ => List KV) (.cons (.mk k v b) (jM seen l)) (jM seen l) (Nb b seen)) _
  rw [List.filter_cons, Ee, h3]
  cases hb : seen.contains b
  ·simp only [Bool.not_false, if_true]; exact .cons k v b e _ _ h1 h2 h3 ih
  ·simp only [Bool.not_true, Bool.false_eq_true, if_false]; exact ih
theorem uW (since : Nat) : ∀ {l : List KV} {es : List MapEntry}, cS φ l es → qT since l = false → ∀ e, e ∈ es → e.born < since
 | _, _, .nil, _, e, he => by cases he
 | _, _, .cons k v b e l es h1 h2 h3 hr, hf, e', he => by
  have hf : (@Bool.rec (fun _ => Bool) (qT since l) true (Nat.ble since b)) = false := hf
  cases hb : Nat.ble since b with
  | true => rw [hb] at hf; cases hf
  | false =>
   rw [hb] at hf
   rcases List.mem_cons.1 he with rfl | he
   ·rw [h3]
    rcases Nat.lt_or_ge b since with g | g
    ·exact g
    ·rw [Nat.ble_eq_true_of_le g] at hb; cases hb
   ·exact uW since hr hf e' he
theorem uX (last : Nat) : ∀ {l : List KV} {es : List MapEntry}, cS φ l es → qU last l = es.all fun e => decide (e.born ≥ last)
 | _, _, .nil => rfl
 | _, _, .cons k v b e l es h1 h2 h3 hr => by
  show (@Bool.rec (fun _ => Bool) false (qU last l) (Nat.ble last b)) = _
  rw [List.all_cons, uX last hr, h3]
  by_cases g : last ≤ b
  ·rw [Nat.ble_eq_true_of_le g]; simp [g]
  ·have : Nat.ble last b = false := by rw [← Bool.not_eq_true]; intro hh; exact g (Nat.le_of_ble_eq_true hh)
   rw [this]; simp [g]
theorem AB {α : Type} (l : List α) : nW l = l.isEmpty := by cases l <;> rfl
theorem cS.isEmpty : ∀ {l : List KV} {es : List MapEntry}, cS φ l es → l.isEmpty = es.isEmpty
 | _, _, .nil => rfl
 | _, _, .cons .. => rfl
theorem JL {α β : Type} (k : α → β) (e : β) : ∀ (l : List α) (i : Nat) (hi : i < l.length), nth l k e i = k l[i]
 | [], i, hi => by simp at hi
 | a :: l, 0, _ => rfl
 | a :: l, i + 1, hi => by
  show nth l k e i = _
  rw [JL k e l i (by simpa using hi)]; rfl
theorem cS.get : ∀ {l : List KV} {es : List MapEntry}, cS φ l es → ∀ (i : Nat) (h1 : i < l.length) (h2 : i < es.length), ∃ k v, l[i] = .mk k v es[i].born ∧ VR φ k es[i].key ∧ VR φ v es[i].val
 | _, _, .cons k v b e l es h1 h2 h3 hr, 0, _, _ => ⟨k, v, by simp [h3], h1, h2⟩
 | _, _, .cons k v b e l es h1 h2 h3 hr, i + 1, g1, g2 => cS.get hr i (by simpa using g1) (by simpa using g2)
theorem AD (n : Nat) (hn : 0 < n) : ∃ c w1, (choose (.mapNext n)).run P w = .ok c w1 ∧ c < n ∧ w1.heap = w.heap ∧ w1.tape = w.tape ∧ w1.os = w.os ∧ w1.output = w.output := by
 by_cases h1 : n ≤ 1
 ·refine ⟨0, w, ?_, by omega, rfl, rfl, rfl, rfl⟩
  rw [run_choose_drew, if_pos (by simp [Question.forced, h1])]
 ·refine ⟨(Question.mapNext n).cut (w.tape w.drawn (.mapNext n)), w.drew, ?_, ?_, rfl, rfl, rfl, rfl⟩
  ·rw [run_choose_drew, if_neg (by simp [Question.forced, h1])]
  ·exact Nat.mod_lt _ hn
theorem oU {b : Nat} {o : Go.Obj} (h1 : w.heap[b]? = some o) (hp : ∀ a c d, o ≠ .cells a c d) : (getObj b).run P w = .ok o w := by
 show (Sem.getObj b .pure).run P w = _
 cases o <;> first | exact absurd rfl (hp _ _ _) | simp only [Sem.run, h1]
theorem JM {f : KV → RT} (hf : ∀ y, ∃ v h', f y = .ok v h') (h : Hp) : ∀ (U : List KV) (c : Nat) (hc : c < U.length), (Sk f h U).aG (f U[c])
 | [], c, hc => by simp at hc
 | [y], c, hc => by
  have : c = 0 := by simp at hc; omega
  subst this
  show (f y).aG (f y)
  obtain ⟨v, h', e⟩ := hf y
  rw [e]; exact .ok _ _
 | y :: y2 :: t, c, hc => by
  refine .ch _ _ c _ hc ?_
  rw [JL _ _ _ c hc]
  obtain ⟨v, h', e⟩ := hf (y :: y2 :: t)[c]
  rw [e]; exact .ok _ _
theorem HR.setIter (H : HR φ h w) {i : P4} {p : Place} {o' : Obj} {ob : Go.Obj} (hl : live (ag i h)) (hp : φ i = some p) (hO : OR φ o' p (some ob)) (ho : o' ≠ .none) (hl' : live o') (hr : (ag i h).ro = false) {o0 : Go.Obj} (h0 : w.heap[p.da]? = some o0) (Vi : ∀ a c d, o0 ≠ .cells a c d) :
  (setObj p.da ob).run P w = .ok () { w with heap := w.heap.setIfInBounds p.da ob } ∧ HR φ (cM i o' h) { w with heap := w.heap.setIfInBounds p.da ob } ∧ Step φ h w φ (cM i o' h) { w with heap := w.heap.setIfInBounds p.da ob } := by
 have hb : p.da < w.heap.size := H.bound i p hp
 have hne : ∀ b, b ≠ p.da → (w.heap.setIfInBounds p.da ob)[b]? = w.heap[b]? := fun b hb => by
  rw [Array.getElem?_setIfInBounds, if_neg (fun e => hb e.symm)]
 refine ⟨?_, H.set ⟨hl, hr⟩ hp (by simp) hne (by simpa [hb] using hO) ho, φ.le_refl, gy.set ⟨hl, hr⟩ hp (by simp) hne rfl rfl rfl, fun j q hj hq => ?_⟩
 ·show (Sem.setObj p.da ob (.pure ())).run P w = _
  cases o0 <;> first | exact absurd rfl (Vi _ _ _) | simp only [Sem.run, h0]
 ·rw [aF] at hj
  by_cases e : j = i
  ·subst e; exact .inl ⟨hl, hq, fun _ => ⟨hl, hr⟩⟩
  ·rw [if_neg e] at hj; exact .inl ⟨hj, hq, fun x => by rw [aF, if_neg e] at x; exact x⟩
theorem BA {ty : TypeId} {a : AV} (H : HR φ h w) (hx : VR φ a cx) (hs : (Jd a h).Safe) : wN φ h w (Jd a h) ((Instr.next cx false ty).run P w) := by
 cases a <;> (try exact (RT.Safe.err hs).elim)
 rename_i i o
 obtain ⟨p, hp, rfl⟩ := hx.fG
 cases o with
 | succ o => exact (RT.Safe.err hs).elim
 | zero =>
  change RT.Safe (Obj.rec (.err 98) (.err 98) (fun _ _ _ _ _ => .err 98) (fun _ _ => .err 98) (fun _ _ => .err 98) (fun m since seen last => Sl i m since seen last h) (over h).lL (ag i h)) at hs
  show wN φ h w (Obj.rec (.err 98) (.err 98) (fun _ _ _ _ _ => .err 98) (fun _ _ => .err 98) (fun _ _ => .err 98) (fun m since seen last => Sl i m since seen last h) (over h).lL (ag i h)) _
  cases hi : ag i h <;> rw [hi] at hs <;> (try exact (RT.Safe.err hs).elim)
  ·rename_i m since seen last
   have hl : live (ag i h) := by rw [hi]; exact ⟨by simp, by simp⟩
   obtain ⟨p', hp', hor⟩ := H.obj i hl
   rw [hp] at hp'; cases hp'
   rw [hi] at hor
   obtain ⟨hb0, q, hq, hw⟩ := hor
   have hs : (Sl i m since seen last h).Safe := hs
   show wN φ h w (Sl i m since seen last h) _
   unfold Sl at hs ⊢
   cases hm : ag m h <;> rw [hm] at hs <;> (try exact (RT.Safe.err hs).elim)
   rename_i l clock
   have hs : RT.Safe (@Bool.rec (fun _ => RT) (@Bool.rec (fun _ => RT) (Sk (wG i m since seen clock h) h (jM seen l)) (.err 100) (Bool.and (Bool.not (nW seen)) (Bool.and (Bool.not (nW l)) (qU last l)))) (.err 103) (qT since l)) := hs
   show wN φ h w (@Bool.rec (fun _ => RT) (@Bool.rec (fun _ => RT) (Sk (wG i m since seen clock h) h (jM seen l)) (.err 100) (Bool.and (Bool.not (nW seen)) (Bool.and (Bool.not (nW l)) (qU last l)))) (.err 103) (qT since l)) _
   cases hA : qT since l with
   | true => rw [hA] at hs; exact (RT.Safe.err hs).elim
   | false =>
    cases hB : Bool.and (Bool.not (nW seen)) (Bool.and (Bool.not (nW l)) (qU last l)) with
    | true => rw [hA, hB] at hs; exact (RT.Safe.err hs).elim
    | false =>
     rw [hA, hB] at hs
     have hs : (Sk (wG i m since seen clock h) h (jM seen l)).Safe := hs
     show wN φ h w (Sk (wG i m since seen clock h) h (jM seen l)) _
     obtain ⟨es, g1, g2⟩ := H.map hm hq
     have hB' : (!seen.toArray.isEmpty && !es.isEmpty && es.all fun e => decide (e.born ≥ last)) = false := by
      rw [← hB, AB, AB, uX last g2, g2.isEmpty]
      simp [Bool.and_assoc]
     have hold := uW since g2 hA
     have hu := uV seen g2
     generalize hL : (es.toList.filter fun e => !seen.contains e.born) = L at hu
     have hleft : (es.filter fun e => !seen.toArray.contains e.born) = L.toArray := by
      rw [← hL]; apply Array.ext'; simp
     have hLb : ∀ e, e ∈ L → e.born < since := fun e he => hold e (by rw [← hL] at he; exact (List.mem_filter.1 he).1)
     have ho1 : Array.filter (fun e => decide (e.born < since)) L.toArray 0 L.length = L.toArray := by
      show L.toArray.filter (fun e => decide (e.born < since)) = _
      rw [Array.filter_eq_self]; intro e he; simpa using hLb e (by simpa using he)
     have ho2 : Array.filter (fun e => decide (e.born ≥ since)) L.toArray 0 L.length = #[] := by
      show L.toArray.filter (fun e => decide (e.born ≥ since)) = _
      rw [Array.filter_eq_empty_iff]; intro e he; have := hLb e (by simpa using he); simp; exact this
     have haddr : p.addr 0 = ⟨p.da, 0, none⟩ := by simp [Place.addr, hb0]
     have hobj : (getObj p.da).run P w = .ok (.mapIter (some q.da) since seen.toArray last) w := oU hw (by simp)
     have hmap : ∀ w1 : World, (getObj q.da).run P w = .ok (.map es clock) w := fun _ => cA g1 rfl
     -- the run, up to the choice
     have hcand : ((if L.toArray.isEmpty then #[(none : Option MapEntry)] else #[]) ++ (L.toArray ++ #[]).map some) = (if L.isEmpty then [none] else L.map some).toArray := by
      cases L <;> simp
     have hrun : ∀ c w1 o, (choose (.mapNext (if L.isEmpty then [none] else L.map some).length)).run P w = .ok c w1 → (if L.isEmpty then [none] else L.map some)[c]? = some o →
       (Instr.next (.pointer (some (p.addr 0))) false ty).run P w = (match o with
        | some e => ((do setObj p.da (.mapIter (some q.da) since (seen.toArray.push e.born) clock); pure (.tuple #[.bool true, e.key, e.val])) : Sem Value).run P w1
        | none => (.ok (.tuple #[.bool false]) w1 : Result Value)) := by
      intro c w1 o hc ho
      rw [haddr]
      simp only [Instr.next, Sem.run_bind, hobj, Result.andThen_ok, hmap w, hB', Bool.false_eq_true, if_false, hleft, ho1, ho2, hcand, List.size_toArray, hc]
      simp only [List.getElem?_toArray, ho]
      cases o <;> simp
     obtain ⟨c, w1, hc, hcn, e1, e2, e3, e4⟩ := AD (P := P) (w := w) (if L.isEmpty then [none] else L.map some).length (by cases L <;> simp)
     have H1 : HR φ h w1 := H.heap e1
     have S1 : Step φ h w φ h w1 := Step.heap e1 e2 e3 e4
     cases hL2 : L with
     | nil =>
      rw [hL2] at hu hrun hc hcn
      have hz : c = 0 := by simpa using hcn
      rw [hrun c w1 none hc (by subst hz; rfl)]
      cases hun : jM seen l with
      | cons y t => rw [hun] at hu; cases hu
      | nil => exact ⟨_, _, .ok _ _, _, _, φ, rfl, .jj [_] [_] (.cons _ _ _ _ (.bool _) .nil), H1, S1⟩
     | cons e0 L' =>
      rw [hL2] at hu hrun hc hcn
      have hlen := hu.length
      have hcn' : c < (e0 :: L').length := by simpa using hcn
      obtain ⟨k, u, hk, hv1, hv2⟩ := hu.get c (by omega) hcn'
      rw [hrun c w1 (some (e0 :: L')[c]) hc (by simp only [List.isEmpty_cons, Bool.false_eq_true, if_false, List.getElem?_map, List.getElem?_eq_getElem hcn', Option.map_some])]
      have hw1 : w1.heap[p.da]? = some (.mapIter (some q.da) since seen.toArray last) := by rw [e1]; exact hw
      obtain ⟨s1, s2, s3⟩ := HR.setIter (P := P) H1 (o' := .wD m since (seen ++ [(e0 :: L')[c].born]) clock) (ob := .mapIter (some q.da) since (seen.toArray.push (e0 :: L')[c].born) clock) hl hp ⟨hb0, q, hq, by simp⟩ (by simp) ⟨by simp, by simp⟩ (by rw [hi]; rfl) hw1 (by simp)
      have hlf := JM (f := wG i m since seen clock h) (fun y => by cases y; exact ⟨_, _, rfl⟩) h (jM seen l) c (by omega)
      rw [hk] at hlf
      refine ⟨_, _, hlf, .tuple #[.bool true, (e0 :: L')[c].key, (e0 :: L')[c].val], _, φ, ?_, ?_, s2, S1.trans s3⟩
      ·simp only [Sem.run_bind, s1, Result.andThen_ok, Sem.run_pure]
      ·exact .jj [_, _, _] [_, _, _] (.cons _ _ _ _ (.bool _) (.cons _ _ _ _ hv1 (.cons _ _ _ _ hv2 .nil)))
  ·have hl : live (ag i h) := by rw [hi]; exact ⟨by simp, by simp⟩
   obtain ⟨p', hp', hor⟩ := H.obj i hl
   rw [hp] at hp'; cases hp'
   rw [hi] at hor
   obtain ⟨hb0, hw⟩ := hor
   have haddr : p.addr 0 = ⟨p.da, 0, none⟩ := by simp [Place.addr, hb0]
   have hobj : (getObj p.da).run P w = .ok (.mapIter none 0 #[] 0) w := oU hw (by simp)
   refine ⟨_, _, .ok _ _, .same H (cv := .tuple #[.bool false]) (.jj [_] [_] (.cons _ _ _ _ (.bool _) .nil)) ?_⟩
   rw [haddr]
   simp only [Instr.next, Sem.run_bind, hobj, Result.andThen_ok, Sem.run_pure]
variable {P : Program} {φ : aI} {h h' : Hp} {w : World} {v : AV} {x y z : AO} {r : A2} {cx cy : Value} {t : TypeId}
theorem AE : ∀ {l : List Nat} {k : Nat → RV} {n : Nat}, Jf l k (.err n) = .ok v h → ∃ b, l.getLast? = some b ∧ k b = .ok v h
 | [], _, _, e => by cases e
 | [a], _, _, e => ⟨a, rfl, e⟩
 | a :: b :: l, k, n, e => by
  obtain ⟨c, h1, h2⟩ := AE (l := b :: l) (show Jf (b :: l) k (.err n) = _ from e)
  exact ⟨c, by rw [List.getLast?_cons_cons]; exact h1, h2⟩
theorem AG {b n : Nat} {k : AV → AV → RV} : ∀ {l : List KV} {es : List MapEntry}, cS φ l es → Je b l k (.err n) = .ok v h → ∃ e a c, es.find? (fun e => e.born == b) = some e ∧ VR φ a e.key ∧ VR φ c e.val ∧ k a c = .ok v h
 | _, _, .nil, e => by cases e
 | _, _, .cons a c b' e l es h1 h2 h3 hr, he => by
  have he : (@Bool.rec (fun _ => RV) (Je b l k (.err n)) (k a c) (Nat.beq b b')) = _ := he
  rw [List.find?_cons]
  cases hb : Nat.beq b b' with
  | true =>
   rw [hb] at he
   have hb := Nat.eq_of_beq_eq_true hb
   have : (e.born == b) = true := by simp [h3, hb]
   rw [this]
   exact ⟨e, a, c, rfl, h1, h2, he⟩
  | false =>
   rw [hb] at he
   have hne : e.born ≠ b := by
    intro e1; rw [h3] at e1; subst e1; rw [Nat.beq_refl] at hb; cases hb
   have : (e.born == b) = false := by simp [hne]
   rw [this]
   exact AG hr he
theorem HQ (H : HR φ h w) (hx : VR φ (ev x r) cx) (he : zV x r h = .ok v h') : Good φ h w v h' ((Instr.entry cx).run P w) := by
 obtain ⟨i, o, ep, he⟩ := cQ he
 rw [ep] at hx
 obtain ⟨p, hp, rfl⟩ := hx.fG
 cases o with
 | succ o => cases he
 | zero =>
  change (Obj.rec (.err 104) (.err 104) (fun _ _ _ _ _ => .err 104) (fun _ _ => .err 104) (fun _ _ => .err 104) (fun m _ seen stepped => QU m seen stepped h) (.err 104) (ag i h) : RV) = _ at he
  cases hi : ag i h <;> rw [hi] at he <;> (try (cases he; done))
  rename_i m since seen stepped
  have hl : live (ag i h) := by rw [hi]; exact ⟨by simp, by simp⟩
  obtain ⟨p', hp', hor⟩ := H.obj i hl
  rw [hp] at hp'; cases hp'
  rw [hi] at hor
  obtain ⟨hb0, q, hq, hw⟩ := hor
  obtain ⟨b, hb, he⟩ := AE (show QU m seen stepped h = _ from he)
  obtain ⟨l, clock, hm, he⟩ := dR he
  obtain ⟨hc, he⟩ := az he
  have hc := Nat.eq_of_beq_eq_true hc
  obtain ⟨es, g1, g2⟩ := H.map hm hq
  obtain ⟨e, a, c, f1, f2, f3, he⟩ := AG g2 he
  obtain ⟨rfl, rfl⟩ := RV.ak he
  have haddr : p.addr 0 = ⟨p.da, 0, none⟩ := by simp [Place.addr, hb0]
  have hobj : (getObj p.da).run P w = .ok (.mapIter (some q.da) since seen.toArray stepped) w := oU hw (by simp)
  refine .same H (cv := .tuple #[e.key, e.val]) (.jj [_, _] [_, _] (.cons _ _ _ _ f2 (.cons _ _ _ _ f3 .nil))) ?_
  rw [haddr]
  have hback : seen.toArray.back? = some b := by rw [← hb]; simp
  have hfind : es.find? (fun e => e.born == b) = some e := by rw [← Array.find?_toList]; exact f1
  subst hc
  simp [Instr.entry, hobj, hback, cA g1 rfl, hfind]
variable {P : Program} {φ : aI} {h h' : Hp} {w : World} {v : AV} {r : A2} {cx cy : Value}
section
variable {t : TypeId} {p q : Operand}
theorem sJ {op : BinOp} {k k' : FloatKind} {m n : Nat} : (eqGuard op t p q (.float k m) (.float k' n)).run P w = .ok () w := by
 unfold eqGuard
 cases op <;> simp
theorem rm {op : BinOp} {k k' : FloatKind} {a b c d : Nat} : (eqGuard op t p q (.complex k a b) (.complex k' c d)).run P w = .ok () w := by
 unfold eqGuard
 cases op <;> simp
theorem Nr {k : FloatKind} {op : BinOp} {a b : Nat} (e : MG k op a b h = .ok v h') : h' = h ∧ ∃ c, (binOp op t (.float k a) (.float k b)).run P w = .ok c w ∧ VR φ v c := by
 cases op <;> first | (cases e; done) | skip
 case add =>
  have e : (match k.format.add a b with | some r => RV.ok (.nG k r) h | none => .err 7) = .ok v h' := e
  cases hr : k.format.add a b with
  | none => rw [hr] at e; cases e
  | some r =>
   rw [hr] at e
   obtain ⟨rfl, rfl⟩ := RV.ak e
   exact ⟨rfl, _, by simp [binOp, Op.floatArith, hr], .nG _ _⟩
 case sub =>
  have e : (match k.format.sub a b with | some r => RV.ok (.nG k r) h | none => .err 7) = .ok v h' := e
  cases hr : k.format.sub a b with
  | none => rw [hr] at e; cases e
  | some r =>
   rw [hr] at e
   obtain ⟨rfl, rfl⟩ := RV.ak e
   exact ⟨rfl, _, by simp [binOp, Op.floatArith, hr], .nG _ _⟩
 case mul =>
  have e : (match k.format.mul a b with | some r => RV.ok (.nG k r) h | none => .err 7) = .ok v h' := e
  cases hr : k.format.mul a b with
  | none => rw [hr] at e; cases e
  | some r =>
   rw [hr] at e
   obtain ⟨rfl, rfl⟩ := RV.ak e
   exact ⟨rfl, _, by simp [binOp, Op.floatArith, hr], .nG _ _⟩
 case quo =>
  have e : (match k.format.div a b with | some r => RV.ok (.nG k r) h | none => .err 7) = .ok v h' := e
  cases hr : k.format.div a b with
  | none => rw [hr] at e; cases e
  | some r =>
   rw [hr] at e
   obtain ⟨rfl, rfl⟩ := RV.ak e
   exact ⟨rfl, _, by simp [binOp, Op.floatArith, hr], .nG _ _⟩
 all_goals
  obtain ⟨rfl, rfl⟩ := RV.ak e
  exact ⟨rfl, _, by simp [binOp, Op.floatCmp], .bool _⟩
theorem JN {op : BinOp} (H : HR φ h w) {a b : AV} (hx : VR φ a cx) (hy : VR φ b cy) (e : Iz op a b h = .ok v h') : Good φ h w v h' ((do eqGuard op t p q cx cy; binOp op t cx cy : Sem Value).run P w) := by
 obtain ⟨k, m, ea, e1⟩ := ew e
 obtain ⟨k', n, eb, e2⟩ := ew e1
 obtain ⟨hk, e3⟩ := az e2
 clear e e1 e2
 obtain rfl := jX hk
 subst ea eb
 rw [hx.np, hy.np]
 obtain ⟨rfl, c, h1, h2⟩ := Nr (P := P) (w := w) (t := t) (φ := φ) e3
 refine .same H h2 ?_
 simp [sJ, h1]
theorem JO {k : FloatKind} {op : BinOp} {a b c d : Nat} (e : DC k op a b c d h = .ok v h') : h' = h ∧ ∃ x, (binOp op t (.complex k a b) (.complex k c d)).run P w = .ok x w ∧ VR φ v x := by
 cases op <;> first | (cases e; done) | skip
 case add =>
  have e : (match k.format.add a c, k.format.add b d with | some r, some s => RV.ok (.iq k r s) h | _, _ => .err 8) = .ok v h' := e
  cases hr : k.format.add a c with
  | none => rw [hr] at e; cases e
  | some r =>
   cases hs : k.format.add b d with
   | none => rw [hr, hs] at e; cases e
   | some s =>
    rw [hr, hs] at e
    obtain ⟨rfl, rfl⟩ := RV.ak e
    exact ⟨rfl, _, run_complex_sum w .add (.inl rfl) t k a b c d r s (by simp [cSumBits, floatBits, hr, hs]), .iq _ _ _⟩
 case sub =>
  have e : (match k.format.sub a c, k.format.sub b d with | some r, some s => RV.ok (.iq k r s) h | _, _ => .err 8) = .ok v h' := e
  cases hr : k.format.sub a c with
  | none => rw [hr] at e; cases e
  | some r =>
   cases hs : k.format.sub b d with
   | none => rw [hr, hs] at e; cases e
   | some s =>
    rw [hr, hs] at e
    obtain ⟨rfl, rfl⟩ := RV.ak e
    exact ⟨rfl, _, run_complex_sum w .sub (.inr rfl) t k a b c d r s (by simp [cSumBits, floatBits, hr, hs]), .iq _ _ _⟩
 all_goals
  obtain ⟨rfl, rfl⟩ := RV.ak e
 ·exact ⟨rfl, _, run_eql_complex w t k a b c d, .bool _⟩
 ·exact ⟨rfl, _, run_neq_complex w t k a b c d, .bool _⟩
theorem JP {op : BinOp} (H : HR φ h w) {a b : AV} (hx : VR φ a cx) (hy : VR φ b cy) (e : IA op a b h = .ok v h') : Good φ h w v h' ((do eqGuard op t p q cx cy; binOp op t cx cy : Sem Value).run P w) := by
 obtain ⟨k, m, n, ea, e1⟩ := fW e
 obtain ⟨k', m', n', eb, e2⟩ := fW e1
 obtain ⟨hk, e3⟩ := az e2
 clear e e1 e2
 obtain rfl := jX hk
 subst ea eb
 rw [hx.pS, hy.pS]
 obtain ⟨rfl, c, h1, h2⟩ := JO (P := P) (w := w) (t := t) (φ := φ) e3
 refine .same H h2 ?_
 simp [rm, h1]
end
theorem Hd {a : AV} {s d : TypeId} {kd : IntKind} {k : FloatKind} (H : HR φ h w) (hx : VR φ a cx) (hs : P.underlying s = some (.int kd)) (hd : P.underlying d = some (.float k)) (e : IG k a h = .ok v h') : Good φ h w v h' ((convert s d cx).run P w) := by
 obtain ⟨ki, n, rfl, e1⟩ := bD e
 obtain ⟨rfl, rfl⟩ := RV.ak e1
 rw [hx.aW]
 exact .same H (.nG _ _) (by simp [convert, ai hs, ai hd, Conv.intToFloat])
theorem He {a : AV} {s d : TypeId} {kd : IntKind} {k : FloatKind} (H : HR φ h w) (hx : VR φ a cx) (hs : P.underlying s = some (.float k)) (hd : P.underlying d = some (.int kd)) (e : IH kd a h = .ok v h') : Good φ h w v h' ((convert s d cx).run P w) := by
 obtain ⟨kf, n, rfl, e1⟩ := ew e
 clear e
 rw [hx.np]
 have e : (match (kf.decode n).toInt .zero with | some n => if kd.min ≤ n ∧ n ≤ kd.max then RV.ok (.int kd n) h else .err 37 | none => .err 37) = .ok v h' := e1
 cases hr : (kf.decode n).toInt .zero with
 | none => rw [hr] at e; cases e
 | some m =>
  rw [hr] at e
  have e2 : (if kd.min ≤ m ∧ m ≤ kd.max then RV.ok (.int kd m) h else .err 37) = .ok v h' := e
  by_cases hb : kd.min ≤ m ∧ m ≤ kd.max
  ·rw [if_pos hb] at e2
   obtain ⟨rfl, rfl⟩ := RV.ak e2
   refine .same H (.int _ _) ?_
   simp [convert, ai hs, ai hd, Conv.floatToInt, hr, hb]
  ·rw [if_neg hb] at e2; cases e2
theorem Fo {x : AO} {ts : Array TypeId} {ty : TypeId} (H : HR φ h w) (hx : VR φ (ev x r) cx) (he : kX false x r h = .ok v h') : Good φ h w v h' ((Builtin.real_ ts ty #[cx]).run P w) := by
 obtain ⟨k, a, b, ea, he⟩ := fW he
 obtain ⟨rfl, rfl⟩ := RV.ak he
 rw [ea] at hx
 rw [hx.pS]
 exact .same H (.nG _ _) (run_real w ts ty k a b)
theorem Fp {x : AO} {ts : Array TypeId} {ty : TypeId} (H : HR φ h w) (hx : VR φ (ev x r) cx) (he : kX true x r h = .ok v h') : Good φ h w v h' ((Builtin.imag_ ts ty #[cx]).run P w) := by
 obtain ⟨k, a, b, ea, he⟩ := fW he
 obtain ⟨rfl, rfl⟩ := RV.ak he
 rw [ea] at hx
 rw [hx.pS]
 exact .same H (.nG _ _) (run_imag w ts ty k a b)
variable {P : Program} {φ : aI} {h h' : Hp} {w : World} {v : AV} {x y z : AO} {r : A2} {cx cy cz : Value}
theorem cS.JQ : ∀ {l : List KV} {es : List MapEntry} (j : Nat) {k val : AV} {ck : Value} {e : MapEntry}, cS φ l es → VR φ k ck → es[j]? = some e → VR φ val e.val → cS φ (yp j k val l) (es.modify j fun e => { e with key := ck })
 | _, _, j, _, _, _, _, .nil, _, he, _ => by simp at he
 | _, _, 0, k, val, ck, e', .cons k0 v0 b e l es a c d r, h1, he, h2 => by
  have he : some e = some e' := by simpa using he
  cases he
  exact .cons _ _ _ _ _ _ h1 h2 d r
 | _, _, j + 1, k, val, ck, e', .cons k0 v0 b e l es a c d r, h1, he, h2 => .cons k0 v0 b e _ _ a c d (cS.JQ j r h1 (by simpa using he) h2)
theorem cS.JR : ∀ {l : List KV} {es : List MapEntry} (j : Nat) {a val : AV} {cv : Value}, cS φ l es → VR φ val cv → (∃ vv bb, l[j]? = some (KV.mk a vv bb)) → cS φ (yp j a val l) (es.modify j fun e => { e with val := cv })
 | _, _, j, _, _, _, .nil, _, ⟨_, _, he⟩ => by simp at he
 | _, _, 0, a', val, cv, .cons k0 v0 b e l es p c d r, h1, ⟨vv, bb, he⟩ => by
  have he : some (KV.mk k0 v0 b) = some (KV.mk a' vv bb) := by simpa using he
  cases he
  exact .cons _ _ _ _ _ _ p h1 d r
 | _, _, j + 1, a', val, cv, .cons k0 v0 b e l es p c d r, h1, ⟨vv, bb, he⟩ => .cons k0 v0 b e _ _ p c d (cS.JR j r h1 ⟨vv, bb, by simpa using he⟩)
noncomputable def JS (b : Nat) (l : List KV) (k : Nat → AV → RV) (e : RV) (i : Nat) : RV := dJ (β := Nat → RV) (fun _ => e)
 (fun y _ ih i => @KV.rec (fun _ => RV) (fun a _ c => @Bool.rec (fun _ => RV) (ih (Nat.succ i)) (k i a) (Nat.beq b c)) y) l i
theorem Ns (b : Nat) (l : List KV) (k : Nat → AV → RV) (e : RV) : Tb b l k e = JS b l k e 0 := rfl
theorem Ef {b q : Nat} {k : Nat → AV → RV} : ∀ {l : List KV} {es : List MapEntry} {i : Nat}, cS φ l es → JS b l k (.err q) i = .ok v h' →
  ∃ j a vv bb, l[j]? = some (KV.mk a vv bb) ∧ es.findIdx? (fun e => (e.born : Int) == (b : Int)) = some j ∧ k (i + j) a = .ok v h'
 | _, _, _, .nil, he => by cases he
 | _, _, i, .cons a c b' e l es h1 h2 h3 hr, he => by
  have he : (@Bool.rec (fun _ => RV) (JS b l k (.err q) (i + 1)) (k i a) (Nat.beq b b')) = .ok v h' := he
  rw [List.findIdx?_cons]
  cases hb : Nat.beq b b' with
  | true =>
   rw [hb] at he
   have hb := Nat.eq_of_beq_eq_true hb
   have h4 : ((e.born : Int) == (b : Int)) = true := by simp [h3, hb]
   rw [h4]
   exact ⟨0, a, c, b', rfl, rfl, he⟩
  | false =>
   rw [hb] at he
   have hne : e.born ≠ b := by
    intro e1; rw [h3] at e1; subst e1; rw [Nat.beq_refl] at hb; cases hb
   have h4 : ((e.born : Int) == (b : Int)) = false := by
    rw [beq_eq_false_iff_ne]
    intro g
    exact hne (by omega)
   rw [h4]
   obtain ⟨j, a', vv, bb, q1, q2, q3⟩ := Ef (l := l) (i := i + 1) hr he
   refine ⟨j + 1, a', vv, bb, by simpa using q1, by simp [q2], ?_⟩
   rw [show i + (j + 1) = i + 1 + j by omega]; exact q3
theorem FD {t k e : TypeId} {kt : KT} {zv : AV} (H : HR φ h w) {a b : AV} (hx : VR φ a cx) (hy : VR φ b cy) (ht : P.underlying t = some (.map k e)) (hk : ov P k = some kt) (hz : kI P e = some zv)
  (he : zh kt zv a b h = .ok v h') : Good φ h w v h' ((Instr.mapEntry t cx cy).run P w) := by
 obtain ⟨hok, he⟩ := az he
 obtain ⟨d, hd⟩ := pT hk
 unfold kI at hz
 simp only [Option.bind_eq_some_iff] at hz
 obtain ⟨cz, ⟨inf, hinf, hcz⟩, hz⟩ := hz
 have hvz := px hz φ
 rcases fy he with ⟨i, rfl, he2⟩ | ⟨rfl, he2⟩
 ·obtain ⟨l, ck, hi, he3⟩ := dR he2
  obtain ⟨p, hp, rfl⟩ := hx.lv
  obtain ⟨es, h1, h2⟩ := H.map hi hp
  rw [mf] at he3
  have hck := fun em => run_checkKey (w := w) hk hy hok em
  rcases kj he3 with ⟨g1, g2⟩ | ⟨j, kk, val, bb, g1, g2⟩
  ·obtain ⟨cr, f1, f2, f3⟩ := g1.find H hd hk hy 0 h2
   cases cr with
   | some q => exact f3.elim
   | none =>
    obtain ⟨rfl, rfl⟩ := RV.ak g2
    obtain ⟨s1, s2, s3⟩ := HR.rk (P := P) (ck' := ck + 1) H hi hp (es := es.push { key := cy, val := cz, born := ck }) (l' := snoc l (.mk b zv ck)) (by rw [Array.toList_push]; exact h2.snoc hy hvz rfl) h1
    refine ⟨.tuple #[cz, .int .i64 ck], _, φ, ?_, .jj [_, _] [_, _] (.cons _ _ _ _ hvz (.cons _ _ _ _ (.int _ _) .nil)), s2, s3⟩
    simp [Instr.mapEntry, ai ht, cA h1 rfl, hck, run_findKey hd f1 f2, zeroValue, bM hinf, hcz, s1, goInt]
  ·obtain ⟨cr, f1, f2, f3⟩ := g1.find H hd hk hy 0 h2
   cases cr with
   | none => exact f3.elim
   | some q =>
    obtain ⟨j', cv⟩ := q
    obtain ⟨rfl, u0, e0, u1, u2, u3, u4, u5⟩ := f3
    obtain ⟨rfl, rfl⟩ := RV.ak g2
    have hsb := pW (h := h) hy u3 u4
    have hes : (es.modify (0 + j) fun e => { e with key := cy }).toList = es.toList.modify (0 + j) fun e => { e with key := cy } := by simp
    obtain ⟨s1, s2, s3⟩ := HR.rk (P := P) (ck' := ck) H hi hp (es := es.modify (0 + j) fun e => { e with key := cy }) (l' := yp (0 + j) b val l) (by rw [hes]; exact h2.JQ _ hy (by rw [Nat.zero_add]; exact u1) (by rw [u2]; exact u0)) h1
    have hge : es[0 + j]? = some e0 := by rw [Nat.zero_add]; simpa using u1
    have hks : (Instr.keyThatStays (((es[0 + j]?).map (·.key)).getD cy) cy).run P w = .ok cy w := by
     rw [hge]
     simp [Instr.keyThatStays, hsb]
    have hbn : ((es[0 + j]?).map (fun x => (x.born : Int))).getD 0 = (bb : Int) := by rw [hge]; exact congrArg Int.ofNat u5
    refine ⟨.tuple #[cv, .int .i64 bb], _, φ, ?_, .jj [_, _] [_, _] (.cons _ _ _ _ u0 (.cons _ _ _ _ (.int _ _) .nil)), s2, s3⟩
    simp only [Instr.mapEntry, Sem.run_bind, ai ht, Result.andThen_ok, cA h1 rfl, hck, run_findKey hd f1 f2, hks, s1, Sem.run_pure, hbn]
    rfl
 ·cases he2
theorem FE {t : TypeId} {cs : Value} (H : HR φ h w) {a s c : AV} (hx : VR φ a cx) (hy : VR φ s cs) (hz : VR φ c cz) (he : zi a s c h = .ok v h') : v = .undef ∧ vS φ h w h' ((Instr.entryStore t cx cs cz).run P w) := by
 rcases fy he with ⟨i, rfl, he2⟩ | ⟨rfl, he2⟩
 ·obtain ⟨l, ck, hi, he3⟩ := dR he2
  obtain ⟨p, hp, rfl⟩ := hx.lv
  obtain ⟨es, h1, h2⟩ := H.map hi hp
  obtain ⟨kd, b, rfl, he4⟩ := dc he3
  rw [hy.aW]
  rw [Ns] at he4
  obtain ⟨j, a', vv, bb, q1, q2, q3⟩ := Ef h2 he4
  obtain ⟨rfl, rfl⟩ := RV.ak q3
  have hes : (es.modify (0 + j) fun e => { e with val := cz }).toList = es.toList.modify (0 + j) fun e => { e with val := cz } := by simp
  obtain ⟨s1, s2, s3⟩ := HR.rk (P := P) (ck' := ck) H hi hp (es := es.modify (0 + j) fun e => { e with val := cz }) (l' := yp (0 + j) a' c l) (by rw [hes]; exact h2.JR _ hz ⟨vv, bb, by rw [Nat.zero_add]; exact q1⟩) h1
  have hfi : es.findIdx? (fun e => (e.born : Int) == (Int.ofNat b)) = some (0 + j) := by
   rw [Nat.zero_add, ← q2]
   cases es
   simp
  refine ⟨rfl, _, φ, ?_, s2, s3⟩
  simp only [Instr.entryStore, Sem.run_bind, cA h1 rfl, Result.andThen_ok, asInt, asIntOf, Sem.run_pure, hfi, s1]
 ·cases he2
variable {P : Program} {φ : aI} {h h' : Hp} {w : World} {v : AV} {r : A2} {cx cy : Value} {t : TypeId} {G : Gl} {ρ : Operand → Value}
theorem al {d : TypeDesc} (e : kH P t = d) (hd : d ≠ .invalid) : P.underlying t = some d := by
 unfold kH at e
 cases hu : P.underlying t with
 | none => rw [hu] at e; exact absurd e.symm hd
 | some d' => rw [hu] at e; exact congrArg some e
theorem mX {e : TypeId} (h : bp P e ≠ 0) : ∃ i, P.info? e = some i ∧ i.size ≠ 0 := by
 unfold bp Program.cellsOf at h
 cases hi : P.info? e with
 | none => simp [hi] at h
 | some i => exact ⟨i, rfl, by simpa [hi] using h⟩
theorem PF {e : TypeId} (ht : P.underlying t = some (.pointer e)) (h : bp P e ≠ 0) : Rq P .p t := by
 obtain ⟨i, hi, hs⟩ := mX h
 exact ⟨e, i, ht, hi, hs⟩
theorem Hy {op : BinOp} {x y : Operand} {k : BK} {ax ay : AO} (hc : ∀ c, ρ (.const c) = c) (hop : Fa P op t x y = some k) (H : HR φ h w) (hx : VR φ (ev ax r) (ρ x)) (hy : VR φ (ev ay r) (ρ y)) (he : Ph k ax ay r h = .ok v h') :
  Good φ h w v h' ((do eqGuard op t x y (ρ x) (ρ y); binOp op t (ρ x) (ρ y) : Sem Value).run P w) := by
 unfold Fa at hop
 split at hop
 case h_1 => cases hop; exact Jo H hx hy he
 case h_2 => cases hop; exact Jp H hx hy he
 case h_3 => cases hop; exact Jq H hx hy he
 case h_4 => cases hop; exact Jr H hx hy he
 case h_5 => cases hop; exact Js H hx hy he
 case h_6 => cases hop; exact Ju H hx hy he
 case h_7 => cases hop; exact Ni H hx hy he
 case h_8 => cases hop; exact Jv H hx hy he
 case h_9 => cases hop; exact Ge H hx hy he
 case h_10 => cases hop; exact JJ H hx hy he
 case h_11 => cases hop; exact JK H hx hy he
 case h_12 => cases hop; exact Nj H hx hy he
 case h_13 => cases hop; exact Nk H hx hy he
 case h_14 => cases hop; exact Nl H hx hy he
 case h_15 => cases hop; exact Nm H hx hy he
 case h_16 => cases hop; exact Nn H hx hy he
 case h_17 => cases hop; exact Np H hx hy he
 case h_18 => cases hop; exact Jw H hx hy he
 case h_19 => cases hop; exact Jx H hx hy he
 case h_20 => cases hop; exact Jy H hx hy he
 case h_21 => cases hop; exact JA H hx hy he
 case h_22 => cases hop; exact Jz H hx hy he
 case h_23 => cases hop; exact JB H hx hy he
 case h_24 => cases hop; exact JC H hx hy he
 case h_25 hu => cases hop; exact Aq false H hx hy (al hu (by simp)) he
 case h_26 hu => cases hop; exact Aq true H hx hy (al hu (by simp)) he
 case h_27 e hu =>
  split at hop
  ·cases hop
  ·rename_i hs; cases hop; exact Ar false H hx hy (PF (al hu (by simp)) hs) he
 case h_28 e hu =>
  split at hop
  ·cases hop
  ·rename_i hs; cases hop; exact Ar true H hx hy (PF (al hu (by simp)) hs) he
 case h_29 e hu =>
  split at hop
  ·rename_i hn; cases hop; have hn := fp hn; subst hn; rw [hc]; exact (bO false (k := .s) ⟨_, al hu (by simp)⟩ H hx x he).1
  ·cases hop
 case h_30 e hu =>
  split at hop
  ·rename_i hn; cases hop; have hn := fp hn; subst hn; rw [hc]; exact (bO true (k := .s) ⟨_, al hu (by simp)⟩ H hx x he).1
  ·cases hop
 case h_31 e hu =>
  split at hop
  ·rename_i hn; cases hop; have hn := fp hn; subst hn; rw [hc]; exact (bO false (k := .m) ⟨_, _, al hu (by simp)⟩ H hx x he).1
  ·cases hop
 case h_32 e hu =>
  split at hop
  ·rename_i hn; cases hop; have hn := fp hn; subst hn; rw [hc]; exact (bO true (k := .m) ⟨_, _, al hu (by simp)⟩ H hx x he).1
  ·cases hop
 case h_33 e hu =>
  split at hop
  ·rename_i hn; cases hop; have hn := fp hn; subst hn; rw [hc]; exact (bO false (k := .f) ⟨_, _, _, al hu (by simp)⟩ H hx x he).1
  ·cases hop
 case h_34 e hu =>
  split at hop
  ·rename_i hn; cases hop; have hn := fp hn; subst hn; rw [hc]; exact (bO true (k := .f) ⟨_, _, _, al hu (by simp)⟩ H hx x he).1
  ·cases hop
 case h_35 e hu =>
  split at hop
  ·rename_i hn; cases hop; have hn := fp hn; subst hn; rw [hc]; exact (bO false (k := .i) ⟨_, al hu (by simp)⟩ H hx x he).1
  ·cases hop
 case h_36 e hu =>
  split at hop
  ·rename_i hn; cases hop; have hn := fp hn; subst hn; rw [hc]; exact (bO true (k := .i) ⟨_, al hu (by simp)⟩ H hx x he).1
  ·cases hop
 case h_37 =>
  split at hop
  ·cases hop
  ·rename_i hg
   simp only [Option.map_eq_some_iff] at hop
   obtain ⟨ks, hk, rfl⟩ := hop
   exact Au false H hx hy hk (by simpa using hg) he
 case h_38 =>
  split at hop
  ·cases hop
  ·rename_i hg
   simp only [Option.map_eq_some_iff] at hop
   obtain ⟨ks, hk, rfl⟩ := hop
   exact Au true H hx hy hk (by simpa using hg) he
 case h_39 => cases hop; exact JN H hx hy he
 case h_40 => cases hop; exact JP H hx hy he
 case h_41 => cases hop
end Go.Am
