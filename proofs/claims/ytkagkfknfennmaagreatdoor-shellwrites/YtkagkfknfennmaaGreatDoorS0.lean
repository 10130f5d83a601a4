/- The abstract machine is sound: what its run says holds of the Go program. Conditions: the table of functions is the program's (Env). -/
import Derived.Test.YtkagkfknfennmaaGreatDoorB
import Derived.Laws.Sem
import Derived.Calls
import Derived.Laws.World
import Derived.Laws.Strings
import Derived.Laws.Strings2
import Derived.Laws.Concat
import Derived.Laws.StructEq
import Derived.Laws.Append
import Derived.Laws.IdiomStrings
import Derived.Laws.NewFold
import Derived.Laws.Cover2
import Derived.Laws.Cover3
import Derived.Laws.ComplexArith
set_option linter.all false
namespace Go.Am
theorem A1.dw (d : H) (v : AV) (x : A1) : A1.get d (A1.set d v x) = v := by cases d <;> cases x <;> rfl
theorem A1.bN {d e : H} (h : d ≠ e) (v : AV) (x : A1) : A1.get d (A1.set e v x) = A1.get d x := by
 cases d <;> cases e <;> first | exact absurd rfl h | (cases x <;> rfl)
theorem A1.get_nil (d : H) : A1.get d .nil = .undef := by cases d <;> rfl
theorem A2.dw (d : H) (v : A1) (x : A2) : A2.get d (A2.set d v x) = v := by cases d <;> cases x <;> rfl
theorem A2.bN {d e : H} (h : d ≠ e) (v : A1) (x : A2) : A2.get d (A2.set e v x) = A2.get d x := by
 cases d <;> cases e <;> first | exact absurd rfl h | (cases x <;> rfl)
theorem A2.get_nil (d : H) : A2.get d .nil = .nil := by cases d <;> rfl
theorem A3.dw (d : H) (v : A2) (x : A3) : A3.get d (A3.set d v x) = v := by cases d <;> cases x <;> rfl
theorem A3.bN {d e : H} (h : d ≠ e) (v : A2) (x : A3) : A3.get d (A3.set e v x) = A3.get d x := by
 cases d <;> cases e <;> first | exact absurd rfl h | (cases x <;> rfl)
theorem A3.get_nil (d : H) : A3.get d .nil = .nil := by cases d <;> rfl
theorem A4.dw (d : H) (v : A3) (x : A4) : A4.get d (A4.set d v x) = v := by cases d <;> cases x <;> rfl
theorem A4.bN {d e : H} (h : d ≠ e) (v : A3) (x : A4) : A4.get d (A4.set e v x) = A4.get d x := by
 cases d <;> cases e <;> first | exact absurd rfl h | (cases x <;> rfl)
theorem A4.get_nil (d : H) : A4.get d .nil = .nil := by cases d <;> rfl
theorem O1.dw (d : H) (v : Obj) (x : O1) : O1.get d (O1.set d v x) = v := by cases d <;> cases x <;> rfl
theorem O1.bN {d e : H} (h : d ≠ e) (v : Obj) (x : O1) : O1.get d (O1.set e v x) = O1.get d x := by
 cases d <;> cases e <;> first | exact absurd rfl h | (cases x <;> rfl)
theorem O1.get_nil (d : H) : O1.get d .nil = .none := by cases d <;> rfl
theorem O2.dw (d : H) (v : O1) (x : O2) : O2.get d (O2.set d v x) = v := by cases d <;> cases x <;> rfl
theorem O2.bN {d e : H} (h : d ≠ e) (v : O1) (x : O2) : O2.get d (O2.set e v x) = O2.get d x := by
 cases d <;> cases e <;> first | exact absurd rfl h | (cases x <;> rfl)
theorem O2.get_nil (d : H) : O2.get d .nil = .nil := by cases d <;> rfl
theorem O3.dw (d : H) (v : O2) (x : O3) : O3.get d (O3.set d v x) = v := by cases d <;> cases x <;> rfl
theorem O3.bN {d e : H} (h : d ≠ e) (v : O2) (x : O3) : O3.get d (O3.set e v x) = O3.get d x := by
 cases d <;> cases e <;> first | exact absurd rfl h | (cases x <;> rfl)
theorem O3.get_nil (d : H) : O3.get d .nil = .nil := by cases d <;> rfl
theorem O4.dw (d : H) (v : O3) (x : O4) : O4.get d (O4.set d v x) = v := by cases d <;> cases x <;> rfl
theorem O4.bN {d e : H} (h : d ≠ e) (v : O3) (x : O4) : O4.get d (O4.set e v x) = O4.get d x := by
 cases d <;> cases e <;> first | exact absurd rfl h | (cases x <;> rfl)
theorem O4.get_nil (d : H) : O4.get d .nil = .nil := by cases d <;> rfl
theorem wG : ∀ n, n < 16 → (dj n).nat = n := by decide
theorem eQ {n : Nat} (h : n < 16) : (dj n).nat = n := wG n h
theorem lj {m n : Nat} (hm : m < 16) (hn : n < 16) (h : dj m = dj n) : m = n := by
 rw [← eQ hm, ← eQ hn, h]
noncomputable instance : DecidableEq H := fun a b => if h : a.nat = b.nat then .isTrue (by cases a <;> cases b <;> first | rfl | (exact absurd h (by decide))) else .isFalse (fun e => h (by rw [e]))
theorem A1.bW (d e : H) (v : AV) (x : A1) : A1.get d (A1.set e v x) = if d = e then v else A1.get d x := by
 by_cases h : d = e
 ·rw [if_pos h, h, A1.dw]
 ·rw [if_neg h, A1.bN h]
theorem A2.bW (d e : H) (v : A1) (x : A2) : A2.get d (A2.set e v x) = if d = e then v else A2.get d x := by
 by_cases h : d = e
 ·rw [if_pos h, h, A2.dw]
 ·rw [if_neg h, A2.bN h]
theorem A3.bW (d e : H) (v : A2) (x : A3) : A3.get d (A3.set e v x) = if d = e then v else A3.get d x := by
 by_cases h : d = e
 ·rw [if_pos h, h, A3.dw]
 ·rw [if_neg h, A3.bN h]
theorem A4.bW (d e : H) (v : A3) (x : A4) : A4.get d (A4.set e v x) = if d = e then v else A4.get d x := by
 by_cases h : d = e
 ·rw [if_pos h, h, A4.dw]
 ·rw [if_neg h, A4.bN h]
theorem gv (a b c d : H) (v : AV) (r : A2) : aq a b (mc c d v r) = if a = c ∧ b = d then v else aq a b r := by
 simp only [aq, mc, A2.bW]
 by_cases h : a = c
 ·subst h
  simp only [if_true, A1.bW, true_and]
 ·simp [h]
theorem Lk (a b : Nat) : Nat.div a b = a / b := rfl
theorem Ll (a b : Nat) : Nat.mod a b = a % b := rfl
theorem Kd {i j : Nat} (hi : i < 16) (hj : j < 16) (v : AV) (x : A1) : g1 i (t1 j v x) = if i = j then v else g1 i x := by
 simp only [g1, t1, A1.bW]
 by_cases h : i = j
 ·simp [h]
 ·rw [if_neg h, if_neg (fun e => h (lj hi hj e))]
theorem Ke {i j : Nat} (hi : i < 256) (hj : j < 256) (v : AV) (x : A2) : g2 i (t2 j v x) = if i = j then v else g2 i x := by
 have hi' : i / 16 < 16 := by omega
 have hj' : j / 16 < 16 := by omega
 have hi2 : i % 16 < 16 := by omega
 have hj2 : j % 16 < 16 := by omega
 simp only [g2, t2, PI, A2.bW, Lk, Ll]
 by_cases h : i / 16 = j / 16
 ·rw [if_pos (congrArg dj h)]
  have := Kd hi2 hj2 v (A2.get (dj (j / 16)) x)
  simp only [g1] at this
  rw [this]
  by_cases e : i = j
  ·simp [e]
  ·rw [if_neg e, if_neg (by omega), h]
 ·rw [if_neg (fun e => h (lj hi' hj' e)), if_neg (fun e => h (by rw [e]))]
theorem Kf {i j : Nat} (hi : i < 4096) (hj : j < 4096) (v : AV) (x : A3) : g3 i (t3 j v x) = if i = j then v else g3 i x := by
 have hi' : i / 256 < 16 := by omega
 have hj' : j / 256 < 16 := by omega
 simp only [g3, t3, PJ, A3.bW, Lk, Ll]
 by_cases h : i / 256 = j / 256
 ·rw [if_pos (congrArg dj h)]
  rw [Ke (show i % 256 < 256 by omega) (show j % 256 < 256 by omega)]
  by_cases e : i = j
  ·simp [e]
  ·rw [if_neg e, if_neg (show ¬ (i % 256 = j % 256) by omega), h]
 ·rw [if_neg (fun e => h (lj hi' hj' e)), if_neg (fun e => h (by rw [e]))]
theorem Nh {i j : Nat} (hi : i < 65536) (hj : j < 65536) (v : AV) (x : A4) : g4 i (t4 j v x) = if i = j then v else g4 i x := by
 have hi' : i / 4096 < 16 := by omega
 have hj' : j / 4096 < 16 := by omega
 simp only [g4, t4, PL, A4.bW, Lk, Ll]
 by_cases h : i / 4096 = j / 4096
 ·rw [if_pos (congrArg dj h)]
  rw [Kf (show i % 4096 < 4096 by omega) (show j % 4096 < 4096 by omega)]
  by_cases e : i = j
  ·simp [e]
  ·rw [if_neg e, if_neg (show ¬ (i % 4096 = j % 4096) by omega), h]
 ·rw [if_neg (fun e => h (lj hi' hj' e)), if_neg (fun e => h (by rw [e]))]
theorem ox {i j : Nat} (c : Cl) (hi : i < bp c) (hj : j < bp c) (v : AV) : eF i (jY j v c) = if i = j then v else eF i c := by
 cases c with
 | k1 x => exact Kd hi hj v x
 | k2 x => exact Ke hi hj v x
 | k3 x => exact Kf hi hj v x
 | k4 x => exact Nh hi hj v x
 | kf m f =>
  show (@Bool.rec (fun _ => AV) (f i) v (Nat.beq i j)) = if i = j then v else f i
  by_cases h : i = j
  ·subst h; rw [Nat.beq_refl, if_pos rfl]
  ·have : Nat.beq i j = false := by rw [← Bool.not_eq_true]; intro g; exact h (Nat.eq_of_beq_eq_true g)
   rw [this, if_neg h]
theorem gE (j : Nat) (v : AV) (c : Cl) : bp (jY j v c) = bp c := by cases c <;> rfl
theorem Bq (i : Nat) (c : Cl) : cM [] i c = c := rfl
theorem jw (v : AV) (l : List AV) (i : Nat) (c : Cl) : cM (v :: l) i c = cM l (i + 1) (jY i v c) := rfl
theorem fO (l : List AV) : ∀ (i : Nat) (c : Cl), bp (cM l i c) = bp c := by
 induction l with
 | nil => intro i c; rfl
 | cons v l ih => intro i c; rw [jw, ih, gE]
theorem mj (l : List AV) : ∀ (i : Nat) (c : Cl) (k : Nat), k < bp c → i + l.length ≤ bp c →
  eF k (cM l i c) = if h : i ≤ k ∧ k < i + l.length then l[k - i]'(by omega) else eF k c := by
 induction l with
 | nil => intro i c k hk hl; rw [Bq, dif_neg (by simp only [List.length_nil]; omega)]
 | cons v l ih =>
  intro i c k hk hl
  simp only [List.length_cons] at hl
  rw [jw, ih (i + 1) _ k (by rw [gE]; exact hk) (by rw [gE]; omega), ox c hk (by omega)]
  by_cases h1 : k = i
  ·subst h1
   rw [dif_neg (by omega), dif_pos (by simp), if_pos rfl]
   simp
  ·rw [if_neg h1]
   by_cases h2 : i ≤ k ∧ k < i + (l.length + 1)
   ·rw [dif_pos (by omega), dif_pos (by simpa using h2)]
    have : k - i = (k - (i + 1)) + 1 := by omega
    simp only [this, List.getElem_cons_succ]
   ·rw [dif_neg (by omega), dif_neg (by simpa using h2)]
theorem zS (c : Cl) : yq c ≤ 16777216 ∧ yq c ≤ bp c := by
 cases c with
 | kf m f =>
  show (@Bool.rec (fun _ => Nat) 0 m (Nat.ble m 16777216)) ≤ 16777216 ∧ (@Bool.rec (fun _ => Nat) 0 m (Nat.ble m 16777216)) ≤ m
  cases h : Nat.ble m 16777216
  ·exact ⟨Nat.zero_le _, Nat.zero_le _⟩
  ·exact ⟨Nat.le_of_ble_eq_true h, Nat.le_refl _⟩
 | _ => simp [bp, yq]
theorem da (c : Cl) (k : Nat) (hk : k < bp c) : eF k (br c) = eF k c := by
 cases c with
 | k1 x =>
  have : k < 16 := hk
  show A1.get (dj (k % 16)) (A2.get (dj (k / 16)) (A2.s0 x .nil)) = A1.get (dj k) x
  rw [show k / 16 = 0 by omega, show k % 16 = k by omega]; rfl
 | k2 x =>
  have : k < 256 := hk
  show g2 (k % 256) (A3.get (dj (k / 256)) (A3.s0 x .nil)) = g2 k x
  rw [show k / 256 = 0 by omega, show k % 256 = k by omega]; rfl
 | k3 x =>
  have : k < 4096 := hk
  show g3 (k % 4096) (A4.get (dj (k / 4096)) (A4.s0 x .nil)) = g3 k x
  rw [show k / 4096 = 0 by omega, show k % 4096 = k by omega]; rfl
 | k4 x => rfl
 | kf m f => rfl
theorem kH (c : Cl) : bp c ≤ bp (br c) := by cases c <;> simp [bp, br]
theorem yr (n : Nat) (c : Cl) : jq n c = c ∨ jq n c = br c ∨ jq n c = br (br c) ∨ jq n c = br (br (br c)) ∨ jq n c = br (br (br (br c))) := by
 unfold jq
 cases Nat.ble n (bp c)
 ·cases Nat.ble n (bp (br c))
  ·cases Nat.ble n (bp (br (br c)))
   ·cases Nat.ble n (bp (br (br (br c))))
    ·exact .inr (.inr (.inr (.inr rfl)))
    ·exact .inr (.inr (.inr (.inl rfl)))
   ·exact .inr (.inr (.inl rfl))
  ·exact .inr (.inl rfl)
 ·exact .inl rfl
theorem Br (n : Nat) (c : Cl) (k : Nat) (hk : k < bp c) : eF k (jq n c) = eF k c := by
 have a1 := kH c
 have a2 := kH (br c)
 have a3 := kH (br (br c))
 rcases yr n c with h | h | h | h | h <;> rw [h]
 ·exact da c k hk
 ·rw [da _ k (by omega), da c k hk]
 ·rw [da _ k (by omega), da _ k (by omega), da c k hk]
 ·rw [da _ k (by omega), da _ k (by omega), da _ k (by omega), da c k hk]
theorem eu (l : List AV) (hr : l.length ≤ bp (mJ l)) (k : Nat) (hk : k < l.length) : eF k (mJ l) = l[k] := by
 unfold mJ at hr ⊢
 rw [fO] at hr
 rw [mj l 0 _ k (by omega) (by omega), dif_pos (by omega)]
 simp
theorem yt (c : Cl) (i : Nat) : bn 0 c i = [] := rfl
theorem mm (n : Nat) (c : Cl) (i : Nat) : bn (n + 1) c i = eF i c :: bn n c (i + 1) := rfl
theorem bM (n : Nat) : ∀ (c : Cl) (i : Nat), (bn n c i).length = n := by
 induction n with
 | zero => intro c i; rfl
 | succ n ih => intro c i; rw [mm, List.length_cons, ih]
theorem lL (n : Nat) : ∀ (c : Cl) (i k : Nat) (hk : k < (bn n c i).length), (bn n c i)[k] = eF (i + k) c := by
 induction n with
 | zero => intro c i k hk; simp [yt] at hk
 | succ n ih =>
  intro c i k hk
  match k with
  | 0 => rfl
  | k + 1 =>
   have := ih c (i + 1) k (by simpa [mm] using hk)
   simp only [mm, List.getElem_cons_succ, this]
   congr 1; omega
noncomputable instance : DecidableEq P4 := fun a b => match a, b with
 | .mk a b c d, .mk a' b' c' d' => if h : a = a' ∧ b = b' ∧ c = c' ∧ d = d' then .isTrue (by obtain ⟨rfl, rfl, rfl, rfl⟩ := h; rfl) else .isFalse (fun e => h (by cases e; exact ⟨rfl, rfl, rfl, rfl⟩))
 | .eM m o, .eM n q => if h : m = n ∧ o = q then .isTrue (by rw [h.1, h.2]) else .isFalse (fun e => h (by cases e; exact ⟨rfl, rfl⟩))
 | .mk .., .eM .. => .isFalse (fun e => by cases e)
 | .eM .., .mk .. => .isFalse (fun e => by cases e)
theorem O1.bW (d e : H) (v : Obj) (x : O1) : O1.get d (O1.set e v x) = if d = e then v else O1.get d x := by
 by_cases h : d = e
 ·rw [if_pos h, h, O1.dw]
 ·rw [if_neg h, O1.bN h]
theorem O2.bW (d e : H) (v : O1) (x : O2) : O2.get d (O2.set e v x) = if d = e then v else O2.get d x := by
 by_cases h : d = e
 ·rw [if_pos h, h, O2.dw]
 ·rw [if_neg h, O2.bN h]
theorem O3.bW (d e : H) (v : O2) (x : O3) : O3.get d (O3.set e v x) = if d = e then v else O3.get d x := by
 by_cases h : d = e
 ·rw [if_pos h, h, O3.dw]
 ·rw [if_neg h, O3.bN h]
theorem O4.bW (d e : H) (v : O3) (x : O4) : O4.get d (O4.set e v x) = if d = e then v else O4.get d x := by
 by_cases h : d = e
 ·rw [if_pos h, h, O4.dw]
 ·rw [if_neg h, O4.bN h]
theorem cV (i j : P4) (o : Obj) (t : T4) : cm i (cU j o t) = if i = j then o else cm i t := by
 obtain ⟨t, f⟩ := t
 cases i with
 | eM m q =>
  cases j with
  | mk a' b' c' d' => rw [if_neg (by simp)]; rfl
  | eM n s =>
   show (@Bool.rec (fun _ => Obj) (f m q) (@Bool.rec (fun _ => Obj) (f m q) o (Nat.beq q s)) (Nat.beq m n)) = if P4.eM m q = P4.eM n s then o else f m q
   by_cases h : m = n
   ·subst h
    rw [Nat.beq_refl]
    by_cases h2 : q = s
    ·subst h2; rw [Nat.beq_refl, if_pos rfl]
    ·have : Nat.beq q s = false := by rw [← Bool.not_eq_true]; intro g; exact h2 (Nat.eq_of_beq_eq_true g)
     rw [this, if_neg (by simpa using h2)]
   ·have : Nat.beq m n = false := by rw [← Bool.not_eq_true]; intro g; exact h (Nat.eq_of_beq_eq_true g)
    rw [this, if_neg (by simp [h])]
 | mk a b c d =>
 cases j with
 | eM n s => rw [if_neg (by simp)]; rfl
 | mk a' b' c' d' =>
 show O1.get d (O2.get c (O3.get b (O4.get a (O4.set a' (O3.set b' (O2.set c' (O1.set d' o (O2.get c' (O3.get b' (O4.get a' t)))) (O3.get b' (O4.get a' t))) (O4.get a' t)) t)))) = _
 rw [O4.bW]
 by_cases h1 : a = a'
 ·subst h1
  rw [if_pos rfl, O3.bW]
  by_cases h2 : b = b'
  ·subst h2
   rw [if_pos rfl, O2.bW]
   by_cases h3 : c = c'
   ·subst h3
    rw [if_pos rfl, O1.bW]
    by_cases h4 : d = d'
    ·subst h4; simp
    ·rw [if_neg h4, if_neg (by simp [h4])]; rfl
   ·rw [if_neg h3, if_neg (by simp [h3])]; rfl
  ·rw [if_neg h2, if_neg (by simp [h2])]; rfl
 ·rw [if_neg h1, if_neg (by simp [h1])]; rfl
theorem aD (i j : P4) (o : Obj) (h : Hp) : ah i (cI j o h) = if i = j then o else ah i h := by
 cases h with
 | mk t n => exact cV i j o t
structure Place where
 cP : Nat
 base : Nat
 room : Nat
abbrev aH := P4 → Option Place
def aH.le (φ ψ : aH) : Prop := ∀ i p, φ i = some p → ψ i = some p
theorem aH.le_refl (φ : aH) : φ.le φ := fun _ _ h => h
theorem aH.le_trans {φ ψ χ : aH} (h : φ.le ψ) (h' : ψ.le χ) : φ.le χ := fun i p e => h' i p (h i p e)
def Place.addr (p : Place) (o : Nat) : Addr := ⟨p.cP, p.base + o, none⟩
def Pd (n : Nat) : Int := if n % 2 = 0 then (n / 2 : Nat) else -((n / 2 : Nat) : Int) - 1
mutual
inductive VR (φ : aH) : AV → Value → Prop
 | sym (i : P4) (p : Place) : φ i = some p → VR φ (.sym i) (.int .i64 (Pd p.room))
 | undef (v : Value) : VR φ .undef v
 | bool (b : Bool) : VR φ (.bool b) (.bool b)
 | int (k : IntKind) (n : Int) : VR φ (.int k n) (.int k n)
 | str (s : ByteArray) (l : List Nat) : l = s.data.toList.map UInt8.toNat → VR φ (.str l) (.string s)
 | nQ (k : FloatKind) (n : Nat) : VR φ (.nQ k n) (.float k n)
 | fZ (k : FloatKind) (a b : Nat) : VR φ (.fZ k a b) (.complex k a b)
 | ptr (i : P4) (o : Nat) (p : Place) : φ i = some p → VR φ (.ptr i o) (.pointer (some (p.addr o)))
 | ct : VR φ .ct (.pointer none)
 | slice (i : P4) (o n c : Nat) (p : Place) : φ i = some p → VR φ (.slice i o n c) (.slice (some (p.addr o)) n c)
 | fX (i : P4) (o : Nat) (a : Addr) : VR φ (.slice i o 0 0) (.slice (some a) 0 0)
 | fN (i : P4) (o n es c : Nat) (p : Place) (a : Addr) : φ i = some p → o + c * es = p.room → n ≤ c → a.block = p.cP → a.spot = none → (c ≠ 0 → a.off = p.base + o) → 0 < es →
   VR φ (.fN i o n es) (.slice (some a) n c)
 | ak : VR φ .ak (.slice none 0 0)
 | map (i : P4) (p : Place) : φ i = some p → VR φ (.map i) (.map (some p.cP))
 | jQ : VR φ .jQ (.map none)
 | fn (f : Nat) (cs : List AV) (vs : List Value) : cn φ cs vs → VR φ (.fn f cs) (.func (.func f) #[] vs.toArray)
 | AL : VR φ .AL .nilFunc
 | iface (t : Nat) (v : AV) (x : Value) : VR φ v x → VR φ (.iface t v) (.iface t x)
 | vD : VR φ .vD .nilIface
 | agg (cs : List AV) (vs : List Value) : cn φ cs vs → (∀ v, v ∈ vs → v.oneCell' = true) → VR φ (.agg cs) (.agg vs.toArray)
 | ku (cs : List AV) (vs : List Value) : cn φ cs vs → VR φ (.ku cs) (.tuple vs.toArray)
inductive cn (φ : aH) : List AV → List Value → Prop
 | nil : cn φ [] []
 | cons (a : AV) (v : Value) (as : List AV) (vs : List Value) : VR φ a v → cn φ as vs → cn φ (a :: as) (v :: vs)
end
mutual
theorem VR.mono {φ ψ : aH} (h : φ.le ψ) : ∀ {a : AV} {v : Value}, VR φ a v → VR ψ a v
 | _, _, .undef v => .undef v
 | _, _, .sym i p e => .sym i p (h _ _ e)
 | _, _, .bool b => .bool b
 | _, _, .int k n => .int k n
 | _, _, .str s l e => .str s l e
 | _, _, .nQ k n => .nQ k n
 | _, _, .fZ k a b => .fZ k a b
 | _, _, .ptr i o p e => .ptr i o p (h _ _ e)
 | _, _, .ct => .ct
 | _, _, .slice i o n c p e => .slice i o n c p (h _ _ e)
 | _, _, .fX i o a => .fX i o a
 | _, _, .fN i o n es c p a e h1 h2 h3 h4 h5 h6 => .fN i o n es c p a (h _ _ e) h1 h2 h3 h4 h5 h6
 | _, _, .ak => .ak
 | _, _, .map i p e => .map i p (h _ _ e)
 | _, _, .jQ => .jQ
 | _, _, .fn f cs vs e => .fn f cs vs (cn.mono h e)
 | _, _, .AL => .AL
 | _, _, .iface t v x e => .iface t v x (VR.mono h e)
 | _, _, .vD => .vD
 | _, _, .agg cs vs e f => .agg cs vs (cn.mono h e) f
 | _, _, .ku cs vs e => .ku cs vs (cn.mono h e)
theorem cn.mono {φ ψ : aH} (h : φ.le ψ) : ∀ {as : List AV} {vs : List Value}, cn φ as vs → cn ψ as vs
 | _, _, .nil => .nil
 | _, _, .cons a v as vs e es => .cons a v as vs (VR.mono h e) (cn.mono h es)
end
theorem cn.length {φ : aH} : ∀ {as : List AV} {vs : List Value}, cn φ as vs → as.length = vs.length
 | _, _, .nil => rfl
 | _, _, .cons _ _ _ _ _ es => by simp [cn.length es]
theorem cn.get {φ : aH} : ∀ {as : List AV} {vs : List Value}, cn φ as vs → ∀ (k : Nat) (h : k < as.length) (h' : k < vs.length), VR φ as[k] vs[k]
 | _, _, .cons _ _ _ _ e _, 0, _, _ => e
 | _, _, .cons _ _ _ _ _ es, k + 1, h, h' => cn.get es k (by simpa using h) (by simpa using h')
theorem cn.yu {φ : aH} : ∀ {as : List AV} {vs : List Value}, as.length = vs.length → (∀ (k : Nat) (h : k < as.length) (h' : k < vs.length), VR φ as[k] vs[k]) → cn φ as vs
 | [], [], _, _ => .nil
 | a :: as, v :: vs, hl, h => .cons a v as vs (h 0 (by simp) (by simp)) (cn.yu (by simpa using hl) fun k h1 h2 => h (k + 1) (by simpa using h1) (by simpa using h2))
 | [], _ :: _, hl, _ => by simp at hl
 | _ :: _, [], hl, _ => by simp at hl
theorem cn.append {φ : aH} : ∀ {as bs : List AV} {vs ws : List Value}, cn φ as vs → cn φ bs ws → cn φ (as ++ bs) (vs ++ ws)
 | _, _, _, _, .nil, h => h
 | _, _, _, _, .cons a v as vs e es, h => .cons a v _ _ e (cn.append es h)
def Bt (fl : Fl) (fz : Nat × Nat) (size : Nat) : Prop := match fl with
 | .plain => fz = (0, 0)
 | .mark => ∀ k, k < size → ¬ (fz.1 ≤ k ∧ k < fz.2)
 | .yv => True
 | .ro => True
inductive cE (φ : aH) : List KV → List MapEntry → Prop
 | nil : cE φ [] []
 | cons (k v : AV) (b : Nat) (e : MapEntry) (l : List KV) (es : List MapEntry) : VR φ k e.key → VR φ v e.val → e.born = b → cE φ l es → cE φ (.mk k v b :: l) (e :: es)
theorem cE.mono {φ ψ : aH} (h : φ.le ψ) : ∀ {l : List KV} {es : List MapEntry}, cE φ l es → cE ψ l es
 | _, _, .nil => .nil
 | _, _, .cons k v b e l es a c d r => .cons k v b e l es (a.mono h) (c.mono h) d (cE.mono h r)
def OR (φ : aH) (o : Obj) (p : Place) (x : Option Go.Obj) : Prop := match o with
 | .none => True
 | .dead => True
 | .cells el n ex fl c => ∃ (rc : Array Value) (fz : Nat × Nat), x = some (.cells rc el fz) ∧ p.base + p.room = rc.size ∧ n ≤ p.room ∧ (ex = true → p.base = 0 ∧ n = p.room) ∧ n ≤ bp c ∧
   (∀ k, k < n → ∃ cv, rc[p.base + k]? = some cv ∧ VR φ (eF k c) cv ∧ cv.oneCell' = true) ∧ Bt fl fz rc.size
 | .map l ck => ∃ es, x = some (.map es ck) ∧ cE φ l es.toList
 | .zT s pos => p.base = 0 ∧ ∃ b : ByteArray, x = some (.stringIter b pos) ∧ s = b.data.toList.map UInt8.toNat
 | .th m since seen last => p.base = 0 ∧ ∃ q, φ m = some q ∧ x = some (.mapIter (some q.cP) since seen.toArray last)
 | .zU => p.base = 0 ∧ x = some (.mapIter none 0 #[] 0)
def live (o : Obj) : Prop := o ≠ .none ∧ o ≠ .dead
noncomputable def Obj.ro (o : Obj) : Bool := match o with
 | .cells _ _ _ fl _ => Et fl
 | _ => false
def wl (o : Obj) : Prop := live o ∧ o.ro = false
structure HR (φ : aH) (h : Hp) (w : World) : Prop where
 obj : ∀ i, live (ah i h) → ∃ p, φ i = some p ∧ OR φ (ah i h) p w.heap[p.cP]?
 inj : ∀ i j p q, live (ah i h) → live (ah j h) → wl (ah i h) ∨ wl (ah j h) → i ≠ j → φ i = some p → φ j = some q → p.cP ≠ q.cP
 fresh : ∀ i, ah i h = .none → φ i = none
 bound : ∀ i p, φ i = some p → p.cP < w.heap.size
structure fQ (φ : aH) (h : Hp) (w w' : World) : Prop where
 size : w.heap.size ≤ w'.heap.size
 rest : ∀ b, b < w.heap.size → (∀ i p, wl (ah i h) → φ i = some p → p.cP ≠ b) → w'.heap[b]? = w.heap[b]?
 tape : w'.tape = w.tape
 os : w'.os = w.os
 output : w'.output = w.output
theorem fQ.refl (φ : aH) (h : Hp) (w : World) : fQ φ h w w := ⟨Nat.le_refl _, fun _ _ _ => rfl, rfl, rfl, rfl⟩
theorem fQ.trans {φ ψ : aH} {h h' : Hp} {w w' w'' : World} (a : fQ φ h w w') (b : fQ ψ h' w' w'')
  (new : ∀ i p, live (ah i h') → ψ i = some p → (live (ah i h) ∧ φ i = some p ∧ (wl (ah i h') → wl (ah i h))) ∨ w.heap.size ≤ p.cP ∨ ∃ j q, wl (ah j h) ∧ φ j = some q ∧ q.cP = p.cP) : fQ φ h w w'' := by
 refine ⟨Nat.le_trans a.size b.size, fun x hx hn => ?_, b.tape.trans a.tape, b.os.trans a.os, b.output.trans a.output⟩
 rw [b.rest x (Nat.lt_of_lt_of_le hx a.size) ?_, a.rest x hx hn]
 intro i p hl hp
 rcases new i p hl.1 hp with ⟨h1, h2, h3⟩ | h1 | ⟨j, q, h1, h2, h3⟩
 ·exact hn i p (h3 hl) h2
 ·omega
 ·rw [← h3]; exact hn j q h1 h2
theorem VR.one {φ : aH} {a : AV} {v : Value} (h : VR φ a v) (ha : a.one = true) : v.oneCell' = true := by
 cases h <;> first | rfl | (cases ha)
theorem aM {el n : Nat} {ex : Bool} {fl : Fl} {c : Cl} : live (.cells el n ex fl c) := ⟨by simp, by simp⟩
theorem Eu {el n : Nat} {ex : Bool} {fl : Fl} {c : Cl} (hf : wr fl = true) : wl (.cells el n ex fl c) := ⟨aM, by cases fl <;> first | rfl | cases hf⟩
theorem lQ {i : P4} {h : Hp} {el n : Nat} {ex : Bool} {fl : Fl} {c : Cl} (hi : ah i h = .cells el n ex fl c) (hf : wr fl = true) : wl (ah i h) := hi ▸ Eu hf
theorem na {l : List KV} {c : Nat} : live (.map l c) := ⟨by simp, by simp⟩
theorem OR.mono {φ ψ : aH} (hφ : φ.le ψ) {o : Obj} {p : Place} {x : Option Go.Obj} (h : OR φ o p x) : OR ψ o p x := by
 cases o with
 | none => trivial
 | dead => trivial
 | cells el n ex fl c =>
  obtain ⟨rc, fz, h1, h2, h3, h4, h5, h6, h7⟩ := h
  exact ⟨rc, fz, h1, h2, h3, h4, h5, fun k hk => let ⟨cv, a, b, d⟩ := h6 k hk; ⟨cv, a, b.mono hφ, d⟩, h7⟩
 | map l ck => obtain ⟨es, h1, h2⟩ := h; exact ⟨es, h1, h2.mono hφ⟩
 | zT s pos => exact h
 | th m since seen last => obtain ⟨h0, q, h1, h2⟩ := h; exact ⟨h0, q, hφ _ _ h1, h2⟩
 | zU => exact h
theorem HR.set {φ : aH} {h : Hp} {w w' : World} (H : HR φ h w) {i : P4} {p : Place} {o' : Obj} (hwi : wl (ah i h)) (hp : φ i = some p)
  (hsz : w'.heap.size = w.heap.size) (hne : ∀ b, b ≠ p.cP → w'.heap[b]? = w.heap[b]?) (hOR : OR φ o' p w'.heap[p.cP]?) (ho : o' ≠ .none) : HR φ (cI i o' h) w' where
 obj j hj := by
  rw [aD] at hj ⊢
  by_cases e : j = i
  ·subst e
   rw [if_pos rfl] at hj ⊢
   exact ⟨p, hp, hOR⟩
  ·rw [if_neg e] at hj ⊢
   obtain ⟨q, hq, hr⟩ := H.obj j hj
   refine ⟨q, hq, ?_⟩
   rw [hne _ (H.inj j i q p hj hwi.1 (.inr hwi) e hq hp)]
   exact hr
 inj j k q r hj hk hw hjk hq hr := by
  rw [aD] at hj hk
  have hl := hwi.1
  have hw' : wl (ah j h) ∨ wl (ah k h) := by
   rw [aD, aD] at hw
   by_cases e : j = i
   ·subst e; exact .inl hwi
   ·by_cases e' : k = i
    ·subst e'; exact .inr hwi
    ·rwa [if_neg e, if_neg e'] at hw
  have hj' : live (ah j h) := by
   by_cases e : j = i
   ·subst e; exact hl
   ·rwa [if_neg e] at hj
  have hk' : live (ah k h) := by
   by_cases e : k = i
   ·subst e; exact hl
   ·rwa [if_neg e] at hk
  exact H.inj j k q r hj' hk' hw' hjk hq hr
 fresh j hj := by
  rw [aD] at hj
  by_cases e : j = i
  ·rw [if_pos e] at hj; exact absurd hj ho
  ·rw [if_neg e] at hj; exact H.fresh j hj
 bound j q hq := by rw [hsz]; exact H.bound j q hq
theorem fQ.set {φ : aH} {h : Hp} {w w' : World} {i : P4} {p : Place} (hl : wl (ah i h)) (hp : φ i = some p)
  (hsz : w'.heap.size = w.heap.size) (hne : ∀ b, b ≠ p.cP → w'.heap[b]? = w.heap[b]?) (ht : w'.tape = w.tape) (ho : w'.os = w.os) (hu : w'.output = w.output) : fQ φ h w w' :=
 ⟨Nat.le_of_eq hsz.symm, fun b _ hb => hne b (fun e => hb i p hl hp e.symm), ht, ho, hu⟩
noncomputable def aH.put (φ : aH) (i : P4) (p : Place) : aH := fun j => if j = i then some p else φ j
theorem aH.aI (φ : aH) (i : P4) (p : Place) : φ.put i p i = some p := by simp [aH.put]
theorem aH.ir {φ : aH} {i : P4} (p : Place) (h : φ i = none) : φ.le (φ.put i p) := by
 intro j q hq
 unfold aH.put
 by_cases e : j = i
 ·subst e; rw [h] at hq; cases hq
 ·rw [if_neg e]; exact hq
theorem HR.new {φ : aH} {h : Hp} {w w' : World} (H : HR φ h w) {o : Obj} {x : Go.Obj} {room : Nat} {i : P4} {n' : P4} (hi : ah i h = .none)
  (hw : w'.heap = w.heap.push x) (ho : o ≠ .none) (hOR : OR (φ.put i ⟨w.heap.size, 0, room⟩) o ⟨w.heap.size, 0, room⟩ (some x)) :
  HR (φ.put i ⟨w.heap.size, 0, room⟩) (.mk (cU i o h.tree) n') w' := by
 have hφ := H.fresh i hi
 have hle := aH.ir (φ := φ) (i := i) ⟨w.heap.size, 0, room⟩ hφ
 have hg : ∀ j, ah j (.mk (cU i o h.tree) n') = if j = i then o else ah j h := by
  intro j
  cases h with
  | mk t n => exact cV j i o t
 have hold : ∀ b, b < w.heap.size → w'.heap[b]? = w.heap[b]? := by
  intro b hb
  rw [hw, Array.getElem?_push, if_neg (by omega)]
 have hb : ∀ j q, j ≠ i → (φ.put i ⟨w.heap.size, 0, room⟩) j = some q → φ j = some q := by
  intro j q hj hq
  simpa [aH.put, hj] using hq
 refine ⟨fun j hj => ?_, fun j k q r hj hk hw2 hjk hq hr => ?_, fun j hj => ?_, fun j q hq => ?_⟩
 ·rw [hg] at hj ⊢
  by_cases e : j = i
  ·subst e
   refine ⟨_, aH.aI _ _ _, ?_⟩
   rw [if_pos rfl]
   have : w'.heap[w.heap.size]? = some x := by rw [hw]; simp
   simpa [this] using hOR
  ·rw [if_neg e] at hj ⊢
   obtain ⟨q, hq, hr⟩ := H.obj j hj
   refine ⟨q, hle _ _ hq, ?_⟩
   rw [hold _ (H.bound j q hq)]
   exact hr.mono hle
 ·rw [hg] at hj hk
  by_cases e1 : j = i
  ·by_cases e2 : k = i
   ·exact absurd (e1.trans e2.symm) hjk
   ·have hr' := hb k r e2 hr
    have hq' : q = ⟨w.heap.size, 0, room⟩ := by rw [e1, aH.aI] at hq; exact (Option.some.inj hq).symm
    have := H.bound k r hr'
    rw [hq']; show w.heap.size ≠ r.cP; omega
  ·have hq' := hb j q e1 hq
   by_cases e2 : k = i
   ·have hr' : r = ⟨w.heap.size, 0, room⟩ := by rw [e2, aH.aI] at hr; exact (Option.some.inj hr).symm
    have := H.bound j q hq'
    rw [hr']; show q.cP ≠ w.heap.size; omega
   ·rw [if_neg e1] at hj
    rw [if_neg e2] at hk
    rw [hg, hg, if_neg e1, if_neg e2] at hw2
    exact H.inj j k q r hj hk hw2 hjk hq' (hb k r e2 hr)
 ·rw [hg] at hj
  by_cases e : j = i
  ·rw [if_pos e] at hj; exact absurd hj ho
  ·rw [if_neg e] at hj
   show (if j = i then some _ else φ j) = none
   rw [if_neg e]; exact H.fresh j hj
 ·by_cases e : j = i
  ·have hq' : q = ⟨w.heap.size, 0, room⟩ := by rw [e, aH.aI] at hq; exact (Option.some.inj hq).symm
   rw [hq', hw]; simp
  ·have := H.bound j q (hb j q e hq)
   rw [hw]; simp; omega
theorem fQ.new {φ : aH} {h : Hp} {w w' : World} {x : Go.Obj} (hw : w'.heap = w.heap.push x) (ht : w'.tape = w.tape) (ho : w'.os = w.os) (hu : w'.output = w.output) : fQ φ h w w' :=
 ⟨by rw [hw]; simp, fun b hb _ => by rw [hw, Array.getElem?_push, if_neg (by omega)], ht, ho, hu⟩
theorem iL {o : Obj} {h : Hp} {k : P4 → Hp → RV} {v : AV} {h' : Hp} (e : iu o h k = .ok v h') :
  ah h.next h = .none ∧ k h.next (.mk (cU h.next o h.tree) h.next.succ) = .ok v h' := by
 cases h with
 | mk t nx =>
  have e' : (Bool.rec (RV.err 1) (k nx (.mk (cU nx o t) nx.succ)) (isNone (cm nx t)) : RV) = .ok v h' := e
  show cm nx t = .none ∧ k nx (.mk (cU nx o t) nx.succ) = .ok v h'
  cases hg : cm nx t <;> simp [hg, isNone] at e' <;> exact ⟨rfl, e'⟩
structure Step (φ : aH) (h : Hp) (w : World) (φ' : aH) (h' : Hp) (w' : World) : Prop where
 le : φ.le φ'
 keeps : fQ φ h w w'
 new : ∀ i p, live (ah i h') → φ' i = some p → (live (ah i h) ∧ φ i = some p ∧ (wl (ah i h') → wl (ah i h))) ∨ w.heap.size ≤ p.cP ∨ ∃ j q, wl (ah j h) ∧ φ j = some q ∧ q.cP = p.cP
theorem Step.refl (φ : aH) (h : Hp) (w : World) : Step φ h w φ h w := ⟨φ.le_refl, .refl _ _ _, fun _ _ a b => .inl ⟨a, b, id⟩⟩
theorem Step.trans {φ ψ χ : aH} {h h' h'' : Hp} {w w' w'' : World} (a : Step φ h w ψ h' w') (b : Step ψ h' w' χ h'' w'') : Step φ h w χ h'' w'' := by
 refine ⟨aH.le_trans a.le b.le, a.keeps.trans b.keeps a.new, fun i p hl hp => ?_⟩
 rcases b.new i p hl hp with ⟨h1, h2, h3⟩ | h1 | ⟨j, q, h1, h2, h3⟩
 ·rcases a.new i p h1 h2 with ⟨g1, g2, g3⟩ | g | g
  ·exact .inl ⟨g1, g2, fun x => g3 (h3 x)⟩
  ·exact .inr (.inl g)
  ·exact .inr (.inr g)
 ·exact .inr (.inl (Nat.le_trans a.keeps.size h1))
 ·rcases a.new j q h1.1 h2 with ⟨g1, g2, g4⟩ | g1 | ⟨l, s, g1, g2, g3⟩
  ·exact .inr (.inr ⟨j, q, g4 h1, g2, h3⟩)
  ·exact .inr (.inl (h3 ▸ g1))
  ·exact .inr (.inr ⟨l, s, g1, g2, g3.trans h3⟩)
def Good (φ : aH) (h : Hp) (w : World) (v : AV) (h' : Hp) (r : Result Value) : Prop :=
 ∃ cv w' φ', r = .ok cv w' ∧ VR φ' v cv ∧ HR φ' h' w' ∧ Step φ h w φ' h' w'
def tn (φ : aH) (h : Hp) (w : World) (h' : Hp) (r : Result Unit) : Prop :=
 ∃ w' φ', r = .ok () w' ∧ HR φ' h' w' ∧ Step φ h w φ' h' w'
theorem Good.same {φ : aH} {h : Hp} {w : World} {v : AV} {cv : Value} {r : Result Value} (H : HR φ h w) (hv : VR φ v cv) (hr : r = .ok cv w) : Good φ h w v h r :=
 ⟨cv, w, φ, hr, hv, H, .refl _ _ _⟩
theorem RV.al {v v' : AV} {h h' : Hp} (e : RV.ok v h = RV.ok v' h') : v = v' ∧ h = h' := by cases e; exact ⟨rfl, rfl⟩
section
variable {n : Nat} {v : AV} {h : Hp} {x : AV}
theorem bB {k : IntKind → Int → RV} (e : AV.dm x k (.err n) = .ok v h) : ∃ kd m, x = .int kd m ∧ k kd m = .ok v h := by
 cases x <;> first | exact ⟨_, _, rfl, e⟩ | cases e
theorem lk {k : Bool → RV} (e : AV.bu x k (.err n) = .ok v h) : ∃ b, x = .bool b ∧ k b = .ok v h := by
 cases x <;> first | exact ⟨_, rfl, e⟩ | cases e
theorem cw {k : List Nat → RV} (e : AV.hG x k (.err n) = .ok v h) : ∃ l, x = .str l ∧ k l = .ok v h := by
 cases x <;> first | exact ⟨_, rfl, e⟩ | cases e
theorem cA {k : P4 → Nat → RV} (e : AV.eI x k (.err n) = .ok v h) : ∃ i o, x = .ptr i o ∧ k i o = .ok v h := by
 cases x <;> first | exact ⟨_, _, rfl, e⟩ | cases e
theorem di {k : List AV → RV} (e : AV.lH x k (.err n) = .ok v h) : ∃ l, x = .agg l ∧ k l = .ok v h := by
 cases x <;> first | exact ⟨_, rfl, e⟩ | cases e
theorem wH {k : List AV → RV} (e : AV.zk x k (.err n) = .ok v h) : ∃ l, x = .ku l ∧ k l = .ok v h := by
 cases x <;> first | exact ⟨_, rfl, e⟩ | cases e
theorem ew {k : FloatKind → Nat → RV} (e : AV.po x k (.err n) = .ok v h) : ∃ a b, x = .nQ a b ∧ k a b = .ok v h := by
 cases x <;> first | exact ⟨_, _, rfl, e⟩ | cases e
theorem fx {k : FloatKind → Nat → Nat → RV} (e : AV.qR x k (.err n) = .ok v h) : ∃ a b c, x = .fZ a b c ∧ k a b c = .ok v h := by
 cases x <;> first | exact ⟨_, _, _, rfl, e⟩ | cases e
theorem eW {k : P4 → RV} {d : RV} (e : AV.ez x k d (.err n) = .ok v h) : (∃ i, x = .map i ∧ k i = .ok v h) ∨ (x = .jQ ∧ d = .ok v h) := by
 cases x <;> first | exact .inl ⟨_, rfl, e⟩ | exact .inr ⟨rfl, e⟩ | cases e
theorem dF {k k' : P4 → Nat → Nat → Nat → RV} {d : RV} (e : AV.jZ x k k' d (.err n) = .ok v h) :
  (∃ i o l c, x = .slice i o l c ∧ k i o l c = .ok v h) ∨ (∃ i o l c, x = .fN i o l c ∧ k' i o l c = .ok v h) ∨ (x = .ak ∧ d = .ok v h) := by
 cases x <;> first | exact .inl ⟨_, _, _, _, rfl, e⟩ | exact .inr (.inl ⟨_, _, _, _, rfl, e⟩) | exact .inr (.inr ⟨rfl, e⟩) | cases e
theorem aP {o : Obj} {k : Nat → Nat → Bool → Fl → Cl → RV} (e : Obj.aQ o k (.err n) = .ok v h) : ∃ el m ex fl c, o = .cells el m ex fl c ∧ k el m ex fl c = .ok v h := by
 cases o <;> first | exact ⟨_, _, _, _, _, rfl, e⟩ | cases e
theorem dA {o : Obj} {k : List KV → Nat → RV} (e : Obj.ez o k (.err n) = .ok v h) : ∃ l c, o = .map l c ∧ k l c = .ok v h := by
 cases o <;> first | exact ⟨_, _, rfl, e⟩ | cases e
theorem au {b : Bool} {t : RV} (e : (Bool.rec (.err n) t b : RV) = .ok v h) : b = true ∧ t = .ok v h := by
 cases b
 ·cases e
 ·exact ⟨rfl, e⟩
theorem cW {k : Nat → RV} (e : dU x k (.err n) = .ok v h) : ∃ kd m, x = .int kd (.ofNat m) ∧ k m = .ok v h := by
 obtain ⟨kd, m, rfl, e'⟩ := bB e
 cases m with
 | ofNat m => exact ⟨kd, m, rfl, e'⟩
 | negSucc m => cases e'
end
theorem tp {w : World} {p : Place} {o : Nat} {rc : Array Value} {el : TypeId} {fz : Nat × Nat} (h : w.heap[p.cP]? = some (.cells rc el fz)) : w.cell? (p.addr o) = rc[p.base + o]? := by
 simp [World.cell?, Place.addr, h]
theorem HR.cell {φ : aH} {h : Hp} {w : World} (H : HR φ h w) {i : P4} {p : Place} {el n : Nat} {ex : Bool} {fl : Fl} {c : Cl} {o : Nat}
  (hi : ah i h = .cells el n ex fl c) (hp : φ i = some p) (ho : o < n) : ∃ cv, w.cell? (p.addr o) = some cv ∧ VR φ (eF o c) cv ∧ cv.oneCell' = true := by
 obtain ⟨q, hq, hr⟩ := H.obj i (hi ▸ aM)
 rw [hp] at hq; cases hq
 rw [hi] at hr
 obtain ⟨rc, fz, h1, h2, h3, h4, h5, h6, h7⟩ := hr
 obtain ⟨cv, a, b, d⟩ := h6 o ho
 exact ⟨cv, by rw [tp h1]; exact a, b, d⟩
theorem jx (w : World) (a : Addr) (v : Value) : (w.setCell a v).heap.size = w.heap.size := by simp [World.setCell]
theorem qS (w : World) (a : Addr) (v : Value) {b : Nat} (hb : b ≠ a.block) : (w.setCell a v).heap[b]? = w.heap[b]? := by
 simp only [World.setCell, Array.getElem?_modify]
 rw [if_neg (fun e => hb e.symm)]
theorem yw {w : World} {p : Place} {o : Nat} {rc : Array Value} {el : TypeId} {fz : Nat × Nat} (v : Value) (h : w.heap[p.cP]? = some (.cells rc el fz)) :
  (w.setCell (p.addr o) v).heap[p.cP]? = some (.cells (rc.setIfInBounds (p.base + o) v) el fz) := by
 simp only [World.setCell, Array.getElem?_modify, Place.addr]
 simp [h]
theorem HR.store {φ : aH} {h : Hp} {w : World} (H : HR φ h w) {i : P4} {p : Place} {el n : Nat} {ex : Bool} {fl : Fl} {c : Cl} {o : Nat} {v : AV} {cv : Value}
  (hi : ah i h = .cells el n ex fl c) (hp : φ i = some p) (ho : o < n) (hv : VR φ v cv) (h1 : cv.oneCell' = true) (hf : wr fl = true) :
  HR φ (cI i (.cells el n ex fl (jY o v c)) h) (w.setCell (p.addr o) cv) ∧ fQ φ h w (w.setCell (p.addr o) cv) := by
 have hl : live (ah i h) := hi ▸ aM
 have hne : ∀ b, b ≠ p.cP → (w.setCell (p.addr o) cv).heap[b]? = w.heap[b]? := fun b hb => qS w _ cv hb
 refine ⟨H.set (lQ hi hf) hp (jx _ _ _) hne ?_ (by simp), fQ.set (lQ hi hf) hp (jx _ _ _) hne rfl rfl rfl⟩
 obtain ⟨q, hq, hr⟩ := H.obj i hl
 rw [hp] at hq; cases hq
 rw [hi] at hr
 obtain ⟨rc, fz, g1, g2, g3, g4, g5, g6, g7⟩ := hr
 refine ⟨rc.setIfInBounds (p.base + o) cv, fz, yw cv g1, by simpa using g2, g3, g4, by rw [gE]; exact g5, fun k hk => ?_, by simpa using g7⟩
 rw [ox c (by omega) (by omega), Array.getElem?_setIfInBounds]
 by_cases e : k = o
 ·subst e
  exact ⟨cv, by rw [if_pos rfl, if_pos (by omega)], by rw [if_pos rfl]; exact hv, h1⟩
 ·rw [if_neg (by omega), if_neg e]
  exact g6 k hk
theorem qT {φ : aH} {h : Hp} {w : World} (H : HR φ h w) {i : P4} {p : Place} {el n : Nat} {ex : Bool} {fl : Fl} {c : Cl} {o : Nat}
  (hi : ah i h = .cells el n ex fl c) (hp : φ i = some p) (ho : o < n) (hf : wr fl = true) : w.frozen? (p.addr o) = false := by
 obtain ⟨q, hq, hr⟩ := H.obj i (hi ▸ aM)
 rw [hp] at hq; cases hq
 rw [hi] at hr
 obtain ⟨rc, fz, g1, g2, g3, g4, g5, g6, g7⟩ := hr
 simp only [World.frozen?, Place.addr, g1]
 cases fl with
 | plain => cases g7; simp
 | mark =>
  have := g7 (p.base + o) (by omega)
  rw [Bool.eq_false_iff]
  intro hh
  have hh' := Bool.and_eq_true_iff.1 hh
  exact this ⟨of_decide_eq_true hh'.1, of_decide_eq_true hh'.2⟩
 | yv => cases hf
 | ro => cases hf
theorem sD {P : Program} {w : World} {a : Addr} {v : Value} (h : w.cell? a = some v) : (load a).run P w = .ok v w := by
 rw [run_load, h]
theorem gG {P : Program} {w : World} {a : Addr} {v u : Value} (hv : v.oneCell' = true) (h : w.cell? a = some u) (hf : w.frozen? a = false) : (store a v).run P w = .ok () (w.setCell a v) := by
 rw [run_store P w a v _ hv, h]; simp [hf]
theorem cJ (p : Place) (o k : Nat) : (p.addr o).add k = p.addr (o + k) := by
 unfold Addr.add Place.addr
 split
 ·rename_i h; subst h; rfl
 ·simp [Nat.add_assoc]
variable {P : Program} {φ : aH} {h h' : Hp} {w : World} {v : AV} {x y z : AO} {r : A2}
theorem kI {i n : Nat} (e : CV i n = true) : i < n := Nat.le_of_ble_eq_true e
theorem ai {t : TypeId} {d : TypeDesc} (hd : P.underlying t = some d) (w : World) : (underlying t).run P w = .ok d w := by
 simp [underlying, hd]
theorem bD {t : TypeId} {d : TypeInfo} (hd : P.info? t = some d) (w : World) : (typeInfo t).run P w = .ok d w := by
 simp [typeInfo, hd]
theorem aK {t : TypeId} {d : TypeInfo} (hd : P.info? t = some d) (w : World) : (sizeOf t).run P w = .ok d.size w := by
 simp [sizeOf, bD hd]
theorem gx {t : TypeId} {d : TypeDesc} (hd : P.underlying t = some d) (w : World) : (isAgg t).run P w = .ok (pN P t) w := by
 simp only [isAgg, Sem.run_bind, ai hd, Result.andThen_ok, pN, jh, hd, Option.getD_some]
 cases d <;> rfl
theorem hH {t : TypeId} {d : TypeDesc} (hd : P.underlying t = some d) : ∃ i, P.info? t = some i := by
 unfold Program.underlying at hd
 cases hi : P.info? t with
 | some i => exact ⟨i, rfl⟩
 | none => rw [hi] at hd; cases hd
theorem cG {t : TypeId} {i : TypeInfo} (hi : P.info? t = some i) : aY P t = i.size := by simp [aY, Program.cellsOf, hi]
theorem Ew {cx : Value} (H : HR φ h w) (hx : VR φ (ev x r) cx) {t : TypeId} {d : TypeDesc} (hd : P.underlying t = some d) (ha : pN P t = false)
  (e : jN x r h = .ok v h') : Good φ h w v h' ((Instr.loadAt t cx).run P w) := by
 obtain ⟨i, o, ex, e⟩ := cA e
 rw [ex] at hx
 obtain ⟨el, n, ex, fl, c, hi, e⟩ := aP e
 obtain ⟨hb, e⟩ := au e
 obtain ⟨rfl, rfl⟩ := RV.al e
 cases hx with
 | ptr _ _ p hp =>
  obtain ⟨cv, h1, h2, h3⟩ := H.cell hi hp (kI hb)
  refine .same H h2 ?_
  simp [Instr.loadAt, Instr.sureAddr, loadVar, gx hd, ha, h1]
theorem mq {a : Addr} {cv u : Value} (h1 : cv.oneCell' = true) (hc : w.cell? a = some u) (hf : w.frozen? a = false) :
  (storeCells a [cv]).run P w = .ok () (w.setCell a cv) := by
 have : a.add 0 = a := by simp [Addr.add]
 simp [storeCells, this, gG h1 hc hf]
theorem tq {cv : Value} (h1 : cv.oneCell' = true) : cv.cells = #[cv] := by cases cv <;> first | rfl | cases h1
theorem Ey {cx cy : Value} (H : HR φ h w) (hx : VR φ (ev x r) cx) (hy : VR φ (ev y r) cy) {t : TypeId} {i : TypeInfo} (hi : P.info? t = some i) (hs : i.size = 1)
  (e : qU x y r h = .ok v h') :
  v = .undef ∧ tn φ h w h' ((Instr.storeAt t cx cy).run P w) := by
 obtain ⟨i, o, ex, e⟩ := cA e
 rw [ex] at hx
 obtain ⟨el, n, ex, fl, c, hi', e⟩ := aP e
 obtain ⟨hw, e⟩ := au e
 obtain ⟨hb, e⟩ := au e
 obtain ⟨rfl, rfl⟩ := RV.al e
 refine ⟨rfl, ?_⟩
 obtain ⟨hb, h1⟩ := Bool.and_eq_true_iff.1 hb
 have ho : o < n := kI hb
 cases hx with
 | ptr _ _ p hp =>
  obtain ⟨u, c1, c2, c3⟩ := H.cell hi' hp ho
  obtain ⟨g1, g2⟩ := H.store hi' hp ho hy (hy.one h1) hw
  refine ⟨_, φ, ?_, g1, φ.le_refl, g2, fun j q hj hq => ?_⟩
  ·simp [Instr.storeAt, Instr.sureAddr, storeVar, tq (hy.one h1), aK hi, hs, mq (hy.one h1) c1 (qT H hi' hp ho hw)]
  ·rw [aD] at hj
   by_cases ej : j = i
   ·subst ej; exact .inl ⟨hi' ▸ aM, hq, fun _ => lQ hi' hw⟩
   ·rw [if_neg ej] at hj; exact .inl ⟨hj, hq, fun x => by rw [aD, if_neg ej] at x; exact x⟩
theorem run_loadCellsFrom {a : Addr} : ∀ (n i : Nat) (acc : Array Value) (l : List Value), l.length = n → (∀ k (hk : k < l.length), w.cell? (a.add (i + k)) = some l[k]) →
  (loadCellsFrom a i n acc).run P w = .ok (acc ++ l.toArray) w := by
 intro n
 induction n with
 | zero => intro i acc l hl _; rw [List.length_eq_zero_iff.1 hl]; simp [loadCellsFrom]
 | succ n ih =>
  intro i acc l hl hc
  match l, hl with
  | x :: l, hl =>
   have h0 := hc 0 (by simp)
   simp only [Nat.add_zero, List.getElem_cons_zero] at h0
   simp only [loadCellsFrom, Sem.run_bind, sD h0, Result.andThen_ok]
   rw [ih (i + 1) (acc.push x) l (by simpa using hl) ?_]
   ·simp
   ·intro k hk
    have := hc (k + 1) (by simp; omega)
    simpa [Nat.add_assoc, Nat.add_comm 1 k] using this
theorem run_loadCells {a : Addr} {n : Nat} {l : List Value} (hl : l.length = n) (hc : ∀ k (hk : k < l.length), w.cell? (a.add k) = some l[k]) : (loadCells a n).run P w = .ok l.toArray w := by
 unfold loadCells
 rw [run_loadCellsFrom n 0 #[] l hl (by simpa using hc)]
 simp
theorem HR.values (H : HR φ h w) {i : P4} {p : Place} {el n : Nat} {ex : Bool} {fl : Fl} {c : Cl} (hi : ah i h = .cells el n ex fl c) (hp : φ i = some p) :
  ∀ (m o : Nat), o + m ≤ n → ∃ l : List Value, l.length = m ∧ cn φ (bn m c o) l ∧ (∀ x, x ∈ l → x.oneCell' = true) ∧ (∀ k (hk : k < l.length), w.cell? ((p.addr o).add k) = some l[k]) := by
 intro m
 induction m with
 | zero => intro o _; exact ⟨[], rfl, .nil, by simp, by simp⟩
 | succ m ih =>
  intro o ho
  obtain ⟨l, h1, h2, h3, h4⟩ := ih (o + 1) (by omega)
  obtain ⟨cv, c1, c2, c3⟩ := H.cell hi hp (show o < n by omega)
  refine ⟨cv :: l, by simp [h1], .cons _ _ _ _ c2 h2, ?_, ?_⟩
  ·intro x hx
   cases List.mem_cons.1 hx with
   | inl e => exact e ▸ c3
   | inr e => exact h3 x e
  ·intro k hk
   match k with
   | 0 => simpa [cJ] using c1
   | k + 1 =>
    have := h4 k (by simpa using hk)
    rw [cJ] at this ⊢
    simpa [show o + 1 + k = o + (k + 1) by omega] using this
theorem Ez {cx : Value} (H : HR φ h w) (hx : VR φ (ev x r) cx) {t : TypeId} {d : TypeDesc} (hd : P.underlying t = some d) (ha : pN P t = true) {m : Nat} (hm : aY P t = m)
  (e : pq m x r h = .ok v h') :
  Good φ h w v h' ((Instr.loadAt t cx).run P w) := by
 obtain ⟨i, o, ex, e⟩ := cA e
 rw [ex] at hx
 obtain ⟨el, n, ex, fl, c, hi, e⟩ := aP e
 obtain ⟨hb, e⟩ := au e
 obtain ⟨rfl, rfl⟩ := RV.al e
 obtain ⟨inf, hinf⟩ := hH hd
 cases hx with
 | ptr _ _ p hp =>
  obtain ⟨l, h1, h2, h3, h4⟩ := H.values hi hp m o (by simpa using hb)
  refine .same H (.agg _ l h2 h3) ?_
  have hsz : inf.size = m := by rw [← cG hinf, hm]
  simp [Instr.loadAt, Instr.sureAddr, loadVar, gx hd, ha, aK hinf, hsz, run_loadCells h1 h4]
theorem kJ {i : P4} {p : Place} (hp : φ i = some p) {el n : Nat} {ex : Bool} {fl : Fl} (hf : wr fl = true) : ∀ (l : List AV) (vs : List Value) (h : Hp) (w : World) (c : Cl) (o k : Nat), HR φ h w → ah i h = .cells el n ex fl c → cn φ l vs → (∀ x, x ∈ vs → x.oneCell' = true) → o + k + l.length ≤ n →
  ∃ w', (storeCells (p.addr o) vs k).run P w = .ok () w' ∧ HR φ (cI i (.cells el n ex fl (cM l (o + k) c)) h) w' ∧ fQ φ h w w' := by
 intro l
 induction l with
 | nil =>
  intro vs h w c o k H hi hl _ _
  cases hl
  refine ⟨w, rfl, ?_, .refl _ _ _⟩
  have hl : live (ah i h) := hi ▸ aM
  obtain ⟨q, hq, hr⟩ := H.obj i hl
  rw [hp] at hq; cases hq
  rw [hi] at hr
  exact H.set (lQ hi hf) hp rfl (fun _ _ => rfl) hr (by simp)
 | cons a l ih =>
  intro vs h w c o k H hi hl h1 hn
  cases hl with
  | cons _ x _ xs hx hxs =>
   simp only [List.length_cons] at hn
   have ho : o + k < n := by omega
   have hx1 := h1 x (by simp)
   obtain ⟨u, c1, c2, c3⟩ := H.cell hi hp ho
   obtain ⟨g1, g2⟩ := H.store hi hp ho hx hx1 hf
   have hi2 : ah i (cI i (.cells el n ex fl (jY (o + k) a c)) h) = .cells el n ex fl (jY (o + k) a c) := by rw [aD, if_pos rfl]
   obtain ⟨w', r1, r2, r3⟩ := ih xs _ _ (jY (o + k) a c) o (k + 1) g1 hi2 hxs (fun y hy => h1 y (by simp [hy])) (by omega)
   refine ⟨w', ?_, ?_, ?_⟩
   ·simp only [storeCells, Sem.run_bind, cJ, gG hx1 c1 (qT H hi hp ho hf), Result.andThen_ok]
    exact r1
   ·rw [jw]
    have H' := r2
    refine ⟨fun j hj => ?_, fun j m q s hj hm hw2 => ?_, fun j hj => ?_, H'.bound⟩
    ·have := H'.obj j
     simp only [aD] at this hj ⊢
     by_cases e : j = i
     ·simp only [e, if_true] at this hj ⊢; exact this hj
     ·simp only [e, if_false] at this hj ⊢; exact this hj
    ·have := H'.inj j m q s
     simp only [aD] at this hj hm hw2
     by_cases e : j = i <;> by_cases e' : m = i <;> simp only [e, e', if_true, if_false] at this hj hm hw2 ⊢ <;> exact this hj hm hw2
    ·have := H'.fresh j
     simp only [aD] at this hj
     by_cases e : j = i <;> simp only [e, if_true, if_false] at this hj ⊢ <;> exact this hj
   ·refine g2.trans r3 fun j q hj hq => ?_
    rw [aD] at hj
    by_cases e : j = i
    ·subst e; exact .inl ⟨hi ▸ aM, hq, fun _ => lQ hi hf⟩
    ·rw [if_neg e] at hj; exact .inl ⟨hj, hq, fun x => by rw [aD, if_neg e] at x; exact x⟩
variable {P : Program} {φ : aH} {h h' : Hp} {w : World} {v : AV} {x y z : AO} {r : A2}
theorem uL {c : Value} {a : AV} (e : xX c = some a) (φ : aH) : VR φ a c ∧ c.oneCell' = true := by
 unfold xX at e
 split at e <;> cases e <;> refine ⟨?_, rfl⟩
 ·exact .bool _
 ·exact .int _ _
 ·exact .nQ _ _
 ·exact .fZ _ _ _
 ·exact .str _ _ rfl
 ·exact .ct
 ·exact .ak
 ·exact .jQ
 ·exact .fn _ _ [] .nil
 ·exact .AL
 ·exact .vD
theorem ll (φ : aH) : ∀ {cs : List Value} {l : List AV}, cs.mapM xX = some l → cn φ l cs ∧ ∀ c, c ∈ cs → c.oneCell' = true
 | [], l, e => by
  simp at e; subst e; exact ⟨.nil, by simp⟩
 | c :: cs, l, e => by
  simp only [List.mapM_cons, Option.pure_def, Option.bind_eq_bind, Option.bind_eq_some_iff, Option.some.injEq] at e
  obtain ⟨a, ha, as, has, rfl⟩ := e
  obtain ⟨h1, h2⟩ := uL ha φ
  obtain ⟨h3, h4⟩ := ll φ has
  refine ⟨.cons _ _ _ _ h1 h3, ?_⟩
  intro d hd
  cases List.mem_cons.1 hd with
  | inl e => exact e ▸ h2
  | inr e => exact h4 d e
theorem nc {c : Value} {a : AV} (e : zl c = some a) (φ : aH) : VR φ a c := by
 unfold zl at e
 split at e
 ·rename_i cs
  simp only [Option.map_eq_some_iff] at e
  obtain ⟨l, hl, rfl⟩ := e
  obtain ⟨h1, h2⟩ := ll φ hl
  have := VR.agg (φ := φ) l cs.toList h1 h2
  simpa using this
 ·simp only [Option.map_eq_some_iff] at e
  obtain ⟨l, hl, rfl⟩ := e
  exact .iface _ _ _ (uL hl φ).1
 ·exact (uL e φ).1
theorem jy {el n : Nat} {ex : Bool} {fl : Fl} {c : Cl} {k : P4 → Hp → RV} (e : gO el ex fl n c h k = .ok v h') :
  n ≤ bp c ∧ ah h.next h = .none ∧ k h.next (.mk (cU h.next (.cells el n ex fl c) h.tree) h.next.succ) = .ok v h' := by
 obtain ⟨hb, e⟩ := au e
 exact ⟨Nat.le_trans (Nat.le_of_ble_eq_true hb) (zS c).2, iL e⟩
theorem pT {el n : Nat} {ex : Bool} {fl : Fl} {c : Cl} {k : P4 → Hp → RV} (e : gO el ex fl n c h k = .ok v h') : n ≤ 16777216 := by
 obtain ⟨hb, e⟩ := au e
 exact Nat.le_trans (Nat.le_of_ble_eq_true hb) (zS c).1
theorem HR.qV (H : HR φ h w) {i n' : P4} (hi : ah i h = .none) {rc : Array Value} {el n : Nat} {ex : Bool} {fl : Fl} {fz : Nat × Nat} {c : Cl} (hn : n ≤ rc.size) (hex : ex = true → n = rc.size)
  (hr : n ≤ bp c) (hc : ∀ k, k < n → ∃ cv, rc[k]? = some cv ∧ VR φ (eF k c) cv ∧ cv.oneCell' = true) (hf : Bt fl fz rc.size) {w' : World} (hw : w'.heap = w.heap.push (.cells rc el fz))
  (ht : w'.tape = w.tape) (ho : w'.os = w.os) (hu : w'.output = w.output) :
  HR (φ.put i ⟨w.heap.size, 0, rc.size⟩) (.mk (cU i (.cells el n ex fl c) h.tree) n') w' ∧ Step φ h w (φ.put i ⟨w.heap.size, 0, rc.size⟩) (.mk (cU i (.cells el n ex fl c) h.tree) n') w' := by
 have hle := aH.ir (φ := φ) (i := i) ⟨w.heap.size, 0, rc.size⟩ (H.fresh i hi)
 refine ⟨H.new hi hw (by simp) ⟨rc, fz, rfl, by simp, hn, fun e => ⟨rfl, hex e⟩, hr, fun k hk => ?_, hf⟩, hle, .new hw ht ho hu, fun j q hj hq => ?_⟩
 ·obtain ⟨cv, a, b, d⟩ := hc k hk
  exact ⟨cv, by simpa using a, b.mono hle, d⟩
 ·by_cases e : j = i
  ·subst e
   rw [aH.aI] at hq; cases hq
   exact .inr (.inl (Nat.le_refl _))
  ·have hg : ah j (.mk (cU i (.cells el n ex fl c) h.tree) n') = ah j h := by
    cases h with
    | mk t m => exact (cV j i _ t).trans (if_neg e)
   rw [hg] at hj
   exact .inl ⟨hj, by simpa [aH.put, e] using hq, fun x => by rw [hg] at x; exact x⟩
theorem dM (el : TypeId) (cs : Array Value) : (newRow el cs).run P w = .ok ⟨w.heap.size, 0, none⟩ { w with heap := w.heap.push (.cells cs el) } := by
 simp [newRow]
theorem HR.zV (H : HR φ h w) {i n' : P4} (hi : ah i h = .none) {l : List AV} {vs : List Value} (hl : cn φ l vs) (h1 : ∀ c, c ∈ vs → c.oneCell' = true) {el : Nat} {c : Cl} (hr : l.length ≤ bp c)
  (hc : ∀ k (hk : k < l.length), eF k c = l[k]) :
  HR (φ.put i ⟨w.heap.size, 0, vs.length⟩) (.mk (cU i (.cells el l.length true .plain c) h.tree) n') { w with heap := w.heap.push (.cells vs.toArray el) } ∧
   Step φ h w (φ.put i ⟨w.heap.size, 0, vs.length⟩) (.mk (cU i (.cells el l.length true .plain c) h.tree) n') { w with heap := w.heap.push (.cells vs.toArray el) } := by
 have hlen := hl.length
 have := H.qV (n' := n') hi (rc := vs.toArray) (el := el) (n := l.length) (ex := true) (fl := .plain) (fz := (0, 0)) (c := c) (by simp [hlen]) (fun _ => by simp [hlen]) hr
  (fun k hk => ⟨vs[k]'(by omega), by simp, by rw [hc k hk]; exact hl.get k hk (by omega), h1 _ (List.getElem_mem _)⟩) rfl (w' := { w with heap := w.heap.push (.cells vs.toArray el) }) rfl rfl rfl rfl
 simpa using this
theorem pU {i : P4} (e : nU i h = .ok v h') : v = .ptr i 0 ∧ h' = h := by cases e; exact ⟨rfl, rfl⟩
theorem kK (H : HR φ h w) {l : List AV} {vs : List Value} (hl : cn φ l vs) (h1 : ∀ c, c ∈ vs → c.oneCell' = true) {el : Nat} {c : Cl}
  (hc : l.length ≤ bp c → ∀ k (hk : k < l.length), eF k c = l[k]) (e : gO el true .plain l.length c h nU = .ok v h') :
  Good φ h w v h' (.ok (.pointer (some ⟨w.heap.size, 0, none⟩)) { w with heap := w.heap.push (.cells vs.toArray el) }) := by
 obtain ⟨hr, hi, e⟩ := jy e
 obtain ⟨rfl, rfl⟩ := pU e
 obtain ⟨g1, g2⟩ := H.zV (n' := h.next.succ) hi hl h1 (el := el) hr (hc hr)
 refine ⟨_, _, _, rfl, ?_, g1, g2⟩
 have := VR.ptr (φ := φ.put h.next ⟨w.heap.size, 0, vs.length⟩) h.next 0 _ (aH.aI _ _ _)
 simpa [Place.addr] using this
theorem yx (H : HR φ h w) {t : TypeId} {zs : List AV} (hz : fJ P t = some zs) (e : zW t zs.length (mJ zs) r h = .ok v h') :
  Good φ h w v h' ((Instr.alloc t true (.tuple #[])).run P w) := by
 unfold fJ at hz
 simp only [Option.bind_eq_some_iff] at hz
 obtain ⟨zv, ⟨inf, hinf, hzv⟩, hl⟩ := hz
 obtain ⟨g1, g2⟩ := ll φ hl
 have := kK H g1 g2 (fun hr k hk => eu zs hr k hk) e
 have hrun : (Instr.alloc t true (.tuple #[])).run P w = .ok (.pointer (some ⟨w.heap.size, 0, none⟩)) { w with heap := w.heap.push (.cells zv.cells t) } := by
  simp [Instr.alloc, zeroValue, bD hinf, hzv, newVar, dM]
 rw [hrun]
 simpa using this
theorem VR.hM {a : AV} {c : Value} (hv : VR φ a c) {l : List AV} (hl : (a = .agg l) ∨ (a.one = true ∧ l = [a])) : cn φ l c.cells.toList ∧ ∀ d, d ∈ c.cells.toList → d.oneCell' = true := by
 rcases hl with rfl | ⟨h1, rfl⟩
 ·cases hv with
  | agg _ vs hvs ho => exact ⟨by simpa [Value.cells] using hvs, by simpa [Value.cells] using ho⟩
 ·have := hv.one h1
  rw [tq this]
  exact ⟨.cons _ _ _ _ hv .nil, by simpa using this⟩
theorem Lm {a : AV} {f : List AV → RV} {g : RV} {e : RV} (he : (OL.rec g f a.asAgg : RV) = e) : (∃ l, a = .agg l ∧ f l = e) ∨ ((∀ l, a ≠ .agg l) ∧ g = e) := by
 cases a <;> first | exact .inl ⟨_, rfl, he⟩ | exact .inr ⟨fun l => by simp, he⟩
theorem EA {cx : Value} (H : HR φ h w) (hx : VR φ (ev x r) cx) {t : TypeId} (e : wI t x r h = .ok v h') : Good φ h w v h' ((Instr.box t cx).run P w) := by
 have hrun : (Instr.box t cx).run P w = .ok (.pointer (some ⟨w.heap.size, 0, none⟩)) { w with heap := w.heap.push (.cells cx.cells t) } := by
  simp [Instr.box, newVar, dM]
 rw [hrun]
 rcases Lm e with ⟨l, hl, e⟩ | ⟨_, e⟩
 ·obtain ⟨g1, g2⟩ := hx.hM (.inl hl)
  simpa using kK H g1 g2 (fun hr k hk => eu l hr k hk) e
 ·obtain ⟨h1, e⟩ := au e
  obtain ⟨g1, g2⟩ := hx.hM (.inr ⟨h1, rfl⟩)
  simpa using kK H g1 g2 (fun hr k hk => eu _ hr k hk) e
theorem EC {cx cy : Value} (H : HR φ h w) (hx : VR φ (ev x r) cx) (hy : VR φ (ev y r) cy) {t : TypeId} {i : TypeInfo} (hi : P.info? t = some i) {m : Nat} (hm : aY P t = m)
  (e : wJ m x y r h = .ok v h') : v = .undef ∧ tn φ h w h' ((Instr.storeAt t cx cy).run P w) := by
 obtain ⟨j, o, ex, e⟩ := cA e
 rw [ex] at hx
 obtain ⟨el, n, ex, fl, c, hj, e⟩ := aP e
 obtain ⟨hw, e⟩ := au e
 obtain ⟨hb, e⟩ := au e
 obtain ⟨l, ey, e⟩ := di e
 rw [ey] at hy
 obtain ⟨hlen, e⟩ := au e
 obtain ⟨rfl, rfl⟩ := RV.al e
 refine ⟨rfl, ?_⟩
 have hle : o + m ≤ n := Nat.le_of_ble_eq_true hb
 have hlm : l.length = m := Nat.eq_of_beq_eq_true hlen
 cases hx with
 | ptr _ _ p hp =>
  cases hy with
  | agg _ vs hvs ho =>
   obtain ⟨w', r1, r2, r3⟩ := kJ (P := P) hp hw l vs h w c o 0 H hj hvs ho (by omega)
   refine ⟨w', φ, ?_, r2, φ.le_refl, r3, fun k q hk hq => ?_⟩
   ·have hsz : i.size = vs.length := by rw [← cG hi, hm, ← hlm, hvs.length]
    simp only [Instr.storeAt, Instr.sureAddr, storeVar, Value.cells]
    simp [aK hi, hsz, r1]
   ·rw [aD] at hk
    by_cases ek : k = j
    ·subst ek; exact .inl ⟨hj ▸ aM, hq, fun _ => lQ hj hw⟩
    ·rw [if_neg ek] at hk; exact .inl ⟨hk, hq, fun x => by rw [aD, if_neg ek] at x; exact x⟩
variable {P : Program} {φ : aH} {h h' : Hp} {w : World} {v : AV} {x y z : AO} {r : A2}
theorem pR (a b : Int) : Ln a b = a + b := by cases a <;> cases b <;> rfl
theorem uB (a : Int) : Lo a = -a := by
 cases a with
 | ofNat m => cases m <;> rfl
 | negSucc m => rfl
theorem uC (a b : Int) : Ij a b = a * b := by cases a <;> cases b <;> rfl
theorem Ik (a b : Int) : Lp a b = a.tdiv b := by cases a <;> cases b <;> rfl
theorem Il (a b : Int) : Lq a b = a.tmod b := by cases a <;> cases b <;> rfl
theorem uA (a b : Int) : Ni a b = decide (a ≤ b) := by
 cases a with
 | ofNat m => cases b with
  | ofNat n => show Nat.ble m n = _; rw [Bool.eq_iff_iff, Nat.ble_eq]; simp
  | negSucc n => show false = _; symm; simp; omega
 | negSucc m => cases b with
  | ofNat n => show true = _; symm; simp; omega
  | negSucc n => show Nat.ble n m = _; rw [Bool.eq_iff_iff, Nat.ble_eq]; simp; omega
theorem ot (a b : Int) : Im a b = decide (a < b) := by
 cases a with
 | ofNat m => cases b with
  | ofNat n => show Nat.ble (m + 1) n = _; rw [Bool.eq_iff_iff, Nat.ble_eq]; simp; omega
  | negSucc n => show false = _; symm; simp; omega
 | negSucc m => cases b with
  | ofNat n => show true = _; symm; simp; omega
  | negSucc n => show Nat.ble (n + 1) m = _; rw [Bool.eq_iff_iff, Nat.ble_eq]; simp; omega
theorem ij (a b : Int) : sn a b = decide (a = b) := by
 cases a with
 | ofNat m => cases b with
  | ofNat n => show Nat.beq m n = _; rw [Bool.eq_iff_iff, Nat.beq_eq]; simp; omega
  | negSucc n => show false = _; symm; simp
 | negSucc m => cases b with
  | ofNat n => show false = _; symm; simp
  | negSucc n => show Nat.beq m n = _; rw [Bool.eq_iff_iff, Nat.beq_eq]; simp
theorem zX (k : IntKind) (top : Nat) (n : Int) (hk : ∀ m : Int, -(top : Int) - 1 ≤ m → m ≤ top → k.wrap m = m) : wS k top n = k.wrap n := by
 cases n with
 | ofNat m =>
  show (Bool.rec _ _ (Nat.ble m top) : Int) = _
  cases hb : Nat.ble m top
  ·rfl
  ·have : m ≤ top := Nat.le_of_ble_eq_true hb
   show Int.ofNat m = k.wrap (Int.ofNat m)
   exact (hk _ (by simp; omega) (by simp; omega)).symm
 | negSucc m =>
  show (Bool.rec _ _ (Nat.ble m top) : Int) = _
  cases hb : Nat.ble m top
  ·rfl
  ·have : m ≤ top := Nat.le_of_ble_eq_true hb
   show Int.negSucc m = k.wrap (Int.negSucc m)
   exact (hk _ (by omega) (by omega)).symm
theorem zY (k : IntKind) (size : Nat) (n : Int) (hk : ∀ m : Nat, k.wrap (m : Int) = ((m % size : Nat) : Int)) : wU k size n = k.wrap n := by
 cases n with
 | ofNat m => exact (hk m).symm
 | negSucc m => rfl
theorem dh (k : IntKind) (n : Int) : gW k n = k.wrap n := by
 cases k
 ·exact zX _ _ _ (fun m h1 h2 => by simp only [IntKind.wrap, IntKind.bits, IntKind.signed]; simp; split <;> omega)
 ·exact zX _ _ _ (fun m h1 h2 => by simp only [IntKind.wrap, IntKind.bits, IntKind.signed]; simp; split <;> omega)
 ·exact zX _ _ _ (fun m h1 h2 => by simp only [IntKind.wrap, IntKind.bits, IntKind.signed]; simp; split <;> omega)
 ·exact zX _ _ _ (fun m h1 h2 => by simp only [IntKind.wrap, IntKind.bits, IntKind.signed]; simp; split <;> omega)
 ·exact zY _ _ _ (fun m => by simp only [IntKind.wrap, IntKind.bits, IntKind.signed]; simp)
 ·exact zY _ _ _ (fun m => by simp only [IntKind.wrap, IntKind.bits, IntKind.signed]; simp)
 ·exact zY _ _ _ (fun m => by simp only [IntKind.wrap, IntKind.bits, IntKind.signed]; simp)
 ·exact zY _ _ _ (fun m => by simp only [IntKind.wrap, IntKind.bits, IntKind.signed]; simp)
theorem gH {a b : IntKind} (h : kx a b = true) : a = b := by cases a <;> cases b <;> first | rfl | cases h
theorem ED {f : IntKind → Int → Int → AV} {a b : AV} (e : ye f a b h = .ok v h') : ∃ k m n, a = .int k m ∧ b = .int k n ∧ v = f k m n ∧ h' = h := by
 obtain ⟨k, m, ea, e1⟩ := bB e
 obtain ⟨k', n, eb, e2⟩ := bB e1
 obtain ⟨hk, e3⟩ := au e2
 subst ea eb
 obtain ⟨rfl, rfl⟩ := RV.al e3
 obtain rfl := gH hk
 exact ⟨k, m, n, rfl, rfl, rfl, rfl⟩
theorem zZ {a : AV} (e : Ls a h = .ok v h') : a = v ∧ h' = h ∧ a ≠ .undef := by
 cases a <;> first | (cases e; exact ⟨rfl, rfl, by simp⟩) | cases e
theorem EE {f : IntKind → Int → Int → AV} {a b : AV} (e : Io f a b h = .ok v h') : ∃ k m n, a = .int k m ∧ b = .int k n ∧ v = f k m n ∧ h' = h ∧ v ≠ .undef := by
 obtain ⟨k, m, ea, e1⟩ := bB e
 obtain ⟨k', n, eb, e2⟩ := bB e1
 obtain ⟨hk, e3⟩ := au e2
 subst ea eb
 obtain ⟨g1, g2, g3⟩ := zZ e3
 obtain rfl := gH hk
 exact ⟨k, m, n, rfl, rfl, g1.symm, g2, g1 ▸ g3⟩
theorem VR.aZ {k : IntKind} {n : Int} {c : Value} (hv : VR φ (.int k n) c) : c = .int k n := by cases hv; rfl
theorem VR.cT {b : Bool} {c : Value} (hv : VR φ (.bool b) c) : c = .bool b := by cases hv; rfl
theorem VR.cX {l : List Nat} {c : Value} (hv : VR φ (.str l) c) : ∃ s : ByteArray, c = .string s ∧ l = s.data.toList.map UInt8.toNat := by cases hv; exact ⟨_, rfl, by assumption⟩
theorem eE {op : BinOp} {t : TypeId} {p q : Operand} {k k' : IntKind} {m n : Int} : (eqGuard op t p q (.int k m) (.int k' n)).run P w = .ok () w := by
 unfold eqGuard
 cases op <;> simp
section
variable {t : TypeId} {p q : Operand} {cx cy : Value}
theorem kL {f : IntKind → Int → Int → AV} {op : BinOp} (H : HR φ h w) {a b : AV} (hx : VR φ a cx) (hy : VR φ b cy) (e : ye f a b h = .ok v h')
  (hf : ∀ k m n, ∃ c, (binOp op t (.int k m) (.int k n)).run P w = .ok c w ∧ VR φ (f k m n) c) : Good φ h w v h' ((do eqGuard op t p q cx cy; binOp op t cx cy : Sem Value).run P w) := by
 obtain ⟨k, m, n, rfl, rfl, rfl, rfl⟩ := ED e
 rw [hx.aZ, hy.aZ]
 obtain ⟨c, h1, h2⟩ := hf k m n
 refine .same H h2 ?_
 simp [eE, h1]
theorem oD {f : IntKind → Int → Int → AV} {op : BinOp} (H : HR φ h w) {a b : AV} (hx : VR φ a cx) (hy : VR φ b cy) (e : Io f a b h = .ok v h')
  (hf : ∀ k m n, f k m n ≠ .undef → ∃ c, (binOp op t (.int k m) (.int k n)).run P w = .ok c w ∧ VR φ (f k m n) c) : Good φ h w v h' ((do eqGuard op t p q cx cy; binOp op t cx cy : Sem Value).run P w) := by
 obtain ⟨k, m, n, rfl, rfl, rfl, rfl, hu⟩ := EE e
 rw [hx.aZ, hy.aZ]
 obtain ⟨c, h1, h2⟩ := hf k m n hu
 refine .same H h2 ?_
 simp [eE, h1]
theorem EF (H : HR φ h w) {a b : AV} (hx : VR φ a cx) (hy : VR φ b cy) (e : vS a b h = .ok v h') : Good φ h w v h' ((do eqGuard .add t p q cx cy; binOp .add t cx cy : Sem Value).run P w) :=
 kL H hx hy e fun k m n => ⟨.int k (k.wrap (m + n)), by simp [binOp, Op.intArith], by rw [dh, pR]; exact .int _ _⟩
theorem EG (H : HR φ h w) {a b : AV} (hx : VR φ a cx) (hy : VR φ b cy) (e : vU a b h = .ok v h') : Good φ h w v h' ((do eqGuard .sub t p q cx cy; binOp .sub t cx cy : Sem Value).run P w) :=
 kL H hx hy e fun k m n => ⟨.int k (k.wrap (m - n)), by simp [binOp, Op.intArith], by rw [dh, pR, uB, ← Int.sub_eq_add_neg]; exact .int _ _⟩
theorem EH (H : HR φ h w) {a b : AV} (hx : VR φ a cx) (hy : VR φ b cy) (e : sJ a b h = .ok v h') : Good φ h w v h' ((do eqGuard .mul t p q cx cy; binOp .mul t cx cy : Sem Value).run P w) :=
 kL H hx hy e fun k m n => ⟨.int k (k.wrap (m * n)), by simp [binOp, Op.intArith], by rw [dh, uC]; exact .int _ _⟩
theorem EI (H : HR φ h w) {a b : AV} (hx : VR φ a cx) (hy : VR φ b cy) (e : Kg a b h = .ok v h') : Good φ h w v h' ((do eqGuard .quo t p q cx cy; binOp .quo t cx cy : Sem Value).run P w) := by
 refine oD H hx hy e fun k m n hu => ?_
 rw [ij] at hu ⊢
 by_cases hz : n = 0
 ·subst hz; exact absurd rfl hu
 ·have : decide (n = Int.ofNat 0) = false := by simpa using hz
  rw [this]
  exact ⟨.int k (k.wrap (m.tdiv n)), by simp [binOp, Op.intDiv, hz], by show VR φ (.int k (gW k (Lp m n))) _; rw [dh, Ik]; exact .int _ _⟩
theorem EJ (H : HR φ h w) {a b : AV} (hx : VR φ a cx) (hy : VR φ b cy) (e : Kh a b h = .ok v h') : Good φ h w v h' ((do eqGuard .rem t p q cx cy; binOp .rem t cx cy : Sem Value).run P w) := by
 refine oD H hx hy e fun k m n hu => ?_
 rw [ij] at hu ⊢
 by_cases hz : n = 0
 ·subst hz; exact absurd rfl hu
 ·have : decide (n = Int.ofNat 0) = false := by simpa using hz
  rw [this]
  exact ⟨.int k (m.tmod n), by simp [binOp, Op.intDiv, hz], by show VR φ (.int k (Lq m n)) _; rw [Il]; exact .int _ _⟩
theorem EK (b : Nat) (m : Nat) : (BitVec.ofInt b (Int.ofNat m)).toNat = m % 2 ^ b := by
 simp only [BitVec.toNat_ofInt, Int.ofNat_eq_natCast]
 rw [show ((2 ^ b : Nat) : Int) = (2 ^ b : Nat) from rfl, ← Int.natCast_emod, Int.toNat_natCast]
theorem pV (k : IntKind) : gZ k = k.bits := by cases k <;> rfl
theorem oE {f : Nat → Nat → Nat} {op : BinOp} {g : ∀ b, BitVec b → BitVec b → BitVec b} (hg : ∀ b (m n : BitVec b), (g b m n).toNat = f m.toNat n.toNat)
  (hop : ∀ k m n, (binOp op t (.int k m) (.int k n)).run P w = .ok (.int k (k.wrap (g k.bits (BitVec.ofInt k.bits m) (BitVec.ofInt k.bits n)).toNat)) w)
  (H : HR φ h w) {a b : AV} (hx : VR φ a cx) (hy : VR φ b cy) (e : Io (Aa f) a b h = .ok v h') : Good φ h w v h' ((do eqGuard op t p q cx cy; binOp op t cx cy : Sem Value).run P w) := by
 refine oD H hx hy e fun k m n hu => ⟨_, hop k m n, ?_⟩
 cases m with
 | negSucc m => exact absurd rfl hu
 | ofNat m => cases n with
  | negSucc n => exact absurd rfl hu
  | ofNat n =>
   show VR φ (.int k (gW k (.ofNat (f (m % 2 ^ gZ k) (n % 2 ^ gZ k))))) _
   rw [dh, hg, EK, EK, pV]
   exact .int _ _
theorem EL (H : HR φ h w) {a b : AV} (hx : VR φ a cx) (hy : VR φ b cy) (e : CJ a b h = .ok v h') : Good φ h w v h' ((do eqGuard .and t p q cx cy; binOp .and t cx cy : Sem Value).run P w) :=
 oE (g := fun _ m n => m &&& n) (fun b m n => by simp) (fun k m n => by simp [binOp, Op.intBits]) H hx hy e
theorem Ip (H : HR φ h w) {a b : AV} (hx : VR φ a cx) (hy : VR φ b cy) (e : Nj a b h = .ok v h') : Good φ h w v h' ((do eqGuard .or t p q cx cy; binOp .or t cx cy : Sem Value).run P w) :=
 oE (g := fun _ m n => m ||| n) (fun b m n => by simp) (fun k m n => by simp [binOp, Op.intBits]) H hx hy e
theorem EM (H : HR φ h w) {a b : AV} (hx : VR φ a cx) (hy : VR φ b cy) (e : zi a b h = .ok v h') : Good φ h w v h' ((do eqGuard .xor t p q cx cy; binOp .xor t cx cy : Sem Value).run P w) :=
 oE (g := fun _ m n => m ^^^ n) (fun b m n => by simp) (fun k m n => by simp [binOp, Op.intBits]) H hx hy e
theorem Bu (H : HR φ h w) {a b : AV} (hx : VR φ a cx) (hy : VR φ b cy) (e : EN a b h = .ok v h') : Good φ h w v h' ((do eqGuard .andNot t p q cx cy; binOp .andNot t cx cy : Sem Value).run P w) :=
 kL H hx hy e fun k m n => ⟨_, by simp [binOp, Op.intBits], .int _ _⟩
theorem iM {op : BinOp} {f : Int → Int → Bool} (hop : ∀ m n : Int, (Op.intCmp op m n).run P w = .ok (.bool (f m n)) w) (hb : ∀ k (m n : Int), binOp op t (.int k m) (.int k n) = Op.intCmp op m n)
  (H : HR φ h w) {a b : AV} (hx : VR φ a cx) (hy : VR φ b cy) (e : ye (fun _ m n => .bool (f m n)) a b h = .ok v h') : Good φ h w v h' ((do eqGuard op t p q cx cy; binOp op t cx cy : Sem Value).run P w) :=
 kL H hx hy e fun k m n => ⟨_, by rw [hb]; exact hop m n, .bool _⟩
theorem Iq (H : HR φ h w) {a b : AV} (hx : VR φ a cx) (hy : VR φ b cy) (e : vT a b h = .ok v h') : Good φ h w v h' ((do eqGuard .eql t p q cx cy; binOp .eql t cx cy : Sem Value).run P w) :=
 iM (f := sn) (fun m n => by rw [ij]; rfl) (fun k m n => by simp [binOp]) H hx hy e
theorem Ir (H : HR φ h w) {a b : AV} (hx : VR φ a cx) (hy : VR φ b cy) (e : Hm a b h = .ok v h') : Good φ h w v h' ((do eqGuard .neq t p q cx cy; binOp .neq t cx cy : Sem Value).run P w) :=
 iM (f := fun m n => Bool.not (sn m n)) (fun m n => by rw [ij]; rfl) (fun k m n => by simp [binOp]) H hx hy e
theorem It (H : HR φ h w) {a b : AV} (hx : VR φ a cx) (hy : VR φ b cy) (e : CX a b h = .ok v h') : Good φ h w v h' ((do eqGuard .lss t p q cx cy; binOp .lss t cx cy : Sem Value).run P w) :=
 iM (f := Im) (fun m n => by rw [ot]; rfl) (fun k m n => by simp [binOp]) H hx hy e
theorem Iu (H : HR φ h w) {a b : AV} (hx : VR φ a cx) (hy : VR φ b cy) (e : AH a b h = .ok v h') : Good φ h w v h' ((do eqGuard .leq t p q cx cy; binOp .leq t cx cy : Sem Value).run P w) :=
 iM (f := Ni) (fun m n => by rw [uA]; rfl) (fun k m n => by simp [binOp]) H hx hy e
theorem Iw (H : HR φ h w) {a b : AV} (hx : VR φ a cx) (hy : VR φ b cy) (e : eN a b h = .ok v h') : Good φ h w v h' ((do eqGuard .gtr t p q cx cy; binOp .gtr t cx cy : Sem Value).run P w) :=
 iM (f := fun m n => Im n m) (fun m n => by rw [ot]; rfl) (fun k m n => by simp [binOp]) H hx hy e
theorem Ix (H : HR φ h w) {a b : AV} (hx : VR φ a cx) (hy : VR φ b cy) (e : CF a b h = .ok v h') : Good φ h w v h' ((do eqGuard .geq t p q cx cy; binOp .geq t cx cy : Sem Value).run P w) :=
 iM (f := fun m n => Ni n m) (fun m n => by rw [uA]; rfl) (fun k m n => by simp [binOp]) H hx hy e
end
variable {P : Program} {φ : aH} {h h' : Hp} {w : World} {v : AV} {x y z : AO} {r : A2}
theorem kz : ∀ (a b : List Nat), iI a b = decide (a = b)
 | [], [] => rfl
 | [], _ :: _ => rfl
 | _ :: _, [] => rfl
 | x :: a, y :: b => by
  show (Bool.rec false (iI a b) (Nat.beq x y) : Bool) = _
  rw [kz a b, show Nat.beq x y = decide (x = y) by rw [Bool.eq_iff_iff, Nat.beq_eq]; simp]
  by_cases hxy : x = y
  ·subst hxy; simp
  ·simp [hxy]
theorem kM : ∀ (a b : List UInt8), tr (a.map UInt8.toNat) (b.map UInt8.toNat) = Op.bytesLess a b
 | [], [] => rfl
 | [], _ :: _ => rfl
 | _ :: _, [] => rfl
 | x :: a, y :: b => by
  show (Bool.rec (Nat.ble x.toNat y.toNat) (tr (a.map UInt8.toNat) (b.map UInt8.toNat)) (Nat.beq x.toNat y.toNat) : Bool) = (decide (x < y) || (x == y && Op.bytesLess a b))
  rw [kM a b, show Nat.beq x.toNat y.toNat = decide (x.toNat = y.toNat) by rw [Bool.eq_iff_iff, Nat.beq_eq]; simp]
  by_cases hxy : x = y
  ·subst hxy; simp
  ·have h1 : x.toNat ≠ y.toNat := fun e => hxy (UInt8.toNat_inj.1 e)
   have h2 : (x == y) = false := by simpa using hxy
   rw [h2]
   simp only [h1, decide_false, Bool.false_and, Bool.or_false]
   rw [Bool.eq_iff_iff, Nat.ble_eq]
   simp only [decide_eq_true_eq, UInt8.lt_iff_toNat_lt]
   omega
theorem sE {a b : List UInt8} : a.map UInt8.toNat = b.map UInt8.toNat ↔ a = b := by
 constructor
 ·intro e
  exact (List.map_inj_right (fun _ _ h => UInt8.toNat_inj.1 h)).1 e
 ·rintro rfl; rfl
theorem fR (a b : ByteArray) : iI (a.data.toList.map UInt8.toNat) (b.data.toList.map UInt8.toNat) = (a.toList == b.toList) := by
 rw [kz, ByteArray.toList_eq, ByteArray.toList_eq, Bool.eq_iff_iff, decide_eq_true_eq, beq_iff_eq, sE]
theorem eH : ∀ (a b : List UInt8), (!Op.bytesLess b a) = (Op.bytesLess a b || a == b)
 | [], [] => rfl
 | [], _ :: _ => rfl
 | _ :: _, [] => rfl
 | x :: a, y :: b => by
  show (!(decide (y < x) || (y == x && Op.bytesLess b a))) = ((decide (x < y) || (x == y && Op.bytesLess a b)) || (x :: a == y :: b))
  have ih := eH a b
  by_cases hxy : x = y
  ·subst hxy
   have : ¬ x < x := by simp
   simpa [this] using ih
  ·have h2 : (x == y) = false := by simpa using hxy
   have h3 : (y == x) = false := by simpa using fun e => hxy e.symm
   have h4 : (x :: a == y :: b) = false := by simp [hxy]
   rw [h2, h3, h4]
   simp only [Bool.false_and, Bool.or_false]
   rw [Bool.eq_iff_iff]
   have : x.toNat ≠ y.toNat := fun e => hxy (UInt8.toNat_inj.1 e)
   simp only [Bool.not_eq_true', decide_eq_false_iff_not, decide_eq_true_eq, UInt8.lt_iff_toNat_lt]
   omega
theorem EO {f : List Nat → List Nat → AV} {a b : AV} (e : Iy f a b h = .ok v h') : ∃ k m, a = .str k ∧ b = .str m ∧ v = f k m ∧ h' = h := by
 obtain ⟨k, rfl, e1⟩ := cw e
 obtain ⟨m, rfl, e2⟩ := cw e1
 obtain ⟨rfl, rfl⟩ := RV.al e2
 exact ⟨k, m, rfl, rfl, rfl, rfl⟩
theorem jO {op : BinOp} {t : TypeId} {p q : Operand} {a b : ByteArray} : (eqGuard op t p q (.string a) (.string b)).run P w = .ok () w := by
 unfold eqGuard
 cases op <;> simp
section
variable {t : TypeId} {p q : Operand} {cx cy : Value}
theorem iO {f : List Nat → List Nat → AV} {op : BinOp} (H : HR φ h w) {a b : AV} (hx : VR φ a cx) (hy : VR φ b cy) (e : Iy f a b h = .ok v h')
  (hf : ∀ s u : ByteArray, ∃ c, (binOp op t (.string s) (.string u)).run P w = .ok c w ∧ VR φ (f (s.data.toList.map UInt8.toNat) (u.data.toList.map UInt8.toNat)) c) : Good φ h w v h' ((do eqGuard op t p q cx cy; binOp op t cx cy : Sem Value).run P w) := by
 obtain ⟨k, m, rfl, rfl, rfl, rfl⟩ := EO e
 obtain ⟨s, rfl, rfl⟩ := hx.cX
 obtain ⟨u, rfl, rfl⟩ := hy.cX
 obtain ⟨c, h1, h2⟩ := hf s u
 refine .same H h2 ?_
 simp [jO, h1]
theorem EP (H : HR φ h w) {a b : AV} (hx : VR φ a cx) (hy : VR φ b cy) (e : zt a b h = .ok v h') : Good φ h w v h' ((do eqGuard .eql t p q cx cy; binOp .eql t cx cy : Sem Value).run P w) :=
 iO H hx hy e fun s u => ⟨.bool (s.toList == u.toList), by simp [binOp, Op.stringOp], by rw [fR]; exact .bool _⟩
theorem ER (H : HR φ h w) {a b : AV} (hx : VR φ a cx) (hy : VR φ b cy) (e : CH a b h = .ok v h') : Good φ h w v h' ((do eqGuard .neq t p q cx cy; binOp .neq t cx cy : Sem Value).run P w) :=
 iO H hx hy e fun s u => ⟨.bool (!(s.toList == u.toList)), by simp [binOp, Op.stringOp], by rw [fR]; exact .bool _⟩
theorem ES (H : HR φ h w) {a b : AV} (hx : VR φ a cx) (hy : VR φ b cy) (e : Ki a b h = .ok v h') : Good φ h w v h' ((do eqGuard .lss t p q cx cy; binOp .lss t cx cy : Sem Value).run P w) :=
 iO H hx hy e fun s u => ⟨.bool (Op.bytesLess s.toList u.toList), by simp [binOp, Op.stringOp], by rw [kM, ByteArray.toList_eq, ByteArray.toList_eq]; exact .bool _⟩
theorem ET (H : HR φ h w) {a b : AV} (hx : VR φ a cx) (hy : VR φ b cy) (e : Kj a b h = .ok v h') : Good φ h w v h' ((do eqGuard .gtr t p q cx cy; binOp .gtr t cx cy : Sem Value).run P w) :=
 iO H hx hy e fun s u => ⟨.bool (!(Op.bytesLess s.toList u.toList || s.toList == u.toList)), by simp [binOp, Op.stringOp], by
  rw [kM, ByteArray.toList_eq, ByteArray.toList_eq, ← eH, Bool.not_not]; exact .bool _⟩
theorem EU (H : HR φ h w) {a b : AV} (hx : VR φ a cx) (hy : VR φ b cy) (e : Kk a b h = .ok v h') : Good φ h w v h' ((do eqGuard .leq t p q cx cy; binOp .leq t cx cy : Sem Value).run P w) :=
 iO H hx hy e fun s u => ⟨.bool (Op.bytesLess s.toList u.toList || s.toList == u.toList), by simp [binOp, Op.stringOp], by
  rw [kM, ByteArray.toList_eq, ByteArray.toList_eq, ← eH]; exact .bool _⟩
theorem EV (H : HR φ h w) {a b : AV} (hx : VR φ a cx) (hy : VR φ b cy) (e : Kl a b h = .ok v h') : Good φ h w v h' ((do eqGuard .geq t p q cx cy; binOp .geq t cx cy : Sem Value).run P w) :=
 iO H hx hy e fun s u => ⟨.bool (!Op.bytesLess s.toList u.toList), by simp [binOp, Op.stringOp], by
  rw [kM, ByteArray.toList_eq, ByteArray.toList_eq]; exact .bool _⟩
theorem EW (H : HR φ h w) {a b : AV} (hx : VR φ a cx) (hy : VR φ b cy) (e : EX a b h = .ok v h') : Good φ h w v h' ((do eqGuard .add t p q cx cy; binOp .add t cx cy : Sem Value).run P w) := by
 obtain ⟨k, rfl, e1⟩ := cw e
 obtain ⟨m, rfl, e2⟩ := cw e1
 obtain ⟨hb, e3⟩ := au e2
 obtain ⟨rfl, rfl⟩ := RV.al e3
 obtain ⟨s, rfl, rfl⟩ := hx.cX
 obtain ⟨u, rfl, rfl⟩ := hy.cX
 have hle := Nat.le_of_ble_eq_true hb
 simp only [List.length_map, Array.length_toList, Nat.add_eq] at hle
 refine .same H (.str (s ++ u) _ ?_) (cv := .string (s ++ u)) ?_
 ·simp
 ·have : (binOp .add t (.string s) (.string u)).run P w = .ok (.string (s ++ u)) w := by
   rw [binOp_string_add]
   exact run_string_add_sum w s u (by have h1 : s.size = s.data.size := rfl; have h2 : u.size = u.data.size := rfl; omega)
  simp [jO, this]
end
theorem EY {neg : Bool} {b : EB} (e : EB.rv neg h b = .ok v h') : h' = h ∧ ((b = .yes ∧ v = .bool (!neg)) ∨ (b = .no ∧ v = .bool neg)) := by
 cases b
 ·cases e; exact ⟨rfl, .inl ⟨rfl, rfl⟩⟩
 ·cases e; exact ⟨rfl, .inr ⟨rfl, rfl⟩⟩
 ·cases e
theorem nd {a b : H} : nf a b = true ↔ a = b := by cases a <;> cases b <;> simp [nf, H.nat]
theorem gY {a b : P4} : nS a b = true ↔ a = b := by
 cases a with
 | eM m q =>
  cases b with
  | mk b1 b2 b3 b4 => exact ⟨fun e => Bool.noConfusion (show false = true from e), fun e => by cases e⟩
  | eM n s =>
   show (@Bool.rec (fun _ => Bool) false (Nat.beq q s) (Nat.beq m n)) = true ↔ _
   constructor
   ·intro e
    cases h : Nat.beq m n with
    | false => rw [h] at e; cases e
    | true => rw [h] at e; rw [Nat.eq_of_beq_eq_true h, Nat.eq_of_beq_eq_true e]
   ·intro e; cases e; rw [Nat.beq_refl m, Nat.beq_refl q]
 | mk a1 a2 a3 a4 =>
 cases b with
 | eM n s => exact ⟨fun e => Bool.noConfusion (show false = true from e), fun e => by cases e⟩
 | mk b1 b2 b3 b4 =>
 show (Bool.rec false (Bool.rec false (Bool.rec false (nf a1 b1) (nf a2 b2)) (nf a3 b3)) (nf a4 b4) : Bool) = true ↔ _
 rw [P4.mk.injEq, ← nd, ← nd, ← nd, ← nd]
 cases nf a1 b1 <;> cases nf a2 b2 <;> cases nf a3 b3 <;> cases nf a4 b4 <;> simp
variable {P : Program} {φ : aH} {h h' : Hp} {w : World} {v : AV} {x y z : AO} {r : A2}
theorem VR.iP {c : Value} (hv : VR φ .ct c) : c = .pointer none := by cases hv; rfl
theorem VR.eX {i : P4} {o : Nat} {c : Value} (hv : VR φ (.ptr i o) c) : ∃ p, φ i = some p ∧ c = .pointer (some (p.addr o)) := by cases hv; exact ⟨_, by assumption, rfl⟩
theorem pr {o : Obj} (e : eY o = true) : ∃ el n ex c, o = .cells el n ex .plain c := by
 cases o with
 | cells el n ex fl c => cases fl with
  | plain => exact ⟨_, _, _, _, rfl⟩
  | mark => cases e
  | yv => cases e
  | ro => cases e
 | _ => cases e
theorem HR.plain (H : HR φ h w) {i : P4} {p : Place} {el n : Nat} {ex : Bool} {c : Cl} (hi : ah i h = .cells el n ex .plain c) (hp : φ i = some p) : ∃ rc, w.heap[p.cP]? = some (.cells rc el (0, 0)) := by
 obtain ⟨q, hq, hr⟩ := H.obj i (hi ▸ aM)
 rw [hp] at hq; cases hq
 rw [hi] at hr
 obtain ⟨rc, fz, g1, g2, g3, g4, g5, g6, g7⟩ := hr
 exact ⟨rc, by rw [g1]; simp only [Bt] at g7; rw [g7]⟩
theorem mr {a b : Addr} {ra rb : Array Value} {ea eb : TypeId} (ha : w.heap[a.block]? = some (.cells ra ea (0, 0))) (hb : w.heap[b.block]? = some (.cells rb eb (0, 0))) (hne : a.block ≠ b.block) :
  (sameAddr a b).run P w = .ok false w := by
 have h1 : (a.block == b.block) = false := by simpa using hne
 have fa : ∀ o s, w.frozen? ⟨a.block, o, s⟩ = false := fun o s => by simp [World.frozen?, ha]
 have fb : ∀ o s, w.frozen? ⟨b.block, o, s⟩ = false := fun o s => by simp [World.frozen?, hb]
 have fa' : w.frozen? a = false := by obtain ⟨x, y, z⟩ := a; exact fa y z
 have fb' : w.frozen? b = false := by obtain ⟨x, y, z⟩ := b; exact fb y z
 have sa : w.shape? a.block = some (ea, ra.size) := by simp [World.shape?, ha]
 have sb : w.shape? b.block = some (eb, rb.size) := by simp [World.shape?, hb]
 simp [sameAddr, h1, fa', fb', noView, viewAt, sa, sb, mayBeOne, stringish, fa, fb]
theorem pF (d : Nat) {t e : TypeId} {x y : AV} {cx cy : Value} (H : HR φ h w) (hx : VR φ x cx) (hy : VR φ y cy) (ht : P.underlying t = some (.pointer e)) {ie : TypeInfo} (hi : P.info? e = some ie) (hs : ie.size ≠ 0) {b : Bool}
  (hb : Lt h x y = EB.of b) : (Op.equalIn (d + 1) t cx cy).run P w = .ok b w := by
 cases x with
 | ct =>
  rw [hx.iP]
  cases y with
  | ct => rw [hy.iP]; cases b <;> cases hb; simp [Op.equalIn, ai ht]
  | ptr j q => obtain ⟨p, h1, rfl⟩ := hy.eX; cases b <;> cases hb; simp [Op.equalIn, ai ht]
  | _ => cases b <;> cases hb
 | ptr i o =>
  obtain ⟨p, h1, rfl⟩ := hx.eX
  cases y with
  | ct => rw [hy.iP]; cases b <;> cases hb; simp [Op.equalIn, ai ht]
  | ptr j q =>
   obtain ⟨p', h2, rfl⟩ := hy.eX
   change (Bool.rec (Bool.rec EB.bad (Bool.rec EB.bad EB.no (eY (ah j h))) (eY (ah i h))) (EB.of (Nat.beq o q)) (nS i j) : EB) = EB.of b at hb
   cases hij : nS i j with
   | true =>
    rw [hij] at hb
    obtain rfl := gY.1 hij
    rw [h1] at h2; cases h2
    have hb' : b = decide (o = q) := by
     have : Nat.beq o q = decide (o = q) := by rw [Bool.eq_iff_iff, Nat.beq_eq]; simp
     rw [← this]
     cases b <;> cases hq : Nat.beq o q <;> rw [hq] at hb <;> first | rfl | cases hb
    subst hb'
    simp only [Op.equalIn, Sem.run_bind, ai ht, Result.andThen_ok, aK hi, Place.addr, sameAddr]
    simp [hs]
    by_cases e : o = q <;> simp [e]
   | false =>
    rw [hij] at hb
    cases hp1 : eY (ah i h) with
    | false => rw [hp1] at hb; cases b <;> cases hb
    | true =>
     cases hp2 : eY (ah j h) with
     | false => rw [hp1, hp2] at hb; cases b <;> cases hb
     | true =>
      rw [hp1, hp2] at hb
      obtain ⟨el, n, ex, c, g1⟩ := pr hp1
      obtain ⟨el', n', ex', c', g2⟩ := pr hp2
      obtain ⟨ra, ha⟩ := H.plain g1 h1
      obtain ⟨rb, hb'⟩ := H.plain g2 h2
      have hne : p.cP ≠ p'.cP := H.inj i j p p' (g1 ▸ aM) (g2 ▸ aM) (.inl (lQ g1 rfl)) (fun e => by rw [gY.2 e] at hij; cases hij) h1 h2
      have hbf : b = false := by cases b; rfl; cases hb
      subst hbf
      simp only [Op.equalIn, Sem.run_bind, ai ht, Result.andThen_ok, aK hi]
      simp [hs, mr (P := P) (a := p.addr o) (b := p'.addr q) ha hb' hne]
  | _ => cases b <;> cases hb
 | _ => cases b <;> cases hb
def Lu (P : Program) (k : KK) (t : TypeId) : Prop := match k with
 | .b => P.underlying t = some .bool
 | .i => ∃ k, P.underlying t = some (.int k)
 | .s => P.underlying t = some .string
 | .p => ∃ e ie, P.underlying t = some (.pointer e) ∧ P.info? e = some ie ∧ ie.size ≠ 0
theorem dR {a b : Bool} (e : EB.of a = EB.of b) : a = b := by cases a <;> cases b <;> first | rfl | cases e
theorem jz (d : Nat) {k : KK} {t : TypeId} {a c : AV} {ca cc : Value} (H : HR φ h w) (hx : VR φ a ca) (hy : VR φ c cc) (hk : Lu P k t) {b : Bool} (hb : Hi k h a c = EB.of b) :
  (Op.equalIn (d + 1) t ca cc).run P w = .ok b w := by
 cases k with
 | b =>
  cases a <;> (try (cases b <;> cases hb; done))
  rename_i m
  cases c <;> (try (cases b <;> cases hb; done))
  rename_i n
  rw [hx.cT, hy.cT, run_equalIn_bool' _ _ _ _ _ hk]
  have := dR (show EB.of (jf m n) = EB.of b from hb)
  subst this
  cases m <;> cases n <;> rfl
 | i =>
  obtain ⟨kk, hk⟩ := hk
  cases a <;> (try (cases b <;> cases hb; done))
  rename_i k1 m
  cases c <;> (try (cases b <;> cases hb; done))
  rename_i k2 n
  change (Bool.rec EB.bad (EB.of (sn m n)) (kx k1 k2) : EB) = _ at hb
  cases hq : kx k1 k2 with
  | false => rw [hq] at hb; cases b <;> cases hb
  | true =>
   rw [hq] at hb
   obtain rfl := gH hq
   rw [hx.aZ, hy.aZ, run_equalIn_int _ _ _ _ _ _ _ hk]
   have := dR (show EB.of (sn m n) = EB.of b from hb)
   subst this
   rw [ij]; rfl
 | s =>
  cases a <;> (try (cases b <;> cases hb; done))
  rename_i m
  cases c <;> (try (cases b <;> cases hb; done))
  rename_i n
  obtain ⟨s, rfl, rfl⟩ := hx.cX
  obtain ⟨u, rfl, rfl⟩ := hy.cX
  rw [run_equalIn_string _ _ _ _ _ hk]
  have := dR (show EB.of (iI _ _) = EB.of b from hb)
  subst this
  rw [fR]
 | p =>
  obtain ⟨e, ie, h1, h2, h3⟩ := hk
  exact pF d H hx hy h1 h2 h3 hb
variable {P : Program} {φ : aH} {h h' : Hp} {w : World} {v : AV} {x y z : AO} {r : A2}
theorem wK {t : TypeId} {k : KK} (e : zm P t = some k) : Lu P k t := by
 unfold zm at e
 split at e
 ·cases e; assumption
 ·cases e; exact ⟨_, by assumption⟩
 ·cases e; assumption
 ·rename_i e' he
  split at e
  ·rename_i ie hie
   split at e
   ·cases e
   ·cases e; exact ⟨_, ie, he, hie, by assumption⟩
  ·cases e
 ·cases e
theorem Lu.jh {k : KK} {t : TypeId} (hk : Lu P k t) : ∃ d, P.underlying t = some d ∧ pN P t = false := by
 cases k with
 | b => exact ⟨_, hk, by simp [pN, Am.jh, (show P.underlying t = some .bool from hk)]⟩
 | i => obtain ⟨kk, hk⟩ := hk; exact ⟨_, hk, by simp [pN, Am.jh, hk]⟩
 | s => exact ⟨_, hk, by simp [pN, Am.jh, (show P.underlying t = some .string from hk)]⟩
 | p => obtain ⟨e, ie, hk, _⟩ := hk; exact ⟨_, hk, by simp [pN, Am.jh, hk]⟩
theorem gj {t : TypeId} {d : TypeDesc} (hd : P.underlying t = some d) (ha : pN P t = false) {cs : Array Value} {o : Nat} {c : Value} (hc : cs[o]? = some c) : (part t cs o).run P w = .ok c w := by
 simp [part, gx hd, ha, hc]
theorem uM (d : Nat) (H : HR φ h w) {xs ys : Array Value} : ∀ (fs : List Field) (i : Nat) (ks : List KK) (as bs : List AV) (vs ws : List Value), lJ P fs i = some ks → cn φ as vs → cn φ bs ws →
  (∀ k (hk : k < vs.length), xs[i + k]? = some vs[k]) → (∀ k (hk : k < ws.length), ys[i + k]? = some ws[k]) → ∀ b, wL ks h as bs = EB.of b → (Op.eqFields (d + 1) xs ys fs).run P w = .ok b w := by
 intro fs
 induction fs with
 | nil =>
  intro i ks as bs vs ws hf ha hb _ _ b he
  cases hf
  cases ha with
  | nil => cases hb with
   | nil => cases b <;> cases he; rfl
   | cons => cases b <;> cases he
  | cons => cases b <;> cases he
 | cons f fs ih =>
  intro i ks as bs vs ws hf ha hb hxs hys b he
  unfold lJ at hf
  split at hf
  ·cases hf
  ·rename_i hn
   split at hf
   ·rename_i k ks' hk hks
    cases hf
    have hname : f.name ≠ "_" := fun e => hn (.inl e)
    have hoff : f.offset = i := by
     rcases Nat.decEq f.offset i with e | e
     ·exact absurd (.inr e) hn
     ·exact e
    cases ha with
    | nil => cases b <;> cases he
    | cons a va as vs hva hvs =>
     cases hb with
     | nil => cases b <;> cases he
     | cons c vc bs ws hvc hws =>
      have hK := wK hk
      obtain ⟨dd, hd, hag⟩ := hK.jh
      have p1 := gj (w := w) hd hag (show xs[f.offset]? = some va by rw [hoff]; exact hxs 0 (by simp))
      have p2 := gj (w := w) hd hag (show ys[f.offset]? = some vc by rw [hoff]; exact hys 0 (by simp))
      change (EB.rec (wL ks' h as bs) (EB.rec .no .no .bad (wL ks' h as bs)) .bad (Hi k h a c) : EB) = EB.of b at he
      have ih' := ih (i + 1) ks' as bs vs ws hks hvs hws (fun k hk => by have := hxs (k + 1) (by simp; omega); simpa [Nat.add_assoc, Nat.add_comm 1 k] using this) (fun k hk => by have := hys (k + 1) (by simp; omega); simpa [Nat.add_assoc, Nat.add_comm 1 k] using this)
      cases hq : Hi k h a c with
      | yes =>
       rw [hq] at he
       have e1 := jz (P := P) d H hva hvc hK (b := true) hq
       simp [Op.eqFields, hname, p1, p2, e1, ih' b he]
      | no =>
       rw [hq] at he
       have e1 := jz (P := P) d H hva hvc hK (b := false) hq
       have : b = false := by cases hz : wL ks' h as bs <;> rw [hz] at he <;> cases b <;> first | rfl | cases he
       subst this
       simp [Op.eqFields, hname, p1, p2, e1]
      | bad => rw [hq] at he; cases b <;> cases he
   ·cases hf
theorem iQ (d : Nat) (H : HR φ h w) {t : TypeId} {ks : List KK} (hk : qk P t = some ks) {as bs : List AV} {vs ws : List Value} (ha : cn φ as vs) (hb : cn φ bs ws) {b : Bool} (he : wL ks h as bs = EB.of b) :
  (Op.equalIn (d + 2) t (.agg vs.toArray) (.agg ws.toArray)).run P w = .ok b w := by
 unfold qk at hk
 split at hk
 ·rename_i fs hfs
  split at hk
  ·cases hk
  ·rename_i hst
   have hF : P.fieldsOf t = fs := by simp [Program.fieldsOf, hfs]
   rw [run_equalIn_struct w (d + 1) t _ _ (by rw [hF]; exact hfs) (by simpa using hst), hF]
   exact uM d H fs.toList 0 ks as bs vs ws hk ha hb (by simp) (by simp) b he
 ·cases hk
theorem ng {neg : Bool} {b : EB} (e : EB.rv neg h b = .ok v h') : ∃ c, b = EB.of c ∧ v = .bool (c != neg) ∧ h' = h := by
 cases b
 ·cases e; exact ⟨true, rfl, by cases neg <;> rfl, rfl⟩
 ·cases e; exact ⟨false, rfl, by cases neg <;> rfl, rfl⟩
 ·cases e
section
variable {t : TypeId} {p q : Operand} {cx cy : Value}
theorem eZ {op : BinOp} (hx : ∀ cs, cx ≠ .agg cs) (hy : cx ≠ .nilIface) : (eqGuard op t p q cx cy).run P w = .ok () w := by
 unfold eqGuard
 cases op <;> simp <;> cases cx <;> first | rfl | simp_all
theorem eA {b : Bool} (hs : (Op.equalIn 10000 t cx cy).run P w = .ok b w) (hx : ∀ k n, cx ≠ .int k n) (hf : ∀ k n, cx ≠ .float k n) (hc : ∀ k m n, cx ≠ .complex k m n) (hu : ∀ s, cx ≠ .string s) :
  (binOp .eql t cx cy).run P w = .ok (.bool b) w ∧ (binOp .neq t cx cy).run P w = .ok (.bool (!b)) w := by
 have e1 : binOp .eql t cx cy = (do pure (.bool (← Op.equal t cx cy)) : Sem Value) := by
  cases cx <;> first | exact absurd rfl (hx _ _) | exact absurd rfl (hf _ _) | exact absurd rfl (hc _ _ _) | exact absurd rfl (hu _) | (cases cy <;> rfl)
 have e2 : binOp .neq t cx cy = (do pure (.bool (!(← Op.equal t cx cy))) : Sem Value) := by
  cases cx <;> first | exact absurd rfl (hx _ _) | exact absurd rfl (hf _ _) | exact absurd rfl (hc _ _ _) | exact absurd rfl (hu _) | (cases cy <;> rfl)
 rw [e1, e2]
 simp [Op.equal, Op.maxDepth, hs]
theorem wM (neg : Bool) (H : HR φ h w) {a b : AV} (hx : VR φ a cx) (hy : VR φ b cy) (ht : P.underlying t = some .bool) (e : EB.rv neg h (Ow a b) = .ok v h') :
  Good φ h w v h' ((do eqGuard (if neg then .neq else .eql) t p q cx cy; binOp (if neg then .neq else .eql) t cx cy : Sem Value).run P w) := by
 obtain ⟨c, hc, rfl, rfl⟩ := ng e
 have hr := jz (P := P) (t := t) 9999 (k := .b) H hx hy ht hc
 have hb : ∃ m, cx = .bool m := by
  cases a <;> (try (cases c <;> cases hc; done))
  exact ⟨_, hx.cT⟩
 obtain ⟨m, rfl⟩ := hb
 obtain ⟨g1, g2⟩ := eA hr (by simp) (by simp) (by simp) (by simp)
 refine .same H (.bool _) ?_
 cases neg
 ·simp [eZ, g1]
 ·simp [eZ, g2]
theorem wN (neg : Bool) (H : HR φ h w) {a b : AV} (hx : VR φ a cx) (hy : VR φ b cy) (ht : Lu P .p t) (e : EB.rv neg h (Lt h a b) = .ok v h') :
  Good φ h w v h' ((do eqGuard (if neg then .neq else .eql) t p q cx cy; binOp (if neg then .neq else .eql) t cx cy : Sem Value).run P w) := by
 obtain ⟨c, hc, rfl, rfl⟩ := ng e
 have hr := jz (P := P) (t := t) 9999 (k := .p) H hx hy ht hc
 have hb : ∃ m, cx = .pointer m := by
  cases a <;> (try (cases c <;> cases hc; done))
  ·obtain ⟨_, _, e⟩ := hx.eX; exact ⟨_, e⟩
  ·exact ⟨_, hx.iP⟩
 obtain ⟨m, rfl⟩ := hb
 obtain ⟨g1, g2⟩ := eA hr (by simp) (by simp) (by simp) (by simp)
 refine .same H (.bool _) ?_
 cases neg
 ·simp [eZ, g1]
 ·simp [eZ, g2]
theorem VR.fG {l : List AV} {c : Value} (hv : VR φ (.agg l) c) : ∃ vs : List Value, c = .agg vs.toArray ∧ cn φ l vs ∧ ∀ d, d ∈ vs → d.oneCell' = true := by cases hv; exact ⟨_, rfl, by assumption, by assumption⟩
theorem wO (neg : Bool) (H : HR φ h w) {a b : AV} (hx : VR φ a cx) (hy : VR φ b cy) {ks : List KK} (ht : qk P t = some ks) (hg : P.eqGuardType P.depth t = false) (e : wP neg ks a b h = .ok v h') :
  Good φ h w v h' ((do eqGuard (if neg then .neq else .eql) t p q cx cy; binOp (if neg then .neq else .eql) t cx cy : Sem Value).run P w) := by
 obtain ⟨as, rfl, e1⟩ := di e
 obtain ⟨bs, rfl, e2⟩ := di e1
 obtain ⟨c, hc, rfl, rfl⟩ := ng e2
 obtain ⟨vs, rfl, hvs, _⟩ := hx.fG
 obtain ⟨ws, rfl, hws, _⟩ := hy.fG
 have hr := iQ (P := P) 9998 H ht hvs hws hc
 obtain ⟨g1, g2⟩ := eA hr (by simp) (by simp) (by simp) (by simp)
 refine .same H (.bool _) ?_
 cases neg
 ·simp [run_eqGuard_agg _ _ _ _ _ _ _ hg, g1]
 ·simp [run_eqGuard_agg _ _ _ _ _ _ _ hg, g2]
end
variable {t0 : TypeId} {P : Program} {φ : aH} {h h' : Hp} {w : World} {v : AV} {x y z : AO} {r : A2} {cx cy : Value}
theorem VR.Iz {l : List AV} {c : Value} (hv : VR φ (.ku l) c) : ∃ vs : List Value, c = .tuple vs.toArray ∧ cn φ l vs := by cases hv; exact ⟨_, rfl, by assumption⟩
theorem EZ (H : HR φ h w) {a : AV} (hx : VR φ a cx) (e : jU a h = .ok v h') : Good φ h w v h' ((Op.unary .not cx).run P w) := by
 obtain ⟨b, rfl, e1⟩ := lk e
 obtain ⟨rfl, rfl⟩ := RV.al e1
 rw [hx.cT]
 exact .same H (.bool _) rfl
theorem Fa (H : HR φ h w) {a : AV} (hx : VR φ a cx) (e : zh a h = .ok v h') : Good φ h w v h' ((Op.unary .neg cx).run P w) := by
 obtain ⟨k, n, rfl, e1⟩ := bB e
 obtain ⟨rfl, rfl⟩ := RV.al e1
 rw [hx.aZ]
 refine .same H (cv := .int k (k.wrap (-n))) (by rw [dh, uB]; exact .int _ _) ?_
 simp [Op.unary, Op.intArith]
theorem Fb (H : HR φ h w) {a : AV} (hx : VR φ a cx) (e : zj a h = .ok v h') : Good φ h w v h' ((Op.unary .xor cx).run P w) := by
 obtain ⟨k, n, rfl, e1⟩ := bB e
 obtain ⟨rfl, rfl⟩ := RV.al e1
 rw [hx.aZ]
 exact .same H (.int _ _) (by simp [Op.unary, Op.intBits])
theorem Bv {cc ca cb : Value} (H : HR φ h w) {c a b : AO} (hc : VR φ (ev c r) cc) (ha : VR φ (ev a r) ca) (hb : VR φ (ev b r) cb) (e : dJ c a b r h = .ok v h') :
  Good φ h w v h' ((do pure (if ← asBool cc then ca else cb) : Sem Value).run P w) := by
 obtain ⟨t, et, e1⟩ := lk e
 obtain ⟨rfl, rfl⟩ := RV.al e1
 rw [et] at hc
 rw [hc.cT]
 cases t
 ·exact .same H hb (by simp [asBool])
 ·exact .same H ha (by simp [asBool])
theorem drop_cons {α : Type} {l t : List α} {i : Nat} {a : α} (e : l.drop i = a :: t) : ∃ hi : i < l.length, l[i] = a := by
 have hi : i < l.length := by
  rcases Nat.lt_or_ge i l.length with g | g
  ·exact g
  ·rw [List.drop_of_length_le g] at e; cases e
 refine ⟨hi, ?_⟩
 rw [List.drop_eq_getElem_cons hi] at e
 exact (List.cons.inj e).1
theorem uN {α : Type} {l : List α} {n : Nat} {k : α → RV} (e : (List.rec (.err n) (fun a _ _ => k a) l : RV) = .ok v h) : ∃ a t, l = a :: t ∧ k a = .ok v h := by
 cases l with
 | nil => cases e
 | cons a t => exact ⟨a, t, rfl, e⟩
theorem Fc (H : HR φ h w) {i : Nat} (hx : VR φ (ev x r) cx) (e : tu i x r h = .ok v h') : Good φ h w v h' ((Instr.extract cx i).run P w) := by
 obtain ⟨l, el, e1⟩ := wH e
 obtain ⟨a, t, ed, e2⟩ := uN (k := fun v => .ok v h) e1
 obtain ⟨rfl, rfl⟩ := RV.al e2
 rw [el] at hx
 obtain ⟨vs, rfl, hvs⟩ := hx.Iz
 obtain ⟨hi, ha⟩ := drop_cons ed
 have hi' : i < vs.length := by rw [← hvs.length]; exact hi
 refine .same H (cv := vs[i]) (by rw [← ha]; exact hvs.get i hi hi') ?_
 simp [Instr.extract, hi']
theorem Bw (H : HR φ h w) (hx : VR φ (ev x r) cx) (e : oG x r h = .ok v h') : v = ev x r ∧ h' = h ∧ (cx ≠ .pointer none ∧ cx ≠ .nilIface ∧ cx ≠ .nilFunc) := by
 change (OP.rec (nR (ev x r) h) (fun i o => .ok (.ptr i o) h) (ev x r).fY : RV) = _ at e
 generalize ev x r = a at hx e
 cases hx <;> first
  | (cases e; exact ⟨rfl, rfl, by simp, by simp, by simp⟩)
  | (cases e; done)
theorem Fe (H : HR φ h w) (hx : VR φ (ev x r) cx) {t : TypeId} {fs : Array Field} {f : Nat} {fd : Field} {ie : TypeInfo} (ht : P.underlying t = some (.struct fs)) (hf : fs[f]? = some fd) (hi : P.info? fd.type = some ie) (hs : ie.size ≠ 0)
  (e : qh fd.offset x r h = .ok v h') : Good φ h w v h' ((Instr.fieldAt t cx f).run P w) := by
 obtain ⟨i, o, ep, e1⟩ := cA e
 obtain ⟨rfl, rfl⟩ := RV.al e1
 rw [ep] at hx
 obtain ⟨p, hp, rfl⟩ := hx.eX
 refine .same H (.ptr i (o + fd.offset) p hp) ?_
 simp [Instr.fieldAt, ai ht, hf, Instr.sureAddr, fieldPlace, aK hi, hs, cJ]
theorem tv {k : IntKind} {m : Nat} {n : Nat} (hm : m < n) : (0 : Int) ≤ (Int.ofNat m) ∧ (Int.ofNat m) < (n : Int) := ⟨by simp, by simp; omega⟩
theorem Ff (H : HR φ h w) (hx : VR φ (ev x r) cx) (hy : VR φ (ev y r) cy) {t e : TypeId} {n : Nat} {ie : TypeInfo} (ht : P.underlying t = some (.array n e)) (hi : P.info? e = some ie)
  (he : tw n ie.size x y r h = .ok v h') : Good φ h w v h' ((Instr.indexAt t cx cy).run P w) := by
 obtain ⟨kd, m, em, e1⟩ := cW he
 obtain ⟨i, o, ep, e2⟩ := cA e1
 obtain ⟨hb, e3⟩ := au e2
 obtain ⟨rfl, rfl⟩ := RV.al e3
 rw [ep] at hx
 rw [em] at hy
 obtain ⟨p, hp, rfl⟩ := hx.eX
 rw [hy.aZ]
 have hm := kI hb
 refine .same H (.ptr i (o + m * ie.size) p hp) ?_
 have : (0 : Int) ≤ Int.ofNat m ∧ Int.ofNat m < (n : Int) := tv (k := kd) hm
 simp only [Instr.indexAt, asIntOf, Sem.run_bind, Sem.run_pure, Result.andThen_ok, ai ht, Instr.sureAddr]
 simp [this.2, aK hi, cJ, hm]
theorem Fg (H : HR φ h w) (hx : VR φ (ev x r) cx) (hy : VR φ (ev y r) cy) {t e : TypeId} {ie : TypeInfo} (ht : P.underlying t = some (.slice e)) (hi : P.info? e = some ie)
  (he : tx ie.size x y r h = .ok v h') : Good φ h w v h' ((Instr.indexAt t cx cy).run P w) := by
 obtain ⟨kd, m, em, e1⟩ := cW he
 rw [em] at hy
 rw [hy.aZ]
 rcases dF e1 with ⟨i, o, n, c, es, e2⟩ | ⟨i, o, n, c, es, e2⟩ | ⟨es, e2⟩
 ·obtain ⟨hb, e3⟩ := au e2
  obtain ⟨rfl, rfl⟩ := RV.al e3
  rw [es] at hx
  have hm := kI hb
  cases hx with
  | fX _ _ _ => omega
  | slice _ _ _ _ p hp =>
   refine .same H (.ptr i (o + m * ie.size) p hp) ?_
   simp only [Instr.indexAt, asIntOf, Sem.run_bind, Sem.run_pure, Result.andThen_ok, ai ht]
   simp [aK hi, cJ, hm]
 ·obtain ⟨hb, e3⟩ := au e2
  obtain ⟨rfl, rfl⟩ := RV.al e3
  rw [es] at hx
  have hm := kI hb
  cases hx with
  | fN _ _ _ _ cc p a hp h1 h2 h3 h4 h5 h6 =>
   have ha : a = p.addr o := by
    obtain ⟨ab, ao, as⟩ := a
    simp only at h3 h4 h5
    have := h5 (by omega)
    subst h3 h4 this
    rfl
   subst ha
   refine .same H (.ptr i (o + m * ie.size) p hp) ?_
   simp only [Instr.indexAt, asIntOf, Sem.run_bind, Sem.run_pure, Result.andThen_ok, ai ht]
   simp [aK hi, cJ, hm]
 ·cases e2
theorem Bx (H : HR φ h w) (hx : VR φ (ev x r) cx) (hy : VR φ (ev y r) cy) {t : TypeId} (ht : P.underlying t = some .string) (he : oH x y r h = .ok v h') : Good φ h w v h' ((Instr.index t cx cy).run P w) := by
 obtain ⟨kd, m, em, e1⟩ := cW he
 obtain ⟨l, el, e2⟩ := cw e1
 obtain ⟨b, tl, ed, e3⟩ := uN (k := fun b => .ok (.int .u8 (.ofNat b)) h) e2
 obtain ⟨rfl, rfl⟩ := RV.al e3
 rw [el] at hx
 rw [em] at hy
 rw [hy.aZ]
 obtain ⟨s, rfl, rfl⟩ := hx.cX
 obtain ⟨hi, hb⟩ := drop_cons ed
 have hm : m < s.size := by simpa using hi
 refine .same H (cv := .int .u8 (s[m]).toNat) ?_ ?_
 ·have : b = (s[m]).toNat := by rw [← hb]; simp; rfl
  rw [this]; exact .int _ _
 ·simp only [Instr.index, asIntOf, Sem.run_bind, Sem.run_pure, Result.andThen_ok, ai ht]
  simp [ByteArray.getElem?_lt' s m hm]
theorem Fh {ts : Array TypeId} (hts : ts[0]? = some t0) (H : HR φ h w) {a : AV} (hx : VR φ a cx) {ty : TypeId} (ht : ∃ e, P.underlying t0 = some (.slice e)) (e : len a h = .ok v h') : Good φ h w v h' ((Builtin.len_ ts ty #[cx]).run P w) := by
 obtain ⟨e', ht'⟩ := ht
 rcases dF e with ⟨i, o, n, c, rfl, e1⟩ | ⟨i, o, n, c, rfl, e1⟩ | ⟨rfl, e1⟩
 ·obtain ⟨rfl, rfl⟩ := RV.al e1
  cases hx <;> first | exact .same H (cv := goInt n) (.int _ _) (by simp [Builtin.len_, hts, ai ht']) | exact .same H (cv := goInt 0) (.int _ _) (by simp [Builtin.len_, hts, ai ht'])
 ·obtain ⟨rfl, rfl⟩ := RV.al e1
  cases hx <;> first | exact .same H (cv := goInt n) (.int _ _) (by simp [Builtin.len_, hts, ai ht']) | exact .same H (cv := goInt 0) (.int _ _) (by simp [Builtin.len_, hts, ai ht'])
 ·obtain ⟨rfl, rfl⟩ := RV.al e1
  cases hx <;> exact .same H (cv := goInt 0) (.int _ _) (by simp [Builtin.len_, hts, ai ht'])
theorem Bz {ts : Array TypeId} (hts : ts[0]? = some t0) (H : HR φ h w) {a : AV} (hx : VR φ a cx) {ty : TypeId} (ht : P.underlying t0 = some .string) (e : hX a h = .ok v h') : Good φ h w v h' ((Builtin.len_ ts ty #[cx]).run P w) := by
 obtain ⟨l, rfl, e1⟩ := cw e
 obtain ⟨rfl, rfl⟩ := RV.al e1
 obtain ⟨s, rfl, rfl⟩ := hx.cX
 refine .same H (cv := goInt s.size) ?_ ?_
 ·simp only [iR, goInt, List.length_map, Array.length_toList]; exact .int _ _
 ·simp [Builtin.len_, hts, ai ht]
theorem yy (H : HR φ h w) {a : AV} (hx : VR φ a cx) {s d : TypeId} {k k' : IntKind} (hs : P.underlying s = some (.int k')) (hd : P.underlying d = some (.int k)) (e : uO k a h = .ok v h') : Good φ h w v h' ((convert s d cx).run P w) := by
 obtain ⟨k1, n, rfl, e1⟩ := bB e
 obtain ⟨rfl, rfl⟩ := RV.al e1
 rw [hx.aZ]
 refine .same H (cv := .int k (k.wrap n)) (by rw [dh]; exact .int _ _) ?_
 simp [convert, ai hs, ai hd, Conv.intToInt]
variable {P : Program} {φ : aH} {h h' : Hp} {w : World} {v : AV} {x y z : AO} {r : A2} {cx cy : Value}
theorem uP : ∀ (l : List AV) (i : Nat) (a : AV), IA l i a = l.set i a
 | [], i, a => by cases i <;> rfl
 | x :: l, 0, a => rfl
 | x :: l, i + 1, a => by
  show x :: IA l i a = _
  rw [uP l i a]; rfl
theorem qW (a : AV) (as : List AV) (i : Nat) (l : List AV) : lP (a :: as) i l = lP as (i + 1) (IA l i a) := rfl
theorem cn.set {φ : aH} : ∀ {as : List AV} {vs : List Value} (i : Nat) {a : AV} {c : Value}, cn φ as vs → VR φ a c → cn φ (as.set i a) (vs.set i c)
 | _, _, _, _, _, .nil, _ => .nil
 | _, _, 0, _, _, .cons _ _ _ _ _ es, h => .cons _ _ _ _ h es
 | _, _, i + 1, _, _, .cons _ _ _ _ e es, h => .cons _ _ _ _ e (cn.set i es h)
def pG : List Value → Nat → List Value → List Value
 | [], _, l => l
 | c :: cs, i, l => pG cs (i + 1) (l.set i c)
theorem qX : ∀ (cs : List Value) (k off : Nat) (acc : Array Value), (cs.zipIdx k).foldl (fun a (p : Value × Nat) => a.setIfInBounds (off + p.2) p.1) acc = (pG cs (off + k) acc.toList).toArray
 | [], _, _, acc => by simp [pG]
 | c :: cs, k, off, acc => by
  simp only [List.zipIdx_cons, List.foldl_cons, pG]
  rw [qX cs (k + 1) off]
  simp [Nat.add_assoc]
theorem cn.pG {φ : aH} : ∀ {as : List AV} {cs : List Value} (i : Nat) {bs : List AV} {ds : List Value}, cn φ as cs → cn φ bs ds → cn φ (lP as i bs) (Am.pG cs i ds)
 | _, _, _, _, _, .nil, h => h
 | _, _, i, _, _, .cons a c as cs e es, h => by
  rw [qW, uP]
  exact cn.pG (i + 1) es (h.set i e)
theorem pv : ∀ (cs : List Value) (i : Nat) (l : List Value), (pG cs i l).length = l.length
 | [], _, _ => rfl
 | c :: cs, i, l => by rw [pG, pv]; simp
theorem wQ : ∀ (cs : List Value) (i : Nat) (l : List Value), (∀ c, c ∈ cs → c.oneCell' = true) → (∀ c, c ∈ l → c.oneCell' = true) → ∀ c, c ∈ pG cs i l → c.oneCell' = true
 | [], _, _, _, hl => hl
 | c :: cs, i, l, hc, hl => by
  refine wQ cs (i + 1) (l.set i c) (fun d hd => hc d (by simp [hd])) fun d hd => ?_
  rcases List.mem_or_eq_of_mem_set hd with g | g
  ·exact hl d g
  ·exact g ▸ hc c (by simp)
def qY (φ : aH) (r : A2) (place : Nat → Option (Nat × Nat)) (p : Part) (q : Nat × Value) : Prop := match p with
 | .mk off sz x => place q.1 = some (off, sz) ∧ VR φ (ev x r) q.2
theorem BA {p : Part} {ps : List Part} (e : fits (p :: ps) r = true) : (∃ off sz x, p = .mk off sz x ∧ ((∃ l, ev x r = .agg l ∧ l.length = sz) ∨ ((ev x r).one = true ∧ sz = 1))) ∧ fits ps r = true := by
  obtain ⟨off, sz, x⟩ := p
  change (OL.rec (Bool.rec false (fits ps r) (Bool.and (ev x r).one (Nat.beq sz 1))) (fun l => Bool.rec false (fits ps r) (Nat.beq l.length sz)) (ev x r).asAgg : Bool) = true at e
  cases hx : ev x r <;> rw [hx] at e
  case agg l =>
    cases hb : Nat.beq l.length sz
    · simp [AV.asAgg, hb] at e
    · simp [AV.asAgg, hb] at e
      exact ⟨⟨off, sz, x, rfl, .inl ⟨l, hx, Nat.eq_of_beq_eq_true hb⟩⟩, e⟩
  all_goals
    simp only [AV.asAgg, AV.one] at e
    first
      | (simp at e; done)
      | (cases hb : Nat.beq sz 1
         · simp [hb] at e
         · simp [hb] at e
           exact ⟨⟨off, sz, x, rfl, .inr ⟨by rw [hx]; rfl, Nat.eq_of_beq_eq_true hb⟩⟩, e⟩)
theorem tz (p : Part) (ps : List Part) (r : A2) (l : List AV) : fill (p :: ps) r l = match p with | .mk off _ x => fill ps r (lP (AV.cs (ev x r)) off l) := by
 obtain ⟨off, sz, x⟩ := p; rfl
theorem qZ {place : Nat → Option (Nat × Nat)} : ∀ (ps : List Part) (qs : List (Nat × Value)) (l : List AV) (ds : List Value), ps.length = qs.length → (∀ k (h1 : k < ps.length) (h2 : k < qs.length), qY φ r place ps[k] qs[k]) → fits ps r = true →
  (∀ p, p ∈ ps → match p with | .mk off sz _ => off + sz ≤ ds.length) → cn φ l ds → (∀ c, c ∈ ds → c.oneCell' = true) →
  ∃ es : List Value, Instr.fill place ds.toArray qs = some es.toArray ∧ cn φ (fill ps r l) es ∧ ∀ c, c ∈ es → c.oneCell' = true := by
 intro ps
 induction ps with
 | nil =>
  intro qs l ds hl _ _ _ hv h1
  match qs, hl with
  | [], _ => exact ⟨ds, rfl, hv, h1⟩
 | cons p ps ih =>
  intro qs l ds hl hp hf hb hv h1
  match qs, hl with
  | (i, c) :: qs, hl =>
   obtain ⟨⟨off, sz, x, rfl, hx⟩, hf'⟩ := BA hf
   obtain ⟨hpl, hvr⟩ := hp 0 (by simp) (by simp)
   have hcs : cn φ (AV.cs (ev x r)) c.cells.toList ∧ (∀ d, d ∈ c.cells.toList → d.oneCell' = true) ∧ c.cells.size = sz := by
    rcases hx with ⟨as, hx, hs⟩ | ⟨h2, hs⟩
    ·obtain ⟨g1, g2⟩ := hvr.hM (l := as) (.inl hx)
     have : AV.cs (ev x r) = as := by rw [hx]; rfl
     exact ⟨this ▸ g1, g2, by rw [← hs, g1.length]; simp⟩
    ·obtain ⟨g1, g2⟩ := hvr.hM (l := [ev x r]) (.inr ⟨h2, rfl⟩)
     have : AV.cs (ev x r) = [ev x r] := by
      revert h2; cases ev x r <;> intro h2 <;> first | rfl | cases h2
     exact ⟨this ▸ g1, g2, by have := g1.length; simp at this; omega⟩
   obtain ⟨g1, g2, g3⟩ := hcs
   have hoff := hb (.mk off sz x) (by simp)
   simp only at hoff
   have step := qX c.cells.toList 0 off ds.toArray
   obtain ⟨es, r1, r2, r3⟩ := ih qs (lP (AV.cs (ev x r)) off l) (pG c.cells.toList off ds) (by simpa using hl) (fun k h1 h2 => hp (k + 1) (by simpa using h1) (by simpa using h2)) hf'
    (fun q hq => by have := hb q (by simp [hq]); revert this; obtain ⟨o', s', x'⟩ := q; simp only; rw [pv]; exact id)
    (cn.pG off g1 hv) (wQ _ _ _ g2 h1)
   refine ⟨es, ?_, ?_, r3⟩
   ·have hpl' : place i = some (off, sz) := hpl
    simp only [Instr.fill, hpl', g3]
    rw [if_neg (by simp; omega)]
    rw [← r1]
    congr 1
    rw [← Array.foldl_toList, Array.toList_zipIdx]
    simpa using step
   ·rw [tz]; exact r2
variable {P : Program} {φ : aH} {h h' : Hp} {w : World} {v : AV} {x y z : AO} {r : A2} {cx cy : Value}
def yz (rc : Array Value) (o : Nat) : List Value → Array Value
 | [] => rc
 | c :: cs => yz (rc.setIfInBounds o c) (o + 1) cs
theorem oI : ∀ (cs : List Value) (rc : Array Value) (o : Nat), (yz rc o cs).size = rc.size
 | [], _, _ => rfl
 | c :: cs, rc, o => by rw [yz, oI]; simp
theorem wR : ∀ (cs : List Value) (rc : Array Value) (o k : Nat), o + cs.length ≤ rc.size → (yz rc o cs)[k]? = if h : o ≤ k ∧ k < o + cs.length then some (cs[k - o]'(by omega)) else rc[k]?
 | [], rc, o, k, _ => by rw [yz, dif_neg (by simp only [List.length_nil]; omega)]
 | c :: cs, rc, o, k, hb => by
  simp only [List.length_cons] at hb
  rw [yz, wR cs _ (o + 1) k (by simp; omega), Array.getElem?_setIfInBounds]
  by_cases h1 : k = o
  ·subst h1
   rw [dif_neg (by omega), if_pos rfl, if_pos (by omega), dif_pos (by simp)]
   simp
  ·by_cases h2 : o ≤ k ∧ k < o + (cs.length + 1)
   ·rw [dif_pos (by omega), dif_pos (by simpa using h2)]
    have : k - o = (k - (o + 1)) + 1 := by omega
    simp only [this, List.getElem_cons_succ]
   ·rw [dif_neg (by omega), dif_neg (by simpa using h2), if_neg (by omega)]
theorem mu {b base : Nat} : ∀ (vs : List Value) (w : World) (rc : Array Value) (el : TypeId) (fz : Nat × Nat) (k : Nat), w.heap[b]? = some (.cells rc el fz) → base + k + vs.length ≤ rc.size →
  (∀ j, j < rc.size → ¬ (fz.1 ≤ j ∧ j < fz.2)) → (∀ c, c ∈ vs → c.oneCell' = true) →
  ∃ w', (storeCells ⟨b, base, none⟩ vs k).run P w = .ok () w' ∧ w'.heap[b]? = some (.cells (yz rc (base + k) vs) el fz) ∧ w'.heap.size = w.heap.size ∧ (∀ d, d ≠ b → w'.heap[d]? = w.heap[d]?) ∧ w'.tape = w.tape ∧ w'.os = w.os ∧ w'.output = w.output := by
 intro vs
 induction vs with
 | nil => intro w rc el fz k hb _ _ _; exact ⟨w, rfl, hb, rfl, fun _ _ => rfl, rfl, rfl, rfl⟩
 | cons c cs ih =>
  intro w rc el fz k hb hl hf h1
  simp only [List.length_cons] at hl
  have ha : (⟨b, base, none⟩ : Addr).add k = ⟨b, base + k, none⟩ := by
   unfold Addr.add; split
   ·rename_i e; subst e; rfl
   ·rfl
  have hc : w.cell? ⟨b, base + k, none⟩ = some rc[base + k] := by simp [World.cell?, hb]
  have hz : w.frozen? ⟨b, base + k, none⟩ = false := by
   simp only [World.frozen?, hb]
   rw [Bool.eq_false_iff]
   intro hh
   have hh' := Bool.and_eq_true_iff.1 hh
   exact hf (base + k) (by omega) ⟨of_decide_eq_true hh'.1, of_decide_eq_true hh'.2⟩
  have hs : (w.setCell ⟨b, base + k, none⟩ c).heap[b]? = some (.cells (rc.setIfInBounds (base + k) c) el fz) := by
   simp only [World.setCell, Array.getElem?_modify]
   simp [hb]
  obtain ⟨w', r1, r2, r3, r4, r5, r6, r7⟩ := ih (w.setCell ⟨b, base + k, none⟩ c) _ el fz (k + 1) hs (by simp; omega) (by simpa using hf) (fun d hd => h1 d (by simp [hd]))
  refine ⟨w', ?_, r2, r3.trans (jx _ _ _), fun d hd => (r4 d hd).trans (qS _ _ _ (by exact hd)), r5, r6, r7⟩
  simp only [storeCells, Sem.run_bind, ha, gG (h1 c (by simp)) hc hz, Result.andThen_ok]
  exact r1
structure BB (P : Program) (φ : aH) (w : World) (u : TypeId) (es m : Nat) (new : List AV) (cy : Value) (ns : List Value) : Prop where
 Fi : ∃ d, P.underlying u = some d ∧ ∀ k, d ≠ .int k
 len : (Builtin.lenOf cy).run P w = .ok m w
 size : ns.length = m * es
 rel : cn φ new ns
 one : ∀ c, c ∈ ns → c.oneCell' = true
 cells : ∀ w' : World, w'.heap = w.heap → (Builtin.firstCells es m cy).run P w' = .ok ns.toArray w'
def grown (w : World) (cs : Array Value) (e : TypeId) : World := w.drew.alloc (.cells cs e)
def dG (w : World) (need old : Nat) (e : TypeId) : Nat := (Question.appendCap need old e).cut (w.tape w.drawn (.appendCap need old e))
theorem wT (w : World) (need old : Nat) (e : TypeId) : need ≤ dG w need old e := by simp [dG, Question.cut]
theorem rf {t u ty e : TypeId} {i : TypeInfo} (ht : P.underlying t = some (.slice e)) (hi : P.info? e = some i) {m : Nat} {new : List AV} {ns : List Value} (S : BB P φ w u i.size m new cy ns)
  {base : Option Addr} {n c : Nat} (hc : n + m ≤ c) {w' : World} (hs : ∀ a, base = some a → (storeCells (a.add (n * i.size)) ns).run P w = .ok () w') (hn : base = none → w' = w) :
  (Builtin.append_ #[t, u] ty #[.slice base n c, cy]).run P w = .ok (.slice base (n + m) c) w' := by
 obtain ⟨d, hu, hd⟩ := S.Fi
 have hz : (d matches TypeDesc.int _) = false := by cases d <;> first | rfl | exact absurd rfl (hd _)
 cases base with
 | none =>
  rw [hn rfl]
  simp [Builtin.append_, ai ht, ai hu, aK hi, hz, S.len, hc, S.cells w rfl]
 | some a =>
  simp [Builtin.append_, ai ht, ai hu, aK hi, hz, S.len, hc, S.cells w rfl, hs a rfl]
theorem pH {t u ty e : TypeId} {i : TypeInfo} {z : Value} (ht : P.underlying t = some (.slice e)) (hi : P.info? e = some i) (hz : i.zero = some z) {m : Nat} {new : List AV} {ns : List Value} (S : BB P φ w u i.size m new cy ns)
  {base : Option Addr} {n c : Nat} (hc : ¬ n + m ≤ c) {os : List Value} (ho : ∀ w' : World, w'.heap = w.heap → (Builtin.firstCells i.size n (.slice base n c)).run P w' = .ok os.toArray w')
  (hb : (n + m) * i.bytes ≤ 140737488355328) (h63 : n + m ≤ 9223372036854775807) :
  (Builtin.append_ #[t, u] ty #[.slice base n c, cy]).run P w =
   .ok (.slice (some ⟨w.heap.size, 0, none⟩) (n + m) (dG w (n + m) c e)) (grown w (os.toArray ++ ns.toArray ++ Builtin.zeroCells z.cells (dG w (n + m) c e - (n + m))) e) := by
 obtain ⟨d, hu, hd⟩ := S.Fi
 have hzz : (d matches TypeDesc.int _) = false := by cases d <;> first | rfl | exact absurd rfl (hd _)
 have h63' : ¬ (9223372036854775807 < ((n : Int) + (m : Int))) := by omega
 have h48 := growslice_fits (old := c) (show c < n + m by omega) hb
 have h48' : ¬ (281474976710656 < Builtin.nextslicecap (n + m) c * i.bytes) := by omega
 have hcell := S.cells w.drew rfl
 have hold := ho w.drew rfl
 simp only [grown, Array.append_assoc]
 simp [Builtin.append_, ai ht, ai hu, aK hi, bD hi, zeroValue, hz, hzz, S.len, hc, h63', h48', Question.forced, hcell, hold, newRow, dG]
structure Src (P : Program) (φ : aH) (w : World) (e u : TypeId) (es m : Nat) (new : List AV) (cy : Value) (ns : List Value) : Prop where
 PM : ∀ (t ty : TypeId) (i : TypeInfo), P.underlying t = some (.slice e) → P.info? e = some i → i.size = es → ∀ (base : Option Addr) (n c : Nat), n + m ≤ c → ∀ w' : World, (∀ a, base = some a → (storeCells (a.add (n * es)) ns).run P w = .ok () w') → (base = none → w' = w) →
  (Builtin.append_ #[t, u] ty #[.slice base n c, cy]).run P w = .ok (.slice base (n + m) c) w'
 PN : ∀ (t ty : TypeId) (i : TypeInfo) (z : Value), P.underlying t = some (.slice e) → P.info? e = some i → i.size = es → i.zero = some z → ∀ (base : Option Addr) (n c : Nat), ¬ n + m ≤ c → ∀ os : List Value, (∀ w' : World, w'.heap = w.heap → (Builtin.firstCells es n (.slice base n c)).run P w' = .ok os.toArray w') →
  (n + m) * i.bytes ≤ 140737488355328 → n + m ≤ 9223372036854775807 →
  (Builtin.append_ #[t, u] ty #[.slice base n c, cy]).run P w =
   .ok (.slice (some ⟨w.heap.size, 0, none⟩) (n + m) (dG w (n + m) c e)) (grown w (os.toArray ++ ns.toArray ++ Builtin.zeroCells z.cells (dG w (n + m) c e - (n + m))) e)
 size : ns.length = m * es
 rel : cn φ new ns
 one : ∀ c, c ∈ ns → c.oneCell' = true
theorem BB.src {e u : TypeId} {es m : Nat} {new : List AV} {ns : List Value} (S : BB P φ w u es m new cy ns) : Src P φ w e u es m new cy ns where
 PM t ty i ht hi hs base n c hc w' h1 h2 := by subst hs; exact rf ht hi S hc h1 h2
 PN t ty i z ht hi hs hz base n c hc os ho hb h63 := by subst hs; exact pH ht hi hz S hc ho hb h63
 size := S.size
 rel := S.rel
 one := S.one
theorem db {t u ty e : TypeId} {i : TypeInfo} (ht : P.underlying t = some (.slice e)) (hi : P.info? e = some i) {m : Nat} {new : List AV} {ns : List Value} (S : Src P φ w e u i.size m new cy ns)
  {base : Option Addr} {n c : Nat} (hc : n + m ≤ c) {w' : World} (hs : ∀ a, base = some a → (storeCells (a.add (n * i.size)) ns).run P w = .ok () w') (hn : base = none → w' = w) :
  (Builtin.append_ #[t, u] ty #[.slice base n c, cy]).run P w = .ok (.slice base (n + m) c) w' := S.PM t ty i ht hi rfl base n c hc w' hs hn
theorem kN {t u ty e : TypeId} {i : TypeInfo} {z : Value} (ht : P.underlying t = some (.slice e)) (hi : P.info? e = some i) (hz : i.zero = some z) {m : Nat} {new : List AV} {ns : List Value} (S : Src P φ w e u i.size m new cy ns)
  {base : Option Addr} {n c : Nat} (hc : ¬ n + m ≤ c) {os : List Value} (ho : ∀ w' : World, w'.heap = w.heap → (Builtin.firstCells i.size n (.slice base n c)).run P w' = .ok os.toArray w')
  (hb : (n + m) * i.bytes ≤ 140737488355328) (h63 : n + m ≤ 9223372036854775807) :
  (Builtin.append_ #[t, u] ty #[.slice base n c, cy]).run P w =
   .ok (.slice (some ⟨w.heap.size, 0, none⟩) (n + m) (dG w (n + m) c e)) (grown w (os.toArray ++ ns.toArray ++ Builtin.zeroCells z.cells (dG w (n + m) c e - (n + m))) e) := S.PN t ty i z ht hi rfl hz base n c hc os ho hb h63
variable {P : Program} {φ : aH} {h h' : Hp} {w : World} {v : AV} {x y z : AO} {r : A2} {cx cy : Value}
theorem fy {n : Nat} {a : RV} {f : Nat → RV} {b : RV} (e : (Nat.rec a (fun m _ => f m) n : RV) = b) : (n = 0 ∧ a = b) ∨ ∃ m, n = m + 1 ∧ f m = b := by
 cases n with
 | zero => exact .inl ⟨rfl, e⟩
 | succ m => exact .inr ⟨m, rfl, e⟩
theorem fc {b : Bool} {s t u : RV} (e : (Bool.rec s t b : RV) = u) : (b = false ∧ s = u) ∨ (b = true ∧ t = u) := by
 cases b
 ·exact .inl ⟨rfl, e⟩
 ·exact .inr ⟨rfl, e⟩
theorem nh {k : Nat → RV} {n : Nat} {a : AV} (hx : VR φ a cx) (e : pw a k (.err n) = .ok v h) : ∃ m base c, cx = .slice base m c ∧ k m = .ok v h := by
 rcases dF e with ⟨i, o, l, c, rfl, e⟩ | ⟨i, o, l, c, rfl, e⟩ | ⟨rfl, e⟩ <;> cases hx <;> exact ⟨_, _, _, rfl, e⟩
theorem rh {w w' : World} (hw : w'.heap = w.heap) (a : Addr) : w'.cell? a = w.cell? a := by simp [World.cell?, hw]
structure xU (P : Program) (φ : aH) (w : World) (es m : Nat) (new : List AV) (cy : Value) (ns : List Value) : Prop where
 size : ns.length = m * es
 rel : cn φ new ns
 one : ∀ c, c ∈ ns → c.oneCell' = true
 cells : ∀ w' : World, w'.heap = w.heap → (Builtin.firstCells es m cy).run P w' = .ok ns.toArray w'
 pre : ∀ k, k ≤ m → (Builtin.firstCells es k cy).run P w = .ok (ns.take (k * es)).toArray w
theorem gI {a : Addr} {l : List Value} (hc : ∀ k (hk : k < l.length), w.cell? (a.add k) = some l[k]) {n : Nat} (hn : n ≤ l.length) : (loadCells a n).run P w = .ok (l.take n).toArray w :=
 run_loadCells (by simp; omega) fun k hk => by
  rw [List.getElem_take]
  exact hc k (by simp at hk; omega)
theorem xU.none (es : Nat) {a : Option Addr} {n c : Nat} : xU P φ w es 0 [] (.slice a n c) [] where
 size := by simp
 rel := .nil
 one := by simp
 cells w' _ := by cases a <;> simp [Builtin.firstCells, loadCells, loadCellsFrom]
 pre k hk := by
  have : k = 0 := by omega
  subst this
  cases a <;> simp [Builtin.firstCells, loadCells, loadCellsFrom]
theorem mw (H : HR φ h w) {i : P4} {p : Place} (hp : φ i = some p) {es o n nn c : Nat} {k : List AV → RV} {q : Nat} {a : Addr} (ha : 0 < n → a = p.addr o) (e : gX es i o n h k (.err q) = .ok v h') :
  ∃ new ns, k new = .ok v h' ∧ xU P φ w es n new (.slice (some a) nn c) ns ∧ (n = 0 ∨ ∃ el m ex fl cl, ah i h = .cells el m ex fl cl ∧ o + n * es ≤ m ∧ new = bn (n * es) cl o) := by
 unfold gX at e
 rcases fy e with ⟨rfl, e⟩ | ⟨n, rfl, e⟩
 ·exact ⟨[], [], e, xU.none es, .inl rfl⟩
 ·obtain ⟨el, m, ex, fl, cl, hi, e⟩ := aP e
  obtain ⟨hb, e⟩ := au e
  have hb : o + (n + 1) * es ≤ m := Nat.le_of_ble_eq_true hb
  obtain ⟨l, h1, h2, h3, h4⟩ := H.values hi hp _ o hb
  rw [ha (by omega)]
  refine ⟨_, l, e, ⟨h1, h2, h3, fun w' hw => ?_, fun k hk => ?_⟩, .inr ⟨_, _, _, _, _, hi, hb, rfl⟩⟩
  ·simp only [Builtin.firstCells]
   exact run_loadCells h1 fun k hk => by rw [rh hw]; exact h4 k hk
  ·simp only [Builtin.firstCells]
   exact gI h4 (by rw [h1]; exact Nat.mul_le_mul_right _ hk)
theorem gJ {p : Place} {a : Addr} {o c : Nat} (h3 : a.block = p.cP) (h4 : a.spot = none) (h5 : c ≠ 0 → a.off = p.base + o) (hc : 0 < c) : a = p.addr o := by
 obtain ⟨ab, ao, as⟩ := a
 simp only at h3 h4 h5
 have := h5 (by omega)
 subst h3 h4 this
 rfl
theorem ri (H : HR φ h w) {es : Nat} {a : AV} (hy : VR φ a cy) {k : List AV → RV} {q : Nat} (e : elems es a h k (.err q) = .ok v h') :
  ∃ b n c new ns, cy = .slice b n c ∧ k new = .ok v h' ∧ xU P φ w es n new cy ns := by
 rcases dF e with ⟨i, o, l, c, rfl, e⟩ | ⟨i, o, l, c, rfl, e⟩ | ⟨rfl, e⟩
 ·cases hy with
  | fX _ _ _ => exact ⟨_, _, _, [], [], rfl, e, xU.none es⟩
  | slice _ _ _ _ p hp =>
   obtain ⟨new, ns, h1, h2, _⟩ := mw (P := P) (nn := l) (c := c) H hp (a := p.addr o) (fun _ => rfl) e
   exact ⟨_, _, _, new, ns, rfl, h1, h2⟩
 ·obtain ⟨_, e⟩ := au e
  cases hy with
  | fN _ _ _ _ cc p a hp h1 h2 h3 h4 h5 h6 =>
   obtain ⟨new, ns, h1, h2, _⟩ := mw (P := P) (nn := l) (c := cc) H hp (a := a) (fun hl => gJ h3 h4 h5 (by omega)) e
   exact ⟨_, _, _, new, ns, rfl, h1, h2⟩
 ·cases hy
  exact ⟨_, _, _, [], [], rfl, e, xU.none es⟩
theorem xU.Pe {es m c : Nat} {b : Option Addr} {new : List AV} {ns : List Value} (E : xU P φ w es m new (.slice b m c) ns) {u f : TypeId} (hu : P.underlying u = some (.slice f)) : BB P φ w u es m new (.slice b m c) ns where
 Fi := ⟨_, hu, by simp⟩
 len := rfl
 size := E.size
 rel := E.rel
 one := E.one
 cells := E.cells
theorem xU.src {es m c : Nat} {b : Option Addr} {new : List AV} {ns : List Value} (E : xU P φ w es m new (.slice b m c) ns) {e u f : TypeId} (hu : P.underlying u = some (.slice f)) : Src P φ w e u es m new (.slice b m c) ns := (E.Pe hu).src
theorem my {i : P4} {o : Nat} {l : List AV} {k : Hp → RV} (e : jo i o l h k = .ok v h') : ∃ el n ex fl c, ah i h = .cells el n ex fl c ∧ wr fl = true ∧ o + l.length ≤ n ∧ k (cI i (.cells el n ex fl (cM l o c)) h) = .ok v h' := by
 obtain ⟨el, n, ex, fl, c, hi, e⟩ := aP e
 obtain ⟨hw, e⟩ := au e
 obtain ⟨hb, e⟩ := au e
 exact ⟨el, n, ex, fl, c, hi, hw, Nat.le_of_ble_eq_true hb, e⟩
theorem jA (H : HR φ h w) {i : P4} {p : Place} (hp : φ i = some p) {el n : Nat} {ex : Bool} {fl : Fl} {c : Cl} (hi : ah i h = .cells el n ex fl c) (hf : wr fl = true) {l : List AV} {vs : List Value} (hl : cn φ l vs) (h1 : ∀ x, x ∈ vs → x.oneCell' = true)
  {o : Nat} (hn : o + l.length ≤ n) : ∃ w', (storeCells (p.addr o) vs).run P w = .ok () w' ∧ HR φ (cI i (.cells el n ex fl (cM l o c)) h) w' ∧ Step φ h w φ (cI i (.cells el n ex fl (cM l o c)) h) w' := by
 obtain ⟨w', r1, r2, r3⟩ := kJ (P := P) hp hf l vs h w c o 0 H hi hl h1 (by omega)
 refine ⟨w', r1, r2, φ.le_refl, r3, fun k q hk hq => ?_⟩
 rw [aD] at hk
 by_cases ek : k = i
 ·subst ek; exact .inl ⟨hi ▸ aM, hq, fun _ => lQ hi hf⟩
 ·rw [if_neg ek] at hk; exact .inl ⟨hk, hq, fun x => by rw [aD, if_neg ek] at x; exact x⟩
theorem kO (z : Array Value) (n : Nat) : (Builtin.zeroCells z n).size = n * z.size := by simp [Builtin.zeroCells]
theorem jB {t u ty e : TypeId} {i : TypeInfo} {zv : Value} (H : HR φ h w) (ht : P.underlying t = some (.slice e)) (hi : P.info? e = some i) (hz : i.zero = some zv) (hzs : zv.cells.size = i.size) (hby : i.bytes ≤ 1048576) (hes : 0 < i.size)
  {m : Nat} {new : List AV} {ns : List Value} (S : Src P φ w e u i.size m new cy ns) {base : Option Addr} {n c : Nat} (hc : ¬ n + m ≤ c) {old : List AV} {os : List Value} (E : xU P φ w i.size n old (.slice base n c) os)
  (he : ou e i.size n m old new h = .ok v h') : Good φ h w v h' ((Builtin.append_ #[t, u] ty #[.slice base n c, cy]).run P w) := by
 have hroom := pT he
 obtain ⟨hr, hn, he⟩ := jy he
 obtain ⟨rfl, rfl⟩ := RV.al he
 have hl1 := E.rel.length
 have hl2 := S.rel.length
 have hlen : (List.append old new).length = (n + m) * i.size := by
  show (old ++ new).length = _
  rw [List.length_append, hl1, hl2, E.size, S.size, Nat.add_mul]
 have hnm : n + m ≤ 16777216 := by
  have : (n + m) * 1 ≤ (n + m) * i.size := Nat.mul_le_mul_left _ hes
  omega
 have hbb : (n + m) * i.bytes ≤ 140737488355328 := by
  have : (n + m) * i.bytes ≤ 16777216 * 1048576 := Nat.mul_le_mul hnm hby
  omega
 have hrun := kN (P := P) (ty := ty) ht hi hz S hc E.cells hbb (by omega)
 rw [hrun]
 have hcap := wT w (n + m) c e
 have hsz : (os.toArray ++ ns.toArray ++ Builtin.zeroCells zv.cells (dG w (n + m) c e - (n + m))).size = dG w (n + m) c e * i.size := by
  rw [Array.size_append, Array.size_append, kO, hzs]
  simp only [List.size_toArray]
  rw [E.size, S.size, ← Nat.add_mul, ← Nat.add_mul]
  congr 1; omega
 have hrel : cn φ (List.append old new) (os ++ ns) := E.rel.append S.rel
 obtain ⟨g1, g2⟩ := H.qV (n' := h.next.succ) (w' := grown w (os.toArray ++ ns.toArray ++ Builtin.zeroCells zv.cells (dG w (n + m) c e - (n + m))) e) hn
  (rc := os.toArray ++ ns.toArray ++ Builtin.zeroCells zv.cells (dG w (n + m) c e - (n + m))) (el := e) (n := (List.append old new).length) (ex := false) (fl := .plain) (fz := (0, 0)) (c := mJ (List.append old new))
  (by rw [hsz, hlen]; exact Nat.mul_le_mul_right _ hcap) (by simp) hr
  (fun k hk => by
   have hk' : k < (os ++ ns).length := by rw [← hrel.length]; exact hk
   refine ⟨(os ++ ns)[k], ?_, ?_, ?_⟩
   ·rw [Array.getElem?_append_left (by simpa using hk'), List.append_toArray]
    simp only [List.getElem?_toArray]
    exact List.getElem?_eq_getElem hk'
   ·rw [eu _ hr k hk]; exact hrel.get k hk hk'
   ·rcases List.mem_append.1 (List.getElem_mem hk') with g | g
    ·exact E.one _ g
    ·exact S.one _ g) rfl rfl rfl rfl rfl
 refine ⟨_, _, _, rfl, ?_, g1, g2⟩
 refine .fN _ 0 (n + m) i.size (dG w (n + m) c e) ⟨w.heap.size, 0, _⟩ ⟨w.heap.size, 0, none⟩ (aH.aI _ _ _) ?_ hcap rfl rfl (fun _ => rfl) hes
 rw [hsz]; simp
theorem sF {fl : Fl} {fz : Nat × Nat} {size : Nat} (hf : wr fl = true) (hk : Bt fl fz size) : ∀ j, j < size → ¬ (fz.1 ≤ j ∧ j < fz.2) := by
 cases fl with
 | plain => cases hk; intro j _; simp
 | mark => exact hk
 | yv => cases hf
 | ro => cases hf
theorem BC {fl : Fl} {size : Nat} : Bt fl (0, 0) size := by
 cases fl with
 | plain => rfl
 | mark => intro k _; simp
 | yv => trivial
 | ro => trivial
theorem fe {h : Hp} {o : Obj} {n' : P4} (j : P4) : ah j (.mk (cU h.next o h.tree) n') = if j = h.next then o else ah j h := by
 cases h with
 | mk t n => exact cV j n o t
theorem HR.kF (H : HR φ h w) {i : P4} {p : Place} (hp : φ i = some p) (hwi : wl (ah i h)) (hn : ah h.next (cI i .dead h) = .none) {q : Place} {w' : World} (hb : q.cP = p.cP ∨ q.cP = w.heap.size)
  {o : Obj} (hlo : live o) (hsz : w.heap.size ≤ w'.heap.size) (hq : q.cP < w'.heap.size) (hne : ∀ b, b < w.heap.size → b ≠ p.cP → w'.heap[b]? = w.heap[b]?) (ho : OR (φ.put h.next q) o q w'.heap[q.cP]?)
  (ht : w'.tape = w.tape) (hos : w'.os = w.os) (hu : w'.output = w.output) {n' : P4} :
  HR (φ.put h.next q) (.mk (cU h.next o (cI i .dead h).tree) n') w' ∧ Step φ h w (φ.put h.next q) (.mk (cU h.next o (cI i .dead h).tree) n') w' := by
 have hi := hwi.1
 have hni : h.next ≠ i := by
  intro e; rw [aD, if_pos e] at hn; cases hn
 rw [aD, if_neg hni] at hn
 have hφ := H.fresh _ hn
 have hle := aH.ir (φ := φ) (i := h.next) q hφ
 have hg : ∀ j, ah j (.mk (cU h.next o (cI i .dead h).tree) n') = if j = h.next then o else if j = i then .dead else ah j h := by
  intro j
  have := fe (h := cI i .dead h) (o := o) (n' := n') j
  have hnx : (cI i .dead h).next = h.next := rfl
  rw [hnx] at this
  rw [this, aD]
 have hold : ∀ j r, j ≠ h.next → (φ.put h.next q) j = some r → φ j = some r := by
  intro j r hj hr; simpa [aH.put, hj] using hr
 have hlv : ∀ j, live (ah j (.mk (cU h.next o (cI i .dead h).tree) n')) → j = h.next ∨ (j ≠ h.next ∧ j ≠ i ∧ live (ah j h)) := by
  intro j hj
  rw [hg] at hj
  by_cases e : j = h.next
  ·exact .inl e
  ·rw [if_neg e] at hj
   by_cases e' : j = i
   ·rw [if_pos e'] at hj; exact absurd rfl hj.2
   ·rw [if_neg e'] at hj; exact .inr ⟨e, e', hj⟩
 refine ⟨⟨fun j hj => ?_, fun j k s t hj hk hw2 hjk hs ht => ?_, fun j hj => ?_, fun j s hs => ?_⟩, hle, ⟨hsz, fun b hb' hnb => hne b hb' ?_, ht, hos, hu⟩, fun j s hj hs => ?_⟩
 ·rcases hlv j hj with rfl | ⟨e1, e2, e3⟩
  ·rw [hg, if_pos rfl]
   exact ⟨q, aH.aI _ _ _, ho⟩
  ·rw [hg, if_neg e1, if_neg e2]
   obtain ⟨s, hs, hr⟩ := H.obj j e3
   refine ⟨s, hle _ _ hs, ?_⟩
   rw [hne _ (H.bound _ _ hs) (H.inj j i s p e3 hi (.inr hwi) e2 hs hp)]
   exact hr.mono hle
 ·rcases hlv j hj with rfl | ⟨e1, e2, e3⟩ <;> rcases hlv k hk with rfl | ⟨f1, f2, f3⟩
  ·exact absurd rfl hjk
  ·rw [aH.aI] at hs; cases hs
   have ht' := hold k t f1 ht
   have h1 := H.inj k i t p f3 hi (.inr hwi) f2 ht' hp
   have h2 := H.bound k t ht'
   rcases hb with g | g <;> rw [g] <;> first | exact fun e => h1 e.symm | omega
  ·rw [aH.aI] at ht; cases ht
   have hs' := hold j s e1 hs
   have h1 := H.inj j i s p e3 hi (.inr hwi) e2 hs' hp
   have h2 := H.bound j s hs'
   rcases hb with g | g <;> rw [g] <;> first | exact h1 | omega
  ·rw [hg, hg, if_neg e1, if_neg e2, if_neg f1, if_neg f2] at hw2
   exact H.inj j k s t e3 f3 hw2 hjk (hold j s e1 hs) (hold k t f1 ht)
 ·rw [hg] at hj
  by_cases e : j = h.next
  ·rw [if_pos e] at hj; exact absurd hj hlo.1
  ·rw [if_neg e] at hj
   show (if j = h.next then some _ else φ j) = none
   rw [if_neg e]
   by_cases e' : j = i
   ·rw [if_pos e'] at hj; cases hj
   ·rw [if_neg e'] at hj; exact H.fresh j hj
 ·by_cases e : j = h.next
  ·rw [e, aH.aI] at hs; cases hs; exact hq
  ·exact Nat.lt_of_lt_of_le (H.bound j s (hold j s e hs)) hsz
 ·exact fun e => hnb i p hwi hp e.symm
 ·rcases hlv j hj with rfl | ⟨e1, e2, e3⟩
  ·rw [aH.aI] at hs; cases hs
   rcases hb with g | g
   ·exact .inr (.inr ⟨i, p, hwi, hp, g.symm⟩)
   ·exact .inr (.inl (by omega))
  ·exact .inl ⟨e3, hold j s e1 hs, fun x => by rw [hg, if_neg e1, if_neg e2] at x; exact x⟩
variable {P : Program} {φ : aH} {h h' : Hp} {w : World} {v : AV} {x y z : AO} {r : A2} {cx cy : Value}
theorem Lv (H : HR φ h w) {i : P4} {p : Place} (hp : φ i = some p) {el k : Nat} {ex : Bool} {fl : Fl} {c : Cl} (hi : ah i h = .cells el k ex fl c) {es o n nn cc : Nat} {a : Addr} (ha : 0 < n → a = p.addr o) (hb : o + n * es ≤ k) :
  ∃ os, xU P φ w es n (bn (n * es) c o) (.slice (some a) nn cc) os := by
 rcases Nat.eq_zero_or_pos n with rfl | hn
 ·refine ⟨[], ?_⟩
  rw [Nat.zero_mul]
  exact xU.none es
 ·obtain ⟨l, h1, h2, h3, h4⟩ := H.values hi hp _ o hb
  rw [ha hn]
  refine ⟨l, h1, h2, h3, fun w' hw => ?_, fun k hk => ?_⟩
  ·simp only [Builtin.firstCells]
   exact run_loadCells h1 fun k hk => by rw [rh hw]; exact h4 k hk
  ·simp only [Builtin.firstCells]
   exact gI h4 (by rw [h1]; exact Nat.mul_le_mul_right _ hk)
theorem rj {t u ty e : TypeId} {i : TypeInfo} {zv : Value} (H : HR φ h w) (ht : P.underlying t = some (.slice e)) (hi : P.info? e = some i) (hz : i.zero = some zv) (hzs : zv.cells.size = i.size) (hby : i.bytes ≤ 1048576) (hes : 0 < i.size)
  {m : Nat} {new : List AV} {ns : List Value} (S : Src P φ w e u i.size m new cy ns) (hm : 0 < m) {j : P4} {o n : Nat} {cs : Value} (hs : VR φ (.fN j o n i.size) cs) {k : Nat} {fl : Fl} {c c' : Cl} (hj : ah j h = .cells e k false fl c) (hf : wr fl = true)
  (hb : o + n * i.size ≤ k) (hc' : (n + m) * i.size ≤ bp c' → ∀ x (hx : x < (bn (n * i.size) c o ++ new).length), eF x c' = (bn (n * i.size) c o ++ new)[x])
  (he : kF j e ((n + m) * i.size) fl c' (n + m) i.size h = .ok v h') : Good φ h w v h' ((Builtin.append_ #[t, u] ty #[cs, cy]).run P w) := by
 have hroom := pT he
 obtain ⟨hr, hn, he⟩ := jy he
 obtain ⟨rfl, rfl⟩ := RV.al he
 have hcg := hc' hr
 cases hs with
 | fN _ _ _ _ cap p a hp h1 h2 h3 h4 h5 h6 =>
 have hl : live (ah j h) := hj ▸ aM
 obtain ⟨q, hq, hor⟩ := H.obj j hl
 rw [hp] at hq; cases hq
 rw [hj] at hor
 obtain ⟨rc, fz, g1, g2, g3, g4, g5, g6, g7⟩ := hor
 have ha : 0 < n → a = p.addr o := fun hn => gJ h3 h4 h5 (by omega)
 obtain ⟨os, E⟩ := Lv (P := P) H hp hj (nn := n) (cc := cap) ha hb
 have hrel : cn φ (bn (n * i.size) c o ++ new) (os ++ ns) := E.rel.append S.rel
 have hone : ∀ c, c ∈ os ++ ns → c.oneCell' = true := fun c hc => (List.mem_append.1 hc).elim (E.one c) (S.one c)
 have hlen : (os ++ ns).length = (n + m) * i.size := by rw [List.length_append, E.size, S.size, Nat.add_mul]
 change ah h.next (cI j .dead h) = .none at hn
 have hnx : ah h.next h = .none := by
  rw [aD] at hn
  by_cases e' : h.next = j
  ·rw [if_pos e'] at hn; cases hn
  ·rwa [if_neg e'] at hn
 have hφ := H.fresh _ hnx
 by_cases hin : n + m ≤ cap
 ·have ha' : a = p.addr o := gJ h3 h4 h5 (by omega)
  have hcap : (n + m) * i.size ≤ cap * i.size := Nat.mul_le_mul_right _ hin
  have hsum := Nat.add_mul n m i.size
  have hnsl := S.size
  obtain ⟨w', r1, r2, r3, r4, r5, r6, r7⟩ := mu (P := P) (b := p.cP) (base := p.base + (o + n * i.size)) ns w rc e fz 0 g1 (by omega) (sF hf g7) S.one
  have hst : (storeCells (a.add (n * i.size)) ns).run P w = .ok () w' := by rw [ha', cJ]; exact r1
  rw [db (P := P) (ty := ty) ht hi S hin (w' := w') (fun b hb => by cases hb; exact hst) (by simp)]
  obtain ⟨k1, k2⟩ := H.kF (n' := h.next.succ) hp (lQ hj hf) hn (q := ⟨p.cP, p.base + o, p.room - o⟩) (w' := w') (.inl rfl) (o := .cells e ((n + m) * i.size) false fl c') aM (by omega) (by rw [r3]; exact H.bound j p hp) (fun b _ hb => r4 b hb)
   (by
    refine ⟨_, fz, r2, by rw [oI]; simp only; omega, by simp only; omega, by simp, hr, fun x hx => ?_, by rw [oI]; exact g7⟩
    have hx' : x < (os ++ ns).length := by rw [hlen]; exact hx
    refine ⟨(os ++ ns)[x], ?_, ?_, hone _ (List.getElem_mem _)⟩
    ·rw [wR _ _ _ _ (by omega)]
     have hosl := E.size
     by_cases hxo : x < os.length
     ·rw [dif_neg (by simp only; omega), List.getElem_append_left hxo]
      have := E.cells w rfl
      rw [ha'] at this
      obtain ⟨l, v1, v2, v3, v4⟩ := H.values hj hp _ o hb
      have hrun := run_loadCells (P := P) v1 v4
      simp only [Builtin.firstCells] at this
      rw [hrun] at this
      have hol : l = os := by simpa using this
      subst hol
      have := v4 x hxo
      rw [cJ, tp g1] at this
      rw [← Nat.add_assoc] at this
      exact this
     ·simp only
      rw [dif_pos (by omega), List.getElem_append_right (by omega)]
      congr 2
      omega
    ·rw [hcg x (by rw [hrel.length]; exact hx')]
     exact (hrel.get x (by rw [hrel.length]; exact hx') hx').mono (aH.ir _ hφ)) r5 r6 r7
  refine ⟨_, w', _, rfl, ?_, k1, k2⟩
  refine .fN _ 0 (n + m) i.size cap ⟨p.cP, p.base + o, p.room - o⟩ a (aH.aI _ _ _) (by simp only; omega) hin h3 h4 (fun hc => ?_) hes
  have := h5 hc
  simpa using this
 ·have hnm : n + m ≤ 16777216 := by
   have : (n + m) * 1 ≤ (n + m) * i.size := Nat.mul_le_mul_left _ hes
   omega
  have hbb : (n + m) * i.bytes ≤ 140737488355328 := by
   have : (n + m) * i.bytes ≤ 16777216 * 1048576 := Nat.mul_le_mul hnm hby
   omega
  rw [kN (P := P) (ty := ty) ht hi hz S hin E.cells hbb (by omega)]
  have hcap := wT w (n + m) cap e
  have hsz : (os.toArray ++ ns.toArray ++ Builtin.zeroCells zv.cells (dG w (n + m) cap e - (n + m))).size = dG w (n + m) cap e * i.size := by
   rw [Array.size_append, Array.size_append, kO, hzs]
   simp only [List.size_toArray]
   rw [E.size, S.size, ← Nat.add_mul, ← Nat.add_mul]
   congr 1; omega
  have hheap : (grown w (os.toArray ++ ns.toArray ++ Builtin.zeroCells zv.cells (dG w (n + m) cap e - (n + m))) e).heap = w.heap.push (.cells (os.toArray ++ ns.toArray ++ Builtin.zeroCells zv.cells (dG w (n + m) cap e - (n + m))) e) := rfl
  obtain ⟨k1, k2⟩ := H.kF (n' := h.next.succ) hp (lQ hj hf) hn (q := ⟨w.heap.size, 0, dG w (n + m) cap e * i.size⟩) (w' := grown w (os.toArray ++ ns.toArray ++ Builtin.zeroCells zv.cells (dG w (n + m) cap e - (n + m))) e) (.inr rfl)
   (o := .cells e ((n + m) * i.size) false fl c') aM (by rw [hheap]; simp) (by rw [hheap]; simp) (fun b hb _ => by rw [hheap, Array.getElem?_push, if_neg (by omega)])
   (by
    refine ⟨os.toArray ++ ns.toArray ++ Builtin.zeroCells zv.cells (dG w (n + m) cap e - (n + m)), (0, 0), by rw [hheap]; simp, by simp only [Nat.zero_add]; exact hsz.symm, Nat.mul_le_mul_right _ hcap, by simp, hr, fun x hx => ?_, BC⟩
    have hx' : x < (os ++ ns).length := by rw [hlen]; exact hx
    refine ⟨(os ++ ns)[x], ?_, ?_, hone _ (List.getElem_mem _)⟩
    ·simp only [Nat.zero_add]
     rw [Array.getElem?_append_left (by simpa using hx'), List.append_toArray]
     simp only [List.getElem?_toArray]
     exact List.getElem?_eq_getElem hx'
    ·rw [hcg x (by rw [hrel.length]; exact hx')]
     exact (hrel.get x (by rw [hrel.length]; exact hx') hx').mono (aH.ir _ hφ)) rfl rfl rfl
  refine ⟨_, _, _, rfl, ?_, k1, k2⟩
  exact .fN _ 0 (n + m) i.size (dG w (n + m) cap e) ⟨w.heap.size, 0, _⟩ ⟨w.heap.size, 0, none⟩ (aH.aI _ _ _) (by simp) hcap rfl rfl (fun _ => rfl) hes
variable {P : Program} {φ : aH} {h h' : Hp} {w : World} {v : AV} {x y z : AO} {r : A2} {cx cy : Value}
theorem wt (l new : List AV) {c : Cl} (hl : l.length + new.length ≤ bp (cM new l.length (jq (l.length + new.length) c))) (hr : l.length ≤ bp c) (hc : ∀ k (hk : k < l.length), eF k c = l[k]) (x : Nat) (hx : x < (l ++ new).length) :
  eF x (cM new l.length (jq (l.length + new.length) c)) = (l ++ new)[x] := by
 rw [fO] at hl
 have hx' : x < l.length + new.length := by simpa using hx
 rw [mj _ _ _ _ (by omega) hl]
 by_cases h1 : x < l.length
 ·rw [dif_neg (by omega), Br _ _ _ (by omega), hc x h1, List.getElem_append_left h1]
 ·rw [dif_pos (by omega), List.getElem_append_right (by omega)]
theorem yA {t u ty e : TypeId} {i : TypeInfo} {zv : Value} (H : HR φ h w) (ht : P.underlying t = some (.slice e)) (hi : P.info? e = some i) (hz : i.zero = some zv) (hzs : zv.cells.size = i.size) (hby : i.bytes ≤ 1048576) (hes : 0 < i.size)
  {m : Nat} {new : List AV} {ns : List Value} (S : Src P φ w e u i.size m new cy ns) (hm : 0 < m) {j : P4} {o n : Nat} {cs : Value} (hs : VR φ (.fN j o n i.size) cs) (he : DT e i.size m new j o n h = .ok v h') :
  Good φ h w v h' ((Builtin.append_ #[t, u] ty #[cs, cy]).run P w) := by
 obtain ⟨el, k, ex, fl, c, hj, he⟩ := aP he
 obtain ⟨hf, he⟩ := au he
 have hl : live (ah j h) := hj ▸ aM
 rcases fc he with ⟨hb, he⟩ | ⟨hb, he⟩
 ·obtain ⟨hb1, he⟩ := au he
  have hb1 : o + n * i.size ≤ k := Nat.le_of_ble_eq_true hb1
  have hlen : (bn (n * i.size) c o ++ new).length = (n + m) * i.size := by
   rw [List.length_append, bM, S.rel.length, S.size, Nat.add_mul]
  have hkr : k ≤ bp c := by
   obtain ⟨q, hq, hor⟩ := H.obj j hl
   rw [hj] at hor
   obtain ⟨rc, fz, g1, g2, g3, g4, g5, g6, g7⟩ := hor
   exact g5
  rcases fc he with ⟨hx, he2⟩ | ⟨_, he2⟩
  ·have hx : (ex || !Nat.beq e el) = false := hx
   have hex : ex = false := by cases ex <;> simp_all
   have hel : e = el := by
    cases hbe : Nat.beq e el
    ·simp [hbe] at hx
    ·exact Nat.eq_of_beq_eq_true hbe
   subst hex hel
   rcases fc he2 with ⟨_, he3⟩ | ⟨h0, he3⟩
   ·refine rj H ht hi hz hzs hby hes S hm hs hj hf hb1 (fun hr x hx => ?_) he3
    refine eu _ ?_ x hx
    show (bn (n * i.size) c o ++ new).length ≤ _
    rw [hlen]; exact hr
   ·obtain ⟨h1, h2⟩ := Bool.and_eq_true_iff.1 h0
    have h1 : o = 0 := Nat.eq_of_beq_eq_true h1
    have h2 : n * i.size = k := Nat.eq_of_beq_eq_true h2
    subst h1 h2
    refine rj H ht hi hz hzs hby hes S hm hs hj hf hb1 (fun hr x hx => ?_) he3
    have hsz : (n + m) * i.size = (bn (n * i.size) c 0).length + new.length := by rw [bM, S.rel.length, S.size, Nat.add_mul]
    have hlc : n * i.size = (bn (n * i.size) c 0).length := (bM _ _ _).symm
    have hr' : (bn (n * i.size) c 0).length + new.length ≤ bp (cM new (bn (n * i.size) c 0).length (jq ((bn (n * i.size) c 0).length + new.length) c)) := by
     rw [← hsz, ← hlc]; exact hr
    have := wt (bn (n * i.size) c 0) new (c := c) hr' (by rw [← hlc]; exact hkr) (fun k hk => by rw [lL, Nat.zero_add]) x hx
    rw [← this, ← hsz, ← hlc]
    rfl
  ·cases he2
 ·have hb : o + (n + m) * i.size ≤ k := Nat.le_of_ble_eq_true hb
  obtain ⟨rfl, rfl⟩ := RV.al he
  cases hs with
  | fN _ _ _ _ cap p a hp h1 h2 h3 h4 h5 h6 =>
  have hkr : k ≤ p.room := by
   obtain ⟨q, hq, hor⟩ := H.obj j hl
   rw [hp] at hq; cases hq
   rw [hj] at hor
   obtain ⟨rc, fz, g1, g2, g3, g4, g5, g6, g7⟩ := hor
   exact g3
  have hin : n + m ≤ cap := by
   have : (n + m) * i.size ≤ cap * i.size := by omega
   exact Nat.le_of_mul_le_mul_right this hes
  have ha : a = p.addr o := gJ h3 h4 h5 (by omega)
  have hsum := Nat.add_mul n m i.size
  obtain ⟨w', r1, r2, r3⟩ := jA (P := P) H hp hj hf S.rel S.one (o := o + n * i.size) (by rw [S.rel.length, S.size]; omega)
  rw [db (P := P) (ty := ty) ht hi S hin (w' := w') (fun b hb => by cases hb; rw [ha, cJ]; exact r1) (by simp)]
  exact ⟨_, w', φ, rfl, .fN _ _ _ _ cap p a hp h1 hin h3 h4 h5 h6, r2, r3⟩
theorem oJ {t u ty e : TypeId} {i : TypeInfo} {zv : Value} (H : HR φ h w) (ht : P.underlying t = some (.slice e)) (hi : P.info? e = some i) (hz : i.zero = some zv) (hzs : zv.cells.size = i.size) (hby : i.bytes ≤ 1048576) (hes : 0 < i.size)
  {m : Nat} {new : List AV} {ns : List Value} (S : Src P φ w e u i.size m new cy ns) {s : AV} {cs : Value} (hs : VR φ s cs) (he : kE e i.size m new s h = .ok v h') :
  Good φ h w v h' ((Builtin.append_ #[t, u] ty #[cs, cy]).run P w) := by
 have hns0 : m = 0 → ns = [] := fun hm => by have := S.size; rw [hm, Nat.zero_mul] at this; exact List.length_eq_zero_iff.1 this
 rcases dF he with ⟨j, o, n, cap, rfl, he⟩ | ⟨j, o, n, es', rfl, he⟩ | ⟨rfl, he⟩
 ·rcases fc he with ⟨hb, he2⟩ | ⟨hb, he2⟩
  ·have hin : ¬ n + m ≤ cap := fun hle => by have := Nat.ble_eq_true_of_le hle; rw [show (n + m).ble cap = (n.add m).ble cap from rfl, hb] at this; cases this
   cases hs with
   | fX _ _ _ => exact jB H ht hi hz hzs hby hes S (n := 0) (c := 0) hin (xU.none i.size) he2
   | slice _ _ _ _ p hp =>
   obtain ⟨old, os, he3, E, _⟩ := mw (P := P) (nn := n) (c := cap) H hp (a := p.addr o) (fun _ => rfl) he2
   exact jB H ht hi hz hzs hby hes S hin E he3
  ·have hin : n + m ≤ cap := Nat.le_of_ble_eq_true hb
   cases hs with
   | fX _ _ a0 =>
    rcases fy he2 with ⟨rfl, he3⟩ | ⟨m, rfl, he3⟩
    ·obtain ⟨rfl, rfl⟩ := RV.al he3
     rw [db (P := P) (ty := ty) ht hi S hin (w' := w) (fun b _ => by rw [hns0 rfl]; rfl) (fun _ => rfl)]
     exact .same H (.fX _ _ _) rfl
    ·omega
   | slice _ _ _ _ p hp =>
   rcases fy he2 with ⟨rfl, he3⟩ | ⟨m, rfl, he3⟩
   ·obtain ⟨rfl, rfl⟩ := RV.al he3
    rw [db (P := P) (ty := ty) ht hi S hin (w' := w) (fun b _ => by rw [hns0 rfl]; rfl) (fun _ => rfl)]
    exact .same H (.slice _ _ _ _ p hp) rfl
   ·obtain ⟨el, k, ex, fl, c, hj, hf, hb, he4⟩ := my he3
    obtain ⟨rfl, rfl⟩ := RV.al he4
    obtain ⟨w', r1, r2, r3⟩ := jA (P := P) H hp hj hf S.rel S.one (o := o + n * i.size) hb
    rw [db (P := P) (ty := ty) ht hi S hin (w' := w') (fun b hb => by cases hb; rw [cJ]; exact r1) (by simp)]
    exact ⟨_, w', φ, rfl, .slice _ _ _ _ p hp, r2, r3⟩
 ·obtain ⟨hes', he2⟩ := au he
  have hes' : i.size = es' := Nat.eq_of_beq_eq_true hes'
  subst hes'
  rcases fy he2 with ⟨h0, he3⟩ | ⟨m, h0, he3⟩
  ·obtain ⟨rfl, rfl⟩ := RV.al he3
   cases hs with
   | fN _ _ _ _ cap p a hp h1 h2 h3 h4 h5 h6 =>
   subst h0
   rw [db (P := P) (ty := ty) ht hi S h2 (w' := w) (fun b _ => by rw [hns0 rfl]; rfl) (fun _ => rfl)]
   exact .same H (.fN _ _ _ _ cap p a hp h1 h2 h3 h4 h5 h6) rfl
  ·subst h0
   exact yA H ht hi hz hzs hby hes S (by omega) hs he3
 ·cases hs
  rcases fy he with ⟨rfl, he⟩ | ⟨m, rfl, he⟩
  ·obtain ⟨rfl, rfl⟩ := RV.al he
   rw [db (P := P) (ty := ty) ht hi S (Nat.le_refl 0) (w' := w) (by simp) (fun _ => rfl)]
   exact .same H .ak rfl
  ·exact jB H ht hi hz hzs hby hes S (n := 0) (c := 0) (by omega) (xU.none i.size) he
theorem ln {e : TypeId} (hg : ic P e = true) : ∃ i zv, P.info? e = some i ∧ i.zero = some zv ∧ zv.cells.size = i.size ∧ i.bytes ≤ 1048576 := by
 unfold ic at hg
 split at hg
 ·rename_i i hi
  simp only [Bool.and_eq_true] at hg
  obtain ⟨h1, h2⟩ := hg
  split at h1
  ·rename_i zv hz
   exact ⟨i, zv, hi, hz, by simpa using h1, Nat.le_of_ble_eq_true h2⟩
  ·cases h1
 ·cases hg
theorem Fj {t u ty e f : TypeId} (H : HR φ h w) (hx : VR φ (ev x r) cx) (hy : VR φ (ev y r) cy) (ht : P.underlying t = some (.slice e)) (hu : P.underlying u = some (.slice f)) (hg : ic P e = true) (hes : aY P e ≠ 0)
  (he : tA e (aY P e) x y r h = .ok v h') : Good φ h w v h' ((Builtin.append_ #[t, u] ty #[cx, cy]).run P w) := by
 obtain ⟨i, zv, hi, hz, hzs, hby⟩ := ln hg
 rw [cG hi] at hes he
 unfold tA dW at he
 obtain ⟨m, base, c, rfl, he⟩ := nh hy he
 obtain ⟨hm, he⟩ := au he
 obtain ⟨b, n, c, new, ns, hcy, he, E⟩ := ri (P := P) H hy he
 cases hcy
 exact oJ H ht hi hz hzs hby (by omega) (E.src hu) hx he
theorem fH (φ : aH) : ∀ (s : List UInt8), cn φ (byteCells (s.map UInt8.toNat)) (s.map fun b => Value.int .u8 b.toNat) ∧ ∀ c, c ∈ (s.map fun b => Value.int .u8 b.toNat) → c.oneCell' = true
 | [] => ⟨.nil, by simp⟩
 | b :: s => by
  obtain ⟨h1, h2⟩ := fH φ s
  refine ⟨.cons _ _ _ _ (.int _ _) h1, ?_⟩
  intro c hc
  simp only [List.map_cons, List.mem_cons] at hc
  rcases hc with rfl | hc
  ·rfl
  ·exact h2 c hc
theorem BD {t u ty e : TypeId} (H : HR φ h w) (hx : VR φ (ev x r) cx) (hy : VR φ (ev y r) cy) (ht : P.underlying t = some (.slice e)) (hu : P.underlying u = some .string) (hg : ic P e = true) (hes : aY P e = 1)
  (he : hY e x y r h = .ok v h') : Good φ h w v h' ((Builtin.append_ #[t, u] ty #[cx, cy]).run P w) := by
 obtain ⟨i, zv, hi, hz, hzs, hby⟩ := ln hg
 rw [cG hi] at hes
 obtain ⟨l, el, he⟩ := cw he
 rw [el] at hy
 obtain ⟨s, rfl, rfl⟩ := hy.cX
 obtain ⟨g1, g2⟩ := fH φ s.data.toList
 have S : BB P φ w u i.size s.size (byteCells (s.data.toList.map UInt8.toNat)) (.string s) (s.data.toList.map fun b => Value.int .u8 b.toNat) := by
  refine ⟨⟨_, hu, by simp⟩, rfl, by rw [hes]; simp, g1, g2, fun w' _ => ?_⟩
  simp only [Builtin.firstCells]
  have : s.extract 0 s.size = s := by simp
  rw [this]
  simp only [Sem.run_pure]
  congr 1
  apply Array.ext'
  simp
 have hl : (List.map UInt8.toNat s.data.toList).length = s.size := by simp
 rw [hl, ← hes] at he
 exact oJ H ht hi hz hzs hby (by omega) S.src hx he
variable {P : Program} {φ : aH} {h h' : Hp} {w : World} {v : AV} {x y z : AO} {r : A2} {cx cy : Value}
def Fk (φ : aH) (r : A2) (x : OA) (c : Option Value) : Prop := match x, c with
 | .none, none => True
 | .some x, some c => VR φ (ev x r) c
 | _, _ => False
def MC (c : Option Value) (d b : Nat) : Prop := (c = none ∧ b = d) ∨ ∃ k, c = some (.int k b)
theorem cY {x : OA} {d : Nat} {k : Nat → RV} {q : Nat} {c : Option Value} (hx : Fk φ r x c) (e : fq x d r k (.err q) = .ok v h) : ∃ b, MC c d b ∧ k b = .ok v h := by
 cases x with
 | none =>
  cases c with
  | none => exact ⟨d, .inl ⟨rfl, rfl⟩, e⟩
  | some c => exact hx.elim
 | some x =>
  cases c with
  | none => exact hx.elim
  | some c =>
   obtain ⟨kd, m, em, e⟩ := cW (show dU (ev x r) k (.err q) = .ok v h from e)
   have hx : VR φ (ev x r) c := hx
   rw [em] at hx
   rw [hx.aZ]
   exact ⟨m, .inr ⟨kd, rfl⟩, e⟩
theorem bg {k : IntKind} {b y : Nat} {code : BoundsCode} (h : b ≤ y) : (Instr.sliceBound (.int k b) y code).run P w = .ok b w := by
 simp only [Instr.sliceBound, asIntOf, Sem.run_bind, Sem.run_pure, Result.andThen_ok]
 rw [if_pos ⟨by omega, by omega⟩]
 simp
theorem cq {s : Bool} {len cap : Nat} {lo hi mx : Option Value} {a b m : Nat} (hm : MC mx cap m) (hb : MC hi len b) (ha : MC lo 0 a) (hmh : mx.isSome = true → hi.isSome = true) (h1 : a ≤ b) (h2 : hi.isSome = true → b ≤ m) (h3 : m ≤ cap) :
  (Instr.sliceBounds s len cap lo hi mx).run P w = .ok (a, b, m) w := by
 unfold Instr.sliceBounds
 rcases hm with ⟨rfl, rfl⟩ | ⟨km, rfl⟩
 ·rcases hb with ⟨rfl, rfl⟩ | ⟨kb, rfl⟩
  ·rcases ha with ⟨rfl, rfl⟩ | ⟨ka, rfl⟩
   ·simp
   ·simp [bg h1]
  ·have hbm := h2 rfl
   rcases ha with ⟨rfl, rfl⟩ | ⟨ka, rfl⟩
   ·simp [bg hbm]
   ·simp [bg hbm, bg h1]
 ·rcases hb with ⟨rfl, rfl⟩ | ⟨kb, rfl⟩
  ·simp at hmh
  ·have hbm := h2 rfl
   rcases ha with ⟨rfl, rfl⟩ | ⟨ka, rfl⟩
   ·simp [bg h3, bg hbm]
   ·simp [bg h3, bg hbm, bg h1]
theorem run_slice_any {t e : TypeId} {i : TypeInfo} (ht : P.underlying t = some (.slice e)) (hi : P.info? e = some i) {base : Option Addr} {len cap : Nat} {lo hh mx : Option Value} {a b m : Nat}
  (hb : (Instr.sliceBounds true len cap lo hh mx).run P w = .ok (a, b, m) w) :
  (Instr.sliceAt t (.slice base len cap) lo hh mx).run P w = .ok (.slice (if m = a then base else base.map (·.add (a * i.size))) (b - a) (m - a)) w := by
 simp [Instr.sliceAt, Instr.slice, ai ht, aK hi, hb]
theorem MC.int {c : Option Value} {d b : Nat} (hb : MC c d b) (hc : c.isSome = true) : ∃ k, c = some (.int k b) := by
 rcases hb with ⟨rfl, _⟩ | h
 ·cases hc
 ·exact h
theorem cL {a b : Nat} (e : Nat.ble a b = true) : a ≤ b := Nat.le_of_ble_eq_true e
theorem yB {x : OA} {c : Option Value} (hx : Fk φ r x c) : isSome x = c.isSome := by
 cases x <;> cases c <;> first | rfl | exact hx.elim
theorem HR.room (H : HR φ h w) {i : P4} {p : Place} (hp : φ i = some p) {el n : Nat} {ex : Bool} {fl : Fl} {c : Cl} (hi : ah i h = .cells el n ex fl c) : n ≤ p.room := by
 obtain ⟨q, hq, hor⟩ := H.obj i (hi ▸ aM)
 rw [hp] at hq; cases hq
 rw [hi] at hor
 obtain ⟨rc, fz, g1, g2, g3, g4, g5, g6, g7⟩ := hor
 exact g3
theorem Fm {t e : TypeId} {i : TypeInfo} (H : HR φ h w) (hx : VR φ (ev x r) cx) {lo hi mx : OA} {clo chi cmx : Option Value} (hlo : Fk φ r lo clo) (hhi : Fk φ r hi chi) (hmx : Fk φ r mx cmx) (ht : P.underlying t = some (.slice e)) (hie : P.info? e = some i) (hes : 0 < i.size)
  (hmh : cmx.isSome = true → chi.isSome = true) (he : iA i.size x lo hi mx r h = .ok v h') : Good φ h w v h' ((Instr.sliceAt t cx clo chi cmx).run P w) := by
 rcases dF he with ⟨j, o, n, cap, es, he⟩ | ⟨j, o, n, es', es, he⟩ | ⟨es, he⟩
 ·obtain ⟨m, hm, he⟩ := cY hmx he
  obtain ⟨b, hb, he⟩ := cY hhi he
  obtain ⟨a, ha, he⟩ := cY hlo he
  obtain ⟨h1, he⟩ := au he
  obtain ⟨h2, he⟩ := au he
  obtain ⟨h3, he⟩ := au he
  obtain ⟨rfl, rfl⟩ := RV.al he
  rw [es] at hx
  cases hx with
  | fX _ _ a0 =>
   have l1 := cL h1
   have l2 := cL h2
   have l3 := cL h3
   obtain rfl : m = 0 := by omega
   obtain rfl : b = 0 := by omega
   obtain rfl : a = 0 := by omega
   rw [run_slice_any ht hie (cq hm hb ha hmh (cL h1) (fun _ => cL h2) (cL h3))]
   exact .same H (.fX _ _ _) (by rw [if_pos rfl])
  | slice _ _ _ _ p hp =>
  rw [run_slice_any ht hie (cq hm hb ha hmh (cL h1) (fun _ => cL h2) (cL h3))]
  by_cases hma : m = a
  ·subst hma
   refine .same H ?_ (by rw [if_pos rfl])
   have : Nat.beq m m = true := Nat.beq_refl m
   rw [this]
   exact .slice _ _ _ _ p hp
  ·refine .same H ?_ (by rw [if_neg hma])
   have : Nat.beq m a = false := by
    cases hb : Nat.beq m a
    ·rfl
    ·exact absurd (Nat.eq_of_beq_eq_true hb) hma
   rw [this]
   show VR φ (.slice j (o + a * i.size) (b - a) (m - a)) _
   simp only [Option.map_some, cJ]
   exact .slice _ _ _ _ p hp
 ·obtain ⟨hes', he2⟩ := au he
  have hes' : i.size = es' := Nat.eq_of_beq_eq_true hes'
  clear he
  subst hes'
  obtain ⟨b, hb, he3⟩ := cY hhi he2
  obtain ⟨a, ha, he4⟩ := cY hlo he3
  rw [es] at hx
  cases hx with
  | fN _ _ _ _ cap p ad hp h1 h2 h3 h4 h5 h6 =>
  have hs := yB hmx
  rcases fc he4 with ⟨hn, he5⟩ | ⟨hn, he5⟩
  ·obtain ⟨hab, he6⟩ := au he5
   obtain ⟨el, k, ex, fl, c, hj, he7⟩ := aP he6
   obtain ⟨hbk, he8⟩ := au he7
   obtain ⟨rfl, rfl⟩ := RV.al he8
   have hab := cL hab
   have hbk : o + b * i.size ≤ k := cL hbk
   have hroom := H.room hp hj
   have hcap : b ≤ cap := Nat.le_of_mul_le_mul_right (show b * i.size ≤ cap * i.size by omega) hes
   have hnone : cmx = none := by
    rw [hn] at hs; cases cmx
    ·rfl
    ·cases hs
   subst hnone
   rw [run_slice_any ht hie (cq (.inl ⟨rfl, rfl⟩) hb ha (by simp) hab (fun _ => hcap) (Nat.le_refl _))]
   refine .same H ?_ rfl
   have hsub : (cap - a) * i.size = cap * i.size - a * i.size := Nat.sub_mul _ _ _
   have hle : a * i.size ≤ cap * i.size := Nat.mul_le_mul_right _ (by omega)
   by_cases hca : cap = a
   ·rw [if_pos hca]
    exact .fN j (o + a * i.size) (b - a) i.size (cap - a) p ad hp (by omega) (by omega) h3 h4 (fun hc => absurd (by omega : cap - a = 0) hc) h6
   ·rw [if_neg hca, gJ h3 h4 h5 (by omega)]
    simp only [Option.map_some, cJ]
    exact .fN j (o + a * i.size) (b - a) i.size (cap - a) p (p.addr (o + a * i.size)) hp (by omega) (by omega) rfl rfl (fun _ => rfl) h6
  ·obtain ⟨m, hm, he6⟩ := cY hmx he5
   obtain ⟨hab, he7⟩ := au he6
   obtain ⟨hbm, he8⟩ := au he7
   obtain ⟨el, k, ex, fl, c, hj, he9⟩ := aP he8
   obtain ⟨hbk, he10⟩ := au he9
   obtain ⟨rfl, rfl⟩ := RV.al he10
   have hab := cL hab
   obtain ⟨hm1, hbm⟩ := Bool.and_eq_true_iff.1 hbm
   have hbm := cL hbm
   have hm1 := cL hm1
   have hbk : o + m * i.size ≤ k := cL hbk
   have hroom := H.room hp hj
   have hcap : m ≤ cap := Nat.le_of_mul_le_mul_right (show m * i.size ≤ cap * i.size by omega) hes
   have hsome : cmx.isSome = true := by rw [← hs]; exact hn
   obtain ⟨km, rfl⟩ := hm.int hsome
   rw [run_slice_any ht hie (cq (.inr ⟨km, rfl⟩) hb ha hmh hab (fun _ => hbm) hcap)]
   have had := gJ h3 h4 h5 (by omega)
   subst had
   by_cases hma : m = a
   ·subst hma
    refine .same H ?_ (by rw [if_pos rfl])
    have : Nat.beq m m = true := Nat.beq_refl m
    rw [this]
    exact .slice _ _ _ _ p hp
   ·refine .same H ?_ (by rw [if_neg hma])
    have : Nat.beq m a = false := by
     cases hb : Nat.beq m a
     ·rfl
     ·exact absurd (Nat.eq_of_beq_eq_true hb) hma
    rw [this]
    show VR φ (.slice j (o + a * i.size) (b - a) (m - a)) _
    simp only [Option.map_some, cJ]
    exact .slice _ _ _ _ p hp
 ·obtain ⟨m, hm, he⟩ := cY hmx he
  obtain ⟨b, hb, he⟩ := cY hhi he
  obtain ⟨a, ha, he⟩ := cY hlo he
  obtain ⟨h1, he⟩ := au he
  obtain ⟨rfl, rfl⟩ := RV.al he
  rw [es] at hx
  cases hx
  have h0 : m + (a + b) = 0 := Nat.eq_of_beq_eq_true h1
  have hm0 : m = 0 := by omega
  have ha0 : a = 0 := by omega
  have hb0 : b = 0 := by omega
  subst hm0 ha0 hb0
  rw [run_slice_any ht hie (cq hm hb ha hmh (Nat.le_refl _) (fun _ => Nat.le_refl _) (Nat.le_refl _))]
  exact .same H .ak (by simp)
theorem BE {t e : TypeId} {i : TypeInfo} {n : Nat} (H : HR φ h w) (hx : VR φ (ev x r) cx) {lo hi mx : OA} {clo chi cmx : Option Value} (hlo : Fk φ r lo clo) (hhi : Fk φ r hi chi) (hmx : Fk φ r mx cmx) (ht : P.underlying t = some (.array n e)) (hie : P.info? e = some i)
  (hmh : cmx.isSome = true → chi.isSome = true) (he : jc n i.size x lo hi mx r h = .ok v h') : Good φ h w v h' ((Instr.sliceAt t cx clo chi cmx).run P w) := by
 obtain ⟨j, o, es, he⟩ := cA he
 obtain ⟨m, hm, he⟩ := cY hmx he
 obtain ⟨b, hb, he⟩ := cY hhi he
 obtain ⟨a, ha, he⟩ := cY hlo he
 obtain ⟨h1, he⟩ := au he
 obtain ⟨h2, he⟩ := au he
 obtain ⟨h3, he⟩ := au he
 obtain ⟨rfl, rfl⟩ := RV.al he
 rw [es] at hx
 obtain ⟨p, hp, rfl⟩ := hx.eX
 have hbd := cq (P := P) (w := w) (s := false) hm hb ha hmh (cL h1) (fun _ => cL h2) (cL h3)
 have hrun : (Instr.sliceAt t (.pointer (some (p.addr o))) clo chi cmx).run P w = .ok (.slice (some (if m = a then p.addr o else (p.addr o).add (a * i.size))) (b - a) (m - a)) w := by
  simp [Instr.sliceAt, ai ht, aK hie, Instr.sureAddr, hbd]
 rw [hrun]
 by_cases hma : m = a
 ·subst hma
  refine .same H ?_ (by rw [if_pos rfl])
  have : Nat.beq m m = true := Nat.beq_refl m
  rw [this]
  exact .slice _ _ _ _ p hp
 ·refine .same H ?_ (by rw [if_neg hma])
  have : Nat.beq m a = false := by
   cases hb : Nat.beq m a
   ·rfl
   ·exact absurd (Nat.eq_of_beq_eq_true hb) hma
  rw [this]
  show VR φ (.slice j (o + a * i.size) (b - a) (m - a)) _
  rw [cJ]
  exact .slice _ _ _ _ p hp
theorem BF {t : TypeId} (H : HR φ h w) (hx : VR φ (ev x r) cx) {lo hi : OA} {clo chi : Option Value} (hlo : Fk φ r lo clo) (hhi : Fk φ r hi chi) (ht : P.underlying t = some .string)
  (he : eO x lo hi r h = .ok v h') : Good φ h w v h' ((Instr.sliceAt t cx clo chi none).run P w) := by
 obtain ⟨s, es, he⟩ := cw he
 obtain ⟨b, hb, he⟩ := cY hhi he
 obtain ⟨a, ha, he⟩ := cY hlo he
 obtain ⟨h1, he⟩ := au he
 obtain ⟨h2, he⟩ := au he
 obtain ⟨rfl, rfl⟩ := RV.al he
 rw [es] at hx
 obtain ⟨s, rfl, rfl⟩ := hx.cX
 have hl : (List.map UInt8.toNat s.data.toList).length = s.size := by simp
 rw [hl] at hb h2
 have hbd := cq (P := P) (w := w) (s := false) (mx := none) (.inl ⟨rfl, rfl⟩) hb ha (by simp) (cL h1) (fun _ => cL h2) (Nat.le_refl _)
 refine .same H (cv := .string (s.extract a b)) (.str _ _ ?_) ?_
 ·show List.take (b - a) (List.drop a (List.map UInt8.toNat s.data.toList)) = _
  rw [ByteArray.data_extract, Array.toList_extract, List.extract_eq_take_drop, List.map_take, List.map_drop]
 ·simp [Instr.sliceAt, Instr.slice, ai ht, hbd]
variable {P : Program} {φ : aH} {h h' : Hp} {w : World} {v : AV} {x y z : AO} {r : A2} {cx cy : Value}
theorem mY (a : AV) (l : List AV) (k : List Nat → RV) (e : RV) : eU (a :: l) k e = AV.dm a (fun kd n => @Bool.rec (fun _ => RV) e (@Int.rec (fun _ => RV) (fun m => @Bool.rec (fun _ => RV) e (eU l (fun s => k (m :: s)) e) (Nat.ble m 255)) (fun _ => e) n) (Nk kd)) e := rfl
theorem jC : ∀ {l : List AV} {k : List Nat → RV} {q : Nat}, eU l k (.err q) = .ok v h → ∃ bs : List UInt8, l = byteCells (bs.map UInt8.toNat) ∧ k (bs.map UInt8.toNat) = .ok v h
 | [], k, q, e => ⟨[], rfl, e⟩
 | a :: l, k, q, e => by
  rw [mY] at e
  obtain ⟨kd, n, rfl, e⟩ := bB e
  obtain ⟨hk, e⟩ := au e
  have hk : kd = .u8 := by cases kd <;> first | rfl | cases hk
  subst hk
  cases n with
  | negSucc m => cases e
  | ofNat m =>
   obtain ⟨hm, e⟩ := au e
   have hm := cL hm
   obtain ⟨bs, rfl, e2⟩ := jC (l := l) (k := fun s => k (m :: s)) (q := q) e
   have hmm : (UInt8.ofNat m).toNat = m := by simp; omega
   refine ⟨UInt8.ofNat m :: bs, ?_, ?_⟩
   ·simp only [List.map_cons, hmm]; rfl
   ·simp only [List.map_cons, hmm]; exact e2
theorem lR {bs : List UInt8} {ns : List Value} (hv : cn φ (byteCells (bs.map UInt8.toNat)) ns) : ns = bs.map fun b => Value.int .u8 b.toNat := by
 induction bs generalizing ns with
 | nil => cases hv; rfl
 | cons b bs ih =>
  cases hv with
  | cons _ c _ cs h1 h2 => rw [h1.aZ, ih h2]; rfl
theorem Fo {a : AV} (H : HR φ h w) (hx : VR φ a cx) {s d e : TypeId} (hs : P.underlying s = some (.slice e)) (he : P.underlying e = some (.int .u8)) (hd : P.underlying d = some .string) (ho : Fp a h = .ok v h') :
  Good φ h w v h' ((convert s d cx).run P w) := by
 obtain ⟨b, n, c, new, ns, rfl, ho, E⟩ := ri (P := P) H hx ho
 obtain ⟨bs, rfl, ho2⟩ := jC ho
 obtain ⟨rfl, rfl⟩ := RV.al ho2
 have hns := lR E.rel
 subst hns
 have hn : bs.length = n := by simpa using E.size
 refine .same H (cv := .string ⟨bs.toArray⟩) (.str _ _ (by simp)) ?_
 rw [run_convert_bytes_string w s d e b n c hs he hd]
 have hc := E.cells w rfl
 cases b with
 | none =>
  simp only [Builtin.firstCells, Sem.run_pure] at hc
  have : bs = [] := by
   have := (Result.ok.inj hc).1
   cases bs
   ·rfl
   ·simp at this
  subst this
  rfl
 | some a =>
  simp only [Builtin.firstCells, Nat.mul_one] at hc
  have hc' : (loadCells a n).run P w = .ok ((bs.map fun b => (b.toNat : Int)).map (Value.int .u8)).toArray w := by
   rw [hc, List.map_map]; rfl
  rw [run_bytesToString w a n c _ hc', foldl_push_byteCells]
  simp
theorem Fq {a : AV} (H : HR φ h w) (hx : VR φ a cx) {s d e : TypeId} (hs : P.underlying s = some .string) (he : P.underlying e = some (.int .u8)) (hd : P.underlying d = some (.slice e)) (ho : Km e a h = .ok v h') :
  Good φ h w v h' ((convert s d cx).run P w) := by
 obtain ⟨l, rfl, ho⟩ := cw ho
 obtain ⟨b, rfl, rfl⟩ := hx.cX
 obtain ⟨hr, hn, ho⟩ := jy ho
 obtain ⟨rfl, rfl⟩ := RV.al ho
 rw [run_bytes_of_string w s d e b hs hd he]
 obtain ⟨g1, g2⟩ := fH φ b.data.toList
 have hl : (byteCells (b.data.toList.map UInt8.toNat)).length = b.size := by rw [g1.length]; simp
 have hcap : b.size ≤ grownCap w b.size 0 e := by simp [grownCap, Question.cut]
 have hsz : (bytesRow b (grownCap w b.size 0 e)).size = grownCap w b.size 0 e := by simp [bytesRow]; omega
 generalize hrow : bytesRow b (grownCap w b.size 0 e) = row at hsz ⊢
 generalize hcp : grownCap w b.size 0 e = cp at *
 have hfl : Bt .mark (row.size, row.size + 1) row.size := by intro k hk; simp; omega
 obtain ⟨k1, k2⟩ := H.qV (n' := h.next.succ) (w' := w.drew.alloc (.cells row e (row.size, row.size + 1))) hn (rc := row) (el := e) (n := (byteCells (b.data.toList.map UInt8.toNat)).length) (ex := false) (fl := .mark) (fz := (row.size, row.size + 1))
  (c := mJ (byteCells (b.data.toList.map UInt8.toNat))) (by rw [hl, hsz]; exact hcap) (by simp) hr (fun k hk => by
   have hk' : k < (b.data.toList.map fun b => Value.int .u8 b.toNat).length := by rw [← g1.length]; exact hk
   refine ⟨(b.data.toList.map fun b => Value.int .u8 b.toNat)[k], ?_, ?_, g2 _ (List.getElem_mem _)⟩
   ·rw [← hrow, bytesRow, Array.getElem?_append_left (by simpa using hk')]
    simp only [List.length_map, Array.length_toList] at hk'
    rw [Array.getElem?_map, Array.getElem?_eq_getElem hk']
    simp
   ·rw [eu _ hr k hk]; exact g1.get k hk hk') hfl rfl rfl rfl rfl
 refine ⟨_, _, _, rfl, ?_, k1, k2⟩
 have hll : (List.map UInt8.toNat b.data.toList).length = b.size := by simp
 rw [hll]
 exact .fN _ 0 b.size 1 cp ⟨w.heap.size, 0, _⟩ ⟨w.heap.size, 0, none⟩ (aH.aI _ _ _) (by simp only; omega) hcap rfl rfl (fun _ => rfl) (by omega)
theorem rk (H : HR φ h w) {s : AV} {base : Option Addr} {n c : Nat} (hs : VR φ s (.slice base n c)) {l : List AV} {vs : List Value} (hl : cn φ l vs) (h1 : ∀ c, c ∈ vs → c.oneCell' = true) (hn : n = 0 → l = []) {k : Hp → RV} (e : wV l s h k = .ok v h') :
  ∃ w' h2, k h2 = .ok v h' ∧ (∀ a, base = some a → (storeCells a vs).run P w = .ok () w') ∧ (base = none → w' = w) ∧ HR φ h2 w' ∧ Step φ h w φ h2 w' := by
 cases hl with
 | nil => exact ⟨w, h, e, fun a _ => rfl, fun _ => rfl, H, .refl _ _ _⟩
 | cons a cv as cvs ha has =>
  have hn0 : n ≠ 0 := fun h0 => by cases hn h0
  have e : AV.jZ s (fun i o _ _ => jo i o (a :: as) h k) (fun i o _ _ => jo i o (a :: as) h k) (RV.err 93) (RV.err 93) = RV.ok v h' := e
  rcases dF e with ⟨i, o, l, c, rfl, e2⟩ | ⟨i, o, l, c, rfl, e2⟩ | ⟨rfl, e2⟩
  ·obtain ⟨el, k', ex, fl, c, hj, hf, hb, e3⟩ := my e2
   cases hs with
   | fX _ _ _ => exact absurd rfl hn0
   | slice _ _ _ _ p hp =>
   obtain ⟨w', r1, r2, r3⟩ := jA (P := P) H hp hj hf (.cons a cv as cvs ha has) h1 (o := o) hb
   exact ⟨w', _, e3, fun b hb => by cases hb; exact r1, by simp, r2, r3⟩
  ·obtain ⟨el, k', ex, fl, c, hj, hf, hb, e3⟩ := my e2
   cases hs with
   | fN _ _ _ _ cap p ad hp g1 g2 g3 g4 g5 g6 =>
   obtain ⟨w', r1, r2, r3⟩ := jA (P := P) H hp hj hf (.cons a cv as cvs ha has) h1 (o := o) hb
   exact ⟨w', _, e3, fun b hb => by cases hb; rw [gJ g3 g4 g5 (by omega)]; exact r1, by simp, r2, r3⟩
  ·cases e2
theorem cn.take : ∀ {as : List AV} {vs : List Value} (n : Nat), cn φ as vs → cn φ (as.take n) (vs.take n)
 | _, _, 0, _ => by simpa using cn.nil
 | _, _, n + 1, .nil => .nil
 | _, _, n + 1, .cons _ _ _ _ e es => .cons _ _ _ _ e (cn.take n es)
theorem Fs {ts : Array TypeId} {ty t e : TypeId} {i : TypeInfo} (hts : ts[0]? = some t) (H : HR φ h w) (hx : VR φ (ev x r) cx) (hy : VR φ (ev y r) cy) (ht : P.underlying t = some (.slice e)) (hi : P.info? e = some i) (hes : 0 < i.size)
  (he : tD i.size x y r h = .ok v h') : Good φ h w v h' ((Builtin.copy_ ts ty #[cx, cy]).run P w) := by
 unfold tD Nl at he
 obtain ⟨n, base, c, rfl, he⟩ := nh hx he
 have hrun : ∀ {m : Nat} {arr : List Value} {w' : World}, (Builtin.lenOf cy).run P w = .ok m w → (Builtin.firstCells i.size (Nat.min m n) cy).run P w = .ok arr.toArray w → (∀ a, base = some a → (storeCells a arr).run P w = .ok () w') → (base = none → w' = w) →
   (Builtin.copy_ ts ty #[.slice base n c, cy]).run P w = .ok (goInt (Nat.min m n)) w' := by
  intro m arr w' h1 h2 h3 h4
  cases base with
  | none =>
   rw [h4 rfl]
   simp [Builtin.copy_, hts, ai ht, h1, aK hi, h2]
  | some a =>
   simp [Builtin.copy_, hts, ai ht, h1, aK hi, h2, h3 a rfl]
 have hcase : (∃ s, ev y r = .str s) ∨ (∀ s, ev y r ≠ .str s) := by
  cases ev y r <;> first | exact .inl ⟨_, rfl⟩ | exact .inr fun s => by simp
 rcases hcase with ⟨s, es⟩ | hns
 ·rw [es] at he hy
  obtain ⟨b, rfl, rfl⟩ := hy.cX
  obtain ⟨g1, g2⟩ := fH φ (b.data.toList.take n)
  rw [List.map_take] at g1
  obtain ⟨hsz, he⟩ := au he
  have hsz := Nat.eq_of_beq_eq_true hsz
  obtain ⟨w', h2, he2, r1, r2, r3, r4⟩ := rk (P := P) H hx g1 g2 (fun h0 => by rw [h0]; rfl) he
  obtain ⟨rfl, rfl⟩ := RV.al he2
  rw [hrun (m := b.size) rfl (by
   simp only [Builtin.firstCells, Sem.run_pure]
   congr 1
   apply Array.ext'
   rw [Array.toList_map, ByteArray.data_extract, Array.toList_extract, List.extract_eq_take_drop]
   simp only [List.drop_zero, Nat.sub_zero]
   congr 1
   show List.take (min b.size n) b.data.toList = _
   rw [List.take_eq_take_iff]
   simp
   have : b.size = b.data.size := rfl
   omega) r1 r2]
  refine ⟨_, w', φ, rfl, ?_, r3, r4⟩
  have hll : (List.map UInt8.toNat b.data.toList).length = b.size := by simp
  rw [hll]
  exact .int _ _
 ·have he2 : pw (ev y r) (fun m => elems i.size (ev y r) h (fun l => wV (List.take (Nat.mul n i.size) l) (ev x r) h (fun h => .ok (iR (Nat.min m n)) h)) (.err 94)) (.err 94) = .ok v h' := by
   revert he hns
   cases ev y r <;> intro he hns <;> first | exact he | exact absurd rfl (hns _)
  obtain ⟨m, b2, c2, rfl, he3⟩ := nh hy he2
  obtain ⟨b, m', c3, new, ns, hcy, he4, E⟩ := ri (P := P) H hy he3
  cases hcy
  have hrel := E.rel.take (Nat.mul n i.size)
  obtain ⟨w', h2, he5, r1, r2, r3, r4⟩ := rk (P := P) H hx hrel (fun c hc => E.one c (List.mem_of_mem_take hc)) (fun h0 => by rw [h0]; simp) he4
  obtain ⟨rfl, rfl⟩ := RV.al he5
  have hpre := E.pre (Nat.min m n) (Nat.min_le_left _ _)
  have htk : List.take (Nat.min m n * i.size) ns = List.take (Nat.mul n i.size) ns := by
   rw [List.take_eq_take_iff, E.size]
   show min (min m n * i.size) (m * i.size) = min (n * i.size) (m * i.size)
   rcases Nat.le_total m n with g | g
   ·rw [Nat.min_eq_left g, Nat.min_self, Nat.min_eq_right (Nat.mul_le_mul_right _ g)]
   ·rw [Nat.min_eq_right g]
  rw [htk] at hpre
  rw [hrun (m := m) rfl hpre r1 r2]
  exact ⟨_, w', φ, rfl, .int _ _, r3, r4⟩
variable {P : Program} {φ : aH} {h h' : Hp} {w : World} {v : AV} {x y z : AO} {r : A2} {cx cy : Value}
theorem oK (z : List AV) : fj 0 z = [] := rfl
theorem tF (n : Nat) (z : List AV) : fj (n + 1) z = z ++ fj n z := rfl
theorem fS : ∀ (n : Nat) (z : List AV), (fj n z).length = n * z.length
 | 0, z => by rw [oK]; simp
 | n + 1, z => by rw [tF, List.length_append, fS n z, Nat.add_mul]; omega
theorem np : ∀ (n : Nat) (z : List AV) (k : Nat) (hk : k < (fj n z).length) (hz : k % z.length < z.length), (fj n z)[k] = z[k % z.length]
 | 0, z, k, hk, _ => by rw [oK] at hk; simp at hk
 | n + 1, z, k, hk, hz => by
  by_cases h1 : k < z.length
  ·have : (fj (n + 1) z)[k] = z[k] := List.getElem_append_left h1
   rw [this]
   congr 1
   exact (Nat.mod_eq_of_lt h1).symm
  ·have h2 : k - z.length < (fj n z).length := by
    rw [tF, List.length_append] at hk; omega
   have : (fj (n + 1) z)[k] = (fj n z)[k - z.length] := List.getElem_append_right (by omega)
   have hmod : (k - z.length) % z.length = k % z.length := (Nat.mod_eq_sub_mod (by omega)).symm
   rw [this, np n z _ h2 (by rw [hmod]; exact hz)]
   congr 1
theorem eB {z : List AV} {zc : Array Value} (hz : cn φ z zc.toList) (h1 : ∀ c, c ∈ zc.toList → c.oneCell' = true) (n m : Nat) (hm : m = n * zc.size) :
  cn φ (fj n z) ((Array.range m).map (zc[· % zc.size]!)).toList ∧ ∀ c, c ∈ ((Array.range m).map (zc[· % zc.size]!)).toList → c.oneCell' = true := by
 have hl : z.length = zc.size := by rw [hz.length]; simp
 have hpos : ∀ k, k < m → k % zc.size < zc.size := fun k hk => Nat.mod_lt _ (by
  rcases Nat.eq_zero_or_pos zc.size with g | g
  ·rw [g, Nat.mul_zero] at hm; omega
  ·exact g)
 refine ⟨cn.yu (by rw [fS, hl]; simp [hm]) fun k hk hk' => ?_, fun c hc => ?_⟩
 ·have hkm : k < m := by rw [fS, hl] at hk; omega
  have hp := hpos k hkm
  rw [np n z k hk (by rw [hl]; exact hp)]
  have hp' : k % z.length < zc.toList.length := by rw [hl]; simpa using hp
  have := hz.get (k % z.length) (by rw [hl]; exact hp) hp'
  have he : ((Array.range m).map (zc[· % zc.size]!)).toList[k] = zc.toList[k % z.length] := by
   simp only [Array.getElem_toList, Array.getElem_map, Array.getElem_range]
   rw [getElem!_pos zc (k % zc.size) hp]
   congr 1
   rw [hl]
  rw [he]
  exact this
 ·rw [Array.toList_map] at hc
  simp only [List.mem_map, Array.mem_toList_iff, Array.mem_range] at hc
  obtain ⟨k, hk, rfl⟩ := hc
  have hp := hpos k hk
  rw [getElem!_pos zc (k % zc.size) hp]
  exact h1 _ (by simp)
theorem fT {t : TypeId} {z : List AV} (hz : fJ P t = some z) (φ : aH) : ∃ i zv, P.info? t = some i ∧ i.zero = some zv ∧ cn φ z zv.cells.toList ∧ ∀ c, c ∈ zv.cells.toList → c.oneCell' = true := by
 unfold fJ at hz
 simp only [Option.bind_eq_some_iff] at hz
 obtain ⟨zv, ⟨inf, hinf, hzv⟩, hl⟩ := hz
 obtain ⟨g1, g2⟩ := ll φ hl
 exact ⟨inf, zv, hinf, hzv, g1, g2⟩
theorem Ft {ts : Array TypeId} {ty t e : TypeId} (hts : ts[0]? = some t) (H : HR φ h w) (hx : VR φ (ev x r) cx) (ht : P.underlying t = some (.slice e)) {zs : List AV} (hz : fJ P e = some zs)
  (he : tH zs x r h = .ok v h') : Good φ h w v h' ((Builtin.clear_ ts ty #[cx]).run P w) := by
 unfold tH Nm at he
 obtain ⟨n, base, c, rfl, he2⟩ := nh hx he
 obtain ⟨i, zv, hi, hzv, g1, g2⟩ := fT hz φ
 obtain ⟨k1, k2⟩ := eB g1 g2 n _ rfl
 obtain ⟨w', h2, he3, r1, r2, r3, r4⟩ := rk (P := P) H hx k1 k2 (fun h0 => by rw [h0, oK]) he2
 obtain ⟨rfl, rfl⟩ := RV.al he3
 have hv : VR φ cu (.tuple #[]) := .ku [] [] .nil
 have hrun : (Builtin.clear_ ts ty #[.slice base n c]).run P w = .ok (.tuple #[]) w' := by
  cases base with
  | none =>
   rw [r2 rfl]
   simp [Builtin.clear_, hts, ai ht]
  | some a =>
   have hr1 := r1 a rfl
   cases n with
   | zero =>
    have hw : w' = w := by
     have : ((Array.range (0 * zv.cells.size)).map (zv.cells[· % zv.cells.size]!)).toList = [] := by simp
     rw [this] at hr1
     simp [storeCells] at hr1
     exact hr1.symm
    rw [hw]
    simp [Builtin.clear_, hts, ai ht]
   | succ n =>
    have hr2 : (storeCells a (Builtin.zeroCells zv.cells (n + 1)).toList).run P w = .ok () w' := hr1
    simp [Builtin.clear_, hts, ai ht, zeroValue, bD hi, hzv, hr2]
 rw [hrun]
 exact ⟨_, w', φ, rfl, hv, r3, r4⟩
theorem lS (H : HR φ h w) {l : List AV} {vs : List Value} (hl : cn φ l vs) (h1 : ∀ c, c ∈ vs → c.oneCell' = true) {el n c : Nat} (e : gO el true .plain l.length (mJ l) h (fun i h => .ok (.slice i 0 n c) h) = .ok v h') :
  Good φ h w v h' (.ok (.slice (some ⟨w.heap.size, 0, none⟩) n c) { w with heap := w.heap.push (.cells vs.toArray el) }) := by
 obtain ⟨hr, hi, e⟩ := jy e
 obtain ⟨rfl, rfl⟩ := RV.al e
 obtain ⟨g1, g2⟩ := H.zV (n' := h.next.succ) hi hl h1 (el := el) hr (fun k hk => eu l hr k hk)
 refine ⟨_, _, _, rfl, ?_, g1, g2⟩
 have := VR.slice (φ := φ.put h.next ⟨w.heap.size, 0, vs.length⟩) h.next 0 n c _ (aH.aI _ _ _)
 simpa [Place.addr] using this
theorem iT {G : Gl} {n : Nat} {place : Nat → Option (Nat × Nat)} {ρ : Operand → Value} : ∀ {qs : List (Nat × Operand)} {ps : List Part}, nV G n place qs = some ps → (∀ q, q ∈ qs → ∀ a, cO G q.2 = some a → VR φ (ev a r) (ρ q.2)) →
  ps.length = qs.length ∧ (∀ k (h1 : k < ps.length) (h2 : k < (qs.map fun q => (q.1, ρ q.2)).length), qY φ r place ps[k] (qs.map fun q => (q.1, ρ q.2))[k]) ∧ ∀ p, p ∈ ps → match p with | .mk off sz _ => off + sz ≤ n
 | [], ps, e, _ => by
  simp [nV] at e; subst e; simp
 | (i, o) :: qs, ps, e, hv => by
  unfold nV at e
  simp only [List.mapM_cons, Option.pure_def, Option.bind_eq_bind, Option.bind_eq_some_iff, Option.some.injEq] at e
  obtain ⟨p, ⟨⟨off, sz⟩, hpl, hp⟩, ps', hps, rfl⟩ := e
  obtain ⟨g1, g2, g3⟩ := iT (qs := qs) hps (fun q hq => hv q (by simp [hq]))
  simp only at hp
  split at hp
  ·rename_i hle
   simp only [Option.bind_eq_some_iff, Option.some.injEq] at hp
   obtain ⟨a, ha, rfl⟩ := hp
   refine ⟨by simp [g1], fun k h1 h2 => ?_, fun p hp => ?_⟩
   ·match k with
    | 0 => exact ⟨hpl, hv (i, o) (by simp) a ha⟩
    | k + 1 => exact g2 k (by simpa using h1) (by simpa using h2)
   ·rcases List.mem_cons.1 hp with rfl | hp
    ·exact hle
    ·exact g3 p hp
  ·cases hp
theorem rl {t : TypeId} {zs : List AV} (H : HR φ h w) (hz : fJ P t = some zs) {place : Nat → Option (Nat × Nat)} {ps : List Part} {qs : List (Nat × Value)} (hl : ps.length = qs.length) (hp : ∀ k (h1 : k < ps.length) (h2 : k < qs.length), qY φ r place ps[k] qs[k])
  (hb : ∀ p, p ∈ ps → match p with | .mk off sz _ => off + sz ≤ zs.length) (ht : (∃ fs, P.underlying t = some (.struct fs) ∧ (∀ f, f ∈ fs → (P.info? f.type).isSome = true) ∧ place = (fun i => (fs[i]?).map fun f => (f.offset, aY P f.type))) ∨
   (∃ n e, P.underlying t = some (.array n e) ∧ (P.info? e).isSome = true ∧ place = fun i => some (i * aY P e, aY P e)))
  (he : jg zs ps r h = .ok v h') : Good φ h w v h' ((Instr.build t qs.toArray).run P w) := by
 obtain ⟨hf, he⟩ := au he
 obtain ⟨rfl, rfl⟩ := RV.al he
 obtain ⟨i, zv, hi, hzv, g1, g2⟩ := fT hz φ
 obtain ⟨es, f1, f2, f3⟩ := qZ ps qs zs zv.cells.toList hl hp hf (fun p hp' => by have := hb p hp'; rw [g1.length] at this; exact this) g1 g2
 refine .same H (cv := .agg es.toArray) (.agg _ _ f2 f3) ?_
 rcases ht with ⟨fs, ht, hfs, rfl⟩ | ⟨n, e, ht, hei, rfl⟩
 ·have hm : ∀ (l : List Field), (∀ f, f ∈ l → (P.info? f.type).isSome = true) → (l.mapM fun f => Prod.mk f.offset <$> sizeOf f.type).run P w = .ok (l.map fun f => (f.offset, aY P f.type)) w := by
   intro l
   induction l with
   | nil => intro _; rfl
   | cons f l ih =>
    intro hl
    obtain ⟨inf, hinf⟩ := Option.isSome_iff_exists.1 (hl f (by simp))
    simp [List.mapM_cons, aK hinf, ih (fun g hg => hl g (by simp [hg])), cG hinf]
  have hma := hm fs.toList (fun f hf => hfs f (by simpa using hf))
  have hplace : (fun (i : Nat) => (fs.toList.map fun (f : Field) => (f.offset, aY P f.type)).toArray[i]?) = fun (i : Nat) => (fs[i]?).map fun (f : Field) => (f.offset, aY P f.type) := by
   funext i; simp
  have f1' : Instr.fill (fun (i : Nat) => (fs.toList.map fun (f : Field) => (f.offset, aY P f.type)).toArray[i]?) zv.cells qs = some es.toArray := by rw [hplace]; simpa using f1
  simp [Instr.build, zeroValue, bD hi, hzv, ai ht, Array.mapM_eq_mapM_toList, hma]
  simp at f1'
  simp [f1']
 ·obtain ⟨inf, hinf⟩ := Option.isSome_iff_exists.1 hei
  rw [cG hinf] at f1
  have f1' : Instr.fill (fun i => some (i * inf.size, inf.size)) zv.cells qs = some es.toArray := by simpa using f1
  simp [Instr.build, zeroValue, bD hi, hzv, ai ht, aK hinf, f1']
theorem kP : ∀ (ps : List Part) (l : List AV), (fill ps r l).length = l.length
 | [], _ => rfl
 | .mk off sz x :: ps, l => by
  rw [tz]
  simp only
  rw [kP ps]
  have : ∀ (as : List AV) (i : Nat) (l : List AV), (lP as i l).length = l.length := by
   intro as
   induction as with
   | nil => intro i l; rfl
   | cons a as ih => intro i l; rw [qW, ih, uP]; simp
  exact this _ _ _
theorem wW {t e : TypeId} {zs : List AV} (H : HR φ h w) (ht : P.underlying t = some (.slice e)) (hz : fJ P e = some zs) (hzl : zs.length = aY P e) (hes : aY P e ≠ 0) {n : Nat} {ps : List Part} {qs : List (Nat × Value)} (hl : ps.length = qs.length)
  (hp : ∀ k (h1 : k < ps.length) (h2 : k < qs.length), qY φ r (fun i => some (i * aY P e, aY P e)) ps[k] qs[k])
  (hb : ∀ p, p ∈ ps → match p with | .mk off sz _ => off + sz ≤ n * aY P e) (he : fI e (aY P e) n (fj n zs) ps r h = .ok v h') :
  Good φ h w v h' ((Instr.buildSlice t n qs.toArray).run P w) := by
 obtain ⟨hf, he⟩ := au he
 obtain ⟨i, zv, hi, hzv, g1, g2⟩ := fT hz φ
 rw [cG hi] at hzl hes hp hb
 have hzs : zv.cells.size = i.size := by rw [← hzl, g1.length]; simp
 obtain ⟨k1, k2⟩ := eB g1 g2 n (n * i.size) (by rw [hzs])
 have hlen : ((Array.range (n * i.size)).map (zv.cells[· % zv.cells.size]!)).toList.length = n * i.size := by simp
 obtain ⟨es, f1, f2, f3⟩ := qZ ps qs (fj n zs) ((Array.range (n * i.size)).map (zv.cells[· % zv.cells.size]!)).toList hl hp hf (fun p hp' => by have := hb p hp'; rw [hlen]; exact this) k1 k2
 have hcr := pT he
 rw [kP, fS, hzl] at hcr
 have := lS H f2 f3 he
 have hrun : (Instr.buildSlice t n qs.toArray).run P w = .ok (.slice (some ⟨w.heap.size, 0, none⟩) n n) { w with heap := w.heap.push (.cells es.toArray e) } := by
  have hbig : ¬ (16777216 < n * i.size) := by omega
  by_cases h0 : n * i.size = 0
  ·have hn0 : n = 0 := by
    rcases Nat.mul_eq_zero.1 h0 with g | g
    ·exact g
    ·exact absurd g hes
   subst hn0
   have hh : ((Array.range (0 * i.size)).map (zv.cells[· % zv.cells.size]!)).toList.toArray = #[] := by simp
   rw [hh] at f1
   have hh2 : ∀ g : Nat → Value, (Array.range 0).map g = #[] := by intro g; simp
   simp only [Instr.buildSlice, Sem.run_bind, ai ht, Result.andThen_ok, aK hi]
   simp only [Nat.zero_mul, hh2, f1]
   simp [dM]
  ·have f1' : Instr.fill (fun i_1 => some (i_1 * i.size, i.size)) ((Array.range (n * i.size)).map (zv.cells[· % zv.cells.size]!)) qs = some es.toArray := f1
   simp only [Instr.buildSlice, Sem.run_bind, ai ht, Result.andThen_ok, aK hi]
   rw [if_neg hbig]
   simp only [h0, if_false, zeroValue, Sem.run_bind, bD hi, hzv, Result.andThen_ok, Sem.run_pure, f1', dM]
 rw [hrun]
 exact this
variable {P : Program} {φ : aH} {h h' : Hp} {w : World} {v : AV} {x y z : AO} {r : A2} {cx cy : Value}
theorem bU {b : Nat} {o : Go.Obj} {es : Array MapEntry} {ck : Nat} (h1 : w.heap[b]? = some o) (ho : o = .map es ck) : (getObj b).run P w = .ok (.map es ck) w := by
 subst ho
 show (Sem.getObj b .pure).run P w = _
 simp [Sem.run, h1]
theorem HR.map (H : HR φ h w) {i : P4} {p : Place} {l : List KV} {ck : Nat} (hi : ah i h = .map l ck) (hp : φ i = some p) : ∃ es, w.heap[p.cP]? = some (.map es ck) ∧ cE φ l es.toList := by
 obtain ⟨q, hq, hor⟩ := H.obj i (hi ▸ na)
 rw [hp] at hq; cases hq
 rw [hi] at hor
 exact hor
theorem VR.jD {i : P4} {c : Value} (hv : VR φ (.map i) c) : ∃ p, φ i = some p ∧ c = .map (some p.cP) := by cases hv; exact ⟨_, by assumption, rfl⟩
theorem VR.nq {c : Value} (hv : VR φ .jQ c) : c = .map none := by cases hv; rfl
theorem cE.length : ∀ {l : List KV} {es : List MapEntry}, cE φ l es → l.length = es.length
 | _, _, .nil => rfl
 | _, _, .cons _ _ _ _ _ _ _ _ _ r => by simp [cE.length r]
theorem BG {ts : Array TypeId} {ty t k e : TypeId} (hts : ts[0]? = some t) (H : HR φ h w) (hx : VR φ (ev x r) cx) (ht : P.underlying t = some (.map k e)) (he : oL x r h = .ok v h') :
  Good φ h w v h' ((Builtin.len_ ts ty #[cx]).run P w) := by
 rcases eW he with ⟨i, es, he⟩ | ⟨es, he⟩
 ·obtain ⟨l, c, hi, he⟩ := dA he
  obtain ⟨rfl, rfl⟩ := RV.al he
  rw [es] at hx
  obtain ⟨p, hp, rfl⟩ := hx.jD
  obtain ⟨es, h1, h2⟩ := H.map hi hp
  refine .same H (cv := goInt es.size) ?_ (by simp [Builtin.len_, hts, ai ht, bU h1 rfl])
  have : l.length = es.size := by rw [h2.length]; simp
  rw [this]
  exact .int _ _
 ·obtain ⟨rfl, rfl⟩ := RV.al he
  rw [es] at hx
  rw [hx.nq]
  exact .same H (cv := goInt 0) (.int _ _) (by simp [Builtin.len_, hts, ai ht])
theorem rm {t : TypeId} (H : HR φ h w) (he : pM r h = .ok v h') : Good φ h w v h' ((Instr.makeMap t none).run P w) := by
 obtain ⟨hi, he⟩ := iL he
 obtain ⟨rfl, rfl⟩ := RV.al he
 have hw : ({ w with heap := w.heap.push (.map #[] 0) } : World).heap = w.heap.push (.map #[] 0) := rfl
 have hle := aH.ir (φ := φ) (i := h.next) ⟨w.heap.size, 0, 0⟩ (H.fresh _ hi)
 have g1 := H.new (w' := { w with heap := w.heap.push (.map #[] 0) }) (n' := h.next.succ) (room := 0) hi hw (o := .map [] 0) (by simp) ⟨#[], rfl, .nil⟩
 refine ⟨.map (some w.heap.size), _, _, rfl, .map _ _ (aH.aI _ _ _), g1, hle, .new hw rfl rfl rfl, fun j q hj hq => ?_⟩
 rw [fe] at hj
 by_cases e : j = h.next
 ·subst e
  rw [aH.aI] at hq; cases hq
  exact .inr (.inl (Nat.le_refl _))
 ·rw [if_neg e] at hj
  exact .inl ⟨hj, by simpa [aH.put, e] using hq, fun x => by rw [fe, if_neg e] at x; exact x⟩
theorem Fu {ts : Array TypeId} {ty t e : TypeId} (hts : ts[0]? = some t) (H : HR φ h w) (hx : VR φ (ev x r) cx) (ht : P.underlying t = some (.slice e)) (he : tJ x r h = .ok v h') : Good φ h w v h' ((Builtin.cap_ ts ty #[cx]).run P w) := by
 rcases dF he with ⟨i, o, l, c, es, he⟩ | ⟨i, o, l, c, es, he⟩ | ⟨es, he⟩
 ·obtain ⟨rfl, rfl⟩ := RV.al he
  rw [es] at hx
  cases hx <;> first | exact .same H (cv := goInt c) (.int _ _) (by simp [Builtin.cap_, hts, ai ht]) | exact .same H (cv := goInt 0) (.int _ _) (by simp [Builtin.cap_, hts, ai ht])
 ·cases he
 ·obtain ⟨rfl, rfl⟩ := RV.al he
  rw [es] at hx
  cases hx
  exact .same H (cv := goInt 0) (.int _ _) (by simp [Builtin.cap_, hts, ai ht])
theorem iU {a b : FloatKind} (e : uQ a b = true) : a = b := by cases a <;> cases b <;> first | rfl | cases e
theorem VR.nt {k : FloatKind} {n : Nat} {c : Value} (hv : VR φ (.nQ k n) c) : c = .float k n := by cases hv; rfl
theorem VR.nu {k : FloatKind} {m n : Nat} {c : Value} (hv : VR φ (.fZ k m n) c) : c = .complex k m n := by cases hv; rfl
theorem BH {ts : Array TypeId} {ty : TypeId} {k : FloatKind} (H : HR φ h w) (hx : VR φ (ev x r) cx) (hy : VR φ (ev y r) cy) (he : oM k x y r h = .ok v h') : Good φ h w v h' ((Builtin.complex_ ts ty #[cx, cy]).run P w) := by
 obtain ⟨k1, a, ea, he⟩ := ew he
 obtain ⟨k2, b, eb, he⟩ := ew he
 obtain ⟨hk, he⟩ := au he
 obtain ⟨rfl, rfl⟩ := RV.al he
 obtain ⟨h1, h2⟩ := Bool.and_eq_true_iff.1 hk
 have h1 := iU h1
 have h2 := iU h2
 subst h1 h2
 rw [ea] at hx
 rw [eb] at hy
 rw [hx.nt, hy.nt]
 refine .same H (.fZ _ _ _) ?_
 show ((if k = k then pure (.complex k a b) else stuck "complex: parts of different kinds" : Sem Value)).run P w = _
 rw [if_pos rfl]; rfl
variable {P : Program} {φ : aH} {h h' : Hp} {w : World} {v : AV} {x y z : AO} {r : A2} {cx cy : Value}
theorem rp : ∀ {ks : List KK} {a b : List AV}, wL ks h a b ≠ .bad → a.length = ks.length
 | [], [], _, _ => rfl
 | [], _ :: _, _, e => absurd rfl e
 | k :: ks, [], _, e => absurd rfl e
 | k :: ks, x :: a, [], e => absurd rfl e
 | k :: ks, x :: a, y :: b, e => by
  have he : wL (k :: ks) h (x :: a) (y :: b) = @EB.rec (fun _ => EB) (wL ks h a b) (@EB.rec (fun _ => EB) .no .no .bad (wL ks h a b)) .bad (Hi k h x y) := rfl
  have : wL ks h a b ≠ .bad := by
   intro hb
   rw [he, hb] at e
   cases hk : Hi k h x y <;> rw [hk] at e <;> exact e rfl
  simp [rp this]
theorem rq {f : Field} {fs : List Field} {i : Nat} {ks : List KK} (e : lJ P (f :: fs) i = some ks) : f.name ≠ "_" ∧ f.offset = i ∧ ∃ k ks', zm P f.type = some k ∧ lJ P fs (i + 1) = some ks' ∧ ks = k :: ks' := by
 unfold lJ at e
 split at e
 ·cases e
 ·rename_i hn
  split at e
  ·rename_i k ks' h1 h2
   cases e
   refine ⟨fun hh => hn (.inl hh), ?_, k, ks', h1, h2, rfl⟩
   by_cases g : f.offset = i
   ·exact g
   ·exact absurd (.inr g) hn
  ·cases e
theorem dS {t : TypeId} {k : KK} (hk : Lu P k t) (em : Bool) (n : Nat) (c : Value) : (Instr.checkKey em (n + 1) t c).run P w = .ok () w := by
 cases k with
 | b => simp [Instr.checkKey, ai (show P.underlying t = some .bool from hk)]
 | i => obtain ⟨kk, hk⟩ := hk; simp [Instr.checkKey, ai hk]
 | s => simp [Instr.checkKey, ai (show P.underlying t = some .string from hk)]
 | p => obtain ⟨e, ie, hk, _⟩ := hk; simp [Instr.checkKey, ai hk]
theorem lE (em : Bool) (n : Nat) (vs : Array Value) : ∀ (fs : List Field) (i : Nat) (ks : List KK), lJ P fs i = some ks → i + fs.length ≤ vs.size →
  (forIn fs PUnit.unit fun f _ => if f.name ≠ "_" then (do let c ← part f.type vs f.offset; Instr.checkKey em (n + 1) f.type c; pure (ForInStep.yield PUnit.unit) : Sem (ForInStep PUnit)) else pure (ForInStep.yield PUnit.unit)).run P w = .ok PUnit.unit w := by
 intro fs
 induction fs with
 | nil => intro i ks _ _; rfl
 | cons f fs ih =>
  intro i ks e hl
  obtain ⟨h1, h2, k, ks', h3, h4, rfl⟩ := rq e
  have hk := wK h3
  obtain ⟨d, hd, ha⟩ := hk.jh
  simp only [List.length_cons] at hl
  have hp := gj (w := w) hd ha (cs := vs) (o := f.offset) (c := vs[i]) (by rw [h2]; simp)
  have := ih (i + 1) ks' h4 (by omega)
  simp only [List.forIn_cons, Sem.run_bind]
  simp [h1, hp, dS hk]
  simpa using this
theorem Fv {kt : KT} {a : AV} (e : rr kt a h = true) : BI kt a a h ≠ .bad := by
 intro hb
 unfold rr at e
 rw [hb] at e
 cases e
theorem run_checkKey {t : TypeId} {kt : KT} (hk : lZ P t = some kt) {a : AV} {c : Value} (hx : VR φ a c) (ho : rr kt a h = true) (em : Bool) : (Instr.checkKey em 10000 t c).run P w = .ok () w := by
 unfold lZ at hk
 split at hk
 ·rename_i hd; cases hk; exact dS (k := .b) hd em 9999 c
 ·rename_i hd; cases hk; exact dS (k := .i) ⟨_, hd⟩ em 9999 c
 ·rename_i hd; cases hk; exact dS (k := .s) hd em 9999 c
 ·rename_i fs hd
  simp only [Option.map_eq_some_iff] at hk
  obtain ⟨ks, hks, rfl⟩ := hk
  have hne := Fv ho
  have ⟨l, hl⟩ : ∃ l, a = .agg l := by
   cases a <;> first | exact ⟨_, rfl⟩ | exact absurd rfl hne
  subst hl
  obtain ⟨vs, rfl, hvs, h1⟩ := hx.fG
  have hlen := rp (show wL ks h l l ≠ .bad from hne)
  unfold qk at hks
  rw [hd] at hks
  simp only at hks
  split at hks
  ·cases hks
  ·have hF : ∀ (fs : List Field) (i : Nat) (ks : List KK), lJ P fs i = some ks → fs.length = ks.length := by
    intro fs
    induction fs with
    | nil => intro i ks e; simp [lJ] at e; subst e; rfl
    | cons f fs ih =>
     intro i ks e
     obtain ⟨_, _, k, ks', _, h4, rfl⟩ := rq e
     simp [ih _ _ h4]
   have hfl := hF _ _ _ hks
   have := lE (w := w) em 9998 vs.toArray fs.toList 0 ks hks (by
    have := hvs.length
    simp only [Array.length_toList, List.size_toArray] at *; omega)
   show (Instr.checkKey em (9999 + 1) t (.agg vs.toArray)).run P w = _
   rw [Instr.checkKey]
   simp only [Sem.run_bind, ai hd, Result.andThen_ok]
   rw [← Array.forIn_toList]
   rw [this]
   rfl
 ·cases hk
variable {P : Program} {φ : aH} {h h' : Hp} {w : World} {v : AV} {x y z : AO} {r : A2} {cx cy : Value}
theorem uR {t : TypeId} {kt : KT} (H : HR φ h w) (hk : lZ P t = some kt) {a c : AV} {ca cc : Value} (hx : VR φ a ca) (hy : VR φ c cc) {b : Bool} (hb : BI kt a c h = EB.of b) : (Op.equal t ca cc).run P w = .ok b w := by
 show (Op.equalIn 10000 t ca cc).run P w = .ok b w
 unfold lZ at hk
 split at hk
 ·rename_i hd; cases hk; exact jz 9999 (k := .b) H hx hy hd hb
 ·rename_i hd; cases hk; exact jz 9999 (k := .i) H hx hy ⟨_, hd⟩ hb
 ·rename_i hd; cases hk; exact jz 9999 (k := .s) H hx hy hd hb
 ·rename_i fs hd
  simp only [Option.map_eq_some_iff] at hk
  obtain ⟨ks, hks, rfl⟩ := hk
  have ⟨l, hl⟩ : ∃ l, a = .agg l := by
   cases a <;> first | exact ⟨_, rfl⟩ | (cases b <;> cases hb)
  subst hl
  have ⟨m, hm⟩ : ∃ m, c = .agg m := by
   cases c <;> first | exact ⟨_, rfl⟩ | (cases b <;> cases hb)
  subst hm
  obtain ⟨vs, rfl, hvs, _⟩ := hx.fG
  obtain ⟨ws, rfl, hws, _⟩ := hy.fG
  exact iQ 9998 H hks hvs hws hb
 ·cases hk
theorem kQ {t : TypeId} {kt : KT} {d : TypeDesc} (hd : P.underlying t = some d) (hk : lZ P t = some kt) {a c : AV} {ca cc : Value} (hx : VR φ a ca) (hy : VR φ c cc) {b : Bool} (hb : BI kt a c h = EB.of b) :
  Instr.sameNow d ca cc = none ∨ Instr.sameNow d ca cc = some b := by
 unfold lZ at hk
 rw [hd] at hk
 cases d <;> try (cases hk; done)
 case bool =>
  cases hk
  cases a <;> (try (cases b <;> cases hb; done))
  rename_i m
  cases c <;> (try (cases b <;> cases hb; done))
  rename_i n
  have := dR (show EB.of (jf m n) = EB.of b from hb)
  subst this
  rw [hx.cT, hy.cT]
  right
  cases m <;> cases n <;> rfl
 case int kk =>
  cases hk
  cases a <;> (try (cases b <;> cases hb; done))
  rename_i k1 m
  cases c <;> (try (cases b <;> cases hb; done))
  rename_i k2 n
  change (Bool.rec EB.bad (EB.of (sn m n)) (kx k1 k2) : EB) = _ at hb
  cases hq : kx k1 k2 with
  | false => rw [hq] at hb; cases b <;> cases hb
  | true =>
   rw [hq] at hb
   obtain rfl := gH hq
   rw [hx.aZ, hy.aZ]
   have := dR (show EB.of (sn m n) = EB.of b from hb)
   subst this
   right
   simp [Instr.sameNow, ij]
   rfl
 case string =>
  cases hk
  cases a <;> (try (cases b <;> cases hb; done))
  rename_i m
  cases c <;> (try (cases b <;> cases hb; done))
  rename_i n
  obtain ⟨s, rfl, rfl⟩ := hx.cX
  obtain ⟨u, rfl, rfl⟩ := hy.cX
  have := dR (show EB.of (iI _ _) = EB.of b from hb)
  subst this
  right
  simp only [Instr.sameNow]
  rw [fR, beq_toListBytes]
 case struct fs => left; cases ca <;> rfl
theorem cE.cons_inv {k val : AV} {b : Nat} {l : List KV} {es : List MapEntry} (hm : cE φ (.mk k val b :: l) es) : ∃ e es', es = e :: es' ∧ VR φ k e.key ∧ VR φ val e.val ∧ e.born = b ∧ cE φ l es' := by
 cases hm; exact ⟨_, _, rfl, by assumption, by assumption, by assumption, by assumption⟩
inductive KF (kt : KT) (h : Hp) (a : AV) : List KV → Option (Nat × KV) → Prop
 | nil : KF kt h a [] none
 | here (k v : AV) (b : Nat) (l : List KV) : BI kt a k h = .yes → KF kt h a (.mk k v b :: l) (some (0, .mk k v b))
 | there (k v : AV) (b : Nat) (l : List KV) (j : Nat) (y : KV) : BI kt a k h = .no → KF kt h a l (some (j, y)) → KF kt h a (.mk k v b :: l) (some (j + 1, y))
 | Nn (k v : AV) (b : Nat) (l : List KV) : BI kt a k h = .no → KF kt h a l none → KF kt h a (.mk k v b :: l) none
noncomputable def yC (kt : KT) (a : AV) (l : List KV) (h : Hp) (k : Nat → AV → Nat → RV) (n e : RV) (i : Nat) : RV := dx (β := Nat → RV) (fun _ => n)
 (fun y _ ih i => @KV.rec (fun _ => RV) (fun c v born => @EB.rec (fun _ => RV) (k i v born) (ih (Nat.succ i)) e (BI kt a c h)) y) l i
theorem iV {kt : KT} {a : AV} {k : Nat → AV → Nat → RV} {n : RV} {q : Nat} : ∀ {l : List KV} {i : Nat}, yC kt a l h k n (.err q) i = .ok v h' →
  (KF kt h a l none ∧ n = .ok v h') ∨ ∃ j kk val b, KF kt h a l (some (j, .mk kk val b)) ∧ k (i + j) val b = .ok v h'
 | [], i, e => .inl ⟨.nil, e⟩
 | .mk kk val b :: l, i, e => by
  have e2 : @EB.rec (fun _ => RV) (k i val b) (yC kt a l h k n (.err q) (i + 1)) (.err q) (BI kt a kk h) = .ok v h' := e
  cases hq : BI kt a kk h with
  | yes => rw [hq] at e2; exact .inr ⟨0, kk, val, b, .here _ _ _ _ hq, e2⟩
  | no =>
   rw [hq] at e2
   rcases iV (l := l) (i := i + 1) e2 with ⟨h1, h2⟩ | ⟨j, k2, v2, b2, h1, h2⟩
   ·exact .inl ⟨.Nn _ _ _ _ hq h1, h2⟩
   ·refine .inr ⟨j + 1, k2, v2, b2, .there _ _ _ _ _ _ hq h1, ?_⟩
    have : i + (j + 1) = i + 1 + j := by omega
    rw [this]; exact h2
  | bad => rw [hq] at e2; cases e2
theorem kR (kt : KT) (a : AV) (l : List KV) (h : Hp) (k : Nat → AV → Nat → RV) (n e : RV) : wX kt a l h k n e = yC kt a l h k n e 0 := rfl
theorem KF.find {kt : KT} (H : HR φ h w) {t : TypeId} {d : TypeDesc} (hd : P.underlying t = some d) (hk : lZ P t = some kt) {a : AV} {ca : Value} (hx : VR φ a ca) : ∀ {l : List KV} {res : Option (Nat × KV)}, KF kt h a l res → ∀ {es : List MapEntry} (i : Nat), cE φ l es →
  ∃ cr : Option (Nat × Value), (Instr.findAsking t ca es i).run P w = .ok cr w ∧ (∀ q, Instr.findNow d ca es i = some q → q = cr) ∧
   (match res, cr with
    | none, none => True
    | some (j, .mk kk val b), some (j', cv) => j' = i + j ∧ VR φ val cv ∧ ∃ e, es[j]? = some e ∧ e.val = cv ∧ VR φ kk e.key ∧ BI kt a kk h = .yes ∧ e.born = b
    | _, _ => False)
 | _, _, .nil, es, i, hm => by
  cases hm
  exact ⟨none, rfl, fun q hq => by cases hq; rfl, trivial⟩
 | _, _, .here k v b l hq, es, i, hm => by
  obtain ⟨e, es', rfl, h1, h2, h3, h4⟩ := hm.cons_inv
  have hr := uR (b := true) H hk hx h1 hq
  refine ⟨some (i, e.val), by simp [Instr.findAsking, hr], fun q hq' => ?_, rfl, h2, e, rfl, rfl, h1, hq, h3⟩
  rcases kQ (h := h) (b := true) hd hk hx h1 hq with g | g <;> simp only [Instr.findNow, g] at hq'
  ·cases hq'
  ·cases hq'; rfl
 | _, _, .there k v b l j y hq hr, es, i, hm => by
  obtain ⟨e, es', rfl, h1, h2, h3, h4⟩ := hm.cons_inv
  have hrn := uR (b := false) H hk hx h1 hq
  obtain ⟨cr, r1, r2, r3⟩ := KF.find H hd hk hx hr (i + 1) h4
  refine ⟨cr, by simp [Instr.findAsking, hrn, r1], fun q hq' => ?_, ?_⟩
  ·rcases kQ (h := h) (b := false) hd hk hx h1 hq with g | g <;> simp only [Instr.findNow, g] at hq'
   ·cases hq'
   ·exact r2 q hq'
  ·obtain ⟨kk, val, bb⟩ := y
   cases cr with
   | none => exact r3.elim
   | some p =>
    obtain ⟨j', cv⟩ := p
    simp only at r3 ⊢
    obtain ⟨g1, g2, e', g3, g4⟩ := r3
    exact ⟨by omega, g2, e', by simpa using g3, g4⟩
 | _, _, .Nn k v b l hq hr, es, i, hm => by
  obtain ⟨e, es', rfl, h1, h2, h3, h4⟩ := hm.cons_inv
  have hrn := uR (b := false) H hk hx h1 hq
  obtain ⟨cr, r1, r2, r3⟩ := KF.find H hd hk hx hr (i + 1) h4
  refine ⟨cr, by simp [Instr.findAsking, hrn, r1], fun q hq' => ?_, by cases cr <;> exact r3⟩
  rcases kQ (h := h) (b := false) hd hk hx h1 hq with g | g <;> simp only [Instr.findNow, g] at hq'
  ·cases hq'
  ·exact r2 q hq'
theorem run_findKey {t : TypeId} {d : TypeDesc} {ca : Value} {es : List MapEntry} (hd : P.underlying t = some d) {cr : Option (Nat × Value)} (h1 : (Instr.findAsking t ca es 0).run P w = .ok cr w) (h2 : ∀ q, Instr.findNow d ca es 0 = some q → q = cr) :
  (Instr.findKey t ca es).run P w = .ok cr w := by
 simp only [Instr.findKey, Sem.run_bind, ai hd, Result.andThen_ok]
 cases hf : Instr.findNow d ca es 0 with
 | none => exact h1
 | some q => rw [h2 q hf]; rfl
variable {P : Program} {φ : aH} {h h' : Hp} {w : World} {v : AV} {x y z : AO} {r : A2} {cx cy : Value}
theorem nv {t : TypeId} {kt : KT} (hk : lZ P t = some kt) : ∃ d, P.underlying t = some d := by
 unfold lZ at hk
 split at hk <;> first | exact ⟨_, by assumption⟩ | cases hk
theorem oO {ok found : Bool} {a : AV} {c : Value} (hv : VR φ a c) (e : Ab ok found a h = .ok v h') : VR φ v (if ok then .tuple #[c, .bool found] else c) ∧ h' = h := by
 obtain ⟨rfl, rfl⟩ := RV.al e
 cases ok
 ·exact ⟨hv, rfl⟩
 ·exact ⟨.ku [_, _] [_, _] (.cons _ _ _ _ hv (.cons _ _ _ _ (.bool _) .nil)), rfl⟩
theorem Fw {t k e : TypeId} {kt : KT} {zv : AV} {ok : Bool} (H : HR φ h w) {a b : AV} (hx : VR φ a cx) (hy : VR φ b cy) (ht : P.underlying t = some (.map k e)) (hk : lZ P k = some kt) (hz : ji P e = some zv)
  (he : Cr kt zv ok a b h = .ok v h') : Good φ h w v h' ((Instr.lookup t cx cy ok).run P w) := by
 obtain ⟨hok, he⟩ := au he
 obtain ⟨d, hd⟩ := nv hk
 unfold ji at hz
 simp only [Option.bind_eq_some_iff] at hz
 obtain ⟨cz, ⟨inf, hinf, hcz⟩, hz⟩ := hz
 have hvz := nc hz φ
 rcases eW he with ⟨i, rfl, he2⟩ | ⟨rfl, he2⟩
 ·obtain ⟨l, c, hi, he3⟩ := dA he2
  obtain ⟨p, hp, rfl⟩ := hx.jD
  obtain ⟨es, h1, h2⟩ := H.map hi hp
  rw [kR] at he3
  have hck := fun em => run_checkKey (w := w) hk hy hok em
  rcases iV he3 with ⟨g1, g2⟩ | ⟨j, kk, val, bb, g1, g2⟩
  ·obtain ⟨cr, f1, f2, f3⟩ := g1.find H hd hk hy 0 h2
   cases cr with
   | some q => exact f3.elim
   | none =>
    obtain ⟨u1, u2⟩ := oO (φ := φ) hvz g2
    subst u2
    refine .same H u1 ?_
    simp [Instr.lookup, ai ht, bU h1 rfl, hck, run_findKey hd f1 f2, zeroValue, bD hinf, hcz]
  ·obtain ⟨cr, f1, f2, f3⟩ := g1.find H hd hk hy 0 h2
   cases cr with
   | none => exact f3.elim
   | some q =>
    obtain ⟨j', cv⟩ := q
    obtain ⟨_, u0, _⟩ := f3
    obtain ⟨u1, u2⟩ := oO (φ := φ) u0 g2
    subst u2
    refine .same H u1 ?_
    simp [Instr.lookup, ai ht, bU h1 rfl, hck, run_findKey hd f1 f2]
 ·rw [hx.nq]
  have hck := run_checkKey (w := w) hk hy hok true
  obtain ⟨u1, u2⟩ := oO (φ := φ) hvz he2
  subst u2
  refine .same H u1 ?_
  have hf : (Instr.findKey k cy []).run P w = .ok none w := run_findKey hd rfl (fun q hq => by cases hq; rfl)
  simp [Instr.lookup, ai ht, hck, hf, zeroValue, bD hinf, hcz]
theorem yD {i : P4} {l : List KV} {ck : Nat} (hi : ah i h = .map l ck) : wl (ah i h) := hi ▸ ⟨na, rfl⟩
theorem HR.oP (H : HR φ h w) {i : P4} {p : Place} {l l' : List KV} {ck ck' : Nat} (hi : ah i h = .map l ck) (hp : φ i = some p) {es : Array MapEntry} (hm : cE φ l' es.toList) {es0 : Array MapEntry} {ck0 : Nat} (ho : w.heap[p.cP]? = some (.map es0 ck0)) :
  (setObj p.cP (.map es ck')).run P w = .ok () { w with heap := w.heap.setIfInBounds p.cP (.map es ck') } ∧ HR φ (cI i (.map l' ck') h) { w with heap := w.heap.setIfInBounds p.cP (.map es ck') } ∧
   Step φ h w φ (cI i (.map l' ck') h) { w with heap := w.heap.setIfInBounds p.cP (.map es ck') } := by
 have hl : live (ah i h) := hi ▸ na
 have hb : p.cP < w.heap.size := H.bound i p hp
 have hne : ∀ b, b ≠ p.cP → (w.heap.setIfInBounds p.cP (.map es ck'))[b]? = w.heap[b]? := fun b hb => by
  rw [Array.getElem?_setIfInBounds, if_neg (fun e => hb e.symm)]
 refine ⟨?_, H.set (yD hi) hp (by simp) hne ⟨es, by simp [hb], hm⟩ (by simp), φ.le_refl, fQ.set (yD hi) hp (by simp) hne rfl rfl rfl, fun j q hj hq => ?_⟩
 ·show (Sem.setObj p.cP (.map es ck') (.pure ())).run P w = _
  simp [Sem.run, ho]
 ·rw [aD] at hj
  by_cases e : j = i
  ·subst e; exact .inl ⟨hl, hq, fun _ => yD hi⟩
  ·rw [if_neg e] at hj; exact .inl ⟨hj, hq, fun x => by rw [aD, if_neg e] at x; exact x⟩
theorem cE.snoc : ∀ {l : List KV} {es : List MapEntry} {k val : AV} {b : Nat} {e : MapEntry}, cE φ l es → VR φ k e.key → VR φ val e.val → e.born = b → cE φ (Am.snoc l (.mk k val b)) (es ++ [e])
 | _, _, _, _, _, _, .nil, h1, h2, h3 => .cons _ _ _ _ _ _ h1 h2 h3 .nil
 | _, _, _, _, _, _, .cons k v b e l es a c d r, h1, h2, h3 => .cons k v b e _ _ a c d (cE.snoc r h1 h2 h3)
theorem cE.del : ∀ {l : List KV} {es : List MapEntry} (j : Nat), cE φ l es → cE φ (Lw j l) (es.eraseIdx j)
 | _, _, j, .nil => by cases j <;> exact .nil
 | _, _, 0, .cons k v b e l es a c d r => r
 | _, _, j + 1, .cons k v b e l es a c d r => .cons k v b e _ _ a c d (cE.del j r)
theorem Fx {ts : Array TypeId} {ty t k e : TypeId} {kt : KT} (hts : ts[0]? = some t) (H : HR φ h w) {a b : AV} (hx : VR φ a cx) (hy : VR φ b cy) (ht : P.underlying t = some (.map k e)) (hk : lZ P k = some kt)
  (he : del kt a b h = .ok v h') : Good φ h w v h' ((Builtin.delete_ ts ty #[cx, cy]).run P w) := by
 obtain ⟨hok, he⟩ := au he
 obtain ⟨d, hd⟩ := nv hk
 have hv : VR φ cu (.tuple #[]) := .ku [] [] .nil
 rcases eW he with ⟨i, rfl, he2⟩ | ⟨rfl, he2⟩
 ·obtain ⟨l, c, hi, he3⟩ := dA he2
  obtain ⟨p, hp, rfl⟩ := hx.jD
  obtain ⟨es, h1, h2⟩ := H.map hi hp
  rw [kR] at he3
  have hck := fun em => run_checkKey (w := w) hk hy hok em
  rcases iV he3 with ⟨g1, g2⟩ | ⟨j, kk, val, bb, g1, g2⟩
  ·obtain ⟨cr, f1, f2, f3⟩ := g1.find H hd hk hy 0 h2
   cases cr with
   | some q => exact f3.elim
   | none =>
    obtain ⟨rfl, rfl⟩ := RV.al g2
    have cI : w = { w with heap := w.heap.setIfInBounds p.cP (.map es c) } := by
     have : w.heap.setIfInBounds p.cP (.map es c) = w.heap := by
      apply Array.ext_getElem?
      intro q
      rw [Array.getElem?_setIfInBounds]
      by_cases e : p.cP = q
      ·subst e
       have hb := H.bound i p hp
       rw [if_pos rfl, if_pos hb, h1]
      ·rw [if_neg e]
     rw [this]
    refine .same H hv ?_
    have hso : (setObj p.cP (.map es c)).run P w = .ok () w := by
     have : (setObj p.cP (.map es c)).run P w = .ok () { w with heap := w.heap.setIfInBounds p.cP (.map es c) } := by
      show (Sem.setObj p.cP (.map es c) (.pure ())).run P w = _
      simp [Sem.run, h1]
     rw [this, ← cI]
    simp [Builtin.delete_, hts, ai ht, bU h1 rfl, hck, run_findKey hd f1 f2, hso]
  ·obtain ⟨cr, f1, f2, f3⟩ := g1.find H hd hk hy 0 h2
   cases cr with
   | none => exact f3.elim
   | some q =>
    obtain ⟨j', cv⟩ := q
    obtain ⟨rfl, _⟩ := f3
    obtain ⟨rfl, rfl⟩ := RV.al g2
    have hes : (es.eraseIdxIfInBounds (0 + j)).toList = es.toList.eraseIdx (0 + j) := by simp
    obtain ⟨s1, s2, s3⟩ := HR.oP (P := P) (ck' := c) H hi hp (es := es.eraseIdxIfInBounds (0 + j)) (l' := Lw (0 + j) l) (by rw [hes]; exact h2.del _) h1
    exact ⟨.tuple #[], _, φ, by simp [Builtin.delete_, hts, ai ht, bU h1 rfl, hck, run_findKey hd f1 f2] at s1 ⊢; simp [s1], hv, s2, s3⟩
 ·obtain ⟨rfl, rfl⟩ := RV.al he2
  rw [hx.nq]
  have hck := run_checkKey (w := w) hk hy hok true
  exact .same H hv (by simp [Builtin.delete_, hts, ai ht, hck])
variable {P : Program} {φ : aH} {h h' : Hp} {w : World} {v : AV} {x y z : AO} {r : A2} {cx cy : Value}
theorem yE (a : AV) : (∃ i o, a = .ptr i o) ∨ a.fY = .no := by cases a <;> first | exact .inl ⟨_, _, rfl⟩ | exact .inr rfl
theorem ru {a : AV} (e : ff a = true) : a = .ct := by cases a <;> first | rfl | cases e
theorem ny {k : KK} {a c : AV} {ca cc : Value} (hx : VR φ a ca) (hy : VR φ c cc) (he : Hi k h a c = .yes) (n : Nat) : Instr.sameBits n cc ca = true := by
 cases k with
 | b =>
  cases a <;> (try (cases he; done))
  rename_i m
  cases c <;> (try (cases he; done))
  rename_i q
  rw [hx.cT, hy.cT]
  cases m <;> cases q <;> first | (cases he; done) | (cases n <;> simp [Instr.sameBits])
 | i =>
  cases a <;> (try (cases he; done))
  rename_i k1 m
  cases c <;> (try (cases he; done))
  rename_i k2 q
  change (Bool.rec EB.bad (EB.of (sn m q)) (kx k1 k2) : EB) = _ at he
  cases hq : kx k1 k2 with
  | false => rw [hq] at he; cases he
  | true =>
   rw [hq] at he
   obtain rfl := gH hq
   have := dR (b := true) (show EB.of (sn m q) = EB.of true from he)
   rw [ij, decide_eq_true_eq] at this
   subst this
   rw [hx.aZ, hy.aZ]
   cases n <;> simp [Instr.sameBits]
 | s =>
  cases a <;> (try (cases he; done))
  rename_i m
  cases c <;> (try (cases he; done))
  rename_i q
  obtain ⟨s, rfl, rfl⟩ := hx.cX
  obtain ⟨u, rfl, rfl⟩ := hy.cX
  have := dR (b := true) (show EB.of (iI _ _) = EB.of true from he)
  rw [fR, beq_iff_eq] at this
  cases n <;> simp [Instr.sameBits, beq_toListBytes, this]
 | p =>
  have he : Lt h a c = .yes := he
  unfold Lt at he
  rcases yE a with ⟨i, o, rfl⟩ | ha
  ·rcases yE c with ⟨j, q, rfl⟩ | hc
   ·change (Bool.rec (Bool.rec EB.bad (Bool.rec EB.bad .no (eY (ah j h))) (eY (ah i h))) (EB.of (Nat.beq o q)) (nS i j) : EB) = _ at he
    cases hp : nS i j with
    | false =>
     rw [hp] at he
     cases h1 : eY (ah i h) <;> cases h2 : eY (ah j h) <;> simp [h1, h2] at he
    | true =>
     rw [hp] at he
     obtain rfl := gY.1 hp
     have := dR (b := true) (show EB.of (Nat.beq o q) = EB.of true from he)
     have := Nat.eq_of_beq_eq_true this
     subst this
     obtain ⟨p, hp1, rfl⟩ := hx.eX
     obtain ⟨p', hp2, rfl⟩ := hy.eX
     rw [hp1] at hp2; cases hp2
     cases n <;> simp [Instr.sameBits]
   ·rw [hc] at he
    change (Bool.rec EB.bad .no (ff c) : EB) = _ at he
    cases hn : ff c <;> rw [hn] at he <;> cases he
  ·rw [ha] at he
   change (Bool.rec EB.bad (OP.rec (Bool.rec EB.bad .yes (ff c)) (fun _ _ => .no) c.fY) (ff a) : EB) = _ at he
   cases hn : ff a with
   | false => rw [hn] at he; cases he
   | true =>
    rw [hn] at he
    have := ru hn
    have he3 := he
    clear he
    subst this
    rcases yE c with ⟨j, q, hc⟩ | hc
    ·rw [hc] at he3; cases he3
    ·rw [hc] at he3
     change (Bool.rec EB.bad .yes (ff c) : EB) = _ at he3
     cases hn2 : ff c with
     | false => rw [hn2] at he3; cases he3
     | true =>
      have := ru hn2
      subst this
      rw [hx.iP, hy.iP]
      cases n <;> simp [Instr.sameBits]
theorem nz (n : Nat) : ∀ {ks : List KK} {a c : List AV} {vs ws : List Value}, cn φ a vs → cn φ c ws → wL ks h a c = .yes → ws.length = vs.length ∧ (ws.zip vs).all (fun (x, y) => Instr.sameBits n x y) = true
 | [], [], [], _, _, .nil, .nil, _ => ⟨rfl, rfl⟩
 | [], [], _ :: _, _, _, _, _, e => by cases e
 | [], _ :: _, _, _, _, _, _, e => by cases e
 | k :: ks, [], _, _, _, _, _, e => by cases e
 | k :: ks, _ :: _, [], _, _, _, _, e => by cases e
 | k :: ks, x :: a, y :: c, _, _, .cons _ cx _ vs h1 h2, .cons _ cy _ ws h3 h4, e => by
  have he : @EB.rec (fun _ => EB) (wL ks h a c) (@EB.rec (fun _ => EB) .no .no .bad (wL ks h a c)) .bad (Hi k h x y) = .yes := e
  cases hk : Hi k h x y with
  | yes =>
   rw [hk] at he
   obtain ⟨g1, g2⟩ := nz n h2 h4 he
   exact ⟨by simp [g1], by simp [ny h1 h3 hk n]; simpa using g2⟩
  | no => rw [hk] at he; cases hr : wL ks h a c <;> rw [hr] at he <;> cases he
  | bad => rw [hk] at he; cases he
theorem nA {kt : KT} {a c : AV} {ca cc : Value} (hx : VR φ a ca) (hy : VR φ c cc) (he : BI kt a c h = .yes) : Instr.sameBits 10000 cc ca = true := by
 cases kt with
 | one k => exact ny hx hy he _
 | agg ks =>
  have ⟨l, hl⟩ : ∃ l, a = .agg l := by
   cases a <;> first | exact ⟨_, rfl⟩ | cases he
  subst hl
  have ⟨m, hm⟩ : ∃ m, c = .agg m := by
   cases c <;> first | exact ⟨_, rfl⟩ | cases he
  subst hm
  obtain ⟨vs, rfl, hvs, _⟩ := hx.fG
  obtain ⟨ws, rfl, hws, _⟩ := hy.fG
  obtain ⟨g1, g2⟩ := nz (h := h) 9999 hvs hws he
  show Instr.sameBits (9999 + 1) _ _ = true
  simp [Instr.sameBits, g1]
  simpa using g2
theorem cE.set : ∀ {l : List KV} {es : List MapEntry} (j : Nat) {k val : AV} {ck cv : Value}, cE φ l es → VR φ k ck → VR φ val cv → cE φ (uS j k val l) (es.modify j fun e => { e with key := ck, val := cv })
 | _, _, j, _, _, _, _, .nil, _, _ => by cases j <;> exact .nil
 | _, _, 0, k, val, ck, cv, .cons k0 v0 b e l es a c d r, h1, h2 => .cons _ _ _ _ _ _ h1 h2 d r
 | _, _, j + 1, k, val, ck, cv, .cons k0 v0 b e l es a c d r, h1, h2 => .cons k0 v0 b e _ _ a c d (cE.set j r h1 h2)
theorem wY {t k e : TypeId} {kt : KT} {cz : Value} (H : HR φ h w) {a b c : AV} (hx : VR φ a cx) (hy : VR φ b cy) (hz : VR φ c cz) (ht : P.underlying t = some (.map k e)) (hk : lZ P k = some kt)
  (he : JO kt a b c h = .ok v h') : v = .undef ∧ tn φ h w h' ((Instr.mapUpdate t cx cy cz).run P w) := by
 obtain ⟨hok, he⟩ := au he
 obtain ⟨d, hd⟩ := nv hk
 rcases eW he with ⟨i, rfl, he2⟩ | ⟨rfl, he2⟩
 ·obtain ⟨l, ck, hi, he3⟩ := dA he2
  obtain ⟨p, hp, rfl⟩ := hx.jD
  obtain ⟨es, h1, h2⟩ := H.map hi hp
  rw [kR] at he3
  have hck := fun em => run_checkKey (w := w) hk hy hok em
  rcases iV he3 with ⟨g1, g2⟩ | ⟨j, kk, val, bb, g1, g2⟩
  ·obtain ⟨cr, f1, f2, f3⟩ := g1.find H hd hk hy 0 h2
   cases cr with
   | some q => exact f3.elim
   | none =>
    obtain ⟨rfl, rfl⟩ := RV.al g2
    obtain ⟨s1, s2, s3⟩ := HR.oP (P := P) (ck' := ck + 1) H hi hp (es := es.push { key := cy, val := cz, born := ck }) (l' := snoc l (.mk b c ck)) (by rw [Array.toList_push]; exact h2.snoc hy hz rfl) h1
    refine ⟨rfl, _, φ, ?_, s2, s3⟩
    simp [Instr.mapUpdate, ai ht, bU h1 rfl, hck, run_findKey hd f1 f2, s1]
  ·obtain ⟨cr, f1, f2, f3⟩ := g1.find H hd hk hy 0 h2
   cases cr with
   | none => exact f3.elim
   | some q =>
    obtain ⟨j', cv⟩ := q
    obtain ⟨rfl, u0, e0, u1, u2, u3, u4, u5⟩ := f3
    obtain ⟨rfl, rfl⟩ := RV.al g2
    have hsb := nA (h := h) hy u3 u4
    have hes : (es.modify (0 + j) fun e => { e with key := cy, val := cz }).toList = es.toList.modify (0 + j) fun e => { e with key := cy, val := cz } := by simp
    obtain ⟨s1, s2, s3⟩ := HR.oP (P := P) (ck' := ck) H hi hp (es := es.modify (0 + j) fun e => { e with key := cy, val := cz }) (l' := uS (0 + j) b c l) (by rw [hes]; exact h2.set _ hy hz) h1
    have hge : es[0 + j]? = some e0 := by rw [Nat.zero_add]; simpa using u1
    have hks : (Instr.keyThatStays (((es[0 + j]?).map (·.key)).getD cy) cy).run P w = .ok cy w := by
     rw [hge]
     simp [Instr.keyThatStays, hsb]
    refine ⟨rfl, _, φ, ?_, s2, s3⟩
    simp only [Instr.mapUpdate, Sem.run_bind, ai ht, Result.andThen_ok, bU h1 rfl, hck, run_findKey hd f1 f2, hks, s1]
 ·cases he2
variable {P : Program} {φ : aH} {h h' : Hp} {w : World} {v : AV} {x y z : AO} {r : A2} {cx cy : Value}
theorem Fy {t : TypeId} {d : TypeDesc} (H : HR φ h w) (hx : VR φ (ev x r) cx) (hd : P.underlying t = some d) (hn : ∀ m, d ≠ .interface m) (he : wZ t x r h = .ok v h') : Good φ h w v h' ((Instr.makeInterface t cx).run P w) := by
 obtain ⟨rfl, rfl⟩ := RV.al he
 refine .same H (.iface t _ _ hx) ?_
 simp only [Instr.makeInterface, Sem.run_bind, ai hd, Result.andThen_ok]
 cases d <;> first | rfl | exact absurd rfl (hn _)
theorem Fz (x : AO) (xs : List AO) (r : A2) : fm (x :: xs) r = ev x r :: fm xs r := rfl
theorem lp {G : Gl} {ρ : Operand → Value} : ∀ {os : List Operand} {xs : List AO}, os.mapM (cO G) = some xs → (∀ o, o ∈ os → ∀ a, cO G o = some a → VR φ (ev a r) (ρ o)) → cn φ (fm xs r) (os.map ρ)
 | [], xs, e, _ => by simp at e; subst e; exact .nil
 | o :: os, xs, e, hv => by
  simp only [List.mapM_cons, Option.pure_def, Option.bind_eq_bind, Option.bind_eq_some_iff, Option.some.injEq] at e
  obtain ⟨a, ha, as, has, rfl⟩ := e
  rw [Fz]
  exact .cons _ _ _ _ (hv o (by simp) a ha) (lp has fun o ho => hv o (by simp [ho]))
theorem FA {f : Nat} {xs : List AO} {vs : List Value} (H : HR φ h w) (hx : cn φ (fm xs r) vs) (he : xa f xs r h = .ok v h') : Good φ h w v h' ((Instr.makeFunc (.func f) #[] vs.toArray).run P w) := by
 obtain ⟨rfl, rfl⟩ := RV.al he
 exact .same H (.fn f _ _ hx) rfl
theorem FB {t xt : TypeId} {zv : AV} {ok : Bool} {a : AV} {d : TypeDesc} (H : HR φ h w) (hx : VR φ a cx) (hd : P.underlying t = some d) (hn : ∀ m, d ≠ .interface m) (hz : ji P t = some zv) (he : JP t zv ok a h = .ok v h') :
  Good φ h w v h' ((Instr.typeAssert cx xt t ok).run P w) := by
 unfold ji at hz
 simp only [Option.bind_eq_some_iff] at hz
 obtain ⟨cz, ⟨inf, hinf, hcz⟩, hz⟩ := hz
 have hvz := nc hz φ
 cases a <;> (try (cases he; done))
 ·rename_i u b
  cases hx with
  | iface _ _ c hc =>
  have he2 : (@Bool.rec (fun _ => RV) (@Bool.rec (fun _ => RV) (.err 109) (Ab true false zv h) ok) (Ab ok true b h) (Nat.beq t u)) = .ok v h' := he
  cases htu : Nat.beq t u with
  | true =>
   rw [htu] at he2
   have := Nat.eq_of_beq_eq_true htu
   subst this
   obtain ⟨u1, u2⟩ := oO hc he2
   subst u2
   refine .same H u1 ?_
   simp only [Instr.typeAssert, Sem.run_bind, ai hd, Result.andThen_ok]
   cases d <;> first | (simp; done) | exact absurd rfl (hn _)
  | false =>
   rw [htu] at he2
   have hne : u ≠ t := fun e => by subst e; rw [Nat.beq_refl] at htu; cases htu
   cases ok with
   | false => cases he2
   | true =>
    obtain ⟨u1, u2⟩ := oO (ok := true) hvz he2
    subst u2
    refine .same H u1 ?_
    simp only [Instr.typeAssert, Sem.run_bind, ai hd, Result.andThen_ok]
    cases d <;> first | (simp [hne, zeroValue, bD hinf, hcz]; done) | exact absurd rfl (hn _)
 ·cases hx
  cases ok with
  | false => cases he
  | true =>
   obtain ⟨u1, u2⟩ := oO (ok := true) hvz (show Ab true false zv h = .ok v h' from he)
   subst u2
   refine .same H u1 ?_
   simp only [Instr.typeAssert, Sem.run_bind, ai hd, Result.andThen_ok]
   cases d <;> first | (simp [zeroValue, bD hinf, hcz]; done) | exact absurd rfl (hn _)
variable {P : Program} {φ : aH} {h h' : Hp} {w : World} {v : AV} {x y z : AO} {r : A2} {cx cy : Value}
theorem wrap64 {m : Nat} (hm : m ≤ 1048576) : IntKind.i64.wrap (m : Int) = (m : Int) := by
 have : gW .i64 (Int.ofNat m) = Int.ofNat m := by
  have hb : Nat.ble m 9223372036854775807 = true := Nat.ble_eq_true_of_le (by omega)
  show (@Bool.rec (fun _ => Int) _ (Int.ofNat m) (Nat.ble m 9223372036854775807)) = _
  rw [hb]
 rw [dh] at this
 exact this
theorem uT {t e : TypeId} {zs : List AV} (H : HR φ h w) (hx : VR φ (ev x r) cx) (hy : VR φ (ev y r) cy) (ht : P.underlying t = some (.slice e)) (hz : fJ P e = some zs) (hzl : zs.length = aY P e) (hes : aY P e ≠ 0) (hg : ic P e = true)
  (he : gp e zs x y r h = .ok v h') : Good φ h w v h' ((Instr.makeSlice t cx cy).run P w) := by
 obtain ⟨k1, l, e1, he1⟩ := cW he
 obtain ⟨k2, c, e2, he2⟩ := cW he1
 obtain ⟨h1, he3⟩ := au he2
 obtain ⟨h2, he4⟩ := au he3
 have h1 := cL h1
 have h2 := cL h2
 rw [e1] at hx
 rw [e2] at hy
 rw [hx.aZ, hy.aZ]
 obtain ⟨i, zv, hi, hzv, hzs, hby⟩ := ln hg
 obtain ⟨i', zv', hi', hzv', g1, g2⟩ := fT hz φ
 rw [hi] at hi'; cases hi'
 rw [hzv] at hzv'; cases hzv'
 obtain ⟨k1', k2'⟩ := eB g1 g2 c (c * i.size) (by rw [hzs])
 have hN := lS H k1' k2' he4
 rw [cG hi] at hes
 have hes' : i.size ≠ 0 := hes
 have hw1 := wrap64 (m := l) (by omega)
 have hw2 := wrap64 (m := c) (by omega)
 have hb : i.bytes * c ≤ 281474976710656 := by
  have : i.bytes * c ≤ 1048576 * 1048576 := Nat.mul_le_mul hby h2
  omega
 have hbi : ((i.bytes : Int) * (c : Int)) ≤ 281474976710656 := by
  have := Int.ofNat_le.2 hb
  simpa using this
 have hrun : (Instr.makeSlice t (.int k1 (Int.ofNat l)) (.int k2 (Int.ofNat c))).run P w = .ok (.slice (some ⟨w.heap.size, 0, none⟩) l c) { w with heap := w.heap.push (.cells ((Array.range (c * i.size)).map (zv.cells[· % zv.cells.size]!)) e) } := by
  have ha : ∀ (k : IntKind) (m : Nat), (asIntOf (.int k (m : Int))).run P w = .ok (k, (m : Int)) w := fun _ _ => rfl
  have hcond : ¬ (((((c : Int) < 0 ∨ 281474976710656 < (i.bytes : Int) * (c : Int)) ∨ (l : Int) < 0) ∨ c < l)) := by omega
  simp only [Instr.makeSlice]
  simp [aK hi, dM, ha, hw1, hw2, ai ht, bD hi, asInt, zeroValue, hzv]
  rw [if_neg hcond]
  by_cases h0 : c * i.size = 0
  ·rw [if_pos h0, h0]
   have : ∀ g : Nat → Value, (Array.range 0).map g = #[] := by intro g; simp
   rw [this, this]
  ·rw [if_neg h0]
 rw [hrun]
 exact hN
variable {P : Program} {φ : aH} {h h' : Hp} {w : World} {v : AV} {x y z : AO} {r : A2} {cx cy : Value}
theorem cn.drop : ∀ {as : List AV} {vs : List Value} (n : Nat), cn φ as vs → cn φ (as.drop n) (vs.drop n)
 | _, _, 0, h => by simpa using h
 | _, _, n + 1, .nil => by simpa using cn.nil
 | _, _, n + 1, .cons _ _ _ _ e es => cn.drop n es
theorem uU {t : TypeId} {d : TypeDesc} {i : TypeInfo} (hd : P.underlying t = some d) (ha : pN P t = true) (hi : P.info? t = some i) {vs : List Value} {o : Nat} : (part t vs.toArray o).run P w = .ok (.agg ((vs.drop o).take i.size).toArray) w := by
 have : vs.toArray.extract o (o + i.size) = ((vs.drop o).take i.size).toArray := by
  apply Array.ext'
  rw [Array.toList_extract, List.extract_eq_take_drop]
  simp
 simp [part, gx hd, ha, aK hi]
theorem ry {l : List AV} {vs : List Value} (H : HR φ h w) (hv : cn φ l vs) {t : TypeId} {d : TypeDesc} (hd : P.underlying t = some d) (ha : pN P t = false) {o n : Nat} (he : (List.rec (.err n) (fun v _ _ => .ok v h) (List.drop o l) : RV) = .ok v h') :
  Good φ h w v h' ((part t vs.toArray o).run P w) := by
 obtain ⟨a, tl, ed, e2⟩ := uN (k := fun v => .ok v h) he
 obtain ⟨rfl, rfl⟩ := RV.al e2
 obtain ⟨hi, hb⟩ := drop_cons ed
 have hi' : o < vs.length := by rw [← hv.length]; exact hi
 exact .same H (cv := vs[o]) (by rw [← hb]; exact hv.get o hi hi') (gj hd ha (by simp [hi']))
theorem rz {l : List AV} {vs : List Value} (H : HR φ h w) (hv : cn φ l vs) (h1 : ∀ c, c ∈ vs → c.oneCell' = true) {t : TypeId} {d : TypeDesc} {i : TypeInfo} (hd : P.underlying t = some d) (ha : pN P t = true) (hi : P.info? t = some i) {o n : Nat}
  (he : (Bool.rec (.err n) (.ok (.agg (List.take i.size (List.drop o l))) h) (Nat.ble (o + i.size) l.length) : RV) = .ok v h') : Good φ h w v h' ((part t vs.toArray o).run P w) := by
 obtain ⟨hb, e2⟩ := au he
 obtain ⟨rfl, rfl⟩ := RV.al e2
 exact .same H (.agg _ _ ((hv.drop o).take i.size) (fun c hc => h1 c (List.mem_of_mem_drop (List.mem_of_mem_take hc)))) (uU hd ha hi)
theorem BJ {t : TypeId} {fs : Array Field} {f : Nat} {fd : Field} {d : TypeDesc} (H : HR φ h w) (hx : VR φ (ev x r) cx) (ht : P.underlying t = some (.struct fs)) (hf : fs[f]? = some fd) (hd : P.underlying fd.type = some d) (ha : pN P fd.type = false)
  (he : oQ fd.offset x r h = .ok v h') : Good φ h w v h' ((Instr.field t cx f).run P w) := by
 obtain ⟨l, el, he2⟩ := di he
 rw [el] at hx
 obtain ⟨vs, rfl, hvs, _⟩ := hx.fG
 have := ry (P := P) H hvs hd ha he2
 simp [Instr.field, ai ht, hf, asAgg]
 exact this
theorem BL {t : TypeId} {fs : Array Field} {f : Nat} {fd : Field} {d : TypeDesc} {i : TypeInfo} (H : HR φ h w) (hx : VR φ (ev x r) cx) (ht : P.underlying t = some (.struct fs)) (hf : fs[f]? = some fd) (hd : P.underlying fd.type = some d) (ha : pN P fd.type = true) (hi : P.info? fd.type = some i)
  (he : oS fd.offset i.size x r h = .ok v h') : Good φ h w v h' ((Instr.field t cx f).run P w) := by
 obtain ⟨l, el, he2⟩ := di he
 rw [el] at hx
 obtain ⟨vs, rfl, hvs, h1⟩ := hx.fG
 have := rz (P := P) H hvs h1 hd ha hi he2
 simp [Instr.field, ai ht, hf, asAgg]
 exact this
theorem BM {t e : TypeId} {n : Nat} {d : TypeDesc} {i : TypeInfo} (H : HR φ h w) (hx : VR φ (ev x r) cx) (hy : VR φ (ev y r) cy) (ht : P.underlying t = some (.array n e)) (hd : P.underlying e = some d) (hi : P.info? e = some i)
  (he : lY n i.size (pN P e) x y r h = .ok v h') : Good φ h w v h' ((Instr.index t cx cy).run P w) := by
 obtain ⟨kd, m, em, e1⟩ := cW he
 obtain ⟨l, el, e2⟩ := di e1
 obtain ⟨hb, e3⟩ := au e2
 rw [el] at hx
 rw [em] at hy
 obtain ⟨vs, rfl, hvs, h1⟩ := hx.fG
 rw [hy.aZ]
 have hm := kI hb
 have hrun : (Instr.index t (.agg vs.toArray) (.int kd (Int.ofNat m))).run P w = (part e vs.toArray (m * i.size)).run P w := by
  have hr : (0 : Int) ≤ Int.ofNat m ∧ Int.ofNat m < (n : Int) := tv (k := kd) hm
  simp only [Instr.index, asIntOf, Sem.run_bind, Sem.run_pure, Result.andThen_ok, ai ht]
  rw [if_pos hr]
  simp [aK hi]
 rw [hrun]
 rcases fc e3 with ⟨ha, e4⟩ | ⟨ha, e4⟩
 ·exact ry H hvs hd ha e4
 ·exact rz H hvs h1 hd ha hi e4
variable {P : Program} {φ : aH} {h h' : Hp} {w : World} {v : AV} {x y z : AO} {r : A2} {cx cy : Value}
theorem FC (mn : Bool) (k : IntKind) (h : Hp) (a : Int) : xb mn k h [] a = .ok (.int k a) h := rfl
theorem tK (mn : Bool) (k : IntKind) (h : Hp) (y : AV) (l : List AV) (a : Int) : xb mn k h (y :: l) a = AV.dm y (fun k' b => @Bool.rec (fun _ => RV) (.err 76) (xb mn k h l (yF mn a b)) (kx k k')) (.err 76) := rfl
theorem FD (k : IntKind) (a b : Int) : (Builtin.max2 (.int k a) (.int k b)).run P w = .ok (.int k (yF false a b)) w := by
 have : yF false a b = if b > a then b else a := by
  show (@Bool.rec (fun _ => Int) a b (Im a b)) = _
  rw [ot]
  by_cases g : a < b
  ·rw [decide_eq_true g, if_pos g]
  ·rw [decide_eq_false g, if_neg g]
 rw [this]; rfl
theorem FE (k : IntKind) (a b : Int) : (Builtin.min2 (.int k a) (.int k b)).run P w = .ok (.int k (yF true a b)) w := by
 have : yF true a b = if b < a then b else a := by
  show (@Bool.rec (fun _ => Int) a b (Im b a)) = _
  rw [ot]
  by_cases g : b < a
  ·rw [decide_eq_true g, if_pos g]
  ·rw [decide_eq_false g, if_neg g]
 rw [this]; rfl
theorem uV {mn : Bool} {k : IntKind} {f : Value → Value → Sem Value} (hf : ∀ a b w, (f (.int k a) (.int k b)).run P w = .ok (.int k (yF mn a b)) w) : ∀ {l : List AV} {vs : List Value} {a : Int}, cn φ l vs → xb mn k h l a = .ok v h' →
  ∃ n, v = .int k n ∧ h' = h ∧ (vs.foldlM f (.int k a)).run P w = .ok (.int k n) w
 | [], _, a, .nil, e => by
  rw [FC] at e
  obtain ⟨rfl, rfl⟩ := RV.al e
  exact ⟨a, rfl, rfl, rfl⟩
 | y :: l, _, a, .cons _ c _ cs h1 h2, e => by
  rw [tK] at e
  obtain ⟨k', b, rfl, e2⟩ := bB e
  obtain ⟨hk, e3⟩ := au e2
  have := gH hk
  subst this
  obtain ⟨n, r1, r2, r3⟩ := uV hf h2 e3
  refine ⟨n, r1, r2, ?_⟩
  rw [h1.aZ]
  simp only [List.foldlM_cons, Sem.run_bind, hf, Result.andThen_ok]
  exact r3
theorem xd {ts : Array TypeId} {ty : TypeId} {mn : Bool} {xs : List AO} {vs : List Value} (H : HR φ h w) (hx : cn φ (fm xs r) vs) (he : xe mn xs r h = .ok v h') :
  Good φ h w v h' ((if mn then Builtin.min_ ts ty vs.toArray else Builtin.max_ ts ty vs.toArray).run P w) := by
 change CI mn (fm xs r) h = _ at he
 generalize fm xs r = l at hx he
 cases hx with
 | nil => cases he
 | cons a c as cs h1 h2 =>
  have he : AV.dm a (fun k b => xb mn k h as b) (.err 76) = .ok v h' := he
  obtain ⟨k, b, rfl, e2⟩ := bB he
  rw [h1.aZ]
  cases mn with
  | false =>
   obtain ⟨n, r1, r2, r3⟩ := uV (P := P) (w := w) (f := Builtin.max2) (fun a b w => FD k a b) h2 e2
   subst r1 r2
   exact .same H (.int k n) (by simpa [Builtin.max_] using r3)
  | true =>
   obtain ⟨n, r1, r2, r3⟩ := uV (P := P) (w := w) (f := Builtin.min2) (fun a b w => FE k a b) h2 e2
   subst r1 r2
   exact .same H (.int k n) (by simpa [Builtin.min_] using r3)
variable {P : Program} {φ : aH} {h h' : Hp} {w : World} {v : AV} {x y z : AO} {r : A2} {cx cy : Value} {t : TypeId} {p q : Operand}
theorem yG {f : IntKind → Int → Int → AV} {a b : AV} (e : MD f a b h = .ok v h') : ∃ k k' m n, a = .int k m ∧ b = .int k' n ∧ v = f k m n ∧ h' = h ∧ v ≠ .undef := by
 obtain ⟨k, m, rfl, e4⟩ := bB e
 obtain ⟨k', n, rfl, e5⟩ := bB e4
 obtain ⟨e1, e2, e3⟩ := zZ e5
 exact ⟨k, k', m, n, rfl, rfl, e1.symm, e2, fun e => e3 (e1.trans e)⟩
theorem FF (H : HR φ h w) {a b : AV} (hx : VR φ a cx) (hy : VR φ b cy) (e : MD Ly a b h = .ok v h') : Good φ h w v h' ((do eqGuard .shl t p q cx cy; binOp .shl t cx cy : Sem Value).run P w) := by
 obtain ⟨k, k', m, n, rfl, rfl, rfl, rfl, hn⟩ := yG e
 rw [hx.aZ, hy.aZ]
 cases n with
 | negSucc n => exact absurd rfl hn
 | ofNat n =>
  have hv : Ly k m (.ofNat n) = .int k (k.wrap (m * 2 ^ (min n k.bits))) := by
   show AV.int k (gW k (Ij m (.ofNat (Nat.pow 2 (Nat.min n (gZ k)))))) = _
   rw [dh, uC, pV]
   congr 3
  rw [hv]
  refine .same H (.int _ _) ?_
  have h0 : ¬ ((n : Int) < 0) := by omega
  simp [eE, binOp, Op.shift, h0]
theorem FG (H : HR φ h w) {a b : AV} (hx : VR φ a cx) (hy : VR φ b cy) (e : MD Lz a b h = .ok v h') : Good φ h w v h' ((do eqGuard .shr t p q cx cy; binOp .shr t cx cy : Sem Value).run P w) := by
 obtain ⟨k, k', m, n, rfl, rfl, rfl, rfl, hn⟩ := yG e
 rw [hx.aZ, hy.aZ]
 cases n with
 | negSucc n => exact absurd rfl hn
 | ofNat n =>
  have hv : Lz k m (.ofNat n) = .int k (m.fdiv (2 ^ (min n k.bits))) := by
   cases m with
   | ofNat m =>
    show AV.int k (.ofNat (Nat.div m (Nat.pow 2 (Nat.min n (gZ k))))) = _
    rw [pV]
    congr 1
    have : (2 : Int) ^ (min n k.bits) = ((2 ^ (min n k.bits) : Nat) : Int) := by simp
    rw [this, Int.fdiv_eq_ediv_of_nonneg _ (Int.natCast_nonneg _)]
    rfl
   | negSucc m =>
    show AV.int k (Int.fdiv (.negSucc m) (2 ^ (Nat.min n (gZ k)))) = _
    rw [pV]
  rw [hv]
  refine .same H (.int _ _) ?_
  have h0 : ¬ ((n : Int) < 0) := by omega
  simp [eE, binOp, Op.shift, h0]
def PO (P : Program) (k : NK) (t : TypeId) : Prop := match k with
 | .s => ∃ e, P.underlying t = some (.slice e)
 | .m => ∃ a b, P.underlying t = some (.map a b)
 | .f => ∃ a b c, P.underlying t = some (.func a b c)
 | .i => ∃ a, P.underlying t = some (.interface a)
def rA (k : NK) : Value := match k with
 | .s => .slice none 0 0
 | .m => .map none
 | .f => .nilFunc
 | .i => .nilIface
theorem fg {k : NK} {y : Operand} (e : sr k y = true) : y = .const (rA k) := by
 unfold sr at e
 split at e <;> first | rfl | cases e
theorem xf (d : Nat) {k : NK} (hk : PO P k t) {a : AV} (hx : VR φ a cx) {c : Bool} (hc : rB k a = EB.of c) :
  (Op.equalIn (d + 1) t cx (rA k)).run P w = .ok c w ∧ (Op.equalIn (d + 1) t (rA k) cx).run P w = .ok c w := by
 unfold Op.equalIn
 cases k with
 | s =>
  obtain ⟨e, ht⟩ := hk
  simp only [Sem.run_bind, ai ht, Result.andThen_ok, rA]
  cases a <;> (try (cases c <;> cases hc; done)) <;> cases hx <;> cases c <;> (try (cases hc; done)) <;> exact ⟨rfl, rfl⟩
 | m =>
  obtain ⟨e, f, ht⟩ := hk
  simp only [Sem.run_bind, ai ht, Result.andThen_ok, rA]
  cases a <;> (try (cases c <;> cases hc; done)) <;> cases hx <;> cases c <;> (try (cases hc; done)) <;> exact ⟨rfl, rfl⟩
 | f =>
  obtain ⟨e, f, g, ht⟩ := hk
  simp only [Sem.run_bind, ai ht, Result.andThen_ok, rA]
  cases a <;> (try (cases c <;> cases hc; done)) <;> cases hx <;> cases c <;> (try (cases hc; done)) <;> exact ⟨rfl, rfl⟩
 | i =>
  obtain ⟨e, ht⟩ := hk
  simp only [Sem.run_bind, ai ht, Result.andThen_ok, rA]
  cases a <;> (try (cases c <;> cases hc; done)) <;> cases hx <;> cases c <;> (try (cases hc; done)) <;> exact ⟨rfl, rfl⟩
theorem xg {op : BinOp} {k : NK} {a : AV} (hx : VR φ a cx) {c : Bool} (hc : rB k a = EB.of c) (p : Operand) : (eqGuard op t p (.const (rA k)) cx (rA k)).run P w = .ok () w ∧ (eqGuard op t (.const (rA k)) p (rA k) cx).run P w = .ok () w := by
 unfold eqGuard
 cases k <;> cases a <;> (try (cases c <;> cases hc; done)) <;> cases hx <;> cases op <;> simp [rA]
theorem yH (k : NK) : (∀ j n, rA k ≠ .int j n) ∧ (∀ j n, rA k ≠ .float j n) ∧ (∀ j m n, rA k ≠ .complex j m n) ∧ (∀ s, rA k ≠ .string s) := by
 cases k <;> simp [rA]
theorem uW {k : NK} {a : AV} (hx : VR φ a cx) {c : Bool} (hc : rB k a = EB.of c) : (∀ j n, cx ≠ .int j n) ∧ (∀ j n, cx ≠ .float j n) ∧ (∀ j m n, cx ≠ .complex j m n) ∧ (∀ s, cx ≠ .string s) := by
 cases k <;> cases a <;> (try (cases c <;> cases hc; done)) <;> cases hx <;> simp
theorem bE (neg : Bool) {k : NK} (hk : PO P k t) (H : HR φ h w) {a : AV} (hx : VR φ a cx) (p : Operand) (e : EB.rv neg h (rB k a) = .ok v h') :
  Good φ h w v h' ((do eqGuard (if neg then .neq else .eql) t p (.const (rA k)) cx (rA k); binOp (if neg then .neq else .eql) t cx (rA k) : Sem Value).run P w) ∧
  Good φ h w v h' ((do eqGuard (if neg then .neq else .eql) t (.const (rA k)) p (rA k) cx; binOp (if neg then .neq else .eql) t (rA k) cx : Sem Value).run P w) := by
 obtain ⟨c, hc, rfl, rfl⟩ := ng e
 obtain ⟨r1, r2⟩ := xf (P := P) (w := w) 9999 hk hx hc
 obtain ⟨a1, a2, a3, a4⟩ := uW hx hc
 obtain ⟨b1, b2, b3, b4⟩ := yH k
 obtain ⟨g1, g2⟩ := eA r1 a1 a2 a3 a4
 obtain ⟨g3, g4⟩ := eA r2 b1 b2 b3 b4
 have hg := fun op => xg (P := P) (w := w) (op := op) (t := t) hx hc p
 constructor
 ·refine .same H (.bool _) ?_
  cases neg
  ·simp [(hg _).1, g1]
  ·simp [(hg _).1, g2]
 ·refine .same H (.bool _) ?_
  cases neg
  ·simp [(hg _).2, g3]
  ·simp [(hg _).2, g4]
inductive RT.aO : RT → RT → Prop
 | ok (v : AV) (h : Hp) : aO (.ok v h) (.ok v h)
 | err (n : Nat) : aO (.err n) (.err n)
 | ch (n : Nat) (k : Nat → RT) (c : Nat) (y : RT) : c < n → aO (k c) y → aO (.ch n k) y
def RT.Safe (x : RT) : Prop := ∀ n, ¬ x.aO (.err n)
theorem RT.Safe.err {n : Nat} (h : (RT.err n).Safe) : False := h n (.err n)
theorem RT.Safe.ch {n c : Nat} {k : Nat → RT} (h : (RT.ch n k).Safe) (hc : c < n) : (k c).Safe := fun m hm => h m (.ch n k c _ hc hm)
variable {P : Program} {φ : aH} {h h' : Hp} {w : World} {v : AV} {x y z : AO} {r : A2} {cx cy : Value} {t : TypeId}
def tM (φ : aH) (h : Hp) (w : World) (x : RT) (r : Result Value) : Prop := ∃ v h', x.aO (.ok v h') ∧ Good φ h w v h' r
theorem Good.kW {x : RT} {r : Result Value} (g : Good φ h w v h' r) (e : x = .ok v h') : tM φ h w x r := ⟨v, h', e ▸ .ok v h', g⟩
theorem HR.heap {w' : World} (H : HR φ h w) (e : w'.heap = w.heap) : HR φ h w' := ⟨by rw [e]; exact H.obj, H.inj, H.fresh, by rw [e]; exact H.bound⟩
theorem Step.heap {w' : World} (e : w'.heap = w.heap) (ht : w'.tape = w.tape) (ho : w'.os = w.os) (hu : w'.output = w.output) : Step φ h w φ h w' :=
 ⟨φ.le_refl, ⟨by rw [e]; exact Nat.le_refl _, fun b _ _ => by rw [e], ht, ho, hu⟩, fun _ _ a b => .inl ⟨a, b, id⟩⟩
theorem HR.newObj (H : HR φ h w) {o : Obj} {ob : Go.Obj} (hi : ah h.next h = .none) (ho : o ≠ .none) (hOR : OR (φ.put h.next ⟨w.heap.size, 0, 0⟩) o ⟨w.heap.size, 0, 0⟩ (some ob)) :
  Good φ h w (.ptr h.next 0) (.mk (cU h.next o h.tree) h.next.succ) (.ok (.pointer (some ⟨w.heap.size, 0, none⟩)) { w with heap := w.heap.push ob }) := by
 have hw : ({ w with heap := w.heap.push ob } : World).heap = w.heap.push ob := rfl
 have hle := aH.ir (φ := φ) (i := h.next) ⟨w.heap.size, 0, 0⟩ (H.fresh _ hi)
 have g1 := H.new (w' := { w with heap := w.heap.push ob }) (n' := h.next.succ) (room := 0) hi hw ho hOR
 refine ⟨_, _, _, rfl, ?_, g1, hle, .new hw rfl rfl rfl, fun j q hj hq => ?_⟩
 ·have := VR.ptr (φ := φ.put h.next ⟨w.heap.size, 0, 0⟩) h.next 0 _ (aH.aI _ _ _)
  simpa [Place.addr] using this
 ·rw [fe] at hj
  by_cases e : j = h.next
  ·subst e
   rw [aH.aI] at hq; cases hq
   exact .inr (.inl (Nat.le_refl _))
  ·rw [if_neg e] at hj
   exact .inl ⟨hj, by simpa [aH.put, e] using hq, fun x => by rw [fe, if_neg e] at x; exact x⟩
theorem run_newObj (o : Go.Obj) : (newObj o).run P w = .ok w.heap.size { w with heap := w.heap.push o } := by
 show (Sem.new o .pure).run P w = _
 simp [Sem.run]
theorem BN {k e : TypeId} (H : HR φ h w) (hx : VR φ (ev x r) cx) (ht : P.underlying t = some (.map k e)) (he : rC x r h = .ok v h') : Good φ h w v h' ((Instr.range t cx).run P w) := by
 rcases eW he with ⟨m, em, he2⟩ | ⟨em, he2⟩
 ·obtain ⟨l, c, hm, he3⟩ := dA he2
  rw [em] at hx
  obtain ⟨q, hq, rfl⟩ := hx.jD
  obtain ⟨es, h1, h2⟩ := H.map hm hq
  obtain ⟨hi, he4⟩ := iL he3
  obtain ⟨rfl, rfl⟩ := pU he4
  have hle := aH.ir (φ := φ) (i := h.next) ⟨w.heap.size, 0, 0⟩ (H.fresh _ hi)
  have := H.newObj (o := .th m c [] c) (ob := .mapIter (some q.cP) c #[] c) hi (by simp) ⟨rfl, q, hle _ _ hq, rfl⟩
  simp [Instr.range, ai ht, bU h1 rfl, run_newObj]
  exact this
 ·obtain ⟨hi, he4⟩ := iL he2
  obtain ⟨rfl, rfl⟩ := pU he4
  rw [em] at hx
  rw [hx.nq]
  have := H.newObj (o := .zU) (ob := .mapIter none 0 #[] 0) hi (by simp) ⟨rfl, rfl⟩
  simp [Instr.range, ai ht, run_newObj]
  exact this
variable {P : Program} {φ : aH} {h h' : Hp} {w : World} {v : AV} {x y z : AO} {r : A2} {cx cy : Value} {t : TypeId}
theorem Ac (x : Nat) : ∀ l : List Nat, IB x l = l.contains x
 | [] => rfl
 | y :: l => by
  show (@Bool.rec (fun _ => Bool) (IB x l) true (Nat.beq x y)) = _
  rw [Ac x l, List.contains_cons]
  by_cases e : x = y
  ·subst e; rw [Nat.beq_refl]; simp
  ·have : Nat.beq x y = false := by rw [← Bool.not_eq_true]; intro g; exact e (Nat.eq_of_beq_eq_true g)
   have e2 : (x == y) = false := by simp [e]
   rw [this, e2]; simp
theorem rD (seen : List Nat) : ∀ {l : List KV} {es : List MapEntry}, cE φ l es → cE φ (iw seen l) (es.filter fun e => !seen.contains e.born)
 | _, _, .nil => .nil
 | _, _, .cons k v b e l es h1 h2 h3 hr => by
  have ih := rD seen hr
  show cE φ (@Bool.rec (fun _ => List KV) (.cons (.mk k v b) (iw seen l)) (iw seen l) (IB b seen)) _
  rw [List.filter_cons, Ac, h3]
  cases hb : seen.contains b
  ·simp only [Bool.not_false, if_true]; exact .cons k v b e _ _ h1 h2 h3 ih
  ·simp only [Bool.not_true, Bool.false_eq_true, if_false]; exact ih
theorem rE (since : Nat) : ∀ {l : List KV} {es : List MapEntry}, cE φ l es → oT since l = false → ∀ e, e ∈ es → e.born < since
 | _, _, .nil, _, e, he => by cases he
 | _, _, .cons k v b e l es h1 h2 h3 hr, hf, e', he => by
  have hf : (@Bool.rec (fun _ => Bool) (oT since l) true (Nat.ble since b)) = false := hf
  cases hb : Nat.ble since b with
  | true => rw [hb] at hf; cases hf
  | false =>
   rw [hb] at hf
   rcases List.mem_cons.1 he with rfl | he
   ·rw [h3]
    rcases Nat.lt_or_ge b since with g | g
    ·exact g
    ·rw [Nat.ble_eq_true_of_le g] at hb; cases hb
   ·exact rE since hr hf e' he
theorem rF (last : Nat) : ∀ {l : List KV} {es : List MapEntry}, cE φ l es → oU last l = es.all fun e => decide (e.born ≥ last)
 | _, _, .nil => rfl
 | _, _, .cons k v b e l es h1 h2 h3 hr => by
  show (@Bool.rec (fun _ => Bool) false (oU last l) (Nat.ble last b)) = _
  rw [List.all_cons, rF last hr, h3]
  by_cases g : last ≤ b
  ·rw [Nat.ble_eq_true_of_le g]; simp [g]
  ·have : Nat.ble last b = false := by rw [← Bool.not_eq_true]; intro hh; exact g (Nat.le_of_ble_eq_true hh)
   rw [this]; simp [g]
theorem xh {α : Type} (l : List α) : lT l = l.isEmpty := by cases l <;> rfl
theorem cE.isEmpty : ∀ {l : List KV} {es : List MapEntry}, cE φ l es → l.isEmpty = es.isEmpty
 | _, _, .nil => rfl
 | _, _, .cons .. => rfl
theorem FH {α β : Type} (k : α → β) (e : β) : ∀ (l : List α) (i : Nat) (hi : i < l.length), nth l k e i = k l[i]
 | [], i, hi => by simp at hi
 | a :: l, 0, _ => rfl
 | a :: l, i + 1, hi => by
  show nth l k e i = _
  rw [FH k e l i (by simpa using hi)]; rfl
theorem cE.get : ∀ {l : List KV} {es : List MapEntry}, cE φ l es → ∀ (i : Nat) (h1 : i < l.length) (h2 : i < es.length), ∃ k v, l[i] = .mk k v es[i].born ∧ VR φ k es[i].key ∧ VR φ v es[i].val
 | _, _, .cons k v b e l es h1 h2 h3 hr, 0, _, _ => ⟨k, v, by simp [h3], h1, h2⟩
 | _, _, .cons k v b e l es h1 h2 h3 hr, i + 1, g1, g2 => cE.get hr i (by simpa using g1) (by simpa using g2)
theorem xi (n : Nat) (hn : 0 < n) : ∃ c w1, (choose (.mapNext n)).run P w = .ok c w1 ∧ c < n ∧ w1.heap = w.heap ∧ w1.tape = w.tape ∧ w1.os = w.os ∧ w1.output = w.output := by
 by_cases h1 : n ≤ 1
 ·refine ⟨0, w, ?_, by omega, rfl, rfl, rfl, rfl⟩
  rw [run_choose_drew, if_pos (by simp [Question.forced, h1])]
 ·refine ⟨(Question.mapNext n).cut (w.tape w.drawn (.mapNext n)), w.drew, ?_, ?_, rfl, rfl, rfl, rfl⟩
  ·rw [run_choose_drew, if_neg (by simp [Question.forced, h1])]
  ·exact Nat.mod_lt _ hn
theorem mz {b : Nat} {o : Go.Obj} (h1 : w.heap[b]? = some o) (hp : ∀ a c d, o ≠ .cells a c d) : (getObj b).run P w = .ok o w := by
 show (Sem.getObj b .pure).run P w = _
 cases o <;> first | exact absurd rfl (hp _ _ _) | simp only [Sem.run, h1]
theorem FI {f : KV → RT} (hf : ∀ y, ∃ v h', f y = .ok v h') (h : Hp) : ∀ (U : List KV) (c : Nat) (hc : c < U.length), (ME f h U).aO (f U[c])
 | [], c, hc => by simp at hc
 | [y], c, hc => by
  have : c = 0 := by simp at hc; omega
  subst this
  show (f y).aO (f y)
  obtain ⟨v, h', e⟩ := hf y
  rw [e]; exact .ok _ _
 | y :: y2 :: t, c, hc => by
  refine .ch _ _ c _ hc ?_
  rw [FH _ _ _ c hc]
  obtain ⟨v, h', e⟩ := hf (y :: y2 :: t)[c]
  rw [e]; exact .ok _ _
theorem HR.setIter (H : HR φ h w) {i : P4} {p : Place} {o' : Obj} {ob : Go.Obj} (hl : live (ah i h)) (hp : φ i = some p) (hO : OR φ o' p (some ob)) (ho : o' ≠ .none) (hl' : live o') (hr : (ah i h).ro = false) {o0 : Go.Obj} (h0 : w.heap[p.cP]? = some o0) (PQ : ∀ a c d, o0 ≠ .cells a c d) :
  (setObj p.cP ob).run P w = .ok () { w with heap := w.heap.setIfInBounds p.cP ob } ∧ HR φ (cI i o' h) { w with heap := w.heap.setIfInBounds p.cP ob } ∧ Step φ h w φ (cI i o' h) { w with heap := w.heap.setIfInBounds p.cP ob } := by
 have hb : p.cP < w.heap.size := H.bound i p hp
 have hne : ∀ b, b ≠ p.cP → (w.heap.setIfInBounds p.cP ob)[b]? = w.heap[b]? := fun b hb => by
  rw [Array.getElem?_setIfInBounds, if_neg (fun e => hb e.symm)]
 refine ⟨?_, H.set ⟨hl, hr⟩ hp (by simp) hne (by simpa [hb] using hO) ho, φ.le_refl, fQ.set ⟨hl, hr⟩ hp (by simp) hne rfl rfl rfl, fun j q hj hq => ?_⟩
 ·show (Sem.setObj p.cP ob (.pure ())).run P w = _
  cases o0 <;> first | exact absurd rfl (PQ _ _ _) | simp only [Sem.run, h0]
 ·rw [aD] at hj
  by_cases e : j = i
  ·subst e; exact .inl ⟨hl, hq, fun _ => ⟨hl, hr⟩⟩
  ·rw [if_neg e] at hj; exact .inl ⟨hj, hq, fun x => by rw [aD, if_neg e] at x; exact x⟩
theorem yI {ty : TypeId} {a : AV} (H : HR φ h w) (hx : VR φ a cx) (hs : (FJ a h).Safe) : tM φ h w (FJ a h) ((Instr.next cx false ty).run P w) := by
 cases a <;> (try exact (RT.Safe.err hs).elim)
 rename_i i o
 obtain ⟨p, hp, rfl⟩ := hx.eX
 cases o with
 | succ o => exact (RT.Safe.err hs).elim
 | zero =>
  change RT.Safe (Obj.rec (.err 98) (.err 98) (fun _ _ _ _ _ => .err 98) (fun _ _ => .err 98) (fun _ _ => .err 98) (fun m since seen last => MF i m since seen last h) (over h).kW (ah i h)) at hs
  show tM φ h w (Obj.rec (.err 98) (.err 98) (fun _ _ _ _ _ => .err 98) (fun _ _ => .err 98) (fun _ _ => .err 98) (fun m since seen last => MF i m since seen last h) (over h).kW (ah i h)) _
  cases hi : ah i h <;> rw [hi] at hs <;> (try exact (RT.Safe.err hs).elim)
  ·rename_i m since seen last
   have hl : live (ah i h) := by rw [hi]; exact ⟨by simp, by simp⟩
   obtain ⟨p', hp', hor⟩ := H.obj i hl
   rw [hp] at hp'; cases hp'
   rw [hi] at hor
   obtain ⟨hb0, q, hq, hw⟩ := hor
   have hs : (MF i m since seen last h).Safe := hs
   show tM φ h w (MF i m since seen last h) _
   unfold MF at hs ⊢
   cases hm : ah m h <;> rw [hm] at hs <;> (try exact (RT.Safe.err hs).elim)
   rename_i l clock
   have hs : RT.Safe (@Bool.rec (fun _ => RT) (@Bool.rec (fun _ => RT) (ME (tP i m since seen clock h) h (iw seen l)) (.err 100) (Bool.and (Bool.not (lT seen)) (Bool.and (Bool.not (lT l)) (oU last l)))) (.err 103) (oT since l)) := hs
   show tM φ h w (@Bool.rec (fun _ => RT) (@Bool.rec (fun _ => RT) (ME (tP i m since seen clock h) h (iw seen l)) (.err 100) (Bool.and (Bool.not (lT seen)) (Bool.and (Bool.not (lT l)) (oU last l)))) (.err 103) (oT since l)) _
   cases hA : oT since l with
   | true => rw [hA] at hs; exact (RT.Safe.err hs).elim
   | false =>
    cases hB : Bool.and (Bool.not (lT seen)) (Bool.and (Bool.not (lT l)) (oU last l)) with
    | true => rw [hA, hB] at hs; exact (RT.Safe.err hs).elim
    | false =>
     rw [hA, hB] at hs
     have hs : (ME (tP i m since seen clock h) h (iw seen l)).Safe := hs
     show tM φ h w (ME (tP i m since seen clock h) h (iw seen l)) _
     obtain ⟨es, g1, g2⟩ := H.map hm hq
     have hB' : (!seen.toArray.isEmpty && !es.isEmpty && es.all fun e => decide (e.born ≥ last)) = false := by
      rw [← hB, xh, xh, rF last g2, g2.isEmpty]
      simp [Bool.and_assoc]
     have hold := rE since g2 hA
     have hu := rD seen g2
     generalize hL : (es.toList.filter fun e => !seen.contains e.born) = L at hu
     have hleft : (es.filter fun e => !seen.toArray.contains e.born) = L.toArray := by
      rw [← hL]; apply Array.ext'; simp
     have hLb : ∀ e, e ∈ L → e.born < since := fun e he => hold e (by rw [← hL] at he; exact (List.mem_filter.1 he).1)
     have ho1 : Array.filter (fun e => decide (e.born < since)) L.toArray 0 L.length = L.toArray := by
      show L.toArray.filter (fun e => decide (e.born < since)) = _
      rw [Array.filter_eq_self]; intro e he; simpa using hLb e (by simpa using he)
     have ho2 : Array.filter (fun e => decide (e.born ≥ since)) L.toArray 0 L.length = #[] := by
      show L.toArray.filter (fun e => decide (e.born ≥ since)) = _
      rw [Array.filter_eq_empty_iff]; intro e he; have := hLb e (by simpa using he); simp; exact this
     have haddr : p.addr 0 = ⟨p.cP, 0, none⟩ := by simp [Place.addr, hb0]
     have hobj : (getObj p.cP).run P w = .ok (.mapIter (some q.cP) since seen.toArray last) w := mz hw (by simp)
     have hmap : ∀ w1 : World, (getObj q.cP).run P w = .ok (.map es clock) w := fun _ => bU g1 rfl
     -- the run, up to the choice
     have hcand : ((if L.toArray.isEmpty then #[(none : Option MapEntry)] else #[]) ++ (L.toArray ++ #[]).map some) = (if L.isEmpty then [none] else L.map some).toArray := by
      cases L <;> simp
     have hrun : ∀ c w1 o, (choose (.mapNext (if L.isEmpty then [none] else L.map some).length)).run P w = .ok c w1 → (if L.isEmpty then [none] else L.map some)[c]? = some o →
       (Instr.next (.pointer (some (p.addr 0))) false ty).run P w = (match o with
        | some e => ((do setObj p.cP (.mapIter (some q.cP) since (seen.toArray.push e.born) clock); pure (.tuple #[.bool true, e.key, e.val])) : Sem Value).run P w1
        | none => (.ok (.tuple #[.bool false]) w1 : Result Value)) := by
      intro c w1 o hc ho
      rw [haddr]
      simp only [Instr.next, Sem.run_bind, hobj, Result.andThen_ok, hmap w, hB', Bool.false_eq_true, if_false, hleft, ho1, ho2, hcand, List.size_toArray, hc]
      simp only [List.getElem?_toArray, ho]
      cases o <;> simp
     obtain ⟨c, w1, hc, hcn, e1, e2, e3, e4⟩ := xi (P := P) (w := w) (if L.isEmpty then [none] else L.map some).length (by cases L <;> simp)
     have H1 : HR φ h w1 := H.heap e1
     have S1 : Step φ h w φ h w1 := Step.heap e1 e2 e3 e4
     cases hL2 : L with
     | nil =>
      rw [hL2] at hu hrun hc hcn
      have hz : c = 0 := by simpa using hcn
      rw [hrun c w1 none hc (by subst hz; rfl)]
      cases hun : iw seen l with
      | cons y t => rw [hun] at hu; cases hu
      | nil => exact ⟨_, _, .ok _ _, _, _, φ, rfl, .ku [_] [_] (.cons _ _ _ _ (.bool _) .nil), H1, S1⟩
     | cons e0 L' =>
      rw [hL2] at hu hrun hc hcn
      have hlen := hu.length
      have hcn' : c < (e0 :: L').length := by simpa using hcn
      obtain ⟨k, u, hk, hv1, hv2⟩ := hu.get c (by omega) hcn'
      rw [hrun c w1 (some (e0 :: L')[c]) hc (by simp only [List.isEmpty_cons, Bool.false_eq_true, if_false, List.getElem?_map, List.getElem?_eq_getElem hcn', Option.map_some])]
      have hw1 : w1.heap[p.cP]? = some (.mapIter (some q.cP) since seen.toArray last) := by rw [e1]; exact hw
      obtain ⟨s1, s2, s3⟩ := HR.setIter (P := P) H1 (o' := .th m since (seen ++ [(e0 :: L')[c].born]) clock) (ob := .mapIter (some q.cP) since (seen.toArray.push (e0 :: L')[c].born) clock) hl hp ⟨hb0, q, hq, by simp⟩ (by simp) ⟨by simp, by simp⟩ (by rw [hi]; rfl) hw1 (by simp)
      have hlf := FI (f := tP i m since seen clock h) (fun y => by cases y; exact ⟨_, _, rfl⟩) h (iw seen l) c (by omega)
      rw [hk] at hlf
      refine ⟨_, _, hlf, .tuple #[.bool true, (e0 :: L')[c].key, (e0 :: L')[c].val], _, φ, ?_, ?_, s2, S1.trans s3⟩
      ·simp only [Sem.run_bind, s1, Result.andThen_ok, Sem.run_pure]
      ·exact .ku [_, _, _] [_, _, _] (.cons _ _ _ _ (.bool _) (.cons _ _ _ _ hv1 (.cons _ _ _ _ hv2 .nil)))
  ·have hl : live (ah i h) := by rw [hi]; exact ⟨by simp, by simp⟩
   obtain ⟨p', hp', hor⟩ := H.obj i hl
   rw [hp] at hp'; cases hp'
   rw [hi] at hor
   obtain ⟨hb0, hw⟩ := hor
   have haddr : p.addr 0 = ⟨p.cP, 0, none⟩ := by simp [Place.addr, hb0]
   have hobj : (getObj p.cP).run P w = .ok (.mapIter none 0 #[] 0) w := mz hw (by simp)
   refine ⟨_, _, .ok _ _, .same H (cv := .tuple #[.bool false]) (.ku [_] [_] (.cons _ _ _ _ (.bool _) .nil)) ?_⟩
   rw [haddr]
   simp only [Instr.next, Sem.run_bind, hobj, Result.andThen_ok, Sem.run_pure]
variable {P : Program} {φ : aH} {h h' : Hp} {w : World} {v : AV} {x y z : AO} {r : A2} {cx cy : Value} {t : TypeId}
theorem xj : ∀ {l : List Nat} {k : Nat → RV} {n : Nat}, FK l k (.err n) = .ok v h → ∃ b, l.getLast? = some b ∧ k b = .ok v h
 | [], _, _, e => by cases e
 | [a], _, _, e => ⟨a, rfl, e⟩
 | a :: b :: l, k, n, e => by
  obtain ⟨c, h1, h2⟩ := xj (l := b :: l) (show FK (b :: l) k (.err n) = _ from e)
  exact ⟨c, by rw [List.getLast?_cons_cons]; exact h1, h2⟩
theorem xk {b n : Nat} {k : AV → AV → RV} : ∀ {l : List KV} {es : List MapEntry}, cE φ l es → FL b l k (.err n) = .ok v h → ∃ e a c, es.find? (fun e => e.born == b) = some e ∧ VR φ a e.key ∧ VR φ c e.val ∧ k a c = .ok v h
 | _, _, .nil, e => by cases e
 | _, _, .cons a c b' e l es h1 h2 h3 hr, he => by
  have he : (@Bool.rec (fun _ => RV) (FL b l k (.err n)) (k a c) (Nat.beq b b')) = _ := he
  rw [List.find?_cons]
  cases hb : Nat.beq b b' with
  | true =>
   rw [hb] at he
   have hb := Nat.eq_of_beq_eq_true hb
   have : (e.born == b) = true := by simp [h3, hb]
   rw [this]
   exact ⟨e, a, c, rfl, h1, h2, he⟩
  | false =>
   rw [hb] at he
   have hne : e.born ≠ b := by
    intro e1; rw [h3] at e1; subst e1; rw [Nat.beq_refl] at hb; cases hb
   have : (e.born == b) = false := by simp [hne]
   rw [this]
   exact xk hr he
theorem FM (H : HR φ h w) (hx : VR φ (ev x r) cx) (he : xl x r h = .ok v h') : Good φ h w v h' ((Instr.entry cx).run P w) := by
 obtain ⟨i, o, ep, he⟩ := cA he
 rw [ep] at hx
 obtain ⟨p, hp, rfl⟩ := hx.eX
 cases o with
 | succ o => cases he
 | zero =>
  change (Obj.rec (.err 104) (.err 104) (fun _ _ _ _ _ => .err 104) (fun _ _ => .err 104) (fun _ _ => .err 104) (fun m _ seen stepped => LA m seen stepped h) (.err 104) (ah i h) : RV) = _ at he
  cases hi : ah i h <;> rw [hi] at he <;> (try (cases he; done))
  rename_i m since seen stepped
  have hl : live (ah i h) := by rw [hi]; exact ⟨by simp, by simp⟩
  obtain ⟨p', hp', hor⟩ := H.obj i hl
  rw [hp] at hp'; cases hp'
  rw [hi] at hor
  obtain ⟨hb0, q, hq, hw⟩ := hor
  obtain ⟨b, hb, he⟩ := xj (show LA m seen stepped h = _ from he)
  obtain ⟨l, clock, hm, he⟩ := dA he
  obtain ⟨hc, he⟩ := au he
  have hc := Nat.eq_of_beq_eq_true hc
  obtain ⟨es, g1, g2⟩ := H.map hm hq
  obtain ⟨e, a, c, f1, f2, f3, he⟩ := xk g2 he
  obtain ⟨rfl, rfl⟩ := RV.al he
  have haddr : p.addr 0 = ⟨p.cP, 0, none⟩ := by simp [Place.addr, hb0]
  have hobj : (getObj p.cP).run P w = .ok (.mapIter (some q.cP) since seen.toArray stepped) w := mz hw (by simp)
  refine .same H (cv := .tuple #[e.key, e.val]) (.ku [_, _] [_, _] (.cons _ _ _ _ f2 (.cons _ _ _ _ f3 .nil))) ?_
  rw [haddr]
  have hback : seen.toArray.back? = some b := by rw [← hb]; simp
  have hfind : es.find? (fun e => e.born == b) = some e := by rw [← Array.find?_toList]; exact f1
  subst hc
  simp [Instr.entry, hobj, hback, bU g1 rfl, hfind]
variable {P : Program} {φ : aH} {h h' : Hp} {w : World} {v : AV} {r : A2} {cx cy : Value}
section
variable {t : TypeId} {p q : Operand}
theorem pI {op : BinOp} {k k' : FloatKind} {m n : Nat} : (eqGuard op t p q (.float k m) (.float k' n)).run P w = .ok () w := by
 unfold eqGuard
 cases op <;> simp
theorem oV {op : BinOp} {k k' : FloatKind} {a b c d : Nat} : (eqGuard op t p q (.complex k a b) (.complex k' c d)).run P w = .ok () w := by
 unfold eqGuard
 cases op <;> simp
theorem IC {k : FloatKind} {op : BinOp} {a b : Nat} (e : ID k op a b h = .ok v h') : h' = h ∧ ∃ c, (binOp op t (.float k a) (.float k b)).run P w = .ok c w ∧ VR φ v c := by
 cases op <;> first | (cases e; done) | skip
 case add =>
  have e : (match k.format.add a b with | some r => RV.ok (.nQ k r) h | none => .err 7) = .ok v h' := e
  cases hr : k.format.add a b with
  | none => rw [hr] at e; cases e
  | some r =>
   rw [hr] at e
   obtain ⟨rfl, rfl⟩ := RV.al e
   exact ⟨rfl, _, by simp [binOp, Op.floatArith, hr], .nQ _ _⟩
 case sub =>
  have e : (match k.format.sub a b with | some r => RV.ok (.nQ k r) h | none => .err 7) = .ok v h' := e
  cases hr : k.format.sub a b with
  | none => rw [hr] at e; cases e
  | some r =>
   rw [hr] at e
   obtain ⟨rfl, rfl⟩ := RV.al e
   exact ⟨rfl, _, by simp [binOp, Op.floatArith, hr], .nQ _ _⟩
 case mul =>
  have e : (match k.format.mul a b with | some r => RV.ok (.nQ k r) h | none => .err 7) = .ok v h' := e
  cases hr : k.format.mul a b with
  | none => rw [hr] at e; cases e
  | some r =>
   rw [hr] at e
   obtain ⟨rfl, rfl⟩ := RV.al e
   exact ⟨rfl, _, by simp [binOp, Op.floatArith, hr], .nQ _ _⟩
 case quo =>
  have e : (match k.format.div a b with | some r => RV.ok (.nQ k r) h | none => .err 7) = .ok v h' := e
  cases hr : k.format.div a b with
  | none => rw [hr] at e; cases e
  | some r =>
   rw [hr] at e
   obtain ⟨rfl, rfl⟩ := RV.al e
   exact ⟨rfl, _, by simp [binOp, Op.floatArith, hr], .nQ _ _⟩
 all_goals
  obtain ⟨rfl, rfl⟩ := RV.al e
  exact ⟨rfl, _, by simp [binOp, Op.floatCmp], .bool _⟩
theorem FN {op : BinOp} (H : HR φ h w) {a b : AV} (hx : VR φ a cx) (hy : VR φ b cy) (e : FO op a b h = .ok v h') : Good φ h w v h' ((do eqGuard op t p q cx cy; binOp op t cx cy : Sem Value).run P w) := by
 obtain ⟨k, m, ea, e1⟩ := ew e
 obtain ⟨k', n, eb, e2⟩ := ew e1
 obtain ⟨hk, e3⟩ := au e2
 clear e e1 e2
 obtain rfl := iU hk
 subst ea eb
 rw [hx.nt, hy.nt]
 obtain ⟨rfl, c, h1, h2⟩ := IC (P := P) (w := w) (t := t) (φ := φ) e3
 refine .same H h2 ?_
 simp [pI, h1]
theorem FP {k : FloatKind} {op : BinOp} {a b c d : Nat} (e : Ad k op a b c d h = .ok v h') : h' = h ∧ ∃ x, (binOp op t (.complex k a b) (.complex k c d)).run P w = .ok x w ∧ VR φ v x := by
 cases op <;> first | (cases e; done) | skip
 case add =>
  have e : (match k.format.add a c, k.format.add b d with | some r, some s => RV.ok (.fZ k r s) h | _, _ => .err 8) = .ok v h' := e
  cases hr : k.format.add a c with
  | none => rw [hr] at e; cases e
  | some r =>
   cases hs : k.format.add b d with
   | none => rw [hr, hs] at e; cases e
   | some s =>
    rw [hr, hs] at e
    obtain ⟨rfl, rfl⟩ := RV.al e
    exact ⟨rfl, _, run_complex_sum w .add (.inl rfl) t k a b c d r s (by simp [cSumBits, floatBits, hr, hs]), .fZ _ _ _⟩
 case sub =>
  have e : (match k.format.sub a c, k.format.sub b d with | some r, some s => RV.ok (.fZ k r s) h | _, _ => .err 8) = .ok v h' := e
  cases hr : k.format.sub a c with
  | none => rw [hr] at e; cases e
  | some r =>
   cases hs : k.format.sub b d with
   | none => rw [hr, hs] at e; cases e
   | some s =>
    rw [hr, hs] at e
    obtain ⟨rfl, rfl⟩ := RV.al e
    exact ⟨rfl, _, run_complex_sum w .sub (.inr rfl) t k a b c d r s (by simp [cSumBits, floatBits, hr, hs]), .fZ _ _ _⟩
 all_goals
  obtain ⟨rfl, rfl⟩ := RV.al e
 ·exact ⟨rfl, _, run_eql_complex w t k a b c d, .bool _⟩
 ·exact ⟨rfl, _, run_neq_complex w t k a b c d, .bool _⟩
theorem FQ {op : BinOp} (H : HR φ h w) {a b : AV} (hx : VR φ a cx) (hy : VR φ b cy) (e : FR op a b h = .ok v h') : Good φ h w v h' ((do eqGuard op t p q cx cy; binOp op t cx cy : Sem Value).run P w) := by
 obtain ⟨k, m, n, ea, e1⟩ := fx e
 obtain ⟨k', m', n', eb, e2⟩ := fx e1
 obtain ⟨hk, e3⟩ := au e2
 clear e e1 e2
 obtain rfl := iU hk
 subst ea eb
 rw [hx.nu, hy.nu]
 obtain ⟨rfl, c, h1, h2⟩ := FP (P := P) (w := w) (t := t) (φ := φ) e3
 refine .same H h2 ?_
 simp [oV, h1]
end
theorem FT {a : AV} {s d : TypeId} {kd : IntKind} {k : FloatKind} (H : HR φ h w) (hx : VR φ a cx) (hs : P.underlying s = some (.int kd)) (hd : P.underlying d = some (.float k)) (e : FU k a h = .ok v h') : Good φ h w v h' ((convert s d cx).run P w) := by
 obtain ⟨ki, n, rfl, e1⟩ := bB e
 obtain ⟨rfl, rfl⟩ := RV.al e1
 rw [hx.aZ]
 exact .same H (.nQ _ _) (by simp [convert, ai hs, ai hd, Conv.intToFloat])
theorem FV {a : AV} {s d : TypeId} {kd : IntKind} {k : FloatKind} (H : HR φ h w) (hx : VR φ a cx) (hs : P.underlying s = some (.float k)) (hd : P.underlying d = some (.int kd)) (e : FW kd a h = .ok v h') : Good φ h w v h' ((convert s d cx).run P w) := by
 obtain ⟨kf, n, rfl, e1⟩ := ew e
 clear e
 rw [hx.nt]
 have e : (match (kf.decode n).toInt .zero with | some n => if kd.min ≤ n ∧ n ≤ kd.max then RV.ok (.int kd n) h else .err 37 | none => .err 37) = .ok v h' := e1
 cases hr : (kf.decode n).toInt .zero with
 | none => rw [hr] at e; cases e
 | some m =>
  rw [hr] at e
  have e2 : (if kd.min ≤ m ∧ m ≤ kd.max then RV.ok (.int kd m) h else .err 37) = .ok v h' := e
  by_cases hb : kd.min ≤ m ∧ m ≤ kd.max
  ·rw [if_pos hb] at e2
   obtain ⟨rfl, rfl⟩ := RV.al e2
   refine .same H (.int _ _) ?_
   simp [convert, ai hs, ai hd, Conv.floatToInt, hr, hb]
  ·rw [if_neg hb] at e2; cases e2
theorem BO {x : AO} {ts : Array TypeId} {ty : TypeId} (H : HR φ h w) (hx : VR φ (ev x r) cx) (he : mA false x r h = .ok v h') : Good φ h w v h' ((Builtin.real_ ts ty #[cx]).run P w) := by
 obtain ⟨k, a, b, ea, he⟩ := fx he
 obtain ⟨rfl, rfl⟩ := RV.al he
 rw [ea] at hx
 rw [hx.nu]
 exact .same H (.nQ _ _) (run_real w ts ty k a b)
theorem BP {x : AO} {ts : Array TypeId} {ty : TypeId} (H : HR φ h w) (hx : VR φ (ev x r) cx) (he : mA true x r h = .ok v h') : Good φ h w v h' ((Builtin.imag_ ts ty #[cx]).run P w) := by
 obtain ⟨k, a, b, ea, he⟩ := fx he
 obtain ⟨rfl, rfl⟩ := RV.al he
 rw [ea] at hx
 rw [hx.nu]
 exact .same H (.nQ _ _) (run_imag w ts ty k a b)
variable {P : Program} {φ : aH} {h h' : Hp} {w : World} {v : AV} {x y z : AO} {r : A2} {cx cy cz : Value}
theorem cE.FX : ∀ {l : List KV} {es : List MapEntry} (j : Nat) {k val : AV} {ck : Value} {e : MapEntry}, cE φ l es → VR φ k ck → es[j]? = some e → VR φ val e.val → cE φ (uS j k val l) (es.modify j fun e => { e with key := ck })
 | _, _, j, _, _, _, _, .nil, _, he, _ => by simp at he
 | _, _, 0, k, val, ck, e', .cons k0 v0 b e l es a c d r, h1, he, h2 => by
  have he : some e = some e' := by simpa using he
  cases he
  exact .cons _ _ _ _ _ _ h1 h2 d r
 | _, _, j + 1, k, val, ck, e', .cons k0 v0 b e l es a c d r, h1, he, h2 => .cons k0 v0 b e _ _ a c d (cE.FX j r h1 (by simpa using he) h2)
theorem cE.FY : ∀ {l : List KV} {es : List MapEntry} (j : Nat) {a val : AV} {cv : Value}, cE φ l es → VR φ val cv → (∃ vv bb, l[j]? = some (KV.mk a vv bb)) → cE φ (uS j a val l) (es.modify j fun e => { e with val := cv })
 | _, _, j, _, _, _, .nil, _, ⟨_, _, he⟩ => by simp at he
 | _, _, 0, a', val, cv, .cons k0 v0 b e l es p c d r, h1, ⟨vv, bb, he⟩ => by
  have he : some (KV.mk k0 v0 b) = some (KV.mk a' vv bb) := by simpa using he
  cases he
  exact .cons _ _ _ _ _ _ p h1 d r
 | _, _, j + 1, a', val, cv, .cons k0 v0 b e l es p c d r, h1, ⟨vv, bb, he⟩ => .cons k0 v0 b e _ _ p c d (cE.FY j r h1 ⟨vv, bb, by simpa using he⟩)
noncomputable def FZ (b : Nat) (l : List KV) (k : Nat → AV → RV) (e : RV) (i : Nat) : RV := dx (β := Nat → RV) (fun _ => e)
 (fun y _ ih i => @KV.rec (fun _ => RV) (fun a _ c => @Bool.rec (fun _ => RV) (ih (Nat.succ i)) (k i a) (Nat.beq b c)) y) l i
theorem IE (b : Nat) (l : List KV) (k : Nat → AV → RV) (e : RV) : Np b l k e = FZ b l k e 0 := rfl
theorem Ae {b q : Nat} {k : Nat → AV → RV} : ∀ {l : List KV} {es : List MapEntry} {i : Nat}, cE φ l es → FZ b l k (.err q) i = .ok v h' →
  ∃ j a vv bb, l[j]? = some (KV.mk a vv bb) ∧ es.findIdx? (fun e => (e.born : Int) == (b : Int)) = some j ∧ k (i + j) a = .ok v h'
 | _, _, _, .nil, he => by cases he
 | _, _, i, .cons a c b' e l es h1 h2 h3 hr, he => by
  have he : (@Bool.rec (fun _ => RV) (FZ b l k (.err q) (i + 1)) (k i a) (Nat.beq b b')) = .ok v h' := he
  rw [List.findIdx?_cons]
  cases hb : Nat.beq b b' with
  | true =>
   rw [hb] at he
   have hb := Nat.eq_of_beq_eq_true hb
   have h4 : ((e.born : Int) == (b : Int)) = true := by simp [h3, hb]
   rw [h4]
   exact ⟨0, a, c, b', rfl, rfl, he⟩
  | false =>
   rw [hb] at he
   have hne : e.born ≠ b := by
    intro e1; rw [h3] at e1; subst e1; rw [Nat.beq_refl] at hb; cases hb
   have h4 : ((e.born : Int) == (b : Int)) = false := by
    rw [beq_eq_false_iff_ne]
    intro g
    exact hne (by omega)
   rw [h4]
   obtain ⟨j, a', vv, bb, q1, q2, q3⟩ := Ae (l := l) (i := i + 1) hr he
   refine ⟨j + 1, a', vv, bb, by simpa using q1, by simp [q2], ?_⟩
   rw [show i + (j + 1) = i + 1 + j by omega]; exact q3
theorem BQ {t k e : TypeId} {kt : KT} {zv : AV} (H : HR φ h w) {a b : AV} (hx : VR φ a cx) (hy : VR φ b cy) (ht : P.underlying t = some (.map k e)) (hk : lZ P k = some kt) (hz : ji P e = some zv)
  (he : vV kt zv a b h = .ok v h') : Good φ h w v h' ((Instr.mapEntry t cx cy).run P w) := by
 obtain ⟨hok, he⟩ := au he
 obtain ⟨d, hd⟩ := nv hk
 unfold ji at hz
 simp only [Option.bind_eq_some_iff] at hz
 obtain ⟨cz, ⟨inf, hinf, hcz⟩, hz⟩ := hz
 have hvz := nc hz φ
 rcases eW he with ⟨i, rfl, he2⟩ | ⟨rfl, he2⟩
 ·obtain ⟨l, ck, hi, he3⟩ := dA he2
  obtain ⟨p, hp, rfl⟩ := hx.jD
  obtain ⟨es, h1, h2⟩ := H.map hi hp
  rw [kR] at he3
  have hck := fun em => run_checkKey (w := w) hk hy hok em
  rcases iV he3 with ⟨g1, g2⟩ | ⟨j, kk, val, bb, g1, g2⟩
  ·obtain ⟨cr, f1, f2, f3⟩ := g1.find H hd hk hy 0 h2
   cases cr with
   | some q => exact f3.elim
   | none =>
    obtain ⟨rfl, rfl⟩ := RV.al g2
    obtain ⟨s1, s2, s3⟩ := HR.oP (P := P) (ck' := ck + 1) H hi hp (es := es.push { key := cy, val := cz, born := ck }) (l' := snoc l (.mk b zv ck)) (by rw [Array.toList_push]; exact h2.snoc hy hvz rfl) h1
    refine ⟨.tuple #[cz, .int .i64 ck], _, φ, ?_, .ku [_, _] [_, _] (.cons _ _ _ _ hvz (.cons _ _ _ _ (.int _ _) .nil)), s2, s3⟩
    simp [Instr.mapEntry, ai ht, bU h1 rfl, hck, run_findKey hd f1 f2, zeroValue, bD hinf, hcz, s1, goInt]
  ·obtain ⟨cr, f1, f2, f3⟩ := g1.find H hd hk hy 0 h2
   cases cr with
   | none => exact f3.elim
   | some q =>
    obtain ⟨j', cv⟩ := q
    obtain ⟨rfl, u0, e0, u1, u2, u3, u4, u5⟩ := f3
    obtain ⟨rfl, rfl⟩ := RV.al g2
    have hsb := nA (h := h) hy u3 u4
    have hes : (es.modify (0 + j) fun e => { e with key := cy }).toList = es.toList.modify (0 + j) fun e => { e with key := cy } := by simp
    obtain ⟨s1, s2, s3⟩ := HR.oP (P := P) (ck' := ck) H hi hp (es := es.modify (0 + j) fun e => { e with key := cy }) (l' := uS (0 + j) b val l) (by rw [hes]; exact h2.FX _ hy (by rw [Nat.zero_add]; exact u1) (by rw [u2]; exact u0)) h1
    have hge : es[0 + j]? = some e0 := by rw [Nat.zero_add]; simpa using u1
    have hks : (Instr.keyThatStays (((es[0 + j]?).map (·.key)).getD cy) cy).run P w = .ok cy w := by
     rw [hge]
     simp [Instr.keyThatStays, hsb]
    have hbn : ((es[0 + j]?).map (fun x => (x.born : Int))).getD 0 = (bb : Int) := by rw [hge]; exact congrArg Int.ofNat u5
    refine ⟨.tuple #[cv, .int .i64 bb], _, φ, ?_, .ku [_, _] [_, _] (.cons _ _ _ _ u0 (.cons _ _ _ _ (.int _ _) .nil)), s2, s3⟩
    simp only [Instr.mapEntry, Sem.run_bind, ai ht, Result.andThen_ok, bU h1 rfl, hck, run_findKey hd f1 f2, hks, s1, Sem.run_pure, hbn]
    rfl
 ·cases he2
theorem BR {t : TypeId} {cs : Value} (H : HR φ h w) {a s c : AV} (hx : VR φ a cx) (hy : VR φ s cs) (hz : VR φ c cz) (he : vW a s c h = .ok v h') : v = .undef ∧ tn φ h w h' ((Instr.entryStore t cx cs cz).run P w) := by
 rcases eW he with ⟨i, rfl, he2⟩ | ⟨rfl, he2⟩
 ·obtain ⟨l, ck, hi, he3⟩ := dA he2
  obtain ⟨p, hp, rfl⟩ := hx.jD
  obtain ⟨es, h1, h2⟩ := H.map hi hp
  obtain ⟨kd, b, rfl, he4⟩ := cW he3
  rw [hy.aZ]
  rw [IE] at he4
  obtain ⟨j, a', vv, bb, q1, q2, q3⟩ := Ae h2 he4
  obtain ⟨rfl, rfl⟩ := RV.al q3
  have hes : (es.modify (0 + j) fun e => { e with val := cz }).toList = es.toList.modify (0 + j) fun e => { e with val := cz } := by simp
  obtain ⟨s1, s2, s3⟩ := HR.oP (P := P) (ck' := ck) H hi hp (es := es.modify (0 + j) fun e => { e with val := cz }) (l' := uS (0 + j) a' c l) (by rw [hes]; exact h2.FY _ hz ⟨vv, bb, by rw [Nat.zero_add]; exact q1⟩) h1
  have hfi : es.findIdx? (fun e => (e.born : Int) == (Int.ofNat b)) = some (0 + j) := by
   rw [Nat.zero_add, ← q2]
   cases es
   simp
  refine ⟨rfl, _, φ, ?_, s2, s3⟩
  simp only [Instr.entryStore, Sem.run_bind, bU h1 rfl, Result.andThen_ok, asInt, asIntOf, Sem.run_pure, hfi, s1]
 ·cases he2
variable {P : Program} {φ : aH} {h h' : Hp} {w : World} {v : AV} {r : A2} {cx cy : Value} {t : TypeId} {G : Gl} {ρ : Operand → Value}
theorem an {d : TypeDesc} (e : jh P t = d) (hd : d ≠ .invalid) : P.underlying t = some d := by
 unfold jh at e
 cases hu : P.underlying t with
 | none => rw [hu] at e; exact absurd e.symm hd
 | some d' => rw [hu] at e; exact congrArg some e
theorem lq {e : TypeId} (h : aY P e ≠ 0) : ∃ i, P.info? e = some i ∧ i.size ≠ 0 := by
 unfold aY Program.cellsOf at h
 cases hi : P.info? e with
 | none => simp [hi] at h
 | some i => exact ⟨i, rfl, by simpa [hi] using h⟩
theorem Kn {e : TypeId} (ht : P.underlying t = some (.pointer e)) (h : aY P e ≠ 0) : Lu P .p t := by
 obtain ⟨i, hi, hs⟩ := lq h
 exact ⟨e, i, ht, hi, hs⟩
theorem Ga {op : BinOp} {x y : Operand} {k : BK} {ax ay : AO} (hc : ∀ c, ρ (.const c) = c) (hop : AN P op t x y = some k) (H : HR φ h w) (hx : VR φ (ev ax r) (ρ x)) (hy : VR φ (ev ay r) (ρ y)) (he : Ko k ax ay r h = .ok v h') :
  Good φ h w v h' ((do eqGuard op t x y (ρ x) (ρ y); binOp op t (ρ x) (ρ y) : Sem Value).run P w) := by
 unfold AN at hop
 split at hop
 case h_1 => cases hop; exact EF H hx hy he
 case h_2 => cases hop; exact EG H hx hy he
 case h_3 => cases hop; exact EH H hx hy he
 case h_4 => cases hop; exact EI H hx hy he
 case h_5 => cases hop; exact EJ H hx hy he
 case h_6 => cases hop; exact EL H hx hy he
 case h_7 => cases hop; exact Ip H hx hy he
 case h_8 => cases hop; exact EM H hx hy he
 case h_9 => cases hop; exact Bu H hx hy he
 case h_10 => cases hop; exact FF H hx hy he
 case h_11 => cases hop; exact FG H hx hy he
 case h_12 => cases hop; exact Iq H hx hy he
 case h_13 => cases hop; exact Ir H hx hy he
 case h_14 => cases hop; exact It H hx hy he
 case h_15 => cases hop; exact Iu H hx hy he
 case h_16 => cases hop; exact Iw H hx hy he
 case h_17 => cases hop; exact Ix H hx hy he
 case h_18 => cases hop; exact EP H hx hy he
 case h_19 => cases hop; exact ER H hx hy he
 case h_20 => cases hop; exact ES H hx hy he
 case h_21 => cases hop; exact EU H hx hy he
 case h_22 => cases hop; exact ET H hx hy he
 case h_23 => cases hop; exact EV H hx hy he
 case h_24 => cases hop; exact EW H hx hy he
 case h_25 hu => cases hop; exact wM false H hx hy (an hu (by simp)) he
 case h_26 hu => cases hop; exact wM true H hx hy (an hu (by simp)) he
 case h_27 e hu =>
  split at hop
  ·cases hop
  ·rename_i hs; cases hop; exact wN false H hx hy (Kn (an hu (by simp)) hs) he
 case h_28 e hu =>
  split at hop
  ·cases hop
  ·rename_i hs; cases hop; exact wN true H hx hy (Kn (an hu (by simp)) hs) he
 case h_29 e hu =>
  split at hop
  ·rename_i hn; cases hop; have hn := fg hn; subst hn; rw [hc]; exact (bE false (k := .s) ⟨_, an hu (by simp)⟩ H hx x he).1
  ·cases hop
 case h_30 e hu =>
  split at hop
  ·rename_i hn; cases hop; have hn := fg hn; subst hn; rw [hc]; exact (bE true (k := .s) ⟨_, an hu (by simp)⟩ H hx x he).1
  ·cases hop
 case h_31 e hu =>
  split at hop
  ·rename_i hn; cases hop; have hn := fg hn; subst hn; rw [hc]; exact (bE false (k := .m) ⟨_, _, an hu (by simp)⟩ H hx x he).1
  ·cases hop
 case h_32 e hu =>
  split at hop
  ·rename_i hn; cases hop; have hn := fg hn; subst hn; rw [hc]; exact (bE true (k := .m) ⟨_, _, an hu (by simp)⟩ H hx x he).1
  ·cases hop
 case h_33 e hu =>
  split at hop
  ·rename_i hn; cases hop; have hn := fg hn; subst hn; rw [hc]; exact (bE false (k := .f) ⟨_, _, _, an hu (by simp)⟩ H hx x he).1
  ·cases hop
 case h_34 e hu =>
  split at hop
  ·rename_i hn; cases hop; have hn := fg hn; subst hn; rw [hc]; exact (bE true (k := .f) ⟨_, _, _, an hu (by simp)⟩ H hx x he).1
  ·cases hop
 case h_35 e hu =>
  split at hop
  ·rename_i hn; cases hop; have hn := fg hn; subst hn; rw [hc]; exact (bE false (k := .i) ⟨_, an hu (by simp)⟩ H hx x he).1
  ·cases hop
 case h_36 e hu =>
  split at hop
  ·rename_i hn; cases hop; have hn := fg hn; subst hn; rw [hc]; exact (bE true (k := .i) ⟨_, an hu (by simp)⟩ H hx x he).1
  ·cases hop
 case h_37 =>
  split at hop
  ·cases hop
  ·rename_i hg
   simp only [Option.map_eq_some_iff] at hop
   obtain ⟨ks, hk, rfl⟩ := hop
   exact wO false H hx hy hk (by simpa using hg) he
 case h_38 =>
  split at hop
  ·cases hop
  ·rename_i hg
   simp only [Option.map_eq_some_iff] at hop
   obtain ⟨ks, hk, rfl⟩ := hop
   exact wO true H hx hy hk (by simpa using hg) he
 case h_39 => cases hop; exact FN H hx hy he
 case h_40 => cases hop; exact FQ H hx hy he
 case h_41 => cases hop
end Go.Am
