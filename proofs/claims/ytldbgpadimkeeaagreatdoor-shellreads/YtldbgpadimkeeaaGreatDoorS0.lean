/- The abstract machine is sound: what its run says holds of the Go program. Conditions: the table of functions is the program's (Env). -/
import Derived.Test.YtldbgpadimkeeaaGreatDoorB
import Derived.Laws.Sem
import Derived.Calls
import Derived.Laws.World
import Derived.Laws.Strings
import Derived.Laws.Strings2
import Derived.Laws.Concat
import Derived.Laws.StructEq
import Derived.Laws.Append
import Derived.Laws.IdiomStrings
import Derived.Laws.NewFold
import Derived.Laws.Cover2
import Derived.Laws.Cover3
import Derived.Laws.ComplexArith
import Derived.Lib.Builder
import Derived.Lib.UnsafeStr
set_option linter.all false
namespace Go.Am
theorem A1.dN (d : H) (v : AV) (x : A1) : A1.get d (A1.set d v x) = v := by cases d <;> cases x <;> rfl
theorem A1.bZ {d e : H} (h : d ≠ e) (v : AV) (x : A1) : A1.get d (A1.set e v x) = A1.get d x := by
 cases d <;> cases e <;> first | exact absurd rfl h | (cases x <;> rfl)
theorem A1.get_nil (d : H) : A1.get d .nil = .undef := by cases d <;> rfl
theorem A2.dN (d : H) (v : A1) (x : A2) : A2.get d (A2.set d v x) = v := by cases d <;> cases x <;> rfl
theorem A2.bZ {d e : H} (h : d ≠ e) (v : A1) (x : A2) : A2.get d (A2.set e v x) = A2.get d x := by
 cases d <;> cases e <;> first | exact absurd rfl h | (cases x <;> rfl)
theorem A2.get_nil (d : H) : A2.get d .nil = .nil := by cases d <;> rfl
theorem A3.dN (d : H) (v : A2) (x : A3) : A3.get d (A3.set d v x) = v := by cases d <;> cases x <;> rfl
theorem A3.bZ {d e : H} (h : d ≠ e) (v : A2) (x : A3) : A3.get d (A3.set e v x) = A3.get d x := by
 cases d <;> cases e <;> first | exact absurd rfl h | (cases x <;> rfl)
theorem A3.get_nil (d : H) : A3.get d .nil = .nil := by cases d <;> rfl
theorem A4.dN (d : H) (v : A3) (x : A4) : A4.get d (A4.set d v x) = v := by cases d <;> cases x <;> rfl
theorem A4.bZ {d e : H} (h : d ≠ e) (v : A3) (x : A4) : A4.get d (A4.set e v x) = A4.get d x := by
 cases d <;> cases e <;> first | exact absurd rfl h | (cases x <;> rfl)
theorem A4.get_nil (d : H) : A4.get d .nil = .nil := by cases d <;> rfl
theorem O1.dN (d : H) (v : Obj) (x : O1) : O1.get d (O1.set d v x) = v := by cases d <;> cases x <;> rfl
theorem O1.bZ {d e : H} (h : d ≠ e) (v : Obj) (x : O1) : O1.get d (O1.set e v x) = O1.get d x := by
 cases d <;> cases e <;> first | exact absurd rfl h | (cases x <;> rfl)
theorem O1.get_nil (d : H) : O1.get d .nil = .none := by cases d <;> rfl
theorem O2.dN (d : H) (v : O1) (x : O2) : O2.get d (O2.set d v x) = v := by cases d <;> cases x <;> rfl
theorem O2.bZ {d e : H} (h : d ≠ e) (v : O1) (x : O2) : O2.get d (O2.set e v x) = O2.get d x := by
 cases d <;> cases e <;> first | exact absurd rfl h | (cases x <;> rfl)
theorem O2.get_nil (d : H) : O2.get d .nil = .nil := by cases d <;> rfl
theorem O3.dN (d : H) (v : O2) (x : O3) : O3.get d (O3.set d v x) = v := by cases d <;> cases x <;> rfl
theorem O3.bZ {d e : H} (h : d ≠ e) (v : O2) (x : O3) : O3.get d (O3.set e v x) = O3.get d x := by
 cases d <;> cases e <;> first | exact absurd rfl h | (cases x <;> rfl)
theorem O3.get_nil (d : H) : O3.get d .nil = .nil := by cases d <;> rfl
theorem O4.dN (d : H) (v : O3) (x : O4) : O4.get d (O4.set d v x) = v := by cases d <;> cases x <;> rfl
theorem O4.bZ {d e : H} (h : d ≠ e) (v : O3) (x : O4) : O4.get d (O4.set e v x) = O4.get d x := by
 cases d <;> cases e <;> first | exact absurd rfl h | (cases x <;> rfl)
theorem O4.get_nil (d : H) : O4.get d .nil = .nil := by cases d <;> rfl
theorem zh : ∀ n, n < 16 → (dG n).nat = n := by decide
theorem fE {n : Nat} (h : n < 16) : (dG n).nat = n := zh n h
theorem me {m n : Nat} (hm : m < 16) (hn : n < 16) (h : dG m = dG n) : m = n := by
 rw [← fE hm, ← fE hn, h]
noncomputable instance : DecidableEq H := fun a b => if h : a.nat = b.nat then .isTrue (by cases a <;> cases b <;> first | rfl | (exact absurd h (by decide))) else .isFalse (fun e => h (by rw [e]))
theorem A1.cI (d e : H) (v : AV) (x : A1) : A1.get d (A1.set e v x) = if d = e then v else A1.get d x := by
 by_cases h : d = e
 ·rw [if_pos h, h, A1.dN]
 ·rw [if_neg h, A1.bZ h]
theorem A2.cI (d e : H) (v : A1) (x : A2) : A2.get d (A2.set e v x) = if d = e then v else A2.get d x := by
 by_cases h : d = e
 ·rw [if_pos h, h, A2.dN]
 ·rw [if_neg h, A2.bZ h]
theorem A3.cI (d e : H) (v : A2) (x : A3) : A3.get d (A3.set e v x) = if d = e then v else A3.get d x := by
 by_cases h : d = e
 ·rw [if_pos h, h, A3.dN]
 ·rw [if_neg h, A3.bZ h]
theorem A4.cI (d e : H) (v : A3) (x : A4) : A4.get d (A4.set e v x) = if d = e then v else A4.get d x := by
 by_cases h : d = e
 ·rw [if_pos h, h, A4.dN]
 ·rw [if_neg h, A4.bZ h]
theorem gZ (a b c d : H) (v : AV) (r : A2) : aC a b (rM c d v r) = if a = c ∧ b = d then v else aC a b r := by
 simp only [aC, rM, A2.cI]
 by_cases h : a = c
 ·subst h
  simp only [if_true, A1.cI, true_and]
 ·simp [h]
theorem PJ (a b : Nat) : Nat.div a b = a / b := rfl
theorem PL (a b : Nat) : Nat.mod a b = a % b := rfl
theorem NI {i j : Nat} (hi : i < 16) (hj : j < 16) (v : AV) (x : A1) : g1 i (t1 j v x) = if i = j then v else g1 i x := by
 simp only [g1, t1, A1.cI]
 by_cases h : i = j
 ·simp [h]
 ·rw [if_neg h, if_neg (fun e => h (me hi hj e))]
theorem NJ {i j : Nat} (hi : i < 256) (hj : j < 256) (v : AV) (x : A2) : g2 i (t2 j v x) = if i = j then v else g2 i x := by
 have hi' : i / 16 < 16 := by omega
 have hj' : j / 16 < 16 := by omega
 have hi2 : i % 16 < 16 := by omega
 have hj2 : j % 16 < 16 := by omega
 simp only [g2, t2, Tp, A2.cI, PJ, PL]
 by_cases h : i / 16 = j / 16
 ·rw [if_pos (congrArg dG h)]
  have := NI hi2 hj2 v (A2.get (dG (j / 16)) x)
  simp only [g1] at this
  rw [this]
  by_cases e : i = j
  ·simp [e]
  ·rw [if_neg e, if_neg (by omega), h]
 ·rw [if_neg (fun e => h (me hi' hj' e)), if_neg (fun e => h (by rw [e]))]
theorem NL {i j : Nat} (hi : i < 4096) (hj : j < 4096) (v : AV) (x : A3) : g3 i (t3 j v x) = if i = j then v else g3 i x := by
 have hi' : i / 256 < 16 := by omega
 have hj' : j / 256 < 16 := by omega
 simp only [g3, t3, Tq, A3.cI, PJ, PL]
 by_cases h : i / 256 = j / 256
 ·rw [if_pos (congrArg dG h)]
  rw [NJ (show i % 256 < 256 by omega) (show j % 256 < 256 by omega)]
  by_cases e : i = j
  ·simp [e]
  ·rw [if_neg e, if_neg (show ¬ (i % 256 = j % 256) by omega), h]
 ·rw [if_neg (fun e => h (me hi' hj' e)), if_neg (fun e => h (by rw [e]))]
theorem RM {i j : Nat} (hi : i < 65536) (hj : j < 65536) (v : AV) (x : A4) : g4 i (t4 j v x) = if i = j then v else g4 i x := by
 have hi' : i / 4096 < 16 := by omega
 have hj' : j / 4096 < 16 := by omega
 simp only [g4, t4, Tr, A4.cI, PJ, PL]
 by_cases h : i / 4096 = j / 4096
 ·rw [if_pos (congrArg dG h)]
  rw [NL (show i % 4096 < 4096 by omega) (show j % 4096 < 4096 by omega)]
  by_cases e : i = j
  ·simp [e]
  ·rw [if_neg e, if_neg (show ¬ (i % 4096 = j % 4096) by omega), h]
 ·rw [if_neg (fun e => h (me hi' hj' e)), if_neg (fun e => h (by rw [e]))]
theorem pL {i j : Nat} (c : Cl) (hi : i < bM c) (hj : j < bM c) (v : AV) : eP i (lu j v c) = if i = j then v else eP i c := by
 cases c with
 | k1 x => exact NI hi hj v x
 | k2 x => exact NJ hi hj v x
 | k3 x => exact NL hi hj v x
 | k4 x => exact RM hi hj v x
 | kf m f =>
  show (@Bool.rec (fun _ => AV) (f i) v (Nat.beq i j)) = if i = j then v else f i
  by_cases h : i = j
  ·subst h; rw [Nat.beq_refl, if_pos rfl]
  ·have : Nat.beq i j = false := by rw [← Bool.not_eq_true]; intro g; exact h (Nat.eq_of_beq_eq_true g)
   rw [this, if_neg h]
theorem iC (j : Nat) (v : AV) (c : Cl) : bM (lu j v c) = bM c := by cases c <;> rfl
theorem Eo (i : Nat) (c : Cl) : cH [] i c = c := rfl
theorem kJ (v : AV) (l : List AV) (i : Nat) (c : Cl) : cH (v :: l) i c = cH l (i + 1) (lu i v c) := rfl
theorem fj (l : List AV) : ∀ (i : Nat) (c : Cl), bM (cH l i c) = bM c := by
 induction l with
 | nil => intro i c; rfl
 | cons v l ih => intro i c; rw [kJ, ih, iC]
theorem kK (l : List AV) : ∀ (i : Nat) (c : Cl) (k : Nat), k < bM c → i + l.length ≤ bM c →
  eP k (cH l i c) = if h : i ≤ k ∧ k < i + l.length then l[k - i]'(by omega) else eP k c := by
 induction l with
 | nil => intro i c k hk hl; rw [Eo, dif_neg (by simp only [List.length_nil]; omega)]
 | cons v l ih =>
  intro i c k hk hl
  simp only [List.length_cons] at hl
  rw [kJ, ih (i + 1) _ k (by rw [iC]; exact hk) (by rw [iC]; omega), pL c hk (by omega)]
  by_cases h1 : k = i
  ·subst h1
   rw [dif_neg (by omega), dif_pos (by simp), if_pos rfl]
   simp
  ·rw [if_neg h1]
   by_cases h2 : i ≤ k ∧ k < i + (l.length + 1)
   ·rw [dif_pos (by omega), dif_pos (by simpa using h2)]
    have : k - i = (k - (i + 1)) + 1 := by omega
    simp only [this, List.getElem_cons_succ]
   ·rw [dif_neg (by omega), dif_neg (by simpa using h2)]
theorem CU (c : Cl) : Ap c ≤ 16777216 ∧ Ap c ≤ bM c := by
 cases c with
 | kf m f =>
  show (@Bool.rec (fun _ => Nat) 0 m (Nat.ble m 16777216)) ≤ 16777216 ∧ (@Bool.rec (fun _ => Nat) 0 m (Nat.ble m 16777216)) ≤ m
  cases h : Nat.ble m 16777216
  ·exact ⟨Nat.zero_le _, Nat.zero_le _⟩
  ·exact ⟨Nat.le_of_ble_eq_true h, Nat.le_refl _⟩
 | _ => simp [bM, Ap]
theorem dw (c : Cl) (k : Nat) (hk : k < bM c) : eP k (bO c) = eP k c := by
 cases c with
 | k1 x =>
  have : k < 16 := hk
  show A1.get (dG (k % 16)) (A2.get (dG (k / 16)) (A2.s0 x .nil)) = A1.get (dG k) x
  rw [show k / 16 = 0 by omega, show k % 16 = k by omega]; rfl
 | k2 x =>
  have : k < 256 := hk
  show g2 (k % 256) (A3.get (dG (k / 256)) (A3.s0 x .nil)) = g2 k x
  rw [show k / 256 = 0 by omega, show k % 256 = k by omega]; rfl
 | k3 x =>
  have : k < 4096 := hk
  show g3 (k % 4096) (A4.get (dG (k / 4096)) (A4.s0 x .nil)) = g3 k x
  rw [show k / 4096 = 0 by omega, show k % 4096 = k by omega]; rfl
 | k4 x => rfl
 | kf m f => rfl
theorem lH (c : Cl) : bM c ≤ bM (bO c) := by cases c <;> simp [bM, bO]
theorem AY (n : Nat) (c : Cl) : jV n c = c ∨ jV n c = bO c ∨ jV n c = bO (bO c) ∨ jV n c = bO (bO (bO c)) ∨ jV n c = bO (bO (bO (bO c))) := by
 unfold jV
 cases Nat.ble n (bM c)
 ·cases Nat.ble n (bM (bO c))
  ·cases Nat.ble n (bM (bO (bO c)))
   ·cases Nat.ble n (bM (bO (bO (bO c))))
    ·exact .inr (.inr (.inr (.inr rfl)))
    ·exact .inr (.inr (.inr (.inl rfl)))
   ·exact .inr (.inr (.inl rfl))
  ·exact .inr (.inl rfl)
 ·exact .inl rfl
theorem Ep (n : Nat) (c : Cl) (k : Nat) (hk : k < bM c) : eP k (jV n c) = eP k c := by
 have a1 := lH c
 have a2 := lH (bO c)
 have a3 := lH (bO (bO c))
 rcases AY n c with h | h | h | h | h <;> rw [h]
 ·exact dw c k hk
 ·rw [dw _ k (by omega), dw c k hk]
 ·rw [dw _ k (by omega), dw _ k (by omega), dw c k hk]
 ·rw [dw _ k (by omega), dw _ k (by omega), dw _ k (by omega), dw c k hk]
theorem eT (l : List AV) (hr : l.length ≤ bM (ng l)) (k : Nat) (hk : k < l.length) : eP k (ng l) = l[k] := by
 unfold ng at hr ⊢
 rw [fj] at hr
 rw [kK l 0 _ k (by omega) (by omega), dif_pos (by omega)]
 simp
theorem AZ (c : Cl) (i : Nat) : bP 0 c i = [] := rfl
theorem nA (n : Nat) (c : Cl) (i : Nat) : bP (n + 1) c i = eP i c :: bP n c (i + 1) := rfl
theorem aW (n : Nat) : ∀ (c : Cl) (i : Nat), (bP n c i).length = n := by
 induction n with
 | zero => intro c i; rfl
 | succ n ih => intro c i; rw [nA, List.length_cons, ih]
theorem mT (n : Nat) : ∀ (c : Cl) (i k : Nat) (hk : k < (bP n c i).length), (bP n c i)[k] = eP (i + k) c := by
 induction n with
 | zero => intro c i k hk; simp [AZ] at hk
 | succ n ih =>
  intro c i k hk
  match k with
  | 0 => rfl
  | k + 1 =>
   have := ih c (i + 1) k (by simpa [nA] using hk)
   simp only [nA, List.getElem_cons_succ, this]
   congr 1; omega
noncomputable instance : DecidableEq P4 := fun a b => match a, b with
 | .mk a b c d, .mk a' b' c' d' => if h : a = a' ∧ b = b' ∧ c = c' ∧ d = d' then .isTrue (by obtain ⟨rfl, rfl, rfl, rfl⟩ := h; rfl) else .isFalse (fun e => h (by cases e; exact ⟨rfl, rfl, rfl, rfl⟩))
 | .eL m o, .eL n q => if h : m = n ∧ o = q then .isTrue (by rw [h.1, h.2]) else .isFalse (fun e => h (by cases e; exact ⟨rfl, rfl⟩))
 | .mk .., .eL .. => .isFalse (fun e => by cases e)
 | .eL .., .mk .. => .isFalse (fun e => by cases e)
theorem O1.cI (d e : H) (v : Obj) (x : O1) : O1.get d (O1.set e v x) = if d = e then v else O1.get d x := by
 by_cases h : d = e
 ·rw [if_pos h, h, O1.dN]
 ·rw [if_neg h, O1.bZ h]
theorem O2.cI (d e : H) (v : O1) (x : O2) : O2.get d (O2.set e v x) = if d = e then v else O2.get d x := by
 by_cases h : d = e
 ·rw [if_pos h, h, O2.dN]
 ·rw [if_neg h, O2.bZ h]
theorem O3.cI (d e : H) (v : O2) (x : O3) : O3.get d (O3.set e v x) = if d = e then v else O3.get d x := by
 by_cases h : d = e
 ·rw [if_pos h, h, O3.dN]
 ·rw [if_neg h, O3.bZ h]
theorem O4.cI (d e : H) (v : O3) (x : O4) : O4.get d (O4.set e v x) = if d = e then v else O4.get d x := by
 by_cases h : d = e
 ·rw [if_pos h, h, O4.dN]
 ·rw [if_neg h, O4.bZ h]
theorem dq (i j : P4) (o : Obj) (t : T4) : cL i (dy j o t) = if i = j then o else cL i t := by
 obtain ⟨t, f⟩ := t
 cases i with
 | eL m q =>
  cases j with
  | mk a' b' c' d' => rw [if_neg (by simp)]; rfl
  | eL n s =>
   show (@Bool.rec (fun _ => Obj) (f m q) (@Bool.rec (fun _ => Obj) (f m q) o (Nat.beq q s)) (Nat.beq m n)) = if P4.eL m q = P4.eL n s then o else f m q
   by_cases h : m = n
   ·subst h
    rw [Nat.beq_refl]
    by_cases h2 : q = s
    ·subst h2; rw [Nat.beq_refl, if_pos rfl]
    ·have : Nat.beq q s = false := by rw [← Bool.not_eq_true]; intro g; exact h2 (Nat.eq_of_beq_eq_true g)
     rw [this, if_neg (by simpa using h2)]
   ·have : Nat.beq m n = false := by rw [← Bool.not_eq_true]; intro g; exact h (Nat.eq_of_beq_eq_true g)
    rw [this, if_neg (by simp [h])]
 | mk a b c d =>
 cases j with
 | eL n s => rw [if_neg (by simp)]; rfl
 | mk a' b' c' d' =>
 show O1.get d (O2.get c (O3.get b (O4.get a (O4.set a' (O3.set b' (O2.set c' (O1.set d' o (O2.get c' (O3.get b' (O4.get a' t)))) (O3.get b' (O4.get a' t))) (O4.get a' t)) t)))) = _
 rw [O4.cI]
 by_cases h1 : a = a'
 ·subst h1
  rw [if_pos rfl, O3.cI]
  by_cases h2 : b = b'
  ·subst h2
   rw [if_pos rfl, O2.cI]
   by_cases h3 : c = c'
   ·subst h3
    rw [if_pos rfl, O1.cI]
    by_cases h4 : d = d'
    ·subst h4; simp
    ·rw [if_neg h4, if_neg (by simp [h4])]; rfl
   ·rw [if_neg h3, if_neg (by simp [h3])]; rfl
  ·rw [if_neg h2, if_neg (by simp [h2])]; rfl
 ·rw [if_neg h1, if_neg (by simp [h1])]; rfl
theorem aN (i j : P4) (o : Obj) (h : Hp) : ah i (dY j o h) = if i = j then o else ah i h := by
 cases h with
 | mk t n => exact dq i j o t
structure Place where
 gI : Nat
 base : Nat
 room : Nat
abbrev aU := P4 → Option Place
def aU.le (φ ψ : aU) : Prop := ∀ i p, φ i = some p → ψ i = some p
theorem aU.le_refl (φ : aU) : φ.le φ := fun _ _ h => h
theorem aU.le_trans {φ ψ χ : aU} (h : φ.le ψ) (h' : ψ.le χ) : φ.le χ := fun i p e => h' i p (h i p e)
def Place.addr (p : Place) (o : Nat) : Addr := ⟨p.gI, p.base + o, none⟩
def SV (n : Nat) : Int := if n % 2 = 0 then (n / 2 : Nat) else -((n / 2 : Nat) : Int) - 1
mutual
inductive VR (φ : aU) : AV → Value → Prop
 | sym (i : P4) (p : Place) : φ i = some p → VR φ (.sym i) (.int .i64 (SV p.room))
 | undef (v : Value) : VR φ .undef v
 | bool (b : Bool) : VR φ (.bool b) (.bool b)
 | int (k : IntKind) (n : Int) : VR φ (.int k n) (.int k n)
 | str (s : ByteArray) (l : List Nat) : l = s.data.toList.map UInt8.toNat → VR φ (.str l) (.string s)
 | qP (k : FloatKind) (n : Nat) : VR φ (.qP k n) (.float k n)
 | gN (k : FloatKind) (a b : Nat) : VR φ (.gN k a b) (.complex k a b)
 | ptr (i : P4) (o : Nat) (p : Place) : φ i = some p → VR φ (.ptr i o) (.pointer (some (p.addr o)))
 | cV : VR φ .cV (.pointer none)
 | slice (i : P4) (o n c : Nat) (p : Place) : φ i = some p → VR φ (.slice i o n c) (.slice (some (p.addr o)) n c)
 | gH (i : P4) (o : Nat) (a : Addr) : VR φ (.slice i o 0 0) (.slice (some a) 0 0)
 | ft (i : P4) (o n es c : Nat) (p : Place) (a : Addr) : φ i = some p → o + c * es = p.room → n ≤ c → a.block = p.gI → a.spot = none → (c ≠ 0 → a.off = p.base + o) → 0 < es →
   VR φ (.ft i o n es) (.slice (some a) n c)
 | ai : VR φ .ai (.slice none 0 0)
 | map (i : P4) (p : Place) : φ i = some p → VR φ (.map i) (.map (some p.gI))
 | ll : VR φ .ll (.map none)
 | fn (f : Nat) (cs : List AV) (vs : List Value) : cU φ cs vs → VR φ (.fn f cs) (.func (.func f) #[] vs.toArray)
 | DF : VR φ .DF .nilFunc
 | iface (t : Nat) (v : AV) (x : Value) : VR φ v x → VR φ (.iface t v) (.iface t x)
 | xP : VR φ .xP .nilIface
 | agg (cs : List AV) (vs : List Value) : cU φ cs vs → (∀ v, v ∈ vs → v.oneCell' = true) → VR φ (.agg cs) (.agg vs.toArray)
 | nZ (cs : List AV) (vs : List Value) : cU φ cs vs → VR φ (.nZ cs) (.tuple vs.toArray)
inductive cU (φ : aU) : List AV → List Value → Prop
 | nil : cU φ [] []
 | cons (a : AV) (v : Value) (as : List AV) (vs : List Value) : VR φ a v → cU φ as vs → cU φ (a :: as) (v :: vs)
end
mutual
theorem VR.mono {φ ψ : aU} (h : φ.le ψ) : ∀ {a : AV} {v : Value}, VR φ a v → VR ψ a v
 | _, _, .undef v => .undef v
 | _, _, .sym i p e => .sym i p (h _ _ e)
 | _, _, .bool b => .bool b
 | _, _, .int k n => .int k n
 | _, _, .str s l e => .str s l e
 | _, _, .qP k n => .qP k n
 | _, _, .gN k a b => .gN k a b
 | _, _, .ptr i o p e => .ptr i o p (h _ _ e)
 | _, _, .cV => .cV
 | _, _, .slice i o n c p e => .slice i o n c p (h _ _ e)
 | _, _, .gH i o a => .gH i o a
 | _, _, .ft i o n es c p a e h1 h2 h3 h4 h5 h6 => .ft i o n es c p a (h _ _ e) h1 h2 h3 h4 h5 h6
 | _, _, .ai => .ai
 | _, _, .map i p e => .map i p (h _ _ e)
 | _, _, .ll => .ll
 | _, _, .fn f cs vs e => .fn f cs vs (cU.mono h e)
 | _, _, .DF => .DF
 | _, _, .iface t v x e => .iface t v x (VR.mono h e)
 | _, _, .xP => .xP
 | _, _, .agg cs vs e f => .agg cs vs (cU.mono h e) f
 | _, _, .nZ cs vs e => .nZ cs vs (cU.mono h e)
theorem cU.mono {φ ψ : aU} (h : φ.le ψ) : ∀ {as : List AV} {vs : List Value}, cU φ as vs → cU ψ as vs
 | _, _, .nil => .nil
 | _, _, .cons a v as vs e es => .cons a v as vs (VR.mono h e) (cU.mono h es)
end
theorem cU.length {φ : aU} : ∀ {as : List AV} {vs : List Value}, cU φ as vs → as.length = vs.length
 | _, _, .nil => rfl
 | _, _, .cons _ _ _ _ _ es => by simp [cU.length es]
theorem cU.get {φ : aU} : ∀ {as : List AV} {vs : List Value}, cU φ as vs → ∀ (k : Nat) (h : k < as.length) (h' : k < vs.length), VR φ as[k] vs[k]
 | _, _, .cons _ _ _ _ e _, 0, _, _ => e
 | _, _, .cons _ _ _ _ _ es, k + 1, h, h' => cU.get es k (by simpa using h) (by simpa using h')
theorem cU.Ba {φ : aU} : ∀ {as : List AV} {vs : List Value}, as.length = vs.length → (∀ (k : Nat) (h : k < as.length) (h' : k < vs.length), VR φ as[k] vs[k]) → cU φ as vs
 | [], [], _, _ => .nil
 | a :: as, v :: vs, hl, h => .cons a v as vs (h 0 (by simp) (by simp)) (cU.Ba (by simpa using hl) fun k h1 h2 => h (k + 1) (by simpa using h1) (by simpa using h2))
 | [], _ :: _, hl, _ => by simp at hl
 | _ :: _, [], hl, _ => by simp at hl
theorem cU.append {φ : aU} : ∀ {as bs : List AV} {vs ws : List Value}, cU φ as vs → cU φ bs ws → cU φ (as ++ bs) (vs ++ ws)
 | _, _, _, _, .nil, h => h
 | _, _, _, _, .cons a v as vs e es, h => .cons a v _ _ e (cU.append es h)
def Er (fl : Fl) (fz : Nat × Nat) (size : Nat) : Prop := match fl with
 | .plain => fz = (0, 0)
 | .mark => ∀ k, k < size → ¬ (fz.1 ≤ k ∧ k < fz.2)
 | .An => True
 | .ro => True
inductive fF (φ : aU) : List KV → List MapEntry → Prop
 | nil : fF φ [] []
 | cons (k v : AV) (b : Nat) (e : MapEntry) (l : List KV) (es : List MapEntry) : VR φ k e.key → VR φ v e.val → e.born = b → fF φ l es → fF φ (.mk k v b :: l) (e :: es)
theorem fF.mono {φ ψ : aU} (h : φ.le ψ) : ∀ {l : List KV} {es : List MapEntry}, fF φ l es → fF ψ l es
 | _, _, .nil => .nil
 | _, _, .cons k v b e l es a c d r => .cons k v b e l es (a.mono h) (c.mono h) d (fF.mono h r)
def OR (φ : aU) (o : Obj) (p : Place) (x : Option Go.Obj) : Prop := match o with
 | .none => True
 | .dead => True
 | .cells el n ex fl c => ∃ (rc : Array Value) (fz : Nat × Nat), x = some (.cells rc el fz) ∧ p.base + p.room = rc.size ∧ n ≤ p.room ∧ (ex = true → p.base = 0 ∧ n = p.room) ∧ n ≤ bM c ∧
   (∀ k, k < n → ∃ cv, rc[p.base + k]? = some cv ∧ VR φ (eP k c) cv ∧ cv.oneCell' = true) ∧ Er fl fz rc.size
 | .map l ck => ∃ es, x = some (.map es ck) ∧ fF φ l es.toList
 | .Ni s pos => p.base = 0 ∧ ∃ b : ByteArray, x = some (.stringIter b pos) ∧ s = b.data.toList.map UInt8.toNat
 | .Nj m since seen last => p.base = 0 ∧ ∃ q, φ m = some q ∧ x = some (.mapIter (some q.gI) since seen.toArray last)
 | .Nk => p.base = 0 ∧ x = some (.mapIter none 0 #[] 0)
def live (o : Obj) : Prop := o ≠ .none ∧ o ≠ .dead
noncomputable def Obj.ro (o : Obj) : Bool := match o with
 | .cells _ _ _ fl _ => FX fl
 | _ => false
def wl (o : Obj) : Prop := live o ∧ o.ro = false
structure HR (φ : aU) (h : Hp) (w : World) : Prop where
 obj : ∀ i, live (ah i h) → ∃ p, φ i = some p ∧ OR φ (ah i h) p w.heap[p.gI]?
 inj : ∀ i j p q, live (ah i h) → live (ah j h) → wl (ah i h) ∨ wl (ah j h) → i ≠ j → φ i = some p → φ j = some q → p.gI ≠ q.gI
 fresh : ∀ i, ah i h = .none → φ i = none
 bound : ∀ i p, φ i = some p → p.gI < w.heap.size
structure iD (φ : aU) (h : Hp) (w w' : World) : Prop where
 size : w.heap.size ≤ w'.heap.size
 rest : ∀ b, b < w.heap.size → (∀ i p, wl (ah i h) → φ i = some p → p.gI ≠ b) → w'.heap[b]? = w.heap[b]?
 tape : w'.tape = w.tape
 os : w'.os = w.os
 output : w'.output = w.output
theorem iD.refl (φ : aU) (h : Hp) (w : World) : iD φ h w w := ⟨Nat.le_refl _, fun _ _ _ => rfl, rfl, rfl, rfl⟩
theorem iD.trans {φ ψ : aU} {h h' : Hp} {w w' w'' : World} (a : iD φ h w w') (b : iD ψ h' w' w'')
  (new : ∀ i p, live (ah i h') → ψ i = some p → (live (ah i h) ∧ φ i = some p ∧ (wl (ah i h') → wl (ah i h))) ∨ w.heap.size ≤ p.gI ∨ ∃ j q, wl (ah j h) ∧ φ j = some q ∧ q.gI = p.gI) : iD φ h w w'' := by
 refine ⟨Nat.le_trans a.size b.size, fun x hx hn => ?_, b.tape.trans a.tape, b.os.trans a.os, b.output.trans a.output⟩
 rw [b.rest x (Nat.lt_of_lt_of_le hx a.size) ?_, a.rest x hx hn]
 intro i p hl hp
 rcases new i p hl.1 hp with ⟨h1, h2, h3⟩ | h1 | ⟨j, q, h1, h2, h3⟩
 ·exact hn i p (h3 hl) h2
 ·omega
 ·rw [← h3]; exact hn j q h1 h2
theorem VR.one {φ : aU} {a : AV} {v : Value} (h : VR φ a v) (ha : a.one = true) : v.oneCell' = true := by
 cases h <;> first | rfl | (cases ha)
theorem aY {el n : Nat} {ex : Bool} {fl : Fl} {c : Cl} : live (.cells el n ex fl c) := ⟨by simp, by simp⟩
theorem HI {el n : Nat} {ex : Bool} {fl : Fl} {c : Cl} (hf : wr fl = true) : wl (.cells el n ex fl c) := ⟨aY, by cases fl <;> first | rfl | cases hf⟩
theorem mU {i : P4} {h : Hp} {el n : Nat} {ex : Bool} {fl : Fl} {c : Cl} (hi : ah i h = .cells el n ex fl c) (hf : wr fl = true) : wl (ah i h) := hi ▸ HI hf
theorem yK {l : List KV} {c : Nat} : live (.map l c) := ⟨by simp, by simp⟩
theorem OR.mono {φ ψ : aU} (hφ : φ.le ψ) {o : Obj} {p : Place} {x : Option Go.Obj} (h : OR φ o p x) : OR ψ o p x := by
 cases o with
 | none => trivial
 | dead => trivial
 | cells el n ex fl c =>
  obtain ⟨rc, fz, h1, h2, h3, h4, h5, h6, h7⟩ := h
  exact ⟨rc, fz, h1, h2, h3, h4, h5, fun k hk => let ⟨cv, a, b, d⟩ := h6 k hk; ⟨cv, a, b.mono hφ, d⟩, h7⟩
 | map l ck => obtain ⟨es, h1, h2⟩ := h; exact ⟨es, h1, h2.mono hφ⟩
 | Ni s pos => exact h
 | Nj m since seen last => obtain ⟨h0, q, h1, h2⟩ := h; exact ⟨h0, q, hφ _ _ h1, h2⟩
 | Nk => exact h
theorem HR.set {φ : aU} {h : Hp} {w w' : World} (H : HR φ h w) {i : P4} {p : Place} {o' : Obj} (hwi : wl (ah i h)) (hp : φ i = some p)
  (hsz : w'.heap.size = w.heap.size) (hne : ∀ b, b ≠ p.gI → w'.heap[b]? = w.heap[b]?) (hOR : OR φ o' p w'.heap[p.gI]?) (ho : o' ≠ .none) : HR φ (dY i o' h) w' where
 obj j hj := by
  rw [aN] at hj ⊢
  by_cases e : j = i
  ·subst e
   rw [if_pos rfl] at hj ⊢
   exact ⟨p, hp, hOR⟩
  ·rw [if_neg e] at hj ⊢
   obtain ⟨q, hq, hr⟩ := H.obj j hj
   refine ⟨q, hq, ?_⟩
   rw [hne _ (H.inj j i q p hj hwi.1 (.inr hwi) e hq hp)]
   exact hr
 inj j k q r hj hk hw hjk hq hr := by
  rw [aN] at hj hk
  have hl := hwi.1
  have hw' : wl (ah j h) ∨ wl (ah k h) := by
   rw [aN, aN] at hw
   by_cases e : j = i
   ·subst e; exact .inl hwi
   ·by_cases e' : k = i
    ·subst e'; exact .inr hwi
    ·rwa [if_neg e, if_neg e'] at hw
  have hj' : live (ah j h) := by
   by_cases e : j = i
   ·subst e; exact hl
   ·rwa [if_neg e] at hj
  have hk' : live (ah k h) := by
   by_cases e : k = i
   ·subst e; exact hl
   ·rwa [if_neg e] at hk
  exact H.inj j k q r hj' hk' hw' hjk hq hr
 fresh j hj := by
  rw [aN] at hj
  by_cases e : j = i
  ·rw [if_pos e] at hj; exact absurd hj ho
  ·rw [if_neg e] at hj; exact H.fresh j hj
 bound j q hq := by rw [hsz]; exact H.bound j q hq
theorem iD.set {φ : aU} {h : Hp} {w w' : World} {i : P4} {p : Place} (hl : wl (ah i h)) (hp : φ i = some p)
  (hsz : w'.heap.size = w.heap.size) (hne : ∀ b, b ≠ p.gI → w'.heap[b]? = w.heap[b]?) (ht : w'.tape = w.tape) (ho : w'.os = w.os) (hu : w'.output = w.output) : iD φ h w w' :=
 ⟨Nat.le_of_eq hsz.symm, fun b _ hb => hne b (fun e => hb i p hl hp e.symm), ht, ho, hu⟩
noncomputable def aU.put (φ : aU) (i : P4) (p : Place) : aU := fun j => if j = i then some p else φ j
theorem aU.aX (φ : aU) (i : P4) (p : Place) : φ.put i p i = some p := by simp [aU.put]
theorem aU.lE {φ : aU} {i : P4} (p : Place) (h : φ i = none) : φ.le (φ.put i p) := by
 intro j q hq
 unfold aU.put
 by_cases e : j = i
 ·subst e; rw [h] at hq; cases hq
 ·rw [if_neg e]; exact hq
theorem HR.new {φ : aU} {h : Hp} {w w' : World} (H : HR φ h w) {o : Obj} {x : Go.Obj} {room : Nat} {i : P4} {n' : P4} (hi : ah i h = .none)
  (hw : w'.heap = w.heap.push x) (ho : o ≠ .none) (hOR : OR (φ.put i ⟨w.heap.size, 0, room⟩) o ⟨w.heap.size, 0, room⟩ (some x)) :
  HR (φ.put i ⟨w.heap.size, 0, room⟩) (.mk (dy i o h.tree) n') w' := by
 have hφ := H.fresh i hi
 have hle := aU.lE (φ := φ) (i := i) ⟨w.heap.size, 0, room⟩ hφ
 have hg : ∀ j, ah j (.mk (dy i o h.tree) n') = if j = i then o else ah j h := by
  intro j
  cases h with
  | mk t n => exact dq j i o t
 have hold : ∀ b, b < w.heap.size → w'.heap[b]? = w.heap[b]? := by
  intro b hb
  rw [hw, Array.getElem?_push, if_neg (by omega)]
 have hb : ∀ j q, j ≠ i → (φ.put i ⟨w.heap.size, 0, room⟩) j = some q → φ j = some q := by
  intro j q hj hq
  simpa [aU.put, hj] using hq
 refine ⟨fun j hj => ?_, fun j k q r hj hk hw2 hjk hq hr => ?_, fun j hj => ?_, fun j q hq => ?_⟩
 ·rw [hg] at hj ⊢
  by_cases e : j = i
  ·subst e
   refine ⟨_, aU.aX _ _ _, ?_⟩
   rw [if_pos rfl]
   have : w'.heap[w.heap.size]? = some x := by rw [hw]; simp
   simpa [this] using hOR
  ·rw [if_neg e] at hj ⊢
   obtain ⟨q, hq, hr⟩ := H.obj j hj
   refine ⟨q, hle _ _ hq, ?_⟩
   rw [hold _ (H.bound j q hq)]
   exact hr.mono hle
 ·rw [hg] at hj hk
  by_cases e1 : j = i
  ·by_cases e2 : k = i
   ·exact absurd (e1.trans e2.symm) hjk
   ·have hr' := hb k r e2 hr
    have hq' : q = ⟨w.heap.size, 0, room⟩ := by rw [e1, aU.aX] at hq; exact (Option.some.inj hq).symm
    have := H.bound k r hr'
    rw [hq']; show w.heap.size ≠ r.gI; omega
  ·have hq' := hb j q e1 hq
   by_cases e2 : k = i
   ·have hr' : r = ⟨w.heap.size, 0, room⟩ := by rw [e2, aU.aX] at hr; exact (Option.some.inj hr).symm
    have := H.bound j q hq'
    rw [hr']; show q.gI ≠ w.heap.size; omega
   ·rw [if_neg e1] at hj
    rw [if_neg e2] at hk
    rw [hg, hg, if_neg e1, if_neg e2] at hw2
    exact H.inj j k q r hj hk hw2 hjk hq' (hb k r e2 hr)
 ·rw [hg] at hj
  by_cases e : j = i
  ·rw [if_pos e] at hj; exact absurd hj ho
  ·rw [if_neg e] at hj
   show (if j = i then some _ else φ j) = none
   rw [if_neg e]; exact H.fresh j hj
 ·by_cases e : j = i
  ·have hq' : q = ⟨w.heap.size, 0, room⟩ := by rw [e, aU.aX] at hq; exact (Option.some.inj hq).symm
   rw [hq', hw]; simp
  ·have := H.bound j q (hb j q e hq)
   rw [hw]; simp; omega
theorem iD.new {φ : aU} {h : Hp} {w w' : World} {x : Go.Obj} (hw : w'.heap = w.heap.push x) (ht : w'.tape = w.tape) (ho : w'.os = w.os) (hu : w'.output = w.output) : iD φ h w w' :=
 ⟨by rw [hw]; simp, fun b hb _ => by rw [hw, Array.getElem?_push, if_neg (by omega)], ht, ho, hu⟩
theorem pC {o : Obj} {h : Hp} {k : P4 → Hp → RV} {v : AV} {h' : Hp} (e : nd o h k = .ok v h') :
  ah h.next h = .none ∧ k h.next (.mk (dy h.next o h.tree) h.next.succ) = .ok v h' := by
 cases h with
 | mk t nx =>
  have e' : (Bool.rec (RV.err 1) (k nx (.mk (dy nx o t) nx.succ)) (isNone (cL nx t)) : RV) = .ok v h' := e
  show cL nx t = .none ∧ k nx (.mk (dy nx o t) nx.succ) = .ok v h'
  cases hg : cL nx t <;> simp [hg, isNone] at e' <;> exact ⟨rfl, e'⟩
structure Step (φ : aU) (h : Hp) (w : World) (φ' : aU) (h' : Hp) (w' : World) : Prop where
 le : φ.le φ'
 keeps : iD φ h w w'
 new : ∀ i p, live (ah i h') → φ' i = some p → (live (ah i h) ∧ φ i = some p ∧ (wl (ah i h') → wl (ah i h))) ∨ w.heap.size ≤ p.gI ∨ ∃ j q, wl (ah j h) ∧ φ j = some q ∧ q.gI = p.gI
theorem Step.refl (φ : aU) (h : Hp) (w : World) : Step φ h w φ h w := ⟨φ.le_refl, .refl _ _ _, fun _ _ a b => .inl ⟨a, b, id⟩⟩
theorem Step.trans {φ ψ χ : aU} {h h' h'' : Hp} {w w' w'' : World} (a : Step φ h w ψ h' w') (b : Step ψ h' w' χ h'' w'') : Step φ h w χ h'' w'' := by
 refine ⟨aU.le_trans a.le b.le, a.keeps.trans b.keeps a.new, fun i p hl hp => ?_⟩
 rcases b.new i p hl hp with ⟨h1, h2, h3⟩ | h1 | ⟨j, q, h1, h2, h3⟩
 ·rcases a.new i p h1 h2 with ⟨g1, g2, g3⟩ | g | g
  ·exact .inl ⟨g1, g2, fun x => g3 (h3 x)⟩
  ·exact .inr (.inl g)
  ·exact .inr (.inr g)
 ·exact .inr (.inl (Nat.le_trans a.keeps.size h1))
 ·rcases a.new j q h1.1 h2 with ⟨g1, g2, g4⟩ | g1 | ⟨l, s, g1, g2, g3⟩
  ·exact .inr (.inr ⟨j, q, g4 h1, g2, h3⟩)
  ·exact .inr (.inl (h3 ▸ g1))
  ·exact .inr (.inr ⟨l, s, g1, g2, g3.trans h3⟩)
def Good (φ : aU) (h : Hp) (w : World) (v : AV) (h' : Hp) (r : Result Value) : Prop :=
 ∃ cv w' φ', r = .ok cv w' ∧ VR φ' v cv ∧ HR φ' h' w' ∧ Step φ h w φ' h' w'
def vr (φ : aU) (h : Hp) (w : World) (h' : Hp) (r : Result Unit) : Prop :=
 ∃ w' φ', r = .ok () w' ∧ HR φ' h' w' ∧ Step φ h w φ' h' w'
theorem Good.same {φ : aU} {h : Hp} {w : World} {v : AV} {cv : Value} {r : Result Value} (H : HR φ h w) (hv : VR φ v cv) (hr : r = .ok cv w) : Good φ h w v h r :=
 ⟨cv, w, φ, hr, hv, H, .refl _ _ _⟩
theorem RV.aA {v v' : AV} {h h' : Hp} (e : RV.ok v h = RV.ok v' h') : v = v' ∧ h = h' := by cases e; exact ⟨rfl, rfl⟩
section
variable {n : Nat} {v : AV} {h : Hp} {x : AV}
theorem bT {k : IntKind → Int → RV} (e : AV.eI x k (.err n) = .ok v h) : ∃ kd m, x = .int kd m ∧ k kd m = .ok v h := by
 cases x <;> first | exact ⟨_, _, rfl, e⟩ | cases e
theorem mi {k : Bool → RV} (e : AV.bN x k (.err n) = .ok v h) : ∃ b, x = .bool b ∧ k b = .ok v h := by
 cases x <;> first | exact ⟨_, rfl, e⟩ | cases e
theorem dm {k : List Nat → RV} (e : AV.kW x k (.err n) = .ok v h) : ∃ l, x = .str l ∧ k l = .ok v h := by
 cases x <;> first | exact ⟨_, rfl, e⟩ | cases e
theorem cZ {k : P4 → Nat → RV} (e : AV.gn x k (.err n) = .ok v h) : ∃ i o, x = .ptr i o ∧ k i o = .ok v h := by
 cases x <;> first | exact ⟨_, _, rfl, e⟩ | cases e
theorem fC {k : List AV → RV} (e : AV.qn x k (.err n) = .ok v h) : ∃ l, x = .agg l ∧ k l = .ok v h := by
 cases x <;> first | exact ⟨_, rfl, e⟩ | cases e
theorem yD {k : List AV → RV} (e : AV.Ci x k (.err n) = .ok v h) : ∃ l, x = .nZ l ∧ k l = .ok v h := by
 cases x <;> first | exact ⟨_, rfl, e⟩ | cases e
theorem eR {k : FloatKind → Nat → RV} (e : AV.qp x k (.err n) = .ok v h) : ∃ a b, x = .qP a b ∧ k a b = .ok v h := by
 cases x <;> first | exact ⟨_, _, rfl, e⟩ | cases e
theorem mh {k : FloatKind → Nat → Nat → RV} (e : AV.wg x k (.err n) = .ok v h) : ∃ a b c, x = .gN a b c ∧ k a b c = .ok v h := by
 cases x <;> first | exact ⟨_, _, _, rfl, e⟩ | cases e
theorem yA {k : P4 → RV} {d : RV} (e : AV.qo x k d (.err n) = .ok v h) : (∃ i, x = .map i ∧ k i = .ok v h) ∨ (x = .ll ∧ d = .ok v h) := by
 cases x <;> first | exact .inl ⟨_, rfl, e⟩ | exact .inr ⟨rfl, e⟩ | cases e
theorem eX {k k' : P4 → Nat → Nat → Nat → RV} {d : RV} (e : AV.oa x k k' d (.err n) = .ok v h) :
  (∃ i o l c, x = .slice i o l c ∧ k i o l c = .ok v h) ∨ (∃ i o l c, x = .ft i o l c ∧ k' i o l c = .ok v h) ∨ (x = .ai ∧ d = .ok v h) := by
 cases x <;> first | exact .inl ⟨_, _, _, _, rfl, e⟩ | exact .inr (.inl ⟨_, _, _, _, rfl, e⟩) | exact .inr (.inr ⟨rfl, e⟩) | cases e
theorem bg {o : Obj} {k : Nat → Nat → Bool → Fl → Cl → RV} (e : Obj.bp o k (.err n) = .ok v h) : ∃ el m ex fl c, o = .cells el m ex fl c ∧ k el m ex fl c = .ok v h := by
 cases o <;> first | exact ⟨_, _, _, _, _, rfl, e⟩ | cases e
theorem vk {o : Obj} {k : List KV → Nat → RV} (e : Obj.qo o k (.err n) = .ok v h) : ∃ l c, o = .map l c ∧ k l c = .ok v h := by
 cases o <;> first | exact ⟨_, _, rfl, e⟩ | cases e
theorem aG {b : Bool} {t : RV} (e : (Bool.rec (.err n) t b : RV) = .ok v h) : b = true ∧ t = .ok v h := by
 cases b
 ·cases e
 ·exact ⟨rfl, e⟩
theorem eS {k : Nat → RV} (e : ik x k (.err n) = .ok v h) : ∃ kd m, x = .int kd (.ofNat m) ∧ k m = .ok v h := by
 obtain ⟨kd, m, rfl, e'⟩ := bT e
 cases m with
 | ofNat m => exact ⟨kd, m, rfl, e'⟩
 | negSucc m => cases e'
end
theorem vt {w : World} {p : Place} {o : Nat} {rc : Array Value} {el : TypeId} {fz : Nat × Nat} (h : w.heap[p.gI]? = some (.cells rc el fz)) : w.cell? (p.addr o) = rc[p.base + o]? := by
 simp [World.cell?, Place.addr, h]
theorem HR.cell {φ : aU} {h : Hp} {w : World} (H : HR φ h w) {i : P4} {p : Place} {el n : Nat} {ex : Bool} {fl : Fl} {c : Cl} {o : Nat}
  (hi : ah i h = .cells el n ex fl c) (hp : φ i = some p) (ho : o < n) : ∃ cv, w.cell? (p.addr o) = some cv ∧ VR φ (eP o c) cv ∧ cv.oneCell' = true := by
 obtain ⟨q, hq, hr⟩ := H.obj i (hi ▸ aY)
 rw [hp] at hq; cases hq
 rw [hi] at hr
 obtain ⟨rc, fz, h1, h2, h3, h4, h5, h6, h7⟩ := hr
 obtain ⟨cv, a, b, d⟩ := h6 o ho
 exact ⟨cv, by rw [vt h1]; exact a, b, d⟩
theorem kL (w : World) (a : Addr) (v : Value) : (w.setCell a v).heap.size = w.heap.size := by simp [World.setCell]
theorem sQ (w : World) (a : Addr) (v : Value) {b : Nat} (hb : b ≠ a.block) : (w.setCell a v).heap[b]? = w.heap[b]? := by
 simp only [World.setCell, Array.getElem?_modify]
 rw [if_neg (fun e => hb e.symm)]
theorem Bc {w : World} {p : Place} {o : Nat} {rc : Array Value} {el : TypeId} {fz : Nat × Nat} (v : Value) (h : w.heap[p.gI]? = some (.cells rc el fz)) :
  (w.setCell (p.addr o) v).heap[p.gI]? = some (.cells (rc.setIfInBounds (p.base + o) v) el fz) := by
 simp only [World.setCell, Array.getElem?_modify, Place.addr]
 simp [h]
theorem HR.store {φ : aU} {h : Hp} {w : World} (H : HR φ h w) {i : P4} {p : Place} {el n : Nat} {ex : Bool} {fl : Fl} {c : Cl} {o : Nat} {v : AV} {cv : Value}
  (hi : ah i h = .cells el n ex fl c) (hp : φ i = some p) (ho : o < n) (hv : VR φ v cv) (h1 : cv.oneCell' = true) (hf : wr fl = true) :
  HR φ (dY i (.cells el n ex fl (lu o v c)) h) (w.setCell (p.addr o) cv) ∧ iD φ h w (w.setCell (p.addr o) cv) := by
 have hl : live (ah i h) := hi ▸ aY
 have hne : ∀ b, b ≠ p.gI → (w.setCell (p.addr o) cv).heap[b]? = w.heap[b]? := fun b hb => sQ w _ cv hb
 refine ⟨H.set (mU hi hf) hp (kL _ _ _) hne ?_ (by simp), iD.set (mU hi hf) hp (kL _ _ _) hne rfl rfl rfl⟩
 obtain ⟨q, hq, hr⟩ := H.obj i hl
 rw [hp] at hq; cases hq
 rw [hi] at hr
 obtain ⟨rc, fz, g1, g2, g3, g4, g5, g6, g7⟩ := hr
 refine ⟨rc.setIfInBounds (p.base + o) cv, fz, Bc cv g1, by simpa using g2, g3, g4, by rw [iC]; exact g5, fun k hk => ?_, by simpa using g7⟩
 rw [pL c (by omega) (by omega), Array.getElem?_setIfInBounds]
 by_cases e : k = o
 ·subst e
  exact ⟨cv, by rw [if_pos rfl, if_pos (by omega)], by rw [if_pos rfl]; exact hv, h1⟩
 ·rw [if_neg (by omega), if_neg e]
  exact g6 k hk
theorem sR {φ : aU} {h : Hp} {w : World} (H : HR φ h w) {i : P4} {p : Place} {el n : Nat} {ex : Bool} {fl : Fl} {c : Cl} {o : Nat}
  (hi : ah i h = .cells el n ex fl c) (hp : φ i = some p) (ho : o < n) (hf : wr fl = true) : w.frozen? (p.addr o) = false := by
 obtain ⟨q, hq, hr⟩ := H.obj i (hi ▸ aY)
 rw [hp] at hq; cases hq
 rw [hi] at hr
 obtain ⟨rc, fz, g1, g2, g3, g4, g5, g6, g7⟩ := hr
 simp only [World.frozen?, Place.addr, g1]
 cases fl with
 | plain => cases g7; simp
 | mark =>
  have := g7 (p.base + o) (by omega)
  rw [Bool.eq_false_iff]
  intro hh
  have hh' := Bool.and_eq_true_iff.1 hh
  exact this ⟨of_decide_eq_true hh'.1, of_decide_eq_true hh'.2⟩
 | An => cases hf
 | ro => cases hf
theorem ux {P : Program} {w : World} {a : Addr} {v : Value} (h : w.cell? a = some v) : (load a).run P w = .ok v w := by
 rw [run_load, h]
theorem iE {P : Program} {w : World} {a : Addr} {v u : Value} (hv : v.oneCell' = true) (h : w.cell? a = some u) (hf : w.frozen? a = false) : (store a v).run P w = .ok () (w.setCell a v) := by
 rw [run_store P w a v _ hv, h]; simp [hf]
theorem da (p : Place) (o k : Nat) : (p.addr o).add k = p.addr (o + k) := by
 unfold Addr.add Place.addr
 split
 ·rename_i h; subst h; rfl
 ·simp [Nat.add_assoc]
variable {P : Program} {φ : aU} {h h' : Hp} {w : World} {v : AV} {x y z : AO} {r : A2}
theorem lz {i n : Nat} (e : FW i n = true) : i < n := Nat.le_of_ble_eq_true e
theorem az {t : TypeId} {d : TypeDesc} (hd : P.underlying t = some d) (w : World) : (underlying t).run P w = .ok d w := by
 simp [underlying, hd]
theorem dS {t : TypeId} {d : TypeInfo} (hd : P.info? t = some d) (w : World) : (typeInfo t).run P w = .ok d w := by
 simp [typeInfo, hd]
theorem bG {t : TypeId} {d : TypeInfo} (hd : P.info? t = some d) (w : World) : (sizeOf t).run P w = .ok d.size w := by
 simp [sizeOf, dS hd]
theorem hM {t : TypeId} {d : TypeDesc} (hd : P.underlying t = some d) (w : World) : (isAgg t).run P w = .ok (ry P t) w := by
 simp only [isAgg, Sem.run_bind, az hd, Result.andThen_ok, ry, kc, hd, Option.getD_some]
 cases d <;> rfl
theorem iY {t : TypeId} {d : TypeDesc} (hd : P.underlying t = some d) : ∃ i, P.info? t = some i := by
 unfold Program.underlying at hd
 cases hi : P.info? t with
 | some i => exact ⟨i, rfl⟩
 | none => rw [hi] at hd; cases hd
theorem de {t : TypeId} {i : TypeInfo} (hi : P.info? t = some i) : bH P t = i.size := by simp [bH, Program.cellsOf, hi]
theorem HJ {cx : Value} (H : HR φ h w) (hx : VR φ (ev x r) cx) {t : TypeId} {d : TypeDesc} (hd : P.underlying t = some d) (ha : ry P t = false)
  (e : qv x r h = .ok v h') : Good φ h w v h' ((Instr.loadAt t cx).run P w) := by
 obtain ⟨i, o, ex, e⟩ := cZ e
 rw [ex] at hx
 obtain ⟨el, n, ex, fl, c, hi, e⟩ := bg e
 obtain ⟨hb, e⟩ := aG e
 obtain ⟨rfl, rfl⟩ := RV.aA e
 cases hx with
 | ptr _ _ p hp =>
  obtain ⟨cv, h1, h2, h3⟩ := H.cell hi hp (lz hb)
  refine .same H h2 ?_
  simp [Instr.loadAt, Instr.sureAddr, loadVar, hM hd, ha, h1]
theorem nB {a : Addr} {cv u : Value} (h1 : cv.oneCell' = true) (hc : w.cell? a = some u) (hf : w.frozen? a = false) :
  (storeCells a [cv]).run P w = .ok () (w.setCell a cv) := by
 have : a.add 0 = a := by simp [Addr.add]
 simp [storeCells, this, iE h1 hc hf]
theorem vu {cv : Value} (h1 : cv.oneCell' = true) : cv.cells = #[cv] := by cases cv <;> first | rfl | cases h1
theorem HK {cx cy : Value} (H : HR φ h w) (hx : VR φ (ev x r) cx) (hy : VR φ (ev y r) cy) {t : TypeId} {i : TypeInfo} (hi : P.info? t = some i) (hs : i.size = 1)
  (e : xV x y r h = .ok v h') :
  v = .undef ∧ vr φ h w h' ((Instr.storeAt t cx cy).run P w) := by
 obtain ⟨i, o, ex, e⟩ := cZ e
 rw [ex] at hx
 obtain ⟨el, n, ex, fl, c, hi', e⟩ := bg e
 obtain ⟨hw, e⟩ := aG e
 obtain ⟨hb, e⟩ := aG e
 obtain ⟨rfl, rfl⟩ := RV.aA e
 refine ⟨rfl, ?_⟩
 obtain ⟨hb, h1⟩ := Bool.and_eq_true_iff.1 hb
 have ho : o < n := lz hb
 cases hx with
 | ptr _ _ p hp =>
  obtain ⟨u, c1, c2, c3⟩ := H.cell hi' hp ho
  obtain ⟨g1, g2⟩ := H.store hi' hp ho hy (hy.one h1) hw
  refine ⟨_, φ, ?_, g1, φ.le_refl, g2, fun j q hj hq => ?_⟩
  ·simp [Instr.storeAt, Instr.sureAddr, storeVar, vu (hy.one h1), bG hi, hs, nB (hy.one h1) c1 (sR H hi' hp ho hw)]
  ·rw [aN] at hj
   by_cases ej : j = i
   ·subst ej; exact .inl ⟨hi' ▸ aY, hq, fun _ => mU hi' hw⟩
   ·rw [if_neg ej] at hj; exact .inl ⟨hj, hq, fun x => by rw [aN, if_neg ej] at x; exact x⟩
theorem run_loadCellsFrom {a : Addr} : ∀ (n i : Nat) (acc : Array Value) (l : List Value), l.length = n → (∀ k (hk : k < l.length), w.cell? (a.add (i + k)) = some l[k]) →
  (loadCellsFrom a i n acc).run P w = .ok (acc ++ l.toArray) w := by
 intro n
 induction n with
 | zero => intro i acc l hl _; rw [List.length_eq_zero_iff.1 hl]; simp [loadCellsFrom]
 | succ n ih =>
  intro i acc l hl hc
  match l, hl with
  | x :: l, hl =>
   have h0 := hc 0 (by simp)
   simp only [Nat.add_zero, List.getElem_cons_zero] at h0
   simp only [loadCellsFrom, Sem.run_bind, ux h0, Result.andThen_ok]
   rw [ih (i + 1) (acc.push x) l (by simpa using hl) ?_]
   ·simp
   ·intro k hk
    have := hc (k + 1) (by simp; omega)
    simpa [Nat.add_assoc, Nat.add_comm 1 k] using this
theorem run_loadCells {a : Addr} {n : Nat} {l : List Value} (hl : l.length = n) (hc : ∀ k (hk : k < l.length), w.cell? (a.add k) = some l[k]) : (loadCells a n).run P w = .ok l.toArray w := by
 unfold loadCells
 rw [run_loadCellsFrom n 0 #[] l hl (by simpa using hc)]
 simp
theorem HR.values (H : HR φ h w) {i : P4} {p : Place} {el n : Nat} {ex : Bool} {fl : Fl} {c : Cl} (hi : ah i h = .cells el n ex fl c) (hp : φ i = some p) :
  ∀ (m o : Nat), o + m ≤ n → ∃ l : List Value, l.length = m ∧ cU φ (bP m c o) l ∧ (∀ x, x ∈ l → x.oneCell' = true) ∧ (∀ k (hk : k < l.length), w.cell? ((p.addr o).add k) = some l[k]) := by
 intro m
 induction m with
 | zero => intro o _; exact ⟨[], rfl, .nil, by simp, by simp⟩
 | succ m ih =>
  intro o ho
  obtain ⟨l, h1, h2, h3, h4⟩ := ih (o + 1) (by omega)
  obtain ⟨cv, c1, c2, c3⟩ := H.cell hi hp (show o < n by omega)
  refine ⟨cv :: l, by simp [h1], .cons _ _ _ _ c2 h2, ?_, ?_⟩
  ·intro x hx
   cases List.mem_cons.1 hx with
   | inl e => exact e ▸ c3
   | inr e => exact h3 x e
  ·intro k hk
   match k with
   | 0 => simpa [da] using c1
   | k + 1 =>
    have := h4 k (by simpa using hk)
    rw [da] at this ⊢
    simpa [show o + 1 + k = o + (k + 1) by omega] using this
theorem HL {cx : Value} (H : HR φ h w) (hx : VR φ (ev x r) cx) {t : TypeId} {d : TypeDesc} (hd : P.underlying t = some d) (ha : ry P t = true) {m : Nat} (hm : bH P t = m)
  (e : qw m x r h = .ok v h') :
  Good φ h w v h' ((Instr.loadAt t cx).run P w) := by
 obtain ⟨i, o, ex, e⟩ := cZ e
 rw [ex] at hx
 obtain ⟨el, n, ex, fl, c, hi, e⟩ := bg e
 obtain ⟨hb, e⟩ := aG e
 obtain ⟨rfl, rfl⟩ := RV.aA e
 obtain ⟨inf, hinf⟩ := iY hd
 cases hx with
 | ptr _ _ p hp =>
  obtain ⟨l, h1, h2, h3, h4⟩ := H.values hi hp m o (by simpa using hb)
  refine .same H (.agg _ l h2 h3) ?_
  have hsz : inf.size = m := by rw [← de hinf, hm]
  simp [Instr.loadAt, Instr.sureAddr, loadVar, hM hd, ha, bG hinf, hsz, run_loadCells h1 h4]
theorem lI {i : P4} {p : Place} (hp : φ i = some p) {el n : Nat} {ex : Bool} {fl : Fl} (hf : wr fl = true) : ∀ (l : List AV) (vs : List Value) (h : Hp) (w : World) (c : Cl) (o k : Nat), HR φ h w → ah i h = .cells el n ex fl c → cU φ l vs → (∀ x, x ∈ vs → x.oneCell' = true) → o + k + l.length ≤ n →
  ∃ w', (storeCells (p.addr o) vs k).run P w = .ok () w' ∧ HR φ (dY i (.cells el n ex fl (cH l (o + k) c)) h) w' ∧ iD φ h w w' := by
 intro l
 induction l with
 | nil =>
  intro vs h w c o k H hi hl _ _
  cases hl
  refine ⟨w, rfl, ?_, .refl _ _ _⟩
  have hl : live (ah i h) := hi ▸ aY
  obtain ⟨q, hq, hr⟩ := H.obj i hl
  rw [hp] at hq; cases hq
  rw [hi] at hr
  exact H.set (mU hi hf) hp rfl (fun _ _ => rfl) hr (by simp)
 | cons a l ih =>
  intro vs h w c o k H hi hl h1 hn
  cases hl with
  | cons _ x _ xs hx hxs =>
   simp only [List.length_cons] at hn
   have ho : o + k < n := by omega
   have hx1 := h1 x (by simp)
   obtain ⟨u, c1, c2, c3⟩ := H.cell hi hp ho
   obtain ⟨g1, g2⟩ := H.store hi hp ho hx hx1 hf
   have hi2 : ah i (dY i (.cells el n ex fl (lu (o + k) a c)) h) = .cells el n ex fl (lu (o + k) a c) := by rw [aN, if_pos rfl]
   obtain ⟨w', r1, r2, r3⟩ := ih xs _ _ (lu (o + k) a c) o (k + 1) g1 hi2 hxs (fun y hy => h1 y (by simp [hy])) (by omega)
   refine ⟨w', ?_, ?_, ?_⟩
   ·simp only [storeCells, Sem.run_bind, da, iE hx1 c1 (sR H hi hp ho hf), Result.andThen_ok]
    exact r1
   ·rw [kJ]
    have H' := r2
    refine ⟨fun j hj => ?_, fun j m q s hj hm hw2 => ?_, fun j hj => ?_, H'.bound⟩
    ·have := H'.obj j
     simp only [aN] at this hj ⊢
     by_cases e : j = i
     ·simp only [e, if_true] at this hj ⊢; exact this hj
     ·simp only [e, if_false] at this hj ⊢; exact this hj
    ·have := H'.inj j m q s
     simp only [aN] at this hj hm hw2
     by_cases e : j = i <;> by_cases e' : m = i <;> simp only [e, e', if_true, if_false] at this hj hm hw2 ⊢ <;> exact this hj hm hw2
    ·have := H'.fresh j
     simp only [aN] at this hj
     by_cases e : j = i <;> simp only [e, if_true, if_false] at this hj ⊢ <;> exact this hj
   ·refine g2.trans r3 fun j q hj hq => ?_
    rw [aN] at hj
    by_cases e : j = i
    ·subst e; exact .inl ⟨hi ▸ aY, hq, fun _ => mU hi hf⟩
    ·rw [if_neg e] at hj; exact .inl ⟨hj, hq, fun x => by rw [aN, if_neg e] at x; exact x⟩
variable {P : Program} {φ : aU} {h h' : Hp} {w : World} {v : AV} {x y z : AO} {r : A2}
theorem wR {c : Value} {a : AV} (e : Bd c = some a) (φ : aU) : VR φ a c ∧ c.oneCell' = true := by
 unfold Bd at e
 split at e <;> cases e <;> refine ⟨?_, rfl⟩
 ·exact .bool _
 ·exact .int _ _
 ·exact .qP _ _
 ·exact .gN _ _ _
 ·exact .str _ _ rfl
 ·exact .cV
 ·exact .ai
 ·exact .ll
 ·exact .fn _ _ [] .nil
 ·exact .DF
 ·exact .xP
theorem mo (φ : aU) : ∀ {cs : List Value} {l : List AV}, cs.mapM Bd = some l → cU φ l cs ∧ ∀ c, c ∈ cs → c.oneCell' = true
 | [], l, e => by
  simp at e; subst e; exact ⟨.nil, by simp⟩
 | c :: cs, l, e => by
  simp only [List.mapM_cons, Option.pure_def, Option.bind_eq_bind, Option.bind_eq_some_iff, Option.some.injEq] at e
  obtain ⟨a, ha, as, has, rfl⟩ := e
  obtain ⟨h1, h2⟩ := wR ha φ
  obtain ⟨h3, h4⟩ := mo φ has
  refine ⟨.cons _ _ _ _ h1 h3, ?_⟩
  intro d hd
  cases List.mem_cons.1 hd with
  | inl e => exact e ▸ h2
  | inr e => exact h4 d e
theorem yh {c : Value} {a : AV} (e : CV c = some a) (φ : aU) : VR φ a c := by
 unfold CV at e
 split at e
 ·rename_i cs
  simp only [Option.map_eq_some_iff] at e
  obtain ⟨l, hl, rfl⟩ := e
  obtain ⟨h1, h2⟩ := mo φ hl
  have := VR.agg (φ := φ) l cs.toList h1 h2
  simpa using this
 ·simp only [Option.map_eq_some_iff] at e
  obtain ⟨l, hl, rfl⟩ := e
  exact .iface _ _ _ (wR hl φ).1
 ·exact (wR e φ).1
theorem kH {el n : Nat} {ex : Bool} {fl : Fl} {c : Cl} {k : P4 → Hp → RV} (e : ij el ex fl n c h k = .ok v h') :
  n ≤ bM c ∧ ah h.next h = .none ∧ k h.next (.mk (dy h.next (.cells el n ex fl c) h.tree) h.next.succ) = .ok v h' := by
 obtain ⟨hb, e⟩ := aG e
 exact ⟨Nat.le_trans (Nat.le_of_ble_eq_true hb) (CU c).2, pC e⟩
theorem rB {el n : Nat} {ex : Bool} {fl : Fl} {c : Cl} {k : P4 → Hp → RV} (e : ij el ex fl n c h k = .ok v h') : n ≤ 16777216 := by
 obtain ⟨hb, e⟩ := aG e
 exact Nat.le_trans (Nat.le_of_ble_eq_true hb) (CU c).1
theorem HR.sS (H : HR φ h w) {i n' : P4} (hi : ah i h = .none) {rc : Array Value} {el n : Nat} {ex : Bool} {fl : Fl} {fz : Nat × Nat} {c : Cl} (hn : n ≤ rc.size) (hex : ex = true → n = rc.size)
  (hr : n ≤ bM c) (hc : ∀ k, k < n → ∃ cv, rc[k]? = some cv ∧ VR φ (eP k c) cv ∧ cv.oneCell' = true) (hf : Er fl fz rc.size) {w' : World} (hw : w'.heap = w.heap.push (.cells rc el fz))
  (ht : w'.tape = w.tape) (ho : w'.os = w.os) (hu : w'.output = w.output) :
  HR (φ.put i ⟨w.heap.size, 0, rc.size⟩) (.mk (dy i (.cells el n ex fl c) h.tree) n') w' ∧ Step φ h w (φ.put i ⟨w.heap.size, 0, rc.size⟩) (.mk (dy i (.cells el n ex fl c) h.tree) n') w' := by
 have hle := aU.lE (φ := φ) (i := i) ⟨w.heap.size, 0, rc.size⟩ (H.fresh i hi)
 refine ⟨H.new hi hw (by simp) ⟨rc, fz, rfl, by simp, hn, fun e => ⟨rfl, hex e⟩, hr, fun k hk => ?_, hf⟩, hle, .new hw ht ho hu, fun j q hj hq => ?_⟩
 ·obtain ⟨cv, a, b, d⟩ := hc k hk
  exact ⟨cv, by simpa using a, b.mono hle, d⟩
 ·by_cases e : j = i
  ·subst e
   rw [aU.aX] at hq; cases hq
   exact .inr (.inl (Nat.le_refl _))
  ·have hg : ah j (.mk (dy i (.cells el n ex fl c) h.tree) n') = ah j h := by
    cases h with
    | mk t m => exact (dq j i _ t).trans (if_neg e)
   rw [hg] at hj
   exact .inl ⟨hj, by simpa [aU.put, e] using hq, fun x => by rw [hg] at x; exact x⟩
theorem eC (el : TypeId) (cs : Array Value) : (newRow el cs).run P w = .ok ⟨w.heap.size, 0, none⟩ { w with heap := w.heap.push (.cells cs el) } := by
 simp [newRow]
theorem HR.CW (H : HR φ h w) {i n' : P4} (hi : ah i h = .none) {l : List AV} {vs : List Value} (hl : cU φ l vs) (h1 : ∀ c, c ∈ vs → c.oneCell' = true) {el : Nat} {c : Cl} (hr : l.length ≤ bM c)
  (hc : ∀ k (hk : k < l.length), eP k c = l[k]) :
  HR (φ.put i ⟨w.heap.size, 0, vs.length⟩) (.mk (dy i (.cells el l.length true .plain c) h.tree) n') { w with heap := w.heap.push (.cells vs.toArray el) } ∧
   Step φ h w (φ.put i ⟨w.heap.size, 0, vs.length⟩) (.mk (dy i (.cells el l.length true .plain c) h.tree) n') { w with heap := w.heap.push (.cells vs.toArray el) } := by
 have hlen := hl.length
 have := H.sS (n' := n') hi (rc := vs.toArray) (el := el) (n := l.length) (ex := true) (fl := .plain) (fz := (0, 0)) (c := c) (by simp [hlen]) (fun _ => by simp [hlen]) hr
  (fun k hk => ⟨vs[k]'(by omega), by simp, by rw [hc k hk]; exact hl.get k hk (by omega), h1 _ (List.getElem_mem _)⟩) rfl (w' := { w with heap := w.heap.push (.cells vs.toArray el) }) rfl rfl rfl rfl
 simpa using this
theorem CM {i : P4} (e : um i h = .ok v h') : v = .ptr i 0 ∧ h' = h := by cases e; exact ⟨rfl, rfl⟩
theorem lJ (H : HR φ h w) {l : List AV} {vs : List Value} (hl : cU φ l vs) (h1 : ∀ c, c ∈ vs → c.oneCell' = true) {el : Nat} {c : Cl}
  (hc : l.length ≤ bM c → ∀ k (hk : k < l.length), eP k c = l[k]) (e : ij el true .plain l.length c h um = .ok v h') :
  Good φ h w v h' (.ok (.pointer (some ⟨w.heap.size, 0, none⟩)) { w with heap := w.heap.push (.cells vs.toArray el) }) := by
 obtain ⟨hr, hi, e⟩ := kH e
 obtain ⟨rfl, rfl⟩ := CM e
 obtain ⟨g1, g2⟩ := H.CW (n' := h.next.succ) hi hl h1 (el := el) hr (hc hr)
 refine ⟨_, _, _, rfl, ?_, g1, g2⟩
 have := VR.ptr (φ := φ.put h.next ⟨w.heap.size, 0, vs.length⟩) h.next 0 _ (aU.aX _ _ _)
 simpa [Place.addr] using this
theorem Be (H : HR φ h w) {t : TypeId} {zs : List AV} (hz : gv P t = some zs) (e : Ck t zs.length (ng zs) r h = .ok v h') :
  Good φ h w v h' ((Instr.alloc t true (.tuple #[])).run P w) := by
 unfold gv at hz
 simp only [Option.bind_eq_some_iff] at hz
 obtain ⟨zv, ⟨inf, hinf, hzv⟩, hl⟩ := hz
 obtain ⟨g1, g2⟩ := mo φ hl
 have := lJ H g1 g2 (fun hr k hk => eT zs hr k hk) e
 have hrun : (Instr.alloc t true (.tuple #[])).run P w = .ok (.pointer (some ⟨w.heap.size, 0, none⟩)) { w with heap := w.heap.push (.cells zv.cells t) } := by
  simp [Instr.alloc, zeroValue, dS hinf, hzv, newVar, eC]
 rw [hrun]
 simpa using this
theorem VR.jd {a : AV} {c : Value} (hv : VR φ a c) {l : List AV} (hl : (a = .agg l) ∨ (a.one = true ∧ l = [a])) : cU φ l c.cells.toList ∧ ∀ d, d ∈ c.cells.toList → d.oneCell' = true := by
 rcases hl with rfl | ⟨h1, rfl⟩
 ·cases hv with
  | agg _ vs hvs ho => exact ⟨by simpa [Value.cells] using hvs, by simpa [Value.cells] using ho⟩
 ·have := hv.one h1
  rw [vu this]
  exact ⟨.cons _ _ _ _ hv .nil, by simpa using this⟩
theorem PM {a : AV} {f : List AV → RV} {g : RV} {e : RV} (he : (OL.rec g f a.asAgg : RV) = e) : (∃ l, a = .agg l ∧ f l = e) ∨ ((∀ l, a ≠ .agg l) ∧ g = e) := by
 cases a <;> first | exact .inl ⟨_, rfl, he⟩ | exact .inr ⟨fun l => by simp, he⟩
theorem HM {cx : Value} (H : HR φ h w) (hx : VR φ (ev x r) cx) {t : TypeId} (e : xU t x r h = .ok v h') : Good φ h w v h' ((Instr.box t cx).run P w) := by
 have hrun : (Instr.box t cx).run P w = .ok (.pointer (some ⟨w.heap.size, 0, none⟩)) { w with heap := w.heap.push (.cells cx.cells t) } := by
  simp [Instr.box, newVar, eC]
 rw [hrun]
 rcases PM e with ⟨l, hl, e⟩ | ⟨_, e⟩
 ·obtain ⟨g1, g2⟩ := hx.jd (.inl hl)
  simpa using lJ H g1 g2 (fun hr k hk => eT l hr k hk) e
 ·obtain ⟨h1, e⟩ := aG e
  obtain ⟨g1, g2⟩ := hx.jd (.inr ⟨h1, rfl⟩)
  simpa using lJ H g1 g2 (fun hr k hk => eT _ hr k hk) e
theorem HN {cx cy : Value} (H : HR φ h w) (hx : VR φ (ev x r) cx) (hy : VR φ (ev y r) cy) {t : TypeId} {i : TypeInfo} (hi : P.info? t = some i) {m : Nat} (hm : bH P t = m)
  (e : xW m x y r h = .ok v h') : v = .undef ∧ vr φ h w h' ((Instr.storeAt t cx cy).run P w) := by
 obtain ⟨j, o, ex, e⟩ := cZ e
 rw [ex] at hx
 obtain ⟨el, n, ex, fl, c, hj, e⟩ := bg e
 obtain ⟨hw, e⟩ := aG e
 obtain ⟨hb, e⟩ := aG e
 obtain ⟨l, ey, e⟩ := fC e
 rw [ey] at hy
 obtain ⟨hlen, e⟩ := aG e
 obtain ⟨rfl, rfl⟩ := RV.aA e
 refine ⟨rfl, ?_⟩
 have hle : o + m ≤ n := Nat.le_of_ble_eq_true hb
 have hlm : l.length = m := Nat.eq_of_beq_eq_true hlen
 cases hx with
 | ptr _ _ p hp =>
  cases hy with
  | agg _ vs hvs ho =>
   obtain ⟨w', r1, r2, r3⟩ := lI (P := P) hp hw l vs h w c o 0 H hj hvs ho (by omega)
   refine ⟨w', φ, ?_, r2, φ.le_refl, r3, fun k q hk hq => ?_⟩
   ·have hsz : i.size = vs.length := by rw [← de hi, hm, ← hlm, hvs.length]
    simp only [Instr.storeAt, Instr.sureAddr, storeVar, Value.cells]
    simp [bG hi, hsz, r1]
   ·rw [aN] at hk
    by_cases ek : k = j
    ·subst ek; exact .inl ⟨hj ▸ aY, hq, fun _ => mU hj hw⟩
    ·rw [if_neg ek] at hk; exact .inl ⟨hk, hq, fun x => by rw [aN, if_neg ek] at x; exact x⟩
variable {P : Program} {φ : aU} {h h' : Hp} {w : World} {v : AV} {x y z : AO} {r : A2}
theorem rD (a b : Int) : Oq a b = a + b := by cases a <;> cases b <;> rfl
theorem wT (a : Int) : Ot a = -a := by
 cases a with
 | ofNat m => cases m <;> rfl
 | negSucc m => rfl
theorem wV (a b : Int) : Kq a b = a * b := by cases a <;> cases b <;> rfl
theorem LI (a b : Int) : Ou a b = a.tdiv b := by cases a <;> cases b <;> rfl
theorem LJ (a b : Int) : FN a b = a.tmod b := by cases a <;> cases b <;> rfl
theorem wW (a b : Int) : QM a b = decide (a ≤ b) := by
 cases a with
 | ofNat m => cases b with
  | ofNat n => show Nat.ble m n = _; rw [Bool.eq_iff_iff, Nat.ble_eq]; simp
  | negSucc n => show false = _; symm; simp; omega
 | negSucc m => cases b with
  | ofNat n => show true = _; symm; simp; omega
  | negSucc n => show Nat.ble n m = _; rw [Bool.eq_iff_iff, Nat.ble_eq]; simp; omega
theorem pM (a b : Int) : Kr a b = decide (a < b) := by
 cases a with
 | ofNat m => cases b with
  | ofNat n => show Nat.ble (m + 1) n = _; rw [Bool.eq_iff_iff, Nat.ble_eq]; simp; omega
  | negSucc n => show false = _; symm; simp; omega
 | negSucc m => cases b with
  | ofNat n => show true = _; symm; simp; omega
  | negSucc n => show Nat.ble (n + 1) m = _; rw [Bool.eq_iff_iff, Nat.ble_eq]; simp; omega
theorem il (a b : Int) : xB a b = decide (a = b) := by
 cases a with
 | ofNat m => cases b with
  | ofNat n => show Nat.beq m n = _; rw [Bool.eq_iff_iff, Nat.beq_eq]; simp; omega
  | negSucc n => show false = _; symm; simp
 | negSucc m => cases b with
  | ofNat n => show false = _; symm; simp
  | negSucc n => show Nat.beq m n = _; rw [Bool.eq_iff_iff, Nat.beq_eq]; simp
theorem CX (k : IntKind) (top : Nat) (n : Int) (hk : ∀ m : Int, -(top : Int) - 1 ≤ m → m ≤ top → k.wrap m = m) : wS k top n = k.wrap n := by
 cases n with
 | ofNat m =>
  show (Bool.rec _ _ (Nat.ble m top) : Int) = _
  cases hb : Nat.ble m top
  ·rfl
  ·have : m ≤ top := Nat.le_of_ble_eq_true hb
   show Int.ofNat m = k.wrap (Int.ofNat m)
   exact (hk _ (by simp; omega) (by simp; omega)).symm
 | negSucc m =>
  show (Bool.rec _ _ (Nat.ble m top) : Int) = _
  cases hb : Nat.ble m top
  ·rfl
  ·have : m ≤ top := Nat.le_of_ble_eq_true hb
   show Int.negSucc m = k.wrap (Int.negSucc m)
   exact (hk _ (by omega) (by omega)).symm
theorem CY (k : IntKind) (size : Nat) (n : Int) (hk : ∀ m : Nat, k.wrap (m : Int) = ((m % size : Nat) : Int)) : wU k size n = k.wrap n := by
 cases n with
 | ofNat m => exact (hk m).symm
 | negSucc m => rfl
theorem dC (k : IntKind) (n : Int) : iR k n = k.wrap n := by
 cases k
 ·exact CX _ _ _ (fun m h1 h2 => by simp only [IntKind.wrap, IntKind.bits, IntKind.signed]; simp; split <;> omega)
 ·exact CX _ _ _ (fun m h1 h2 => by simp only [IntKind.wrap, IntKind.bits, IntKind.signed]; simp; split <;> omega)
 ·exact CX _ _ _ (fun m h1 h2 => by simp only [IntKind.wrap, IntKind.bits, IntKind.signed]; simp; split <;> omega)
 ·exact CX _ _ _ (fun m h1 h2 => by simp only [IntKind.wrap, IntKind.bits, IntKind.signed]; simp; split <;> omega)
 ·exact CY _ _ _ (fun m => by simp only [IntKind.wrap, IntKind.bits, IntKind.signed]; simp)
 ·exact CY _ _ _ (fun m => by simp only [IntKind.wrap, IntKind.bits, IntKind.signed]; simp)
 ·exact CY _ _ _ (fun m => by simp only [IntKind.wrap, IntKind.bits, IntKind.signed]; simp)
 ·exact CY _ _ _ (fun m => by simp only [IntKind.wrap, IntKind.bits, IntKind.signed]; simp)
theorem jF {a b : IntKind} (h : nh a b = true) : a = b := by cases a <;> cases b <;> first | rfl | cases h
theorem Hq {f : IntKind → Int → Int → AV} {a b : AV} (e : Aq f a b h = .ok v h') : ∃ k m n, a = .int k m ∧ b = .int k n ∧ v = f k m n ∧ h' = h := by
 obtain ⟨k, m, ea, e1⟩ := bT e
 obtain ⟨k', n, eb, e2⟩ := bT e1
 obtain ⟨hk, e3⟩ := aG e2
 subst ea eb
 obtain ⟨rfl, rfl⟩ := RV.aA e3
 obtain rfl := jF hk
 exact ⟨k, m, n, rfl, rfl, rfl, rfl⟩
theorem CZ {a : AV} (e : Ku a h = .ok v h') : a = v ∧ h' = h ∧ a ≠ .undef := by
 cases a <;> first | (cases e; exact ⟨rfl, rfl, by simp⟩) | cases e
theorem Hr {f : IntKind → Int → Int → AV} {a b : AV} (e : Kv f a b h = .ok v h') : ∃ k m n, a = .int k m ∧ b = .int k n ∧ v = f k m n ∧ h' = h ∧ v ≠ .undef := by
 obtain ⟨k, m, ea, e1⟩ := bT e
 obtain ⟨k', n, eb, e2⟩ := bT e1
 obtain ⟨hk, e3⟩ := aG e2
 subst ea eb
 obtain ⟨g1, g2, g3⟩ := CZ e3
 obtain rfl := jF hk
 exact ⟨k, m, n, rfl, rfl, g1.symm, g2, g1 ▸ g3⟩
theorem VR.bW {k : IntKind} {n : Int} {c : Value} (hv : VR φ (.int k n) c) : c = .int k n := by cases hv; rfl
theorem VR.dT {b : Bool} {c : Value} (hv : VR φ (.bool b) c) : c = .bool b := by cases hv; rfl
theorem VR.en {l : List Nat} {c : Value} (hv : VR φ (.str l) c) : ∃ s : ByteArray, c = .string s ∧ l = s.data.toList.map UInt8.toNat := by cases hv; exact ⟨_, rfl, by assumption⟩
theorem eY {op : BinOp} {t : TypeId} {p q : Operand} {k k' : IntKind} {m n : Int} : (eqGuard op t p q (.int k m) (.int k' n)).run P w = .ok () w := by
 unfold eqGuard
 cases op <;> simp
section
variable {t : TypeId} {p q : Operand} {cx cy : Value}
theorem lK {f : IntKind → Int → Int → AV} {op : BinOp} (H : HR φ h w) {a b : AV} (hx : VR φ a cx) (hy : VR φ b cy) (e : Aq f a b h = .ok v h')
  (hf : ∀ k m n, ∃ c, (binOp op t (.int k m) (.int k n)).run P w = .ok c w ∧ VR φ (f k m n) c) : Good φ h w v h' ((do eqGuard op t p q cx cy; binOp op t cx cy : Sem Value).run P w) := by
 obtain ⟨k, m, n, rfl, rfl, rfl, rfl⟩ := Hq e
 rw [hx.bW, hy.bW]
 obtain ⟨c, h1, h2⟩ := hf k m n
 refine .same H h2 ?_
 simp [eY, h1]
theorem pN {f : IntKind → Int → Int → AV} {op : BinOp} (H : HR φ h w) {a b : AV} (hx : VR φ a cx) (hy : VR φ b cy) (e : Kv f a b h = .ok v h')
  (hf : ∀ k m n, f k m n ≠ .undef → ∃ c, (binOp op t (.int k m) (.int k n)).run P w = .ok c w ∧ VR φ (f k m n) c) : Good φ h w v h' ((do eqGuard op t p q cx cy; binOp op t cx cy : Sem Value).run P w) := by
 obtain ⟨k, m, n, rfl, rfl, rfl, rfl, hu⟩ := Hr e
 rw [hx.bW, hy.bW]
 obtain ⟨c, h1, h2⟩ := hf k m n hu
 refine .same H h2 ?_
 simp [eY, h1]
theorem HO (H : HR φ h w) {a b : AV} (hx : VR φ a cx) (hy : VR φ b cy) (e : qu a b h = .ok v h') : Good φ h w v h' ((do eqGuard .add t p q cx cy; binOp .add t cx cy : Sem Value).run P w) :=
 lK H hx hy e fun k m n => ⟨.int k (k.wrap (m + n)), by simp [binOp, Op.intArith], by rw [dC, rD]; exact .int _ _⟩
theorem HP (H : HR φ h w) {a b : AV} (hx : VR φ a cx) (hy : VR φ b cy) (e : kU a b h = .ok v h') : Good φ h w v h' ((do eqGuard .sub t p q cx cy; binOp .sub t cx cy : Sem Value).run P w) :=
 lK H hx hy e fun k m n => ⟨.int k (k.wrap (m - n)), by simp [binOp, Op.intArith], by rw [dC, rD, wT, ← Int.sub_eq_add_neg]; exact .int _ _⟩
theorem HQ (H : HR φ h w) {a b : AV} (hx : VR φ a cx) (hy : VR φ b cy) (e : uF a b h = .ok v h') : Good φ h w v h' ((do eqGuard .mul t p q cx cy; binOp .mul t cx cy : Sem Value).run P w) :=
 lK H hx hy e fun k m n => ⟨.int k (k.wrap (m * n)), by simp [binOp, Op.intArith], by rw [dC, wV]; exact .int _ _⟩
theorem HS (H : HR φ h w) {a b : AV} (hx : VR φ a cx) (hy : VR φ b cy) (e : Nl a b h = .ok v h') : Good φ h w v h' ((do eqGuard .quo t p q cx cy; binOp .quo t cx cy : Sem Value).run P w) := by
 refine pN H hx hy e fun k m n hu => ?_
 rw [il] at hu ⊢
 by_cases hz : n = 0
 ·subst hz; exact absurd rfl hu
 ·have : decide (n = Int.ofNat 0) = false := by simpa using hz
  rw [this]
  exact ⟨.int k (k.wrap (m.tdiv n)), by simp [binOp, Op.intDiv, hz], by show VR φ (.int k (iR k (Ou m n))) _; rw [dC, LI]; exact .int _ _⟩
theorem HT (H : HR φ h w) {a b : AV} (hx : VR φ a cx) (hy : VR φ b cy) (e : BZ a b h = .ok v h') : Good φ h w v h' ((do eqGuard .rem t p q cx cy; binOp .rem t cx cy : Sem Value).run P w) := by
 refine pN H hx hy e fun k m n hu => ?_
 rw [il] at hu ⊢
 by_cases hz : n = 0
 ·subst hz; exact absurd rfl hu
 ·have : decide (n = Int.ofNat 0) = false := by simpa using hz
  rw [this]
  exact ⟨.int k (m.tmod n), by simp [binOp, Op.intDiv, hz], by show VR φ (.int k (FN m n)) _; rw [LJ]; exact .int _ _⟩
theorem HU (b : Nat) (m : Nat) : (BitVec.ofInt b (Int.ofNat m)).toNat = m % 2 ^ b := by
 simp only [BitVec.toNat_ofInt, Int.ofNat_eq_natCast]
 rw [show ((2 ^ b : Nat) : Int) = (2 ^ b : Nat) from rfl, ← Int.natCast_emod, Int.toNat_natCast]
theorem rE (k : IntKind) : iT k = k.bits := by cases k <;> rfl
theorem pO {f : Nat → Nat → Nat} {op : BinOp} {g : ∀ b, BitVec b → BitVec b → BitVec b} (hg : ∀ b (m n : BitVec b), (g b m n).toNat = f m.toNat n.toNat)
  (hop : ∀ k m n, (binOp op t (.int k m) (.int k n)).run P w = .ok (.int k (k.wrap (g k.bits (BitVec.ofInt k.bits m) (BitVec.ofInt k.bits n)).toNat)) w)
  (H : HR φ h w) {a b : AV} (hx : VR φ a cx) (hy : VR φ b cy) (e : Kv (Ce f) a b h = .ok v h') : Good φ h w v h' ((do eqGuard op t p q cx cy; binOp op t cx cy : Sem Value).run P w) := by
 refine pN H hx hy e fun k m n hu => ⟨_, hop k m n, ?_⟩
 cases m with
 | negSucc m => exact absurd rfl hu
 | ofNat m => cases n with
  | negSucc n => exact absurd rfl hu
  | ofNat n =>
   show VR φ (.int k (iR k (.ofNat (f (m % 2 ^ iT k) (n % 2 ^ iT k))))) _
   rw [dC, hg, HU, HU, rE]
   exact .int _ _
theorem HV (H : HR φ h w) {a b : AV} (hx : VR φ a cx) (hy : VR φ b cy) (e : FE a b h = .ok v h') : Good φ h w v h' ((do eqGuard .and t p q cx cy; binOp .and t cx cy : Sem Value).run P w) :=
 pO (g := fun _ m n => m &&& n) (fun b m n => by simp) (fun k m n => by simp [binOp, Op.intBits]) H hx hy e
theorem LK (H : HR φ h w) {a b : AV} (hx : VR φ a cx) (hy : VR φ b cy) (e : Fy a b h = .ok v h') : Good φ h w v h' ((do eqGuard .or t p q cx cy; binOp .or t cx cy : Sem Value).run P w) :=
 pO (g := fun _ m n => m ||| n) (fun b m n => by simp) (fun k m n => by simp [binOp, Op.intBits]) H hx hy e
theorem HW (H : HR φ h w) {a b : AV} (hx : VR φ a cx) (hy : VR φ b cy) (e : rK a b h = .ok v h') : Good φ h w v h' ((do eqGuard .xor t p q cx cy; binOp .xor t cx cy : Sem Value).run P w) :=
 pO (g := fun _ m n => m ^^^ n) (fun b m n => by simp) (fun k m n => by simp [binOp, Op.intBits]) H hx hy e
theorem Es (H : HR φ h w) {a b : AV} (hx : VR φ a cx) (hy : VR φ b cy) (e : FR a b h = .ok v h') : Good φ h w v h' ((do eqGuard .andNot t p q cx cy; binOp .andNot t cx cy : Sem Value).run P w) :=
 lK H hx hy e fun k m n => ⟨_, by simp [binOp, Op.intBits], .int _ _⟩
theorem jN {op : BinOp} {f : Int → Int → Bool} (hop : ∀ m n : Int, (Op.intCmp op m n).run P w = .ok (.bool (f m n)) w) (hb : ∀ k (m n : Int), binOp op t (.int k m) (.int k n) = Op.intCmp op m n)
  (H : HR φ h w) {a b : AV} (hx : VR φ a cx) (hy : VR φ b cy) (e : Aq (fun _ m n => .bool (f m n)) a b h = .ok v h') : Good φ h w v h' ((do eqGuard op t p q cx cy; binOp op t cx cy : Sem Value).run P w) :=
 lK H hx hy e fun k m n => ⟨_, by rw [hb]; exact hop m n, .bool _⟩
theorem LL (H : HR φ h w) {a b : AV} (hx : VR φ a cx) (hy : VR φ b cy) (e : DH a b h = .ok v h') : Good φ h w v h' ((do eqGuard .eql t p q cx cy; binOp .eql t cx cy : Sem Value).run P w) :=
 jN (f := xB) (fun m n => by rw [il]; rfl) (fun k m n => by simp [binOp]) H hx hy e
theorem LM (H : HR φ h w) {a b : AV} (hx : VR φ a cx) (hy : VR φ b cy) (e : ig a b h = .ok v h') : Good φ h w v h' ((do eqGuard .neq t p q cx cy; binOp .neq t cx cy : Sem Value).run P w) :=
 jN (f := fun m n => Bool.not (xB m n)) (fun m n => by rw [il]; rfl) (fun k m n => by simp [binOp]) H hx hy e
theorem LN (H : HR φ h w) {a b : AV} (hx : VR φ a cx) (hy : VR φ b cy) (e : pq a b h = .ok v h') : Good φ h w v h' ((do eqGuard .lss t p q cx cy; binOp .lss t cx cy : Sem Value).run P w) :=
 jN (f := Kr) (fun m n => by rw [pM]; rfl) (fun k m n => by simp [binOp]) H hx hy e
theorem LO (H : HR φ h w) {a b : AV} (hx : VR φ a cx) (hy : VR φ b cy) (e : FC a b h = .ok v h') : Good φ h w v h' ((do eqGuard .leq t p q cx cy; binOp .leq t cx cy : Sem Value).run P w) :=
 jN (f := QM) (fun m n => by rw [wW]; rfl) (fun k m n => by simp [binOp]) H hx hy e
theorem LP (H : HR φ h w) {a b : AV} (hx : VR φ a cx) (hy : VR φ b cy) (e : cB a b h = .ok v h') : Good φ h w v h' ((do eqGuard .gtr t p q cx cy; binOp .gtr t cx cy : Sem Value).run P w) :=
 jN (f := fun m n => Kr n m) (fun m n => by rw [pM]; rfl) (fun k m n => by simp [binOp]) H hx hy e
theorem LQ (H : HR φ h w) {a b : AV} (hx : VR φ a cx) (hy : VR φ b cy) (e : we a b h = .ok v h') : Good φ h w v h' ((do eqGuard .geq t p q cx cy; binOp .geq t cx cy : Sem Value).run P w) :=
 jN (f := fun m n => QM n m) (fun m n => by rw [wW]; rfl) (fun k m n => by simp [binOp]) H hx hy e
end
variable {P : Program} {φ : aU} {h h' : Hp} {w : World} {v : AV} {x y z : AO} {r : A2}
theorem iq : ∀ (a b : List Nat), iU a b = decide (a = b)
 | [], [] => rfl
 | [], _ :: _ => rfl
 | _ :: _, [] => rfl
 | x :: a, y :: b => by
  show (Bool.rec false (iU a b) (Nat.beq x y) : Bool) = _
  rw [iq a b, show Nat.beq x y = decide (x = y) by rw [Bool.eq_iff_iff, Nat.beq_eq]; simp]
  by_cases hxy : x = y
  ·subst hxy; simp
  ·simp [hxy]
theorem lL : ∀ (a b : List UInt8), uM (a.map UInt8.toNat) (b.map UInt8.toNat) = Op.bytesLess a b
 | [], [] => rfl
 | [], _ :: _ => rfl
 | _ :: _, [] => rfl
 | x :: a, y :: b => by
  show (Bool.rec (Nat.ble x.toNat y.toNat) (uM (a.map UInt8.toNat) (b.map UInt8.toNat)) (Nat.beq x.toNat y.toNat) : Bool) = (decide (x < y) || (x == y && Op.bytesLess a b))
  rw [lL a b, show Nat.beq x.toNat y.toNat = decide (x.toNat = y.toNat) by rw [Bool.eq_iff_iff, Nat.beq_eq]; simp]
  by_cases hxy : x = y
  ·subst hxy; simp
  ·have h1 : x.toNat ≠ y.toNat := fun e => hxy (UInt8.toNat_inj.1 e)
   have h2 : (x == y) = false := by simpa using hxy
   rw [h2]
   simp only [h1, decide_false, Bool.false_and, Bool.or_false]
   rw [Bool.eq_iff_iff, Nat.ble_eq]
   simp only [decide_eq_true_eq, UInt8.lt_iff_toNat_lt]
   omega
theorem uy {a b : List UInt8} : a.map UInt8.toNat = b.map UInt8.toNat ↔ a = b := by
 constructor
 ·intro e
  exact (List.map_inj_right (fun _ _ h => UInt8.toNat_inj.1 h)).1 e
 ·rintro rfl; rfl
theorem jg (a b : ByteArray) : iU (a.data.toList.map UInt8.toNat) (b.data.toList.map UInt8.toNat) = (a.toList == b.toList) := by
 rw [iq, ByteArray.toList_eq, ByteArray.toList_eq, Bool.eq_iff_iff, decide_eq_true_eq, beq_iff_eq, uy]
theorem ff : ∀ (a b : List UInt8), (!Op.bytesLess b a) = (Op.bytesLess a b || a == b)
 | [], [] => rfl
 | [], _ :: _ => rfl
 | _ :: _, [] => rfl
 | x :: a, y :: b => by
  show (!(decide (y < x) || (y == x && Op.bytesLess b a))) = ((decide (x < y) || (x == y && Op.bytesLess a b)) || (x :: a == y :: b))
  have ih := ff a b
  by_cases hxy : x = y
  ·subst hxy
   have : ¬ x < x := by simp
   simpa [this] using ih
  ·have h2 : (x == y) = false := by simpa using hxy
   have h3 : (y == x) = false := by simpa using fun e => hxy e.symm
   have h4 : (x :: a == y :: b) = false := by simp [hxy]
   rw [h2, h3, h4]
   simp only [Bool.false_and, Bool.or_false]
   rw [Bool.eq_iff_iff]
   have : x.toNat ≠ y.toNat := fun e => hxy (UInt8.toNat_inj.1 e)
   simp only [Bool.not_eq_true', decide_eq_false_iff_not, decide_eq_true_eq, UInt8.lt_iff_toNat_lt]
   omega
theorem Hs {f : List Nat → List Nat → AV} {a b : AV} (e : Kw f a b h = .ok v h') : ∃ k m, a = .str k ∧ b = .str m ∧ v = f k m ∧ h' = h := by
 obtain ⟨k, rfl, e1⟩ := dm e
 obtain ⟨m, rfl, e2⟩ := dm e1
 obtain ⟨rfl, rfl⟩ := RV.aA e2
 exact ⟨k, m, rfl, rfl, rfl, rfl⟩
theorem kZ {op : BinOp} {t : TypeId} {p q : Operand} {a b : ByteArray} : (eqGuard op t p q (.string a) (.string b)).run P w = .ok () w := by
 unfold eqGuard
 cases op <;> simp
section
variable {t : TypeId} {p q : Operand} {cx cy : Value}
theorem jO {f : List Nat → List Nat → AV} {op : BinOp} (H : HR φ h w) {a b : AV} (hx : VR φ a cx) (hy : VR φ b cy) (e : Kw f a b h = .ok v h')
  (hf : ∀ s u : ByteArray, ∃ c, (binOp op t (.string s) (.string u)).run P w = .ok c w ∧ VR φ (f (s.data.toList.map UInt8.toNat) (u.data.toList.map UInt8.toNat)) c) : Good φ h w v h' ((do eqGuard op t p q cx cy; binOp op t cx cy : Sem Value).run P w) := by
 obtain ⟨k, m, rfl, rfl, rfl, rfl⟩ := Hs e
 obtain ⟨s, rfl, rfl⟩ := hx.en
 obtain ⟨u, rfl, rfl⟩ := hy.en
 obtain ⟨c, h1, h2⟩ := hf s u
 refine .same H h2 ?_
 simp [kZ, h1]
theorem HX (H : HR φ h w) {a b : AV} (hx : VR φ a cx) (hy : VR φ b cy) (e : xO a b h = .ok v h') : Good φ h w v h' ((do eqGuard .eql t p q cx cy; binOp .eql t cx cy : Sem Value).run P w) :=
 jO H hx hy e fun s u => ⟨.bool (s.toList == u.toList), by simp [binOp, Op.stringOp], by rw [jg]; exact .bool _⟩
theorem HY (H : HR φ h w) {a b : AV} (hx : VR φ a cx) (hy : VR φ b cy) (e : xQ a b h = .ok v h') : Good φ h w v h' ((do eqGuard .neq t p q cx cy; binOp .neq t cx cy : Sem Value).run P w) :=
 jO H hx hy e fun s u => ⟨.bool (!(s.toList == u.toList)), by simp [binOp, Op.stringOp], by rw [jg]; exact .bool _⟩
theorem HZ (H : HR φ h w) {a b : AV} (hx : VR φ a cx) (hy : VR φ b cy) (e : Nm a b h = .ok v h') : Good φ h w v h' ((do eqGuard .lss t p q cx cy; binOp .lss t cx cy : Sem Value).run P w) :=
 jO H hx hy e fun s u => ⟨.bool (Op.bytesLess s.toList u.toList), by simp [binOp, Op.stringOp], by rw [lL, ByteArray.toList_eq, ByteArray.toList_eq]; exact .bool _⟩
theorem Ia (H : HR φ h w) {a b : AV} (hx : VR φ a cx) (hy : VR φ b cy) (e : Np a b h = .ok v h') : Good φ h w v h' ((do eqGuard .gtr t p q cx cy; binOp .gtr t cx cy : Sem Value).run P w) :=
 jO H hx hy e fun s u => ⟨.bool (!(Op.bytesLess s.toList u.toList || s.toList == u.toList)), by simp [binOp, Op.stringOp], by
  rw [lL, ByteArray.toList_eq, ByteArray.toList_eq, ← ff, Bool.not_not]; exact .bool _⟩
theorem Ib (H : HR φ h w) {a b : AV} (hx : VR φ a cx) (hy : VR φ b cy) (e : Nn a b h = .ok v h') : Good φ h w v h' ((do eqGuard .leq t p q cx cy; binOp .leq t cx cy : Sem Value).run P w) :=
 jO H hx hy e fun s u => ⟨.bool (Op.bytesLess s.toList u.toList || s.toList == u.toList), by simp [binOp, Op.stringOp], by
  rw [lL, ByteArray.toList_eq, ByteArray.toList_eq, ← ff]; exact .bool _⟩
theorem Ic (H : HR φ h w) {a b : AV} (hx : VR φ a cx) (hy : VR φ b cy) (e : Nq a b h = .ok v h') : Good φ h w v h' ((do eqGuard .geq t p q cx cy; binOp .geq t cx cy : Sem Value).run P w) :=
 jO H hx hy e fun s u => ⟨.bool (!Op.bytesLess s.toList u.toList), by simp [binOp, Op.stringOp], by
  rw [lL, ByteArray.toList_eq, ByteArray.toList_eq]; exact .bool _⟩
theorem Ie (H : HR φ h w) {a b : AV} (hx : VR φ a cx) (hy : VR φ b cy) (e : FT a b h = .ok v h') : Good φ h w v h' ((do eqGuard .add t p q cx cy; binOp .add t cx cy : Sem Value).run P w) := by
 obtain ⟨k, rfl, e1⟩ := dm e
 obtain ⟨m, rfl, e2⟩ := dm e1
 obtain ⟨hb, e3⟩ := aG e2
 obtain ⟨rfl, rfl⟩ := RV.aA e3
 obtain ⟨s, rfl, rfl⟩ := hx.en
 obtain ⟨u, rfl, rfl⟩ := hy.en
 have hle := Nat.le_of_ble_eq_true hb
 simp only [List.length_map, Array.length_toList, Nat.add_eq] at hle
 refine .same H (.str (s ++ u) _ ?_) (cv := .string (s ++ u)) ?_
 ·simp
 ·have : (binOp .add t (.string s) (.string u)).run P w = .ok (.string (s ++ u)) w := by
   rw [binOp_string_add]
   exact run_string_add_sum w s u (by have h1 : s.size = s.data.size := rfl; have h2 : u.size = u.data.size := rfl; omega)
  simp [kZ, this]
end
theorem Ho {neg : Bool} {b : EB} (e : EB.rv neg h b = .ok v h') : h' = h ∧ ((b = .yes ∧ v = .bool (!neg)) ∨ (b = .no ∧ v = .bool neg)) := by
 cases b
 ·cases e; exact ⟨rfl, .inl ⟨rfl, rfl⟩⟩
 ·cases e; exact ⟨rfl, .inr ⟨rfl, rfl⟩⟩
 ·cases e
theorem oH {a b : H} : od a b = true ↔ a = b := by cases a <;> cases b <;> simp [od, H.nat]
theorem kq {a b : P4} : rL a b = true ↔ a = b := by
 cases a with
 | eL m q =>
  cases b with
  | mk b1 b2 b3 b4 => exact ⟨fun e => Bool.noConfusion (show false = true from e), fun e => by cases e⟩
  | eL n s =>
   show (@Bool.rec (fun _ => Bool) false (Nat.beq q s) (Nat.beq m n)) = true ↔ _
   constructor
   ·intro e
    cases h : Nat.beq m n with
    | false => rw [h] at e; cases e
    | true => rw [h] at e; rw [Nat.eq_of_beq_eq_true h, Nat.eq_of_beq_eq_true e]
   ·intro e; cases e; rw [Nat.beq_refl m, Nat.beq_refl q]
 | mk a1 a2 a3 a4 =>
 cases b with
 | eL n s => exact ⟨fun e => Bool.noConfusion (show false = true from e), fun e => by cases e⟩
 | mk b1 b2 b3 b4 =>
 show (Bool.rec false (Bool.rec false (Bool.rec false (od a1 b1) (od a2 b2)) (od a3 b3)) (od a4 b4) : Bool) = true ↔ _
 rw [P4.mk.injEq, ← oH, ← oH, ← oH, ← oH]
 cases od a1 b1 <;> cases od a2 b2 <;> cases od a3 b3 <;> cases od a4 b4 <;> simp
variable {P : Program} {φ : aU} {h h' : Hp} {w : World} {v : AV} {x y z : AO} {r : A2}
theorem VR.oI {c : Value} (hv : VR φ .cV c) : c = .pointer none := by cases hv; rfl
theorem VR.kM {i : P4} {o : Nat} {c : Value} (hv : VR φ (.ptr i o) c) : ∃ p, φ i = some p ∧ c = .pointer (some (p.addr o)) := by cases hv; exact ⟨_, by assumption, rfl⟩
theorem qF {o : Obj} (e : jX o = true) : ∃ el n ex c, o = .cells el n ex .plain c := by
 cases o with
 | cells el n ex fl c => cases fl with
  | plain => exact ⟨_, _, _, _, rfl⟩
  | mark => cases e
  | An => cases e
  | ro => cases e
 | _ => cases e
theorem HR.plain (H : HR φ h w) {i : P4} {p : Place} {el n : Nat} {ex : Bool} {c : Cl} (hi : ah i h = .cells el n ex .plain c) (hp : φ i = some p) : ∃ rc, w.heap[p.gI]? = some (.cells rc el (0, 0)) := by
 obtain ⟨q, hq, hr⟩ := H.obj i (hi ▸ aY)
 rw [hp] at hq; cases hq
 rw [hi] at hr
 obtain ⟨rc, fz, g1, g2, g3, g4, g5, g6, g7⟩ := hr
 exact ⟨rc, by rw [g1]; simp only [Er] at g7; rw [g7]⟩
theorem nD {a b : Addr} {ra rb : Array Value} {ea eb : TypeId} (ha : w.heap[a.block]? = some (.cells ra ea (0, 0))) (hb : w.heap[b.block]? = some (.cells rb eb (0, 0))) (hne : a.block ≠ b.block) :
  (sameAddr a b).run P w = .ok false w := by
 have h1 : (a.block == b.block) = false := by simpa using hne
 have fa : ∀ o s, w.frozen? ⟨a.block, o, s⟩ = false := fun o s => by simp [World.frozen?, ha]
 have fb : ∀ o s, w.frozen? ⟨b.block, o, s⟩ = false := fun o s => by simp [World.frozen?, hb]
 have fa' : w.frozen? a = false := by obtain ⟨x, y, z⟩ := a; exact fa y z
 have fb' : w.frozen? b = false := by obtain ⟨x, y, z⟩ := b; exact fb y z
 have sa : w.shape? a.block = some (ea, ra.size) := by simp [World.shape?, ha]
 have sb : w.shape? b.block = some (eb, rb.size) := by simp [World.shape?, hb]
 simp [sameAddr, h1, fa', fb', noView, viewAt, sa, sb, mayBeOne, stringish, fa, fb]
theorem qV (d : Nat) {t e : TypeId} {x y : AV} {cx cy : Value} (H : HR φ h w) (hx : VR φ x cx) (hy : VR φ y cy) (ht : P.underlying t = some (.pointer e)) {ie : TypeInfo} (hi : P.info? e = some ie) (hs : ie.size ≠ 0) {b : Bool}
  (hb : QQ h x y = EB.of b) : (Op.equalIn (d + 1) t cx cy).run P w = .ok b w := by
 cases x with
 | cV =>
  rw [hx.oI]
  cases y with
  | cV => rw [hy.oI]; cases b <;> cases hb; simp [Op.equalIn, az ht]
  | ptr j q => obtain ⟨p, h1, rfl⟩ := hy.kM; cases b <;> cases hb; simp [Op.equalIn, az ht]
  | _ => cases b <;> cases hb
 | ptr i o =>
  obtain ⟨p, h1, rfl⟩ := hx.kM
  cases y with
  | cV => rw [hy.oI]; cases b <;> cases hb; simp [Op.equalIn, az ht]
  | ptr j q =>
   obtain ⟨p', h2, rfl⟩ := hy.kM
   change (Bool.rec (Bool.rec EB.bad (Bool.rec EB.bad EB.no (jX (ah j h))) (jX (ah i h))) (EB.of (Nat.beq o q)) (rL i j) : EB) = EB.of b at hb
   cases hij : rL i j with
   | true =>
    rw [hij] at hb
    obtain rfl := kq.1 hij
    rw [h1] at h2; cases h2
    have hb' : b = decide (o = q) := by
     have : Nat.beq o q = decide (o = q) := by rw [Bool.eq_iff_iff, Nat.beq_eq]; simp
     rw [← this]
     cases b <;> cases hq : Nat.beq o q <;> rw [hq] at hb <;> first | rfl | cases hb
    subst hb'
    simp only [Op.equalIn, Sem.run_bind, az ht, Result.andThen_ok, bG hi, Place.addr, sameAddr]
    simp [hs]
    by_cases e : o = q <;> simp [e]
   | false =>
    rw [hij] at hb
    cases hp1 : jX (ah i h) with
    | false => rw [hp1] at hb; cases b <;> cases hb
    | true =>
     cases hp2 : jX (ah j h) with
     | false => rw [hp1, hp2] at hb; cases b <;> cases hb
     | true =>
      rw [hp1, hp2] at hb
      obtain ⟨el, n, ex, c, g1⟩ := qF hp1
      obtain ⟨el', n', ex', c', g2⟩ := qF hp2
      obtain ⟨ra, ha⟩ := H.plain g1 h1
      obtain ⟨rb, hb'⟩ := H.plain g2 h2
      have hne : p.gI ≠ p'.gI := H.inj i j p p' (g1 ▸ aY) (g2 ▸ aY) (.inl (mU g1 rfl)) (fun e => by rw [kq.2 e] at hij; cases hij) h1 h2
      have hbf : b = false := by cases b; rfl; cases hb
      subst hbf
      simp only [Op.equalIn, Sem.run_bind, az ht, Result.andThen_ok, bG hi]
      simp [hs, nD (P := P) (a := p.addr o) (b := p'.addr q) ha hb' hne]
  | _ => cases b <;> cases hb
 | _ => cases b <;> cases hb
def PN (P : Program) (k : KK) (t : TypeId) : Prop := match k with
 | .b => P.underlying t = some .bool
 | .i => ∃ k, P.underlying t = some (.int k)
 | .s => P.underlying t = some .string
 | .p => ∃ e ie, P.underlying t = some (.pointer e) ∧ P.info? e = some ie ∧ ie.size ≠ 0
theorem ic {a b : Bool} (e : EB.of a = EB.of b) : a = b := by cases a <;> cases b <;> first | rfl | cases e
theorem kN (d : Nat) {k : KK} {t : TypeId} {a c : AV} {ca cc : Value} (H : HR φ h w) (hx : VR φ a ca) (hy : VR φ c cc) (hk : PN P k t) {b : Bool} (hb : FQ k h a c = EB.of b) :
  (Op.equalIn (d + 1) t ca cc).run P w = .ok b w := by
 cases k with
 | b =>
  cases a <;> (try (cases b <;> cases hb; done))
  rename_i m
  cases c <;> (try (cases b <;> cases hb; done))
  rename_i n
  rw [hx.dT, hy.dT, run_equalIn_bool' _ _ _ _ _ hk]
  have := ic (show EB.of (jW m n) = EB.of b from hb)
  subst this
  cases m <;> cases n <;> rfl
 | i =>
  obtain ⟨kk, hk⟩ := hk
  cases a <;> (try (cases b <;> cases hb; done))
  rename_i k1 m
  cases c <;> (try (cases b <;> cases hb; done))
  rename_i k2 n
  change (Bool.rec EB.bad (EB.of (xB m n)) (nh k1 k2) : EB) = _ at hb
  cases hq : nh k1 k2 with
  | false => rw [hq] at hb; cases b <;> cases hb
  | true =>
   rw [hq] at hb
   obtain rfl := jF hq
   rw [hx.bW, hy.bW, run_equalIn_int _ _ _ _ _ _ _ hk]
   have := ic (show EB.of (xB m n) = EB.of b from hb)
   subst this
   rw [il]; rfl
 | s =>
  cases a <;> (try (cases b <;> cases hb; done))
  rename_i m
  cases c <;> (try (cases b <;> cases hb; done))
  rename_i n
  obtain ⟨s, rfl, rfl⟩ := hx.en
  obtain ⟨u, rfl, rfl⟩ := hy.en
  rw [run_equalIn_string _ _ _ _ _ hk]
  have := ic (show EB.of (iU _ _) = EB.of b from hb)
  subst this
  rw [jg]
 | p =>
  obtain ⟨e, ie, h1, h2, h3⟩ := hk
  exact qV d H hx hy h1 h2 h3 hb
variable {P : Program} {φ : aU} {h h' : Hp} {w : World} {v : AV} {x y z : AO} {r : A2}
theorem zi {t : TypeId} {k : KK} (e : Da P t = some k) : PN P k t := by
 unfold Da at e
 split at e
 ·cases e; assumption
 ·cases e; exact ⟨_, by assumption⟩
 ·cases e; assumption
 ·rename_i e' he
  split at e
  ·rename_i ie hie
   split at e
   ·cases e
   ·cases e; exact ⟨_, ie, he, hie, by assumption⟩
  ·cases e
 ·cases e
theorem PN.kc {k : KK} {t : TypeId} (hk : PN P k t) : ∃ d, P.underlying t = some d ∧ ry P t = false := by
 cases k with
 | b => exact ⟨_, hk, by simp [ry, Am.kc, (show P.underlying t = some .bool from hk)]⟩
 | i => obtain ⟨kk, hk⟩ := hk; exact ⟨_, hk, by simp [ry, Am.kc, hk]⟩
 | s => exact ⟨_, hk, by simp [ry, Am.kc, (show P.underlying t = some .string from hk)]⟩
 | p => obtain ⟨e, ie, hk, _⟩ := hk; exact ⟨_, hk, by simp [ry, Am.kc, hk]⟩
theorem gT {t : TypeId} {d : TypeDesc} (hd : P.underlying t = some d) (ha : ry P t = false) {cs : Array Value} {o : Nat} {c : Value} (hc : cs[o]? = some c) : (part t cs o).run P w = .ok c w := by
 simp [part, hM hd, ha, hc]
theorem wX (d : Nat) (H : HR φ h w) {xs ys : Array Value} : ∀ (fs : List Field) (i : Nat) (ks : List KK) (as bs : List AV) (vs ws : List Value), mV P fs i = some ks → cU φ as vs → cU φ bs ws →
  (∀ k (hk : k < vs.length), xs[i + k]? = some vs[k]) → (∀ k (hk : k < ws.length), ys[i + k]? = some ws[k]) → ∀ b, uN ks h as bs = EB.of b → (Op.eqFields (d + 1) xs ys fs).run P w = .ok b w := by
 intro fs
 induction fs with
 | nil =>
  intro i ks as bs vs ws hf ha hb _ _ b he
  cases hf
  cases ha with
  | nil => cases hb with
   | nil => cases b <;> cases he; rfl
   | cons => cases b <;> cases he
  | cons => cases b <;> cases he
 | cons f fs ih =>
  intro i ks as bs vs ws hf ha hb hxs hys b he
  unfold mV at hf
  split at hf
  ·cases hf
  ·rename_i hn
   split at hf
   ·rename_i k ks' hk hks
    cases hf
    have hname : f.name ≠ "_" := fun e => hn (.inl e)
    have hoff : f.offset = i := by
     rcases Nat.decEq f.offset i with e | e
     ·exact absurd (.inr e) hn
     ·exact e
    cases ha with
    | nil => cases b <;> cases he
    | cons a va as vs hva hvs =>
     cases hb with
     | nil => cases b <;> cases he
     | cons c vc bs ws hvc hws =>
      have hK := zi hk
      obtain ⟨dd, hd, hag⟩ := hK.kc
      have p1 := gT (w := w) hd hag (show xs[f.offset]? = some va by rw [hoff]; exact hxs 0 (by simp))
      have p2 := gT (w := w) hd hag (show ys[f.offset]? = some vc by rw [hoff]; exact hys 0 (by simp))
      change (EB.rec (uN ks' h as bs) (EB.rec .no .no .bad (uN ks' h as bs)) .bad (FQ k h a c) : EB) = EB.of b at he
      have ih' := ih (i + 1) ks' as bs vs ws hks hvs hws (fun k hk => by have := hxs (k + 1) (by simp; omega); simpa [Nat.add_assoc, Nat.add_comm 1 k] using this) (fun k hk => by have := hys (k + 1) (by simp; omega); simpa [Nat.add_assoc, Nat.add_comm 1 k] using this)
      cases hq : FQ k h a c with
      | yes =>
       rw [hq] at he
       have e1 := kN (P := P) d H hva hvc hK (b := true) hq
       simp [Op.eqFields, hname, p1, p2, e1, ih' b he]
      | no =>
       rw [hq] at he
       have e1 := kN (P := P) d H hva hvc hK (b := false) hq
       have : b = false := by cases hz : uN ks' h as bs <;> rw [hz] at he <;> cases b <;> first | rfl | cases he
       subst this
       simp [Op.eqFields, hname, p1, p2, e1]
      | bad => rw [hq] at he; cases b <;> cases he
   ·cases hf
theorem jP (d : Nat) (H : HR φ h w) {t : TypeId} {ks : List KK} (hk : sU P t = some ks) {as bs : List AV} {vs ws : List Value} (ha : cU φ as vs) (hb : cU φ bs ws) {b : Bool} (he : uN ks h as bs = EB.of b) :
  (Op.equalIn (d + 2) t (.agg vs.toArray) (.agg ws.toArray)).run P w = .ok b w := by
 unfold sU at hk
 split at hk
 ·rename_i fs hfs
  split at hk
  ·cases hk
  ·rename_i hst
   have hF : P.fieldsOf t = fs := by simp [Program.fieldsOf, hfs]
   rw [run_equalIn_struct w (d + 1) t _ _ (by rw [hF]; exact hfs) (by simpa using hst), hF]
   exact wX d H fs.toList 0 ks as bs vs ws hk ha hb (by simp) (by simp) b he
 ·cases hk
theorem oJ {neg : Bool} {b : EB} (e : EB.rv neg h b = .ok v h') : ∃ c, b = EB.of c ∧ v = .bool (c != neg) ∧ h' = h := by
 cases b
 ·cases e; exact ⟨true, rfl, by cases neg <;> rfl, rfl⟩
 ·cases e; exact ⟨false, rfl, by cases neg <;> rfl, rfl⟩
 ·cases e
section
variable {t : TypeId} {p q : Operand} {cx cy : Value}
theorem fG {op : BinOp} (hx : ∀ cs, cx ≠ .agg cs) (hy : cx ≠ .nilIface) : (eqGuard op t p q cx cy).run P w = .ok () w := by
 unfold eqGuard
 cases op <;> simp <;> cases cx <;> first | rfl | simp_all
theorem eU {b : Bool} (hs : (Op.equalIn 10000 t cx cy).run P w = .ok b w) (hx : ∀ k n, cx ≠ .int k n) (hf : ∀ k n, cx ≠ .float k n) (hc : ∀ k m n, cx ≠ .complex k m n) (hu : ∀ s, cx ≠ .string s) :
  (binOp .eql t cx cy).run P w = .ok (.bool b) w ∧ (binOp .neq t cx cy).run P w = .ok (.bool (!b)) w := by
 have e1 : binOp .eql t cx cy = (do pure (.bool (← Op.equal t cx cy)) : Sem Value) := by
  cases cx <;> first | exact absurd rfl (hx _ _) | exact absurd rfl (hf _ _) | exact absurd rfl (hc _ _ _) | exact absurd rfl (hu _) | (cases cy <;> rfl)
 have e2 : binOp .neq t cx cy = (do pure (.bool (!(← Op.equal t cx cy))) : Sem Value) := by
  cases cx <;> first | exact absurd rfl (hx _ _) | exact absurd rfl (hf _ _) | exact absurd rfl (hc _ _ _) | exact absurd rfl (hu _) | (cases cy <;> rfl)
 rw [e1, e2]
 simp [Op.equal, Op.maxDepth, hs]
theorem zj (neg : Bool) (H : HR φ h w) {a b : AV} (hx : VR φ a cx) (hy : VR φ b cy) (ht : P.underlying t = some .bool) (e : EB.rv neg h (Sr a b) = .ok v h') :
  Good φ h w v h' ((do eqGuard (if neg then .neq else .eql) t p q cx cy; binOp (if neg then .neq else .eql) t cx cy : Sem Value).run P w) := by
 obtain ⟨c, hc, rfl, rfl⟩ := oJ e
 have hr := kN (P := P) (t := t) 9999 (k := .b) H hx hy ht hc
 have hb : ∃ m, cx = .bool m := by
  cases a <;> (try (cases c <;> cases hc; done))
  exact ⟨_, hx.dT⟩
 obtain ⟨m, rfl⟩ := hb
 obtain ⟨g1, g2⟩ := eU hr (by simp) (by simp) (by simp) (by simp)
 refine .same H (.bool _) ?_
 cases neg
 ·simp [fG, g1]
 ·simp [fG, g2]
theorem zk (neg : Bool) (H : HR φ h w) {a b : AV} (hx : VR φ a cx) (hy : VR φ b cy) (ht : PN P .p t) (e : EB.rv neg h (QQ h a b) = .ok v h') :
  Good φ h w v h' ((do eqGuard (if neg then .neq else .eql) t p q cx cy; binOp (if neg then .neq else .eql) t cx cy : Sem Value).run P w) := by
 obtain ⟨c, hc, rfl, rfl⟩ := oJ e
 have hr := kN (P := P) (t := t) 9999 (k := .p) H hx hy ht hc
 have hb : ∃ m, cx = .pointer m := by
  cases a <;> (try (cases c <;> cases hc; done))
  ·obtain ⟨_, _, e⟩ := hx.kM; exact ⟨_, e⟩
  ·exact ⟨_, hx.oI⟩
 obtain ⟨m, rfl⟩ := hb
 obtain ⟨g1, g2⟩ := eU hr (by simp) (by simp) (by simp) (by simp)
 refine .same H (.bool _) ?_
 cases neg
 ·simp [fG, g1]
 ·simp [fG, g2]
theorem VR.mq {l : List AV} {c : Value} (hv : VR φ (.agg l) c) : ∃ vs : List Value, c = .agg vs.toArray ∧ cU φ l vs ∧ ∀ d, d ∈ vs → d.oneCell' = true := by cases hv; exact ⟨_, rfl, by assumption, by assumption⟩
theorem zl (neg : Bool) (H : HR φ h w) {a b : AV} (hx : VR φ a cx) (hy : VR φ b cy) {ks : List KK} (ht : sU P t = some ks) (hg : P.eqGuardType P.depth t = false) (e : xT neg ks a b h = .ok v h') :
  Good φ h w v h' ((do eqGuard (if neg then .neq else .eql) t p q cx cy; binOp (if neg then .neq else .eql) t cx cy : Sem Value).run P w) := by
 obtain ⟨as, rfl, e1⟩ := fC e
 obtain ⟨bs, rfl, e2⟩ := fC e1
 obtain ⟨c, hc, rfl, rfl⟩ := oJ e2
 obtain ⟨vs, rfl, hvs, _⟩ := hx.mq
 obtain ⟨ws, rfl, hws, _⟩ := hy.mq
 have hr := jP (P := P) 9998 H ht hvs hws hc
 obtain ⟨g1, g2⟩ := eU hr (by simp) (by simp) (by simp) (by simp)
 refine .same H (.bool _) ?_
 cases neg
 ·simp [run_eqGuard_agg _ _ _ _ _ _ _ hg, g1]
 ·simp [run_eqGuard_agg _ _ _ _ _ _ _ hg, g2]
end
variable {t0 : TypeId} {P : Program} {φ : aU} {h h' : Hp} {w : World} {v : AV} {x y z : AO} {r : A2} {cx cy : Value}
theorem VR.LR {l : List AV} {c : Value} (hv : VR φ (.nZ l) c) : ∃ vs : List Value, c = .tuple vs.toArray ∧ cU φ l vs := by cases hv; exact ⟨_, rfl, by assumption⟩
theorem Ig (H : HR φ h w) {a : AV} (hx : VR φ a cx) (e : jz a h = .ok v h') : Good φ h w v h' ((Op.unary .not cx).run P w) := by
 obtain ⟨b, rfl, e1⟩ := mi e
 obtain ⟨rfl, rfl⟩ := RV.aA e1
 rw [hx.dT]
 exact .same H (.bool _) rfl
theorem Ih (H : HR φ h w) {a : AV} (hx : VR φ a cx) (e : Ca a h = .ok v h') : Good φ h w v h' ((Op.unary .neg cx).run P w) := by
 obtain ⟨k, n, rfl, e1⟩ := bT e
 obtain ⟨rfl, rfl⟩ := RV.aA e1
 rw [hx.bW]
 refine .same H (cv := .int k (k.wrap (-n))) (by rw [dC, wT]; exact .int _ _) ?_
 simp [Op.unary, Op.intArith]
theorem Ii (H : HR φ h w) {a : AV} (hx : VR φ a cx) (e : Cb a h = .ok v h') : Good φ h w v h' ((Op.unary .xor cx).run P w) := by
 obtain ⟨k, n, rfl, e1⟩ := bT e
 obtain ⟨rfl, rfl⟩ := RV.aA e1
 rw [hx.bW]
 exact .same H (.int _ _) (by simp [Op.unary, Op.intBits])
theorem Et {cc ca cb : Value} (H : HR φ h w) {c a b : AO} (hc : VR φ (ev c r) cc) (ha : VR φ (ev a r) ca) (hb : VR φ (ev b r) cb) (e : dX c a b r h = .ok v h') :
  Good φ h w v h' ((do pure (if ← asBool cc then ca else cb) : Sem Value).run P w) := by
 obtain ⟨t, et, e1⟩ := mi e
 obtain ⟨rfl, rfl⟩ := RV.aA e1
 rw [et] at hc
 rw [hc.dT]
 cases t
 ·exact .same H hb (by simp [asBool])
 ·exact .same H ha (by simp [asBool])
theorem drop_cons {α : Type} {l t : List α} {i : Nat} {a : α} (e : l.drop i = a :: t) : ∃ hi : i < l.length, l[i] = a := by
 have hi : i < l.length := by
  rcases Nat.lt_or_ge i l.length with g | g
  ·exact g
  ·rw [List.drop_of_length_le g] at e; cases e
 refine ⟨hi, ?_⟩
 rw [List.drop_eq_getElem_cons hi] at e
 exact (List.cons.inj e).1
theorem Db {α : Type} {l : List α} {n : Nat} {k : α → RV} (e : (List.rec (.err n) (fun a _ _ => k a) l : RV) = .ok v h) : ∃ a t, l = a :: t ∧ k a = .ok v h := by
 cases l with
 | nil => cases e
 | cons a t => exact ⟨a, t, rfl, e⟩
theorem GP (H : HR φ h w) {i : Nat} (hx : VR φ (ev x r) cx) (e : uQ i x r h = .ok v h') : Good φ h w v h' ((Instr.extract cx i).run P w) := by
 obtain ⟨l, el, e1⟩ := yD e
 obtain ⟨a, t, ed, e2⟩ := Db (k := fun v => .ok v h) e1
 obtain ⟨rfl, rfl⟩ := RV.aA e2
 rw [el] at hx
 obtain ⟨vs, rfl, hvs⟩ := hx.LR
 obtain ⟨hi, ha⟩ := drop_cons ed
 have hi' : i < vs.length := by rw [← hvs.length]; exact hi
 refine .same H (cv := vs[i]) (by rw [← ha]; exact hvs.get i hi hi') ?_
 simp [Instr.extract, hi']
theorem Eu (H : HR φ h w) (hx : VR φ (ev x r) cx) (e : pv x r h = .ok v h') : v = ev x r ∧ h' = h ∧ (cx ≠ .pointer none ∧ cx ≠ .nilIface ∧ cx ≠ .nilFunc) := by
 change (OP.rec (qQ (ev x r) h) (fun i o => .ok (.ptr i o) h) (ev x r).kV : RV) = _ at e
 generalize ev x r = a at hx e
 cases hx <;> first
  | (cases e; exact ⟨rfl, rfl, by simp, by simp, by simp⟩)
  | (cases e; done)
theorem GF (H : HR φ h w) (hx : VR φ (ev x r) cx) {t : TypeId} {fs : Array Field} {f : Nat} {fd : Field} {ie : TypeInfo} (ht : P.underlying t = some (.struct fs)) (hf : fs[f]? = some fd) (hi : P.info? fd.type = some ie) (hs : ie.size ≠ 0)
  (e : rP fd.offset x r h = .ok v h') : Good φ h w v h' ((Instr.fieldAt t cx f).run P w) := by
 obtain ⟨i, o, ep, e1⟩ := cZ e
 obtain ⟨rfl, rfl⟩ := RV.aA e1
 rw [ep] at hx
 obtain ⟨p, hp, rfl⟩ := hx.kM
 refine .same H (.ptr i (o + fd.offset) p hp) ?_
 simp [Instr.fieldAt, az ht, hf, Instr.sureAddr, fieldPlace, bG hi, hs, da]
theorem vw {k : IntKind} {m : Nat} {n : Nat} (hm : m < n) : (0 : Int) ≤ (Int.ofNat m) ∧ (Int.ofNat m) < (n : Int) := ⟨by simp, by simp; omega⟩
theorem GH (H : HR φ h w) (hx : VR φ (ev x r) cx) (hy : VR φ (ev y r) cy) {t e : TypeId} {n : Nat} {ie : TypeInfo} (ht : P.underlying t = some (.array n e)) (hi : P.info? e = some ie)
  (he : uP n ie.size x y r h = .ok v h') : Good φ h w v h' ((Instr.indexAt t cx cy).run P w) := by
 obtain ⟨kd, m, em, e1⟩ := eS he
 obtain ⟨i, o, ep, e2⟩ := cZ e1
 obtain ⟨hb, e3⟩ := aG e2
 obtain ⟨rfl, rfl⟩ := RV.aA e3
 rw [ep] at hx
 rw [em] at hy
 obtain ⟨p, hp, rfl⟩ := hx.kM
 rw [hy.bW]
 have hm := lz hb
 refine .same H (.ptr i (o + m * ie.size) p hp) ?_
 have : (0 : Int) ≤ Int.ofNat m ∧ Int.ofNat m < (n : Int) := vw (k := kd) hm
 simp only [Instr.indexAt, asIntOf, Sem.run_bind, Sem.run_pure, Result.andThen_ok, az ht, Instr.sureAddr]
 simp [this.2, bG hi, da, hm]
theorem GJ (H : HR φ h w) (hx : VR φ (ev x r) cx) (hy : VR φ (ev y r) cy) {t e : TypeId} {ie : TypeInfo} (ht : P.underlying t = some (.slice e)) (hi : P.info? e = some ie)
  (he : uO ie.size x y r h = .ok v h') : Good φ h w v h' ((Instr.indexAt t cx cy).run P w) := by
 obtain ⟨kd, m, em, e1⟩ := eS he
 rw [em] at hy
 rw [hy.bW]
 rcases eX e1 with ⟨i, o, n, c, es, e2⟩ | ⟨i, o, n, c, es, e2⟩ | ⟨es, e2⟩
 ·obtain ⟨hb, e3⟩ := aG e2
  obtain ⟨rfl, rfl⟩ := RV.aA e3
  rw [es] at hx
  have hm := lz hb
  cases hx with
  | gH _ _ _ => omega
  | slice _ _ _ _ p hp =>
   refine .same H (.ptr i (o + m * ie.size) p hp) ?_
   simp only [Instr.indexAt, asIntOf, Sem.run_bind, Sem.run_pure, Result.andThen_ok, az ht]
   simp [bG hi, da, hm]
 ·obtain ⟨hb, e3⟩ := aG e2
  obtain ⟨rfl, rfl⟩ := RV.aA e3
  rw [es] at hx
  have hm := lz hb
  cases hx with
  | ft _ _ _ _ cc p a hp h1 h2 h3 h4 h5 h6 =>
   have ha : a = p.addr o := by
    obtain ⟨ab, ao, as⟩ := a
    simp only at h3 h4 h5
    have := h5 (by omega)
    subst h3 h4 this
    rfl
   subst ha
   refine .same H (.ptr i (o + m * ie.size) p hp) ?_
   simp only [Instr.indexAt, asIntOf, Sem.run_bind, Sem.run_pure, Result.andThen_ok, az ht]
   simp [bG hi, da, hm]
 ·cases e2
theorem DR (H : HR φ h w) (hx : VR φ (ev x r) cx) (hy : VR φ (ev y r) cy) {t : TypeId} (ht : P.underlying t = some .string) (he : Gi x y r h = .ok v h') : Good φ h w v h' ((Instr.index t cx cy).run P w) := by cases he
theorem Ij {ts : Array TypeId} (hts : ts[0]? = some t0) (H : HR φ h w) {a : AV} (hx : VR φ a cx) {ty : TypeId} (ht : ∃ e, P.underlying t0 = some (.slice e)) (e : len a h = .ok v h') : Good φ h w v h' ((Builtin.len_ ts ty #[cx]).run P w) := by
 obtain ⟨e', ht'⟩ := ht
 rcases eX e with ⟨i, o, n, c, rfl, e1⟩ | ⟨i, o, n, c, rfl, e1⟩ | ⟨rfl, e1⟩
 ·obtain ⟨rfl, rfl⟩ := RV.aA e1
  cases hx <;> first | exact .same H (cv := goInt n) (.int _ _) (by simp [Builtin.len_, hts, az ht']) | exact .same H (cv := goInt 0) (.int _ _) (by simp [Builtin.len_, hts, az ht'])
 ·obtain ⟨rfl, rfl⟩ := RV.aA e1
  cases hx <;> first | exact .same H (cv := goInt n) (.int _ _) (by simp [Builtin.len_, hts, az ht']) | exact .same H (cv := goInt 0) (.int _ _) (by simp [Builtin.len_, hts, az ht'])
 ·obtain ⟨rfl, rfl⟩ := RV.aA e1
  cases hx <;> exact .same H (cv := goInt 0) (.int _ _) (by simp [Builtin.len_, hts, az ht'])
theorem Ew {ts : Array TypeId} (hts : ts[0]? = some t0) (H : HR φ h w) {a : AV} (hx : VR φ a cx) {ty : TypeId} (ht : P.underlying t0 = some .string) (e : jA a h = .ok v h') : Good φ h w v h' ((Builtin.len_ ts ty #[cx]).run P w) := by
 obtain ⟨l, rfl, e1⟩ := dm e
 obtain ⟨rfl, rfl⟩ := RV.aA e1
 obtain ⟨s, rfl, rfl⟩ := hx.en
 refine .same H (cv := goInt s.size) ?_ ?_
 ·simp only [iW, goInt, List.length_map, Array.length_toList]; exact .int _ _
 ·simp [Builtin.len_, hts, az ht]
theorem Bg (H : HR φ h w) {a : AV} (hx : VR φ a cx) {s d : TypeId} {k k' : IntKind} (hs : P.underlying s = some (.int k')) (hd : P.underlying d = some (.int k)) (e : wj k a h = .ok v h') : Good φ h w v h' ((convert s d cx).run P w) := by
 obtain ⟨k1, n, rfl, e1⟩ := bT e
 obtain ⟨rfl, rfl⟩ := RV.aA e1
 rw [hx.bW]
 refine .same H (cv := .int k (k.wrap n)) (by rw [dC]; exact .int _ _) ?_
 simp [convert, az hs, az hd, Conv.intToInt]
variable {P : Program} {φ : aU} {h h' : Hp} {w : World} {v : AV} {x y z : AO} {r : A2} {cx cy : Value}
theorem wY : ∀ (l : List AV) (i : Nat) (a : AV), KB l i a = l.set i a
 | [], i, a => by cases i <;> rfl
 | x :: l, 0, a => rfl
 | x :: l, i + 1, a => by
  show x :: KB l i a = _
  rw [wY l i a]; rfl
theorem sV (a : AV) (as : List AV) (i : Nat) (l : List AV) : mM (a :: as) i l = mM as (i + 1) (KB l i a) := rfl
theorem cU.set {φ : aU} : ∀ {as : List AV} {vs : List Value} (i : Nat) {a : AV} {c : Value}, cU φ as vs → VR φ a c → cU φ (as.set i a) (vs.set i c)
 | _, _, _, _, _, .nil, _ => .nil
 | _, _, 0, _, _, .cons _ _ _ _ _ es, h => .cons _ _ _ _ h es
 | _, _, i + 1, _, _, .cons _ _ _ _ e es, h => .cons _ _ _ _ e (cU.set i es h)
def qW : List Value → Nat → List Value → List Value
 | [], _, l => l
 | c :: cs, i, l => qW cs (i + 1) (l.set i c)
theorem sW : ∀ (cs : List Value) (k off : Nat) (acc : Array Value), (cs.zipIdx k).foldl (fun a (p : Value × Nat) => a.setIfInBounds (off + p.2) p.1) acc = (qW cs (off + k) acc.toList).toArray
 | [], _, _, acc => by simp [qW]
 | c :: cs, k, off, acc => by
  simp only [List.zipIdx_cons, List.foldl_cons, qW]
  rw [sW cs (k + 1) off]
  simp [Nat.add_assoc]
theorem cU.qW {φ : aU} : ∀ {as : List AV} {cs : List Value} (i : Nat) {bs : List AV} {ds : List Value}, cU φ as cs → cU φ bs ds → cU φ (mM as i bs) (Am.qW cs i ds)
 | _, _, _, _, _, .nil, h => h
 | _, _, i, _, _, .cons a c as cs e es, h => by
  rw [sV, wY]
  exact cU.qW (i + 1) es (h.set i e)
theorem qG : ∀ (cs : List Value) (i : Nat) (l : List Value), (qW cs i l).length = l.length
 | [], _, _ => rfl
 | c :: cs, i, l => by rw [qW, qG]; simp
theorem zm : ∀ (cs : List Value) (i : Nat) (l : List Value), (∀ c, c ∈ cs → c.oneCell' = true) → (∀ c, c ∈ l → c.oneCell' = true) → ∀ c, c ∈ qW cs i l → c.oneCell' = true
 | [], _, _, _, hl => hl
 | c :: cs, i, l, hc, hl => by
  refine zm cs (i + 1) (l.set i c) (fun d hd => hc d (by simp [hd])) fun d hd => ?_
  rcases List.mem_or_eq_of_mem_set hd with g | g
  ·exact hl d g
  ·exact g ▸ hc c (by simp)
def sI (φ : aU) (r : A2) (place : Nat → Option (Nat × Nat)) (p : Part) (q : Nat × Value) : Prop := match p with
 | .mk off sz x => place q.1 = some (off, sz) ∧ VR φ (ev x r) q.2
theorem Ey {p : Part} {ps : List Part} (e : fits (p :: ps) r = true) : (∃ off sz x, p = .mk off sz x ∧ ((∃ l, ev x r = .agg l ∧ l.length = sz) ∨ ((ev x r).one = true ∧ sz = 1))) ∧ fits ps r = true := by
  obtain ⟨off, sz, x⟩ := p
  change (OL.rec (Bool.rec false (fits ps r) (Bool.and (ev x r).one (Nat.beq sz 1))) (fun l => Bool.rec false (fits ps r) (Nat.beq l.length sz)) (ev x r).asAgg : Bool) = true at e
  cases hx : ev x r <;> rw [hx] at e
  case agg l =>
    cases hb : Nat.beq l.length sz
    · simp [AV.asAgg, hb] at e
    · simp [AV.asAgg, hb] at e
      exact ⟨⟨off, sz, x, rfl, .inl ⟨l, hx, Nat.eq_of_beq_eq_true hb⟩⟩, e⟩
  all_goals
    simp only [AV.asAgg, AV.one] at e
    first
      | (simp at e; done)
      | (cases hb : Nat.beq sz 1
         · simp [hb] at e
         · simp [hb] at e
           exact ⟨⟨off, sz, x, rfl, .inr ⟨by rw [hx]; rfl, Nat.eq_of_beq_eq_true hb⟩⟩, e⟩)
theorem vy (p : Part) (ps : List Part) (r : A2) (l : List AV) : fill (p :: ps) r l = match p with | .mk off _ x => fill ps r (mM (AV.cs (ev x r)) off l) := by
 obtain ⟨off, sz, x⟩ := p; rfl
theorem sJ {place : Nat → Option (Nat × Nat)} : ∀ (ps : List Part) (qs : List (Nat × Value)) (l : List AV) (ds : List Value), ps.length = qs.length → (∀ k (h1 : k < ps.length) (h2 : k < qs.length), sI φ r place ps[k] qs[k]) → fits ps r = true →
  (∀ p, p ∈ ps → match p with | .mk off sz _ => off + sz ≤ ds.length) → cU φ l ds → (∀ c, c ∈ ds → c.oneCell' = true) →
  ∃ es : List Value, Instr.fill place ds.toArray qs = some es.toArray ∧ cU φ (fill ps r l) es ∧ ∀ c, c ∈ es → c.oneCell' = true := by
 intro ps
 induction ps with
 | nil =>
  intro qs l ds hl _ _ _ hv h1
  match qs, hl with
  | [], _ => exact ⟨ds, rfl, hv, h1⟩
 | cons p ps ih =>
  intro qs l ds hl hp hf hb hv h1
  match qs, hl with
  | (i, c) :: qs, hl =>
   obtain ⟨⟨off, sz, x, rfl, hx⟩, hf'⟩ := Ey hf
   obtain ⟨hpl, hvr⟩ := hp 0 (by simp) (by simp)
   have hcs : cU φ (AV.cs (ev x r)) c.cells.toList ∧ (∀ d, d ∈ c.cells.toList → d.oneCell' = true) ∧ c.cells.size = sz := by
    rcases hx with ⟨as, hx, hs⟩ | ⟨h2, hs⟩
    ·obtain ⟨g1, g2⟩ := hvr.jd (l := as) (.inl hx)
     have : AV.cs (ev x r) = as := by rw [hx]; rfl
     exact ⟨this ▸ g1, g2, by rw [← hs, g1.length]; simp⟩
    ·obtain ⟨g1, g2⟩ := hvr.jd (l := [ev x r]) (.inr ⟨h2, rfl⟩)
     have : AV.cs (ev x r) = [ev x r] := by
      revert h2; cases ev x r <;> intro h2 <;> first | rfl | cases h2
     exact ⟨this ▸ g1, g2, by have := g1.length; simp at this; omega⟩
   obtain ⟨g1, g2, g3⟩ := hcs
   have hoff := hb (.mk off sz x) (by simp)
   simp only at hoff
   have step := sW c.cells.toList 0 off ds.toArray
   obtain ⟨es, r1, r2, r3⟩ := ih qs (mM (AV.cs (ev x r)) off l) (qW c.cells.toList off ds) (by simpa using hl) (fun k h1 h2 => hp (k + 1) (by simpa using h1) (by simpa using h2)) hf'
    (fun q hq => by have := hb q (by simp [hq]); revert this; obtain ⟨o', s', x'⟩ := q; simp only; rw [qG]; exact id)
    (cU.qW off g1 hv) (zm _ _ _ g2 h1)
   refine ⟨es, ?_, ?_, r3⟩
   ·have hpl' : place i = some (off, sz) := hpl
    simp only [Instr.fill, hpl', g3]
    rw [if_neg (by simp; omega)]
    rw [← r1]
    congr 1
    rw [← Array.foldl_toList, Array.toList_zipIdx]
    simpa using step
   ·rw [vy]; exact r2
variable {P : Program} {φ : aU} {h h' : Hp} {w : World} {v : AV} {x y z : AO} {r : A2} {cx cy : Value}
def Bh (rc : Array Value) (o : Nat) : List Value → Array Value
 | [] => rc
 | c :: cs => Bh (rc.setIfInBounds o c) (o + 1) cs
theorem pP : ∀ (cs : List Value) (rc : Array Value) (o : Nat), (Bh rc o cs).size = rc.size
 | [], _, _ => rfl
 | c :: cs, rc, o => by rw [Bh, pP]; simp
theorem zn : ∀ (cs : List Value) (rc : Array Value) (o k : Nat), o + cs.length ≤ rc.size → (Bh rc o cs)[k]? = if h : o ≤ k ∧ k < o + cs.length then some (cs[k - o]'(by omega)) else rc[k]?
 | [], rc, o, k, _ => by rw [Bh, dif_neg (by simp only [List.length_nil]; omega)]
 | c :: cs, rc, o, k, hb => by
  simp only [List.length_cons] at hb
  rw [Bh, zn cs _ (o + 1) k (by simp; omega), Array.getElem?_setIfInBounds]
  by_cases h1 : k = o
  ·subst h1
   rw [dif_neg (by omega), if_pos rfl, if_pos (by omega), dif_pos (by simp)]
   simp
  ·by_cases h2 : o ≤ k ∧ k < o + (cs.length + 1)
   ·rw [dif_pos (by omega), dif_pos (by simpa using h2)]
    have : k - o = (k - (o + 1)) + 1 := by omega
    simp only [this, List.getElem_cons_succ]
   ·rw [dif_neg (by omega), dif_neg (by simpa using h2), if_neg (by omega)]
theorem nE {b base : Nat} : ∀ (vs : List Value) (w : World) (rc : Array Value) (el : TypeId) (fz : Nat × Nat) (k : Nat), w.heap[b]? = some (.cells rc el fz) → base + k + vs.length ≤ rc.size →
  (∀ j, j < rc.size → ¬ (fz.1 ≤ j ∧ j < fz.2)) → (∀ c, c ∈ vs → c.oneCell' = true) →
  ∃ w', (storeCells ⟨b, base, none⟩ vs k).run P w = .ok () w' ∧ w'.heap[b]? = some (.cells (Bh rc (base + k) vs) el fz) ∧ w'.heap.size = w.heap.size ∧ (∀ d, d ≠ b → w'.heap[d]? = w.heap[d]?) ∧ w'.tape = w.tape ∧ w'.os = w.os ∧ w'.output = w.output := by
 intro vs
 induction vs with
 | nil => intro w rc el fz k hb _ _ _; exact ⟨w, rfl, hb, rfl, fun _ _ => rfl, rfl, rfl, rfl⟩
 | cons c cs ih =>
  intro w rc el fz k hb hl hf h1
  simp only [List.length_cons] at hl
  have ha : (⟨b, base, none⟩ : Addr).add k = ⟨b, base + k, none⟩ := by
   unfold Addr.add; split
   ·rename_i e; subst e; rfl
   ·rfl
  have hc : w.cell? ⟨b, base + k, none⟩ = some rc[base + k] := by simp [World.cell?, hb]
  have hz : w.frozen? ⟨b, base + k, none⟩ = false := by
   simp only [World.frozen?, hb]
   rw [Bool.eq_false_iff]
   intro hh
   have hh' := Bool.and_eq_true_iff.1 hh
   exact hf (base + k) (by omega) ⟨of_decide_eq_true hh'.1, of_decide_eq_true hh'.2⟩
  have hs : (w.setCell ⟨b, base + k, none⟩ c).heap[b]? = some (.cells (rc.setIfInBounds (base + k) c) el fz) := by
   simp only [World.setCell, Array.getElem?_modify]
   simp [hb]
  obtain ⟨w', r1, r2, r3, r4, r5, r6, r7⟩ := ih (w.setCell ⟨b, base + k, none⟩ c) _ el fz (k + 1) hs (by simp; omega) (by simpa using hf) (fun d hd => h1 d (by simp [hd]))
  refine ⟨w', ?_, r2, r3.trans (kL _ _ _), fun d hd => (r4 d hd).trans (sQ _ _ _ (by exact hd)), r5, r6, r7⟩
  simp only [storeCells, Sem.run_bind, ha, iE (h1 c (by simp)) hc hz, Result.andThen_ok]
  exact r1
structure Ez (P : Program) (φ : aU) (w : World) (u : TypeId) (es m : Nat) (new : List AV) (cy : Value) (ns : List Value) : Prop where
 Ik : ∃ d, P.underlying u = some d ∧ ∀ k, d ≠ .int k
 len : (Builtin.lenOf cy).run P w = .ok m w
 size : ns.length = m * es
 rel : cU φ new ns
 one : ∀ c, c ∈ ns → c.oneCell' = true
 cells : ∀ w' : World, w'.heap = w.heap → (Builtin.firstCells es m cy).run P w' = .ok ns.toArray w'
def grown (w : World) (cs : Array Value) (e : TypeId) : World := w.drew.alloc (.cells cs e)
def eK (w : World) (need old : Nat) (e : TypeId) : Nat := (Question.appendCap need old e).cut (w.tape w.drawn (.appendCap need old e))
theorem zo (w : World) (need old : Nat) (e : TypeId) : need ≤ eK w need old e := by simp [eK, Question.cut]
theorem sX {t u ty e : TypeId} {i : TypeInfo} (ht : P.underlying t = some (.slice e)) (hi : P.info? e = some i) {m : Nat} {new : List AV} {ns : List Value} (S : Ez P φ w u i.size m new cy ns)
  {base : Option Addr} {n c : Nat} (hc : n + m ≤ c) {w' : World} (hs : ∀ a, base = some a → (storeCells (a.add (n * i.size)) ns).run P w = .ok () w') (hn : base = none → w' = w) :
  (Builtin.append_ #[t, u] ty #[.slice base n c, cy]).run P w = .ok (.slice base (n + m) c) w' := by
 obtain ⟨d, hu, hd⟩ := S.Ik
 have hz : (d matches TypeDesc.int _) = false := by cases d <;> first | rfl | exact absurd rfl (hd _)
 cases base with
 | none =>
  rw [hn rfl]
  simp [Builtin.append_, az ht, az hu, bG hi, hz, S.len, hc, S.cells w rfl]
 | some a =>
  simp [Builtin.append_, az ht, az hu, bG hi, hz, S.len, hc, S.cells w rfl, hs a rfl]
theorem qX {t u ty e : TypeId} {i : TypeInfo} {z : Value} (ht : P.underlying t = some (.slice e)) (hi : P.info? e = some i) (hz : i.zero = some z) {m : Nat} {new : List AV} {ns : List Value} (S : Ez P φ w u i.size m new cy ns)
  {base : Option Addr} {n c : Nat} (hc : ¬ n + m ≤ c) {os : List Value} (ho : ∀ w' : World, w'.heap = w.heap → (Builtin.firstCells i.size n (.slice base n c)).run P w' = .ok os.toArray w')
  (hb : (n + m) * i.bytes ≤ 140737488355328) (h63 : n + m ≤ 9223372036854775807) :
  (Builtin.append_ #[t, u] ty #[.slice base n c, cy]).run P w =
   .ok (.slice (some ⟨w.heap.size, 0, none⟩) (n + m) (eK w (n + m) c e)) (grown w (os.toArray ++ ns.toArray ++ Builtin.zeroCells z.cells (eK w (n + m) c e - (n + m))) e) := by
 obtain ⟨d, hu, hd⟩ := S.Ik
 have hzz : (d matches TypeDesc.int _) = false := by cases d <;> first | rfl | exact absurd rfl (hd _)
 have h63' : ¬ (9223372036854775807 < ((n : Int) + (m : Int))) := by omega
 have h48 := growslice_fits (old := c) (show c < n + m by omega) hb
 have h48' : ¬ (281474976710656 < Builtin.nextslicecap (n + m) c * i.bytes) := by omega
 have hcell := S.cells w.drew rfl
 have hold := ho w.drew rfl
 simp only [grown, Array.append_assoc]
 simp [Builtin.append_, az ht, az hu, bG hi, dS hi, zeroValue, hz, hzz, S.len, hc, h63', h48', Question.forced, hcell, hold, newRow, eK]
structure Src (P : Program) (φ : aU) (w : World) (e u : TypeId) (es m : Nat) (new : List AV) (cy : Value) (ns : List Value) : Prop where
 TD : ∀ (t ty : TypeId) (i : TypeInfo), P.underlying t = some (.slice e) → P.info? e = some i → i.size = es → ∀ (base : Option Addr) (n c : Nat), n + m ≤ c → ∀ w' : World, (∀ a, base = some a → (storeCells (a.add (n * es)) ns).run P w = .ok () w') → (base = none → w' = w) →
  (Builtin.append_ #[t, u] ty #[.slice base n c, cy]).run P w = .ok (.slice base (n + m) c) w'
 TE : ∀ (t ty : TypeId) (i : TypeInfo) (z : Value), P.underlying t = some (.slice e) → P.info? e = some i → i.size = es → i.zero = some z → ∀ (base : Option Addr) (n c : Nat), ¬ n + m ≤ c → ∀ os : List Value, (∀ w' : World, w'.heap = w.heap → (Builtin.firstCells es n (.slice base n c)).run P w' = .ok os.toArray w') →
  (n + m) * i.bytes ≤ 140737488355328 → n + m ≤ 9223372036854775807 →
  (Builtin.append_ #[t, u] ty #[.slice base n c, cy]).run P w =
   .ok (.slice (some ⟨w.heap.size, 0, none⟩) (n + m) (eK w (n + m) c e)) (grown w (os.toArray ++ ns.toArray ++ Builtin.zeroCells z.cells (eK w (n + m) c e - (n + m))) e)
 size : ns.length = m * es
 rel : cU φ new ns
 one : ∀ c, c ∈ ns → c.oneCell' = true
theorem Ez.src {e u : TypeId} {es m : Nat} {new : List AV} {ns : List Value} (S : Ez P φ w u es m new cy ns) : Src P φ w e u es m new cy ns where
 TD t ty i ht hi hs base n c hc w' h1 h2 := by subst hs; exact sX ht hi S hc h1 h2
 TE t ty i z ht hi hs hz base n c hc os ho hb h63 := by subst hs; exact qX ht hi hz S hc ho hb h63
 size := S.size
 rel := S.rel
 one := S.one
theorem dx {t u ty e : TypeId} {i : TypeInfo} (ht : P.underlying t = some (.slice e)) (hi : P.info? e = some i) {m : Nat} {new : List AV} {ns : List Value} (S : Src P φ w e u i.size m new cy ns)
  {base : Option Addr} {n c : Nat} (hc : n + m ≤ c) {w' : World} (hs : ∀ a, base = some a → (storeCells (a.add (n * i.size)) ns).run P w = .ok () w') (hn : base = none → w' = w) :
  (Builtin.append_ #[t, u] ty #[.slice base n c, cy]).run P w = .ok (.slice base (n + m) c) w' := S.TD t ty i ht hi rfl base n c hc w' hs hn
theorem lM {t u ty e : TypeId} {i : TypeInfo} {z : Value} (ht : P.underlying t = some (.slice e)) (hi : P.info? e = some i) (hz : i.zero = some z) {m : Nat} {new : List AV} {ns : List Value} (S : Src P φ w e u i.size m new cy ns)
  {base : Option Addr} {n c : Nat} (hc : ¬ n + m ≤ c) {os : List Value} (ho : ∀ w' : World, w'.heap = w.heap → (Builtin.firstCells i.size n (.slice base n c)).run P w' = .ok os.toArray w')
  (hb : (n + m) * i.bytes ≤ 140737488355328) (h63 : n + m ≤ 9223372036854775807) :
  (Builtin.append_ #[t, u] ty #[.slice base n c, cy]).run P w =
   .ok (.slice (some ⟨w.heap.size, 0, none⟩) (n + m) (eK w (n + m) c e)) (grown w (os.toArray ++ ns.toArray ++ Builtin.zeroCells z.cells (eK w (n + m) c e - (n + m))) e) := S.TE t ty i z ht hi rfl hz base n c hc os ho hb h63
variable {P : Program} {φ : aU} {h h' : Hp} {w : World} {v : AV} {x y z : AO} {r : A2} {cx cy : Value}
theorem gh {n : Nat} {a : RV} {f : Nat → RV} {b : RV} (e : (Nat.rec a (fun m _ => f m) n : RV) = b) : (n = 0 ∧ a = b) ∨ ∃ m, n = m + 1 ∧ f m = b := by
 cases n with
 | zero => exact .inl ⟨rfl, e⟩
 | succ m => exact .inr ⟨m, rfl, e⟩
theorem gu {b : Bool} {s t u : RV} (e : (Bool.rec s t b : RV) = u) : (b = false ∧ s = u) ∨ (b = true ∧ t = u) := by
 cases b
 ·exact .inl ⟨rfl, e⟩
 ·exact .inr ⟨rfl, e⟩
theorem sY {k : Nat → RV} {n : Nat} {a : AV} (hx : VR φ a cx) (e : yb a k (.err n) = .ok v h) : ∃ m base c, cx = .slice base m c ∧ k m = .ok v h := by
 rcases eX e with ⟨i, o, l, c, rfl, e⟩ | ⟨i, o, l, c, rfl, e⟩ | ⟨rfl, e⟩ <;> cases hx <;> exact ⟨_, _, _, rfl, e⟩
theorem sZ {w w' : World} (hw : w'.heap = w.heap) (a : Addr) : w'.cell? a = w.cell? a := by simp [World.cell?, hw]
structure Ak (P : Program) (φ : aU) (w : World) (es m : Nat) (new : List AV) (cy : Value) (ns : List Value) : Prop where
 size : ns.length = m * es
 rel : cU φ new ns
 one : ∀ c, c ∈ ns → c.oneCell' = true
 cells : ∀ w' : World, w'.heap = w.heap → (Builtin.firstCells es m cy).run P w' = .ok ns.toArray w'
 pre : ∀ k, k ≤ m → (Builtin.firstCells es k cy).run P w = .ok (ns.take (k * es)).toArray w
theorem iG {a : Addr} {l : List Value} (hc : ∀ k (hk : k < l.length), w.cell? (a.add k) = some l[k]) {n : Nat} (hn : n ≤ l.length) : (loadCells a n).run P w = .ok (l.take n).toArray w :=
 run_loadCells (by simp; omega) fun k hk => by
  rw [List.getElem_take]
  exact hc k (by simp at hk; omega)
theorem Ak.none (es : Nat) {a : Option Addr} {n c : Nat} : Ak P φ w es 0 [] (.slice a n c) [] where
 size := by simp
 rel := .nil
 one := by simp
 cells w' _ := by cases a <;> simp [Builtin.firstCells, loadCells, loadCellsFrom]
 pre k hk := by
  have : k = 0 := by omega
  subst this
  cases a <;> simp [Builtin.firstCells, loadCells, loadCellsFrom]
theorem nF (H : HR φ h w) {i : P4} {p : Place} (hp : φ i = some p) {es o n nn c : Nat} {k : List AV → RV} {q : Nat} {a : Addr} (ha : 0 < n → a = p.addr o) (e : iV es i o n h k (.err q) = .ok v h') :
  ∃ new ns, k new = .ok v h' ∧ Ak P φ w es n new (.slice (some a) nn c) ns ∧ (n = 0 ∨ ∃ el m ex fl cl, ah i h = .cells el m ex fl cl ∧ o + n * es ≤ m ∧ new = bP (n * es) cl o) := by
 unfold iV at e
 rcases gh e with ⟨rfl, e⟩ | ⟨n, rfl, e⟩
 ·exact ⟨[], [], e, Ak.none es, .inl rfl⟩
 ·obtain ⟨el, m, ex, fl, cl, hi, e⟩ := bg e
  obtain ⟨hb, e⟩ := aG e
  have hb : o + (n + 1) * es ≤ m := Nat.le_of_ble_eq_true hb
  obtain ⟨l, h1, h2, h3, h4⟩ := H.values hi hp _ o hb
  rw [ha (by omega)]
  refine ⟨_, l, e, ⟨h1, h2, h3, fun w' hw => ?_, fun k hk => ?_⟩, .inr ⟨_, _, _, _, _, hi, hb, rfl⟩⟩
  ·simp only [Builtin.firstCells]
   exact run_loadCells h1 fun k hk => by rw [sZ hw]; exact h4 k hk
  ·simp only [Builtin.firstCells]
   exact iG h4 (by rw [h1]; exact Nat.mul_le_mul_right _ hk)
theorem iH {p : Place} {a : Addr} {o c : Nat} (h3 : a.block = p.gI) (h4 : a.spot = none) (h5 : c ≠ 0 → a.off = p.base + o) (hc : 0 < c) : a = p.addr o := by
 obtain ⟨ab, ao, as⟩ := a
 simp only at h3 h4 h5
 have := h5 (by omega)
 subst h3 h4 this
 rfl
theorem ta (H : HR φ h w) {es : Nat} {a : AV} (hy : VR φ a cy) {k : List AV → RV} {q : Nat} (e : elems es a h k (.err q) = .ok v h') :
  ∃ b n c new ns, cy = .slice b n c ∧ k new = .ok v h' ∧ Ak P φ w es n new cy ns := by
 rcases eX e with ⟨i, o, l, c, rfl, e⟩ | ⟨i, o, l, c, rfl, e⟩ | ⟨rfl, e⟩
 ·cases hy with
  | gH _ _ _ => exact ⟨_, _, _, [], [], rfl, e, Ak.none es⟩
  | slice _ _ _ _ p hp =>
   obtain ⟨new, ns, h1, h2, _⟩ := nF (P := P) (nn := l) (c := c) H hp (a := p.addr o) (fun _ => rfl) e
   exact ⟨_, _, _, new, ns, rfl, h1, h2⟩
 ·obtain ⟨_, e⟩ := aG e
  cases hy with
  | ft _ _ _ _ cc p a hp h1 h2 h3 h4 h5 h6 =>
   obtain ⟨new, ns, h1, h2, _⟩ := nF (P := P) (nn := l) (c := cc) H hp (a := a) (fun hl => iH h3 h4 h5 (by omega)) e
   exact ⟨_, _, _, new, ns, rfl, h1, h2⟩
 ·cases hy
  exact ⟨_, _, _, [], [], rfl, e, Ak.none es⟩
theorem Ak.SX {es m c : Nat} {b : Option Addr} {new : List AV} {ns : List Value} (E : Ak P φ w es m new (.slice b m c) ns) {u f : TypeId} (hu : P.underlying u = some (.slice f)) : Ez P φ w u es m new (.slice b m c) ns where
 Ik := ⟨_, hu, by simp⟩
 len := rfl
 size := E.size
 rel := E.rel
 one := E.one
 cells := E.cells
theorem Ak.src {es m c : Nat} {b : Option Addr} {new : List AV} {ns : List Value} (E : Ak P φ w es m new (.slice b m c) ns) {e u f : TypeId} (hu : P.underlying u = some (.slice f)) : Src P φ w e u es m new (.slice b m c) ns := (E.SX hu).src
theorem nG {i : P4} {o : Nat} {l : List AV} {k : Hp → RV} (e : jZ i o l h k = .ok v h') : ∃ el n ex fl c, ah i h = .cells el n ex fl c ∧ wr fl = true ∧ o + l.length ≤ n ∧ k (dY i (.cells el n ex fl (cH l o c)) h) = .ok v h' := by
 obtain ⟨el, n, ex, fl, c, hi, e⟩ := bg e
 obtain ⟨hw, e⟩ := aG e
 obtain ⟨hb, e⟩ := aG e
 exact ⟨el, n, ex, fl, c, hi, hw, Nat.le_of_ble_eq_true hb, e⟩
theorem kO (H : HR φ h w) {i : P4} {p : Place} (hp : φ i = some p) {el n : Nat} {ex : Bool} {fl : Fl} {c : Cl} (hi : ah i h = .cells el n ex fl c) (hf : wr fl = true) {l : List AV} {vs : List Value} (hl : cU φ l vs) (h1 : ∀ x, x ∈ vs → x.oneCell' = true)
  {o : Nat} (hn : o + l.length ≤ n) : ∃ w', (storeCells (p.addr o) vs).run P w = .ok () w' ∧ HR φ (dY i (.cells el n ex fl (cH l o c)) h) w' ∧ Step φ h w φ (dY i (.cells el n ex fl (cH l o c)) h) w' := by
 obtain ⟨w', r1, r2, r3⟩ := lI (P := P) hp hf l vs h w c o 0 H hi hl h1 (by omega)
 refine ⟨w', r1, r2, φ.le_refl, r3, fun k q hk hq => ?_⟩
 rw [aN] at hk
 by_cases ek : k = i
 ·subst ek; exact .inl ⟨hi ▸ aY, hq, fun _ => mU hi hf⟩
 ·rw [if_neg ek] at hk; exact .inl ⟨hk, hq, fun x => by rw [aN, if_neg ek] at x; exact x⟩
theorem lN (z : Array Value) (n : Nat) : (Builtin.zeroCells z n).size = n * z.size := by simp [Builtin.zeroCells]
theorem kP {t u ty e : TypeId} {i : TypeInfo} {zv : Value} (H : HR φ h w) (ht : P.underlying t = some (.slice e)) (hi : P.info? e = some i) (hz : i.zero = some zv) (hzs : zv.cells.size = i.size) (hby : i.bytes ≤ 1048576) (hes : 0 < i.size)
  {m : Nat} {new : List AV} {ns : List Value} (S : Src P φ w e u i.size m new cy ns) {base : Option Addr} {n c : Nat} (hc : ¬ n + m ≤ c) {old : List AV} {os : List Value} (E : Ak P φ w i.size n old (.slice base n c) os)
  (he : pw e i.size n m old new h = .ok v h') : Good φ h w v h' ((Builtin.append_ #[t, u] ty #[.slice base n c, cy]).run P w) := by
 have hroom := rB he
 obtain ⟨hr, hn, he⟩ := kH he
 obtain ⟨rfl, rfl⟩ := RV.aA he
 have hl1 := E.rel.length
 have hl2 := S.rel.length
 have hlen : (List.append old new).length = (n + m) * i.size := by
  show (old ++ new).length = _
  rw [List.length_append, hl1, hl2, E.size, S.size, Nat.add_mul]
 have hnm : n + m ≤ 16777216 := by
  have : (n + m) * 1 ≤ (n + m) * i.size := Nat.mul_le_mul_left _ hes
  omega
 have hbb : (n + m) * i.bytes ≤ 140737488355328 := by
  have : (n + m) * i.bytes ≤ 16777216 * 1048576 := Nat.mul_le_mul hnm hby
  omega
 have hrun := lM (P := P) (ty := ty) ht hi hz S hc E.cells hbb (by omega)
 rw [hrun]
 have hcap := zo w (n + m) c e
 have hsz : (os.toArray ++ ns.toArray ++ Builtin.zeroCells zv.cells (eK w (n + m) c e - (n + m))).size = eK w (n + m) c e * i.size := by
  rw [Array.size_append, Array.size_append, lN, hzs]
  simp only [List.size_toArray]
  rw [E.size, S.size, ← Nat.add_mul, ← Nat.add_mul]
  congr 1; omega
 have hrel : cU φ (List.append old new) (os ++ ns) := E.rel.append S.rel
 obtain ⟨g1, g2⟩ := H.sS (n' := h.next.succ) (w' := grown w (os.toArray ++ ns.toArray ++ Builtin.zeroCells zv.cells (eK w (n + m) c e - (n + m))) e) hn
  (rc := os.toArray ++ ns.toArray ++ Builtin.zeroCells zv.cells (eK w (n + m) c e - (n + m))) (el := e) (n := (List.append old new).length) (ex := false) (fl := .plain) (fz := (0, 0)) (c := ng (List.append old new))
  (by rw [hsz, hlen]; exact Nat.mul_le_mul_right _ hcap) (by simp) hr
  (fun k hk => by
   have hk' : k < (os ++ ns).length := by rw [← hrel.length]; exact hk
   refine ⟨(os ++ ns)[k], ?_, ?_, ?_⟩
   ·rw [Array.getElem?_append_left (by simpa using hk'), List.append_toArray]
    simp only [List.getElem?_toArray]
    exact List.getElem?_eq_getElem hk'
   ·rw [eT _ hr k hk]; exact hrel.get k hk hk'
   ·rcases List.mem_append.1 (List.getElem_mem hk') with g | g
    ·exact E.one _ g
    ·exact S.one _ g) rfl rfl rfl rfl rfl
 refine ⟨_, _, _, rfl, ?_, g1, g2⟩
 refine .ft _ 0 (n + m) i.size (eK w (n + m) c e) ⟨w.heap.size, 0, _⟩ ⟨w.heap.size, 0, none⟩ (aU.aX _ _ _) ?_ hcap rfl rfl (fun _ => rfl) hes
 rw [hsz]; simp
theorem uz {fl : Fl} {fz : Nat × Nat} {size : Nat} (hf : wr fl = true) (hk : Er fl fz size) : ∀ j, j < size → ¬ (fz.1 ≤ j ∧ j < fz.2) := by
 cases fl with
 | plain => cases hk; intro j _; simp
 | mark => exact hk
 | An => cases hf
 | ro => cases hf
theorem EA {fl : Fl} {size : Nat} : Er fl (0, 0) size := by
 cases fl with
 | plain => rfl
 | mark => intro k _; simp
 | An => trivial
 | ro => trivial
theorem iz {h : Hp} {o : Obj} {n' : P4} (j : P4) : ah j (.mk (dy h.next o h.tree) n') = if j = h.next then o else ah j h := by
 cases h with
 | mk t n => exact dq j n o t
theorem HR.mN (H : HR φ h w) {i : P4} {p : Place} (hp : φ i = some p) (hwi : wl (ah i h)) (hn : ah h.next (dY i .dead h) = .none) {q : Place} {w' : World} (hb : q.gI = p.gI ∨ q.gI = w.heap.size)
  {o : Obj} (hlo : live o) (hsz : w.heap.size ≤ w'.heap.size) (hq : q.gI < w'.heap.size) (hne : ∀ b, b < w.heap.size → b ≠ p.gI → w'.heap[b]? = w.heap[b]?) (ho : OR (φ.put h.next q) o q w'.heap[q.gI]?)
  (ht : w'.tape = w.tape) (hos : w'.os = w.os) (hu : w'.output = w.output) {n' : P4} :
  HR (φ.put h.next q) (.mk (dy h.next o (dY i .dead h).tree) n') w' ∧ Step φ h w (φ.put h.next q) (.mk (dy h.next o (dY i .dead h).tree) n') w' := by
 have hi := hwi.1
 have hni : h.next ≠ i := by
  intro e; rw [aN, if_pos e] at hn; cases hn
 rw [aN, if_neg hni] at hn
 have hφ := H.fresh _ hn
 have hle := aU.lE (φ := φ) (i := h.next) q hφ
 have hg : ∀ j, ah j (.mk (dy h.next o (dY i .dead h).tree) n') = if j = h.next then o else if j = i then .dead else ah j h := by
  intro j
  have := iz (h := dY i .dead h) (o := o) (n' := n') j
  have hnx : (dY i .dead h).next = h.next := rfl
  rw [hnx] at this
  rw [this, aN]
 have hold : ∀ j r, j ≠ h.next → (φ.put h.next q) j = some r → φ j = some r := by
  intro j r hj hr; simpa [aU.put, hj] using hr
 have hlv : ∀ j, live (ah j (.mk (dy h.next o (dY i .dead h).tree) n')) → j = h.next ∨ (j ≠ h.next ∧ j ≠ i ∧ live (ah j h)) := by
  intro j hj
  rw [hg] at hj
  by_cases e : j = h.next
  ·exact .inl e
  ·rw [if_neg e] at hj
   by_cases e' : j = i
   ·rw [if_pos e'] at hj; exact absurd rfl hj.2
   ·rw [if_neg e'] at hj; exact .inr ⟨e, e', hj⟩
 refine ⟨⟨fun j hj => ?_, fun j k s t hj hk hw2 hjk hs ht => ?_, fun j hj => ?_, fun j s hs => ?_⟩, hle, ⟨hsz, fun b hb' hnb => hne b hb' ?_, ht, hos, hu⟩, fun j s hj hs => ?_⟩
 ·rcases hlv j hj with rfl | ⟨e1, e2, e3⟩
  ·rw [hg, if_pos rfl]
   exact ⟨q, aU.aX _ _ _, ho⟩
  ·rw [hg, if_neg e1, if_neg e2]
   obtain ⟨s, hs, hr⟩ := H.obj j e3
   refine ⟨s, hle _ _ hs, ?_⟩
   rw [hne _ (H.bound _ _ hs) (H.inj j i s p e3 hi (.inr hwi) e2 hs hp)]
   exact hr.mono hle
 ·rcases hlv j hj with rfl | ⟨e1, e2, e3⟩ <;> rcases hlv k hk with rfl | ⟨f1, f2, f3⟩
  ·exact absurd rfl hjk
  ·rw [aU.aX] at hs; cases hs
   have ht' := hold k t f1 ht
   have h1 := H.inj k i t p f3 hi (.inr hwi) f2 ht' hp
   have h2 := H.bound k t ht'
   rcases hb with g | g <;> rw [g] <;> first | exact fun e => h1 e.symm | omega
  ·rw [aU.aX] at ht; cases ht
   have hs' := hold j s e1 hs
   have h1 := H.inj j i s p e3 hi (.inr hwi) e2 hs' hp
   have h2 := H.bound j s hs'
   rcases hb with g | g <;> rw [g] <;> first | exact h1 | omega
  ·rw [hg, hg, if_neg e1, if_neg e2, if_neg f1, if_neg f2] at hw2
   exact H.inj j k s t e3 f3 hw2 hjk (hold j s e1 hs) (hold k t f1 ht)
 ·rw [hg] at hj
  by_cases e : j = h.next
  ·rw [if_pos e] at hj; exact absurd hj hlo.1
  ·rw [if_neg e] at hj
   show (if j = h.next then some _ else φ j) = none
   rw [if_neg e]
   by_cases e' : j = i
   ·rw [if_pos e'] at hj; cases hj
   ·rw [if_neg e'] at hj; exact H.fresh j hj
 ·by_cases e : j = h.next
  ·rw [e, aU.aX] at hs; cases hs; exact hq
  ·exact Nat.lt_of_lt_of_le (H.bound j s (hold j s e hs)) hsz
 ·exact fun e => hnb i p hwi hp e.symm
 ·rcases hlv j hj with rfl | ⟨e1, e2, e3⟩
  ·rw [aU.aX] at hs; cases hs
   rcases hb with g | g
   ·exact .inr (.inr ⟨i, p, hwi, hp, g.symm⟩)
   ·exact .inr (.inl (by omega))
  ·exact .inl ⟨e3, hold j s e1 hs, fun x => by rw [hg, if_neg e1, if_neg e2] at x; exact x⟩
variable {P : Program} {φ : aU} {h h' : Hp} {w : World} {v : AV} {x y z : AO} {r : A2} {cx cy : Value}
theorem PO (H : HR φ h w) {i : P4} {p : Place} (hp : φ i = some p) {el k : Nat} {ex : Bool} {fl : Fl} {c : Cl} (hi : ah i h = .cells el k ex fl c) {es o n nn cc : Nat} {a : Addr} (ha : 0 < n → a = p.addr o) (hb : o + n * es ≤ k) :
  ∃ os, Ak P φ w es n (bP (n * es) c o) (.slice (some a) nn cc) os := by
 rcases Nat.eq_zero_or_pos n with rfl | hn
 ·refine ⟨[], ?_⟩
  rw [Nat.zero_mul]
  exact Ak.none es
 ·obtain ⟨l, h1, h2, h3, h4⟩ := H.values hi hp _ o hb
  rw [ha hn]
  refine ⟨l, h1, h2, h3, fun w' hw => ?_, fun k hk => ?_⟩
  ·simp only [Builtin.firstCells]
   exact run_loadCells h1 fun k hk => by rw [sZ hw]; exact h4 k hk
  ·simp only [Builtin.firstCells]
   exact iG h4 (by rw [h1]; exact Nat.mul_le_mul_right _ hk)
theorem tc {t u ty e : TypeId} {i : TypeInfo} {zv : Value} (H : HR φ h w) (ht : P.underlying t = some (.slice e)) (hi : P.info? e = some i) (hz : i.zero = some zv) (hzs : zv.cells.size = i.size) (hby : i.bytes ≤ 1048576) (hes : 0 < i.size)
  {m : Nat} {new : List AV} {ns : List Value} (S : Src P φ w e u i.size m new cy ns) (hm : 0 < m) {j : P4} {o n : Nat} {cs : Value} (hs : VR φ (.ft j o n i.size) cs) {k : Nat} {fl : Fl} {c c' : Cl} (hj : ah j h = .cells e k false fl c) (hf : wr fl = true)
  (hb : o + n * i.size ≤ k) (hc' : (n + m) * i.size ≤ bM c' → ∀ x (hx : x < (bP (n * i.size) c o ++ new).length), eP x c' = (bP (n * i.size) c o ++ new)[x])
  (he : mN j e ((n + m) * i.size) fl c' (n + m) i.size h = .ok v h') : Good φ h w v h' ((Builtin.append_ #[t, u] ty #[cs, cy]).run P w) := by
 have hroom := rB he
 obtain ⟨hr, hn, he⟩ := kH he
 obtain ⟨rfl, rfl⟩ := RV.aA he
 have hcg := hc' hr
 cases hs with
 | ft _ _ _ _ cap p a hp h1 h2 h3 h4 h5 h6 =>
 have hl : live (ah j h) := hj ▸ aY
 obtain ⟨q, hq, hor⟩ := H.obj j hl
 rw [hp] at hq; cases hq
 rw [hj] at hor
 obtain ⟨rc, fz, g1, g2, g3, g4, g5, g6, g7⟩ := hor
 have ha : 0 < n → a = p.addr o := fun hn => iH h3 h4 h5 (by omega)
 obtain ⟨os, E⟩ := PO (P := P) H hp hj (nn := n) (cc := cap) ha hb
 have hrel : cU φ (bP (n * i.size) c o ++ new) (os ++ ns) := E.rel.append S.rel
 have hone : ∀ c, c ∈ os ++ ns → c.oneCell' = true := fun c hc => (List.mem_append.1 hc).elim (E.one c) (S.one c)
 have hlen : (os ++ ns).length = (n + m) * i.size := by rw [List.length_append, E.size, S.size, Nat.add_mul]
 change ah h.next (dY j .dead h) = .none at hn
 have hnx : ah h.next h = .none := by
  rw [aN] at hn
  by_cases e' : h.next = j
  ·rw [if_pos e'] at hn; cases hn
  ·rwa [if_neg e'] at hn
 have hφ := H.fresh _ hnx
 by_cases hin : n + m ≤ cap
 ·have ha' : a = p.addr o := iH h3 h4 h5 (by omega)
  have hcap : (n + m) * i.size ≤ cap * i.size := Nat.mul_le_mul_right _ hin
  have hsum := Nat.add_mul n m i.size
  have hnsl := S.size
  obtain ⟨w', r1, r2, r3, r4, r5, r6, r7⟩ := nE (P := P) (b := p.gI) (base := p.base + (o + n * i.size)) ns w rc e fz 0 g1 (by omega) (uz hf g7) S.one
  have hst : (storeCells (a.add (n * i.size)) ns).run P w = .ok () w' := by rw [ha', da]; exact r1
  rw [dx (P := P) (ty := ty) ht hi S hin (w' := w') (fun b hb => by cases hb; exact hst) (by simp)]
  obtain ⟨k1, k2⟩ := H.mN (n' := h.next.succ) hp (mU hj hf) hn (q := ⟨p.gI, p.base + o, p.room - o⟩) (w' := w') (.inl rfl) (o := .cells e ((n + m) * i.size) false fl c') aY (by omega) (by rw [r3]; exact H.bound j p hp) (fun b _ hb => r4 b hb)
   (by
    refine ⟨_, fz, r2, by rw [pP]; simp only; omega, by simp only; omega, by simp, hr, fun x hx => ?_, by rw [pP]; exact g7⟩
    have hx' : x < (os ++ ns).length := by rw [hlen]; exact hx
    refine ⟨(os ++ ns)[x], ?_, ?_, hone _ (List.getElem_mem _)⟩
    ·rw [zn _ _ _ _ (by omega)]
     have hosl := E.size
     by_cases hxo : x < os.length
     ·rw [dif_neg (by simp only; omega), List.getElem_append_left hxo]
      have := E.cells w rfl
      rw [ha'] at this
      obtain ⟨l, v1, v2, v3, v4⟩ := H.values hj hp _ o hb
      have hrun := run_loadCells (P := P) v1 v4
      simp only [Builtin.firstCells] at this
      rw [hrun] at this
      have hol : l = os := by simpa using this
      subst hol
      have := v4 x hxo
      rw [da, vt g1] at this
      rw [← Nat.add_assoc] at this
      exact this
     ·simp only
      rw [dif_pos (by omega), List.getElem_append_right (by omega)]
      congr 2
      omega
    ·rw [hcg x (by rw [hrel.length]; exact hx')]
     exact (hrel.get x (by rw [hrel.length]; exact hx') hx').mono (aU.lE _ hφ)) r5 r6 r7
  refine ⟨_, w', _, rfl, ?_, k1, k2⟩
  refine .ft _ 0 (n + m) i.size cap ⟨p.gI, p.base + o, p.room - o⟩ a (aU.aX _ _ _) (by simp only; omega) hin h3 h4 (fun hc => ?_) hes
  have := h5 hc
  simpa using this
 ·have hnm : n + m ≤ 16777216 := by
   have : (n + m) * 1 ≤ (n + m) * i.size := Nat.mul_le_mul_left _ hes
   omega
  have hbb : (n + m) * i.bytes ≤ 140737488355328 := by
   have : (n + m) * i.bytes ≤ 16777216 * 1048576 := Nat.mul_le_mul hnm hby
   omega
  rw [lM (P := P) (ty := ty) ht hi hz S hin E.cells hbb (by omega)]
  have hcap := zo w (n + m) cap e
  have hsz : (os.toArray ++ ns.toArray ++ Builtin.zeroCells zv.cells (eK w (n + m) cap e - (n + m))).size = eK w (n + m) cap e * i.size := by
   rw [Array.size_append, Array.size_append, lN, hzs]
   simp only [List.size_toArray]
   rw [E.size, S.size, ← Nat.add_mul, ← Nat.add_mul]
   congr 1; omega
  have hheap : (grown w (os.toArray ++ ns.toArray ++ Builtin.zeroCells zv.cells (eK w (n + m) cap e - (n + m))) e).heap = w.heap.push (.cells (os.toArray ++ ns.toArray ++ Builtin.zeroCells zv.cells (eK w (n + m) cap e - (n + m))) e) := rfl
  obtain ⟨k1, k2⟩ := H.mN (n' := h.next.succ) hp (mU hj hf) hn (q := ⟨w.heap.size, 0, eK w (n + m) cap e * i.size⟩) (w' := grown w (os.toArray ++ ns.toArray ++ Builtin.zeroCells zv.cells (eK w (n + m) cap e - (n + m))) e) (.inr rfl)
   (o := .cells e ((n + m) * i.size) false fl c') aY (by rw [hheap]; simp) (by rw [hheap]; simp) (fun b hb _ => by rw [hheap, Array.getElem?_push, if_neg (by omega)])
   (by
    refine ⟨os.toArray ++ ns.toArray ++ Builtin.zeroCells zv.cells (eK w (n + m) cap e - (n + m)), (0, 0), by rw [hheap]; simp, by simp only [Nat.zero_add]; exact hsz.symm, Nat.mul_le_mul_right _ hcap, by simp, hr, fun x hx => ?_, EA⟩
    have hx' : x < (os ++ ns).length := by rw [hlen]; exact hx
    refine ⟨(os ++ ns)[x], ?_, ?_, hone _ (List.getElem_mem _)⟩
    ·simp only [Nat.zero_add]
     rw [Array.getElem?_append_left (by simpa using hx'), List.append_toArray]
     simp only [List.getElem?_toArray]
     exact List.getElem?_eq_getElem hx'
    ·rw [hcg x (by rw [hrel.length]; exact hx')]
     exact (hrel.get x (by rw [hrel.length]; exact hx') hx').mono (aU.lE _ hφ)) rfl rfl rfl
  refine ⟨_, _, _, rfl, ?_, k1, k2⟩
  exact .ft _ 0 (n + m) i.size (eK w (n + m) cap e) ⟨w.heap.size, 0, _⟩ ⟨w.heap.size, 0, none⟩ (aU.aX _ _ _) (by simp) hcap rfl rfl (fun _ => rfl) hes
variable {P : Program} {φ : aU} {h h' : Hp} {w : World} {v : AV} {x y z : AO} {r : A2} {cx cy : Value}
theorem zp (l new : List AV) {c : Cl} (hl : l.length + new.length ≤ bM (cH new l.length (jV (l.length + new.length) c))) (hr : l.length ≤ bM c) (hc : ∀ k (hk : k < l.length), eP k c = l[k]) (x : Nat) (hx : x < (l ++ new).length) :
  eP x (cH new l.length (jV (l.length + new.length) c)) = (l ++ new)[x] := by
 rw [fj] at hl
 have hx' : x < l.length + new.length := by simpa using hx
 rw [kK _ _ _ _ (by omega) hl]
 by_cases h1 : x < l.length
 ·rw [dif_neg (by omega), Ep _ _ _ (by omega), hc x h1, List.getElem_append_left h1]
 ·rw [dif_pos (by omega), List.getElem_append_right (by omega)]
theorem Bi {t u ty e : TypeId} {i : TypeInfo} {zv : Value} (H : HR φ h w) (ht : P.underlying t = some (.slice e)) (hi : P.info? e = some i) (hz : i.zero = some zv) (hzs : zv.cells.size = i.size) (hby : i.bytes ≤ 1048576) (hes : 0 < i.size)
  {m : Nat} {new : List AV} {ns : List Value} (S : Src P φ w e u i.size m new cy ns) (hm : 0 < m) {j : P4} {o n : Nat} {cs : Value} (hs : VR φ (.ft j o n i.size) cs) (he : Gk e i.size m new j o n h = .ok v h') :
  Good φ h w v h' ((Builtin.append_ #[t, u] ty #[cs, cy]).run P w) := by
 obtain ⟨el, k, ex, fl, c, hj, he⟩ := bg he
 obtain ⟨hf, he⟩ := aG he
 have hl : live (ah j h) := hj ▸ aY
 rcases gu he with ⟨hb, he⟩ | ⟨hb, he⟩
 ·obtain ⟨hb1, he⟩ := aG he
  have hb1 : o + n * i.size ≤ k := Nat.le_of_ble_eq_true hb1
  have hlen : (bP (n * i.size) c o ++ new).length = (n + m) * i.size := by
   rw [List.length_append, aW, S.rel.length, S.size, Nat.add_mul]
  have hkr : k ≤ bM c := by
   obtain ⟨q, hq, hor⟩ := H.obj j hl
   rw [hj] at hor
   obtain ⟨rc, fz, g1, g2, g3, g4, g5, g6, g7⟩ := hor
   exact g5
  rcases gu he with ⟨hx, he2⟩ | ⟨_, he2⟩
  ·have hx : (ex || !Nat.beq e el) = false := hx
   have hex : ex = false := by cases ex <;> simp_all
   have hel : e = el := by
    cases hbe : Nat.beq e el
    ·simp [hbe] at hx
    ·exact Nat.eq_of_beq_eq_true hbe
   subst hex hel
   rcases gu he2 with ⟨_, he3⟩ | ⟨h0, he3⟩
   ·refine tc H ht hi hz hzs hby hes S hm hs hj hf hb1 (fun hr x hx => ?_) he3
    refine eT _ ?_ x hx
    show (bP (n * i.size) c o ++ new).length ≤ _
    rw [hlen]; exact hr
   ·obtain ⟨h1, h2⟩ := Bool.and_eq_true_iff.1 h0
    have h1 : o = 0 := Nat.eq_of_beq_eq_true h1
    have h2 : n * i.size = k := Nat.eq_of_beq_eq_true h2
    subst h1 h2
    refine tc H ht hi hz hzs hby hes S hm hs hj hf hb1 (fun hr x hx => ?_) he3
    have hsz : (n + m) * i.size = (bP (n * i.size) c 0).length + new.length := by rw [aW, S.rel.length, S.size, Nat.add_mul]
    have hlc : n * i.size = (bP (n * i.size) c 0).length := (aW _ _ _).symm
    have hr' : (bP (n * i.size) c 0).length + new.length ≤ bM (cH new (bP (n * i.size) c 0).length (jV ((bP (n * i.size) c 0).length + new.length) c)) := by
     rw [← hsz, ← hlc]; exact hr
    have := zp (bP (n * i.size) c 0) new (c := c) hr' (by rw [← hlc]; exact hkr) (fun k hk => by rw [mT, Nat.zero_add]) x hx
    rw [← this, ← hsz, ← hlc]
    rfl
  ·cases he2
 ·have hb : o + (n + m) * i.size ≤ k := Nat.le_of_ble_eq_true hb
  obtain ⟨rfl, rfl⟩ := RV.aA he
  cases hs with
  | ft _ _ _ _ cap p a hp h1 h2 h3 h4 h5 h6 =>
  have hkr : k ≤ p.room := by
   obtain ⟨q, hq, hor⟩ := H.obj j hl
   rw [hp] at hq; cases hq
   rw [hj] at hor
   obtain ⟨rc, fz, g1, g2, g3, g4, g5, g6, g7⟩ := hor
   exact g3
  have hin : n + m ≤ cap := by
   have : (n + m) * i.size ≤ cap * i.size := by omega
   exact Nat.le_of_mul_le_mul_right this hes
  have ha : a = p.addr o := iH h3 h4 h5 (by omega)
  have hsum := Nat.add_mul n m i.size
  obtain ⟨w', r1, r2, r3⟩ := kO (P := P) H hp hj hf S.rel S.one (o := o + n * i.size) (by rw [S.rel.length, S.size]; omega)
  rw [dx (P := P) (ty := ty) ht hi S hin (w' := w') (fun b hb => by cases hb; rw [ha, da]; exact r1) (by simp)]
  exact ⟨_, w', φ, rfl, .ft _ _ _ _ cap p a hp h1 hin h3 h4 h5 h6, r2, r3⟩
theorem vz {t u ty e : TypeId} {i : TypeInfo} {zv : Value} (H : HR φ h w) (ht : P.underlying t = some (.slice e)) (hi : P.info? e = some i) (hz : i.zero = some zv) (hzs : zv.cells.size = i.size) (hby : i.bytes ≤ 1048576) (hes : 0 < i.size)
  {m : Nat} {new : List AV} {ns : List Value} (S : Src P φ w e u i.size m new cy ns) {s : AV} {cs : Value} (hs : VR φ s cs) (he : mD e i.size m new s h = .ok v h') :
  Good φ h w v h' ((Builtin.append_ #[t, u] ty #[cs, cy]).run P w) := by
 have hns0 : m = 0 → ns = [] := fun hm => by have := S.size; rw [hm, Nat.zero_mul] at this; exact List.length_eq_zero_iff.1 this
 rcases eX he with ⟨j, o, n, cap, rfl, he⟩ | ⟨j, o, n, es', rfl, he⟩ | ⟨rfl, he⟩
 ·rcases gu he with ⟨hb, he2⟩ | ⟨hb, he2⟩
  ·have hin : ¬ n + m ≤ cap := fun hle => by have := Nat.ble_eq_true_of_le hle; rw [show (n + m).ble cap = (n.add m).ble cap from rfl, hb] at this; cases this
   cases hs with
   | gH _ _ _ => exact kP H ht hi hz hzs hby hes S (n := 0) (c := 0) hin (Ak.none i.size) he2
   | slice _ _ _ _ p hp =>
   obtain ⟨old, os, he3, E, _⟩ := nF (P := P) (nn := n) (c := cap) H hp (a := p.addr o) (fun _ => rfl) he2
   exact kP H ht hi hz hzs hby hes S hin E he3
  ·have hin : n + m ≤ cap := Nat.le_of_ble_eq_true hb
   cases hs with
   | gH _ _ a0 =>
    rcases gh he2 with ⟨rfl, he3⟩ | ⟨m, rfl, he3⟩
    ·obtain ⟨rfl, rfl⟩ := RV.aA he3
     rw [dx (P := P) (ty := ty) ht hi S hin (w' := w) (fun b _ => by rw [hns0 rfl]; rfl) (fun _ => rfl)]
     exact .same H (.gH _ _ _) rfl
    ·omega
   | slice _ _ _ _ p hp =>
   rcases gh he2 with ⟨rfl, he3⟩ | ⟨m, rfl, he3⟩
   ·obtain ⟨rfl, rfl⟩ := RV.aA he3
    rw [dx (P := P) (ty := ty) ht hi S hin (w' := w) (fun b _ => by rw [hns0 rfl]; rfl) (fun _ => rfl)]
    exact .same H (.slice _ _ _ _ p hp) rfl
   ·obtain ⟨el, k, ex, fl, c, hj, hf, hb, he4⟩ := nG he3
    obtain ⟨rfl, rfl⟩ := RV.aA he4
    obtain ⟨w', r1, r2, r3⟩ := kO (P := P) H hp hj hf S.rel S.one (o := o + n * i.size) hb
    rw [dx (P := P) (ty := ty) ht hi S hin (w' := w') (fun b hb => by cases hb; rw [da]; exact r1) (by simp)]
    exact ⟨_, w', φ, rfl, .slice _ _ _ _ p hp, r2, r3⟩
 ·obtain ⟨hes', he2⟩ := aG he
  have hes' : i.size = es' := Nat.eq_of_beq_eq_true hes'
  subst hes'
  rcases gh he2 with ⟨h0, he3⟩ | ⟨m, h0, he3⟩
  ·obtain ⟨rfl, rfl⟩ := RV.aA he3
   cases hs with
   | ft _ _ _ _ cap p a hp h1 h2 h3 h4 h5 h6 =>
   subst h0
   rw [dx (P := P) (ty := ty) ht hi S h2 (w' := w) (fun b _ => by rw [hns0 rfl]; rfl) (fun _ => rfl)]
   exact .same H (.ft _ _ _ _ cap p a hp h1 h2 h3 h4 h5 h6) rfl
  ·subst h0
   exact Bi H ht hi hz hzs hby hes S (by omega) hs he3
 ·cases hs
  rcases gh he with ⟨rfl, he⟩ | ⟨m, rfl, he⟩
  ·obtain ⟨rfl, rfl⟩ := RV.aA he
   rw [dx (P := P) (ty := ty) ht hi S (Nat.le_refl 0) (w' := w) (by simp) (fun _ => rfl)]
   exact .same H .ai rfl
  ·exact kP H ht hi hz hzs hby hes S (n := 0) (c := 0) (by omega) (Ak.none i.size) he
theorem pQ {e : TypeId} (hg : jw P e = true) : ∃ i zv, P.info? e = some i ∧ i.zero = some zv ∧ zv.cells.size = i.size ∧ i.bytes ≤ 1048576 := by
 unfold jw at hg
 split at hg
 ·rename_i i hi
  simp only [Bool.and_eq_true] at hg
  obtain ⟨h1, h2⟩ := hg
  split at h1
  ·rename_i zv hz
   exact ⟨i, zv, hi, hz, by simpa using h1, Nat.le_of_ble_eq_true h2⟩
  ·cases h1
 ·cases hg
theorem Il {t u ty e f : TypeId} (H : HR φ h w) (hx : VR φ (ev x r) cx) (hy : VR φ (ev y r) cy) (ht : P.underlying t = some (.slice e)) (hu : P.underlying u = some (.slice f)) (hg : jw P e = true) (hes : bH P e ≠ 0)
  (he : uR e (bH P e) x y r h = .ok v h') : Good φ h w v h' ((Builtin.append_ #[t, u] ty #[cx, cy]).run P w) := by
 obtain ⟨i, zv, hi, hz, hzs, hby⟩ := pQ hg
 rw [de hi] at hes he
 unfold uR df at he
 obtain ⟨m, base, c, rfl, he⟩ := sY hy he
 obtain ⟨hm, he⟩ := aG he
 obtain ⟨b, n, c, new, ns, hcy, he, E⟩ := ta (P := P) H hy he
 cases hcy
 exact vz H ht hi hz hzs hby (by omega) (E.src hu) hx he
theorem gk (φ : aU) : ∀ (s : List UInt8), cU φ (byteCells (s.map UInt8.toNat)) (s.map fun b => Value.int .u8 b.toNat) ∧ ∀ c, c ∈ (s.map fun b => Value.int .u8 b.toNat) → c.oneCell' = true
 | [] => ⟨.nil, by simp⟩
 | b :: s => by
  obtain ⟨h1, h2⟩ := gk φ s
  refine ⟨.cons _ _ _ _ (.int _ _) h1, ?_⟩
  intro c hc
  simp only [List.map_cons, List.mem_cons] at hc
  rcases hc with rfl | hc
  ·rfl
  ·exact h2 c hc
theorem EC {t u ty e : TypeId} (H : HR φ h w) (hx : VR φ (ev x r) cx) (hy : VR φ (ev y r) cy) (ht : P.underlying t = some (.slice e)) (hu : P.underlying u = some .string) (hg : jw P e = true) (hes : bH P e = 1)
  (he : jj e x y r h = .ok v h') : Good φ h w v h' ((Builtin.append_ #[t, u] ty #[cx, cy]).run P w) := by
 obtain ⟨i, zv, hi, hz, hzs, hby⟩ := pQ hg
 rw [de hi] at hes
 obtain ⟨l, el, he⟩ := dm he
 rw [el] at hy
 obtain ⟨s, rfl, rfl⟩ := hy.en
 obtain ⟨g1, g2⟩ := gk φ s.data.toList
 have S : Ez P φ w u i.size s.size (byteCells (s.data.toList.map UInt8.toNat)) (.string s) (s.data.toList.map fun b => Value.int .u8 b.toNat) := by
  refine ⟨⟨_, hu, by simp⟩, rfl, by rw [hes]; simp, g1, g2, fun w' _ => ?_⟩
  simp only [Builtin.firstCells]
  have : s.extract 0 s.size = s := by simp
  rw [this]
  simp only [Sem.run_pure]
  congr 1
  apply Array.ext'
  simp
 have hl : (List.map UInt8.toNat s.data.toList).length = s.size := by simp
 rw [hl, ← hes] at he
 exact vz H ht hi hz hzs hby (by omega) S.src hx he
variable {P : Program} {φ : aU} {h h' : Hp} {w : World} {v : AV} {x y z : AO} {r : A2} {cx cy : Value}
def Im (φ : aU) (r : A2) (x : OA) (c : Option Value) : Prop := match x, c with
 | .none, none => True
 | .some x, some c => VR φ (ev x r) c
 | _, _ => False
def QD (c : Option Value) (d b : Nat) : Prop := (c = none ∧ b = d) ∨ ∃ k, c = some (.int k b)
theorem dr {x : OA} {d : Nat} {k : Nat → RV} {q : Nat} {c : Option Value} (hx : Im φ r x c) (e : fS x d r k (.err q) = .ok v h) : ∃ b, QD c d b ∧ k b = .ok v h := by
 cases x with
 | none =>
  cases c with
  | none => exact ⟨d, .inl ⟨rfl, rfl⟩, e⟩
  | some c => exact hx.elim
 | some x =>
  cases c with
  | none => exact hx.elim
  | some c =>
   obtain ⟨kd, m, em, e⟩ := eS (show ik (ev x r) k (.err q) = .ok v h from e)
   have hx : VR φ (ev x r) c := hx
   rw [em] at hx
   rw [hx.bW]
   exact ⟨m, .inr ⟨kd, rfl⟩, e⟩
theorem bI {k : IntKind} {b y : Nat} {code : BoundsCode} (h : b ≤ y) : (Instr.sliceBound (.int k b) y code).run P w = .ok b w := by
 simp only [Instr.sliceBound, asIntOf, Sem.run_bind, Sem.run_pure, Result.andThen_ok]
 rw [if_pos ⟨by omega, by omega⟩]
 simp
theorem cR {s : Bool} {len cap : Nat} {lo hi mx : Option Value} {a b m : Nat} (hm : QD mx cap m) (hb : QD hi len b) (ha : QD lo 0 a) (hmh : mx.isSome = true → hi.isSome = true) (h1 : a ≤ b) (h2 : hi.isSome = true → b ≤ m) (h3 : m ≤ cap) :
  (Instr.sliceBounds s len cap lo hi mx).run P w = .ok (a, b, m) w := by
 unfold Instr.sliceBounds
 rcases hm with ⟨rfl, rfl⟩ | ⟨km, rfl⟩
 ·rcases hb with ⟨rfl, rfl⟩ | ⟨kb, rfl⟩
  ·rcases ha with ⟨rfl, rfl⟩ | ⟨ka, rfl⟩
   ·simp
   ·simp [bI h1]
  ·have hbm := h2 rfl
   rcases ha with ⟨rfl, rfl⟩ | ⟨ka, rfl⟩
   ·simp [bI hbm]
   ·simp [bI hbm, bI h1]
 ·rcases hb with ⟨rfl, rfl⟩ | ⟨kb, rfl⟩
  ·simp at hmh
  ·have hbm := h2 rfl
   rcases ha with ⟨rfl, rfl⟩ | ⟨ka, rfl⟩
   ·simp [bI h3, bI hbm]
   ·simp [bI h3, bI hbm, bI h1]
theorem run_slice_any {t e : TypeId} {i : TypeInfo} (ht : P.underlying t = some (.slice e)) (hi : P.info? e = some i) {base : Option Addr} {len cap : Nat} {lo hh mx : Option Value} {a b m : Nat}
  (hb : (Instr.sliceBounds true len cap lo hh mx).run P w = .ok (a, b, m) w) :
  (Instr.sliceAt t (.slice base len cap) lo hh mx).run P w = .ok (.slice (if m = a then base else base.map (·.add (a * i.size))) (b - a) (m - a)) w := by
 simp [Instr.sliceAt, Instr.slice, az ht, bG hi, hb]
theorem QD.int {c : Option Value} {d b : Nat} (hb : QD c d b) (hc : c.isSome = true) : ∃ k, c = some (.int k b) := by
 rcases hb with ⟨rfl, _⟩ | h
 ·cases hc
 ·exact h
theorem db {a b : Nat} (e : Nat.ble a b = true) : a ≤ b := Nat.le_of_ble_eq_true e
theorem Bj {x : OA} {c : Option Value} (hx : Im φ r x c) : isSome x = c.isSome := by
 cases x <;> cases c <;> first | rfl | exact hx.elim
theorem HR.room (H : HR φ h w) {i : P4} {p : Place} (hp : φ i = some p) {el n : Nat} {ex : Bool} {fl : Fl} {c : Cl} (hi : ah i h = .cells el n ex fl c) : n ≤ p.room := by
 obtain ⟨q, hq, hor⟩ := H.obj i (hi ▸ aY)
 rw [hp] at hq; cases hq
 rw [hi] at hor
 obtain ⟨rc, fz, g1, g2, g3, g4, g5, g6, g7⟩ := hor
 exact g3
theorem GD {t e : TypeId} {i : TypeInfo} (H : HR φ h w) (hx : VR φ (ev x r) cx) {lo hi mx : OA} {clo chi cmx : Option Value} (hlo : Im φ r lo clo) (hhi : Im φ r hi chi) (hmx : Im φ r mx cmx) (ht : P.underlying t = some (.slice e)) (hie : P.info? e = some i) (hes : 0 < i.size)
  (hmh : cmx.isSome = true → chi.isSome = true) (he : fu i.size x lo hi mx r h = .ok v h') : Good φ h w v h' ((Instr.sliceAt t cx clo chi cmx).run P w) := by
 rcases eX he with ⟨j, o, n, cap, es, he⟩ | ⟨j, o, n, es', es, he⟩ | ⟨es, he⟩
 ·obtain ⟨m, hm, he⟩ := dr hmx he
  obtain ⟨b, hb, he⟩ := dr hhi he
  obtain ⟨a, ha, he⟩ := dr hlo he
  obtain ⟨h1, he⟩ := aG he
  obtain ⟨h2, he⟩ := aG he
  obtain ⟨h3, he⟩ := aG he
  obtain ⟨rfl, rfl⟩ := RV.aA he
  rw [es] at hx
  cases hx with
  | gH _ _ a0 =>
   have l1 := db h1
   have l2 := db h2
   have l3 := db h3
   obtain rfl : m = 0 := by omega
   obtain rfl : b = 0 := by omega
   obtain rfl : a = 0 := by omega
   rw [run_slice_any ht hie (cR hm hb ha hmh (db h1) (fun _ => db h2) (db h3))]
   exact .same H (.gH _ _ _) (by rw [if_pos rfl])
  | slice _ _ _ _ p hp =>
  rw [run_slice_any ht hie (cR hm hb ha hmh (db h1) (fun _ => db h2) (db h3))]
  by_cases hma : m = a
  ·subst hma
   refine .same H ?_ (by rw [if_pos rfl])
   have : Nat.beq m m = true := Nat.beq_refl m
   rw [this]
   exact .slice _ _ _ _ p hp
  ·refine .same H ?_ (by rw [if_neg hma])
   have : Nat.beq m a = false := by
    cases hb : Nat.beq m a
    ·rfl
    ·exact absurd (Nat.eq_of_beq_eq_true hb) hma
   rw [this]
   show VR φ (.slice j (o + a * i.size) (b - a) (m - a)) _
   simp only [Option.map_some, da]
   exact .slice _ _ _ _ p hp
 ·obtain ⟨hes', he2⟩ := aG he
  have hes' : i.size = es' := Nat.eq_of_beq_eq_true hes'
  clear he
  subst hes'
  obtain ⟨b, hb, he3⟩ := dr hhi he2
  obtain ⟨a, ha, he4⟩ := dr hlo he3
  rw [es] at hx
  cases hx with
  | ft _ _ _ _ cap p ad hp h1 h2 h3 h4 h5 h6 =>
  have hs := Bj hmx
  rcases gu he4 with ⟨hn, he5⟩ | ⟨hn, he5⟩
  ·obtain ⟨hab, he6⟩ := aG he5
   obtain ⟨el, k, ex, fl, c, hj, he7⟩ := bg he6
   obtain ⟨hbk, he8⟩ := aG he7
   obtain ⟨rfl, rfl⟩ := RV.aA he8
   have hab := db hab
   have hbk : o + b * i.size ≤ k := db hbk
   have hroom := H.room hp hj
   have hcap : b ≤ cap := Nat.le_of_mul_le_mul_right (show b * i.size ≤ cap * i.size by omega) hes
   have hnone : cmx = none := by
    rw [hn] at hs; cases cmx
    ·rfl
    ·cases hs
   subst hnone
   rw [run_slice_any ht hie (cR (.inl ⟨rfl, rfl⟩) hb ha (by simp) hab (fun _ => hcap) (Nat.le_refl _))]
   refine .same H ?_ rfl
   have hsub : (cap - a) * i.size = cap * i.size - a * i.size := Nat.sub_mul _ _ _
   have hle : a * i.size ≤ cap * i.size := Nat.mul_le_mul_right _ (by omega)
   by_cases hca : cap = a
   ·rw [if_pos hca]
    exact .ft j (o + a * i.size) (b - a) i.size (cap - a) p ad hp (by omega) (by omega) h3 h4 (fun hc => absurd (by omega : cap - a = 0) hc) h6
   ·rw [if_neg hca, iH h3 h4 h5 (by omega)]
    simp only [Option.map_some, da]
    exact .ft j (o + a * i.size) (b - a) i.size (cap - a) p (p.addr (o + a * i.size)) hp (by omega) (by omega) rfl rfl (fun _ => rfl) h6
  ·obtain ⟨m, hm, he6⟩ := dr hmx he5
   obtain ⟨hab, he7⟩ := aG he6
   obtain ⟨hbm, he8⟩ := aG he7
   obtain ⟨el, k, ex, fl, c, hj, he9⟩ := bg he8
   obtain ⟨hbk, he10⟩ := aG he9
   obtain ⟨rfl, rfl⟩ := RV.aA he10
   have hab := db hab
   obtain ⟨hm1, hbm⟩ := Bool.and_eq_true_iff.1 hbm
   have hbm := db hbm
   have hm1 := db hm1
   have hbk : o + m * i.size ≤ k := db hbk
   have hroom := H.room hp hj
   have hcap : m ≤ cap := Nat.le_of_mul_le_mul_right (show m * i.size ≤ cap * i.size by omega) hes
   have hsome : cmx.isSome = true := by rw [← hs]; exact hn
   obtain ⟨km, rfl⟩ := hm.int hsome
   rw [run_slice_any ht hie (cR (.inr ⟨km, rfl⟩) hb ha hmh hab (fun _ => hbm) hcap)]
   have had := iH h3 h4 h5 (by omega)
   subst had
   by_cases hma : m = a
   ·subst hma
    refine .same H ?_ (by rw [if_pos rfl])
    have : Nat.beq m m = true := Nat.beq_refl m
    rw [this]
    exact .slice _ _ _ _ p hp
   ·refine .same H ?_ (by rw [if_neg hma])
    have : Nat.beq m a = false := by
     cases hb : Nat.beq m a
     ·rfl
     ·exact absurd (Nat.eq_of_beq_eq_true hb) hma
    rw [this]
    show VR φ (.slice j (o + a * i.size) (b - a) (m - a)) _
    simp only [Option.map_some, da]
    exact .slice _ _ _ _ p hp
 ·obtain ⟨m, hm, he⟩ := dr hmx he
  obtain ⟨b, hb, he⟩ := dr hhi he
  obtain ⟨a, ha, he⟩ := dr hlo he
  obtain ⟨h1, he⟩ := aG he
  obtain ⟨rfl, rfl⟩ := RV.aA he
  rw [es] at hx
  cases hx
  have h0 : m + (a + b) = 0 := Nat.eq_of_beq_eq_true h1
  have hm0 : m = 0 := by omega
  have ha0 : a = 0 := by omega
  have hb0 : b = 0 := by omega
  subst hm0 ha0 hb0
  rw [run_slice_any ht hie (cR hm hb ha hmh (Nat.le_refl _) (fun _ => Nat.le_refl _) (Nat.le_refl _))]
  exact .same H .ai (by simp)
theorem DN {t e : TypeId} {i : TypeInfo} {n : Nat} (H : HR φ h w) (hx : VR φ (ev x r) cx) {lo hi mx : OA} {clo chi cmx : Option Value} (hlo : Im φ r lo clo) (hhi : Im φ r hi chi) (hmx : Im φ r mx cmx) (ht : P.underlying t = some (.array n e)) (hie : P.info? e = some i)
  (hmh : cmx.isSome = true → chi.isSome = true) (he : jU n i.size x lo hi mx r h = .ok v h') : Good φ h w v h' ((Instr.sliceAt t cx clo chi cmx).run P w) := by
 obtain ⟨j, o, es, he⟩ := cZ he
 obtain ⟨m, hm, he⟩ := dr hmx he
 obtain ⟨b, hb, he⟩ := dr hhi he
 obtain ⟨a, ha, he⟩ := dr hlo he
 obtain ⟨h1, he⟩ := aG he
 obtain ⟨h2, he⟩ := aG he
 obtain ⟨h3, he⟩ := aG he
 obtain ⟨rfl, rfl⟩ := RV.aA he
 rw [es] at hx
 obtain ⟨p, hp, rfl⟩ := hx.kM
 have hbd := cR (P := P) (w := w) (s := false) hm hb ha hmh (db h1) (fun _ => db h2) (db h3)
 have hrun : (Instr.sliceAt t (.pointer (some (p.addr o))) clo chi cmx).run P w = .ok (.slice (some (if m = a then p.addr o else (p.addr o).add (a * i.size))) (b - a) (m - a)) w := by
  simp [Instr.sliceAt, az ht, bG hie, Instr.sureAddr, hbd]
 rw [hrun]
 by_cases hma : m = a
 ·subst hma
  refine .same H ?_ (by rw [if_pos rfl])
  have : Nat.beq m m = true := Nat.beq_refl m
  rw [this]
  exact .slice _ _ _ _ p hp
 ·refine .same H ?_ (by rw [if_neg hma])
  have : Nat.beq m a = false := by
   cases hb : Nat.beq m a
   ·rfl
   ·exact absurd (Nat.eq_of_beq_eq_true hb) hma
  rw [this]
  show VR φ (.slice j (o + a * i.size) (b - a) (m - a)) _
  rw [da]
  exact .slice _ _ _ _ p hp
theorem DM {t : TypeId} (H : HR φ h w) (hx : VR φ (ev x r) cx) {lo hi : OA} {clo chi : Option Value} (hlo : Im φ r lo clo) (hhi : Im φ r hi chi) (ht : P.underlying t = some .string)
  (he : fw x lo hi r h = .ok v h') : Good φ h w v h' ((Instr.sliceAt t cx clo chi none).run P w) := by
 obtain ⟨s, es, he⟩ := dm he
 obtain ⟨b, hb, he⟩ := dr hhi he
 obtain ⟨a, ha, he⟩ := dr hlo he
 obtain ⟨h1, he⟩ := aG he
 obtain ⟨h2, he⟩ := aG he
 obtain ⟨rfl, rfl⟩ := RV.aA he
 rw [es] at hx
 obtain ⟨s, rfl, rfl⟩ := hx.en
 have hl : (List.map UInt8.toNat s.data.toList).length = s.size := by simp
 rw [hl] at hb h2
 have hbd := cR (P := P) (w := w) (s := false) (mx := none) (.inl ⟨rfl, rfl⟩) hb ha (by simp) (db h1) (fun _ => db h2) (Nat.le_refl _)
 refine .same H (cv := .string (s.extract a b)) (.str _ _ ?_) ?_
 ·show List.take (b - a) (List.drop a (List.map UInt8.toNat s.data.toList)) = _
  rw [ByteArray.data_extract, Array.toList_extract, List.extract_eq_take_drop, List.map_take, List.map_drop]
 ·simp [Instr.sliceAt, Instr.slice, az ht, hbd]
variable {P : Program} {φ : aU} {h h' : Hp} {w : World} {v : AV} {x y z : AO} {r : A2} {cx cy : Value}
theorem oK (a : AV) (l : List AV) (k : List Nat → RV) (e : RV) : gO (a :: l) k e = AV.eI a (fun kd n => @Bool.rec (fun _ => RV) e (@Int.rec (fun _ => RV) (fun m => @Bool.rec (fun _ => RV) e (gO l (fun s => k (m :: s)) e) (Nat.ble m 255)) (fun _ => e) n) (QT kd)) e := rfl
theorem kF : ∀ {l : List AV} {k : List Nat → RV} {q : Nat}, gO l k (.err q) = .ok v h → ∃ bs : List UInt8, l = byteCells (bs.map UInt8.toNat) ∧ k (bs.map UInt8.toNat) = .ok v h
 | [], k, q, e => ⟨[], rfl, e⟩
 | a :: l, k, q, e => by
  rw [oK] at e
  obtain ⟨kd, n, rfl, e⟩ := bT e
  obtain ⟨hk, e⟩ := aG e
  have hk : kd = .u8 := by cases kd <;> first | rfl | cases hk
  subst hk
  cases n with
  | negSucc m => cases e
  | ofNat m =>
   obtain ⟨hm, e⟩ := aG e
   have hm := db hm
   obtain ⟨bs, rfl, e2⟩ := kF (l := l) (k := fun s => k (m :: s)) (q := q) e
   have hmm : (UInt8.ofNat m).toNat = m := by simp; omega
   refine ⟨UInt8.ofNat m :: bs, ?_, ?_⟩
   ·simp only [List.map_cons, hmm]; rfl
   ·simp only [List.map_cons, hmm]; exact e2
theorem mW {bs : List UInt8} {ns : List Value} (hv : cU φ (byteCells (bs.map UInt8.toNat)) ns) : ns = bs.map fun b => Value.int .u8 b.toNat := by
 induction bs generalizing ns with
 | nil => cases hv; rfl
 | cons b bs ih =>
  cases hv with
  | cons _ c _ cs h1 h2 => rw [h1.bW, ih h2]; rfl
theorem Io {a : AV} (H : HR φ h w) (hx : VR φ a cx) {s d e : TypeId} (hs : P.underlying s = some (.slice e)) (he : P.underlying e = some (.int .u8)) (hd : P.underlying d = some .string) (ho : FZ a h = .ok v h') :
  Good φ h w v h' ((convert s d cx).run P w) := by
 obtain ⟨b, n, c, new, ns, rfl, ho, E⟩ := ta (P := P) H hx ho
 obtain ⟨bs, rfl, ho2⟩ := kF ho
 obtain ⟨rfl, rfl⟩ := RV.aA ho2
 have hns := mW E.rel
 subst hns
 have hn : bs.length = n := by simpa using E.size
 refine .same H (cv := .string ⟨bs.toArray⟩) (.str _ _ (by simp)) ?_
 rw [run_convert_bytes_string w s d e b n c hs he hd]
 have hc := E.cells w rfl
 cases b with
 | none =>
  simp only [Builtin.firstCells, Sem.run_pure] at hc
  have : bs = [] := by
   have := (Result.ok.inj hc).1
   cases bs
   ·rfl
   ·simp at this
  subst this
  rfl
 | some a =>
  simp only [Builtin.firstCells, Nat.mul_one] at hc
  have hc' : (loadCells a n).run P w = .ok ((bs.map fun b => (b.toNat : Int)).map (Value.int .u8)).toArray w := by
   rw [hc, List.map_map]; rfl
  rw [run_bytesToString w a n c _ hc', foldl_push_byteCells]
  simp
theorem Ip {a : AV} (H : HR φ h w) (hx : VR φ a cx) {s d e : TypeId} (hs : P.underlying s = some .string) (he : P.underlying e = some (.int .u8)) (hd : P.underlying d = some (.slice e)) (ho : Ns e a h = .ok v h') :
  Good φ h w v h' ((convert s d cx).run P w) := by
 obtain ⟨l, rfl, ho⟩ := dm ho
 obtain ⟨b, rfl, rfl⟩ := hx.en
 obtain ⟨hr, hn, ho⟩ := kH ho
 obtain ⟨rfl, rfl⟩ := RV.aA ho
 rw [run_bytes_of_string w s d e b hs hd he]
 obtain ⟨g1, g2⟩ := gk φ b.data.toList
 have hl : (byteCells (b.data.toList.map UInt8.toNat)).length = b.size := by rw [g1.length]; simp
 have hcap : b.size ≤ grownCap w b.size 0 e := by simp [grownCap, Question.cut]
 have hsz : (bytesRow b (grownCap w b.size 0 e)).size = grownCap w b.size 0 e := by simp [bytesRow]; omega
 generalize hrow : bytesRow b (grownCap w b.size 0 e) = row at hsz ⊢
 generalize hcp : grownCap w b.size 0 e = cp at *
 have hfl : Er .mark (row.size, row.size + 1) row.size := by intro k hk; simp; omega
 obtain ⟨k1, k2⟩ := H.sS (n' := h.next.succ) (w' := w.drew.alloc (.cells row e (row.size, row.size + 1))) hn (rc := row) (el := e) (n := (byteCells (b.data.toList.map UInt8.toNat)).length) (ex := false) (fl := .mark) (fz := (row.size, row.size + 1))
  (c := ng (byteCells (b.data.toList.map UInt8.toNat))) (by rw [hl, hsz]; exact hcap) (by simp) hr (fun k hk => by
   have hk' : k < (b.data.toList.map fun b => Value.int .u8 b.toNat).length := by rw [← g1.length]; exact hk
   refine ⟨(b.data.toList.map fun b => Value.int .u8 b.toNat)[k], ?_, ?_, g2 _ (List.getElem_mem _)⟩
   ·rw [← hrow, bytesRow, Array.getElem?_append_left (by simpa using hk')]
    simp only [List.length_map, Array.length_toList] at hk'
    rw [Array.getElem?_map, Array.getElem?_eq_getElem hk']
    simp
   ·rw [eT _ hr k hk]; exact g1.get k hk hk') hfl rfl rfl rfl rfl
 refine ⟨_, _, _, rfl, ?_, k1, k2⟩
 have hll : (List.map UInt8.toNat b.data.toList).length = b.size := by simp
 rw [hll]
 exact .ft _ 0 b.size 1 cp ⟨w.heap.size, 0, _⟩ ⟨w.heap.size, 0, none⟩ (aU.aX _ _ _) (by simp only; omega) hcap rfl rfl (fun _ => rfl) (by omega)
theorem zq (H : HR φ h w) {s : AV} {base : Option Addr} {n c : Nat} (hs : VR φ s (.slice base n c)) {l : List AV} {vs : List Value} (hl : cU φ l vs) (h1 : ∀ c, c ∈ vs → c.oneCell' = true) (hn : n = 0 → l = []) {k : Hp → RV} (e : rQ l s h k = .ok v h') :
  ∃ w' h2, k h2 = .ok v h' ∧ (∀ a, base = some a → (storeCells a vs).run P w = .ok () w') ∧ (base = none → w' = w) ∧ HR φ h2 w' ∧ Step φ h w φ h2 w' := by
 cases hl with
 | nil => exact ⟨w, h, e, fun a _ => rfl, fun _ => rfl, H, .refl _ _ _⟩
 | cons a cv as cvs ha has =>
  have hn0 : n ≠ 0 := fun h0 => by cases hn h0
  have e : AV.oa s (fun i o _ _ => jZ i o (a :: as) h k) (fun i o _ _ => jZ i o (a :: as) h k) (RV.err 93) (RV.err 93) = RV.ok v h' := e
  rcases eX e with ⟨i, o, l, c, rfl, e2⟩ | ⟨i, o, l, c, rfl, e2⟩ | ⟨rfl, e2⟩
  ·obtain ⟨el, k', ex, fl, c, hj, hf, hb, e3⟩ := nG e2
   cases hs with
   | gH _ _ _ => exact absurd rfl hn0
   | slice _ _ _ _ p hp =>
   obtain ⟨w', r1, r2, r3⟩ := kO (P := P) H hp hj hf (.cons a cv as cvs ha has) h1 (o := o) hb
   exact ⟨w', _, e3, fun b hb => by cases hb; exact r1, by simp, r2, r3⟩
  ·obtain ⟨el, k', ex, fl, c, hj, hf, hb, e3⟩ := nG e2
   cases hs with
   | ft _ _ _ _ cap p ad hp g1 g2 g3 g4 g5 g6 =>
   obtain ⟨w', r1, r2, r3⟩ := kO (P := P) H hp hj hf (.cons a cv as cvs ha has) h1 (o := o) hb
   exact ⟨w', _, e3, fun b hb => by cases hb; rw [iH g3 g4 g5 (by omega)]; exact r1, by simp, r2, r3⟩
  ·cases e2
theorem cU.take : ∀ {as : List AV} {vs : List Value} (n : Nat), cU φ as vs → cU φ (as.take n) (vs.take n)
 | _, _, 0, _ => by simpa using cU.nil
 | _, _, n + 1, .nil => .nil
 | _, _, n + 1, .cons _ _ _ _ e es => .cons _ _ _ _ e (cU.take n es)
theorem Iq {ts : Array TypeId} {ty t e : TypeId} {i : TypeInfo} (hts : ts[0]? = some t) (H : HR φ h w) (hx : VR φ (ev x r) cx) (hy : VR φ (ev y r) cy) (ht : P.underlying t = some (.slice e)) (hi : P.info? e = some i) (hes : 0 < i.size)
  (he : uS i.size x y r h = .ok v h') : Good φ h w v h' ((Builtin.copy_ ts ty #[cx, cy]).run P w) := by
 unfold uS FA at he
 obtain ⟨n, base, c, rfl, he⟩ := sY hx he
 have hrun : ∀ {m : Nat} {arr : List Value} {w' : World}, (Builtin.lenOf cy).run P w = .ok m w → (Builtin.firstCells i.size (Nat.min m n) cy).run P w = .ok arr.toArray w → (∀ a, base = some a → (storeCells a arr).run P w = .ok () w') → (base = none → w' = w) →
   (Builtin.copy_ ts ty #[.slice base n c, cy]).run P w = .ok (goInt (Nat.min m n)) w' := by
  intro m arr w' h1 h2 h3 h4
  cases base with
  | none =>
   rw [h4 rfl]
   simp [Builtin.copy_, hts, az ht, h1, bG hi, h2]
  | some a =>
   simp [Builtin.copy_, hts, az ht, h1, bG hi, h2, h3 a rfl]
 have hcase : (∃ s, ev y r = .str s) ∨ (∀ s, ev y r ≠ .str s) := by
  cases ev y r <;> first | exact .inl ⟨_, rfl⟩ | exact .inr fun s => by simp
 rcases hcase with ⟨s, es⟩ | hns
 ·rw [es] at he hy
  obtain ⟨b, rfl, rfl⟩ := hy.en
  obtain ⟨g1, g2⟩ := gk φ (b.data.toList.take n)
  rw [List.map_take] at g1
  obtain ⟨hsz, he⟩ := aG he
  have hsz := Nat.eq_of_beq_eq_true hsz
  obtain ⟨w', h2, he2, r1, r2, r3, r4⟩ := zq (P := P) H hx g1 g2 (fun h0 => by rw [h0]; rfl) he
  obtain ⟨rfl, rfl⟩ := RV.aA he2
  rw [hrun (m := b.size) rfl (by
   simp only [Builtin.firstCells, Sem.run_pure]
   congr 1
   apply Array.ext'
   rw [Array.toList_map, ByteArray.data_extract, Array.toList_extract, List.extract_eq_take_drop]
   simp only [List.drop_zero, Nat.sub_zero]
   congr 1
   show List.take (min b.size n) b.data.toList = _
   rw [List.take_eq_take_iff]
   simp
   have : b.size = b.data.size := rfl
   omega) r1 r2]
  refine ⟨_, w', φ, rfl, ?_, r3, r4⟩
  have hll : (List.map UInt8.toNat b.data.toList).length = b.size := by simp
  rw [hll]
  exact .int _ _
 ·have he2 : yb (ev y r) (fun m => elems i.size (ev y r) h (fun l => rQ (List.take (Nat.mul n i.size) l) (ev x r) h (fun h => .ok (iW (Nat.min m n)) h)) (.err 94)) (.err 94) = .ok v h' := by
   revert he hns
   cases ev y r <;> intro he hns <;> first | exact he | exact absurd rfl (hns _)
  obtain ⟨m, b2, c2, rfl, he3⟩ := sY hy he2
  obtain ⟨b, m', c3, new, ns, hcy, he4, E⟩ := ta (P := P) H hy he3
  cases hcy
  have hrel := E.rel.take (Nat.mul n i.size)
  obtain ⟨w', h2, he5, r1, r2, r3, r4⟩ := zq (P := P) H hx hrel (fun c hc => E.one c (List.mem_of_mem_take hc)) (fun h0 => by rw [h0]; simp) he4
  obtain ⟨rfl, rfl⟩ := RV.aA he5
  have hpre := E.pre (Nat.min m n) (Nat.min_le_left _ _)
  have htk : List.take (Nat.min m n * i.size) ns = List.take (Nat.mul n i.size) ns := by
   rw [List.take_eq_take_iff, E.size]
   show min (min m n * i.size) (m * i.size) = min (n * i.size) (m * i.size)
   rcases Nat.le_total m n with g | g
   ·rw [Nat.min_eq_left g, Nat.min_self, Nat.min_eq_right (Nat.mul_le_mul_right _ g)]
   ·rw [Nat.min_eq_right g]
  rw [htk] at hpre
  rw [hrun (m := m) rfl hpre r1 r2]
  exact ⟨_, w', φ, rfl, .int _ _, r3, r4⟩
variable {P : Program} {φ : aU} {h h' : Hp} {w : World} {v : AV} {x y z : AO} {r : A2} {cx cy : Value}
theorem vA (z : List AV) : fc 0 z = [] := rfl
theorem pR (n : Nat) (z : List AV) : fc (n + 1) z = z ++ fc n z := rfl
theorem gw : ∀ (n : Nat) (z : List AV), (fc n z).length = n * z.length
 | 0, z => by rw [vA]; simp
 | n + 1, z => by rw [pR, List.length_append, gw n z, Nat.add_mul]; omega
theorem oL : ∀ (n : Nat) (z : List AV) (k : Nat) (hk : k < (fc n z).length) (hz : k % z.length < z.length), (fc n z)[k] = z[k % z.length]
 | 0, z, k, hk, _ => by rw [vA] at hk; simp at hk
 | n + 1, z, k, hk, hz => by
  by_cases h1 : k < z.length
  ·have : (fc (n + 1) z)[k] = z[k] := List.getElem_append_left h1
   rw [this]
   congr 1
   exact (Nat.mod_eq_of_lt h1).symm
  ·have h2 : k - z.length < (fc n z).length := by
    rw [pR, List.length_append] at hk; omega
   have : (fc (n + 1) z)[k] = (fc n z)[k - z.length] := List.getElem_append_right (by omega)
   have hmod : (k - z.length) % z.length = k % z.length := (Nat.mod_eq_sub_mod (by omega)).symm
   rw [this, oL n z _ h2 (by rw [hmod]; exact hz)]
   congr 1
theorem jv {z : List AV} {zc : Array Value} (hz : cU φ z zc.toList) (h1 : ∀ c, c ∈ zc.toList → c.oneCell' = true) (n m : Nat) (hm : m = n * zc.size) :
  cU φ (fc n z) ((Array.range m).map (zc[· % zc.size]!)).toList ∧ ∀ c, c ∈ ((Array.range m).map (zc[· % zc.size]!)).toList → c.oneCell' = true := by
 have hl : z.length = zc.size := by rw [hz.length]; simp
 have hpos : ∀ k, k < m → k % zc.size < zc.size := fun k hk => Nat.mod_lt _ (by
  rcases Nat.eq_zero_or_pos zc.size with g | g
  ·rw [g, Nat.mul_zero] at hm; omega
  ·exact g)
 refine ⟨cU.Ba (by rw [gw, hl]; simp [hm]) fun k hk hk' => ?_, fun c hc => ?_⟩
 ·have hkm : k < m := by rw [gw, hl] at hk; omega
  have hp := hpos k hkm
  rw [oL n z k hk (by rw [hl]; exact hp)]
  have hp' : k % z.length < zc.toList.length := by rw [hl]; simpa using hp
  have := hz.get (k % z.length) (by rw [hl]; exact hp) hp'
  have he : ((Array.range m).map (zc[· % zc.size]!)).toList[k] = zc.toList[k % z.length] := by
   simp only [Array.getElem_toList, Array.getElem_map, Array.getElem_range]
   rw [getElem!_pos zc (k % zc.size) hp]
   congr 1
   rw [hl]
  rw [he]
  exact this
 ·rw [Array.toList_map] at hc
  simp only [List.mem_map, Array.mem_toList_iff, Array.mem_range] at hc
  obtain ⟨k, hk, rfl⟩ := hc
  have hp := hpos k hk
  rw [getElem!_pos zc (k % zc.size) hp]
  exact h1 _ (by simp)
theorem jK {t : TypeId} {z : List AV} (hz : gv P t = some z) (φ : aU) : ∃ i zv, P.info? t = some i ∧ i.zero = some zv ∧ cU φ z zv.cells.toList ∧ ∀ c, c ∈ zv.cells.toList → c.oneCell' = true := by
 unfold gv at hz
 simp only [Option.bind_eq_some_iff] at hz
 obtain ⟨zv, ⟨inf, hinf, hzv⟩, hl⟩ := hz
 obtain ⟨g1, g2⟩ := mo φ hl
 exact ⟨inf, zv, hinf, hzv, g1, g2⟩
theorem Ir {ts : Array TypeId} {ty t e : TypeId} (hts : ts[0]? = some t) (H : HR φ h w) (hx : VR φ (ev x r) cx) (ht : P.underlying t = some (.slice e)) {zs : List AV} (hz : gv P e = some zs)
  (he : Ny zs x r h = .ok v h') : Good φ h w v h' ((Builtin.clear_ ts ty #[cx]).run P w) := by cases he
theorem mX (H : HR φ h w) {l : List AV} {vs : List Value} (hl : cU φ l vs) (h1 : ∀ c, c ∈ vs → c.oneCell' = true) {el n c : Nat} (e : ij el true .plain l.length (ng l) h (fun i h => .ok (.slice i 0 n c) h) = .ok v h') :
  Good φ h w v h' (.ok (.slice (some ⟨w.heap.size, 0, none⟩) n c) { w with heap := w.heap.push (.cells vs.toArray el) }) := by
 obtain ⟨hr, hi, e⟩ := kH e
 obtain ⟨rfl, rfl⟩ := RV.aA e
 obtain ⟨g1, g2⟩ := H.CW (n' := h.next.succ) hi hl h1 (el := el) hr (fun k hk => eT l hr k hk)
 refine ⟨_, _, _, rfl, ?_, g1, g2⟩
 have := VR.slice (φ := φ.put h.next ⟨w.heap.size, 0, vs.length⟩) h.next 0 n c _ (aU.aX _ _ _)
 simpa [Place.addr] using this
theorem jL {G : Gl} {n : Nat} {place : Nat → Option (Nat × Nat)} {ρ : Operand → Value} : ∀ {qs : List (Nat × Operand)} {ps : List Part}, pS G n place qs = some ps → (∀ q, q ∈ qs → ∀ a, cO G q.2 = some a → VR φ (ev a r) (ρ q.2)) →
  ps.length = qs.length ∧ (∀ k (h1 : k < ps.length) (h2 : k < (qs.map fun q => (q.1, ρ q.2)).length), sI φ r place ps[k] (qs.map fun q => (q.1, ρ q.2))[k]) ∧ ∀ p, p ∈ ps → match p with | .mk off sz _ => off + sz ≤ n
 | [], ps, e, _ => by
  simp [pS] at e; subst e; simp
 | (i, o) :: qs, ps, e, hv => by
  unfold pS at e
  simp only [List.mapM_cons, Option.pure_def, Option.bind_eq_bind, Option.bind_eq_some_iff, Option.some.injEq] at e
  obtain ⟨p, ⟨⟨off, sz⟩, hpl, hp⟩, ps', hps, rfl⟩ := e
  obtain ⟨g1, g2, g3⟩ := jL (qs := qs) hps (fun q hq => hv q (by simp [hq]))
  simp only at hp
  split at hp
  ·rename_i hle
   simp only [Option.bind_eq_some_iff, Option.some.injEq] at hp
   obtain ⟨a, ha, rfl⟩ := hp
   refine ⟨by simp [g1], fun k h1 h2 => ?_, fun p hp => ?_⟩
   ·match k with
    | 0 => exact ⟨hpl, hv (i, o) (by simp) a ha⟩
    | k + 1 => exact g2 k (by simpa using h1) (by simpa using h2)
   ·rcases List.mem_cons.1 hp with rfl | hp
    ·exact hle
    ·exact g3 p hp
  ·cases hp
theorem td {t : TypeId} {zs : List AV} (H : HR φ h w) (hz : gv P t = some zs) {place : Nat → Option (Nat × Nat)} {ps : List Part} {qs : List (Nat × Value)} (hl : ps.length = qs.length) (hp : ∀ k (h1 : k < ps.length) (h2 : k < qs.length), sI φ r place ps[k] qs[k])
  (hb : ∀ p, p ∈ ps → match p with | .mk off sz _ => off + sz ≤ zs.length) (ht : (∃ fs, P.underlying t = some (.struct fs) ∧ (∀ f, f ∈ fs → (P.info? f.type).isSome = true) ∧ place = (fun i => (fs[i]?).map fun f => (f.offset, bH P f.type))) ∨
   (∃ n e, P.underlying t = some (.array n e) ∧ (P.info? e).isSome = true ∧ place = fun i => some (i * bH P e, bH P e)))
  (he : jY zs ps r h = .ok v h') : Good φ h w v h' ((Instr.build t qs.toArray).run P w) := by
 obtain ⟨hf, he⟩ := aG he
 obtain ⟨rfl, rfl⟩ := RV.aA he
 obtain ⟨i, zv, hi, hzv, g1, g2⟩ := jK hz φ
 obtain ⟨es, f1, f2, f3⟩ := sJ ps qs zs zv.cells.toList hl hp hf (fun p hp' => by have := hb p hp'; rw [g1.length] at this; exact this) g1 g2
 refine .same H (cv := .agg es.toArray) (.agg _ _ f2 f3) ?_
 rcases ht with ⟨fs, ht, hfs, rfl⟩ | ⟨n, e, ht, hei, rfl⟩
 ·have hm : ∀ (l : List Field), (∀ f, f ∈ l → (P.info? f.type).isSome = true) → (l.mapM fun f => Prod.mk f.offset <$> sizeOf f.type).run P w = .ok (l.map fun f => (f.offset, bH P f.type)) w := by
   intro l
   induction l with
   | nil => intro _; rfl
   | cons f l ih =>
    intro hl
    obtain ⟨inf, hinf⟩ := Option.isSome_iff_exists.1 (hl f (by simp))
    simp [List.mapM_cons, bG hinf, ih (fun g hg => hl g (by simp [hg])), de hinf]
  have hma := hm fs.toList (fun f hf => hfs f (by simpa using hf))
  have hplace : (fun (i : Nat) => (fs.toList.map fun (f : Field) => (f.offset, bH P f.type)).toArray[i]?) = fun (i : Nat) => (fs[i]?).map fun (f : Field) => (f.offset, bH P f.type) := by
   funext i; simp
  have f1' : Instr.fill (fun (i : Nat) => (fs.toList.map fun (f : Field) => (f.offset, bH P f.type)).toArray[i]?) zv.cells qs = some es.toArray := by rw [hplace]; simpa using f1
  simp [Instr.build, zeroValue, dS hi, hzv, az ht, Array.mapM_eq_mapM_toList, hma]
  simp at f1'
  simp [f1']
 ·obtain ⟨inf, hinf⟩ := Option.isSome_iff_exists.1 hei
  rw [de hinf] at f1
  have f1' : Instr.fill (fun i => some (i * inf.size, inf.size)) zv.cells qs = some es.toArray := by simpa using f1
  simp [Instr.build, zeroValue, dS hi, hzv, az ht, bG hinf, f1']
theorem lF : ∀ (ps : List Part) (l : List AV), (fill ps r l).length = l.length
 | [], _ => rfl
 | .mk off sz x :: ps, l => by
  rw [vy]
  simp only
  rw [lF ps]
  have : ∀ (as : List AV) (i : Nat) (l : List AV), (mM as i l).length = l.length := by
   intro as
   induction as with
   | nil => intro i l; rfl
   | cons a as ih => intro i l; rw [sV, ih, wY]; simp
  exact this _ _ _
theorem zr {t e : TypeId} {zs : List AV} (H : HR φ h w) (ht : P.underlying t = some (.slice e)) (hz : gv P e = some zs) (hzl : zs.length = bH P e) (hes : bH P e ≠ 0) {n : Nat} {ps : List Part} {qs : List (Nat × Value)} (hl : ps.length = qs.length)
  (hp : ∀ k (h1 : k < ps.length) (h2 : k < qs.length), sI φ r (fun i => some (i * bH P e, bH P e)) ps[k] qs[k])
  (hb : ∀ p, p ∈ ps → match p with | .mk off sz _ => off + sz ≤ n * bH P e) (he : gp e (bH P e) n (fc n zs) ps r h = .ok v h') :
  Good φ h w v h' ((Instr.buildSlice t n qs.toArray).run P w) := by
 obtain ⟨hf, he⟩ := aG he
 obtain ⟨i, zv, hi, hzv, g1, g2⟩ := jK hz φ
 rw [de hi] at hzl hes hp hb
 have hzs : zv.cells.size = i.size := by rw [← hzl, g1.length]; simp
 obtain ⟨k1, k2⟩ := jv g1 g2 n (n * i.size) (by rw [hzs])
 have hlen : ((Array.range (n * i.size)).map (zv.cells[· % zv.cells.size]!)).toList.length = n * i.size := by simp
 obtain ⟨es, f1, f2, f3⟩ := sJ ps qs (fc n zs) ((Array.range (n * i.size)).map (zv.cells[· % zv.cells.size]!)).toList hl hp hf (fun p hp' => by have := hb p hp'; rw [hlen]; exact this) k1 k2
 have hcr := rB he
 rw [lF, gw, hzl] at hcr
 have := mX H f2 f3 he
 have hrun : (Instr.buildSlice t n qs.toArray).run P w = .ok (.slice (some ⟨w.heap.size, 0, none⟩) n n) { w with heap := w.heap.push (.cells es.toArray e) } := by
  have hbig : ¬ (16777216 < n * i.size) := by omega
  by_cases h0 : n * i.size = 0
  ·have hn0 : n = 0 := by
    rcases Nat.mul_eq_zero.1 h0 with g | g
    ·exact g
    ·exact absurd g hes
   subst hn0
   have hh : ((Array.range (0 * i.size)).map (zv.cells[· % zv.cells.size]!)).toList.toArray = #[] := by simp
   rw [hh] at f1
   have hh2 : ∀ g : Nat → Value, (Array.range 0).map g = #[] := by intro g; simp
   simp only [Instr.buildSlice, Sem.run_bind, az ht, Result.andThen_ok, bG hi]
   simp only [Nat.zero_mul, hh2, f1]
   simp [eC]
  ·have f1' : Instr.fill (fun i_1 => some (i_1 * i.size, i.size)) ((Array.range (n * i.size)).map (zv.cells[· % zv.cells.size]!)) qs = some es.toArray := f1
   simp only [Instr.buildSlice, Sem.run_bind, az ht, Result.andThen_ok, bG hi]
   rw [if_neg hbig]
   simp only [h0, if_false, zeroValue, Sem.run_bind, dS hi, hzv, Result.andThen_ok, Sem.run_pure, f1', eC]
 rw [hrun]
 exact this
variable {P : Program} {φ : aU} {h h' : Hp} {w : World} {v : AV} {x y z : AO} {r : A2} {cx cy : Value}
theorem te {b : Nat} {o : Go.Obj} {es : Array MapEntry} {ck : Nat} (h1 : w.heap[b]? = some o) (ho : o = .map es ck) : (getObj b).run P w = .ok (.map es ck) w := by
 subst ho
 show (Sem.getObj b .pure).run P w = _
 simp [Sem.run, h1]
theorem HR.map (H : HR φ h w) {i : P4} {p : Place} {l : List KV} {ck : Nat} (hi : ah i h = .map l ck) (hp : φ i = some p) : ∃ es, w.heap[p.gI]? = some (.map es ck) ∧ fF φ l es.toList := by
 obtain ⟨q, hq, hor⟩ := H.obj i (hi ▸ yK)
 rw [hp] at hq; cases hq
 rw [hi] at hor
 exact hor
theorem VR.LS {i : P4} {c : Value} (hv : VR φ (.map i) c) : ∃ p, φ i = some p ∧ c = .map (some p.gI) := by cases hv; exact ⟨_, by assumption, rfl⟩
theorem VR.It {c : Value} (hv : VR φ .ll c) : c = .map none := by cases hv; rfl
theorem fF.length : ∀ {l : List KV} {es : List MapEntry}, fF φ l es → l.length = es.length
 | _, _, .nil => rfl
 | _, _, .cons _ _ _ _ _ _ _ _ _ r => by simp [fF.length r]
theorem ED {ts : Array TypeId} {ty t k e : TypeId} (hts : ts[0]? = some t) (H : HR φ h w) (hx : VR φ (ev x r) cx) (ht : P.underlying t = some (.map k e)) (he : Gj x r h = .ok v h') :
  Good φ h w v h' ((Builtin.len_ ts ty #[cx]).run P w) := by cases he
theorem rW {t : TypeId} (H : HR φ h w) (he : ri r h = .ok v h') : Good φ h w v h' ((Instr.makeMap t none).run P w) := by
 obtain ⟨hi, he⟩ := pC he
 obtain ⟨rfl, rfl⟩ := RV.aA he
 have hw : ({ w with heap := w.heap.push (.map #[] 0) } : World).heap = w.heap.push (.map #[] 0) := rfl
 have hle := aU.lE (φ := φ) (i := h.next) ⟨w.heap.size, 0, 0⟩ (H.fresh _ hi)
 have g1 := H.new (w' := { w with heap := w.heap.push (.map #[] 0) }) (n' := h.next.succ) (room := 0) hi hw (o := .map [] 0) (by simp) ⟨#[], rfl, .nil⟩
 refine ⟨.map (some w.heap.size), _, _, rfl, .map _ _ (aU.aX _ _ _), g1, hle, .new hw rfl rfl rfl, fun j q hj hq => ?_⟩
 rw [iz] at hj
 by_cases e : j = h.next
 ·subst e
  rw [aU.aX] at hq; cases hq
  exact .inr (.inl (Nat.le_refl _))
 ·rw [if_neg e] at hj
  exact .inl ⟨hj, by simpa [aU.put, e] using hq, fun x => by rw [iz, if_neg e] at x; exact x⟩
theorem Iu {ts : Array TypeId} {ty t e : TypeId} (hts : ts[0]? = some t) (H : HR φ h w) (hx : VR φ (ev x r) cx) (ht : P.underlying t = some (.slice e)) (he : Nx x r h = .ok v h') : Good φ h w v h' ((Builtin.cap_ ts ty #[cx]).run P w) := by cases he
theorem jG {a b : FloatKind} (e : wi a b = true) : a = b := by cases a <;> cases b <;> first | rfl | cases e
theorem VR.oM {k : FloatKind} {n : Nat} {c : Value} (hv : VR φ (.qP k n) c) : c = .float k n := by cases hv; rfl
theorem VR.zt {k : FloatKind} {m n : Nat} {c : Value} (hv : VR φ (.gN k m n) c) : c = .complex k m n := by cases hv; rfl
theorem EE {ts : Array TypeId} {ty : TypeId} {k : FloatKind} (H : HR φ h w) (hx : VR φ (ev x r) cx) (hy : VR φ (ev y r) cy) (he : px k x y r h = .ok v h') : Good φ h w v h' ((Builtin.complex_ ts ty #[cx, cy]).run P w) := by
 obtain ⟨k1, a, ea, he⟩ := eR he
 obtain ⟨k2, b, eb, he⟩ := eR he
 obtain ⟨hk, he⟩ := aG he
 obtain ⟨rfl, rfl⟩ := RV.aA he
 obtain ⟨h1, h2⟩ := Bool.and_eq_true_iff.1 hk
 have h1 := jG h1
 have h2 := jG h2
 subst h1 h2
 rw [ea] at hx
 rw [eb] at hy
 rw [hx.oM, hy.oM]
 refine .same H (.gN _ _ _) ?_
 show ((if k = k then pure (.complex k a b) else stuck "complex: parts of different kinds" : Sem Value)).run P w = _
 rw [if_pos rfl]; rfl
variable {P : Program} {φ : aU} {h h' : Hp} {w : World} {v : AV} {x y z : AO} {r : A2} {cx cy : Value}
theorem tf : ∀ {ks : List KK} {a b : List AV}, uN ks h a b ≠ .bad → a.length = ks.length
 | [], [], _, _ => rfl
 | [], _ :: _, _, e => absurd rfl e
 | k :: ks, [], _, e => absurd rfl e
 | k :: ks, x :: a, [], e => absurd rfl e
 | k :: ks, x :: a, y :: b, e => by
  have he : uN (k :: ks) h (x :: a) (y :: b) = @EB.rec (fun _ => EB) (uN ks h a b) (@EB.rec (fun _ => EB) .no .no .bad (uN ks h a b)) .bad (FQ k h x y) := rfl
  have : uN ks h a b ≠ .bad := by
   intro hb
   rw [he, hb] at e
   cases hk : FQ k h x y <;> rw [hk] at e <;> exact e rfl
  simp [tf this]
theorem tg {f : Field} {fs : List Field} {i : Nat} {ks : List KK} (e : mV P (f :: fs) i = some ks) : f.name ≠ "_" ∧ f.offset = i ∧ ∃ k ks', Da P f.type = some k ∧ mV P fs (i + 1) = some ks' ∧ ks = k :: ks' := by
 unfold mV at e
 split at e
 ·cases e
 ·rename_i hn
  split at e
  ·rename_i k ks' h1 h2
   cases e
   refine ⟨fun hh => hn (.inl hh), ?_, k, ks', h1, h2, rfl⟩
   by_cases g : f.offset = i
   ·exact g
   ·exact absurd (.inr g) hn
  ·cases e
theorem eG {t : TypeId} {k : KK} (hk : PN P k t) (em : Bool) (n : Nat) (c : Value) : (Instr.checkKey em (n + 1) t c).run P w = .ok () w := by
 cases k with
 | b => simp [Instr.checkKey, az (show P.underlying t = some .bool from hk)]
 | i => obtain ⟨kk, hk⟩ := hk; simp [Instr.checkKey, az hk]
 | s => simp [Instr.checkKey, az (show P.underlying t = some .string from hk)]
 | p => obtain ⟨e, ie, hk, _⟩ := hk; simp [Instr.checkKey, az hk]
theorem mH (em : Bool) (n : Nat) (vs : Array Value) : ∀ (fs : List Field) (i : Nat) (ks : List KK), mV P fs i = some ks → i + fs.length ≤ vs.size →
  (forIn fs PUnit.unit fun f _ => if f.name ≠ "_" then (do let c ← part f.type vs f.offset; Instr.checkKey em (n + 1) f.type c; pure (ForInStep.yield PUnit.unit) : Sem (ForInStep PUnit)) else pure (ForInStep.yield PUnit.unit)).run P w = .ok PUnit.unit w := by
 intro fs
 induction fs with
 | nil => intro i ks _ _; rfl
 | cons f fs ih =>
  intro i ks e hl
  obtain ⟨h1, h2, k, ks', h3, h4, rfl⟩ := tg e
  have hk := zi h3
  obtain ⟨d, hd, ha⟩ := hk.kc
  simp only [List.length_cons] at hl
  have hp := gT (w := w) hd ha (cs := vs) (o := f.offset) (c := vs[i]) (by rw [h2]; simp)
  have := ih (i + 1) ks' h4 (by omega)
  simp only [List.forIn_cons, Sem.run_bind]
  simp [h1, hp, eG hk]
  simpa using this
theorem Iw {kt : KT} {a : AV} (e : Cn kt a h = true) : Fs kt a a h ≠ .bad := by
 intro hb
 unfold Cn at e
 rw [hb] at e
 cases e
theorem run_checkKey {t : TypeId} {kt : KT} (hk : nH P t = some kt) {a : AV} {c : Value} (hx : VR φ a c) (ho : Cn kt a h = true) (em : Bool) : (Instr.checkKey em 10000 t c).run P w = .ok () w := by
 unfold nH at hk
 split at hk
 ·rename_i hd; cases hk; exact eG (k := .b) hd em 9999 c
 ·rename_i hd; cases hk; exact eG (k := .i) ⟨_, hd⟩ em 9999 c
 ·rename_i hd; cases hk; exact eG (k := .s) hd em 9999 c
 ·rename_i fs hd
  simp only [Option.map_eq_some_iff] at hk
  obtain ⟨ks, hks, rfl⟩ := hk
  have hne := Iw ho
  have ⟨l, hl⟩ : ∃ l, a = .agg l := by
   cases a <;> first | exact ⟨_, rfl⟩ | exact absurd rfl hne
  subst hl
  obtain ⟨vs, rfl, hvs, h1⟩ := hx.mq
  have hlen := tf (show uN ks h l l ≠ .bad from hne)
  unfold sU at hks
  rw [hd] at hks
  simp only at hks
  split at hks
  ·cases hks
  ·have hF : ∀ (fs : List Field) (i : Nat) (ks : List KK), mV P fs i = some ks → fs.length = ks.length := by
    intro fs
    induction fs with
    | nil => intro i ks e; simp [mV] at e; subst e; rfl
    | cons f fs ih =>
     intro i ks e
     obtain ⟨_, _, k, ks', _, h4, rfl⟩ := tg e
     simp [ih _ _ h4]
   have hfl := hF _ _ _ hks
   have := mH (w := w) em 9998 vs.toArray fs.toList 0 ks hks (by
    have := hvs.length
    simp only [Array.length_toList, List.size_toArray] at *; omega)
   show (Instr.checkKey em (9999 + 1) t (.agg vs.toArray)).run P w = _
   rw [Instr.checkKey]
   simp only [Sem.run_bind, az hd, Result.andThen_ok]
   rw [← Array.forIn_toList]
   rw [this]
   rfl
 ·cases hk
variable {P : Program} {φ : aU} {h h' : Hp} {w : World} {v : AV} {x y z : AO} {r : A2} {cx cy : Value}
theorem wZ {t : TypeId} {kt : KT} (H : HR φ h w) (hk : nH P t = some kt) {a c : AV} {ca cc : Value} (hx : VR φ a ca) (hy : VR φ c cc) {b : Bool} (hb : Fs kt a c h = EB.of b) : (Op.equal t ca cc).run P w = .ok b w := by
 show (Op.equalIn 10000 t ca cc).run P w = .ok b w
 unfold nH at hk
 split at hk
 ·rename_i hd; cases hk; exact kN 9999 (k := .b) H hx hy hd hb
 ·rename_i hd; cases hk; exact kN 9999 (k := .i) H hx hy ⟨_, hd⟩ hb
 ·rename_i hd; cases hk; exact kN 9999 (k := .s) H hx hy hd hb
 ·rename_i fs hd
  simp only [Option.map_eq_some_iff] at hk
  obtain ⟨ks, hks, rfl⟩ := hk
  have ⟨l, hl⟩ : ∃ l, a = .agg l := by
   cases a <;> first | exact ⟨_, rfl⟩ | (cases b <;> cases hb)
  subst hl
  have ⟨m, hm⟩ : ∃ m, c = .agg m := by
   cases c <;> first | exact ⟨_, rfl⟩ | (cases b <;> cases hb)
  subst hm
  obtain ⟨vs, rfl, hvs, _⟩ := hx.mq
  obtain ⟨ws, rfl, hws, _⟩ := hy.mq
  exact jP 9998 H hks hvs hws hb
 ·cases hk
theorem lO {t : TypeId} {kt : KT} {d : TypeDesc} (hd : P.underlying t = some d) (hk : nH P t = some kt) {a c : AV} {ca cc : Value} (hx : VR φ a ca) (hy : VR φ c cc) {b : Bool} (hb : Fs kt a c h = EB.of b) :
  Instr.sameNow d ca cc = none ∨ Instr.sameNow d ca cc = some b := by
 unfold nH at hk
 rw [hd] at hk
 cases d <;> try (cases hk; done)
 case bool =>
  cases hk
  cases a <;> (try (cases b <;> cases hb; done))
  rename_i m
  cases c <;> (try (cases b <;> cases hb; done))
  rename_i n
  have := ic (show EB.of (jW m n) = EB.of b from hb)
  subst this
  rw [hx.dT, hy.dT]
  right
  cases m <;> cases n <;> rfl
 case int kk =>
  cases hk
  cases a <;> (try (cases b <;> cases hb; done))
  rename_i k1 m
  cases c <;> (try (cases b <;> cases hb; done))
  rename_i k2 n
  change (Bool.rec EB.bad (EB.of (xB m n)) (nh k1 k2) : EB) = _ at hb
  cases hq : nh k1 k2 with
  | false => rw [hq] at hb; cases b <;> cases hb
  | true =>
   rw [hq] at hb
   obtain rfl := jF hq
   rw [hx.bW, hy.bW]
   have := ic (show EB.of (xB m n) = EB.of b from hb)
   subst this
   right
   simp [Instr.sameNow, il]
   rfl
 case string =>
  cases hk
  cases a <;> (try (cases b <;> cases hb; done))
  rename_i m
  cases c <;> (try (cases b <;> cases hb; done))
  rename_i n
  obtain ⟨s, rfl, rfl⟩ := hx.en
  obtain ⟨u, rfl, rfl⟩ := hy.en
  have := ic (show EB.of (iU _ _) = EB.of b from hb)
  subst this
  right
  simp only [Instr.sameNow]
  rw [jg, beq_toListBytes]
 case struct fs => left; cases ca <;> rfl
theorem fF.cons_inv {k val : AV} {b : Nat} {l : List KV} {es : List MapEntry} (hm : fF φ (.mk k val b :: l) es) : ∃ e es', es = e :: es' ∧ VR φ k e.key ∧ VR φ val e.val ∧ e.born = b ∧ fF φ l es' := by
 cases hm; exact ⟨_, _, rfl, by assumption, by assumption, by assumption, by assumption⟩
inductive KF (kt : KT) (h : Hp) (a : AV) : List KV → Option (Nat × KV) → Prop
 | nil : KF kt h a [] none
 | here (k v : AV) (b : Nat) (l : List KV) : Fs kt a k h = .yes → KF kt h a (.mk k v b :: l) (some (0, .mk k v b))
 | there (k v : AV) (b : Nat) (l : List KV) (j : Nat) (y : KV) : Fs kt a k h = .no → KF kt h a l (some (j, y)) → KF kt h a (.mk k v b :: l) (some (j + 1, y))
 | RN (k v : AV) (b : Nat) (l : List KV) : Fs kt a k h = .no → KF kt h a l none → KF kt h a (.mk k v b :: l) none
noncomputable def Bl (kt : KT) (a : AV) (l : List KV) (h : Hp) (k : Nat → AV → Nat → RV) (n e : RV) (i : Nat) : RV := gG (β := Nat → RV) (fun _ => n)
 (fun y _ ih i => @KV.rec (fun _ => RV) (fun c v born => @EB.rec (fun _ => RV) (k i v born) (ih (Nat.succ i)) e (Fs kt a c h)) y) l i
theorem sF {kt : KT} {a : AV} {k : Nat → AV → Nat → RV} {n : RV} {q : Nat} : ∀ {l : List KV} {i : Nat}, Bl kt a l h k n (.err q) i = .ok v h' →
  (KF kt h a l none ∧ n = .ok v h') ∨ ∃ j kk val b, KF kt h a l (some (j, .mk kk val b)) ∧ k (i + j) val b = .ok v h'
 | [], i, e => .inl ⟨.nil, e⟩
 | .mk kk val b :: l, i, e => by
  have e2 : @EB.rec (fun _ => RV) (k i val b) (Bl kt a l h k n (.err q) (i + 1)) (.err q) (Fs kt a kk h) = .ok v h' := e
  cases hq : Fs kt a kk h with
  | yes => rw [hq] at e2; exact .inr ⟨0, kk, val, b, .here _ _ _ _ hq, e2⟩
  | no =>
   rw [hq] at e2
   rcases sF (l := l) (i := i + 1) e2 with ⟨h1, h2⟩ | ⟨j, k2, v2, b2, h1, h2⟩
   ·exact .inl ⟨.RN _ _ _ _ hq h1, h2⟩
   ·refine .inr ⟨j + 1, k2, v2, b2, .there _ _ _ _ _ _ hq h1, ?_⟩
    have : i + (j + 1) = i + 1 + j := by omega
    rw [this]; exact h2
  | bad => rw [hq] at e2; cases e2
theorem yB (kt : KT) (a : AV) (l : List KV) (h : Hp) (k : Nat → AV → Nat → RV) (n e : RV) : Nw kt a l h k n e = Bl kt a l h k n e 0 := rfl
theorem KF.find {kt : KT} (H : HR φ h w) {t : TypeId} {d : TypeDesc} (hd : P.underlying t = some d) (hk : nH P t = some kt) {a : AV} {ca : Value} (hx : VR φ a ca) : ∀ {l : List KV} {res : Option (Nat × KV)}, KF kt h a l res → ∀ {es : List MapEntry} (i : Nat), fF φ l es →
  ∃ cr : Option (Nat × Value), (Instr.findAsking t ca es i).run P w = .ok cr w ∧ (∀ q, Instr.findNow d ca es i = some q → q = cr) ∧
   (match res, cr with
    | none, none => True
    | some (j, .mk kk val b), some (j', cv) => j' = i + j ∧ VR φ val cv ∧ ∃ e, es[j]? = some e ∧ e.val = cv ∧ VR φ kk e.key ∧ Fs kt a kk h = .yes ∧ e.born = b
    | _, _ => False)
 | _, _, .nil, es, i, hm => by
  cases hm
  exact ⟨none, rfl, fun q hq => by cases hq; rfl, trivial⟩
 | _, _, .here k v b l hq, es, i, hm => by
  obtain ⟨e, es', rfl, h1, h2, h3, h4⟩ := hm.cons_inv
  have hr := wZ (b := true) H hk hx h1 hq
  refine ⟨some (i, e.val), by simp [Instr.findAsking, hr], fun q hq' => ?_, rfl, h2, e, rfl, rfl, h1, hq, h3⟩
  rcases lO (h := h) (b := true) hd hk hx h1 hq with g | g <;> simp only [Instr.findNow, g] at hq'
  ·cases hq'
  ·cases hq'; rfl
 | _, _, .there k v b l j y hq hr, es, i, hm => by
  obtain ⟨e, es', rfl, h1, h2, h3, h4⟩ := hm.cons_inv
  have hrn := wZ (b := false) H hk hx h1 hq
  obtain ⟨cr, r1, r2, r3⟩ := KF.find H hd hk hx hr (i + 1) h4
  refine ⟨cr, by simp [Instr.findAsking, hrn, r1], fun q hq' => ?_, ?_⟩
  ·rcases lO (h := h) (b := false) hd hk hx h1 hq with g | g <;> simp only [Instr.findNow, g] at hq'
   ·cases hq'
   ·exact r2 q hq'
  ·obtain ⟨kk, val, bb⟩ := y
   cases cr with
   | none => exact r3.elim
   | some p =>
    obtain ⟨j', cv⟩ := p
    simp only at r3 ⊢
    obtain ⟨g1, g2, e', g3, g4⟩ := r3
    exact ⟨by omega, g2, e', by simpa using g3, g4⟩
 | _, _, .RN k v b l hq hr, es, i, hm => by
  obtain ⟨e, es', rfl, h1, h2, h3, h4⟩ := hm.cons_inv
  have hrn := wZ (b := false) H hk hx h1 hq
  obtain ⟨cr, r1, r2, r3⟩ := KF.find H hd hk hx hr (i + 1) h4
  refine ⟨cr, by simp [Instr.findAsking, hrn, r1], fun q hq' => ?_, by cases cr <;> exact r3⟩
  rcases lO (h := h) (b := false) hd hk hx h1 hq with g | g <;> simp only [Instr.findNow, g] at hq'
  ·cases hq'
  ·exact r2 q hq'
theorem run_findKey {t : TypeId} {d : TypeDesc} {ca : Value} {es : List MapEntry} (hd : P.underlying t = some d) {cr : Option (Nat × Value)} (h1 : (Instr.findAsking t ca es 0).run P w = .ok cr w) (h2 : ∀ q, Instr.findNow d ca es 0 = some q → q = cr) :
  (Instr.findKey t ca es).run P w = .ok cr w := by
 simp only [Instr.findKey, Sem.run_bind, az hd, Result.andThen_ok]
 cases hf : Instr.findNow d ca es 0 with
 | none => exact h1
 | some q => rw [h2 q hf]; rfl
variable {P : Program} {φ : aU} {h h' : Hp} {w : World} {v : AV} {x y z : AO} {r : A2} {cx cy : Value}
theorem Ix {t : TypeId} {kt : KT} (hk : nH P t = some kt) : ∃ d, P.underlying t = some d := by
 unfold nH at hk
 split at hk <;> first | exact ⟨_, by assumption⟩ | cases hk
theorem Bm {ok found : Bool} {a : AV} {c : Value} (hv : VR φ a c) (e : QX ok found a h = .ok v h') : VR φ v (if ok then .tuple #[c, .bool found] else c) ∧ h' = h := by
 obtain ⟨rfl, rfl⟩ := RV.aA e
 cases ok
 ·exact ⟨hv, rfl⟩
 ·exact ⟨.nZ [_, _] [_, _] (.cons _ _ _ _ hv (.cons _ _ _ _ (.bool _) .nil)), rfl⟩
theorem GL {t k e : TypeId} {kt : KT} {zv : AV} {ok : Bool} (H : HR φ h w) {a b : AV} (hx : VR φ a cx) (hy : VR φ b cy) (ht : P.underlying t = some (.map k e)) (hk : nH P k = some kt) (hz : nI P e = some zv)
  (he : Fq kt zv ok a b h = .ok v h') : Good φ h w v h' ((Instr.lookup t cx cy ok).run P w) := by
 obtain ⟨hok, he⟩ := aG he
 obtain ⟨d, hd⟩ := Ix hk
 unfold nI at hz
 simp only [Option.bind_eq_some_iff] at hz
 obtain ⟨cz, ⟨inf, hinf, hcz⟩, hz⟩ := hz
 have hvz := yh hz φ
 rcases yA he with ⟨i, rfl, he2⟩ | ⟨rfl, he2⟩
 ·obtain ⟨l, c, hi, he3⟩ := vk he2
  obtain ⟨p, hp, rfl⟩ := hx.LS
  obtain ⟨es, h1, h2⟩ := H.map hi hp
  rw [yB] at he3
  have hck := fun em => run_checkKey (w := w) hk hy hok em
  rcases sF he3 with ⟨g1, g2⟩ | ⟨j, kk, val, bb, g1, g2⟩
  ·obtain ⟨cr, f1, f2, f3⟩ := g1.find H hd hk hy 0 h2
   cases cr with
   | some q => exact f3.elim
   | none =>
    obtain ⟨u1, u2⟩ := Bm (φ := φ) hvz g2
    subst u2
    refine .same H u1 ?_
    simp [Instr.lookup, az ht, te h1 rfl, hck, run_findKey hd f1 f2, zeroValue, dS hinf, hcz]
  ·obtain ⟨cr, f1, f2, f3⟩ := g1.find H hd hk hy 0 h2
   cases cr with
   | none => exact f3.elim
   | some q =>
    obtain ⟨j', cv⟩ := q
    obtain ⟨_, u0, _⟩ := f3
    obtain ⟨u1, u2⟩ := Bm (φ := φ) u0 g2
    subst u2
    refine .same H u1 ?_
    simp [Instr.lookup, az ht, te h1 rfl, hck, run_findKey hd f1 f2]
 ·rw [hx.It]
  have hck := run_checkKey (w := w) hk hy hok true
  obtain ⟨u1, u2⟩ := Bm (φ := φ) hvz he2
  subst u2
  refine .same H u1 ?_
  have hf : (Instr.findKey k cy []).run P w = .ok none w := run_findKey hd rfl (fun q hq => by cases hq; rfl)
  simp [Instr.lookup, az ht, hck, hf, zeroValue, dS hinf, hcz]
theorem fF.del : ∀ {l : List KV} {es : List MapEntry} (j : Nat), fF φ l es → fF φ (SK j l) (es.eraseIdx j)
 | _, _, j, .nil => by cases j <;> exact .nil
 | _, _, 0, .cons k v b e l es a c d r => r
 | _, _, j + 1, .cons k v b e l es a c d r => .cons k v b e _ _ a c d (fF.del j r)
theorem Iy {ts : Array TypeId} {ty t k e : TypeId} {kt : KT} (hts : ts[0]? = some t) (H : HR φ h w) {a b : AV} (hx : VR φ a cx) (hy : VR φ b cy) (ht : P.underlying t = some (.map k e)) (hk : nH P k = some kt)
  (he : del kt a b h = .ok v h') : Good φ h w v h' ((Builtin.delete_ ts ty #[cx, cy]).run P w) := by cases he
variable {P : Program} {φ : aU} {h h' : Hp} {w : World} {v : AV} {x y z : AO} {r : A2} {cx cy : Value}
theorem fF.set : ∀ {l : List KV} {es : List MapEntry} (j : Nat) {k val : AV} {ck cv : Value}, fF φ l es → VR φ k ck → VR φ val cv → fF φ (SJ j k val l) (es.modify j fun e => { e with key := ck, val := cv })
 | _, _, j, _, _, _, _, .nil, _, _ => by cases j <;> exact .nil
 | _, _, 0, k, val, ck, cv, .cons k0 v0 b e l es a c d r, h1, h2 => .cons _ _ _ _ _ _ h1 h2 d r
 | _, _, j + 1, k, val, ck, cv, .cons k0 v0 b e l es a c d r, h1, h2 => .cons k0 v0 b e _ _ a c d (fF.set j r h1 h2)
theorem yg {t k e : TypeId} {kt : KT} {cz : Value} (H : HR φ h w) {a b c : AV} (hx : VR φ a cx) (hy : VR φ b cy) (hz : VR φ c cz) (ht : P.underlying t = some (.map k e)) (hk : nH P k = some kt)
  (he : OE kt a b c h = .ok v h') : v = .undef ∧ vr φ h w h' ((Instr.mapUpdate t cx cy cz).run P w) := by cases he
variable {P : Program} {φ : aU} {h h' : Hp} {w : World} {v : AV} {x y z : AO} {r : A2} {cx cy : Value}
theorem Gz {t : TypeId} {d : TypeDesc} (H : HR φ h w) (hx : VR φ (ev x r) cx) (hd : P.underlying t = some d) (hn : ∀ m, d ≠ .interface m) (he : xX t x r h = .ok v h') : Good φ h w v h' ((Instr.makeInterface t cx).run P w) := by
 obtain ⟨rfl, rfl⟩ := RV.aA he
 refine .same H (.iface t _ _ hx) ?_
 simp only [Instr.makeInterface, Sem.run_bind, az hd, Result.andThen_ok]
 cases d <;> first | rfl | exact absurd rfl (hn _)
theorem Iz (x : AO) (xs : List AO) (r : A2) : fR (x :: xs) r = ev x r :: fR xs r := rfl
theorem mb {G : Gl} {ρ : Operand → Value} : ∀ {os : List Operand} {xs : List AO}, os.mapM (cO G) = some xs → (∀ o, o ∈ os → ∀ a, cO G o = some a → VR φ (ev a r) (ρ o)) → cU φ (fR xs r) (os.map ρ)
 | [], xs, e, _ => by simp at e; subst e; exact .nil
 | o :: os, xs, e, hv => by
  simp only [List.mapM_cons, Option.pure_def, Option.bind_eq_bind, Option.bind_eq_some_iff, Option.some.injEq] at e
  obtain ⟨a, ha, as, has, rfl⟩ := e
  rw [Iz]
  exact .cons _ _ _ _ (hv o (by simp) a ha) (mb has fun o ho => hv o (by simp [ho]))
theorem GA {f : Nat} {xs : List AO} {vs : List Value} (H : HR φ h w) (hx : cU φ (fR xs r) vs) (he : xY f xs r h = .ok v h') : Good φ h w v h' ((Instr.makeFunc (.func f) #[] vs.toArray).run P w) := by
 obtain ⟨rfl, rfl⟩ := RV.aA he
 exact .same H (.fn f _ _ hx) rfl
theorem GO {t xt : TypeId} {zv : AV} {ok : Bool} {a : AV} {d : TypeDesc} (H : HR φ h w) (hx : VR φ a cx) (hd : P.underlying t = some d) (hn : ∀ m, d ≠ .interface m) (hz : nI P t = some zv) (he : QA t zv ok a h = .ok v h') :
  Good φ h w v h' ((Instr.typeAssert cx xt t ok).run P w) := by cases he
variable {P : Program} {φ : aU} {h h' : Hp} {w : World} {v : AV} {x y z : AO} {r : A2} {cx cy : Value}
theorem wrap64 {m : Nat} (hm : m ≤ 1048576) : IntKind.i64.wrap (m : Int) = (m : Int) := by
 have : iR .i64 (Int.ofNat m) = Int.ofNat m := by
  have hb : Nat.ble m 9223372036854775807 = true := Nat.ble_eq_true_of_le (by omega)
  show (@Bool.rec (fun _ => Int) _ (Int.ofNat m) (Nat.ble m 9223372036854775807)) = _
  rw [hb]
 rw [dC] at this
 exact this
theorem wz {t e : TypeId} {zs : List AV} (H : HR φ h w) (hx : VR φ (ev x r) cx) (hy : VR φ (ev y r) cy) (ht : P.underlying t = some (.slice e)) (hz : gv P e = some zs) (hzl : zs.length = bH P e) (hes : bH P e ≠ 0) (hg : jw P e = true)
  (he : fh e zs x y r h = .ok v h') : Good φ h w v h' ((Instr.makeSlice t cx cy).run P w) := by
 obtain ⟨k1, l, e1, he1⟩ := eS he
 obtain ⟨k2, c, e2, he2⟩ := eS he1
 obtain ⟨h1, he3⟩ := aG he2
 obtain ⟨h2, he4⟩ := aG he3
 have h1 := db h1
 have h2 := db h2
 rw [e1] at hx
 rw [e2] at hy
 rw [hx.bW, hy.bW]
 obtain ⟨i, zv, hi, hzv, hzs, hby⟩ := pQ hg
 obtain ⟨i', zv', hi', hzv', g1, g2⟩ := jK hz φ
 rw [hi] at hi'; cases hi'
 rw [hzv] at hzv'; cases hzv'
 obtain ⟨k1', k2'⟩ := jv g1 g2 c (c * i.size) (by rw [hzs])
 have hN := mX H k1' k2' he4
 rw [de hi] at hes
 have hes' : i.size ≠ 0 := hes
 have hw1 := wrap64 (m := l) (by omega)
 have hw2 := wrap64 (m := c) (by omega)
 have hb : i.bytes * c ≤ 281474976710656 := by
  have : i.bytes * c ≤ 1048576 * 1048576 := Nat.mul_le_mul hby h2
  omega
 have hbi : ((i.bytes : Int) * (c : Int)) ≤ 281474976710656 := by
  have := Int.ofNat_le.2 hb
  simpa using this
 have hrun : (Instr.makeSlice t (.int k1 (Int.ofNat l)) (.int k2 (Int.ofNat c))).run P w = .ok (.slice (some ⟨w.heap.size, 0, none⟩) l c) { w with heap := w.heap.push (.cells ((Array.range (c * i.size)).map (zv.cells[· % zv.cells.size]!)) e) } := by
  have ha : ∀ (k : IntKind) (m : Nat), (asIntOf (.int k (m : Int))).run P w = .ok (k, (m : Int)) w := fun _ _ => rfl
  have hcond : ¬ (((((c : Int) < 0 ∨ 281474976710656 < (i.bytes : Int) * (c : Int)) ∨ (l : Int) < 0) ∨ c < l)) := by omega
  simp only [Instr.makeSlice]
  simp [bG hi, eC, ha, hw1, hw2, az ht, dS hi, asInt, zeroValue, hzv]
  rw [if_neg hcond]
  by_cases h0 : c * i.size = 0
  ·rw [if_pos h0, h0]
   have : ∀ g : Nat → Value, (Array.range 0).map g = #[] := by intro g; simp
   rw [this, this]
  ·rw [if_neg h0]
 rw [hrun]
 exact hN
variable {P : Program} {φ : aU} {h h' : Hp} {w : World} {v : AV} {x y z : AO} {r : A2} {cx cy : Value}
theorem cU.drop : ∀ {as : List AV} {vs : List Value} (n : Nat), cU φ as vs → cU φ (as.drop n) (vs.drop n)
 | _, _, 0, h => by simpa using h
 | _, _, n + 1, .nil => by simpa using cU.nil
 | _, _, n + 1, .cons _ _ _ _ e es => cU.drop n es
theorem xa {t : TypeId} {d : TypeDesc} {i : TypeInfo} (hd : P.underlying t = some d) (ha : ry P t = true) (hi : P.info? t = some i) {vs : List Value} {o : Nat} : (part t vs.toArray o).run P w = .ok (.agg ((vs.drop o).take i.size).toArray) w := by
 have : vs.toArray.extract o (o + i.size) = ((vs.drop o).take i.size).toArray := by
  apply Array.ext'
  rw [Array.toList_extract, List.extract_eq_take_drop]
  simp
 simp [part, hM hd, ha, bG hi]
theorem Bn {l : List AV} {vs : List Value} (H : HR φ h w) (hv : cU φ l vs) {t : TypeId} {d : TypeDesc} (hd : P.underlying t = some d) (ha : ry P t = false) {o n : Nat} (he : (List.rec (.err n) (fun v _ _ => .ok v h) (List.drop o l) : RV) = .ok v h') :
  Good φ h w v h' ((part t vs.toArray o).run P w) := by
 obtain ⟨a, tl, ed, e2⟩ := Db (k := fun v => .ok v h) he
 obtain ⟨rfl, rfl⟩ := RV.aA e2
 obtain ⟨hi, hb⟩ := drop_cons ed
 have hi' : o < vs.length := by rw [← hv.length]; exact hi
 exact .same H (cv := vs[o]) (by rw [← hb]; exact hv.get o hi hi') (gT hd ha (by simp [hi']))
theorem Bo {l : List AV} {vs : List Value} (H : HR φ h w) (hv : cU φ l vs) (h1 : ∀ c, c ∈ vs → c.oneCell' = true) {t : TypeId} {d : TypeDesc} {i : TypeInfo} (hd : P.underlying t = some d) (ha : ry P t = true) (hi : P.info? t = some i) {o n : Nat}
  (he : (Bool.rec (.err n) (.ok (.agg (List.take i.size (List.drop o l))) h) (Nat.ble (o + i.size) l.length) : RV) = .ok v h') : Good φ h w v h' ((part t vs.toArray o).run P w) := by
 obtain ⟨hb, e2⟩ := aG he
 obtain ⟨rfl, rfl⟩ := RV.aA e2
 exact .same H (.agg _ _ ((hv.drop o).take i.size) (fun c hc => h1 c (List.mem_of_mem_drop (List.mem_of_mem_take hc)))) (xa hd ha hi)
theorem DQ {t : TypeId} {fs : Array Field} {f : Nat} {fd : Field} {d : TypeDesc} (H : HR φ h w) (hx : VR φ (ev x r) cx) (ht : P.underlying t = some (.struct fs)) (hf : fs[f]? = some fd) (hd : P.underlying fd.type = some d) (ha : ry P fd.type = false)
  (he : Gg fd.offset x r h = .ok v h') : Good φ h w v h' ((Instr.field t cx f).run P w) := by cases he
theorem DP {t : TypeId} {fs : Array Field} {f : Nat} {fd : Field} {d : TypeDesc} {i : TypeInfo} (H : HR φ h w) (hx : VR φ (ev x r) cx) (ht : P.underlying t = some (.struct fs)) (hf : fs[f]? = some fd) (hd : P.underlying fd.type = some d) (ha : ry P fd.type = true) (hi : P.info? fd.type = some i)
  (he : Gh fd.offset i.size x r h = .ok v h') : Good φ h w v h' ((Instr.field t cx f).run P w) := by cases he
theorem DT {t e : TypeId} {n : Nat} {d : TypeDesc} {i : TypeInfo} (H : HR φ h w) (hx : VR φ (ev x r) cx) (hy : VR φ (ev y r) cy) (ht : P.underlying t = some (.array n e)) (hd : P.underlying e = some d) (hi : P.info? e = some i)
  (he : nc n i.size (ry P e) x y r h = .ok v h') : Good φ h w v h' ((Instr.index t cx cy).run P w) := by
 obtain ⟨kd, m, em, e1⟩ := eS he
 obtain ⟨l, el, e2⟩ := fC e1
 obtain ⟨hb, e3⟩ := aG e2
 rw [el] at hx
 rw [em] at hy
 obtain ⟨vs, rfl, hvs, h1⟩ := hx.mq
 rw [hy.bW]
 have hm := lz hb
 have hrun : (Instr.index t (.agg vs.toArray) (.int kd (Int.ofNat m))).run P w = (part e vs.toArray (m * i.size)).run P w := by
  have hr : (0 : Int) ≤ Int.ofNat m ∧ Int.ofNat m < (n : Int) := vw (k := kd) hm
  simp only [Instr.index, asIntOf, Sem.run_bind, Sem.run_pure, Result.andThen_ok, az ht]
  rw [if_pos hr]
  simp [bG hi]
 rw [hrun]
 rcases gu e3 with ⟨ha, e4⟩ | ⟨ha, e4⟩
 ·exact Bn H hvs hd ha e4
 ·exact Bo H hvs h1 hd ha hi e4
variable {P : Program} {φ : aU} {h h' : Hp} {w : World} {v : AV} {x y z : AO} {r : A2} {cx cy : Value}
theorem IA (mn : Bool) (k : IntKind) (h : Hp) (a : Int) : xZ mn k h [] a = .ok (.int k a) h := rfl
theorem vj (mn : Bool) (k : IntKind) (h : Hp) (y : AV) (l : List AV) (a : Int) : xZ mn k h (y :: l) a = AV.eI y (fun k' b => @Bool.rec (fun _ => RV) (.err 76) (xZ mn k h l (Av mn a b)) (nh k k')) (.err 76) := rfl
theorem IB (k : IntKind) (a b : Int) : (Builtin.max2 (.int k a) (.int k b)).run P w = .ok (.int k (Av false a b)) w := by
 have : Av false a b = if b > a then b else a := by
  show (@Bool.rec (fun _ => Int) a b (Kr a b)) = _
  rw [pM]
  by_cases g : a < b
  ·rw [decide_eq_true g, if_pos g]
  ·rw [decide_eq_false g, if_neg g]
 rw [this]; rfl
theorem IC (k : IntKind) (a b : Int) : (Builtin.min2 (.int k a) (.int k b)).run P w = .ok (.int k (Av true a b)) w := by
 have : Av true a b = if b < a then b else a := by
  show (@Bool.rec (fun _ => Int) a b (Kr b a)) = _
  rw [pM]
  by_cases g : b < a
  ·rw [decide_eq_true g, if_pos g]
  ·rw [decide_eq_false g, if_neg g]
 rw [this]; rfl
theorem xb {mn : Bool} {k : IntKind} {f : Value → Value → Sem Value} (hf : ∀ a b w, (f (.int k a) (.int k b)).run P w = .ok (.int k (Av mn a b)) w) : ∀ {l : List AV} {vs : List Value} {a : Int}, cU φ l vs → xZ mn k h l a = .ok v h' →
  ∃ n, v = .int k n ∧ h' = h ∧ (vs.foldlM f (.int k a)).run P w = .ok (.int k n) w
 | [], _, a, .nil, e => by
  rw [IA] at e
  obtain ⟨rfl, rfl⟩ := RV.aA e
  exact ⟨a, rfl, rfl, rfl⟩
 | y :: l, _, a, .cons _ c _ cs h1 h2, e => by
  rw [vj] at e
  obtain ⟨k', b, rfl, e2⟩ := bT e
  obtain ⟨hk, e3⟩ := aG e2
  have := jF hk
  subst this
  obtain ⟨n, r1, r2, r3⟩ := xb hf h2 e3
  refine ⟨n, r1, r2, ?_⟩
  rw [h1.bW]
  simp only [List.foldlM_cons, Sem.run_bind, hf, Result.andThen_ok]
  exact r3
theorem zu {ts : Array TypeId} {ty : TypeId} {mn : Bool} {xs : List AO} {vs : List Value} (H : HR φ h w) (hx : cU φ (fR xs r) vs) (he : ya mn xs r h = .ok v h') :
  Good φ h w v h' ((if mn then Builtin.min_ ts ty vs.toArray else Builtin.max_ ts ty vs.toArray).run P w) := by
 change FD mn (fR xs r) h = _ at he
 generalize fR xs r = l at hx he
 cases hx with
 | nil => cases he
 | cons a c as cs h1 h2 =>
  have he : AV.eI a (fun k b => xZ mn k h as b) (.err 76) = .ok v h' := he
  obtain ⟨k, b, rfl, e2⟩ := bT he
  rw [h1.bW]
  cases mn with
  | false =>
   obtain ⟨n, r1, r2, r3⟩ := xb (P := P) (w := w) (f := Builtin.max2) (fun a b w => IB k a b) h2 e2
   subst r1 r2
   exact .same H (.int k n) (by simpa [Builtin.max_] using r3)
  | true =>
   obtain ⟨n, r1, r2, r3⟩ := xb (P := P) (w := w) (f := Builtin.min2) (fun a b w => IC k a b) h2 e2
   subst r1 r2
   exact .same H (.int k n) (by simpa [Builtin.min_] using r3)
variable {P : Program} {φ : aU} {h h' : Hp} {w : World} {v : AV} {x y z : AO} {r : A2} {cx cy : Value} {t : TypeId} {p q : Operand}
theorem AP {f : IntKind → Int → Int → AV} {a b : AV} (e : Qz f a b h = .ok v h') : ∃ k k' m n, a = .int k m ∧ b = .int k' n ∧ v = f k m n ∧ h' = h ∧ v ≠ .undef := by
 obtain ⟨k, m, rfl, e4⟩ := bT e
 obtain ⟨k', n, rfl, e5⟩ := bT e4
 obtain ⟨e1, e2, e3⟩ := CZ e5
 exact ⟨k, k', m, n, rfl, rfl, e1.symm, e2, fun e => e3 (e1.trans e)⟩
theorem ID (H : HR φ h w) {a b : AV} (hx : VR φ a cx) (hy : VR φ b cy) (e : Qz Oy a b h = .ok v h') : Good φ h w v h' ((do eqGuard .shl t p q cx cy; binOp .shl t cx cy : Sem Value).run P w) := by
 obtain ⟨k, k', m, n, rfl, rfl, rfl, rfl, hn⟩ := AP e
 rw [hx.bW, hy.bW]
 cases n with
 | negSucc n => exact absurd rfl hn
 | ofNat n =>
  have hv : Oy k m (.ofNat n) = .int k (k.wrap (m * 2 ^ (min n k.bits))) := by
   show AV.int k (iR k (Kq m (.ofNat (Nat.pow 2 (Nat.min n (iT k)))))) = _
   rw [dC, wV, rE]
   congr 3
  rw [hv]
  refine .same H (.int _ _) ?_
  have h0 : ¬ ((n : Int) < 0) := by omega
  simp [eY, binOp, Op.shift, h0]
theorem IE (H : HR φ h w) {a b : AV} (hx : VR φ a cx) (hy : VR φ b cy) (e : Qz Oz a b h = .ok v h') : Good φ h w v h' ((do eqGuard .shr t p q cx cy; binOp .shr t cx cy : Sem Value).run P w) := by
 obtain ⟨k, k', m, n, rfl, rfl, rfl, rfl, hn⟩ := AP e
 rw [hx.bW, hy.bW]
 cases n with
 | negSucc n => exact absurd rfl hn
 | ofNat n =>
  have hv : Oz k m (.ofNat n) = .int k (m.fdiv (2 ^ (min n k.bits))) := by
   cases m with
   | ofNat m =>
    show AV.int k (.ofNat (Nat.div m (Nat.pow 2 (Nat.min n (iT k))))) = _
    rw [rE]
    congr 1
    have : (2 : Int) ^ (min n k.bits) = ((2 ^ (min n k.bits) : Nat) : Int) := by simp
    rw [this, Int.fdiv_eq_ediv_of_nonneg _ (Int.natCast_nonneg _)]
    rfl
   | negSucc m =>
    show AV.int k (Int.fdiv (.negSucc m) (2 ^ (Nat.min n (iT k)))) = _
    rw [rE]
  rw [hv]
  refine .same H (.int _ _) ?_
  have h0 : ¬ ((n : Int) < 0) := by omega
  simp [eY, binOp, Op.shift, h0]
def TF (P : Program) (k : NK) (t : TypeId) : Prop := match k with
 | .s => ∃ e, P.underlying t = some (.slice e)
 | .m => ∃ a b, P.underlying t = some (.map a b)
 | .f => ∃ a b c, P.underlying t = some (.func a b c)
 | .i => ∃ a, P.underlying t = some (.interface a)
def th (k : NK) : Value := match k with
 | .s => .slice none 0 0
 | .m => .map none
 | .f => .nilFunc
 | .i => .nilIface
theorem fH {k : NK} {y : Operand} (e : uA k y = true) : y = .const (th k) := by
 unfold uA at e
 split at e <;> first | rfl | cases e
theorem zw (d : Nat) {k : NK} (hk : TF P k t) {a : AV} (hx : VR φ a cx) {c : Bool} (hc : rN k a = EB.of c) :
  (Op.equalIn (d + 1) t cx (th k)).run P w = .ok c w ∧ (Op.equalIn (d + 1) t (th k) cx).run P w = .ok c w := by
 unfold Op.equalIn
 cases k with
 | s =>
  obtain ⟨e, ht⟩ := hk
  simp only [Sem.run_bind, az ht, Result.andThen_ok, th]
  cases a <;> (try (cases c <;> cases hc; done)) <;> cases hx <;> cases c <;> (try (cases hc; done)) <;> exact ⟨rfl, rfl⟩
 | m =>
  obtain ⟨e, f, ht⟩ := hk
  simp only [Sem.run_bind, az ht, Result.andThen_ok, th]
  cases a <;> (try (cases c <;> cases hc; done)) <;> cases hx <;> cases c <;> (try (cases hc; done)) <;> exact ⟨rfl, rfl⟩
 | f =>
  obtain ⟨e, f, g, ht⟩ := hk
  simp only [Sem.run_bind, az ht, Result.andThen_ok, th]
  cases a <;> (try (cases c <;> cases hc; done)) <;> cases hx <;> cases c <;> (try (cases hc; done)) <;> exact ⟨rfl, rfl⟩
 | i =>
  obtain ⟨e, ht⟩ := hk
  simp only [Sem.run_bind, az ht, Result.andThen_ok, th]
  cases a <;> (try (cases c <;> cases hc; done)) <;> cases hx <;> cases c <;> (try (cases hc; done)) <;> exact ⟨rfl, rfl⟩
theorem zx {op : BinOp} {k : NK} {a : AV} (hx : VR φ a cx) {c : Bool} (hc : rN k a = EB.of c) (p : Operand) : (eqGuard op t p (.const (th k)) cx (th k)).run P w = .ok () w ∧ (eqGuard op t (.const (th k)) p (th k) cx).run P w = .ok () w := by
 unfold eqGuard
 cases k <;> cases a <;> (try (cases c <;> cases hc; done)) <;> cases hx <;> cases op <;> simp [th]
theorem Bp (k : NK) : (∀ j n, th k ≠ .int j n) ∧ (∀ j n, th k ≠ .float j n) ∧ (∀ j m n, th k ≠ .complex j m n) ∧ (∀ s, th k ≠ .string s) := by
 cases k <;> simp [th]
theorem xd {k : NK} {a : AV} (hx : VR φ a cx) {c : Bool} (hc : rN k a = EB.of c) : (∀ j n, cx ≠ .int j n) ∧ (∀ j n, cx ≠ .float j n) ∧ (∀ j m n, cx ≠ .complex j m n) ∧ (∀ s, cx ≠ .string s) := by
 cases k <;> cases a <;> (try (cases c <;> cases hc; done)) <;> cases hx <;> simp
theorem bU (neg : Bool) {k : NK} (hk : TF P k t) (H : HR φ h w) {a : AV} (hx : VR φ a cx) (p : Operand) (e : EB.rv neg h (rN k a) = .ok v h') :
  Good φ h w v h' ((do eqGuard (if neg then .neq else .eql) t p (.const (th k)) cx (th k); binOp (if neg then .neq else .eql) t cx (th k) : Sem Value).run P w) ∧
  Good φ h w v h' ((do eqGuard (if neg then .neq else .eql) t (.const (th k)) p (th k) cx; binOp (if neg then .neq else .eql) t (th k) cx : Sem Value).run P w) := by
 obtain ⟨c, hc, rfl, rfl⟩ := oJ e
 obtain ⟨r1, r2⟩ := zw (P := P) (w := w) 9999 hk hx hc
 obtain ⟨a1, a2, a3, a4⟩ := xd hx hc
 obtain ⟨b1, b2, b3, b4⟩ := Bp k
 obtain ⟨g1, g2⟩ := eU r1 a1 a2 a3 a4
 obtain ⟨g3, g4⟩ := eU r2 b1 b2 b3 b4
 have hg := fun op => zx (P := P) (w := w) (op := op) (t := t) hx hc p
 constructor
 ·refine .same H (.bool _) ?_
  cases neg
  ·simp [(hg _).1, g1]
  ·simp [(hg _).1, g2]
 ·refine .same H (.bool _) ?_
  cases neg
  ·simp [(hg _).2, g3]
  ·simp [(hg _).2, g4]
inductive RT.bt : RT → RT → Prop
 | ok (v : AV) (h : Hp) : bt (.ok v h) (.ok v h)
 | err (n : Nat) : bt (.err n) (.err n)
 | ch (n : Nat) (k : Nat → RT) (c : Nat) (y : RT) : c < n → bt (k c) y → bt (.ch n k) y
def RT.Safe (x : RT) : Prop := ∀ n, ¬ x.bt (.err n)
theorem RT.Safe.err {n : Nat} (h : (RT.err n).Safe) : False := h n (.err n)
theorem RT.Safe.ch {n c : Nat} {k : Nat → RT} (h : (RT.ch n k).Safe) (hc : c < n) : (k c).Safe := fun m hm => h m (.ch n k c _ hc hm)
variable {P : Program} {φ : aU} {h h' : Hp} {w : World} {v : AV} {x y z : AO} {r : A2} {cx cy : Value} {t : TypeId}
def RO (φ : aU) (h : Hp) (w : World) (x : RT) (r : Result Value) : Prop := ∃ v h', x.bt (.ok v h') ∧ Good φ h w v h' r
theorem Good.nU {x : RT} {r : Result Value} (g : Good φ h w v h' r) (e : x = .ok v h') : RO φ h w x r := ⟨v, h', e ▸ .ok v h', g⟩
theorem HR.heap {w' : World} (H : HR φ h w) (e : w'.heap = w.heap) : HR φ h w' := ⟨by rw [e]; exact H.obj, H.inj, H.fresh, by rw [e]; exact H.bound⟩
theorem Step.heap {w' : World} (e : w'.heap = w.heap) (ht : w'.tape = w.tape) (ho : w'.os = w.os) (hu : w'.output = w.output) : Step φ h w φ h w' :=
 ⟨φ.le_refl, ⟨by rw [e]; exact Nat.le_refl _, fun b _ _ => by rw [e], ht, ho, hu⟩, fun _ _ a b => .inl ⟨a, b, id⟩⟩
theorem run_newObj (o : Go.Obj) : (newObj o).run P w = .ok w.heap.size { w with heap := w.heap.push o } := by
 show (Sem.new o .pure).run P w = _
 simp [Sem.run]
theorem DU {k e : TypeId} (H : HR φ h w) (hx : VR φ (ev x r) cx) (ht : P.underlying t = some (.map k e)) (he : Gn x r h = .ok v h') : Good φ h w v h' ((Instr.range t cx).run P w) := by cases he
variable {P : Program} {φ : aU} {h h' : Hp} {w : World} {v : AV} {x y z : AO} {r : A2} {cx cy : Value} {t : TypeId}
theorem fF.isEmpty : ∀ {l : List KV} {es : List MapEntry}, fF φ l es → l.isEmpty = es.isEmpty
 | _, _, .nil => rfl
 | _, _, .cons .. => rfl
theorem fF.get : ∀ {l : List KV} {es : List MapEntry}, fF φ l es → ∀ (i : Nat) (h1 : i < l.length) (h2 : i < es.length), ∃ k v, l[i] = .mk k v es[i].born ∧ VR φ k es[i].key ∧ VR φ v es[i].val
 | _, _, .cons k v b e l es h1 h2 h3 hr, 0, _, _ => ⟨k, v, by simp [h3], h1, h2⟩
 | _, _, .cons k v b e l es h1 h2 h3 hr, i + 1, g1, g2 => fF.get hr i (by simpa using g1) (by simpa using g2)
variable {P : Program} {φ : aU} {h h' : Hp} {w : World} {v : AV} {x y z : AO} {r : A2} {cx cy : Value} {t : TypeId}
theorem GN (H : HR φ h w) (hx : VR φ (ev x r) cx) (he : Nz x r h = .ok v h') : Good φ h w v h' ((Instr.entry cx).run P w) := by cases he
variable {P : Program} {φ : aU} {h h' : Hp} {w : World} {v : AV} {r : A2} {cx cy : Value}
section
variable {t : TypeId} {p q : Operand}
theorem qY {op : BinOp} {k k' : FloatKind} {m n : Nat} : (eqGuard op t p q (.float k m) (.float k' n)).run P w = .ok () w := by
 unfold eqGuard
 cases op <;> simp
theorem pT {op : BinOp} {k k' : FloatKind} {a b c d : Nat} : (eqGuard op t p q (.complex k a b) (.complex k' c d)).run P w = .ok () w := by
 unfold eqGuard
 cases op <;> simp
theorem LU {k : FloatKind} {op : BinOp} {a b : Nat} (e : Kx k op a b h = .ok v h') : h' = h ∧ ∃ c, (binOp op t (.float k a) (.float k b)).run P w = .ok c w ∧ VR φ v c := by
 cases op <;> first | (cases e; done) | skip
 case add =>
  have e : (match k.format.add a b with | some r => RV.ok (.qP k r) h | none => .err 7) = .ok v h' := e
  cases hr : k.format.add a b with
  | none => rw [hr] at e; cases e
  | some r =>
   rw [hr] at e
   obtain ⟨rfl, rfl⟩ := RV.aA e
   exact ⟨rfl, _, by simp [binOp, Op.floatArith, hr], .qP _ _⟩
 case sub =>
  have e : (match k.format.sub a b with | some r => RV.ok (.qP k r) h | none => .err 7) = .ok v h' := e
  cases hr : k.format.sub a b with
  | none => rw [hr] at e; cases e
  | some r =>
   rw [hr] at e
   obtain ⟨rfl, rfl⟩ := RV.aA e
   exact ⟨rfl, _, by simp [binOp, Op.floatArith, hr], .qP _ _⟩
 case mul =>
  have e : (match k.format.mul a b with | some r => RV.ok (.qP k r) h | none => .err 7) = .ok v h' := e
  cases hr : k.format.mul a b with
  | none => rw [hr] at e; cases e
  | some r =>
   rw [hr] at e
   obtain ⟨rfl, rfl⟩ := RV.aA e
   exact ⟨rfl, _, by simp [binOp, Op.floatArith, hr], .qP _ _⟩
 case quo =>
  have e : (match k.format.div a b with | some r => RV.ok (.qP k r) h | none => .err 7) = .ok v h' := e
  cases hr : k.format.div a b with
  | none => rw [hr] at e; cases e
  | some r =>
   rw [hr] at e
   obtain ⟨rfl, rfl⟩ := RV.aA e
   exact ⟨rfl, _, by simp [binOp, Op.floatArith, hr], .qP _ _⟩
 all_goals
  obtain ⟨rfl, rfl⟩ := RV.aA e
  exact ⟨rfl, _, by simp [binOp, Op.floatCmp], .bool _⟩
theorem IG {op : BinOp} (H : HR φ h w) {a b : AV} (hx : VR φ a cx) (hy : VR φ b cy) (e : FU op a b h = .ok v h') : Good φ h w v h' ((do eqGuard op t p q cx cy; binOp op t cx cy : Sem Value).run P w) := by
 obtain ⟨k, m, ea, e1⟩ := eR e
 obtain ⟨k', n, eb, e2⟩ := eR e1
 obtain ⟨hk, e3⟩ := aG e2
 clear e e1 e2
 obtain rfl := jG hk
 subst ea eb
 rw [hx.oM, hy.oM]
 obtain ⟨rfl, c, h1, h2⟩ := LU (P := P) (w := w) (t := t) (φ := φ) e3
 refine .same H h2 ?_
 simp [qY, h1]
theorem IH {k : FloatKind} {op : BinOp} {a b c d : Nat} (e : Cj k op a b c d h = .ok v h') : h' = h ∧ ∃ x, (binOp op t (.complex k a b) (.complex k c d)).run P w = .ok x w ∧ VR φ v x := by
 cases op <;> first | (cases e; done) | skip
 case add =>
  have e : (match k.format.add a c, k.format.add b d with | some r, some s => RV.ok (.gN k r s) h | _, _ => .err 8) = .ok v h' := e
  cases hr : k.format.add a c with
  | none => rw [hr] at e; cases e
  | some r =>
   cases hs : k.format.add b d with
   | none => rw [hr, hs] at e; cases e
   | some s =>
    rw [hr, hs] at e
    obtain ⟨rfl, rfl⟩ := RV.aA e
    exact ⟨rfl, _, run_complex_sum w .add (.inl rfl) t k a b c d r s (by simp [cSumBits, floatBits, hr, hs]), .gN _ _ _⟩
 case sub =>
  have e : (match k.format.sub a c, k.format.sub b d with | some r, some s => RV.ok (.gN k r s) h | _, _ => .err 8) = .ok v h' := e
  cases hr : k.format.sub a c with
  | none => rw [hr] at e; cases e
  | some r =>
   cases hs : k.format.sub b d with
   | none => rw [hr, hs] at e; cases e
   | some s =>
    rw [hr, hs] at e
    obtain ⟨rfl, rfl⟩ := RV.aA e
    exact ⟨rfl, _, run_complex_sum w .sub (.inr rfl) t k a b c d r s (by simp [cSumBits, floatBits, hr, hs]), .gN _ _ _⟩
 all_goals
  obtain ⟨rfl, rfl⟩ := RV.aA e
 ·exact ⟨rfl, _, run_eql_complex w t k a b c d, .bool _⟩
 ·exact ⟨rfl, _, run_neq_complex w t k a b c d, .bool _⟩
theorem II {op : BinOp} (H : HR φ h w) {a b : AV} (hx : VR φ a cx) (hy : VR φ b cy) (e : FV op a b h = .ok v h') : Good φ h w v h' ((do eqGuard op t p q cx cy; binOp op t cx cy : Sem Value).run P w) := by
 obtain ⟨k, m, n, ea, e1⟩ := mh e
 obtain ⟨k', m', n', eb, e2⟩ := mh e1
 obtain ⟨hk, e3⟩ := aG e2
 clear e e1 e2
 obtain rfl := jG hk
 subst ea eb
 rw [hx.zt, hy.zt]
 obtain ⟨rfl, c, h1, h2⟩ := IH (P := P) (w := w) (t := t) (φ := φ) e3
 refine .same H h2 ?_
 simp [pT, h1]
end
theorem IJ {a : AV} {s d : TypeId} {kd : IntKind} {k : FloatKind} (H : HR φ h w) (hx : VR φ a cx) (hs : P.underlying s = some (.int kd)) (hd : P.underlying d = some (.float k)) (e : Ga k a h = .ok v h') : Good φ h w v h' ((convert s d cx).run P w) := by
 obtain ⟨ki, n, rfl, e1⟩ := bT e
 obtain ⟨rfl, rfl⟩ := RV.aA e1
 rw [hx.bW]
 exact .same H (.qP _ _) (by simp [convert, az hs, az hd, Conv.intToFloat])
theorem IK {a : AV} {s d : TypeId} {kd : IntKind} {k : FloatKind} (H : HR φ h w) (hx : VR φ a cx) (hs : P.underlying s = some (.float k)) (hd : P.underlying d = some (.int kd)) (e : Gb kd a h = .ok v h') : Good φ h w v h' ((convert s d cx).run P w) := by
 obtain ⟨kf, n, rfl, e1⟩ := eR e
 clear e
 rw [hx.oM]
 have e : (match (kf.decode n).toInt .zero with | some n => if kd.min ≤ n ∧ n ≤ kd.max then RV.ok (.int kd n) h else .err 37 | none => .err 37) = .ok v h' := e1
 cases hr : (kf.decode n).toInt .zero with
 | none => rw [hr] at e; cases e
 | some m =>
  rw [hr] at e
  have e2 : (if kd.min ≤ m ∧ m ≤ kd.max then RV.ok (.int kd m) h else .err 37) = .ok v h' := e
  by_cases hb : kd.min ≤ m ∧ m ≤ kd.max
  ·rw [if_pos hb] at e2
   obtain ⟨rfl, rfl⟩ := RV.aA e2
   refine .same H (.int _ _) ?_
   simp [convert, az hs, az hd, Conv.floatToInt, hr, hb]
  ·rw [if_neg hb] at e2; cases e2
theorem EF {x : AO} {ts : Array TypeId} {ty : TypeId} (H : HR φ h w) (hx : VR φ (ev x r) cx) (he : Aw false x r h = .ok v h') : Good φ h w v h' ((Builtin.real_ ts ty #[cx]).run P w) := by cases he
theorem EG {x : AO} {ts : Array TypeId} {ty : TypeId} (H : HR φ h w) (hx : VR φ (ev x r) cx) (he : Aw true x r h = .ok v h') : Good φ h w v h' ((Builtin.imag_ ts ty #[cx]).run P w) := by cases he
variable {P : Program} {φ : aU} {h h' : Hp} {w : World} {v : AV} {x y z : AO} {r : A2} {cx cy cz : Value}
theorem DV {t k e : TypeId} {kt : KT} {zv : AV} (H : HR φ h w) {a b : AV} (hx : VR φ a cx) (hy : VR φ b cy) (ht : P.underlying t = some (.map k e)) (hk : nH P k = some kt) (hz : nI P e = some zv)
  (he : Ar kt zv a b h = .ok v h') : Good φ h w v h' ((Instr.mapEntry t cx cy).run P w) := by cases he
theorem DW {t : TypeId} {cs : Value} (H : HR φ h w) {a s c : AV} (hx : VR φ a cx) (hy : VR φ s cs) (hz : VR φ c cz) (he : Au a s c h = .ok v h') : v = .undef ∧ vr φ h w h' ((Instr.entryStore t cx cs cz).run P w) := by cases he
variable {P : Program} {φ : aU} {h h' : Hp} {w : World} {v : AV} {r : A2} {cx cy : Value} {t : TypeId} {G : Gl} {ρ : Operand → Value}
theorem ar {d : TypeDesc} (e : kc P t = d) (hd : d ≠ .invalid) : P.underlying t = some d := by
 unfold kc at e
 cases hu : P.underlying t with
 | none => rw [hu] at e; exact absurd e.symm hd
 | some d' => rw [hu] at e; exact congrArg some e
theorem mc {e : TypeId} (h : bH P e ≠ 0) : ∃ i, P.info? e = some i ∧ i.size ≠ 0 := by
 unfold bH Program.cellsOf at h
 cases hi : P.info? e with
 | none => simp [hi] at h
 | some i => exact ⟨i, rfl, by simpa [hi] using h⟩
theorem NM {e : TypeId} (ht : P.underlying t = some (.pointer e)) (h : bH P e ≠ 0) : PN P .p t := by
 obtain ⟨i, hi, hs⟩ := mc h
 exact ⟨e, i, ht, hi, hs⟩
theorem IL {op : BinOp} {x y : Operand} {k : BK} {ax ay : AO} (hc : ∀ c, ρ (.const c) = c) (hop : EH P op t x y = some k) (H : HR φ h w) (hx : VR φ (ev ax r) (ρ x)) (hy : VR φ (ev ay r) (ρ y)) (he : Nr k ax ay r h = .ok v h') :
  Good φ h w v h' ((do eqGuard op t x y (ρ x) (ρ y); binOp op t (ρ x) (ρ y) : Sem Value).run P w) := by
 unfold EH at hop
 split at hop
 case h_1 => cases hop; exact HO H hx hy he
 case h_2 => cases hop; exact HP H hx hy he
 case h_3 => cases hop; exact HQ H hx hy he
 case h_4 => cases hop; exact HS H hx hy he
 case h_5 => cases hop; exact HT H hx hy he
 case h_6 => cases hop; exact HV H hx hy he
 case h_7 => cases hop; exact LK H hx hy he
 case h_8 => cases hop; exact HW H hx hy he
 case h_9 => cases hop; exact Es H hx hy he
 case h_10 => cases hop; exact ID H hx hy he
 case h_11 => cases hop; exact IE H hx hy he
 case h_12 => cases hop; exact LL H hx hy he
 case h_13 => cases hop; exact LM H hx hy he
 case h_14 => cases hop; exact LN H hx hy he
 case h_15 => cases hop; exact LO H hx hy he
 case h_16 => cases hop; exact LP H hx hy he
 case h_17 => cases hop; exact LQ H hx hy he
 case h_18 => cases hop; exact HX H hx hy he
 case h_19 => cases hop; exact HY H hx hy he
 case h_20 => cases hop; exact HZ H hx hy he
 case h_21 => cases hop; exact Ib H hx hy he
 case h_22 => cases hop; exact Ia H hx hy he
 case h_23 => cases hop; exact Ic H hx hy he
 case h_24 => cases hop; exact Ie H hx hy he
 case h_25 hu => cases hop; exact zj false H hx hy (ar hu (by simp)) he
 case h_26 hu => cases hop; exact zj true H hx hy (ar hu (by simp)) he
 case h_27 e hu =>
  split at hop
  ·cases hop
  ·rename_i hs; cases hop; exact zk false H hx hy (NM (ar hu (by simp)) hs) he
 case h_28 e hu =>
  split at hop
  ·cases hop
  ·rename_i hs; cases hop; exact zk true H hx hy (NM (ar hu (by simp)) hs) he
 case h_29 e hu =>
  split at hop
  ·rename_i hn; cases hop; have hn := fH hn; subst hn; rw [hc]; exact (bU false (k := .s) ⟨_, ar hu (by simp)⟩ H hx x he).1
  ·cases hop
 case h_30 e hu =>
  split at hop
  ·rename_i hn; cases hop; have hn := fH hn; subst hn; rw [hc]; exact (bU true (k := .s) ⟨_, ar hu (by simp)⟩ H hx x he).1
  ·cases hop
 case h_31 e hu =>
  split at hop
  ·rename_i hn; cases hop; have hn := fH hn; subst hn; rw [hc]; exact (bU false (k := .m) ⟨_, _, ar hu (by simp)⟩ H hx x he).1
  ·cases hop
 case h_32 e hu =>
  split at hop
  ·rename_i hn; cases hop; have hn := fH hn; subst hn; rw [hc]; exact (bU true (k := .m) ⟨_, _, ar hu (by simp)⟩ H hx x he).1
  ·cases hop
 case h_33 e hu =>
  split at hop
  ·rename_i hn; cases hop; have hn := fH hn; subst hn; rw [hc]; exact (bU false (k := .f) ⟨_, _, _, ar hu (by simp)⟩ H hx x he).1
  ·cases hop
 case h_34 e hu =>
  split at hop
  ·rename_i hn; cases hop; have hn := fH hn; subst hn; rw [hc]; exact (bU true (k := .f) ⟨_, _, _, ar hu (by simp)⟩ H hx x he).1
  ·cases hop
 case h_35 e hu =>
  split at hop
  ·rename_i hn; cases hop; have hn := fH hn; subst hn; rw [hc]; exact (bU false (k := .i) ⟨_, ar hu (by simp)⟩ H hx x he).1
  ·cases hop
 case h_36 e hu =>
  split at hop
  ·rename_i hn; cases hop; have hn := fH hn; subst hn; rw [hc]; exact (bU true (k := .i) ⟨_, ar hu (by simp)⟩ H hx x he).1
  ·cases hop
 case h_37 =>
  split at hop
  ·cases hop
  ·rename_i hg
   simp only [Option.map_eq_some_iff] at hop
   obtain ⟨ks, hk, rfl⟩ := hop
   exact zl false H hx hy hk (by simpa using hg) he
 case h_38 =>
  split at hop
  ·cases hop
  ·rename_i hg
   simp only [Option.map_eq_some_iff] at hop
   obtain ⟨ks, hk, rfl⟩ := hop
   exact zl true H hx hy hk (by simpa using hg) he
 case h_39 => cases hop; exact IG H hx hy he
 case h_40 => cases hop; exact II H hx hy he
 case h_41 => cases hop
variable {P : Program} {φ : aU} {h h' : Hp} {w : World} {v : AV} {r : A2} {cx cy : Value} {t : TypeId} {G : Gl} {ρ : Operand → Value}
theorem oO {op : BinOp} {x y : Operand} {k : NK} (neg : Bool) {ay : AO} (hc : ∀ c, ρ (.const c) = c) (hop : EH P op t y x = some (if neg then .qt k else .jB k)) (H : HR φ h w) (hy : VR φ (ev ay r) (ρ y))
  (he : EB.rv neg h (rN k (ev ay r)) = .ok v h') : Good φ h w v h' ((do eqGuard op t x y (ρ x) (ρ y); binOp op t (ρ x) (ρ y) : Sem Value).run P w) := by
 unfold EH at hop
 split at hop <;> (try (split at hop)) <;> (try (cases neg <;> cases hop; done))
 all_goals (try (simp only [Option.map_eq_some_iff] at hop; obtain ⟨ks, hk, hop⟩ := hop; cases neg <;> cases hop; done))
 all_goals
  rename_i hu hn
  cases neg <;> cases hop
  have hn := fH hn
  subst hn
  rw [hc]
 ·exact (bU false (k := .s) ⟨_, ar hu (by simp)⟩ H hy y he).2
 ·exact (bU true (k := .s) ⟨_, ar hu (by simp)⟩ H hy y he).2
 ·exact (bU false (k := .m) ⟨_, _, ar hu (by simp)⟩ H hy y he).2
 ·exact (bU true (k := .m) ⟨_, _, ar hu (by simp)⟩ H hy y he).2
 ·exact (bU false (k := .f) ⟨_, _, _, ar hu (by simp)⟩ H hy y he).2
 ·exact (bU true (k := .f) ⟨_, _, _, ar hu (by simp)⟩ H hy y he).2
 ·exact (bU false (k := .i) ⟨_, ar hu (by simp)⟩ H hy y he).2
 ·exact (bU true (k := .i) ⟨_, ar hu (by simp)⟩ H hy y he).2
theorem pU {a b : Bool} (h : Bool.and a b = true) : a = true ∧ b = true := by cases a <;> cases b <;> first | exact ⟨rfl, rfl⟩ | cases h
theorem IM {a : AV} (H : HR φ h w) (hx : VR φ a cx) {s d t : TypeId} (hs : P.underlying s = some (.pointer t)) (hd : P.underlying d = some .unsafePointer) (hz : bH P t ≠ 0) (e : Ge a h = .ok v h') :
  Good φ h w v h' ((convert s d cx).run P w) := by
 obtain ⟨j, hj, hjs⟩ := mc hz
 cases a <;> try (cases e; done)
 case cV =>
  obtain ⟨rfl, rfl⟩ := RV.aA (show RV.ok .cV h = .ok v h' from e)
  cases hx
  exact .same H .cV (by simp [convert, az hs, az hd, Conv.unsafePointer])
 case ptr i o =>
  obtain ⟨el, n, ex, fl, c, hi, e⟩ := bg (show Obj.bp (ah i h) (fun _ n ex _ _ => @Bool.rec (fun _ => RV) (.err 191) (.ok (.ptr i o) h) (Bool.and ex (FW o n))) (.err 192) = _ from e)
  obtain ⟨hb, e⟩ := aG e
  obtain ⟨rfl, rfl⟩ := RV.aA e
  obtain ⟨hex, hin⟩ := pU hb
  cases hx with
  | ptr _ _ p hp =>
   have hl : live (ah i h) := by rw [hi]; exact aY
   obtain ⟨q, hq, hor⟩ := H.obj i hl
   rw [hp] at hq; cases hq
   rw [hi] at hor
   obtain ⟨rc, fz, hrc, h1, h2, h3, _⟩ := hor
   have h4 := h3 hex
   have ho := lz hin
   refine .same H (.ptr _ _ _ hp) (Lib.run_to_unsafe w (p.addr o) hs hd hj hjs (e := el) (cells := rc.size) ?_ ?_)
   ·show w.shape? p.gI = _
    simp [World.shape?, hrc]
   ·show p.base + o < rc.size
    omega
theorem Bq {a : AV} (H : HR φ h w) (hx : VR φ a cx) {s d u : TypeId} (hs : P.underlying s = some .unsafePointer) (hd : P.underlying d = some (.pointer u)) (hz : bH P u ≠ 0) (hlies : liesAt P P.depth u 1 0 u 1 = true) (e : wk u (bH P u) a h = .ok v h') :
  Good φ h w v h' ((convert s d cx).run P w) := by
 obtain ⟨j, hj, hjs⟩ := mc hz
 cases a <;> try (cases e; done)
 case cV =>
  obtain ⟨rfl, rfl⟩ := RV.aA (show RV.ok .cV h = .ok v h' from e)
  cases hx
  exact .same H .cV (by simp [convert, az hs, az hd, Conv.unsafePointer])
 case ptr i o =>
  obtain ⟨el, n, ex, fl, c, hi, e⟩ := bg (show Obj.bp (ah i h) (fun el n ex _ _ => @Bool.rec (fun _ => RV) (.err 193) (.ok (.ptr i o) h) (Bool.and ex (Bool.and (Nat.beq o 0) (Bool.and (Nat.beq el u) (Nat.beq n (bH P u)))))) (.err 194) = _ from e)
  obtain ⟨hb, e⟩ := aG e
  obtain ⟨rfl, rfl⟩ := RV.aA e
  obtain ⟨hex, hb⟩ := pU hb
  obtain ⟨ho, hb⟩ := pU hb
  obtain ⟨hel, hn⟩ := pU hb
  have ho := Nat.eq_of_beq_eq_true ho
  have hel := Nat.eq_of_beq_eq_true hel
  have hn := Nat.eq_of_beq_eq_true hn
  subst ho hel
  cases hx with
  | ptr _ _ p hp =>
   have hl : live (ah i h) := by rw [hi]; exact aY
   obtain ⟨q, hq, hor⟩ := H.obj i hl
   rw [hp] at hq; cases hq
   rw [hi] at hor
   obtain ⟨rc, fz, hrc, h1, h2, h3, _⟩ := hor
   have h4 := h3 hex
   have hsz : rc.size = P.cellsOf el := by
    have : bH P el = P.cellsOf el := rfl
    omega
   have hpos : 0 < P.cellsOf el := Nat.pos_of_ne_zero hz
   refine .same H (.ptr _ _ _ hp) (Lib.run_from_unsafe w (p.addr 0) hs hd hj (e := el) (cells := rc.size) ?_ ?_)
   ·show w.shape? p.gI = _
    simp [World.shape?, hrc]
   ·show liesAt P P.depth el (rc.size / P.cellsOf el) (p.base + 0) el 1 = true
    rw [hsz, Nat.div_self hpos, h4.1]
    exact hlies
theorem EI {s d : TypeId} {k : CK} {ax : AO} (hop : IP P s d = some k) (H : HR φ h w) (hx : VR φ (ev ax r) cx) (he : rO k ax r h = .ok v h') : Good φ h w v h' ((convert s d cx).run P w) := by
 unfold IP at hop
 split at hop
 case h_1 hs hd => cases hop; exact Bg H hx (ar hs (by simp)) (ar hd (by simp)) he
 case h_2 hs hd =>
  cases hop
  obtain ⟨l, el, he⟩ := dm he
  obtain ⟨rfl, rfl⟩ := RV.aA he
  rw [el] at hx
  refine .same H hx ?_
  obtain ⟨s, rfl, rfl⟩ := hx.en
  simp [convert, az (ar hs (by simp)), az (ar hd (by simp))]
 case h_3 hs hd =>
  split at hop
  ·cases hop
  ·rename_i hz
   cases hop
   exact IM H hx (ar hs (by simp)) (ar hd (by simp)) hz he
 case h_4 hs hd =>
  split at hop
  ·cases hop
  ·rename_i hz
   cases hop
   simp only [Bool.or_eq_true, decide_eq_true_eq, Bool.not_eq_true', not_or, Bool.not_eq_false] at hz
   exact Bq H hx (ar hs (by simp)) (ar hd (by simp)) hz.1 hz.2 he
 case h_5 hs hd =>
  split at hop
  ·rename_i hu; cases hop; exact Ip H hx (ar hs (by simp)) (ar hu (by simp)) (ar hd (by simp)) he
  ·cases hop
 case h_6 hs hd =>
  split at hop
  ·rename_i hu; cases hop; exact Io H hx (ar hs (by simp)) (ar hu (by simp)) (ar hd (by simp)) he
  ·cases hop
 case h_7 hs hd => cases hop; exact IJ H hx (ar hs (by simp)) (ar hd (by simp)) he
 case h_8 hs hd => cases hop; exact IK H hx (ar hs (by simp)) (ar hd (by simp)) he
 case h_9 => cases hop
variable {P : Program} {φ : aU} {h h' : Hp} {w : World} {v : AV} {r : A2} {cx cy : Value} {t : TypeId} {G : Gl} {ρ : Operand → Value}
theorem RP {fl : Fl} {t : RV} {n : Nat} (e : (@Bool.rec (fun _ => RV) t (.err n) (FX fl)) = .ok v h') : FX fl = false ∧ t = .ok v h' := by
 cases hf : FX fl with
 | true => rw [hf] at e; cases e
 | false => rw [hf] at e; exact ⟨rfl, e⟩
theorem Br {e : TypeId} (hc : P.cellsOf e = 1) (count off n : Nat) (hn : off + n ≤ count) : liesAt P P.depth e count off e n = true := by
 have hd : P.depth = (2 * (P.types.size + Made.depth) + 1) + 1 := rfl
 rw [hd]
 simp only [liesAt, Bool.or_eq_true]
 left
 rw [hd]
 simp [rowAt, hc, hn, sameLayout, Nat.mod_one]
theorem IQ {ts : Array TypeId} {pt e ty : TypeId} {k : IntKind} (h0 : ts[0]? = some pt) (hp : P.underlying pt = some (.pointer e)) (hc : P.cellsOf e = 1) (a : Addr) (cells : Nat) (hsh : w.shape? a.block = some (e, cells)) (l : List UInt8) (hl0 : l ≠ []) (hn : a.off + l.length ≤ cells) (h63 : l.length ≤ 9223372036854775807)
  (hcell : ∀ j x, l[j]? = some x → w.cell? (a.add j) = some (.int .u8 x.toNat)) :
  (Builtin.unsafeString_ ts ty #[.pointer (some a), .int k l.length]).run P w = .ok (.string ⟨l.toArray⟩) (w.freeze a l.length) := by
 have hl : l.length ≠ 0 := by simpa using hl0
 have hlb := Lib.run_loadBytes (P := P) w l a .empty hcell
 have hlies := Br (P := P) hc (cells / P.cellsOf e) a.off l.length (by rw [hc]; simpa using hn)
 have h63' : ¬ (9223372036854775807 : Int) < (l.length : Int) := by omega
 have hdef : Builtin.unsafeString_ ts ty #[.pointer (some a), .int k l.length] =
   (do
    let n ← asInt (.int k l.length)
    let some pt := ts[0]? | stuck "unsafe.String: no argument types"
    if n < 0 then runtimePanic (.error "unsafe.String: len out of range")
    if n > IntKind.i64.max then unsupported (.unsafePointer "String: a length above the largest int")
    if n = 0 then pure (.string .empty)
    else if ← variablesAt a (← elemOf pt) n.toNat then do
     let s ← loadBytes a .empty n.toNat
     freeze a n.toNat
     pure (.string s)
    else unsupported (.unsafePointer "String: not so many bytes at ptr")) := rfl
 rw [hdef]
 have hmax : IntKind.i64.max = 9223372036854775807 := rfl
 have hneg : ¬ (l.length : Int) < 0 := by omega
 simp [asInt, asIntOf, hmax, h63', hneg, hl, variablesAt, hsh, elemOf, run_underlying hp, hlies, hlb, h0]
theorem EJ {ts : Array TypeId} {pt ty : TypeId} {k : IntKind} (h0 : ts[0]? = some pt) (q : Option Addr) : (Builtin.unsafeString_ ts ty #[.pointer q, .int k 0]).run P w = .ok (.string .empty) w := by
 have hmax : IntKind.i64.max = 9223372036854775807 := rfl
 cases q with
 | none =>
  have hdef : Builtin.unsafeString_ ts ty #[.pointer none, .int k 0] =
    (do
     let n ← asInt (.int k 0)
     let some _ := ts[0]? | stuck "unsafe.String: no argument types"
     if n < 0 then runtimePanic (.error "unsafe.String: len out of range")
     if n > IntKind.i64.max then unsupported (.unsafePointer "String: a length above the largest int")
     if n = 0 then pure (.string .empty)
     else runtimePanic (.error "unsafe.String: ptr is nil and len is not zero")) := rfl
  rw [hdef]
  simp [asInt, asIntOf, hmax, h0]
 | some a =>
  have hdef : Builtin.unsafeString_ ts ty #[.pointer (some a), .int k 0] =
    (do
     let n ← asInt (.int k 0)
     let some pt := ts[0]? | stuck "unsafe.String: no argument types"
     if n < 0 then runtimePanic (.error "unsafe.String: len out of range")
     if n > IntKind.i64.max then unsupported (.unsafePointer "String: a length above the largest int")
     if n = 0 then pure (.string .empty)
     else if ← variablesAt a (← elemOf pt) n.toNat then do
      let s ← loadBytes a .empty n.toNat
      freeze a n.toNat
      pure (.string s)
     else unsupported (.unsafePointer "String: not so many bytes at ptr")) := rfl
  rw [hdef]
  simp [asInt, asIntOf, hmax, h0]
theorem EK {ts : Array TypeId} {ty : TypeId} {x : AO} (H : HR φ h w) (hx : VR φ (ev x r) cx) (e : lr x r h = .ok v h') : Good φ h w v h' ((Builtin.unsafeSliceData_ ts ty #[cx]).run P w) := by
 unfold lr at e
 cases ha : ev x r <;> rw [ha] at e hx <;> try (cases e; done)
 case slice i o n c =>
  cases c with
  | zero => cases e
  | succ c =>
   obtain ⟨rfl, rfl⟩ := RV.aA (show RV.ok (.ptr i o) h = .ok v h' from e)
   cases hx with
   | slice _ _ _ _ p hp => exact .same H (.ptr _ _ _ hp) (Lib.run_unsafeSliceData_row w ts ty _ _ _ (Nat.succ_ne_zero c))
 case ft i o n es =>
  cases n with
  | zero => cases e
  | succ n =>
   obtain ⟨rfl, rfl⟩ := RV.aA (show RV.ok (.ptr i o) h = .ok v h' from e)
   cases hx with
   | ft _ _ _ _ c p a hp h1 h2 h3 h4 h5 h6 =>
    have hc : c ≠ 0 := by omega
    have ea : a = p.addr o := by
     obtain ⟨b, off, sp⟩ := a
     simp only [Place.addr, Addr.mk.injEq]
     exact ⟨h3, h5 hc, h4⟩
    subst ea
    exact .same H (.ptr _ _ _ hp) (Lib.run_unsafeSliceData_row w ts ty _ _ _ hc)
 case ai =>
  obtain ⟨rfl, rfl⟩ := RV.aA (show RV.ok .cV h = .ok v h' from e)
  cases hx
  exact .same H .cV (Lib.run_unsafeSliceData_nil w ts ty 0 0)
theorem IU : VR φ (.str []) (.string .empty) := .str _ _ rfl
theorem EL {ts : Array TypeId} {pt e ty : TypeId} {x y : AO} (h0 : ts[0]? = some pt) (hp : P.underlying pt = some (.pointer e)) (hc : P.cellsOf e = 1) (H : HR φ h w) (hx : VR φ (ev x r) cx) (hy : VR φ (ev y r) cy) (he : na e x y r h = .ok v h') :
  Good φ h w v h' ((Builtin.unsafeString_ ts ty #[cx, cy]).run P w) := by
 unfold na ik at he
 obtain ⟨k, n, ey, he⟩ := bT he
 rw [ey] at hy
 rw [hy.bW]
 cases n with
 | negSucc n => cases he
 | ofNat n =>
  cases n with
  | zero =>
   have go : ∀ q, cx = .pointer q → RV.ok (.str []) h = .ok v h' → Good φ h w v h' ((Builtin.unsafeString_ ts ty #[cx, .int k (.ofNat 0)]).run P w) := by
    rintro q rfl e
    obtain ⟨rfl, rfl⟩ := RV.aA e
    exact .same H IU (EJ h0 q)
   cases ha : ev x r <;> rw [ha] at he hx <;> try (cases he; done)
   case ptr i o => cases hx with | ptr _ _ p hp => exact go _ rfl he
   case cV => cases hx; exact go _ rfl he
  | succ n =>
   obtain ⟨i, o, ex, he⟩ := cZ (show AV.gn (ev x r) _ (RV.err 117) = RV.ok v h' from he)
   rw [ex] at hx
   obtain ⟨el, m, xx, fl, c, hi, he⟩ := bg he
   obtain ⟨hro, he⟩ := RP he
   obtain ⟨hb, he⟩ := aG he
   obtain ⟨hb1, hb⟩ := pU hb
   obtain ⟨hb2, hb3⟩ := pU hb
   have hb1 : n ≤ 1048576 := Nat.le_of_ble_eq_true hb1
   have hb2 := Nat.eq_of_beq_eq_true hb2
   have hb3 : o + (n + 1) ≤ m := Nat.le_of_ble_eq_true hb3
   subst hb2
   obtain ⟨bs, hbs, he⟩ := kF he
   obtain ⟨rfl, rfl⟩ := RV.aA he
   cases hx with
   | ptr _ _ p hp' =>
    obtain ⟨l, l1, l2, l3, l4⟩ := H.values hi hp' (n + 1) o hb3
    rw [hbs] at l2
    have hl := mW l2
    subst hl
    have hlen : bs.length = n + 1 := by simpa using l1
    have hl : live (ah i h) := by rw [hi]; exact aY
    obtain ⟨q, hq, hor⟩ := H.obj i hl
    rw [hp'] at hq; cases hq
    rw [hi] at hor
    obtain ⟨rc, fz, hrc, r1, r2, r3, r4, r5, r6⟩ := hor
    have hrun := IQ (w := w) (ty := ty) (k := k) h0 hp hc (p.addr o) rc.size (by show w.shape? p.gI = _; simp [World.shape?, hrc]) bs (by intro g; rw [g] at hlen; cases hlen)
     (by show p.base + o + bs.length ≤ rc.size; omega) (by omega) (fun j x hj => by
      have hj' : j < bs.length := (List.getElem?_eq_some_iff.1 hj).1
      have hx' := (List.getElem?_eq_some_iff.1 hj).2
      have := l4 j (by simpa using hj')
      rw [this]
      simp [hx'])
    have hn' : (Int.ofNat (n + 1)) = ((bs.length : Nat) : Int) := by rw [hlen]; rfl
    have hne : bs.length ≠ 0 := by omega
    have hheap : (w.freeze (p.addr o) bs.length).heap = w.heap.modify p.gI fun
      | .cells c elem (lo, hi) => .cells c elem (if lo == hi then (p.base + o, p.base + o + bs.length) else (min lo (p.base + o), max hi (p.base + o + bs.length)))
      | o => o := by
     unfold World.freeze
     rw [if_neg hne]
     rfl
    have hsz : (w.freeze (p.addr o) bs.length).heap.size = w.heap.size := by rw [hheap]; simp
    have hother : ∀ b, b ≠ p.gI → (w.freeze (p.addr o) bs.length).heap[b]? = w.heap[b]? := fun b hb => by
     rw [hheap, Array.getElem?_modify, if_neg (Ne.symm hb)]
    have hO : OR φ (.cells e m xx .An c) p ((w.freeze (p.addr o) bs.length).heap[p.gI]?) := by
     rw [hheap, Array.getElem?_modify, if_pos rfl, hrc]
     obtain ⟨lo, hi2⟩ := fz
     exact ⟨rc, _, rfl, r1, r2, r3, r4, r5, trivial⟩
    have HH := H.set ⟨hl, by rw [hi]; exact hro⟩ hp' hsz hother hO (by simp)
    refine ⟨_, _, φ, by rw [hn']; exact hrun, .str _ _ (by simp), HH, φ.le_refl, ?_, fun j q hj hq => ?_⟩
    ·refine iD.set ⟨hl, by rw [hi]; exact hro⟩ hp' hsz hother ?_ ?_ ?_ <;> (unfold World.freeze; rw [if_neg hne])
    ·rw [aN] at hj
     by_cases ej : j = i
     ·subst ej; exact .inl ⟨hl, hq, fun _ => ⟨hl, by rw [hi]; exact hro⟩⟩
     ·rw [if_neg ej] at hj; exact .inl ⟨hj, hq, fun x => by rw [aN, if_neg ej] at x; exact x⟩
variable {P : Program} {φ : aU} {h h' : Hp} {w : World} {v : AV} {r : A2} {x y : AO} {cx cy : Value} {ty : TypeId}
theorem EM {t u e : TypeId} {z : List AV} {kn : IntKind} (H : HR φ h w) (hx : VR φ (ev x r) cx) (hy : VR φ (ev y r) cy) (ht : P.underlying t = some (.slice e)) (hu : P.underlying u = some (.int kn)) (hg : jw P e = true) (hes : bH P e ≠ 0) (hz : gv P e = some z)
  (he : Gm e (bH P e) z x y r h = .ok v h') : Good φ h w v h' ((Builtin.append_ #[t, u] ty #[cx, cy]).run P w) := by cases he
variable {P : Program} {φ : aU} {h h' : Hp} {w : World} {v : AV} {r : A2} {cx cy : Value} {t : TypeId} {G : Gl} {ρ : Operand → Value}
theorem cU.mr {x : AO} {vs : List Value} (hx : cU φ (fR [x] r) vs) : ∃ c, vs = [c] ∧ VR φ (ev x r) c := by
 cases hx with
 | cons a c as cs h1 h2 => cases h2; exact ⟨c, rfl, h1⟩
theorem cU.oP {x y : AO} {vs : List Value} (hx : cU φ (fR [x, y] r) vs) : ∃ c d, vs = [c, d] ∧ VR φ (ev x r) c ∧ VR φ (ev y r) d := by
 cases hx with
 | cons a c as cs h1 h2 => cases h2 with
  | cons b d bs ds h3 h4 => cases h4; exact ⟨c, d, rfl, h1, h3⟩
theorem fI {ts : Array TypeId} {t : TypeId} {l : List TypeId} (e : ts.toList = t :: l) : ts[0]? = some t := by
 rw [← Array.getElem?_toList, e]; rfl
theorem lx {t : TypeId} {kt : KT} (e : EN P t = some kt) : ∃ k e, P.underlying t = some (.map k e) ∧ nH P k = some kt := by
 unfold EN at e
 split at e
 ·exact ⟨_, _, by assumption, e⟩
 ·cases e
theorem wA {b : Builtin} {ts : Array TypeId} {ty : TypeId} {cs : Array Bool} {xs : List AO} {vs : List Value} {op : nV} (hop : jJ P b ts.toList xs = some op) (H : HR φ h w) (hxs : cU φ (fR xs r) vs) (he : op.run r h = .ok v h') :
  ∃ s : Sem Value, builtin b ts ty cs vs.toArray = (do pure (.value (← s))) ∧ Good φ h w v h' (s.run P w) := by
 unfold jJ at hop
 split at hop
 case h_1 t l x ht =>
  obtain ⟨c, rfl, h1⟩ := hxs.mr
  refine ⟨_, rfl, ?_⟩
  split at hop
  case h_1 hu => cases hop; exact Ew (fI ht) H h1 (ar hu (by simp)) he
  case h_2 hu => cases hop; exact Ij (fI ht) H h1 ⟨_, ar hu (by simp)⟩ he
  case h_3 hu => cases hop; exact ED (fI ht) H h1 (ar hu (by simp)) he
  case h_4 hu =>
   cases hop
   obtain ⟨rfl, rfl⟩ := RV.aA he
   exact .same H (.int _ _) (by simp [Builtin.len_, fI ht, az (ar hu (by simp)), goInt])
  case h_5 hu =>
   split at hop
   ·rename_i hu2
    cases hop
    obtain ⟨rfl, rfl⟩ := RV.aA he
    exact .same H (.int _ _) (by simp [Builtin.len_, fI ht, az (ar hu (by simp)), az (ar hu2 (by simp)), goInt])
   ·cases hop
  case h_6 => cases hop
 case h_2 t l x ht =>
  obtain ⟨c, rfl, h1⟩ := hxs.mr
  refine ⟨_, rfl, ?_⟩
  split at hop
  case h_1 hu => cases hop; exact Iu (fI ht) H h1 (ar hu (by simp)) he
  case h_2 hu =>
   cases hop
   obtain ⟨rfl, rfl⟩ := RV.aA he
   exact .same H (.int _ _) (by simp [Builtin.cap_, fI ht, az (ar hu (by simp)), goInt])
  case h_3 => cases hop
 case h_3 t u x y ht =>
  obtain ⟨c, d, rfl, h1, h2⟩ := hxs.oP
  refine ⟨_, rfl, ?_⟩
  have hts : ts = #[t, u] := by apply Array.ext'; rw [ht]
  subst hts
  split at hop
  case h_1 hu hv =>
   split at hop
   ·rename_i hg
    cases hop
    simp only [Bool.and_eq_true, decide_eq_true_eq] at hg
    exact EC H h1 h2 (ar hu (by simp)) (ar hv (by simp)) hg.2 hg.1 he
   ·cases hop
  case h_2 hu hv =>
   split at hop
   ·cases hop
   ·rename_i hg
    cases hop
    simp only [Bool.or_eq_true, decide_eq_true_eq, Bool.not_eq_true', not_or, Bool.not_eq_false] at hg
    exact Il H h1 h2 (ar hu (by simp)) (ar hv (by simp)) hg.2 hg.1 he
  case h_3 hu hv =>
   split at hop
   ·cases hop
   ·rename_i hg
    simp only [Option.bind_eq_some_iff] at hop
    obtain ⟨z, hz, hop⟩ := hop
    split at hop
    ·cases hop
    ·cases hop
     simp only [Bool.or_eq_true, decide_eq_true_eq, Bool.not_eq_true', not_or, Bool.not_eq_false] at hg
     exact EM H h1 h2 (ar hu (by simp)) (ar hv (by simp)) hg.2 hg.1 hz he
  case h_4 => cases hop
 case h_4 t l x y ht =>
  obtain ⟨c, d, rfl, h1, h2⟩ := hxs.oP
  refine ⟨_, rfl, ?_⟩
  split at hop
  case h_1 e hu =>
   split at hop
   ·cases hop
   ·rename_i hs
    cases hop
    obtain ⟨i, hi, hs'⟩ := mc hs
    rw [de hi] at he
    exact Iq (fI ht) H h1 h2 (ar hu (by simp)) hi (by omega) he
  case h_2 => cases hop
 case h_5 t l x ht =>
  obtain ⟨c, rfl, h1⟩ := hxs.mr
  refine ⟨_, rfl, ?_⟩
  split at hop
  case h_1 e hu =>
   split at hop
   ·cases hop
   ·simp only [Option.bind_eq_some_iff] at hop
    obtain ⟨z, hz, hop⟩ := hop
    split at hop
    ·cases hop
    ·cases hop
     exact Ir (fI ht) H h1 (ar hu (by simp)) hz he
  case h_2 => cases hop
 case h_6 t l x y ht =>
  obtain ⟨c, d, rfl, h1, h2⟩ := hxs.oP
  refine ⟨_, rfl, ?_⟩
  simp only [bind, Option.bind_eq_some_iff, Option.some.injEq] at hop
  obtain ⟨kt, hk, rfl⟩ := hop
  obtain ⟨k, e, hu, hk⟩ := lx hk
  exact Iy (fI ht) H h1 h2 hu hk he
 case h_7 => cases hop; exact ⟨_, rfl, zu (ts := ts) (ty := ty) (mn := false) H hxs he⟩
 case h_8 => cases hop; exact ⟨_, rfl, zu (ts := ts) (ty := ty) (mn := true) H hxs he⟩
 case h_9 x =>
  obtain ⟨c, rfl, h1⟩ := hxs.mr
  cases hop
  exact ⟨_, rfl, EK H h1 he⟩
 case h_10 x =>
  obtain ⟨c, rfl, h1⟩ := hxs.mr
  cases hop
  exact ⟨_, rfl, EF H h1 he⟩
 case h_11 x =>
  obtain ⟨c, rfl, h1⟩ := hxs.mr
  cases hop
  exact ⟨_, rfl, EG H h1 he⟩
 case h_12 t l x y ht =>
  obtain ⟨c, d, rfl, h1, h2⟩ := hxs.oP
  refine ⟨_, rfl, ?_⟩
  split at hop
  case h_1 e hu =>
   split at hop
   ·rename_i hs
    cases hop
    exact EL (fI ht) (ar hu (by simp)) hs H h1 h2 he
   ·cases hop
  case h_2 => cases hop
 case h_13 t l x y ht =>
  obtain ⟨c, d, rfl, h1, h2⟩ := hxs.oP
  refine ⟨_, rfl, ?_⟩
  split at hop
  case h_1 => cases hop; exact EE H h1 h2 he
  case h_2 => cases hop
 case h_14 => cases hop
variable {P : Program} {φ : aU} {h h' : Hp} {w : World} {v : AV} {r : A2} {cx cy : Value} {t : TypeId} {G : Gl} {ρ : Operand → Value}
theorem gP {α : Type} {o : Option α} (h : ¬ o.isNone = true) : ∃ a, o = some a := by cases o with
 | none => exact absurd rfl h
 | some a => exact ⟨a, rfl⟩
def ct (φ : aU) (h : Hp) (w : World) (v : AV) (h' : Hp) (res : Result Next) : Prop :=
 ∃ nx w' φ', res = .ok nx w' ∧ ((∃ cv, nx = .value cv ∧ VR φ' v cv) ∨ (nx = .skip ∧ v = .undef)) ∧ HR φ' h' w' ∧ Step φ h w φ' h' w'
theorem Good.jC {s : Sem Value} (g : Good φ h w v h' (s.run P w)) : ct φ h w v h' ((do pure (.value (← s)) : Sem Next).run P w) := by
 obtain ⟨cv, w', φ', e, h1, h2, h3⟩ := g
 exact ⟨.value cv, w', φ', by simp only [Sem.run_bind, e, Result.andThen_ok, Sem.run_pure], .inl ⟨cv, rfl, h1⟩, h2, h3⟩
theorem vr.jC {s : Sem Unit} (hv : v = .undef) (g : vr φ h w h' (s.run P w)) : ct φ h w v h' ((do s; pure .skip : Sem Next).run P w) := by
 obtain ⟨w', φ', e, h2, h3⟩ := g
 exact ⟨.skip, w', φ', by simp only [Sem.run_bind, e, Result.andThen_ok, Sem.run_pure], .inr ⟨rfl, hv⟩, h2, h3⟩
theorem ct.same {nx : Next} {res : Result Next} (H : HR φ h w) (hn : (∃ cv, nx = .value cv ∧ VR φ v cv)) (e : res = .ok nx w) : ct φ h w v h res := ⟨nx, w, φ, e, .inl hn, H, .refl _ _ _⟩
section
variable {dst : Option Tmp} {type : TypeId} {pos : String} {after : Array Edge} {guard : Option (Nat × Bool)} {names : List String} {op : nV}
variable (hρ : ∀ q x, cO G q = some x → VR φ (ev x r) (ρ q))
include hρ
theorem lv {o : Option Operand} {x : OA} (e : Kl G o = some x) : Im φ r x (o.map ρ) := by
 cases o with
 | none => cases e; trivial
 | some q =>
  simp only [Kl, Option.map_eq_some_iff] at e
  obtain ⟨y, hy, rfl⟩ := e
  exact hρ q y hy
theorem Rr {x : Operand} (hop : cQ P G names ⟨dst, .move x, type, pos, after, guard⟩ = some (.op op)) (H : HR φ h w) (he : op.run r h = .ok v h') : ct φ h w v h' ((execOp ρ ⟨dst, .move x, type, pos, after, guard⟩).run P w) := by
 simp only [cQ, bind, Option.bind_eq_some_iff, Option.some.injEq, AI.op.injEq] at hop
 obtain ⟨a, ha, rfl⟩ := hop
 obtain ⟨rfl, rfl⟩ := RV.aA he
 exact .same H ⟨_, rfl, hρ _ _ ha⟩ rfl
theorem Rt {x : Operand} (hop : cQ P G names ⟨dst, .assign x, type, pos, after, guard⟩ = some (.op op)) (H : HR φ h w) (he : op.run r h = .ok v h') : ct φ h w v h' ((execOp ρ ⟨dst, .assign x, type, pos, after, guard⟩).run P w) := by
 simp only [cQ, bind, Option.bind_eq_some_iff, Option.some.injEq, AI.op.injEq] at hop
 obtain ⟨a, ha, rfl⟩ := hop
 obtain ⟨rfl, rfl⟩ := RV.aA he
 exact .same H ⟨_, rfl, hρ _ _ ha⟩ rfl
theorem KZ {a b c : Operand} (hop : cQ P G names ⟨dst, .pick c a b, type, pos, after, guard⟩ = some (.op op)) (H : HR φ h w) (he : op.run r h = .ok v h') : ct φ h w v h' ((execOp ρ ⟨dst, .pick c a b, type, pos, after, guard⟩).run P w) := by
 simp only [cQ, bind, Option.bind_eq_some_iff, Option.some.injEq, AI.op.injEq] at hop
 obtain ⟨x, hx, y, hy, z, hz, rfl⟩ := hop
 obtain ⟨cv, w', φ', e, h1, h2, h3⟩ := Et (P := P) H (hρ _ _ hx) (hρ _ _ hy) (hρ _ _ hz) he
 refine ⟨.value cv, w', φ', ?_, .inl ⟨cv, rfl, h1⟩, h2, h3⟩
 simp only [Sem.run_bind, Sem.run_pure] at e
 simp only [execOp, Sem.run_bind, Sem.run_pure]
 cases hb : (asBool (ρ c)).run P w with
 | ok t w1 => rw [hb] at e; simp only [Result.andThen_ok] at e ⊢; obtain ⟨rfl, rfl⟩ := Result.ok.inj e; rfl
 | halt x w1 => rw [hb] at e; cases e
theorem GQ {e : TypeId} (hop : cQ P G names ⟨dst, .alloc e, type, pos, after, guard⟩ = some (.op op)) (H : HR φ h w) (he : op.run r h = .ok v h') : ct φ h w v h' ((execOp ρ ⟨dst, .alloc e, type, pos, after, guard⟩).run P w) := by
 simp only [cQ, bind, Option.bind_eq_some_iff, Option.some.injEq, AI.op.injEq] at hop
 obtain ⟨z, hz, rfl⟩ := hop
 exact (Be (r := r) H hz he).jC
theorem Pn {e : TypeId} {x : Operand} (hop : cQ P G names ⟨dst, .box e x, type, pos, after, guard⟩ = some (.op op)) (H : HR φ h w) (he : op.run r h = .ok v h') : ct φ h w v h' ((execOp ρ ⟨dst, .box e x, type, pos, after, guard⟩).run P w) := by
 simp only [cQ, bind, Option.bind_eq_some_iff, Option.some.injEq, AI.op.injEq] at hop
 obtain ⟨z, hz, rfl⟩ := hop
 exact (HM H (hρ _ _ hz) he).jC
theorem pD (ps : Array (Nat × Operand)) : (ps.map fun (i, x) => (i, ρ x)) = (ps.toList.map fun q => (q.1, ρ q.2)).toArray := by
 apply Array.ext'
 simp
theorem GR {t : TypeId} {ps : Array (Nat × Operand)} (hop : cQ P G names ⟨dst, .build t ps, type, pos, after, guard⟩ = some (.op op)) (H : HR φ h w) (he : op.run r h = .ok v h') : ct φ h w v h' ((execOp ρ ⟨dst, .build t ps, type, pos, after, guard⟩).run P w) := by
 simp only [cQ, bind, Option.bind_eq_some_iff] at hop
 obtain ⟨z, hz, hop⟩ := hop
 refine Good.jC ?_
 rw [pD hρ ps]
 split at hop
 ·rename_i fs hu
  split at hop
  ·rename_i hall
   simp only [Option.bind_eq_some_iff, Option.some.injEq, AI.op.injEq] at hop
   obtain ⟨l, hl, rfl⟩ := hop
   obtain ⟨g1, g2, g3⟩ := jL (φ := φ) (r := r) (ρ := ρ) hl (fun q _ a ha => hρ _ _ ha)
   exact td H hz (by simpa using g1) g2 g3 (.inl ⟨fs, ar hu (by simp), fun f hf => Array.all_eq_true_iff_forall_mem.1 hall f hf, rfl⟩) he
  ·cases hop
 ·rename_i n e hu
  split at hop
  ·rename_i hall
   simp only [Option.bind_eq_some_iff, Option.some.injEq, AI.op.injEq] at hop
   obtain ⟨l, hl, rfl⟩ := hop
   obtain ⟨g1, g2, g3⟩ := jL (φ := φ) (r := r) (ρ := ρ) hl (fun q _ a ha => hρ _ _ ha)
   exact td H hz (by simpa using g1) g2 g3 (.inr ⟨n, e, ar hu (by simp), hall, rfl⟩) he
  ·cases hop
 ·cases hop
theorem DX {t : TypeId} {n : Nat} {ps : Array (Nat × Operand)} (hop : cQ P G names ⟨dst, .buildSlice t n ps, type, pos, after, guard⟩ = some (.op op)) (H : HR φ h w) (he : op.run r h = .ok v h') : ct φ h w v h' ((execOp ρ ⟨dst, .buildSlice t n ps, type, pos, after, guard⟩).run P w) := by
 simp only [cQ] at hop
 split at hop
 ·rename_i e hu
  simp only [bind, Option.bind_eq_some_iff] at hop
  obtain ⟨z, hz, hop⟩ := hop
  split at hop
  ·simp at hop
  ·rename_i hs
   simp only [not_or, Decidable.not_not] at hs
   simp only [bind, pure, Option.bind_some, Option.bind_eq_some_iff, Option.some.injEq, AI.op.injEq] at hop
   obtain ⟨l, hl, rfl⟩ := hop
   refine Good.jC ?_
   rw [pD hρ ps]
   obtain ⟨g1, g2, g3⟩ := jL (φ := φ) (r := r) (ρ := ρ) hl (fun q _ a ha => hρ _ _ ha)
   exact zr H (ar hu (by simp)) hz hs.2 hs.1 (by simpa using g1) g2 g3 he
 ·cases hop
theorem La {t : TypeId} {x : Operand} (hop : cQ P G names ⟨dst, .load t x, type, pos, after, guard⟩ = some (.op op)) (H : HR φ h w) (he : op.run r h = .ok v h') : ct φ h w v h' ((execOp ρ ⟨dst, .load t x, type, pos, after, guard⟩).run P w) := by
 simp only [cQ] at hop
 split at hop
 ·simp at hop
 ·rename_i hu
  obtain ⟨d, hd⟩ := gP hu
  split at hop
  ·rename_i ha
   simp only [bind, pure, Option.bind_some, Option.bind_eq_some_iff, Option.some.injEq, AI.op.injEq] at hop
   obtain ⟨a, hx, rfl⟩ := hop
   exact (HL H (hρ _ _ hx) hd ha rfl he).jC
  ·rename_i ha
   simp only [bind, pure, Option.bind_some, Option.bind_eq_some_iff, Option.some.injEq, AI.op.injEq] at hop
   obtain ⟨a, hx, rfl⟩ := hop
   exact (HJ H (hρ _ _ hx) hd (by simpa using ha) he).jC
theorem GS {t : TypeId} {x y : Operand} (hop : cQ P G names ⟨dst, .store t x y, type, pos, after, guard⟩ = some (.op op)) (H : HR φ h w) (he : op.run r h = .ok v h') : ct φ h w v h' ((execOp ρ ⟨dst, .store t x y, type, pos, after, guard⟩).run P w) := by
 simp only [cQ] at hop
 split at hop
 ·simp at hop
 ·rename_i hu
  obtain ⟨i, hi⟩ := gP hu
  split at hop
  ·simp only [bind, pure, Option.bind_some, Option.bind_eq_some_iff, Option.some.injEq, AI.op.injEq] at hop
   obtain ⟨a, hx, b, hy, rfl⟩ := hop
   obtain ⟨g1, g2⟩ := HN H (hρ _ _ hx) (hρ _ _ hy) hi rfl he
   exact g2.jC g1
  ·split at hop
   ·rename_i hs
    simp only [bind, pure, Option.bind_some, Option.bind_eq_some_iff, Option.some.injEq, AI.op.injEq] at hop
    obtain ⟨a, hx, b, hy, rfl⟩ := hop
    obtain ⟨g1, g2⟩ := HK H (hρ _ _ hx) (hρ _ _ hy) hi (by rw [← de hi]; exact hs) he
    exact g2.jC g1
   ·simp at hop
theorem Lc {x : Operand} (hop : cQ P G names ⟨dst, .nilCheck x, type, pos, after, guard⟩ = some (.op op)) (H : HR φ h w) (he : op.run r h = .ok v h') : ct φ h w v h' ((execOp ρ ⟨dst, .nilCheck x, type, pos, after, guard⟩).run P w) := by
 simp only [cQ, bind, Option.bind_eq_some_iff, Option.some.injEq, AI.op.injEq] at hop
 obtain ⟨a, ha, rfl⟩ := hop
 have hv := hρ _ _ ha
 obtain ⟨g1, g2, g3, g4, g5⟩ := Eu H hv he
 subst g2
 rw [g1]
 refine .same H ⟨_, rfl, hv⟩ ?_
 have hm : ∀ n f c, ρ x ≠ .func (.method n) f c := by
  intro n f c e
  rw [e] at hv
  change (OP.rec (qQ (ev a r) h') (fun i o => .ok (.ptr i o) h') (ev a r).kV : RV) = _ at he
  generalize ev a r = z at hv he
  cases hv
  cases he
 simp only [execOp]
 cases hr : ρ x with
 | pointer p => cases p with
  | none => exact absurd hr g3
  | some p => rfl
 | nilIface => exact absurd hr g4
 | nilFunc => exact absurd hr g5
 | func fn f c => cases fn <;> first | exact absurd hr (hm _ _ _) | rfl
 | _ => rfl
theorem Po {o : BinOp} {t u : TypeId} {x y : Operand} (hc : ∀ c, ρ (.const c) = c) (hop : cQ P G names ⟨dst, .binOp o t x y u, type, pos, after, guard⟩ = some (.op op)) (H : HR φ h w) (he : op.run r h = .ok v h') : ct φ h w v h' ((execOp ρ ⟨dst, .binOp o t x y u, type, pos, after, guard⟩).run P w) := by
 simp only [cQ] at hop
 split at hop
 ·rename_i k hk
  simp only [bind, Option.bind_eq_some_iff, Option.some.injEq, AI.op.injEq] at hop
  obtain ⟨a, hx, b, hy, rfl⟩ := hop
  exact (IL hc hk H (hρ _ _ hx) (hρ _ _ hy) he).jC
 ·split at hop
  ·rename_i k hk
   simp only [bind, Option.bind_eq_some_iff, Option.some.injEq, AI.op.injEq] at hop
   obtain ⟨a, hx, b, hy, rfl⟩ := hop
   exact (oO (k := k) false hc hk H (hρ _ _ hx) he).jC
  ·rename_i k hk
   simp only [bind, Option.bind_eq_some_iff, Option.some.injEq, AI.op.injEq] at hop
   obtain ⟨a, hx, b, hy, rfl⟩ := hop
   exact (oO (k := k) true hc hk H (hρ _ _ hx) he).jC
  ·cases hop
theorem Ru {o : UnOp} {t : TypeId} {x : Operand} (hop : cQ P G names ⟨dst, .unOp o t x, type, pos, after, guard⟩ = some (.op op)) (H : HR φ h w) (he : op.run r h = .ok v h') : ct φ h w v h' ((execOp ρ ⟨dst, .unOp o t x, type, pos, after, guard⟩).run P w) := by
 cases o <;> simp only [cQ, bind, Option.bind_eq_some_iff, Option.some.injEq, AI.op.injEq] at hop
 case plus => cases hop
 all_goals obtain ⟨a, hx, rfl⟩ := hop
 all_goals first | exact (Ih H (hρ _ _ hx) he).jC | exact (Ig H (hρ _ _ hx) he).jC | exact (Ii H (hρ _ _ hx) he).jC
theorem Ld {s d : TypeId} {x : Operand} (hop : cQ P G names ⟨dst, .convert s d x, type, pos, after, guard⟩ = some (.op op)) (H : HR φ h w) (he : op.run r h = .ok v h') : ct φ h w v h' ((execOp ρ ⟨dst, .convert s d x, type, pos, after, guard⟩).run P w) := by
 simp only [cQ, bind, Option.bind_eq_some_iff, Option.some.injEq, AI.op.injEq] at hop
 obtain ⟨k, hk, a, ha, rfl⟩ := hop
 exact (EI hk H (hρ _ _ ha) he).jC
end
end Go.Am
