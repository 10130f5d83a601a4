/- Runs of the abstract machine at arguments that are not known. Conditions: the table of functions is the program's (Env). -/
import Derived.Test.YtdknlglpmcchlaaGreatDoorS2
import Derived.Lib.MakeNoZero
import Derived.Laws.Externs
import Derived.WalkKit
import Derived.ProofKit
import Derived.OpenShut
import Derived.ChangeStays
import Derived.ChangeArms
import Derived.Deep.DeepHandedRow
import Derived.Stop.Joined
set_option linter.all false
namespace Go.Am
variable {P : Program} {φ : aN} {h h' : Hp} {w : World} {v : AV} {r : A2} {cx cy : Value} {G : Gl} {f : Nat} {fn : Func}
theorem AJ {args : List AV} {k : AV → RV} (hs : (sD args k).lH.Safe) : ∃ x, args = [x] ∧ sD args k = k x := by
 cases args with
 | nil => exact (RT.Safe.err hs).elim
 | cons a t => cases t with
  | nil => exact ⟨a, rfl, rfl⟩
  | cons b t => exact (RT.Safe.err hs).elim
theorem FY (hf : P.funcs[f]? = some fn) (hname : (fn.name == "runtime.NumGoroutine") = false) (hb : fn.body.isNone = true) (hn : Extern.findNext fn = none) (he : Extern.find fn = some Extern.AbiNoEscape.same) : Cm P G .FZ f := by
 intro φ h w args vals hg H hv hs
 obtain ⟨x, rfl, e⟩ := AJ (k := fun x => .ok x h) hs
 cases hv with
 | cons a c as cs h1 h2 =>
  cases h2
  refine ⟨c, w, ?_, x, h, c, φ, .ok _ _, rfl, h1, H, .refl _ _ _⟩
  rw [run_callFunc_extern hf hname hb hn he]
  rfl
open Go.ChangeShapes Go.WideShapes Go.ChangeAt Go.RowKit
theorem KH {x : RT} (e : eQ x = true) : x.Safe ∧ ∀ v h, x.aW (.ok v h) → v = .bool true := by
 have go : ∀ x : RT, eQ x = true → ∀ y, x.aW y → ∃ h, y = .ok (.bool true) h := by
  intro x
  induction x with
  | ok v h =>
   intro e y hy
   cases hy
   have e : AV.bB v (fun b => b) false = true := e
   cases v with
   | bool c =>
    have e3 : c = true := e
    rw [e3]
    exact ⟨_, rfl⟩
   | _ => cases e
  | err n => intro e; cases e
  | ch n k ih =>
   intro e y hy
   have e : KI n (fun i => eQ (k i)) = true := e
   have hall : ∀ m, KI m (fun i => eQ (k i)) = true → ∀ i, i < m → eQ (k i) = true := by
    intro m
    induction m with
    | zero => intro _ i hi; omega
    | succ m im =>
     intro e i hi
     have e : (@Bool.rec (fun _ => Bool) false (KI m (fun i => eQ (k i))) (eQ (k m))) = true := e
     cases hm : eQ (k m) with
     | false => rw [hm] at e; cases e
     | true =>
      rw [hm] at e
      rcases Nat.lt_or_ge i m with h | h
      ·exact im e i h
      ·have : i = m := by omega
       subst this; exact hm
   cases hy with
   | ch _ _ c _ hc hl => exact ih c (hall n e c hc) y hl
 refine ⟨fun n hn => ?_, fun v h hl => ?_⟩
 ·obtain ⟨h, e2⟩ := go x e _ hn
  cases e2
 ·obtain ⟨h2, e2⟩ := go x e _ hl
  cases e2
  rfl
theorem KJ {W W' : World} {may : MemPlace → Prop} (hb : ∀ b, b < W.heap.size → W'.heap[b]? = W.heap[b]?) (ho : W'.os = W.os) (hu : W'.output = W.output) : W.keptBut W' may := by
 refine ⟨ho, hu, fun i hi => ?_⟩
 rw [hb i hi]
 cases W.heap[i]? with
 | none => rfl
 | some o => cases o <;> first | exact ⟨rfl, rfl, rfl, fun _ _ => rfl⟩ | exact .inr ⟨rfl, rfl⟩ | rfl
noncomputable section
def jZ (w : World) (v : Value) : AV := match v with
 | .bool b => .bool b
 | .int k n => .int k n
 | .string s => .str (s.data.toList.map UInt8.toNat)
 | .float k n => .pX k n
 | .complex k a b => .gU k a b
 | .pointer none => .cL
 | .pointer (some ⟨b, o, none⟩) => if b < w.heap.size then .ptr (.eI b o) 0 else .undef
 | .slice none 0 0 => .ai
 | .slice (some ⟨b, o, none⟩) n c => if b < w.heap.size then .slice (.eI b o) 0 n c else if n = 0 ∧ c = 0 then .slice (.eI b o) 0 0 0 else .undef
 | .slice (some ⟨b, o, some _⟩) 0 0 => .slice (.eI b o) 0 0 0
 | _ => .undef
def sE (rc : Array Value) (o : Nat) : Nat := ((rc.toList.drop o).takeWhile Value.oneCell').length
def sF (w : World) (rc : Array Value) (i : Nat) : AV := match rc[i]? with
 | some v => jZ w v
 | none => .undef
def Ec (w : World) (b o : Nat) : Obj := match w.heap[b]? with
 | some (.cells rc el _) => if o ≤ rc.size then .cells el (sE rc o) false .ro (.kf (sE rc o) fun k => sF w rc (o + k)) else .dead
 | some _ => .dead
 | none => .none
def lI (w : World) (b o : Nat) : Nat := match w.heap[b]? with
 | some (.cells rc _ _) => rc.size - o
 | _ => 0
def oE (p : P4) : Nat := match p with
 | .mk a b c d => a.nat * 4096 + b.nat * 256 + c.nat * 16 + d.nat
 | .eI _ _ => 0
def wK (n : Nat) (w : World) : aN := fun i => match i with
 | .eI b o => if b < w.heap.size then some ⟨b, o, lI w b o⟩ else none
 | .mk a b c d => if oE (.mk a b c d) < n then some ⟨oE (.mk a b c d), 0, lI w (oE (.mk a b c d)) 0⟩ else none
def Kz (f : Nat → Nat → Obj) (n : Nat) : T4 := Nat.rec (.mk .nil f) (fun j t => de (P4.of j) .dead t) n
def AD (n : Nat) (w : World) : Hp := .mk (Kz (Ec w) n) (.eI w.heap.size 0)
theorem wL {n : Nat} (h : n < 65536) : oE (P4.of n) = n := by
 show (dz (n / 4096)).nat * 4096 + (dz (n / 256 % 16)).nat * 256 + (dz (n / 16 % 16)).nat * 16 + (dz (n % 16)).nat = n
 rw [fh (by omega), fh (by omega), fh (by omega), fh (by omega)]
 omega
theorem AK (a b c d : H) : P4.of (oE (.mk a b c d)) = .mk a b c d := by
 have ha := a.fi
 have hb := b.fi
 have hc := c.fi
 have hd := d.fi
 show P4.mk (dz ((a.nat * 4096 + b.nat * 256 + c.nat * 16 + d.nat) / 4096)) (dz ((a.nat * 4096 + b.nat * 256 + c.nat * 16 + d.nat) / 256 % 16)) (dz ((a.nat * 4096 + b.nat * 256 + c.nat * 16 + d.nat) / 16 % 16)) (dz ((a.nat * 4096 + b.nat * 256 + c.nat * 16 + d.nat) % 16)) = _
 rw [show (a.nat * 4096 + b.nat * 256 + c.nat * 16 + d.nat) / 4096 = a.nat by omega, show (a.nat * 4096 + b.nat * 256 + c.nat * 16 + d.nat) / 256 % 16 = b.nat by omega,
  show (a.nat * 4096 + b.nat * 256 + c.nat * 16 + d.nat) / 16 % 16 = c.nat by omega, show (a.nat * 4096 + b.nat * 256 + c.nat * 16 + d.nat) % 16 = d.nat by omega,
  mF, mF, mF, mF]
theorem jo (f : Nat → Nat → Obj) (b o : Nat) : ∀ n, cD (.eI b o) (Kz f n) = f b o
 | 0 => rfl
 | n + 1 => by
  have e : cD (.eI b o) (Kz f (n + 1)) = if P4.eI b o = P4.of n then .dead else cD (.eI b o) (Kz f n) := df (.eI b o) (P4.of n) .dead (Kz f n)
  rw [e, if_neg (by intro e; cases e), jo f b o n]
theorem mG (f : Nat → Nat → Obj) (a b c d : H) : ∀ n, n ≤ 65536 → cD (.mk a b c d) (Kz f n) = if oE (.mk a b c d) < n then .dead else .none
 | 0, _ => by
  rw [if_neg (by omega)]
  show O1.get d (O2.get c (O3.get b (O4.get a .nil))) = _
  rw [O4.get_nil, O3.get_nil, O2.get_nil, O1.get_nil]
 | m + 1, hm => by
  have e : cD (.mk a b c d) (Kz f (m + 1)) = if P4.mk a b c d = P4.of m then .dead else cD (.mk a b c d) (Kz f m) := df (.mk a b c d) (P4.of m) .dead (Kz f m)
  rw [e, mG f a b c d m (by omega)]
  by_cases h : P4.mk a b c d = P4.of m
  ·rw [if_pos h, h, wL (by omega), if_pos (by omega)]
  ·rw [if_neg h]
   have h1 : oE (.mk a b c d) ≠ m := fun e => h (by rw [← e, AK])
   by_cases h2 : oE (.mk a b c d) < m
   ·rw [if_pos h2, if_pos (by omega)]
   ·rw [if_neg h2, if_neg (by omega)]
theorem oJ (n : Nat) (w : World) (b o : Nat) : ag (.eI b o) (AD n w) = Ec w b o := jo _ b o n
theorem ye {n : Nat} {w : World} {i : P4} (hn : n ≤ 65536) (h : live (ag i (AD n w))) : ∃ b o rc el fz, i = .eI b o ∧ w.heap[b]? = some (.cells rc el fz) ∧ o ≤ rc.size ∧
  ag i (AD n w) = .cells el (sE rc o) false .ro (.kf (sE rc o) fun k => sF w rc (o + k)) := by
 cases i with
 | mk a b c d =>
  have e : ag (.mk a b c d) (AD n w) = if oE (.mk a b c d) < n then .dead else .none := mG _ a b c d n hn
  rw [e] at h
  split at h
  ·exact absurd rfl h.2
  ·exact absurd rfl h.1
 | eI b o =>
  rw [oJ] at h ⊢
  unfold Ec at h ⊢
  split at h
  ·rename_i rc el fz hb
   split at h
   ·rename_i ho
    exact ⟨b, o, rc, el, fz, rfl, hb, ho, if_pos ho⟩
   ·exact absurd rfl h.2
  ·exact absurd rfl h.2
  ·exact absurd rfl h.1
theorem AL {n : Nat} {w : World} {i : P4} (hn : n ≤ 65536) : ¬ wl (ag i (AD n w)) := by
 intro h
 obtain ⟨_, _, _, _, _, _, _, _, e⟩ := ye hn h.1
 rw [e] at h
 cases h.2
theorem Cn (n : Nat) (w : World) (v : Value) : VR (wK n w) (jZ w v) v := by
 unfold jZ
 split
 ·exact .bool _
 ·exact .int _ _
 ·exact .str _ _ rfl
 ·exact .pX _ _
 ·exact .gU _ _ _
 ·exact .cL
 ·rename_i b o
  split
  ·rename_i hb
   have h : wK n w (.eI b o) = some ⟨b, o, lI w b o⟩ := if_pos hb
   have := VR.ptr (φ := wK n w) _ 0 _ h
   simpa [Place.addr] using this
  ·exact .undef _
 ·exact .ai
 ·rename_i b o k c
  split
  ·rename_i hb
   have h : wK n w (.eI b o) = some ⟨b, o, lI w b o⟩ := if_pos hb
   have := VR.slice (φ := wK n w) _ 0 k c _ h
   simpa [Place.addr] using this
  ·split
   ·rename_i h0
    obtain ⟨rfl, rfl⟩ := h0
    exact .gK _ _ _
   ·exact .undef _
 ·exact .gK _ _ _
 ·exact .undef _
theorem oK {p : Value → Bool} : ∀ (l : List Value) (k : Nat), k < (l.takeWhile p).length → ∃ v, l[k]? = some v ∧ p v = true
 | [], k, h => by simp at h
 | a :: l, k, h => by
  rw [List.takeWhile_cons] at h
  split at h
  ·rename_i ha
   cases k with
   | zero => exact ⟨a, rfl, ha⟩
   | succ k =>
    obtain ⟨v, h1, h2⟩ := oK l k (by simpa using h)
    exact ⟨v, by simpa using h1, h2⟩
  ·simp at h
theorem oL {p : Value → Bool} : ∀ (l : List Value) (m : Nat), (∀ k, k < m → ∃ v, l[k]? = some v ∧ p v = true) → m ≤ (l.takeWhile p).length
 | _, 0, _ => Nat.zero_le _
 | [], m + 1, h => by
  obtain ⟨v, h1, _⟩ := h 0 (by omega)
  simp at h1
 | a :: l, m + 1, h => by
  obtain ⟨v, h1, h2⟩ := h 0 (by omega)
  simp at h1
  subst h1
  rw [List.takeWhile_cons, if_pos h2]
  have := oL (p := p) l m fun k hk => by
   obtain ⟨v, g1, g2⟩ := h (k + 1) (by omega)
   exact ⟨v, by simpa using g1, g2⟩
  simpa using this
theorem KL {rc : Array Value} {o k : Nat} (h : k < sE rc o) : ∃ v, rc[o + k]? = some v ∧ v.oneCell' = true := by
 obtain ⟨v, h1, h2⟩ := oK _ _ h
 rw [List.getElem?_drop] at h1
 exact ⟨v, by simpa using h1, h2⟩
theorem KM {rc : Array Value} {o m : Nat} (h : ∀ k, k < m → ∃ v, rc[o + k]? = some v ∧ v.oneCell' = true) : m ≤ sE rc o := by
 refine oL _ _ fun k hk => ?_
 obtain ⟨v, h1, h2⟩ := h k hk
 exact ⟨v, by rw [List.getElem?_drop]; simpa using h1, h2⟩
theorem KN {rc : Array Value} {o : Nat} : sE rc o ≤ rc.size - o := by
 unfold sE
 refine Nat.le_trans (List.takeWhile_sublist _).length_le ?_
 simp
theorem Un (n : Nat) (w : World) (hn : n ≤ 65536) (hs : n ≤ w.heap.size) : HR (wK n w) (AD n w) w where
 obj i hl := by
  obtain ⟨b, o, rc, el, fz, rfl, hb, ho, e⟩ := ye hn hl
  have hbs : b < w.heap.size := (Array.getElem?_eq_some_iff.1 hb).1
  have hr : lI w b o = rc.size - o := by unfold lI; rw [hb]
  refine ⟨⟨b, o, lI w b o⟩, if_pos hbs, ?_⟩
  rw [e]
  refine ⟨rc, fz, hb, by simp only [hr]; omega, by simp only [hr]; exact KN, (fun h => by cases h), Nat.le_refl _, fun k hk => ?_, trivial⟩
  obtain ⟨v, h1, h2⟩ := KL hk
  refine ⟨v, h1, ?_, h2⟩
  show VR _ (sF w rc (o + k)) v
  unfold sF
  rw [h1]
  exact Cn n w v
 inj i j p q hi hj hw := hw.elim (fun h => absurd h (AL hn)) (fun h => absurd h (AL hn))
 fresh i hi := by
  cases i with
  | mk a b c d =>
   have e : ag (.mk a b c d) (AD n w) = if oE (.mk a b c d) < n then .dead else .none := mG _ a b c d n hn
   rw [e] at hi
   split at hi
   ·cases hi
   ·rename_i h
    exact if_neg h
  | eI b o =>
   rw [oJ] at hi
   unfold Ec at hi
   split at hi
   ·split at hi <;> cases hi
   ·cases hi
   ·rename_i hb
    have : ¬ b < w.heap.size := by
     have := Array.getElem?_eq_none_iff.1 hb
     omega
    exact if_neg this
 bound i p hp := by
  cases i with
  | mk a b c d =>
   have hp : (if oE (.mk a b c d) < n then some (Place.mk (oE (.mk a b c d)) 0 (lI w (oE (.mk a b c d)) 0)) else none) = some p := hp
   split at hp
   ·cases hp
    show oE (.mk a b c d) < w.heap.size
    omega
   ·cases hp
  | eI b o =>
   have hp : (if b < w.heap.size then some (Place.mk b o (lI w b o)) else none) = some p := hp
   split at hp
   ·cases hp; assumption
   ·cases hp
theorem Rb {n : Nat} {w : World} (hn : n ≤ 65536) : nc ⟨n, [], none⟩ (wK n w) := by
 refine ⟨fun g hg => ⟨lI w g 0, ?_⟩, fun x hx => by cases hx⟩
 have hg : g < n := hg
 have e : wK n w (P4.of g) = if oE (P4.of g) < n then some ⟨oE (P4.of g), 0, lI w (oE (P4.of g)) 0⟩ else none := rfl
 rw [e, wL (by omega), if_pos hg]
theorem KP {P : Program} {names : List String} {p : Pg} {n : Nat} (E : Env P ⟨n, [], none⟩ names p) (m f : Nat) (vs : List Value) (w : World) (hn : n ≤ 65536) (hs : n ≤ w.heap.size) (h' : Hp)
  (e : aw p (exec p m) f (vs.map (jZ w)) (AD n w) = .ok (.bool true) h') (hx : Co (ar f p.fs) = false := by rfl) :
  Calls P f vs.toArray w fun e w' => e = .returned (.bool true) ∧ w.heap.size ≤ w'.heap.size ∧ (∀ b, b < w.heap.size → w'.heap[b]? = w.heap[b]?) ∧ w'.os = w.os ∧ w'.output = w.output := by
 have hv : cH (wK n w) (vs.map (jZ w)) vs := cH.AM (by simp) fun k h1 h2 => by
  rw [List.getElem_map]
  exact Cn n w _
 refine (Cp E m f (vs.map (jZ w)) vs (Rb hn) (Un n w hn hs) hv (by rw [e]; intro q hq; cases hq) (Cq hx)).mono ?_
 rintro e' w' ⟨v, h2, cv, φ', hl, rfl, hvv, _, T⟩
 rw [e] at hl
 cases hl
 cases hvv
 exact ⟨rfl, T.keeps.size, fun b hb => T.keeps.rest b hb fun i p hl => absurd hl (AL hn), T.keeps.os, T.keeps.output⟩
def Cs (h : Hp) (p : P4) (o : Nat) (l : List AV) : Prop := ∃ el n ex fl c, ag p h = .cells el n ex fl c ∧ o + l.length ≤ n ∧ ∀ k (hk : k < l.length), eV (o + k) c = l[k]
theorem sG {w : World} {a : Addr} {v : Value} (h : w.cell? a = some v) : a.spot = none ∧ ∃ rc el fz, w.heap[a.block]? = some (.cells rc el fz) ∧ rc[a.off]? = some v := by
 unfold World.cell? at h
 split at h
 ·rename_i c el fz hb
  split at h
  ·cases h
  ·rename_i hsp
   exact ⟨by cases hh : a.spot with | none => rfl | some _ => rw [hh] at hsp; simp at hsp, c, el, fz, hb, h⟩
 ·cases h
theorem Rf {w : World} {n : Nat} {b o m : Nat} {vs : List Value} (hv : ∀ k (hk : k < vs.length), w.cell? ⟨b, o + m + k, none⟩ = some vs[k]) (h1 : ∀ v, v ∈ vs → v.oneCell' = true)
  (hpre : ∀ k, k < m → ∃ v, w.cell? ⟨b, o + k, none⟩ = some v ∧ v.oneCell' = true) (h0 : vs ≠ []) : Cs (AD n w) (.eI b o) m (vs.map (jZ w)) := by
 have hpos : 0 < vs.length := by cases vs with | nil => exact absurd rfl h0 | cons _ _ => simp
 obtain ⟨_, rc, el, fz, hb, g0⟩ := sG (hv 0 hpos)
 have hat : ∀ k v, w.cell? ⟨b, k, none⟩ = some v → rc[k]? = some v := fun k v h => by
  obtain ⟨_, rc2, el2, fz2, hb2, g⟩ := sG h
  have hb2 : w.heap[b]? = some (.cells rc2 el2 fz2) := hb2
  rw [hb] at hb2
  cases hb2
  exact g
 have hlt : o + m < rc.size := by
  have := (Array.getElem?_eq_some_iff.1 g0).1
  simpa using this
 have hrun : m + vs.length ≤ sE rc o := KM fun k hk => by
  rcases Nat.lt_or_ge k m with g | g
  ·obtain ⟨v, e1, e2⟩ := hpre k g
   exact ⟨v, hat _ _ e1, e2⟩
  ·refine ⟨vs[k - m]'(by omega), ?_, h1 _ (List.getElem_mem _)⟩
   have := hat _ _ (hv (k - m) (by omega))
   rwa [show o + m + (k - m) = o + k by omega] at this
 refine ⟨el, sE rc o, false, .ro, .kf (sE rc o) fun k => sF w rc (o + k), ?_, by simpa using hrun, fun k hk => ?_⟩
 ·rw [oJ]
  unfold Ec
  rw [hb]
  simp only
  rw [if_pos (by omega)]
 ·have hk' : k < vs.length := by simpa using hk
  show sF w rc (o + (m + k)) = _
  unfold sF
  rw [← Nat.add_assoc, hat _ _ (hv k hk'), List.getElem_map]
end
open Go.ChangeShapes
noncomputable section
section
variable {P : Program}
def gu (P : Program) : List Field → Nat → Bool
 | [], _ => true
 | f :: fs, o => (f.offset == o) && gu P fs (o + P.cellsOf f.type)
def fU (P : Program) : List Field → Nat
 | [] => 0
 | f :: fs => P.cellsOf f.type + fU P fs
def wM (P : Program) (l : List TypeId) (t : TypeId) : Bool := match P.underlying t with
 | some .bool => P.cellsOf t == 1
 | some (.int _) => P.cellsOf t == 1
 | some .string => P.cellsOf t == 1
 | some (.slice e) => (P.cellsOf t == 1) && (l.contains e && Nat.blt 0 (P.cellsOf e))
 | some (.struct fs) => (fs.toList.all fun f => l.contains f.type) && (P.cellsOf t == fU P fs.toList) && gu P fs.toList 0
 | _ => false
def sH (P : Program) (l : List TypeId) : Bool := l.all (wM P l)
theorem oM : ∀ fs : List Field, fU P fs = (fs.map fun f => P.cellsOf f.type).sum
 | [] => rfl
 | f :: fs => by simp [fU, oM fs]
theorem qW : ∀ (fs : List Field) (o : Nat), gu P fs o = true → ∀ (j : Nat) f, fs[j]? = some f → f.offset = o + ((fs.take j).map fun f => P.cellsOf f.type).sum
 | [], _, _, j, f, h => by simp at h
 | g :: fs, o, e, 0, f, h => by
  simp only [gu, Bool.and_eq_true, beq_iff_eq] at e
  simp at h
  subst h
  simpa using e.1
 | g :: fs, o, e, j + 1, f, h => by
  simp only [gu, Bool.and_eq_true, beq_iff_eq] at e
  have := qW fs _ e.2 j f (by simpa using h)
  rw [this]
  simp
  omega
theorem nP {l : List TypeId} (h : sH P l = true) {t : TypeId} (ht : t ∈ l) : wM P l t = true := List.all_eq_true.1 h t ht
theorem KQ {l : List TypeId} (h : sH P l = true) : Kids P (· ∈ l) where
 pointer {t e} ht hu := by
  have := nP h ht
  simp [wM, hu] at this
 slice {t e} ht hu := by
  have := nP h ht
  simp only [wM, hu, Bool.and_eq_true] at this
  simpa using this.2.1
 array {t e n} ht hu := by
  have := nP h ht
  simp [wM, hu] at this
 struct {t fs} ht hu := by
  have := nP h ht
  simp only [wM, hu, Bool.and_eq_true, List.all_eq_true, beq_iff_eq] at this
  obtain ⟨⟨h1, h2⟩, h3⟩ := this
  refine ⟨fun f hf => by simpa using h1 f hf, by rw [h2, oM], fun j f hf => ?_⟩
  have := qW _ _ h3 j f hf
  omega
 map {t k e} ht hu := by
  have := nP h ht
  simp [wM, hu] at this
theorem yf {l : List TypeId} (h : sH P l = true) : ∀ {t e : TypeId}, t ∈ l → P.underlying t = some (.slice e) → 0 < P.cellsOf e := by
 intro t e ht hu
 have := nP h ht
 simp only [wM, hu, Bool.and_eq_true] at this
 have h2 : Nat.ble 1 (P.cellsOf e) = true := this.2.2
 exact Nat.le_of_ble_eq_true h2
theorem oO {H : Type} {enc : TypeId × Value → H} {W W' : World} {l : List TypeId} (hk : sH P l = true) (hb : ∀ b, b < W.heap.size → W'.heap[b]? = W.heap[b]?) {sp : Nat → Bool} : ∀ {ts : List TypeId} {vs : List Value} {ds : List (DataW H)} {ps : List MemPlace},
  (∀ t, t ∈ ts → t ∈ l) → DataW.TrodAll enc P W 0 (fun _ => true) true ts vs ds ps → (∀ p, p ∈ ps → sp p.block = true) → DataW.TrodAll enc P W' 0 sp true ts vs ds ps
 | [], [], [], _, _, h, _ => h
 | t :: ts, v :: vs, d :: ds, _, hT, ⟨p, q, ⟨n, h1⟩, h2, rfl⟩, hs => by
  refine ⟨p, q, ⟨n, ?_⟩, oO hk hb (fun t ht => hT t (by simp [ht])) h2 (fun x hx => hs x (by simp [hx])), rfl⟩
  refine DataW.trod_stays (KQ hk) (yf hk) (fun h => by cases h) (hT t (by simp)) h1 (fun x hx => ?_) (fun x hx => hs x (by simp [hx]))
  have hlt := DataW.trod_lt n t _ _ h1 x hx
  cases x with
  | cell b off =>
   show W'.cell? ⟨b, off, none⟩ = W.cell? ⟨b, off, none⟩
   unfold World.cell?
   rw [hb b hlt]
  | map b => exact hb b hlt
 | [], _ :: _, _, _, _, h, _ => by cases h
 | [], [], _ :: _, _, _, h, _ => by cases h
 | _ :: _, [], _, _, _, h, _ => by cases h
 | _ :: _, _ :: _, [], _, _, h, _ => by cases h
theorem Ed {H : Type} {enc : TypeId × Value → H} {f : Func} {s : ChangeSpec} {apart fresh handsOn again : Bool} {W W' : World} {v : Value} {args : Array Value} {ds : List (DataW H)} {before : List MemPlace} {l : List TypeId}
  (hW : DataW.Whole enc P f.params.toList s.vars apart W args.toList ds [] before) (hvs : s.vars = [])
  (hres : ∀ (b : Nat) (sp : Nat → Bool) (hd : Bool), DataW.TrodAll enc P W' b sp hd f.resultTypes.toList (v.resultList f.resultTypes.size) (s.fn H ds).results [])
  (ha : (s.fn H ds).args = ds) (hg : (s.fn H ds).vars = []) (hk : sH P l = true) (hT : ∀ t, t ∈ f.params.toList → t ∈ l)
  (hb : ∀ b, b < W.heap.size → W'.heap[b]? = W.heap[b]?) (ho : W'.os = W.os) (hu : W'.output = W.output)
  (hok : ∀ (j : Nat) (t : TypeId) (r : Value), f.resultTypes[j]? = some t → (v.resultList f.resultTypes.size)[j]? = some r → Value.okWide P W' .any 0 t r) :
  s.post enc P f apart fresh handsOn again W args v W' := by
 have hlt := fun p hp => hW.lt p hp
 have hW0 := hW
 obtain ⟨p, q, hA, hV, rfl, hz, hn⟩ := hW0
 have hq : q = [] := by
  rw [hvs] at hV
  exact hV
 subst hq
 have hre : ∀ sp : Nat → Bool, (∀ x, x ∈ p → sp x.block = true) → DataW.TrodAll enc P W' 0 sp true f.params.toList args.toList ds p := fun sp hs => oO hk hb hT hA hs
 have hvars : ∀ sp : Nat → Bool, DataW.TrodVars enc P W' sp s.vars ([] : List (DataW H)) [] := fun sp => by rw [hvs]; rfl
 refine ⟨ds, [], p ++ [], [], p, [], hW, by rw [List.append_nil]; exact hres _ _ _, by rw [List.append_nil, ha]; exact hre _ (fun x hx => by simpa using hlt x (by simp [hx])), by rw [List.append_nil, hg]; exact hvars _,
  KJ hb ho hu, fun _ => ?_⟩
 refine ⟨hok, (s.fn H ds).results ++ ds, [], ([] ++ p) ++ [], ⟨[] ++ p, [], trodAll_append (hre _ (fun _ _ => rfl)) (hres _ _ _), hvars _, rfl, ?_, ?_⟩, ?_⟩
 ·intro b off hp
  have hp' : MemPlace.cell b off ∈ p ++ [] := by simpa using hp
  have := hz b off hp'
  have hl := hlt _ hp'
  unfold World.frozen? at this ⊢
  rw [hb b hl]
  exact this
 ·intro h
  have := hn h
  simpa using this
 ·intro x hx _
  simpa using hx
def fV {H : Type} (P : Program) (h : Hp) (rec : TypeId → List AV → DataW H → Prop) (t : TypeId) (cs : List AV) (d : DataW H) : Prop := match P.underlying t with
 | some .bool => ∃ b, cs = [.bool b] ∧ d = .lit (.bool b)
 | some (.int k) => ∃ z, cs = [.int k z] ∧ d = .lit (.int k z) ∧ (Lit.int k z).wf = true
 | some .string => ∃ s : List UInt8, cs = [.str (s.map UInt8.toNat)] ∧ d = .lit (.string s)
 | some (.slice e) => (cs = [.ai] ∧ d = .nil) ∨ ∃ (p : P4) (cap : Nat) (elems rest : List (DataW H)) (ls : List (List AV)), cs = [.slice p 0 elems.length cap] ∧ elems.length ≤ cap ∧ d = .slice elems rest ∧ ls.length = elems.length ∧
   ∀ i (hi : i < elems.length) (hi' : i < ls.length), Cs h p (i * P.cellsOf e) ls[i] ∧ ls[i].length = P.cellsOf e ∧ rec e ls[i] elems[i]
 | some (.struct fs) => ∃ (parts : List (DataW H)) (ls : List (List AV)), cs = ls.flatten ∧ d = .agg parts ∧ parts.length = fs.size ∧ ls.length = fs.size ∧
   ∀ (i : Nat) (f : Field), fs[i]? = some f → ∃ l p, ls[i]? = some l ∧ parts[i]? = some p ∧ l.length = P.cellsOf f.type ∧ rec f.type l p
 | _ => False
def rO {H : Type} (P : Program) (h : Hp) (n : Nat) : TypeId → List AV → DataW H → Prop := Nat.rec (fun _ _ _ => False) (fun _ ih => fV P h ih) n
def pZ (P : Program) : List Field → List Value → List (List Value)
 | [], _ => []
 | f :: fs, cs => cs.take (P.cellsOf f.type) :: pZ P fs (cs.drop (P.cellsOf f.type))
theorem qX : ∀ (fs : List Field) (cs : List Value), (pZ P fs cs).length = fs.length
 | [], _ => rfl
 | _ :: fs, _ => by simp [pZ, qX fs]
theorem vh : ∀ (fs : List Field) (cs : List Value), cs.length = fU P fs → (pZ P fs cs).flatten = cs
 | [], cs, h => by
  simp only [fU, List.length_eq_zero_iff] at h
  simp [pZ, h]
 | f :: fs, cs, h => by
  simp only [fU] at h
  simp only [pZ, List.flatten_cons]
  rw [vh fs _ (by simp; omega), List.take_append_drop]
theorem Cr : ∀ (fs : List Field) (cs : List Value) (o : Nat), gu P fs o = true → ∀ (all : List Value), cs = all.drop o → ∀ (j : Nat) f, fs[j]? = some f → (pZ P fs cs)[j]? = some ((all.drop f.offset).take (P.cellsOf f.type))
 | [], _, _, _, _, _, j, f, h => by simp at h
 | g :: fs, cs, o, e, all, hc, 0, f, h => by
  simp only [gu, Bool.and_eq_true, beq_iff_eq] at e
  simp at h
  subst h
  simp [pZ, e.1, hc]
 | g :: fs, cs, o, e, all, hc, j + 1, f, h => by
  simp only [gu, Bool.and_eq_true, beq_iff_eq] at e
  simp only [pZ, List.getElem?_cons_succ]
  refine Cr fs _ _ e.2 all ?_ j f (by simpa using h)
  rw [hc, List.drop_drop]
theorem add_zero (a : Addr) : a.add 0 = a := by simp [Addr.add]
theorem Ga {a : Addr} (h : a.spot = none) (k : Nat) : a.add k = ⟨a.block, a.off + k, none⟩ := by
 unfold Addr.add
 split
 ·rename_i hk
  subst hk
  cases a
  simp_all
 ·rfl
theorem AN {w : World} {a : Addr} {n c : Nat} (h : (a.spot = none ∧ a.block < w.heap.size) ∨ (n = 0 ∧ c = 0)) : jZ w (.slice (some a) n c) = .slice (.eI a.block a.off) 0 n c := by
 obtain ⟨b, o, s⟩ := a
 cases s with
 | none =>
  show (if b < w.heap.size then AV.slice (.eI b o) 0 n c else if n = 0 ∧ c = 0 then .slice (.eI b o) 0 0 0 else .undef) = .slice (.eI b o) 0 n c
  split
  ·rfl
  ·rename_i hb
   rcases h with ⟨_, h⟩ | ⟨rfl, rfl⟩
   ·exact absurd h hb
   ·rw [if_pos ⟨rfl, rfl⟩]
 | some s =>
  rcases h with ⟨h, _⟩ | ⟨rfl, rfl⟩
  ·cases h
  ·rfl
theorem Gb {w : World} {b o m n : Nat} {cs : List Value} (h : w.cells? 0 ⟨b, o + m, none⟩ n = some cs) : cs.length = n ∧ ∀ k (hk : k < cs.length), w.cell? ⟨b, o + m + k, none⟩ = some cs[k] := by
 obtain ⟨_, hl, hc⟩ := World.cells?_some h
 refine ⟨hl, fun k hk => ?_⟩
 have := hc k (by omega)
 rw [Ga rfl, List.getElem?_eq_getElem hk] at this
 exact this
theorem reads {H : Type} {enc : TypeId × Value → H} {w : World} {g : Nat} {sp : Nat → Bool} {held : Bool} {l : List TypeId} (hk : sH P l = true) (hsp : ∀ b, sp b = true) : ∀ (n : Nat) (t : TypeId) (cs : List Value) (x : DataW H × List MemPlace), t ∈ l →
  DataW.trod enc P w 0 sp held n t cs = some x → rO P (AD g w) n t (cs.map (jZ w)) x.1 ∧ (∀ v, v ∈ cs → v.oneCell' = true) ∧ cs.length = P.cellsOf t
 | 0, t, cs, x, _, h => by simp [DataW.trod] at h
 | n + 1, t, cs, x, ht, h => by
  have hkd := nP hk ht
  show fV P (AD g w) (rO P (AD g w) n) t (cs.map (jZ w)) x.1 ∧ _
  unfold wM at hkd
  split at hkd
  ·rename_i hu
   obtain ⟨b, rfl, rfl⟩ := DataW.trod_bool hu h
   refine ⟨?_, fun v hv => ?_, by simpa using (beq_iff_eq.1 hkd).symm⟩
   ·unfold fV; rw [hu]
    exact ⟨b, rfl, rfl⟩
   ·simp at hv; rw [hv]; rfl
  ·rename_i k hu
   obtain ⟨z, rfl, rfl, hw⟩ := DataW.trod_int hu h
   refine ⟨?_, fun v hv => ?_, by simpa using (beq_iff_eq.1 hkd).symm⟩
   ·unfold fV; rw [hu]
    exact ⟨z, rfl, rfl, hw⟩
   ·simp at hv; rw [hv]; rfl
  ·rename_i hu
   obtain ⟨s, rfl, rfl, hs⟩ := DataW.trod_string hu h
   refine ⟨?_, fun v hv => ?_, by simpa using (beq_iff_eq.1 hkd).symm⟩
   ·unfold fV; rw [hu]
    exact ⟨s.data.toList, rfl, rfl⟩
   ·simp at hv; rw [hv]; rfl
  ·rename_i e hu
   simp only [Bool.and_eq_true] at hkd
   obtain ⟨h1, h2, h3⟩ := hkd
   have hes : 0 < P.cellsOf e := yf hk ht hu
   have hel : e ∈ l := by simpa using h2
   rcases DataW.trod_slice hu h with ⟨rfl, rfl⟩ | ⟨a, len, cap, elems, rest, m, hm, rfl, rfl, hb0, hle, hmax, hlen, hat, hrest, _⟩
   ·refine ⟨?_, fun v hv => ?_, by simpa using (beq_iff_eq.1 h1).symm⟩
    ·unfold fV; rw [hu]
     exact .inl ⟨rfl, rfl⟩
    ·simp at hv; rw [hv]; rfl
   ·obtain rfl : n = m := by omega
    obtain ⟨hr1, hr2⟩ := hrest (hsp _)
    have hval : (a.spot = none ∧ a.block < w.heap.size) ∨ (len = 0 ∧ cap = 0) := by
     rcases Nat.eq_zero_or_pos cap with hc | hc
     ·exact .inr ⟨by omega, hc⟩
     ·left
      have h0 : ∃ c0, w.cells? 0 a (P.cellsOf e) = some c0 := by
       rcases Nat.eq_zero_or_pos len with hz | hz
       ·have := hr2 0 (by omega)
        rw [List.getElem?_eq_getElem (by omega), Option.bind_eq_some_iff] at this
        obtain ⟨c0, g1, _⟩ := this
        refine ⟨c0, ?_⟩
        rw [hz, Nat.zero_add, Nat.zero_mul, add_zero] at g1
        exact g1
       ·have := hat 0 hz
        rw [List.getElem?_eq_getElem (by omega), Option.bind_eq_some_iff] at this
        obtain ⟨c0, g1, _⟩ := this
        refine ⟨c0, ?_⟩
        rw [Nat.zero_mul, add_zero] at g1
        exact g1
      obtain ⟨c0, g⟩ := h0
      obtain ⟨_, g1, g2⟩ := World.cells?_some g
      have := g2 0 hes
      rw [add_zero, List.getElem?_eq_getElem (by omega)] at this
      obtain ⟨s1, rc, el, fz, s2, _⟩ := sG this
      exact ⟨s1, (Array.getElem?_eq_some_iff.1 s2).1⟩
    have E : ∀ i, i < len → ∃ ci, (w.cells? 0 (a.add (i * P.cellsOf e)) (P.cellsOf e)) = some ci ∧ ∃ y, elems[i]? = some y ∧ DataW.trod enc P w 0 sp held n e ci = some y := fun i hi => by
     have := hat i hi
     have he : elems[i]? = some (elems[i]'(by omega)) := List.getElem?_eq_getElem (by omega)
     rw [he, Option.bind_eq_some_iff] at this
     obtain ⟨ci, g1, g2⟩ := this
     exact ⟨ci, g1, _, he, g2⟩
    have E2 : ∀ i, i < len → ∃ ci, (w.cells? 0 (a.add (i * P.cellsOf e)) (P.cellsOf e)).getD [] = ci ∧ (∀ k (hk : k < ci.length), w.cell? ⟨a.block, a.off + i * P.cellsOf e + k, none⟩ = some ci[k]) ∧ ci.length = P.cellsOf e ∧ (∀ v, v ∈ ci → v.oneCell' = true) ∧
      ∃ y, elems[i]? = some y ∧ rO P (AD g w) n e (ci.map (jZ w)) y.1 := fun i hi => by
     obtain ⟨ci, g1, y, g2, g3⟩ := E i hi
     have hs : a.spot = none := (hval.resolve_right (by omega)).1
     obtain ⟨r1, r2, r3⟩ := reads hk hsp n e ci y hel g3
     have g4 := g1
     rw [Ga hs] at g4
     exact ⟨ci, by rw [g1]; rfl, (Gb g4).2, r3, r2, y, g2, r1⟩
    refine ⟨?_, fun v hv => ?_, by simpa using (beq_iff_eq.1 h1).symm⟩
    ·unfold fV; rw [hu]
     refine .inr ⟨.eI a.block a.off, cap, elems.map (·.1), rest.map (·.1), (List.range len).map fun i => ((w.cells? 0 (a.add (i * P.cellsOf e)) (P.cellsOf e)).getD []).map (jZ w), ?_, by rw [List.length_map, hlen]; exact hle, rfl, by simp [hlen], fun i hi hi' => ?_⟩
     ·simp only [List.map_cons, List.map_nil, List.length_map, hlen]
      rw [AN hval]
     ·have hil : i < len := by simpa [hlen] using hi
      obtain ⟨ci, e1, e2, e3, e4, y, e5, e6⟩ := E2 i hil
      have hci : ((List.range len).map fun i => ((w.cells? 0 (a.add (i * P.cellsOf e)) (P.cellsOf e)).getD []).map (jZ w))[i] = ci.map (jZ w) := by
       simp only [List.getElem_map, List.getElem_range, e1]
      have hy : (elems.map (·.1))[i] = y.1 := by
       rw [List.getElem_map]
       have := (List.getElem?_eq_some_iff.1 e5).2
       rw [this]
      rw [hci, hy]
      refine ⟨?_, by simpa using e3, e6⟩
      have hs : a.spot = none := (hval.resolve_right (by omega)).1
      refine Rf e2 e4 (fun k hk => ?_) (by intro h0; rw [h0] at e3; simp at e3; omega)
      have hq : k / P.cellsOf e < i := Nat.div_lt_of_lt_mul (by rw [Nat.mul_comm]; exact hk)
      obtain ⟨cj, f1, f2, f3, f4, _⟩ := E2 (k / P.cellsOf e) (by omega)
      have hmod := Nat.mod_lt k hes
      have hdm := Nat.div_add_mod k (P.cellsOf e)
      rw [Nat.mul_comm] at hdm
      refine ⟨cj[k % P.cellsOf e]'(by omega), ?_, f4 _ (List.getElem_mem _)⟩
      have := f2 (k % P.cellsOf e) (by omega)
      rwa [show a.off + k / P.cellsOf e * P.cellsOf e + k % P.cellsOf e = a.off + k by omega] at this
    ·simp at hv; rw [hv]; rfl
  ·rename_i fs hu
   simp only [Bool.and_eq_true, List.all_eq_true, beq_iff_eq] at hkd
   obtain ⟨⟨h1, h2⟩, h3⟩ := hkd
   obtain ⟨xs, m, hm, rfl, hlen, hxl, hf⟩ := DataW.trod_struct hu h
   obtain rfl : n = m := by omega
   have C : ∀ (i : Nat) (f : Field), fs[i]? = some f → ∃ ch y, (pZ P fs.toList cs)[i]? = some ch ∧ xs[i]? = some y ∧ rO P (AD g w) n f.type (ch.map (jZ w)) y.1 ∧ (∀ v, v ∈ ch → v.oneCell' = true) ∧ ch.length = P.cellsOf f.type := fun i f hfi => by
    have hfi' : fs.toList[i]? = some f := by simpa using hfi
    have e1 := Cr fs.toList cs 0 h3 cs (by simp) i f hfi'
    have hi : i < xs.length := by rw [hxl]; exact (Array.getElem?_eq_some_iff.1 hfi).1
    have e2 := hf i f hfi
    rw [List.getElem?_eq_getElem hi] at e2
    have hft : f.type ∈ l := by
     have := h1 f (List.mem_of_getElem? hfi')
     simpa using this
    obtain ⟨r1, r2, r3⟩ := reads hk hsp n f.type _ _ hft e2
    exact ⟨_, _, e1, List.getElem?_eq_getElem hi, r1, r2, r3⟩
   have hflat : (pZ P fs.toList cs).flatten = cs := vh _ _ (by rw [hlen, h2])
   have hcl : (pZ P fs.toList cs).length = fs.size := by rw [qX]; simp
   refine ⟨?_, fun v hv => ?_, hlen⟩
   ·unfold fV; rw [hu]
    refine ⟨xs.map (·.1), (pZ P fs.toList cs).map (List.map (jZ w)), ?_, rfl, by simp [hxl], by simp [hcl], fun i f hfi => ?_⟩
    ·rw [← List.map_flatten, hflat]
    ·obtain ⟨ch, y, c1, c2, c3, c4, c5⟩ := C i f hfi
     exact ⟨ch.map (jZ w), y.1, by rw [List.getElem?_map, c1]; rfl, by rw [List.getElem?_map, c2]; rfl, by simpa using c5, c3⟩
   ·rw [← hflat] at hv
    obtain ⟨ch, hch, hv⟩ := List.mem_flatten.1 hv
    obtain ⟨i, hi, rfl⟩ := List.getElem_of_mem hch
    have hfi : fs[i]? = some (fs[i]'(by omega)) := Array.getElem?_eq_getElem (by omega)
    obtain ⟨ch2, y, c1, c2, c3, c4, c5⟩ := C i _ hfi
    rw [List.getElem?_eq_getElem hi] at c1
    cases c1
    exact c4 v hv
  ·cases hkd
end
end
noncomputable section
def Ev (Q : Nat → Prop) : Prop := ∃ n, ∀ m, n ≤ m → Q m
theorem Ev.all {Q : Nat → Prop} (h : ∀ m, Q m) : Ev Q := ⟨0, fun m _ => h m⟩
theorem Ev.mono {Q R : Nat → Prop} (h : Ev Q) (g : ∀ m, Q m → R m) : Ev R := let ⟨n, h⟩ := h; ⟨n, fun m hm => g m (h m hm)⟩
theorem Ev.and {Q R : Nat → Prop} (h : Ev Q) (g : Ev R) : Ev fun m => Q m ∧ R m := let ⟨n, h⟩ := h; let ⟨k, g⟩ := g; ⟨max n k, fun m hm => ⟨h m (by omega), g m (by omega)⟩⟩
theorem Ev.Ee {Q R S : Nat → Prop} (h : Ev Q) (g : Ev R) (f : ∀ m, Q m → R m → S m) : Ev S := (h.and g).mono fun m x => f m x.1 x.2
theorem Ev.succ {Q : Nat → Prop} (h : Ev fun m => Q (m + 1)) : Ev Q := let ⟨n, h⟩ := h; ⟨n + 1, fun m hm => by
 obtain ⟨k, rfl⟩ : ∃ k, m = k + 1 := ⟨m - 1, by omega⟩
 exact h k (by omega)⟩
theorem Ev.some {Q : Nat → Prop} (h : Ev Q) : ∃ m, Q m := let ⟨n, h⟩ := h; ⟨n, h n (Nat.le_refl _)⟩
variable {p : Pg} {r r' : A2} {h h' h1 h2 : Hp} {s : RS} {a b c x : AC} {i f : Nat} {args : List AV} {v : AV}
def Rn (p : Pg) (c : AC) (r : A2) (h : Hp) (s : RS) : Prop := Ev fun m => exec p m c r h = s
def Cv (p : Pg) (f : Nat) (args : List AV) (h : Hp) (v : AV) (h' : Hp) : Prop := Ev fun m => aw p (exec p m) f args h = .ok v h'
theorem Rn.skip : Rn p .skip r h (.nm r h) := Ev.succ (.all fun _ => rfl)
theorem Rn.ret : Rn p .ret r h (.ret r h) := Ev.succ (.all fun _ => rfl)
theorem Rn.exit : Rn p (.exit i) r h (.ex i r h) := Ev.succ (.all fun _ => rfl)
theorem Rn.goto : Rn p (.goto i) r h (.go i r h) := Ev.succ (.all fun _ => rfl)
theorem Rn.label : Rn p (.label i) r h (.nm r h) := Ev.succ (.all fun _ => rfl)
theorem Rn.seq (e : Rn p a r h (.nm r' h')) (g : Rn p b r' h' s) : Rn p (.seq a b) r h s := Ev.succ (Ev.Ee e g fun m e g => by
 show RS.bind (exec p m a r h) _ _ _ = _
 rw [e]; exact g)
theorem Rn.dt (e : Rn p a r h (.ret r' h')) : Rn p (.seq a b) r h (.ret r' h') := Ev.succ (Ev.mono e fun m e => by
 show RS.bind (exec p m a r h) _ _ _ = _
 rw [e]; rfl)
theorem Rn.AP (e : Rn p a r h (.ex i r' h')) : Rn p (.seq a b) r h (.ex i r' h') := Ev.succ (Ev.mono e fun m e => by
 show RS.bind (exec p m a r h) _ _ _ = _
 rw [e]; rfl)
theorem Rn.AQ (e : Rn p a r h (.go i r' h')) : Rn p (.seq a b) r h (.go i r' h') := Ev.succ (Ev.mono e fun m e => by
 show RS.bind (exec p m a r h) _ _ _ = _
 rw [e]; rfl)
theorem Rn.block (e : Rn p a r h (.nm r' h')) : Rn p (.block i a) r h (.nm r' h') := Ev.succ (Ev.mono e fun m e => by
 show RS.bind (exec p m a r h) _ _ _ = _
 rw [e]; rfl)
theorem Rn.bN (e : Rn p a r h (.ex i r' h')) : Rn p (.block i a) r h (.nm r' h') := Ev.succ (Ev.mono e fun m e => by
 show RS.bind (exec p m a r h) _ _ _ = _
 rw [e]
 show (@Bool.rec (fun _ => RS) _ _ (Nat.beq i i)) = _
 rw [Nat.beq_refl])
theorem Rn.cT (e : Rn p a r h (.ret r' h')) : Rn p (.block i a) r h (.ret r' h') := Ev.succ (Ev.mono e fun m e => by
 show RS.bind (exec p m a r h) _ _ _ = _
 rw [e]; rfl)
theorem Rn.loop (e : Rn p a r h (.nm r' h')) (g : Rn p (.loop a) r' h' s) : Rn p (.loop a) r h s := Ev.succ (Ev.Ee e g fun m e g => by
 show RS.bind (exec p m a r h) _ _ _ = _
 rw [e]; exact g)
theorem Rn.dU (e : Rn p a r h (.ex i r' h')) : Rn p (.loop a) r h (.ex i r' h') := Ev.succ (Ev.mono e fun m e => by
 show RS.bind (exec p m a r h) _ _ _ = _
 rw [e]; rfl)
theorem Rn.eJ (e : Rn p a r h (.ret r' h')) : Rn p (.loop a) r h (.ret r' h') := Ev.succ (Ev.mono e fun m e => by
 show RS.bind (exec p m a r h) _ _ _ = _
 rw [e]; rfl)
theorem Rn.scope (e : Rn p (.sat a a) r h s) : Rn p (.scope a) r h s := by
 obtain ⟨n, e⟩ := e
 refine ⟨n + 1, fun m hm => ?_⟩
 obtain ⟨k, rfl⟩ : ∃ k, m = k + 1 := ⟨m - 1, by omega⟩
 exact e (k + 1) (by omega)
theorem Rn.rP (e : Rn p c r h (.ret r' h')) : Rn p (.sat a c) r h (.ret r' h') := Ev.succ (Ev.mono e fun m e => by
 show RS.bind (exec p m c r h) _ _ _ = _
 rw [e]; rfl)
theorem Rn.wN (e : Rn p c r h (.go i r' h')) (hf : cS a i = some x) (g : Rn p (.sat a x) r' h' s) : Rn p (.sat a c) r h s := Ev.succ (Ev.Ee e g fun m e g => by
 show RS.bind (exec p m c r h) _ _ _ = _
 rw [e]
 show (Option.rec _ (fun c => exec p m (.sat a c) r' h') (cS a i) : RS) = _
 rw [hf]; exact g)
theorem Rn.AR {c : AO} (hc : ev c r = .bool true) (e : Rn p a r h s) : Rn p (.cond c a b) r h s := Ev.succ (Ev.mono e fun m e => by
 show AV.bB (ev c r) _ _ = _
 rw [hc]; exact e)
theorem Rn.OE {c : AO} (hc : ev c r = .bool false) (e : Rn p b r h s) : Rn p (.cond c a b) r h s := Ev.succ (Ev.mono e fun m e => by
 show AV.bB (ev c r) _ _ = _
 rw [hc]; exact e)
theorem Rn.ah {k : Cf → Iv → (A2 → Hp → RS) → A2 → Hp → RS} (e : Ev fun m => k (aw p (exec p m)) (aG p (exec p m)) (fun r h => exec p m x r h) r h = s) : Rn p (.ah k x) r h s := Ev.succ e
theorem Cv.of {body : AC} {res : List Rs} (hf : ar f p.fs = .mk body res) (hl : args.length ≤ 256) (e : Rn p body (bt args 0 .nil) h (.ret r' h1)) (hr : rG res r' h1 = .ok v h') : Cv p f args h v h' := Ev.mono e fun m e => by
 unfold aw
 rw [hf]
 show (@Bool.rec (fun _ => RT) _ _ (Nat.ble args.length 256)) = _
 rw [Nat.ble_eq_true_of_le hl]
 show eD res (exec p m body (bt args 0 .nil) h) = _
 rw [e]
 show (rG res r' h1).lH = _
 rw [hr]; rfl
theorem Cv.vi {body : AC} {res : List Rs} (hf : ar f p.fs = .mk body res) (hl : args.length ≤ 256) (e : Rn p body (bt args 0 .nil) h (.nm r' h1)) (hr : rG res r' h1 = .ok v h') : Cv p f args h v h' := Ev.mono e fun m e => by
 unfold aw
 rw [hf]
 show (@Bool.rec (fun _ => RT) _ _ (Nat.ble args.length 256)) = _
 rw [Nat.ble_eq_true_of_le hl]
 show eD res (exec p m body (bt args 0 .nil) h) = _
 rw [e]
 show (rG res r' h1).lH = _
 rw [hr]; rfl
theorem Cv.uP {k : PK} {body : AC} {res : List Rs} (hf : ar f p.fs = .uP k body res) (e : fj k args h = .ok v h') : Cv p f args h v h' := .all fun m => by
 unfold aw
 rw [hf]
 show (RT.rec _ _ _ (fj k args h) : RT) = _
 rw [e]
def Wf (h : Hp) : Prop := ∃ N, h.next = .eI N 0 ∧ ∀ m, N ≤ m → ag (.eI m 0) h = .none
def Old (h h' : Hp) : Prop := ∀ q, ag q h ≠ .none → ag q h' = ag q h
theorem Old.refl (h : Hp) : Old h h := fun _ _ => rfl
theorem Old.trans {h1 h2 h3 : Hp} (a : Old h1 h2) (b : Old h2 h3) : Old h1 h3 := fun q hq => (b q (by rw [a q hq]; exact hq)).trans (a q hq)
def yg (h : Hp) (o : Obj) : Hp := .mk (de h.next o h.tree) h.next.succ
theorem jC (h : Hp) (o : Obj) (q : P4) : ag q (yg h o) = if q = h.next then o else ag q h := fk q
theorem Gc (h : Hp) (o : Obj) : (yg h o).next = h.next.succ := rfl
theorem Wf.fresh (W : Wf h) : ag h.next h = .none := by
 obtain ⟨N, e, f⟩ := W
 rw [e]; exact f N (Nat.le_refl _)
theorem Wf.yg (W : Wf h) (o : Obj) : Wf (yg h o) := by
 obtain ⟨N, e, f⟩ := W
 refine ⟨N + 1, by rw [Gc, e]; rfl, fun m hm => ?_⟩
 rw [jC, e, if_neg (by intro g; cases g; omega)]
 exact f m (by omega)
theorem Old.yg (W : Wf h) (o : Obj) : Old h (yg h o) := fun q hq => by
 rw [jC, if_neg]
 intro e
 rw [e] at hq
 exact hq W.fresh
theorem Wf.cU (W : Wf h) {q : P4} {o : Obj} (hq : ag q h ≠ .none) : Wf (cU q o h) := by
 obtain ⟨N, e, f⟩ := W
 refine ⟨N, e, fun m hm => ?_⟩
 rw [aI, if_neg]
 ·exact f m hm
 ·intro g
  rw [← g] at hq
  exact hq (f m hm)
theorem Ef (W : Wf h) (o : Obj) (k : P4 → Hp → RV) : jq o h k = k h.next (yg h o) := by
 obtain ⟨t, nx⟩ := h
 have e : jq o (.mk t nx) k = (@Bool.rec (fun _ => RV) (.err 1) (k nx (.mk (de nx o t) nx.succ)) (isNone (cD nx t))) := rfl
 have f : cD nx t = .none := W.fresh
 rw [e, f]
 rfl
theorem wO (W : Wf h) {el n : Nat} {ex : Bool} {fl : Fl} {c : Cl} (hn : n ≤ AU c) (k : P4 → Hp → RV) : ik el ex fl n c h k = k h.next (yg h (.cells el n ex fl c)) := by
 show (@Bool.rec (fun _ => RV) (.err 130) (jq (.cells el n ex fl c) h k) (Nat.ble n (AU c))) = _
 rw [Nat.ble_eq_true_of_le hn]
 exact Ef W _ k
def Gd (c : Cl) : Prop := match c with
 | .kf m _ => m = 16777216
 | _ => True
theorem Gd.max {c : Cl} (g : Gd c) : AU c = bA c := by
 cases c with
 | kf m f =>
  have g : m = 16777216 := g
  subst g; rfl
 | _ => rfl
theorem Gd.lJ {c : Cl} (g : Gd c) (i : Nat) (v : AV) : Gd (lJ i v c) := by cases c <;> exact g
theorem Gd.cZ (l : List AV) : ∀ (i : Nat) {c : Cl}, Gd c → Gd (cZ l i c) := by
 induction l with
 | nil => intro i c g; exact g
 | cons v l ih => intro i c g; rw [kc]; exact ih _ (g.lJ i v)
theorem Gd.grow {c : Cl} (g : Gd c) : Gd (bF c) := by
 cases c with
 | kf m f => exact g
 | k4 x => rfl
 | _ => trivial
theorem Rg (c : Cl) (g : Gd c) : bA (bF (bF (bF (bF c)))) = 16777216 := by
 cases c with
 | kf m f => exact g
 | _ => rfl
theorem Gd.fit {c : Cl} (g : Gd c) (n : Nat) (hn : n ≤ 16777216) : Gd (kj n c) ∧ n ≤ bA (kj n c) := by
 unfold kj
 cases h1 : Nat.ble n (bA c) with
 | true => exact ⟨g, Nat.le_of_ble_eq_true h1⟩
 | false =>
  cases h2 : Nat.ble n (bA (bF c)) with
  | true => exact ⟨g.grow, Nat.le_of_ble_eq_true h2⟩
  | false =>
   cases h3 : Nat.ble n (bA (bF (bF c))) with
   | true => exact ⟨g.grow.grow, Nat.le_of_ble_eq_true h3⟩
   | false =>
    cases h4 : Nat.ble n (bA (bF (bF (bF c)))) with
    | true => exact ⟨g.grow.grow.grow, Nat.le_of_ble_eq_true h4⟩
    | false => exact ⟨g.grow.grow.grow.grow, by rw [Rg c g]; exact hn⟩
theorem Gd.of (l : List AV) (hl : l.length ≤ 16777216) : Gd (nQ l) ∧ l.length ≤ bA (nQ l) := by
 have g : Gd Ge := trivial
 obtain ⟨a, b⟩ := g.fit l.length hl
 unfold nQ
 exact ⟨a.cZ _ _, by rw [gv]; exact b⟩
theorem mH (l : List AV) (hl : l.length ≤ 16777216) (k : Nat) (hk : k < l.length) : eV k (nQ l) = l[k] := eK l (Gd.of l hl).2 k hk
def Ob (h : Hp) (q : P4) (el : Nat) (ex : Bool) (fl : Fl) (l : List AV) : Prop := ∃ c, ag q h = .cells el l.length ex fl c ∧ (Gd c ∧ l.length ≤ bA c) ∧ ∀ k (hk : k < l.length), eV k c = l[k]
theorem Ob.ne {q : P4} {el : Nat} {ex : Bool} {fl : Fl} {l : List AV} (o : Ob h q el ex fl l) : ag q h ≠ .none := by
 obtain ⟨c, e, _⟩ := o
 rw [e]; simp
theorem Ob.old {q : P4} {el : Nat} {ex : Bool} {fl : Fl} {l : List AV} (o : Ob h q el ex fl l) (O : Old h h') : Ob h' q el ex fl l := by
 have hne := o.ne
 obtain ⟨c, e, r⟩ := o
 exact ⟨c, by rw [O q hne]; exact e, r⟩
theorem Ob.eq {q : P4} {el : Nat} {ex : Bool} {fl : Fl} {l : List AV} (o : Ob h q el ex fl l) (e : ag q h' = ag q h) : Ob h' q el ex fl l := by
 obtain ⟨c, g, r⟩ := o
 exact ⟨c, by rw [e]; exact g, r⟩
theorem Ob.cs {q : P4} {el : Nat} {ex : Bool} {fl : Fl} {l : List AV} (o : Ob h q el ex fl l) {k : Nat} {m : List AV} (hm : ∀ j (hj : j < m.length), ∃ hk : k + j < l.length, l[k + j] = m[j]) (hl : k + m.length ≤ l.length) : Cs h q k m := by
 obtain ⟨c, e, _, g⟩ := o
 refine ⟨el, l.length, ex, fl, c, e, hl, fun j hj => ?_⟩
 obtain ⟨hk, e⟩ := hm j hj
 rw [g _ hk, e]
theorem Cs.old {q : P4} {o : Nat} {l : List AV} (a : Cs h q o l) (O : Old h h') : Cs h' q o l := by
 obtain ⟨el, n, ex, fl, c, e, r⟩ := a
 exact ⟨el, n, ex, fl, c, by rw [O q (by rw [e]; simp)]; exact e, r⟩
theorem Cs.ne {q : P4} {o : Nat} {l : List AV} (a : Cs h q o l) : ag q h ≠ .none := by
 obtain ⟨el, n, ex, fl, c, e, r⟩ := a
 rw [e]; simp
theorem Cs.eq {q : P4} {o : Nat} {l : List AV} (a : Cs h q o l) (e : ag q h' = ag q h) : Cs h' q o l := by
 obtain ⟨el, n, ex, fl, c, g, r⟩ := a
 exact ⟨el, n, ex, fl, c, by rw [e]; exact g, r⟩
theorem Cs.sub {q : P4} {o : Nat} {l : List AV} (a : Cs h q o l) (k : Nat) (m : List AV) (hm : k + m.length ≤ l.length) (g : ∀ j (hj : j < m.length), l[k + j] = m[j]) : Cs h q (o + k) m := by
 obtain ⟨el, n, ex, fl, c, e, r1, r2⟩ := a
 refine ⟨el, n, ex, fl, c, e, by omega, fun j hj => ?_⟩
 rw [Nat.add_assoc, r2 (k + j) (by omega), g j hj]
theorem wP (W : Wf h) {el : Nat} {ex : Bool} {fl : Fl} (l : List AV) {c : Cl} (hc : Gd c ∧ l.length ≤ bA c) (hg : ∀ k (hk : k < l.length), eV k c = l[k]) (k : P4 → Hp → RV) :
  ∃ q h', ik el ex fl l.length c h k = k q h' ∧ ag q h = .none ∧ Ob h' q el ex fl l ∧ Old h h' ∧ Wf h' ∧ ∀ j, j ≠ q → ag j h' = ag j h := by
 refine ⟨h.next, yg h (.cells el l.length ex fl c), wO W (by rw [hc.1.max]; exact hc.2) k, W.fresh, ⟨c, by rw [jC, if_pos rfl], hc, hg⟩, .yg W _, W.yg _, fun j hj => by rw [jC, if_neg hj]⟩
end
noncomputable section
variable {H : Type} {P : Program} {h : Hp} {rec rec' : TypeId → List AV → DataW H → Prop} {t : TypeId} {cs : List AV} {d : DataW H}
theorem fV.mono (g : ∀ t l d, rec t l d → rec' t l d) (r : fV P h rec t cs d) : fV P h rec' t cs d := by
 unfold fV at r ⊢
 cases hu : P.underlying t with
 | none => rw [hu] at r; exact r.elim
 | some u =>
  rw [hu] at r
  cases u with
  | bool => exact r
  | int k => exact r
  | string => exact r
  | slice e =>
   rcases r with r | ⟨p, cap, el, rest, ls, h1, h2, h3, h4, h5⟩
   ·exact .inl r
   ·exact .inr ⟨p, cap, el, rest, ls, h1, h2, h3, h4, fun i hi hi' => ⟨(h5 i hi hi').1, (h5 i hi hi').2.1, g _ _ _ (h5 i hi hi').2.2⟩⟩
  | struct fs =>
   obtain ⟨parts, ls, h1, h2, h3, h4, h5⟩ := r
   exact ⟨parts, ls, h1, h2, h3, h4, fun i f hf => let ⟨l, p, a, b, c, d⟩ := h5 i f hf; ⟨l, p, a, b, c, g _ _ _ d⟩⟩
  | _ => exact r.elim
theorem rO.succ : ∀ (n : Nat) (t : TypeId) (cs : List AV) (d : DataW H), rO P h n t cs d → rO P h (n + 1) t cs d
 | 0, _, _, _, r => r.elim
 | n + 1, t, cs, d, r => fV.mono (rO.succ n) r
theorem rO.add (n k : Nat) (t : TypeId) (cs : List AV) (d : DataW H) (r : rO P h n t cs d) : rO P h (n + k) t cs d := by
 induction k with
 | zero => exact r
 | succ k ih => exact rO.succ (n + k) t cs d ih
end
noncomputable section
def Nw (n : Nat) : Hp := .mk (Kz (fun _ _ => .none) n) (P4.of n)
def KR (n : Nat) : aN := fun i => match i with
 | .eI _ _ => none
 | .mk a b c d => if oE (.mk a b c d) < n then some ⟨oE (.mk a b c d), 0, 0⟩ else none
theorem wQ (n b o : Nat) : ag (.eI b o) (Nw n) = .none := jo _ b o n
theorem yh {n : Nat} (hn : n ≤ 65536) (a b c d : H) : ag (.mk a b c d) (Nw n) = if oE (.mk a b c d) < n then .dead else .none := mG _ a b c d n hn
theorem sI {n : Nat} (hn : n ≤ 65536) (i : P4) : ¬ live (ag i (Nw n)) := by
 intro h
 cases i with
 | eI b o => exact h.1 (wQ n b o)
 | mk a b c d =>
  rw [yh hn] at h
  split at h
  ·exact h.2 rfl
  ·exact h.1 rfl
theorem Uo {n : Nat} {w : World} (hn : n ≤ 65536) (hs : n ≤ w.heap.size) : HR (KR n) (Nw n) w where
 obj i hl := absurd hl (sI hn i)
 inj i j p q hl := absurd hl (sI hn i)
 fresh i hi := by
  cases i with
  | eI b o => rfl
  | mk a b c d =>
   rw [yh hn] at hi
   split at hi
   ·cases hi
   ·rename_i h
    exact if_neg h
 bound i p hp := by
  cases i with
  | eI b o => cases hp
  | mk a b c d =>
   have hp : (if oE (.mk a b c d) < n then some (Place.mk (oE (.mk a b c d)) 0 0) else none) = some p := hp
   split at hp
   ·cases hp
    show oE (.mk a b c d) < w.heap.size
    omega
   ·cases hp
theorem Rh {n : Nat} (hn : n ≤ 65536) : nc ⟨n, [], none⟩ (KR n) := by
 refine ⟨fun g hg => ⟨0, ?_⟩, fun x hx => by cases hx⟩
 have hg : g < n := hg
 have e : KR n (P4.of g) = if oE (P4.of g) < n then some ⟨oE (P4.of g), 0, 0⟩ else none := rfl
 rw [e, wL (by omega), if_pos hg]
theorem KS {P : Program} {names : List String} {p : Pg} {n : Nat} (E : Env P ⟨n, [], none⟩ names p) (m f : Nat) (hn : n ≤ 65536) (e : eQ (aw p (exec p m) f [] (Nw n)) = true) (w : World) (hs : n ≤ w.heap.size) (hx : Co (ar f p.fs) = false := by rfl) :
  Calls P f #[] w fun e w' => e = .returned (.bool true) ∧ w.heap.size ≤ w'.heap.size ∧ (∀ b, b < w.heap.size → w'.heap[b]? = w.heap[b]?) ∧ w'.tape = w.tape ∧ w'.os = w.os ∧ w'.output = w.output := by
 obtain ⟨OG, ht⟩ := KH e
 refine (Cp E m f [] [] (φ := KR n) (Rh hn) (Uo hn hs) .nil OG (Cq hx)).mono ?_
 rintro e w' ⟨v, h', cv, φ', hl, rfl, hv, _, T⟩
 have := ht v h' hl
 subst this
 cases hv
 exact ⟨rfl, T.keeps.size, fun b hb => T.keeps.rest b hb fun i p hl => absurd hl.1 (sI hn i), T.keeps.tape, T.keeps.os, T.keeps.output⟩
def Ck (args : List AV) (h : Hp) : RT := List.casesOn args (.ok (.bool true) h) (fun _ _ => .err 400)
theorem Ea {P : Program} {names : List String} {p : Pg} {n : Nat} (E : Env P ⟨n, [], none⟩ names p) (m f : Nat) (hn : n ≤ 65536) (e : eQ (aw p (exec p m) f [] (Nw n)) = true) (hx : Co (ar f p.fs) = false := by rfl) :
  wJ P ⟨n, [], none⟩ (.fn Ck) f := by
 intro φ h w args vals hg H hv hs
 have hsz : n ≤ w.heap.size := by
  cases n with
  | zero => exact Nat.zero_le _
  | succ k =>
   obtain ⟨room, hp⟩ := hg.1 k (Nat.lt_succ_self k)
   have := H.bound _ _ hp
   exact this
 cases hv with
 | cons a v as vs h1 h2 => exact (RT.Safe.err (show (RT.err 400).Safe from hs)).elim
 | nil =>
  refine (KS E m f hn e w hsz hx).mono ?_
  rintro x w' ⟨rfl, h1, h2, h3, h4, h5⟩
  exact ⟨.bool true, h, .bool true, φ, .ok _ _, rfl, .bool _, H.ext h1 h2, .ext h1 h2 h3 h4 h5⟩
end
open Go.ChangeShapes Go.WideShapes
noncomputable section
variable {H : Type} {enc : TypeId × Value → H}
theorem AW {C : Checked} {os : Os} {f : FuncId} {fn : Func} {s : OpenSpec} {conds : List PathCond} {apart : Bool} {laid : List (String × DataW Unit)} (modest : Bool) (w0 : World) (args : Array Value) (hos : w0.os = os)
  (hsh : (w0.forCall (fun _ _ => 0) ⟨#[], args, []⟩).Shaped C.prog)
  (hok : Input.okWideB C.prog (w0.forCall (fun _ _ => 0) ⟨#[], args, []⟩) f ⟨#[], args, []⟩ = true)
  (hrow : s.preRow enc C.prog fn conds apart laid (w0.forCall (fun _ _ => 0) ⟨#[], args, []⟩).memory args) :
  ∃ (w : World) (tape : Tape) (i : Input), w.os = os ∧ (w.forCall tape i).Shaped C.prog ∧ i.vars = [] ∧ Input.okWide C.prog (w.forCall tape i) .any w.heap.size f i ∧
   s.preRow enc C.prog fn conds apart laid (w.forCall tape i).memory i.args ∧ ({ modest := modest } : Assume).holds C.prog (lone (Frame.enter C.prog f i.args .normal) [] (w.forCall tape i)) :=
 ⟨w0, fun _ _ => 0, ⟨#[], args, []⟩, hos, hsh, (Input.okWide_of_okWideB (base := 0) hok).1, (Input.okWide_of_okWideB hok).2, hrow, by
  simp only [Assume.holds]
  exact ⟨by simp, by simp, fun _ => Modest.zero, by simp, by simp⟩⟩
theorem sJ {P : Program} {W : World} (g n : Nat) (hsh : W.ShapedOpen P) (hn : n = g + 1) (hgl : g < P.globals.size)
  (hrow : (((begin P (fun _ _ => 0) default).world.heap[g]?).bind Go.Obj.row?).isSome = true) : n ≤ W.heap.size := by
 obtain ⟨⟨zero, t⟩, hr⟩ := Option.isSome_iff_exists.1 hrow
 obtain ⟨cs, h, _⟩ := hsh.1 g zero t hgl hr
 have := (Array.getElem?_eq_some_iff.1 h).1
 omega
section
variable {P : Program} {w : World} {r : Reach} {b0 : Nat} {t e : TypeId} {k : IntKind} {v : Value}
theorem yi (ht : P.underlying t = some (.slice e)) (h : Value.okWide P w r b0 t v) : v.cells.toList = [v] := by
 obtain ⟨a, n, c, rfl⟩ := okWide_slice ht h
 rfl
theorem Eg (ht : P.underlying t = some (.int k)) (h : Value.okWide P w r b0 t v) : v.cells.toList = [v] := by
 obtain ⟨n, rfl⟩ := okWide_int ht h
 rfl
end
end
end Go.Am
