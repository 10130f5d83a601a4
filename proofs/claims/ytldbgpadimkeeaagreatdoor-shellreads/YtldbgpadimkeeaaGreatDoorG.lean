/- Runs of the abstract machine at arguments that are not known. Conditions: the table of functions is the program's (Env). -/
import Derived.Test.YtldbgpadimkeeaaGreatDoorS1
import Derived.Lib.MakeNoZero
import Derived.Laws.Externs
import Derived.WalkKit
import Derived.ProofKit
import Derived.OpenShut
import Derived.ChangeStays
import Derived.ChangeArms
import Derived.Deep.DeepHandedRow
import Derived.Stop.Joined
set_option linter.all false
namespace Go.Am
variable {P : Program} {φ : aU} {h h' : Hp} {w : World} {v : AV} {r : A2} {cx cy : Value} {G : Gl} {f : Nat} {fn : Func}
theorem BU {args : List AV} {k : AV → RV} (hs : (rR args k).nU.Safe) : ∃ x, args = [x] ∧ rR args k = k x := by
 cases args with
 | nil => exact (RT.Safe.err hs).elim
 | cons a t => cases t with
  | nil => exact ⟨a, rfl, rfl⟩
  | cons b t => exact (RT.Safe.err hs).elim
theorem FG (hf : P.funcs[f]? = some fn) (hname : (fn.name == "runtime.NumGoroutine") = false) (hb : fn.body.isNone = true) (hn : Extern.findNext fn = none) (he : Extern.find fn = some Extern.AbiNoEscape.same) : Cc P G .Fv f := by
 intro φ h w args vals hg H hv hs
 obtain ⟨x, rfl, e⟩ := BU (k := fun x => .ok x h) hs
 cases hv with
 | cons a c as cs h1 h2 =>
  cases h2
  refine ⟨c, w, ?_, x, h, c, φ, .ok _ _, rfl, h1, H, .refl _ _ _⟩
  rw [run_callFunc_extern hf hname hb hn he]
  rfl
open Go.ChangeShapes Go.WideShapes Go.ChangeAt Go.RowKit
theorem MQ {x : RT} (e : eW x = true) : x.Safe ∧ ∀ v h, x.bt (.ok v h) → v = .bool true := by
 have go : ∀ x : RT, eW x = true → ∀ y, x.bt y → ∃ h, y = .ok (.bool true) h := by
  intro x
  induction x with
  | ok v h =>
   intro e y hy
   cases hy
   have e : AV.bN v (fun b => b) false = true := e
   cases v with
   | bool c =>
    have e3 : c = true := e
    rw [e3]
    exact ⟨_, rfl⟩
   | _ => cases e
  | err n => intro e; cases e
  | ch n k ih =>
   intro e y hy
   have e : KR n (fun i => eW (k i)) = true := e
   have hall : ∀ m, KR m (fun i => eW (k i)) = true → ∀ i, i < m → eW (k i) = true := by
    intro m
    induction m with
    | zero => intro _ i hi; omega
    | succ m im =>
     intro e i hi
     have e : (@Bool.rec (fun _ => Bool) false (KR m (fun i => eW (k i))) (eW (k m))) = true := e
     cases hm : eW (k m) with
     | false => rw [hm] at e; cases e
     | true =>
      rw [hm] at e
      rcases Nat.lt_or_ge i m with h | h
      ·exact im e i h
      ·have : i = m := by omega
       subst this; exact hm
   cases hy with
   | ch _ _ c _ hc hl => exact ih c (hall n e c hc) y hl
 refine ⟨fun n hn => ?_, fun v h hl => ?_⟩
 ·obtain ⟨h, e2⟩ := go x e _ hn
  cases e2
 ·obtain ⟨h2, e2⟩ := go x e _ hl
  cases e2
  rfl
theorem MS {W W' : World} {may : MemPlace → Prop} (hb : ∀ b, b < W.heap.size → W'.heap[b]? = W.heap[b]?) (ho : W'.os = W.os) (hu : W'.output = W.output) : W.keptBut W' may := by
 refine ⟨ho, hu, fun i hi => ?_⟩
 rw [hb i hi]
 cases W.heap[i]? with
 | none => rfl
 | some o => cases o <;> first | exact ⟨rfl, rfl, rfl, fun _ _ => rfl⟩ | exact .inr ⟨rfl, rfl⟩ | rfl
noncomputable section
def kT (w : World) (v : Value) : AV := match v with
 | .bool b => .bool b
 | .int k n => .int k n
 | .string s => .str (s.data.toList.map UInt8.toNat)
 | .float k n => .qP k n
 | .complex k a b => .gN k a b
 | .pointer none => .cV
 | .pointer (some ⟨b, o, none⟩) => if b < w.heap.size then .ptr (.eL b o) 0 else .undef
 | .slice none 0 0 => .ai
 | .slice (some ⟨b, o, none⟩) n c => if b < w.heap.size then .slice (.eL b o) 0 n c else if n = 0 ∧ c = 0 then .slice (.eL b o) 0 0 0 else .undef
 | .slice (some ⟨b, o, some _⟩) 0 0 => .slice (.eL b o) 0 0 0
 | _ => .undef
def ug (rc : Array Value) (o : Nat) : Nat := ((rc.toList.drop o).takeWhile Value.oneCell').length
def uh (w : World) (rc : Array Value) (i : Nat) : AV := match rc[i]? with
 | some v => kT w v
 | none => .undef
def Fj (w : World) (b o : Nat) : Obj := match w.heap[b]? with
 | some (.cells rc el _) => if o ≤ rc.size then .cells el (ug rc o) false .ro (.kf (ug rc o) fun k => uh w rc (o + k)) else .dead
 | some _ => .dead
 | none => .none
def lZ (w : World) (b o : Nat) : Nat := match w.heap[b]? with
 | some (.cells rc _ _) => rc.size - o
 | _ => 0
def nW (p : P4) : Nat := match p with
 | .mk a b c d => a.nat * 4096 + b.nat * 256 + c.nat * 16 + d.nat
 | .eL _ _ => 0
def xy (n : Nat) (w : World) : aU := fun i => match i with
 | .eL b o => if b < w.heap.size then some ⟨b, o, lZ w b o⟩ else none
 | .mk a b c d => if nW (.mk a b c d) < n then some ⟨nW (.mk a b c d), 0, lZ w (nW (.mk a b c d)) 0⟩ else none
def Kp (f : Nat → Nat → Obj) (n : Nat) : T4 := Nat.rec (.mk .nil f) (fun j t => dy (P4.of j) .dead t) n
def Al (n : Nat) (w : World) : Hp := .mk (Kp (Fj w) n) (.eL w.heap.size 0)
theorem xf {n : Nat} (h : n < 65536) : nW (P4.of n) = n := by
 show (dG (n / 4096)).nat * 4096 + (dG (n / 256 % 16)).nat * 256 + (dG (n / 16 % 16)).nat * 16 + (dG (n % 16)).nat = n
 rw [fE (by omega), fE (by omega), fE (by omega), fE (by omega)]
 omega
theorem Bu (a b c d : H) : P4.of (nW (.mk a b c d)) = .mk a b c d := by
 have ha := a.fD
 have hb := b.fD
 have hc := c.fD
 have hd := d.fD
 show P4.mk (dG ((a.nat * 4096 + b.nat * 256 + c.nat * 16 + d.nat) / 4096)) (dG ((a.nat * 4096 + b.nat * 256 + c.nat * 16 + d.nat) / 256 % 16)) (dG ((a.nat * 4096 + b.nat * 256 + c.nat * 16 + d.nat) / 16 % 16)) (dG ((a.nat * 4096 + b.nat * 256 + c.nat * 16 + d.nat) % 16)) = _
 rw [show (a.nat * 4096 + b.nat * 256 + c.nat * 16 + d.nat) / 4096 = a.nat by omega, show (a.nat * 4096 + b.nat * 256 + c.nat * 16 + d.nat) / 256 % 16 = b.nat by omega,
  show (a.nat * 4096 + b.nat * 256 + c.nat * 16 + d.nat) / 16 % 16 = c.nat by omega, show (a.nat * 4096 + b.nat * 256 + c.nat * 16 + d.nat) % 16 = d.nat by omega,
  ml, ml, ml, ml]
theorem jy (f : Nat → Nat → Obj) (b o : Nat) : ∀ n, cL (.eL b o) (Kp f n) = f b o
 | 0 => rfl
 | n + 1 => by
  have e : cL (.eL b o) (Kp f (n + 1)) = if P4.eL b o = P4.of n then .dead else cL (.eL b o) (Kp f n) := dq (.eL b o) (P4.of n) .dead (Kp f n)
  rw [e, if_neg (by intro e; cases e), jy f b o n]
theorem mC (f : Nat → Nat → Obj) (a b c d : H) : ∀ n, n ≤ 65536 → cL (.mk a b c d) (Kp f n) = if nW (.mk a b c d) < n then .dead else .none
 | 0, _ => by
  rw [if_neg (by omega)]
  show O1.get d (O2.get c (O3.get b (O4.get a .nil))) = _
  rw [O4.get_nil, O3.get_nil, O2.get_nil, O1.get_nil]
 | m + 1, hm => by
  have e : cL (.mk a b c d) (Kp f (m + 1)) = if P4.mk a b c d = P4.of m then .dead else cL (.mk a b c d) (Kp f m) := dq (.mk a b c d) (P4.of m) .dead (Kp f m)
  rw [e, mC f a b c d m (by omega)]
  by_cases h : P4.mk a b c d = P4.of m
  ·rw [if_pos h, h, xf (by omega), if_pos (by omega)]
  ·rw [if_neg h]
   have h1 : nW (.mk a b c d) ≠ m := fun e => h (by rw [← e, Bu])
   by_cases h2 : nW (.mk a b c d) < m
   ·rw [if_pos h2, if_pos (by omega)]
   ·rw [if_neg h2, if_neg (by omega)]
theorem pd (n : Nat) (w : World) (b o : Nat) : ah (.eL b o) (Al n w) = Fj w b o := jy _ b o n
theorem Ah {n : Nat} {w : World} {i : P4} (hn : n ≤ 65536) (h : live (ah i (Al n w))) : ∃ b o rc el fz, i = .eL b o ∧ w.heap[b]? = some (.cells rc el fz) ∧ o ≤ rc.size ∧
  ah i (Al n w) = .cells el (ug rc o) false .ro (.kf (ug rc o) fun k => uh w rc (o + k)) := by
 cases i with
 | mk a b c d =>
  have e : ah (.mk a b c d) (Al n w) = if nW (.mk a b c d) < n then .dead else .none := mC _ a b c d n hn
  rw [e] at h
  split at h
  ·exact absurd rfl h.2
  ·exact absurd rfl h.1
 | eL b o =>
  rw [pd] at h ⊢
  unfold Fj at h ⊢
  split at h
  ·rename_i rc el fz hb
   split at h
   ·rename_i ho
    exact ⟨b, o, rc, el, fz, rfl, hb, ho, if_pos ho⟩
   ·exact absurd rfl h.2
  ·exact absurd rfl h.2
  ·exact absurd rfl h.1
theorem BV {n : Nat} {w : World} {i : P4} (hn : n ≤ 65536) : ¬ wl (ah i (Al n w)) := by
 intro h
 obtain ⟨_, _, _, _, _, _, _, _, e⟩ := Ah hn h.1
 rw [e] at h
 cases h.2
theorem Dz (n : Nat) (w : World) (v : Value) : VR (xy n w) (kT w v) v := by
 unfold kT
 split
 ·exact .bool _
 ·exact .int _ _
 ·exact .str _ _ rfl
 ·exact .qP _ _
 ·exact .gN _ _ _
 ·exact .cV
 ·rename_i b o
  split
  ·rename_i hb
   have h : xy n w (.eL b o) = some ⟨b, o, lZ w b o⟩ := if_pos hb
   have := VR.ptr (φ := xy n w) _ 0 _ h
   simpa [Place.addr] using this
  ·exact .undef _
 ·exact .ai
 ·rename_i b o k c
  split
  ·rename_i hb
   have h : xy n w (.eL b o) = some ⟨b, o, lZ w b o⟩ := if_pos hb
   have := VR.slice (φ := xy n w) _ 0 k c _ h
   simpa [Place.addr] using this
  ·split
   ·rename_i h0
    obtain ⟨rfl, rfl⟩ := h0
    exact .gH _ _ _
   ·exact .undef _
 ·exact .gH _ _ _
 ·exact .undef _
theorem pe {p : Value → Bool} : ∀ (l : List Value) (k : Nat), k < (l.takeWhile p).length → ∃ v, l[k]? = some v ∧ p v = true
 | [], k, h => by simp at h
 | a :: l, k, h => by
  rw [List.takeWhile_cons] at h
  split at h
  ·rename_i ha
   cases k with
   | zero => exact ⟨a, rfl, ha⟩
   | succ k =>
    obtain ⟨v, h1, h2⟩ := pe l k (by simpa using h)
    exact ⟨v, by simpa using h1, h2⟩
  ·simp at h
theorem pf {p : Value → Bool} : ∀ (l : List Value) (m : Nat), (∀ k, k < m → ∃ v, l[k]? = some v ∧ p v = true) → m ≤ (l.takeWhile p).length
 | _, 0, _ => Nat.zero_le _
 | [], m + 1, h => by
  obtain ⟨v, h1, _⟩ := h 0 (by omega)
  simp at h1
 | a :: l, m + 1, h => by
  obtain ⟨v, h1, h2⟩ := h 0 (by omega)
  simp at h1
  subst h1
  rw [List.takeWhile_cons, if_pos h2]
  have := pf (p := p) l m fun k hk => by
   obtain ⟨v, g1, g2⟩ := h (k + 1) (by omega)
   exact ⟨v, by simpa using g1, g2⟩
  simpa using this
theorem MT {rc : Array Value} {o k : Nat} (h : k < ug rc o) : ∃ v, rc[o + k]? = some v ∧ v.oneCell' = true := by
 obtain ⟨v, h1, h2⟩ := pe _ _ h
 rw [List.getElem?_drop] at h1
 exact ⟨v, by simpa using h1, h2⟩
theorem MU {rc : Array Value} {o m : Nat} (h : ∀ k, k < m → ∃ v, rc[o + k]? = some v ∧ v.oneCell' = true) : m ≤ ug rc o := by
 refine pf _ _ fun k hk => ?_
 obtain ⟨v, h1, h2⟩ := h k hk
 exact ⟨v, by rw [List.getElem?_drop]; simpa using h1, h2⟩
theorem MV {rc : Array Value} {o : Nat} : ug rc o ≤ rc.size - o := by
 unfold ug
 refine Nat.le_trans (List.takeWhile_sublist _).length_le ?_
 simp
theorem TU (n : Nat) (w : World) (hn : n ≤ 65536) (hs : n ≤ w.heap.size) : HR (xy n w) (Al n w) w where
 obj i hl := by
  obtain ⟨b, o, rc, el, fz, rfl, hb, ho, e⟩ := Ah hn hl
  have hbs : b < w.heap.size := (Array.getElem?_eq_some_iff.1 hb).1
  have hr : lZ w b o = rc.size - o := by unfold lZ; rw [hb]
  refine ⟨⟨b, o, lZ w b o⟩, if_pos hbs, ?_⟩
  rw [e]
  refine ⟨rc, fz, hb, by simp only [hr]; omega, by simp only [hr]; exact MV, (fun h => by cases h), Nat.le_refl _, fun k hk => ?_, trivial⟩
  obtain ⟨v, h1, h2⟩ := MT hk
  refine ⟨v, h1, ?_, h2⟩
  show VR _ (uh w rc (o + k)) v
  unfold uh
  rw [h1]
  exact Dz n w v
 inj i j p q hi hj hw := hw.elim (fun h => absurd h (BV hn)) (fun h => absurd h (BV hn))
 fresh i hi := by
  cases i with
  | mk a b c d =>
   have e : ah (.mk a b c d) (Al n w) = if nW (.mk a b c d) < n then .dead else .none := mC _ a b c d n hn
   rw [e] at hi
   split at hi
   ·cases hi
   ·rename_i h
    exact if_neg h
  | eL b o =>
   rw [pd] at hi
   unfold Fj at hi
   split at hi
   ·split at hi <;> cases hi
   ·cases hi
   ·rename_i hb
    have : ¬ b < w.heap.size := by
     have := Array.getElem?_eq_none_iff.1 hb
     omega
    exact if_neg this
 bound i p hp := by
  cases i with
  | mk a b c d =>
   have hp : (if nW (.mk a b c d) < n then some (Place.mk (nW (.mk a b c d)) 0 (lZ w (nW (.mk a b c d)) 0)) else none) = some p := hp
   split at hp
   ·cases hp
    show nW (.mk a b c d) < w.heap.size
    omega
   ·cases hp
  | eL b o =>
   have hp : (if b < w.heap.size then some (Place.mk b o (lZ w b o)) else none) = some p := hp
   split at hp
   ·cases hp; assumption
   ·cases hp
theorem Sk {n : Nat} {w : World} (hn : n ≤ 65536) : mF ⟨n, [], none⟩ (xy n w) := by
 refine ⟨fun g hg => ⟨lZ w g 0, ?_⟩, fun x hx => by cases hx⟩
 have hg : g < n := hg
 have e : xy n w (P4.of g) = if nW (P4.of g) < n then some ⟨nW (P4.of g), 0, lZ w (nW (P4.of g)) 0⟩ else none := rfl
 rw [e, xf (by omega), if_pos hg]
theorem MP {P : Program} {names : List String} {p : Pg} {n : Nat} (E : Env P ⟨n, [], none⟩ names p) (m f : Nat) (vs : List Value) (w : World) (hn : n ≤ 65536) (hs : n ≤ w.heap.size) (h' : Hp)
  (e : aB p (exec p m) f (vs.map (kT w)) (Al n w) = .ok (.bool true) h') (hx : CF (ak f p.fs) = false := by rfl) :
  Calls P f vs.toArray w fun e w' => e = .returned (.bool true) ∧ w.heap.size ≤ w'.heap.size ∧ (∀ b, b < w.heap.size → w'.heap[b]? = w.heap[b]?) ∧ w'.os = w.os ∧ w'.output = w.output := by
 have hv : cU (xy n w) (vs.map (kT w)) vs := cU.Ba (by simp) fun k h1 h2 => by
  rw [List.getElem_map]
  exact Dz n w _
 refine (CT E m f (vs.map (kT w)) vs (Sk hn) (TU n w hn hs) hv (by rw [e]; intro q hq; cases hq) (CG hx)).mono ?_
 rintro e' w' ⟨v, h2, cv, φ', hl, rfl, hvv, _, T⟩
 rw [e] at hl
 cases hl
 cases hvv
 exact ⟨rfl, T.keeps.size, fun b hb => T.keeps.rest b hb fun i p hl => absurd hl (BV hn), T.keeps.os, T.keeps.output⟩
def Cs (h : Hp) (p : P4) (o : Nat) (l : List AV) : Prop := ∃ el n ex fl c, ah p h = .cells el n ex fl c ∧ o + l.length ≤ n ∧ ∀ k (hk : k < l.length), eP (o + k) c = l[k]
theorem ui {w : World} {a : Addr} {v : Value} (h : w.cell? a = some v) : a.spot = none ∧ ∃ rc el fz, w.heap[a.block]? = some (.cells rc el fz) ∧ rc[a.off]? = some v := by
 unfold World.cell? at h
 split at h
 ·rename_i c el fz hb
  split at h
  ·cases h
  ·rename_i hsp
   exact ⟨by cases hh : a.spot with | none => rfl | some _ => rw [hh] at hsp; simp at hsp, c, el, fz, hb, h⟩
 ·cases h
theorem Sl {w : World} {n : Nat} {b o m : Nat} {vs : List Value} (hv : ∀ k (hk : k < vs.length), w.cell? ⟨b, o + m + k, none⟩ = some vs[k]) (h1 : ∀ v, v ∈ vs → v.oneCell' = true)
  (hpre : ∀ k, k < m → ∃ v, w.cell? ⟨b, o + k, none⟩ = some v ∧ v.oneCell' = true) (h0 : vs ≠ []) : Cs (Al n w) (.eL b o) m (vs.map (kT w)) := by
 have hpos : 0 < vs.length := by cases vs with | nil => exact absurd rfl h0 | cons _ _ => simp
 obtain ⟨_, rc, el, fz, hb, g0⟩ := ui (hv 0 hpos)
 have hat : ∀ k v, w.cell? ⟨b, k, none⟩ = some v → rc[k]? = some v := fun k v h => by
  obtain ⟨_, rc2, el2, fz2, hb2, g⟩ := ui h
  have hb2 : w.heap[b]? = some (.cells rc2 el2 fz2) := hb2
  rw [hb] at hb2
  cases hb2
  exact g
 have hlt : o + m < rc.size := by
  have := (Array.getElem?_eq_some_iff.1 g0).1
  simpa using this
 have hrun : m + vs.length ≤ ug rc o := MU fun k hk => by
  rcases Nat.lt_or_ge k m with g | g
  ·obtain ⟨v, e1, e2⟩ := hpre k g
   exact ⟨v, hat _ _ e1, e2⟩
  ·refine ⟨vs[k - m]'(by omega), ?_, h1 _ (List.getElem_mem _)⟩
   have := hat _ _ (hv (k - m) (by omega))
   rwa [show o + m + (k - m) = o + k by omega] at this
 refine ⟨el, ug rc o, false, .ro, .kf (ug rc o) fun k => uh w rc (o + k), ?_, by simpa using hrun, fun k hk => ?_⟩
 ·rw [pd]
  unfold Fj
  rw [hb]
  simp only
  rw [if_pos (by omega)]
 ·have hk' : k < vs.length := by simpa using hk
  show uh w rc (o + (m + k)) = _
  unfold uh
  rw [← Nat.add_assoc, hat _ _ (hv k hk'), List.getElem_map]
end
open Go.ChangeShapes
noncomputable section
section
variable {P : Program}
def gC (P : Program) : List Field → Nat → Bool
 | [], _ => true
 | f :: fs, o => (f.offset == o) && gC P fs (o + P.cellsOf f.type)
def gj (P : Program) : List Field → Nat
 | [] => 0
 | f :: fs => P.cellsOf f.type + gj P fs
def xz (P : Program) (l : List TypeId) (t : TypeId) : Bool := match P.underlying t with
 | some .bool => P.cellsOf t == 1
 | some (.int _) => P.cellsOf t == 1
 | some .string => P.cellsOf t == 1
 | some (.slice e) => (P.cellsOf t == 1) && (l.contains e && Nat.blt 0 (P.cellsOf e))
 | some (.struct fs) => (fs.toList.all fun f => l.contains f.type) && (P.cellsOf t == gj P fs.toList) && gC P fs.toList 0
 | _ => false
def uf (P : Program) (l : List TypeId) : Bool := l.all (xz P l)
theorem ph : ∀ fs : List Field, gj P fs = (fs.map fun f => P.cellsOf f.type).sum
 | [] => rfl
 | f :: fs => by simp [gj, ph fs]
theorem qN : ∀ (fs : List Field) (o : Nat), gC P fs o = true → ∀ (j : Nat) f, fs[j]? = some f → f.offset = o + ((fs.take j).map fun f => P.cellsOf f.type).sum
 | [], _, _, j, f, h => by simp at h
 | g :: fs, o, e, 0, f, h => by
  simp only [gC, Bool.and_eq_true, beq_iff_eq] at e
  simp at h
  subst h
  simpa using e.1
 | g :: fs, o, e, j + 1, f, h => by
  simp only [gC, Bool.and_eq_true, beq_iff_eq] at e
  have := qN fs _ e.2 j f (by simpa using h)
  rw [this]
  simp
  omega
theorem nS {l : List TypeId} (h : uf P l = true) {t : TypeId} (ht : t ∈ l) : xz P l t = true := List.all_eq_true.1 h t ht
theorem MW {l : List TypeId} (h : uf P l = true) : Kids P (· ∈ l) where
 pointer {t e} ht hu := by
  have := nS h ht
  simp [xz, hu] at this
 slice {t e} ht hu := by
  have := nS h ht
  simp only [xz, hu, Bool.and_eq_true] at this
  simpa using this.2.1
 array {t e n} ht hu := by
  have := nS h ht
  simp [xz, hu] at this
 struct {t fs} ht hu := by
  have := nS h ht
  simp only [xz, hu, Bool.and_eq_true, List.all_eq_true, beq_iff_eq] at this
  obtain ⟨⟨h1, h2⟩, h3⟩ := this
  refine ⟨fun f hf => by simpa using h1 f hf, by rw [h2, ph], fun j f hf => ?_⟩
  have := qN _ _ h3 j f hf
  omega
 map {t k e} ht hu := by
  have := nS h ht
  simp [xz, hu] at this
theorem Ai {l : List TypeId} (h : uf P l = true) : ∀ {t e : TypeId}, t ∈ l → P.underlying t = some (.slice e) → 0 < P.cellsOf e := by
 intro t e ht hu
 have := nS h ht
 simp only [xz, hu, Bool.and_eq_true] at this
 have h2 : Nat.ble 1 (P.cellsOf e) = true := this.2.2
 exact Nat.le_of_ble_eq_true h2
theorem pj {H : Type} {enc : TypeId × Value → H} {W W' : World} {l : List TypeId} (hk : uf P l = true) (hb : ∀ b, b < W.heap.size → W'.heap[b]? = W.heap[b]?) {sp : Nat → Bool} : ∀ {ts : List TypeId} {vs : List Value} {ds : List (DataW H)} {ps : List MemPlace},
  (∀ t, t ∈ ts → t ∈ l) → DataW.TrodAll enc P W 0 (fun _ => true) true ts vs ds ps → (∀ p, p ∈ ps → sp p.block = true) → DataW.TrodAll enc P W' 0 sp true ts vs ds ps
 | [], [], [], _, _, h, _ => h
 | t :: ts, v :: vs, d :: ds, _, hT, ⟨p, q, ⟨n, h1⟩, h2, rfl⟩, hs => by
  refine ⟨p, q, ⟨n, ?_⟩, pj hk hb (fun t ht => hT t (by simp [ht])) h2 (fun x hx => hs x (by simp [hx])), rfl⟩
  refine DataW.trod_stays (MW hk) (Ai hk) (fun h => by cases h) (hT t (by simp)) h1 (fun x hx => ?_) (fun x hx => hs x (by simp [hx]))
  have hlt := DataW.trod_lt n t _ _ h1 x hx
  cases x with
  | cell b off =>
   show W'.cell? ⟨b, off, none⟩ = W.cell? ⟨b, off, none⟩
   unfold World.cell?
   rw [hb b hlt]
  | map b => exact hb b hlt
 | [], _ :: _, _, _, _, h, _ => by cases h
 | [], [], _ :: _, _, _, h, _ => by cases h
 | _ :: _, [], _, _, _, h, _ => by cases h
 | _ :: _, _ :: _, [], _, _, h, _ => by cases h
theorem EV {H : Type} {enc : TypeId × Value → H} {f : Func} {s : ChangeSpec} {apart fresh handsOn again : Bool} {W W' : World} {v : Value} {args : Array Value} {ds : List (DataW H)} {before : List MemPlace} {l : List TypeId}
  (hW : DataW.Whole enc P f.params.toList s.vars apart W args.toList ds [] before) (hvs : s.vars = [])
  (hres : ∀ (b : Nat) (sp : Nat → Bool) (hd : Bool), DataW.TrodAll enc P W' b sp hd f.resultTypes.toList (v.resultList f.resultTypes.size) (s.fn H ds).results [])
  (ha : (s.fn H ds).args = ds) (hg : (s.fn H ds).vars = []) (hk : uf P l = true) (hT : ∀ t, t ∈ f.params.toList → t ∈ l)
  (hb : ∀ b, b < W.heap.size → W'.heap[b]? = W.heap[b]?) (ho : W'.os = W.os) (hu : W'.output = W.output)
  (hok : ∀ (j : Nat) (t : TypeId) (r : Value), f.resultTypes[j]? = some t → (v.resultList f.resultTypes.size)[j]? = some r → Value.okWide P W' .any 0 t r) :
  s.post enc P f apart fresh handsOn again W args v W' := by
 have hlt := fun p hp => hW.lt p hp
 have hW0 := hW
 obtain ⟨p, q, hA, hV, rfl, hz, hn⟩ := hW0
 have hq : q = [] := by
  rw [hvs] at hV
  exact hV
 subst hq
 have hre : ∀ sp : Nat → Bool, (∀ x, x ∈ p → sp x.block = true) → DataW.TrodAll enc P W' 0 sp true f.params.toList args.toList ds p := fun sp hs => pj hk hb hT hA hs
 have hvars : ∀ sp : Nat → Bool, DataW.TrodVars enc P W' sp s.vars ([] : List (DataW H)) [] := fun sp => by rw [hvs]; rfl
 refine ⟨ds, [], p ++ [], [], p, [], hW, by rw [List.append_nil]; exact hres _ _ _, by rw [List.append_nil, ha]; exact hre _ (fun x hx => by simpa using hlt x (by simp [hx])), by rw [List.append_nil, hg]; exact hvars _,
  MS hb ho hu, fun _ => ?_⟩
 refine ⟨hok, (s.fn H ds).results ++ ds, [], ([] ++ p) ++ [], ⟨[] ++ p, [], trodAll_append (hre _ (fun _ _ => rfl)) (hres _ _ _), hvars _, rfl, ?_, ?_⟩, ?_⟩
 ·intro b off hp
  have hp' : MemPlace.cell b off ∈ p ++ [] := by simpa using hp
  have := hz b off hp'
  have hl := hlt _ hp'
  unfold World.frozen? at this ⊢
  rw [hb b hl]
  exact this
 ·intro h
  have := hn h
  simpa using this
 ·intro x hx _
  simpa using hx
def fO {H : Type} (P : Program) (h : Hp) (rec : TypeId → List AV → DataW H → Prop) (t : TypeId) (cs : List AV) (d : DataW H) : Prop := match P.underlying t with
 | some .bool => ∃ b, cs = [.bool b] ∧ d = .lit (.bool b)
 | some (.int k) => ∃ z, cs = [.int k z] ∧ d = .lit (.int k z) ∧ (Lit.int k z).wf = true
 | some .string => ∃ s : List UInt8, cs = [.str (s.map UInt8.toNat)] ∧ d = .lit (.string s)
 | some (.slice e) => (cs = [.ai] ∧ d = .nil) ∨ ∃ (p : P4) (cap : Nat) (elems rest : List (DataW H)) (ls : List (List AV)), cs = [.slice p 0 elems.length cap] ∧ elems.length ≤ cap ∧ d = .slice elems rest ∧ ls.length = elems.length ∧
   ∀ i (hi : i < elems.length) (hi' : i < ls.length), Cs h p (i * P.cellsOf e) ls[i] ∧ ls[i].length = P.cellsOf e ∧ rec e ls[i] elems[i]
 | some (.struct fs) => ∃ (parts : List (DataW H)) (ls : List (List AV)), cs = ls.flatten ∧ d = .agg parts ∧ parts.length = fs.size ∧ ls.length = fs.size ∧
   ∀ (i : Nat) (f : Field), fs[i]? = some f → ∃ l p, ls[i]? = some l ∧ parts[i]? = some p ∧ l.length = P.cellsOf f.type ∧ rec f.type l p
 | _ => False
def qc {H : Type} (P : Program) (h : Hp) (n : Nat) : TypeId → List AV → DataW H → Prop := Nat.rec (fun _ _ _ => False) (fun _ ih => fO P h ih) n
def qi (P : Program) : List Field → List Value → List (List Value)
 | [], _ => []
 | f :: fs, cs => cs.take (P.cellsOf f.type) :: qi P fs (cs.drop (P.cellsOf f.type))
theorem qO : ∀ (fs : List Field) (cs : List Value), (qi P fs cs).length = fs.length
 | [], _ => rfl
 | _ :: fs, _ => by simp [qi, qO fs]
theorem vZ : ∀ (fs : List Field) (cs : List Value), cs.length = gj P fs → (qi P fs cs).flatten = cs
 | [], cs, h => by
  simp only [gj, List.length_eq_zero_iff] at h
  simp [qi, h]
 | f :: fs, cs, h => by
  simp only [gj] at h
  simp only [qi, List.flatten_cons]
  rw [vZ fs _ (by simp; omega), List.take_append_drop]
theorem DA : ∀ (fs : List Field) (cs : List Value) (o : Nat), gC P fs o = true → ∀ (all : List Value), cs = all.drop o → ∀ (j : Nat) f, fs[j]? = some f → (qi P fs cs)[j]? = some ((all.drop f.offset).take (P.cellsOf f.type))
 | [], _, _, _, _, _, j, f, h => by simp at h
 | g :: fs, cs, o, e, all, hc, 0, f, h => by
  simp only [gC, Bool.and_eq_true, beq_iff_eq] at e
  simp at h
  subst h
  simp [qi, e.1, hc]
 | g :: fs, cs, o, e, all, hc, j + 1, f, h => by
  simp only [gC, Bool.and_eq_true, beq_iff_eq] at e
  simp only [qi, List.getElem?_cons_succ]
  refine DA fs _ _ e.2 all ?_ j f (by simpa using h)
  rw [hc, List.drop_drop]
theorem add_zero (a : Addr) : a.add 0 = a := by simp [Addr.add]
theorem Ke {a : Addr} (h : a.spot = none) (k : Nat) : a.add k = ⟨a.block, a.off + k, none⟩ := by
 unfold Addr.add
 split
 ·rename_i hk
  subst hk
  cases a
  simp_all
 ·rfl
theorem BW {w : World} {a : Addr} {n c : Nat} (h : (a.spot = none ∧ a.block < w.heap.size) ∨ (n = 0 ∧ c = 0)) : kT w (.slice (some a) n c) = .slice (.eL a.block a.off) 0 n c := by
 obtain ⟨b, o, s⟩ := a
 cases s with
 | none =>
  show (if b < w.heap.size then AV.slice (.eL b o) 0 n c else if n = 0 ∧ c = 0 then .slice (.eL b o) 0 0 0 else .undef) = .slice (.eL b o) 0 n c
  split
  ·rfl
  ·rename_i hb
   rcases h with ⟨_, h⟩ | ⟨rfl, rfl⟩
   ·exact absurd h hb
   ·rw [if_pos ⟨rfl, rfl⟩]
 | some s =>
  rcases h with ⟨h, _⟩ | ⟨rfl, rfl⟩
  ·cases h
  ·rfl
theorem Kf {w : World} {b o m n : Nat} {cs : List Value} (h : w.cells? 0 ⟨b, o + m, none⟩ n = some cs) : cs.length = n ∧ ∀ k (hk : k < cs.length), w.cell? ⟨b, o + m + k, none⟩ = some cs[k] := by
 obtain ⟨_, hl, hc⟩ := World.cells?_some h
 refine ⟨hl, fun k hk => ?_⟩
 have := hc k (by omega)
 rw [Ke rfl, List.getElem?_eq_getElem hk] at this
 exact this
theorem reads {H : Type} {enc : TypeId × Value → H} {w : World} {g : Nat} {sp : Nat → Bool} {held : Bool} {l : List TypeId} (hk : uf P l = true) (hsp : ∀ b, sp b = true) : ∀ (n : Nat) (t : TypeId) (cs : List Value) (x : DataW H × List MemPlace), t ∈ l →
  DataW.trod enc P w 0 sp held n t cs = some x → qc P (Al g w) n t (cs.map (kT w)) x.1 ∧ (∀ v, v ∈ cs → v.oneCell' = true) ∧ cs.length = P.cellsOf t
 | 0, t, cs, x, _, h => by simp [DataW.trod] at h
 | n + 1, t, cs, x, ht, h => by
  have hkd := nS hk ht
  show fO P (Al g w) (qc P (Al g w) n) t (cs.map (kT w)) x.1 ∧ _
  unfold xz at hkd
  split at hkd
  ·rename_i hu
   obtain ⟨b, rfl, rfl⟩ := DataW.trod_bool hu h
   refine ⟨?_, fun v hv => ?_, by simpa using (beq_iff_eq.1 hkd).symm⟩
   ·unfold fO; rw [hu]
    exact ⟨b, rfl, rfl⟩
   ·simp at hv; rw [hv]; rfl
  ·rename_i k hu
   obtain ⟨z, rfl, rfl, hw⟩ := DataW.trod_int hu h
   refine ⟨?_, fun v hv => ?_, by simpa using (beq_iff_eq.1 hkd).symm⟩
   ·unfold fO; rw [hu]
    exact ⟨z, rfl, rfl, hw⟩
   ·simp at hv; rw [hv]; rfl
  ·rename_i hu
   obtain ⟨s, rfl, rfl, hs⟩ := DataW.trod_string hu h
   refine ⟨?_, fun v hv => ?_, by simpa using (beq_iff_eq.1 hkd).symm⟩
   ·unfold fO; rw [hu]
    exact ⟨s.data.toList, rfl, rfl⟩
   ·simp at hv; rw [hv]; rfl
  ·rename_i e hu
   simp only [Bool.and_eq_true] at hkd
   obtain ⟨h1, h2, h3⟩ := hkd
   have hes : 0 < P.cellsOf e := Ai hk ht hu
   have hel : e ∈ l := by simpa using h2
   rcases DataW.trod_slice hu h with ⟨rfl, rfl⟩ | ⟨a, len, cap, elems, rest, m, hm, rfl, rfl, hb0, hle, hmax, hlen, hat, hrest, _⟩
   ·refine ⟨?_, fun v hv => ?_, by simpa using (beq_iff_eq.1 h1).symm⟩
    ·unfold fO; rw [hu]
     exact .inl ⟨rfl, rfl⟩
    ·simp at hv; rw [hv]; rfl
   ·obtain rfl : n = m := by omega
    obtain ⟨hr1, hr2⟩ := hrest (hsp _)
    have hval : (a.spot = none ∧ a.block < w.heap.size) ∨ (len = 0 ∧ cap = 0) := by
     rcases Nat.eq_zero_or_pos cap with hc | hc
     ·exact .inr ⟨by omega, hc⟩
     ·left
      have h0 : ∃ c0, w.cells? 0 a (P.cellsOf e) = some c0 := by
       rcases Nat.eq_zero_or_pos len with hz | hz
       ·have := hr2 0 (by omega)
        rw [List.getElem?_eq_getElem (by omega), Option.bind_eq_some_iff] at this
        obtain ⟨c0, g1, _⟩ := this
        refine ⟨c0, ?_⟩
        rw [hz, Nat.zero_add, Nat.zero_mul, add_zero] at g1
        exact g1
       ·have := hat 0 hz
        rw [List.getElem?_eq_getElem (by omega), Option.bind_eq_some_iff] at this
        obtain ⟨c0, g1, _⟩ := this
        refine ⟨c0, ?_⟩
        rw [Nat.zero_mul, add_zero] at g1
        exact g1
      obtain ⟨c0, g⟩ := h0
      obtain ⟨_, g1, g2⟩ := World.cells?_some g
      have := g2 0 hes
      rw [add_zero, List.getElem?_eq_getElem (by omega)] at this
      obtain ⟨s1, rc, el, fz, s2, _⟩ := ui this
      exact ⟨s1, (Array.getElem?_eq_some_iff.1 s2).1⟩
    have E : ∀ i, i < len → ∃ ci, (w.cells? 0 (a.add (i * P.cellsOf e)) (P.cellsOf e)) = some ci ∧ ∃ y, elems[i]? = some y ∧ DataW.trod enc P w 0 sp held n e ci = some y := fun i hi => by
     have := hat i hi
     have he : elems[i]? = some (elems[i]'(by omega)) := List.getElem?_eq_getElem (by omega)
     rw [he, Option.bind_eq_some_iff] at this
     obtain ⟨ci, g1, g2⟩ := this
     exact ⟨ci, g1, _, he, g2⟩
    have E2 : ∀ i, i < len → ∃ ci, (w.cells? 0 (a.add (i * P.cellsOf e)) (P.cellsOf e)).getD [] = ci ∧ (∀ k (hk : k < ci.length), w.cell? ⟨a.block, a.off + i * P.cellsOf e + k, none⟩ = some ci[k]) ∧ ci.length = P.cellsOf e ∧ (∀ v, v ∈ ci → v.oneCell' = true) ∧
      ∃ y, elems[i]? = some y ∧ qc P (Al g w) n e (ci.map (kT w)) y.1 := fun i hi => by
     obtain ⟨ci, g1, y, g2, g3⟩ := E i hi
     have hs : a.spot = none := (hval.resolve_right (by omega)).1
     obtain ⟨r1, r2, r3⟩ := reads hk hsp n e ci y hel g3
     have g4 := g1
     rw [Ke hs] at g4
     exact ⟨ci, by rw [g1]; rfl, (Kf g4).2, r3, r2, y, g2, r1⟩
    refine ⟨?_, fun v hv => ?_, by simpa using (beq_iff_eq.1 h1).symm⟩
    ·unfold fO; rw [hu]
     refine .inr ⟨.eL a.block a.off, cap, elems.map (·.1), rest.map (·.1), (List.range len).map fun i => ((w.cells? 0 (a.add (i * P.cellsOf e)) (P.cellsOf e)).getD []).map (kT w), ?_, by rw [List.length_map, hlen]; exact hle, rfl, by simp [hlen], fun i hi hi' => ?_⟩
     ·simp only [List.map_cons, List.map_nil, List.length_map, hlen]
      rw [BW hval]
     ·have hil : i < len := by simpa [hlen] using hi
      obtain ⟨ci, e1, e2, e3, e4, y, e5, e6⟩ := E2 i hil
      have hci : ((List.range len).map fun i => ((w.cells? 0 (a.add (i * P.cellsOf e)) (P.cellsOf e)).getD []).map (kT w))[i] = ci.map (kT w) := by
       simp only [List.getElem_map, List.getElem_range, e1]
      have hy : (elems.map (·.1))[i] = y.1 := by
       rw [List.getElem_map]
       have := (List.getElem?_eq_some_iff.1 e5).2
       rw [this]
      rw [hci, hy]
      refine ⟨?_, by simpa using e3, e6⟩
      have hs : a.spot = none := (hval.resolve_right (by omega)).1
      refine Sl e2 e4 (fun k hk => ?_) (by intro h0; rw [h0] at e3; simp at e3; omega)
      have hq : k / P.cellsOf e < i := Nat.div_lt_of_lt_mul (by rw [Nat.mul_comm]; exact hk)
      obtain ⟨cj, f1, f2, f3, f4, _⟩ := E2 (k / P.cellsOf e) (by omega)
      have hmod := Nat.mod_lt k hes
      have hdm := Nat.div_add_mod k (P.cellsOf e)
      rw [Nat.mul_comm] at hdm
      refine ⟨cj[k % P.cellsOf e]'(by omega), ?_, f4 _ (List.getElem_mem _)⟩
      have := f2 (k % P.cellsOf e) (by omega)
      rwa [show a.off + k / P.cellsOf e * P.cellsOf e + k % P.cellsOf e = a.off + k by omega] at this
    ·simp at hv; rw [hv]; rfl
  ·rename_i fs hu
   simp only [Bool.and_eq_true, List.all_eq_true, beq_iff_eq] at hkd
   obtain ⟨⟨h1, h2⟩, h3⟩ := hkd
   obtain ⟨xs, m, hm, rfl, hlen, hxl, hf⟩ := DataW.trod_struct hu h
   obtain rfl : n = m := by omega
   have C : ∀ (i : Nat) (f : Field), fs[i]? = some f → ∃ ch y, (qi P fs.toList cs)[i]? = some ch ∧ xs[i]? = some y ∧ qc P (Al g w) n f.type (ch.map (kT w)) y.1 ∧ (∀ v, v ∈ ch → v.oneCell' = true) ∧ ch.length = P.cellsOf f.type := fun i f hfi => by
    have hfi' : fs.toList[i]? = some f := by simpa using hfi
    have e1 := DA fs.toList cs 0 h3 cs (by simp) i f hfi'
    have hi : i < xs.length := by rw [hxl]; exact (Array.getElem?_eq_some_iff.1 hfi).1
    have e2 := hf i f hfi
    rw [List.getElem?_eq_getElem hi] at e2
    have hft : f.type ∈ l := by
     have := h1 f (List.mem_of_getElem? hfi')
     simpa using this
    obtain ⟨r1, r2, r3⟩ := reads hk hsp n f.type _ _ hft e2
    exact ⟨_, _, e1, List.getElem?_eq_getElem hi, r1, r2, r3⟩
   have hflat : (qi P fs.toList cs).flatten = cs := vZ _ _ (by rw [hlen, h2])
   have hcl : (qi P fs.toList cs).length = fs.size := by rw [qO]; simp
   refine ⟨?_, fun v hv => ?_, hlen⟩
   ·unfold fO; rw [hu]
    refine ⟨xs.map (·.1), (qi P fs.toList cs).map (List.map (kT w)), ?_, rfl, by simp [hxl], by simp [hcl], fun i f hfi => ?_⟩
    ·rw [← List.map_flatten, hflat]
    ·obtain ⟨ch, y, c1, c2, c3, c4, c5⟩ := C i f hfi
     exact ⟨ch.map (kT w), y.1, by rw [List.getElem?_map, c1]; rfl, by rw [List.getElem?_map, c2]; rfl, by simpa using c5, c3⟩
   ·rw [← hflat] at hv
    obtain ⟨ch, hch, hv⟩ := List.mem_flatten.1 hv
    obtain ⟨i, hi, rfl⟩ := List.getElem_of_mem hch
    have hfi : fs[i]? = some (fs[i]'(by omega)) := Array.getElem?_eq_getElem (by omega)
    obtain ⟨ch2, y, c1, c2, c3, c4, c5⟩ := C i _ hfi
    rw [List.getElem?_eq_getElem hi] at c1
    cases c1
    exact c4 v hv
  ·cases hkd
end
end
noncomputable section
def Ev (Q : Nat → Prop) : Prop := ∃ n, ∀ m, n ≤ m → Q m
theorem Ev.all {Q : Nat → Prop} (h : ∀ m, Q m) : Ev Q := ⟨0, fun m _ => h m⟩
theorem Ev.mono {Q R : Nat → Prop} (h : Ev Q) (g : ∀ m, Q m → R m) : Ev R := let ⟨n, h⟩ := h; ⟨n, fun m hm => g m (h m hm)⟩
theorem Ev.and {Q R : Nat → Prop} (h : Ev Q) (g : Ev R) : Ev fun m => Q m ∧ R m := let ⟨n, h⟩ := h; let ⟨k, g⟩ := g; ⟨max n k, fun m hm => ⟨h m (by omega), g m (by omega)⟩⟩
theorem Ev.EO {Q R S : Nat → Prop} (h : Ev Q) (g : Ev R) (f : ∀ m, Q m → R m → S m) : Ev S := (h.and g).mono fun m x => f m x.1 x.2
theorem Ev.succ {Q : Nat → Prop} (h : Ev fun m => Q (m + 1)) : Ev Q := let ⟨n, h⟩ := h; ⟨n + 1, fun m hm => by
 obtain ⟨k, rfl⟩ : ∃ k, m = k + 1 := ⟨m - 1, by omega⟩
 exact h k (by omega)⟩
theorem Ev.some {Q : Nat → Prop} (h : Ev Q) : ∃ m, Q m := let ⟨n, h⟩ := h; ⟨n, h n (Nat.le_refl _)⟩
variable {p : Pg} {r r' : A2} {h h' h1 h2 : Hp} {s : RS} {a b c x : AC} {i f : Nat} {args : List AV} {v : AV}
def Rn (p : Pg) (c : AC) (r : A2) (h : Hp) (s : RS) : Prop := Ev fun m => exec p m c r h = s
def Cv (p : Pg) (f : Nat) (args : List AV) (h : Hp) (v : AV) (h' : Hp) : Prop := Ev fun m => aB p (exec p m) f args h = .ok v h'
theorem Rn.skip : Rn p .skip r h (.nm r h) := Ev.succ (.all fun _ => rfl)
theorem Rn.ret : Rn p .ret r h (.ret r h) := Ev.succ (.all fun _ => rfl)
theorem Rn.exit : Rn p (.exit i) r h (.ex i r h) := Ev.succ (.all fun _ => rfl)
theorem Rn.goto : Rn p (.goto i) r h (.go i r h) := Ev.succ (.all fun _ => rfl)
theorem Rn.label : Rn p (.label i) r h (.nm r h) := Ev.succ (.all fun _ => rfl)
theorem Rn.seq (e : Rn p a r h (.nm r' h')) (g : Rn p b r' h' s) : Rn p (.seq a b) r h s := Ev.succ (Ev.EO e g fun m e g => by
 show RS.bind (exec p m a r h) _ _ _ = _
 rw [e]; exact g)
theorem Rn.cX (e : Rn p a r h (.ret r' h')) : Rn p (.seq a b) r h (.ret r' h') := Ev.succ (Ev.mono e fun m e => by
 show RS.bind (exec p m a r h) _ _ _ = _
 rw [e]; rfl)
theorem Rn.qh (e : Rn p a r h (.ex i r' h')) : Rn p (.seq a b) r h (.ex i r' h') := Ev.succ (Ev.mono e fun m e => by
 show RS.bind (exec p m a r h) _ _ _ = _
 rw [e]; rfl)
theorem Rn.BM (e : Rn p a r h (.go i r' h')) : Rn p (.seq a b) r h (.go i r' h') := Ev.succ (Ev.mono e fun m e => by
 show RS.bind (exec p m a r h) _ _ _ = _
 rw [e]; rfl)
theorem Rn.block (e : Rn p a r h (.nm r' h')) : Rn p (.block i a) r h (.nm r' h') := Ev.succ (Ev.mono e fun m e => by
 show RS.bind (exec p m a r h) _ _ _ = _
 rw [e]; rfl)
theorem Rn.br (e : Rn p a r h (.ex i r' h')) : Rn p (.block i a) r h (.nm r' h') := Ev.succ (Ev.mono e fun m e => by
 show RS.bind (exec p m a r h) _ _ _ = _
 rw [e]
 show (@Bool.rec (fun _ => RS) _ _ (Nat.beq i i)) = _
 rw [Nat.beq_refl])
theorem Rn.Fg {j : Nat} (e : Rn p a r h (.ex j r' h')) (hj : Nat.beq j i = false) : Rn p (.block i a) r h (.ex j r' h') := Ev.succ (Ev.mono e fun m e => by
 show RS.bind (exec p m a r h) _ _ _ = _
 rw [e]
 show (@Bool.rec (fun _ => RS) _ _ (Nat.beq j i)) = _
 rw [hj])
theorem Rn.cA (e : Rn p a r h (.ret r' h')) : Rn p (.block i a) r h (.ret r' h') := Ev.succ (Ev.mono e fun m e => by
 show RS.bind (exec p m a r h) _ _ _ = _
 rw [e]; rfl)
theorem Rn.loop (e : Rn p a r h (.nm r' h')) (g : Rn p (.loop a) r' h' s) : Rn p (.loop a) r h s := Ev.succ (Ev.EO e g fun m e g => by
 show RS.bind (exec p m a r h) _ _ _ = _
 rw [e]; exact g)
theorem Rn.cW (e : Rn p a r h (.ex i r' h')) : Rn p (.loop a) r h (.ex i r' h') := Ev.succ (Ev.mono e fun m e => by
 show RS.bind (exec p m a r h) _ _ _ = _
 rw [e]; rfl)
theorem Rn.dV (e : Rn p a r h (.ret r' h')) : Rn p (.loop a) r h (.ret r' h') := Ev.succ (Ev.mono e fun m e => by
 show RS.bind (exec p m a r h) _ _ _ = _
 rw [e]; rfl)
theorem Rn.scope (e : Rn p (.sat a a) r h s) : Rn p (.scope a) r h s := by
 obtain ⟨n, e⟩ := e
 refine ⟨n + 1, fun m hm => ?_⟩
 obtain ⟨k, rfl⟩ : ∃ k, m = k + 1 := ⟨m - 1, by omega⟩
 exact e (k + 1) (by omega)
theorem Rn.rG (e : Rn p c r h (.ret r' h')) : Rn p (.sat a c) r h (.ret r' h') := Ev.succ (Ev.mono e fun m e => by
 show RS.bind (exec p m c r h) _ _ _ = _
 rw [e]; rfl)
theorem Rn.xm (e : Rn p c r h (.go i r' h')) (hf : cY a i = some x) (g : Rn p (.sat a x) r' h' s) : Rn p (.sat a c) r h s := Ev.succ (Ev.EO e g fun m e g => by
 show RS.bind (exec p m c r h) _ _ _ = _
 rw [e]
 show (Option.rec _ (fun c => exec p m (.sat a c) r' h') (cY a i) : RS) = _
 rw [hf]; exact g)
theorem Rn.BN {c : AO} (hc : ev c r = .bool true) (e : Rn p a r h s) : Rn p (.cond c a b) r h s := Ev.succ (Ev.mono e fun m e => by
 show AV.bN (ev c r) _ _ = _
 rw [hc]; exact e)
theorem Rn.Ql {c : AO} (hc : ev c r = .bool false) (e : Rn p b r h s) : Rn p (.cond c a b) r h s := Ev.succ (Ev.mono e fun m e => by
 show AV.bN (ev c r) _ _ = _
 rw [hc]; exact e)
theorem Rn.ag {k : Cf → Iv → (A2 → Hp → RS) → A2 → Hp → RS} (e : Ev fun m => k (aB p (exec p m)) (aH p (exec p m)) (fun r h => exec p m x r h) r h = s) : Rn p (.ag k x) r h s := Ev.succ e
theorem Cv.of {body : AC} {res : List Rs} (hf : ak f p.fs = .mk body res) (hl : args.length ≤ 256) (e : Rn p body (bE args 0 .nil) h (.ret r' h1)) (hr : qR res r' h1 = .ok v h') : Cv p f args h v h' := Ev.mono e fun m e => by
 unfold aB
 rw [hf]
 show (@Bool.rec (fun _ => RT) _ _ (Nat.ble args.length 256)) = _
 rw [Nat.ble_eq_true_of_le hl]
 show eJ res (exec p m body (bE args 0 .nil) h) = _
 rw [e]
 show (qR res r' h1).nU = _
 rw [hr]; rfl
theorem Cv.qK {body : AC} {res : List Rs} (hf : ak f p.fs = .mk body res) (hl : args.length ≤ 256) (e : Rn p body (bE args 0 .nil) h (.nm r' h1)) (hr : qR res r' h1 = .ok v h') : Cv p f args h v h' := Ev.mono e fun m e => by
 unfold aB
 rw [hf]
 show (@Bool.rec (fun _ => RT) _ _ (Nat.ble args.length 256)) = _
 rw [Nat.ble_eq_true_of_le hl]
 show eJ res (exec p m body (bE args 0 .nil) h) = _
 rw [e]
 show (qR res r' h1).nU = _
 rw [hr]; rfl
theorem Cv.uo {k : PK} {body : AC} {res : List Rs} (hf : ak f p.fs = .uo k body res) (e : fx k args h = .ok v h') : Cv p f args h v h' := .all fun m => by
 unfold aB
 rw [hf]
 show (RT.rec _ _ _ (fx k args h) : RT) = _
 rw [e]
def Wf (h : Hp) : Prop := ∃ N, h.next = .eL N 0 ∧ ∀ m, N ≤ m → ah (.eL m 0) h = .none
def Old (h h' : Hp) : Prop := ∀ q, ah q h ≠ .none → ah q h' = ah q h
theorem Old.refl (h : Hp) : Old h h := fun _ _ => rfl
theorem Old.trans {h1 h2 h3 : Hp} (a : Old h1 h2) (b : Old h2 h3) : Old h1 h3 := fun q hq => (b q (by rw [a q hq]; exact hq)).trans (a q hq)
def yO (h : Hp) (o : Obj) : Hp := .mk (dy h.next o h.tree) h.next.succ
theorem jQ (h : Hp) (o : Obj) (q : P4) : ah q (yO h o) = if q = h.next then o else ah q h := iz q
theorem Kg (h : Hp) (o : Obj) : (yO h o).next = h.next.succ := rfl
theorem Wf.fresh (W : Wf h) : ah h.next h = .none := by
 obtain ⟨N, e, f⟩ := W
 rw [e]; exact f N (Nat.le_refl _)
theorem Wf.yO (W : Wf h) (o : Obj) : Wf (yO h o) := by
 obtain ⟨N, e, f⟩ := W
 refine ⟨N + 1, by rw [Kg, e]; rfl, fun m hm => ?_⟩
 rw [jQ, e, if_neg (by intro g; cases g; omega)]
 exact f m (by omega)
theorem Old.yO (W : Wf h) (o : Obj) : Old h (yO h o) := fun q hq => by
 rw [jQ, if_neg]
 intro e
 rw [e] at hq
 exact hq W.fresh
theorem Wf.dY (W : Wf h) {q : P4} {o : Obj} (hq : ah q h ≠ .none) : Wf (dY q o h) := by
 obtain ⟨N, e, f⟩ := W
 refine ⟨N, e, fun m hm => ?_⟩
 rw [aN, if_neg]
 ·exact f m hm
 ·intro g
  rw [← g] at hq
  exact hq (f m hm)
theorem Fk (W : Wf h) (o : Obj) (k : P4 → Hp → RV) : nd o h k = k h.next (yO h o) := by
 obtain ⟨t, nx⟩ := h
 have e : nd o (.mk t nx) k = (@Bool.rec (fun _ => RV) (.err 1) (k nx (.mk (dy nx o t) nx.succ)) (isNone (cL nx t))) := rfl
 have f : cL nx t = .none := W.fresh
 rw [e, f]
 rfl
theorem xe (W : Wf h) {el n : Nat} {ex : Bool} {fl : Fl} {c : Cl} (hn : n ≤ Ap c) (k : P4 → Hp → RV) : ij el ex fl n c h k = k h.next (yO h (.cells el n ex fl c)) := by
 show (@Bool.rec (fun _ => RV) (.err 130) (nd (.cells el n ex fl c) h k) (Nat.ble n (Ap c))) = _
 rw [Nat.ble_eq_true_of_le hn]
 exact Fk W _ k
def Gd (c : Cl) : Prop := match c with
 | .kf m _ => m = 16777216
 | _ => True
theorem Gd.max {c : Cl} (g : Gd c) : Ap c = bM c := by
 cases c with
 | kf m f =>
  have g : m = 16777216 := g
  subst g; rfl
 | _ => rfl
theorem Gd.lu {c : Cl} (g : Gd c) (i : Nat) (v : AV) : Gd (lu i v c) := by cases c <;> exact g
theorem Gd.cH (l : List AV) : ∀ (i : Nat) {c : Cl}, Gd c → Gd (cH l i c) := by
 induction l with
 | nil => intro i c g; exact g
 | cons v l ih => intro i c g; rw [kJ]; exact ih _ (g.lu i v)
theorem Gd.grow {c : Cl} (g : Gd c) : Gd (bO c) := by
 cases c with
 | kf m f => exact g
 | k4 x => rfl
 | _ => trivial
theorem Sm (c : Cl) (g : Gd c) : bM (bO (bO (bO (bO c)))) = 16777216 := by
 cases c with
 | kf m f => exact g
 | _ => rfl
theorem Gd.fit {c : Cl} (g : Gd c) (n : Nat) (hn : n ≤ 16777216) : Gd (jV n c) ∧ n ≤ bM (jV n c) := by
 unfold jV
 cases h1 : Nat.ble n (bM c) with
 | true => exact ⟨g, Nat.le_of_ble_eq_true h1⟩
 | false =>
  cases h2 : Nat.ble n (bM (bO c)) with
  | true => exact ⟨g.grow, Nat.le_of_ble_eq_true h2⟩
  | false =>
   cases h3 : Nat.ble n (bM (bO (bO c))) with
   | true => exact ⟨g.grow.grow, Nat.le_of_ble_eq_true h3⟩
   | false =>
    cases h4 : Nat.ble n (bM (bO (bO (bO c)))) with
    | true => exact ⟨g.grow.grow.grow, Nat.le_of_ble_eq_true h4⟩
    | false => exact ⟨g.grow.grow.grow.grow, by rw [Sm c g]; exact hn⟩
theorem Gd.of (l : List AV) (hl : l.length ≤ 16777216) : Gd (ng l) ∧ l.length ≤ bM (ng l) := by
 have g : Gd FM := trivial
 obtain ⟨a, b⟩ := g.fit l.length hl
 unfold ng
 exact ⟨a.cH _ _, by rw [fj]; exact b⟩
theorem jR (l : List AV) (hl : l.length ≤ 16777216) (k : Nat) (hk : k < l.length) : eP k (ng l) = l[k] := eT l (Gd.of l hl).2 k hk
def Ob (h : Hp) (q : P4) (el : Nat) (ex : Bool) (fl : Fl) (l : List AV) : Prop := ∃ c, ah q h = .cells el l.length ex fl c ∧ (Gd c ∧ l.length ≤ bM c) ∧ ∀ k (hk : k < l.length), eP k c = l[k]
theorem Ob.ne {q : P4} {el : Nat} {ex : Bool} {fl : Fl} {l : List AV} (o : Ob h q el ex fl l) : ah q h ≠ .none := by
 obtain ⟨c, e, _⟩ := o
 rw [e]; simp
theorem Ob.old {q : P4} {el : Nat} {ex : Bool} {fl : Fl} {l : List AV} (o : Ob h q el ex fl l) (O : Old h h') : Ob h' q el ex fl l := by
 have hne := o.ne
 obtain ⟨c, e, r⟩ := o
 exact ⟨c, by rw [O q hne]; exact e, r⟩
theorem Ob.eq {q : P4} {el : Nat} {ex : Bool} {fl : Fl} {l : List AV} (o : Ob h q el ex fl l) (e : ah q h' = ah q h) : Ob h' q el ex fl l := by
 obtain ⟨c, g, r⟩ := o
 exact ⟨c, by rw [e]; exact g, r⟩
theorem Ob.cs {q : P4} {el : Nat} {ex : Bool} {fl : Fl} {l : List AV} (o : Ob h q el ex fl l) {k : Nat} {m : List AV} (hm : ∀ j (hj : j < m.length), ∃ hk : k + j < l.length, l[k + j] = m[j]) (hl : k + m.length ≤ l.length) : Cs h q k m := by
 obtain ⟨c, e, _, g⟩ := o
 refine ⟨el, l.length, ex, fl, c, e, hl, fun j hj => ?_⟩
 obtain ⟨hk, e⟩ := hm j hj
 rw [g _ hk, e]
theorem Cs.old {q : P4} {o : Nat} {l : List AV} (a : Cs h q o l) (O : Old h h') : Cs h' q o l := by
 obtain ⟨el, n, ex, fl, c, e, r⟩ := a
 exact ⟨el, n, ex, fl, c, by rw [O q (by rw [e]; simp)]; exact e, r⟩
theorem Cs.ne {q : P4} {o : Nat} {l : List AV} (a : Cs h q o l) : ah q h ≠ .none := by
 obtain ⟨el, n, ex, fl, c, e, r⟩ := a
 rw [e]; simp
theorem Cs.eq {q : P4} {o : Nat} {l : List AV} (a : Cs h q o l) (e : ah q h' = ah q h) : Cs h' q o l := by
 obtain ⟨el, n, ex, fl, c, g, r⟩ := a
 exact ⟨el, n, ex, fl, c, by rw [e]; exact g, r⟩
theorem Cs.sub {q : P4} {o : Nat} {l : List AV} (a : Cs h q o l) (k : Nat) (m : List AV) (hm : k + m.length ≤ l.length) (g : ∀ j (hj : j < m.length), l[k + j] = m[j]) : Cs h q (o + k) m := by
 obtain ⟨el, n, ex, fl, c, e, r1, r2⟩ := a
 refine ⟨el, n, ex, fl, c, e, by omega, fun j hj => ?_⟩
 rw [Nat.add_assoc, r2 (k + j) (by omega), g j hj]
theorem tx (W : Wf h) {el : Nat} {ex : Bool} {fl : Fl} (l : List AV) {c : Cl} (hc : Gd c ∧ l.length ≤ bM c) (hg : ∀ k (hk : k < l.length), eP k c = l[k]) (k : P4 → Hp → RV) :
  ∃ q h', ij el ex fl l.length c h k = k q h' ∧ ah q h = .none ∧ Ob h' q el ex fl l ∧ Old h h' ∧ Wf h' ∧ ∀ j, j ≠ q → ah j h' = ah j h := by
 refine ⟨h.next, yO h (.cells el l.length ex fl c), xe W (by rw [hc.1.max]; exact hc.2) k, W.fresh, ⟨c, by rw [jQ, if_pos rfl], hc, hg⟩, .yO W _, W.yO _, fun j hj => by rw [jQ, if_neg hj]⟩
end
noncomputable section
variable {H : Type} {P : Program} {h : Hp} {rec rec' : TypeId → List AV → DataW H → Prop} {t : TypeId} {cs : List AV} {d : DataW H}
theorem fO.mono (g : ∀ t l d, rec t l d → rec' t l d) (r : fO P h rec t cs d) : fO P h rec' t cs d := by
 unfold fO at r ⊢
 cases hu : P.underlying t with
 | none => rw [hu] at r; exact r.elim
 | some u =>
  rw [hu] at r
  cases u with
  | bool => exact r
  | int k => exact r
  | string => exact r
  | slice e =>
   rcases r with r | ⟨p, cap, el, rest, ls, h1, h2, h3, h4, h5⟩
   ·exact .inl r
   ·exact .inr ⟨p, cap, el, rest, ls, h1, h2, h3, h4, fun i hi hi' => ⟨(h5 i hi hi').1, (h5 i hi hi').2.1, g _ _ _ (h5 i hi hi').2.2⟩⟩
  | struct fs =>
   obtain ⟨parts, ls, h1, h2, h3, h4, h5⟩ := r
   exact ⟨parts, ls, h1, h2, h3, h4, fun i f hf => let ⟨l, p, a, b, c, d⟩ := h5 i f hf; ⟨l, p, a, b, c, g _ _ _ d⟩⟩
  | _ => exact r.elim
theorem qc.succ : ∀ (n : Nat) (t : TypeId) (cs : List AV) (d : DataW H), qc P h n t cs d → qc P h (n + 1) t cs d
 | 0, _, _, _, r => r.elim
 | n + 1, t, cs, d, r => fO.mono (qc.succ n) r
theorem qc.add (n k : Nat) (t : TypeId) (cs : List AV) (d : DataW H) (r : qc P h n t cs d) : qc P h (n + k) t cs d := by
 induction k with
 | zero => exact r
 | succ k ih => exact qc.succ (n + k) t cs d ih
end
noncomputable section
def Og (n : Nat) : Hp := .mk (Kp (fun _ _ => .none) n) (P4.of n)
def MX (n : Nat) : aU := fun i => match i with
 | .eL _ _ => none
 | .mk a b c d => if nW (.mk a b c d) < n then some ⟨nW (.mk a b c d), 0, 0⟩ else none
theorem xA (n b o : Nat) : ah (.eL b o) (Og n) = .none := jy _ b o n
theorem Aj {n : Nat} (hn : n ≤ 65536) (a b c d : H) : ah (.mk a b c d) (Og n) = if nW (.mk a b c d) < n then .dead else .none := mC _ a b c d n hn
theorem uj {n : Nat} (hn : n ≤ 65536) (i : P4) : ¬ live (ah i (Og n)) := by
 intro h
 cases i with
 | eL b o => exact h.1 (xA n b o)
 | mk a b c d =>
  rw [Aj hn] at h
  split at h
  ·exact h.2 rfl
  ·exact h.1 rfl
theorem TV {n : Nat} {w : World} (hn : n ≤ 65536) (hs : n ≤ w.heap.size) : HR (MX n) (Og n) w where
 obj i hl := absurd hl (uj hn i)
 inj i j p q hl := absurd hl (uj hn i)
 fresh i hi := by
  cases i with
  | eL b o => rfl
  | mk a b c d =>
   rw [Aj hn] at hi
   split at hi
   ·cases hi
   ·rename_i h
    exact if_neg h
 bound i p hp := by
  cases i with
  | eL b o => cases hp
  | mk a b c d =>
   have hp : (if nW (.mk a b c d) < n then some (Place.mk (nW (.mk a b c d)) 0 0) else none) = some p := hp
   split at hp
   ·cases hp
    show nW (.mk a b c d) < w.heap.size
    omega
   ·cases hp
theorem Sn {n : Nat} (hn : n ≤ 65536) : mF ⟨n, [], none⟩ (MX n) := by
 refine ⟨fun g hg => ⟨0, ?_⟩, fun x hx => by cases hx⟩
 have hg : g < n := hg
 have e : MX n (P4.of g) = if nW (P4.of g) < n then some ⟨nW (P4.of g), 0, 0⟩ else none := rfl
 rw [e, xf (by omega), if_pos hg]
theorem MY {P : Program} {names : List String} {p : Pg} {n : Nat} (E : Env P ⟨n, [], none⟩ names p) (m f : Nat) (hn : n ≤ 65536) (e : eW (aB p (exec p m) f [] (Og n)) = true) (w : World) (hs : n ≤ w.heap.size) (hx : CF (ak f p.fs) = false := by rfl) :
  Calls P f #[] w fun e w' => e = .returned (.bool true) ∧ w.heap.size ≤ w'.heap.size ∧ (∀ b, b < w.heap.size → w'.heap[b]? = w.heap[b]?) ∧ w'.tape = w.tape ∧ w'.os = w.os ∧ w'.output = w.output := by
 obtain ⟨Oo, ht⟩ := MQ e
 refine (CT E m f [] [] (φ := MX n) (Sn hn) (TV hn hs) .nil Oo (CG hx)).mono ?_
 rintro e w' ⟨v, h', cv, φ', hl, rfl, hv, _, T⟩
 have := ht v h' hl
 subst this
 cases hv
 exact ⟨rfl, T.keeps.size, fun b hb => T.keeps.rest b hb fun i p hl => absurd hl.1 (uj hn i), T.keeps.tape, T.keeps.os, T.keeps.output⟩
def Dy (args : List AV) (h : Hp) : RT := List.casesOn args (.ok (.bool true) h) (fun _ _ => .err 400)
theorem Fm {P : Program} {names : List String} {p : Pg} {n : Nat} (E : Env P ⟨n, [], none⟩ names p) (m f : Nat) (hn : n ≤ 65536) (e : eW (aB p (exec p m) f [] (Og n)) = true) (hx : CF (ak f p.fs) = false := by rfl) :
  wJ P ⟨n, [], none⟩ (.fn Dy) f := by
 intro φ h w args vals hg H hv hs
 have hsz : n ≤ w.heap.size := by
  cases n with
  | zero => exact Nat.zero_le _
  | succ k =>
   obtain ⟨room, hp⟩ := hg.1 k (Nat.lt_succ_self k)
   have := H.bound _ _ hp
   exact this
 cases hv with
 | cons a v as vs h1 h2 => exact (RT.Safe.err (show (RT.err 400).Safe from hs)).elim
 | nil =>
  refine (MY E m f hn e w hsz hx).mono ?_
  rintro x w' ⟨rfl, h1, h2, h3, h4, h5⟩
  exact ⟨.bool true, h, .bool true, φ, .ok _ _, rfl, .bool _, H.ext h1 h2, .ext h1 h2 h3 h4 h5⟩
end
open Go.ChangeShapes Go.WideShapes
noncomputable section
variable {H : Type} {enc : TypeId × Value → H}
theorem BJ {C : Checked} {os : Os} {f : FuncId} {fn : Func} {s : OpenSpec} {conds : List PathCond} {apart : Bool} {laid : List (String × DataW Unit)} (modest : Bool) (w0 : World) (args : Array Value) (hos : w0.os = os)
  (hsh : (w0.forCall (fun _ _ => 0) ⟨#[], args, []⟩).Shaped C.prog)
  (hok : Input.okWideB C.prog (w0.forCall (fun _ _ => 0) ⟨#[], args, []⟩) f ⟨#[], args, []⟩ = true)
  (hrow : s.preRow enc C.prog fn conds apart laid (w0.forCall (fun _ _ => 0) ⟨#[], args, []⟩).memory args) :
  ∃ (w : World) (tape : Tape) (i : Input), w.os = os ∧ (w.forCall tape i).Shaped C.prog ∧ i.vars = [] ∧ Input.okWide C.prog (w.forCall tape i) .any w.heap.size f i ∧
   s.preRow enc C.prog fn conds apart laid (w.forCall tape i).memory i.args ∧ ({ modest := modest } : Assume).holds C.prog (lone (Frame.enter C.prog f i.args .normal) [] (w.forCall tape i)) :=
 ⟨w0, fun _ _ => 0, ⟨#[], args, []⟩, hos, hsh, (Input.okWide_of_okWideB (base := 0) hok).1, (Input.okWide_of_okWideB hok).2, hrow, by
  simp only [Assume.holds]
  exact ⟨by simp, by simp, fun _ => Modest.zero, by simp, by simp⟩⟩
theorem tY {P : Program} {W : World} (g n : Nat) (hsh : W.ShapedOpen P) (hn : n = g + 1) (hgl : g < P.globals.size)
  (hrow : (((begin P (fun _ _ => 0) default).world.heap[g]?).bind Go.Obj.row?).isSome = true) : n ≤ W.heap.size := by
 obtain ⟨⟨zero, t⟩, hr⟩ := Option.isSome_iff_exists.1 hrow
 obtain ⟨cs, h, _⟩ := hsh.1 g zero t hgl hr
 have := (Array.getElem?_eq_some_iff.1 h).1
 omega
section
variable {P : Program} {w : World} {r : Reach} {b0 : Nat} {t e : TypeId} {k : IntKind} {v : Value}
theorem qM (ht : P.underlying t = some (.slice e)) (h : Value.okWide P w r b0 t v) : v.cells.toList = [v] := by
 obtain ⟨a, n, c, rfl⟩ := okWide_slice ht h
 rfl
theorem vW (ht : P.underlying t = some (.int k)) (h : Value.okWide P w r b0 t v) : v.cells.toList = [v] := by
 obtain ⟨n, rfl⟩ := okWide_int ht h
 rfl
end
end
end Go.Am
