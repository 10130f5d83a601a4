/- The walk: what each function of the program does at arguments that are not known; and what the law comes to. Conditions: the table of functions holds these functions. -/
import Derived.Test.YtfancojpkcapeaaGreatW0
set_option linter.all false
namespace Go.Am.Seat
open Go.Cod
set_option maxRecDepth 20000
noncomputable section
variable {p : Pg} {h h0 h' h1 h2 h3 : Hp} {q j r W t G : P4} {s : Bs} {x y v a b d e net nd : AV} {L l : List AV} {A B : P4 → Prop} {n k c me : Nat} {ns ns' : List NR}
structure vr (p : Pg) : Prop where
 n : rT p
 e14 : ar 14 p.fs = f14
 e15 : ar 15 p.fs = f15
 e16 : ar 16 p.fs = f16
 e17 : ar 17 p.fs = f17
 e18 : ar 18 p.fs = f18
 e19 : ar 19 p.fs = f19
 e20 : ar 20 p.fs = f20
 e21 : ar 21 p.fs = f21
 e22 : ar 22 p.fs = f22
 e38 : ar 38 p.fs = f38
theorem kO (o1 : bW h W t net nd) {net' nd' : AV} (o2 : bW h W t net' nd') : net' = net ∧ nd' = nd := by
 obtain ⟨c1, e1, _, g1⟩ := o1
 obtain ⟨c2, e2, _, g2⟩ := o2
 rw [e1] at e2
 obtain ⟨_, _, _, _, hc⟩ := Obj.cells.inj e2
 have a0 := g1 0 (by simp)
 have b0 := g2 0 (by simp)
 have a1 := g1 1 (by simp)
 have b1 := g2 1 (by simp)
 rw [hc] at a0 a1
 exact ⟨b0.symm.trans a0, b1.symm.trans a1⟩
def Fq (ns ns' : List NR) : Prop := ns'.length = ns.length ∧ ∀ i (h1 : i < ns.length) (h2 : i < ns'.length), ns[i].s.up = true → ns'[i].s.up = true
theorem Fq.refl (ns : List NR) : Fq ns ns := ⟨rfl, fun _ _ _ g => g⟩
theorem Jx {i : Nat} {r : NR} (hi : i < ns.length) (h : ns[i].s.up = true → r.s.up = true) : Fq ns (ns.set i r) := ⟨by simp, fun j h1 h2 g => by
 rw [List.getElem_set]
 split
 ·rename_i e; subst e; exact h g
 ·exact g⟩
theorem Jy (T : vr p) (I : Idle h0 h G W t ns c k) (m b : Int) (hc : c < 4611686018427387904) : ∃ ns' k' h', Cv p 17 [.ptr W 0, i64 m, i64 b] h aH h' ∧ Idle h0 h' G W t ns' (c + 1) k' ∧ Fq ns ns' := by
 have ge : bK .ge (i64 b) i1 h = .ok (.bool (decide (1 ≤ b))) h := Ag .i64 b 1
 have le : bK .le (i64 b) (pi 1000) h = .ok (.bool (decide (b ≤ 1000))) h := Jz .i64 b 1000
 have r0 : y0 (aR [.ptr W 0, i64 m, i64 b] 0 .nil) = .ptr W 0 := rfl
 have none : ∀ {hh : Hp}, hh = h → Idle h0 hh G W t ns (c + 1) k := fun e => e ▸ I.more (Nat.le_succ c)
 by_cases hm : ∃ i : Nat, m = i ∧ i < ns.length
 ·obtain ⟨i, rfl, hi⟩ := hm
  have ch := Cp T.n I hi
  by_cases h1 : 1 ≤ b
  ·rw [decide_eq_true h1] at ge
   by_cases h2 : b ≤ 1000
   ·rw [decide_eq_true h2] at le
    obtain ⟨s', k', h', c36, J, hu⟩ := Mw T.n I hi b hc
    obtain ⟨net, nd, w1, w2, w3⟩ := I.w
    obtain ⟨aa, x1, x2⟩ := w2.node hi
    refine ⟨_, k', h', .cS (r' := T27) (h1 := h') T.e17 (by simp) (.seq (.ops (.so (.ptr W 0) rfl <| .so (i64 i) rfl <| .call (v := .bool true) (h' := h) ch <| .so (.bool true) rfl <| .on rfl <| .so (i64 b) rfl <| .on rfl <| .step (v := .bool true) (h' := h) ge <| .so (.bool true) rfl <| .so (.bool true) rfl <|
     .on rfl <| .so (i64 b) rfl <| .on rfl <| .step (v := .bool true) (h' := h) le <| .so (.bool true) rfl <| .nil)) (.ag (c36.mono fun m' u => ?_))) rfl, J, Jx hi fun g => by rw [← hu] at g; exact g⟩
    show Seat.I (.bool true) (Seat.J (.ptr W 0) h fun f h => Seat.A 1 f h fun g h => Seat.L g h fun j h => Seat.X 1 j (i64 i) h fun k h => Seat.L k h fun l h => Seat.C (aw p (exec p m')) 36 [l, i64 b] h fun m h => .nm T27 h) (.nm T27 h) = _
    rw [dY, aA, av, aC (az (Ob.c0 w1) 1 rfl), jk x1, aC x2, aD u]
   ·rw [decide_eq_false h2] at le
    exact ⟨ns, k, h, .cS (r' := T27) (h1 := h) T.e17 (by simp) (.seq (.ops (.so (.ptr W 0) rfl <| .so (i64 i) rfl <| .call (v := .bool true) (h' := h) ch <| .so (.bool true) rfl <| .on rfl <| .so (i64 b) rfl <| .on rfl <| .step (v := .bool true) (h' := h) ge <| .so (.bool true) rfl <| .so (.bool true) rfl <|
     .on rfl <| .so (i64 b) rfl <| .on rfl <| .step (v := .bool false) (h' := h) le <| .so (.bool false) rfl <| .nil)) (.aU fun _ _ _ => rfl)) rfl, none rfl, .refl _⟩
  ·rw [decide_eq_false h1] at ge
   exact ⟨ns, k, h, .cS (r' := T27) (h1 := h) T.e17 (by simp) (.seq (.ops (.so (.ptr W 0) rfl <| .so (i64 i) rfl <| .call (v := .bool true) (h' := h) ch <| .so (.bool true) rfl <| .on rfl <| .so (i64 b) rfl <| .on rfl <| .step (v := .bool false) (h' := h) ge <| .so (.bool false) rfl <| .so (.bool false) rfl <|
    .off rfl <| .off rfl <| .so (.bool false) rfl <| .nil)) (.aU fun _ _ _ => rfl)) rfl, none rfl, .refl _⟩
 ·have ch := xX T.n I hm
  exact ⟨ns, k, h, .cS (r' := T27) (h1 := h) T.e17 (by simp) (.seq (.ops (.so (.ptr W 0) rfl <| .so (i64 m) rfl <| .call (v := .bool false) (h' := h) ch <| .so (.bool false) rfl <| .off rfl <| .off rfl <| .so (.bool false) rfl <| .so (.bool false) rfl <|
    .off rfl <| .off rfl <| .so (.bool false) rfl <| .nil)) (.aU fun _ _ _ => rfl)) rfl, none rfl, .refl _⟩
theorem Fs (T : vr p) (I : Idle h0 h G W t ns c k) (m b : Int) : ∃ ns' h', Cv p 18 [.ptr W 0, i64 m, i64 b] h aH h' ∧ Idle h0 h' G W t ns' (c + 1) k ∧ ns'.length = ns.length := by
 have stop : ∀ {z : AV}, Cv p 24 [.ptr W 0, z] h (.bool false) h → Cv p 18 [.ptr W 0, z, i64 b] h aH h := fun {z} ch => .cS (r' := T27) (h1 := h) T.e18 (by simp) (.to (r' := T28 (.ptr W 0) z (i64 b) (.bool false)) (h' := h) (ch.mono fun m' u K => by
   simp only [k18_0, K3, ml, mq, mr]
   (rw [aD u]; try rfl)) (.aU fun c i K => by
   simp only [k18_1, K4, t28_0, t28_1, t28_2, t28_9]
   rw [aY])) rfl
 by_cases hm : ∃ i : Nat, m = i ∧ i < ns.length
 ·obtain ⟨i, rfl, hi⟩ := hm
  have ch := Ah T.n I hi
  obtain ⟨acc, prop, cho, met, km, o, Id⟩ := (I.n i hi).ob
  have dsk := (I.n i hi).Mx
  have hlife := (I.n i hi).bT
  have htr := (I.n i hi).tries
  obtain ⟨lD', oD⟩ := (I.n i hi).My
  cases hup : ns[i].s.up with
  | false =>
   rw [hup] at ch
   exact ⟨ns, h, stop ch, I.more (Nat.le_succ c), rfl⟩
  | true =>
   rw [hup] at ch
   obtain ⟨net, nd, w1, w2, w3⟩ := I.w
   obtain ⟨aa, x1, x2⟩ := w2.node hi
   generalize hN : ns[i].N = N at *
   generalize hD : ns[i].D = D at *
   generalize hs : ns[i].s = st at *
   obtain ⟨clock, up, size, bT, tries, last, behind⟩ := st
   simp only at hup hlife htr dsk
   subst hup
   have nND : N ≠ D := fun e => o.apart oD (.inl (by decide)) e
   obtain ⟨h1, a1, o1, F1, W1⟩ := vt I.wf o rfl 4 (by omega) (v := .bool false) rfl
   obtain ⟨h2, a2, o2, F2, W2⟩ := vt W1 o1 rfl 17 (by omega) (v := .al) rfl
   have o2 : Ob h2 N 81 true .plain (nQ W D acc prop cho met i ⟨clock, false, size, bT, tries, last, behind⟩) := o2
   have F02 := F1.trans F2
   have mN : ∀ j, j = N → vu h j := fun j g => by rw [g, ← hN]; exact I.PT hi
   have dsk2 : fT h2 D (qV bT) := by
    obtain ⟨bb, z1, z2⟩ := dsk
    exact ⟨bb, F02.ob z1 nND.symm, z2.xY F02 mN⟩
   obtain ⟨h3, c3, dsk3, F3, W3⟩ := JA T.n.m.u.w W2 dsk2 (by rw [iP]; omega) b
   have o3 := F3.ob o2 nND
   have oD2 : Ob h2 D 92 true .plain lD' := F02.ob oD nND.symm
   have Id3 := ((Id.oM F02 fun k e => ⟨_, _, e ▸ o, by decide, by decide⟩).oM F3 fun k e => ⟨_, _, e ▸ oD2, by decide, by decide⟩)
   have F03 : cT (fun j => j = N ∨ j = D ∨ j = t) h h3 := (F02.mono fun j e => .inl e).trans (F3.mono fun j e => .inr (.inl e))
   have ot : Ob h3 t 47 true .plain tL := F3.ob (F02.ob I.t fun e => I.t.apart o (.inl (by decide)) e) fun e => I.t.apart oD (.inl (by decide)) e
   have J := I.node (s' := ⟨clock, false, size, bT, tries, last, behind⟩) (c' := c + 1) (h' := h3) hi (by rw [hN, hD]; exact F03) W3 ot (Nat.le_succ c) ⟨⟨acc, prop, cho, met, km, by rw [hN, hD]; exact o3, Id3⟩, by rw [hD]; exact dsk3, ⟨hlife.1, by have := hlife.2; simp only; omega⟩, ⟨htr.1, by have := htr.2; simp only; omega⟩⟩
   refine ⟨_, h3, .cS (r' := T27) (h1 := h3) T.e18 (by simp) (.to (r' := T28 (.ptr W 0) (i64 i) (i64 b) (.bool true)) (h' := h) (ch.mono fun m' u K => ?_) (.ag (c3.mono fun m' u => ?_))) rfl, J, by simp⟩
   ·simp only [k18_0, K3, ml, mq, mr]
    (rw [aD u]; try rfl)
   ·simp only [k18_1, K4, t28_0, t28_1, t28_2, t28_9]
    (rw [dY, aA, av, aC (az (Ob.c0 w1) 1 rfl), jk x1, aC x2, aA, av, Nat.zero_add, cw a1, aA, av, Nat.zero_add, cw a2, aA, av, aC (az (Ob.c0 o2) 2 rfl), aD u]; try rfl)
 ·exact ⟨ns, h, stop (xZ T.n I hm), I.more (Nat.le_succ c), rfl⟩
theorem Ft (T : vr p) (I : Idle h0 h G W t ns c k) (m : Int) (hc : c < 4611686018427387904) : ∃ ns' bb h', Cv p 19 [.ptr W 0, i64 m] h bb h' ∧ Idle h0 h' G W t ns' (c + 1) k ∧ Fq ns ns' ∧ ∀ i : Nat, m = i → ∀ (h2 : i < ns'.length), ns'[i].s.up = true := by
 by_cases hm : ∃ i : Nat, m = i ∧ i < ns.length
 ·obtain ⟨i, rfl, hi⟩ := hm
  have ch := Cp T.n I hi
  obtain ⟨acc, prop, cho, met, km, o, Id⟩ := (I.n i hi).ob
  obtain ⟨net, nd, w1, w2, w3⟩ := I.w
  obtain ⟨aa, x1, x2⟩ := w2.node hi
  cases hup : ns[i].s.up with
  | true =>
   have lup : lD (.ptr ns[i].N (0 + 4)) h = .ok (.bool true) h := az (Ob.c0 o) 4 (by rw [← hup]; rfl)
   refine ⟨ns, .bool false, h, .of (r' := T1 (.bool false)) (h1 := h) T.e19 (by simp) (.eh (r' := T11 (.ptr W 0) (i64 i)) (h' := h) (fun c' i' K => by simp only [k19_0, K2, bE, bF]) (.jh (.seq (.ops (.so (.ptr W 0) rfl <| .so (i64 i) rfl <| .call (v := .bool true) (h' := h) ch <| .so (.bool false) rfl <| .so (.bool false) rfl <|
    .on rfl <| .so (.ptr W 0) rfl <| .on rfl <| .so (.ptr W 0) rfl <| .on rfl <| .so (.ptr W (0 + 1)) rfl <| .on rfl <| .step (v := nd) (h' := h) (az (Ob.c0 w1) 1 rfl) <| .on rfl <| .so (i64 i) rfl <| .on rfl <| .step (v := aa) (h' := h) x1 <| .on rfl <| .step (v := .ptr ns[i].N 0) (h' := h) x2 <| .on rfl <| .so (.ptr ns[i].N 0) rfl <| .on rfl <| .so (.ptr ns[i].N (0 + 4)) rfl <|
    .on rfl <| .step (v := .bool true) (h' := h) lup <| .so (.bool true) rfl <| .nil)) (.aU fun _ _ _ => rfl)))) rfl, I.more (Nat.le_succ c), .refl _, fun j e h2 => ?_⟩
   have : j = i := by omega
   subst this; exact hup
  | false =>
   have hlife := (I.n i hi).bT
   have lup : lD (.ptr ns[i].N (0 + 4)) h = .ok (.bool false) h := az (Ob.c0 o) 4 (by rw [← hup]; rfl)
   obtain ⟨lDD, oD⟩ := (I.n i hi).My
   have len5 := I.len
   obtain ⟨acc', prop', cho', met', km', h', c29, o', Id', d', ot, F, W'⟩ := Ai (o := some ns[i].s.bT) T.n.m.u I.wf true (show Ob h ns[i].N 81 true .plain (nL _ _ _ _ _ _ _ _ _ _ _ _ _ _ _ _ _ _ _ _ .db i0 _ _ _) from o) w1 w2 I.t (show i < 5 by omega) (I.n i hi).Mx hlife.1 (by show ns[i].s.bT < _; have := hlife.2; omega)
   have J := I.node (s' := ⟨ns[i].s.clock, true, 50, gS (some ns[i].s.bT) + 1, 0, ns[i].s.clock, true⟩) (c' := c + 1) (h' := h') hi F W' ot (Nat.le_succ c) ⟨⟨acc', prop', cho', met', km', o', Id'⟩, d', ⟨by show 0 ≤ ns[i].s.bT + 1; omega, by show ns[i].s.bT + 1 ≤ _; have := hlife.2; omega⟩, ⟨Int.le_refl 0, by show (0 : Int) ≤ _; omega⟩⟩
   refine ⟨_, .bool true, h', .of (r' := T1 (.bool true)) (h1 := h') T.e19 (by simp) (.eh (r' := T11 (.ptr W 0) (i64 i)) (h' := h) (fun c' i' K => by simp only [k19_0, K2, bE, bF]) (.seq (.seq (.ops (.so (.ptr W 0) rfl <| .so (i64 i) rfl <| .call (v := .bool true) (h' := h) ch <| .so (.bool false) rfl <| .so (.bool false) rfl <|
    .on rfl <| .so (.ptr W 0) rfl <| .on rfl <| .so (.ptr W 0) rfl <| .on rfl <| .so (.ptr W (0 + 1)) rfl <| .on rfl <| .step (v := nd) (h' := h) (az (Ob.c0 w1) 1 rfl) <| .on rfl <| .so (i64 i) rfl <| .on rfl <| .step (v := aa) (h' := h) x1 <| .on rfl <| .step (v := .ptr ns[i].N 0) (h' := h) x2 <| .on rfl <| .so (.ptr ns[i].N 0) rfl <| .on rfl <| .so (.ptr ns[i].N (0 + 4)) rfl <|
    .on rfl <| .step (v := .bool false) (h' := h) lup <| .so (.bool false) rfl <| .nil)) (.aU (s := .nm (T11 (.ptr W 0) (i64 i)) h) fun _ _ _ => rfl)) (.ag (c29.mono fun m' u => ?_)))) rfl, J, Jx hi fun _ => rfl, fun j e h2 => ?_⟩
   ·simp only [k19_2, K2, iQ, iR]
    (rw [aA, av, aC (az (Ob.c0 w1) 1 rfl), jk x1, aC x2, aD u]; try rfl)
   ·have : j = i := by omega
    subst this
    rw [List.getElem_set_self]
 ·have ch := xX T.n I hm
  refine ⟨ns, .bool false, h, .of (r' := T1 (.bool false)) (h1 := h) T.e19 (by simp) (.eh (r' := T11 (.ptr W 0) (i64 m)) (h' := h) (fun c' i' K => by simp only [k19_0, K2, bE, bF]) (.jh (.seq (.ops (.so (.ptr W 0) rfl <| .so (i64 m) rfl <| .call (v := .bool false) (h' := h) ch <| .so (.bool true) rfl <| .so (.bool true) rfl <|
    .off rfl <| .off rfl <| .off rfl <| .off rfl <| .off rfl <| .off rfl <| .off rfl <| .off rfl <| .off rfl <| .off rfl <| .so (.bool true) rfl <| .nil)) (.aU fun _ _ _ => rfl)))) rfl, I.more (Nat.le_succ c), .refl _, fun j e h2 => absurd ⟨j, e, h2⟩ hm⟩
theorem Mz (T : vr p) (I : Idle h0 h G W t ns c k) (m b : Int) (z : AV) : Cv p 20 [.ptr W 0, i64 m, i64 b, z] h aH h := by
 have r0 : y0 (aR [.ptr W 0, i64 m, i64 b, z] 0 .nil) = .ptr W 0 := rfl
 have r1 : y1 (aR [.ptr W 0, i64 m, i64 b, z] 0 .nil) = i64 m := rfl
 have r2 : y2 (aR [.ptr W 0, i64 m, i64 b, z] 0 .nil) = i64 b := rfl
 have r3 : y3 (aR [.ptr W 0, i64 m, i64 b, z] 0 .nil) = z := rfl
 have stop : Cv p 24 [.ptr W 0, i64 m] h (.bool false) h → Cv p 20 [.ptr W 0, i64 m, i64 b, z] h aH h := fun ch => .cS (r' := T27) (h1 := h) T.e20 (by simp) (.ag (ch.mono fun m' u => by
   simp only [k20_0, K4, r0, r1, r2, r3]
   (rw [aD u, aY]; try rfl))) rfl
 by_cases hm : ∃ i : Nat, m = i ∧ i < ns.length
 ·obtain ⟨i, rfl, hi⟩ := hm
  have ch := Ah T.n I hi
  cases hup : ns[i].s.up with
  | false => rw [hup] at ch; exact stop ch
  | true =>
   rw [hup] at ch
   obtain ⟨acc, prop, cho, met, km, o, Id⟩ := (I.n i hi).ob
   obtain ⟨net, nd, w1, w2, w3⟩ := I.w
   obtain ⟨aa, x1, x2⟩ := w2.node hi
   have cN := Ob.c0 o
   have c38 : Cv p 38 [.ptr ns[i].N 0, i64 b, z] h aH h := by
    have le : bK .le (i64 b) i0 h = .ok (.bool (decide (b ≤ 0))) h := Jz .i64 b 0
    have gt : bK .gt (i64 b) i0 h = .ok (.bool (decide (0 < b))) h := rH .i64 b 0
    by_cases hb : b ≤ 0
    ·rw [decide_eq_true hb] at le
     exact .of (r' := T27) (h1 := h) T.e38 (by simp) (.jh (.seq (.ops (.so (i64 b) rfl <| .so (.ptr ns[i].N 0) rfl <| .so (.ptr ns[i].N 0) rfl <| .so (.ptr ns[i].N (0 + 13)) rfl <| .so (.ptr ns[i].N (0 + 13 + 1)) rfl <| .step (v := i0) (h' := h) (az cN 14 rfl) <| .step (v := .bool true) (h' := h) le <| .so (.bool true) rfl <|
      .off rfl <| .off rfl <| .off rfl <| .off rfl <| .off rfl <| .off rfl <| .so (.bool true) rfl <| .nil)) (.aU fun _ _ _ => rfl))) rfl
    ·rw [decide_eq_false hb] at le
     rw [decide_eq_true (show 0 < b by omega)] at gt
     exact .of (r' := T27) (h1 := h) T.e38 (by simp) (.jh (.seq (.ops (.so (i64 b) rfl <| .so (.ptr ns[i].N 0) rfl <| .so (.ptr ns[i].N 0) rfl <| .so (.ptr ns[i].N (0 + 13)) rfl <| .so (.ptr ns[i].N (0 + 13 + 1)) rfl <| .step (v := i0) (h' := h) (az cN 14 rfl) <| .step (v := .bool false) (h' := h) le <| .so (.bool false) rfl <|
      .on rfl <| .so (i64 b) rfl <| .on rfl <| .so (.ptr ns[i].N 0) rfl <| .on rfl <| .so (.ptr ns[i].N 0) rfl <| .on rfl <| .so (.ptr ns[i].N (0 + 12)) rfl <| .on rfl <| .step (v := i0) (h' := h) (az cN 12 rfl) <| .on rfl <| .step (v := .bool true) (h' := h) gt <| .so (.bool true) rfl <| .nil)) (.aU fun _ _ _ => rfl))) rfl
   refine .cS (r' := T27) (h1 := h) T.e20 (by simp) (.ag ((ch.and c38).mono fun m' u => ?_)) rfl
   obtain ⟨u1, u2⟩ := u
   simp only [k20_0, K4, r0, r1, r2, r3]
   (rw [aD u1, dY, aA, av, aC (az (Ob.c0 w1) 1 rfl), jk x1, aC x2, aD u2]; try rfl)
 ·exact stop (xZ T.n I hm)
theorem mw (T : vr p) (I : Idle h0 h G W t ns c k) {m : Int} (hm : dq m) : ∃ bb k' h', Cv p 14 [.ptr W 0, i64 m] h (.bool bb) h' ∧ Idle h0 h' G W t ns c k' ∧ ((bb = false ∧ k = 0 ∧ k' = 0) ∨ (bb = true ∧ k' + 1 = k)) := by
 obtain ⟨net, nd, w1, w2, w3⟩ := I.w
 obtain ⟨rr, cf, hr⟩ := ya T.n.m w1 w3 hm
 rcases hr with ⟨hk, rfl⟩ | ⟨i, rfl, hi⟩
 ·refine ⟨false, k, h, .of (r' := T1 (.bool false)) (h1 := h) T.e14 (by simp) (.ag (cf.mono fun m' u => ?_)) rfl, I, .inl ⟨rfl, hk, hk⟩⟩
  simp only [k14_0, K2, bE, bF]
  have y : ∀ K : AV → Hp → RS, Seat.Y (i64 (-1)) i0 h K = K (.bool true) h := fun K => rfl
  (rw [aD u, y, dY]; try rfl)
 ·obtain ⟨q, f, to, bd, X, cm, hf, hto, sb⟩ := w3.at hi
  obtain ⟨mj, h1, a1, a2, a3, a4, a5, _⟩ := my (el := 86) (n := 3) I.wf (c := .k1 (Y3 i0 i0 .al)) trivial (by decide)
  obtain ⟨h2, d1, d2, d3, d4⟩ := mz (k := 0) (m := 3) (l' := [i64 f, i64 to, bd]) a3 rfl (by rw [bO]; omega)
  have d2 : Ob h2 mj 86 true .plain [i64 f, i64 to, bd] := d2
  have O2 : Old h h2 := fun j hj => by rw [d3 j (fun e => by rw [e] at hj; exact hj a2), a4 j hj]
  have W2 := dZ a5 a3 d3 d4
  have I2 := I.up O2 W2
  have w12 : bW h2 W t net nd := Ob.old w1 O2
  obtain ⟨v, h3, c32, n3, F3, O3, W3⟩ := JB T.n.m W2 I2.old (w3.up O2) hi
  have w13 : bW h3 W t net nd := F3.ob w12 (uM w12)
  obtain ⟨h4, e1, e2, e3, e4⟩ := ff (k := 0) (v := v) w13 (by simp) n3.one
  have e2 : bW h4 W t v nd := e2
  have W4 := dZ W3 w13 e3 e4
  have F4 : cT (fun j => j = W) h3 h4 := .on e3
  have O4 : Old h0 h4 := F4.old O3 fun j e => by rw [e]; exact I.nW
  have n4 := n3.oM F4 fun j e => ⟨_, _, e ▸ w13⟩
  have F24 : cT (fun j => j = W ∨ M86 h2 j) h2 h4 := (F3.mono fun j e => .inr e).trans (F4.mono fun j e => .inl e)
  have I4 : Idle h0 h4 G W t ns c (k - 1) := I2.DN F24 W4 O4 fun net' nd' g1 g2 => by
   obtain ⟨rfl, rfl⟩ := kO w12 g1
   exact ⟨v, e2, n4⟩
  have mj4 : Ob h4 mj 86 true .plain [i64 f, i64 to, bd] := F24.ob d2 fun g => by
   rcases g with g | g
   ·exact d2.apart w12 (.inl (by decide)) g
   ·exact uM d2 g
  obtain ⟨net4, nd4, z1, z2, z3⟩ := I4.w
  obtain ⟨rfl, rfl⟩ := kO e2 z1
  obtain ⟨aa, x1, x2⟩ := z2.node hto
  obtain ⟨acc, prop, cho, met, km, o, Id⟩ := (I4.n to hto).ob
  have s0 : Ev fun m' => ∀ K : A2 → Hp → RS, k14_0 (aw p (exec p m')) (aF p (exec p m')) K (aR [.ptr W 0, i64 m] 0 .nil) h = K (T25 (.ptr W 0) (i64 i) (.ptr mj 0)) h2 := cf.mono fun m' u K => by
   simp only [k14_0, K2, bE, bF]
   (rw [aD u, kW (by omega), aY, aA, av, aC (az (Ob.c0 w1) 0 rfl), jk X, rI (gv (m := 3) cm rfl), rJ a1, uN d1]; try rfl)
  have hk := w3.le
  have s1 : Ev fun m' => ∀ K : A2 → Hp → RS, k14_1 (aw p (exec p m')) (aF p (exec p m')) K (T25 (.ptr W 0) (i64 i) (.ptr mj 0)) h2 = K (T26 (.ptr W 0) (.ptr mj 0)) h4 := c32.mono fun m' u K => by
   simp only [k14_1, K3, t25_0, t25_5, t25_6]
   (rw [aA, av, aC (az (Ob.c0 w12) 0 rfl), eF hi (by omega), aD u, aA, av, Nat.zero_add, cw e1]; try rfl)
  have lW := az (Ob.c0 e2) 1 (v := nd4) rfl
  have lt' : lD (.ptr mj (0 + 1)) h4 = .ok (i64 to) h4 := az (Ob.c0 mj4) 1 rfl
  cases hup : ns[to].s.up with
  | false =>
   have lup : lD (.ptr ns[to].N (0 + 4)) h4 = .ok (.bool false) h4 := az (Ob.c0 o) 4 (by rw [← hup]; rfl)
   refine ⟨true, k - 1, h4, .of (r' := T1 (.bool true)) (h1 := h4) T.e14 (by simp) (.to s0 (.to s1 (.eh (r' := T1 (.bool true)) (h' := h4) (fun c' i' K => ?_) .ret))) rfl, I4, .inr ⟨rfl, by omega⟩⟩
   simp only [k14_2, K2, t26_0, t26_6]
   (rw [ai (dB W 0), ai (bG W 0 1), ai lW, ai (bG mj 0 1), ai lt', ai x1, ai x2, ai (dB ns[to].N 0), ai (bG ns[to].N 0 4), ai lup, aY]; try rfl)
  | true =>
   have lup : lD (.ptr ns[to].N (0 + 4)) h4 = .ok (.bool true) h4 := az (Ob.c0 o) 4 (by rw [← hup]; rfl)
   have sb4 : SB h4 bd eG := ((sb.up O2).m86 F3).xY F4 fun j e => ⟨_, _, _, e ▸ w13, .inr (.inr (.inl rfl))⟩
   obtain ⟨h5, c33, O5, W5⟩ := Fu (f := f) (g := to) T.n W4 o rfl rfl sb4
   refine ⟨true, k - 1, h5, .of (r' := T1 (.bool true)) (h1 := h5) T.e14 (by simp) (.to s0 (.to s1 (.to (r' := T1 (.bool true)) (h' := h5) (c33.mono fun m' u K => ?_) .ret))) rfl, I4.up O5 W5, .inr ⟨rfl, by omega⟩⟩
   simp only [k14_2, K2, t26_0, t26_6]
   (rw [ai (dB W 0), ai (bG W 0 1), ai lW, ai (bG mj 0 1), ai lt', ai x1, ai x2, ai (dB ns[to].N 0), ai (bG ns[to].N 0 4), ai lup, dY, ai (dB W 0), ai (bG W 0 1), ai lW, ai (bG mj 0 1), ai lt', ai x1, ai x2, ai (gv (m := 3) (Ob.c0 mj4) rfl), kX u]; try rfl)
theorem JC (T : vr p) (I : Idle h0 h G W t ns c k) {m : Int} (hm : dq m) : ∃ k' h', Cv p 15 [.ptr W 0, i64 m] h aH h' ∧ Idle h0 h' G W t ns c k' := by
 obtain ⟨net, nd, w1, w2, w3⟩ := I.w
 obtain ⟨rr, cf, hr⟩ := ya T.n.m w1 w3 hm
 have ge : kY (i64 rr) i0 h = .ok (.bool (decide (0 ≤ rr))) h := Ag .i64 rr 0
 rcases hr with ⟨hk, rfl⟩ | ⟨i, rfl, hi⟩
 ·rw [decide_eq_false (by omega)] at ge
  refine ⟨k, h, .cS (r' := T27) (h1 := h) T.e15 (by simp) (.ag (cf.mono fun m' u => ?_)) rfl, I⟩
  simp only [k15_0, K2, bE, bF]
  (rw [aD u, aM ge, aY]; try rfl)
 ·rw [decide_eq_true (by omega)] at ge
  obtain ⟨v, h3, c32, n3, F3, O3, W3⟩ := JB T.n.m I.wf I.old w3 hi
  have w13 : bW h3 W t net nd := F3.ob w1 (uM w1)
  obtain ⟨h4, e1, e2, e3, e4⟩ := ff (k := 0) (v := v) w13 (by simp) n3.one
  have e2 : bW h4 W t v nd := e2
  have F4 : cT (fun j => j = W) h3 h4 := .on e3
  have O4 : Old h0 h4 := F4.old O3 fun j e => by rw [e]; exact I.nW
  have hk := w3.le
  refine ⟨k - 1, h4, .cS (r' := T27) (h1 := h4) T.e15 (by simp) (.ag ((cf.and c32).mono fun m' u => ?_)) rfl, I.DN ((F3.mono fun j e => .inr e).trans (F4.mono fun j e => .inl e)) (dZ W3 w13 e3 e4) O4 fun net' nd' g1 g2 => by
   obtain ⟨rfl, rfl⟩ := kO w1 g1
   exact ⟨v, e2, n3.oM F4 fun j e => ⟨_, _, e ▸ w13⟩⟩⟩
  obtain ⟨u1, u2⟩ := u
  simp only [k15_0, K2, bE, bF]
  (rw [aD u1, aM ge, dY, aA, av, aC (az (Ob.c0 w1) 0 rfl), eF hi (by omega), aD u2, aA, av, Nat.zero_add, cw e1]; try rfl)
theorem Fv (T : vr p) (I : Idle h0 h G W t ns c k) {m : Int} (hm : dq m) : ∃ k' h', Cv p 16 [.ptr W 0, i64 m] h aH h' ∧ Idle h0 h' G W t ns c k' := by
 obtain ⟨net, nd, w1, w2, w3⟩ := I.w
 obtain ⟨rr, cf, hr⟩ := ya T.n.m w1 w3 hm
 have ge : kY (i64 rr) i0 h = .ok (.bool (decide (0 ≤ rr))) h := Ag .i64 rr 0
 rcases hr with ⟨hk, rfl⟩ | ⟨i, rfl, hi⟩
 ·rw [decide_eq_false (by omega)] at ge
  refine ⟨k, h, .cS (r' := T27) (h1 := h) T.e16 (by simp) (.ag (cf.mono fun m' u => ?_)) rfl, I⟩
  simp only [k16_0, K2, bE, bF]
  (rw [aD u, aM ge, aY]; try rfl)
 ·rw [decide_eq_true (by omega)] at ge
  obtain ⟨q, f, to, bd, X, cm, hf, hto, sb⟩ := w3.at hi
  obtain ⟨mj, h1, a1, a2, a3, a4, a5, _⟩ := my (el := 86) (n := 3) I.wf (c := .k1 (Y3 i0 i0 .al)) trivial (by decide)
  obtain ⟨h2, d1, d2, d3, d4⟩ := mz (k := 0) (m := 3) (l' := [i64 f, i64 to, bd]) a3 rfl (by rw [bO]; omega)
  have d2 : Ob h2 mj 86 true .plain [i64 f, i64 to, bd] := d2
  have O2 : Old h h2 := fun j hj => by rw [d3 j (fun e => by rw [e] at hj; exact hj a2), a4 j hj]
  have W2 := dZ a5 a3 d3 d4
  have I2 := I.up O2 W2
  have w12 : bW h2 W t net nd := Ob.old w1 O2
  obtain ⟨net', k', h3, c34, z1, z2, F3, O3, W3⟩ := DP T.n.m W2 I2.old w12 I.nW (w3.up O2) hf hto (sb.up O2)
  refine ⟨k', h3, .cS (r' := T27) (h1 := h3) T.e16 (by simp) (.ag ((cf.and c34).mono fun m' u => ?_)) rfl, I2.DN F3 W3 O3 fun net' nd' g1 g2 => by
   obtain ⟨rfl, rfl⟩ := kO w12 g1
   exact ⟨_, z1, z2⟩⟩
  obtain ⟨u1, u2⟩ := u
  have cm2 := Ob.c0 d2
  simp only [k16_0, K2, bE, bF]
  (rw [aD u1, aM ge, dY, aA, av, aC (az (Ob.c0 w1) 0 rfl), jk X, rI (gv (m := 3) cm rfl), rJ a1, uN d1, av, aC (az cm2 0 rfl), av, aC (az cm2 1 rfl), av, aC (az cm2 2 rfl), aD u2]; try rfl)
theorem DQ (T : vr p) (I : Idle h0 h G W t ns c k) (hn : 0 < ns.length) : ∃ h', Cv p 21 [.ptr G 0] h .al h' ∧ Idle h0 h' G W t ns c k := by
 obtain ⟨h1, a1, a2, a3, a4⟩ := ff (k := 15) (v := .al) I.t (by decide) rfl
 have a2 : Ob h1 t 47 true .plain tL := a2
 have cG := Ob.c0 I.g
 have F : cT (fun j => j = t) h h1 := .on a3
 obtain ⟨lN, oN⟩ := (I.n 0 hn).MA
 obtain ⟨lD, oD⟩ := (I.n 0 hn).My
 have J := I.node (s' := ns[0].s) (c' := c) hn (F.mono fun j e => .inr (.inr e)) (dZ I.wf I.t a3 a4) a2 (Nat.le_refl c) ((I.n 0 hn).xY F (fun j e => e ▸ I.Sj) (fun e => oN.apart I.t (.inl (by decide)) e) (fun e => oD.apart I.t (.inl (by decide)) e) (Nat.le_refl c))
 have e : ns.set 0 ⟨ns[0].N, ns[0].D, ns[0].s⟩ = ns := List.ext_getElem (by simp) fun i h1 h2 => by
  rw [List.getElem_set]
  split
  ·rename_i g; subst g; rfl
  ·rfl
 rw [e] at J
 refine ⟨h1, .of (r' := T29 .al) (h1 := h1) T.e21 (by simp) (.aU fun c i K => ?_) rfl, J⟩
 simp only [k21_0, K1, dh]
 (rw [aA, av, aC (az cG 1 rfl), aA, av, aC (az (Ob.c0 I.t) 15 rfl), aA, av, aC (az cG 1 rfl), aA, av, Nat.zero_add, cw a1]; try rfl)
end
open Go.Cod
set_option maxRecDepth 20000
noncomputable section
variable {p : Pg} {h h0 h' h1 h2 h3 : Hp} {q j r W t G : P4} {s : Bs} {x y v a b d e net nd : AV} {L l : List AV} {A B : P4 → Prop} {n k c me : Nat} {ns ns' : List NR}
structure Aj (p : Pg) : Prop where
 x : vr p
 e6 : ar 6 p.fs = f6
 e7 : ar 7 p.fs = f7
 e8 : ar 8 p.fs = f8
 e9 : ar 9 p.fs = f9
 e10 : ar 10 p.fs = f10
 e25 : ar 25 p.fs = f25
abbrev B22 : AC := fst (fst (bh (fst (bh (bh (bh x22))))))
theorem Fw (T : vr p) (I : Idle h0 h G W t ns c k) : Cv p 22 [.ptr W 0] h (.bool false) h := by
 obtain ⟨net, nd, w1, w2, w3⟩ := I.w
 have cW := Ob.c0 w1
 have len5 := I.len
 have ln := I.Ak w2
 obtain ⟨r1, h1, ⟨_, e1⟩, k1⟩ := gz (p := p) (body := .ag k22_2 .skip) (r := T30 (.ptr W 0) i0 nd (i64 ns.length) (i64 (0 : Nat))) (h := h) ns.length
  (Inv := fun i r h' => r = T30 (.ptr W 0) i0 nd (i64 ns.length) (i64 i) ∧ h' = h) (l := 0) (Re := T30 (.ptr W 0) i0 nd (i64 ns.length) (i64 (ns.length : Nat))) (fun i r h' hi J => by
   obtain ⟨rfl, rfl⟩ := J
   refine ⟨_, h', .aU fun c' i' K => ?_, rfl, rfl⟩
   obtain ⟨aa, x1, x2⟩ := w2.node hi
   obtain ⟨acc, prop, cho, met, km, o, _⟩ := (I.n i hi).ob
   have cN := Ob.c0 o
   have lup : lD (.ptr ns[i].N (0 + 4)) h' = .ok (.bool ns[i].s.up) h' := az cN 4 rfl
   simp only [k22_2, K5, t30_0, t30_3, t30_12, t30_13, t30_14]
   (rw [di, gT, if_pos (by omega), jk x1, aC x2, aA, av, aC lup]; try dsimp only)
   cases ns[i].s.up with
   | true => (rw [dY, aA, av, aC (az cN 10 rfl), aM (show fW false [i0, i0] h' = .ok i0 h' from rfl), eF hi (by omega)]; try rfl)
   | false => (rw [aY, eF hi (by omega)]; try rfl)) (fun r h' J => by
   obtain ⟨rfl, rfl⟩ := J
   refine .aU fun c' i' K => ?_
   simp only [k22_2, K5, t30_0, t30_3, t30_12, t30_13, t30_14]
   (rw [di, gT, if_neg (by omega)]; try rfl)) ⟨rfl, rfl⟩
 subst e1
 obtain ⟨r2, h2, ⟨_, e2⟩, k2⟩ := gz (p := p) (body := B22) (r := T31 i0 (.bool false) nd (i64 ns.length) (i64 (0 : Nat))) (h := h1) ns.length
  (Inv := fun i r h' => r = T31 i0 (.bool false) nd (i64 ns.length) (i64 i) ∧ h' = h1) (l := 2) (Re := T12 (.bool false)) (fun i r h' hi J => by
   obtain ⟨rfl, rfl⟩ := J
   obtain ⟨aa, x1, x2⟩ := w2.node hi
   obtain ⟨acc, prop, cho, met, km, o, Id⟩ := (I.n i hi).ob
   have cN := Ob.c0 o
   have lup : lD (.ptr ns[i].N (0 + 4)) h' = .ok (.bool ns[i].s.up) h' := az cN 4 rfl
   have s5 : ∀ c' i' (K : A2 → Hp → RS), k22_5 c' i' K (T31 i0 (.bool false) nd (i64 ns.length) (i64 i)) h' = K (T31 i0 (.bool false) nd (i64 ns.length) (i64 i)) h' := fun c' i' K => by
    simp only [k22_5, K5, Al, An, uO, uP, uQ]
    (rw [di, gT, if_pos (by omega)]; try rfl)
   cases hup : ns[i].s.up with
   | false =>
    rw [hup] at lup
    refine ⟨T31 i0 (.bool false) nd (i64 ns.length) (i64 (i + 1 : Nat)), h', .eh s5 (.seq (.bJ (i := 3) (r' := T31 i0 (.bool false) nd (i64 ns.length) (i64 i)) (h' := h') (.aU fun c' i' K => ?_)) (.aU fun c' i' K => ?_)), rfl, rfl⟩
    ·simp only [k22_6, K5, Al, An, uO, uP, uQ]
     (rw [jk x1, aC x2, aA, av, aC lup, kP, bS, Bool.not_false, dY]; try rfl)
    ·simp only [k22_7, K5, Al, An, uO, uP, uQ]
     (rw [eF hi (by omega)]; try rfl)
   | true =>
    rw [hup] at lup
    obtain ⟨ckm, hkm⟩ := Id.km
    have cn := mP T.n.m.u.w.r.e39 (Ob.c0 Id.cho) hkm
    have cl := Ao T.n.m.u.w.r cN Id rfl rfl rfl
    have gt0 : bK .gt (i64 0) i0 h' = .ok (.bool false) h' := rfl
    obtain ⟨r', rn, e3, e6, e32, e33, e34⟩ : ∃ r', Os p (opsL (bh (fst (fst (bh B22))))) (T32 i0 (.bool false) (.ptr ns[i].N 0) nd (i64 ns.length) (i64 i)) h' (.nm r' h') ∧ y3 r' = i0 ∧ y6 r' = .bool false ∧ y32 r' = nd ∧ y33 r' = i64 ns.length ∧ y34 r' = i64 i :=
     ⟨_, .so (.bool false) rfl <| .so (.bool false) rfl <| .on rfl <| .so (.ptr ns[i].N 0) rfl <| .on rfl <| .call (v := .bool false) (h' := h') cl <| .so (.bool false) rfl <| .so (.bool false) rfl <|
      .on rfl <| .so (.ptr ns[i].N 0) rfl <| .on rfl <| .so (.ptr ns[i].N 0) rfl <| .on rfl <| .so (.ptr ns[i].N (0 + 17)) rfl <| .on rfl <| .step (v := .al) (h' := h') (az cN 17 rfl) <| .on rfl <| .so (i64 0) rfl <| .on rfl <| .step (v := .bool false) (h' := h') gt0 <| .so (.bool false) rfl <| .so (.bool false) rfl <| .nil, rfl, rfl, rfl, rfl, rfl⟩
    refine ⟨T31 i0 (.bool false) nd (i64 ns.length) (i64 (i + 1 : Nat)), h', .eh s5 (.seq (.block (.to (r' := T32 i0 (.bool false) (.ptr ns[i].N 0) nd (i64 ns.length) (i64 i)) (h' := h') (cn.mono fun m' u K => ?_) (.ops rn))) (.aU fun c' i' K => ?_)), rfl, rfl⟩
    ·simp only [k22_6, K5, Al, An, uO, uP, uQ]
     have y : ∀ K : AV → Hp → RS, Seat.Y i0 i0 h' K = K (.bool false) h' := fun K => kW (n := 0) (Int.le_refl 0)
     (rw [jk x1, aC x2, aA, av, aC lup, kP, bS, Bool.not_true, aY, aA, av, aC (az cN 9 rfl), aD u, y, aY]; try rfl)
    ·simp only [k22_7, K5, e3, e6, e32, e33, e34]
     (rw [eF hi (by omega)]; try rfl)) (fun r h' J => by
   obtain ⟨rfl, rfl⟩ := J
   refine .aU fun c' i' K => ?_
   simp only [k22_5, K5, Al, An, uO, uP, uQ]
   (rw [di, gT, if_neg (by omega)]; try rfl)) ⟨rfl, rfl⟩
 subst e2
 refine .of (r' := T29 (.bool false)) (h1 := h2) T.e22 (by simp) (.eh (r' := T15 (.ptr W 0) i0) (h' := h2) (fun c' i' K => by simp only [k22_0, K1, dh]) (.seq (.eh (r' := T30 (.ptr W 0) i0 nd (i64 ns.length) (i64 (0 : Nat))) (h' := h2) (fun c' i' K => ?_) (.bJ k1)) (.eh (r' := T16 (.ptr W 0) i0 (.bool false)) (h' := h2) (fun c' i' K => ?_) (.seq (.eh (r' := T31 i0 (.bool false) nd (i64 ns.length) (i64 (0 : Nat))) (h' := h2) (fun c' i' K => ?_) (.bJ k2)) (.aU fun c' i' K => ?_))))) rfl
 ·simp only [k22_1, K2, wE, wF]
  (rw [aA, av, aC (az cW 1 rfl), cU ln]; try rfl)
 ·simp only [k22_3, K2, t30_0, t30_3]
 ·simp only [k22_4, K3, t16_0, t16_3, t16_6]
  (rw [aA, av, aC (az cW 1 rfl), cU ln]; try rfl)
 ·simp only [k22_8, K1, t12_6]
theorem PU {z : Int} {m : Nat} {K : AV → Hp → RS} (e : z = m) : Seat.Q (i64 z) (pi m) h K = K (.bool true) h := by
 show Seat.Q (i64 z) (i64 (m : Int)) h K = _
 rw [gU, decide_eq_true e]
theorem qe {z : Int} {m : Nat} {K : AV → Hp → RS} (e : z ≠ m) : Seat.Q (i64 z) (pi m) h K = K (.bool false) h := by
 show Seat.Q (i64 z) (i64 (m : Int)) h K = _
 rw [gU, decide_eq_false e]
theorem JD (T : Aj p) (I : Idle h0 h G W t ns c k) (hn : 0 < ns.length) (hc : c < 4611686018427387904) {kind node num : Int} {tx : List Nat} (hm : dq num) (g1 : kind = 1 → tx = [] ∨ 10000 < tx.length) (g2 : kind = 2 → tx = []) :
  ∃ ns' k' h', Cv p 6 [.ptr G 0, .agg [i64 kind, i64 node, i64 num, .str tx]] h .al h' ∧ Idle h0 h' G W t ns' (c + 1) k' ∧ ns'.length = ns.length ∧ (kind = 1 ∨ kind = 8 → Fq ns ns') ∧ (kind = 8 → ∀ i : Nat, node = i → ∀ (h2 : i < ns'.length), ns'[i].s.up = true) := by
 obtain ⟨ip, h1, f1, f2, f3, f4, f5, _⟩ := gg (el := 29) (l := [i64 kind, i64 node, i64 num, .str tx]) I.wf (by simp)
 have I1 := I.up f4 f5
 have cp := Ob.c0 f3
 have cG := Ob.c0 I1.g
 have lG : lD (.ptr G (0 + 0)) h1 = .ok (.ptr W 0) h1 := az cG 0 rfl
 have lk : lD (.ptr ip (0 + 0)) h1 = .ok (i64 kind) h1 := az cp 0 rfl
 have ln : lD (.ptr ip (0 + 1)) h1 = .ok (i64 node) h1 := az cp 1 rfl
 have lm : lD (.ptr ip (0 + 2)) h1 = .ok (i64 num) h1 := az cp 2 rfl
 have lt' : lD (.ptr ip (0 + 3)) h1 = .ok (.str tx) h1 := az cp 3 rfl
 have fin : ∀ {ns' : List NR} {k' : Nat} {h2 : Hp}, Idle h0 h2 G W t ns' (c + 1) k' → ns'.length = ns.length → Rn p (.ag Ff (bh (fst (bh (fst (bh x6)))))) (T16 (.ptr G 0) (.ptr ip 0) (i64 kind)) h1 (.nm (T14 (.ptr G 0)) h2) →
   ∃ h', Cv p 6 [.ptr G 0, .agg [i64 kind, i64 node, i64 num, .str tx]] h .al h' ∧ Idle h0 h' G W t ns' (c + 1) k' := fun {ns' k' h2} J hl rn => by
  obtain ⟨h3, c3, J3⟩ := DQ T.x J (by omega)
  refine ⟨h3, .of (r' := T1 .al) (h1 := h3) T.e6 (by simp) (.eh (r' := T15 (.ptr G 0) (.ptr ip 0)) (h' := h1) (fun c' i' K => ?_) (.seq (.eh (r' := T16 (.ptr G 0) (.ptr ip 0) (i64 kind)) (h' := h1) (fun c' i' K => ?_) (.block rn)) (.ag (c3.mono fun m' u => ?_)))) rfl, J3⟩
  ·simp only [k6_0, K2, bE, bF]
   (rw [fU f1]; try rfl)
  ·simp only [k6_1, K2, wE, wF]
   (rw [av, aC lk]; try rfl)
  ·simp only [k6_6, K1, rK]
   (rw [aD u]; try rfl)
 have q1 : ∀ {bb : Bool}, decide (kind = 1) = bb → ∀ c' i' (K : A2 → Hp → RS), Ff c' i' K (T16 (.ptr G 0) (.ptr ip 0) (i64 kind)) h1 = K (T17 (.ptr G 0) (.ptr ip 0) (i64 kind) (.bool bb)) h1 := fun {bb} e c' i' K => by
  simp only [Ff, K3, t16_0, t16_3, t16_6]
  show Seat.Q (i64 kind) (i64 1) h1 _ = _
  rw [gU, e]
 by_cases k1 : kind = 1
 ·have J1 := I1.more (Nat.le_succ c)
  have rn : Rn p (.ag Ff (bh (fst (bh (fst (bh x6)))))) (T16 (.ptr G 0) (.ptr ip 0) (i64 kind)) h1 (.nm (T14 (.ptr G 0)) h1) := by
   refine .eh (q1 (decide_eq_true k1)) (.xG rfl ?_)
   have sn : bK .QO (.str tx) iS h1 = .ok (.bool (!decide (tx = []))) h1 := JE tx []
   have le : bK .le (i64 tx.length) (pi 10000) h1 = .ok (.bool (decide ((tx.length : Int) ≤ 10000))) h1 := Jz .i64 _ 10000
   by_cases ht : tx = []
   ·rw [decide_eq_true ht, Bool.not_true] at sn
    exact .seq (.ops (.so (.ptr ip (0 + 3)) rfl <| .step (v := .str tx) (h' := h1) lt' <| .step (v := .bool false) (h' := h1) sn <| .so (.bool false) rfl <| .off rfl <| .off rfl <| .off rfl <| .off rfl <| .so (.bool false) rfl <| .nil)) (.aU fun _ _ _ => rfl)
   ·rw [decide_eq_false ht, Bool.not_false] at sn
    have hl : 10000 < tx.length := (g1 k1).elim (fun e => absurd e ht) id
    rw [decide_eq_false (by omega)] at le
    exact .seq (.ops (.so (.ptr ip (0 + 3)) rfl <| .step (v := .str tx) (h' := h1) lt' <| .step (v := .bool true) (h' := h1) sn <| .so (.bool true) rfl <| .on rfl <| .so (.ptr ip (0 + 3)) rfl <| .on rfl <| .step (v := .str tx) (h' := h1) lt' <| .on rfl <| .step (v := i64 tx.length) (h' := h1) (yb tx) <| .on rfl <| .step (v := .bool false) (h' := h1) le <| .so (.bool false) rfl <| .nil)) (.aU fun _ _ _ => rfl)
  obtain ⟨h', cv, J⟩ := fin J1 rfl rn
  exact ⟨ns, k, h', cv, J, rfl, fun _ => .refl _, fun e => by omega⟩
 ·have head : ∀ {h2 : Hp}, (Ev fun m => um (aw p (exec p m)) (aF p (exec p m)) (fun r h => exec p m .skip r h) (T18 (.ptr G 0) (.ptr ip 0) (i64 kind) (.bool (decide (kind = 2)))) h1 = .nm (T14 (.ptr G 0)) h2) →
    Rn p (.ag Ff (bh (fst (bh (fst (bh x6)))))) (T16 (.ptr G 0) (.ptr ip 0) (i64 kind)) h1 (.nm (T14 (.ptr G 0)) h2) := fun {h2} e => by
   refine .eh (q1 (decide_eq_false k1)) (.Ix rfl (.eh (r' := T18 (.ptr G 0) (.ptr ip 0) (i64 kind) (.bool (decide (kind = 2)))) (h' := h1) (fun c' i' K => ?_) (.ag e)))
   simp only [k6_4, K3, t17_0, t17_3, t17_6]
   show Seat.Q (i64 kind) (i64 2) h1 _ = _
   rw [gU]
  by_cases k2 : kind = 2
  ·rw [decide_eq_true k2] at head
   have sn : sM (.str tx) iS h1 = .ok (.bool false) h1 := by
    have := JE (h := h1) tx []
    rw [decide_eq_true (g2 k2)] at this
    exact this
   obtain ⟨h', cv, J⟩ := fin (I1.more (Nat.le_succ c)) rfl (head (.all fun m' => by
    simp only [um, K4, pT, pU, pV, kQ]
    (rw [dY, av, aC lt', aM sn, aY]; try rfl)))
   exact ⟨ns, k, h', cv, J, rfl, fun e => by omega, fun e => by omega⟩
  rw [decide_eq_false k2] at head
  by_cases k3 : kind = 3
  ·obtain ⟨bb, k', h2, c14, J, _⟩ := mw T.x I1 hm
   obtain ⟨h', cv, J⟩ := fin (J.more (Nat.le_succ c)) rfl (head (c14.mono fun m' u => by
    simp only [um, K4, pT, pU, pV, kQ]
    (rw [aY, PU (m := 3) k3, dY, ai (dB G 0), ai (bG G 0 0), ai lG, ai (bG ip 0 2), ai lm, kX u]; try rfl)))
   exact ⟨ns, k', h', cv, J, rfl, fun e => by omega, fun e => by omega⟩
  by_cases k4 : kind = 4
  ·obtain ⟨k', h2, c15, J⟩ := JC T.x I1 hm
   obtain ⟨h', cv, J⟩ := fin (J.more (Nat.le_succ c)) rfl (head (c15.mono fun m' u => by
    simp only [um, K4, pT, pU, pV, kQ]
    (rw [aY, qe (m := 3) k3, aY, PU (m := 4) k4, dY, ai (dB G 0), ai (bG G 0 0), ai lG, ai (bG ip 0 2), ai lm, kX u]; try rfl)))
   exact ⟨ns, k', h', cv, J, rfl, fun e => by omega, fun e => by omega⟩
  by_cases k5 : kind = 5
  ·obtain ⟨k', h2, c16, J⟩ := Fv T.x I1 hm
   obtain ⟨h', cv, J⟩ := fin (J.more (Nat.le_succ c)) rfl (head (c16.mono fun m' u => by
    simp only [um, K4, pT, pU, pV, kQ]
    (rw [aY, qe (m := 3) k3, aY, qe (m := 4) k4, aY, PU (m := 5) k5, dY, ai (dB G 0), ai (bG G 0 0), ai lG, ai (bG ip 0 2), ai lm, kX u]; try rfl)))
   exact ⟨ns, k', h', cv, J, rfl, fun e => by omega, fun e => by omega⟩
  by_cases k6 : kind = 6
  ·obtain ⟨ns', k', h2, c17, J, hu⟩ := Jy T.x I1 node num hc
   obtain ⟨h', cv, J⟩ := fin J hu.1 (head (c17.mono fun m' u => by
    simp only [um, K4, pT, pU, pV, kQ]
    (rw [aY, qe (m := 3) k3, aY, qe (m := 4) k4, aY, qe (m := 5) k5, aY, PU (m := 6) k6, dY, ai (dB G 0), ai (bG G 0 0), ai lG, ai (bG ip 0 1), ai ln, ai (bG ip 0 2), ai lm, kX u]; try rfl)))
   exact ⟨ns', k', h', cv, J, hu.1, fun e => by omega, fun e => by omega⟩
  by_cases k7 : kind = 7
  ·obtain ⟨ns', h2, c18, J, hl⟩ := Fs T.x I1 node num
   obtain ⟨h', cv, J⟩ := fin J hl (head (c18.mono fun m' u => by
    simp only [um, K4, pT, pU, pV, kQ]
    (rw [aY, qe (m := 3) k3, aY, qe (m := 4) k4, aY, qe (m := 5) k5, aY, qe (m := 6) k6, aY, PU (m := 7) k7, dY, ai (dB G 0), ai (bG G 0 0), ai lG, ai (bG ip 0 1), ai ln, ai (bG ip 0 2), ai lm, kX u]; try rfl)))
   exact ⟨ns', k, h', cv, J, hl, fun e => by omega, fun e => by omega⟩
  by_cases k8 : kind = 8
  ·obtain ⟨ns', bb, h2, c19, J, hu, hs⟩ := Ft T.x I1 node hc
   obtain ⟨h', cv, J⟩ := fin J hu.1 (head (c19.mono fun m' u => by
    simp only [um, K4, pT, pU, pV, kQ]
    (rw [aY, qe (m := 3) k3, aY, qe (m := 4) k4, aY, qe (m := 5) k5, aY, qe (m := 6) k6, aY, qe (m := 7) k7, aY, PU (m := 8) k8, dY, ai (dB G 0), ai (bG G 0 0), ai lG, ai (bG ip 0 1), ai ln, kX u]; try rfl)))
   exact ⟨ns', k, h', cv, J, hu.1, fun _ => hu, fun _ => hs⟩
  by_cases k9 : kind = 9
  ·have c20 := Mz T.x I1 node num (.str tx)
   obtain ⟨h', cv, J⟩ := fin (I1.more (Nat.le_succ c)) rfl (head (c20.mono fun m' u => by
    simp only [um, K4, pT, pU, pV, kQ]
    (rw [aY, qe (m := 3) k3, aY, qe (m := 4) k4, aY, qe (m := 5) k5, aY, qe (m := 6) k6, aY, qe (m := 7) k7, aY, qe (m := 8) k8, aY, PU (m := 9) k9, dY, ai (dB G 0), ai (bG G 0 0), ai lG, ai (bG ip 0 1), ai ln, ai (bG ip 0 2), ai lm, ai (bG ip 0 3), ai lt', kX u]; try rfl)))
   exact ⟨ns, k, h', cv, J, rfl, fun e => by omega, fun e => by omega⟩
  ·obtain ⟨h', cv, J⟩ := fin (I1.more (Nat.le_succ c)) rfl (head (.all fun m' => by
    simp only [um, K4, pT, pU, pV, kQ]
    (rw [aY, qe (m := 3) k3, aY, qe (m := 4) k4, aY, qe (m := 5) k5, aY, qe (m := 6) k6, aY, qe (m := 7) k7, aY, qe (m := 8) k8, aY, qe (m := 9) k9, aY]; try rfl)))
   exact ⟨ns, k, h', cv, J, rfl, fun e => by omega, fun e => by omega⟩
def QG : AC → AC
 | .scope a => a
 | c => c
abbrev S7 : AC := bh (bh (QG (bh x7)))
theorem Ap (T : Aj p) (hn : 0 < ns.length) (k : Nat) : ∀ {st : Nat} {h : Hp} {cc : AC} {r0 : A2}, (∀ s, Rn p S7 (T19 (.ptr G 0) (i64 20000) (i64 st)) h s → Rn p cc r0 h s) → Idle h0 h G W t ns c k → st + k < 20000 →
  ∃ (st' : Nat) (h' : Hp), Rn p (.sat (QG (bh x7)) cc) r0 h (.ret (T20 .al (i64 st')) h') ∧ Idle h0 h' G W t ns c 0 ∧ st' ≤ 20000 := by
 induction k with
 | zero =>
  intro st h cc r0 hcc I hs
  obtain ⟨bb, k', h1, c14, J, hb⟩ := mw T.x I (m := 0) ⟨by omega, by omega⟩
  obtain ⟨rfl, _, rfl⟩ : bb = false ∧ (0 : Nat) = 0 ∧ k' = 0 := by
   rcases hb with g | ⟨_, g⟩
   ·exact g
   ·omega
  have c22 := Fw T.x J
  obtain ⟨h2, c21, J2⟩ := DQ T.x J hn
  have lt : ∀ h : Hp, bK .lt (i64 st) (i64 20000) h = .ok (.bool true) h := fun h => by
   show mY (.int .i64 st) (.int .i64 20000) h = _
   rw [uR, decide_eq_true (by omega)]
  have lG := az (Ob.c0 I.g) 0 (v := .ptr W 0) rfl
  have lG1 := az (Ob.c0 J.g) 0 (v := .ptr W 0) rfl
  refine ⟨st, h2, .sA (hcc _ ?_), J2, by omega⟩
  refine .seq (.seq (.ops (.so (i64 st) rfl <| .so (i64 20000) rfl <| .step (v := .bool true) (h' := h) (lt h) <| .so (.bool true) rfl <| .on rfl <| .so (.ptr G 0) rfl <| .on rfl <| .so (.ptr G 0) rfl <| .on rfl <| .so (.ptr G (0 + 0)) rfl <| .on rfl <| .step (v := .ptr W 0) (h' := h) lG <|
   .on rfl <| .call (v := .bool false) (h' := h1) c14 <| .so (.bool false) rfl <| .nil)) (.aU (s := .nm (T19 (.ptr G 0) (i64 20000) (i64 st)) h1) fun _ _ _ => rfl)) ?_
  refine .seq (.seq (.ops (.so (i64 st) rfl <| .so (i64 20000) rfl <| .step (v := .bool true) (h' := h1) (lt h1) <| .so (.bool true) rfl <| .on rfl <| .so (.ptr G 0) rfl <| .on rfl <| .so (.ptr G 0) rfl <| .on rfl <| .so (.ptr G (0 + 0)) rfl <| .on rfl <| .step (v := .ptr W 0) (h' := h1) lG1 <|
   .on rfl <| .call (v := .bool false) (h' := h1) c22 <| .so (.bool false) rfl <| .nil)) (.aU (s := .nm (T19 (.ptr G 0) (i64 20000) (i64 st)) h1) fun _ _ _ => rfl)) (.ag (c21.mono fun m' u => ?_))
  simp only [k7_4, K2, t19_0, t19_6]
  (rw [aD u]; try rfl)
 | succ k ih =>
  intro st h cc r0 hcc I hs
  obtain ⟨bb, k', h1, c14, J, hb⟩ := mw T.x I (m := 0) ⟨by omega, by omega⟩
  obtain ⟨rfl, rfl⟩ : bb = true ∧ k' = k := by
   rcases hb with ⟨_, g, _⟩ | ⟨g1, g2⟩
   ·omega
   ·exact ⟨g1, by omega⟩
  have lt : ∀ h : Hp, bK .lt (i64 st) (i64 20000) h = .ok (.bool true) h := fun h => by
   show mY (.int .i64 st) (.int .i64 20000) h = _
   rw [uR, decide_eq_true (by omega)]
  have lG := az (Ob.c0 I.g) 0 (v := .ptr W 0) rfl
  obtain ⟨st', h', rn, J', hs'⟩ := ih (st := st + 1) (h := h1) (cc := .seq .skip S7) (r0 := T19 (.ptr G 0) (i64 20000) (i64 (st + 1 : Nat))) (fun _ e => .seq .skip e) J (by omega)
  refine ⟨st', h', .xF (i := 0) (r' := T19 (.ptr G 0) (i64 20000) (i64 (st + 1 : Nat))) (h' := h1) (hcc _ (.PG (.seq (.ops (.so (i64 st) rfl <| .so (i64 20000) rfl <| .step (v := .bool true) (h' := h) (lt h) <| .so (.bool true) rfl <| .on rfl <| .so (.ptr G 0) rfl <| .on rfl <| .so (.ptr G 0) rfl <| .on rfl <| .so (.ptr G (0 + 0)) rfl <| .on rfl <| .step (v := .ptr W 0) (h' := h) lG <|
   .on rfl <| .call (v := .bool true) (h' := h1) c14 <| .so (.bool true) rfl <| .nil)) (.aU fun c' i' K => ?_)))) rfl rn, J', hs'⟩
  show Seat.D (i64 st) i1 h1 (fun f h => .go 0 (T19 (.ptr G 0) (i64 20000) f) h) = _
  rw [eF (i := st) (n := st + 1) (by omega) (by omega)]
theorem wG (T : Aj p) (hn : 0 < ns.length) (I : Idle h0 h G W t ns c k) : ∃ (st' : Nat) (h' : Hp), Cv p 7 [.ptr G 0, pi 20000] h (.gh [.al, i64 st']) h' ∧ Idle h0 h' G W t ns c 0 ∧ st' ≤ 20000 := by
 obtain ⟨net, nd, w1, w2, w3⟩ := I.w
 have hk := w3.le
 have mx : fW false [pi 20000, i0] h = .ok (i64 20000) h := JF 20000 0
 have mn : fW true [i64 20000, pi 20000] h = .ok (i64 20000) h := Cq 20000 20000
 obtain ⟨st', h', rn, J, hs⟩ := Ap (ns := ns) (cc := QG (bh x7)) (r0 := T11 (.ptr G 0) (pi 20000)) T hn k (st := 0) (h := h) (fun s e => by
  refine .eh (r' := T19 (.ptr G 0) (i64 20000) (i64 (0 : Nat))) (h' := h) (fun c' i' K => ?_) (.seq .label e)
  simp only [k7_1, K2, iQ, iR]
  (rw [aM mx, aM mn]; try rfl)) I (by omega)
 exact ⟨st', h', .of (r' := T20 .al (i64 st')) (h1 := h') T.e7 (by simp) (.eh (r' := T11 (.ptr G 0) (pi 20000)) (h' := h) (fun c' i' K => by simp only [k7_0, K2, bE, bF]) (.scope rn)) rfl, J, hs⟩
theorem JG (T : Aj p) (I : Idle h0 h G W t ns c k) {z bb : AV} (cu : Cv p 24 [.ptr W 0, z] h bb h) : Cv p 10 [.ptr G 0, z] h bb h := by
 refine .of (r' := T1 bb) (h1 := h) T.e10 (by simp) (.ag (cu.mono fun m' u => ?_)) rfl
 simp only [k10_0, K2, bE, bF]
 (rw [aA, av, aC (az (Ob.c0 I.g) 0 rfl), aD u]; try rfl)
theorem JH (T : Aj p) (I : Idle h0 h G W t ns c k) {i : Nat} (hi : i < ns.length) (hup : ns[i].s.up = true) : Cv p 8 [.ptr G 0, i64 i] h (.gh [i0, iS]) h := by
 have cu := Ah T.x.n I hi
 rw [hup] at cu
 have len5 := I.len
 have cG := Ob.c0 I.g
 have ct := Ob.c0 I.t
 have g3 : ∀ z : Nat, z < 5 → tL[z * 3]? = some i0 ∧ tL[z * 3 + 1]? = some iS := fun z hz => by
  match z, hz with
  | 0, _ => exact ⟨rfl, rfl⟩
  | 1, _ => exact ⟨rfl, rfl⟩
  | 2, _ => exact ⟨rfl, rfl⟩
  | 3, _ => exact ⟨rfl, rfl⟩
  | 4, _ => exact ⟨rfl, rfl⟩
 obtain ⟨e1, e2⟩ := g3 i (by omega)
 have l0 := az ct (i * 3) e1
 have l1 := az ct (i * 3 + 1) e2
 refine .of (r' := T20 i0 iS) (h1 := h) T.e8 (by simp) (.to (r' := T11 (.ptr G 0) (i64 i)) (h' := h) (cu.mono fun m' u K => ?_) (.aU fun c' i' K => ?_)) rfl
 ·simp only [k8_0, K2, bE, bF]
  (rw [aA, av, aC (az cG 0 rfl), aD u, kP, bS, Bool.not_true, aY]; try rfl)
 ·simp only [k8_1, K2, iQ, iR]
  (rw [ai (dB G 0), ai (bG G 0 1), ai (az cG 1 rfl), ai (dB t 0), ai (bG t 0 0), ai (MB t (0 + 0) (by omega)), ai (bG t (0 + 0 + i * 3) 0), ai (show lD (.ptr t (0 + 0 + i * 3 + 0)) h = .ok i0 h by rw [Nat.add_zero, Nat.add_zero]; exact l0),
   ai (dB G 0), ai (bG G 0 1), ai (az cG 1 rfl), ai (dB t 0), ai (bG t 0 0), ai (MB t (0 + 0) (by omega)), ai (bG t (0 + 0 + i * 3) 1), ai (show lD (.ptr t (0 + 0 + i * 3 + 1)) h = .ok iS h by rw [Nat.add_zero, Nat.add_assoc]; exact l1)]; try rfl)
theorem MC (T : Aj p) (I : Idle h0 h G W t ns c k) {i : Nat} (hi : i < ns.length) (hup : ns[i].s.up = true) : Cv p 9 [.ptr G 0, i64 i] h .al h := by
 have cu := Ah T.x.n I hi
 rw [hup] at cu
 have len5 := I.len
 have cG := Ob.c0 I.g
 have ct := Ob.c0 I.t
 have g3 : ∀ z : Nat, z < 5 → tL[z * 3 + 2]? = some .al := fun z hz => by
  match z, hz with
  | 0, _ => rfl
  | 1, _ => rfl
  | 2, _ => rfl
  | 3, _ => rfl
  | 4, _ => rfl
 have l2 := az ct (i * 3 + 2) (g3 i (by omega))
 have c25 : Cv p 25 [.al] h .al h := .of (r' := T29 .al) (h1 := h) T.e25 (by simp) (.ag (.all fun m => by
  simp only [k25_0, K1, dh]
  rw [aM (show bK (.gE .s) .al .al h = .ok (.bool true) h from rfl), dY])) rfl
 refine .of (r' := T1 .al) (h1 := h) T.e9 (by simp) (.ag ((cu.and c25).mono fun m' u => ?_)) rfl
 obtain ⟨u1, u2⟩ := u
 simp only [k9_0, K2, bE, bF]
 (rw [aA, av, aC (az cG 0 rfl), aD u1, kP, bS, Bool.not_true, aY, aA, av, aC (az cG 1 rfl), aA, av, aM (MB t (0 + 0) (by omega)), av, aC (show lD (.ptr t (0 + 0 + i * 3 + 2)) h = .ok .al h by rw [Nat.add_zero, Nat.add_assoc]; exact l2), aD u2]; try rfl)
theorem JI (T : Aj p) (I : Idle h0 h G W t ns c k) {m : Int} (hm : ¬ ∃ i : Nat, m = i ∧ i < ns.length) : Cv p 9 [.ptr G 0, i64 m] h .al h := by
 have cu := xZ T.x.n I hm
 refine .of (r' := T1 .al) (h1 := h) T.e9 (by simp) (.ag (cu.mono fun m' u => ?_)) rfl
 simp only [k9_0, K2, bE, bF]
 (rw [aA, av, aC (az (Ob.c0 I.g) 0 rfl), aD u, kP, bS, Bool.not_false, dY]; try rfl)
end
open Go.Cod
set_option maxRecDepth 20000
noncomputable section
variable {p : Pg} {h h0 hA h' h1 h2 h3 : Hp} {q j r W t G : P4} {s : Bs} {x y v a b d e net nd : AV} {L l : List AV} {A B : P4 → Prop} {n k c me : Nat} {ns rs : List NR}
abbrev PV (W D : P4) (i : Nat) : List AV := nL (.ptr W 0) (i64 i) (.ptr D 0) (i64 0) (.bool false) i0 i0 .da .da .da i0 .db i0 i0 i0 .db iS .al i0 i0 .db i0 i0 i0 (.bool false)
structure JJ (h : Hp) (W : P4) (i : Nat) (r : NR) : Prop where
 n : Ob h r.N 81 true .plain (PV W r.D i)
 d : Ob h r.D 92 true .plain [.al, i0]
def s1 : NS := ⟨0, true, 50, gS none + 1, 0, 0, false⟩
structure QI (hA h : Hp) (W t : P4) (rs : List NR) : Prop where
 old : Old hA h
 wf : Wf h
 w : ∃ nd, bW h W t .al nd ∧ dK h nd 68 1 (rs.map fun r => .ptr r.N 0) (fun j => ah j hA = .none)
 b : ∀ i (hi : i < rs.length), JJ h W i rs[i]
 s : ∀ i (hi : i < rs.length), rs[i].s = s1
 nd : ∀ i j (hi : i < rs.length) (hj : j < rs.length), i ≠ j → rs[i].N ≠ rs[j].N ∧ rs[i].D ≠ rs[j].D
 nW : ah W hA = .none
 nn : ∀ i (hi : i < rs.length), ah rs[i].N hA = .none ∧ ah rs[i].D hA = .none
structure Fx (p : Pg) : Prop where
 z : Aj p
 e4 : ar 4 p.fs = f4
 e5 : ar 5 p.fs = f5
 e12 : ar 12 p.fs = f12
 e28 : ar 28 p.fs = f28
theorem MD (T : Fx p) (Wf0 : Wf h) : ∃ D h', Cv p 28 [] h (.ptr D 0) h' ∧ Ob h' D 92 true .plain [.al, i0] ∧ ah D h = .none ∧ Old h h' ∧ Wf h' := by
 obtain ⟨q, h2, g1, g2, g3, g4, g5, _⟩ := gg (el := 92) (l := [.al, i0]) Wf0 (by simp)
 refine ⟨q, h2, .of (r' := T14 (.ptr q 0)) (h1 := h2) T.e28 (by simp) (.aU fun c i K => ?_) rfl, g3, g2, g4, g5⟩
 simp only [k28_0]
 (rw [jl (v := .agg [.al, i0]) (h' := h) rfl, fU g1]; try rfl)
theorem JK {el es : Nat} {b : P4 → Prop} (w : dK h x el es l b) : same x x = true := by
 rcases w with ⟨_, rfl | ⟨q, rfl⟩⟩ | ⟨q, n, rfl, _⟩
 ·rfl
 ·exact pW (es := 1) (n := 0) (q := q) (o := 0) (.inl ⟨0, rfl⟩)
 ·exact pW (es := es) (n := n) (q := q) (o := 0) (.inr (.inl rfl))
theorem uS {α : Type} {l : List α} {a : α} {P : Nat → α → Prop} (g : ∀ i (hi : i < l.length), P i l[i]) (ga : P l.length a) : ∀ i (hi : i < (l ++ [a]).length), P i (l ++ [a])[i] := fun i hi => by
 by_cases h : i < l.length
 ·rw [List.getElem_append_left h]; exact g i h
 ·obtain rfl : i = l.length := by simp at hi; omega
  rw [List.getElem_concat_length rfl]; exact ga
abbrev B12 : AC := fst (fst (bh (fst (bh x12))))
abbrev D12 : AC := fst (fst (fst (fst B12)))
theorem Fy (T : Fx p) (I : QI hA h W t rs) (hr : rs.length < 5) :
  ∃ r h', Rn p D12
   (T23 (.ptr W 0) (i64 rs.length) (i64 n) (i64 rs.length)) h (.nm r h') ∧ y5 r = .ptr W 0 ∧ y12 r = i64 n ∧ y13 r = i64 rs.length ∧ ∃ r1, QI hA h' W t (rs ++ [r1]) := by
 obtain ⟨nd, w1, w2⟩ := I.w
 obtain ⟨D, h1, cD, oD, nD, O1, W1⟩ := MD T I.wf
 obtain ⟨N, h2, fN, nN, oN, O2, W2, _⟩ := gg (el := 81) (l := PV W D rs.length) W1 (by simp)
 obtain ⟨z, h3, fz, nz, oz, O3, W3, _⟩ := rL (el := 68) (es := 1) (n := 1) (z := [.da]) (ps := [.mk 0 1 (.c (.ptr N 0))]) (l := [.ptr N 0]) W2 rfl rfl (by simp)
 have O12 := O1.trans O2
 have O13 := O12.trans O3
 have w3 : dK h3 nd 68 1 (rs.map fun r => .ptr r.N 0) (fun j => ah j hA = .none) := dK.old w2 fun j _ hj => O13 j hj
 obtain ⟨v, h4, f4, o4, W4, g4, k4⟩ := DR (m := 1) W3 w3 (by omega) (new := [.ptr N 0]) rfl (by simp; omega)
 have V : eJ 68 1 nd (.slice z 0 1 1) h3 = .ok v h4 := by
  rw [gA (m := 1) (q := z) (o := 0) (l := [.ptr N 0]) (.inl ⟨_, rfl⟩) (by omega) (fun _ => Ob.c0 oz) rfl (by omega)]
  exact f4
 have cW0 := Ob.c0 w1
 have cW1 := cW0.old O1
 have cW2 := cW1.old O2
 have cW3 := cW2.old O3
 have OA3 := I.old.trans O13
 have oW3 : bW h3 W t .al nd := Ob.old w1 O13
 have oW4 : bW h4 W t .al nd := Ob.eq oW3 (k4 _ _ _ _ _ oW3 (.inl (by decide)))
 obtain ⟨h5, aW, oW5, e5, n5⟩ := ff (k := 1) (v := v) oW4 (by simp) (yc o4)
 have oW5 : bW h5 W t .al v := oW5
 have W5 := dZ W4 oW4 e5 n5
 have up : ∀ {j : P4} {el : Nat} {l : List AV}, Ob h3 j el true .plain l → (el ≠ 68) → (el ≠ 67) → Ob h5 j el true .plain l := fun {j el l} o g1 g2 => by
  have o' := Ob.eq o (k4 _ _ _ _ _ o (.inl g1))
  exact o'.eq (e5 j fun e => o'.apart oW4 (.inl g2) e)
 have raw5 : ∀ {i : Nat} {r : NR}, JJ h W i r → JJ h5 W i r := fun {i r} g => ⟨up (g.n.old O13) (by decide) (by decide), up (g.d.old O13) (by decide) (by decide)⟩
 have old5 : Old hA h5 := fun j hj => by
  rw [e5 j (fun e => hj (by rw [e]; exact I.nW)), g4 j (by rw [OA3 j hj]; exact hj) hj, OA3 j hj]
 have nA : ah N hA = .none := (I.old.trans O1).none nN
 have dA : ah D hA = .none := I.old.none nD
 refine ⟨_, h5, .eH (.call (v := .ptr D 0) (h' := h1) cD <|
  .gB (v := .ptr W 0) (g' := h1) (h1' := h) rfl rfl (bm _ _) <| .gB (v := i64 rs.length) (g' := h1) (h1' := h) rfl rfl (dj _ _) <|
  .ro (.agg (PV W D rs.length)) rfl <| .dL (v := .ptr N 0) (h' := h2) fN <| .dL (v := .slice z 0 1 1) (h' := h3) fz <|
  .AW (v := .ptr W 0) (g' := h3) rfl (bm _ _) (.s rfl (.s rfl (.s rfl .z))) <| .AW (v := .ptr W 0) (g' := h3) rfl (bm _ _) (.s rfl (.s rfl (.s rfl .z))) <| .AW (v := .ptr W (0 + 1)) (g' := h3) rfl (bm _ _) (.s rfl (.s rfl (.s rfl .z))) <|
  .AW (v := nd) (g' := h3) (az cW3 1 rfl) (JK w2) (.s (az cW2 1 rfl) (.s (az cW1 1 rfl) (.s (az cW0 1 rfl) .z))) <|
  .dL (v := v) (h' := h4) V <|
  .AW (v := .ptr W 0) (g' := h4) rfl (bm _ _) (.s rfl (.s rfl (.s rfl (.s rfl .z)))) <| .ro (.ptr W 0) rfl <| .ro (.ptr W (0 + 1)) rfl <|
  .dL (v := .undef) (h' := h5) (show Seat.sT (.ptr W (0 + 1)) v h4 = _ from aW) <| .nil), rfl, rfl, rfl, ⟨N, D, s1⟩, old5, W5, ⟨v, oW5, ?_⟩, ?_, ?_, ?_, I.nW, ?_⟩
 ·have o5 : dK h5 v 68 1 ((rs.map fun r => .ptr r.N 0) ++ [.ptr N 0]) (fun j => ah j hA = .none ∨ ah j h3 = .none) := by
   rcases o4 with g | ⟨q, n, a1, a2, a3, a4⟩
   ·exact .inl g
   ·exact .inr ⟨q, n, a1, a2, a3.eq (e5 q fun e => a3.apart oW4 (.inl (by decide)) e), a4⟩
  rw [List.map_append]
  exact dK.mono o5 fun j g => g.elim (fun g => g) fun g => OA3.none g
 ·exact uS (P := fun i r => JJ h5 W i r) (fun i hi => raw5 (I.b i hi)) ⟨up (oN.old O3) (by decide) (by decide), up (oD.old (O2.trans O3)) (by decide) (by decide)⟩
 ·exact uS (P := fun _ (r : NR) => r.s = s1) I.s rfl
 ·have fresh : ∀ i (hi : i < rs.length), rs[i].N ≠ N ∧ rs[i].D ≠ D := fun i hi => ⟨fun e => ((I.b i hi).n.old O1).ne (by rw [e]; exact nN), fun e => (I.b i hi).d.ne (by rw [e]; exact nD)⟩
  intro i j hi hj hij
  by_cases h1 : i < rs.length
  ·by_cases h2 : j < rs.length
   ·rw [List.getElem_append_left h1, List.getElem_append_left h2]; exact I.nd i j h1 h2 hij
   ·obtain rfl : j = rs.length := by simp at hj; omega
    rw [List.getElem_append_left h1, List.getElem_concat_length rfl]; exact fresh i h1
  ·obtain rfl : i = rs.length := by simp at hi; omega
   have h2 : j < rs.length := by simp at hj; omega
   rw [List.getElem_append_left h2, List.getElem_concat_length rfl]; exact ⟨fun e => (fresh j h2).1 e.symm, fun e => (fresh j h2).2 e.symm⟩
 ·exact uS (P := fun i (r : NR) => ah r.N hA = .none ∧ ah r.D hA = .none) I.nn ⟨nA, dA⟩
structure Sk (hA h : Hp) (W t : P4) (nd : AV) (rs : List NR) (m : Nat) : Prop where
 fr : cT (fun j => j = t) hA h
 wf : Wf h
 w : bW h W t .al nd ∧ en h nd (rs.map NR.N)
 t : Ob h t 47 true .plain tL
 a : ∀ i (hi : i < rs.length), i < m → jS h W i 1 rs[i]
 b : ∀ i (hi : i < rs.length), m ≤ i → JJ h W i rs[i]
 s : ∀ i (hi : i < rs.length), rs[i].s = s1
 nd : ∀ i j (hi : i < rs.length) (hj : j < rs.length), i ≠ j → rs[i].N ≠ rs[j].N ∧ rs[i].D ≠ rs[j].D
 nW : ah W hA = .none
 nn : ∀ i (hi : i < rs.length), ah rs[i].N hA = .none ∧ ah rs[i].D hA = .none
theorem QI.go (I : QI hA h W t rs) (o : Ob hA t 47 true .plain tL) : ∃ nd, Sk hA h W t nd rs 0 :=
 let ⟨nd, w1, w2⟩ := I.w
 ⟨nd, .of I.old, I.wf, ⟨w1, by rw [en, List.map_map]; exact dK.mono w2 fun _ _ => trivial⟩, o.old I.old, fun i hi g => absurd g (Nat.not_lt_zero i), fun i hi _ => I.b i hi, I.s, I.nd, I.nW, I.nn⟩
theorem Cr (T : Fx p) (I : Sk hA h W t nd rs me) (hr : rs.length ≤ 5) (hm : me < rs.length) : ∃ h', Cv p 29 [.ptr rs[me].N 0, .bool false] h aH h' ∧ Sk hA h' W t nd rs (me + 1) := by
 obtain ⟨w1, w2⟩ := I.w
 have rw0 := I.b me hm (Nat.le_refl _)
 obtain ⟨acc, prop, cho, met, km, h', c29, o', Id', d', ot, F, W'⟩ := Ai (o := none) T.z.x.n.m.u I.wf false (clock := 0) rw0.n w1 w2 I.t (show me < 5 by omega) rw0.d (Int.le_refl 0) (by show (0 : Int) < _; omega)
 have mN : vu h rs[me].N := ⟨_, _, _, rw0.n, .inl rfl⟩
 have mD : vu h rs[me].D := ⟨_, _, _, rw0.d, .inr (.inl rfl)⟩
 have mT : vu h t := ⟨_, _, _, I.t, .inr (.inr (.inr (.inl rfl)))⟩
 have mm : ∀ j, (j = rs[me].N ∨ j = rs[me].D ∨ j = t) → vu h j := fun j g => by
  rcases g with rfl | rfl | rfl
  ·exact mN
  ·exact mD
  ·exact mT
 have hW : ¬ (W = rs[me].N ∨ W = rs[me].D ∨ W = t) := fun g => by
  rcases g with g | g | g
  ·exact Ob.apart w1 rw0.n (.inl (by decide)) g
  ·exact Ob.apart w1 rw0.d (.inl (by decide)) g
  ·exact Ob.apart w1 I.t (.inl (by decide)) g
 have offN : ∀ {j : P4} {l : List AV}, Ob h j 81 true .plain l → j ≠ rs[me].N → ¬ (j = rs[me].N ∨ j = rs[me].D ∨ j = t) := fun {j l} o hne g => by
  rcases g with g | g | g
  ·exact hne g
  ·exact o.apart rw0.d (.inl (by decide)) g
  ·exact o.apart I.t (.inl (by decide)) g
 have offD : ∀ {j : P4} {l : List AV}, Ob h j 92 true .plain l → j ≠ rs[me].D → ¬ (j = rs[me].N ∨ j = rs[me].D ∨ j = t) := fun {j l} o hne g => by
  rcases g with g | g | g
  ·exact o.apart rw0.n (.inl (by decide)) g
  ·exact hne g
  ·exact o.apart I.t (.inl (by decide)) g
 refine ⟨h', c29, I.fr.lt F fun j g => ?_, W', ⟨F.ob w1 hW, w2.xY F mm⟩, ot, fun i hi g => ?_, fun i hi g => ?_, I.s, I.nd, I.nW, I.nn⟩
 ·rcases g with g | g | g
  ·exact .inr (g ▸ (I.nn me hm).1)
  ·exact .inr (g ▸ (I.nn me hm).2)
  ·exact .inl g
 ·by_cases e : i = me
  ·subst e
   have e1 : rs[i].s = ⟨0, true, 50, gS none + 1, 0, 0, false⟩ := I.s i hi
   refine ⟨⟨acc, prop, cho, met, km, by rw [e1]; exact o', Id'⟩, by rw [e1]; exact d', ?_, ?_⟩
   ·rw [e1]; exact ⟨by decide, by decide⟩
   ·rw [e1]; exact ⟨by decide, by decide⟩
  ·have w0 := I.a i hi (by omega)
   obtain ⟨_, oN⟩ := w0.MA
   obtain ⟨_, oD⟩ := w0.My
   exact w0.xY F mm (offN oN (I.nd i me hi hm e).1) (offD oD (I.nd i me hi hm e).2) (Nat.le_refl _)
 ·have w0 := I.b i hi (by omega)
  exact ⟨F.ob w0.n (offN w0.n (I.nd i me hi hm (by omega)).1), F.ob w0.d (offD w0.d (I.nd i me hi hm (by omega)).2)⟩
theorem ME (T : Fx p) (Wf0 : Wf h) (ot : Ob h t 47 true .plain tL) (hn : n ≤ 5) : ∃ W nd rs h', Cv p 12 [i64 n, .iface 42 (.ptr t 0)] h (.ptr W 0) h' ∧ Sk h h' W t nd rs n ∧ rs.length = n := by
 obtain ⟨W, h1, f1, f2, f3, f4, f5, _⟩ := gg (el := 67) (l := [.al, .al, .iface 42 (.ptr t 0)]) Wf0 (by simp)
 have I0 : QI h h1 W t [] := ⟨f4, f5, ⟨.al, f3, .inl ⟨rfl, .inl rfl⟩⟩, fun i hi => absurd hi (Nat.not_lt_zero i), fun i hi => absurd hi (Nat.not_lt_zero i), fun i j hi _ _ => absurd hi (Nat.not_lt_zero i), f2, fun i hi => absurd hi (Nat.not_lt_zero i)⟩
 obtain ⟨ra, h2, ⟨ea, rs, lr, I⟩, k1⟩ := gz (p := p) (body := B12) (r := T21 (.ptr W 0) (i64 n) (i64 (0 : Nat))) (h := h1) n
  (Inv := fun i r h' => r = T21 (.ptr W 0) (i64 n) (i64 i) ∧ ∃ rs : List NR, rs.length = i ∧ QI h h' W t rs) (l := 0) (Re := T22 (.ptr W 0)) (fun i r h' hi J => by
   obtain ⟨rfl, rs, rfl, J⟩ := J
   obtain ⟨r', h'', rn, e5, e12, e13, r1, J'⟩ := Fy (n := n) T J (by omega)
   refine ⟨T21 (.ptr W 0) (i64 n) (i64 (rs.length + 1 : Nat)), h'', .eh (r' := T21 (.ptr W 0) (i64 n) (i64 rs.length)) (h' := h') (fun c' i' K => ?_) (.seq (.block (.eh (r' := T23 (.ptr W 0) (i64 rs.length) (i64 n) (i64 rs.length)) (h' := h') (fun c' i' K => ?_) rn)) (.aU fun c' i' K => ?_)), rfl, _, by simp, J'⟩
   ·simp only [k12_2, K3, t21_5, t21_12, t21_13]
    (rw [di, gT, if_pos (by omega)]; try rfl)
   ·simp only [k12_3, K3, t21_5, t21_12, t21_13]
   ·simp only [k12_4, K3, e5, e12, e13]
    (rw [eF (n := 6) (by omega) (by omega)]; try rfl)) (fun r h' J => by
   obtain ⟨rfl, rs, _, J⟩ := J
   refine .aU fun c' i' K => ?_
   simp only [k12_2, K3, t21_5, t21_12, t21_13]
   (rw [di, gT, if_neg (by omega)]; try rfl)) ⟨rfl, [], rfl, I0⟩
 subst ea
 obtain ⟨nd, J⟩ := I.go ot
 obtain ⟨w1, w2⟩ := J.w
 have cW := Ob.c0 w1
 have ln : Am.len nd h2 = .ok (i64 n) h2 := by
  have := w2.len
  rw [List.length_map, lr] at this
  exact this
 obtain ⟨rb, h3, ⟨eb, Jb⟩, k2⟩ := gz (p := p) (body := .ag k12_6 .skip) (r := T24 (.ptr W 0) nd (i64 n) (i64 (0 : Nat))) (h := h2) n
  (Inv := fun i r h' => r = T24 (.ptr W 0) nd (i64 n) (i64 i) ∧ Sk h h' W t nd rs i) (l := 2) (Re := T24 (.ptr W 0) nd (i64 n) (i64 (n : Nat))) (fun i r h' hi J => by
   obtain ⟨rfl, J⟩ := J
   have wn := J.w.2
   have hm : i < rs.length := by omega
   obtain ⟨h'', c29, J'⟩ := Cr T J (by omega) hm
   obtain ⟨aa, x1, x2⟩ := wn.node hm
   refine ⟨_, h'', .ag (c29.mono fun m' u => ?_), rfl, J'⟩
   simp only [k12_6, K4, t24_5, t24_34, t24_35, t24_36]
   (rw [di, gT, if_pos (by omega), jk x1, aC x2, aD u, eF hi (by omega)]; try rfl)) (fun r h' J => by
   obtain ⟨rfl, J⟩ := J
   refine .aU fun c' i' K => ?_
   simp only [k12_6, K4, t24_5, t24_34, t24_35, t24_36]
   (rw [di, gT, if_neg (by omega)]; try rfl)) ⟨rfl, J⟩
 subst eb
 refine ⟨W, nd, rs, h3, .of (r' := T1 (.ptr W 0)) (h1 := h3) T.e12 (by simp) (.eh (r' := T4 (i64 n) (.ptr W 0)) (h' := h1) (fun c' i' K => ?_) (.seq (.eh (r' := T21 (.ptr W 0) (i64 n) (i64 (0 : Nat))) (h' := h1) (fun c' i' K => ?_) (.bJ k1)) (.seq (.eh (r' := T24 (.ptr W 0) nd (i64 n) (i64 (0 : Nat))) (h' := h2) (fun c' i' K => ?_) (.bJ k2)) (.aU fun c' i' K => ?_)))) rfl, Jb, lr⟩
 ·simp only [k12_0, K2, bE, bF]
  (rw [jl (v := .agg [.al, .al, .iface 42 (.ptr t 0)]) (h' := h) rfl, fU f1]; try rfl)
 ·simp only [k12_1, K2, t4_0, t4_5]
  rfl
 ·simp only [k12_5, K1, t22_5]
  (rw [aA, av, aC (az cW 1 rfl), cU ln]; try rfl)
 ·simp only [k12_7, K1, t24_5]
end
open Go.Cod
set_option maxRecDepth 20000
noncomputable section
variable {p : Pg} {h h0 hA h' h1 h2 h3 : Hp} {q j r W t G : P4} {s : Bs} {x y v a b d e net nd : AV} {L l : List AV} {A B : P4 → Prop} {n k c me : Nat} {ns ns' rs : List NR}
theorem Fz (e4 : ar 4 p.fs = f4) (c : Int) (hc : dq c) (n : Nat) (hn : n < 4611686018427387904) : ∃ k : Nat, k ≤ n ∧ Cv p 4 [i64 c, i0, i64 n] h (i64 k) h := by
 have w1 : ∀ K : AV → Hp → RS, Seat.Z (i64 n) i0 h K = K (i64 n) h := fun K => by
  show Seat.Z (i64 n) (i64 0) h K = _
  rw [uT, gV _ (by unfold dq; omega)]
  simp
 have w2 : ∀ K : AV → Hp → RS, Seat.D (i64 n) i1 h K = K (i64 ((n + 1 : Nat) : Int)) h := fun K => by
  show Seat.D (i64 n) (i64 1) h K = _
  rw [hS, gV _ (by unfold dq; omega)]; rfl
 have w3 : vA (i64 c) (i64 ((n + 1 : Nat) : Int)) h = .ok (i64 (c.tmod ((n + 1 : Nat) : Int))) h := by
  have : Bc c (Int.ofNat (n + 1)) = c.tmod (Int.ofNat (n + 1)) := by cases c <;> rfl
  show FT (.int .i64 (Bc c (Int.ofNat (n + 1)))) h = _
  rw [this]; rfl
 have hb1 : -((n : Int)) ≤ c.tmod ((n + 1 : Nat) : Int) ∧ c.tmod ((n + 1 : Nat) : Int) ≤ n := by
  have a1 := Int.tmod_lt_of_pos c (show (0 : Int) < ((n + 1 : Nat) : Int) by omega)
  have a2 := Int.lt_tmod_of_pos c (show (0 : Int) < ((n + 1 : Nat) : Int) by omega)
  omega
 generalize hg : c.tmod ((n + 1 : Nat) : Int) = g at *
 by_cases hneg : g < 0
 ·refine ⟨(g + (n + 1)).toNat, by omega, .of (r' := T12 (i64 ((g + (n + 1)).toNat : Nat))) (h1 := h) e4 (by simp) (.eh (r' := T11 (i64 (g + (n + 1))) i0) (h' := h) (fun c i K => ?_) (.aU fun c i K => ?_)) rfl⟩
  ·simp only [k4_0, K3, ml, mq, mr]
   have d1 : ∀ K : AV → Hp → RS, Seat.D (i64 g) (i64 n) h K = K (i64 (g + n)) h := fun K => by rw [hS, gV _ (by unfold dq; omega)]
   have d2 : ∀ K : AV → Hp → RS, Seat.Z (i64 (g + n)) i0 h K = K (i64 (g + n)) h := fun K => by
    show Seat.Z (i64 (g + n)) (i64 0) h K = _
    rw [uT, gV _ (by unfold dq; omega)]
    simp
   have d3 : ∀ K : AV → Hp → RS, Seat.D (i64 (g + n)) i1 h K = K (i64 (g + (n + 1))) h := fun K => by
    show Seat.D (i64 (g + n)) (i64 1) h K = _
    rw [hS, gV _ (by unfold dq; omega), Int.add_assoc]
   have y0 : ∀ K : AV → Hp → RS, Seat.Y (i64 g) i0 h K = K (.bool true) h := fun K => by
    show Seat.Y (i64 g) (i64 0) h K = _
    rw [di, decide_eq_true hneg]
   (rw [w1, w2, aM w3, y0, dY, d1, d2, d3]; try rfl)
  ·simp only [k4_1, K2, iQ, iR]
   have d4 : ∀ K : AV → Hp → RS, Seat.D i0 (i64 (g + (n + 1))) h K = K (i64 ((g + (n + 1)).toNat : Nat)) h := fun K => by
    show Seat.D (i64 0) (i64 (g + (n + 1))) h K = _
    rw [hS, gV _ (by unfold dq; omega), show (0 : Int) + (g + (n + 1)) = (((g + (n + 1)).toNat : Nat) : Int) by omega]
   (rw [d4]; try rfl)
 ·refine ⟨g.toNat, by omega, .of (r' := T12 (i64 (g.toNat : Nat))) (h1 := h) e4 (by simp) (.eh (r' := T11 (i64 g) i0) (h' := h) (fun c i K => ?_) (.aU fun c i K => ?_)) rfl⟩
  ·simp only [k4_0, K3, ml, mq, mr]
   have y0 : ∀ K : AV → Hp → RS, Seat.Y (i64 g) i0 h K = K (.bool false) h := fun K => by
    show Seat.Y (i64 g) (i64 0) h K = _
    rw [di, decide_eq_false hneg]
   (rw [w1, w2, aM w3, y0, aY]; try rfl)
  ·simp only [k4_1, K2, iQ, iR]
   have d4 : ∀ K : AV → Hp → RS, Seat.D i0 (i64 g) h K = K (i64 (g.toNat : Nat)) h := fun K => by
    show Seat.D (i64 0) (i64 g) h K = _
    rw [hS, gV _ (by unfold dq; omega), show (0 : Int) + g = ((g.toNat : Nat) : Int) by omega]
   (rw [d4]; try rfl)
theorem Sl {n : Nat} (h1 : 1 ≤ n) (hn : n ≤ 5) {c : Cf} {i : Iv} {K : A2 → Hp → RS} : k5_0 c i K (aR [i64 n] 0 .nil) h = K (T14 (i64 n)) h := by
 match n, h1, hn with
 | 1, _, _ => rfl
 | 2, _, _ => rfl
 | 3, _, _ => rfl
 | 4, _, _ => rfl
 | 5, _, _ => rfl
theorem MF (T : Fx p) (Wf0 : Wf h) (h1 : 1 ≤ n) (hn : n ≤ 5) : ∃ G W t ns h', Cv p 5 [i64 n] h (.gh [.ptr G 0, i0]) h' ∧ Idle h h' G W t ns 1 0 ∧ ns.length = n ∧ ∀ i (hi : i < ns.length), ns[i].s.up = true := by
 obtain ⟨t, h1', f1, f2, f3, f4, f5, _⟩ := gg (el := 47) (l := tL) Wf0 (by decide)
 obtain ⟨G, h2, g1, g2, g3, g4, g5, _⟩ := gg (el := 50) (l := [.da, .ptr t 0]) f5 (by simp)
 have ot2 := f3.old g4
 obtain ⟨W, nd, ns, h3, c12, M, ln⟩ := ME T g5 ot2 hn
 have O2 := f4.trans g4
 have nGt : G ≠ t := fun e => g3.apart ot2 (.inl (by decide)) e
 have oG3 := M.fr.ob g3 nGt
 obtain ⟨h4, a1, o4, e4, n4⟩ := ff (k := 0) (v := .ptr W 0) oG3 (by simp) rfl
 have o4 : Ob h4 G 50 true .plain [.ptr W 0, .ptr t 0] := o4
 have F4 : cT (fun j => j = G) h3 h4 := .on e4
 have gG : ∀ k, k = G → ∃ el l, Ob h3 k el true .plain l := fun k e => ⟨_, _, e ▸ oG3⟩
 obtain ⟨w1, w2⟩ := M.w
 have nG0 : ah G h = .none := f4.none g2
 have nt0 : ah t h = .none := f2
 have old3 : Old h h3 := M.fr.old O2 fun j e => e ▸ nt0
 refine ⟨G, W, t, ns, h4, .of (r' := T13 (.ptr G 0) i0) (h1 := h4) T.e5 (by simp) (.eh (r' := T14 (i64 n)) (h' := h) (fun c' i' K => Sl h1 hn) (.ag (c12.mono fun m u => ?_))) rfl, ⟨F4.old old3 fun j e => e ▸ nG0, dZ M.wf oG3 e4 n4, o4, ⟨.al, nd, F4.ob w1 fun e => Ob.apart w1 oG3 (.inl (by decide)) e, yd w2 F4 gG, .inl ⟨rfl, rfl⟩⟩, F4.ob M.t fun e => M.t.apart oG3 (.inl (by decide)) e, fun i hi => ?_, M.nd, O2.none M.nW, nt0, fun i hi => ⟨O2.none (M.nn i hi).1, O2.none (M.nn i hi).2⟩, by omega⟩, ln, fun i hi => by rw [M.s i hi]; rfl⟩
 ·simp only [k5_1, K1, rK]
  (rw [jl (v := .agg tL) (h' := h) rfl, fU f1, jl (v := .agg [.da, .ptr t 0]) (h' := h1') rfl, fU g1, aA, av, aC (az (Ob.c0 g3) 1 rfl), aD u, aA, av, Nat.zero_add, cw a1]; try rfl)
 ·have w0 := M.a i hi (by omega)
  obtain ⟨_, oN⟩ := w0.MA
  obtain ⟨_, oD⟩ := w0.My
  obtain ⟨⟨acc, prop, cho, met, km, o, I⟩, d, w3, w4⟩ := w0
  exact ⟨⟨acc, prop, cho, met, km, F4.ob o fun e => o.apart oG3 (.inl (by decide)) e, I.oM F4 fun k e => ⟨50, _, e ▸ oG3, by decide, by decide⟩⟩, d.oM F4 (fun e => oD.apart oG3 (.inl (by decide)) e) gG, w3, w4⟩
structure It where
 kind : Int
 node : Int
 num : Int
 text : List Nat
def SH (t : It) : List AV := [i64 t.kind, i64 t.node, i64 t.num, .str t.text]
def Aq (h : Hp) (x : AV) (ts : List It) : Prop := AX h 4 (fun l t => l = SH t ∧ dq t.num) x ts
structure Ar (p : Pg) : Prop where
 b : Fx p
 e3 : ar 3 p.fs = f3
 e11 : ∀ h : Hp, Cv p 11 [] h (.bool true) h
theorem PW (n : Nat) : fk n [.int .u8 (.ofNat 0)] = bc (List.replicate n 0) := by
 induction n with
 | zero => rfl
 | succ n ih =>
  show [AV.int .u8 (.ofNat 0)] ++ fk n [.int .u8 (.ofNat 0)] = _
  rw [ih]; rfl
theorem eW (Wf0 : Wf h) {n : Nat} (h1 : 10000 < n) (hn : n ≤ 1048576) (r : A2) : ∃ v h' tx, ic 5 [.int .u8 (.ofNat 0)] (.c (i64 n)) (.c (i64 n)) r h = .ok v h' ∧ cK .KH v h' = .ok (.str tx) h' ∧ 10000 < tx.length ∧ Old h h' ∧ Wf h' := by
 obtain ⟨q, h', e1, e2, e3, e4, e5, _⟩ := qG (el := 5) (ex := true) (fl := .plain) Wf0 (bc (List.replicate n 0)) (c := mE (bc (List.replicate n 0))) (Gd.of _ (by rw [bu, List.length_replicate]; omega)) (fun k hk => ir _ (by rw [bu, List.length_replicate]; omega) k hk) (fun i h => .ok (.slice i 0 n n) h)
 have rb : kR h' (.slice q 0 n n) (List.replicate n 0) := ⟨q, 0, n, .inl ⟨n, rfl⟩, by simp, fun _ => Ob.c0 e3⟩
 refine ⟨.slice q 0 n n, h', (List.replicate n 0).map UInt8.toNat, ?_, PX rb, by simp; omega, e4, e5⟩
 show (@Bool.rec (fun _ => RV) (.err 39) (@Bool.rec (fun _ => RV) (.err 40) (QS 5 n n (fk n [.int .u8 (.ofNat 0)]) h) (Nat.ble n 1048576)) (Nat.ble n n)) = _
 rw [Nat.ble_eq_true_of_le (Nat.le_refl n), Nat.ble_eq_true_of_le hn, PW]
 exact e1
theorem MG (T : Ar p) (I : Idle h0 h G W t ns c k) (hn : 0 < ns.length) (hc : c < 1000) (t' : It) (hm : dq t'.num) (hk : t'.kind = 1 → t'.text = []) (hk2 : t'.kind = 2 → t'.text = []) :
  ∃ ns' k' h', Cv p 6 [.ptr G 0, .agg (SH t')] h .al h' ∧ Idle h0 h' G W t ns' (c + 1) k' ∧ ns'.length = ns.length := by
 obtain ⟨ns', k', h', a, b, e, _, _⟩ := JD T.b.z I hn (by omega) (kind := t'.kind) (node := t'.node) (num := t'.num) (tx := t'.text) hm (fun g => .inl (hk g)) hk2
 exact ⟨ns', k', h', a, b, e⟩
abbrev L3 : AC := fst (bh (bh x3))
abbrev B3 : AC := fst (fst (bh L3))
abbrev C3 : AC := fst (bh (fst (fst (bh B3))))
theorem FA (T : Ar p) (I : Idle h0 h G W t ns c k) (hn : 0 < ns.length) (hc : c < 1000) {ts : List It} (rd : Aq h x ts) {i : Nat} (hi : i < ts.length) (h60 : i < 60) {z : AV} :
  ∃ ns' k' h', Rn p B3 (T3 z x (.ptr G 0) (i64 i)) h (.nm (T3 z x (.ptr G 0) (i64 (i + 1 : Nat))) h') ∧ Idle h0 h' G W t ns' (c + 1) k' ∧ ns'.length = ns.length := by
 obtain ⟨q, o, sl, g⟩ := AX.sl rd
 obtain ⟨l, l1, l2, l3, hm⟩ := g i hi
 generalize hts : ts[i] = tt at l3 hm
 subst l3
 obtain ⟨q8, h1, c1, c2, c3, c4, c5, _⟩ := NQ (el := 29) I.wf sl hi l2 l1 (c0 := .k1 (Y4 i0 i0 i0 iS)) trivial (by decide)
 have I1 := I.up c4 c5
 have o3 : Ob h1 q8 29 true .plain [i64 tt.kind, i64 tt.node, i64 tt.num, .str tt.text] := c3
 have cg : ∀ {el : Nat} {l : List AV}, Ob h1 q8 29 true .plain l → Cs h1 q8 0 l := fun o => Ob.c0 o
 have s3 : ∀ c i' (K : A2 → Hp → RS), k3_3 c i' K (T3 z x (.ptr G 0) (i64 i)) h = K (T3 z x (.ptr G 0) (i64 i)) h := fun c i' K => by
  simp only [k3_3, K4, t3_0, t3_1, t3_5, t3_7]
  have y60 : ∀ K : AV → Hp → RS, Seat.Y (i64 i) (pi 60) h K = K (.bool true) h := fun K => by
   show Seat.Y (i64 i) (i64 60) h K = _
   rw [di, decide_eq_true (by omega)]
  (rewrite [cU (AX.len rd), di, decide_eq_true (by omega)]; (try dsimp only); rewrite [MH]; (try dsimp only); rewrite [MH]; (try dsimp only); rewrite [y60]; (try dsimp only); rewrite [JL]; (try dsimp only); rewrite [bS]; (try dsimp only); rewrite [dY]; try rfl)
 have s4 : ∀ c i' (K : A2 → Hp → RS), k3_4 c i' K (T3 z x (.ptr G 0) (i64 i)) h = K (T5 z x (.ptr G 0) (i64 i) (.ptr q8 0)) h1 := fun c i' K => by
  simp only [k3_4, K4, t3_0, t3_1, t3_5, t3_7]
  exact c1 _
 have s8 : ∀ {h : Hp} c i' (K : A2 → Hp → RS), k3_8 c i' K (T3 z x (.ptr G 0) (i64 i)) h = .nm (T3 z x (.ptr G 0) (i64 (i + 1 : Nat))) h := fun c i' K => by
  simp only [k3_8, K4, t3_0, t3_1, t3_5, t3_7]
  rw [eF h60 (by omega)]
 have O2 : ∀ {h2 : Hp}, (∀ j, j ≠ q8 → ah j h2 = ah j h1) → Old h h2 := fun e2 => (cT.on e2).old c4 fun j e => e ▸ c2
 -- a text is emptied
 obtain ⟨h2, tx2, rn2, o2, e2, n2, t2⟩ : ∃ h2 tx2, Rn p C3 (T5 z x (.ptr G 0) (i64 i) (.ptr q8 0)) h1 (.nm (T5 z x (.ptr G 0) (i64 i) (.ptr q8 0)) h2) ∧ Ob h2 q8 29 true .plain [i64 tt.kind, i64 tt.node, i64 tt.num, .str tx2] ∧ (∀ j, j ≠ q8 → ah j h2 = ah j h1) ∧ Wf h2 ∧ (tt.kind = 1 ∨ tt.kind = 2 → tx2 = []) := by
  have lk : lD (.ptr q8 (0 + 0)) h1 = .ok (i64 tt.kind) h1 := az (Ob.c0 o3) 0 rfl
  have eq1 : bK .eq (i64 tt.kind) i1 h1 = .ok (.bool (decide (tt.kind = 1))) h1 := JM _ _ _
  have eq2 : bK .eq (i64 tt.kind) (pi 2) h1 = .ok (.bool (decide (tt.kind = 2))) h1 := JM _ _ _
  obtain ⟨b, r', rn, hb, z0, z1, z5, z7, z8, z50⟩ : ∃ (b : Bool) (r' : A2), Os p (opsL (fst C3)) (T5 z x (.ptr G 0) (i64 i) (.ptr q8 0)) h1 (.nm r' h1) ∧ (b = true ↔ tt.kind = 1 ∨ tt.kind = 2) ∧ y0 r' = z ∧ y1 r' = x ∧ y5 r' = .ptr G 0 ∧ y7 r' = i64 i ∧ y8 r' = .ptr q8 0 ∧ y50 r' = .bool b := by
   by_cases k1 : tt.kind = 1
   ·rw [decide_eq_true k1] at eq1
    exact ⟨true, _, .so (.ptr q8 (0 + 0)) rfl <| .step (v := i64 tt.kind) (h' := h1) lk <| .step (v := .bool true) (h' := h1) eq1 <| .so (.bool true) rfl <| .off rfl <| .off rfl <| .off rfl <| .so (.bool true) rfl <| .nil, by simp [k1], rfl, rfl, rfl, rfl, rfl, rfl⟩
   ·rw [decide_eq_false k1] at eq1
    exact ⟨decide (tt.kind = 2), _, .so (.ptr q8 (0 + 0)) rfl <| .step (v := i64 tt.kind) (h' := h1) lk <| .step (v := .bool false) (h' := h1) eq1 <| .so (.bool false) rfl <| .on rfl <| .so (.ptr q8 (0 + 0)) rfl <| .on rfl <| .step (v := i64 tt.kind) (h' := h1) lk <| .on rfl <| .step (v := .bool (decide (tt.kind = 2))) (h' := h1) eq2 <| .so (.bool (decide (tt.kind = 2))) rfl <| .nil, by simp [k1], rfl, rfl, rfl, rfl, rfl, rfl⟩
  cases b with
  | true =>
   obtain ⟨h2, a1, o2, e2, n2⟩ := ff (k := 3) (v := iS) o3 (by simp) rfl
   refine ⟨h2, [], .seq (.ops rn) (.aU fun c' i' K => ?_), o2, e2, NT c5 o3 e2 n2, fun _ => rfl⟩
   simp only [k3_5, K6, z0, z1, z5, z7, z8, z50]
   (rw [dY, av, Nat.zero_add, cw a1]; try rfl)
  | false =>
   refine ⟨h1, tt.text, .seq (.ops rn) (.aU fun c' i' K => ?_), o3, fun _ _ => rfl, c5, fun g => by have := hb.2 g; cases this⟩
   simp only [k3_5, K6, z0, z1, z5, z7, z8, z50]
   (rw [aY]; try rfl)
 -- and cut; it is done
 have l3 : lD (.ptr q8 (0 + 3)) h2 = .ok (.str tx2) h2 := az (Ob.c0 o2) 3 rfl
 have gt : fj (i64 tx2.length) (pi 100) h2 = .ok (.bool (decide ((100 : Int) < tx2.length))) h2 := by
  show fj (.int .i64 _) (.int .i64 100) h2 = _
  rw [rH]
 have fin : ∀ {h3 : Hp} {tx3 : List Nat}, Ob h3 q8 29 true .plain [i64 tt.kind, i64 tt.node, i64 tt.num, .str tx3] → Old h h3 → Wf h3 → (tt.kind = 1 ∨ tt.kind = 2 → tx3 = []) →
   (∀ h4, Cv p 6 [.ptr G 0, .agg [i64 tt.kind, i64 tt.node, i64 tt.num, .str tx3]] h3 .al h4 → Ev fun m => ∀ K : A2 → Hp → RS, k3_6 (aw p (exec p m)) (aF p (exec p m)) K (T5 z x (.ptr G 0) (i64 i) (.ptr q8 0)) h2 = K (T6 z x (.ptr G 0) (i64 i) (.bool false)) h4) →
   ∃ ns' k' h', Rn p B3 (T3 z x (.ptr G 0) (i64 i)) h (.nm (T3 z x (.ptr G 0) (i64 (i + 1 : Nat))) h') ∧ Idle h0 h' G W t ns' (c + 1) k' ∧ ns'.length = ns.length := fun {h3 tx3} o3 O3 W3 t3 st => by
  obtain ⟨ns', k', h4, c6, J, hl⟩ := MG T (I.up O3 W3) hn hc ⟨tt.kind, tt.node, tt.num, tx3⟩ hm (fun g => t3 (.inl g)) (fun g => t3 (.inr g))
  refine ⟨ns', k', h4, .eh s3 (.seq (.block (.eh s4 (.seq rn2 (.to (st h4 c6) (.aU (s := .nm (T3 z x (.ptr G 0) (i64 i)) h4) fun c' i' K => ?_))))) (.aU s8)), J, hl⟩
  simp only [k3_7, K5, t6_0, t6_1, t6_5, t6_7, t6_64]
  rw [aY]
 by_cases h100 : (100 : Int) < tx2.length
 ·rw [decide_eq_true h100] at gt
  obtain ⟨h3, a1, o3', e3, n3⟩ := ff (k := 3) (v := .str (tx2.take 100)) o2 (by simp) rfl
  have o3' : Ob h3 q8 29 true .plain [i64 tt.kind, i64 tt.node, i64 tt.num, .str (tx2.take 100)] := o3'
  refine fin o3' (O2 fun j hj => (e3 j hj).trans (e2 j hj)) (NT n2 o2 e3 n3) (fun g => by rw [t2 g]; rfl) fun h4 c6 => c6.mono fun m u K => ?_
  simp only [k3_6, K5, t5_0, t5_1, t5_5, t5_7, t5_8]
  (rw [av, aC l3, aM (yb tx2), aM gt, dY, av, aC l3, aM (MI tx2 100 (by omega)), av, Nat.zero_add, cw a1, rI (gv (m := 4) (Ob.c0 o3') rfl), aD u]; try rfl)
 ·rw [decide_eq_false h100] at gt
  refine fin o2 (O2 e2) n2 t2 fun h4 c6 => c6.mono fun m u K => ?_
  simp only [k3_6, K5, t5_0, t5_1, t5_5, t5_7, t5_8]
  (rw [av, aC l3, aM (yb tx2), aM gt, aY, rI (gv (m := 4) (Ob.c0 o2) rfl), aD u]; try rfl)
abbrev TX : AC := bh (bh (bh x3))
abbrev S3 : AC := bh (bh TX)
abbrev U3 : AC := bh S3
abbrev V3 : AC := bh U3
abbrev E3 : AC := fst (fst (bh (fst V3)))
theorem JN (T : Ar p) (I : Idle h h1 G W t ns 1 k) (hn : 0 < ns.length) {ts : List It} (rd : Aq h x ts) {z : AV} :
  ∃ ns' k' h', Rn p L3 (T2 z x (.ptr G 0)) h1 (.nm (T4 z (.ptr G 0)) h') ∧ Idle h h' G W t ns' 61 k' ∧ ns'.length = ns.length := by
 obtain ⟨r', h', ⟨_, ns', k', I', hl⟩, key⟩ := gz (p := p) (body := B3) (r := T3 z x (.ptr G 0) (i64 (0 : Nat))) (h := h1) (min ts.length 60)
  (Inv := fun i r h' => r = T3 z x (.ptr G 0) (i64 i) ∧ ∃ ns' k', Idle h h' G W t ns' (1 + i) k' ∧ ns'.length = ns.length) (l := 0) (Re := T4 z (.ptr G 0)) (fun i r h' hi J => by
   obtain ⟨rfl, ns', k', I', hl⟩ := J
   obtain ⟨ns2, k2, h2, rn, I2, hl2⟩ := FA (z := z) T I' (by omega) (by omega) (AX.up rd I'.old fun _ _ _ e => e) (i := i) (by omega) (by omega)
   exact ⟨_, h2, rn, rfl, ns2, k2, I2, by omega⟩) (fun r h' J => by
   obtain ⟨rfl, ns', k', I', hl⟩ := J
   have rd' : Aq h' x ts := AX.up rd I'.old fun _ _ _ e => e
   refine .aU fun c' i' K => ?_
   simp only [k3_3, K4, t3_0, t3_1, t3_5, t3_7]
   by_cases hl : ts.length ≤ 60
   ·rw [Nat.min_eq_left hl]
    (rewrite [cU (AX.len rd'), di, decide_eq_false (by omega)]; (try dsimp only); rewrite [NU]; (try dsimp only); rewrite [NU]; (try dsimp only); rewrite [PY]; (try dsimp only); rewrite [bS]; (try dsimp only); rewrite [aY]; try rfl)
   ·rw [Nat.min_eq_right (by omega)]
    have y60 : ∀ K : AV → Hp → RS, Seat.Y (i64 (60 : Nat)) (pi 60) h' K = K (.bool false) h' := fun K => rfl
    (rewrite [cU (AX.len rd'), di, decide_eq_true (by omega)]; (try dsimp only); rewrite [MH]; (try dsimp only); rewrite [MH]; (try dsimp only); rewrite [y60]; (try dsimp only); rewrite [JL]; (try dsimp only); rewrite [bS]; (try dsimp only); rewrite [aY]; try rfl)) ⟨rfl, ns, k, I, rfl⟩
 refine ⟨ns', k', h', .eh (r' := T3 z x (.ptr G 0) (i64 (0 : Nat))) (h' := h1) (fun c' i' K => ?_) (.bJ key), I'.more (by omega), hl⟩
 simp only [k3_2, K3, t2_0, t2_1, t2_5]
 rfl
theorem PZ (T : Ar p) {c : Nat} (hc : c ≤ 100) (I : Idle h h1 G W t ns c k) (hn : 0 < ns.length) :
  ∃ ns' k' h', Rn p (fst TX) (T4 (i64 ns.length) (.ptr G 0)) h1 (.nm (T7 (i64 ns.length) (.ptr G 0) (i64 ns.length)) h') ∧ Idle h h' G W t ns' (c + 5) k' ∧ ns'.length = ns.length ∧ ∀ i (hi : i < ns'.length), ns'[i].s.up = true := by
 have len5 := I.len
 obtain ⟨r', h', ⟨_, ns', k', I', hl, up⟩, key⟩ := gz (p := p) (body := .ag k3_10 .skip) (r := T7 (i64 ns.length) (.ptr G 0) (i64 (0 : Nat))) (h := h1) ns.length
  (Inv := fun i r h' => r = T7 (i64 ns.length) (.ptr G 0) (i64 i) ∧ ∃ ns' k', Idle h h' G W t ns' (c + i) k' ∧ ns'.length = ns.length ∧ ∀ j (hj : j < ns'.length), j < i → ns'[j].s.up = true) (l := 2) (Re := T7 (i64 ns.length) (.ptr G 0) (i64 ns.length)) (fun i r h' hi J => by
   obtain ⟨rfl, ns', k', I', hl, up⟩ := J
   obtain ⟨ns2, k2, h2, c6, I2, hl2, ul, un⟩ := JD T.b.z I' (by omega) (by omega) (kind := 8) (node := i) (num := 0) (tx := []) (by unfold dq; omega) (fun g => by omega) (fun g => by omega)
   refine ⟨_, h2, .ag (c6.mono fun m u => ?_), rfl, ns2, k2, I2, by omega, fun j hj hji => ?_⟩
   ·simp only [k3_10, K3, t7_0, t7_5, t7_9]
    (rw [di, gT, if_pos (by omega), jl (v := .agg [i64 8, i64 i, i64 0, .str []]) (h' := h') rfl, aD u, eF hi (by omega)]; try rfl)
   ·by_cases e : j = i
    ·subst e; exact un rfl j rfl hj
    ·exact (ul (.inr rfl)).2 j (by omega) hj (up j (by omega) (by omega))) (fun r h' J => by
   obtain ⟨rfl, _⟩ := J
   refine .aU fun c' i' K => ?_
   simp only [k3_10, K3, t7_0, t7_5, t7_9]
   (rw [di, gT, if_neg (by omega)]; try rfl)) ⟨rfl, ns, k, I, rfl, fun j hj g => absurd g (Nat.not_lt_zero j)⟩
 refine ⟨ns', k', h', .eh (r' := T7 (i64 ns.length) (.ptr G 0) (i64 (0 : Nat))) (h' := h1) (fun c' i' K => ?_) (.bJ key), I'.more (by omega), hl, fun i hi => up i hi (by omega)⟩
 simp only [k3_9, K2, t4_0, t4_5]
 rfl
theorem MJ (T : Ar p) {c : Nat} (hc : c ≤ 200) (I : Idle h h1 G W t ns c k) (hn : 0 < ns.length) (up : ∀ i (hi : i < ns.length), ns[i].s.up = true) {st : Nat} (hs : st ≤ 20000) {z : AV} :
  ∃ ns' k' h', Rn p (fst S3) (T8 z (.ptr G 0) .al (i64 st)) h1 (.nm (T4 z (.ptr G 0)) h') ∧ Idle h h' G W t ns' (c + 1) k' ∧ ns'.length = ns.length ∧ ∀ i (hi : i < ns'.length), ns'[i].s.up = true := by
 obtain ⟨v, h2, tx, mk, cv, hx, O2, W2⟩ := eW (h := h1) I.wf (n := 10001) (by omega) (by omega) .nil
 have I2 := I.up O2 W2
 obtain ⟨ns', k', h3, c6, I3, hl, ul, _⟩ := JD T.b.z I2 hn (by omega) (kind := 1) (node := 0) (num := 0) (tx := tx) (by unfold dq; omega) (fun _ => .inr hx) (fun g => by omega)
 have gt : fj (i64 st) (pi 20000) h1 = .ok (.bool false) h1 := by
  show fj (.int .i64 st) (.int .i64 20000) h1 = _
  rw [rH, decide_eq_false (by omega)]
 obtain ⟨r', rn, z0, z5, z94⟩ : ∃ r', Os p (opsL (fst (fst S3))) (T8 z (.ptr G 0) .al (i64 st)) h1 (.nm r' h3) ∧ y0 r' = z ∧ y5 r' = .ptr G 0 ∧ y94 r' = .bool false :=
  ⟨_, .so .al rfl <| .so (i64 0) rfl <| .so (.bool false) rfl <| .so (.bool false) rfl <|
   .on rfl <| .so (i64 st) rfl <| .on rfl <| .step (v := .bool false) (h' := h1) gt <| .so (.bool false) rfl <| .so (.bool false) rfl <|
   .on rfl <| .so (.ptr G 0) rfl <| .on rfl <| .step (v := v) (h' := h2) mk <| .on rfl <| .step (v := .str tx) (h' := h2) cv <| .on rfl <| .so (.agg [i64 1, i64 0, i64 0, .str tx]) rfl <|
   .on rfl <| .call (v := .al) (h' := h3) c6 <| .on rfl <| .so (i64 0) rfl <| .on rfl <| .so (.bool false) rfl <| .so (.bool false) rfl <| .nil, rfl, rfl, rfl⟩
 refine ⟨ns', k', h3, .seq (.ops rn) (.aU fun c' i' K => ?_), I3, hl, fun i hi => (ul (.inl rfl)).2 i (by omega) hi (up i (by omega))⟩
 simp only [k3_12, K3, z0, z5, z94]
 (rw [aY]; try rfl)
theorem MK (T : Ar p) (I : Idle h h1 G W t ns c k) (up : ∀ i (hi : i < ns.length), ns[i].s.up = true) : Rn p (fst V3) (T4 (i64 ns.length) (.ptr G 0)) h1 (.nm (T4 (i64 ns.length) (.ptr G 0)) h1) := by
 obtain ⟨r', h', ⟨_, rfl⟩, key⟩ := gz (p := p) (body := E3) (r := T9 (i64 ns.length) (.ptr G 0) (i64 (0 : Nat))) (h := h1) ns.length
  (Inv := fun i r h' => r = T9 (i64 ns.length) (.ptr G 0) (i64 i) ∧ h' = h1) (l := 4) (Re := T4 (i64 ns.length) (.ptr G 0)) (fun i r h' hi J => by
   obtain ⟨rfl, rfl⟩ := J
   have c8 := JH T.b.z I hi (up i hi)
   have c9 := MC T.b.z I hi (up i hi)
   have cu := Ah T.b.z.x.n I hi
   rw [up i hi] at cu
   have c10 := JG T.b.z I cu
   obtain ⟨r', rn, z0, z5, z12, z127⟩ : ∃ r', Os p (opsL (fst (bh (fst (fst (bh E3)))))) (T10 (i64 ns.length) (.ptr G 0) (i64 i) i0 iS) h' (.nm r' h') ∧ y0 r' = i64 ns.length ∧ y5 r' = .ptr G 0 ∧ y12 r' = i64 i ∧ y127 r' = .bool false :=
    ⟨_, .so (.ptr G 0) rfl <| .so (i64 i) rfl <| .call (v := .al) (h' := h') c9 <| .so (i64 0) rfl <| .so (.bool false) rfl <| .so (.bool false) rfl <|
     .on rfl <| .so (.ptr G 0) rfl <| .on rfl <| .so (i64 i) rfl <| .on rfl <| .call (v := .bool true) (h' := h') c10 <| .on rfl <| .so (.bool false) rfl <| .so (.bool false) rfl <| .so (.bool false) rfl <|
     .on rfl <| .so i0 rfl <| .on rfl <| .so (.bool false) rfl <| .so (.bool false) rfl <| .so (.bool false) rfl <|
     .on rfl <| .so iS rfl <| .on rfl <| .so (i64 0) rfl <| .on rfl <| .so (.bool false) rfl <| .so (.bool false) rfl <| .nil, rfl, rfl, rfl, rfl⟩
   refine ⟨T9 (i64 ns.length) (.ptr G 0) (i64 (i + 1 : Nat)), h', .eh (r' := T9 (i64 ns.length) (.ptr G 0) (i64 i)) (h' := h') (fun c' i' K => ?_) (.seq (.block (.to (r' := T10 (i64 ns.length) (.ptr G 0) (i64 i) i0 iS) (h' := h') (c8.mono fun m u K => ?_) (.seq (.ops rn) (.aU (s := .nm (T9 (i64 ns.length) (.ptr G 0) (i64 i)) h') fun c' i' K => ?_)))) (.aU fun c' i' K => ?_)), rfl, rfl⟩
   ·simp only [k3_15, K3, t9_0, t9_5, t9_12]
    (rw [di, gT, if_pos (by omega)]; try rfl)
   ·simp only [k3_16, K3, t9_0, t9_5, t9_12]
    (rw [aD u, jm (show Seat.ext 0 (.gh [i0, iS]) h' = .ok i0 h' from rfl), jm (show Seat.ext 1 (.gh [i0, iS]) h' = .ok iS h' from rfl)]; try rfl)
   ·simp only [k3_17, K4, z0, z5, z12, z127]
    (rw [aY]; try rfl)
   ·simp only [k3_18, K3, t9_0, t9_5, t9_12]
    (rw [eF hi (by have := I.len; omega)]; try rfl)) (fun r h' J => by
   obtain ⟨rfl, rfl⟩ := J
   refine .aU fun c' i' K => ?_
   simp only [k3_15, K3, t9_0, t9_5, t9_12]
   (rw [di, gT, if_neg (by omega)]; try rfl)) ⟨rfl, rfl⟩
 refine .eh (r' := T9 (i64 ns.length) (.ptr G 0) (i64 (0 : Nat))) (h' := h') (fun c' i' K => ?_) (.bJ key)
 simp only [k3_14, K2, t4_0, t4_5]
 rfl
theorem ML (T : Ar p) (Wf0 : Wf h) {ts : List It} (rd : Aq h x ts) {a : Int} (ha : dq a) : ∃ h', Cv p 3 [i64 a, x] h (.bool true) h' := by
 obtain ⟨m, hm, c4⟩ := Fz (h := h) T.b.e4 a ha 4 (by omega)
 obtain ⟨G, W, t, ns, h1, c5, I, ln, up⟩ := MF T.b Wf0 (n := m + 1) (by omega) (by omega)
 have hn : 0 < ns.length := by omega
 obtain ⟨ns2, k2, h2, rn2, I2, l2⟩ := JN (z := i64 ns.length) T I hn rd
 obtain ⟨ns3, k3, h3, rn3, I3, l3, up3⟩ := PZ T (by omega) I2 (by omega)
 obtain ⟨st, h4, c7, I4, hs⟩ := wG T.b.z (by omega) I3
 obtain ⟨ns5, k5, h5, rn5, I5, l5, up5⟩ := MJ (z := i64 ns2.length) T (by omega) I4 (by omega) up3 hs
 obtain ⟨st', h6, c7', I6, _⟩ := wG T.b.z (by omega) I5
 have rn7 := MK T I6 up5
 have e2 : ns2.length = ns.length := l2
 have e5 : ns5.length = ns.length := by omega
 rw [e2] at rn3 rn5
 rw [e5] at rn7
 have c9 := JI T.b.z I6 (m := (ns.length : Nat)) fun ⟨i, g1, g2⟩ => by omega
 have c10 := JG T.b.z I6 (xZ T.b.z.x.n I6 (m := .negSucc 0) fun ⟨i, g1, _⟩ => by omega)
 have c11 := T.e11 h6
 have d1 : ∀ {h : Hp} (K : AV → Hp → RS), Seat.D i1 (i64 m) h K = K (i64 (ns.length : Nat)) h := fun K => by
  show Seat.D (i64 1) (i64 m) _ K = _
  rw [hS, gV _ (by unfold dq; omega), ln]
  congr 2
  omega
 rw [← ln] at c5
 obtain ⟨r', rn, z4⟩ : ∃ r', Os p (opsL (fst (bh V3))) (T4 (i64 ns.length) (.ptr G 0)) h6 (.nm r' h6) ∧ y4 r' = .bool true :=
  ⟨_, .so (.ptr G 0) rfl <| .so (i64 ns.length) rfl <| .call (v := .al) (h' := h6) c9 <| .so (i64 0) rfl <| .so (.bool true) rfl <| .so (.bool true) rfl <|
   .on rfl <| .so (.ptr G 0) rfl <| .on rfl <| .call (v := .bool false) (h' := h6) c10 <| .on rfl <| .so (.bool true) rfl <| .so (.bool true) rfl <| .so (.bool true) rfl <|
   .on rfl <| .call (v := .bool true) (h' := h6) c11 <| .so (.bool true) rfl <| .so (.bool true) rfl <| .nil, rfl⟩
 refine ⟨h6, .of (r' := r') (h1 := h6) T.e3 (by simp) (.to (r' := T0 (i64 ns.length) x (.ptr G 0) i0) (h' := h1) ((c4.and c5).mono fun m' u K => ?_) (.eh (r' := T2 (i64 ns.length) x (.ptr G 0)) (h' := h1) (fun c' i' K => ?_) (.seq rn2 (.seq rn3 (.to (r' := T8 (i64 ns.length) (.ptr G 0) .al (i64 st)) (h' := h4) (c7.mono fun m' u K => ?_) (.seq rn5 (.to (r' := T4 (i64 ns.length) (.ptr G 0)) (h' := h6) (c7'.mono fun m' u K => ?_) (.seq rn7 (.seq (.ops rn) .ret))))))))) ?_⟩
 ·obtain ⟨u1, u2⟩ := u
  simp only [k3_0, K2, bE, bF]
  (rw [aD (show aw p (exec p m') 4 [i64 a, i0, pi 4] h = .ok (i64 m) h from u1), d1, aD u2, jm (show Seat.ext 0 (.gh [.ptr G 0, i0]) h1 = .ok (.ptr G 0) h1 from rfl), jm (show Seat.ext 1 (.gh [.ptr G 0, i0]) h1 = .ok i0 h1 from rfl)]; try rfl)
 ·simp only [k3_1, K4, t0_0, t0_1, t0_5, t0_6]
  rfl
 ·simp only [k3_11, K2, t7_0, t7_5]
  (rw [aD u, jm (show Seat.ext 0 (.gh [.al, i64 st]) h4 = .ok .al h4 from rfl), jm (show Seat.ext 1 (.gh [.al, i64 st]) h4 = .ok (i64 st) h4 from rfl)]; try rfl)
 ·simp only [k3_13, K2, t4_0, t4_5]
  (rw [aD u]; try rfl)
 ·show RV.ok (y4 r') h6 = _
  rw [z4]
end
open Go.Cod
noncomputable section
def Th : AF := .oV (.fn CW) x11 [.t .h0 .h0]
def Ns : F1 := match PI with
 | .nil => .nil
 | .mk a0 a1 a2 a3 a4 a5 a6 a7 a8 a9 b0 _ b2 b3 b4 b5 => .mk a0 a1 a2 a3 a4 a5 a6 a7 a8 a9 b0 Th b2 b3 b4 b5
def GA : F2 := match ID with
 | .nil => .nil
 | .mk _ a1 a2 a3 a4 a5 a6 a7 a8 a9 b0 b1 b2 b3 b4 b5 => .mk Ns a1 a2 a3 a4 a5 a6 a7 a8 a9 b0 b1 b2 b3 b4 b5
def QE : Pg := match pg with
 | .mk fs ms => .mk (match fs with
  | .nil => .nil
  | .mk _ a1 a2 a3 a4 a5 a6 a7 a8 a9 b0 b1 b2 b3 b4 b5 => .mk GA a1 a2 a3 a4 a5 a6 a7 a8 a9 b0 b1 b2 b3 b4 b5) ms
theorem Ti : Au QE where
 f := ⟨⟨rfl, rfl, rfl, rfl, rfl, rfl, rfl, rfl⟩, ⟨rfl, rfl, rfl, rfl, rfl, rfl, rfl, rfl, rfl, rfl⟩, rfl, rfl, rfl, rfl, rfl, rfl, rfl, rfl⟩
 e39 := rfl
 e40 := rfl
 e51 := rfl
 e73 := rfl
 e75 := rfl
 e85 := rfl
 e86 := rfl
 e90 := rfl
 e92 := rfl
 e93 := rfl
 e94 := rfl
 e98 := rfl
theorem Tj : qW QE where
 w := ⟨Ti, rfl, rfl, rfl, rfl, rfl, rfl, rfl, rfl, rfl, rfl⟩
 e29 := rfl
 e42 := rfl
 e43 := rfl
 e44 := rfl
 e45 := rfl
 e241 := rfl
 mi := fun _ _ => rfl
theorem Tk : Ar QE where
 b := { z := { x := { n := ⟨⟨Tj, rfl, rfl, rfl⟩, rfl, rfl, rfl, rfl, rfl, rfl, rfl, rfl, rfl⟩, e14 := rfl, e15 := rfl, e16 := rfl, e17 := rfl, e18 := rfl, e19 := rfl, e20 := rfl, e21 := rfl, e22 := rfl, e38 := rfl }, e6 := rfl, e7 := rfl, e8 := rfl, e9 := rfl, e10 := rfl, e25 := rfl }, e4 := rfl, e5 := rfl, e12 := rfl, e28 := rfl }
 e3 := rfl
 e11 := fun h => .oV (k := .fn CW) (body := x11) (res := [.t .h0 .h0]) rfl rfl
end
open Go.Cod
noncomputable section
theorem Qa (n : Nat) (w : World) : Wf (AR n w) := ⟨w.heap.size, rfl, fun m hm => by
 rw [pA]
 unfold EY
 rw [Array.getElem?_eq_none hm]⟩
def mV : List TypeId := [22, 29, 9, 3, 4]
variable {P : Program} {H : Type} {enc : TypeId × Value → H} {w : World} {sp : Nat → Bool} {held : Bool} {bk : DataW H → Nat} {bkA : List (DataW H) → Nat} {h : Hp}
structure Ask (P : Program) (names : List String) : Prop where
 e : Env P ⟨0, [], none⟩ names QE
 i : P.underlying 3 = some (.int .i64)
 t : P.underlying 9 = some .string
 s : mA P 29 = some [3, 3, 3, 9]
 l : qX P 22 = some (29, 4)
 k : tY P mV = true
def Kept (w : World) (e : Ending) (w' : World) : Prop := e = .returned (.bool true) ∧ w.heap.size ≤ w'.heap.size ∧ (∀ b, b < w.heap.size → w'.heap[b]? = w.heap[b]?) ∧ w'.os = w.os ∧ w'.output = w.output
theorem JO {names : List String} (A : Ask P names) (hsp : ∀ b, sp b = true) {v : Value} {t : TypeId} {d : DataW H} {ps : List MemPlace} (hv : v.cells.toList = [v]) (ht : t ∈ mV) (r : DataW.Trod enc P w 0 sp held t v d ps) : ∃ n, xE P (AR 0 w) n t [kF w v] d := by
 obtain ⟨n, r⟩ := r
 obtain ⟨r, _, _⟩ := reads (g := 0) A.k hsp n t v.cells.toList (d, ps) ht r
 rw [hv] at r
 exact ⟨n, r⟩
theorem Sm {names : List String} (A : Ask P names) {n : Nat} {l : List AV} {d : DataW H} (r : xE P h (n + 2) 29 l d) : ∃ t, l = SH t ∧ dq t.num := by
 obtain ⟨ls, ps, rfl, rfl, a⟩ := lg.struct A.s r
 obtain ⟨_, _, _, _, rfl, rfl, a0, a⟩ := a.inv; obtain ⟨_, _, _, _, rfl, rfl, a1, a⟩ := a.inv; obtain ⟨_, _, _, _, rfl, rfl, a2, a⟩ := a.inv; obtain ⟨_, _, _, _, rfl, rfl, a3, a⟩ := a.inv; obtain ⟨rfl, rfl⟩ := a.none
 obtain ⟨z0, rfl, rfl, w0⟩ := lg.int A.i a0
 obtain ⟨z1, rfl, rfl, w1⟩ := lg.int A.i a1
 obtain ⟨z2, rfl, rfl, w2⟩ := lg.int A.i a2
 obtain ⟨s, rfl, rfl⟩ := lg.str A.t a3
 exact ⟨⟨z0, z1, z2, s.map UInt8.toNat⟩, rfl, NV w2⟩
theorem Qb {names : List String} (A : Ask P names) (K : Av bk bkA) {n : Nat} {a : AV} {d : DataW H} (r : xE P h n 22 [a] d) : ∃ ts, Aq h a ts := by
 have r2 : lg P h (xE P h (n + 2)) 22 [a] d := xE.add n 3 22 [a] d r
 obtain ⟨x, ts, e, rl, _, _⟩ := lg.slice K (f := fun l t => l = SH t ∧ dq t.num) (Q := fun _ => True) (B := bk d) A.l r2 (Nat.le_refl _) fun l d r _ => by
  obtain ⟨t, g⟩ := Sm A r
  exact ⟨t, g, trivial⟩
 have e : a = x := by simpa using e
 subst e
 exact ⟨ts, rl⟩
theorem Tl {k : IntKind} {t : TypeId} {n : Nat} {a : AV} {d : DataW H} (hu : P.underlying t = some (.int k)) (r : xE P h n t [a] d) : ∃ z, a = .int k z ∧ (Lit.int k z).wf = true := by
 obtain ⟨z, e, _, wf⟩ := lg.int hu (xE.succ n t [a] d r)
 have e : a = .int k z := by simpa using e
 exact ⟨z, e, wf⟩
theorem JP {names : List String} (A : Ask P names) (K : Av bk bkA) (hsp : ∀ b, sp b = true) {v v1 : Value} {d d1 : DataW H} {ps ps1 : List MemPlace} (hv : v.cells.toList = [v]) (hv1 : v1.cells.toList = [v1])
  (ht : DataW.Trod enc P w 0 sp held 3 v d ps) (ht1 : DataW.Trod enc P w 0 sp held 22 v1 d1 ps1) : Calls P 3 #[v, v1] w (Kept w) := by
 obtain ⟨n, r⟩ := JO A hsp hv (by simp [mV]) ht
 obtain ⟨n1, r1⟩ := JO A hsp hv1 (by simp [mV]) ht1
 obtain ⟨z, e1, wf⟩ := Tl A.i r
 obtain ⟨ts, rs⟩ := Qb A K r1
 obtain ⟨h', c⟩ := ML (p := QE) Tk (Qa 0 w) rs (NV wf)
 have e1 : kF w v = i64 z := e1
 rw [← e1] at c
 obtain ⟨k, c⟩ := c.some
 exact Mf A.e k 3 [v, v1] w (by decide) (Nat.zero_le _) h' c
end
end Go.Am.Seat
