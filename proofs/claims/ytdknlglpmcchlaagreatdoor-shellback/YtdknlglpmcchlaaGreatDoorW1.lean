/- The walk: what each function of the program does at arguments that are not known; and what the law comes to. Conditions: the table of functions holds these functions. -/
import Derived.Test.YtdknlglpmcchlaaGreatDoorW0
set_option linter.all false
namespace Go.Am.Seat
open Go.Cod
noncomputable section
variable {p : Pg} {h0 h h' h1 h2 : Hp} {q j k jb jk : P4} {s full : Bs} {x y xv xc xg : AV} {r rr : Rd} {e : oI}
theorem QE (r : Rd) : Sm 65535 (kS r).1 := ⟨Cod.mT _, Cod.mT _, Cod.mU _ _⟩
theorem QF (r : Rd) : SZ 65535 (mz r).1 := by
 refine ⟨Cod.mU _ _, ?_, fun v hv => Cod.pF (P := Sm 65535) QE _ _ v hv⟩
 show (many kS (bQ (aJ 65535 r).2).1 (bQ (aJ 65535 r).2).2).1.length ≤ _
 rw [Cod.iK]
 have : (bQ (aJ 65535 r).2).1 < 256 := Cod.gP 1 _
 omega
theorem QG (r : Rd) : uw 65535 (BF r).1 := by
 rw [xI]
 refine ⟨Cod.mT _, Cod.mT _, Cod.mT _, Cod.mU _ _, Cod.mU _ _, ?_, fun c hc => Cod.pF (P := fun c : Bs × Int => c.1.length ≤ 65535 ∧ dx c.2) (fun r => ⟨Cod.mU _ _, Cod.mT _⟩) _ _ c hc, ?_, fun c hc => Cod.pF (P := SZ 65535) QF _ _ c hc⟩
 ·simp only [Cod.iK]
  have : ∀ r, (bQ r).1 < 256 := fun r => Cod.gP 1 r
  exact Nat.le_trans (Nat.le_of_lt (this _)) (by omega)
 ·simp only [Cod.iK]
  have : ∀ r, (bQ r).1 < 256 := fun r => Cod.gP 1 r
  exact Nat.le_trans (Nat.le_of_lt (this _)) (by omega)
theorem sB {α : Type} {f : List AV → α → Prop} {el es : Nat} {b : P4 → Prop} {L : List (List AV)} {xs : List α} (hes : 0 < es) (w : dA h x el es L.flatten b) (hl : L.length = xs.length) (g : ∀ i (h1 : i < L.length) (h2 : i < xs.length), L[i].length = es ∧ f L[i] xs[i]) : cY h es f x xs := by
 have hL := fH (es := es) (L := L) fun i hi => (g i hi (by omega)).1
 rcases w with ⟨e, hv⟩ | ⟨q, n, rfl, e2, e3, _⟩
 ·have : xs = [] := by
   rw [e, List.length_nil] at hL
   have : L.length = 0 := (Nat.mul_eq_zero.1 hL.symm).resolve_right (by omega)
   exact List.length_eq_zero_iff.1 (by omega)
  subst this
  rcases hv with rfl | ⟨q, rfl⟩
  ·exact ⟨.eI 0 0, 0, .inr (.inr ⟨rfl, rfl⟩), fun i hi => absurd hi (by simp)⟩
  ·exact ⟨q, 0, .inl ⟨0, by simp, rfl⟩, fun i hi => absurd hi (by simp)⟩
 ·have hn : n = xs.length := by
   rw [hL, hl] at e2
   exact (Nat.eq_of_mul_eq_mul_right hes e2).symm
  subst hn
  refine ⟨q, 0, .inr (.inl rfl), fun i hi => ?_⟩
  have hi' : i < L.length := by omega
  obtain ⟨k1, k2⟩ := g i hi' hi
  refine ⟨L[i], k1, ?_, k2⟩
  have e : L.flatten = (L.take i).flatten ++ (L[i] ++ (L.drop (i + 1)).flatten) := by
   conv => lhs; rw [← List.take_append_drop i L]
   rw [List.flatten_append, List.drop_eq_getElem_cons hi', List.flatten_cons]
  rw [e] at e3
  have := Ob.KE e3
  rw [fH (es := es) (fun k hk => by rw [List.getElem_take]; exact (g k (by simp at hk; omega) (by simp at hk; omega)).1), List.length_take, Nat.min_eq_left (by omega)] at this
  rw [Nat.zero_add]; exact this
theorem ly {α : Type} (g : α → List AV) (l : List α) : l.flatMap g = (l.map g).flatten := by rw [List.flatMap_def]
theorem Aw {b : P4 → Prop} {cs : List (Bs × Int)} (w : dA h x 70 2 (cs.flatMap Jo) b) : aQ h x cs := by
 rw [ly] at w
 exact sB (by omega) w (by simp) fun i h1 h2 => by simp [Jo]
theorem Nf {b : P4 → Prop} {row : List mr} (w : dA h x 83 3 (row.flatMap iW) b) : dQ h x row := by
 rw [ly] at w
 exact sB (by omega) w (by simp) fun i h1 h2 => by simp [iW]
theorem Ax {b : P4 → Prop} {cs : List oH} (w : pM b h x cs) : bE h x cs := by
 obtain ⟨xs, e1, e2, e3⟩ := w
 refine sB (by omega) e2 (by simp [e1]) fun i h1 h2 => ?_
 have hx : i < xs.length := by omega
 refine ⟨by simp [uZ], xs[i], by simp, Nf (e3 i hx h2)⟩
theorem rM.Nz (I : rM h0 q jb jk e h' xc xg r) : vZ h' (cX xc xg e) e := ⟨xc, xg, rfl, Aw I.oc, Ax I.og⟩
theorem rM.put (I : rM h0 q jb jk e h' xc xg r) (hne : jb ≠ jk) (hk : ag jk h0 = .none) {i : Nat} {v : AV} (hi : i < 7) (hv : v.one = true) {e' : oI} (he : (cX xc xg e).set i v = cX xc xg e') (h1 : e'.bU = e.bU) (h2 : e'.changes = e.changes) :
  ∃ h2, sT (.ptr jk i) v h' = .ok .undef h2 ∧ rM h0 q jb jk e' h2 xc xg r := by
 obtain ⟨h2, k1, k2, k3, k4⟩ := dY (k := i) (v := v) I.ok (by simpa [cX] using hi) hv
 refine ⟨h2, k1, Fr.old (fun j hj _ => k3 j hj) I.old hk, I.rd.fr I.ok (by decide) (fun j hj _ => k3 j hj) (fT I.rd.wf I.ok k3 k4), I.ob.eq (k3 jb hne), he ▸ k2, ?_, ?_⟩
 ·rw [h1]; exact Fr.own (fun j hj _ => k3 j hj) I.oc I.ok (.inr (by simp))
 ·rw [‹e'.changes = e.changes›]; exact I.og.dr fun k el fl l o _ => k3 k (o.apart I.ok (.inr (by simp)))
structure Ng (p : Pg) : Prop where
 d : pL p
 w : Dw p
 t : Fc p
 e30 : ar 17 p.fs = f17
 e45 : ar 42 p.fs = f42
 e72 : ar 70 p.fs = f70
 e74 : ar 72 p.fs = f72
theorem Ki (e74 : ar 72 p.fs = f72) {t : Bs} (a : lG h x s) (b : lG h y t) : Cv p 72 [x, y] h (.bool (decide (s = t))) h := by
 refine .of (r' := T27 (.bool (decide (s = t)))) (h1 := h) e74 (by simp) (.aV fun c i K => ?_) rfl
 simp only [k72_0, K2, fR, fS]
 have e : decide (s.map UInt8.toNat = t.map UInt8.toNat) = decide (s = t) := by
  rw [decide_eq_decide]
  refine ⟨fun g => ?_, fun g => by rw [g]⟩
  exact List.map_inj_right (fun a b g => UInt8.toNat_inj.1 g) |>.1 g
 (rw [aE (xJ a), aE (xJ b), aE (II _ _), e]; try rfl)
theorem Nh (T : Ng p) (I : rM h0 q jb jk e h' xc xg r) (bd : uw 65535 e) {n : Int} (hs : n = 0 → takes e = true → (enc e).length ≤ 16777216) (rb : lG h' x s) :
  ∃ r' h2, Rn p (dp 3 (bh (bh (bh x42)))) (T46 x (.ptr jb 0) (.ptr jk 0) (i64 n)) h' (.nm r' h2) ∧ Old h' h2 ∧ Wf h2 ∧ y2 r' = .ptr jb 0 ∧ y5 r' = .ptr jk 0 ∧ y75 r' = .bool (!(decide (n = 0) && (takes e && decide (enc e = s)))) := by
 have L0 : Seat.pY 7 (.ptr jk 0) h' = .ok (.agg (cX xc xg e)) h' := bD (m := 7) (Ob.c0 I.ok) (by simp [cX])
 by_cases hn : n = 0
 ·have e0 : bK .ne (i64 n) i0 h' = .ok (.bool false) h' := uy hn
  obtain ⟨h1, t1, t2, t3⟩ := ux (p := p) T.t I.rd.wf I.Nz bd (by omega)
  have L1 : Seat.pY 7 (.ptr jk 0) h1 = .ok (.agg (cX xc xg e)) h1 := bD (m := 7) ((Ob.c0 I.ok).old t2) (by simp [cX])
  cases ht : takes e with
  | false =>
   rw [ht] at t1
   refine ⟨_, h1, .ops (.step (v := i64 n) (h' := h') rfl <| .step (v := .bool false) (h' := h') e0 <| .step (v := .bool false) (h' := h') rfl <| .on rfl <| .step (v := .agg (cX xc xg e)) (h' := h') L0 <| .on rfl <| .call (v := .bool false) (h' := h1) t1 <|
    .on rfl <| .step (v := .bool true) (h' := h1) rfl <| .step (v := .bool true) (h' := h1) rfl <| .step (v := .bool true) (h' := h1) rfl <| .off rfl <| .off rfl <| .off rfl <| .off rfl <| .off rfl <| .step (v := .bool true) (h' := h1) rfl <| .nil), t2, t3, rfl, rfl, ?_⟩
   rw [Bool.false_and, Bool.and_false]; rfl
  | true =>
   rw [ht] at t1
   obtain ⟨v, h2, c1, c2, c3, c4⟩ := wo (p := p) T.w T.t T.e30 T.d.e58 t3 (l := cX xc xg e) (e := e) (let ⟨a, b, c, d, f⟩ := I.Nz; ⟨a, b, c, aQ.up d t2, bE.up f t2⟩) bd (by omega) (hs hn ht)
   rw [if_pos ht] at c2
   have eq := Ki (p := p) (h := h2) T.e74 (dA.Jb c2) ((rb.up t2).up c3)
   refine ⟨_, h2, .ops (.step (v := i64 n) (h' := h') rfl <| .step (v := .bool false) (h' := h') e0 <| .step (v := .bool false) (h' := h') rfl <| .on rfl <| .step (v := .agg (cX xc xg e)) (h' := h') L0 <| .on rfl <| .call (v := .bool true) (h' := h1) t1 <|
    .on rfl <| .step (v := .bool false) (h' := h1) rfl <| .step (v := .bool false) (h' := h1) rfl <| .step (v := .bool false) (h' := h1) rfl <| .on rfl <| .step (v := .agg (cX xc xg e)) (h' := h1) L1 <| .on rfl <| .call (v := v) (h' := h2) c1 <|
    .on rfl <| .step (v := x) (h' := h2) rfl <| .on rfl <| .call (v := .bool (decide (enc e = s))) (h' := h2) eq <| .on rfl <| .step (v := .bool (!decide (enc e = s))) (h' := h2) (eY _) <| .step (v := .bool (!decide (enc e = s))) (h' := h2) rfl <| .nil), t2.trans c3, c4, rfl, rfl, ?_⟩
   rw [decide_eq_true hn, Bool.true_and, Bool.true_and]
   rfl
 ·have e0 : bK .ne (i64 n) i0 h' = .ok (.bool true) h' := zS hn
  refine ⟨_, h', .ops (.step (v := i64 n) (h' := h') rfl <| .step (v := .bool true) (h' := h') e0 <| .step (v := .bool true) (h' := h') rfl <| .off rfl <| .off rfl <| .off rfl <| .step (v := .bool true) (h' := h') rfl <| .step (v := .bool true) (h' := h') rfl <|
   .off rfl <| .off rfl <| .off rfl <| .off rfl <| .off rfl <| .step (v := .bool true) (h' := h') rfl <| .nil), .refl h', I.rd.wf, rfl, rfl, ?_⟩
  rw [decide_eq_false hn]; rfl
abbrev Cg : List AV := [i0, i0, i0, iS, iS, .ai, .ai]
theorem FF (T : Ng p) (W : Wf h) (rb : lG h x s) (hl : s.length ≤ 16777216) : ∃ l h' n, Cv p 42 [x] h (.jx [.agg l, i64 n]) h' ∧ Old h h' ∧ Wf h' ∧
  ((∃ e xc xg, dec s = some e ∧ n = 0 ∧ l = cX xc xg e ∧ dA h' xc 70 2 (e.bU.flatMap Jo) (fun j => ag j h = .none) ∧ pM (fun j => ag j h = .none) h' xg e.changes ∧ uw 65535 e) ∨ (dec s = none ∧ n = 12 ∧ l = Cg)) := by
 have hg := xI (some s)
 simp only at hg
 obtain ⟨jb, h1, a1, a2, a3, a4, a5, _⟩ := iH (el := 26) (n := 7) W (c := .k1 (Y7 i0 i0 i0 iS iS .ai .ai)) trivial (by decide)
 have a3 : Ob h1 jb 26 true .plain Cg := a3
 obtain ⟨q, h2, c2, w2, nq, O2⟩ := wm T.d a5 (rb.up a4) hl
 obtain ⟨h3, c3, w3, F3⟩ := iM T.d w2
 generalize hA : au (some s) = A at *
 obtain ⟨h4, c4, w4, F4⟩ := iM T.d w3
 generalize hB : au A.2 = B at *
 obtain ⟨h5, c5, w5, F5⟩ := iM T.d w4
 generalize hC : au B.2 = C at *
 have F25 := (F3.trans F4).trans F5
 have O15 : Old h1 h5 := F25.old O2 nq
 have b5 := a3.old O15
 obtain ⟨jk, h6, b1, b3, b4, b6, b7, _⟩ := iH (el := 26) (n := 7) w5.wf (c := .k1 (Y7 i0 i0 i0 iS iS .ai .ai)) trivial (by decide)
 have b4 : Ob h6 jk 26 true .plain Cg := b4
 have hne : jb ≠ jk := fun g => b5.ne (g ▸ b3)
 have hq : ag q h = .none := a4.none nq
 have hb : ag jb h = .none := a2
 have hk : ag jk h = .none := (a4.trans O15).none b3
 obtain ⟨h7, d1, d2, d3, d4⟩ := fE (k := 0) (m := 7) (l' := [i64 A.1, i64 B.1, i64 C.1, iS, iS, .ai, .ai]) b4 rfl (by simp)
 have d2 : Ob h7 jk 26 true .plain (cX .ai .ai ⟨A.1, B.1, C.1, [], [], [], []⟩) := d2
 have I7 : rM h q jb jk ⟨A.1, B.1, C.1, [], [], [], []⟩ h7 .ai .ai C.2 := ⟨Fr.old (fun j hj _ => d3 j hj) ((a4.trans O15).trans b6) hk, (w5.up b6 b7).fr b4 (by decide) (fun j hj _ => d3 j hj) (fT b7 b4 d3 d4), (b5.old b6).eq (d3 jb hne), d2, .inl ⟨rfl, .inl rfl⟩, [], rfl, .inl ⟨rfl, .inl rfl⟩, fun i h1 => by cases h1⟩
 obtain ⟨h8, c8, w8, F8⟩ := iO T.d I7.rd 65535
 have I8 := I7.qQ hq w8 F8
 generalize hD : aJ 65535 C.2 = D at *
 obtain ⟨h9, g9, I9⟩ := I8.put hne hk (i := 3) (v := bz D.1) (by omega) rfl (e' := ⟨A.1, B.1, C.1, D.1, [], [], []⟩) rfl rfl rfl
 obtain ⟨h10, c10, w10, F10⟩ := iO T.d I9.rd 65535
 have I10 := I9.qQ hq w10 F10
 generalize hE : aJ 65535 D.2 = E at *
 obtain ⟨h11, g11, I11⟩ := I10.put hne hk (i := 4) (v := bz E.1) (by omega) rfl (e' := ⟨A.1, B.1, C.1, D.1, E.1, [], []⟩) rfl rfl rfl
 have s0 : Ev fun m => ∀ K : A2 → Hp → RS, k42_0 (aw p (exec p m)) (aG p (exec p m)) K (bt [x] 0 .nil) h = K (T43 x (.ptr jb 0) (.ptr q 0) (.ptr jk 0)) h11 := (c2.and (c3.and (c4.and (c5.and (c8.and c10))))).mono fun m g K => by
  obtain ⟨z2, z3, z4, z5, z8, z10⟩ := g
  simp only [k42_0, K1, cP]
  have U0 : bl [i0, i0, i0, iS, iS, .ai, .ai] [.mk 0 1 (.c (i64 A.1)), .mk 1 1 (.c (i64 B.1)), .mk 2 1 (.c (i64 C.1))] h5 = .ok (.agg [i64 A.1, i64 B.1, i64 C.1, iS, iS, .ai, .ai]) h5 := rfl
  (rw [lx a1, aF z2, aF z3, aF z4, aF z5, rq U0, lx b1, jl d1, aF z8, aD, Nat.zero_add, dN g9, aF z10, aD, Nat.zero_add, dN g11]; try rfl)
 -- the columns
 obtain ⟨h12, c12, w12, F12⟩ := mB T.d I11.rd
 have I12 := I11.qQ hq w12 F12
 have hn1 : (bQ E.2).1 < 256 := Cod.gP 1 E.2
 generalize hF : bQ E.2 = F at *
 have s1 : Ev fun m => ∀ K : A2 → Hp → RS, k42_1 (aw p (exec p m)) (aG p (exec p m)) K (T43 x (.ptr jb 0) (.ptr q 0) (.ptr jk 0)) h11 = K (T44 x (.ptr jb 0) (.ptr q 0) (.ptr jk 0) (i64 (F.1 : Nat))) h12 := c12.mono fun m g K => by
  simp only [k42_1, K4, t43_0, t43_2, t43_4, t43_5]
  (rw [aF g]; try rfl)
 obtain ⟨_, h13, ⟨xc, _, I13⟩, l13⟩ := gW (p := p) (body := .ah zV (.ah k42_3 .skip)) (r := T44 x (.ptr jb 0) (.ptr q 0) (.ptr jk 0) (i64 (F.1 : Nat))) (h := h12) F.1
  (Inv := fun i r h' => ∃ xc, r = T44 x (.ptr jb 0) (.ptr q 0) (.ptr jk 0) (i64 (F.1 - i : Nat)) ∧ rM h q jb jk ⟨A.1, B.1, C.1, D.1, E.1, (many uo i F.2).1, []⟩ h' xc .ai (many uo i F.2).2) (l := 0) (Re := T43 x (.ptr jb 0) (.ptr q 0) (.ptr jk 0)) (fun i r h' hi I => by
   obtain ⟨xc, rfl, I⟩ := I
   obtain ⟨m, hm⟩ : ∃ m, F.1 - i = m + 1 := ⟨F.1 - i - 1, by omega⟩
   obtain ⟨xc', h2, k, I'⟩ := Jq (p := p) T.d I hq hk hne (by simp only [Cod.iK]; omega) (a := x) (m := m) (by omega)
   rw [hm]
   refine ⟨_, h2, k, xc', by rw [show F.1 - (i + 1) = m by omega], ?_⟩
   rw [Cod.pG]
   exact I') (fun r h' I => by
   obtain ⟨xc, rfl, I⟩ := I
   refine .aV fun c i K => ?_
   rw [Nat.sub_self]
   simp only [zV, K5, t44_0, t44_2, t44_4, t44_5, t44_6]
   have g0 : dj (i64 ((0 : Nat) : Int)) i0 h' = .ok (.bool false) h' := rfl
   (rw [aE g0, fK]; try rfl)) ⟨.ai, rfl, I12⟩
 generalize hG : many uo F.1 F.2 = G at *
 -- the changes
 obtain ⟨h14, c14, w14, F14⟩ := mB T.d I13.rd
 have I14 := I13.qQ hq w14 F14
 have hn2 : (bQ G.2).1 < 256 := Cod.gP 1 G.2
 generalize hH : bQ G.2 = H at *
 have s2 : Ev fun m => ∀ K : A2 → Hp → RS, k42_4 (aw p (exec p m)) (aG p (exec p m)) K (T43 x (.ptr jb 0) (.ptr q 0) (.ptr jk 0)) h13 = K (T45 x (.ptr jb 0) (.ptr q 0) (.ptr jk 0) (i64 (H.1 : Nat))) h14 := c14.mono fun m g K => by
  simp only [k42_4, K4, t43_0, t43_2, t43_4, t43_5]
  (rw [aF g]; try rfl)
 obtain ⟨_, h15, ⟨xg, _, I15⟩, l15⟩ := gW (p := p) (body := dp 4 (bh (bh x42))) (r := T45 x (.ptr jb 0) (.ptr q 0) (.ptr jk 0) (i64 (H.1 : Nat))) (h := h14) H.1
  (Inv := fun i r h' => ∃ xg, r = T45 x (.ptr jb 0) (.ptr q 0) (.ptr jk 0) (i64 (H.1 - i : Nat)) ∧ rM h q jb jk ⟨A.1, B.1, C.1, D.1, E.1, G.1, (many mz i H.2).1⟩ h' xc xg (many mz i H.2).2) (l := 2) (Re := T43 x (.ptr jb 0) (.ptr q 0) (.ptr jk 0)) (fun i r h' hi I => by
   obtain ⟨xg, rfl, I⟩ := I
   obtain ⟨m, hm⟩ : ∃ m, H.1 - i = m + 1 := ⟨H.1 - i - 1, by omega⟩
   obtain ⟨xg', h2, k, I'⟩ := Js (p := p) T.d T.e72 I hq hk hne (by simp only [Cod.iK]; omega) (a := x) (m := m) (by omega)
   rw [hm]
   refine ⟨_, h2, k, xg', by rw [show H.1 - (i + 1) = m by omega], ?_⟩
   rw [Cod.pG]
   exact I') (fun r h' I => by
   obtain ⟨xg, rfl, I⟩ := I
   refine .aV fun c i K => ?_
   rw [Nat.sub_self]
   simp only [k42_5, K5, t45_0, t45_2, t45_4, t45_5, t45_8]
   have g0 : dj (i64 ((0 : Nat) : Int)) i0 h' = .ok (.bool false) h' := rfl
   (rw [aE g0, fK]; try rfl)) ⟨.ai, rfl, I14⟩
 generalize hJ : many mz H.1 H.2 = J at *
 have he : BF (some s) = (⟨A.1, B.1, C.1, D.1, E.1, G.1, J.1⟩, J.2) := by rw [hg]
 have bd : uw 65535 ⟨A.1, B.1, C.1, D.1, E.1, G.1, J.1⟩ := by have := QG (some s); rwa [he] at this
 generalize hen : (⟨A.1, B.1, C.1, D.1, E.1, G.1, J.1⟩ : oI) = e at *
 have hdec : dec s = if J.2 = some [] ∧ takes e = true ∧ enc e = s then some e else none := by
  unfold dec; rw [he]
 obtain ⟨n, m, c16, hn⟩ := Qg T.d I15.rd
 have hlen : J.2 = some [] → (enc e).length ≤ 16777216 := fun g => by
  obtain ⟨l, e1, e2⟩ := Me _ _ [] (he.trans (by rw [g]))
  cases e1
  simp at e2
  omega
 have rb15 : lG h15 x s := rb.up I15.old
 obtain ⟨r', h16, k16, O16, W16, q2, q5, q75⟩ := Nh (p := p) T I15 bd (n := n) (fun g _ => hlen (hn.1 g)) rb15
 have s7 : Ev fun m => ∀ K : A2 → Hp → RS, k42_7 (aw p (exec p m)) (aG p (exec p m)) K (T43 x (.ptr jb 0) (.ptr q 0) (.ptr jk 0)) h15 = K (T46 x (.ptr jb 0) (.ptr jk 0) (i64 n)) h15 := c16.mono fun mm g K => by
  simp only [k42_7, K4, t43_0, t43_2, t43_4, t43_5]
  have x0 : Seat.ext 0 (.jx [i64 n, i64 m]) h15 = .ok (i64 n) h15 := rfl
  have x1 : Seat.ext 1 (.jx [i64 n, i64 m]) h15 = .ok (i64 m) h15 := rfl
  (rw [aF g, ru x0, ru x1]; try rfl)
 have ob16 := I15.ob.old O16
 have ok16 := I15.ok.old O16
 have old16 := I15.old.trans O16
 have pre : ∀ st, Rn p (bh (bh (bh x42))) (T43 x (.ptr jb 0) (.ptr q 0) (.ptr jk 0)) h15 st → Rn p x42 (bt [x] 0 .nil) h st := fun st g =>
  .to s0 (.seq (.to s1 (.bN l13)) (.seq (.to s2 (.bN l15)) g))
 have fin : ∀ (l : List AV) (hl : l.length = 7) (nn : Int) (hh : Hp), Ob hh jb 26 true .plain l → Rn p x42 (bt [x] 0 .nil) h (.ret (T1 (.ptr jb 0) (i64 nn)) hh) → Cv p 42 [x] h (.jx [.agg l, i64 nn]) hh := fun l hl nn hh o g => by
  refine .of (r' := T1 (.ptr jb 0) (i64 nn)) (h1 := hh) T.e45 (by simp) g ?_
  show (RV.rec (fun v _ => .ok (.jx [v, i64 nn]) hh) (fun n => .err n) (Seat.pY 7 (.ptr jb 0) hh) : RV) = _
  rw [bD (m := 7) (Ob.c0 o) hl]
 cases hg : (decide (n = 0) && (takes e && decide (enc e = s))) with
 | true =>
  obtain ⟨h17, k1, k2, k3, k4⟩ := fE (k := 0) (m := 7) (l' := cX xc xg e) ob16 (by simp [cX]) (by simp)
  have k2 : Ob h17 jb 26 true .plain (cX xc xg e) := k2
  have hg' : n = 0 ∧ takes e = true ∧ enc e = s := by simpa using hg
  refine ⟨cX xc xg e, h17, 0, fin _ (by simp [cX]) 0 h17 k2 (pre _ (.seq (.to s7 (.seq k16 (.aV (s := .nm (T47 (.ptr jb 0) (.ptr jk 0)) h16) fun c i K => ?_))) (.aV fun c i K => ?_))), Fr.old (fun j hj _ => k3 j hj) old16 hb, fT W16 ob16 k3 k4, .inl ⟨e, xc, xg, ?_, rfl, rfl, ?_, ?_, bd⟩⟩
  ·simp only [k42_8, K3, q2, q5, q75, hg]
   rfl
  ·simp only [k42_9, K2, t47_2, t47_5]
   (rw [fO (bD (m := 7) (Ob.c0 ok16) (by simp [cX])), jl k1]; try rfl)
  ·rw [hdec, if_pos ⟨hn.1 hg'.1, hg'.2.1, hg'.2.2⟩]
  ·have := Fr.own (fun j hj _ => k3 j hj) (I15.oc.old fun j _ hj => O16 j hj) ob16 (.inr (by simp))
   rw [← hen] at this ⊢
   exact this
  ·have := (I15.og.dr fun k el fl l o _ => O16 k o.ne).dr (h' := h17) fun k el fl l o _ => k3 k (o.apart ob16 (.inr (by simp)))
   rw [← hen] at this ⊢
   exact this
 | false =>
  obtain ⟨h17, k1, k2, k3, k4⟩ := fE (k := 0) (m := 7) (l' := Cg) ob16 rfl (by simp)
  have k2 : Ob h17 jb 26 true .plain Cg := k2
  refine ⟨Cg, h17, 12, fin _ rfl 12 h17 k2 (pre _ (.dt (.to s7 (.seq k16 (.aV fun c i K => ?_))))), Fr.old (fun j hj _ => k3 j hj) old16 hb, fT W16 ob16 k3 k4, .inr ⟨?_, rfl, rfl⟩⟩
  ·simp only [k42_8, K3, q2, q5, q75, hg]
   have U0 : bl [i0, i0, i0, iS, iS, .ai, .ai] [] h16 = .ok (.agg Cg) h16 := rfl
   (rw [Bool.not_false, fZ, rq U0, jl k1]; try rfl)
  ·rw [hdec, if_neg]
   rintro ⟨a1, a2, a3⟩
   rw [decide_eq_true (hn.2 a1), a2, decide_eq_true a3] at hg
   cases hg
end
open Go.Cod
noncomputable section
variable {p : Pg} {h0 h h' h1 h2 : Hp} {q j k : P4} {s : Bs} {x y : AV}
theorem qV {s t : Bs} : decide (s.map UInt8.toNat = t.map UInt8.toNat) = decide (s = t) := by
 rw [decide_eq_decide]
 exact List.map_inj_right fun a b g => UInt8.toNat_inj.1 g
theorem Kj (a b : Int) : CP .i h (i64 a) (i64 b) = EB.of (decide (a = b)) := by
 show EB.of (uN a b) = _
 rw [ir]
theorem Ox (s t : Bs) : CP .s h (bz s) (bz t) = EB.of (decide (s = t)) := by
 show EB.of (jg (s.map UInt8.toNat) (t.map UInt8.toNat)) = _
 rw [jI, qV]
theorem uL {kk : KK} {ks : List KK} {a b : List AV} {u v : Bool} (g : CP kk h x y = EB.of u) (g' : rX ks h a b = EB.of v) : rX (kk :: ks) h (x :: a) (y :: b) = EB.of (u && v) := by
 show (@EB.rec (fun _ => EB) (rX ks h a b) (@EB.rec (fun _ => EB) .no .no .bad (rX ks h a b)) .bad (CP kk h x y)) = _
 rw [g, g']
 cases u <;> cases v <;> rfl
theorem DQ : rX [] h [] [] = EB.of true := rfl
theorem Kk {ks : List KK} {a b : List AV} {u : Bool} (g : rX ks h a b = EB.of u) : bK (.OJ ks) (.agg a) (.agg b) h = .ok (.bool (!u)) h := by
 show EB.rv true h (rX ks h a b) = _
 rw [g]
 cases u <;> rfl
theorem DR (v w : mr) : bK (.OJ [.i, .i, .s]) (.agg (iW v)) (.agg (iW w)) h = .ok (.bool (!decide (v = w))) h := by
 have := Kk (h := h) (uL (Kj v.kind w.kind) (uL (Kj v.n w.n) (uL (Ox v.s w.s) DQ)))
 have e : (decide (v.kind = w.kind) && (decide (v.n = w.n) && (decide (v.s = w.s) && true))) = decide (v = w) := by
  cases v; cases w; simp [mr.mk.injEq]
 rw [e] at this
 exact this
theorem DT (v w : Bs × Int) : bK (.OJ [.s, .i]) (.agg [bz v.1, i64 v.2]) (.agg [bz w.1, i64 w.2]) h = .ok (.bool (!decide (v = w))) h := by
 have := Kk (h := h) (uL (Ox v.1 w.1) (uL (Kj v.2 w.2) DQ))
 have e : (decide (v.1 = w.1) && (decide (v.2 = w.2) && true)) = decide (v = w) := by
  cases v; cases w; simp [Prod.mk.injEq]
 rw [e] at this
 exact this
theorem Kl {α : Type} [DecidableEq α] {as bs : List α} (hl : as.length = bs.length) {body : AC} {R : Nat → A2} {Re : A2} {lab : Nat} {Q : Hp → Prop} (q0 : Q h)
  (step : ∀ i h' (hi : i < as.length), Q h' → as[i] = bs[i]'(by omega) → ∃ h2, Q h2 ∧ Rn p body (R i) h' (.nm (R (i + 1)) h2))
  (bad : ∀ i h' (hi : i < as.length), Q h' → as[i] ≠ bs[i]'(by omega) → ∃ h2, Q h2 ∧ Rn p body (R i) h' (.ret (T27 (.bool false)) h2))
  (fin : ∀ h', Q h' → Rn p body (R as.length) h' (.ex lab Re h')) :
  ∃ st h', Q h' ∧ Rn p (.loop body) (R 0) h st ∧ ((as = bs ∧ st = .ex lab Re h') ∨ (as ≠ bs ∧ st = .ret (T27 (.bool false)) h')) := by
 obtain ⟨st, ⟨h', g1, g2⟩, g3⟩ := eU (p := p) (body := body) as.length (Inv := fun i r h' => r = R i ∧ Q h' ∧ as.take i = bs.take i) (S := fun st => ∃ h', Q h' ∧ ((as = bs ∧ st = .ex lab Re h') ∨ (as ≠ bs ∧ st = .ret (T27 (.bool false)) h'))) (fun i r h' hi I => by
  obtain ⟨rfl, I1, I2⟩ := I
  have hi' : i < bs.length := by omega
  by_cases e : as[i] = bs[i]
  ·obtain ⟨h2, a, b⟩ := step i h' hi I1 e
   refine .inl ⟨_, h2, b, rfl, a, ?_⟩
   rw [List.take_succ_eq_append_getElem hi, List.take_succ_eq_append_getElem hi', I2, e]
  ·obtain ⟨h2, a, b⟩ := bad i h' hi I1 e
   refine .inr ⟨_, ⟨h2, a, .inr ⟨fun g => e (by simp only [g]), rfl⟩⟩, .eJ b⟩) (fun r h' I => by
  obtain ⟨rfl, I1, I2⟩ := I
  refine ⟨_, ⟨h', I1, .inl ⟨?_, rfl⟩⟩, .dU (fin h' I1)⟩
  rw [List.take_length] at I2
  rw [I2, hl, List.take_length]) as.length 0 (R 0) h (by omega) ⟨rfl, q0, by simp⟩
 exact ⟨st, h', g1, g3, g2⟩
theorem xX {α : Type} [DecidableEq α] {as bs : List α} {f : Nat} {L : AC} {k0 k1 ke : KF} (hf : ar f p.fs = .mk (.ah k0 (.seq (.ah k1 (.block 0 (.loop L))) (.ah ke .skip))) [.t .h0 .h4]) {R : Nat → A2} {Re : A2} {Q : Hp → Prop} (q0 : Q h)
  (z0 : ∀ c i (K : A2 → Hp → RS), k0 c i K (bt [x, y] 0 .nil) h = if as.length = bs.length then K (T40 x y) h else .ret (T27 (.bool false)) h) (z1 : ∀ c i (K : A2 → Hp → RS), k1 c i K (T40 x y) h = K (R 0) h) (ze : ∀ c i (K : A2 → Hp → RS) h', ke c i K Re h' = .ret (T27 (.bool true)) h')
  (step : as.length = bs.length → ∀ i h' (hi : i < as.length) (hj : i < bs.length), Q h' → as[i] = bs[i] → ∃ h2, Q h2 ∧ Rn p L (R i) h' (.nm (R (i + 1)) h2))
  (bad : as.length = bs.length → ∀ i h' (hi : i < as.length) (hj : i < bs.length), Q h' → as[i] ≠ bs[i] → ∃ h2, Q h2 ∧ Rn p L (R i) h' (.ret (T27 (.bool false)) h2))
  (fin : ∀ h', Q h' → Rn p L (R as.length) h' (.ex 0 Re h')) : ∃ h', Q h' ∧ Cv p f [x, y] h (.bool (decide (as = bs))) h' := by
 by_cases hl : as.length = bs.length
 ·obtain ⟨st, h', g1, g2, ⟨g3, rfl⟩ | ⟨g3, rfl⟩⟩ := Kl (p := p) (lab := 0) hl q0 (fun i h' hi => step hl i h' hi (by omega)) (fun i h' hi => bad hl i h' hi (by omega)) fin
  ·refine ⟨h', g1, .of (r' := T27 (.bool true)) (h1 := h') hf (by simp) (.dP (r' := T40 x y) (h' := h) (fun c i K => by rw [z0, if_pos hl]) (.seq (.dP (z1) (.bN g2)) (.aV fun c i K => ze _ _ _ _))) (by rw [decide_eq_true g3]; rfl)⟩
  ·refine ⟨h', g1, .of (r' := T27 (.bool false)) (h1 := h') hf (by simp) (.dP (r' := T40 x y) (h' := h) (fun c i K => by rw [z0, if_pos hl]) (.dt (.dP (z1) (.cT g2)))) (by rw [decide_eq_false g3]; rfl)⟩
 ·exact ⟨h, q0, .of (r' := T27 (.bool false)) (h1 := h) hf (by simp) (.aV fun c i K => by rw [z0, if_neg hl]) (by rw [decide_eq_false fun g => hl (by rw [g])]; rfl)⟩
theorem Ni (a b : Nat) : kF (.int .i64 (a : Int)) (.int .i64 (b : Int)) h = .ok (.bool (!decide (a = b))) h := by
 rw [Ol]
 congr 3
 rw [decide_eq_decide]; omega
theorem DU {k0 : KF} {a b : Nat} (la : Am.len x h = .ok (.int .i64 (a : Int)) h) (lb : Am.len y h = .ok (.int .i64 (b : Int)) h) (e : ∀ c i K, k0 c i K (bt [x, y] 0 .nil) h = Seat.G x h fun d h => Seat.G y h fun e h => tR (kF d e h) fun f h => Seat.I f (.ret (T27 (.bool false)) h) (K (T40 x y) h)) :
  ∀ c i (K : A2 → Hp → RS), k0 c i K (bt [x, y] 0 .nil) h = if a = b then K (T40 x y) h else .ret (T27 (.bool false)) h := fun c i K => by
 rw [e]
 (rw [bL la, bL lb, aE (Ni a b), Sj]; try rfl)
 by_cases g : a = b
 ·rw [if_pos g, decide_eq_true g]; rfl
 ·rw [if_neg g, decide_eq_false g]; rfl
structure vf (p : Pg) : Prop where
 e67 : ar 44 p.fs = f44
 e100 : ar 73 p.fs = f73
 e101 : ar 74 p.fs = f74
 e126 : ar 99 p.fs = f99
theorem Nj (T : vf p) {r1 r2 : List mr} (a : dQ h x r1) (b : dQ h y r2) (hn : r1.length < 9223372036854775807) : Cv p 99 [x, y] h (.bool (decide (r1 = r2))) h := by
 obtain ⟨q1, o1, sl1, g1⟩ := cY.sl a
 obtain ⟨q2, o2, sl2, g2⟩ := cY.sl b
 obtain ⟨h', rfl, c⟩ := xX (p := p) (x := x) (y := y) (as := r1) (bs := r2) T.e126 (R := fun i => T22 x y (i64 i)) (Re := T22 x y (i64 r1.length)) (Q := fun h' => h' = h) rfl
  (DU (cY.len a) (cY.len b) fun c i K => by simp only [k99_0, K2, fR, fS]) (fun c i K => by simp only [k99_1, K2, jS, jT]; rfl) (fun c i K h' => rfl)
  (fun hl i h' hi hj e0 e => by
   subst e0
   refine ⟨h', rfl, .aV fun c i' K => ?_⟩
   obtain ⟨l, l1, l2, rfl⟩ := g1 i hi
   obtain ⟨m, m1, m2, rfl⟩ := g2 i hj
   simp only [k99_2, K3, iB, iD, iE]
   have av := DR (h := h') r1[i] r2[i]
   rw [decide_eq_true e] at av
   (rw [bL (cY.len a), bu, bJ, if_pos (by omega), aC (cG sl1 hi), aC (bD l2 l1), aC (cG sl2 hj), aC (bD m2 m1), aC av, Bool.not_true, fK, dT hi hn]; try rfl))
  (fun hl i h' hi hj e0 e => by
   subst e0
   refine ⟨h', rfl, .aV fun c i' K => ?_⟩
   obtain ⟨l, l1, l2, rfl⟩ := g1 i hi
   obtain ⟨m, m1, m2, rfl⟩ := g2 i hj
   simp only [k99_2, K3, iB, iD, iE]
   have av := DR (h := h') r1[i] r2[i]
   rw [decide_eq_false e] at av
   (rw [bL (cY.len a), bu, bJ, if_pos (by omega), aC (cG sl1 hi), aC (bD l2 l1), aC (cG sl2 hj), aC (bD m2 m1), aC av, Bool.not_false, fZ]; try rfl))
  (fun h' e0 => by
   subst e0
   refine .aV fun c i' K => ?_
   simp only [k99_2, K3, iB, iD, iE]
   (rw [bL (cY.len a), bu, bJ, if_neg (by omega)]; try rfl))
 exact c
theorem Km (T : vf p) {r1 r2 : List (Bs × Int)} (a : aQ h x r1) (b : aQ h y r2) (hn : r1.length < 9223372036854775807) : Cv p 73 [x, y] h (.bool (decide (r1 = r2))) h := by
 obtain ⟨q1, o1, sl1, g1⟩ := cY.sl a
 obtain ⟨q2, o2, sl2, g2⟩ := cY.sl b
 obtain ⟨h', rfl, c⟩ := xX (p := p) (x := x) (y := y) (as := r1) (bs := r2) T.e100 (R := fun i => T22 x y (i64 i)) (Re := T22 x y (i64 r1.length)) (Q := fun h' => h' = h) rfl
  (DU (cY.len a) (cY.len b) fun c i K => by simp only [k73_0, K2, fR, fS]) (fun c i K => by simp only [k73_1, K2, jS, jT]; rfl) (fun c i K h' => rfl)
  (fun hl i h' hi hj e0 e => by
   subst e0
   refine ⟨h', rfl, .aV fun c i' K => ?_⟩
   obtain ⟨l, l1, l2, rfl⟩ := g1 i hi
   obtain ⟨m, m1, m2, rfl⟩ := g2 i hj
   simp only [k73_2, K3, iB, iD, iE]
   have av := DT (h := h') r1[i] r2[i]
   rw [decide_eq_true e] at av
   (rw [bL (cY.len a), bu, bJ, if_pos (by omega), aC (cG sl1 hi), aC (bD l2 l1), aC (cG sl2 hj), aC (bD m2 m1), aC av, Bool.not_true, fK, dT hi hn]; try rfl))
  (fun hl i h' hi hj e0 e => by
   subst e0
   refine ⟨h', rfl, .aV fun c i' K => ?_⟩
   obtain ⟨l, l1, l2, rfl⟩ := g1 i hi
   obtain ⟨m, m1, m2, rfl⟩ := g2 i hj
   simp only [k73_2, K3, iB, iD, iE]
   have av := DT (h := h') r1[i] r2[i]
   rw [decide_eq_false e] at av
   (rw [bL (cY.len a), bu, bJ, if_pos (by omega), aC (cG sl1 hi), aC (bD l2 l1), aC (cG sl2 hj), aC (bD m2 m1), aC av, Bool.not_false, fZ]; try rfl))
  (fun h' e0 => by
   subst e0
   refine .aV fun c i' K => ?_
   simp only [k73_2, K3, iB, iD, iE]
   (rw [bL (cY.len a), bu, bJ, if_neg (by omega)]; try rfl))
 exact c
theorem Ay (T : vf p) {c1 c2 : oH} {z1 z2 : AV} {i n1 n2 : Nat} {q1 q2 : P4} {o1 o2 : Nat} (sl1 : zB x 3 n1 q1 o1) (sl2 : zB y 3 n2 q2 o2) (h1 : i < n1) (h2 : i < n2) (a1 : Cs h q1 (o1 + i * 3) (uZ z1 c1)) (a2 : Cs h q2 (o2 + i * 3) (uZ z2 c2)) (b1 : dQ h z1 c1.row) (b2 : dQ h z2 c2.row) (hn : c1.row.length < 9223372036854775807) :
  ∃ r', Rn p (dp 8 (bh x74)) (T22 x y (i64 i)) h (.nm r' h) ∧ y0 r' = x ∧ y1 r' = y ∧ y5 r' = i64 i ∧ y54 r' = .bool (!decide (c1 = c2)) := by
 have X1 := cG (h := h) sl1 h1
 have X2 := cG (h := h) sl2 h2
 have sn : bK .SO (bz c1.table) (bz c2.table) h = .ok (.bool (!decide (c1.table = c2.table))) h := by
  show yt (.str _) (.str _) h = _
  rw [PR, qV]
 have bn : bK .bne (.bool c1.remove) (.bool c2.remove) h = .ok (.bool (!decide (c1.remove = c2.remove))) h := by
  cases c1.remove <;> cases c2.remove <;> rfl
 have rw' := Nj (p := p) T b1 b2 hn
 have ee : decide (c1 = c2) = (decide (c1.table = c2.table) && (decide (c1.remove = c2.remove) && decide (c1.row = c2.row))) := by
  cases c1
  cases c2
  simp only [oH.mk.injEq, ← Bool.decide_and, decide_eq_decide]
  exact ⟨fun ⟨a, b, c⟩ => ⟨a, c, b⟩, fun ⟨a, b, c⟩ => ⟨a, c, b⟩⟩
 by_cases e1 : c1.table = c2.table
 ·rw [decide_eq_true e1] at sn
  by_cases e2 : c1.remove = c2.remove
  ·rw [decide_eq_true e2] at bn
   exact ⟨_, .rS (.dF (v := x) (g' := h) rfl <| .dF (v := i64 i) (g' := h) rfl <| .dF (g' := h) X1 <| .dF (v := .ptr q1 (o1 + i * 3 + 0)) (g' := h) rfl <| .dF (v := bz c1.table) (g' := h) (aZ a1 rfl) <|
    .dF (v := y) (g' := h) rfl <| .dF (v := i64 i) (g' := h) rfl <| .dF (g' := h) X2 <| .dF (v := .ptr q2 (o2 + i * 3 + 0)) (g' := h) rfl <| .dF (v := bz c2.table) (g' := h) (aZ a2 rfl) <| .dF (v := .bool false) (g' := h) sn <| .dF (v := .bool false) (g' := h) rfl <|
    .on rfl <| .dF (v := x) (g' := h) rfl <| .on rfl <| .dF (v := i64 i) (g' := h) rfl <| .on rfl <| .dF (g' := h) X1 <| .on rfl <| .dF (v := .ptr q1 (o1 + i * 3 + 2)) (g' := h) rfl <| .on rfl <| .dF (v := .bool c1.remove) (g' := h) (aq a1 2 rfl) <|
    .on rfl <| .dF (v := y) (g' := h) rfl <| .on rfl <| .dF (v := i64 i) (g' := h) rfl <| .on rfl <| .dF (g' := h) X2 <| .on rfl <| .dF (v := .ptr q2 (o2 + i * 3 + 2)) (g' := h) rfl <| .on rfl <| .dF (v := .bool c2.remove) (g' := h) (aq a2 2 rfl) <|
    .on rfl <| .dF (v := .bool false) (g' := h) bn <| .dF (v := .bool false) (g' := h) rfl <| .dF (v := .bool false) (g' := h) rfl <|
    .on rfl <| .dF (v := x) (g' := h) rfl <| .on rfl <| .dF (v := i64 i) (g' := h) rfl <| .on rfl <| .dF (g' := h) X1 <| .on rfl <| .dF (v := .ptr q1 (o1 + i * 3 + 1)) (g' := h) rfl <| .on rfl <| .dF (v := z1) (g' := h) (aq a1 1 rfl) <|
    .on rfl <| .dF (v := y) (g' := h) rfl <| .on rfl <| .dF (v := i64 i) (g' := h) rfl <| .on rfl <| .dF (g' := h) X2 <| .on rfl <| .dF (v := .ptr q2 (o2 + i * 3 + 1)) (g' := h) rfl <| .on rfl <| .dF (v := z2) (g' := h) (aq a2 1 rfl) <|
    .on rfl <| .call (v := .bool (decide (c1.row = c2.row))) (h' := h) rw' <| .on rfl <| .dF (v := .bool (!decide (c1.row = c2.row))) (g' := h) (eY _) <| .dF (v := .bool (!decide (c1.row = c2.row))) (g' := h) rfl <| .nil), rfl, rfl, rfl, by rw [ee, decide_eq_true e1, decide_eq_true e2]; rfl⟩
  ·rw [decide_eq_false e2] at bn
   exact ⟨_, .rS (.dF (v := x) (g' := h) rfl <| .dF (v := i64 i) (g' := h) rfl <| .dF (g' := h) X1 <| .dF (v := .ptr q1 (o1 + i * 3 + 0)) (g' := h) rfl <| .dF (v := bz c1.table) (g' := h) (aZ a1 rfl) <|
    .dF (v := y) (g' := h) rfl <| .dF (v := i64 i) (g' := h) rfl <| .dF (g' := h) X2 <| .dF (v := .ptr q2 (o2 + i * 3 + 0)) (g' := h) rfl <| .dF (v := bz c2.table) (g' := h) (aZ a2 rfl) <| .dF (v := .bool false) (g' := h) sn <| .dF (v := .bool false) (g' := h) rfl <|
    .on rfl <| .dF (v := x) (g' := h) rfl <| .on rfl <| .dF (v := i64 i) (g' := h) rfl <| .on rfl <| .dF (g' := h) X1 <| .on rfl <| .dF (v := .ptr q1 (o1 + i * 3 + 2)) (g' := h) rfl <| .on rfl <| .dF (v := .bool c1.remove) (g' := h) (aq a1 2 rfl) <|
    .on rfl <| .dF (v := y) (g' := h) rfl <| .on rfl <| .dF (v := i64 i) (g' := h) rfl <| .on rfl <| .dF (g' := h) X2 <| .on rfl <| .dF (v := .ptr q2 (o2 + i * 3 + 2)) (g' := h) rfl <| .on rfl <| .dF (v := .bool c2.remove) (g' := h) (aq a2 2 rfl) <|
    .on rfl <| .dF (v := .bool true) (g' := h) bn <| .dF (v := .bool true) (g' := h) rfl <| .dF (v := .bool true) (g' := h) rfl <|
    .eH rfl <| .eH rfl <| .eH rfl <| .eH rfl <| .eH rfl <| .eH rfl <| .eH rfl <| .eH rfl <| .eH rfl <| .eH rfl <| .Sl rfl <| .eH rfl <| .dF (v := .bool true) (g' := h) rfl <| .nil), rfl, rfl, rfl, by rw [ee, decide_eq_true e1, decide_eq_false e2]; rfl⟩
 ·rw [decide_eq_false e1] at sn
  exact ⟨_, .rS (.dF (v := x) (g' := h) rfl <| .dF (v := i64 i) (g' := h) rfl <| .dF (g' := h) X1 <| .dF (v := .ptr q1 (o1 + i * 3 + 0)) (g' := h) rfl <| .dF (v := bz c1.table) (g' := h) (aZ a1 rfl) <|
   .dF (v := y) (g' := h) rfl <| .dF (v := i64 i) (g' := h) rfl <| .dF (g' := h) X2 <| .dF (v := .ptr q2 (o2 + i * 3 + 0)) (g' := h) rfl <| .dF (v := bz c2.table) (g' := h) (aZ a2 rfl) <| .dF (v := .bool true) (g' := h) sn <| .dF (v := .bool true) (g' := h) rfl <|
   .eH rfl <| .eH rfl <| .eH rfl <| .eH rfl <| .eH rfl <| .eH rfl <| .eH rfl <| .eH rfl <| .eH rfl <| .eH rfl <| .eH rfl <| .dF (v := .bool true) (g' := h) rfl <| .dF (v := .bool true) (g' := h) rfl <|
   .eH rfl <| .eH rfl <| .eH rfl <| .eH rfl <| .eH rfl <| .eH rfl <| .eH rfl <| .eH rfl <| .eH rfl <| .eH rfl <| .Sl rfl <| .eH rfl <| .dF (v := .bool true) (g' := h) rfl <| .nil), rfl, rfl, rfl, by rw [ee, decide_eq_false e1]; rfl⟩
theorem Kn (T : vf p) {r1 r2 : List oH} (a : bE h x r1) (b : bE h y r2) (hn : r1.length < 9223372036854775807) (hr : ∀ c, c ∈ r1 → c.row.length < 9223372036854775807) : Cv p 74 [x, y] h (.bool (decide (r1 = r2))) h := by
 obtain ⟨q1, o1, sl1, g1⟩ := cY.sl a
 obtain ⟨q2, o2, sl2, g2⟩ := cY.sl b
 have t1 : ∀ i (hi : i < r1.length) cc i' (K : A2 → Hp → RS), k74_2 cc i' K (T22 x y (i64 i)) h = K (T22 x y (i64 i)) h := fun i hi cc i' K => by
  simp only [k74_2, K3, iB, iD, iE]
  (rw [bL (cY.len a), bu, bJ, if_pos (by omega)]; try rfl)
 obtain ⟨h', rfl, c⟩ := xX (p := p) (x := x) (y := y) (as := r1) (bs := r2) T.e101 (R := fun i => T22 x y (i64 i)) (Re := T15) (Q := fun h' => h' = h) rfl
  (DU (cY.len a) (cY.len b) fun c i K => by simp only [k74_0, K2, fR, fS]) (fun c i K => by simp only [k74_1, K2, jS, jT]; rfl) (fun c i K h' => rfl)
  (fun hl i h' hi hj e0 e => by
   subst e0
   obtain ⟨l, l1, l2, z1, rfl, l3⟩ := g1 i hi
   obtain ⟨m, m1, m2, z2, rfl, m3⟩ := g2 i hj
   obtain ⟨r', k, q0, q1', q5, q54⟩ := Ay (p := p) T sl1 sl2 hi hj l2 m2 l3 m3 (hr _ (by simp))
   rw [decide_eq_true e] at q54
   refine ⟨h', rfl, .dP (t1 i hi) (.seq (.block (.seq k (.aV (s := .nm (T22 x y (i64 i)) h') fun c i' K => ?_))) (.aV fun c i' K => ?_))⟩
   ·simp only [k74_3, K4, q0, q1', q5, q54]; rfl
   ·simp only [k74_4, K3, iB, iD, iE]
    (rw [dT hi hn]; try rfl))
  (fun hl i h' hi hj e0 e => by
   subst e0
   obtain ⟨l, l1, l2, z1, rfl, l3⟩ := g1 i hi
   obtain ⟨m, m1, m2, z2, rfl, m3⟩ := g2 i hj
   obtain ⟨r', k, q0, q1', q5, q54⟩ := Ay (p := p) T sl1 sl2 hi hj l2 m2 l3 m3 (hr _ (by simp))
   rw [decide_eq_false e] at q54
   refine ⟨h', rfl, .dP (t1 i hi) (.dt (.cT (.seq k (.aV fun c i' K => ?_))))⟩
   simp only [k74_3, K4, q0, q1', q5, q54]; rfl)
  (fun h' e0 => by
   subst e0
   refine .aV fun c i' K => ?_
   simp only [k74_2, K3, iB, iD, iE]
   (rw [bL (cY.len a), bu, bJ, if_neg (by omega)]; try rfl))
 exact c
end
open Go.Cod
noncomputable section
variable {p : Pg} {h0 h h' h1 h2 : Hp} {q j k j1 j2 : P4} {s : Bs} {x y x1 x2 y1 y2 : AV}
theorem QH (a b : Int) : bK .eq (i64 a) (i64 b) h = .ok (.bool (decide (a = b))) h := IG _ _ _
theorem eqs (s t : Bs) : bK .seq (bz s) (bz t) h = .ok (.bool (decide (s = t))) h := by
 show yr (.str _) (.str _) h = _
 rw [II, qV]
theorem Ko (T : vf p) {e1 e2 : oI} (c1 : Cs h j1 0 (cX x1 y1 e1)) (c2 : Cs h j2 0 (cX x2 y2 e2)) (a1 : aQ h x1 e1.bU) (a2 : aQ h x2 e2.bU) (b1 : bE h y1 e1.changes) (b2 : bE h y2 e2.changes) {B : Nat} (bd : uw B e1) (hB : B < 9223372036854775807) :
  ∃ r', Os p (opsL (fst (bh x44))) (T1 (.ptr j1 0) (.ptr j2 0)) h (.nm r' h) ∧ y4 r' = .bool (decide (e1 = e2)) := by
 have v5 := Km (p := p) T a1 a2 (by have := bd.2.2.2.2.2.1; omega)
 have v6 := Kn (p := p) T b1 b2 (by have := bd.2.2.2.2.2.2.2.1; omega) (fun c hc => by have := (bd.2.2.2.2.2.2.2.2 c hc).2.1; omega)
 have q0 := QH (h := h) e1.aA e2.aA
 by_cases g0 : e1.aA = e2.aA
 case neg =>
  rw [decide_eq_false g0] at q0
  exact ⟨_, .step (v := .ptr j1 0) (h' := h) rfl <| .step (v := i64 e1.aA) (h' := h) (aZ c1 rfl) <| .step (v := .ptr j2 0) (h' := h) rfl <| .step (v := i64 e2.aA) (h' := h) (aZ c2 rfl) <| .step (v := .bool false) (h' := h) q0 <| .step (v := .bool false) (h' := h) rfl <| .off rfl <| .off rfl <| .off rfl <| .off rfl <| .off rfl <| .step (v := .bool false) (h' := h) rfl <| .step (v := .bool false) (h' := h) rfl <| .off rfl <| .off rfl <| .off rfl <| .off rfl <| .off rfl <| .step (v := .bool false) (h' := h) rfl <| .step (v := .bool false) (h' := h) rfl <| .off rfl <| .off rfl <| .off rfl <| .off rfl <| .off rfl <| .step (v := .bool false) (h' := h) rfl <| .step (v := .bool false) (h' := h) rfl <| .off rfl <| .off rfl <| .off rfl <| .off rfl <| .off rfl <| .step (v := .bool false) (h' := h) rfl <| .step (v := .bool false) (h' := h) rfl <| .off rfl <| .off rfl <| .off rfl <| .off rfl <| .off rfl <| .step (v := .bool false) (h' := h) rfl <| .step (v := .bool false) (h' := h) rfl <| .off rfl <| .off rfl <| .off rfl <| .off rfl <| .off rfl <| .step (v := .bool false) (h' := h) rfl <| .step (v := .bool false) (h' := h) rfl <| .nil, by rw [decide_eq_false fun g => g0 (by rw [g])]; rfl⟩
 rw [decide_eq_true g0] at q0
 have q1 := QH (h := h) e1.seq e2.seq
 by_cases g1 : e1.seq = e2.seq
 case neg =>
  rw [decide_eq_false g1] at q1
  exact ⟨_, .step (v := .ptr j1 0) (h' := h) rfl <| .step (v := i64 e1.aA) (h' := h) (aZ c1 rfl) <| .step (v := .ptr j2 0) (h' := h) rfl <| .step (v := i64 e2.aA) (h' := h) (aZ c2 rfl) <| .step (v := .bool true) (h' := h) q0 <| .step (v := .bool true) (h' := h) rfl <| .on rfl <| .step (v := .ptr j1 1) (h' := h) rfl <| .on rfl <| .step (v := i64 e1.seq) (h' := h) (aq c1 1 rfl) <| .on rfl <| .step (v := .ptr j2 1) (h' := h) rfl <| .on rfl <| .step (v := i64 e2.seq) (h' := h) (aq c2 1 rfl) <| .on rfl <| .step (v := .bool false) (h' := h) q1 <| .step (v := .bool false) (h' := h) rfl <| .step (v := .bool false) (h' := h) rfl <| .off rfl <| .off rfl <| .off rfl <| .off rfl <| .off rfl <| .step (v := .bool false) (h' := h) rfl <| .step (v := .bool false) (h' := h) rfl <| .off rfl <| .off rfl <| .off rfl <| .off rfl <| .off rfl <| .step (v := .bool false) (h' := h) rfl <| .step (v := .bool false) (h' := h) rfl <| .off rfl <| .off rfl <| .off rfl <| .off rfl <| .off rfl <| .step (v := .bool false) (h' := h) rfl <| .step (v := .bool false) (h' := h) rfl <| .off rfl <| .off rfl <| .off rfl <| .off rfl <| .off rfl <| .step (v := .bool false) (h' := h) rfl <| .step (v := .bool false) (h' := h) rfl <| .off rfl <| .off rfl <| .off rfl <| .off rfl <| .off rfl <| .step (v := .bool false) (h' := h) rfl <| .step (v := .bool false) (h' := h) rfl <| .nil, by rw [decide_eq_false fun g => g1 (by rw [g])]; rfl⟩
 rw [decide_eq_true g1] at q1
 have q2 := QH (h := h) e1.kind e2.kind
 by_cases g2 : e1.kind = e2.kind
 case neg =>
  rw [decide_eq_false g2] at q2
  exact ⟨_, .step (v := .ptr j1 0) (h' := h) rfl <| .step (v := i64 e1.aA) (h' := h) (aZ c1 rfl) <| .step (v := .ptr j2 0) (h' := h) rfl <| .step (v := i64 e2.aA) (h' := h) (aZ c2 rfl) <| .step (v := .bool true) (h' := h) q0 <| .step (v := .bool true) (h' := h) rfl <| .on rfl <| .step (v := .ptr j1 1) (h' := h) rfl <| .on rfl <| .step (v := i64 e1.seq) (h' := h) (aq c1 1 rfl) <| .on rfl <| .step (v := .ptr j2 1) (h' := h) rfl <| .on rfl <| .step (v := i64 e2.seq) (h' := h) (aq c2 1 rfl) <| .on rfl <| .step (v := .bool true) (h' := h) q1 <| .step (v := .bool true) (h' := h) rfl <| .step (v := .bool true) (h' := h) rfl <| .on rfl <| .step (v := .ptr j1 2) (h' := h) rfl <| .on rfl <| .step (v := i64 e1.kind) (h' := h) (aq c1 2 rfl) <| .on rfl <| .step (v := .ptr j2 2) (h' := h) rfl <| .on rfl <| .step (v := i64 e2.kind) (h' := h) (aq c2 2 rfl) <| .on rfl <| .step (v := .bool false) (h' := h) q2 <| .step (v := .bool false) (h' := h) rfl <| .step (v := .bool false) (h' := h) rfl <| .off rfl <| .off rfl <| .off rfl <| .off rfl <| .off rfl <| .step (v := .bool false) (h' := h) rfl <| .step (v := .bool false) (h' := h) rfl <| .off rfl <| .off rfl <| .off rfl <| .off rfl <| .off rfl <| .step (v := .bool false) (h' := h) rfl <| .step (v := .bool false) (h' := h) rfl <| .off rfl <| .off rfl <| .off rfl <| .off rfl <| .off rfl <| .step (v := .bool false) (h' := h) rfl <| .step (v := .bool false) (h' := h) rfl <| .off rfl <| .off rfl <| .off rfl <| .off rfl <| .off rfl <| .step (v := .bool false) (h' := h) rfl <| .step (v := .bool false) (h' := h) rfl <| .nil, by rw [decide_eq_false fun g => g2 (by rw [g])]; rfl⟩
 rw [decide_eq_true g2] at q2
 have q3 := eqs (h := h) e1.name e2.name
 by_cases g3 : e1.name = e2.name
 case neg =>
  rw [decide_eq_false g3] at q3
  exact ⟨_, .step (v := .ptr j1 0) (h' := h) rfl <| .step (v := i64 e1.aA) (h' := h) (aZ c1 rfl) <| .step (v := .ptr j2 0) (h' := h) rfl <| .step (v := i64 e2.aA) (h' := h) (aZ c2 rfl) <| .step (v := .bool true) (h' := h) q0 <| .step (v := .bool true) (h' := h) rfl <| .on rfl <| .step (v := .ptr j1 1) (h' := h) rfl <| .on rfl <| .step (v := i64 e1.seq) (h' := h) (aq c1 1 rfl) <| .on rfl <| .step (v := .ptr j2 1) (h' := h) rfl <| .on rfl <| .step (v := i64 e2.seq) (h' := h) (aq c2 1 rfl) <| .on rfl <| .step (v := .bool true) (h' := h) q1 <| .step (v := .bool true) (h' := h) rfl <| .step (v := .bool true) (h' := h) rfl <| .on rfl <| .step (v := .ptr j1 2) (h' := h) rfl <| .on rfl <| .step (v := i64 e1.kind) (h' := h) (aq c1 2 rfl) <| .on rfl <| .step (v := .ptr j2 2) (h' := h) rfl <| .on rfl <| .step (v := i64 e2.kind) (h' := h) (aq c2 2 rfl) <| .on rfl <| .step (v := .bool true) (h' := h) q2 <| .step (v := .bool true) (h' := h) rfl <| .step (v := .bool true) (h' := h) rfl <| .on rfl <| .step (v := .ptr j1 3) (h' := h) rfl <| .on rfl <| .step (v := bz e1.name) (h' := h) (aq c1 3 rfl) <| .on rfl <| .step (v := .ptr j2 3) (h' := h) rfl <| .on rfl <| .step (v := bz e2.name) (h' := h) (aq c2 3 rfl) <| .on rfl <| .step (v := .bool false) (h' := h) q3 <| .step (v := .bool false) (h' := h) rfl <| .step (v := .bool false) (h' := h) rfl <| .off rfl <| .off rfl <| .off rfl <| .off rfl <| .off rfl <| .step (v := .bool false) (h' := h) rfl <| .step (v := .bool false) (h' := h) rfl <| .off rfl <| .off rfl <| .off rfl <| .off rfl <| .off rfl <| .step (v := .bool false) (h' := h) rfl <| .step (v := .bool false) (h' := h) rfl <| .off rfl <| .off rfl <| .off rfl <| .off rfl <| .off rfl <| .step (v := .bool false) (h' := h) rfl <| .step (v := .bool false) (h' := h) rfl <| .nil, by rw [decide_eq_false fun g => g3 (by rw [g])]; rfl⟩
 rw [decide_eq_true g3] at q3
 have q4 := eqs (h := h) e1.text e2.text
 by_cases g4 : e1.text = e2.text
 case neg =>
  rw [decide_eq_false g4] at q4
  exact ⟨_, .step (v := .ptr j1 0) (h' := h) rfl <| .step (v := i64 e1.aA) (h' := h) (aZ c1 rfl) <| .step (v := .ptr j2 0) (h' := h) rfl <| .step (v := i64 e2.aA) (h' := h) (aZ c2 rfl) <| .step (v := .bool true) (h' := h) q0 <| .step (v := .bool true) (h' := h) rfl <| .on rfl <| .step (v := .ptr j1 1) (h' := h) rfl <| .on rfl <| .step (v := i64 e1.seq) (h' := h) (aq c1 1 rfl) <| .on rfl <| .step (v := .ptr j2 1) (h' := h) rfl <| .on rfl <| .step (v := i64 e2.seq) (h' := h) (aq c2 1 rfl) <| .on rfl <| .step (v := .bool true) (h' := h) q1 <| .step (v := .bool true) (h' := h) rfl <| .step (v := .bool true) (h' := h) rfl <| .on rfl <| .step (v := .ptr j1 2) (h' := h) rfl <| .on rfl <| .step (v := i64 e1.kind) (h' := h) (aq c1 2 rfl) <| .on rfl <| .step (v := .ptr j2 2) (h' := h) rfl <| .on rfl <| .step (v := i64 e2.kind) (h' := h) (aq c2 2 rfl) <| .on rfl <| .step (v := .bool true) (h' := h) q2 <| .step (v := .bool true) (h' := h) rfl <| .step (v := .bool true) (h' := h) rfl <| .on rfl <| .step (v := .ptr j1 3) (h' := h) rfl <| .on rfl <| .step (v := bz e1.name) (h' := h) (aq c1 3 rfl) <| .on rfl <| .step (v := .ptr j2 3) (h' := h) rfl <| .on rfl <| .step (v := bz e2.name) (h' := h) (aq c2 3 rfl) <| .on rfl <| .step (v := .bool true) (h' := h) q3 <| .step (v := .bool true) (h' := h) rfl <| .step (v := .bool true) (h' := h) rfl <| .on rfl <| .step (v := .ptr j1 4) (h' := h) rfl <| .on rfl <| .step (v := bz e1.text) (h' := h) (aq c1 4 rfl) <| .on rfl <| .step (v := .ptr j2 4) (h' := h) rfl <| .on rfl <| .step (v := bz e2.text) (h' := h) (aq c2 4 rfl) <| .on rfl <| .step (v := .bool false) (h' := h) q4 <| .step (v := .bool false) (h' := h) rfl <| .step (v := .bool false) (h' := h) rfl <| .off rfl <| .off rfl <| .off rfl <| .off rfl <| .off rfl <| .step (v := .bool false) (h' := h) rfl <| .step (v := .bool false) (h' := h) rfl <| .off rfl <| .off rfl <| .off rfl <| .off rfl <| .off rfl <| .step (v := .bool false) (h' := h) rfl <| .step (v := .bool false) (h' := h) rfl <| .nil, by rw [decide_eq_false fun g => g4 (by rw [g])]; rfl⟩
 rw [decide_eq_true g4] at q4
 have q5 := v5
 by_cases g5 : e1.bU = e2.bU
 case neg =>
  rw [decide_eq_false g5] at q5
  exact ⟨_, .step (v := .ptr j1 0) (h' := h) rfl <| .step (v := i64 e1.aA) (h' := h) (aZ c1 rfl) <| .step (v := .ptr j2 0) (h' := h) rfl <| .step (v := i64 e2.aA) (h' := h) (aZ c2 rfl) <| .step (v := .bool true) (h' := h) q0 <| .step (v := .bool true) (h' := h) rfl <| .on rfl <| .step (v := .ptr j1 1) (h' := h) rfl <| .on rfl <| .step (v := i64 e1.seq) (h' := h) (aq c1 1 rfl) <| .on rfl <| .step (v := .ptr j2 1) (h' := h) rfl <| .on rfl <| .step (v := i64 e2.seq) (h' := h) (aq c2 1 rfl) <| .on rfl <| .step (v := .bool true) (h' := h) q1 <| .step (v := .bool true) (h' := h) rfl <| .step (v := .bool true) (h' := h) rfl <| .on rfl <| .step (v := .ptr j1 2) (h' := h) rfl <| .on rfl <| .step (v := i64 e1.kind) (h' := h) (aq c1 2 rfl) <| .on rfl <| .step (v := .ptr j2 2) (h' := h) rfl <| .on rfl <| .step (v := i64 e2.kind) (h' := h) (aq c2 2 rfl) <| .on rfl <| .step (v := .bool true) (h' := h) q2 <| .step (v := .bool true) (h' := h) rfl <| .step (v := .bool true) (h' := h) rfl <| .on rfl <| .step (v := .ptr j1 3) (h' := h) rfl <| .on rfl <| .step (v := bz e1.name) (h' := h) (aq c1 3 rfl) <| .on rfl <| .step (v := .ptr j2 3) (h' := h) rfl <| .on rfl <| .step (v := bz e2.name) (h' := h) (aq c2 3 rfl) <| .on rfl <| .step (v := .bool true) (h' := h) q3 <| .step (v := .bool true) (h' := h) rfl <| .step (v := .bool true) (h' := h) rfl <| .on rfl <| .step (v := .ptr j1 4) (h' := h) rfl <| .on rfl <| .step (v := bz e1.text) (h' := h) (aq c1 4 rfl) <| .on rfl <| .step (v := .ptr j2 4) (h' := h) rfl <| .on rfl <| .step (v := bz e2.text) (h' := h) (aq c2 4 rfl) <| .on rfl <| .step (v := .bool true) (h' := h) q4 <| .step (v := .bool true) (h' := h) rfl <| .step (v := .bool true) (h' := h) rfl <| .on rfl <| .step (v := .ptr j1 5) (h' := h) rfl <| .on rfl <| .step (v := x1) (h' := h) (aq c1 5 rfl) <| .on rfl <| .step (v := .ptr j2 5) (h' := h) rfl <| .on rfl <| .step (v := x2) (h' := h) (aq c2 5 rfl) <| .on rfl <| .call (v := .bool false) (h' := h) q5 <| .step (v := .bool false) (h' := h) rfl <| .step (v := .bool false) (h' := h) rfl <| .off rfl <| .off rfl <| .off rfl <| .off rfl <| .off rfl <| .step (v := .bool false) (h' := h) rfl <| .step (v := .bool false) (h' := h) rfl <| .nil, by rw [decide_eq_false fun g => g5 (by rw [g])]; rfl⟩
 rw [decide_eq_true g5] at q5
 have q6 := v6
 by_cases g6 : e1.changes = e2.changes
 case neg =>
  rw [decide_eq_false g6] at q6
  exact ⟨_, .step (v := .ptr j1 0) (h' := h) rfl <| .step (v := i64 e1.aA) (h' := h) (aZ c1 rfl) <| .step (v := .ptr j2 0) (h' := h) rfl <| .step (v := i64 e2.aA) (h' := h) (aZ c2 rfl) <| .step (v := .bool true) (h' := h) q0 <| .step (v := .bool true) (h' := h) rfl <| .on rfl <| .step (v := .ptr j1 1) (h' := h) rfl <| .on rfl <| .step (v := i64 e1.seq) (h' := h) (aq c1 1 rfl) <| .on rfl <| .step (v := .ptr j2 1) (h' := h) rfl <| .on rfl <| .step (v := i64 e2.seq) (h' := h) (aq c2 1 rfl) <| .on rfl <| .step (v := .bool true) (h' := h) q1 <| .step (v := .bool true) (h' := h) rfl <| .step (v := .bool true) (h' := h) rfl <| .on rfl <| .step (v := .ptr j1 2) (h' := h) rfl <| .on rfl <| .step (v := i64 e1.kind) (h' := h) (aq c1 2 rfl) <| .on rfl <| .step (v := .ptr j2 2) (h' := h) rfl <| .on rfl <| .step (v := i64 e2.kind) (h' := h) (aq c2 2 rfl) <| .on rfl <| .step (v := .bool true) (h' := h) q2 <| .step (v := .bool true) (h' := h) rfl <| .step (v := .bool true) (h' := h) rfl <| .on rfl <| .step (v := .ptr j1 3) (h' := h) rfl <| .on rfl <| .step (v := bz e1.name) (h' := h) (aq c1 3 rfl) <| .on rfl <| .step (v := .ptr j2 3) (h' := h) rfl <| .on rfl <| .step (v := bz e2.name) (h' := h) (aq c2 3 rfl) <| .on rfl <| .step (v := .bool true) (h' := h) q3 <| .step (v := .bool true) (h' := h) rfl <| .step (v := .bool true) (h' := h) rfl <| .on rfl <| .step (v := .ptr j1 4) (h' := h) rfl <| .on rfl <| .step (v := bz e1.text) (h' := h) (aq c1 4 rfl) <| .on rfl <| .step (v := .ptr j2 4) (h' := h) rfl <| .on rfl <| .step (v := bz e2.text) (h' := h) (aq c2 4 rfl) <| .on rfl <| .step (v := .bool true) (h' := h) q4 <| .step (v := .bool true) (h' := h) rfl <| .step (v := .bool true) (h' := h) rfl <| .on rfl <| .step (v := .ptr j1 5) (h' := h) rfl <| .on rfl <| .step (v := x1) (h' := h) (aq c1 5 rfl) <| .on rfl <| .step (v := .ptr j2 5) (h' := h) rfl <| .on rfl <| .step (v := x2) (h' := h) (aq c2 5 rfl) <| .on rfl <| .call (v := .bool true) (h' := h) q5 <| .step (v := .bool true) (h' := h) rfl <| .step (v := .bool true) (h' := h) rfl <| .on rfl <| .step (v := .ptr j1 6) (h' := h) rfl <| .on rfl <| .step (v := y1) (h' := h) (aq c1 6 rfl) <| .on rfl <| .step (v := .ptr j2 6) (h' := h) rfl <| .on rfl <| .step (v := y2) (h' := h) (aq c2 6 rfl) <| .on rfl <| .call (v := .bool false) (h' := h) q6 <| .step (v := .bool false) (h' := h) rfl <| .step (v := .bool false) (h' := h) rfl <| .nil, by rw [decide_eq_false fun g => g6 (by rw [g])]; rfl⟩
 rw [decide_eq_true g6] at q6
 exact ⟨_, .step (v := .ptr j1 0) (h' := h) rfl <| .step (v := i64 e1.aA) (h' := h) (aZ c1 rfl) <| .step (v := .ptr j2 0) (h' := h) rfl <| .step (v := i64 e2.aA) (h' := h) (aZ c2 rfl) <| .step (v := .bool true) (h' := h) q0 <| .step (v := .bool true) (h' := h) rfl <| .on rfl <| .step (v := .ptr j1 1) (h' := h) rfl <| .on rfl <| .step (v := i64 e1.seq) (h' := h) (aq c1 1 rfl) <| .on rfl <| .step (v := .ptr j2 1) (h' := h) rfl <| .on rfl <| .step (v := i64 e2.seq) (h' := h) (aq c2 1 rfl) <| .on rfl <| .step (v := .bool true) (h' := h) q1 <| .step (v := .bool true) (h' := h) rfl <| .step (v := .bool true) (h' := h) rfl <| .on rfl <| .step (v := .ptr j1 2) (h' := h) rfl <| .on rfl <| .step (v := i64 e1.kind) (h' := h) (aq c1 2 rfl) <| .on rfl <| .step (v := .ptr j2 2) (h' := h) rfl <| .on rfl <| .step (v := i64 e2.kind) (h' := h) (aq c2 2 rfl) <| .on rfl <| .step (v := .bool true) (h' := h) q2 <| .step (v := .bool true) (h' := h) rfl <| .step (v := .bool true) (h' := h) rfl <| .on rfl <| .step (v := .ptr j1 3) (h' := h) rfl <| .on rfl <| .step (v := bz e1.name) (h' := h) (aq c1 3 rfl) <| .on rfl <| .step (v := .ptr j2 3) (h' := h) rfl <| .on rfl <| .step (v := bz e2.name) (h' := h) (aq c2 3 rfl) <| .on rfl <| .step (v := .bool true) (h' := h) q3 <| .step (v := .bool true) (h' := h) rfl <| .step (v := .bool true) (h' := h) rfl <| .on rfl <| .step (v := .ptr j1 4) (h' := h) rfl <| .on rfl <| .step (v := bz e1.text) (h' := h) (aq c1 4 rfl) <| .on rfl <| .step (v := .ptr j2 4) (h' := h) rfl <| .on rfl <| .step (v := bz e2.text) (h' := h) (aq c2 4 rfl) <| .on rfl <| .step (v := .bool true) (h' := h) q4 <| .step (v := .bool true) (h' := h) rfl <| .step (v := .bool true) (h' := h) rfl <| .on rfl <| .step (v := .ptr j1 5) (h' := h) rfl <| .on rfl <| .step (v := x1) (h' := h) (aq c1 5 rfl) <| .on rfl <| .step (v := .ptr j2 5) (h' := h) rfl <| .on rfl <| .step (v := x2) (h' := h) (aq c2 5 rfl) <| .on rfl <| .call (v := .bool true) (h' := h) q5 <| .step (v := .bool true) (h' := h) rfl <| .step (v := .bool true) (h' := h) rfl <| .on rfl <| .step (v := .ptr j1 6) (h' := h) rfl <| .on rfl <| .step (v := y1) (h' := h) (aq c1 6 rfl) <| .on rfl <| .step (v := .ptr j2 6) (h' := h) rfl <| .on rfl <| .step (v := y2) (h' := h) (aq c2 6 rfl) <| .on rfl <| .call (v := .bool true) (h' := h) q6 <| .step (v := .bool true) (h' := h) rfl <| .step (v := .bool true) (h' := h) rfl <| .nil, by rw [decide_eq_true (show e1 = e2 by cases e1; cases e2; simp_all)]; rfl⟩
theorem Nk (T : vf p) {l1 l2 : List AV} {e1 e2 : oI} (W : Wf h) (a : vZ h l1 e1) (b : vZ h l2 e2) {B : Nat} (bd : uw B e1) (hB : B < 9223372036854775807) : ∃ h', Cv p 44 [.agg l1, .agg l2] h (.bool (decide (e1 = e2))) h' ∧ Old h h' ∧ Wf h' := by
 obtain ⟨x1, y1, rfl, r1, r2⟩ := a
 obtain ⟨x2, y2, rfl, r3, r4⟩ := b
 obtain ⟨j1, h1, f1, f2, f3, f4, f5, _⟩ := mj (el := 26) (l := cX x1 y1 e1) W (by simp [cX])
 obtain ⟨j2, h2, g1, g2, g3, g4, g5, _⟩ := mj (el := 26) (l := cX x2 y2 e2) f5 (by simp [cX])
 have O := f4.trans g4
 obtain ⟨r', o1, o2⟩ := Ko (p := p) T ((Ob.c0 f3).old g4) (Ob.c0 g3) (aQ.up r1 O) (aQ.up r3 O) (bE.up r2 O) (bE.up r4 O) bd hB
 refine ⟨h2, .of (r' := r') (h1 := h2) T.e67 (by simp) (.dP (r' := T1 (.ptr j1 0) (.ptr j2 0)) (h' := h2) (fun c i K => ?_) (.seq (.ops o1) .ret)) ?_, O, g5⟩
 ·simp only [k44_0, K2, fR, fS]
  (rw [jU f1, jU g1]; try rfl)
 ·show RV.ok (y4 r') h2 = _
  rw [o2]
theorem Kp (T : vf p) (e40 : ar 25 p.fs = f25) {s1 s2 : lF} (W : Wf h) (c1 : Cs h j1 0 (fQ x1 y1 s1)) (c2 : Cs h j2 0 (fQ x2 y2 s2)) (a1 : aQ h x1 s1.entry.bU) (a2 : aQ h x2 s2.entry.bU) (b1 : bE h y1 s1.entry.changes) (b2 : bE h y2 s2.entry.changes) {B : Nat} (bd : uw B s1.entry) (hB : B < 9223372036854775807) :
  ∃ r' h', Os p (opsL (fst (bh x25))) (T1 (.ptr j1 0) (.ptr j2 0)) h (.nm r' h') ∧ y4 r' = .bool (decide (s1 = s2)) ∧ Old h h' ∧ Wf h' := by
 have M1 := bD (m := 7) (Mw c1) (by simp [cX])
 have M2 := bD (m := 7) (Mw c2) (by simp [cX])
 obtain ⟨h', v5, O', W'⟩ := Nk (p := p) T W (e1 := s1.entry) (e2 := s2.entry) ⟨x1, y1, rfl, a1, b1⟩ ⟨x2, y2, rfl, a2, b2⟩ bd hB
 have q0 := QH (h := h) s1.kind s2.kind
 by_cases g0 : s1.kind = s2.kind
 case neg =>
  rw [decide_eq_false g0] at q0
  exact ⟨_, _, .step (v := .ptr j1 0) (h' := h) rfl <| .step (v := i64 s1.kind) (h' := h) (aZ c1 rfl) <| .step (v := .ptr j2 0) (h' := h) rfl <| .step (v := i64 s2.kind) (h' := h) (aZ c2 rfl) <| .step (v := .bool false) (h' := h) q0 <| .step (v := .bool false) (h' := h) rfl <| .off rfl <| .off rfl <| .off rfl <| .off rfl <| .off rfl <| .step (v := .bool false) (h' := h) rfl <| .step (v := .bool false) (h' := h) rfl <| .off rfl <| .off rfl <| .off rfl <| .off rfl <| .off rfl <| .step (v := .bool false) (h' := h) rfl <| .step (v := .bool false) (h' := h) rfl <| .off rfl <| .off rfl <| .off rfl <| .off rfl <| .off rfl <| .step (v := .bool false) (h' := h) rfl <| .step (v := .bool false) (h' := h) rfl <| .off rfl <| .off rfl <| .off rfl <| .off rfl <| .off rfl <| .step (v := .bool false) (h' := h) rfl <| .step (v := .bool false) (h' := h) rfl <| .off rfl <| .off rfl <| .off rfl <| .off rfl <| .off rfl <| .step (v := .bool false) (h' := h) rfl <| .step (v := .bool false) (h' := h) rfl <| .nil, by rw [decide_eq_false fun g => g0 (by rw [g])]; rfl, .refl h, W⟩
 rw [decide_eq_true g0] at q0
 have q1 := QH (h := h) s1.aA s2.aA
 by_cases g1 : s1.aA = s2.aA
 case neg =>
  rw [decide_eq_false g1] at q1
  exact ⟨_, _, .step (v := .ptr j1 0) (h' := h) rfl <| .step (v := i64 s1.kind) (h' := h) (aZ c1 rfl) <| .step (v := .ptr j2 0) (h' := h) rfl <| .step (v := i64 s2.kind) (h' := h) (aZ c2 rfl) <| .step (v := .bool true) (h' := h) q0 <| .step (v := .bool true) (h' := h) rfl <| .on rfl <| .step (v := .ptr j1 1) (h' := h) rfl <| .on rfl <| .step (v := i64 s1.aA) (h' := h) (aq c1 1 rfl) <| .on rfl <| .step (v := .ptr j2 1) (h' := h) rfl <| .on rfl <| .step (v := i64 s2.aA) (h' := h) (aq c2 1 rfl) <| .on rfl <| .step (v := .bool false) (h' := h) q1 <| .step (v := .bool false) (h' := h) rfl <| .step (v := .bool false) (h' := h) rfl <| .off rfl <| .off rfl <| .off rfl <| .off rfl <| .off rfl <| .step (v := .bool false) (h' := h) rfl <| .step (v := .bool false) (h' := h) rfl <| .off rfl <| .off rfl <| .off rfl <| .off rfl <| .off rfl <| .step (v := .bool false) (h' := h) rfl <| .step (v := .bool false) (h' := h) rfl <| .off rfl <| .off rfl <| .off rfl <| .off rfl <| .off rfl <| .step (v := .bool false) (h' := h) rfl <| .step (v := .bool false) (h' := h) rfl <| .off rfl <| .off rfl <| .off rfl <| .off rfl <| .off rfl <| .step (v := .bool false) (h' := h) rfl <| .step (v := .bool false) (h' := h) rfl <| .nil, by rw [decide_eq_false fun g => g1 (by rw [g])]; rfl, .refl h, W⟩
 rw [decide_eq_true g1] at q1
 have q2 := QH (h := h) s1.node s2.node
 by_cases g2 : s1.node = s2.node
 case neg =>
  rw [decide_eq_false g2] at q2
  exact ⟨_, _, .step (v := .ptr j1 0) (h' := h) rfl <| .step (v := i64 s1.kind) (h' := h) (aZ c1 rfl) <| .step (v := .ptr j2 0) (h' := h) rfl <| .step (v := i64 s2.kind) (h' := h) (aZ c2 rfl) <| .step (v := .bool true) (h' := h) q0 <| .step (v := .bool true) (h' := h) rfl <| .on rfl <| .step (v := .ptr j1 1) (h' := h) rfl <| .on rfl <| .step (v := i64 s1.aA) (h' := h) (aq c1 1 rfl) <| .on rfl <| .step (v := .ptr j2 1) (h' := h) rfl <| .on rfl <| .step (v := i64 s2.aA) (h' := h) (aq c2 1 rfl) <| .on rfl <| .step (v := .bool true) (h' := h) q1 <| .step (v := .bool true) (h' := h) rfl <| .step (v := .bool true) (h' := h) rfl <| .on rfl <| .step (v := .ptr j1 2) (h' := h) rfl <| .on rfl <| .step (v := i64 s1.node) (h' := h) (aq c1 2 rfl) <| .on rfl <| .step (v := .ptr j2 2) (h' := h) rfl <| .on rfl <| .step (v := i64 s2.node) (h' := h) (aq c2 2 rfl) <| .on rfl <| .step (v := .bool false) (h' := h) q2 <| .step (v := .bool false) (h' := h) rfl <| .step (v := .bool false) (h' := h) rfl <| .off rfl <| .off rfl <| .off rfl <| .off rfl <| .off rfl <| .step (v := .bool false) (h' := h) rfl <| .step (v := .bool false) (h' := h) rfl <| .off rfl <| .off rfl <| .off rfl <| .off rfl <| .off rfl <| .step (v := .bool false) (h' := h) rfl <| .step (v := .bool false) (h' := h) rfl <| .off rfl <| .off rfl <| .off rfl <| .off rfl <| .off rfl <| .step (v := .bool false) (h' := h) rfl <| .step (v := .bool false) (h' := h) rfl <| .nil, by rw [decide_eq_false fun g => g2 (by rw [g])]; rfl, .refl h, W⟩
 rw [decide_eq_true g2] at q2
 have q3 := QH (h := h) s1.n s2.n
 by_cases g3 : s1.n = s2.n
 case neg =>
  rw [decide_eq_false g3] at q3
  exact ⟨_, _, .step (v := .ptr j1 0) (h' := h) rfl <| .step (v := i64 s1.kind) (h' := h) (aZ c1 rfl) <| .step (v := .ptr j2 0) (h' := h) rfl <| .step (v := i64 s2.kind) (h' := h) (aZ c2 rfl) <| .step (v := .bool true) (h' := h) q0 <| .step (v := .bool true) (h' := h) rfl <| .on rfl <| .step (v := .ptr j1 1) (h' := h) rfl <| .on rfl <| .step (v := i64 s1.aA) (h' := h) (aq c1 1 rfl) <| .on rfl <| .step (v := .ptr j2 1) (h' := h) rfl <| .on rfl <| .step (v := i64 s2.aA) (h' := h) (aq c2 1 rfl) <| .on rfl <| .step (v := .bool true) (h' := h) q1 <| .step (v := .bool true) (h' := h) rfl <| .step (v := .bool true) (h' := h) rfl <| .on rfl <| .step (v := .ptr j1 2) (h' := h) rfl <| .on rfl <| .step (v := i64 s1.node) (h' := h) (aq c1 2 rfl) <| .on rfl <| .step (v := .ptr j2 2) (h' := h) rfl <| .on rfl <| .step (v := i64 s2.node) (h' := h) (aq c2 2 rfl) <| .on rfl <| .step (v := .bool true) (h' := h) q2 <| .step (v := .bool true) (h' := h) rfl <| .step (v := .bool true) (h' := h) rfl <| .on rfl <| .step (v := .ptr j1 3) (h' := h) rfl <| .on rfl <| .step (v := i64 s1.n) (h' := h) (aq c1 3 rfl) <| .on rfl <| .step (v := .ptr j2 3) (h' := h) rfl <| .on rfl <| .step (v := i64 s2.n) (h' := h) (aq c2 3 rfl) <| .on rfl <| .step (v := .bool false) (h' := h) q3 <| .step (v := .bool false) (h' := h) rfl <| .step (v := .bool false) (h' := h) rfl <| .off rfl <| .off rfl <| .off rfl <| .off rfl <| .off rfl <| .step (v := .bool false) (h' := h) rfl <| .step (v := .bool false) (h' := h) rfl <| .off rfl <| .off rfl <| .off rfl <| .off rfl <| .off rfl <| .step (v := .bool false) (h' := h) rfl <| .step (v := .bool false) (h' := h) rfl <| .nil, by rw [decide_eq_false fun g => g3 (by rw [g])]; rfl, .refl h, W⟩
 rw [decide_eq_true g3] at q3
 have q4 := eqs (h := h) s1.name s2.name
 by_cases g4 : s1.name = s2.name
 case neg =>
  rw [decide_eq_false g4] at q4
  exact ⟨_, _, .step (v := .ptr j1 0) (h' := h) rfl <| .step (v := i64 s1.kind) (h' := h) (aZ c1 rfl) <| .step (v := .ptr j2 0) (h' := h) rfl <| .step (v := i64 s2.kind) (h' := h) (aZ c2 rfl) <| .step (v := .bool true) (h' := h) q0 <| .step (v := .bool true) (h' := h) rfl <| .on rfl <| .step (v := .ptr j1 1) (h' := h) rfl <| .on rfl <| .step (v := i64 s1.aA) (h' := h) (aq c1 1 rfl) <| .on rfl <| .step (v := .ptr j2 1) (h' := h) rfl <| .on rfl <| .step (v := i64 s2.aA) (h' := h) (aq c2 1 rfl) <| .on rfl <| .step (v := .bool true) (h' := h) q1 <| .step (v := .bool true) (h' := h) rfl <| .step (v := .bool true) (h' := h) rfl <| .on rfl <| .step (v := .ptr j1 2) (h' := h) rfl <| .on rfl <| .step (v := i64 s1.node) (h' := h) (aq c1 2 rfl) <| .on rfl <| .step (v := .ptr j2 2) (h' := h) rfl <| .on rfl <| .step (v := i64 s2.node) (h' := h) (aq c2 2 rfl) <| .on rfl <| .step (v := .bool true) (h' := h) q2 <| .step (v := .bool true) (h' := h) rfl <| .step (v := .bool true) (h' := h) rfl <| .on rfl <| .step (v := .ptr j1 3) (h' := h) rfl <| .on rfl <| .step (v := i64 s1.n) (h' := h) (aq c1 3 rfl) <| .on rfl <| .step (v := .ptr j2 3) (h' := h) rfl <| .on rfl <| .step (v := i64 s2.n) (h' := h) (aq c2 3 rfl) <| .on rfl <| .step (v := .bool true) (h' := h) q3 <| .step (v := .bool true) (h' := h) rfl <| .step (v := .bool true) (h' := h) rfl <| .on rfl <| .step (v := .ptr j1 4) (h' := h) rfl <| .on rfl <| .step (v := bz s1.name) (h' := h) (aq c1 4 rfl) <| .on rfl <| .step (v := .ptr j2 4) (h' := h) rfl <| .on rfl <| .step (v := bz s2.name) (h' := h) (aq c2 4 rfl) <| .on rfl <| .step (v := .bool false) (h' := h) q4 <| .step (v := .bool false) (h' := h) rfl <| .step (v := .bool false) (h' := h) rfl <| .off rfl <| .off rfl <| .off rfl <| .off rfl <| .off rfl <| .step (v := .bool false) (h' := h) rfl <| .step (v := .bool false) (h' := h) rfl <| .nil, by rw [decide_eq_false fun g => g4 (by rw [g])]; rfl, .refl h, W⟩
 rw [decide_eq_true g4] at q4
 have q5 := v5
 by_cases g5 : s1.entry = s2.entry
 case neg =>
  rw [decide_eq_false g5] at q5
  exact ⟨_, _, .step (v := .ptr j1 0) (h' := h) rfl <| .step (v := i64 s1.kind) (h' := h) (aZ c1 rfl) <| .step (v := .ptr j2 0) (h' := h) rfl <| .step (v := i64 s2.kind) (h' := h) (aZ c2 rfl) <| .step (v := .bool true) (h' := h) q0 <| .step (v := .bool true) (h' := h) rfl <| .on rfl <| .step (v := .ptr j1 1) (h' := h) rfl <| .on rfl <| .step (v := i64 s1.aA) (h' := h) (aq c1 1 rfl) <| .on rfl <| .step (v := .ptr j2 1) (h' := h) rfl <| .on rfl <| .step (v := i64 s2.aA) (h' := h) (aq c2 1 rfl) <| .on rfl <| .step (v := .bool true) (h' := h) q1 <| .step (v := .bool true) (h' := h) rfl <| .step (v := .bool true) (h' := h) rfl <| .on rfl <| .step (v := .ptr j1 2) (h' := h) rfl <| .on rfl <| .step (v := i64 s1.node) (h' := h) (aq c1 2 rfl) <| .on rfl <| .step (v := .ptr j2 2) (h' := h) rfl <| .on rfl <| .step (v := i64 s2.node) (h' := h) (aq c2 2 rfl) <| .on rfl <| .step (v := .bool true) (h' := h) q2 <| .step (v := .bool true) (h' := h) rfl <| .step (v := .bool true) (h' := h) rfl <| .on rfl <| .step (v := .ptr j1 3) (h' := h) rfl <| .on rfl <| .step (v := i64 s1.n) (h' := h) (aq c1 3 rfl) <| .on rfl <| .step (v := .ptr j2 3) (h' := h) rfl <| .on rfl <| .step (v := i64 s2.n) (h' := h) (aq c2 3 rfl) <| .on rfl <| .step (v := .bool true) (h' := h) q3 <| .step (v := .bool true) (h' := h) rfl <| .step (v := .bool true) (h' := h) rfl <| .on rfl <| .step (v := .ptr j1 4) (h' := h) rfl <| .on rfl <| .step (v := bz s1.name) (h' := h) (aq c1 4 rfl) <| .on rfl <| .step (v := .ptr j2 4) (h' := h) rfl <| .on rfl <| .step (v := bz s2.name) (h' := h) (aq c2 4 rfl) <| .on rfl <| .step (v := .bool true) (h' := h) q4 <| .step (v := .bool true) (h' := h) rfl <| .step (v := .bool true) (h' := h) rfl <| .on rfl <| .step (v := .ptr j1 5) (h' := h) rfl <| .on rfl <| .step (v := .agg (cX x1 y1 s1.entry)) (h' := h) M1 <| .on rfl <| .step (v := .ptr j2 5) (h' := h) rfl <| .on rfl <| .step (v := .agg (cX x2 y2 s2.entry)) (h' := h) M2 <| .on rfl <| .call (v := .bool false) (h' := h') q5 <| .step (v := .bool false) (h' := h') rfl <| .step (v := .bool false) (h' := h') rfl <| .nil, by rw [decide_eq_false fun g => g5 (by rw [g])]; rfl, O', W'⟩
 rw [decide_eq_true g5] at q5
 exact ⟨_, _, .step (v := .ptr j1 0) (h' := h) rfl <| .step (v := i64 s1.kind) (h' := h) (aZ c1 rfl) <| .step (v := .ptr j2 0) (h' := h) rfl <| .step (v := i64 s2.kind) (h' := h) (aZ c2 rfl) <| .step (v := .bool true) (h' := h) q0 <| .step (v := .bool true) (h' := h) rfl <| .on rfl <| .step (v := .ptr j1 1) (h' := h) rfl <| .on rfl <| .step (v := i64 s1.aA) (h' := h) (aq c1 1 rfl) <| .on rfl <| .step (v := .ptr j2 1) (h' := h) rfl <| .on rfl <| .step (v := i64 s2.aA) (h' := h) (aq c2 1 rfl) <| .on rfl <| .step (v := .bool true) (h' := h) q1 <| .step (v := .bool true) (h' := h) rfl <| .step (v := .bool true) (h' := h) rfl <| .on rfl <| .step (v := .ptr j1 2) (h' := h) rfl <| .on rfl <| .step (v := i64 s1.node) (h' := h) (aq c1 2 rfl) <| .on rfl <| .step (v := .ptr j2 2) (h' := h) rfl <| .on rfl <| .step (v := i64 s2.node) (h' := h) (aq c2 2 rfl) <| .on rfl <| .step (v := .bool true) (h' := h) q2 <| .step (v := .bool true) (h' := h) rfl <| .step (v := .bool true) (h' := h) rfl <| .on rfl <| .step (v := .ptr j1 3) (h' := h) rfl <| .on rfl <| .step (v := i64 s1.n) (h' := h) (aq c1 3 rfl) <| .on rfl <| .step (v := .ptr j2 3) (h' := h) rfl <| .on rfl <| .step (v := i64 s2.n) (h' := h) (aq c2 3 rfl) <| .on rfl <| .step (v := .bool true) (h' := h) q3 <| .step (v := .bool true) (h' := h) rfl <| .step (v := .bool true) (h' := h) rfl <| .on rfl <| .step (v := .ptr j1 4) (h' := h) rfl <| .on rfl <| .step (v := bz s1.name) (h' := h) (aq c1 4 rfl) <| .on rfl <| .step (v := .ptr j2 4) (h' := h) rfl <| .on rfl <| .step (v := bz s2.name) (h' := h) (aq c2 4 rfl) <| .on rfl <| .step (v := .bool true) (h' := h) q4 <| .step (v := .bool true) (h' := h) rfl <| .step (v := .bool true) (h' := h) rfl <| .on rfl <| .step (v := .ptr j1 5) (h' := h) rfl <| .on rfl <| .step (v := .agg (cX x1 y1 s1.entry)) (h' := h) M1 <| .on rfl <| .step (v := .ptr j2 5) (h' := h) rfl <| .on rfl <| .step (v := .agg (cX x2 y2 s2.entry)) (h' := h) M2 <| .on rfl <| .call (v := .bool true) (h' := h') q5 <| .step (v := .bool true) (h' := h') rfl <| .step (v := .bool true) (h' := h') rfl <| .nil, by rw [decide_eq_true (show s1 = s2 by cases s1; cases s2; simp_all)]; rfl, O', W'⟩
theorem DV (T : vf p) (e40 : ar 25 p.fs = f25) {l1 l2 : List AV} {s1 s2 : lF} (W : Wf h) (a : dy h l1 s1) (b : dy h l2 s2) {B : Nat} (bd : uw B s1.entry) (hB : B < 9223372036854775807) : ∃ h', Cv p 25 [.agg l1, .agg l2] h (.bool (decide (s1 = s2))) h' ∧ Old h h' ∧ Wf h' := by
 obtain ⟨x1, y1, rfl, r1, r2⟩ := a
 obtain ⟨x2, y2, rfl, r3, r4⟩ := b
 obtain ⟨j1, h1, f1, f2, f3, f4, f5, _⟩ := mj (el := 28) (l := fQ x1 y1 s1) W (by simp [fQ, cX])
 obtain ⟨j2, h2, g1, g2, g3, g4, g5, _⟩ := mj (el := 28) (l := fQ x2 y2 s2) f5 (by simp [fQ, cX])
 have O := f4.trans g4
 obtain ⟨r', h3, o1, o2, o3, o4⟩ := Kp (p := p) T e40 g5 ((Ob.c0 f3).old g4) (Ob.c0 g3) (aQ.up r1 O) (aQ.up r3 O) (bE.up r2 O) (bE.up r4 O) bd hB
 refine ⟨h3, .of (r' := r') (h1 := h3) e40 (by simp) (.dP (r' := T1 (.ptr j1 0) (.ptr j2 0)) (h' := h2) (fun c i K => ?_) (.seq (.ops o1) .ret)) ?_, O.trans o3, o4⟩
 ·simp only [k25_0, K2, fR, fS]
  (rw [jU f1, jU g1]; try rfl)
 ·show RV.ok (y4 r') h3 = _
  rw [o2]
theorem Az (T : vf p) (e40 : ar 25 p.fs = f25) (e14 : ar 9 p.fs = f9) {r1 r2 : List lF} (W : Wf h) (a : bX h x r1) (b : bX h y r2) (hn : r1.length < 9223372036854775807) {B : Nat} (bd : ∀ s, s ∈ r1 → uw B s.entry) (hB : B < 9223372036854775807) :
  ∃ h', (Old h h' ∧ Wf h') ∧ Cv p 9 [x, y] h (.bool (decide (r1 = r2))) h' := by
 obtain ⟨q1, o1, sl1, g1⟩ := cY.sl a
 obtain ⟨q2, o2, sl2, g2⟩ := cY.sl b
 refine xX (p := p) (x := x) (y := y) (as := r1) (bs := r2) e14 (R := fun i => T22 x y (i64 i)) (Re := T15) (Q := fun h' => Old h h' ∧ Wf h') ⟨.refl h, W⟩
  (DU (cY.len a) (cY.len b) fun c i K => by simp only [k9_0, K2, fR, fS]) (fun c i K => by simp only [k9_1, K2, jS, jT]; rfl) (fun c i K h' => rfl)
  (fun hl i h' hi hj Q e => ?_) (fun hl i h' hi hj Q e => ?_) (fun h' Q => ?_)
 ·obtain ⟨O, W'⟩ := Q
  obtain ⟨l, l1, l2, l3⟩ := g1 i hi
  obtain ⟨m, m1, m2, m3⟩ := g2 i hj
  obtain ⟨h2, c, O2, W2⟩ := DV (p := p) T e40 W' (dy.up l3 O) (dy.up m3 O) (bd _ (by simp)) hB
  rw [decide_eq_true e] at c
  refine ⟨h2, ⟨O.trans O2, W2⟩, .to (r' := T22 x y (i64 i)) (h' := h2) (c.mono fun n gg K => ?_) (.aV fun c' i' K => ?_)⟩
  ·simp only [k9_2, K3, iB, iD, iE]
   (rw [bL (cY.len (bX.up a O)), bu, bJ, if_pos (by omega), aC (cG sl1 hi), aC (bD (l2.old O) l1), aC (cG sl2 hj), aC (bD (m2.old O) m1), Ok gg, aC (eY _), Bool.not_true, fK]; try rfl)
  ·simp only [k9_3, K3, iB, iD, iE]
   (rw [dT hi hn]; try rfl)
 ·obtain ⟨O, W'⟩ := Q
  obtain ⟨l, l1, l2, l3⟩ := g1 i hi
  obtain ⟨m, m1, m2, m3⟩ := g2 i hj
  obtain ⟨h2, c, O2, W2⟩ := DV (p := p) T e40 W' (dy.up l3 O) (dy.up m3 O) (bd _ (by simp)) hB
  rw [decide_eq_false e] at c
  refine ⟨h2, ⟨O.trans O2, W2⟩, .ah (c.mono fun n gg => ?_)⟩
  simp only [k9_2, K3, iB, iD, iE]
  (rw [bL (cY.len (bX.up a O)), bu, bJ, if_pos (by omega), aC (cG sl1 hi), aC (bD (l2.old O) l1), aC (cG sl2 hj), aC (bD (m2.old O) m1), Ok gg, aC (eY _), Bool.not_false, fZ]; try rfl)
 ·obtain ⟨O, W'⟩ := Q
  refine .aV fun c i' K => ?_
  simp only [k9_2, K3, iB, iD, iE]
  (rw [bL (cY.len (bX.up a O)), bu, bJ, if_neg (by omega)]; try rfl)
theorem FG (e13 : ar 8 p.fs = f8) (c : Int) (hc : dx c) (n : Nat) (hn : n < 4611686018427387904) : ∃ k : Nat, k ≤ n ∧ Cv p 8 [i64 c, i0, i64 n] h (i64 k) h := by
 have w1 : ∀ K : AV → Hp → RS, Seat.Z (i64 n) i0 h K = K (i64 n) h := fun K => by
  show Seat.Z (i64 n) (i64 0) h K = _
  rw [Dn, np _ (by unfold dx; omega)]
  simp
 have w2 : ∀ K : AV → Hp → RS, Seat.D (i64 n) i1 h K = K (i64 ((n + 1 : Nat) : Int)) h := fun K => by
  show Seat.D (i64 n) (i64 1) h K = _
  rw [nJ, np _ (by unfold dx; omega)]; rfl
 have w3 : CL (i64 c) (i64 ((n + 1 : Nat) : Int)) h = .ok (i64 (c.tmod ((n + 1 : Nat) : Int))) h := by
  have : Gx c (Int.ofNat (n + 1)) = c.tmod (Int.ofNat (n + 1)) := by cases c <;> rfl
  show Lk (.int .i64 (Gx c (Int.ofNat (n + 1)))) h = _
  rw [this]; rfl
 have hb1 : -((n : Int)) ≤ c.tmod ((n + 1 : Nat) : Int) ∧ c.tmod ((n + 1 : Nat) : Int) ≤ n := by
  have a1 := Int.tmod_lt_of_pos c (show (0 : Int) < ((n + 1 : Nat) : Int) by omega)
  have a2 := Int.lt_tmod_of_pos c (show (0 : Int) < ((n + 1 : Nat) : Int) by omega)
  omega
 generalize hg : c.tmod ((n + 1 : Nat) : Int) = g at *
 by_cases hneg : g < 0
 ·refine ⟨(g + (n + 1)).toNat, by omega, .of (r' := T6 (i64 ((g + (n + 1)).toNat : Nat))) (h1 := h) e13 (by simp) (.dP (r' := T40 (i64 (g + (n + 1))) i0) (h' := h) (fun c i K => ?_) (.aV fun c i K => ?_)) rfl⟩
  ·simp only [k8_0, K3, zK, zL, zM]
   have d1 : ∀ K : AV → Hp → RS, Seat.D (i64 g) (i64 n) h K = K (i64 (g + n)) h := fun K => by rw [nJ, np _ (by unfold dx; omega)]
   have d2 : ∀ K : AV → Hp → RS, Seat.Z (i64 (g + n)) i0 h K = K (i64 (g + n)) h := fun K => by
    show Seat.Z (i64 (g + n)) (i64 0) h K = _
    rw [Dn, np _ (by unfold dx; omega)]
    simp
   have d3 : ∀ K : AV → Hp → RS, Seat.D (i64 (g + n)) i1 h K = K (i64 (g + (n + 1))) h := fun K => by
    show Seat.D (i64 (g + n)) (i64 1) h K = _
    rw [nJ, np _ (by unfold dx; omega), Int.add_assoc]
   have y0 : ∀ K : AV → Hp → RS, Seat.Y (i64 g) i0 h K = K (.bool true) h := fun K => by
    show Seat.Y (i64 g) (i64 0) h K = _
    rw [bu, decide_eq_true hneg]
   (rw [w1, w2, aE w3, y0, fZ, d1, d2, d3]; try rfl)
  ·simp only [k8_1, K2, jS, jT]
   have d4 : ∀ K : AV → Hp → RS, Seat.D i0 (i64 (g + (n + 1))) h K = K (i64 ((g + (n + 1)).toNat : Nat)) h := fun K => by
    show Seat.D (i64 0) (i64 (g + (n + 1))) h K = _
    rw [nJ, np _ (by unfold dx; omega), show (0 : Int) + (g + (n + 1)) = (((g + (n + 1)).toNat : Nat) : Int) by omega]
   (rw [d4]; try rfl)
 ·refine ⟨g.toNat, by omega, .of (r' := T6 (i64 (g.toNat : Nat))) (h1 := h) e13 (by simp) (.dP (r' := T40 (i64 g) i0) (h' := h) (fun c i K => ?_) (.aV fun c i K => ?_)) rfl⟩
  ·simp only [k8_0, K3, zK, zL, zM]
   have y0 : ∀ K : AV → Hp → RS, Seat.Y (i64 g) i0 h K = K (.bool false) h := fun K => by
    show Seat.Y (i64 g) (i64 0) h K = _
    rw [bu, decide_eq_false hneg]
   (rw [w1, w2, aE w3, y0, fK]; try rfl)
  ·simp only [k8_1, K2, jS, jT]
   have d4 : ∀ K : AV → Hp → RS, Seat.D i0 (i64 g) h K = K (i64 (g.toNat : Nat)) h := fun K => by
    show Seat.D (i64 0) (i64 g) h K = _
    rw [nJ, np _ (by unfold dx; omega), show (0 : Int) + g = ((g.toNat : Nat) : Int) by omega]
   (rw [d4]; try rfl)
end
open Go.Cod
noncomputable section
variable {p : Pg} {h0 h h' h1 h2 h3 : Hp} {q j k js : P4} {s : Bs} {x y xc xg : AV} {r rr : Rd} {L : List AV}
def Fz (q j : P4) (h h' : Hp) : Prop := ∀ k, k ≠ q → k ≠ j → ag k h ≠ .none → ag k h' = ag k h
theorem Fz.refl (q j : P4) (h : Hp) : Fz q j h h := fun _ _ _ _ => rfl
theorem Fz.trans (a : Fz q j h h1) (b : Fz q j h1 h2) : Fz q j h h2 := fun k hq hj hk => (b k hq hj (by rw [a k hq hj hk]; exact hk)).trans (a k hq hj hk)
theorem Fz.fst (F : Fr q h h') : Fz q j h h' := fun k hq _ hk => F k hq hk
theorem Fz.snd (F : Fr j h h') : Fz q j h h' := fun k _ hj hk => F k hj hk
theorem Fz.of (O : Old h h') : Fz q j h h' := fun k _ _ hk => O k hk
theorem Fz.old (F : Fz q j h h') (O : Old h0 h) (hq : ag q h0 = .none) (hj : ag j h0 = .none) : Old h0 h' := fun k hk => by
 have e := O k hk
 rw [F k (fun g => by rw [g] at hk; exact hk hq) (fun g => by rw [g] at hk; exact hk hj) (by rw [e]; exact hk), e]
theorem Fz.set (F : Fz q j h h') (hk : ag k h = .none) (g : ∀ i, i ≠ k → ag i h1 = ag i h') : Fz q j h h1 := fun i hq hj hn => by
 rw [g i (fun e => by rw [e] at hn; exact hn hk), F i hq hj hn]
theorem Fz.none (F : Fz q j h h') (hq : ag q h' ≠ .none) (hj : ag j h' ≠ .none) (hk : ag k h' = .none) : ag k h = .none := by
 have e1 : k ≠ q := fun e => by rw [e] at hk; exact hq hk
 have e2 : k ≠ j := fun e => by rw [e] at hk; exact hj hk
 cases g : ag k h with
 | none => rfl
 | _ =>
  have := F k e1 e2 (by rw [g]; simp)
  rw [hk, g] at this
  cases this
theorem QI (W : Wf h) (s : Bs) (hl : s.length ≤ 16777216) : ∃ v h', cK (.Rp 5) (bz s) h = .ok v h' ∧ lG h' v s ∧ Old h h' ∧ Wf h' := by
 have e : cK (.Rp 5) (bz s) h = ik 5 false .mark (bc s).length (nQ (bc s)) h (fun i h => .ok (.eR i 0 s.length 1) h) := by
  show mP 5 .mark 1 (s.map UInt8.toNat).length (byteCells (s.map UInt8.toNat)) h = _
  rw [pB, List.length_map]
  have ec : (s.map UInt8.toNat).map (fun b : Nat => AV.int .u8 (b : Int)) = bc s := by simp [bc]
  rw [ec]; rfl
 have hl' : (bc s).length ≤ 16777216 := by rw [cA]; exact hl
 obtain ⟨q, h', e1, e2, e3, e4, e5, _⟩ := wP (el := 5) (ex := false) (fl := .mark) W (bc s) (c := nQ (bc s)) (Gd.of (bc s) hl') (fun k hk => mH (bc s) hl' k hk) (fun i h => .ok (.eR i 0 s.length 1) h)
 exact ⟨_, h', by rw [e, e1], ⟨q, 0, s.length, .inr (.inl rfl), rfl, fun _ => Ob.c0 e3⟩, e4, e5⟩
def sq (s : pC) : lF := ⟨s.kind, s.aA, s.node, s.n, s.name, s.entry⟩
theorem uM (T : pL p) (w : gJ h q r) (o : Ob h js 28 true .plain L) (hL : L.length = 12) (hj : js ≠ q) {n3 : P4} (c3 : Cs h n3 0 [.ptr js 1, .ptr js 2, .ptr js 3]) (n3q : n3 ≠ q) (n3j : n3 ≠ js) {i : Nat} (hi : i < 3) :
  ∃ h2, Wf h2 ∧ Fz q js h h2 ∧ ((small (au r).1 = true ∧ Rn p (.ah rE (.ah uK (.ah wI .skip))) (T41 (.ptr q 0) (.ptr js 0) (.slice n3 0 3 3) (i64 3) (i64 i)) h (.nm (T41 (.ptr q 0) (.ptr js 0) (.slice n3 0 3 3) (i64 3) (i64 (i + 1 : Nat))) h2) ∧ gJ h2 q (au r).2 ∧ Ob h2 js 28 true .plain (L.set (1 + i) (i64 (au r).1)) ∧ Cs h2 n3 0 [.ptr js 1, .ptr js 2, .ptr js 3]) ∨
   (small (au r).1 = false ∧ Rn p (.ah rE (.ah uK (.ah wI .skip))) (T41 (.ptr q 0) (.ptr js 0) (.slice n3 0 3 3) (i64 3) (i64 i)) h (.ret (T27 (.bool false)) h2))) := by
 obtain ⟨h1, c1, w1, F1⟩ := iM T w
 generalize hg : (au r).1 = n at *
 have o1 := F1.ob o hj
 have sl : zB (.slice n3 0 3 3) 1 3 n3 0 := .inl ⟨3, rfl⟩
 have lp : lD (.ptr n3 (0 + i * 1)) h = .ok (.ptr js (1 + i)) h := by
  have := aq c3 i (v := .ptr js (1 + i)) (by
   match i, hi with
   | 0, _ => rfl
   | 1, _ => rfl
   | 2, _ => rfl)
  rw [Nat.mul_one]; exact this
 have t2 : ∀ c i' (K : A2 → Hp → RS), rE c i' K (T41 (.ptr q 0) (.ptr js 0) (.slice n3 0 3 3) (i64 3) (i64 i)) h = K (T41 (.ptr q 0) (.ptr js 0) (.slice n3 0 3 3) (i64 3) (i64 i)) h := fun c i' K => by
  simp only [rE, K5, zy, zz, ug, uh, ui]
  (rw [bu, bJ, if_pos (by omega)]; try rfl)
 cases hs : small n with
 | true =>
  obtain ⟨h2, k1, k2, k3, k4⟩ := dY (k := 1 + i) (v := i64 n) o1 (by omega) rfl
  refine ⟨h2, fT w1.wf o1 k3 k4, (Fz.fst F1).trans (.snd fun j hj _ => k3 j hj), .inl ⟨rfl, .dP t2 (.to (r' := T41 (.ptr q 0) (.ptr js 0) (.slice n3 0 3 3) (i64 3) (i64 i)) (h' := h2) (c1.mono fun m g K => ?_) (.aV fun c i' K => ?_)), w1.fr o1 (by decide) (fun j hj _ => k3 j hj) (fT w1.wf o1 k3 k4), k2, ?_⟩⟩
  ·simp only [uK, K5, zy, zz, ug, uh, ui]
   (rw [fD (cG sl hi), aM lp, aF g]; try rfl)
   show Seat.Y (.int .i64 n) (.int .i64 (.negSucc 2147483647)) h1 _ = _
   (rw [mW, hs, Bool.not_true, fK, dE, dN k1]; try rfl)
  ·simp only [wI, K5, zy, zz, ug, uh, ui]
   (rw [dT (n := 3) hi (by omega)]; try rfl)
  ·exact (c3.eq (F1 n3 n3q c3.ne)).eq (k3 n3 n3j)
 | false =>
  refine ⟨h1, w1.wf, .fst F1, .inr ⟨rfl, .dP t2 (.ah (c1.mono fun m g => ?_))⟩⟩
  simp only [uK, K5, zy, zz, ug, uh, ui]
  (rw [fD (cG sl hi), aM lp, aF g]; try rfl)
  show Seat.Y (.int .i64 n) (.int .i64 (.negSucc 2147483647)) h1 _ = _
  (rw [mW, hs, Bool.not_false, fZ]; try rfl)
theorem Nl {n3 : P4} : Rn p (.ah rE (.ah uK (.ah wI .skip))) (T41 (.ptr q 0) (.ptr js 0) (.slice n3 0 3 3) (i64 3) (i64 (3 : Nat))) h (.ex 0 (T40 (.ptr q 0) (.ptr js 0)) h) := .aV fun c i' K => by
 simp only [rE, K5, zy, zz, ug, uh, ui]
 (rw [bu, bJ, if_neg (by omega)]; try rfl)
structure Oy (p : Pg) : Prop where
 e : Ng p
 e27 : ar 14 p.fs = f14
 e39 : ar 24 p.fs = f24
abbrev Nm (n : Int) : List AV := [i64 n, i0, i0, i0, iS, i0, i0, i0, iS, iS, .ai, .ai]
theorem Nn (T : Oy p) {kk : Nat} (w : gJ h q r) (o : Ob h js 28 true .plain (Nm kk)) :
  ∃ b h', Cv p 24 [.ptr q 0, .ptr js 0] h (.bool b) h' ∧ Wf h' ∧ Fz q js h h' ∧ ((b = true ∧ ∃ st l xc xg, lE kk r = some (st, l) ∧ gJ h' q (some l) ∧ Ob h' js 28 true .plain (fQ xc xg (sq st)) ∧ dA h' xc 70 2 (st.entry.bU.flatMap Jo) (fun j => ag j h = .none) ∧ pM (fun j => ag j h = .none) h' xg st.entry.changes ∧ uw 65535 st.entry) ∨
   (b = false ∧ lE kk r = none)) := by
 have hj : js ≠ q := w.apart o (by decide)
 obtain ⟨n3, h1, a1, a2, a3, a4, a5⟩ := oA (p := p) (j := js) T.e27 w.wf
 have w1 := w.up a3 a4
 have o1 := o.old a3
 have n3q : n3 ≠ q := fun e => w.ne (e ▸ a5)
 have n3j : n3 ≠ js := fun e => o.ne (e ▸ a5)
 have s0 : ∀ c i (K : A2 → Hp → RS), k24_0 c i K (bt [.ptr q 0, .ptr js 0] 0 .nil) h = K (T40 (.ptr q 0) (.ptr js 0)) h := fun c i K => by simp only [k24_0, K2, fR, fS]
 have s1 : Ev fun m => ∀ K : A2 → Hp → RS, k24_1 (aw p (exec p m)) (aG p (exec p m)) K (T40 (.ptr q 0) (.ptr js 0)) h = K (T41 (.ptr q 0) (.ptr js 0) (.slice n3 0 3 3) (i64 3) (i64 (0 : Nat))) h1 := a1.mono fun m g K => by
  simp only [k24_1, K2, jS, jT]
  have sl : zB (.slice n3 0 3 3) 1 3 n3 0 := .inl ⟨3, rfl⟩
  (rw [aF g, bL (gN sl)]; try rfl)
 have no : ∀ hh, (Rn p (.loop (.ah rE (.ah uK (.ah wI .skip)))) (T41 (.ptr q 0) (.ptr js 0) (.slice n3 0 3 3) (i64 3) (i64 (0 : Nat))) h1 (.ret (T27 (.bool false)) hh)) → Cv p 24 [.ptr q 0, .ptr js 0] h (.bool false) hh := fun hh g =>
  .of (r' := T27 (.bool false)) (h1 := hh) T.e39 (by simp) (.dP s0 (.dt (.to s1 (.cT g)))) rfl
 obtain ⟨h2, W2, G2, ⟨m1, k1, w2, o2, c2⟩ | ⟨m1, k1⟩⟩ := uM (p := p) T.e.d w1 o1 rfl hj a2 n3q n3j (i := 0) (by omega)
 case inr =>
  refine ⟨false, h2, no _ (.eJ k1), W2, (Fz.of a3).trans G2, .inr ⟨rfl, ?_⟩⟩
  unfold lE
  simp only [m1, Bool.false_and, Bool.false_eq_true, if_false]
  split <;> rfl
 obtain ⟨h3, W3, G3, ⟨m2, k2, w3, o3, c3⟩ | ⟨m2, k2⟩⟩ := uM (p := p) T.e.d w2 o2 rfl hj c2 n3q n3j (i := 1) (by omega)
 case inr =>
  refine ⟨false, h3, no _ (.loop k1 (.eJ k2)), W3, ((Fz.of a3).trans G2).trans G3, .inr ⟨rfl, ?_⟩⟩
  unfold lE
  simp only [m2, Bool.false_and, Bool.and_false, Bool.false_eq_true, if_false]
  split <;> rfl
 obtain ⟨h4, W4, G4, ⟨m3, k3, w4, o4, c4⟩ | ⟨m3, k3⟩⟩ := uM (p := p) T.e.d w3 o3 rfl hj c3 n3q n3j (i := 2) (by omega)
 case inr =>
  refine ⟨false, h4, no _ (.loop k1 (.loop k2 (.eJ k3))), W4, (((Fz.of a3).trans G2).trans G3).trans G4, .inr ⟨rfl, ?_⟩⟩
  unfold lE
  simp only [m3, Bool.and_false, Bool.false_eq_true, if_false]
  split <;> rfl
 have G14 : Fz q js h h4 := (((Fz.of a3).trans G2).trans G3).trans G4
 generalize hA : au r = A at *
 generalize hB : au A.2 = B at *
 generalize hC : au B.2 = C at *
 have o4 : Ob h4 js 28 true .plain [i64 kk, i64 A.1, i64 B.1, i64 C.1, iS, i0, i0, i0, iS, iS, .ai, .ai] := o4
 -- the name
 obtain ⟨h5, c5, w5, F5⟩ := iO T.e.d w4 255
 generalize hD : aJ 255 C.2 = D at *
 have o5 := F5.ob o4 hj
 obtain ⟨h6, b1, b2, b3, b4⟩ := dY (k := 4) (v := bz D.1) o5 (by simp) rfl
 have b2 : Ob h6 js 28 true .plain [i64 kk, i64 A.1, i64 B.1, i64 C.1, bz D.1, i0, i0, i0, iS, iS, .ai, .ai] := b2
 have w6 := w5.fr o5 (by decide) (fun j hj _ => b3 j hj) (fT w5.wf o5 b3 b4)
 -- the entry
 obtain ⟨h7, c7, w7, F7⟩ := iO T.e.d w6 65535
 have hE0 := Cod.mU 65535 D.2
 generalize hE : aJ 65535 D.2 = E at *
 have o7 := F7.ob b2 hj
 obtain ⟨v8, h8, d1, d2, d3, d4⟩ := QI w7.wf E.1 (by omega)
 obtain ⟨le, h9, n9, c9, O9, W9, D9⟩ := FF (p := p) T.e d4 d2 (by omega)
 have hle : le.length = 7 := by rcases D9 with ⟨e, xc, xg, _, _, rfl, _⟩ | ⟨_, _, rfl⟩ <;> rfl
 have O79 := d3.trans O9
 obtain ⟨j10, h10, e1, e2, e3, e4, e5, _⟩ := iH (el := 26) (n := 7) W9 (c := .k1 (Y7 i0 i0 i0 iS iS .ai .ai)) trivial (by decide)
 obtain ⟨h11, f1, f2, f3, f4⟩ := fE (k := 0) (m := 7) (l' := le) e3 hle (by rw [bM]; omega)
 have f2 : Ob h11 j10 26 true .plain le := by
  have : (bG 7 (.k1 (Y7 i0 i0 i0 iS iS .ai .ai)) 0).take 0 ++ (le ++ (bG 7 (.k1 (Y7 i0 i0 i0 iS iS .ai .ai)) 0).drop (0 + 7)) = le := by
   rw [List.drop_of_length_le (by rw [bM]; omega)]; simp
  rw [← this]; exact f2
 have W11 := fT e5 e3 f3 f4
 have o10 := (o7.old O79).old e4
 have o11 := o10.eq (f3 js (o10.apart e3 (.inl (by decide))))
 obtain ⟨h12, g1, g2, g3, g4⟩ := fE (k := 5) (m := 7) (l' := le) o11 hle (by simp)
 have W12 := fT W11 o11 g3 g4
 have w10 := (w7.up O79 W9).up e4 e5
 have w11 := w10.fr e3 (by decide) (fun j hj _ => f3 j hj) W11
 have w12 := w11.fr o11 (by decide) (fun j hj _ => g3 j hj) W12
 have G7 : Fz q js h h7 := ((G14.trans (.fst F5)).trans (.snd fun j hj _ => b3 j hj)).trans (.fst F7)
 have nj10 : ag j10 h = .none := (G7.trans (.of O79)).none ((w7.up O79 W9).ne) (o7.old O79).ne e2
 have G12 : Fz q js h h12 := (((G7.trans (.of O79)).trans (.of e4)).set nj10 f3).trans (.snd fun j hj _ => g3 j hj)
 have ref := BM (p := p) T.e.d w12
 have s5 : Ev fun m => ∀ K : A2 → Hp → RS, k24_5 (aw p (exec p m)) (aG p (exec p m)) K (T40 (.ptr q 0) (.ptr js 0)) h4 = K (T42 (.ptr q 0) (i64 n9)) h12 := (c5.and (c7.and c9)).mono fun m g K => by
  obtain ⟨z5, z7, z9⟩ := g
  simp only [k24_5, K2, jS, jT]
  have x0 : Seat.ext 0 (.jx [.agg le, i64 n9]) h9 = .ok (.agg le) h9 := rfl
  have x1 : Seat.ext 1 (.jx [.agg le, i64 n9]) h9 = .ok (i64 n9) h9 := rfl
  (rw [aF z5, dE, aD, Nat.zero_add, dN b1, aF z7, aE d1, aF z9, ru x0, ru x1, lx e1, jl f1, fO (bD (m := 7) (Ob.c0 f2) hle), dE, aD, Nat.zero_add, jl g1]; try rfl)
 have fin : ∀ bb, (bb = (!E.2.isNone && decide (n9 = 0))) → Cv p 24 [.ptr q 0, .ptr js 0] h (.bool bb) h12 := fun bb hb => by
  refine .of (r' := T27 (.bool bb)) (h1 := h12) T.e39 (by simp) (.dP s0 (.seq (.to s1 (.bN (.loop k1 (.loop k2 (.loop k3 (.dU Nl)))))) (.to s5 (.ah (ref.mono fun m g => ?_))))) rfl
  simp only [k24_6, K2, t42_0, t42_9]
  have q0 : ∀ K : AV → Hp → RS, Seat.Q (i64 n9) i0 h12 K = K (.bool (decide (n9 = 0))) h12 := fun K => zA _ _ _
  cases hn : E.2.isNone with
  | true =>
   rw [hn] at g hb
   (rw [aF g, aE (eY _), Bool.not_true, Dr, Dr, xG, cq]; try rfl)
   rw [hb]; rfl
  | false =>
   rw [hn] at g hb
   (rewrite [aF g]; (try dsimp only); rewrite [aE (eY _)]; (try dsimp only); rewrite [Bool.not_false]; (try dsimp only); rewrite [EW]; (try dsimp only); rewrite [EW]; (try dsimp only); rewrite [q0]; (try dsimp only); rewrite [uk]; (try dsimp only); rewrite [cq]; (try dsimp only); try rfl)
   rw [hb]; rfl
 have hstp : lE kk r = match dec E.1, E.2 with
  | some e, some l => some (⟨kk, A.1, B.1, C.1, D.1, e⟩, l)
  | _, _ => none := by
  show (match dec (aJ 65535 (aJ 255 (au (au (au r).2).2).2).2).1, (aJ 65535 (aJ 255 (au (au (au r).2).2).2).2).2 with
   | some e, some l => if small (au r).1 && small (au (au r).2).1 && small (au (au (au r).2).2).1 then some ((⟨kk, (au r).1, (au (au r).2).1, (au (au (au r).2).2).1, (aJ 255 (au (au (au r).2).2).2).1, e⟩ : pC), l) else none
   | _, _ => none) = _
  rw [hA, hB, hC, hD, hE, m1, m2, m3]
  rfl
 refine ⟨!E.2.isNone && decide (n9 = 0), h12, fin _ rfl, W12, G12, ?_⟩
 rcases D9 with ⟨e, xc, xg, y1, rfl, rfl, y4, y5, y6⟩ | ⟨y1, rfl, rfl⟩
 ·cases hn : E.2 with
  | none => exact .inr ⟨by simp, by rw [hstp, hn]; cases dec E.1 <;> rfl⟩
  | some l =>
   refine .inl ⟨by simp, ⟨kk, A.1, B.1, C.1, D.1, e⟩, l, xc, xg, by rw [hstp, hn, y1], by rw [hn] at w12; exact w12, ?_, ?_, ?_, y6⟩
   ·exact g2
   ·have kp : ∀ k el fl l', Ob h9 k el false fl l' → ag k h12 = ag k h9 := fun k el fl l' ok => by
     have a := e4 k ok.ne
     have ok' := ok.old e4
     rw [g3 k (((ok'.eq (f3 k (ok'.apart e3 (.inr (by simp))))).apart o11 (.inr (by simp)))), f3 k (ok'.apart e3 (.inr (by simp))), a]
    exact dA.mono (y4.dr fun k fl l' ok => kp k _ fl l' ok) fun k hk => (G7.trans (.of d3)).none ((w7.up d3 d4).ne) (o7.old d3).ne hk
   ·have kp : ∀ k el fl l', Ob h9 k el false fl l' → ag k h12 = ag k h9 := fun k el fl l' ok => by
     have a := e4 k ok.ne
     have ok' := ok.old e4
     rw [g3 k (((ok'.eq (f3 k (ok'.apart e3 (.inr (by simp))))).apart o11 (.inr (by simp)))), f3 k (ok'.apart e3 (.inr (by simp))), a]
    obtain ⟨xs, z1, z2, z3⟩ := y5.dr (h' := h12) fun k el fl l' ok _ => kp k _ fl l' ok
    exact ⟨xs, z1, dA.mono z2 fun k hk => (G7.trans (.of d3)).none ((w7.up d3 d4).ne) (o7.old d3).ne hk, z3⟩
 ·exact .inr ⟨by simp, by rw [hstp, y1]⟩
end
open Go.Cod
set_option maxRecDepth 20000
noncomputable section
variable {p : Pg} {h0 h h' h1 h2 h3 : Hp} {q j k js : P4} {s l : Bs} {x y v d xc xg : AV} {r rr : Rd} {L : List AV}
def UA : AC → AC
 | .scope a => a
 | c => c
def UB : AC → AC
 | .cond _ a _ => a
 | c => c
abbrev A12 : AC := UA (bh x7)
abbrev X12 : AC := bh (bh A12)
abbrev B12 : AC := UB (bh (fst X12))
def lz (b : P4 → Prop) (h : Hp) (x : AV) (ss : List pC) : Prop := ∃ L : List (AV × AV), L.length = ss.length ∧ dA h x 28 12 (List.zipWith (fun z s => fQ z.1 z.2 (sq s)) L ss).flatten b ∧
 ∀ i (h1 : i < L.length) (h2 : i < ss.length), dA h L[i].1 70 2 (ss[i].entry.bU.flatMap Jo) (fun _ => True) ∧ pM (fun _ => True) h L[i].2 ss[i].entry.changes ∧ uw 65535 ss[i].entry
theorem lz.dr {b : P4 → Prop} {ss : List pC} (w : lz b h x ss) (g : ∀ k el fl l, Ob h k el false fl l → ag k h' = ag k h) : lz b h' x ss := by
 obtain ⟨L, e1, e2, e3⟩ := w
 exact ⟨L, e1, e2.dr fun k fl l o => g k _ _ _ o, fun i h1 h2 => ⟨(e3 i h1 h2).1.dr fun k fl l o => g k _ _ _ o, (e3 i h1 h2).2.1.dr fun k el fl l o _ => g k _ _ _ o, (e3 i h1 h2).2.2⟩⟩
theorem pW {b : P4 → Prop} {ss : List pC} (w : lz b h x ss) : bX h x (ss.map sq) := by
 obtain ⟨L, e1, e2, e3⟩ := w
 refine sB (by omega) e2 (by simp [e1]) fun i h1 h2 => ?_
 have hx : i < L.length := by simp [e1] at h1; omega
 have hs : i < ss.length := by omega
 obtain ⟨a, b, _⟩ := e3 i hx hs
 refine ⟨by simp [fQ, cX], L[i].1, L[i].2, by simp, ?_, ?_⟩
 ·simp only [List.getElem_map]
  exact Aw a
 ·simp only [List.getElem_map]
  exact Ax b
theorem Kq {L : List (AV × AV)} {ss : List pC} (hl : L.length = ss.length) (a : AV × AV) (c : pC) : (List.zipWith (fun z s => fQ z.1 z.2 (sq s)) (L ++ [a]) (ss ++ [c])).flatten = (List.zipWith (fun z s => fQ z.1 z.2 (sq s)) L ss).flatten ++ fQ a.1 a.2 (sq c) := by
 rw [List.zipWith_append hl]; simp
theorem Kr {L : List (AV × AV)} {ss : List pC} (hl : L.length = ss.length) : (List.zipWith (fun z s => fQ z.1 z.2 (sq s)) L ss).flatten.length = ss.length * 12 := by
 rw [fH (es := 12) fun i hi => by simp [fQ, cX]]
 simp [hl]
structure Ra (h0 : Hp) (q : P4) (h : Hp) (v : AV) (xs : List pC) (l : Bs) : Prop where
 old : Old h0 h
 rd : gJ h q (some l)
 own : lz (fun j => ag j h0 = .none) h v xs
variable {xs : List pC}
theorem lz.len {b : P4 → Prop} (w : lz b h v xs) : Am.len v h = .ok (i64 xs.length) h := by
 have := cY.len (pW w)
 rwa [List.length_map] at this
theorem Ks {el : Nat} {fl : Fl} {l : List AV} (o : Ob h js el true fl l) (F : Fr js h h') : ∀ k el fl l, Ob h k el false fl l → ag k h' = ag k h := fun k _ _ _ ok => F k (ok.apart o (.inr (by simp))) ok.ne
theorem SI (w : gJ h q r) (F : Fr q h h') : ∀ k el fl l, Ob h k el false fl l → ag k h' = ag k h := by
 obtain ⟨_, _, _, _, _, w0, _⟩ := w
 exact Ks w0.ob F
theorem QJ (e37 : ar 22 p.fs = f22) (I : Ra h0 q h v xs l) : ∃ r', Os p (opsL (dp 2 X12)) (T39 (.ptr q 0) v d) h (.nm r' h) ∧ y3 r' = .ptr q 0 ∧ y4 r' = v ∧ y15 r' = .bool (decide (0 < l.length) && decide (xs.length < 2048)) := by
 have lf : Cv p 22 [.ptr q 0] h (i64 (l.length : Nat)) h := Mp (p := p) e37 I.rd
 have gt : bK .gt (i64 (l.length : Nat)) i0 h = .ok (.bool (decide (0 < l.length))) h := by
  show dj (i64 (l.length : Nat)) (i64 0) h = _
  rw [QZ]
  congr 2
  rw [decide_eq_decide]; omega
 by_cases hl : 0 < l.length
 ·rw [decide_eq_true hl] at gt
  have lt : bK .lt (i64 xs.length) (pi 2048) h = .ok (.bool (decide (xs.length < 2048))) h := by
   show wR (i64 xs.length) (i64 2048) h = _
   rw [ry]
   congr 2
   rw [decide_eq_decide]; omega
  exact ⟨_, .step (v := .ptr q 0) (h' := h) rfl <| .call (v := i64 (l.length : Nat)) (h' := h) lf <| .step (v := .bool true) (h' := h) gt <| .step (v := .bool true) (h' := h) rfl <|
   .on rfl <| .step (v := v) (h' := h) rfl <| .on rfl <| .step (v := i64 xs.length) (h' := h) I.own.len <| .on rfl <| .step (v := .bool (decide (xs.length < 2048))) (h' := h) lt <|
   .step (v := .bool (decide (xs.length < 2048))) (h' := h) rfl <| .nil, rfl, rfl, by rw [decide_eq_true hl]; rfl⟩
 ·rw [decide_eq_false hl] at gt
  exact ⟨_, .step (v := .ptr q 0) (h' := h) rfl <| .call (v := i64 (l.length : Nat)) (h' := h) lf <| .step (v := .bool false) (h' := h) gt <| .step (v := .bool false) (h' := h) rfl <|
   .off rfl <| .off rfl <| .off rfl <| .step (v := .bool false) (h' := h) rfl <| .nil, rfl, rfl, by rw [decide_eq_false hl]; rfl⟩
theorem TJ {n : Nat} {T : List AV} (c : Cs h js 0 (i64 n :: T)) : ∃ r', Os p (opsL (dp 2 (bh B12))) (T39 x v (.ptr js 0)) h (.nm r' h) ∧ y3 r' = x ∧ y4 r' = v ∧ y5 r' = .ptr js 0 ∧ y26 r' = .bool (decide (n < 1 ∨ 9 < n)) := by
 have lt : bK .lt (i64 n) i1 h = .ok (.bool (decide (n < 1))) h := by
  show wR (i64 n) (i64 1) h = _
  rw [ry]
  congr 2
  rw [decide_eq_decide]; omega
 have gt : bK .gt (i64 n) (pi 9) h = .ok (.bool (decide (9 < n))) h := by
  show dj (i64 n) (i64 9) h = _
  rw [QZ]
  congr 2
  rw [decide_eq_decide]; omega
 by_cases hn : n < 1
 ·rw [decide_eq_true hn] at lt
  exact ⟨_, .step (v := .ptr js 0) (h' := h) rfl <| .step (v := i64 n) (h' := h) (aZ c rfl) <| .step (v := .bool true) (h' := h) lt <| .step (v := .bool true) (h' := h) rfl <| .off rfl <| .off rfl <| .off rfl <| .step (v := .bool true) (h' := h) rfl <| .nil, rfl, rfl, rfl, by rw [decide_eq_true (.inl hn)]; rfl⟩
 ·rw [decide_eq_false hn] at lt
  refine ⟨_, .step (v := .ptr js 0) (h' := h) rfl <| .step (v := i64 n) (h' := h) (aZ c rfl) <| .step (v := .bool false) (h' := h) lt <| .step (v := .bool false) (h' := h) rfl <| .on rfl <| .step (v := .ptr js 0) (h' := h) rfl <| .on rfl <| .step (v := i64 n) (h' := h) (aZ c rfl) <|
   .on rfl <| .step (v := .bool (decide (9 < n))) (h' := h) gt <| .step (v := .bool (decide (9 < n))) (h' := h) rfl <| .nil, rfl, rfl, rfl, ?_⟩
  have : decide (n < 1 ∨ 9 < n) = decide (9 < n) := by rw [decide_eq_decide]; omega
  rw [this]; rfl
structure DW (p : Pg) : Prop where
 s : Oy p
 e12 : ar 7 p.fs = f7
 e37 : ar 22 p.fs = f22
theorem Np (T : DW p) {b : UInt8} (I : Ra h0 q h v xs (b :: l)) (hq : ag q h0 = .none) (hx : xs.length < 2048) :
  (b.toNat < 1 ∨ 9 < b.toNat) ∧ (∃ d' h2, Rn p X12 (T39 (.ptr q 0) v d) h (.go 0 (T39 (.ptr q 0) v d') h2) ∧ Ra h0 q h2 v xs l) ∨
  ¬ (b.toNat < 1 ∨ 9 < b.toNat) ∧ ((lE b.toNat (some l) = none ∧ ∃ h2, Rn p X12 (T39 (.ptr q 0) v d) h (.ret (T0 v) h2) ∧ Old h0 h2 ∧ Wf h2 ∧ lz (fun j => ag j h0 = .none) h2 v xs) ∨
   ∃ st l2, lE b.toNat (some l) = some (st, l2) ∧ ∃ v' d' h2, Rn p X12 (T39 (.ptr q 0) v d) h (.go 0 (T39 (.ptr q 0) v' d') h2) ∧ Ra h0 q h2 v' (xs ++ [st]) l2) := by
 obtain ⟨r1, o1, o2, o3, o4⟩ := QJ (p := p) (d := d) T.e37 I
 rw [decide_eq_true (show 0 < (b :: l).length by simp), decide_eq_true hx] at o4
 obtain ⟨h1, c1, w1, F1⟩ := mB T.s.e.d I.rd
 have hb : bQ (some (b :: l)) = (b.toNat, some l) := by
  unfold bQ Cod.get Cod.take
  simp [un]
 rw [hb] at c1 w1
 simp only at c1 w1
 obtain ⟨js, h2, a1, a2, a3, a4, a5, _⟩ := iH (el := 28) (n := 12) w1.wf (c := .k1 (Y12 i0 i0 i0 i0 iS i0 i0 i0 iS iS .ai .ai)) trivial (by decide)
 obtain ⟨h3, b1, b2, b3, b4⟩ := fE (k := 0) (m := 12) (l' := Nm b.toNat) a3 rfl (by rw [bM]; omega)
 have b2 : Ob h3 js 28 true .plain (Nm b.toNat) := b2
 have W3 := fT a5 a3 b3 b4
 have w3 := (w1.up a4 a5).fr a3 (by decide) (fun j hj _ => b3 j hj) W3
 have hjs : ag js h0 = .none := (F1.old I.old hq).none a2
 have G3 : Fz q js h h3 := ((Fz.fst F1).trans (.of a4)).trans (.snd fun j hj _ => b3 j hj)
 have own3 : lz (fun j => ag j h0 = .none) h3 v xs := by
  have w1' := I.own.dr (SI I.rd F1)
  exact (w1'.dr fun k el fl l o => a4 k o.ne).dr (Ks a3 fun j hj _ => b3 j hj)
 obtain ⟨r2, p1, p2, p3, p4, p5⟩ := TJ (p := p) (x := .ptr q 0) (v := v) (n := b.toNat) (T := [i0, i0, i0, iS, i0, i0, i0, iS, iS, .ai, .ai]) (Ob.c0 b2)
 have s2 : Ev fun m => ∀ K : A2 → Hp → RS, k7_2 (aw p (exec p m)) (aG p (exec p m)) K r1 h = K (T39 (.ptr q 0) v (.ptr js 0)) h3 := c1.mono fun m g K => by
  simp only [k7_2, K2, o2, o3]
  have U0 : bl [i0, i0, i0, i0, iS, i0, i0, i0, iS, iS, .ai, .ai] [.mk 0 1 (.c (i64 (b.toNat : Nat)))] h1 = .ok (.agg (Nm b.toNat)) h1 := rfl
  (rw [aF g, rq U0, lx a1, jl b1]; try rfl)
 by_cases hk : b.toNat < 1 ∨ 9 < b.toNat
 ·rw [decide_eq_true hk] at p5
  refine .inl ⟨hk, .ptr js 0, h3, .AQ (.seq (.ops o1) (.AR o4 (.to s2 (.AQ (.seq (.ops p1) (.aV fun c i K => ?_)))))), ⟨G3.old I.old hq hjs, w3, own3⟩⟩
  simp only [k7_3, K4, p2, p3, p4, p5]; rfl
 ·rw [decide_eq_false hk] at p5
  have s3 : Rn p (.ah k7_3 .skip) r2 h3 (.nm (T39 (.ptr q 0) v (.ptr js 0)) h3) := .aV fun c i K => by
   simp only [k7_3, K4, p2, p3, p4, p5]; rfl
  obtain ⟨bb, h4, c4, W4, F4, D4⟩ := Nn (p := p) T.s w3 (kk := b.toNat) b2
  refine .inr ⟨hk, ?_⟩
  have own4 : lz (fun j => ag j h0 = .none) h4 v xs := own3.dr fun k el fl l o => by
   obtain ⟨_, _, _, _, _, w0, _⟩ := w3
   exact F4 k (o.apart w0.ob (.inr (by simp))) (o.apart b2 (.inr (by simp))) o.ne
  have old4 : Old h0 h4 := F4.old (G3.old I.old hq hjs) hq hjs
  rcases D4 with ⟨rfl, st, l2, xc, xg, e1, w4, ob4, oc4, og4, bd4⟩ | ⟨rfl, e1⟩
  ·refine .inr ⟨st, l2, e1, ?_⟩
   obtain ⟨m', h5, u1, u2, u3, u4, u5, u6⟩ := gE (el := 28) (es := 12) (n := 1) (z := [i0, i0, i0, i0, iS, i0, i0, i0, iS, iS, .ai, .ai]) (ps := [.mk 0 12 (.c (.agg (fQ xc xg (sq st))))]) (l := fQ xc xg (sq st)) W4 rfl rfl (by simp [fQ, cX])
   have own5 := own4.dr (h' := h5) fun k el fl l o => u4 k o.ne
   obtain ⟨Ls, z1, z2, z3⟩ := own5
   obtain ⟨v', h6, y1, y2, y3, y4, y5⟩ := sk (m := 1) u5 z2 (by omega) (new := fQ xc xg (sq st)) (by simp [fQ, cX]) (by rw [Kr z1]; simp [fQ, cX]; omega)
   have V : eF 28 12 v (.slice m' 0 1 1) h5 = .ok v' h6 := by
    rw [eT (m := 1) (q := m') (o := 0) (l := fQ xc xg (sq st)) (.inl ⟨_, rfl⟩) (by omega) (fun _ => Ob.c0 u3) (by simp [fQ, cX]) (by omega)]
    exact y1
   have w6 : gJ h6 q (some l2) := (w4.up u4 u5).dr y3 fun k el ex fl l o g => y5 k el ex fl l o (.inl (by rcases g with rfl | rfl <;> decide))
   refine ⟨v', u, h6, .AQ (.seq (.ops o1) (.AR o4 (.to s2 (.seq (.seq (.ops p1) s3) (.ah (c4.mono fun m g => ?_)))))), ⟨fun j hj => ?_, w6, Ls ++ [(xc, xg)], by simp [z1], ?_, fun i a1 a2 => ?_⟩⟩
   ·simp only [k7_4, K3, t39_3, t39_4, t39_5]
    (rw [aF g, aE (eY _), Bool.not_true, fK, fO (bD (m := 12) (Ob.c0 ob4) (by simp [fQ, cX])), aE u1, aE V]; try rfl)
   ·have e := (old4.trans u4) j hj
    rw [y4 j (by rw [e]; exact hj) (fun g => hj g), e]
   ·rw [Kq z1]
    exact dA.mono y2 fun j hj => hj.elim id fun g => (old4.trans u4).none g
   ·have oc6 := (oc4.old fun j _ hj => u4 j hj).dr (h' := h6) fun k fl l o => y5 k _ _ fl l o (.inl (by decide))
    have og6 := (og4.dr (h' := h5) fun k el fl l o _ => u4 k o.ne).dr (h' := h6) fun k el fl l o g => y5 k el _ fl l o (.inl (by rcases g with rfl | rfl <;> decide))
    by_cases hi : i < Ls.length
    ·simp only [List.getElem_append_left hi, List.getElem_append_left (show i < xs.length by omega)]
     obtain ⟨t1, t2, t3⟩ := z3 i hi (by omega)
     exact ⟨t1.dr fun k fl l o => y5 k _ _ fl l o (.inl (by decide)), t2.dr fun k el fl l o g => y5 k el _ fl l o (.inl (by rcases g with rfl | rfl <;> decide)), t3⟩
    ·have hi' : i = Ls.length := by simp at a1; omega
     subst hi'
     have q1 : (Ls ++ [(xc, xg)])[Ls.length]'a1 = (xc, xg) := by simp
     have q2 : (xs ++ [st])[Ls.length]'a2 = st := by
      have := List.getElem_append_right (as := xs) (bs := [st]) (i := Ls.length) (by omega) (h₂ := a2)
      rw [this]; simp
     rw [q1, q2]
     obtain ⟨xs', m1, m2, m3⟩ := og6
     exact ⟨dA.mono oc6 fun _ _ => True.intro, ⟨xs', m1, dA.mono m2 fun _ _ => True.intro, m3⟩, bd4⟩
  ·refine .inl ⟨e1, h4, .dt (.seq (.ops o1) (.AR o4 (.to s2 (.seq (.seq (.ops p1) s3) (.ah (c4.mono fun m g => ?_)))))), old4, W4, own4⟩
   simp only [k7_4, K3, t39_3, t39_4, t39_5]
   (rw [aF g, aE (eY _), Bool.not_false, fZ]; try rfl)
theorem Ch (T : DW p) (hq : ag q h0 = .none) : ∀ (f : Nat) {l : Bs} {h : Hp} {v d : AV} {xs : List pC} {c : AC} {r0 : A2} {hc : Hp}, Ra h0 q h v xs l → xs.length ≤ 2048 → l.length < f → (∀ st, Rn p X12 (T39 (.ptr q 0) v d) h st → Rn p c r0 hc st) →
  ∃ v' h', Rn p (.sat A12 c) r0 hc (.ret (T0 v') h') ∧ Old h0 h' ∧ Wf h' ∧ lz (fun j => ag j h0 = .none) h' v' (xs ++ items f (2048 - xs.length) l)
 | 0, l, h, v, d, xs, c, r0, hc, I, hx, hf, g => by omega
 | f + 1, l, h, v, d, xs, c, r0, hc, I, hx, hf, g => by
  have stop : ∀ r', Os p (opsL (dp 2 X12)) (T39 (.ptr q 0) v d) h (.nm r' h) → y4 r' = v → y15 r' = .bool false → Rn p (.sat A12 c) r0 hc (.ret (T0 v) h) := fun r' o1 o3 o4 =>
   .rP (g _ (.seq (.seq (.ops o1) (.OE o4 .skip)) (.aV fun c i K => by simp only [k7_5, K1, o3])))
  cases l with
  | nil =>
   obtain ⟨r1, o1, o2, o3, o4⟩ := QJ (p := p) (d := d) T.e37 I
   refine ⟨v, h, stop r1 o1 o3 (by rw [o4]; rfl), I.old, I.rd.wf, ?_⟩
   rw [mS, List.append_nil]; exact I.own
  | cons b l =>
   rw [iI]
   by_cases hroom : 2048 - xs.length = 0
   ·obtain ⟨r1, o1, o2, o3, o4⟩ := QJ (p := p) (d := d) T.e37 I
    refine ⟨v, h, stop r1 o1 o3 (by rw [o4, decide_eq_false (show ¬ xs.length < 2048 by omega), Bool.and_false]), I.old, I.rd.wf, ?_⟩
    rw [if_pos hroom, List.append_nil]; exact I.own
   ·rw [if_neg hroom]
    rcases Np (p := p) (d := d) T I hq (by omega) with ⟨hk, d', h2, k, I2⟩ | ⟨hk, ⟨e, h2, k, O2, W2, S2⟩ | ⟨st, l2, e, v', d', h2, k, I2⟩⟩
    ·rw [if_pos hk]
     obtain ⟨v', h', k', r'⟩ := Ch T hq f (c := .seq .skip X12) I2 hx (by simpa using hf) fun st e => .seq .skip e
     exact ⟨v', h', .wN (g _ k) rfl k', r'⟩
    ·rw [if_neg hk, e, vW, List.append_nil]
     exact ⟨v, h2, .rP (g _ k), O2, W2, S2⟩
    ·rw [if_neg hk, e, mR]
     have hlen : l2.length < f := by
      obtain ⟨l0, e0, e1⟩ := zJ e
      cases e0
      simp at hf
      omega
     obtain ⟨v2, h', k', O', W', r'⟩ := Ch T hq f (c := .seq .skip X12) I2 (by simp; omega) hlen fun st e => .seq .skip e
     refine ⟨v2, h', .wN (g _ k) rfl k', O', W', ?_⟩
     rw [List.append_assoc] at r'
     simp only [List.length_append, List.length_singleton] at r'
     rw [show 2048 - xs.length - 1 = 2048 - (xs.length + 1) by omega]
     exact r'
theorem DX (T : DW p) (W : Wf h) (rb : lG h x s) (hl : s.length ≤ 16777216) : ∃ v h', Cv p 7 [x] h v h' ∧ Old h h' ∧ Wf h' ∧ lz (fun j => ag j h = .none) h' v (items (s.length + 1) 2048 s) := by
 obtain ⟨q, h1, c1, w1, nq, O1⟩ := wm T.s.e.d W rb hl
 have I : Ra h q h1 .ai [] s := ⟨O1, w1, [], rfl, .inl ⟨rfl, .inl rfl⟩, fun i h1 => by cases h1⟩
 have s1 : Ev fun m => ∀ K : A2 → Hp → RS, k7_1 (aw p (exec p m)) (aG p (exec p m)) K (T2 x) h = K (T39 (.ptr q 0) .ai u) h1 := c1.mono fun m g K => by
  simp only [k7_1, K1, zx]
  (rw [aF g]; try rfl)
 obtain ⟨v, h', k, O, W', S⟩ := Ch (p := p) T nq (s.length + 1) (c := A12) (r0 := T2 x) (hc := h) (d := u) I (by simp) (by omega) fun st e => .to s1 (.seq .label e)
 refine ⟨v, h', .of (r' := T0 v) (h1 := h') T.e12 (by simp) (.dP (r' := T2 x) (h' := h) (fun c i K => by simp only [k7_0, K1, cP]) (.scope k)) rfl, O, W', ?_⟩
 simpa using S
end
open Go.Cod
noncomputable section
variable {p : Pg} {h hb h' h2 h0 : Hp} {q j : P4} {x y v a b d e f g : AV} {o : Nat}
theorem Cs.app {l m : List AV} (a : Cs h q o l) (b : Cs h q (o + l.length) m) : Cs h q o (l ++ m) := by
 obtain ⟨el, n, ex, fl, c, e, r1, r2⟩ := a
 obtain ⟨el', n', ex', fl', c', e', s1, s2⟩ := b
 rw [e] at e'
 cases e'
 refine ⟨el, n, ex, fl, c, e, by rw [List.length_append]; omega, fun k hk => ?_⟩
 by_cases hkl : k < l.length
 ·rw [List.getElem_append_left hkl, r2 k hkl]
 ·rw [List.getElem_append_right (by omega), ← s2 (k - l.length) (by simp at hk; omega)]
  congr 1; omega
theorem FH {row : List mr} (r : dQ h x row) : ∃ q o, zB x 3 row.length q o ∧ (row.length ≠ 0 → Cs h q o (row.flatMap iW)) := by
 obtain ⟨q, o, sl, g⟩ := cY.sl r
 have g : ∀ i (hi : i < row.length), Cs h q (o + i * 3) (iW row[i]) := fun i hi => by
  obtain ⟨l, _, l2, rfl⟩ := g i hi; exact l2
 refine ⟨q, o, sl, fun hn => ?_⟩
 have key : ∀ k, k < row.length → Cs h q o ((row.take (k + 1)).flatMap iW) := by
  intro k
  induction k with
  | zero =>
   intro hk
   rw [Ot hk]
   simpa using g 0 hk
  | succ k ih =>
   intro hk
   rw [Ot hk]
   refine Cs.app (ih (by omega)) ?_
   rw [gp, List.length_take, Nat.min_eq_left (by omega)]
   exact g (k + 1) hk
 have := key (row.length - 1) (by omega)
 rw [show row.length - 1 + 1 = row.length by omega, List.take_length] at this
 exact this
theorem Nq (W : Wf h) {row : List mr} (r : dQ h x row) (hl : row.length * 3 ≤ 16777216) :
  ∃ g hA l hB, Seat.bs 83 3 0 [] [] h = .ok g hA ∧ eF 83 3 g x hA = .ok l hB ∧ nt hB l row (fun j => ag j h = .none) ∧ Old h hB ∧ Wf hB := by
 obtain ⟨j, h1, f1, f2, f3, f4, f5, f6⟩ := gE (el := 83) (es := 3) (n := 0) (z := []) (ps := []) (l := []) W rfl rfl (by simp)
 obtain ⟨q, o, sl, c⟩ := FH (dQ.up r f4)
 obtain ⟨v, h2, c1, c2, c3, c4⟩ := iG (m := row.length) (es := 3) f5 (x := .slice j 0 0 0) (b := fun _ => False) (el := 83) (l := []) (.inl ⟨rfl, .inr ⟨j, rfl⟩⟩) (by omega) (new := row.flatMap iW) (gp row) (by rw [gp]; simp; omega)
 have O : Old h h2 := fun k hk => by
  have e := f4 k hk
  rw [c4 k (by rw [e]; exact hk) (fun g => g), e]
 refine ⟨_, h1, v, h2, f1, by rw [eT sl (by omega) c (gp row) (by omega)]; exact c1, ?_, O, c3⟩
 rw [List.nil_append] at c2
 rcases c2 with ⟨e, hv⟩ | ⟨q, n, rfl, e2, e3, e4⟩
 ·have := gp row
  rw [e, List.length_nil] at this
  exact .inl ⟨List.length_eq_zero_iff.1 (by omega), hv⟩
 ·have hn : n = row.length := by rw [gp] at e2; omega
  subst hn
  refine .inr ⟨q, [], rfl, by rw [List.append_nil]; exact e3, ?_⟩
  rcases e4 with e4 | e4
  ·exact e4.elim
  ·exact f4.none e4
theorem TK {B : P4 → Prop} {row : List mr} (w : nt h g row B) (hc : 7 < row.length) : ∃ v, fu 3 (.c g) .none (.some (.c (pi 7))) .none .nil h = .ok v h ∧ nt h v (row.take 7) B := by
 rcases w with ⟨rfl, _⟩ | ⟨q, rest, rfl, o, hb⟩
 ·simp at hc
 ·have e : row.flatMap iW ++ rest = (row.take 7).flatMap iW ++ ((row.drop 7).flatMap iW ++ rest) := by
   conv => lhs; rw [← List.take_append_drop 7 row]
   rw [List.flatMap_append, List.append_assoc]
  have hlen : 21 ≤ (row.flatMap iW ++ rest).length := by rw [List.length_append, gp]; omega
  refine ⟨.eR q 0 7 3, ?_, .inr ⟨q, (row.drop 7).flatMap iW ++ rest, by rw [List.length_take, Nat.min_eq_left (by omega)], by rw [← e]; exact o, hb⟩⟩
  obtain ⟨c, e1, e2, e3⟩ := o
  show (Obj.aR (ag q h) (fun _ k _ _ _ => @Bool.rec (fun _ => RV) (.err 45) (.ok (.eR q 0 7 3) h) (Nat.ble 21 k)) (.err 46) : RV) = _
  rw [e1]
  show (@Bool.rec (fun _ => RV) (.err 45) (.ok (.eR q 0 7 3) h) (Nat.ble 21 (row.flatMap iW ++ rest).length)) = _
  rw [Nat.ble_eq_true_of_le hlen]
end
open Go.Cod
noncomputable section
variable {p : Pg} {h hb h' h2 h0 : Hp} {q j : P4} {x y v a b d e f g : AV} {o : Nat}
theorem nt.one {B : P4 → Prop} {row : List mr} (w : nt h g row B) : g.one = true := by
 rcases w with ⟨_, rfl | ⟨q, rfl⟩⟩ | ⟨q, rest, rfl, _⟩ <;> rfl
theorem DY {n i : Nat} {dv : AV} (hl : Am.len x h = .ok (.int .i64 (n : Int)) h) : ∃ r', Os p (opsL (dp 6 (bh x27))) (T23 x (i64 9) dv (i64 i)) h (.nm r' h) ∧ y0 r' = x ∧ y1 r' = i64 9 ∧ y5 r' = dv ∧ y6 r' = i64 i ∧ y18 r' = .bool (decide ((i : Int) < n) && decide ((i : Int) < 9)) := by
 have l1 : bK .lt (i64 i) (i64 n) h = .ok (.bool (decide ((i : Int) < n))) h := ry _ _ _
 have l2 : bK .lt (i64 i) (i64 9) h = .ok (.bool (decide ((i : Int) < 9))) h := ry _ _ _
 cases hc : decide ((i : Int) < n) with
 | true =>
  rw [hc] at l1
  exact ⟨_, .step (v := i64 i) (h' := h) rfl <| .step (v := x) (h' := h) rfl <| .step (v := i64 n) (h' := h) hl <| .step (v := .bool true) (h' := h) l1 <| .step (v := .bool true) (h' := h) rfl <|
   .on rfl <| .step (v := i64 i) (h' := h) rfl <| .on rfl <| .step (v := i64 9) (h' := h) rfl <| .on rfl <| .step (v := .bool (decide ((i : Int) < 9))) (h' := h) l2 <| .step (v := .bool (decide ((i : Int) < 9))) (h' := h) rfl <| .nil, rfl, rfl, rfl, rfl, rfl⟩
 | false =>
  rw [hc] at l1
  exact ⟨_, .step (v := i64 i) (h' := h) rfl <| .step (v := x) (h' := h) rfl <| .step (v := i64 n) (h' := h) hl <| .step (v := .bool false) (h' := h) l1 <| .step (v := .bool false) (h' := h) rfl <|
   .off rfl <| .off rfl <| .off rfl <| .step (v := .bool false) (h' := h) rfl <| .nil, rfl, rfl, rfl, rfl, rfl⟩
theorem gG.mono : ∀ (h1 h2 : Hp) (l : List AV) (a : oH), Old h1 h2 → gG h1 l a → gG h2 l a := fun _ _ _ _ O r => gG.up r O
theorem FI (e24 : ar 26 p.fs = f26) {cs : List oH} {ys : List oH} {i : Nat} {dv : AV} (w : Lb h0 hb h dv 81 3 gG ys) (O0 : Old hb h) (r : bE hb x cs) (hi : i < cs.length) (hr : ∀ c, c ∈ cs → c.row.length ≤ 1048576) (hy : ys.length ≤ 1000) :
  ∃ v' h', Rn p (dp 1 (dp 1 (bh (dp 4 (bh x27))))) (T23 x (i64 9) dv (i64 i)) h (.nm (T23 x (i64 9) v' (i64 i)) h') ∧ Lb h0 hb h' v' 81 3 gG (ys ++ [oy cs[i]]) := by
 obtain ⟨q', o', sl, g⟩ := cY.sl r
 obtain ⟨l, l1, l2, z, rfl, hrow⟩ := g i hi
 obtain ⟨j, h1, c1, c2, c3, c4, c5, _⟩ := vV (el := 81) w.wf sl hi (l2.old O0) l1 (c0 := .k1 (Y3 iS .ai (.bool false))) trivial (by decide)
 have hrl := hr cs[i] (by simp)
 generalize hc : cs[i] = c at *
 -- the name of the table
 have s1 : ∃ h2, (∀ cc i' (K : A2 → Hp → RS), k27_3 cc i' K (T23 x (i64 9) dv (i64 i)) h = K (T24 x (i64 9) dv (i64 i) (.ptr j 0)) h2) ∧ Ob h2 j 81 true .plain [bz (c.table.take 20), z, .bool c.remove] ∧ Old h h2 ∧ Wf h2 := by
  have gt : dj (i64 c.table.length) (pi 20) h1 = .ok (.bool (decide ((20 : Int) < c.table.length))) h1 := fP _ _ _
  by_cases hl : 20 < c.table.length
  ·obtain ⟨h2, a1, a2, a3, a4⟩ := dY (k := 0) (v := bz (c.table.take 20)) c3 (by simp [uZ]) rfl
   refine ⟨h2, fun cc i' K => ?_, a2, fun k hk => ?_, c5.of a4 fun k hk => ?_⟩
   ·simp only [k27_3, K4, vK, vL, uf, vM]
    (rw [c1, aD, aM (aZ (Ob.c0 c3) rfl), gi, cq, aE gt, bJ, if_pos (by omega), aD, aM (aZ (Ob.c0 c3) rfl), aE (DB _ _ (by omega)), aD, dN a1]; try rfl)
   ·rw [a3 k (fun g => by rw [g] at hk; exact hk c2), c4 k hk]
   ·rw [a3 k (fun g => by rw [g] at hk; exact c3.ne hk)]; exact hk
  ·refine ⟨h1, fun cc i' K => ?_, by rw [List.take_of_length_le (by omega)]; exact c3, c4, c5⟩
   simp only [k27_3, K4, vK, vL, uf, vM]
   (rw [c1, aD, aM (aZ (Ob.c0 c3) rfl), gi, cq, aE gt, bJ, if_neg (by omega)]; try rfl)
 obtain ⟨h2, s1, o2, O2, W2⟩ := s1
 -- the row, copied and cut
 have s2 : ∃ v h3, (∀ cc i' (K : A2 → Hp → RS), k27_4 cc i' K (T24 x (i64 9) dv (i64 i) (.ptr j 0)) h2 = K (T25 x (i64 9) dv (i64 i) (.ptr j 0) v) h3) ∧ nt h3 v (c.row.take 7) (fun j => ag j h2 = .none) ∧ Old h2 h3 ∧ Wf h3 := by
  obtain ⟨g0, hA, l0, h3, b1, b2, b3, b4, b5⟩ := Nq W2 (dQ.up hrow (O0.trans O2)) (by omega)
  have gt : dj (i64 c.row.length) (pi 7) h3 = .ok (.bool (decide ((7 : Int) < c.row.length))) h3 := fP _ _ _
  have hz : lD (.ptr j (0 + 1)) hA = .ok z hA := by
   have : Old h2 hA := by
    obtain ⟨j', hA', f1, f2, f3, f4, f5, f6⟩ := gE (el := 83) (es := 3) (n := 0) (z := []) (ps := []) (l := []) W2 rfl rfl (by simp)
    rw [b1] at f1
    cases f1
    exact f4
   exact aq ((Ob.c0 o2).old this) 1 rfl
  by_cases hl : 7 < c.row.length
  ·obtain ⟨v, d1, d2⟩ := TK b3 hl
   refine ⟨v, h3, fun cc i' K => ?_, d2, b4, b5⟩
   simp only [k27_4, K5, t24_0, t24_1, t24_5, t24_6, t24_7]
   (rw [aE b1, aD, aM hz, aE b2, bL (nt.len b3), aE gt, bJ, if_pos (by omega), aE d1]; try rfl)
  ·refine ⟨l0, h3, fun cc i' K => ?_, by rw [List.take_of_length_le (by omega)]; exact b3, b4, b5⟩
   simp only [k27_4, K5, t24_0, t24_1, t24_5, t24_6, t24_7]
   (rw [aE b1, aD, aM hz, aE b2, bL (nt.len b3), aE gt, bJ, if_neg (by omega)]; try rfl)
 obtain ⟨v, h3, s2, w3, O3, W3⟩ := s2
 obtain ⟨h4, s3, w4, O4, N4, W4⟩ := Jy (p := p) (a := x) (b := i64 9) (d := dv) (e := i64 i) (f := .ptr j 0) e24 W3 w3 (by rw [List.length_take]; omega)
 have O24 : Old h2 h4 := fun k hk => by
  have e := O3 k hk
  rw [O4 k (fun g => hk g), e]
 obtain ⟨h5, t1, t2, t3, t4⟩ := dY (k := 1) (v := v) (o2.old O24) (by simp) (nt.one w4)
 have t2 : Ob h5 j 81 true .plain [bz (c.table.take 20), v, .bool c.remove] := t2
 have W5 : Wf h5 := W4.of t4 fun k hk => by
  rw [t3 k (fun g => by rw [g] at hk; exact (o2.old O24).ne hk)]; exact hk
 obtain ⟨m, h6, u1, u2, u3, u4, u5, u6⟩ := gE (el := 81) (es := 3) (n := 1) (z := [iS, .ai, .bool false]) (ps := [.mk 0 3 (.c (.agg [bz (c.table.take 20), v, .bool c.remove]))]) (l := [bz (c.table.take 20), v, .bool c.remove]) W5 rfl rfl (by simp)
 have hj2 : ag j h2 ≠ .none := o2.ne
 have hj : ag j h = .none := c2
 have O5 : Old h h5 := fun k hk => by
  have hkj : k ≠ j := fun g => by rw [g] at hk; exact hk hj
  rw [t3 k hkj, (O2.trans O24) k hk]
 obtain ⟨v', h7, z1, z2, _⟩ := w.app (a := oy c) (l := [bz (c.table.take 20), v, .bool c.remove]) gG.mono (by omega) (O5.trans u4) u5 rfl (fun hr H1 H2 => by
  refine ⟨v, rfl, nt.rd (B := fun j => ag j h2 = .none) (row := (c.row.take 7).map uY) w4 fun k hk hk4 => ?_⟩
  have hk0 : ag k h = .none := O2.none hk
  have hkj : k ≠ j := fun g => by rw [g] at hk; exact hj2 hk
  rw [H2 k hk0, u4 k (by rw [t3 k hkj]; exact hk4), t3 k hkj]) (by omega)
 have s4 : ∀ cc i' (K : A2 → Hp → RS), k27_9 cc i' K (T25 x (i64 9) dv (i64 i) (.ptr j 0) v) h4 = .nm (T23 x (i64 9) v' (i64 i)) h7 := fun cc i' K => by
  simp only [k27_9, K6, t25_0, t25_1, t25_5, t25_6, t25_7, t25_8]
  have M := bD (m := 3) (Ob.c0 t2) rfl
  have V : eF 81 3 dv (.slice m 0 1 1) h6 = .ok v' h7 := by
   rw [eT (m := 1) (q := m) (o := 0) (l := [bz (c.table.take 20), v, .bool c.remove]) (.inl ⟨_, rfl⟩) (by omega) (fun _ => Ob.c0 u3) rfl (by omega)]
   exact z1
  (rw [aD, dN t1, fO M, aE u1, aE V]; try rfl)
 have s5 : ∀ cc i' (K : A2 → Hp → RS), k27_5 cc i' K (T25 x (i64 9) dv (i64 i) (.ptr j 0) v) h3 = K (T26 x (i64 9) dv (i64 i) (.ptr j 0) v i0) h3 := fun cc i' K => by
  simp only [k27_5, K6, t25_0, t25_1, t25_5, t25_6, t25_7, t25_8]
 exact ⟨v', h7, .dP s1 (.dP s2 (.seq (.dP s5 (.bN s3)) (.aV s4))), z2⟩
end
open Go.Cod
noncomputable section
variable {p : Pg} {h hb h' h2 h0 : Hp} {q j : P4} {x y v a b d e f g : AV} {o : Nat}
theorem QK (e24 : ar 26 p.fs = f26) (e25 : ar 27 p.fs = f27) (W : Wf h) (O0 : Old hb h) {cs : List oH} (r : bE hb x cs) (hr : ∀ c, c ∈ cs → c.row.length ≤ 1048576) :
  ∃ v h', Cv p 27 [x, i64 9] h v h' ∧ Lb h hb h' v 81 3 gG ((cs.take 9).map oy) := by
 have hlen : ∀ h', Old h h' → Am.len x h' = .ok (.int .i64 (cs.length : Int)) h' := fun h' O => cY.len (bE.up r (O0.trans O))
 obtain ⟨r', h', ⟨v, rfl, w⟩, k⟩ := IK (p := p) (body := dp 4 (bh x27)) (r := T23 x (i64 9) .ai i0) (h := h) (min cs.length 9)
  (Inv := fun i r h' => ∃ dv, r = T23 x (i64 9) dv (i64 i) ∧ Lb h hb h' dv 81 3 gG ((cs.take i).map oy)) (l := 0) (fun i r h' hi I => by
   obtain ⟨dv, rfl, w⟩ := I
   have hi1 : i < cs.length := by omega
   obtain ⟨r3, o1, o2, o3, o4, o5, o6⟩ := DY (p := p) (i := i) (dv := dv) (hlen h' w.old)
   obtain ⟨v', h5, c1, c2⟩ := FI (p := p) e24 w (O0.trans w.old) r hi1 hr (by simp; omega)
   refine ⟨T23 x (i64 9) v' (i64 (i + 1 : Nat)), h5, .seq (.seq (.ops o1) (.aV (s := .nm (T23 x (i64 9) dv (i64 i)) h') fun c i' K => ?_)) (.seq (.block c1) (.aV fun c i' K => ?_)), v', rfl, ?_⟩
   ·simp only [k27_2, K5, o2, o3, o4, o5, o6]
    rw [decide_eq_true (by omega), decide_eq_true (by omega)]
    rfl
   ·simp only [k27_10, K4, vK, vL, uf, vM]
    (rw [dT (n := 9) (by omega) (by omega)]; try rfl)
   ·rw [List.take_succ_eq_append_getElem hi1, List.map_append]
    exact c2) (fun r h' I => by
   obtain ⟨dv, rfl, w⟩ := I
   obtain ⟨r3, o1, o2, o3, o4, o5, o6⟩ := DY (p := p) (i := min cs.length 9) (dv := dv) (hlen h' w.old)
   refine .AP (.seq (.ops o1) (.aV fun c i' K => ?_))
   simp only [k27_2, K5, o2, o3, o4, o5, o6]
   have : (decide (((min cs.length 9 : Nat) : Int) < (cs.length : Int)) && decide (((min cs.length 9 : Nat) : Int) < 9)) = false := by
    rw [Bool.and_eq_false_iff, decide_eq_false_iff_not, decide_eq_false_iff_not]; omega
   rw [this]; rfl) ⟨.ai, rfl, by simpa using Lb.nil W O0 (.inl rfl)⟩
 have s0 : ∀ c i' (K : A2 → Hp → RS), k27_0 c i' K (bt [x, i64 9] 0 .nil) h = K (T22 x (i64 9) .ai) h := fun c i' K => by
  simp only [k27_0, K2, fR, fS]
 have s1 : ∀ c i' (K : A2 → Hp → RS), k27_1 c i' K (T22 x (i64 9) .ai) h = K (T23 x (i64 9) .ai i0) h := fun c i' K => by
  simp only [k27_1, K3, iB, iD, iE]
 have s2 : ∀ c i' (K : A2 → Hp → RS), k27_11 c i' K (T23 x (i64 9) v (i64 (min cs.length 9 : Nat))) h' = .ret (T27 v) h' := fun c i' K => by
  simp only [k27_11, K1, uf]
 refine ⟨v, h', .of (r' := T27 v) (h1 := h') e25 (by simp) (.dP s0 (.seq (.dP s1 (.bN k)) (.aV s2))) rfl, ?_⟩
 have : cs.take (min cs.length 9) = cs.take 9 := by
  by_cases g : cs.length ≤ 9
  ·rw [Nat.min_eq_left g, List.take_length, List.take_of_length_le g]
  ·rw [Nat.min_eq_right (by omega)]
 rw [this] at w
 exact w
end
open Go.Cod
noncomputable section
variable {p : Pg} {h hb h' h2 h0 : Hp} {q j : P4} {x y v a b d e f g : AV} {o : Nat}
theorem merge {h1 h2 h3 : Hp} (O1 : Old h1 h3) (O2 : Old h2 h3) : ∃ hr, Old h1 hr ∧ Old h2 hr ∧ Old hr h3 ∧ ∀ k, ag k hr ≠ .none → ag k h1 ≠ .none ∨ ag k h2 ≠ .none := by
 classical
 obtain ⟨hr, g⟩ := Dq fun k => if ag k h1 = .none then ag k h2 else ag k h1
 have g1 : ∀ k, ag k h1 ≠ .none → ag k hr = ag k h1 := fun k hk => by rw [g, if_neg hk]
 have g2 : ∀ k, ag k h1 = .none → ag k hr = ag k h2 := fun k hk => by rw [g, if_pos hk]
 refine ⟨hr, g1, fun k hk => ?_, fun k hk => ?_, fun k hk => ?_⟩
 ·by_cases e : ag k h1 = .none
  ·exact g2 k e
  ·rw [g1 k e, ← O1 k e, O2 k hk]
 ·by_cases e : ag k h1 = .none
  ·rw [g2 k e] at hk ⊢; exact O2 k hk
  ·rw [g1 k e]; exact O1 k e
 ·by_cases e : ag k h1 = .none
  ·rw [g2 k e] at hk; exact .inr hk
  ·exact .inl e
theorem TL {cs : List (Bs × Int)} (r : aQ hb x cs) (O : Old hb h) (hc : 8 < cs.length) : ∃ v, fu 2 (.c x) .none (.some (.c (pi 8))) .none .nil h = .ok v h ∧ aQ hb v (cs.take 8) ∧ v.one = true := by
 obtain ⟨q, o, e, g⟩ := r
 have g' : ∀ i (hi : i < (cs.take 8).length), ∃ l, l.length = 2 ∧ Cs hb q (o + i * 2) l ∧ l = [bz (cs.take 8)[i].1, i64 (cs.take 8)[i].2] := fun i hi => by
  obtain ⟨l, a, b, c⟩ := g i (by simp at hi; omega)
  exact ⟨l, a, b, by rw [List.getElem_take]; exact c⟩
 have hl : (cs.take 8).length = 8 := by rw [List.length_take]; omega
 rcases e with ⟨cap, h1, rfl⟩ | rfl | ⟨rfl, rfl⟩
 ·refine ⟨.slice q o 8 cap, ?_, ⟨q, o, .inl ⟨cap, by omega, by rw [hl]⟩, g'⟩, rfl⟩
  obtain ⟨cap, rfl⟩ : ∃ c, cap = c + 1 := ⟨cap - 1, by omega⟩
  show (@Bool.rec (fun _ => RV) (.err 42) (@Bool.rec (fun _ => RV) (.err 42) (.ok (.slice q o 8 (cap + 1)) h) (Nat.ble (cap + 1) (cap + 1))) (Nat.ble 8 (cap + 1))) = _
  rw [Nat.ble_eq_true_of_le (show 8 ≤ cap + 1 by omega), Nat.ble_eq_true_of_le (Nat.le_refl _)]
 ·refine ⟨.eR q o 8 2, ?_, ⟨q, o, .inr (.inl (by rw [hl])), g'⟩, rfl⟩
  obtain ⟨l, l1, l2, _⟩ := g 7 (by omega)
  obtain ⟨el, n, ex, fl, c, e1, e2, e3⟩ := l2.old O
  show (Obj.aR (ag q h) (fun _ k _ _ _ => @Bool.rec (fun _ => RV) (.err 45) (.ok (.eR q o 8 2) h) (Nat.ble (o + 16) k)) (.err 46) : RV) = _
  rw [e1]
  show (@Bool.rec (fun _ => RV) (.err 45) (.ok (.eR q o 8 2) h) (Nat.ble (o + 16) n)) = _
  rw [Nat.ble_eq_true_of_le (by omega)]
 ·simp at hc
theorem Nr (W : Wf h) (O0 : Old hb h) {e : oI} (r1 : aQ hb x e.bU) :
  ∃ j jr x8 ha hc hs, (∀ cc i' (K : A2 → Hp → RS), Av cc i' K (bt [.agg (cX x y e)] 0 .nil) h = K (T9 (.ptr j 0) (.ptr jr 0)) ha) ∧ (∀ cc i' (K : A2 → Hp → RS), Au cc i' K (T9 (.ptr j 0) (.ptr jr 0)) ha = K (T9 (.ptr j 0) (.ptr jr 0)) hc) ∧
   (∀ cc i' (K : A2 → Hp → RS), Ar cc i' K (T9 (.ptr j 0) (.ptr jr 0)) hc = K (T10 (.ptr j 0) (.ptr jr 0) .ai) hs) ∧ ag j h = .none ∧ ag jr h = .none ∧ j ≠ jr ∧ Old h hs ∧ Wf hs ∧
   Ob hs j 26 true .plain [i64 e.aA, i64 e.seq, i64 e.kind, bz (e.name.take 20), bz (e.text.take 700), x8, y] ∧ (∃ z, Ob hs jr 26 true .plain z ∧ z.length = 7) ∧ aQ hb x8 (e.bU.take 8) := by
 obtain ⟨j, h1, f1, f2, f3, f4, f5, f6⟩ := mj (el := 26) (l := cX x y e) W (by simp [cX])
 obtain ⟨jr, h2, g1, g2, g3, g4, g5, g6⟩ := iH (el := 26) (n := 7) f5 (c := .k1 (Y7 i0 i0 i0 iS iS .ai .ai)) trivial (by decide)
 have hj1 : ag j h1 ≠ .none := f3.ne
 have hne : j ≠ jr := fun e => hj1 (e ▸ g2)
 have hjr : ag jr h = .none := f4.none g2
 have o0 := f3.old g4
 have O2 := f4.trans g4
 have dr : ∀ {ha hb' : Hp}, Old h ha → (∀ k, k ≠ j → ag k hb' = ag k ha) → Old h hb' := fun O g k hk => by
  rw [g k (fun e => by rw [e] at hk; exact hk f2), O k hk]
 -- the name
 have s0 : ∃ ha, (∀ cc i' (K : A2 → Hp → RS), Av cc i' K (bt [.agg (cX x y e)] 0 .nil) h = K (T9 (.ptr j 0) (.ptr jr 0)) ha) ∧ Ob ha j 26 true .plain [i64 e.aA, i64 e.seq, i64 e.kind, bz (e.name.take 20), bz e.text, x, y] ∧ (∀ k, k ≠ j → ag k ha = ag k h2) ∧ Wf ha := by
  have gt : dj (i64 e.name.length) (pi 20) h2 = .ok (.bool (decide ((20 : Int) < e.name.length))) h2 := fP _ _ _
  by_cases hl : 20 < e.name.length
  ·obtain ⟨ha, a1, a2, a3, a4⟩ := dY (k := 3) (v := bz (e.name.take 20)) o0 (by simp [cX]) rfl
   refine ⟨ha, fun cc i' K => ?_, a2, a3, g5.of a4 fun k hk => by rw [a3 k (fun e => by rw [e] at hk; exact o0.ne hk)]; exact hk⟩
   simp only [Av, K1, cP]
   (rw [jU f1, lx g1, aD, aM (aq (Ob.c0 o0) 3 rfl), gi, cq, aE gt, bJ, if_pos (by omega), aD, aM (aq (Ob.c0 o0) 3 rfl), aE (DB _ _ (by omega)), aD, Nat.zero_add, dN a1]; try rfl)
  ·refine ⟨h2, fun cc i' K => ?_, by rw [List.take_of_length_le (by omega)]; exact o0, fun _ _ => rfl, g5⟩
   simp only [Av, K1, cP]
   (rw [jU f1, lx g1, aD, aM (aq (Ob.c0 o0) 3 rfl), gi, cq, aE gt, bJ, if_neg (by omega)]; try rfl)
 obtain ⟨ha, s0, o1, e1, W1⟩ := s0
 have s1 : ∃ hc, (∀ cc i' (K : A2 → Hp → RS), Au cc i' K (T9 (.ptr j 0) (.ptr jr 0)) ha = K (T9 (.ptr j 0) (.ptr jr 0)) hc) ∧ Ob hc j 26 true .plain [i64 e.aA, i64 e.seq, i64 e.kind, bz (e.name.take 20), bz (e.text.take 700), x, y] ∧ (∀ k, k ≠ j → ag k hc = ag k h2) ∧ Wf hc := by
  have gt : dj (i64 e.text.length) (pi 700) ha = .ok (.bool (decide ((700 : Int) < e.text.length))) ha := fP _ _ _
  by_cases hl : 700 < e.text.length
  ·obtain ⟨hc, a1, a2, a3, a4⟩ := dY (k := 4) (v := bz (e.text.take 700)) o1 (by simp) rfl
   refine ⟨hc, fun cc i' K => ?_, a2, fun k hk => by rw [a3 k hk, e1 k hk], W1.of a4 fun k hk => by rw [a3 k (fun e => by rw [e] at hk; exact o1.ne hk)]; exact hk⟩
   simp only [Au, K2, t9_1, t9_2]
   (rw [aD, aM (aq (Ob.c0 o1) 4 rfl), gi, cq, aE gt, bJ, if_pos (by omega), aD, aM (aq (Ob.c0 o1) 4 rfl), aE (DB _ _ (by omega)), aD, Nat.zero_add, dN a1]; try rfl)
  ·refine ⟨ha, fun cc i' K => ?_, by rw [List.take_of_length_le (l := e.text) (by omega)]; exact o1, e1, W1⟩
   simp only [Au, K2, t9_1, t9_2]
   (rw [aD, aM (aq (Ob.c0 o1) 4 rfl), gi, cq, aE gt, bJ, if_neg (by omega)]; try rfl)
 obtain ⟨hc, s1, o2, e2, W2⟩ := s1
 have Oc : Old h hc := dr O2 e2
 have s2 : ∃ x8 hs, (∀ cc i' (K : A2 → Hp → RS), Ar cc i' K (T9 (.ptr j 0) (.ptr jr 0)) hc = K (T10 (.ptr j 0) (.ptr jr 0) .ai) hs) ∧ Ob hs j 26 true .plain [i64 e.aA, i64 e.seq, i64 e.kind, bz (e.name.take 20), bz (e.text.take 700), x8, y] ∧ (∀ k, k ≠ j → ag k hs = ag k h2) ∧ Wf hs ∧ aQ hb x8 (e.bU.take 8) := by
  have gt : dj (i64 e.bU.length) (pi 8) hc = .ok (.bool (decide ((8 : Int) < e.bU.length))) hc := fP _ _ _
  have hlen := cY.len (aQ.up r1 (O0.trans Oc))
  by_cases hl : 8 < e.bU.length
  ·obtain ⟨x8, c1, c2, c3⟩ := TL r1 (O0.trans Oc) hl
   obtain ⟨hs, a1, a2, a3, a4⟩ := dY (k := 5) (v := x8) o2 (by simp) c3
   refine ⟨x8, hs, fun cc i' K => ?_, a2, fun k hk => by rw [a3 k hk, e2 k hk], W2.of a4 fun k hk => by rw [a3 k (fun e => by rw [e] at hk; exact o2.ne hk)]; exact hk, c2⟩
   simp only [Ar, K2, t9_1, t9_2]
   (rw [aD, aM (aq (Ob.c0 o2) 5 rfl), bL hlen, aE gt, bJ, if_pos (by omega), aD, aM (aq (Ob.c0 o2) 5 rfl), aE c1, aD, Nat.zero_add, dN a1]; try rfl)
  ·refine ⟨x, hc, fun cc i' K => ?_, o2, e2, W2, by rw [List.take_of_length_le (by omega)]; exact r1⟩
   simp only [Ar, K2, t9_1, t9_2]
   (rw [aD, aM (aq (Ob.c0 o2) 5 rfl), bL hlen, aE gt, bJ, if_neg (by omega)]; try rfl)
 obtain ⟨x8, hs, s2, o3, e3, W3, r3⟩ := s2
 exact ⟨j, jr, x8, ha, hc, hs, s0, s1, s2, f2, hjr, hne, dr O2 e3, W3, o3, ⟨_, g3.eq (e3 jr (Ne.symm hne)), bM _ _ _⟩, r3⟩
end
open Go.Cod
noncomputable section
variable {p : Pg} {h hb h' h2 h0 : Hp} {q j jr : P4} {x y v a b d e f g : AV} {o : Nat}
def AA (c : Bs × Int) : Bs × Int := (c.1, gX c.2)
def vg (_ : Hp) (l : List AV) (c : Bs × Int) : Prop := l = [bz c.1, i64 c.2]
theorem vg.mono : ∀ (h1 h2 : Hp) (l : List AV) (a : Bs × Int), Old h1 h2 → vg h1 l a → vg h2 l a := fun _ _ _ _ _ e => e
theorem Ci {α : Type} {P : α → Bool} {l : List α} {i : Nat} (hi : i < l.length) (ha : (l.take i).all P = true) (hn : P l[i] = false) : l.takeWhile P = l.take i := by
 conv => lhs; rw [← List.take_append_drop i l]
 rw [List.takeWhile_append_of_pos (by simpa [List.all_eq_true] using ha), List.drop_eq_getElem_cons hi, List.takeWhile_cons, hn]
 simp
theorem FJ {α : Type} {P : α → Bool} {l : List α} (ha : l.all P = true) : l.takeWhile P = l := by
 have := List.takeWhile_append_of_pos (p := P) (l₁ := l) (l₂ := []) (by simpa [List.all_eq_true] using ha)
 simpa using this
theorem AB {cs : List (Bs × Int)} {i : Nat} {dv : AV} {L : List AV} (c : Cs h j 0 L) (hL : L[5]? = some x) (r : aQ hb x cs) (O : Old hb h) :
  ∃ r', Os p (opsL (dp 6 (bh (bh (bh x10))))) (T11 (.ptr j 0) (.ptr jr 0) dv (i64 i)) h (.nm r' h) ∧ y1 r' = .ptr j 0 ∧ y2 r' = .ptr jr 0 ∧ y3 r' = dv ∧ y4 r' = i64 i ∧ y44 r' = .bool (match cs[i]? with | none => false | some c => decide (c.1.length ≤ 20)) := by
 have hlen := cY.len (aQ.up r O)
 have l1 : bK .lt (i64 i) (i64 cs.length) h = .ok (.bool (decide ((i : Int) < cs.length))) h := ry _ _ _
 by_cases hi : i < cs.length
 ·rw [decide_eq_true (by omega)] at l1
  obtain ⟨q, o, sl, g⟩ := cY.sl (aQ.up r O)
  obtain ⟨l, k1, k2, rfl⟩ := g i hi
  have l2 : bK .le (i64 cs[i].1.length) (pi 20) h = .ok (.bool (decide (cs[i].1.length ≤ 20))) h := by
   show Bh (.int .i64 cs[i].1.length) (.int .i64 (.ofNat 20)) h = _
   rw [Dm]
   congr 2
   rw [decide_eq_decide]
   show _ ≤ (20 : Int) ↔ _
   omega
  refine ⟨_, .step (v := i64 i) (h' := h) rfl <| .step (v := .ptr j 5) (h' := h) rfl <| .step (v := x) (h' := h) (aq c 5 hL) <| .step (v := i64 cs.length) (h' := h) hlen <| .step (v := .bool true) (h' := h) l1 <| .step (v := .bool true) (h' := h) rfl <|
   .on rfl <| .step (v := .ptr j 5) (h' := h) rfl <| .on rfl <| .step (v := x) (h' := h) (aq c 5 hL) <| .on rfl <| .step (v := i64 i) (h' := h) rfl <| .on rfl <| .step (v := .ptr q (o + i * 2)) (h' := h) (cG sl hi) <|
   .on rfl <| .step (v := .ptr q (o + i * 2)) (h' := h) rfl <| .on rfl <| .step (v := bz cs[i].1) (h' := h) (aZ k2 rfl) <| .on rfl <| .step (v := i64 cs[i].1.length) (h' := h) (gi _) <| .on rfl <| .step (v := .bool (decide (cs[i].1.length ≤ 20))) (h' := h) l2 <|
   .step (v := .bool (decide (cs[i].1.length ≤ 20))) (h' := h) rfl <| .nil, rfl, rfl, rfl, rfl, ?_⟩
  rw [List.getElem?_eq_getElem hi]; rfl
 ·rw [decide_eq_false (by omega)] at l1
  refine ⟨_, .step (v := i64 i) (h' := h) rfl <| .step (v := .ptr j 5) (h' := h) rfl <| .step (v := x) (h' := h) (aq c 5 hL) <| .step (v := i64 cs.length) (h' := h) hlen <| .step (v := .bool false) (h' := h) l1 <| .step (v := .bool false) (h' := h) rfl <|
   .off rfl <| .off rfl <| .off rfl <| .off rfl <| .off rfl <| .off rfl <| .off rfl <| .off rfl <| .step (v := .bool false) (h' := h) rfl <| .nil, rfl, rfl, rfl, rfl, ?_⟩
  rw [List.getElem?_eq_none (by omega)]; rfl
theorem Ns (e24 : ar 26 p.fs = f26) {cs ys : List (Bs × Int)} {i : Nat} {dv : AV} {L : List AV} (w : Lb h0 hb h dv 70 2 vg ys) (O : Old hb h) (c : Cs h j 0 L) (hL : L[5]? = some x) (r : aQ hb x cs) (hi : i < cs.length) (hy : ys.length ≤ 1000) (hi2 : i < 100) :
  ∃ v' h', Rn p (bh (dp 4 (bh (bh (bh x10))))) (T11 (.ptr j 0) (.ptr jr 0) dv (i64 i)) h (.nm (T11 (.ptr j 0) (.ptr jr 0) v' (i64 (i + 1 : Nat))) h') ∧ Lb h0 hb h' v' 70 2 vg (ys ++ [AA cs[i]]) ∧ ∀ k, ag k h ≠ .none → ag k h0 ≠ .none → ag k h' = ag k h := by
 obtain ⟨q', o', sl, g⟩ := cY.sl r
 obtain ⟨l, l1, l2, rfl⟩ := g i hi
 obtain ⟨m, h1, c1, c2, c3, c4, c5, _⟩ := vV (el := 70) w.wf sl hi (l2.old O) l1 (c0 := .k1 (Y2 iS i0)) trivial (by decide)
 have nr := xK (p := p) (h := h1) e24 cs[i].2
 obtain ⟨h2, a1, a2, a3, a4⟩ := dY (k := 1) (v := i64 (gX cs[i].2)) c3 (by simp) rfl
 have a2 : Ob h2 m 70 true .plain [bz cs[i].1, i64 (gX cs[i].2)] := a2
 have W2 : Wf h2 := c5.of a4 fun k hk => by rw [a3 k (fun e => by rw [e] at hk; exact c3.ne hk)]; exact hk
 have O2 : Old h h2 := fun k hk => by rw [a3 k (fun e => by rw [e] at hk; exact hk c2), c4 k hk]
 obtain ⟨t, h3, u1, u2, u3, u4, u5, u6⟩ := gE (el := 70) (es := 2) (n := 1) (z := [iS, i0]) (ps := [.mk 0 2 (.c (.agg [bz cs[i].1, i64 (gX cs[i].2)]))]) (l := [bz cs[i].1, i64 (gX cs[i].2)]) W2 rfl rfl (by simp)
 obtain ⟨v', h4, z1, z2, _⟩ := w.app (a := AA cs[i]) (l := [bz cs[i].1, i64 (gX cs[i].2)]) vg.mono (by omega) (O2.trans u4) u5 rfl (fun _ _ _ => rfl) (by omega)
 have V : eF 70 2 dv (.slice t 0 1 1) h3 = .ok v' h4 := by
  rw [eT (m := 1) (q := t) (o := 0) (l := [bz cs[i].1, i64 (gX cs[i].2)]) (.inl ⟨_, rfl⟩) (by omega) (fun _ => Ob.c0 u3) rfl (by omega)]
  exact z1
 have M := bD (m := 2) (Ob.c0 a2) rfl
 refine ⟨v', h4, .ah (nr.mono fun n g => ?_), z2, fun k hk hk0 => by rw [z2.old k hk0, w.old k hk0]⟩
 simp only [k10_5, K4, t11_1, t11_2, t11_3, t11_4]
 (rw [aD, aM (aq c 5 hL), c1, aD, aM (aq (Ob.c0 c3) 1 rfl), aF g, aD, Nat.zero_add, dN a1, fO M, aE u1, aE V, dT (n := 100) hi2 (by omega)]; try rfl)
theorem Ku (e24 : ar 26 p.fs = f26) {cs : List (Bs × Int)} {L : List AV} (W : Wf h) (O : Old hb h) (c : Cs h j 0 L) (hL : L[5]? = some x) (r : aQ hb x cs) (hn : cs.length ≤ 8) :
  ∃ dv h' i, Rn p (dp 3 (bh (bh (bh x10)))) (T11 (.ptr j 0) (.ptr jr 0) .ai i0) h (.ex 0 (T11 (.ptr j 0) (.ptr jr 0) dv (i64 i)) h') ∧ Lb h hb h' dv 70 2 vg ((cs.takeWhile fun c => decide (c.1.length ≤ 20)).map AA) := by
 have key : ∃ s, (∃ dv h', ∃ i : Int, s = .ex 0 (T11 (.ptr j 0) (.ptr jr 0) dv (i64 i)) h' ∧ Lb h hb h' dv 70 2 vg ((cs.takeWhile fun c => decide (c.1.length ≤ 20)).map AA)) ∧ Rn p (.loop (dp 4 (bh (bh (bh x10))))) (T11 (.ptr j 0) (.ptr jr 0) .ai i0) h s := by
  refine eU cs.length (Inv := fun i r h' => ∃ dv, r = T11 (.ptr j 0) (.ptr jr 0) dv (i64 i) ∧ Lb h hb h' dv 70 2 vg ((cs.take i).map AA) ∧ (cs.take i).all (fun c => decide (c.1.length ≤ 20)) = true) (fun i r' h' hi I => ?_) (fun r' h' I => ?_) cs.length 0 _ h (by omega) ⟨.ai, rfl, by simpa using Lb.nil W O (.inl rfl), by simp⟩
  ·obtain ⟨dv, rfl, w, ha⟩ := I
   have c' := c.old w.old
   obtain ⟨r3, o1, o2, o3, o4, o5, o6⟩ := AB (p := p) (jr := jr) (i := i) (dv := dv) c' hL r (O.trans w.old)
   rw [List.getElem?_eq_getElem hi] at o6
   cases hs : decide (cs[i].1.length ≤ 20) with
   | true =>
    obtain ⟨v', h5, k1, k2, _⟩ := Ns (p := p) (jr := jr) e24 w (O.trans w.old) c' hL r hi (by simp; omega) (by omega)
    refine .inl ⟨_, h5, .seq (.seq (.ops o1) (.aV (s := .nm (T11 (.ptr j 0) (.ptr jr 0) dv (i64 i)) h') fun cc i' K => ?_)) k1, v', rfl, ?_, by rw [iL hi, ha]; simpa using hs⟩
    ·simp only [k10_4, K5, o2, o3, o4, o5, o6]
     rw [hs]; rfl
    ·rw [List.take_succ_eq_append_getElem hi, List.map_append]; exact k2
   | false =>
    refine .inr ⟨_, ⟨dv, h', i, rfl, by rw [Ci hi ha hs]; exact w⟩, .dU (.AP (.seq (.ops o1) (.aV fun cc i' K => ?_)))⟩
    simp only [k10_4, K5, o2, o3, o4, o5, o6]
    rw [hs]; rfl
  ·obtain ⟨dv, rfl, w, ha⟩ := I
   obtain ⟨r3, o1, o2, o3, o4, o5, o6⟩ := AB (p := p) (jr := jr) (i := cs.length) (dv := dv) (c.old w.old) hL r (O.trans w.old)
   rw [List.getElem?_eq_none (by omega)] at o6
   rw [List.take_length] at ha w
   refine ⟨_, ⟨dv, h', (cs.length : Int), rfl, by rw [FJ ha]; exact w⟩, .dU (.AP (.seq (.ops o1) (.aV fun cc i' K => ?_)))⟩
   simp only [k10_4, K5, o2, o3, o4, o5, o6]
   rfl
 obtain ⟨s, ⟨dv, h', i, rfl, w⟩, k⟩ := key
 exact ⟨dv, h', i, k, w⟩
end
open Go.Cod
noncomputable section
variable {p : Pg} {h hb h' h2 h0 : Hp} {q j jr : P4} {x y v a b d e f g : AV} {o : Nat}
theorem Lb.one {α : Type} {f : Hp → List AV → α → Prop} {xs : List α} {el es : Nat} (w : Lb h hb h' v el es f xs) : v.one = true := by
 obtain ⟨_, _, _, _, _, _, _, ow, _⟩ := w
 exact mV ow
theorem FK (e9 : ar 10 p.fs = f10) (e24 : ar 26 p.fs = f26) (e25 : ar 27 p.fs = f27) (W : Wf h) (O0 : Old hb h) {e : oI} (r1 : aQ hb x e.bU) (r2 : bE hb y e.changes) (hr : ∀ c, c ∈ e.changes → c.row.length ≤ 1048576) :
  ∃ x' y' h' hr, Cv p 10 [.agg (cX x y e)] h (.agg (cX x' y' (bW e))) h' ∧ Old h h' ∧ Wf h' ∧ Old hb hr ∧ Old hr h' ∧ (∀ k, ag k hr ≠ .none → ag k hb ≠ .none ∨ ag k h = .none) ∧ aQ hr x' (bW e).bU ∧ bE hr y' (bW e).changes := by
 obtain ⟨j, jr, x8, ha, hc, hs, s0, s1, s2, nj, njr, hne, Os, Ws, oj, ⟨z, ojr, hz⟩, r8⟩ := Nr (y := y) W O0 r1
 obtain ⟨dv, h1, i, k1, w1⟩ := Ku (p := p) (jr := jr) (x := x8) e24 Ws (O0.trans Os) (Ob.c0 oj) rfl r8 (by rw [List.length_take]; omega)
 have bj : ag j hb = .none := O0.none nj
 have bjr : ag jr hb = .none := O0.none njr
 have oj1 := oj.old w1.old
 have ojr1 := ojr.old w1.old
 obtain ⟨hA, a1, a2, a3, a4⟩ := dY (k := 5) (v := dv) oj1 (by simp) (Lb.one w1)
 have a2 : Ob hA j 26 true .plain [i64 e.aA, i64 e.seq, i64 e.kind, bz (e.name.take 20), bz (e.text.take 700), dv, y] := a2
 have WA : Wf hA := w1.wf.of a4 fun k hk => by rw [a3 k (fun e => by rw [e] at hk; exact oj1.ne hk)]; exact hk
 have OA : Old h hA := fun k hk => by
  have e := (Os.trans w1.old) k hk
  rw [a3 k (fun e => by rw [e] at hk; exact hk nj), e]
 obtain ⟨v2, hB, c1, w2⟩ := QK (p := p) e24 e25 WA (O0.trans OA) r2 hr
 have ojB := a2.old w2.old
 have ojrA : Ob hA jr 26 true .plain z := ojr1.eq (a3 jr (Ne.symm hne))
 have ojrB := ojrA.old w2.old
 obtain ⟨hC, b1, b2, b3, b4⟩ := dY (k := 6) (v := v2) ojB (by simp) (Lb.one w2)
 have b2 : Ob hC j 26 true .plain [i64 e.aA, i64 e.seq, i64 e.kind, bz (e.name.take 20), bz (e.text.take 700), dv, v2] := b2
 have WC : Wf hC := w2.wf.of b4 fun k hk => by rw [b3 k (fun e => by rw [e] at hk; exact ojB.ne hk)]; exact hk
 have ojrC : Ob hC jr 26 true .plain z := ojrB.eq (b3 jr (Ne.symm hne))
 obtain ⟨hD, d1, d2, d3, d4⟩ := fE (k := 0) (m := 7) (l' := [i64 e.aA, i64 e.seq, i64 e.kind, bz (e.name.take 20), bz (e.text.take 700), dv, v2]) ojrC rfl (by omega)
 have WD : Wf hD := WC.of d4 fun k hk => by rw [d3 k (fun e => by rw [e] at hk; exact ojrC.ne hk)]; exact hk
 have d2 : Ob hD jr 26 true .plain (cX dv v2 (bW e)) := by
  have : z.take 0 ++ (cX dv v2 (bW e) ++ z.drop (0 + 7)) = cX dv v2 (bW e) := by
   rw [List.drop_of_length_le (by omega)]; simp
  rw [← this]; exact d2
 obtain ⟨hr1, p1, p2, p3, p4⟩ := Lb.rd w1 vg.mono (by omega)
 obtain ⟨hr2, q1, q2, q3, q4⟩ := Lb.rd w2 gG.mono (by omega)
 have hsj : ag j hs ≠ .none := oj.ne
 have hsr : ag jr hs ≠ .none := ojr.ne
 have P : Old hr1 hD := fun k hk => by
  have n1 : k ≠ j := fun e => by
   rw [e] at hk
   rcases p3 j hk with g | g
   ·exact g bj
   ·exact hsj g
  have n2 : k ≠ jr := fun e => by
   rw [e] at hk
   rcases p3 jr hk with g | g
   ·exact g bjr
   ·exact hsr g
  have e1 := p2 k hk
  have e2 : ag k hA = ag k hr1 := by rw [a3 k n1, e1]
  rw [d3 k n2, b3 k n1, w2.old k (by rw [e2]; exact hk), e2]
 have Q : Old hr2 hD := fun k hk => by
  have n1 : k ≠ j := fun e => by
   rw [e] at hk
   rcases q3 j hk with g | g
   ·exact g bj
   ·exact a2.ne g
  have n2 : k ≠ jr := fun e => by
   rw [e] at hk
   rcases q3 jr hk with g | g
   ·exact g bjr
   ·exact ojrA.ne g
  rw [d3 k n2, b3 k n1, q2 k hk]
 obtain ⟨hr, m1, m2, m3, m4⟩ := merge P Q
 have OD : Old h hD := fun k hk => by
  have e := (OA.trans w2.old) k hk
  rw [d3 k (fun e => by rw [e] at hk; exact hk njr), b3 k (fun e => by rw [e] at hk; exact hk nj), e]
 have s4 : Rn p (.ah k10_6 .skip) (T11 (.ptr j 0) (.ptr jr 0) dv (i64 i)) h1 (.ret (T0 (.ptr jr 0)) hD) := .ah (c1.mono fun m g => by
  have g : aw p (exec p m) 27 [y, pi 9] hA = .ok v2 hB := g
  simp only [k10_6, K3, t11_1, t11_2, t11_3]
  (rw [aD, Nat.zero_add, dN a1, aD, aM (aq (Ob.c0 a2) 6 rfl), aF g, aD, Nat.zero_add, dN b1, fO (bD (m := 7) (Ob.c0 b2) rfl), jl d1]; try rfl))
 have s3 : ∀ cc i' (K : A2 → Hp → RS), k10_3 cc i' K (T10 (.ptr j 0) (.ptr jr 0) .ai) hs = K (T11 (.ptr j 0) (.ptr jr 0) .ai i0) hs := fun cc i' K => by
  simp only [k10_3, K3, t10_1, t10_2, t10_3]
 have rt : rG [.agg 7 .h0 .h2] (T0 (.ptr jr 0)) hD = .ok (.agg (cX dv v2 (bW e))) hD := by
  show (RV.rec (fun v _ => .ok v hD) (fun n => .err n) (Seat.pY 7 (.ptr jr 0) hD) : RV) = _
  rw [bD (m := 7) (Ob.c0 d2) (by simp [cX])]
 refine ⟨dv, v2, hD, hr, .of (r' := T0 (.ptr jr 0)) (h1 := hD) e9 (by simp) (.dP s0 (.dP s1 (.dP s2 (.seq (.dP s3 (.bN k1)) s4)))) rt, OD, WD, p1.trans m1, m3, fun k hk => ?_, ?_, ?_⟩
 ·rcases m4 k hk with g | g
  ·rcases p3 k g with g | g
   ·exact .inl g
   ·exact .inr (Os.none g)
  ·rcases q3 k g with g | g
   ·exact .inl g
   ·exact .inr (OA.none g)
 ·exact cY.up p4 m1 fun _ _ _ e => e
 ·exact cY.up q4 m2 fun _ _ _ e => gG.up e m2
end
open Go.Cod
noncomputable section
variable {p : Pg} {h hb h' h2 h0 : Hp} {q j jr : P4} {x y v a b d e f g : AV} {o : Nat}
structure Nt (p : Pg) : Prop where
 e4 : ar 4 p.fs = f4
 e9 : ar 10 p.fs = f10
 e24 : ar 26 p.fs = f26
 e25 : ar 27 p.fs = f27
theorem FL (T : Nt p) (W : Wf h) (O0 : Old hb h) {l : List AV} {s : lF} (r : dy hb l s) (hr : ∀ c, c ∈ s.entry.changes → c.row.length ≤ 1048576) :
  ∃ x' y' h' hr, Cv p 4 [.agg l] h (.agg (fQ x' y' (en s))) h' ∧ Old h h' ∧ Wf h' ∧ Old hb hr ∧ Old hr h' ∧ (∀ k, ag k hr ≠ .none → ag k hb ≠ .none ∨ ag k h = .none) ∧ aQ hr x' (en s).entry.bU ∧ bE hr y' (en s).entry.changes := by
 obtain ⟨x, y, rfl, r1, r2⟩ := r
 obtain ⟨j, h1, f1, f2, f3, f4', f5, f6⟩ := mj (el := 28) (l := fQ x y s) W (by simp [fQ, cX])
 obtain ⟨jr, h2, g1, g2, g3, g4, g5, g6⟩ := iH (el := 28) (n := 12) f5 (c := .k1 (Y12 i0 i0 i0 i0 iS i0 i0 i0 iS iS .ai .ai)) trivial (by decide)
 have hne : j ≠ jr := fun e => f3.ne (e ▸ g2)
 have njr : ag jr h = .none := f4'.none g2
 have oj2 := f3.old g4
 have O2 := f4'.trans g4
 obtain ⟨x', y', h3, hr, c1, c2, c3, c4, c5, c6, c7, c8⟩ := FK (p := p) (y := y) T.e9 T.e24 T.e25 g5 (O0.trans O2) r1 r2 hr
 have oj3 := oj2.old c2
 have ojr3 := g3.old c2
 obtain ⟨h4, d1, d2, d3, d4⟩ := fE (k := 5) (m := 7) (l' := cX x' y' (bW s.entry)) oj3 (by simp [cX]) (by simp [fQ, cX])
 have d2 : Ob h4 j 28 true .plain (fQ x' y' (en s)) := d2
 have W4 : Wf h4 := c3.of d4 fun k hk => by rw [d3 k (fun e => by rw [e] at hk; exact oj3.ne hk)]; exact hk
 have ojr4 := ojr3.eq (d3 jr (Ne.symm hne))
 obtain ⟨h5, e1, e2, e3, e4⟩ := fE (k := 0) (m := 12) (l' := fQ x' y' (en s)) ojr4 (by simp [fQ, cX]) (by rw [bM]; omega)
 have W5 : Wf h5 := W4.of e4 fun k hk => by rw [e3 k (fun e => by rw [e] at hk; exact ojr4.ne hk)]; exact hk
 have e2 : Ob h5 jr 28 true .plain (fQ x' y' (en s)) := by
  have : (bG 12 (.k1 (Y12 i0 i0 i0 i0 iS i0 i0 i0 iS iS .ai .ai)) 0).take 0 ++ (fQ x' y' (en s) ++ (bG 12 (.k1 (Y12 i0 i0 i0 i0 iS i0 i0 i0 iS iS .ai .ai)) 0).drop (0 + 12)) = fQ x' y' (en s) := by
   rw [List.drop_of_length_le (by rw [bM]; omega)]; simp
  rw [← this]; exact e2
 have M1 := bD (m := 7) (Mw (Ob.c0 oj2)) (by simp [cX])
 have M2 := bD (m := 12) (Ob.c0 d2) (by simp [fQ, cX])
 have rt : rG [.agg 12 .h0 .h2] (T0 (.ptr jr 0)) h5 = .ok (.agg (fQ x' y' (en s))) h5 := by
  show (RV.rec (fun v _ => .ok v h5) (fun n => .err n) (Seat.pY 12 (.ptr jr 0) h5) : RV) = _
  rw [bD (m := 12) (Ob.c0 e2) (by simp [fQ, cX])]
 have nj : ag j h = .none := f2
 have bj : ag j hb = .none := O0.none nj
 have bjr : ag jr hb = .none := O0.none njr
 have ne1 : ∀ k, ag k hr ≠ .none → k ≠ j ∧ k ≠ jr := fun k hk => ⟨fun e => by
   rw [e] at hk
   rcases c6 j hk with g | g
   ·exact g bj
   ·exact oj2.ne g, fun e => by
   rw [e] at hk
   rcases c6 jr hk with g | g
   ·exact g bjr
   ·exact g3.ne g⟩
 refine ⟨x', y', h5, hr, .of (r' := T0 (.ptr jr 0)) (h1 := h5) T.e4 (by simp) (.ah (c1.mono fun m g => ?_)) rt, fun k hk => ?_, W5, c4, fun k hk => ?_, fun k hk => ?_, c7, c8⟩
 ·simp only [k4_0, K1, cP]
  (rw [jU f1, lx g1, aD, Nat.zero_add, fO M1, aF g, aD, Nat.zero_add, jl d1, fO M2, jl e1]; try rfl)
 ·have e := (O2.trans c2) k hk
  rw [e3 k (fun e => by rw [e] at hk; exact hk njr), d3 k (fun e => by rw [e] at hk; exact hk nj), e]
 ·rw [e3 k (ne1 k hk).2, d3 k (ne1 k hk).1, c5 k hk]
 ·rcases c6 k hk with g | g
  ·exact .inl g
  ·exact .inr (O2.none g)
end
open Go.Cod
noncomputable section
variable {p : Pg} {h hb h' h2 h0 : Hp} {q j je : P4} {x y v a b d e f g : AV} {o : Nat}
set_option maxRecDepth 20000 in
set_option maxHeartbeats 1000000 in
end
open Go.Cod
noncomputable section
variable {p : Pg} {h hb h' h2 h0 : Hp} {q j je : P4} {x y v a b d e f g : AV} {o : Nat}
end
open Go.Cod
noncomputable section
variable {p : Pg} {h hb h' h2 h0 : Hp} {q j je : P4} {x y v a b d e f g : AV} {o : Nat}
end
open Go.Cod
noncomputable section
variable {p : Pg} {h hb h' h2 h0 : Hp} {q j je : P4} {x y v a b d e f g : AV} {o : Nat}
theorem dy.mono : ∀ (h1 h2 : Hp) (l : List AV) (a : lF), Old h1 h2 → dy h1 l a → dy h2 l a := fun _ _ _ _ O r => dy.up r O
structure SJ (p : Pg) : Prop where
 b : TE p
 k : Nt p
 e7 : ∀ h, Cv p 6 [] h (.bool true) h
end
open Go.Cod
noncomputable section
variable {p : Pg} {h hb h' h2 h0 : Hp} {q j je : P4} {x y v a b d e f g : AV} {o : Nat}
theorem DZ (k : Int) : dx (gX k) := fF (BG k)
theorem Kv {B : Nat} {e : oI} (b : uw B e) : uw B (bW e) := by
 obtain ⟨b1, b2, b3, b4, b5, b6, b7, b8, b9⟩ := b
 have hsub := (List.takeWhile_sublist (fun c : Bs × Int => decide (c.1.length ≤ 20)) (l := e.bU.take 8))
 refine ⟨b1, b2, b3, ?_, ?_, ?_, ?_, ?_, ?_⟩
 ·simp only [bW, List.length_take]; omega
 ·simp only [bW, List.length_take]; omega
 ·simp only [bW, List.length_map]
  have := hsub.length_le
  rw [List.length_take] at this
  omega
 ·intro c hc
  simp only [bW, List.mem_map] at hc
  obtain ⟨c0, h0, rfl⟩ := hc
  exact ⟨(b7 c0 (List.mem_of_mem_take (hsub.subset h0))).1, DZ _⟩
 ·simp only [bW, List.length_map, List.length_take]; omega
 ·intro c hc
  simp only [bW, List.mem_map] at hc
  obtain ⟨c0, h0, rfl⟩ := hc
  obtain ⟨d1, d2, d3⟩ := b9 c0 (List.mem_of_mem_take h0)
  refine ⟨by simp only [oy, List.length_take]; omega, by simp only [oy, List.length_map, List.length_take]; omega, fun v hv => ?_⟩
  simp only [oy, List.mem_map] at hv
  obtain ⟨v0, h1, rfl⟩ := hv
  obtain ⟨k1, k2, k3⟩ := d3 v0 (List.mem_of_mem_take h1)
  exact ⟨DZ _, k2, by simp only [uY, List.length_take]; omega⟩
theorem FM {B : Nat} {s : lF} (b : PU B s) : PU B (en s) := by
 obtain ⟨b1, b2, b3, b4, b5, b6⟩ := b
 exact ⟨b1, b2, b3, b4, b5, Kv b6⟩
theorem Kw {s : lF} (hf : eo s = true) (he : (enc s.entry).length ≤ 65535) : (gO s).length ≤ 65819 := by
 rw [rB]
 unfold eo at hf
 simp only [Bool.and_eq_true, decide_eq_true_eq] at hf
 omega
end
open Go.Cod
set_option maxRecDepth 20000
noncomputable section
variable {p : Pg} {h hb h0 h' h1 h2 h3 : Hp} {q j k js : P4} {s l : Bs} {x y v a b d xc xg : AV} {α : Type}
theorem QL {s : lF} (h : eo s = true) : sq (Fa s) = s := by
 have := qO h
 unfold sq Fa
 cases s
 simp at this ⊢
 omega
structure QM (p : Pg) : Prop where
 l : SJ p
 s3 : DW p
 c : vf p
 e4 : ar 3 p.fs = f3
 e13 : ar 8 p.fs = f8
 e14 : ar 9 p.fs = f9
 e40 : ar 25 p.fs = f25
theorem QN (T : Nt p) {ss ys : List lF} {i : Nat} {v : AV} (w : Lb h h h' v 28 12 dy ys) (r : bX h x ss) (hi : i < ss.length) (hi2 : i < 30) (hy : ys.length ≤ 1000) (hr : ∀ c, c ∈ ss[i].entry.changes → c.row.length ≤ 1048576) :
  ∃ v' h2, Rn p (.ah Kh .skip) (T23 x b v (i64 i)) h' (.nm (T23 x b v' (i64 (i + 1 : Nat))) h2) ∧ Lb h h h2 v' 28 12 dy (ys ++ [en ss[i]]) := by
 obtain ⟨q', o', sl, g⟩ := cY.sl r
 obtain ⟨l, l1, l2, l3⟩ := g i hi
 obtain ⟨x', y', h1, hr', c1, c2, c3, c4, c5, c6, c7, c8⟩ := FL (p := p) T w.wf w.old l3 hr
 generalize hs : en ss[i] = st at *
 obtain ⟨m, h4, u1, u2, u3, u4, u5, u6⟩ := gE (el := 28) (es := 12) (n := 1) (z := [i0,i0,i0,i0,iS,i0,i0,i0,iS,iS,.ai,.ai]) (ps := [.mk 0 12 (.c (.agg (fQ x' y' st)))]) (l := fQ x' y' st) c3 rfl rfl (by simp [fQ, cX])
 have Or4 : Old hr' h4 := c5.trans u4
 obtain ⟨v', h5, z1, z2, z3⟩ := w.app (a := st) (l := fQ x' y' st) dy.mono (by omega) (c2.trans u4) u5 (by simp [fQ, cX]) (fun hz H1 H2 => by
  have O : Old hr' hz := fun t ht => by
   rcases c6 t ht with gg | gg
   ·rw [H1 t gg, c4 t gg]
   ·rw [H2 t gg, Or4 t ht]
  exact ⟨x', y', rfl, aQ.up c7 O, bE.up c8 O⟩) (by omega)
 have M0 := bD (m := 12) (l2.old w.old) l1
 have V : eF 28 12 v (.slice m 0 1 1) h4 = .ok v' h5 := by
  rw [eT (m := 1) (q := m) (o := 0) (l := fQ x' y' st) (.inl ⟨_, rfl⟩) (by omega) (fun _ => Ob.c0 u3) (by simp [fQ, cX]) (by omega)]
  exact z1
 refine ⟨v', h5, .ah (c1.mono fun n g => ?_), z2⟩
 simp only [Kh, K4, vK, vL, uf, vM]
 (rw [fD (cG sl hi), fO M0, aF g, aE u1, aE V, dT (n := 30) hi2 (by omega)]; try rfl)
theorem SK (T : Nt p) (W : Wf h) {ss : List lF} (r : bX h x ss) (hr : ∀ s, s ∈ ss → ∀ c, c ∈ s.entry.changes → c.row.length ≤ 1048576) :
  ∃ v h', Rn p (.loop (.ah FE (.ah Kh .skip))) (T23 x b .ai i0) h (.ex 0 (T36 b v) h') ∧ Lb h h h' v 28 12 dy ((ss.take 30).map en) := by
 obtain ⟨st, ⟨v, h', rfl, w⟩, k⟩ := eU (p := p) (body := .ah FE (.ah Kh .skip)) (min ss.length 30) (Inv := fun i r h' => ∃ v, r = T23 x b v (i64 i) ∧ Lb h h h' v 28 12 dy ((ss.take i).map en))
  (S := fun st => ∃ v h', st = .ex 0 (T36 b v) h' ∧ Lb h h h' v 28 12 dy ((ss.take 30).map en)) (fun i r' h' hi I => by
   obtain ⟨v, rfl, w⟩ := I
   have hi1 : i < ss.length := by omega
   have t2 : ∀ c i' (K : A2 → Hp → RS), FE c i' K (T23 x b v (i64 i)) h' = K (T23 x b v (i64 i)) h' := fun c i' K => by
    simp only [FE, K4, vK, vL, uf, vM]
    have lt : ∀ K : AV → Hp → RS, Seat.Y (i64 i) (pi 30) h' K = K (.bool true) h' := fun K => by
     show Seat.Y (i64 i) (i64 30) h' K = _
     rw [bu, decide_eq_true (by omega)]
    (rewrite [bL (cY.len (bX.up r w.old))]; (try dsimp only); rewrite [bu]; (try dsimp only); rewrite [decide_eq_true (show (i : Int) < (ss.length : Int) by omega)]; (try dsimp only); rewrite [EW]; (try dsimp only); rewrite [EW]; (try dsimp only); rewrite [lt]; (try dsimp only); rewrite [uk]; (try dsimp only); rewrite [cq]; (try dsimp only); rewrite [fZ]; (try dsimp only); try rfl)
   obtain ⟨v', h2, k, w'⟩ := QN (p := p) (b := b) T w r hi1 (by omega) (by simp; omega) (hr _ (by simp))
   refine .inl ⟨_, h2, .dP t2 k, v', rfl, ?_⟩
   rw [List.take_succ_eq_append_getElem hi1, List.map_append]
   exact w') (fun r' h' I => by
   obtain ⟨v, rfl, w⟩ := I
   refine ⟨_, ⟨v, h', rfl, ?_⟩, .dU (.aV fun c i' K => ?_)⟩
   ·have : ss.take (min ss.length 30) = ss.take 30 := by
     by_cases g : ss.length ≤ 30
     ·rw [Nat.min_eq_left g, List.take_length, List.take_of_length_le g]
     ·rw [Nat.min_eq_right (by omega)]
    rw [this] at w
    exact w
   ·simp only [FE, K4, vK, vL, uf, vM]
    by_cases g : ss.length ≤ 30
    ·(rw [bL (cY.len (bX.up r w.old)), bu, decide_eq_false (show ¬ ((min ss.length 30 : Nat) : Int) < (ss.length : Int) by omega), Dr, Dr, xG, cq, fK]; try rfl)
    ·have lt : ∀ K : AV → Hp → RS, Seat.Y (i64 (min ss.length 30 : Nat)) (pi 30) h' K = K (.bool false) h' := fun K => by
      show Seat.Y (i64 (min ss.length 30 : Nat)) (i64 30) h' K = _
      rw [bu, decide_eq_false (by omega)]
     (rewrite [bL (cY.len (bX.up r w.old))]; (try dsimp only); rewrite [bu]; (try dsimp only); rewrite [decide_eq_true (show ((min ss.length 30 : Nat) : Int) < (ss.length : Int) by omega)]; (try dsimp only); rewrite [EW]; (try dsimp only); rewrite [EW]; (try dsimp only); rewrite [lt]; (try dsimp only); rewrite [uk]; (try dsimp only); rewrite [cq]; (try dsimp only); rewrite [fK]; (try dsimp only); try rfl)) (min ss.length 30) 0 (T23 x b .ai i0) h (by omega) ⟨.ai, rfl, by simpa using Lb.nil W (.refl h) (.inl rfl)⟩
 exact ⟨v, h', k, w⟩
def Tb (es n : Nat) (x v : AV) : Prop := (∃ q N, x = .eR q 0 N es ∧ n ≤ N ∧ v = .eR q 0 n es) ∨ (n = 0 ∧ (∃ q, x = .slice q 0 0 0) ∧ v = x) ∨ (n = 0 ∧ x = .ai ∧ v = x)
theorem Kx {el es : Nat} {L : List AV} {bb : P4 → Prop} {n : Nat} (w : dA h x el es L bb) (hes : 0 < es) (hn : n * es ≤ L.length) : ∃ v, fu es (.c x) .none (.some (.c (i64 n))) .none .nil h = .ok v h ∧ Tb es n x v := by
 rcases w with ⟨rfl, hv⟩ | ⟨k', N, rfl, e2, e3, _⟩
 ·have h0 : n = 0 := (Nat.mul_eq_zero.1 (Nat.le_zero.1 hn)).resolve_right (by omega)
  subst h0
  rcases hv with rfl | ⟨z, rfl⟩
  ·exact ⟨.ai, rfl, .inr (.inr ⟨rfl, rfl, rfl⟩)⟩
  ·refine ⟨.slice z 0 0 0, ?_, .inr (.inl ⟨rfl, ⟨z, rfl⟩, rfl⟩)⟩
   rfl
 ·have hN : n ≤ N := by rw [e2] at hn; exact Nat.le_of_mul_le_mul_right hn hes
  obtain ⟨c, f1, f2, f3⟩ := e3
  refine ⟨.eR k' 0 n es, ?_, .inl ⟨k', N, rfl, hN, rfl⟩⟩
  show (@Bool.rec (fun _ => RV) (.err 44) (@Bool.rec (fun _ => RV) (.err 42) (Obj.aR (ag k' h) (fun _ m _ _ _ => @Bool.rec (fun _ => RV) (.err 45) (.ok (.eR k' (Nat.add 0 (Nat.mul 0 es)) (Nat.sub n 0) es) h) (Nat.ble (Nat.add 0 (Nat.mul n es)) m)) (.err 46)) (Nat.ble 0 n)) (Nat.beq es es)) = _
  rw [Nat.beq_refl, Nat.ble_eq_true_of_le (Nat.zero_le n), f1]
  show (@Bool.rec (fun _ => RV) (.err 45) (.ok (.eR k' (0 + 0 * es) n es) h) (Nat.ble (0 + n * es) L.length)) = _
  rw [Nat.ble_eq_true_of_le (show 0 + n * es ≤ L.length by omega), Nat.zero_mul]
theorem Tb.UC {es n : Nat} {f : List AV → α → Prop} {xs : List α} (w : Tb es n x v) (r : cY h es f x xs) (hn : n ≤ xs.length) : cY h es f v (xs.take n) := by
 obtain ⟨q, o, e, g⟩ := r
 have gg : ∀ i (hi : i < (xs.take n).length), ∃ l, l.length = es ∧ Cs h q (o + i * es) l ∧ f l (xs.take n)[i] := fun i hi => by
  obtain ⟨l, a, b, c⟩ := g i (by simp at hi; omega)
  exact ⟨l, a, b, by rw [List.getElem_take]; exact c⟩
 have hl : (xs.take n).length = n := by simp; omega
 rcases w with ⟨q', N, rfl, h1, rfl⟩ | ⟨rfl, ⟨q', rfl⟩, rfl⟩ | ⟨rfl, rfl, rfl⟩
 ·rcases e with ⟨cap, _, e⟩ | e | ⟨e, _⟩
  ·cases e
  ·cases e
   exact ⟨_, 0, .inr (.inl (by rw [hl])), gg⟩
  ·cases e
 ·exact ⟨q', 0, .inl ⟨0, by simp, by simp⟩, fun i hi => by simp at hi⟩
 ·exact ⟨q, o, .inr (.inr ⟨rfl, by simp⟩), fun i hi => by simp at hi⟩
theorem Lb.TM {es el : Nat} {f : Hp → List AV → α → Prop} {xs : List α} (w : Lb h hb h' v el es f xs) : ∃ L, dA h' v el es L (fun _ => True) ∧ L.length = xs.length * es := by
 obtain ⟨_, _, hr, L, _, _, _, r4, r5, r6⟩ := w
 exact ⟨L.flatten, dA.mono r4 fun _ _ => True.intro, by rw [fH (es := es) fun i hi => (r6 i hi (by omega)).1, r5]⟩
theorem FN {n : Nat} {t : Bs} (w : Tb 1 n x v) (r : lG h x t) (hl : n ≤ t.length) : lG h v (t.take n) := by
 obtain ⟨q, o, m, g1, g2, g3⟩ := r
 have tl : (t.take n).length = n := by rw [List.length_take]; omega
 rcases w with ⟨q', N, rfl, h1, rfl⟩ | ⟨h0, ⟨q', rfl⟩, rfl⟩ | ⟨h0, rfl, rfl⟩
 ·rcases g1 with ⟨cap, g1⟩ | g1 | ⟨g1, _⟩
  ·cases g1
  ·cases g1
   refine ⟨_, 0, n, .inr (.inl rfl), tl, fun hne => ?_⟩
   have c := g3 (by omega)
   have := c.sub 0 (bc (t.take n)) (by rw [cA, cA, tl]; omega) (fun i hi => by simp [bc])
   simpa using this
  ·cases g1
 ·exact ⟨q', 0, 0, .inl ⟨0, rfl⟩, by rw [tl, h0], fun g => absurd rfl g⟩
 ·exact ⟨q, o, 0, .inr (.inr ⟨rfl, rfl⟩), by rw [tl, h0], fun g => absurd rfl g⟩
theorem QO (T : QM p) {S ms : List lF} {h1 : Hp} {v vb vm vd vp : AV} {h2 h3 h4 : Hp} (c12 : Cv p 7 [vb] h1 vd h2) (c14 : Cv p 9 [vd, v] h2 (.bool true) h3) (lm : Am.len vm h3 = .ok (i64 ms.length) h3) (lv : Am.len v h3 = .ok (i64 S.length) h3) (hle : ms.length ≤ S.length)
  (sl : fu 12 (.c v) .none (.some (.c (i64 ms.length))) .none .nil h3 = .ok vp h3) (c14' : Cv p 9 [vm, vp] h3 (.bool true) h4) : ∃ r', Os p (opsL (fst (bh (bh (bh x3))))) (T37 v vb vm) h1 (.nm r' h4) ∧ y4 r' = .bool true := by
 have le : bK .le (i64 ms.length) (i64 S.length) h3 = .ok (.bool true) h3 := by
  show Bh (.int .i64 (ms.length : Int)) (.int .i64 (S.length : Int)) h3 = _
  rw [Dm, decide_eq_true (by omega)]
 exact ⟨_, .step (v := vb) (h' := h1) rfl <| .call (v := vd) (h' := h2) c12 <| .step (v := v) (h' := h2) rfl <| .call (v := .bool true) (h' := h3) c14 <| .step (v := .bool true) (h' := h3) rfl <|
  .on rfl <| .step (v := vm) (h' := h3) rfl <| .on rfl <| .step (v := i64 ms.length) (h' := h3) lm <| .on rfl <| .step (v := v) (h' := h3) rfl <| .on rfl <| .step (v := i64 S.length) (h' := h3) lv <| .on rfl <| .step (v := .bool true) (h' := h3) le <|
  .step (v := .bool true) (h' := h3) rfl <| .step (v := .bool true) (h' := h3) rfl <|
  .on rfl <| .step (v := vm) (h' := h3) rfl <| .on rfl <| .step (v := v) (h' := h3) rfl <| .on rfl <| .step (v := vm) (h' := h3) rfl <| .on rfl <| .step (v := i64 ms.length) (h' := h3) lm <| .on rfl <| .step (v := vp) (h' := h3) sl <| .on rfl <| .call (v := .bool true) (h' := h4) c14' <|
  .step (v := .bool true) (h' := h4) rfl <| .step (v := .bool true) (h' := h4) rfl <| .on rfl <| .call (v := .bool true) (h' := h4) (T.l.e7 h4) <| .step (v := .bool true) (h' := h4) rfl <| .step (v := .bool true) (h' := h4) rfl <| .nil, rfl⟩
theorem Nu {B : Nat} {e : oI} (b : uw B e) : Cod.fits e := fun c hc v hv => ((b.2.2.2.2.2.2.2.2 c hc).2.2 v hv).2.1
theorem Nv (T : QM p) (W : Wf h) {ss : List lF} {B : Nat} (r : bX h x ss) (bd : ∀ s, s ∈ ss → PU B s) (hB : B ≤ 1048576) (cut : Int) (hc : dx cut) : ∃ h', Cv p 3 [x, i64 cut] h (.bool true) h' := by
 obtain ⟨v, h1, k1, w1⟩ := SK (p := p) (b := i64 cut) T.l.k W r fun s hs c hc => by
  obtain ⟨_, _, _, _, _, _, _, _, _, _, _, _, _, b9⟩ := bd s hs
  have := (b9 c hc).2.1
  omega
 obtain ⟨hr, p1, p2, p3, p4⟩ := Lb.rd w1 dy.mono (by omega)
 have R : bX h1 v ((ss.take 30).map en) := bX.up p4 p2
 obtain ⟨LL, ow, hLL⟩ := Lb.TM w1
 generalize hS : (ss.take 30).map en = S at *
 have hSb : ∀ s, s ∈ S → PU B s ∧ (enc s.entry).length ≤ 65535 := fun s hs => by
  rw [← hS] at hs
  obtain ⟨s0, h0, rfl⟩ := List.mem_map.1 hs
  exact ⟨FM (bd s0 (List.mem_of_mem_take h0)), EZ _⟩
 have hSl : S.length ≤ 30 := by rw [← hS, List.length_map, List.length_take]; omega
 have tot : S.all eo = true → (S.flatMap gO).length ≤ 16777216 := fun hf => by
  have := uu (f := gO) (k := 65819) (l := S) fun s hs => Kw (by rw [List.all_eq_true] at hf; exact hf s hs) (hSb s hs).2
  have h2 : S.length * 65819 ≤ 30 * 65819 := Nat.mul_le_mul_right _ hSl
  omega
 obtain ⟨vb, n, h2, c6, O2, W2, hcase⟩ := Fg (p := p) T.l.b.s w1.wf R (fun s hs => (hSb s hs).1.2.2.2.2.2) (B := B) (by omega) (by omega) (fun s hs => (hSb s hs).2) tot
 have s0 : ∀ cc i' (K : A2 → Hp → RS), k3_0 cc i' K (bt [x, i64 cut] 0 .nil) h = K (T22 x (i64 cut) .ai) h := fun cc i' K => by simp only [k3_0, K2, fR, fS]
 have s1 : ∀ cc i' (K : A2 → Hp → RS), k3_1 cc i' K (T22 x (i64 cut) .ai) h = K (T23 x (i64 cut) .ai i0) h := fun cc i' K => by simp only [k3_1, K3, iB, iD, iE]
 have x0 : Seat.ext 0 (.jx [vb, i64 n]) h2 = .ok vb h2 := rfl
 have x1 : Seat.ext 1 (.jx [vb, i64 n]) h2 = .ok (i64 n) h2 := rfl
 rcases hcase with ⟨ha, rfl, ob⟩ | ⟨ha, rfl, rfl⟩
 ·have hf : ∀ s, s ∈ S → eo s = true := by rw [List.all_eq_true] at ha; exact ha
  have hs := tot ha
  have rb := dA.Jb ob
  obtain ⟨t, ht, c13⟩ := FG (p := p) (h := h2) T.e13 cut hc (S.flatMap gO).length (by omega)
  obtain ⟨vc, c1, c2⟩ := Kx (n := t) ob (by omega) (by rw [cA]; omega)
  have tl : ((S.flatMap gO).take t).length = t := by rw [List.length_take]; omega
  have rc : lG h2 vc ((S.flatMap gO).take t) := FN c2 rb ht
  obtain ⟨vm, h3, d1, d2, d3, d4⟩ := DX (p := p) T.s3 W2 rc (by rw [tl]; omega)
  obtain ⟨vd, h4, e1, e2, e3, e4⟩ := DX (p := p) T.s3 d3 (rb.up d2) hs
  have SR := pW d4
  have good : ∀ st, st ∈ S.map Fa → kT st = true ∧ Cod.fits st.entry := fun st hst => by
   obtain ⟨s, hs, rfl⟩ := List.mem_map.1 hst
   exact ⟨Fb (hf s hs) (hSb s hs).2, Nu (hSb s hs).1.2.2.2.2.2⟩
  have back : (S.map Fa).map sq = S := by
   rw [List.map_map]
   exact (List.map_congr_left fun s hs => QL (hf s hs)).trans (List.map_id S)
  have full : items ((S.flatMap gO).length + 1) 2048 (S.flatMap gO) = S.map Fa := by
   have e := qM (S.map Fa) ((S.flatMap gO).length + 1) 2048 [] good (by simp; omega) (by
    rw [← pH hf]
    have : ∀ l : List pC, l.length ≤ (l.flatMap iV).length := fun l => by
     induction l with
     | nil => simp
     | cons a l ih =>
      simp only [List.length_cons, List.flatMap_cons, List.length_append]
      have : 1 ≤ (iV a).length := by unfold iV; simp only [List.length_append, bm]; omega
      omega
    exact Nat.le_trans (this _) (by omega))
   rw [List.append_nil, mS, List.append_nil, pH hf] at e
   exact e
  obtain ⟨kk, hk, ek⟩ := vY (S.map Fa) (((S.flatMap gO).take t).length + 1 + (S.map Fa).length) 2048 t good (by simp; omega) (by omega)
  rw [pH hf] at ek
  rw [oz _ (((S.flatMap gO).take t).length + 1) _ _ (by omega) (by omega)] at ek
  rw [ek] at d4
  rw [full] at e4
  have RM : bX h3 vm (S.take kk) := by
   have := pW d4
   rwa [List.map_take, back] at this
  have RD : bX h4 vd S := by
   have := pW e4
   rwa [back] at this
  have O4 := O2.trans (d2.trans e2)
  obtain ⟨h5, ⟨O5, W5⟩, c14⟩ := Az (p := p) T.c T.e40 T.e14 e3 RD (bX.up R O4) (by omega) (B := B) (fun s hs => (hSb s hs).1.2.2.2.2.2) (by omega)
  rw [decide_eq_true rfl] at c14
  have ml : (S.take kk).length ≤ S.length := by rw [List.length_take]; omega
  have O15 := O4.trans O5
  obtain ⟨vp, y1, y2⟩ := Kx (n := (S.take kk).length) (ow.old fun j _ hj => O15 j hj) (by omega) (by rw [hLL]; exact Nat.mul_le_mul_right _ ml)
  have RP : bX h5 vp (S.take kk) := by
   have := y2.UC (bX.up R O15) ml
   have e : S.take (S.take kk).length = S.take kk := by rw [List.length_take, List.take_eq_take_iff]; omega
   rwa [e] at this
  have RM5 := bX.up RM (e2.trans O5)
  obtain ⟨h6, _, c14'⟩ := Az (p := p) T.c T.e40 T.e14 W5 RM5 RP (by omega) (B := B) (fun s hs => (hSb s (List.mem_of_mem_take hs)).1.2.2.2.2.2) (by omega)
  rw [decide_eq_true rfl] at c14'
  obtain ⟨r', o1, o2⟩ := QO (p := p) T (S := S) (ms := S.take kk) e1 c14 (cY.len RM5) (cY.len (bX.up R O15)) ml y1 c14'
  have s4 : Ev fun m => ∀ K : A2 → Hp → RS, k3_4 (aw p (exec p m)) (aG p (exec p m)) K (T36 (i64 cut) v) h1 = K (T37 v vb vm) h3 := (c6.and (c13.and d1)).mono fun m g K => by
   obtain ⟨g1, g2, g3⟩ := g
   simp only [k3_4, K2, t36_1, t36_5]
   (rw [aF g1, ru x0, ru x1, aE (uy rfl), fK, bL (lG.len rb), aF g2, aE c1, aF g3]; try rfl)
  exact ⟨h6, .of (r' := r') (h1 := h6) T.e4 (by simp) (.dP s0 (.seq (.dP s1 (.bN k1)) (.to s4 (.seq (.ops o1) .ret)))) (by
   show RV.ok (y4 r') h6 = _
   rw [o2])⟩
 ·have k9 : Rn p (bh (bh x3)) (T36 (i64 cut) v) h1 (.ret (T27 (.bool true)) h2) := .ah ((c6.and (T.l.e7 h2)).mono fun m g => ?_)
  ·exact ⟨h2, .of (r' := T27 (.bool true)) (h1 := h2) T.e4 (by simp) (.dP s0 (.seq (.dP s1 (.bN k1)) k9)) rfl⟩
  obtain ⟨g1, g2⟩ := g
  simp only [k3_4, K2, t36_1, t36_5]
  have ne : kF (i64 1) i0 h2 = .ok (.bool true) h2 := rfl
  (rw [aF g1, ru x0, ru x1, aE ne, fZ, aF g2]; try rfl)
end
open Go.Cod
noncomputable section
def UD : AF := .uP (.fn Ck) x6 [.t .h0 .h0]
def Nx : F1 := match Pj with
 | .nil => .nil
 | .mk a0 a1 a2 a3 a4 a5 _ a7 a8 a9 b0 b1 b2 b3 b4 b5 => .mk a0 a1 a2 a3 a4 a5 UD a7 a8 a9 b0 b1 b2 b3 b4 b5
def FV : F2 := match Ic with
 | .nil => .nil
 | .mk _ a1 a2 a3 a4 a5 a6 a7 a8 a9 b0 b1 b2 b3 b4 b5 => .mk Nx a1 a2 a3 a4 a5 a6 a7 a8 a9 b0 b1 b2 b3 b4 b5
def QR : Pg := match pg with
 | .mk fs ms => .mk (match fs with
  | .nil => .nil
  | .mk _ a1 a2 a3 a4 a5 a6 a7 a8 a9 b0 b1 b2 b3 b4 b5 => .mk FV a1 a2 a3 a4 a5 a6 a7 a8 a9 b0 b1 b2 b3 b4 b5) ms
theorem QP : SJ QR where
 b := { s := { t := ⟨rfl, rfl, rfl, rfl, rfl, rfl, rfl, rfl⟩, tt := ⟨rfl, rfl, rfl, rfl⟩, e6 := rfl, e11 := rfl, e14 := rfl, e17 := rfl, e29 := rfl }, r := ⟨⟩ }
 k := ⟨rfl, rfl, rfl, rfl⟩
 e7 := fun h => .uP (k := .fn Ck) (body := x6) (res := [.t .h0 .h0]) rfl rfl
theorem TN : Ng QR where
 d := ⟨rfl, rfl, rfl, rfl, rfl, rfl, rfl, rfl, rfl, rfl, rfl⟩
 w := QP.b.s.t
 t := QP.b.s.tt
 e30 := rfl
 e45 := rfl
 e72 := rfl
 e74 := rfl
theorem TP : QM QR where
 l := QP
 s3 := ⟨⟨TN, rfl, rfl⟩, rfl, rfl⟩
 c := ⟨rfl, rfl, rfl, rfl⟩
 e4 := rfl
 e13 := rfl
 e14 := rfl
 e40 := rfl
end
open Go.Cod
noncomputable section
theorem QQ (n : Nat) (w : World) : Wf (AD n w) := ⟨w.heap.size, rfl, fun m hm => by
 rw [oJ]
 unfold Ec
 rw [Array.getElem?_eq_none hm]⟩
def mO : List TypeId := [22, 28, 26, 23, 70, 24, 81, 79, 83, 3, 2, 9, 4]
variable {P : Program} {H : Type} {enc : TypeId × Value → H} {w : World} {sp : Nat → Bool} {held : Bool} {bk : DataW H → Nat} {bkA : List (DataW H) → Nat} {h : Hp}
structure Ask (P : Program) (names : List String) : Prop where
 e : Env P ⟨7, [], none⟩ names QR
 t : ff P 3 2 9 4 83 79 81 24 70 23 26 28 22
 k : sH P mO = true
def Kept (w : World) (e : Ending) (w' : World) : Prop := e = .returned (.bool true) ∧ w.heap.size ≤ w'.heap.size ∧ (∀ b, b < w.heap.size → w'.heap[b]? = w.heap[b]?) ∧ w'.os = w.os ∧ w'.output = w.output
theorem Ky {names : List String} (A : Ask P names) (hsp : ∀ b, sp b = true) {v : Value} {t : TypeId} {d : DataW H} {ps : List MemPlace} (hv : v.cells.toList = [v]) (ht : t ∈ mO) (r : DataW.Trod enc P w 0 sp held t v d ps) : ∃ n, rO P (AD 7 w) n t [jZ w v] d := by
 obtain ⟨n, r⟩ := r
 obtain ⟨r, _, _⟩ := reads (g := 7) A.k hsp n t v.cells.toList (d, ps) ht r
 rw [hv] at r
 exact ⟨n, r⟩
theorem TQ {names : List String} (A : Ask P names) (K : nk bk bkA) {n : Nat} {a : AV} {d : DataW H} (r : rO P h n 22 [a] d) (hB : bk d ≤ 1048576) : ∃ xs, bX h a xs ∧ ∀ s, s ∈ xs → PU 1048576 s := by
 obtain ⟨x, xs, e, rs, _, bd⟩ := Mg A.t K (rO.add n 8 22 [a] d r) hB
 have e : a = x := by simpa using e
 subst e
 exact ⟨xs, rs, bd⟩
theorem TR {k : IntKind} {t : TypeId} {n : Nat} {a : AV} {d : DataW H} (hu : P.underlying t = some (.int k)) (r : rO P h n t [a] d) : ∃ z, a = .int k z ∧ (Lit.int k z).wf = true := by
 obtain ⟨z, e, _, wf⟩ := fV.int hu (rO.succ n t [a] d r)
 have e : a = .int k z := by simpa using e
 exact ⟨z, e, wf⟩
theorem Ig {names : List String} (A : Ask P names) (K : nk bk bkA) (hs : 7 ≤ w.heap.size) (hsp : ∀ b, sp b = true) {v v1 : Value} {d d1 : DataW H} {ps ps1 : List MemPlace} (hv : v.cells.toList = [v]) (hv1 : v1.cells.toList = [v1])
  (ht : DataW.Trod enc P w 0 sp held 22 v d ps) (ht1 : DataW.Trod enc P w 0 sp held 3 v1 d1 ps1) (hB : bk d ≤ 1048576) : Calls P 3 #[v, v1] w (Kept w) := by
 obtain ⟨n, r⟩ := Ky A hsp hv (by simp [mO]) ht
 obtain ⟨n1, r1⟩ := Ky A hsp hv1 (by simp [mO]) ht1
 obtain ⟨xs, rs, bd⟩ := TQ A K r hB
 obtain ⟨z, e1, wf⟩ := TR A.t.i r1
 obtain ⟨h', c⟩ := Nv (p := QR) TP (QQ 7 w) rs bd (Nat.le_refl _) z (mA wf)
 have e1 : jZ w v1 = i64 z := e1
 rw [← e1] at c
 obtain ⟨k, c⟩ := c.some
 exact KP A.e k 3 [v, v1] w (by decide) hs h' c
end
open Go.Cod
noncomputable section
variable {p : Pg} {h hb h' h2 h0 : Hp} {q j je : P4} {x y v a b d e f g : AV} {o : Nat}
end
end Go.Am.Seat
