/- The walk: what each function of the program does at arguments that are not known; and what the law comes to. Conditions: the table of functions holds these functions. -/
import Derived.Test.YtldbgpadimkeeaaGreatDoorW0
set_option linter.all false
namespace Go.Am.Seat
open Go.Cod
noncomputable section
variable {p : Pg} {h0 h h' h1 h2 : Hp} {q j k : P4} {s : Bs} {x y : AV}
theorem qg {s t : Bs} : decide (s.map UInt8.toNat = t.map UInt8.toNat) = decide (s = t) := by
 rw [decide_eq_decide]
 exact List.map_inj_right fun a b g => UInt8.toNat_inj.1 g
theorem JK (a b : Int) : FQ .i h (i64 a) (i64 b) = EB.of (decide (a = b)) := by
 show EB.of (xB a b) = _
 rw [il]
theorem NX (s t : Bs) : FQ .s h (bu s) (bu t) = EB.of (decide (s = t)) := by
 show EB.of (iU (s.map UInt8.toNat) (t.map UInt8.toNat)) = _
 rw [iq, qg]
theorem tZ {kk : KK} {ks : List KK} {a b : List AV} {u v : Bool} (g : FQ kk h x y = EB.of u) (g' : uN ks h a b = EB.of v) : uN (kk :: ks) h (x :: a) (y :: b) = EB.of (u && v) := by
 show (@EB.rec (fun _ => EB) (uN ks h a b) (@EB.rec (fun _ => EB) .no .no .bad (uN ks h a b)) .bad (FQ kk h x y)) = _
 rw [g, g']
 cases u <;> cases v <;> rfl
theorem Dn : uN [] h [] [] = EB.of true := rfl
theorem JL {ks : List KK} {a b : List AV} {u : Bool} (g : uN ks h a b = EB.of u) : bK (.Oi ks) (.agg a) (.agg b) h = .ok (.bool (!u)) h := by
 show EB.rv true h (uN ks h a b) = _
 rw [g]
 cases u <;> rfl
theorem Dp (v w : lU) : bK (.Oi [.i, .i, .s]) (.agg (iQ v)) (.agg (iQ w)) h = .ok (.bool (!decide (v = w))) h := by
 have := JL (h := h) (tZ (JK v.kind w.kind) (tZ (JK v.n w.n) (tZ (NX v.s w.s) Dn)))
 have e : (decide (v.kind = w.kind) && (decide (v.n = w.n) && (decide (v.s = w.s) && true))) = decide (v = w) := by
  cases v; cases w; simp [lU.mk.injEq]
 rw [e] at this
 exact this
theorem Dq (v w : Bs × Int) : bK (.Oi [.s, .i]) (.agg [bu v.1, i64 v.2]) (.agg [bu w.1, i64 w.2]) h = .ok (.bool (!decide (v = w))) h := by
 have := JL (h := h) (tZ (NX v.1 w.1) (tZ (JK v.2 w.2) Dn))
 have e : (decide (v.1 = w.1) && (decide (v.2 = w.2) && true)) = decide (v = w) := by
  cases v; cases w; simp [Prod.mk.injEq]
 rw [e] at this
 exact this
theorem JM {α : Type} [DecidableEq α] {as bs : List α} (hl : as.length = bs.length) {body : AC} {R : Nat → A2} {Re : A2} {lab : Nat} {Q : Hp → Prop} (q0 : Q h)
  (step : ∀ i h' (hi : i < as.length), Q h' → as[i] = bs[i]'(by omega) → ∃ h2, Q h2 ∧ Rn p body (R i) h' (.nm (R (i + 1)) h2))
  (bad : ∀ i h' (hi : i < as.length), Q h' → as[i] ≠ bs[i]'(by omega) → ∃ h2, Q h2 ∧ Rn p body (R i) h' (.ret (T18 (.bool false)) h2))
  (fin : ∀ h', Q h' → Rn p body (R as.length) h' (.ex lab Re h')) :
  ∃ st h', Q h' ∧ Rn p (.loop body) (R 0) h st ∧ ((as = bs ∧ st = .ex lab Re h') ∨ (as ≠ bs ∧ st = .ret (T18 (.bool false)) h')) := by
 obtain ⟨st, ⟨h', g1, g2⟩, g3⟩ := eo (p := p) (body := body) as.length (Inv := fun i r h' => r = R i ∧ Q h' ∧ as.take i = bs.take i) (S := fun st => ∃ h', Q h' ∧ ((as = bs ∧ st = .ex lab Re h') ∨ (as ≠ bs ∧ st = .ret (T18 (.bool false)) h'))) (fun i r h' hi I => by
  obtain ⟨rfl, I1, I2⟩ := I
  have hi' : i < bs.length := by omega
  by_cases e : as[i] = bs[i]
  ·obtain ⟨h2, a, b⟩ := step i h' hi I1 e
   refine .inl ⟨_, h2, b, rfl, a, ?_⟩
   rw [List.take_succ_eq_append_getElem hi, List.take_succ_eq_append_getElem hi', I2, e]
  ·obtain ⟨h2, a, b⟩ := bad i h' hi I1 e
   refine .inr ⟨_, ⟨h2, a, .inr ⟨fun g => e (by simp only [g]), rfl⟩⟩, .dV b⟩) (fun r h' I => by
  obtain ⟨rfl, I1, I2⟩ := I
  refine ⟨_, ⟨h', I1, .inl ⟨?_, rfl⟩⟩, .cW (fin h' I1)⟩
  rw [List.take_length] at I2
  rw [I2, hl, List.take_length]) as.length 0 (R 0) h (by omega) ⟨rfl, q0, by simp⟩
 exact ⟨st, h', g1, g3, g2⟩
theorem ua {α : Type} [DecidableEq α] {as bs : List α} {f : Nat} {L : AC} {k0 k1 ke : KF} (hf : ak f p.fs = .mk (.ag k0 (.seq (.ag k1 (.block 0 (.loop L))) (.ag ke .skip))) [.t .h0 .h4]) {R : Nat → A2} {Re : A2} {Q : Hp → Prop} (q0 : Q h)
  (z0 : ∀ c i (K : A2 → Hp → RS), k0 c i K (bE [x, y] 0 .nil) h = if as.length = bs.length then K (T36 x y) h else .ret (T18 (.bool false)) h) (z1 : ∀ c i (K : A2 → Hp → RS), k1 c i K (T36 x y) h = K (R 0) h) (ze : ∀ c i (K : A2 → Hp → RS) h', ke c i K Re h' = .ret (T18 (.bool true)) h')
  (step : as.length = bs.length → ∀ i h' (hi : i < as.length) (hj : i < bs.length), Q h' → as[i] = bs[i] → ∃ h2, Q h2 ∧ Rn p L (R i) h' (.nm (R (i + 1)) h2))
  (bad : as.length = bs.length → ∀ i h' (hi : i < as.length) (hj : i < bs.length), Q h' → as[i] ≠ bs[i] → ∃ h2, Q h2 ∧ Rn p L (R i) h' (.ret (T18 (.bool false)) h2))
  (fin : ∀ h', Q h' → Rn p L (R as.length) h' (.ex 0 Re h')) : ∃ h', Q h' ∧ Cv p f [x, y] h (.bool (decide (as = bs))) h' := by
 by_cases hl : as.length = bs.length
 ·obtain ⟨st, h', g1, g2, ⟨g3, rfl⟩ | ⟨g3, rfl⟩⟩ := JM (p := p) (lab := 0) hl q0 (fun i h' hi => step hl i h' hi (by omega)) (fun i h' hi => bad hl i h' hi (by omega)) fin
  ·refine ⟨h', g1, .of (r' := T18 (.bool true)) (h1 := h') hf (by simp) (.di (r' := T36 x y) (h' := h) (fun c i K => by rw [z0, if_pos hl]) (.seq (.di (z1) (.br g2)) (.aJ fun c i K => ze _ _ _ _))) (by rw [decide_eq_true g3]; rfl)⟩
  ·refine ⟨h', g1, .of (r' := T18 (.bool false)) (h1 := h') hf (by simp) (.di (r' := T36 x y) (h' := h) (fun c i K => by rw [z0, if_pos hl]) (.cX (.di (z1) (.cA g2)))) (by rw [decide_eq_false g3]; rfl)⟩
 ·exact ⟨h, q0, .of (r' := T18 (.bool false)) (h1 := h) hf (by simp) (.aJ fun c i K => by rw [z0, if_neg hl]) (by rw [decide_eq_false fun g => hl (by rw [g])]; rfl)⟩
theorem Mw (a b : Nat) : ig (.int .i64 (a : Int)) (.int .i64 (b : Int)) h = .ok (.bool (!decide (a = b))) h := by
 rw [Dc]
 congr 3
 rw [decide_eq_decide]; omega
theorem zW {k0 : KF} {a b : Nat} (la : Am.len x h = .ok (.int .i64 (a : Int)) h) (lb : Am.len y h = .ok (.int .i64 (b : Int)) h) (e : ∀ c i K, k0 c i K (bE [x, y] 0 .nil) h = Seat.G x h fun d h => Seat.G y h fun e h => tR (ig d e h) fun f h => Seat.I f (.ret (T18 (.bool false)) h) (K (T36 x y) h)) :
  ∀ c i (K : A2 → Hp → RS), k0 c i K (bE [x, y] 0 .nil) h = if a = b then K (T36 x y) h else .ret (T18 (.bool false)) h := fun c i K => by
 rw [e]
 (rw [aR la, aR lb, aw (Mw a b), RQ]; try rfl)
 by_cases g : a = b
 ·rw [if_pos g, decide_eq_true g]; rfl
 ·rw [if_neg g, decide_eq_false g]; rfl
structure uC (p : Pg) : Prop where
 e67 : ak 42 p.fs = f42
 e100 : ak 68 p.fs = f68
 e101 : ak 69 p.fs = f69
 e126 : ak 92 p.fs = f92
theorem Mx (T : uC p) {r1 r2 : List lU} (a : dU h x r1) (b : dU h y r2) (hn : r1.length < 9223372036854775807) : Cv p 92 [x, y] h (.bool (decide (r1 = r2))) h := by
 obtain ⟨q1, o1, sl1, g1⟩ := cT.sl a
 obtain ⟨q2, o2, sl2, g2⟩ := cT.sl b
 obtain ⟨h', rfl, c⟩ := ua (p := p) (x := x) (y := y) (as := r1) (bs := r2) T.e126 (R := fun i => T21 x y (i64 i)) (Re := T21 x y (i64 r1.length)) (Q := fun h' => h' = h) rfl
  (zW (cT.len a) (cT.len b) fun c i K => by simp only [k92_0, K2, dE, dF]) (fun c i K => by simp only [k92_1, K2, gJ, gK]; rfl) (fun c i K h' => rfl)
  (fun hl i h' hi hj e0 e => by
   subst e0
   refine ⟨h', rfl, .aJ fun c i' K => ?_⟩
   obtain ⟨l, l1, l2, rfl⟩ := g1 i hi
   obtain ⟨m, m1, m2, rfl⟩ := g2 i hj
   simp only [k92_2, K3, fU, fV, fW]
   have av := Dp (h := h') r1[i] r2[i]
   rw [decide_eq_true e] at av
   (rw [aR (cT.len a), aV, bC, if_pos (by omega), al (bS sl1 hi), al (bD l2 l1), al (bS sl2 hj), al (bD m2 m1), al av, Bool.not_true, dP, dj hi hn]; try rfl))
  (fun hl i h' hi hj e0 e => by
   subst e0
   refine ⟨h', rfl, .aJ fun c i' K => ?_⟩
   obtain ⟨l, l1, l2, rfl⟩ := g1 i hi
   obtain ⟨m, m1, m2, rfl⟩ := g2 i hj
   simp only [k92_2, K3, fU, fV, fW]
   have av := Dp (h := h') r1[i] r2[i]
   rw [decide_eq_false e] at av
   (rw [aR (cT.len a), aV, bC, if_pos (by omega), al (bS sl1 hi), al (bD l2 l1), al (bS sl2 hj), al (bD m2 m1), al av, Bool.not_false, ew]; try rfl))
  (fun h' e0 => by
   subst e0
   refine .aJ fun c i' K => ?_
   simp only [k92_2, K3, fU, fV, fW]
   (rw [aR (cT.len a), aV, bC, if_neg (by omega)]; try rfl))
 exact c
theorem JN (T : uC p) {r1 r2 : List (Bs × Int)} (a : aQ h x r1) (b : aQ h y r2) (hn : r1.length < 9223372036854775807) : Cv p 68 [x, y] h (.bool (decide (r1 = r2))) h := by
 obtain ⟨q1, o1, sl1, g1⟩ := cT.sl a
 obtain ⟨q2, o2, sl2, g2⟩ := cT.sl b
 obtain ⟨h', rfl, c⟩ := ua (p := p) (x := x) (y := y) (as := r1) (bs := r2) T.e100 (R := fun i => T21 x y (i64 i)) (Re := T21 x y (i64 r1.length)) (Q := fun h' => h' = h) rfl
  (zW (cT.len a) (cT.len b) fun c i K => by simp only [k68_0, K2, dE, dF]) (fun c i K => by simp only [k68_1, K2, gJ, gK]; rfl) (fun c i K h' => rfl)
  (fun hl i h' hi hj e0 e => by
   subst e0
   refine ⟨h', rfl, .aJ fun c i' K => ?_⟩
   obtain ⟨l, l1, l2, rfl⟩ := g1 i hi
   obtain ⟨m, m1, m2, rfl⟩ := g2 i hj
   simp only [k68_2, K3, fU, fV, fW]
   have av := Dq (h := h') r1[i] r2[i]
   rw [decide_eq_true e] at av
   (rw [aR (cT.len a), aV, bC, if_pos (by omega), al (bS sl1 hi), al (bD l2 l1), al (bS sl2 hj), al (bD m2 m1), al av, Bool.not_true, dP, dj hi hn]; try rfl))
  (fun hl i h' hi hj e0 e => by
   subst e0
   refine ⟨h', rfl, .aJ fun c i' K => ?_⟩
   obtain ⟨l, l1, l2, rfl⟩ := g1 i hi
   obtain ⟨m, m1, m2, rfl⟩ := g2 i hj
   simp only [k68_2, K3, fU, fV, fW]
   have av := Dq (h := h') r1[i] r2[i]
   rw [decide_eq_false e] at av
   (rw [aR (cT.len a), aV, bC, if_pos (by omega), al (bS sl1 hi), al (bD l2 l1), al (bS sl2 hj), al (bD m2 m1), al av, Bool.not_false, ew]; try rfl))
  (fun h' e0 => by
   subst e0
   refine .aJ fun c i' K => ?_
   simp only [k68_2, K3, fU, fV, fW]
   (rw [aR (cT.len a), aV, bC, if_neg (by omega)]; try rfl))
 exact c
theorem zX (T : uC p) {c1 c2 : mI} {z1 z2 : AV} {i n1 n2 : Nat} {q1 q2 : P4} {o1 o2 : Nat} (sl1 : vL x 3 n1 q1 o1) (sl2 : vL y 3 n2 q2 o2) (h1 : i < n1) (h2 : i < n2) (a1 : Cs h q1 (o1 + i * 3) (uB z1 c1)) (a2 : Cs h q2 (o2 + i * 3) (uB z2 c2)) (b1 : dU h z1 c1.row) (b2 : dU h z2 c2.row) (hn : c1.row.length < 9223372036854775807) :
  ∃ r', Rn p (dp 8 (bh x69)) (T21 x y (i64 i)) h (.nm r' h) ∧ y0 r' = x ∧ y1 r' = y ∧ y5 r' = i64 i ∧ y54 r' = .bool (!decide (c1 = c2)) := by
 have X1 := bS (h := h) sl1 h1
 have X2 := bS (h := h) sl2 h2
 have sn : bK .So (bu c1.table) (bu c2.table) h = .ok (.bool (!decide (c1.table = c2.table))) h := by
  show xQ (.str _) (.str _) h = _
  rw [PR, qg]
 have bn : bK .bne (.bool c1.remove) (.bool c2.remove) h = .ok (.bool (!decide (c1.remove = c2.remove))) h := by
  cases c1.remove <;> cases c2.remove <;> rfl
 have rw' := Mx (p := p) T b1 b2 hn
 have ee : decide (c1 = c2) = (decide (c1.table = c2.table) && (decide (c1.remove = c2.remove) && decide (c1.row = c2.row))) := by
  cases c1
  cases c2
  simp only [mI.mk.injEq, ← Bool.decide_and, decide_eq_decide]
  exact ⟨fun ⟨a, b, c⟩ => ⟨a, c, b⟩, fun ⟨a, b, c⟩ => ⟨a, c, b⟩⟩
 by_cases e1 : c1.table = c2.table
 ·rw [decide_eq_true e1] at sn
  by_cases e2 : c1.remove = c2.remove
  ·rw [decide_eq_true e2] at bn
   exact ⟨_, .nT (.dk (v := x) (g' := h) rfl <| .dk (v := i64 i) (g' := h) rfl <| .dk (g' := h) X1 <| .dk (v := .ptr q1 (o1 + i * 3 + 0)) (g' := h) rfl <| .dk (v := bu c1.table) (g' := h) (aP a1 rfl) <|
    .dk (v := y) (g' := h) rfl <| .dk (v := i64 i) (g' := h) rfl <| .dk (g' := h) X2 <| .dk (v := .ptr q2 (o2 + i * 3 + 0)) (g' := h) rfl <| .dk (v := bu c2.table) (g' := h) (aP a2 rfl) <| .dk (v := .bool false) (g' := h) sn <| .dk (v := .bool false) (g' := h) rfl <|
    .on rfl <| .dk (v := x) (g' := h) rfl <| .on rfl <| .dk (v := i64 i) (g' := h) rfl <| .on rfl <| .dk (g' := h) X1 <| .on rfl <| .dk (v := .ptr q1 (o1 + i * 3 + 2)) (g' := h) rfl <| .on rfl <| .dk (v := .bool c1.remove) (g' := h) (aj a1 2 rfl) <|
    .on rfl <| .dk (v := y) (g' := h) rfl <| .on rfl <| .dk (v := i64 i) (g' := h) rfl <| .on rfl <| .dk (g' := h) X2 <| .on rfl <| .dk (v := .ptr q2 (o2 + i * 3 + 2)) (g' := h) rfl <| .on rfl <| .dk (v := .bool c2.remove) (g' := h) (aj a2 2 rfl) <|
    .on rfl <| .dk (v := .bool false) (g' := h) bn <| .dk (v := .bool false) (g' := h) rfl <| .dk (v := .bool false) (g' := h) rfl <|
    .on rfl <| .dk (v := x) (g' := h) rfl <| .on rfl <| .dk (v := i64 i) (g' := h) rfl <| .on rfl <| .dk (g' := h) X1 <| .on rfl <| .dk (v := .ptr q1 (o1 + i * 3 + 1)) (g' := h) rfl <| .on rfl <| .dk (v := z1) (g' := h) (aj a1 1 rfl) <|
    .on rfl <| .dk (v := y) (g' := h) rfl <| .on rfl <| .dk (v := i64 i) (g' := h) rfl <| .on rfl <| .dk (g' := h) X2 <| .on rfl <| .dk (v := .ptr q2 (o2 + i * 3 + 1)) (g' := h) rfl <| .on rfl <| .dk (v := z2) (g' := h) (aj a2 1 rfl) <|
    .on rfl <| .call (v := .bool (decide (c1.row = c2.row))) (h' := h) rw' <| .on rfl <| .dk (v := .bool (!decide (c1.row = c2.row))) (g' := h) (dQ _) <| .dk (v := .bool (!decide (c1.row = c2.row))) (g' := h) rfl <| .nil), rfl, rfl, rfl, by rw [ee, decide_eq_true e1, decide_eq_true e2]; rfl⟩
  ·rw [decide_eq_false e2] at bn
   exact ⟨_, .nT (.dk (v := x) (g' := h) rfl <| .dk (v := i64 i) (g' := h) rfl <| .dk (g' := h) X1 <| .dk (v := .ptr q1 (o1 + i * 3 + 0)) (g' := h) rfl <| .dk (v := bu c1.table) (g' := h) (aP a1 rfl) <|
    .dk (v := y) (g' := h) rfl <| .dk (v := i64 i) (g' := h) rfl <| .dk (g' := h) X2 <| .dk (v := .ptr q2 (o2 + i * 3 + 0)) (g' := h) rfl <| .dk (v := bu c2.table) (g' := h) (aP a2 rfl) <| .dk (v := .bool false) (g' := h) sn <| .dk (v := .bool false) (g' := h) rfl <|
    .on rfl <| .dk (v := x) (g' := h) rfl <| .on rfl <| .dk (v := i64 i) (g' := h) rfl <| .on rfl <| .dk (g' := h) X1 <| .on rfl <| .dk (v := .ptr q1 (o1 + i * 3 + 2)) (g' := h) rfl <| .on rfl <| .dk (v := .bool c1.remove) (g' := h) (aj a1 2 rfl) <|
    .on rfl <| .dk (v := y) (g' := h) rfl <| .on rfl <| .dk (v := i64 i) (g' := h) rfl <| .on rfl <| .dk (g' := h) X2 <| .on rfl <| .dk (v := .ptr q2 (o2 + i * 3 + 2)) (g' := h) rfl <| .on rfl <| .dk (v := .bool c2.remove) (g' := h) (aj a2 2 rfl) <|
    .on rfl <| .dk (v := .bool true) (g' := h) bn <| .dk (v := .bool true) (g' := h) rfl <| .dk (v := .bool true) (g' := h) rfl <|
    .eN rfl <| .eN rfl <| .eN rfl <| .eN rfl <| .eN rfl <| .eN rfl <| .eN rfl <| .eN rfl <| .eN rfl <| .eN rfl <| .RU rfl <| .eN rfl <| .dk (v := .bool true) (g' := h) rfl <| .nil), rfl, rfl, rfl, by rw [ee, decide_eq_true e1, decide_eq_false e2]; rfl⟩
 ·rw [decide_eq_false e1] at sn
  exact ⟨_, .nT (.dk (v := x) (g' := h) rfl <| .dk (v := i64 i) (g' := h) rfl <| .dk (g' := h) X1 <| .dk (v := .ptr q1 (o1 + i * 3 + 0)) (g' := h) rfl <| .dk (v := bu c1.table) (g' := h) (aP a1 rfl) <|
   .dk (v := y) (g' := h) rfl <| .dk (v := i64 i) (g' := h) rfl <| .dk (g' := h) X2 <| .dk (v := .ptr q2 (o2 + i * 3 + 0)) (g' := h) rfl <| .dk (v := bu c2.table) (g' := h) (aP a2 rfl) <| .dk (v := .bool true) (g' := h) sn <| .dk (v := .bool true) (g' := h) rfl <|
   .eN rfl <| .eN rfl <| .eN rfl <| .eN rfl <| .eN rfl <| .eN rfl <| .eN rfl <| .eN rfl <| .eN rfl <| .eN rfl <| .eN rfl <| .dk (v := .bool true) (g' := h) rfl <| .dk (v := .bool true) (g' := h) rfl <|
   .eN rfl <| .eN rfl <| .eN rfl <| .eN rfl <| .eN rfl <| .eN rfl <| .eN rfl <| .eN rfl <| .eN rfl <| .eN rfl <| .RU rfl <| .eN rfl <| .dk (v := .bool true) (g' := h) rfl <| .nil), rfl, rfl, rfl, by rw [ee, decide_eq_false e1]; rfl⟩
theorem JO (T : uC p) {r1 r2 : List mI} (a : aZ h x r1) (b : aZ h y r2) (hn : r1.length < 9223372036854775807) (hr : ∀ c, c ∈ r1 → c.row.length < 9223372036854775807) : Cv p 69 [x, y] h (.bool (decide (r1 = r2))) h := by
 obtain ⟨q1, o1, sl1, g1⟩ := cT.sl a
 obtain ⟨q2, o2, sl2, g2⟩ := cT.sl b
 have t1 : ∀ i (hi : i < r1.length) cc i' (K : A2 → Hp → RS), k69_2 cc i' K (T21 x y (i64 i)) h = K (T21 x y (i64 i)) h := fun i hi cc i' K => by
  simp only [k69_2, K3, fU, fV, fW]
  (rw [aR (cT.len a), aV, bC, if_pos (by omega)]; try rfl)
 obtain ⟨h', rfl, c⟩ := ua (p := p) (x := x) (y := y) (as := r1) (bs := r2) T.e101 (R := fun i => T21 x y (i64 i)) (Re := T5) (Q := fun h' => h' = h) rfl
  (zW (cT.len a) (cT.len b) fun c i K => by simp only [k69_0, K2, dE, dF]) (fun c i K => by simp only [k69_1, K2, gJ, gK]; rfl) (fun c i K h' => rfl)
  (fun hl i h' hi hj e0 e => by
   subst e0
   obtain ⟨l, l1, l2, z1, rfl, l3⟩ := g1 i hi
   obtain ⟨m, m1, m2, z2, rfl, m3⟩ := g2 i hj
   obtain ⟨r', k, q0, q1', q5, q54⟩ := zX (p := p) T sl1 sl2 hi hj l2 m2 l3 m3 (hr _ (by simp))
   rw [decide_eq_true e] at q54
   refine ⟨h', rfl, .di (t1 i hi) (.seq (.block (.seq k (.aJ (s := .nm (T21 x y (i64 i)) h') fun c i' K => ?_))) (.aJ fun c i' K => ?_))⟩
   ·simp only [k69_3, K4, q0, q1', q5, q54]; rfl
   ·simp only [k69_4, K3, fU, fV, fW]
    (rw [dj hi hn]; try rfl))
  (fun hl i h' hi hj e0 e => by
   subst e0
   obtain ⟨l, l1, l2, z1, rfl, l3⟩ := g1 i hi
   obtain ⟨m, m1, m2, z2, rfl, m3⟩ := g2 i hj
   obtain ⟨r', k, q0, q1', q5, q54⟩ := zX (p := p) T sl1 sl2 hi hj l2 m2 l3 m3 (hr _ (by simp))
   rw [decide_eq_false e] at q54
   refine ⟨h', rfl, .di (t1 i hi) (.cX (.cA (.seq k (.aJ fun c i' K => ?_))))⟩
   simp only [k69_3, K4, q0, q1', q5, q54]; rfl)
  (fun h' e0 => by
   subst e0
   refine .aJ fun c i' K => ?_
   simp only [k69_2, K3, fU, fV, fW]
   (rw [aR (cT.len a), aV, bC, if_neg (by omega)]; try rfl))
 exact c
end
open Go.Cod
noncomputable section
variable {p : Pg} {h0 h h' h1 h2 : Hp} {q j k j1 j2 : P4} {s : Bs} {x y x1 x2 y1 y2 : AV}
theorem Qj (a b : Int) : bK .eq (i64 a) (i64 b) h = .ok (.bool (decide (a = b))) h := IY _ _ _
theorem eqs (s t : Bs) : bK .seq (bu s) (bu t) h = .ok (.bool (decide (s = t))) h := by
 show xO (.str _) (.str _) h = _
 rw [Ja, qg]
theorem JP (T : uC p) {e1 e2 : po} (c1 : Cs h j1 0 (cE x1 y1 e1)) (c2 : Cs h j2 0 (cE x2 y2 e2)) (a1 : aQ h x1 e1.bB) (a2 : aQ h x2 e2.bB) (b1 : aZ h y1 e1.changes) (b2 : aZ h y2 e2.changes) {B : Nat} (bd : xF B e1) (hB : B < 9223372036854775807) :
  ∃ r', Os p (opsL (fst (bh x42))) (T40 (.ptr j1 0) (.ptr j2 0)) h (.nm r' h) ∧ y4 r' = .bool (decide (e1 = e2)) := by
 have v5 := JN (p := p) T a1 a2 (by have := bd.2.2.2.2.2.1; omega)
 have v6 := JO (p := p) T b1 b2 (by have := bd.2.2.2.2.2.2.2.1; omega) (fun c hc => by have := (bd.2.2.2.2.2.2.2.2 c hc).2.1; omega)
 have q0 := Qj (h := h) e1.au e2.au
 by_cases g0 : e1.au = e2.au
 case neg =>
  rw [decide_eq_false g0] at q0
  exact ⟨_, .step (v := .ptr j1 0) (h' := h) rfl <| .step (v := i64 e1.au) (h' := h) (aP c1 rfl) <| .step (v := .ptr j2 0) (h' := h) rfl <| .step (v := i64 e2.au) (h' := h) (aP c2 rfl) <| .step (v := .bool false) (h' := h) q0 <| .step (v := .bool false) (h' := h) rfl <| .off rfl <| .off rfl <| .off rfl <| .off rfl <| .off rfl <| .step (v := .bool false) (h' := h) rfl <| .step (v := .bool false) (h' := h) rfl <| .off rfl <| .off rfl <| .off rfl <| .off rfl <| .off rfl <| .step (v := .bool false) (h' := h) rfl <| .step (v := .bool false) (h' := h) rfl <| .off rfl <| .off rfl <| .off rfl <| .off rfl <| .off rfl <| .step (v := .bool false) (h' := h) rfl <| .step (v := .bool false) (h' := h) rfl <| .off rfl <| .off rfl <| .off rfl <| .off rfl <| .off rfl <| .step (v := .bool false) (h' := h) rfl <| .step (v := .bool false) (h' := h) rfl <| .off rfl <| .off rfl <| .off rfl <| .off rfl <| .off rfl <| .step (v := .bool false) (h' := h) rfl <| .step (v := .bool false) (h' := h) rfl <| .off rfl <| .off rfl <| .off rfl <| .off rfl <| .off rfl <| .step (v := .bool false) (h' := h) rfl <| .step (v := .bool false) (h' := h) rfl <| .nil, by rw [decide_eq_false fun g => g0 (by rw [g])]; rfl⟩
 rw [decide_eq_true g0] at q0
 have q1 := Qj (h := h) e1.seq e2.seq
 by_cases g1 : e1.seq = e2.seq
 case neg =>
  rw [decide_eq_false g1] at q1
  exact ⟨_, .step (v := .ptr j1 0) (h' := h) rfl <| .step (v := i64 e1.au) (h' := h) (aP c1 rfl) <| .step (v := .ptr j2 0) (h' := h) rfl <| .step (v := i64 e2.au) (h' := h) (aP c2 rfl) <| .step (v := .bool true) (h' := h) q0 <| .step (v := .bool true) (h' := h) rfl <| .on rfl <| .step (v := .ptr j1 1) (h' := h) rfl <| .on rfl <| .step (v := i64 e1.seq) (h' := h) (aj c1 1 rfl) <| .on rfl <| .step (v := .ptr j2 1) (h' := h) rfl <| .on rfl <| .step (v := i64 e2.seq) (h' := h) (aj c2 1 rfl) <| .on rfl <| .step (v := .bool false) (h' := h) q1 <| .step (v := .bool false) (h' := h) rfl <| .step (v := .bool false) (h' := h) rfl <| .off rfl <| .off rfl <| .off rfl <| .off rfl <| .off rfl <| .step (v := .bool false) (h' := h) rfl <| .step (v := .bool false) (h' := h) rfl <| .off rfl <| .off rfl <| .off rfl <| .off rfl <| .off rfl <| .step (v := .bool false) (h' := h) rfl <| .step (v := .bool false) (h' := h) rfl <| .off rfl <| .off rfl <| .off rfl <| .off rfl <| .off rfl <| .step (v := .bool false) (h' := h) rfl <| .step (v := .bool false) (h' := h) rfl <| .off rfl <| .off rfl <| .off rfl <| .off rfl <| .off rfl <| .step (v := .bool false) (h' := h) rfl <| .step (v := .bool false) (h' := h) rfl <| .off rfl <| .off rfl <| .off rfl <| .off rfl <| .off rfl <| .step (v := .bool false) (h' := h) rfl <| .step (v := .bool false) (h' := h) rfl <| .nil, by rw [decide_eq_false fun g => g1 (by rw [g])]; rfl⟩
 rw [decide_eq_true g1] at q1
 have q2 := Qj (h := h) e1.kind e2.kind
 by_cases g2 : e1.kind = e2.kind
 case neg =>
  rw [decide_eq_false g2] at q2
  exact ⟨_, .step (v := .ptr j1 0) (h' := h) rfl <| .step (v := i64 e1.au) (h' := h) (aP c1 rfl) <| .step (v := .ptr j2 0) (h' := h) rfl <| .step (v := i64 e2.au) (h' := h) (aP c2 rfl) <| .step (v := .bool true) (h' := h) q0 <| .step (v := .bool true) (h' := h) rfl <| .on rfl <| .step (v := .ptr j1 1) (h' := h) rfl <| .on rfl <| .step (v := i64 e1.seq) (h' := h) (aj c1 1 rfl) <| .on rfl <| .step (v := .ptr j2 1) (h' := h) rfl <| .on rfl <| .step (v := i64 e2.seq) (h' := h) (aj c2 1 rfl) <| .on rfl <| .step (v := .bool true) (h' := h) q1 <| .step (v := .bool true) (h' := h) rfl <| .step (v := .bool true) (h' := h) rfl <| .on rfl <| .step (v := .ptr j1 2) (h' := h) rfl <| .on rfl <| .step (v := i64 e1.kind) (h' := h) (aj c1 2 rfl) <| .on rfl <| .step (v := .ptr j2 2) (h' := h) rfl <| .on rfl <| .step (v := i64 e2.kind) (h' := h) (aj c2 2 rfl) <| .on rfl <| .step (v := .bool false) (h' := h) q2 <| .step (v := .bool false) (h' := h) rfl <| .step (v := .bool false) (h' := h) rfl <| .off rfl <| .off rfl <| .off rfl <| .off rfl <| .off rfl <| .step (v := .bool false) (h' := h) rfl <| .step (v := .bool false) (h' := h) rfl <| .off rfl <| .off rfl <| .off rfl <| .off rfl <| .off rfl <| .step (v := .bool false) (h' := h) rfl <| .step (v := .bool false) (h' := h) rfl <| .off rfl <| .off rfl <| .off rfl <| .off rfl <| .off rfl <| .step (v := .bool false) (h' := h) rfl <| .step (v := .bool false) (h' := h) rfl <| .off rfl <| .off rfl <| .off rfl <| .off rfl <| .off rfl <| .step (v := .bool false) (h' := h) rfl <| .step (v := .bool false) (h' := h) rfl <| .nil, by rw [decide_eq_false fun g => g2 (by rw [g])]; rfl⟩
 rw [decide_eq_true g2] at q2
 have q3 := eqs (h := h) e1.name e2.name
 by_cases g3 : e1.name = e2.name
 case neg =>
  rw [decide_eq_false g3] at q3
  exact ⟨_, .step (v := .ptr j1 0) (h' := h) rfl <| .step (v := i64 e1.au) (h' := h) (aP c1 rfl) <| .step (v := .ptr j2 0) (h' := h) rfl <| .step (v := i64 e2.au) (h' := h) (aP c2 rfl) <| .step (v := .bool true) (h' := h) q0 <| .step (v := .bool true) (h' := h) rfl <| .on rfl <| .step (v := .ptr j1 1) (h' := h) rfl <| .on rfl <| .step (v := i64 e1.seq) (h' := h) (aj c1 1 rfl) <| .on rfl <| .step (v := .ptr j2 1) (h' := h) rfl <| .on rfl <| .step (v := i64 e2.seq) (h' := h) (aj c2 1 rfl) <| .on rfl <| .step (v := .bool true) (h' := h) q1 <| .step (v := .bool true) (h' := h) rfl <| .step (v := .bool true) (h' := h) rfl <| .on rfl <| .step (v := .ptr j1 2) (h' := h) rfl <| .on rfl <| .step (v := i64 e1.kind) (h' := h) (aj c1 2 rfl) <| .on rfl <| .step (v := .ptr j2 2) (h' := h) rfl <| .on rfl <| .step (v := i64 e2.kind) (h' := h) (aj c2 2 rfl) <| .on rfl <| .step (v := .bool true) (h' := h) q2 <| .step (v := .bool true) (h' := h) rfl <| .step (v := .bool true) (h' := h) rfl <| .on rfl <| .step (v := .ptr j1 3) (h' := h) rfl <| .on rfl <| .step (v := bu e1.name) (h' := h) (aj c1 3 rfl) <| .on rfl <| .step (v := .ptr j2 3) (h' := h) rfl <| .on rfl <| .step (v := bu e2.name) (h' := h) (aj c2 3 rfl) <| .on rfl <| .step (v := .bool false) (h' := h) q3 <| .step (v := .bool false) (h' := h) rfl <| .step (v := .bool false) (h' := h) rfl <| .off rfl <| .off rfl <| .off rfl <| .off rfl <| .off rfl <| .step (v := .bool false) (h' := h) rfl <| .step (v := .bool false) (h' := h) rfl <| .off rfl <| .off rfl <| .off rfl <| .off rfl <| .off rfl <| .step (v := .bool false) (h' := h) rfl <| .step (v := .bool false) (h' := h) rfl <| .off rfl <| .off rfl <| .off rfl <| .off rfl <| .off rfl <| .step (v := .bool false) (h' := h) rfl <| .step (v := .bool false) (h' := h) rfl <| .nil, by rw [decide_eq_false fun g => g3 (by rw [g])]; rfl⟩
 rw [decide_eq_true g3] at q3
 have q4 := eqs (h := h) e1.text e2.text
 by_cases g4 : e1.text = e2.text
 case neg =>
  rw [decide_eq_false g4] at q4
  exact ⟨_, .step (v := .ptr j1 0) (h' := h) rfl <| .step (v := i64 e1.au) (h' := h) (aP c1 rfl) <| .step (v := .ptr j2 0) (h' := h) rfl <| .step (v := i64 e2.au) (h' := h) (aP c2 rfl) <| .step (v := .bool true) (h' := h) q0 <| .step (v := .bool true) (h' := h) rfl <| .on rfl <| .step (v := .ptr j1 1) (h' := h) rfl <| .on rfl <| .step (v := i64 e1.seq) (h' := h) (aj c1 1 rfl) <| .on rfl <| .step (v := .ptr j2 1) (h' := h) rfl <| .on rfl <| .step (v := i64 e2.seq) (h' := h) (aj c2 1 rfl) <| .on rfl <| .step (v := .bool true) (h' := h) q1 <| .step (v := .bool true) (h' := h) rfl <| .step (v := .bool true) (h' := h) rfl <| .on rfl <| .step (v := .ptr j1 2) (h' := h) rfl <| .on rfl <| .step (v := i64 e1.kind) (h' := h) (aj c1 2 rfl) <| .on rfl <| .step (v := .ptr j2 2) (h' := h) rfl <| .on rfl <| .step (v := i64 e2.kind) (h' := h) (aj c2 2 rfl) <| .on rfl <| .step (v := .bool true) (h' := h) q2 <| .step (v := .bool true) (h' := h) rfl <| .step (v := .bool true) (h' := h) rfl <| .on rfl <| .step (v := .ptr j1 3) (h' := h) rfl <| .on rfl <| .step (v := bu e1.name) (h' := h) (aj c1 3 rfl) <| .on rfl <| .step (v := .ptr j2 3) (h' := h) rfl <| .on rfl <| .step (v := bu e2.name) (h' := h) (aj c2 3 rfl) <| .on rfl <| .step (v := .bool true) (h' := h) q3 <| .step (v := .bool true) (h' := h) rfl <| .step (v := .bool true) (h' := h) rfl <| .on rfl <| .step (v := .ptr j1 4) (h' := h) rfl <| .on rfl <| .step (v := bu e1.text) (h' := h) (aj c1 4 rfl) <| .on rfl <| .step (v := .ptr j2 4) (h' := h) rfl <| .on rfl <| .step (v := bu e2.text) (h' := h) (aj c2 4 rfl) <| .on rfl <| .step (v := .bool false) (h' := h) q4 <| .step (v := .bool false) (h' := h) rfl <| .step (v := .bool false) (h' := h) rfl <| .off rfl <| .off rfl <| .off rfl <| .off rfl <| .off rfl <| .step (v := .bool false) (h' := h) rfl <| .step (v := .bool false) (h' := h) rfl <| .off rfl <| .off rfl <| .off rfl <| .off rfl <| .off rfl <| .step (v := .bool false) (h' := h) rfl <| .step (v := .bool false) (h' := h) rfl <| .nil, by rw [decide_eq_false fun g => g4 (by rw [g])]; rfl⟩
 rw [decide_eq_true g4] at q4
 have q5 := v5
 by_cases g5 : e1.bB = e2.bB
 case neg =>
  rw [decide_eq_false g5] at q5
  exact ⟨_, .step (v := .ptr j1 0) (h' := h) rfl <| .step (v := i64 e1.au) (h' := h) (aP c1 rfl) <| .step (v := .ptr j2 0) (h' := h) rfl <| .step (v := i64 e2.au) (h' := h) (aP c2 rfl) <| .step (v := .bool true) (h' := h) q0 <| .step (v := .bool true) (h' := h) rfl <| .on rfl <| .step (v := .ptr j1 1) (h' := h) rfl <| .on rfl <| .step (v := i64 e1.seq) (h' := h) (aj c1 1 rfl) <| .on rfl <| .step (v := .ptr j2 1) (h' := h) rfl <| .on rfl <| .step (v := i64 e2.seq) (h' := h) (aj c2 1 rfl) <| .on rfl <| .step (v := .bool true) (h' := h) q1 <| .step (v := .bool true) (h' := h) rfl <| .step (v := .bool true) (h' := h) rfl <| .on rfl <| .step (v := .ptr j1 2) (h' := h) rfl <| .on rfl <| .step (v := i64 e1.kind) (h' := h) (aj c1 2 rfl) <| .on rfl <| .step (v := .ptr j2 2) (h' := h) rfl <| .on rfl <| .step (v := i64 e2.kind) (h' := h) (aj c2 2 rfl) <| .on rfl <| .step (v := .bool true) (h' := h) q2 <| .step (v := .bool true) (h' := h) rfl <| .step (v := .bool true) (h' := h) rfl <| .on rfl <| .step (v := .ptr j1 3) (h' := h) rfl <| .on rfl <| .step (v := bu e1.name) (h' := h) (aj c1 3 rfl) <| .on rfl <| .step (v := .ptr j2 3) (h' := h) rfl <| .on rfl <| .step (v := bu e2.name) (h' := h) (aj c2 3 rfl) <| .on rfl <| .step (v := .bool true) (h' := h) q3 <| .step (v := .bool true) (h' := h) rfl <| .step (v := .bool true) (h' := h) rfl <| .on rfl <| .step (v := .ptr j1 4) (h' := h) rfl <| .on rfl <| .step (v := bu e1.text) (h' := h) (aj c1 4 rfl) <| .on rfl <| .step (v := .ptr j2 4) (h' := h) rfl <| .on rfl <| .step (v := bu e2.text) (h' := h) (aj c2 4 rfl) <| .on rfl <| .step (v := .bool true) (h' := h) q4 <| .step (v := .bool true) (h' := h) rfl <| .step (v := .bool true) (h' := h) rfl <| .on rfl <| .step (v := .ptr j1 5) (h' := h) rfl <| .on rfl <| .step (v := x1) (h' := h) (aj c1 5 rfl) <| .on rfl <| .step (v := .ptr j2 5) (h' := h) rfl <| .on rfl <| .step (v := x2) (h' := h) (aj c2 5 rfl) <| .on rfl <| .call (v := .bool false) (h' := h) q5 <| .step (v := .bool false) (h' := h) rfl <| .step (v := .bool false) (h' := h) rfl <| .off rfl <| .off rfl <| .off rfl <| .off rfl <| .off rfl <| .step (v := .bool false) (h' := h) rfl <| .step (v := .bool false) (h' := h) rfl <| .nil, by rw [decide_eq_false fun g => g5 (by rw [g])]; rfl⟩
 rw [decide_eq_true g5] at q5
 have q6 := v6
 by_cases g6 : e1.changes = e2.changes
 case neg =>
  rw [decide_eq_false g6] at q6
  exact ⟨_, .step (v := .ptr j1 0) (h' := h) rfl <| .step (v := i64 e1.au) (h' := h) (aP c1 rfl) <| .step (v := .ptr j2 0) (h' := h) rfl <| .step (v := i64 e2.au) (h' := h) (aP c2 rfl) <| .step (v := .bool true) (h' := h) q0 <| .step (v := .bool true) (h' := h) rfl <| .on rfl <| .step (v := .ptr j1 1) (h' := h) rfl <| .on rfl <| .step (v := i64 e1.seq) (h' := h) (aj c1 1 rfl) <| .on rfl <| .step (v := .ptr j2 1) (h' := h) rfl <| .on rfl <| .step (v := i64 e2.seq) (h' := h) (aj c2 1 rfl) <| .on rfl <| .step (v := .bool true) (h' := h) q1 <| .step (v := .bool true) (h' := h) rfl <| .step (v := .bool true) (h' := h) rfl <| .on rfl <| .step (v := .ptr j1 2) (h' := h) rfl <| .on rfl <| .step (v := i64 e1.kind) (h' := h) (aj c1 2 rfl) <| .on rfl <| .step (v := .ptr j2 2) (h' := h) rfl <| .on rfl <| .step (v := i64 e2.kind) (h' := h) (aj c2 2 rfl) <| .on rfl <| .step (v := .bool true) (h' := h) q2 <| .step (v := .bool true) (h' := h) rfl <| .step (v := .bool true) (h' := h) rfl <| .on rfl <| .step (v := .ptr j1 3) (h' := h) rfl <| .on rfl <| .step (v := bu e1.name) (h' := h) (aj c1 3 rfl) <| .on rfl <| .step (v := .ptr j2 3) (h' := h) rfl <| .on rfl <| .step (v := bu e2.name) (h' := h) (aj c2 3 rfl) <| .on rfl <| .step (v := .bool true) (h' := h) q3 <| .step (v := .bool true) (h' := h) rfl <| .step (v := .bool true) (h' := h) rfl <| .on rfl <| .step (v := .ptr j1 4) (h' := h) rfl <| .on rfl <| .step (v := bu e1.text) (h' := h) (aj c1 4 rfl) <| .on rfl <| .step (v := .ptr j2 4) (h' := h) rfl <| .on rfl <| .step (v := bu e2.text) (h' := h) (aj c2 4 rfl) <| .on rfl <| .step (v := .bool true) (h' := h) q4 <| .step (v := .bool true) (h' := h) rfl <| .step (v := .bool true) (h' := h) rfl <| .on rfl <| .step (v := .ptr j1 5) (h' := h) rfl <| .on rfl <| .step (v := x1) (h' := h) (aj c1 5 rfl) <| .on rfl <| .step (v := .ptr j2 5) (h' := h) rfl <| .on rfl <| .step (v := x2) (h' := h) (aj c2 5 rfl) <| .on rfl <| .call (v := .bool true) (h' := h) q5 <| .step (v := .bool true) (h' := h) rfl <| .step (v := .bool true) (h' := h) rfl <| .on rfl <| .step (v := .ptr j1 6) (h' := h) rfl <| .on rfl <| .step (v := y1) (h' := h) (aj c1 6 rfl) <| .on rfl <| .step (v := .ptr j2 6) (h' := h) rfl <| .on rfl <| .step (v := y2) (h' := h) (aj c2 6 rfl) <| .on rfl <| .call (v := .bool false) (h' := h) q6 <| .step (v := .bool false) (h' := h) rfl <| .step (v := .bool false) (h' := h) rfl <| .nil, by rw [decide_eq_false fun g => g6 (by rw [g])]; rfl⟩
 rw [decide_eq_true g6] at q6
 exact ⟨_, .step (v := .ptr j1 0) (h' := h) rfl <| .step (v := i64 e1.au) (h' := h) (aP c1 rfl) <| .step (v := .ptr j2 0) (h' := h) rfl <| .step (v := i64 e2.au) (h' := h) (aP c2 rfl) <| .step (v := .bool true) (h' := h) q0 <| .step (v := .bool true) (h' := h) rfl <| .on rfl <| .step (v := .ptr j1 1) (h' := h) rfl <| .on rfl <| .step (v := i64 e1.seq) (h' := h) (aj c1 1 rfl) <| .on rfl <| .step (v := .ptr j2 1) (h' := h) rfl <| .on rfl <| .step (v := i64 e2.seq) (h' := h) (aj c2 1 rfl) <| .on rfl <| .step (v := .bool true) (h' := h) q1 <| .step (v := .bool true) (h' := h) rfl <| .step (v := .bool true) (h' := h) rfl <| .on rfl <| .step (v := .ptr j1 2) (h' := h) rfl <| .on rfl <| .step (v := i64 e1.kind) (h' := h) (aj c1 2 rfl) <| .on rfl <| .step (v := .ptr j2 2) (h' := h) rfl <| .on rfl <| .step (v := i64 e2.kind) (h' := h) (aj c2 2 rfl) <| .on rfl <| .step (v := .bool true) (h' := h) q2 <| .step (v := .bool true) (h' := h) rfl <| .step (v := .bool true) (h' := h) rfl <| .on rfl <| .step (v := .ptr j1 3) (h' := h) rfl <| .on rfl <| .step (v := bu e1.name) (h' := h) (aj c1 3 rfl) <| .on rfl <| .step (v := .ptr j2 3) (h' := h) rfl <| .on rfl <| .step (v := bu e2.name) (h' := h) (aj c2 3 rfl) <| .on rfl <| .step (v := .bool true) (h' := h) q3 <| .step (v := .bool true) (h' := h) rfl <| .step (v := .bool true) (h' := h) rfl <| .on rfl <| .step (v := .ptr j1 4) (h' := h) rfl <| .on rfl <| .step (v := bu e1.text) (h' := h) (aj c1 4 rfl) <| .on rfl <| .step (v := .ptr j2 4) (h' := h) rfl <| .on rfl <| .step (v := bu e2.text) (h' := h) (aj c2 4 rfl) <| .on rfl <| .step (v := .bool true) (h' := h) q4 <| .step (v := .bool true) (h' := h) rfl <| .step (v := .bool true) (h' := h) rfl <| .on rfl <| .step (v := .ptr j1 5) (h' := h) rfl <| .on rfl <| .step (v := x1) (h' := h) (aj c1 5 rfl) <| .on rfl <| .step (v := .ptr j2 5) (h' := h) rfl <| .on rfl <| .step (v := x2) (h' := h) (aj c2 5 rfl) <| .on rfl <| .call (v := .bool true) (h' := h) q5 <| .step (v := .bool true) (h' := h) rfl <| .step (v := .bool true) (h' := h) rfl <| .on rfl <| .step (v := .ptr j1 6) (h' := h) rfl <| .on rfl <| .step (v := y1) (h' := h) (aj c1 6 rfl) <| .on rfl <| .step (v := .ptr j2 6) (h' := h) rfl <| .on rfl <| .step (v := y2) (h' := h) (aj c2 6 rfl) <| .on rfl <| .call (v := .bool true) (h' := h) q6 <| .step (v := .bool true) (h' := h) rfl <| .step (v := .bool true) (h' := h) rfl <| .nil, by rw [decide_eq_true (show e1 = e2 by cases e1; cases e2; simp_all)]; rfl⟩
theorem My (T : uC p) {l1 l2 : List AV} {e1 e2 : po} (W : Wf h) (a : vQ h l1 e1) (b : vQ h l2 e2) {B : Nat} (bd : xF B e1) (hB : B < 9223372036854775807) : ∃ h', Cv p 42 [.agg l1, .agg l2] h (.bool (decide (e1 = e2))) h' ∧ Old h h' ∧ Wf h' := by
 obtain ⟨x1, y1, rfl, r1, r2⟩ := a
 obtain ⟨x2, y2, rfl, r3, r4⟩ := b
 obtain ⟨j1, h1, f1, f2, f3, f4, f5, _⟩ := lj (el := 28) (l := cE x1 y1 e1) W (by simp [cE])
 obtain ⟨j2, h2, g1, g2, g3, g4, g5, _⟩ := lj (el := 28) (l := cE x2 y2 e2) f5 (by simp [cE])
 have O := f4.trans g4
 obtain ⟨r', o1, o2⟩ := JP (p := p) T ((Ob.c0 f3).old g4) (Ob.c0 g3) (aQ.up r1 O) (aQ.up r3 O) (aZ.up r2 O) (aZ.up r4 O) bd hB
 refine ⟨h2, .of (r' := r') (h1 := h2) T.e67 (by simp) (.di (r' := T40 (.ptr j1 0) (.ptr j2 0)) (h' := h2) (fun c i K => ?_) (.seq (.ops o1) .ret)) ?_, O, g5⟩
 ·simp only [k42_0, K2, dE, dF]
  (rw [jh f1, jh g1]; try rfl)
 ·show RV.ok (y4 r') h2 = _
  rw [o2]
theorem JQ (T : uC p) (e40 : ak 20 p.fs = f20) {s1 s2 : nX} (W : Wf h) (c1 : Cs h j1 0 (eZ x1 y1 s1)) (c2 : Cs h j2 0 (eZ x2 y2 s2)) (a1 : aQ h x1 s1.entry.bB) (a2 : aQ h x2 s2.entry.bB) (b1 : aZ h y1 s1.entry.changes) (b2 : aZ h y2 s2.entry.changes) {B : Nat} (bd : xF B s1.entry) (hB : B < 9223372036854775807) :
  ∃ r' h', Os p (opsL (fst (bh x20))) (T40 (.ptr j1 0) (.ptr j2 0)) h (.nm r' h') ∧ y4 r' = .bool (decide (s1 = s2)) ∧ Old h h' ∧ Wf h' := by
 have M1 := bD (m := 7) (Jx c1) (by simp [cE])
 have M2 := bD (m := 7) (Jx c2) (by simp [cE])
 obtain ⟨h', v5, O', W'⟩ := My (p := p) T W (e1 := s1.entry) (e2 := s2.entry) ⟨x1, y1, rfl, a1, b1⟩ ⟨x2, y2, rfl, a2, b2⟩ bd hB
 have q0 := Qj (h := h) s1.kind s2.kind
 by_cases g0 : s1.kind = s2.kind
 case neg =>
  rw [decide_eq_false g0] at q0
  exact ⟨_, _, .step (v := .ptr j1 0) (h' := h) rfl <| .step (v := i64 s1.kind) (h' := h) (aP c1 rfl) <| .step (v := .ptr j2 0) (h' := h) rfl <| .step (v := i64 s2.kind) (h' := h) (aP c2 rfl) <| .step (v := .bool false) (h' := h) q0 <| .step (v := .bool false) (h' := h) rfl <| .off rfl <| .off rfl <| .off rfl <| .off rfl <| .off rfl <| .step (v := .bool false) (h' := h) rfl <| .step (v := .bool false) (h' := h) rfl <| .off rfl <| .off rfl <| .off rfl <| .off rfl <| .off rfl <| .step (v := .bool false) (h' := h) rfl <| .step (v := .bool false) (h' := h) rfl <| .off rfl <| .off rfl <| .off rfl <| .off rfl <| .off rfl <| .step (v := .bool false) (h' := h) rfl <| .step (v := .bool false) (h' := h) rfl <| .off rfl <| .off rfl <| .off rfl <| .off rfl <| .off rfl <| .step (v := .bool false) (h' := h) rfl <| .step (v := .bool false) (h' := h) rfl <| .off rfl <| .off rfl <| .off rfl <| .off rfl <| .off rfl <| .step (v := .bool false) (h' := h) rfl <| .step (v := .bool false) (h' := h) rfl <| .nil, by rw [decide_eq_false fun g => g0 (by rw [g])]; rfl, .refl h, W⟩
 rw [decide_eq_true g0] at q0
 have q1 := Qj (h := h) s1.au s2.au
 by_cases g1 : s1.au = s2.au
 case neg =>
  rw [decide_eq_false g1] at q1
  exact ⟨_, _, .step (v := .ptr j1 0) (h' := h) rfl <| .step (v := i64 s1.kind) (h' := h) (aP c1 rfl) <| .step (v := .ptr j2 0) (h' := h) rfl <| .step (v := i64 s2.kind) (h' := h) (aP c2 rfl) <| .step (v := .bool true) (h' := h) q0 <| .step (v := .bool true) (h' := h) rfl <| .on rfl <| .step (v := .ptr j1 1) (h' := h) rfl <| .on rfl <| .step (v := i64 s1.au) (h' := h) (aj c1 1 rfl) <| .on rfl <| .step (v := .ptr j2 1) (h' := h) rfl <| .on rfl <| .step (v := i64 s2.au) (h' := h) (aj c2 1 rfl) <| .on rfl <| .step (v := .bool false) (h' := h) q1 <| .step (v := .bool false) (h' := h) rfl <| .step (v := .bool false) (h' := h) rfl <| .off rfl <| .off rfl <| .off rfl <| .off rfl <| .off rfl <| .step (v := .bool false) (h' := h) rfl <| .step (v := .bool false) (h' := h) rfl <| .off rfl <| .off rfl <| .off rfl <| .off rfl <| .off rfl <| .step (v := .bool false) (h' := h) rfl <| .step (v := .bool false) (h' := h) rfl <| .off rfl <| .off rfl <| .off rfl <| .off rfl <| .off rfl <| .step (v := .bool false) (h' := h) rfl <| .step (v := .bool false) (h' := h) rfl <| .off rfl <| .off rfl <| .off rfl <| .off rfl <| .off rfl <| .step (v := .bool false) (h' := h) rfl <| .step (v := .bool false) (h' := h) rfl <| .nil, by rw [decide_eq_false fun g => g1 (by rw [g])]; rfl, .refl h, W⟩
 rw [decide_eq_true g1] at q1
 have q2 := Qj (h := h) s1.node s2.node
 by_cases g2 : s1.node = s2.node
 case neg =>
  rw [decide_eq_false g2] at q2
  exact ⟨_, _, .step (v := .ptr j1 0) (h' := h) rfl <| .step (v := i64 s1.kind) (h' := h) (aP c1 rfl) <| .step (v := .ptr j2 0) (h' := h) rfl <| .step (v := i64 s2.kind) (h' := h) (aP c2 rfl) <| .step (v := .bool true) (h' := h) q0 <| .step (v := .bool true) (h' := h) rfl <| .on rfl <| .step (v := .ptr j1 1) (h' := h) rfl <| .on rfl <| .step (v := i64 s1.au) (h' := h) (aj c1 1 rfl) <| .on rfl <| .step (v := .ptr j2 1) (h' := h) rfl <| .on rfl <| .step (v := i64 s2.au) (h' := h) (aj c2 1 rfl) <| .on rfl <| .step (v := .bool true) (h' := h) q1 <| .step (v := .bool true) (h' := h) rfl <| .step (v := .bool true) (h' := h) rfl <| .on rfl <| .step (v := .ptr j1 2) (h' := h) rfl <| .on rfl <| .step (v := i64 s1.node) (h' := h) (aj c1 2 rfl) <| .on rfl <| .step (v := .ptr j2 2) (h' := h) rfl <| .on rfl <| .step (v := i64 s2.node) (h' := h) (aj c2 2 rfl) <| .on rfl <| .step (v := .bool false) (h' := h) q2 <| .step (v := .bool false) (h' := h) rfl <| .step (v := .bool false) (h' := h) rfl <| .off rfl <| .off rfl <| .off rfl <| .off rfl <| .off rfl <| .step (v := .bool false) (h' := h) rfl <| .step (v := .bool false) (h' := h) rfl <| .off rfl <| .off rfl <| .off rfl <| .off rfl <| .off rfl <| .step (v := .bool false) (h' := h) rfl <| .step (v := .bool false) (h' := h) rfl <| .off rfl <| .off rfl <| .off rfl <| .off rfl <| .off rfl <| .step (v := .bool false) (h' := h) rfl <| .step (v := .bool false) (h' := h) rfl <| .nil, by rw [decide_eq_false fun g => g2 (by rw [g])]; rfl, .refl h, W⟩
 rw [decide_eq_true g2] at q2
 have q3 := Qj (h := h) s1.n s2.n
 by_cases g3 : s1.n = s2.n
 case neg =>
  rw [decide_eq_false g3] at q3
  exact ⟨_, _, .step (v := .ptr j1 0) (h' := h) rfl <| .step (v := i64 s1.kind) (h' := h) (aP c1 rfl) <| .step (v := .ptr j2 0) (h' := h) rfl <| .step (v := i64 s2.kind) (h' := h) (aP c2 rfl) <| .step (v := .bool true) (h' := h) q0 <| .step (v := .bool true) (h' := h) rfl <| .on rfl <| .step (v := .ptr j1 1) (h' := h) rfl <| .on rfl <| .step (v := i64 s1.au) (h' := h) (aj c1 1 rfl) <| .on rfl <| .step (v := .ptr j2 1) (h' := h) rfl <| .on rfl <| .step (v := i64 s2.au) (h' := h) (aj c2 1 rfl) <| .on rfl <| .step (v := .bool true) (h' := h) q1 <| .step (v := .bool true) (h' := h) rfl <| .step (v := .bool true) (h' := h) rfl <| .on rfl <| .step (v := .ptr j1 2) (h' := h) rfl <| .on rfl <| .step (v := i64 s1.node) (h' := h) (aj c1 2 rfl) <| .on rfl <| .step (v := .ptr j2 2) (h' := h) rfl <| .on rfl <| .step (v := i64 s2.node) (h' := h) (aj c2 2 rfl) <| .on rfl <| .step (v := .bool true) (h' := h) q2 <| .step (v := .bool true) (h' := h) rfl <| .step (v := .bool true) (h' := h) rfl <| .on rfl <| .step (v := .ptr j1 3) (h' := h) rfl <| .on rfl <| .step (v := i64 s1.n) (h' := h) (aj c1 3 rfl) <| .on rfl <| .step (v := .ptr j2 3) (h' := h) rfl <| .on rfl <| .step (v := i64 s2.n) (h' := h) (aj c2 3 rfl) <| .on rfl <| .step (v := .bool false) (h' := h) q3 <| .step (v := .bool false) (h' := h) rfl <| .step (v := .bool false) (h' := h) rfl <| .off rfl <| .off rfl <| .off rfl <| .off rfl <| .off rfl <| .step (v := .bool false) (h' := h) rfl <| .step (v := .bool false) (h' := h) rfl <| .off rfl <| .off rfl <| .off rfl <| .off rfl <| .off rfl <| .step (v := .bool false) (h' := h) rfl <| .step (v := .bool false) (h' := h) rfl <| .nil, by rw [decide_eq_false fun g => g3 (by rw [g])]; rfl, .refl h, W⟩
 rw [decide_eq_true g3] at q3
 have q4 := eqs (h := h) s1.name s2.name
 by_cases g4 : s1.name = s2.name
 case neg =>
  rw [decide_eq_false g4] at q4
  exact ⟨_, _, .step (v := .ptr j1 0) (h' := h) rfl <| .step (v := i64 s1.kind) (h' := h) (aP c1 rfl) <| .step (v := .ptr j2 0) (h' := h) rfl <| .step (v := i64 s2.kind) (h' := h) (aP c2 rfl) <| .step (v := .bool true) (h' := h) q0 <| .step (v := .bool true) (h' := h) rfl <| .on rfl <| .step (v := .ptr j1 1) (h' := h) rfl <| .on rfl <| .step (v := i64 s1.au) (h' := h) (aj c1 1 rfl) <| .on rfl <| .step (v := .ptr j2 1) (h' := h) rfl <| .on rfl <| .step (v := i64 s2.au) (h' := h) (aj c2 1 rfl) <| .on rfl <| .step (v := .bool true) (h' := h) q1 <| .step (v := .bool true) (h' := h) rfl <| .step (v := .bool true) (h' := h) rfl <| .on rfl <| .step (v := .ptr j1 2) (h' := h) rfl <| .on rfl <| .step (v := i64 s1.node) (h' := h) (aj c1 2 rfl) <| .on rfl <| .step (v := .ptr j2 2) (h' := h) rfl <| .on rfl <| .step (v := i64 s2.node) (h' := h) (aj c2 2 rfl) <| .on rfl <| .step (v := .bool true) (h' := h) q2 <| .step (v := .bool true) (h' := h) rfl <| .step (v := .bool true) (h' := h) rfl <| .on rfl <| .step (v := .ptr j1 3) (h' := h) rfl <| .on rfl <| .step (v := i64 s1.n) (h' := h) (aj c1 3 rfl) <| .on rfl <| .step (v := .ptr j2 3) (h' := h) rfl <| .on rfl <| .step (v := i64 s2.n) (h' := h) (aj c2 3 rfl) <| .on rfl <| .step (v := .bool true) (h' := h) q3 <| .step (v := .bool true) (h' := h) rfl <| .step (v := .bool true) (h' := h) rfl <| .on rfl <| .step (v := .ptr j1 4) (h' := h) rfl <| .on rfl <| .step (v := bu s1.name) (h' := h) (aj c1 4 rfl) <| .on rfl <| .step (v := .ptr j2 4) (h' := h) rfl <| .on rfl <| .step (v := bu s2.name) (h' := h) (aj c2 4 rfl) <| .on rfl <| .step (v := .bool false) (h' := h) q4 <| .step (v := .bool false) (h' := h) rfl <| .step (v := .bool false) (h' := h) rfl <| .off rfl <| .off rfl <| .off rfl <| .off rfl <| .off rfl <| .step (v := .bool false) (h' := h) rfl <| .step (v := .bool false) (h' := h) rfl <| .nil, by rw [decide_eq_false fun g => g4 (by rw [g])]; rfl, .refl h, W⟩
 rw [decide_eq_true g4] at q4
 have q5 := v5
 by_cases g5 : s1.entry = s2.entry
 case neg =>
  rw [decide_eq_false g5] at q5
  exact ⟨_, _, .step (v := .ptr j1 0) (h' := h) rfl <| .step (v := i64 s1.kind) (h' := h) (aP c1 rfl) <| .step (v := .ptr j2 0) (h' := h) rfl <| .step (v := i64 s2.kind) (h' := h) (aP c2 rfl) <| .step (v := .bool true) (h' := h) q0 <| .step (v := .bool true) (h' := h) rfl <| .on rfl <| .step (v := .ptr j1 1) (h' := h) rfl <| .on rfl <| .step (v := i64 s1.au) (h' := h) (aj c1 1 rfl) <| .on rfl <| .step (v := .ptr j2 1) (h' := h) rfl <| .on rfl <| .step (v := i64 s2.au) (h' := h) (aj c2 1 rfl) <| .on rfl <| .step (v := .bool true) (h' := h) q1 <| .step (v := .bool true) (h' := h) rfl <| .step (v := .bool true) (h' := h) rfl <| .on rfl <| .step (v := .ptr j1 2) (h' := h) rfl <| .on rfl <| .step (v := i64 s1.node) (h' := h) (aj c1 2 rfl) <| .on rfl <| .step (v := .ptr j2 2) (h' := h) rfl <| .on rfl <| .step (v := i64 s2.node) (h' := h) (aj c2 2 rfl) <| .on rfl <| .step (v := .bool true) (h' := h) q2 <| .step (v := .bool true) (h' := h) rfl <| .step (v := .bool true) (h' := h) rfl <| .on rfl <| .step (v := .ptr j1 3) (h' := h) rfl <| .on rfl <| .step (v := i64 s1.n) (h' := h) (aj c1 3 rfl) <| .on rfl <| .step (v := .ptr j2 3) (h' := h) rfl <| .on rfl <| .step (v := i64 s2.n) (h' := h) (aj c2 3 rfl) <| .on rfl <| .step (v := .bool true) (h' := h) q3 <| .step (v := .bool true) (h' := h) rfl <| .step (v := .bool true) (h' := h) rfl <| .on rfl <| .step (v := .ptr j1 4) (h' := h) rfl <| .on rfl <| .step (v := bu s1.name) (h' := h) (aj c1 4 rfl) <| .on rfl <| .step (v := .ptr j2 4) (h' := h) rfl <| .on rfl <| .step (v := bu s2.name) (h' := h) (aj c2 4 rfl) <| .on rfl <| .step (v := .bool true) (h' := h) q4 <| .step (v := .bool true) (h' := h) rfl <| .step (v := .bool true) (h' := h) rfl <| .on rfl <| .step (v := .ptr j1 5) (h' := h) rfl <| .on rfl <| .step (v := .agg (cE x1 y1 s1.entry)) (h' := h) M1 <| .on rfl <| .step (v := .ptr j2 5) (h' := h) rfl <| .on rfl <| .step (v := .agg (cE x2 y2 s2.entry)) (h' := h) M2 <| .on rfl <| .call (v := .bool false) (h' := h') q5 <| .step (v := .bool false) (h' := h') rfl <| .step (v := .bool false) (h' := h') rfl <| .nil, by rw [decide_eq_false fun g => g5 (by rw [g])]; rfl, O', W'⟩
 rw [decide_eq_true g5] at q5
 exact ⟨_, _, .step (v := .ptr j1 0) (h' := h) rfl <| .step (v := i64 s1.kind) (h' := h) (aP c1 rfl) <| .step (v := .ptr j2 0) (h' := h) rfl <| .step (v := i64 s2.kind) (h' := h) (aP c2 rfl) <| .step (v := .bool true) (h' := h) q0 <| .step (v := .bool true) (h' := h) rfl <| .on rfl <| .step (v := .ptr j1 1) (h' := h) rfl <| .on rfl <| .step (v := i64 s1.au) (h' := h) (aj c1 1 rfl) <| .on rfl <| .step (v := .ptr j2 1) (h' := h) rfl <| .on rfl <| .step (v := i64 s2.au) (h' := h) (aj c2 1 rfl) <| .on rfl <| .step (v := .bool true) (h' := h) q1 <| .step (v := .bool true) (h' := h) rfl <| .step (v := .bool true) (h' := h) rfl <| .on rfl <| .step (v := .ptr j1 2) (h' := h) rfl <| .on rfl <| .step (v := i64 s1.node) (h' := h) (aj c1 2 rfl) <| .on rfl <| .step (v := .ptr j2 2) (h' := h) rfl <| .on rfl <| .step (v := i64 s2.node) (h' := h) (aj c2 2 rfl) <| .on rfl <| .step (v := .bool true) (h' := h) q2 <| .step (v := .bool true) (h' := h) rfl <| .step (v := .bool true) (h' := h) rfl <| .on rfl <| .step (v := .ptr j1 3) (h' := h) rfl <| .on rfl <| .step (v := i64 s1.n) (h' := h) (aj c1 3 rfl) <| .on rfl <| .step (v := .ptr j2 3) (h' := h) rfl <| .on rfl <| .step (v := i64 s2.n) (h' := h) (aj c2 3 rfl) <| .on rfl <| .step (v := .bool true) (h' := h) q3 <| .step (v := .bool true) (h' := h) rfl <| .step (v := .bool true) (h' := h) rfl <| .on rfl <| .step (v := .ptr j1 4) (h' := h) rfl <| .on rfl <| .step (v := bu s1.name) (h' := h) (aj c1 4 rfl) <| .on rfl <| .step (v := .ptr j2 4) (h' := h) rfl <| .on rfl <| .step (v := bu s2.name) (h' := h) (aj c2 4 rfl) <| .on rfl <| .step (v := .bool true) (h' := h) q4 <| .step (v := .bool true) (h' := h) rfl <| .step (v := .bool true) (h' := h) rfl <| .on rfl <| .step (v := .ptr j1 5) (h' := h) rfl <| .on rfl <| .step (v := .agg (cE x1 y1 s1.entry)) (h' := h) M1 <| .on rfl <| .step (v := .ptr j2 5) (h' := h) rfl <| .on rfl <| .step (v := .agg (cE x2 y2 s2.entry)) (h' := h) M2 <| .on rfl <| .call (v := .bool true) (h' := h') q5 <| .step (v := .bool true) (h' := h') rfl <| .step (v := .bool true) (h' := h') rfl <| .nil, by rw [decide_eq_true (show s1 = s2 by cases s1; cases s2; simp_all)]; rfl, O', W'⟩
theorem Dr (T : uC p) (e40 : ak 20 p.fs = f20) {l1 l2 : List AV} {s1 s2 : nX} (W : Wf h) (a : eu h l1 s1) (b : eu h l2 s2) {B : Nat} (bd : xF B s1.entry) (hB : B < 9223372036854775807) : ∃ h', Cv p 20 [.agg l1, .agg l2] h (.bool (decide (s1 = s2))) h' ∧ Old h h' ∧ Wf h' := by
 obtain ⟨x1, y1, rfl, r1, r2⟩ := a
 obtain ⟨x2, y2, rfl, r3, r4⟩ := b
 obtain ⟨j1, h1, f1, f2, f3, f4, f5, _⟩ := lj (el := 30) (l := eZ x1 y1 s1) W (by simp [eZ, cE])
 obtain ⟨j2, h2, g1, g2, g3, g4, g5, _⟩ := lj (el := 30) (l := eZ x2 y2 s2) f5 (by simp [eZ, cE])
 have O := f4.trans g4
 obtain ⟨r', h3, o1, o2, o3, o4⟩ := JQ (p := p) T e40 g5 ((Ob.c0 f3).old g4) (Ob.c0 g3) (aQ.up r1 O) (aQ.up r3 O) (aZ.up r2 O) (aZ.up r4 O) bd hB
 refine ⟨h3, .of (r' := r') (h1 := h3) e40 (by simp) (.di (r' := T40 (.ptr j1 0) (.ptr j2 0)) (h' := h2) (fun c i K => ?_) (.seq (.ops o1) .ret)) ?_, O.trans o3, o4⟩
 ·simp only [k20_0, K2, dE, dF]
  (rw [jh f1, jh g1]; try rfl)
 ·show RV.ok (y4 r') h3 = _
  rw [o2]
theorem JR (T : uC p) (e40 : ak 20 p.fs = f20) (e14 : ak 9 p.fs = f9) {r1 r2 : List nX} (W : Wf h) (a : dc h x r1) (b : dc h y r2) (hn : r1.length < 9223372036854775807) {B : Nat} (bd : ∀ s, s ∈ r1 → xF B s.entry) (hB : B < 9223372036854775807) :
  ∃ h', (Old h h' ∧ Wf h') ∧ Cv p 9 [x, y] h (.bool (decide (r1 = r2))) h' := by
 obtain ⟨q1, o1, sl1, g1⟩ := cT.sl a
 obtain ⟨q2, o2, sl2, g2⟩ := cT.sl b
 refine ua (p := p) (x := x) (y := y) (as := r1) (bs := r2) e14 (R := fun i => T21 x y (i64 i)) (Re := T5) (Q := fun h' => Old h h' ∧ Wf h') ⟨.refl h, W⟩
  (zW (cT.len a) (cT.len b) fun c i K => by simp only [k9_0, K2, dE, dF]) (fun c i K => by simp only [k9_1, K2, gJ, gK]; rfl) (fun c i K h' => rfl)
  (fun hl i h' hi hj Q e => ?_) (fun hl i h' hi hj Q e => ?_) (fun h' Q => ?_)
 ·obtain ⟨O, W'⟩ := Q
  obtain ⟨l, l1, l2, l3⟩ := g1 i hi
  obtain ⟨m, m1, m2, m3⟩ := g2 i hj
  obtain ⟨h2, c, O2, W2⟩ := Dr (p := p) T e40 W' (eu.up l3 O) (eu.up m3 O) (bd _ (by simp)) hB
  rw [decide_eq_true e] at c
  refine ⟨h2, ⟨O.trans O2, W2⟩, .to (r' := T21 x y (i64 i)) (h' := h2) (c.mono fun n gg K => ?_) (.aJ fun c' i' K => ?_)⟩
  ·simp only [k9_2, K3, fU, fV, fW]
   (rw [aR (cT.len (dc.up a O)), aV, bC, if_pos (by omega), al (bS sl1 hi), al (bD (l2.old O) l1), al (bS sl2 hj), al (bD (m2.old O) m1), NN gg, al (dQ _), Bool.not_true, dP]; try rfl)
  ·simp only [k9_3, K3, fU, fV, fW]
   (rw [dj hi hn]; try rfl)
 ·obtain ⟨O, W'⟩ := Q
  obtain ⟨l, l1, l2, l3⟩ := g1 i hi
  obtain ⟨m, m1, m2, m3⟩ := g2 i hj
  obtain ⟨h2, c, O2, W2⟩ := Dr (p := p) T e40 W' (eu.up l3 O) (eu.up m3 O) (bd _ (by simp)) hB
  rw [decide_eq_false e] at c
  refine ⟨h2, ⟨O.trans O2, W2⟩, .ag (c.mono fun n gg => ?_)⟩
  simp only [k9_2, K3, fU, fV, fW]
  (rw [aR (cT.len (dc.up a O)), aV, bC, if_pos (by omega), al (bS sl1 hi), al (bD (l2.old O) l1), al (bS sl2 hj), al (bD (m2.old O) m1), NN gg, al (dQ _), Bool.not_false, ew]; try rfl)
 ·obtain ⟨O, W'⟩ := Q
  refine .aJ fun c i' K => ?_
  simp only [k9_2, K3, fU, fV, fW]
  (rw [aR (cT.len (dc.up a O)), aV, bC, if_neg (by omega)]; try rfl)
theorem EW (e13 : ak 7 p.fs = f7) (c : Int) (hc : cS c) (n : Nat) (hn : n < 4611686018427387904) : ∃ k : Nat, k ≤ n ∧ Cv p 7 [i64 c, i0, i64 n] h (i64 k) h := by
 have w1 : ∀ K : AV → Hp → RS, Seat.Z (i64 n) i0 h K = K (i64 n) h := fun K => by
  show Seat.Z (i64 n) (i64 0) h K = _
  rw [vK, gW _ (by unfold cS; omega)]
  simp
 have w2 : ∀ K : AV → Hp → RS, Seat.D (i64 n) i1 h K = K (i64 ((n + 1 : Nat) : Int)) h := fun K => by
  show Seat.D (i64 n) (i64 1) h K = _
  rw [lh, gW _ (by unfold cS; omega)]; rfl
 have w3 : BZ (i64 c) (i64 ((n + 1 : Nat) : Int)) h = .ok (i64 (c.tmod ((n + 1 : Nat) : Int))) h := by
  have : FN c (Int.ofNat (n + 1)) = c.tmod (Int.ofNat (n + 1)) := by cases c <;> rfl
  show Ku (.int .i64 (FN c (Int.ofNat (n + 1)))) h = _
  rw [this]; rfl
 have hb1 : -((n : Int)) ≤ c.tmod ((n + 1 : Nat) : Int) ∧ c.tmod ((n + 1 : Nat) : Int) ≤ n := by
  have a1 := Int.tmod_lt_of_pos c (show (0 : Int) < ((n + 1 : Nat) : Int) by omega)
  have a2 := Int.lt_tmod_of_pos c (show (0 : Int) < ((n + 1 : Nat) : Int) by omega)
  omega
 generalize hg : c.tmod ((n + 1 : Nat) : Int) = g at *
 by_cases hneg : g < 0
 ·refine ⟨(g + (n + 1)).toNat, by omega, .of (r' := T37 (i64 ((g + (n + 1)).toNat : Nat))) (h1 := h) e13 (by simp) (.di (r' := T36 (i64 (g + (n + 1))) i0) (h' := h) (fun c i K => ?_) (.aJ fun c i K => ?_)) rfl⟩
  ·simp only [k7_0, K3, qH, qI, qJ]
   have d1 : ∀ K : AV → Hp → RS, Seat.D (i64 g) (i64 n) h K = K (i64 (g + n)) h := fun K => by rw [lh, gW _ (by unfold cS; omega)]
   have d2 : ∀ K : AV → Hp → RS, Seat.Z (i64 (g + n)) i0 h K = K (i64 (g + n)) h := fun K => by
    show Seat.Z (i64 (g + n)) (i64 0) h K = _
    rw [vK, gW _ (by unfold cS; omega)]
    simp
   have d3 : ∀ K : AV → Hp → RS, Seat.D (i64 (g + n)) i1 h K = K (i64 (g + (n + 1))) h := fun K => by
    show Seat.D (i64 (g + n)) (i64 1) h K = _
    rw [lh, gW _ (by unfold cS; omega), Int.add_assoc]
   have y0 : ∀ K : AV → Hp → RS, Seat.Y (i64 g) i0 h K = K (.bool true) h := fun K => by
    show Seat.Y (i64 g) (i64 0) h K = _
    rw [aV, decide_eq_true hneg]
   (rw [w1, w2, aw w3, y0, ew, d1, d2, d3]; try rfl)
  ·simp only [k7_1, K2, gJ, gK]
   have d4 : ∀ K : AV → Hp → RS, Seat.D i0 (i64 (g + (n + 1))) h K = K (i64 ((g + (n + 1)).toNat : Nat)) h := fun K => by
    show Seat.D (i64 0) (i64 (g + (n + 1))) h K = _
    rw [lh, gW _ (by unfold cS; omega), show (0 : Int) + (g + (n + 1)) = (((g + (n + 1)).toNat : Nat) : Int) by omega]
   (rw [d4]; try rfl)
 ·refine ⟨g.toNat, by omega, .of (r' := T37 (i64 (g.toNat : Nat))) (h1 := h) e13 (by simp) (.di (r' := T36 (i64 g) i0) (h' := h) (fun c i K => ?_) (.aJ fun c i K => ?_)) rfl⟩
  ·simp only [k7_0, K3, qH, qI, qJ]
   have y0 : ∀ K : AV → Hp → RS, Seat.Y (i64 g) i0 h K = K (.bool false) h := fun K => by
    show Seat.Y (i64 g) (i64 0) h K = _
    rw [aV, decide_eq_false hneg]
   (rw [w1, w2, aw w3, y0, dP]; try rfl)
  ·simp only [k7_1, K2, gJ, gK]
   have d4 : ∀ K : AV → Hp → RS, Seat.D i0 (i64 g) h K = K (i64 (g.toNat : Nat)) h := fun K => by
    show Seat.D (i64 0) (i64 g) h K = _
    rw [lh, gW _ (by unfold cS; omega), show (0 : Int) + g = ((g.toNat : Nat) : Int) by omega]
   (rw [d4]; try rfl)
end
open Go.Cod
noncomputable section
variable {p : Pg} {h0 h h' h1 h2 h3 : Hp} {q j k js : P4} {s : Bs} {x y xc xg : AV} {r rr : Rd} {L : List AV}
def Fz (q j : P4) (h h' : Hp) : Prop := ∀ k, k ≠ q → k ≠ j → ah k h ≠ .none → ah k h' = ah k h
theorem Fz.refl (q j : P4) (h : Hp) : Fz q j h h := fun _ _ _ _ => rfl
theorem Fz.trans (a : Fz q j h h1) (b : Fz q j h1 h2) : Fz q j h h2 := fun k hq hj hk => (b k hq hj (by rw [a k hq hj hk]; exact hk)).trans (a k hq hj hk)
theorem Fz.fst (F : Fr q h h') : Fz q j h h' := fun k hq _ hk => F k hq hk
theorem Fz.snd (F : Fr j h h') : Fz q j h h' := fun k _ hj hk => F k hj hk
theorem Fz.of (O : Old h h') : Fz q j h h' := fun k _ _ hk => O k hk
theorem Fz.old (F : Fz q j h h') (O : Old h0 h) (hq : ah q h0 = .none) (hj : ah j h0 = .none) : Old h0 h' := fun k hk => by
 have e := O k hk
 rw [F k (fun g => by rw [g] at hk; exact hk hq) (fun g => by rw [g] at hk; exact hk hj) (by rw [e]; exact hk), e]
theorem Fz.set (F : Fz q j h h') (hk : ah k h = .none) (g : ∀ i, i ≠ k → ah i h1 = ah i h') : Fz q j h h1 := fun i hq hj hn => by
 rw [g i (fun e => by rw [e] at hn; exact hn hk), F i hq hj hn]
theorem Fz.none (F : Fz q j h h') (hq : ah q h' ≠ .none) (hj : ah j h' ≠ .none) (hk : ah k h' = .none) : ah k h = .none := by
 have e1 : k ≠ q := fun e => by rw [e] at hk; exact hq hk
 have e2 : k ≠ j := fun e => by rw [e] at hk; exact hj hk
 cases g : ah k h with
 | none => rfl
 | _ =>
  have := F k e1 e2 (by rw [g]; simp)
  rw [hk, g] at this
  cases this
theorem JS (W : Wf h) (s : Bs) (hl : s.length ≤ 16777216) : ∃ v h', cK (.Qy 5) (bu s) h = .ok v h' ∧ dW h' v s ∧ Old h h' ∧ Wf h' := by
 have e : cK (.Qy 5) (bu s) h = ij 5 false .mark (bc s).length (ng (bc s)) h (fun i h => .ok (.ft i 0 s.length 1) h) := by
  show ma 5 .mark 1 (s.map UInt8.toNat).length (byteCells (s.map UInt8.toNat)) h = _
  rw [oQ, List.length_map]
  have ec : (s.map UInt8.toNat).map (fun b : Nat => AV.int .u8 (b : Int)) = bc s := by simp [bc]
  rw [ec]; rfl
 have hl' : (bc s).length ≤ 16777216 := by rw [bw]; exact hl
 obtain ⟨q, h', e1, e2, e3, e4, e5, _⟩ := tx (el := 5) (ex := false) (fl := .mark) W (bc s) (c := ng (bc s)) (Gd.of (bc s) hl') (fun k hk => jR (bc s) hl' k hk) (fun i h => .ok (.ft i 0 s.length 1) h)
 exact ⟨_, h', by rw [e, e1], ⟨q, 0, s.length, .inr (.inl rfl), rfl, fun _ => Ob.c0 e3⟩, e4, e5⟩
def sq (s : pW) : nX := ⟨s.kind, s.au, s.node, s.n, s.name, s.entry⟩
theorem ub (T : oZ p) (w : gF h q r) (o : Ob h js 30 true .plain L) (hL : L.length = 12) (hj : js ≠ q) {n3 : P4} (c3 : Cs h n3 0 [.ptr js 1, .ptr js 2, .ptr js 3]) (n3q : n3 ≠ q) (n3j : n3 ≠ js) {i : Nat} (hi : i < 3) :
  ∃ h2, Wf h2 ∧ Fz q js h h2 ∧ ((small (aq r).1 = true ∧ Rn p (.ag qm (.ag rJ (.ag uK .skip))) (T38 (.ptr q 0) (.ptr js 0) (.slice n3 0 3 3) (i64 3) (i64 i)) h (.nm (T38 (.ptr q 0) (.ptr js 0) (.slice n3 0 3 3) (i64 3) (i64 (i + 1 : Nat))) h2) ∧ gF h2 q (aq r).2 ∧ Ob h2 js 30 true .plain (L.set (1 + i) (i64 (aq r).1)) ∧ Cs h2 n3 0 [.ptr js 1, .ptr js 2, .ptr js 3]) ∨
   (small (aq r).1 = false ∧ Rn p (.ag qm (.ag rJ (.ag uK .skip))) (T38 (.ptr q 0) (.ptr js 0) (.slice n3 0 3 3) (i64 3) (i64 i)) h (.ret (T18 (.bool false)) h2))) := by
 obtain ⟨h1, c1, w1, F1⟩ := iM T w
 generalize hg : (aq r).1 = n at *
 have o1 := F1.ob o hj
 have sl : vL (.slice n3 0 3 3) 1 3 n3 0 := .inl ⟨3, rfl⟩
 have lp : lD (.ptr n3 (0 + i * 1)) h = .ok (.ptr js (1 + i)) h := by
  have := aj c3 i (v := .ptr js (1 + i)) (by
   match i, hi with
   | 0, _ => rfl
   | 1, _ => rfl
   | 2, _ => rfl)
  rw [Nat.mul_one]; exact this
 have t2 : ∀ c i' (K : A2 → Hp → RS), qm c i' K (T38 (.ptr q 0) (.ptr js 0) (.slice n3 0 3 3) (i64 3) (i64 i)) h = K (T38 (.ptr q 0) (.ptr js 0) (.slice n3 0 3 3) (i64 3) (i64 i)) h := fun c i' K => by
  simp only [qm, K5, zy, zz, tp, tq, tr]
  (rw [aV, bC, if_pos (by omega)]; try rfl)
 cases hs : small n with
 | true =>
  obtain ⟨h2, k1, k2, k3, k4⟩ := cP (k := 1 + i) (v := i64 n) o1 (by omega) rfl
  refine ⟨h2, dt w1.wf o1 k3 k4, (Fz.fst F1).trans (.snd fun j hj _ => k3 j hj), .inl ⟨rfl, .di t2 (.to (r' := T38 (.ptr q 0) (.ptr js 0) (.slice n3 0 3 3) (i64 3) (i64 i)) (h' := h2) (c1.mono fun m g K => ?_) (.aJ fun c i' K => ?_)), w1.fr o1 (by decide) (fun j hj _ => k3 j hj) (dt w1.wf o1 k3 k4), k2, ?_⟩⟩
  ·simp only [rJ, K5, zy, zz, tp, tq, tr]
   (rw [cN (bS sl hi), aD lp, aF g]; try rfl)
   show Seat.Y (.int .i64 n) (.int .i64 (.negSucc 2147483647)) h1 _ = _
   (rw [mB, hs, Bool.not_true, dP, cu, cJ k1]; try rfl)
  ·simp only [uK, K5, zy, zz, tp, tq, tr]
   (rw [dj (n := 3) hi (by omega)]; try rfl)
  ·exact (c3.eq (F1 n3 n3q c3.ne)).eq (k3 n3 n3j)
 | false =>
  refine ⟨h1, w1.wf, .fst F1, .inr ⟨rfl, .di t2 (.ag (c1.mono fun m g => ?_))⟩⟩
  simp only [rJ, K5, zy, zz, tp, tq, tr]
  (rw [cN (bS sl hi), aD lp, aF g]; try rfl)
  show Seat.Y (.int .i64 n) (.int .i64 (.negSucc 2147483647)) h1 _ = _
  (rw [mB, hs, Bool.not_false, ew]; try rfl)
theorem Mz {n3 : P4} : Rn p (.ag qm (.ag rJ (.ag uK .skip))) (T38 (.ptr q 0) (.ptr js 0) (.slice n3 0 3 3) (i64 3) (i64 (3 : Nat))) h (.ex 0 (T36 (.ptr q 0) (.ptr js 0)) h) := .aJ fun c i' K => by
 simp only [qm, K5, zy, zz, tp, tq, tr]
 (rw [aV, bC, if_neg (by omega)]; try rfl)
structure NY (p : Pg) : Prop where
 e : JF p
 e27 : ak 45 p.fs = f45
 e39 : ak 24 p.fs = f24
abbrev zY (n : Int) : List AV := [i64 n, i0, i0, i0, iS, i0, i0, i0, iS, iS, .ai, .ai]
theorem MA (T : NY p) {kk : Nat} (w : gF h q r) (o : Ob h js 30 true .plain (zY kk)) :
  ∃ b h', Cv p 24 [.ptr q 0, .ptr js 0] h (.bool b) h' ∧ Wf h' ∧ Fz q js h h' ∧ ((b = true ∧ ∃ st l xc xg, jT kk r = some (st, l) ∧ gF h' q (some l) ∧ Ob h' js 30 true .plain (eZ xc xg (sq st)) ∧ dh h' xc 42 2 (st.entry.bB.flatMap Jt) (fun j => ah j h = .none) ∧ pc (fun j => ah j h = .none) h' xg st.entry.changes ∧ xF 65535 st.entry) ∨
   (b = false ∧ jT kk r = none)) := by
 have hj : js ≠ q := w.apart o (by decide)
 obtain ⟨n3, h1, a1, a2, a3, a4, a5⟩ := BG (p := p) (j := js) T.e27 w.wf
 have w1 := w.up a3 a4
 have o1 := o.old a3
 have n3q : n3 ≠ q := fun e => w.ne (e ▸ a5)
 have n3j : n3 ≠ js := fun e => o.ne (e ▸ a5)
 have s0 : ∀ c i (K : A2 → Hp → RS), k24_0 c i K (bE [.ptr q 0, .ptr js 0] 0 .nil) h = K (T36 (.ptr q 0) (.ptr js 0)) h := fun c i K => by simp only [k24_0, K2, dE, dF]
 have s1 : Ev fun m => ∀ K : A2 → Hp → RS, k24_1 (aB p (exec p m)) (aH p (exec p m)) K (T36 (.ptr q 0) (.ptr js 0)) h = K (T38 (.ptr q 0) (.ptr js 0) (.slice n3 0 3 3) (i64 3) (i64 (0 : Nat))) h1 := a1.mono fun m g K => by
  simp only [k24_1, K2, gJ, gK]
  have sl : vL (.slice n3 0 3 3) 1 3 n3 0 := .inl ⟨3, rfl⟩
  (rw [aF g, aR (fg sl)]; try rfl)
 have no : ∀ hh, (Rn p (.loop (.ag qm (.ag rJ (.ag uK .skip)))) (T38 (.ptr q 0) (.ptr js 0) (.slice n3 0 3 3) (i64 3) (i64 (0 : Nat))) h1 (.ret (T18 (.bool false)) hh)) → Cv p 24 [.ptr q 0, .ptr js 0] h (.bool false) hh := fun hh g =>
  .of (r' := T18 (.bool false)) (h1 := hh) T.e39 (by simp) (.di s0 (.cX (.to s1 (.cA g)))) rfl
 obtain ⟨h2, W2, G2, ⟨m1, k1, w2, o2, c2⟩ | ⟨m1, k1⟩⟩ := ub (p := p) T.e.d w1 o1 rfl hj a2 n3q n3j (i := 0) (by omega)
 case inr =>
  refine ⟨false, h2, no _ (.dV k1), W2, (Fz.of a3).trans G2, .inr ⟨rfl, ?_⟩⟩
  unfold jT
  simp only [m1, Bool.false_and, Bool.false_eq_true, if_false]
  split <;> rfl
 obtain ⟨h3, W3, G3, ⟨m2, k2, w3, o3, c3⟩ | ⟨m2, k2⟩⟩ := ub (p := p) T.e.d w2 o2 rfl hj c2 n3q n3j (i := 1) (by omega)
 case inr =>
  refine ⟨false, h3, no _ (.loop k1 (.dV k2)), W3, ((Fz.of a3).trans G2).trans G3, .inr ⟨rfl, ?_⟩⟩
  unfold jT
  simp only [m2, Bool.false_and, Bool.and_false, Bool.false_eq_true, if_false]
  split <;> rfl
 obtain ⟨h4, W4, G4, ⟨m3, k3, w4, o4, c4⟩ | ⟨m3, k3⟩⟩ := ub (p := p) T.e.d w3 o3 rfl hj c3 n3q n3j (i := 2) (by omega)
 case inr =>
  refine ⟨false, h4, no _ (.loop k1 (.loop k2 (.dV k3))), W4, (((Fz.of a3).trans G2).trans G3).trans G4, .inr ⟨rfl, ?_⟩⟩
  unfold jT
  simp only [m3, Bool.and_false, Bool.false_eq_true, if_false]
  split <;> rfl
 have G14 : Fz q js h h4 := (((Fz.of a3).trans G2).trans G3).trans G4
 generalize hA : aq r = A at *
 generalize hB : aq A.2 = B at *
 generalize hC : aq B.2 = C at *
 have o4 : Ob h4 js 30 true .plain [i64 kk, i64 A.1, i64 B.1, i64 C.1, iS, i0, i0, i0, iS, iS, .ai, .ai] := o4
 -- the name
 obtain ⟨h5, c5, w5, F5⟩ := iO T.e.d w4 255
 generalize hD : aL 255 C.2 = D at *
 have o5 := F5.ob o4 hj
 obtain ⟨h6, b1, b2, b3, b4⟩ := cP (k := 4) (v := bu D.1) o5 (by simp) rfl
 have b2 : Ob h6 js 30 true .plain [i64 kk, i64 A.1, i64 B.1, i64 C.1, bu D.1, i0, i0, i0, iS, iS, .ai, .ai] := b2
 have w6 := w5.fr o5 (by decide) (fun j hj _ => b3 j hj) (dt w5.wf o5 b3 b4)
 -- the entry
 obtain ⟨h7, c7, w7, F7⟩ := iO T.e.d w6 65535
 have hE0 := Cod.kR 65535 D.2
 generalize hE : aL 65535 D.2 = E at *
 have o7 := F7.ob b2 hj
 obtain ⟨v8, h8, d1, d2, d3, d4⟩ := JS w7.wf E.1 (by omega)
 obtain ⟨le, h9, n9, c9, O9, W9, D9⟩ := vV (p := p) T.e d4 d2 (by omega)
 have hle : le.length = 7 := by rcases D9 with ⟨e, xc, xg, _, _, rfl, _⟩ | ⟨_, _, rfl⟩ <;> rfl
 have O79 := d3.trans O9
 obtain ⟨j10, h10, e1, e2, e3, e4, e5, _⟩ := fK (el := 28) (n := 7) W9 (c := .k1 (Y7 i0 i0 i0 iS iS .ai .ai)) trivial (by decide)
 obtain ⟨h11, f1, f2, f3, f4⟩ := ef (k := 0) (m := 7) (l' := le) e3 hle (by rw [aW]; omega)
 have f2 : Ob h11 j10 28 true .plain le := by
  have : (bP 7 (.k1 (Y7 i0 i0 i0 iS iS .ai .ai)) 0).take 0 ++ (le ++ (bP 7 (.k1 (Y7 i0 i0 i0 iS iS .ai .ai)) 0).drop (0 + 7)) = le := by
   rw [List.drop_of_length_le (by rw [aW]; omega)]; simp
  rw [← this]; exact f2
 have W11 := dt e5 e3 f3 f4
 have o10 := (o7.old O79).old e4
 have o11 := o10.eq (f3 js (o10.apart e3 (.inl (by decide))))
 obtain ⟨h12, g1, g2, g3, g4⟩ := ef (k := 5) (m := 7) (l' := le) o11 hle (by simp)
 have W12 := dt W11 o11 g3 g4
 have w10 := (w7.up O79 W9).up e4 e5
 have w11 := w10.fr e3 (by decide) (fun j hj _ => f3 j hj) W11
 have w12 := w11.fr o11 (by decide) (fun j hj _ => g3 j hj) W12
 have G7 : Fz q js h h7 := ((G14.trans (.fst F5)).trans (.snd fun j hj _ => b3 j hj)).trans (.fst F7)
 have nj10 : ah j10 h = .none := (G7.trans (.of O79)).none ((w7.up O79 W9).ne) (o7.old O79).ne e2
 have G12 : Fz q js h h12 := (((G7.trans (.of O79)).trans (.of e4)).set nj10 f3).trans (.snd fun j hj _ => g3 j hj)
 have ref := BF (p := p) T.e.d w12
 have s5 : Ev fun m => ∀ K : A2 → Hp → RS, k24_5 (aB p (exec p m)) (aH p (exec p m)) K (T36 (.ptr q 0) (.ptr js 0)) h4 = K (T39 (.ptr q 0) (i64 n9)) h12 := (c5.and (c7.and c9)).mono fun m g K => by
  obtain ⟨z5, z7, z9⟩ := g
  simp only [k24_5, K2, gJ, gK]
  have x0 : Seat.ext 0 (.nZ [.agg le, i64 n9]) h9 = .ok (.agg le) h9 := rfl
  have x1 : Seat.ext 1 (.nZ [.agg le, i64 n9]) h9 = .ok (i64 n9) h9 := rfl
  (rw [aF z5, cu, an, Nat.zero_add, cJ b1, aF z7, aw d1, aF z9, vJ x0, vJ x1, iI e1, fX f1, fk (bD (m := 7) (Ob.c0 f2) hle), cu, an, Nat.zero_add, fX g1]; try rfl)
 have fin : ∀ bb, (bb = (!E.2.isNone && decide (n9 = 0))) → Cv p 24 [.ptr q 0, .ptr js 0] h (.bool bb) h12 := fun bb hb => by
  refine .of (r' := T18 (.bool bb)) (h1 := h12) T.e39 (by simp) (.di s0 (.seq (.to s1 (.br (.loop k1 (.loop k2 (.loop k3 (.cW Mz)))))) (.to s5 (.ag (ref.mono fun m g => ?_))))) rfl
  simp only [k24_6, K2, t39_0, t39_9]
  have q0 : ∀ K : AV → Hp → RS, Seat.Q (i64 n9) i0 h12 K = K (.bool (decide (n9 = 0))) h12 := fun K => zG _ _ _
  cases hn : E.2.isNone with
  | true =>
   rw [hn] at g hb
   (rw [aF g, aw (dQ _), Bool.not_true, vN, vN, tz, bR]; try rfl)
   rw [hb]; rfl
  | false =>
   rw [hn] at g hb
   (rewrite [aF g]; (try dsimp only); rewrite [aw (dQ _)]; (try dsimp only); rewrite [Bool.not_false]; (try dsimp only); rewrite [zH]; (try dsimp only); rewrite [zH]; (try dsimp only); rewrite [q0]; (try dsimp only); rewrite [pV]; (try dsimp only); rewrite [bR]; (try dsimp only); try rfl)
   rw [hb]; rfl
 have hstp : jT kk r = match dec E.1, E.2 with
  | some e, some l => some (⟨kk, A.1, B.1, C.1, D.1, e⟩, l)
  | _, _ => none := by
  show (match dec (aL 65535 (aL 255 (aq (aq (aq r).2).2).2).2).1, (aL 65535 (aL 255 (aq (aq (aq r).2).2).2).2).2 with
   | some e, some l => if small (aq r).1 && small (aq (aq r).2).1 && small (aq (aq (aq r).2).2).1 then some ((⟨kk, (aq r).1, (aq (aq r).2).1, (aq (aq (aq r).2).2).1, (aL 255 (aq (aq (aq r).2).2).2).1, e⟩ : pW), l) else none
   | _, _ => none) = _
  rw [hA, hB, hC, hD, hE, m1, m2, m3]
  rfl
 refine ⟨!E.2.isNone && decide (n9 = 0), h12, fin _ rfl, W12, G12, ?_⟩
 rcases D9 with ⟨e, xc, xg, y1, rfl, rfl, y4, y5, y6⟩ | ⟨y1, rfl, rfl⟩
 ·cases hn : E.2 with
  | none => exact .inr ⟨by simp, by rw [hstp, hn]; cases dec E.1 <;> rfl⟩
  | some l =>
   refine .inl ⟨by simp, ⟨kk, A.1, B.1, C.1, D.1, e⟩, l, xc, xg, by rw [hstp, hn, y1], by rw [hn] at w12; exact w12, ?_, ?_, ?_, y6⟩
   ·exact g2
   ·have kp : ∀ k el fl l', Ob h9 k el false fl l' → ah k h12 = ah k h9 := fun k el fl l' ok => by
     have a := e4 k ok.ne
     have ok' := ok.old e4
     rw [g3 k (((ok'.eq (f3 k (ok'.apart e3 (.inr (by simp))))).apart o11 (.inr (by simp)))), f3 k (ok'.apart e3 (.inr (by simp))), a]
    exact dh.mono (y4.cq fun k fl l' ok => kp k _ fl l' ok) fun k hk => (G7.trans (.of d3)).none ((w7.up d3 d4).ne) (o7.old d3).ne hk
   ·have kp : ∀ k el fl l', Ob h9 k el false fl l' → ah k h12 = ah k h9 := fun k el fl l' ok => by
     have a := e4 k ok.ne
     have ok' := ok.old e4
     rw [g3 k (((ok'.eq (f3 k (ok'.apart e3 (.inr (by simp))))).apart o11 (.inr (by simp)))), f3 k (ok'.apart e3 (.inr (by simp))), a]
    obtain ⟨xs, z1, z2, z3⟩ := y5.cq (h' := h12) fun k el fl l' ok _ => kp k _ fl l' ok
    exact ⟨xs, z1, dh.mono z2 fun k hk => (G7.trans (.of d3)).none ((w7.up d3 d4).ne) (o7.old d3).ne hk, z3⟩
 ·exact .inr ⟨by simp, by rw [hstp, y1]⟩
end
open Go.Cod
set_option maxRecDepth 20000
noncomputable section
variable {p : Pg} {h0 h h' h1 h2 h3 : Hp} {q j k js : P4} {s l : Bs} {x y v d xc xg : AV} {r rr : Rd} {L : List AV}
def TR : AC → AC
 | .scope a => a
 | c => c
def TS : AC → AC
 | .cond _ a _ => a
 | c => c
abbrev A12 : AC := TR (bh x10)
abbrev X12 : AC := bh (bh A12)
abbrev B12 : AC := TS (bh (fst X12))
def eV (b : P4 → Prop) (h : Hp) (x : AV) (ss : List pW) : Prop := ∃ L : List (AV × AV), L.length = ss.length ∧ dh h x 30 12 (List.zipWith (fun z s => eZ z.1 z.2 (sq s)) L ss).flatten b ∧
 ∀ i (h1 : i < L.length) (h2 : i < ss.length), dh h L[i].1 42 2 (ss[i].entry.bB.flatMap Jt) (fun _ => True) ∧ pc (fun _ => True) h L[i].2 ss[i].entry.changes ∧ xF 65535 ss[i].entry
theorem eV.cq {b : P4 → Prop} {ss : List pW} (w : eV b h x ss) (g : ∀ k el fl l, Ob h k el false fl l → ah k h' = ah k h) : eV b h' x ss := by
 obtain ⟨L, e1, e2, e3⟩ := w
 exact ⟨L, e1, e2.cq fun k fl l o => g k _ _ _ o, fun i h1 h2 => ⟨(e3 i h1 h2).1.cq fun k fl l o => g k _ _ _ o, (e3 i h1 h2).2.1.cq fun k el fl l o _ => g k _ _ _ o, (e3 i h1 h2).2.2⟩⟩
theorem uc {b : P4 → Prop} {ss : List pW} (w : eV b h x ss) : dc h x (ss.map sq) := by
 obtain ⟨L, e1, e2, e3⟩ := w
 refine rI (by omega) e2 (by simp [e1]) fun i h1 h2 => ?_
 have hx : i < L.length := by simp [e1] at h1; omega
 have hs : i < ss.length := by omega
 obtain ⟨a, b, _⟩ := e3 i hx hs
 refine ⟨by simp [eZ, cE], L[i].1, L[i].2, by simp, ?_, ?_⟩
 ·simp only [List.getElem_map]
  exact zU a
 ·simp only [List.getElem_map]
  exact zV b
theorem zZ {L : List (AV × AV)} {ss : List pW} (hl : L.length = ss.length) (a : AV × AV) (c : pW) : (List.zipWith (fun z s => eZ z.1 z.2 (sq s)) (L ++ [a]) (ss ++ [c])).flatten = (List.zipWith (fun z s => eZ z.1 z.2 (sq s)) L ss).flatten ++ eZ a.1 a.2 (sq c) := by
 rw [List.zipWith_append hl]; simp
theorem Aa {L : List (AV × AV)} {ss : List pW} (hl : L.length = ss.length) : (List.zipWith (fun z s => eZ z.1 z.2 (sq s)) L ss).flatten.length = ss.length * 12 := by
 rw [gB (es := 12) fun i hi => by simp [eZ, cE]]
 simp [hl]
structure QE (h0 : Hp) (q : P4) (h : Hp) (v : AV) (xs : List pW) (l : Bs) : Prop where
 old : Old h0 h
 rd : gF h q (some l)
 own : eV (fun j => ah j h0 = .none) h v xs
variable {xs : List pW}
theorem eV.len {b : P4 → Prop} (w : eV b h v xs) : Am.len v h = .ok (i64 xs.length) h := by
 have := cT.len (uc w)
 rwa [List.length_map] at this
theorem nR {el : Nat} {fl : Fl} {l : List AV} (o : Ob h js el true fl l) (F : Fr js h h') : ∀ k el fl l, Ob h k el false fl l → ah k h' = ah k h := fun k _ _ _ ok => F k (ok.apart o (.inr (by simp))) ok.ne
theorem Sa (w : gF h q r) (F : Fr q h h') : ∀ k el fl l, Ob h k el false fl l → ah k h' = ah k h := by
 obtain ⟨_, _, _, _, _, w0, _⟩ := w
 exact nR w0.ob F
theorem Qk (e37 : ak 22 p.fs = f22) (I : QE h0 q h v xs l) : ∃ r', Os p (opsL (dp 2 X12)) (T35 (.ptr q 0) v d) h (.nm r' h) ∧ y3 r' = .ptr q 0 ∧ y4 r' = v ∧ y15 r' = .bool (decide (0 < l.length) && decide (xs.length < 2048)) := by
 have lf : Cv p 22 [.ptr q 0] h (i64 (l.length : Nat)) h := Mn (p := p) e37 I.rd
 have gt : bK .gt (i64 (l.length : Nat)) i0 h = .ok (.bool (decide (0 < l.length))) h := by
  show cB (i64 (l.length : Nat)) (i64 0) h = _
  rw [Jn]
  congr 2
  rw [decide_eq_decide]; omega
 by_cases hl : 0 < l.length
 ·rw [decide_eq_true hl] at gt
  have lt : bK .lt (i64 xs.length) (pi 2048) h = .ok (.bool (decide (xs.length < 2048))) h := by
   show pq (i64 xs.length) (i64 2048) h = _
   rw [lS]
   congr 2
   rw [decide_eq_decide]; omega
  exact ⟨_, .step (v := .ptr q 0) (h' := h) rfl <| .call (v := i64 (l.length : Nat)) (h' := h) lf <| .step (v := .bool true) (h' := h) gt <| .step (v := .bool true) (h' := h) rfl <|
   .on rfl <| .step (v := v) (h' := h) rfl <| .on rfl <| .step (v := i64 xs.length) (h' := h) I.own.len <| .on rfl <| .step (v := .bool (decide (xs.length < 2048))) (h' := h) lt <|
   .step (v := .bool (decide (xs.length < 2048))) (h' := h) rfl <| .nil, rfl, rfl, by rw [decide_eq_true hl]; rfl⟩
 ·rw [decide_eq_false hl] at gt
  exact ⟨_, .step (v := .ptr q 0) (h' := h) rfl <| .call (v := i64 (l.length : Nat)) (h' := h) lf <| .step (v := .bool false) (h' := h) gt <| .step (v := .bool false) (h' := h) rfl <|
   .off rfl <| .off rfl <| .off rfl <| .step (v := .bool false) (h' := h) rfl <| .nil, rfl, rfl, by rw [decide_eq_false hl]; rfl⟩
theorem Tc {n : Nat} {T : List AV} (c : Cs h js 0 (i64 n :: T)) : ∃ r', Os p (opsL (dp 2 (bh B12))) (T35 x v (.ptr js 0)) h (.nm r' h) ∧ y3 r' = x ∧ y4 r' = v ∧ y5 r' = .ptr js 0 ∧ y26 r' = .bool (decide (n < 1 ∨ 9 < n)) := by
 have lt : bK .lt (i64 n) i1 h = .ok (.bool (decide (n < 1))) h := by
  show pq (i64 n) (i64 1) h = _
  rw [lS]
  congr 2
  rw [decide_eq_decide]; omega
 have gt : bK .gt (i64 n) (pi 9) h = .ok (.bool (decide (9 < n))) h := by
  show cB (i64 n) (i64 9) h = _
  rw [Jn]
  congr 2
  rw [decide_eq_decide]; omega
 by_cases hn : n < 1
 ·rw [decide_eq_true hn] at lt
  exact ⟨_, .step (v := .ptr js 0) (h' := h) rfl <| .step (v := i64 n) (h' := h) (aP c rfl) <| .step (v := .bool true) (h' := h) lt <| .step (v := .bool true) (h' := h) rfl <| .off rfl <| .off rfl <| .off rfl <| .step (v := .bool true) (h' := h) rfl <| .nil, rfl, rfl, rfl, by rw [decide_eq_true (.inl hn)]; rfl⟩
 ·rw [decide_eq_false hn] at lt
  refine ⟨_, .step (v := .ptr js 0) (h' := h) rfl <| .step (v := i64 n) (h' := h) (aP c rfl) <| .step (v := .bool false) (h' := h) lt <| .step (v := .bool false) (h' := h) rfl <| .on rfl <| .step (v := .ptr js 0) (h' := h) rfl <| .on rfl <| .step (v := i64 n) (h' := h) (aP c rfl) <|
   .on rfl <| .step (v := .bool (decide (9 < n))) (h' := h) gt <| .step (v := .bool (decide (9 < n))) (h' := h) rfl <| .nil, rfl, rfl, rfl, ?_⟩
  have : decide (n < 1 ∨ 9 < n) = decide (9 < n) := by rw [decide_eq_decide]; omega
  rw [this]; rfl
structure Dt (p : Pg) : Prop where
 s : NY p
 e12 : ak 10 p.fs = f10
 e37 : ak 22 p.fs = f22
theorem MB (T : Dt p) {b : UInt8} (I : QE h0 q h v xs (b :: l)) (hq : ah q h0 = .none) (hx : xs.length < 2048) :
  (b.toNat < 1 ∨ 9 < b.toNat) ∧ (∃ d' h2, Rn p X12 (T35 (.ptr q 0) v d) h (.go 0 (T35 (.ptr q 0) v d') h2) ∧ QE h0 q h2 v xs l) ∨
  ¬ (b.toNat < 1 ∨ 9 < b.toNat) ∧ ((jT b.toNat (some l) = none ∧ ∃ h2, Rn p X12 (T35 (.ptr q 0) v d) h (.ret (T0 v) h2) ∧ Old h0 h2 ∧ Wf h2 ∧ eV (fun j => ah j h0 = .none) h2 v xs) ∨
   ∃ st l2, jT b.toNat (some l) = some (st, l2) ∧ ∃ v' d' h2, Rn p X12 (T35 (.ptr q 0) v d) h (.go 0 (T35 (.ptr q 0) v' d') h2) ∧ QE h0 q h2 v' (xs ++ [st]) l2) := by
 obtain ⟨r1, o1, o2, o3, o4⟩ := Qk (p := p) (d := d) T.e37 I
 rw [decide_eq_true (show 0 < (b :: l).length by simp), decide_eq_true hx] at o4
 obtain ⟨h1, c1, w1, F1⟩ := lY T.s.e.d I.rd
 have hb : bJ (some (b :: l)) = (b.toNat, some l) := by
  unfold bJ Cod.get Cod.take
  simp [un]
 rw [hb] at c1 w1
 simp only at c1 w1
 obtain ⟨js, h2, a1, a2, a3, a4, a5, _⟩ := fK (el := 30) (n := 12) w1.wf (c := .k1 (Y12 i0 i0 i0 i0 iS i0 i0 i0 iS iS .ai .ai)) trivial (by decide)
 obtain ⟨h3, b1, b2, b3, b4⟩ := ef (k := 0) (m := 12) (l' := zY b.toNat) a3 rfl (by rw [aW]; omega)
 have b2 : Ob h3 js 30 true .plain (zY b.toNat) := b2
 have W3 := dt a5 a3 b3 b4
 have w3 := (w1.up a4 a5).fr a3 (by decide) (fun j hj _ => b3 j hj) W3
 have hjs : ah js h0 = .none := (F1.old I.old hq).none a2
 have G3 : Fz q js h h3 := ((Fz.fst F1).trans (.of a4)).trans (.snd fun j hj _ => b3 j hj)
 have own3 : eV (fun j => ah j h0 = .none) h3 v xs := by
  have w1' := I.own.cq (Sa I.rd F1)
  exact (w1'.cq fun k el fl l o => a4 k o.ne).cq (nR a3 fun j hj _ => b3 j hj)
 obtain ⟨r2, p1, p2, p3, p4, p5⟩ := Tc (p := p) (x := .ptr q 0) (v := v) (n := b.toNat) (T := [i0, i0, i0, iS, i0, i0, i0, iS, iS, .ai, .ai]) (Ob.c0 b2)
 have s2 : Ev fun m => ∀ K : A2 → Hp → RS, k10_2 (aB p (exec p m)) (aH p (exec p m)) K r1 h = K (T35 (.ptr q 0) v (.ptr js 0)) h3 := c1.mono fun m g K => by
  simp only [k10_2, K2, o2, o3]
  have U0 : bl [i0, i0, i0, i0, iS, i0, i0, i0, iS, iS, .ai, .ai] [.mk 0 1 (.c (i64 (b.toNat : Nat)))] h1 = .ok (.agg (zY b.toNat)) h1 := rfl
  (rw [aF g, mY U0, iI a1, fX b1]; try rfl)
 by_cases hk : b.toNat < 1 ∨ 9 < b.toNat
 ·rw [decide_eq_true hk] at p5
  refine .inl ⟨hk, .ptr js 0, h3, .BM (.seq (.ops o1) (.BN o4 (.to s2 (.BM (.seq (.ops p1) (.aJ fun c i K => ?_)))))), ⟨G3.old I.old hq hjs, w3, own3⟩⟩
  simp only [k10_3, K4, p2, p3, p4, p5]; rfl
 ·rw [decide_eq_false hk] at p5
  have s3 : Rn p (.ag k10_3 .skip) r2 h3 (.nm (T35 (.ptr q 0) v (.ptr js 0)) h3) := .aJ fun c i K => by
   simp only [k10_3, K4, p2, p3, p4, p5]; rfl
  obtain ⟨bb, h4, c4, W4, F4, D4⟩ := MA (p := p) T.s w3 (kk := b.toNat) b2
  refine .inr ⟨hk, ?_⟩
  have own4 : eV (fun j => ah j h0 = .none) h4 v xs := own3.cq fun k el fl l o => by
   obtain ⟨_, _, _, _, _, w0, _⟩ := w3
   exact F4 k (o.apart w0.ob (.inr (by simp))) (o.apart b2 (.inr (by simp))) o.ne
  have old4 : Old h0 h4 := F4.old (G3.old I.old hq hjs) hq hjs
  rcases D4 with ⟨rfl, st, l2, xc, xg, e1, w4, ob4, oc4, og4, bd4⟩ | ⟨rfl, e1⟩
  ·refine .inr ⟨st, l2, e1, ?_⟩
   obtain ⟨m', h5, u1, u2, u3, u4, u5, u6⟩ := fm (el := 30) (es := 12) (n := 1) (z := [i0, i0, i0, i0, iS, i0, i0, i0, iS, iS, .ai, .ai]) (ps := [.mk 0 12 (.c (.agg (eZ xc xg (sq st))))]) (l := eZ xc xg (sq st)) W4 rfl rfl (by simp [eZ, cE])
   have own5 := own4.cq (h' := h5) fun k el fl l o => u4 k o.ne
   obtain ⟨Ls, z1, z2, z3⟩ := own5
   obtain ⟨v', h6, y1, y2, y3, y4, y5⟩ := pa (m := 1) u5 z2 (by omega) (new := eZ xc xg (sq st)) (by simp [eZ, cE]) (by rw [Aa z1]; simp [eZ, cE]; omega)
   have V : df 30 12 v (.slice m' 0 1 1) h5 = .ok v' h6 := by
    rw [dB (m := 1) (q := m') (o := 0) (l := eZ xc xg (sq st)) (.inl ⟨_, rfl⟩) (by omega) (fun _ => Ob.c0 u3) (by simp [eZ, cE]) (by omega)]
    exact y1
   have w6 : gF h6 q (some l2) := (w4.up u4 u5).cq y3 fun k el ex fl l o g => y5 k el ex fl l o (.inl (by rcases g with rfl | rfl <;> decide))
   refine ⟨v', u, h6, .BM (.seq (.ops o1) (.BN o4 (.to s2 (.seq (.seq (.ops p1) s3) (.ag (c4.mono fun m g => ?_)))))), ⟨fun j hj => ?_, w6, Ls ++ [(xc, xg)], by simp [z1], ?_, fun i a1 a2 => ?_⟩⟩
   ·simp only [k10_4, K3, t35_3, t35_4, t35_5]
    (rw [aF g, aw (dQ _), Bool.not_true, dP, fk (bD (m := 12) (Ob.c0 ob4) (by simp [eZ, cE])), aw u1, aw V]; try rfl)
   ·have e := (old4.trans u4) j hj
    rw [y4 j (by rw [e]; exact hj) (fun g => hj g), e]
   ·rw [zZ z1]
    exact dh.mono y2 fun j hj => hj.elim id fun g => (old4.trans u4).none g
   ·have oc6 := (oc4.old fun j _ hj => u4 j hj).cq (h' := h6) fun k fl l o => y5 k _ _ fl l o (.inl (by decide))
    have og6 := (og4.cq (h' := h5) fun k el fl l o _ => u4 k o.ne).cq (h' := h6) fun k el fl l o g => y5 k el _ fl l o (.inl (by rcases g with rfl | rfl <;> decide))
    by_cases hi : i < Ls.length
    ·simp only [List.getElem_append_left hi, List.getElem_append_left (show i < xs.length by omega)]
     obtain ⟨t1, t2, t3⟩ := z3 i hi (by omega)
     exact ⟨t1.cq fun k fl l o => y5 k _ _ fl l o (.inl (by decide)), t2.cq fun k el fl l o g => y5 k el _ fl l o (.inl (by rcases g with rfl | rfl <;> decide)), t3⟩
    ·have hi' : i = Ls.length := by simp at a1; omega
     subst hi'
     have q1 : (Ls ++ [(xc, xg)])[Ls.length]'a1 = (xc, xg) := by simp
     have q2 : (xs ++ [st])[Ls.length]'a2 = st := by
      have := List.getElem_append_right (as := xs) (bs := [st]) (i := Ls.length) (by omega) (h₂ := a2)
      rw [this]; simp
     rw [q1, q2]
     obtain ⟨xs', m1, m2, m3⟩ := og6
     exact ⟨dh.mono oc6 fun _ _ => True.intro, ⟨xs', m1, dh.mono m2 fun _ _ => True.intro, m3⟩, bd4⟩
  ·refine .inl ⟨e1, h4, .cX (.seq (.ops o1) (.BN o4 (.to s2 (.seq (.seq (.ops p1) s3) (.ag (c4.mono fun m g => ?_)))))), old4, W4, own4⟩
   simp only [k10_4, K3, t35_3, t35_4, t35_5]
   (rw [aF g, aw (dQ _), Bool.not_false, ew]; try rfl)
theorem BO (T : Dt p) (hq : ah q h0 = .none) : ∀ (f : Nat) {l : Bs} {h : Hp} {v d : AV} {xs : List pW} {c : AC} {r0 : A2} {hc : Hp}, QE h0 q h v xs l → xs.length ≤ 2048 → l.length < f → (∀ st, Rn p X12 (T35 (.ptr q 0) v d) h st → Rn p c r0 hc st) →
  ∃ v' h', Rn p (.sat A12 c) r0 hc (.ret (T0 v') h') ∧ Old h0 h' ∧ Wf h' ∧ eV (fun j => ah j h0 = .none) h' v' (xs ++ items f (2048 - xs.length) l)
 | 0, l, h, v, d, xs, c, r0, hc, I, hx, hf, g => by omega
 | f + 1, l, h, v, d, xs, c, r0, hc, I, hx, hf, g => by
  have stop : ∀ r', Os p (opsL (dp 2 X12)) (T35 (.ptr q 0) v d) h (.nm r' h) → y4 r' = v → y15 r' = .bool false → Rn p (.sat A12 c) r0 hc (.ret (T0 v) h) := fun r' o1 o3 o4 =>
   .rG (g _ (.seq (.seq (.ops o1) (.Ql o4 .skip)) (.aJ fun c i K => by simp only [k10_5, K1, o3])))
  cases l with
  | nil =>
   obtain ⟨r1, o1, o2, o3, o4⟩ := Qk (p := p) (d := d) T.e37 I
   refine ⟨v, h, stop r1 o1 o3 (by rw [o4]; rfl), I.old, I.rd.wf, ?_⟩
   rw [pZ, List.append_nil]; exact I.own
  | cons b l =>
   rw [nO]
   by_cases hroom : 2048 - xs.length = 0
   ·obtain ⟨r1, o1, o2, o3, o4⟩ := Qk (p := p) (d := d) T.e37 I
    refine ⟨v, h, stop r1 o1 o3 (by rw [o4, decide_eq_false (show ¬ xs.length < 2048 by omega), Bool.and_false]), I.old, I.rd.wf, ?_⟩
    rw [if_pos hroom, List.append_nil]; exact I.own
   ·rw [if_neg hroom]
    rcases MB (p := p) (d := d) T I hq (by omega) with ⟨hk, d', h2, k, I2⟩ | ⟨hk, ⟨e, h2, k, O2, W2, S2⟩ | ⟨st, l2, e, v', d', h2, k, I2⟩⟩
    ·rw [if_pos hk]
     obtain ⟨v', h', k', r'⟩ := BO T hq f (c := .seq .skip X12) I2 hx (by simpa using hf) fun st e => .seq .skip e
     exact ⟨v', h', .xm (g _ k) rfl k', r'⟩
    ·rw [if_neg hk, e, pX, List.append_nil]
     exact ⟨v, h2, .rG (g _ k), O2, W2, S2⟩
    ·rw [if_neg hk, e, pY]
     have hlen : l2.length < f := by
      obtain ⟨l0, e0, e1⟩ := zL e
      cases e0
      simp at hf
      omega
     obtain ⟨v2, h', k', O', W', r'⟩ := BO T hq f (c := .seq .skip X12) I2 (by simp; omega) hlen fun st e => .seq .skip e
     refine ⟨v2, h', .xm (g _ k) rfl k', O', W', ?_⟩
     rw [List.append_assoc] at r'
     simp only [List.length_append, List.length_singleton] at r'
     rw [show 2048 - xs.length - 1 = 2048 - (xs.length + 1) by omega]
     exact r'
theorem MC (T : Dt p) (W : Wf h) (rb : dW h x s) (hl : s.length ≤ 16777216) : ∃ v h', Cv p 10 [x] h v h' ∧ Old h h' ∧ Wf h' ∧ eV (fun j => ah j h = .none) h' v (items (s.length + 1) 2048 s) := by
 obtain ⟨q, h1, c1, w1, nq, O1⟩ := vT T.s.e.d W rb hl
 have I : QE h q h1 .ai [] s := ⟨O1, w1, [], rfl, .inl ⟨rfl, .inl rfl⟩, fun i h1 => by cases h1⟩
 have s1 : Ev fun m => ∀ K : A2 → Hp → RS, k10_1 (aB p (exec p m)) (aH p (exec p m)) K (T13 x) h = K (T35 (.ptr q 0) .ai u) h1 := c1.mono fun m g K => by
  simp only [k10_1, K1, tn]
  (rw [aF g]; try rfl)
 obtain ⟨v, h', k, O, W', S⟩ := BO (p := p) T nq (s.length + 1) (c := A12) (r0 := T13 x) (hc := h) (d := u) I (by simp) (by omega) fun st e => .to s1 (.seq .label e)
 refine ⟨v, h', .of (r' := T0 v) (h1 := h') T.e12 (by simp) (.di (r' := T13 x) (h' := h) (fun c i K => by simp only [k10_0, K1, cm]) (.scope k)) rfl, O, W', ?_⟩
 simpa using S
end
open Go.Cod
noncomputable section
variable {p : Pg} {h hb h' h2 h0 : Hp} {q j : P4} {x y v a b d e f g : AV} {o : Nat}
theorem Cs.app {l m : List AV} (a : Cs h q o l) (b : Cs h q (o + l.length) m) : Cs h q o (l ++ m) := by
 obtain ⟨el, n, ex, fl, c, e, r1, r2⟩ := a
 obtain ⟨el', n', ex', fl', c', e', s1, s2⟩ := b
 rw [e] at e'
 cases e'
 refine ⟨el, n, ex, fl, c, e, by rw [List.length_append]; omega, fun k hk => ?_⟩
 by_cases hkl : k < l.length
 ·rw [List.getElem_append_left hkl, r2 k hkl]
 ·rw [List.getElem_append_right (by omega), ← s2 (k - l.length) (by simp at hk; omega)]
  congr 1; omega
theorem EX {row : List lU} (r : dU h x row) : ∃ q o, vL x 3 row.length q o ∧ (row.length ≠ 0 → Cs h q o (row.flatMap iQ)) := by
 obtain ⟨q, o, sl, g⟩ := cT.sl r
 have g : ∀ i (hi : i < row.length), Cs h q (o + i * 3) (iQ row[i]) := fun i hi => by
  obtain ⟨l, _, l2, rfl⟩ := g i hi; exact l2
 refine ⟨q, o, sl, fun hn => ?_⟩
 have key : ∀ k, k < row.length → Cs h q o ((row.take (k + 1)).flatMap iQ) := by
  intro k
  induction k with
  | zero =>
   intro hk
   rw [NV hk]
   simpa using g 0 hk
  | succ k ih =>
   intro hk
   rw [NV hk]
   refine Cs.app (ih (by omega)) ?_
   rw [gl, List.length_take, Nat.min_eq_left (by omega)]
   exact g (k + 1) hk
 have := key (row.length - 1) (by omega)
 rw [show row.length - 1 + 1 = row.length by omega, List.take_length] at this
 exact this
theorem MD (W : Wf h) {row : List lU} (r : dU h x row) (hl : row.length * 3 ≤ 16777216) :
  ∃ g hA l hB, Seat.bs 48 3 0 [] [] h = .ok g hA ∧ df 48 3 g x hA = .ok l hB ∧ mJ hB l row (fun j => ah j h = .none) ∧ Old h hB ∧ Wf hB := by
 obtain ⟨j, h1, f1, f2, f3, f4, f5, f6⟩ := fm (el := 48) (es := 3) (n := 0) (z := []) (ps := []) (l := []) W rfl rfl (by simp)
 obtain ⟨q, o, sl, c⟩ := EX (dU.up r f4)
 obtain ⟨v, h2, c1, c2, c3, c4⟩ := fJ (m := row.length) (es := 3) f5 (x := .slice j 0 0 0) (b := fun _ => False) (el := 48) (l := []) (.inl ⟨rfl, .inr ⟨j, rfl⟩⟩) (by omega) (new := row.flatMap iQ) (gl row) (by rw [gl]; simp; omega)
 have O : Old h h2 := fun k hk => by
  have e := f4 k hk
  rw [c4 k (by rw [e]; exact hk) (fun g => g), e]
 refine ⟨_, h1, v, h2, f1, by rw [dB sl (by omega) c (gl row) (by omega)]; exact c1, ?_, O, c3⟩
 rw [List.nil_append] at c2
 rcases c2 with ⟨e, hv⟩ | ⟨q, n, rfl, e2, e3, e4⟩
 ·have := gl row
  rw [e, List.length_nil] at this
  exact .inl ⟨List.length_eq_zero_iff.1 (by omega), hv⟩
 ·have hn : n = row.length := by rw [gl] at e2; omega
  subst hn
  refine .inr ⟨q, [], rfl, by rw [List.append_nil]; exact e3, ?_⟩
  rcases e4 with e4 | e4
  ·exact e4.elim
  ·exact f4.none e4
theorem Td {B : P4 → Prop} {row : List lU} (w : mJ h g row B) (hc : 7 < row.length) : ∃ v, fu 3 (.c g) .none (.some (.c (pi 7))) .none .nil h = .ok v h ∧ mJ h v (row.take 7) B := by
 rcases w with ⟨rfl, _⟩ | ⟨q, rest, rfl, o, hb⟩
 ·simp at hc
 ·have e : row.flatMap iQ ++ rest = (row.take 7).flatMap iQ ++ ((row.drop 7).flatMap iQ ++ rest) := by
   conv => lhs; rw [← List.take_append_drop 7 row]
   rw [List.flatMap_append, List.append_assoc]
  have hlen : 21 ≤ (row.flatMap iQ ++ rest).length := by rw [List.length_append, gl]; omega
  refine ⟨.ft q 0 7 3, ?_, .inr ⟨q, (row.drop 7).flatMap iQ ++ rest, by rw [List.length_take, Nat.min_eq_left (by omega)], by rw [← e]; exact o, hb⟩⟩
  obtain ⟨c, e1, e2, e3⟩ := o
  show (Obj.bp (ah q h) (fun _ k _ _ _ => @Bool.rec (fun _ => RV) (.err 45) (.ok (.ft q 0 7 3) h) (Nat.ble 21 k)) (.err 46) : RV) = _
  rw [e1]
  show (@Bool.rec (fun _ => RV) (.err 45) (.ok (.ft q 0 7 3) h) (Nat.ble 21 (row.flatMap iQ ++ rest).length)) = _
  rw [Nat.ble_eq_true_of_le hlen]
end
open Go.Cod
noncomputable section
variable {p : Pg} {h hb h' h2 h0 : Hp} {q j : P4} {x y v a b d e f g : AV} {o : Nat}
theorem mJ.one {B : P4 → Prop} {row : List lU} (w : mJ h g row B) : g.one = true := by
 rcases w with ⟨_, rfl | ⟨q, rfl⟩⟩ | ⟨q, rest, rfl, _⟩ <;> rfl
theorem Du {n i : Nat} {dv : AV} (hl : Am.len x h = .ok (.int .i64 (n : Int)) h) : ∃ r', Os p (opsL (dp 6 (bh x34))) (T22 x (i64 9) dv (i64 i)) h (.nm r' h) ∧ y0 r' = x ∧ y1 r' = i64 9 ∧ y5 r' = dv ∧ y6 r' = i64 i ∧ y18 r' = .bool (decide ((i : Int) < n) && decide ((i : Int) < 9)) := by
 have l1 : bK .lt (i64 i) (i64 n) h = .ok (.bool (decide ((i : Int) < n))) h := lS _ _ _
 have l2 : bK .lt (i64 i) (i64 9) h = .ok (.bool (decide ((i : Int) < 9))) h := lS _ _ _
 cases hc : decide ((i : Int) < n) with
 | true =>
  rw [hc] at l1
  exact ⟨_, .step (v := i64 i) (h' := h) rfl <| .step (v := x) (h' := h) rfl <| .step (v := i64 n) (h' := h) hl <| .step (v := .bool true) (h' := h) l1 <| .step (v := .bool true) (h' := h) rfl <|
   .on rfl <| .step (v := i64 i) (h' := h) rfl <| .on rfl <| .step (v := i64 9) (h' := h) rfl <| .on rfl <| .step (v := .bool (decide ((i : Int) < 9))) (h' := h) l2 <| .step (v := .bool (decide ((i : Int) < 9))) (h' := h) rfl <| .nil, rfl, rfl, rfl, rfl, rfl⟩
 | false =>
  rw [hc] at l1
  exact ⟨_, .step (v := i64 i) (h' := h) rfl <| .step (v := x) (h' := h) rfl <| .step (v := i64 n) (h' := h) hl <| .step (v := .bool false) (h' := h) l1 <| .step (v := .bool false) (h' := h) rfl <|
   .off rfl <| .off rfl <| .off rfl <| .step (v := .bool false) (h' := h) rfl <| .nil, rfl, rfl, rfl, rfl, rfl⟩
theorem gz.mono : ∀ (h1 h2 : Hp) (l : List AV) (a : mI), Old h1 h2 → gz h1 l a → gz h2 l a := fun _ _ _ _ O r => gz.up r O
theorem EY (e24 : ak 33 p.fs = f33) {cs : List mI} {ys : List mI} {i : Nat} {dv : AV} (w : Lb h0 hb h dv 46 3 gz ys) (O0 : Old hb h) (r : aZ hb x cs) (hi : i < cs.length) (hr : ∀ c, c ∈ cs → c.row.length ≤ 1048576) (hy : ys.length ≤ 1000) :
  ∃ v' h', Rn p (dp 1 (dp 1 (bh (dp 4 (bh x34))))) (T22 x (i64 9) dv (i64 i)) h (.nm (T22 x (i64 9) v' (i64 i)) h') ∧ Lb h0 hb h' v' 46 3 gz (ys ++ [lW cs[i]]) := by
 obtain ⟨q', o', sl, g⟩ := cT.sl r
 obtain ⟨l, l1, l2, z, rfl, hrow⟩ := g i hi
 obtain ⟨j, h1, c1, c2, c3, c4, c5, _⟩ := vO (el := 46) w.wf sl hi (l2.old O0) l1 (c0 := .k1 (Y3 iS .ai (.bool false))) trivial (by decide)
 have hrl := hr cs[i] (by simp)
 generalize hc : cs[i] = c at *
 -- the name of the table
 have s1 : ∃ h2, (∀ cc i' (K : A2 → Hp → RS), k34_3 cc i' K (T22 x (i64 9) dv (i64 i)) h = K (T23 x (i64 9) dv (i64 i) (.ptr j 0)) h2) ∧ Ob h2 j 46 true .plain [bu (c.table.take 20), z, .bool c.remove] ∧ Old h h2 ∧ Wf h2 := by
  have gt : cB (i64 c.table.length) (pi 20) h1 = .ok (.bool (decide ((20 : Int) < c.table.length))) h1 := gy _ _ _
  by_cases hl : 20 < c.table.length
  ·obtain ⟨h2, a1, a2, a3, a4⟩ := cP (k := 0) (v := bu (c.table.take 20)) c3 (by simp [uB]) rfl
   refine ⟨h2, fun cc i' K => ?_, a2, fun k hk => ?_, c5.of a4 fun k hk => ?_⟩
   ·simp only [k34_3, K4, t22_0, t22_1, t22_5, t22_6]
    (rw [c1, an, aD (aP (Ob.c0 c3) rfl), dR, bR, aw gt, bC, if_pos (by omega), an, aD (aP (Ob.c0 c3) rfl), aw (Dl _ _ (by omega)), an, cJ a1]; try rfl)
   ·rw [a3 k (fun g => by rw [g] at hk; exact hk c2), c4 k hk]
   ·rw [a3 k (fun g => by rw [g] at hk; exact c3.ne hk)]; exact hk
  ·refine ⟨h1, fun cc i' K => ?_, by rw [List.take_of_length_le (by omega)]; exact c3, c4, c5⟩
   simp only [k34_3, K4, t22_0, t22_1, t22_5, t22_6]
   (rw [c1, an, aD (aP (Ob.c0 c3) rfl), dR, bR, aw gt, bC, if_neg (by omega)]; try rfl)
 obtain ⟨h2, s1, o2, O2, W2⟩ := s1
 -- the row, copied and cut
 have s2 : ∃ v h3, (∀ cc i' (K : A2 → Hp → RS), k34_4 cc i' K (T23 x (i64 9) dv (i64 i) (.ptr j 0)) h2 = K (T24 x (i64 9) dv (i64 i) (.ptr j 0) v) h3) ∧ mJ h3 v (c.row.take 7) (fun j => ah j h2 = .none) ∧ Old h2 h3 ∧ Wf h3 := by
  obtain ⟨g0, hA, l0, h3, b1, b2, b3, b4, b5⟩ := MD W2 (dU.up hrow (O0.trans O2)) (by omega)
  have gt : cB (i64 c.row.length) (pi 7) h3 = .ok (.bool (decide ((7 : Int) < c.row.length))) h3 := gy _ _ _
  have hz : lD (.ptr j (0 + 1)) hA = .ok z hA := by
   have : Old h2 hA := by
    obtain ⟨j', hA', f1, f2, f3, f4, f5, f6⟩ := fm (el := 48) (es := 3) (n := 0) (z := []) (ps := []) (l := []) W2 rfl rfl (by simp)
    rw [b1] at f1
    cases f1
    exact f4
   exact aj ((Ob.c0 o2).old this) 1 rfl
  by_cases hl : 7 < c.row.length
  ·obtain ⟨v, d1, d2⟩ := Td b3 hl
   refine ⟨v, h3, fun cc i' K => ?_, d2, b4, b5⟩
   simp only [k34_4, K5, t23_0, t23_1, t23_5, t23_6, t23_7]
   (rw [aw b1, an, aD hz, aw b2, aR (mJ.len b3), aw gt, bC, if_pos (by omega), aw d1]; try rfl)
  ·refine ⟨l0, h3, fun cc i' K => ?_, by rw [List.take_of_length_le (by omega)]; exact b3, b4, b5⟩
   simp only [k34_4, K5, t23_0, t23_1, t23_5, t23_6, t23_7]
   (rw [aw b1, an, aD hz, aw b2, aR (mJ.len b3), aw gt, bC, if_neg (by omega)]; try rfl)
 obtain ⟨v, h3, s2, w3, O3, W3⟩ := s2
 obtain ⟨h4, s3, w4, O4, N4, W4⟩ := JE (p := p) (a := x) (b := i64 9) (d := dv) (e := i64 i) (f := .ptr j 0) e24 W3 w3 (by rw [List.length_take]; omega)
 have O24 : Old h2 h4 := fun k hk => by
  have e := O3 k hk
  rw [O4 k (fun g => hk g), e]
 obtain ⟨h5, t1, t2, t3, t4⟩ := cP (k := 1) (v := v) (o2.old O24) (by simp) (mJ.one w4)
 have t2 : Ob h5 j 46 true .plain [bu (c.table.take 20), v, .bool c.remove] := t2
 have W5 : Wf h5 := W4.of t4 fun k hk => by
  rw [t3 k (fun g => by rw [g] at hk; exact (o2.old O24).ne hk)]; exact hk
 obtain ⟨m, h6, u1, u2, u3, u4, u5, u6⟩ := fm (el := 46) (es := 3) (n := 1) (z := [iS, .ai, .bool false]) (ps := [.mk 0 3 (.c (.agg [bu (c.table.take 20), v, .bool c.remove]))]) (l := [bu (c.table.take 20), v, .bool c.remove]) W5 rfl rfl (by simp)
 have hj2 : ah j h2 ≠ .none := o2.ne
 have hj : ah j h = .none := c2
 have O5 : Old h h5 := fun k hk => by
  have hkj : k ≠ j := fun g => by rw [g] at hk; exact hk hj
  rw [t3 k hkj, (O2.trans O24) k hk]
 obtain ⟨v', h7, z1, z2, _⟩ := w.app (a := lW c) (l := [bu (c.table.take 20), v, .bool c.remove]) gz.mono (by omega) (O5.trans u4) u5 rfl (fun hr H1 H2 => by
  refine ⟨v, rfl, mJ.rd (B := fun j => ah j h2 = .none) (row := (c.row.take 7).map qZ) w4 fun k hk hk4 => ?_⟩
  have hk0 : ah k h = .none := O2.none hk
  have hkj : k ≠ j := fun g => by rw [g] at hk; exact hj2 hk
  rw [H2 k hk0, u4 k (by rw [t3 k hkj]; exact hk4), t3 k hkj]) (by omega)
 have s4 : ∀ cc i' (K : A2 → Hp → RS), k34_9 cc i' K (T24 x (i64 9) dv (i64 i) (.ptr j 0) v) h4 = .nm (T22 x (i64 9) v' (i64 i)) h7 := fun cc i' K => by
  simp only [k34_9, K6, t24_0, t24_1, t24_5, t24_6, t24_7, t24_8]
  have M := bD (m := 3) (Ob.c0 t2) rfl
  have V : df 46 3 dv (.slice m 0 1 1) h6 = .ok v' h7 := by
   rw [dB (m := 1) (q := m) (o := 0) (l := [bu (c.table.take 20), v, .bool c.remove]) (.inl ⟨_, rfl⟩) (by omega) (fun _ => Ob.c0 u3) rfl (by omega)]
   exact z1
  (rw [an, cJ t1, fk M, aw u1, aw V]; try rfl)
 have s5 : ∀ cc i' (K : A2 → Hp → RS), k34_5 cc i' K (T24 x (i64 9) dv (i64 i) (.ptr j 0) v) h3 = K (T25 x (i64 9) dv (i64 i) (.ptr j 0) v i0) h3 := fun cc i' K => by
  simp only [k34_5, K6, t24_0, t24_1, t24_5, t24_6, t24_7, t24_8]
 exact ⟨v', h7, .di s1 (.di s2 (.seq (.di s5 (.br s3)) (.aJ s4))), z2⟩
end
open Go.Cod
noncomputable section
variable {p : Pg} {h hb h' h2 h0 : Hp} {q j : P4} {x y v a b d e f g : AV} {o : Nat}
theorem Qm (e24 : ak 33 p.fs = f33) (e25 : ak 34 p.fs = f34) (W : Wf h) (O0 : Old hb h) {cs : List mI} (r : aZ hb x cs) (hr : ∀ c, c ∈ cs → c.row.length ≤ 1048576) :
  ∃ v h', Cv p 34 [x, i64 9] h v h' ∧ Lb h hb h' v 46 3 gz ((cs.take 9).map lW) := by
 have hlen : ∀ h', Old h h' → Am.len x h' = .ok (.int .i64 (cs.length : Int)) h' := fun h' O => cT.len (aZ.up r (O0.trans O))
 obtain ⟨r', h', ⟨v, rfl, w⟩, k⟩ := zI (p := p) (body := dp 4 (bh x34)) (r := T22 x (i64 9) .ai i0) (h := h) (min cs.length 9)
  (Inv := fun i r h' => ∃ dv, r = T22 x (i64 9) dv (i64 i) ∧ Lb h hb h' dv 46 3 gz ((cs.take i).map lW)) (l := 0) (fun i r h' hi I => by
   obtain ⟨dv, rfl, w⟩ := I
   have hi1 : i < cs.length := by omega
   obtain ⟨r3, o1, o2, o3, o4, o5, o6⟩ := Du (p := p) (i := i) (dv := dv) (hlen h' w.old)
   obtain ⟨v', h5, c1, c2⟩ := EY (p := p) e24 w (O0.trans w.old) r hi1 hr (by simp; omega)
   refine ⟨T22 x (i64 9) v' (i64 (i + 1 : Nat)), h5, .seq (.seq (.ops o1) (.aJ (s := .nm (T22 x (i64 9) dv (i64 i)) h') fun c i' K => ?_)) (.seq (.block c1) (.aJ fun c i' K => ?_)), v', rfl, ?_⟩
   ·simp only [k34_2, K5, o2, o3, o4, o5, o6]
    rw [decide_eq_true (by omega), decide_eq_true (by omega)]
    rfl
   ·simp only [k34_10, K4, t22_0, t22_1, t22_5, t22_6]
    (rw [dj (n := 9) (by omega) (by omega)]; try rfl)
   ·rw [List.take_succ_eq_append_getElem hi1, List.map_append]
    exact c2) (fun r h' I => by
   obtain ⟨dv, rfl, w⟩ := I
   obtain ⟨r3, o1, o2, o3, o4, o5, o6⟩ := Du (p := p) (i := min cs.length 9) (dv := dv) (hlen h' w.old)
   refine .qh (.seq (.ops o1) (.aJ fun c i' K => ?_))
   simp only [k34_2, K5, o2, o3, o4, o5, o6]
   have : (decide (((min cs.length 9 : Nat) : Int) < (cs.length : Int)) && decide (((min cs.length 9 : Nat) : Int) < 9)) = false := by
    rw [Bool.and_eq_false_iff, decide_eq_false_iff_not, decide_eq_false_iff_not]; omega
   rw [this]; rfl) ⟨.ai, rfl, by simpa using Lb.nil W O0 (.inl rfl)⟩
 have s0 : ∀ c i' (K : A2 → Hp → RS), k34_0 c i' K (bE [x, i64 9] 0 .nil) h = K (T21 x (i64 9) .ai) h := fun c i' K => by
  simp only [k34_0, K2, dE, dF]
 have s1 : ∀ c i' (K : A2 → Hp → RS), k34_1 c i' K (T21 x (i64 9) .ai) h = K (T22 x (i64 9) .ai i0) h := fun c i' K => by
  simp only [k34_1, K3, fU, fV, fW]
 have s2 : ∀ c i' (K : A2 → Hp → RS), k34_11 c i' K (T22 x (i64 9) v (i64 (min cs.length 9 : Nat))) h' = .ret (T18 v) h' := fun c i' K => by
  simp only [k34_11, K1, t22_5]
 refine ⟨v, h', .of (r' := T18 v) (h1 := h') e25 (by simp) (.di s0 (.seq (.di s1 (.br k)) (.aJ s2))) rfl, ?_⟩
 have : cs.take (min cs.length 9) = cs.take 9 := by
  by_cases g : cs.length ≤ 9
  ·rw [Nat.min_eq_left g, List.take_length, List.take_of_length_le g]
  ·rw [Nat.min_eq_right (by omega)]
 rw [this] at w
 exact w
end
open Go.Cod
noncomputable section
variable {p : Pg} {h hb h' h2 h0 : Hp} {q j : P4} {x y v a b d e f g : AV} {o : Nat}
theorem merge {h1 h2 h3 : Hp} (O1 : Old h1 h3) (O2 : Old h2 h3) : ∃ hr, Old h1 hr ∧ Old h2 hr ∧ Old hr h3 ∧ ∀ k, ah k hr ≠ .none → ah k h1 ≠ .none ∨ ah k h2 ≠ .none := by
 classical
 obtain ⟨hr, g⟩ := Df fun k => if ah k h1 = .none then ah k h2 else ah k h1
 have g1 : ∀ k, ah k h1 ≠ .none → ah k hr = ah k h1 := fun k hk => by rw [g, if_neg hk]
 have g2 : ∀ k, ah k h1 = .none → ah k hr = ah k h2 := fun k hk => by rw [g, if_pos hk]
 refine ⟨hr, g1, fun k hk => ?_, fun k hk => ?_, fun k hk => ?_⟩
 ·by_cases e : ah k h1 = .none
  ·exact g2 k e
  ·rw [g1 k e, ← O1 k e, O2 k hk]
 ·by_cases e : ah k h1 = .none
  ·rw [g2 k e] at hk ⊢; exact O2 k hk
  ·rw [g1 k e]; exact O1 k e
 ·by_cases e : ah k h1 = .none
  ·rw [g2 k e] at hk; exact .inr hk
  ·exact .inl e
theorem Te {cs : List (Bs × Int)} (r : aQ hb x cs) (O : Old hb h) (hc : 8 < cs.length) : ∃ v, fu 2 (.c x) .none (.some (.c (pi 8))) .none .nil h = .ok v h ∧ aQ hb v (cs.take 8) ∧ v.one = true := by
 obtain ⟨q, o, e, g⟩ := r
 have g' : ∀ i (hi : i < (cs.take 8).length), ∃ l, l.length = 2 ∧ Cs hb q (o + i * 2) l ∧ l = [bu (cs.take 8)[i].1, i64 (cs.take 8)[i].2] := fun i hi => by
  obtain ⟨l, a, b, c⟩ := g i (by simp at hi; omega)
  exact ⟨l, a, b, by rw [List.getElem_take]; exact c⟩
 have hl : (cs.take 8).length = 8 := by rw [List.length_take]; omega
 rcases e with ⟨cap, h1, rfl⟩ | rfl | ⟨rfl, rfl⟩
 ·refine ⟨.slice q o 8 cap, ?_, ⟨q, o, .inl ⟨cap, by omega, by rw [hl]⟩, g'⟩, rfl⟩
  obtain ⟨cap, rfl⟩ : ∃ c, cap = c + 1 := ⟨cap - 1, by omega⟩
  show (@Bool.rec (fun _ => RV) (.err 42) (@Bool.rec (fun _ => RV) (.err 42) (.ok (.slice q o 8 (cap + 1)) h) (Nat.ble (cap + 1) (cap + 1))) (Nat.ble 8 (cap + 1))) = _
  rw [Nat.ble_eq_true_of_le (show 8 ≤ cap + 1 by omega), Nat.ble_eq_true_of_le (Nat.le_refl _)]
 ·refine ⟨.ft q o 8 2, ?_, ⟨q, o, .inr (.inl (by rw [hl])), g'⟩, rfl⟩
  obtain ⟨l, l1, l2, _⟩ := g 7 (by omega)
  obtain ⟨el, n, ex, fl, c, e1, e2, e3⟩ := l2.old O
  show (Obj.bp (ah q h) (fun _ k _ _ _ => @Bool.rec (fun _ => RV) (.err 45) (.ok (.ft q o 8 2) h) (Nat.ble (o + 16) k)) (.err 46) : RV) = _
  rw [e1]
  show (@Bool.rec (fun _ => RV) (.err 45) (.ok (.ft q o 8 2) h) (Nat.ble (o + 16) n)) = _
  rw [Nat.ble_eq_true_of_le (by omega)]
 ·simp at hc
theorem ME (W : Wf h) (O0 : Old hb h) {e : po} (r1 : aQ hb x e.bB) :
  ∃ j jr x8 ha hc hs, (∀ cc i' (K : A2 → Hp → RS), xI cc i' K (bE [.agg (cE x y e)] 0 .nil) h = K (T10 (.ptr j 0) (.ptr jr 0)) ha) ∧ (∀ cc i' (K : A2 → Hp → RS), xH cc i' K (T10 (.ptr j 0) (.ptr jr 0)) ha = K (T10 (.ptr j 0) (.ptr jr 0)) hc) ∧
   (∀ cc i' (K : A2 → Hp → RS), xG cc i' K (T10 (.ptr j 0) (.ptr jr 0)) hc = K (T11 (.ptr j 0) (.ptr jr 0) .ai) hs) ∧ ah j h = .none ∧ ah jr h = .none ∧ j ≠ jr ∧ Old h hs ∧ Wf hs ∧
   Ob hs j 28 true .plain [i64 e.au, i64 e.seq, i64 e.kind, bu (e.name.take 20), bu (e.text.take 700), x8, y] ∧ (∃ z, Ob hs jr 28 true .plain z ∧ z.length = 7) ∧ aQ hb x8 (e.bB.take 8) := by
 obtain ⟨j, h1, f1, f2, f3, f4, f5, f6⟩ := lj (el := 28) (l := cE x y e) W (by simp [cE])
 obtain ⟨jr, h2, g1, g2, g3, g4, g5, g6⟩ := fK (el := 28) (n := 7) f5 (c := .k1 (Y7 i0 i0 i0 iS iS .ai .ai)) trivial (by decide)
 have hj1 : ah j h1 ≠ .none := f3.ne
 have hne : j ≠ jr := fun e => hj1 (e ▸ g2)
 have hjr : ah jr h = .none := f4.none g2
 have o0 := f3.old g4
 have O2 := f4.trans g4
 have cq : ∀ {ha hb' : Hp}, Old h ha → (∀ k, k ≠ j → ah k hb' = ah k ha) → Old h hb' := fun O g k hk => by
  rw [g k (fun e => by rw [e] at hk; exact hk f2), O k hk]
 -- the name
 have s0 : ∃ ha, (∀ cc i' (K : A2 → Hp → RS), xI cc i' K (bE [.agg (cE x y e)] 0 .nil) h = K (T10 (.ptr j 0) (.ptr jr 0)) ha) ∧ Ob ha j 28 true .plain [i64 e.au, i64 e.seq, i64 e.kind, bu (e.name.take 20), bu e.text, x, y] ∧ (∀ k, k ≠ j → ah k ha = ah k h2) ∧ Wf ha := by
  have gt : cB (i64 e.name.length) (pi 20) h2 = .ok (.bool (decide ((20 : Int) < e.name.length))) h2 := gy _ _ _
  by_cases hl : 20 < e.name.length
  ·obtain ⟨ha, a1, a2, a3, a4⟩ := cP (k := 3) (v := bu (e.name.take 20)) o0 (by simp [cE]) rfl
   refine ⟨ha, fun cc i' K => ?_, a2, a3, g5.of a4 fun k hk => by rw [a3 k (fun e => by rw [e] at hk; exact o0.ne hk)]; exact hk⟩
   simp only [xI, K1, cm]
   (rw [jh f1, iI g1, an, aD (aj (Ob.c0 o0) 3 rfl), dR, bR, aw gt, bC, if_pos (by omega), an, aD (aj (Ob.c0 o0) 3 rfl), aw (Dl _ _ (by omega)), an, Nat.zero_add, cJ a1]; try rfl)
  ·refine ⟨h2, fun cc i' K => ?_, by rw [List.take_of_length_le (by omega)]; exact o0, fun _ _ => rfl, g5⟩
   simp only [xI, K1, cm]
   (rw [jh f1, iI g1, an, aD (aj (Ob.c0 o0) 3 rfl), dR, bR, aw gt, bC, if_neg (by omega)]; try rfl)
 obtain ⟨ha, s0, o1, e1, W1⟩ := s0
 have s1 : ∃ hc, (∀ cc i' (K : A2 → Hp → RS), xH cc i' K (T10 (.ptr j 0) (.ptr jr 0)) ha = K (T10 (.ptr j 0) (.ptr jr 0)) hc) ∧ Ob hc j 28 true .plain [i64 e.au, i64 e.seq, i64 e.kind, bu (e.name.take 20), bu (e.text.take 700), x, y] ∧ (∀ k, k ≠ j → ah k hc = ah k h2) ∧ Wf hc := by
  have gt : cB (i64 e.text.length) (pi 700) ha = .ok (.bool (decide ((700 : Int) < e.text.length))) ha := gy _ _ _
  by_cases hl : 700 < e.text.length
  ·obtain ⟨hc, a1, a2, a3, a4⟩ := cP (k := 4) (v := bu (e.text.take 700)) o1 (by simp) rfl
   refine ⟨hc, fun cc i' K => ?_, a2, fun k hk => by rw [a3 k hk, e1 k hk], W1.of a4 fun k hk => by rw [a3 k (fun e => by rw [e] at hk; exact o1.ne hk)]; exact hk⟩
   simp only [xH, K2, t10_1, t10_2]
   (rw [an, aD (aj (Ob.c0 o1) 4 rfl), dR, bR, aw gt, bC, if_pos (by omega), an, aD (aj (Ob.c0 o1) 4 rfl), aw (Dl _ _ (by omega)), an, Nat.zero_add, cJ a1]; try rfl)
  ·refine ⟨ha, fun cc i' K => ?_, by rw [List.take_of_length_le (l := e.text) (by omega)]; exact o1, e1, W1⟩
   simp only [xH, K2, t10_1, t10_2]
   (rw [an, aD (aj (Ob.c0 o1) 4 rfl), dR, bR, aw gt, bC, if_neg (by omega)]; try rfl)
 obtain ⟨hc, s1, o2, e2, W2⟩ := s1
 have Oc : Old h hc := cq O2 e2
 have s2 : ∃ x8 hs, (∀ cc i' (K : A2 → Hp → RS), xG cc i' K (T10 (.ptr j 0) (.ptr jr 0)) hc = K (T11 (.ptr j 0) (.ptr jr 0) .ai) hs) ∧ Ob hs j 28 true .plain [i64 e.au, i64 e.seq, i64 e.kind, bu (e.name.take 20), bu (e.text.take 700), x8, y] ∧ (∀ k, k ≠ j → ah k hs = ah k h2) ∧ Wf hs ∧ aQ hb x8 (e.bB.take 8) := by
  have gt : cB (i64 e.bB.length) (pi 8) hc = .ok (.bool (decide ((8 : Int) < e.bB.length))) hc := gy _ _ _
  have hlen := cT.len (aQ.up r1 (O0.trans Oc))
  by_cases hl : 8 < e.bB.length
  ·obtain ⟨x8, c1, c2, c3⟩ := Te r1 (O0.trans Oc) hl
   obtain ⟨hs, a1, a2, a3, a4⟩ := cP (k := 5) (v := x8) o2 (by simp) c3
   refine ⟨x8, hs, fun cc i' K => ?_, a2, fun k hk => by rw [a3 k hk, e2 k hk], W2.of a4 fun k hk => by rw [a3 k (fun e => by rw [e] at hk; exact o2.ne hk)]; exact hk, c2⟩
   simp only [xG, K2, t10_1, t10_2]
   (rw [an, aD (aj (Ob.c0 o2) 5 rfl), aR hlen, aw gt, bC, if_pos (by omega), an, aD (aj (Ob.c0 o2) 5 rfl), aw c1, an, Nat.zero_add, cJ a1]; try rfl)
  ·refine ⟨x, hc, fun cc i' K => ?_, o2, e2, W2, by rw [List.take_of_length_le (by omega)]; exact r1⟩
   simp only [xG, K2, t10_1, t10_2]
   (rw [an, aD (aj (Ob.c0 o2) 5 rfl), aR hlen, aw gt, bC, if_neg (by omega)]; try rfl)
 obtain ⟨x8, hs, s2, o3, e3, W3, r3⟩ := s2
 exact ⟨j, jr, x8, ha, hc, hs, s0, s1, s2, f2, hjr, hne, cq O2 e3, W3, o3, ⟨_, g3.eq (e3 jr (Ne.symm hne)), aW _ _ _⟩, r3⟩
end
open Go.Cod
noncomputable section
variable {p : Pg} {h hb h' h2 h0 : Hp} {q j jr : P4} {x y v a b d e f g : AV} {o : Nat}
def Ab (c : Bs × Int) : Bs × Int := (c.1, gV c.2)
def uD (_ : Hp) (l : List AV) (c : Bs × Int) : Prop := l = [bu c.1, i64 c.2]
theorem uD.mono : ∀ (h1 h2 : Hp) (l : List AV) (a : Bs × Int), Old h1 h2 → uD h1 l a → uD h2 l a := fun _ _ _ _ _ e => e
theorem BP {α : Type} {P : α → Bool} {l : List α} {i : Nat} (hi : i < l.length) (ha : (l.take i).all P = true) (hn : P l[i] = false) : l.takeWhile P = l.take i := by
 conv => lhs; rw [← List.take_append_drop i l]
 rw [List.takeWhile_append_of_pos (by simpa [List.all_eq_true] using ha), List.drop_eq_getElem_cons hi, List.takeWhile_cons, hn]
 simp
theorem EZ {α : Type} {P : α → Bool} {l : List α} (ha : l.all P = true) : l.takeWhile P = l := by
 have := List.takeWhile_append_of_pos (p := P) (l₁ := l) (l₂ := []) (by simpa [List.all_eq_true] using ha)
 simpa using this
theorem Ac {cs : List (Bs × Int)} {i : Nat} {dv : AV} {L : List AV} (c : Cs h j 0 L) (hL : L[5]? = some x) (r : aQ hb x cs) (O : Old hb h) :
  ∃ r', Os p (opsL (dp 6 (bh (bh (bh x15))))) (T12 (.ptr j 0) (.ptr jr 0) dv (i64 i)) h (.nm r' h) ∧ y1 r' = .ptr j 0 ∧ y2 r' = .ptr jr 0 ∧ y3 r' = dv ∧ y4 r' = i64 i ∧ y44 r' = .bool (match cs[i]? with | none => false | some c => decide (c.1.length ≤ 20)) := by
 have hlen := cT.len (aQ.up r O)
 have l1 : bK .lt (i64 i) (i64 cs.length) h = .ok (.bool (decide ((i : Int) < cs.length))) h := lS _ _ _
 by_cases hi : i < cs.length
 ·rw [decide_eq_true (by omega)] at l1
  obtain ⟨q, o, sl, g⟩ := cT.sl (aQ.up r O)
  obtain ⟨l, k1, k2, rfl⟩ := g i hi
  have l2 : bK .le (i64 cs[i].1.length) (pi 20) h = .ok (.bool (decide (cs[i].1.length ≤ 20))) h := by
   show FC (.int .i64 cs[i].1.length) (.int .i64 (.ofNat 20)) h = _
   rw [RR]
   congr 2
   rw [decide_eq_decide]
   show _ ≤ (20 : Int) ↔ _
   omega
  refine ⟨_, .step (v := i64 i) (h' := h) rfl <| .step (v := .ptr j 5) (h' := h) rfl <| .step (v := x) (h' := h) (aj c 5 hL) <| .step (v := i64 cs.length) (h' := h) hlen <| .step (v := .bool true) (h' := h) l1 <| .step (v := .bool true) (h' := h) rfl <|
   .on rfl <| .step (v := .ptr j 5) (h' := h) rfl <| .on rfl <| .step (v := x) (h' := h) (aj c 5 hL) <| .on rfl <| .step (v := i64 i) (h' := h) rfl <| .on rfl <| .step (v := .ptr q (o + i * 2)) (h' := h) (bS sl hi) <|
   .on rfl <| .step (v := .ptr q (o + i * 2)) (h' := h) rfl <| .on rfl <| .step (v := bu cs[i].1) (h' := h) (aP k2 rfl) <| .on rfl <| .step (v := i64 cs[i].1.length) (h' := h) (dR _) <| .on rfl <| .step (v := .bool (decide (cs[i].1.length ≤ 20))) (h' := h) l2 <|
   .step (v := .bool (decide (cs[i].1.length ≤ 20))) (h' := h) rfl <| .nil, rfl, rfl, rfl, rfl, ?_⟩
  rw [List.getElem?_eq_getElem hi]; rfl
 ·rw [decide_eq_false (by omega)] at l1
  refine ⟨_, .step (v := i64 i) (h' := h) rfl <| .step (v := .ptr j 5) (h' := h) rfl <| .step (v := x) (h' := h) (aj c 5 hL) <| .step (v := i64 cs.length) (h' := h) hlen <| .step (v := .bool false) (h' := h) l1 <| .step (v := .bool false) (h' := h) rfl <|
   .off rfl <| .off rfl <| .off rfl <| .off rfl <| .off rfl <| .off rfl <| .off rfl <| .off rfl <| .step (v := .bool false) (h' := h) rfl <| .nil, rfl, rfl, rfl, rfl, ?_⟩
  rw [List.getElem?_eq_none (by omega)]; rfl
theorem MF (e24 : ak 33 p.fs = f33) {cs ys : List (Bs × Int)} {i : Nat} {dv : AV} {L : List AV} (w : Lb h0 hb h dv 42 2 uD ys) (O : Old hb h) (c : Cs h j 0 L) (hL : L[5]? = some x) (r : aQ hb x cs) (hi : i < cs.length) (hy : ys.length ≤ 1000) (hi2 : i < 100) :
  ∃ v' h', Rn p (bh (dp 4 (bh (bh (bh x15))))) (T12 (.ptr j 0) (.ptr jr 0) dv (i64 i)) h (.nm (T12 (.ptr j 0) (.ptr jr 0) v' (i64 (i + 1 : Nat))) h') ∧ Lb h0 hb h' v' 42 2 uD (ys ++ [Ab cs[i]]) ∧ ∀ k, ah k h ≠ .none → ah k h0 ≠ .none → ah k h' = ah k h := by
 obtain ⟨q', o', sl, g⟩ := cT.sl r
 obtain ⟨l, l1, l2, rfl⟩ := g i hi
 obtain ⟨m, h1, c1, c2, c3, c4, c5, _⟩ := vO (el := 42) w.wf sl hi (l2.old O) l1 (c0 := .k1 (Y2 iS i0)) trivial (by decide)
 have nr := xn (p := p) (h := h1) e24 cs[i].2
 obtain ⟨h2, a1, a2, a3, a4⟩ := cP (k := 1) (v := i64 (gV cs[i].2)) c3 (by simp) rfl
 have a2 : Ob h2 m 42 true .plain [bu cs[i].1, i64 (gV cs[i].2)] := a2
 have W2 : Wf h2 := c5.of a4 fun k hk => by rw [a3 k (fun e => by rw [e] at hk; exact c3.ne hk)]; exact hk
 have O2 : Old h h2 := fun k hk => by rw [a3 k (fun e => by rw [e] at hk; exact hk c2), c4 k hk]
 obtain ⟨t, h3, u1, u2, u3, u4, u5, u6⟩ := fm (el := 42) (es := 2) (n := 1) (z := [iS, i0]) (ps := [.mk 0 2 (.c (.agg [bu cs[i].1, i64 (gV cs[i].2)]))]) (l := [bu cs[i].1, i64 (gV cs[i].2)]) W2 rfl rfl (by simp)
 obtain ⟨v', h4, z1, z2, _⟩ := w.app (a := Ab cs[i]) (l := [bu cs[i].1, i64 (gV cs[i].2)]) uD.mono (by omega) (O2.trans u4) u5 rfl (fun _ _ _ => rfl) (by omega)
 have V : df 42 2 dv (.slice t 0 1 1) h3 = .ok v' h4 := by
  rw [dB (m := 1) (q := t) (o := 0) (l := [bu cs[i].1, i64 (gV cs[i].2)]) (.inl ⟨_, rfl⟩) (by omega) (fun _ => Ob.c0 u3) rfl (by omega)]
  exact z1
 have M := bD (m := 2) (Ob.c0 a2) rfl
 refine ⟨v', h4, .ag (nr.mono fun n g => ?_), z2, fun k hk hk0 => by rw [z2.old k hk0, w.old k hk0]⟩
 simp only [k15_5, K4, t12_1, t12_2, t12_3, t12_4]
 (rw [an, aD (aj c 5 hL), c1, an, aD (aj (Ob.c0 c3) 1 rfl), aF g, an, Nat.zero_add, cJ a1, fk M, aw u1, aw V, dj (n := 100) hi2 (by omega)]; try rfl)
theorem JT (e24 : ak 33 p.fs = f33) {cs : List (Bs × Int)} {L : List AV} (W : Wf h) (O : Old hb h) (c : Cs h j 0 L) (hL : L[5]? = some x) (r : aQ hb x cs) (hn : cs.length ≤ 8) :
  ∃ dv h' i, Rn p (dp 3 (bh (bh (bh x15)))) (T12 (.ptr j 0) (.ptr jr 0) .ai i0) h (.ex 0 (T12 (.ptr j 0) (.ptr jr 0) dv (i64 i)) h') ∧ Lb h hb h' dv 42 2 uD ((cs.takeWhile fun c => decide (c.1.length ≤ 20)).map Ab) := by
 have key : ∃ s, (∃ dv h', ∃ i : Int, s = .ex 0 (T12 (.ptr j 0) (.ptr jr 0) dv (i64 i)) h' ∧ Lb h hb h' dv 42 2 uD ((cs.takeWhile fun c => decide (c.1.length ≤ 20)).map Ab)) ∧ Rn p (.loop (dp 4 (bh (bh (bh x15))))) (T12 (.ptr j 0) (.ptr jr 0) .ai i0) h s := by
  refine eo cs.length (Inv := fun i r h' => ∃ dv, r = T12 (.ptr j 0) (.ptr jr 0) dv (i64 i) ∧ Lb h hb h' dv 42 2 uD ((cs.take i).map Ab) ∧ (cs.take i).all (fun c => decide (c.1.length ≤ 20)) = true) (fun i r' h' hi I => ?_) (fun r' h' I => ?_) cs.length 0 _ h (by omega) ⟨.ai, rfl, by simpa using Lb.nil W O (.inl rfl), by simp⟩
  ·obtain ⟨dv, rfl, w, ha⟩ := I
   have c' := c.old w.old
   obtain ⟨r3, o1, o2, o3, o4, o5, o6⟩ := Ac (p := p) (jr := jr) (i := i) (dv := dv) c' hL r (O.trans w.old)
   rw [List.getElem?_eq_getElem hi] at o6
   cases hs : decide (cs[i].1.length ≤ 20) with
   | true =>
    obtain ⟨v', h5, k1, k2, _⟩ := MF (p := p) (jr := jr) e24 w (O.trans w.old) c' hL r hi (by simp; omega) (by omega)
    refine .inl ⟨_, h5, .seq (.seq (.ops o1) (.aJ (s := .nm (T12 (.ptr j 0) (.ptr jr 0) dv (i64 i)) h') fun cc i' K => ?_)) k1, v', rfl, ?_, by rw [gA hi, ha]; simpa using hs⟩
    ·simp only [k15_4, K5, o2, o3, o4, o5, o6]
     rw [hs]; rfl
    ·rw [List.take_succ_eq_append_getElem hi, List.map_append]; exact k2
   | false =>
    refine .inr ⟨_, ⟨dv, h', i, rfl, by rw [BP hi ha hs]; exact w⟩, .cW (.qh (.seq (.ops o1) (.aJ fun cc i' K => ?_)))⟩
    simp only [k15_4, K5, o2, o3, o4, o5, o6]
    rw [hs]; rfl
  ·obtain ⟨dv, rfl, w, ha⟩ := I
   obtain ⟨r3, o1, o2, o3, o4, o5, o6⟩ := Ac (p := p) (jr := jr) (i := cs.length) (dv := dv) (c.old w.old) hL r (O.trans w.old)
   rw [List.getElem?_eq_none (by omega)] at o6
   rw [List.take_length] at ha w
   refine ⟨_, ⟨dv, h', (cs.length : Int), rfl, by rw [EZ ha]; exact w⟩, .cW (.qh (.seq (.ops o1) (.aJ fun cc i' K => ?_)))⟩
   simp only [k15_4, K5, o2, o3, o4, o5, o6]
   rfl
 obtain ⟨s, ⟨dv, h', i, rfl, w⟩, k⟩ := key
 exact ⟨dv, h', i, k, w⟩
end
open Go.Cod
noncomputable section
variable {p : Pg} {h hb h' h2 h0 : Hp} {q j jr : P4} {x y v a b d e f g : AV} {o : Nat}
theorem Lb.one {α : Type} {f : Hp → List AV → α → Prop} {xs : List α} {el es : Nat} (w : Lb h hb h' v el es f xs) : v.one = true := by
 obtain ⟨_, _, _, _, _, _, _, ow, _⟩ := w
 exact my ow
theorem Fa (e9 : ak 15 p.fs = f15) (e24 : ak 33 p.fs = f33) (e25 : ak 34 p.fs = f34) (W : Wf h) (O0 : Old hb h) {e : po} (r1 : aQ hb x e.bB) (r2 : aZ hb y e.changes) (hr : ∀ c, c ∈ e.changes → c.row.length ≤ 1048576) :
  ∃ x' y' h' hr, Cv p 15 [.agg (cE x y e)] h (.agg (cE x' y' (aO e))) h' ∧ Old h h' ∧ Wf h' ∧ Old hb hr ∧ Old hr h' ∧ (∀ k, ah k hr ≠ .none → ah k hb ≠ .none ∨ ah k h = .none) ∧ aQ hr x' (aO e).bB ∧ aZ hr y' (aO e).changes := by
 obtain ⟨j, jr, x8, ha, hc, hs, s0, s1, s2, nj, njr, hne, Os, Ws, oj, ⟨z, ojr, hz⟩, r8⟩ := ME (y := y) W O0 r1
 obtain ⟨dv, h1, i, k1, w1⟩ := JT (p := p) (jr := jr) (x := x8) e24 Ws (O0.trans Os) (Ob.c0 oj) rfl r8 (by rw [List.length_take]; omega)
 have bj : ah j hb = .none := O0.none nj
 have bjr : ah jr hb = .none := O0.none njr
 have oj1 := oj.old w1.old
 have ojr1 := ojr.old w1.old
 obtain ⟨hA, a1, a2, a3, a4⟩ := cP (k := 5) (v := dv) oj1 (by simp) (Lb.one w1)
 have a2 : Ob hA j 28 true .plain [i64 e.au, i64 e.seq, i64 e.kind, bu (e.name.take 20), bu (e.text.take 700), dv, y] := a2
 have WA : Wf hA := w1.wf.of a4 fun k hk => by rw [a3 k (fun e => by rw [e] at hk; exact oj1.ne hk)]; exact hk
 have OA : Old h hA := fun k hk => by
  have e := (Os.trans w1.old) k hk
  rw [a3 k (fun e => by rw [e] at hk; exact hk nj), e]
 obtain ⟨v2, hB, c1, w2⟩ := Qm (p := p) e24 e25 WA (O0.trans OA) r2 hr
 have ojB := a2.old w2.old
 have ojrA : Ob hA jr 28 true .plain z := ojr1.eq (a3 jr (Ne.symm hne))
 have ojrB := ojrA.old w2.old
 obtain ⟨hC, b1, b2, b3, b4⟩ := cP (k := 6) (v := v2) ojB (by simp) (Lb.one w2)
 have b2 : Ob hC j 28 true .plain [i64 e.au, i64 e.seq, i64 e.kind, bu (e.name.take 20), bu (e.text.take 700), dv, v2] := b2
 have WC : Wf hC := w2.wf.of b4 fun k hk => by rw [b3 k (fun e => by rw [e] at hk; exact ojB.ne hk)]; exact hk
 have ojrC : Ob hC jr 28 true .plain z := ojrB.eq (b3 jr (Ne.symm hne))
 obtain ⟨hD, d1, d2, d3, d4⟩ := ef (k := 0) (m := 7) (l' := [i64 e.au, i64 e.seq, i64 e.kind, bu (e.name.take 20), bu (e.text.take 700), dv, v2]) ojrC rfl (by omega)
 have WD : Wf hD := WC.of d4 fun k hk => by rw [d3 k (fun e => by rw [e] at hk; exact ojrC.ne hk)]; exact hk
 have d2 : Ob hD jr 28 true .plain (cE dv v2 (aO e)) := by
  have : z.take 0 ++ (cE dv v2 (aO e) ++ z.drop (0 + 7)) = cE dv v2 (aO e) := by
   rw [List.drop_of_length_le (by omega)]; simp
  rw [← this]; exact d2
 obtain ⟨hr1, p1, p2, p3, p4⟩ := Lb.rd w1 uD.mono (by omega)
 obtain ⟨hr2, q1, q2, q3, q4⟩ := Lb.rd w2 gz.mono (by omega)
 have hsj : ah j hs ≠ .none := oj.ne
 have hsr : ah jr hs ≠ .none := ojr.ne
 have P : Old hr1 hD := fun k hk => by
  have n1 : k ≠ j := fun e => by
   rw [e] at hk
   rcases p3 j hk with g | g
   ·exact g bj
   ·exact hsj g
  have n2 : k ≠ jr := fun e => by
   rw [e] at hk
   rcases p3 jr hk with g | g
   ·exact g bjr
   ·exact hsr g
  have e1 := p2 k hk
  have e2 : ah k hA = ah k hr1 := by rw [a3 k n1, e1]
  rw [d3 k n2, b3 k n1, w2.old k (by rw [e2]; exact hk), e2]
 have Q : Old hr2 hD := fun k hk => by
  have n1 : k ≠ j := fun e => by
   rw [e] at hk
   rcases q3 j hk with g | g
   ·exact g bj
   ·exact a2.ne g
  have n2 : k ≠ jr := fun e => by
   rw [e] at hk
   rcases q3 jr hk with g | g
   ·exact g bjr
   ·exact ojrA.ne g
  rw [d3 k n2, b3 k n1, q2 k hk]
 obtain ⟨hr, m1, m2, m3, m4⟩ := merge P Q
 have OD : Old h hD := fun k hk => by
  have e := (OA.trans w2.old) k hk
  rw [d3 k (fun e => by rw [e] at hk; exact hk njr), b3 k (fun e => by rw [e] at hk; exact hk nj), e]
 have s4 : Rn p (.ag k15_6 .skip) (T12 (.ptr j 0) (.ptr jr 0) dv (i64 i)) h1 (.ret (T0 (.ptr jr 0)) hD) := .ag (c1.mono fun m g => by
  have g : aB p (exec p m) 34 [y, pi 9] hA = .ok v2 hB := g
  simp only [k15_6, K3, t12_1, t12_2, t12_3]
  (rw [an, Nat.zero_add, cJ a1, an, aD (aj (Ob.c0 a2) 6 rfl), aF g, an, Nat.zero_add, cJ b1, fk (bD (m := 7) (Ob.c0 b2) rfl), fX d1]; try rfl))
 have s3 : ∀ cc i' (K : A2 → Hp → RS), k15_3 cc i' K (T11 (.ptr j 0) (.ptr jr 0) .ai) hs = K (T12 (.ptr j 0) (.ptr jr 0) .ai i0) hs := fun cc i' K => by
  simp only [k15_3, K3, t11_1, t11_2, t11_3]
 have rt : qR [.agg 7 .h0 .h2] (T0 (.ptr jr 0)) hD = .ok (.agg (cE dv v2 (aO e))) hD := by
  show (RV.rec (fun v _ => .ok v hD) (fun n => .err n) (Seat.pk 7 (.ptr jr 0) hD) : RV) = _
  rw [bD (m := 7) (Ob.c0 d2) (by simp [cE])]
 refine ⟨dv, v2, hD, hr, .of (r' := T0 (.ptr jr 0)) (h1 := hD) e9 (by simp) (.di s0 (.di s1 (.di s2 (.seq (.di s3 (.br k1)) s4)))) rt, OD, WD, p1.trans m1, m3, fun k hk => ?_, ?_, ?_⟩
 ·rcases m4 k hk with g | g
  ·rcases p3 k g with g | g
   ·exact .inl g
   ·exact .inr (Os.none g)
  ·rcases q3 k g with g | g
   ·exact .inl g
   ·exact .inr (OA.none g)
 ·exact cT.up p4 m1 fun _ _ _ e => e
 ·exact cT.up q4 m2 fun _ _ _ e => gz.up e m2
end
open Go.Cod
noncomputable section
variable {p : Pg} {h hb h' h2 h0 : Hp} {q j jr : P4} {x y v a b d e f g : AV} {o : Nat}
structure Sb (p : Pg) : Prop where
 e4 : ak 5 p.fs = f5
 e9 : ak 15 p.fs = f15
 e24 : ak 33 p.fs = f33
 e25 : ak 34 p.fs = f34
theorem vX (T : Sb p) (W : Wf h) (O0 : Old hb h) {l : List AV} {s : nX} (r : eu hb l s) (hr : ∀ c, c ∈ s.entry.changes → c.row.length ≤ 1048576) :
  ∃ x' y' h' hr, Cv p 5 [.agg l] h (.agg (eZ x' y' (bm s))) h' ∧ Old h h' ∧ Wf h' ∧ Old hb hr ∧ Old hr h' ∧ (∀ k, ah k hr ≠ .none → ah k hb ≠ .none ∨ ah k h = .none) ∧ aQ hr x' (bm s).entry.bB ∧ aZ hr y' (bm s).entry.changes := by
 obtain ⟨x, y, rfl, r1, r2⟩ := r
 obtain ⟨j, h1, f1, f2, f3, f4', f5, f6⟩ := lj (el := 30) (l := eZ x y s) W (by simp [eZ, cE])
 obtain ⟨jr, h2, g1, g2, g3, g4, g5, g6⟩ := fK (el := 30) (n := 12) f5 (c := .k1 (Y12 i0 i0 i0 i0 iS i0 i0 i0 iS iS .ai .ai)) trivial (by decide)
 have hne : j ≠ jr := fun e => f3.ne (e ▸ g2)
 have njr : ah jr h = .none := f4'.none g2
 have oj2 := f3.old g4
 have O2 := f4'.trans g4
 obtain ⟨x', y', h3, hr, c1, c2, c3, c4, c5, c6, c7, c8⟩ := Fa (p := p) (y := y) T.e9 T.e24 T.e25 g5 (O0.trans O2) r1 r2 hr
 have oj3 := oj2.old c2
 have ojr3 := g3.old c2
 obtain ⟨h4, d1, d2, d3, d4⟩ := ef (k := 5) (m := 7) (l' := cE x' y' (aO s.entry)) oj3 (by simp [cE]) (by simp [eZ, cE])
 have d2 : Ob h4 j 30 true .plain (eZ x' y' (bm s)) := d2
 have W4 : Wf h4 := c3.of d4 fun k hk => by rw [d3 k (fun e => by rw [e] at hk; exact oj3.ne hk)]; exact hk
 have ojr4 := ojr3.eq (d3 jr (Ne.symm hne))
 obtain ⟨h5, e1, e2, e3, e4⟩ := ef (k := 0) (m := 12) (l' := eZ x' y' (bm s)) ojr4 (by simp [eZ, cE]) (by rw [aW]; omega)
 have W5 : Wf h5 := W4.of e4 fun k hk => by rw [e3 k (fun e => by rw [e] at hk; exact ojr4.ne hk)]; exact hk
 have e2 : Ob h5 jr 30 true .plain (eZ x' y' (bm s)) := by
  have : (bP 12 (.k1 (Y12 i0 i0 i0 i0 iS i0 i0 i0 iS iS .ai .ai)) 0).take 0 ++ (eZ x' y' (bm s) ++ (bP 12 (.k1 (Y12 i0 i0 i0 i0 iS i0 i0 i0 iS iS .ai .ai)) 0).drop (0 + 12)) = eZ x' y' (bm s) := by
   rw [List.drop_of_length_le (by rw [aW]; omega)]; simp
  rw [← this]; exact e2
 have M1 := bD (m := 7) (Jx (Ob.c0 oj2)) (by simp [cE])
 have M2 := bD (m := 12) (Ob.c0 d2) (by simp [eZ, cE])
 have rt : qR [.agg 12 .h0 .h2] (T0 (.ptr jr 0)) h5 = .ok (.agg (eZ x' y' (bm s))) h5 := by
  show (RV.rec (fun v _ => .ok v h5) (fun n => .err n) (Seat.pk 12 (.ptr jr 0) h5) : RV) = _
  rw [bD (m := 12) (Ob.c0 e2) (by simp [eZ, cE])]
 have nj : ah j h = .none := f2
 have bj : ah j hb = .none := O0.none nj
 have bjr : ah jr hb = .none := O0.none njr
 have ne1 : ∀ k, ah k hr ≠ .none → k ≠ j ∧ k ≠ jr := fun k hk => ⟨fun e => by
   rw [e] at hk
   rcases c6 j hk with g | g
   ·exact g bj
   ·exact oj2.ne g, fun e => by
   rw [e] at hk
   rcases c6 jr hk with g | g
   ·exact g bjr
   ·exact g3.ne g⟩
 refine ⟨x', y', h5, hr, .of (r' := T0 (.ptr jr 0)) (h1 := h5) T.e4 (by simp) (.ag (c1.mono fun m g => ?_)) rt, fun k hk => ?_, W5, c4, fun k hk => ?_, fun k hk => ?_, c7, c8⟩
 ·simp only [k5_0, K1, cm]
  (rw [jh f1, iI g1, an, Nat.zero_add, fk M1, aF g, an, Nat.zero_add, fX d1, fk M2, fX e1]; try rfl)
 ·have e := (O2.trans c2) k hk
  rw [e3 k (fun e => by rw [e] at hk; exact hk njr), d3 k (fun e => by rw [e] at hk; exact hk nj), e]
 ·rw [e3 k (ne1 k hk).2, d3 k (ne1 k hk).1, c5 k hk]
 ·rcases c6 k hk with g | g
  ·exact .inl g
  ·exact .inr (O2.none g)
end
open Go.Cod
noncomputable section
variable {p : Pg} {h hb h' h2 h0 : Hp} {q j je : P4} {x y v a b d e f g : AV} {o : Nat}
def mK (s : nX) : Bool := decide (s.kind < 1) || decide (9 < s.kind) || !small s.au || !small s.node || !small s.n || decide (255 < s.name.length) || !small s.entry.au || !small s.entry.seq || !small s.entry.kind || decide (255 < s.entry.bB.length) || decide (255 < s.entry.changes.length)
theorem SB (m n : Nat) : bK .gt (i64 n) (pi m) h = .ok (.bool (decide (m < n))) h := by
 show cB (.int .i64 n) (.int .i64 (.ofNat m)) h = _
 rw [gy]
 congr 2
 rw [decide_eq_decide]
 show (m : Int) < _ ↔ _
 omega
set_option maxRecDepth 20000 in
set_option maxHeartbeats 1000000 in
theorem Fb (e10 : ak 14 p.fs = f14) {xs ys : AV} {s : nX} (c : Cs h j 0 (eZ xs ys s)) (ce : Cs h je 0 (cE x y s.entry)) (r1 : aQ h x s.entry.bB) (r2 : aZ h y s.entry.changes) :
  ∃ r', Os p (opsL (fst (fst (bh x4)))) (T1 (.ptr j 0) (.ptr je 0)) h (.nm r' h) ∧ y3 r' = .ptr je 0 ∧ y70 r' = .bool (mK s) := by
 have lt1 : bK .lt (i64 s.kind) (pi 1) h = .ok (.bool (decide (s.kind < 1))) h := lS _ _ _
 have gt9 : bK .gt (i64 s.kind) (pi 9) h = .ok (.bool (decide (9 < s.kind))) h := gy _ _ _
 have n1 := eE (p := p) (h := h) e10 s.au
 have n2 := eE (p := p) (h := h) e10 s.node
 have n3 := eE (p := p) (h := h) e10 s.n
 have g1 := SB (h := h) 255 s.name.length
 have n4 := eE (p := p) (h := h) e10 s.entry.au
 have n5 := eE (p := p) (h := h) e10 s.entry.seq
 have n6 := eE (p := p) (h := h) e10 s.entry.kind
 have g2 := SB (h := h) 255 s.entry.bB.length
 have g3 := SB (h := h) 255 s.entry.changes.length
 have l1 := cT.len r1
 have l2 := cT.len r2
 cases k0 : decide (s.kind < 1) with
 | true =>
  rw [k0] at lt1
  refine ⟨_, .step (v := .ptr j 0) (h' := h) rfl <| .step (v := i64 s.kind) (h' := h) (aP c rfl) <| .step (v := .bool true) (h' := h) lt1 <| .step (v := .bool true) (h' := h) rfl <| .off rfl <| .off rfl <| .off rfl <| .step (v := .bool true) (h' := h) rfl <| .step (v := .bool true) (h' := h) rfl <| .off rfl <| .off rfl <| .off rfl <| .off rfl <| .step (v := .bool true) (h' := h) rfl <| .step (v := .bool true) (h' := h) rfl <| .off rfl <| .off rfl <| .off rfl <| .off rfl <| .step (v := .bool true) (h' := h) rfl <| .step (v := .bool true) (h' := h) rfl <| .off rfl <| .off rfl <| .off rfl <| .off rfl <| .step (v := .bool true) (h' := h) rfl <| .step (v := .bool true) (h' := h) rfl <| .off rfl <| .off rfl <| .off rfl <| .off rfl <| .step (v := .bool true) (h' := h) rfl <| .step (v := .bool true) (h' := h) rfl <| .off rfl <| .off rfl <| .off rfl <| .off rfl <| .step (v := .bool true) (h' := h) rfl <| .step (v := .bool true) (h' := h) rfl <| .off rfl <| .off rfl <| .off rfl <| .off rfl <| .step (v := .bool true) (h' := h) rfl <| .step (v := .bool true) (h' := h) rfl <| .off rfl <| .off rfl <| .off rfl <| .off rfl <| .step (v := .bool true) (h' := h) rfl <| .step (v := .bool true) (h' := h) rfl <| .off rfl <| .off rfl <| .off rfl <| .off rfl <| .step (v := .bool true) (h' := h) rfl <| .step (v := .bool true) (h' := h) rfl <| .off rfl <| .off rfl <| .off rfl <| .off rfl <| .step (v := .bool true) (h' := h) rfl <| .nil, rfl, ?_⟩
  unfold mK; rw [k0]; rfl
 | false =>
  rw [k0] at lt1
  cases k1 : decide (9 < s.kind) with
  | true =>
   rw [k1] at gt9
   refine ⟨_, .step (v := .ptr j 0) (h' := h) rfl <| .step (v := i64 s.kind) (h' := h) (aP c rfl) <| .step (v := .bool false) (h' := h) lt1 <| .step (v := .bool false) (h' := h) rfl <| .on rfl <| .step (v := .ptr j 0) (h' := h) rfl <| .on rfl <| .step (v := i64 s.kind) (h' := h) (aP c rfl) <| .on rfl <| .step (v := .bool true) (h' := h) gt9 <| .step (v := .bool true) (h' := h) rfl <| .step (v := .bool true) (h' := h) rfl <| .off rfl <| .off rfl <| .off rfl <| .off rfl <| .step (v := .bool true) (h' := h) rfl <| .step (v := .bool true) (h' := h) rfl <| .off rfl <| .off rfl <| .off rfl <| .off rfl <| .step (v := .bool true) (h' := h) rfl <| .step (v := .bool true) (h' := h) rfl <| .off rfl <| .off rfl <| .off rfl <| .off rfl <| .step (v := .bool true) (h' := h) rfl <| .step (v := .bool true) (h' := h) rfl <| .off rfl <| .off rfl <| .off rfl <| .off rfl <| .step (v := .bool true) (h' := h) rfl <| .step (v := .bool true) (h' := h) rfl <| .off rfl <| .off rfl <| .off rfl <| .off rfl <| .step (v := .bool true) (h' := h) rfl <| .step (v := .bool true) (h' := h) rfl <| .off rfl <| .off rfl <| .off rfl <| .off rfl <| .step (v := .bool true) (h' := h) rfl <| .step (v := .bool true) (h' := h) rfl <| .off rfl <| .off rfl <| .off rfl <| .off rfl <| .step (v := .bool true) (h' := h) rfl <| .step (v := .bool true) (h' := h) rfl <| .off rfl <| .off rfl <| .off rfl <| .off rfl <| .step (v := .bool true) (h' := h) rfl <| .step (v := .bool true) (h' := h) rfl <| .off rfl <| .off rfl <| .off rfl <| .off rfl <| .step (v := .bool true) (h' := h) rfl <| .nil, rfl, ?_⟩
   unfold mK; rw [k0, k1]; rfl
  | false =>
   rw [k1] at gt9
   cases k2 : small s.au with
   | false =>
    rw [k2] at n1
    refine ⟨_, .step (v := .ptr j 0) (h' := h) rfl <| .step (v := i64 s.kind) (h' := h) (aP c rfl) <| .step (v := .bool false) (h' := h) lt1 <| .step (v := .bool false) (h' := h) rfl <| .on rfl <| .step (v := .ptr j 0) (h' := h) rfl <| .on rfl <| .step (v := i64 s.kind) (h' := h) (aP c rfl) <| .on rfl <| .step (v := .bool false) (h' := h) gt9 <| .step (v := .bool false) (h' := h) rfl <| .step (v := .bool false) (h' := h) rfl <| .on rfl <| .step (v := .ptr j 1) (h' := h) rfl <| .on rfl <| .step (v := i64 s.au) (h' := h) (aj c 1 rfl) <| .on rfl <| .call (v := .bool false) (h' := h) n1 <| .on rfl <| .step (v := .bool true) (h' := h) rfl <| .step (v := .bool true) (h' := h) rfl <| .step (v := .bool true) (h' := h) rfl <| .off rfl <| .off rfl <| .off rfl <| .off rfl <| .step (v := .bool true) (h' := h) rfl <| .step (v := .bool true) (h' := h) rfl <| .off rfl <| .off rfl <| .off rfl <| .off rfl <| .step (v := .bool true) (h' := h) rfl <| .step (v := .bool true) (h' := h) rfl <| .off rfl <| .off rfl <| .off rfl <| .off rfl <| .step (v := .bool true) (h' := h) rfl <| .step (v := .bool true) (h' := h) rfl <| .off rfl <| .off rfl <| .off rfl <| .off rfl <| .step (v := .bool true) (h' := h) rfl <| .step (v := .bool true) (h' := h) rfl <| .off rfl <| .off rfl <| .off rfl <| .off rfl <| .step (v := .bool true) (h' := h) rfl <| .step (v := .bool true) (h' := h) rfl <| .off rfl <| .off rfl <| .off rfl <| .off rfl <| .step (v := .bool true) (h' := h) rfl <| .step (v := .bool true) (h' := h) rfl <| .off rfl <| .off rfl <| .off rfl <| .off rfl <| .step (v := .bool true) (h' := h) rfl <| .step (v := .bool true) (h' := h) rfl <| .off rfl <| .off rfl <| .off rfl <| .off rfl <| .step (v := .bool true) (h' := h) rfl <| .nil, rfl, ?_⟩
    unfold mK; rw [k0, k1, k2]; rfl
   | true =>
    rw [k2] at n1
    cases k3 : small s.node with
    | false =>
     rw [k3] at n2
     refine ⟨_, .step (v := .ptr j 0) (h' := h) rfl <| .step (v := i64 s.kind) (h' := h) (aP c rfl) <| .step (v := .bool false) (h' := h) lt1 <| .step (v := .bool false) (h' := h) rfl <| .on rfl <| .step (v := .ptr j 0) (h' := h) rfl <| .on rfl <| .step (v := i64 s.kind) (h' := h) (aP c rfl) <| .on rfl <| .step (v := .bool false) (h' := h) gt9 <| .step (v := .bool false) (h' := h) rfl <| .step (v := .bool false) (h' := h) rfl <| .on rfl <| .step (v := .ptr j 1) (h' := h) rfl <| .on rfl <| .step (v := i64 s.au) (h' := h) (aj c 1 rfl) <| .on rfl <| .call (v := .bool true) (h' := h) n1 <| .on rfl <| .step (v := .bool false) (h' := h) rfl <| .step (v := .bool false) (h' := h) rfl <| .step (v := .bool false) (h' := h) rfl <| .on rfl <| .step (v := .ptr j 2) (h' := h) rfl <| .on rfl <| .step (v := i64 s.node) (h' := h) (aj c 2 rfl) <| .on rfl <| .call (v := .bool false) (h' := h) n2 <| .on rfl <| .step (v := .bool true) (h' := h) rfl <| .step (v := .bool true) (h' := h) rfl <| .step (v := .bool true) (h' := h) rfl <| .off rfl <| .off rfl <| .off rfl <| .off rfl <| .step (v := .bool true) (h' := h) rfl <| .step (v := .bool true) (h' := h) rfl <| .off rfl <| .off rfl <| .off rfl <| .off rfl <| .step (v := .bool true) (h' := h) rfl <| .step (v := .bool true) (h' := h) rfl <| .off rfl <| .off rfl <| .off rfl <| .off rfl <| .step (v := .bool true) (h' := h) rfl <| .step (v := .bool true) (h' := h) rfl <| .off rfl <| .off rfl <| .off rfl <| .off rfl <| .step (v := .bool true) (h' := h) rfl <| .step (v := .bool true) (h' := h) rfl <| .off rfl <| .off rfl <| .off rfl <| .off rfl <| .step (v := .bool true) (h' := h) rfl <| .step (v := .bool true) (h' := h) rfl <| .off rfl <| .off rfl <| .off rfl <| .off rfl <| .step (v := .bool true) (h' := h) rfl <| .step (v := .bool true) (h' := h) rfl <| .off rfl <| .off rfl <| .off rfl <| .off rfl <| .step (v := .bool true) (h' := h) rfl <| .nil, rfl, ?_⟩
     unfold mK; rw [k0, k1, k2, k3]; rfl
    | true =>
     rw [k3] at n2
     cases k4 : small s.n with
     | false =>
      rw [k4] at n3
      refine ⟨_, .step (v := .ptr j 0) (h' := h) rfl <| .step (v := i64 s.kind) (h' := h) (aP c rfl) <| .step (v := .bool false) (h' := h) lt1 <| .step (v := .bool false) (h' := h) rfl <| .on rfl <| .step (v := .ptr j 0) (h' := h) rfl <| .on rfl <| .step (v := i64 s.kind) (h' := h) (aP c rfl) <| .on rfl <| .step (v := .bool false) (h' := h) gt9 <| .step (v := .bool false) (h' := h) rfl <| .step (v := .bool false) (h' := h) rfl <| .on rfl <| .step (v := .ptr j 1) (h' := h) rfl <| .on rfl <| .step (v := i64 s.au) (h' := h) (aj c 1 rfl) <| .on rfl <| .call (v := .bool true) (h' := h) n1 <| .on rfl <| .step (v := .bool false) (h' := h) rfl <| .step (v := .bool false) (h' := h) rfl <| .step (v := .bool false) (h' := h) rfl <| .on rfl <| .step (v := .ptr j 2) (h' := h) rfl <| .on rfl <| .step (v := i64 s.node) (h' := h) (aj c 2 rfl) <| .on rfl <| .call (v := .bool true) (h' := h) n2 <| .on rfl <| .step (v := .bool false) (h' := h) rfl <| .step (v := .bool false) (h' := h) rfl <| .step (v := .bool false) (h' := h) rfl <| .on rfl <| .step (v := .ptr j 3) (h' := h) rfl <| .on rfl <| .step (v := i64 s.n) (h' := h) (aj c 3 rfl) <| .on rfl <| .call (v := .bool false) (h' := h) n3 <| .on rfl <| .step (v := .bool true) (h' := h) rfl <| .step (v := .bool true) (h' := h) rfl <| .step (v := .bool true) (h' := h) rfl <| .off rfl <| .off rfl <| .off rfl <| .off rfl <| .step (v := .bool true) (h' := h) rfl <| .step (v := .bool true) (h' := h) rfl <| .off rfl <| .off rfl <| .off rfl <| .off rfl <| .step (v := .bool true) (h' := h) rfl <| .step (v := .bool true) (h' := h) rfl <| .off rfl <| .off rfl <| .off rfl <| .off rfl <| .step (v := .bool true) (h' := h) rfl <| .step (v := .bool true) (h' := h) rfl <| .off rfl <| .off rfl <| .off rfl <| .off rfl <| .step (v := .bool true) (h' := h) rfl <| .step (v := .bool true) (h' := h) rfl <| .off rfl <| .off rfl <| .off rfl <| .off rfl <| .step (v := .bool true) (h' := h) rfl <| .step (v := .bool true) (h' := h) rfl <| .off rfl <| .off rfl <| .off rfl <| .off rfl <| .step (v := .bool true) (h' := h) rfl <| .nil, rfl, ?_⟩
      unfold mK; rw [k0, k1, k2, k3, k4]; rfl
     | true =>
      rw [k4] at n3
      cases k5 : decide (255 < s.name.length) with
      | true =>
       rw [k5] at g1
       refine ⟨_, .step (v := .ptr j 0) (h' := h) rfl <| .step (v := i64 s.kind) (h' := h) (aP c rfl) <| .step (v := .bool false) (h' := h) lt1 <| .step (v := .bool false) (h' := h) rfl <| .on rfl <| .step (v := .ptr j 0) (h' := h) rfl <| .on rfl <| .step (v := i64 s.kind) (h' := h) (aP c rfl) <| .on rfl <| .step (v := .bool false) (h' := h) gt9 <| .step (v := .bool false) (h' := h) rfl <| .step (v := .bool false) (h' := h) rfl <| .on rfl <| .step (v := .ptr j 1) (h' := h) rfl <| .on rfl <| .step (v := i64 s.au) (h' := h) (aj c 1 rfl) <| .on rfl <| .call (v := .bool true) (h' := h) n1 <| .on rfl <| .step (v := .bool false) (h' := h) rfl <| .step (v := .bool false) (h' := h) rfl <| .step (v := .bool false) (h' := h) rfl <| .on rfl <| .step (v := .ptr j 2) (h' := h) rfl <| .on rfl <| .step (v := i64 s.node) (h' := h) (aj c 2 rfl) <| .on rfl <| .call (v := .bool true) (h' := h) n2 <| .on rfl <| .step (v := .bool false) (h' := h) rfl <| .step (v := .bool false) (h' := h) rfl <| .step (v := .bool false) (h' := h) rfl <| .on rfl <| .step (v := .ptr j 3) (h' := h) rfl <| .on rfl <| .step (v := i64 s.n) (h' := h) (aj c 3 rfl) <| .on rfl <| .call (v := .bool true) (h' := h) n3 <| .on rfl <| .step (v := .bool false) (h' := h) rfl <| .step (v := .bool false) (h' := h) rfl <| .step (v := .bool false) (h' := h) rfl <| .on rfl <| .step (v := .ptr j 4) (h' := h) rfl <| .on rfl <| .step (v := bu s.name) (h' := h) (aj c 4 rfl) <| .on rfl <| .step (v := i64 s.name.length) (h' := h) (dR _) <| .on rfl <| .step (v := .bool true) (h' := h) g1 <| .step (v := .bool true) (h' := h) rfl <| .step (v := .bool true) (h' := h) rfl <| .off rfl <| .off rfl <| .off rfl <| .off rfl <| .step (v := .bool true) (h' := h) rfl <| .step (v := .bool true) (h' := h) rfl <| .off rfl <| .off rfl <| .off rfl <| .off rfl <| .step (v := .bool true) (h' := h) rfl <| .step (v := .bool true) (h' := h) rfl <| .off rfl <| .off rfl <| .off rfl <| .off rfl <| .step (v := .bool true) (h' := h) rfl <| .step (v := .bool true) (h' := h) rfl <| .off rfl <| .off rfl <| .off rfl <| .off rfl <| .step (v := .bool true) (h' := h) rfl <| .step (v := .bool true) (h' := h) rfl <| .off rfl <| .off rfl <| .off rfl <| .off rfl <| .step (v := .bool true) (h' := h) rfl <| .nil, rfl, ?_⟩
       unfold mK; rw [k0, k1, k2, k3, k4, k5]; rfl
      | false =>
       rw [k5] at g1
       cases k6 : small s.entry.au with
       | false =>
        rw [k6] at n4
        refine ⟨_, .step (v := .ptr j 0) (h' := h) rfl <| .step (v := i64 s.kind) (h' := h) (aP c rfl) <| .step (v := .bool false) (h' := h) lt1 <| .step (v := .bool false) (h' := h) rfl <| .on rfl <| .step (v := .ptr j 0) (h' := h) rfl <| .on rfl <| .step (v := i64 s.kind) (h' := h) (aP c rfl) <| .on rfl <| .step (v := .bool false) (h' := h) gt9 <| .step (v := .bool false) (h' := h) rfl <| .step (v := .bool false) (h' := h) rfl <| .on rfl <| .step (v := .ptr j 1) (h' := h) rfl <| .on rfl <| .step (v := i64 s.au) (h' := h) (aj c 1 rfl) <| .on rfl <| .call (v := .bool true) (h' := h) n1 <| .on rfl <| .step (v := .bool false) (h' := h) rfl <| .step (v := .bool false) (h' := h) rfl <| .step (v := .bool false) (h' := h) rfl <| .on rfl <| .step (v := .ptr j 2) (h' := h) rfl <| .on rfl <| .step (v := i64 s.node) (h' := h) (aj c 2 rfl) <| .on rfl <| .call (v := .bool true) (h' := h) n2 <| .on rfl <| .step (v := .bool false) (h' := h) rfl <| .step (v := .bool false) (h' := h) rfl <| .step (v := .bool false) (h' := h) rfl <| .on rfl <| .step (v := .ptr j 3) (h' := h) rfl <| .on rfl <| .step (v := i64 s.n) (h' := h) (aj c 3 rfl) <| .on rfl <| .call (v := .bool true) (h' := h) n3 <| .on rfl <| .step (v := .bool false) (h' := h) rfl <| .step (v := .bool false) (h' := h) rfl <| .step (v := .bool false) (h' := h) rfl <| .on rfl <| .step (v := .ptr j 4) (h' := h) rfl <| .on rfl <| .step (v := bu s.name) (h' := h) (aj c 4 rfl) <| .on rfl <| .step (v := i64 s.name.length) (h' := h) (dR _) <| .on rfl <| .step (v := .bool false) (h' := h) g1 <| .step (v := .bool false) (h' := h) rfl <| .step (v := .bool false) (h' := h) rfl <| .on rfl <| .step (v := .ptr je 0) (h' := h) rfl <| .on rfl <| .step (v := i64 s.entry.au) (h' := h) (aP ce rfl) <| .on rfl <| .call (v := .bool false) (h' := h) n4 <| .on rfl <| .step (v := .bool true) (h' := h) rfl <| .step (v := .bool true) (h' := h) rfl <| .step (v := .bool true) (h' := h) rfl <| .off rfl <| .off rfl <| .off rfl <| .off rfl <| .step (v := .bool true) (h' := h) rfl <| .step (v := .bool true) (h' := h) rfl <| .off rfl <| .off rfl <| .off rfl <| .off rfl <| .step (v := .bool true) (h' := h) rfl <| .step (v := .bool true) (h' := h) rfl <| .off rfl <| .off rfl <| .off rfl <| .off rfl <| .step (v := .bool true) (h' := h) rfl <| .step (v := .bool true) (h' := h) rfl <| .off rfl <| .off rfl <| .off rfl <| .off rfl <| .step (v := .bool true) (h' := h) rfl <| .nil, rfl, ?_⟩
        unfold mK; rw [k0, k1, k2, k3, k4, k5, k6]; rfl
       | true =>
        rw [k6] at n4
        cases k7 : small s.entry.seq with
        | false =>
         rw [k7] at n5
         refine ⟨_, .step (v := .ptr j 0) (h' := h) rfl <| .step (v := i64 s.kind) (h' := h) (aP c rfl) <| .step (v := .bool false) (h' := h) lt1 <| .step (v := .bool false) (h' := h) rfl <| .on rfl <| .step (v := .ptr j 0) (h' := h) rfl <| .on rfl <| .step (v := i64 s.kind) (h' := h) (aP c rfl) <| .on rfl <| .step (v := .bool false) (h' := h) gt9 <| .step (v := .bool false) (h' := h) rfl <| .step (v := .bool false) (h' := h) rfl <| .on rfl <| .step (v := .ptr j 1) (h' := h) rfl <| .on rfl <| .step (v := i64 s.au) (h' := h) (aj c 1 rfl) <| .on rfl <| .call (v := .bool true) (h' := h) n1 <| .on rfl <| .step (v := .bool false) (h' := h) rfl <| .step (v := .bool false) (h' := h) rfl <| .step (v := .bool false) (h' := h) rfl <| .on rfl <| .step (v := .ptr j 2) (h' := h) rfl <| .on rfl <| .step (v := i64 s.node) (h' := h) (aj c 2 rfl) <| .on rfl <| .call (v := .bool true) (h' := h) n2 <| .on rfl <| .step (v := .bool false) (h' := h) rfl <| .step (v := .bool false) (h' := h) rfl <| .step (v := .bool false) (h' := h) rfl <| .on rfl <| .step (v := .ptr j 3) (h' := h) rfl <| .on rfl <| .step (v := i64 s.n) (h' := h) (aj c 3 rfl) <| .on rfl <| .call (v := .bool true) (h' := h) n3 <| .on rfl <| .step (v := .bool false) (h' := h) rfl <| .step (v := .bool false) (h' := h) rfl <| .step (v := .bool false) (h' := h) rfl <| .on rfl <| .step (v := .ptr j 4) (h' := h) rfl <| .on rfl <| .step (v := bu s.name) (h' := h) (aj c 4 rfl) <| .on rfl <| .step (v := i64 s.name.length) (h' := h) (dR _) <| .on rfl <| .step (v := .bool false) (h' := h) g1 <| .step (v := .bool false) (h' := h) rfl <| .step (v := .bool false) (h' := h) rfl <| .on rfl <| .step (v := .ptr je 0) (h' := h) rfl <| .on rfl <| .step (v := i64 s.entry.au) (h' := h) (aP ce rfl) <| .on rfl <| .call (v := .bool true) (h' := h) n4 <| .on rfl <| .step (v := .bool false) (h' := h) rfl <| .step (v := .bool false) (h' := h) rfl <| .step (v := .bool false) (h' := h) rfl <| .on rfl <| .step (v := .ptr je 1) (h' := h) rfl <| .on rfl <| .step (v := i64 s.entry.seq) (h' := h) (aj ce 1 rfl) <| .on rfl <| .call (v := .bool false) (h' := h) n5 <| .on rfl <| .step (v := .bool true) (h' := h) rfl <| .step (v := .bool true) (h' := h) rfl <| .step (v := .bool true) (h' := h) rfl <| .off rfl <| .off rfl <| .off rfl <| .off rfl <| .step (v := .bool true) (h' := h) rfl <| .step (v := .bool true) (h' := h) rfl <| .off rfl <| .off rfl <| .off rfl <| .off rfl <| .step (v := .bool true) (h' := h) rfl <| .step (v := .bool true) (h' := h) rfl <| .off rfl <| .off rfl <| .off rfl <| .off rfl <| .step (v := .bool true) (h' := h) rfl <| .nil, rfl, ?_⟩
         unfold mK; rw [k0, k1, k2, k3, k4, k5, k6, k7]; rfl
        | true =>
         rw [k7] at n5
         cases k8 : small s.entry.kind with
         | false =>
          rw [k8] at n6
          refine ⟨_, .step (v := .ptr j 0) (h' := h) rfl <| .step (v := i64 s.kind) (h' := h) (aP c rfl) <| .step (v := .bool false) (h' := h) lt1 <| .step (v := .bool false) (h' := h) rfl <| .on rfl <| .step (v := .ptr j 0) (h' := h) rfl <| .on rfl <| .step (v := i64 s.kind) (h' := h) (aP c rfl) <| .on rfl <| .step (v := .bool false) (h' := h) gt9 <| .step (v := .bool false) (h' := h) rfl <| .step (v := .bool false) (h' := h) rfl <| .on rfl <| .step (v := .ptr j 1) (h' := h) rfl <| .on rfl <| .step (v := i64 s.au) (h' := h) (aj c 1 rfl) <| .on rfl <| .call (v := .bool true) (h' := h) n1 <| .on rfl <| .step (v := .bool false) (h' := h) rfl <| .step (v := .bool false) (h' := h) rfl <| .step (v := .bool false) (h' := h) rfl <| .on rfl <| .step (v := .ptr j 2) (h' := h) rfl <| .on rfl <| .step (v := i64 s.node) (h' := h) (aj c 2 rfl) <| .on rfl <| .call (v := .bool true) (h' := h) n2 <| .on rfl <| .step (v := .bool false) (h' := h) rfl <| .step (v := .bool false) (h' := h) rfl <| .step (v := .bool false) (h' := h) rfl <| .on rfl <| .step (v := .ptr j 3) (h' := h) rfl <| .on rfl <| .step (v := i64 s.n) (h' := h) (aj c 3 rfl) <| .on rfl <| .call (v := .bool true) (h' := h) n3 <| .on rfl <| .step (v := .bool false) (h' := h) rfl <| .step (v := .bool false) (h' := h) rfl <| .step (v := .bool false) (h' := h) rfl <| .on rfl <| .step (v := .ptr j 4) (h' := h) rfl <| .on rfl <| .step (v := bu s.name) (h' := h) (aj c 4 rfl) <| .on rfl <| .step (v := i64 s.name.length) (h' := h) (dR _) <| .on rfl <| .step (v := .bool false) (h' := h) g1 <| .step (v := .bool false) (h' := h) rfl <| .step (v := .bool false) (h' := h) rfl <| .on rfl <| .step (v := .ptr je 0) (h' := h) rfl <| .on rfl <| .step (v := i64 s.entry.au) (h' := h) (aP ce rfl) <| .on rfl <| .call (v := .bool true) (h' := h) n4 <| .on rfl <| .step (v := .bool false) (h' := h) rfl <| .step (v := .bool false) (h' := h) rfl <| .step (v := .bool false) (h' := h) rfl <| .on rfl <| .step (v := .ptr je 1) (h' := h) rfl <| .on rfl <| .step (v := i64 s.entry.seq) (h' := h) (aj ce 1 rfl) <| .on rfl <| .call (v := .bool true) (h' := h) n5 <| .on rfl <| .step (v := .bool false) (h' := h) rfl <| .step (v := .bool false) (h' := h) rfl <| .step (v := .bool false) (h' := h) rfl <| .on rfl <| .step (v := .ptr je 2) (h' := h) rfl <| .on rfl <| .step (v := i64 s.entry.kind) (h' := h) (aj ce 2 rfl) <| .on rfl <| .call (v := .bool false) (h' := h) n6 <| .on rfl <| .step (v := .bool true) (h' := h) rfl <| .step (v := .bool true) (h' := h) rfl <| .step (v := .bool true) (h' := h) rfl <| .off rfl <| .off rfl <| .off rfl <| .off rfl <| .step (v := .bool true) (h' := h) rfl <| .step (v := .bool true) (h' := h) rfl <| .off rfl <| .off rfl <| .off rfl <| .off rfl <| .step (v := .bool true) (h' := h) rfl <| .nil, rfl, ?_⟩
          unfold mK; rw [k0, k1, k2, k3, k4, k5, k6, k7, k8]; rfl
         | true =>
          rw [k8] at n6
          cases k9 : decide (255 < s.entry.bB.length) with
          | true =>
           rw [k9] at g2
           refine ⟨_, .step (v := .ptr j 0) (h' := h) rfl <| .step (v := i64 s.kind) (h' := h) (aP c rfl) <| .step (v := .bool false) (h' := h) lt1 <| .step (v := .bool false) (h' := h) rfl <| .on rfl <| .step (v := .ptr j 0) (h' := h) rfl <| .on rfl <| .step (v := i64 s.kind) (h' := h) (aP c rfl) <| .on rfl <| .step (v := .bool false) (h' := h) gt9 <| .step (v := .bool false) (h' := h) rfl <| .step (v := .bool false) (h' := h) rfl <| .on rfl <| .step (v := .ptr j 1) (h' := h) rfl <| .on rfl <| .step (v := i64 s.au) (h' := h) (aj c 1 rfl) <| .on rfl <| .call (v := .bool true) (h' := h) n1 <| .on rfl <| .step (v := .bool false) (h' := h) rfl <| .step (v := .bool false) (h' := h) rfl <| .step (v := .bool false) (h' := h) rfl <| .on rfl <| .step (v := .ptr j 2) (h' := h) rfl <| .on rfl <| .step (v := i64 s.node) (h' := h) (aj c 2 rfl) <| .on rfl <| .call (v := .bool true) (h' := h) n2 <| .on rfl <| .step (v := .bool false) (h' := h) rfl <| .step (v := .bool false) (h' := h) rfl <| .step (v := .bool false) (h' := h) rfl <| .on rfl <| .step (v := .ptr j 3) (h' := h) rfl <| .on rfl <| .step (v := i64 s.n) (h' := h) (aj c 3 rfl) <| .on rfl <| .call (v := .bool true) (h' := h) n3 <| .on rfl <| .step (v := .bool false) (h' := h) rfl <| .step (v := .bool false) (h' := h) rfl <| .step (v := .bool false) (h' := h) rfl <| .on rfl <| .step (v := .ptr j 4) (h' := h) rfl <| .on rfl <| .step (v := bu s.name) (h' := h) (aj c 4 rfl) <| .on rfl <| .step (v := i64 s.name.length) (h' := h) (dR _) <| .on rfl <| .step (v := .bool false) (h' := h) g1 <| .step (v := .bool false) (h' := h) rfl <| .step (v := .bool false) (h' := h) rfl <| .on rfl <| .step (v := .ptr je 0) (h' := h) rfl <| .on rfl <| .step (v := i64 s.entry.au) (h' := h) (aP ce rfl) <| .on rfl <| .call (v := .bool true) (h' := h) n4 <| .on rfl <| .step (v := .bool false) (h' := h) rfl <| .step (v := .bool false) (h' := h) rfl <| .step (v := .bool false) (h' := h) rfl <| .on rfl <| .step (v := .ptr je 1) (h' := h) rfl <| .on rfl <| .step (v := i64 s.entry.seq) (h' := h) (aj ce 1 rfl) <| .on rfl <| .call (v := .bool true) (h' := h) n5 <| .on rfl <| .step (v := .bool false) (h' := h) rfl <| .step (v := .bool false) (h' := h) rfl <| .step (v := .bool false) (h' := h) rfl <| .on rfl <| .step (v := .ptr je 2) (h' := h) rfl <| .on rfl <| .step (v := i64 s.entry.kind) (h' := h) (aj ce 2 rfl) <| .on rfl <| .call (v := .bool true) (h' := h) n6 <| .on rfl <| .step (v := .bool false) (h' := h) rfl <| .step (v := .bool false) (h' := h) rfl <| .step (v := .bool false) (h' := h) rfl <| .on rfl <| .step (v := .ptr je 5) (h' := h) rfl <| .on rfl <| .step (v := x) (h' := h) (aj ce 5 rfl) <| .on rfl <| .step (v := i64 s.entry.bB.length) (h' := h) l1 <| .on rfl <| .step (v := .bool true) (h' := h) g2 <| .step (v := .bool true) (h' := h) rfl <| .step (v := .bool true) (h' := h) rfl <| .off rfl <| .off rfl <| .off rfl <| .off rfl <| .step (v := .bool true) (h' := h) rfl <| .nil, rfl, ?_⟩
           unfold mK; rw [k0, k1, k2, k3, k4, k5, k6, k7, k8, k9]; rfl
          | false =>
           rw [k9] at g2
           cases k10 : decide (255 < s.entry.changes.length) with
           | true =>
            rw [k10] at g3
            refine ⟨_, .step (v := .ptr j 0) (h' := h) rfl <| .step (v := i64 s.kind) (h' := h) (aP c rfl) <| .step (v := .bool false) (h' := h) lt1 <| .step (v := .bool false) (h' := h) rfl <| .on rfl <| .step (v := .ptr j 0) (h' := h) rfl <| .on rfl <| .step (v := i64 s.kind) (h' := h) (aP c rfl) <| .on rfl <| .step (v := .bool false) (h' := h) gt9 <| .step (v := .bool false) (h' := h) rfl <| .step (v := .bool false) (h' := h) rfl <| .on rfl <| .step (v := .ptr j 1) (h' := h) rfl <| .on rfl <| .step (v := i64 s.au) (h' := h) (aj c 1 rfl) <| .on rfl <| .call (v := .bool true) (h' := h) n1 <| .on rfl <| .step (v := .bool false) (h' := h) rfl <| .step (v := .bool false) (h' := h) rfl <| .step (v := .bool false) (h' := h) rfl <| .on rfl <| .step (v := .ptr j 2) (h' := h) rfl <| .on rfl <| .step (v := i64 s.node) (h' := h) (aj c 2 rfl) <| .on rfl <| .call (v := .bool true) (h' := h) n2 <| .on rfl <| .step (v := .bool false) (h' := h) rfl <| .step (v := .bool false) (h' := h) rfl <| .step (v := .bool false) (h' := h) rfl <| .on rfl <| .step (v := .ptr j 3) (h' := h) rfl <| .on rfl <| .step (v := i64 s.n) (h' := h) (aj c 3 rfl) <| .on rfl <| .call (v := .bool true) (h' := h) n3 <| .on rfl <| .step (v := .bool false) (h' := h) rfl <| .step (v := .bool false) (h' := h) rfl <| .step (v := .bool false) (h' := h) rfl <| .on rfl <| .step (v := .ptr j 4) (h' := h) rfl <| .on rfl <| .step (v := bu s.name) (h' := h) (aj c 4 rfl) <| .on rfl <| .step (v := i64 s.name.length) (h' := h) (dR _) <| .on rfl <| .step (v := .bool false) (h' := h) g1 <| .step (v := .bool false) (h' := h) rfl <| .step (v := .bool false) (h' := h) rfl <| .on rfl <| .step (v := .ptr je 0) (h' := h) rfl <| .on rfl <| .step (v := i64 s.entry.au) (h' := h) (aP ce rfl) <| .on rfl <| .call (v := .bool true) (h' := h) n4 <| .on rfl <| .step (v := .bool false) (h' := h) rfl <| .step (v := .bool false) (h' := h) rfl <| .step (v := .bool false) (h' := h) rfl <| .on rfl <| .step (v := .ptr je 1) (h' := h) rfl <| .on rfl <| .step (v := i64 s.entry.seq) (h' := h) (aj ce 1 rfl) <| .on rfl <| .call (v := .bool true) (h' := h) n5 <| .on rfl <| .step (v := .bool false) (h' := h) rfl <| .step (v := .bool false) (h' := h) rfl <| .step (v := .bool false) (h' := h) rfl <| .on rfl <| .step (v := .ptr je 2) (h' := h) rfl <| .on rfl <| .step (v := i64 s.entry.kind) (h' := h) (aj ce 2 rfl) <| .on rfl <| .call (v := .bool true) (h' := h) n6 <| .on rfl <| .step (v := .bool false) (h' := h) rfl <| .step (v := .bool false) (h' := h) rfl <| .step (v := .bool false) (h' := h) rfl <| .on rfl <| .step (v := .ptr je 5) (h' := h) rfl <| .on rfl <| .step (v := x) (h' := h) (aj ce 5 rfl) <| .on rfl <| .step (v := i64 s.entry.bB.length) (h' := h) l1 <| .on rfl <| .step (v := .bool false) (h' := h) g2 <| .step (v := .bool false) (h' := h) rfl <| .step (v := .bool false) (h' := h) rfl <| .on rfl <| .step (v := .ptr je 6) (h' := h) rfl <| .on rfl <| .step (v := y) (h' := h) (aj ce 6 rfl) <| .on rfl <| .step (v := i64 s.entry.changes.length) (h' := h) l2 <| .on rfl <| .step (v := .bool true) (h' := h) g3 <| .step (v := .bool true) (h' := h) rfl <| .nil, rfl, ?_⟩
            unfold mK; rw [k0, k1, k2, k3, k4, k5, k6, k7, k8, k9, k10]; rfl
           | false =>
            rw [k10] at g3
            refine ⟨_, .step (v := .ptr j 0) (h' := h) rfl <| .step (v := i64 s.kind) (h' := h) (aP c rfl) <| .step (v := .bool false) (h' := h) lt1 <| .step (v := .bool false) (h' := h) rfl <| .on rfl <| .step (v := .ptr j 0) (h' := h) rfl <| .on rfl <| .step (v := i64 s.kind) (h' := h) (aP c rfl) <| .on rfl <| .step (v := .bool false) (h' := h) gt9 <| .step (v := .bool false) (h' := h) rfl <| .step (v := .bool false) (h' := h) rfl <| .on rfl <| .step (v := .ptr j 1) (h' := h) rfl <| .on rfl <| .step (v := i64 s.au) (h' := h) (aj c 1 rfl) <| .on rfl <| .call (v := .bool true) (h' := h) n1 <| .on rfl <| .step (v := .bool false) (h' := h) rfl <| .step (v := .bool false) (h' := h) rfl <| .step (v := .bool false) (h' := h) rfl <| .on rfl <| .step (v := .ptr j 2) (h' := h) rfl <| .on rfl <| .step (v := i64 s.node) (h' := h) (aj c 2 rfl) <| .on rfl <| .call (v := .bool true) (h' := h) n2 <| .on rfl <| .step (v := .bool false) (h' := h) rfl <| .step (v := .bool false) (h' := h) rfl <| .step (v := .bool false) (h' := h) rfl <| .on rfl <| .step (v := .ptr j 3) (h' := h) rfl <| .on rfl <| .step (v := i64 s.n) (h' := h) (aj c 3 rfl) <| .on rfl <| .call (v := .bool true) (h' := h) n3 <| .on rfl <| .step (v := .bool false) (h' := h) rfl <| .step (v := .bool false) (h' := h) rfl <| .step (v := .bool false) (h' := h) rfl <| .on rfl <| .step (v := .ptr j 4) (h' := h) rfl <| .on rfl <| .step (v := bu s.name) (h' := h) (aj c 4 rfl) <| .on rfl <| .step (v := i64 s.name.length) (h' := h) (dR _) <| .on rfl <| .step (v := .bool false) (h' := h) g1 <| .step (v := .bool false) (h' := h) rfl <| .step (v := .bool false) (h' := h) rfl <| .on rfl <| .step (v := .ptr je 0) (h' := h) rfl <| .on rfl <| .step (v := i64 s.entry.au) (h' := h) (aP ce rfl) <| .on rfl <| .call (v := .bool true) (h' := h) n4 <| .on rfl <| .step (v := .bool false) (h' := h) rfl <| .step (v := .bool false) (h' := h) rfl <| .step (v := .bool false) (h' := h) rfl <| .on rfl <| .step (v := .ptr je 1) (h' := h) rfl <| .on rfl <| .step (v := i64 s.entry.seq) (h' := h) (aj ce 1 rfl) <| .on rfl <| .call (v := .bool true) (h' := h) n5 <| .on rfl <| .step (v := .bool false) (h' := h) rfl <| .step (v := .bool false) (h' := h) rfl <| .step (v := .bool false) (h' := h) rfl <| .on rfl <| .step (v := .ptr je 2) (h' := h) rfl <| .on rfl <| .step (v := i64 s.entry.kind) (h' := h) (aj ce 2 rfl) <| .on rfl <| .call (v := .bool true) (h' := h) n6 <| .on rfl <| .step (v := .bool false) (h' := h) rfl <| .step (v := .bool false) (h' := h) rfl <| .step (v := .bool false) (h' := h) rfl <| .on rfl <| .step (v := .ptr je 5) (h' := h) rfl <| .on rfl <| .step (v := x) (h' := h) (aj ce 5 rfl) <| .on rfl <| .step (v := i64 s.entry.bB.length) (h' := h) l1 <| .on rfl <| .step (v := .bool false) (h' := h) g2 <| .step (v := .bool false) (h' := h) rfl <| .step (v := .bool false) (h' := h) rfl <| .on rfl <| .step (v := .ptr je 6) (h' := h) rfl <| .on rfl <| .step (v := y) (h' := h) (aj ce 6 rfl) <| .on rfl <| .step (v := i64 s.entry.changes.length) (h' := h) l2 <| .on rfl <| .step (v := .bool false) (h' := h) g3 <| .step (v := .bool false) (h' := h) rfl <| .nil, rfl, ?_⟩
            unfold mK; rw [k0, k1, k2, k3, k4, k5, k6, k7, k8, k9, k10]; rfl
end
open Go.Cod
noncomputable section
variable {p : Pg} {h hb h' h2 h0 : Hp} {q j je : P4} {x y v a b d e f g : AV} {o : Nat}
def Ad (c : mI) : Bool := !decide (255 < c.row.length) && c.row.all fun v => small v.kind
theorem JU (e10 : ak 14 p.fs = f14) {L : List AV} {cs : List (Bs × Int)} (c : Cs h j 0 L) (hL : L[5]? = some x) (r : aQ h x cs) (hn : cs.length < 9223372036854775807) :
  ∃ st, ((st = .ex 0 (T3 (.ptr j 0) (i64 cs.length)) h ∧ cs.all (fun c => small c.2) = true) ∨ (st = .ret (T0 (.bool false)) h ∧ cs.all (fun c => small c.2) = false)) ∧ Rn p (.loop (.ag Fw .skip)) (T3 (.ptr j 0) i0) h st := by
 obtain ⟨q, o, sl, g⟩ := cT.sl r
 have hlen := cT.len r
 refine eo cs.length (Inv := fun i r h' => r = T3 (.ptr j 0) (i64 i) ∧ h' = h ∧ (cs.take i).all (fun c => small c.2) = true) (fun i r h' hi I => ?_) (fun r h' I => ?_) cs.length 0 _ h (by omega) ⟨rfl, rfl, by simp⟩
 ·obtain ⟨rfl, rfl, I⟩ := I
  obtain ⟨l, l1, l2, rfl⟩ := g i hi
  have sm := eE (p := p) (h := h') e10 cs[i].2
  cases hs : small cs[i].2 with
  | true =>
   rw [hs] at sm
   refine .inl ⟨T3 (.ptr j 0) (i64 (i + 1 : Nat)), h', .ag (sm.mono fun m gm => ?_), rfl, rfl, by rw [gA hi, I, hs]; rfl⟩
   simp only [Fw, K2, IV, t3_4]
   (rw [an, aD (aj c 5 hL), aR hlen, aV, bC, if_pos (by omega), an, aD (aj c 5 hL), cN (bS sl hi), an, aD (aj l2 1 rfl), aF gm, dQ, bR, Bool.not_true, dP, dj hi hn]; try rfl)
  | false =>
   rw [hs] at sm
   refine .inr ⟨_, .inr ⟨rfl, all_false hi hs⟩, .dV (.ag (sm.mono fun m gm => ?_))⟩
   simp only [Fw, K2, IV, t3_4]
   (rw [an, aD (aj c 5 hL), aR hlen, aV, bC, if_pos (by omega), an, aD (aj c 5 hL), cN (bS sl hi), an, aD (aj l2 1 rfl), aF gm, dQ, bR, Bool.not_false, ew]; try rfl)
 ·obtain ⟨rfl, rfl, I⟩ := I
  refine ⟨_, .inl ⟨rfl, by simpa using I⟩, .cW (.aJ fun c' i' K => ?_)⟩
  simp only [Fw, K2, IV, t3_4]
  (rw [an, aD (aj c 5 hL), aR hlen, aV, bC, if_neg (by omega)]; try rfl)
theorem MG (e10 : ak 14 p.fs = f14) {L : List AV} {cs : List mI} {i : Nat} (c : Cs h j 0 L) (hL : L[6]? = some y) (r : aZ h y cs) (hi : i < cs.length) (hn : cs[i].row.length < 9223372036854775807) :
  ∃ st, ((st = .ex 4 (T4 (.ptr j 0) (i64 i)) h ∧ cs[i].row.all (fun v => small v.kind) = true) ∨ (st = .ret (T0 (.bool false)) h ∧ cs[i].row.all (fun v => small v.kind) = false)) ∧ Rn p (.loop (.ag Fx (.ag k4_8 .skip))) (T6 (.ptr j 0) (i64 i) i0) h st := by
 obtain ⟨q, o, sl, g⟩ := cT.sl r
 obtain ⟨l, l1, l2, z, rfl, hrow⟩ := g i hi
 obtain ⟨q2, o2, sl2, g2⟩ := cT.sl hrow
 have hlen := cT.len hrow
 generalize hr : cs[i].row = row at *
 refine eo row.length (Inv := fun k r h' => r = T6 (.ptr j 0) (i64 i) (i64 k) ∧ h' = h ∧ (row.take k).all (fun v => small v.kind) = true) (fun k r h' hk I => ?_) (fun r h' I => ?_) row.length 0 _ h (by omega) ⟨rfl, rfl, by simp⟩
 ·obtain ⟨rfl, rfl, I⟩ := I
  obtain ⟨l', m1, m2, rfl⟩ := g2 k hk
  have sm := eE (p := p) (h := h') e10 row[k].kind
  have t1 : ∀ cc i' (K : A2 → Hp → RS), Fx cc i' K (T6 (.ptr j 0) (i64 i) (i64 k)) h' = K (T6 (.ptr j 0) (i64 i) (i64 k)) h' := fun cc i' K => by
   simp only [Fx, K3, t6_3, t6_5, t6_6]
   (rw [an, aD (aj c 6 hL), cN (bS sl hi), an, aD (aj l2 1 rfl), aR hlen, aV, bC, if_pos (by omega)]; try rfl)
  cases hs : small row[k].kind with
  | true =>
   rw [hs] at sm
   refine .inl ⟨T6 (.ptr j 0) (i64 i) (i64 (k + 1 : Nat)), h', .di t1 (.ag (sm.mono fun m gm => ?_)), rfl, rfl, by rw [gA hk, I, hs]; rfl⟩
   simp only [k4_8, K3, t6_3, t6_5, t6_6]
   (rw [an, aD (aj c 6 hL), cN (bS sl hi), an, aD (aj l2 1 rfl), cN (bS sl2 hk), an, Nat.add_zero, aD (aP m2 rfl), aF gm, dQ, bR, Bool.not_true, dP, dj hk hn]; try rfl)
  | false =>
   rw [hs] at sm
   refine .inr ⟨_, .inr ⟨rfl, all_false hk hs⟩, .dV (.di t1 (.ag (sm.mono fun m gm => ?_)))⟩
   simp only [k4_8, K3, t6_3, t6_5, t6_6]
   (rw [an, aD (aj c 6 hL), cN (bS sl hi), an, aD (aj l2 1 rfl), cN (bS sl2 hk), an, Nat.add_zero, aD (aP m2 rfl), aF gm, dQ, bR, Bool.not_false, ew]; try rfl)
 ·obtain ⟨rfl, rfl, I⟩ := I
  refine ⟨_, .inl ⟨rfl, by simpa using I⟩, .cW (.aJ fun c' i' K => ?_)⟩
  simp only [Fx, K3, t6_3, t6_5, t6_6]
  (rw [an, aD (aj c 6 hL), cN (bS sl hi), an, aD (aj l2 1 rfl), aR hlen, aV, bC, if_neg (by omega)]; try rfl)
theorem JV (e10 : ak 14 p.fs = f14) {L : List AV} {cs : List mI} (c : Cs h j 0 L) (hL : L[6]? = some y) (r : aZ h y cs) (hn : cs.length < 9223372036854775807) :
  ∃ st, ((st = .ex 2 T5 h ∧ cs.all Ad = true) ∨ (st = .ret (T0 (.bool false)) h ∧ cs.all Ad = false)) ∧ Rn p (dp 3 (bh (bh (bh x4)))) (T4 (.ptr j 0) i0) h st := by
 obtain ⟨q, o, sl, g⟩ := cT.sl r
 have hlen := cT.len r
 refine eo (body := dp 4 (bh (bh (bh x4)))) cs.length (Inv := fun i r h' => r = T4 (.ptr j 0) (i64 i) ∧ h' = h ∧ (cs.take i).all Ad = true) (fun i r' h' hi I => ?_) (fun r' h' I => ?_) cs.length 0 _ h (by omega) ⟨rfl, rfl, by simp⟩
 ·obtain ⟨rfl, rfl, I⟩ := I
  obtain ⟨l, l1, l2, z, rfl, hrow⟩ := g i hi
  have hrl := cT.len hrow
  have t1 : ∀ cc i' (K : A2 → Hp → RS), k4_5 cc i' K (T4 (.ptr j 0) (i64 i)) h' = K (T4 (.ptr j 0) (i64 i)) h' := fun cc i' K => by
   simp only [k4_5, K2, IW, IX]
   (rw [an, aD (aj c 6 hL), aR hlen, aV, bC, if_pos (by omega)]; try rfl)
  have gt : cB (i64 cs[i].row.length) (pi 255) h' = .ok (.bool (decide (255 < cs[i].row.length))) h' := SB (h := h') 255 cs[i].row.length
  by_cases hl : 255 < cs[i].row.length
  ·have : Ad cs[i] = false := by unfold Ad; rw [decide_eq_true hl]; rfl
   refine .inr ⟨_, .inr ⟨rfl, all_false hi this⟩, .dV (.di t1 (.cX (.cA (.aJ fun cc i' K => ?_))))⟩
   simp only [k4_6, K2, IW, IX]
   (rw [an, aD (aj c 6 hL), cN (bS sl hi), an, aD (aj l2 1 rfl), aR hrl, aw gt, bC, if_pos hl]; try rfl)
  ·have t2 : ∀ cc i' (K : A2 → Hp → RS), k4_6 cc i' K (T4 (.ptr j 0) (i64 i)) h' = K (T6 (.ptr j 0) (i64 i) i0) h' := fun cc i' K => by
    simp only [k4_6, K2, IW, IX]
    (rw [an, aD (aj c 6 hL), cN (bS sl hi), an, aD (aj l2 1 rfl), aR hrl, aw gt, bC, if_neg hl]; try rfl)
   have hc : Ad cs[i] = cs[i].row.all fun v => small v.kind := by unfold Ad; rw [decide_eq_false hl]; rfl
   obtain ⟨st, hst, k⟩ := MG (p := p) e10 c hL r hi (by omega)
   rcases hst with ⟨rfl, ha⟩ | ⟨rfl, ha⟩
   ·refine .inl ⟨T4 (.ptr j 0) (i64 (i + 1 : Nat)), h', .di t1 (.seq (.block (.di t2 (.br k))) (.aJ fun cc i' K => ?_)), rfl, rfl, by rw [gA hi, I, hc, ha]; rfl⟩
    simp only [k4_9, K2, IW, IX]
    (rw [dj hi hn]; try rfl)
   ·exact .inr ⟨_, .inr ⟨rfl, all_false hi (by rw [hc]; exact ha)⟩, .dV (.di t1 (.cX (.cA (.di t2 (.cA k)))))⟩
 ·obtain ⟨rfl, rfl, I⟩ := I
  refine ⟨_, .inl ⟨rfl, by simpa using I⟩, .cW (.aJ fun c' i' K => ?_)⟩
  simp only [k4_5, K2, IW, IX]
  (rw [an, aD (aj c 6 hL), aR hlen, aV, bC, if_neg (by omega)]; try rfl)
end
open Go.Cod
noncomputable section
variable {p : Pg} {h hb h' h2 h0 : Hp} {q j je : P4} {x y v a b d e f g : AV} {o : Nat}
theorem JW (e5 : ak 4 p.fs = f4) (e10 : ak 14 p.fs = f14) (W : Wf h) {s : nX} (r1 : aQ h x s.entry.bB) (r2 : aZ h y s.entry.changes) (hn : s.entry.bB.length < 9223372036854775807) (hm : s.entry.changes.length < 9223372036854775807) :
  ∃ h', Cv p 4 [.agg (eZ x y s)] h (.bool (fM s)) h' ∧ Old h h' ∧ Wf h' := by
 obtain ⟨j, h1, f1, f2, f3, f4, f5', f6⟩ := lj (el := 30) (l := eZ x y s) W (by simp [eZ, cE])
 obtain ⟨je, h2, g1, g2, g3, g4, g5, g6⟩ := fK (el := 28) (n := 7) f5' (c := .k1 (Y7 i0 i0 i0 iS iS .ai .ai)) trivial (by decide)
 have njr : ah je h = .none := f4.none g2
 have oj2 := f3.old g4
 obtain ⟨h3, d1, d2, d3, d4⟩ := ef (k := 0) (m := 7) (l' := cE x y s.entry) g3 (by simp [cE]) (by rw [aW]; omega)
 have W3 : Wf h3 := g5.of d4 fun k hk => by rw [d3 k (fun e => by rw [e] at hk; exact g3.ne hk)]; exact hk
 have d2 : Ob h3 je 28 true .plain (cE x y s.entry) := by
  have : (bP 7 (.k1 (Y7 i0 i0 i0 iS iS .ai .ai)) 0).take 0 ++ (cE x y s.entry ++ (bP 7 (.k1 (Y7 i0 i0 i0 iS iS .ai .ai)) 0).drop (0 + 7)) = cE x y s.entry := by
   rw [List.drop_of_length_le (by rw [aW]; omega)]; simp
  rw [← this]; exact d2
 have O3 : Old h h3 := fun k hk => by
  have e := (f4.trans g4) k hk
  rw [d3 k (fun e => by rw [e] at hk; exact hk njr), e]
 have hne : j ≠ je := fun e => f3.ne (e ▸ g2)
 have oj3 := oj2.eq (d3 j hne)
 have M1 := bD (m := 7) (Jx (Ob.c0 f3)) (by simp [cE])
 have s0 : ∀ cc i' (K : A2 → Hp → RS), k4_0 cc i' K (bE [.agg (eZ x y s)] 0 .nil) h = K (T1 (.ptr j 0) (.ptr je 0)) h3 := fun cc i' K => by
  simp only [k4_0, K1, cm]
  (rw [jh f1, an, Nat.zero_add, fk M1, iI g1, fX d1]; try rfl)
 have c := Ob.c0 d2
 have rc := aQ.up r1 O3
 have rg := aZ.up r2 O3
 obtain ⟨r3, o1, o2, o3⟩ := Fb (p := p) e10 (Ob.c0 oj3) c rc rg
 have s1 : ∀ cc i' (K : A2 → Hp → RS), k4_1 cc i' K r3 h3 = Seat.I (.bool (mK s)) (.ret (T0 (.bool false)) h3) (.nm (T2 (.ptr je 0)) h3) := fun cc i' K => by simp only [k4_1, K2, o2, o3]
 have out : ∀ bb, Rn p (bh x4) (T1 (.ptr j 0) (.ptr je 0)) h3 (.ret (T0 (.bool bb)) h3) → Cv p 4 [.agg (eZ x y s)] h (.bool bb) h3 := fun bb k => .of (r' := T0 (.bool bb)) (h1 := h3) e5 (by simp) (.di s0 k) rfl
 have hq : fM s = (!mK s && s.entry.bB.all (fun c => small c.2) && s.entry.changes.all Ad) := rfl
 refine ⟨h3, ?_, O3, W3⟩
 cases hb : mK s with
 | true =>
  rw [hq, hb]
  exact out _ (.cX (.seq (.ops o1) (.aJ fun cc i' K => by rw [s1, hb, ew]; rfl)))
 | false =>
  have Ki : Rn p (fst (bh x4)) (T1 (.ptr j 0) (.ptr je 0)) h3 (.nm (T2 (.ptr je 0)) h3) := .seq (.ops o1) (.aJ fun cc i' K => by rw [s1, hb, dP])
  have s2 : ∀ cc i' (K : A2 → Hp → RS), k4_2 cc i' K (T2 (.ptr je 0)) h3 = K (T3 (.ptr je 0) i0) h3 := fun cc i' K => by simp only [k4_2, K1, t2_3]
  obtain ⟨st, hst, k⟩ := JU (p := p) e10 c rfl rc hn
  rcases hst with ⟨rfl, ha⟩ | ⟨rfl, ha⟩
  ·have s4 : ∀ cc i' (K : A2 → Hp → RS), k4_4 cc i' K (T3 (.ptr je 0) (i64 s.entry.bB.length)) h3 = K (T4 (.ptr je 0) i0) h3 := fun cc i' K => by simp only [k4_4, K1, IV]
   obtain ⟨st, hst, k2⟩ := JV (p := p) e10 c rfl rg hm
   rw [hq, hb, ha]
   rcases hst with ⟨rfl, hc⟩ | ⟨rfl, hc⟩
   ·rw [hc]
    exact out _ (.seq Ki (.seq (.di s2 (.br k)) (.seq (.di s4 (.br k2)) (.aJ fun cc i' K => rfl))))
   ·rw [hc]
    exact out _ (.seq Ki (.seq (.di s2 (.br k)) (.cX (.di s4 (.cA k2)))))
  ·rw [hq, hb, ha]
   exact out _ (.seq Ki (.cX (.di s2 (.cA k))))
end
open Go.Cod
noncomputable section
variable {p : Pg} {h hb h' h2 h0 : Hp} {q j je : P4} {x y v a b d e f g : AV} {o : Nat}
theorem eu.mono : ∀ (h1 h2 : Hp) (l : List AV) (a : nX), Old h1 h2 → eu h1 l a → eu h2 l a := fun _ _ _ _ O r => eu.up r O
structure JX (p : Pg) : Prop where
 b : Qe p
 k : Sb p
 e5 : ak 4 p.fs = f4
 e7 : ∀ h, Cv p 13 [] h (.bool true) h
end
open Go.Cod
noncomputable section
variable {p : Pg} {h hb h' h2 h0 : Hp} {q j je : P4} {x y v a b d e f g : AV} {o : Nat}
theorem MH {es n : Nat} (sl : vL x es n q o) : same x x = true := by
 have := lT sl
 rcases sl with ⟨cap, rfl⟩ | rfl | ⟨rfl, _⟩ <;> exact this
theorem Dv (k : Int) : cS (gV k) := Je (nP k)
theorem JY {B : Nat} {e : po} (b : xF B e) : xF B (aO e) := by
 obtain ⟨b1, b2, b3, b4, b5, b6, b7, b8, b9⟩ := b
 have hsub := (List.takeWhile_sublist (fun c : Bs × Int => decide (c.1.length ≤ 20)) (l := e.bB.take 8))
 refine ⟨b1, b2, b3, ?_, ?_, ?_, ?_, ?_, ?_⟩
 ·simp only [aO, List.length_take]; omega
 ·simp only [aO, List.length_take]; omega
 ·simp only [aO, List.length_map]
  have := hsub.length_le
  rw [List.length_take] at this
  omega
 ·intro c hc
  simp only [aO, List.mem_map] at hc
  obtain ⟨c0, h0, rfl⟩ := hc
  exact ⟨(b7 c0 (List.mem_of_mem_take (hsub.subset h0))).1, Dv _⟩
 ·simp only [aO, List.length_map, List.length_take]; omega
 ·intro c hc
  simp only [aO, List.mem_map] at hc
  obtain ⟨c0, h0, rfl⟩ := hc
  obtain ⟨d1, d2, d3⟩ := b9 c0 (List.mem_of_mem_take h0)
  refine ⟨by simp only [lW, List.length_take]; omega, by simp only [lW, List.length_map, List.length_take]; omega, fun v hv => ?_⟩
  simp only [lW, List.mem_map] at hv
  obtain ⟨v0, h1, rfl⟩ := hv
  obtain ⟨k1, k2, k3⟩ := d3 v0 (List.mem_of_mem_take h1)
  exact ⟨Dv _, k2, by simp only [qZ, List.length_take]; omega⟩
theorem Fc {B : Nat} {s : nX} (b : Mb B s) : Mb B (bm s) := by
 obtain ⟨b1, b2, b3, b4, b5, b6⟩ := b
 exact ⟨b1, b2, b3, b4, b5, JY b6⟩
end
open Go.Cod
set_option maxRecDepth 20000
noncomputable section
variable {p : Pg} {h hb h0 h' h1 h2 h3 : Hp} {q j k js : P4} {s l : Bs} {x y v a b d xc xg : AV} {α : Type}
structure Sc (p : Pg) : Prop where
 l : JX p
 s3 : Dt p
 c : uC p
 e13 : ak 7 p.fs = f7
 e14 : ak 9 p.fs = f9
 e40 : ak 20 p.fs = f20
end
open Go.Cod
noncomputable section
variable {p : Pg} {h0 h h' h1 h2 h3 : Hp} {q j k js : P4} {s l : Bs} {x y v d xc xg : AV} {r rr : Rd} {L : List AV} {b : P4 → Prop}
structure Ko (h0 h : Hp) (q : P4) (x : AV) (s : Bs) (a : Nat) (ref : Bool) (u w : Int) : Prop where
 old : Old h0 h
 wf : Wf h
 new : ah q h0 = .none
 ob : Ob h q 62 true .plain [x, i64 a, .bool ref, i64 u, i64 w]
 own : dh h0 x 5 1 (bc s) fun _ => True
 len : s.length ≤ 16777216
 gM : a ≤ s.length
def Rf (h0 h : Hp) (q : P4) (r : Rd) : Prop := ∃ x s a ref u w, Ko h0 h q x s a ref u w ∧ r = if ref = true then none else some (s.drop a)
theorem Ko.c {a : Nat} {ref : Bool} {u w : Int} (W : Ko h0 h q x s a ref u w) : Cs h q 0 [x, i64 a, .bool ref, i64 u, i64 w] := Ob.c0 W.ob
theorem Ko.o {a : Nat} {ref : Bool} {u w : Int} (W : Ko h0 h q x s a ref u w) : dh h x 5 1 (bc s) fun _ => True := W.own.old fun j _ hj => W.old j hj
theorem Ko.set {a a' : Nat} {ref ref' : Bool} {u w u' w' : Int} (W : Ko h0 h q x s a ref u w) (o : Ob h' q 62 true .plain [x, i64 a', .bool ref', i64 u', i64 w']) (g : ∀ j, j ≠ q → ah j h' = ah j h) (hn : h'.next = h.next) (ha : a' ≤ s.length) :
  Ko h0 h' q x s a' ref' u' w' := ⟨Fr.old (fun j hj _ => g j hj) W.old W.new, dt W.wf W.ob g hn, W.new, o, W.own, W.len, ha⟩
theorem Rf.wf (w : Rf h0 h q r) : Wf h := let ⟨_, _, _, _, _, _, w, _⟩ := w; w.wf
theorem Rf.old (w : Rf h0 h q r) : Old h0 h := let ⟨_, _, _, _, _, _, w, _⟩ := w; w.old
theorem Rf.new (w : Rf h0 h q r) : ah q h0 = .none := let ⟨_, _, _, _, _, _, w, _⟩ := w; w.new
theorem Rf.ne (w : Rf h0 h q r) : ah q h ≠ .none := let ⟨_, _, _, _, _, _, w, _⟩ := w; w.ob.ne
theorem Rf.apart (w : Rf h0 h q r) {el : Nat} {ex : Bool} {fl : Fl} {l : List AV} (o : Ob h j el ex fl l) (g : el ≠ 62 ∨ ex ≠ true) : j ≠ q := let ⟨_, _, _, _, _, _, w, _⟩ := w; o.apart w.ob g
theorem Rf.fr (w : Rf h0 h q r) (F : Fr j h h') (hj : ah j h0 = .none) (hq : q ≠ j) (W : Wf h') : Rf h0 h' q r :=
 let ⟨x, s, a, ref, u, v, w, e⟩ := w
 ⟨x, s, a, ref, u, v, ⟨F.old w.old hj, W, w.new, F.ob w.ob hq, w.own, w.len, w.gM⟩, e⟩
theorem Rf.up (w : Rf h0 h q r) (O : Old h h') (W : Wf h') : Rf h0 h' q r :=
 let ⟨x, s, a, ref, u, v, w, e⟩ := w
 ⟨x, s, a, ref, u, v, ⟨w.old.trans O, W, w.new, w.ob.old O, w.own, w.len, w.gM⟩, e⟩
theorem Rf.cq (w : Rf h0 h q r) (W : Wf h') (O : Old h0 h') (g : ∀ k el ex fl l, Ob h k el ex fl l → el = 62 → ah k h' = ah k h) : Rf h0 h' q r :=
 let ⟨x, s, a, ref, u, v, w, e⟩ := w
 ⟨x, s, a, ref, u, v, ⟨O, W, w.new, w.ob.eq (g _ _ _ _ _ w.ob rfl), w.own, w.len, w.gM⟩, e⟩
structure uE (p : Pg) : Prop where
 e41 : ak 25 p.fs = f25
 e42 : ak 26 p.fs = f26
 e43 : ak 27 p.fs = f27
 e44 : ak 28 p.fs = f28
 e68 : ak 49 p.fs = f49
 e69 : ak 50 p.fs = f50
 e70 : ak 51 p.fs = f51
 e71 : ak 52 p.fs = f52
theorem ud (T : uE p) (w : Rf h0 h q r) {e n : Int} : ∃ h', Cv p 51 [.ptr q 0, i64 e, i64 n] h cM h' ∧ Rf h0 h' q none ∧ Fr q h h' := by
 obtain ⟨x, s, a, ref, u, v, w, hr⟩ := w
 cases ref with
 | false =>
  obtain ⟨h1, g1, g2, g3, g4⟩ := cP (k := 2) (v := .bool true) w.ob (by simp) rfl
  obtain ⟨h2, k1, k2, k3, k4⟩ := cP (k := 3) (v := i64 e) g2 (by simp) rfl
  obtain ⟨h3, m1, m2, m3, m4⟩ := cP (k := 4) (v := i64 n) k2 (by simp) rfl
  have g13 : ∀ j, j ≠ q → ah j h3 = ah j h := fun j hj => by rw [m3 j hj, k3 j hj, g3 j hj]
  refine ⟨h3, .qK (r' := T5) (h1 := h3) T.e70 (by simp) (.ag (.all fun m => ?_)) rfl, ⟨x, s, a, true, e, n, w.set m2 g13 (by rw [m4, k4, g4]) w.gM, rfl⟩, fun j hj _ => g13 j hj⟩
  simp only [k51_0, K3, qH, qI, qJ]
  (rw [cu, an, aD (aj w.c 2 rfl), aw (dQ _), Bool.not_false, ew, cu, an, Nat.zero_add, cJ g1, cu, an, Nat.zero_add, cJ k1, cu, an, Nat.zero_add, cJ m1]; try rfl)
 | true =>
  refine ⟨h, .qK (r' := T5) (h1 := h) T.e70 (by simp) (.ag (.all fun m => ?_)) rfl, ⟨x, s, a, true, u, v, w, rfl⟩, .refl q h⟩
  simp only [k51_0, K3, qH, qI, qJ]
  (rw [cu, an, aD (aj w.c 2 rfl), aw (dQ _), Bool.not_true, dP]; try rfl)
theorem Dw (T : uE p) (w : Rf h0 h q r) {k : Nat} (hk : k ≤ 16777216) : ∃ v h', Cv p 52 [.ptr q 0, i64 k] h v h' ∧ dW h' v (Cod.take k r).1 ∧ Rf h0 h' q (Cod.take k r).2 ∧ Fr q h h' := by
 obtain ⟨x, s, a, ref, u, vv, w, hr⟩ := w
 have hal := w.gM
 have hsl := w.len
 cases ref with
 | true =>
  rw [if_pos rfl] at hr
  subst hr
  refine ⟨.ai, h, .of (r' := T18 .ai) (h1 := h) T.e71 (by simp) (.aJ fun c i K => ?_) rfl, ⟨.eL 0 0, 0, 0, .inr (.inr ⟨rfl, rfl⟩), rfl, fun g => absurd rfl g⟩, ⟨x, s, a, true, u, vv, w, rfl⟩, .refl q h⟩
  simp only [k52_0, K2, dE, dF]
  (rw [cu, an, aD (aj w.c 2 rfl), ew]; try rfl)
 | false =>
  rw [if_neg (by simp)] at hr
  have n0 : nC (.ptr q 0) h = .ok (.ptr q 0) h := rfl
  have a0 : fA 0 (.ptr q 0) h = .ok (.ptr q 0) h := rfl
  have a1 : fA 1 (.ptr q 0) h = .ok (.ptr q 1) h := rfl
  have l0 : lD (.ptr q 0) h = .ok x h := aP w.c rfl
  have l1 : lD (.ptr q 1) h = .ok (i64 a) h := aj w.c 1 rfl
  have hs := Jm (h := h) hal (by omega)
  have lt : pq (i64 ((s.length - a : Nat) : Int)) (i64 k) h = .ok (.bool (decide (((s.length - a : Nat) : Int) < (k : Int)))) h := lS _ _ _
  have z0 : ∀ c i (K : A2 → Hp → RS), k52_0 c i K (bE [.ptr q 0, i64 k] 0 .nil) h = K (T36 (.ptr q 0) (i64 k)) h := fun c i K => by
   simp only [k52_0, K2, dE, dF]
   (rw [cu, an, aD (aj w.c 2 rfl), dP]; try rfl)
  by_cases hl : s.length - a < k
  ·obtain ⟨h1, c1, w1, F1⟩ := ud (p := p) T ⟨x, s, a, false, u, vv, w, rfl⟩ (e := 10) (n := s.length)
   have c1 : Cv p 51 [.ptr q 0, pi 10, i64 s.length] h cM h1 := c1
   have ht : Cod.take k r = ([], none) := by subst hr; unfold Cod.take; simp only [List.length_drop]; rw [if_pos hl]
   rw [ht]
   refine ⟨.ai, h1, .of (r' := T18 .ai) (h1 := h1) T.e71 (by simp) (.di z0 (.ag (c1.mono fun m g1 => ?_))) rfl, ⟨.eL 0 0, 0, 0, .inr (.inr ⟨rfl, rfl⟩), rfl, fun g => absurd rfl g⟩, w1, F1⟩
   simp only [k52_1, K2, gJ, gK]
   (rw [al n0, al a0, al l0, al (dW.len (dh.BB w.o)), al n0, al a1, al l1, al hs, al lt, bC, if_pos (by omega), cu, an, aD (aP w.c rfl), aR (dW.len (dh.BB w.o)), aF g1]; try rfl)
  ·have ht : Cod.take k r = ((s.drop a).take k, some ((s.drop a).drop k)) := by subst hr; unfold Cod.take; simp only [List.length_drop]; rw [if_neg hl]
   rw [ht]
   have z1 : ∀ c i (K : A2 → Hp → RS), k52_1 c i K (T36 (.ptr q 0) (i64 k)) h = K (T36 (.ptr q 0) (i64 k)) h := fun c i K => by
    simp only [k52_1, K2, gJ, gK]
    (rw [al n0, al a0, al l0, al (dW.len (dh.BB w.o)), al n0, al a1, al l1, al hs, al lt, bC, if_neg (by omega)]; try rfl)
   obtain ⟨jn, h1, f1, f2, f3, f4, f5, f6⟩ := fm (el := 5) (es := 1) (n := 0) (z := []) (ps := []) (l := []) w.wf rfl rfl (by simp)
   obtain ⟨s1, s2⟩ := BD (h := h1) (a := a) (k := k) (w.o.old fun j _ hj => f4 j hj) (by omega)
   obtain ⟨s10, _⟩ := BD (h := h) (a := a) (k := k) w.o (by omega)
   generalize Qb x a k = vs0 at *
   obtain ⟨qq, oo, nn, e1, e2, e3⟩ := s2
   obtain ⟨v, h2, c1, c2, c3, c4⟩ := fJ (m := nn) (es := 1) f5 (x := .slice jn 0 0 0) (b := fun _ => False) (el := 5) (l := []) (.inl ⟨rfl, .inr ⟨jn, rfl⟩⟩) (by omega) (new := bc ((s.drop a).take k)) (by rw [bw]; omega) (by rw [bw]; simp; omega)
   have V : df 5 1 (.slice jn 0 0 0) vs0 h1 = .ok v h2 := by
    rw [dB e1 (by omega) e3 (by rw [bw]; omega) (by have : nn ≤ k := (by rw [← e2]; simp; omega); omega)]
    exact c1
   have O12 : Old h h2 := fun t ht => by
    have e := f4 t ht
    rw [c4 t (by rw [e]; exact ht) (fun g => g), e]
   have ob2 := w.ob.old O12
   obtain ⟨h3, g1, g2, g3, g4⟩ := cP (k := 1) (v := i64 (a + k : Nat)) ob2 (by simp) rfl
   have w2 : Ko h0 h2 q x s a false u vv := ⟨w.old.trans O12, c3, w.new, ob2, w.own, w.len, w.gM⟩
   have w3 : Ko h0 h3 q x s (a + k) false u vv := w2.set g2 g3 g4 (by omega)
   have own3 := Fr.own (fun j hj _ => g3 j hj) c2 ob2 (.inr (by simp))
   have add : bK .add (i64 a) (i64 k) h1 = .ok (i64 (a + k : Nat)) h1 := by
    show qu (.int .i64 a) (.int .i64 k) h1 = _
    rw [rF, gW _ (by unfold cS; omega)]; rfl
   have add0 : bK .add (i64 a) (i64 k) h = .ok (i64 (a + k : Nat)) h := by
    show qu (.int .i64 a) (.int .i64 k) h = _
    rw [rF, gW _ (by unfold cS; omega)]; rfl
   have L0 : lD (.ptr q 0) h1 = .ok x h1 := aP (w.c.old f4) rfl
   have L1 : lD (.ptr q 1) h1 = .ok (i64 a) h1 := aj (w.c.old f4) 1 rfl
   have sx := zR w.own
   have svs : same vs0 vs0 = true := MH e1
   have ops : ∃ r', Rn p (fst (bh (bh x52))) (T36 (.ptr q 0) (i64 k)) h (.nm r' h2) ∧ y0 r' = .ptr q 0 ∧ y1 r' = i64 k ∧ y5 r' = v :=
    ⟨_, .nT (.dZ (v := .slice jn 0 0 0) (h' := h1) f1 <| .xi (v := .ptr q 0) (g' := h1) (h1' := h) rfl rfl (dD _ _) <| .xi (v := .ptr q 0) (g' := h1) (h1' := h) rfl rfl (dD _ _) <| .xi (v := .ptr q 0) (g' := h1) (h1' := h) rfl rfl (dD _ _) <| .xi (v := x) (g' := h1) (h1' := h) L0 l0 sx <|
     .xi (v := .ptr q 0) (g' := h1) (h1' := h) rfl rfl (dD _ _) <| .xi (v := .ptr q 0) (g' := h1) (h1' := h) rfl rfl (dD _ _) <| .xi (v := .ptr q 1) (g' := h1) (h1' := h) rfl rfl (dD _ _) <| .xi (v := i64 a) (g' := h1) (h1' := h) L1 l1 (jS _ _) <|
     .xi (v := .ptr q 0) (g' := h1) (h1' := h) rfl rfl (dD _ _) <| .xi (v := .ptr q 0) (g' := h1) (h1' := h) rfl rfl (dD _ _) <| .xi (v := .ptr q 1) (g' := h1) (h1' := h) rfl rfl (dD _ _) <| .xi (v := i64 a) (g' := h1) (h1' := h) L1 l1 (jS _ _) <|
     .xi (v := i64 k) (g' := h1) (h1' := h) rfl rfl (jS _ _) <| .xi (v := i64 (a + k : Nat)) (g' := h1) (h1' := h) add add0 (jS _ _) <| .xi (v := vs0) (g' := h1) (h1' := h) s1 s10 svs <|
     .dZ (v := v) (h' := h2) V <| .dk (v := v) (g' := h2) rfl <| .nil), rfl, rfl, rfl⟩
   obtain ⟨r', o1, o2, o3, o4⟩ := ops
   refine ⟨v, h3, .of (r' := T18 v) (h1 := h3) T.e71 (by simp) (.di z0 (.di z1 (.seq o1 (.aJ fun c i K => ?_)))) rfl, dh.BB own3, ⟨x, s, a + k, false, u, vv, w3, by rw [if_neg (by simp), List.drop_drop]⟩, (Fr.of O12).trans fun j hj _ => g3 j hj⟩
   simp only [k52_2, K3, o2, o3, o4]
   have hd : ∀ K : AV → Hp → RS, Seat.D (i64 a) (i64 k) h2 K = K (i64 (a + k : Nat)) h2 := fun K => by
    rw [lh, gW _ (by unfold cS; omega)]; rfl
   (rw [cu, an, aD (aj (w.c.old O12) 1 rfl), hd, cu, an, Nat.zero_add, cJ g1]; try rfl)
theorem Sd {n : Nat} : we (i64 ((n : Nat) : Int)) i0 h = .ok (.bool true) h := by
 show we (.int .i64 (n : Int)) (.int .i64 0) h = _
 rw [NO, decide_eq_true (by omega)]
theorem Se : we (i64 (-1)) i0 h = .ok (.bool false) h := rfl
theorem vY (rb : dW h x s) (hs : s.length ≤ 8) : ∀ (i : Nat), i ≤ s.length → ∃ r', Rn p (.loop (.ag k49_2 .skip)) (T32 x (.int .u64 (un (s.drop i) : Nat)) (i64 ((i : Int) - 1))) h (.ex 0 r' h) ∧ y6 r' = .int .u64 (un s : Nat)
 | 0, _ => ⟨T32 x (.int .u64 (un s : Nat)) (i64 (-1)), .cW (.aJ fun c i K => by
   simp only [k49_2, K3, lP, lQ, lR]
   have e : ((0 : Nat) : Int) - 1 = -1 := rfl
   rw [e]
   (rw [aw Se, dP]; try rfl)), rfl⟩
 | i + 1, hi => by
  obtain ⟨a, b1, b2⟩ := rb.at (i := i) (by omega)
  have hd : s.drop i = s[i] :: s.drop (i + 1) := List.drop_eq_getElem_cons (by omega)
  have hu : un (s.drop i) = s[i].toNat + 256 * un (s.drop (i + 1)) := by rw [hd]; rfl
  have hlt : un (s.drop (i + 1)) * 256 < 18446744073709551616 := by
   have h1 := Dh (s.drop (i + 1))
   have h2 : 256 ^ (s.drop (i + 1)).length ≤ 256 ^ 7 := Nat.pow_le_pow_right (by omega) (by simp; omega)
   omega
  have hb := s[i].toNat_lt
  obtain ⟨r', k, e⟩ := vY rb hs i (by omega)
  refine ⟨r', .loop (.aJ (s := .nm (T32 x (.int .u64 (un (s.drop i) : Nat)) (i64 ((i : Int) - 1))) h) fun c i' K => ?_) k, e⟩
  simp only [k49_2, K3, lP, lQ, lR]
  have ei : (((i + 1 : Nat) : Int) - 1) = (i : Int) := by omega
  have dz : ∀ K : AV → Hp → RS, Seat.Z (i64 (i : Int)) i1 h K = K (i64 ((i : Int) - 1)) h := fun K => by
   show Seat.Z (i64 (i : Int)) (i64 1) h K = _
   rw [vK, gW _ (by unfold cS; omega)]
  rw [ei, hu]
  (rw [aw Sd, ew, aw (RX _ hlt), cN b1, aD b2, aw (NT _), aw (Jo _ _ hb hlt), dz]; try rfl)
theorem xu (T : uE p) (w : Rf h0 h q r) {k : Nat} (hk : k ≤ 8) : ∃ h', Cv p 49 [.ptr q 0, pi k] h (.int .u64 ((Cod.get k r).1 : Nat)) h' ∧ Rf h0 h' q (Cod.get k r).2 ∧ Fr q h h' := by
 obtain ⟨v, h1, c1, rb, w1, F⟩ := Dw (p := p) T w (k := k) (by omega)
 have c1 : Cv p 52 [.ptr q 0, pi k] h v h1 := c1
 have hl := Cod.oU k r
 obtain ⟨r', kl, e⟩ := vY (p := p) rb (by omega) (Cod.take k r).1.length (Nat.le_refl _)
 rw [List.drop_length] at kl
 have dz : ∀ K : AV → Hp → RS, Seat.Z (i64 ((Cod.take k r).1.length : Int)) i1 h1 K = K (i64 (((Cod.take k r).1.length : Int) - 1)) h1 := fun K => by
  show Seat.Z (i64 ((Cod.take k r).1.length : Int)) (i64 1) h1 K = _
  rw [vK, gW _ (by unfold cS; omega)]
 refine ⟨h1, .of (r' := T18 (.int .u64 (un (Cod.take k r).1 : Nat))) (h1 := h1) T.e68 (by simp) (.to (r' := T60 v (.int .u64 (.ofNat 0))) (h' := h1) (c1.mono fun m g K => ?_) (.seq (.di (r' := T32 v (.int .u64 (.ofNat 0)) (i64 (((Cod.take k r).1.length : Int) - 1))) (h' := h1) (fun c i K => ?_) (.br kl)) (.aJ fun c i K => ?_))) rfl, w1, F⟩
 ·simp only [k49_0, K2, dE, dF]
  (rw [aF g]; try rfl)
 ·simp only [k49_1, K2, t60_5, t60_6]
  (rw [aR (dW.len rb), dz]; try rfl)
 ·simp only [k49_3, K1, e]
theorem JZ (T : uE p) (w : Rf h0 h q r) : ∃ h', Cv p 26 [.ptr q 0] h (i64 ((bJ r).1 : Nat)) h' ∧ Rf h0 h' q (bJ r).2 ∧ Fr q h h' := by
 obtain ⟨h1, c1, w1, F⟩ := xu T w (k := 1) (by omega)
 have c1 : Cv p 49 [.ptr q 0, i1] h (.int .u64 ((bJ r).1 : Nat)) h1 := c1
 have hl : (bJ r).1 < 256 := Cod.eO 1 r
 refine ⟨h1, .of (r' := T0 (i64 ((bJ r).1 : Nat))) (h1 := h1) T.e42 (by simp) (.ag (c1.mono fun m g => ?_)) rfl, w1, F⟩
 simp only [k26_0, K1, cm]
 (rw [aF g, aw (xq (by omega))]; try rfl)
theorem Fe (T : uE p) (w : Rf h0 h q r) : ∃ h', Cv p 50 [.ptr q 0] h (i64 ((Cod.get 2 r).1 : Nat)) h' ∧ Rf h0 h' q (Cod.get 2 r).2 ∧ Fr q h h' := by
 obtain ⟨h1, c1, w1, F⟩ := xu T w (k := 2) (by omega)
 have hl := Cod.eO 2 r
 refine ⟨h1, .of (r' := T0 (i64 ((Cod.get 2 r).1 : Nat))) (h1 := h1) T.e69 (by simp) (.ag (c1.mono fun m g => ?_)) rfl, w1, F⟩
 simp only [k50_0, K1, cm]
 (rw [aF g, aw (xq (by omega))]; try rfl)
theorem ue (T : uE p) (w : Rf h0 h q r) : ∃ h', Cv p 27 [.ptr q 0] h (i64 (aq r).1) h' ∧ Rf h0 h' q (aq r).2 ∧ Fr q h h' := by
 obtain ⟨h1, c1, w1, F⟩ := xu T w (k := 8) (by omega)
 have hl := Cod.eO 8 r
 have e : cK (.toInt .i64) (.int .u64 ((Cod.get 8 r).1 : Nat)) h1 = .ok (i64 (aq r).1) h1 := by
  rw [eH, zQ _ hl]; rfl
 refine ⟨h1, .of (r' := T0 (i64 (aq r).1)) (h1 := h1) T.e43 (by simp) (.ag (c1.mono fun m g => ?_)) rfl, w1, F⟩
 simp only [k27_0, K1, cm]
 (rw [aF g, aw e]; try rfl)
theorem Ff (w : Rf h0 h q r) {n most : Nat} {f : AV} : ∃ r', Os p (opsL (fst (fst (bh x28)))) (T22 (.ptr q 0) (pi most) f (i64 n)) h (.nm r' h) ∧ y0 r' = .ptr q 0 ∧ y5 r' = f ∧ y6 r' = i64 n ∧ y24 r' = .bool (r.isSome && decide (most < n)) := by
 obtain ⟨x, s, a, ref, u, vv, w, hr⟩ := w
 have l2 : lD (.ptr q 2) h = .ok (.bool ref) h := aj w.c 2 rfl
 cases ref with
 | false =>
  rw [if_neg (by simp)] at hr
  subst hr
  have e1 : bK .gt (i64 n) (pi most) h = .ok (.bool (decide (most < n))) h := by
   show cB (i64 n) (i64 most) h = _
   rw [Jn]
   congr 2
   rw [decide_eq_decide]; omega
  exact ⟨_, .step (v := .ptr q 0) (h' := h) rfl <| .step (v := .ptr q 0) (h' := h) rfl <| .step (v := .ptr q 2) (h' := h) rfl <| .step (v := .bool false) (h' := h) l2 <| .step (v := .bool true) (h' := h) rfl <| .step (v := .bool true) (h' := h) rfl <|
   .on rfl <| .step (v := i64 n) (h' := h) rfl <| .on rfl <| .step (v := pi most) (h' := h) rfl <| .on rfl <| .step (v := .bool (decide (most < n))) (h' := h) e1 <|
   .step (v := .bool (decide (most < n))) (h' := h) rfl <| .nil, rfl, rfl, rfl, rfl⟩
 | true =>
  rw [if_pos rfl] at hr
  subst hr
  exact ⟨_, .step (v := .ptr q 0) (h' := h) rfl <| .step (v := .ptr q 0) (h' := h) rfl <| .step (v := .ptr q 2) (h' := h) rfl <| .step (v := .bool true) (h' := h) l2 <| .step (v := .bool false) (h' := h) rfl <| .step (v := .bool false) (h' := h) rfl <|
   .off rfl <| .off rfl <| .off rfl <| .step (v := .bool false) (h' := h) rfl <| .nil, rfl, rfl, rfl, rfl⟩
theorem Ae (T : uE p) (w : Rf h0 h q r) (most : Nat) : ∃ h', Cv p 28 [.ptr q 0, pi most] h (bu (aL most r).1) h' ∧ Rf h0 h' q (aL most r).2 ∧ Fr q h h' := by
 have w' := w
 obtain ⟨x, s, a, ref, u, vv, wx, hr⟩ := w'
 obtain ⟨h1, c1, w1, F1⟩ := Fe T w
 obtain ⟨r', o1, o2, o3, o4, o5⟩ := Ff (p := p) w1 (n := (Cod.get 2 r).1) (most := most) (f := i64 a)
 have hl := Cod.eO 2 r
 generalize hn : (Cod.get 2 r).1 = n at *
 have y0 : ∀ K : AV → Hp → RS, Seat.Y (pi most) i0 h1 K = K (.bool false) h1 := fun K => by
  show Seat.Y (i64 most) (i64 0) h1 K = _
  rw [aV, decide_eq_false (by omega)]
 have s0 : Ev fun m => ∀ K : A2 → Hp → RS, k28_0 (aB p (exec p m)) (aH p (exec p m)) K (bE [.ptr q 0, pi most] 0 .nil) h = K (T22 (.ptr q 0) (pi most) (i64 a) (i64 n)) h1 := c1.mono fun m g K => by
  simp only [k28_0, K2, dE, dF]
  (rw [cu, an, aD (aj wx.c 1 rfl), aF g, y0, dP]; try rfl)
 cases hb : ((Cod.get 2 r).2.isSome && decide (most < n)) with
 | true =>
  obtain ⟨h2, c2, w2, F2⟩ := ud (p := p) T w1 (e := 3) (n := a)
  have c2 : Cv p 51 [.ptr q 0, pi 3, i64 a] h1 cM h2 := c2
  rw [Bool.and_eq_true, decide_eq_true_eq] at hb
  have hg : aL most r = ([], none) := by
   rw [tU, hn]
   cases hg : (Cod.get 2 r).2 with
   | none => rfl
   | some l =>
    have : NU most n (some l) = none := if_pos hb.2
    rw [this]; rfl
  rw [hg]
  refine ⟨h2, .of (r' := T18 iS) (h1 := h2) T.e44 (by simp) (.to s0 (.cX (.seq (.ops o1) (.ag (c2.mono fun m g => ?_))))) rfl, w2, F1.trans F2⟩
  have hb' : ((Cod.get 2 r).2.isSome && decide (most < n)) = true := by rw [hb.1, decide_eq_true hb.2]; rfl
  simp only [k28_1, K4, o2, o3, o4, o5, hb']
  (rw [ew, aF g]; try rfl)
 | false =>
  have wl : Rf h0 h1 q (NU most n (Cod.get 2 r).2) := by
   cases hg : (Cod.get 2 r).2 with
   | none => rw [hg] at w1; exact w1
   | some l =>
    rw [hg] at hb w1
    have : NU most n (some l) = some l := if_neg (by simpa using hb)
    rw [this]; exact w1
  obtain ⟨v, h3, c3, rb, w3, F3⟩ := Dw (p := p) T wl (k := n) (by omega)
  rw [tU, hn]
  refine ⟨h3, .of (r' := T18 (bu _)) (h1 := h3) T.e44 (by simp) (.to s0 (.seq (.seq (.ops o1) (.aJ (s := .nm (T47 (.ptr q 0) (i64 n)) h1) fun c i K => ?_)) (.ag (c3.mono fun m g => ?_)))) rfl, w3, F1.trans F3⟩
  ·simp only [k28_1, K4, o2, o3, o4, o5, hb]
   (rw [dP]; try rfl)
  ·simp only [k28_2, K2, t47_0, t47_6]
   (rw [aF g, aw (tK rb)]; try rfl)
theorem Ka (T : uE p) (w : Rf h0 h q r) : Cv p 25 [.ptr q 0] h (i64 ((r.getD []).length : Nat)) h := by
 obtain ⟨x, s, a, ref, u, vv, w, hr⟩ := w
 have n0 : nC (.ptr q 0) h = .ok (.ptr q 0) h := rfl
 have a0 : fA 0 (.ptr q 0) h = .ok (.ptr q 0) h := rfl
 have a1 : fA 1 (.ptr q 0) h = .ok (.ptr q 1) h := rfl
 have l0 : lD (.ptr q 0) h = .ok x h := aP w.c rfl
 have l1 : lD (.ptr q 1) h = .ok (i64 a) h := aj w.c 1 rfl
 cases ref with
 | false =>
  rw [if_neg (by simp)] at hr
  have hs := Jm (h := h) w.gM (by have := w.len; omega)
  have e : (r.getD []).length = s.length - a := by subst hr; simp
  rw [e]
  refine .of (r' := T0 (i64 (s.length - a : Nat))) (h1 := h) T.e41 (by simp) (.aJ fun c i K => ?_) rfl
  simp only [k25_0, K1, cm]
  (rw [cu, an, aD (aj w.c 2 rfl), dP, al n0, al a0, al l0, al (dW.len (dh.BB w.o)), al n0, al a1, al l1, al hs]; try rfl)
 | true =>
  rw [if_pos rfl] at hr
  subst hr
  refine .of (r' := T0 i0) (h1 := h) T.e41 (by simp) (.aJ fun c i K => ?_) rfl
  simp only [k25_0, K1, cm]
  (rw [cu, an, aD (aj w.c 2 rfl), ew]; try rfl)
end
open Go.Cod
set_option maxRecDepth 20000
noncomputable section
variable {p : Pg} {h0 h h' h1 h2 h3 : Hp} {q j k js : P4} {s l : Bs} {x y v d xc xg : AV} {r rr : Rd} {L : List AV} {xs : List pW}
abbrev L16 : AC := dp 3 (bh x11)
abbrev B16 : AC := fst (bh L16)
abbrev C16 : AC := bh (bh B16)
structure Qn (h0 : Hp) (q : P4) (h : Hp) (v : AV) (xs : List pW) (l : Bs) : Prop where
 rd : Rf h0 h q (some l)
 own : eV (fun j => ah j h0 = .none) h v xs
theorem Dx (w : Rf h0 h q r) (F : Fr q h h') : ∀ k el fl l, Ob h k el false fl l → ah k h' = ah k h := by
 obtain ⟨_, _, _, _, _, _, w0, _⟩ := w
 exact nR w0.ob F
theorem Kb (T : uE p) (I : Qn h0 q h v xs l) : ∃ r', Os p (opsL (dp 2 L16)) (T35 v (.ptr q 0) d) h (.nm r' h) ∧ y3 r' = v ∧ y4 r' = .ptr q 0 ∧ y22 r' = .bool (decide (0 < l.length) && decide (xs.length < 2048)) := by
 have lf : Cv p 25 [.ptr q 0] h (i64 (l.length : Nat)) h := Ka (p := p) T I.rd
 have gt : bK .gt (i64 (l.length : Nat)) i0 h = .ok (.bool (decide (0 < l.length))) h := by
  show cB (i64 (l.length : Nat)) (i64 0) h = _
  rw [Jn]
  congr 2
  rw [decide_eq_decide]; omega
 by_cases hl : 0 < l.length
 ·rw [decide_eq_true hl] at gt
  have lt : bK .lt (i64 xs.length) (pi 2048) h = .ok (.bool (decide (xs.length < 2048))) h := by
   show pq (i64 xs.length) (i64 2048) h = _
   rw [lS]
   congr 2
   rw [decide_eq_decide]; omega
  exact ⟨_, .step (v := .ptr q 0) (h' := h) rfl <| .call (v := i64 (l.length : Nat)) (h' := h) lf <| .step (v := .bool true) (h' := h) gt <| .step (v := .bool true) (h' := h) rfl <|
   .on rfl <| .step (v := v) (h' := h) rfl <| .on rfl <| .step (v := i64 xs.length) (h' := h) I.own.len <| .on rfl <| .step (v := .bool (decide (xs.length < 2048))) (h' := h) lt <|
   .step (v := .bool (decide (xs.length < 2048))) (h' := h) rfl <| .nil, rfl, rfl, by rw [decide_eq_true hl]; rfl⟩
 ·rw [decide_eq_false hl] at gt
  exact ⟨_, .step (v := .ptr q 0) (h' := h) rfl <| .call (v := i64 (l.length : Nat)) (h' := h) lf <| .step (v := .bool false) (h' := h) gt <| .step (v := .bool false) (h' := h) rfl <|
   .off rfl <| .off rfl <| .off rfl <| .step (v := .bool false) (h' := h) rfl <| .nil, rfl, rfl, by rw [decide_eq_false hl]; rfl⟩
theorem Sf {n : Nat} {T : List AV} (c : Cs h js 0 (i64 n :: T)) : ∃ r', Os p (opsL (dp 2 (bh B16))) (T35 v x (.ptr js 0)) h (.nm r' h) ∧ y3 r' = v ∧ y4 r' = x ∧ y5 r' = .ptr js 0 ∧ y33 r' = .bool (decide (n < 1 ∨ 9 < n)) := by
 have lt : bK .lt (i64 n) i1 h = .ok (.bool (decide (n < 1))) h := by
  show pq (i64 n) (i64 1) h = _
  rw [lS]
  congr 2
  rw [decide_eq_decide]; omega
 have gt : bK .gt (i64 n) (pi 9) h = .ok (.bool (decide (9 < n))) h := by
  show cB (i64 n) (i64 9) h = _
  rw [Jn]
  congr 2
  rw [decide_eq_decide]; omega
 by_cases hn : n < 1
 ·rw [decide_eq_true hn] at lt
  exact ⟨_, .step (v := .ptr js 0) (h' := h) rfl <| .step (v := i64 n) (h' := h) (aP c rfl) <| .step (v := .bool true) (h' := h) lt <| .step (v := .bool true) (h' := h) rfl <| .off rfl <| .off rfl <| .off rfl <| .step (v := .bool true) (h' := h) rfl <| .nil, rfl, rfl, rfl, by rw [decide_eq_true (.inl hn)]; rfl⟩
 ·rw [decide_eq_false hn] at lt
  refine ⟨_, .step (v := .ptr js 0) (h' := h) rfl <| .step (v := i64 n) (h' := h) (aP c rfl) <| .step (v := .bool false) (h' := h) lt <| .step (v := .bool false) (h' := h) rfl <| .on rfl <| .step (v := .ptr js 0) (h' := h) rfl <| .on rfl <| .step (v := i64 n) (h' := h) (aP c rfl) <|
   .on rfl <| .step (v := .bool (decide (9 < n))) (h' := h) gt <| .step (v := .bool (decide (9 < n))) (h' := h) rfl <| .nil, rfl, rfl, rfl, ?_⟩
  have : decide (n < 1 ∨ 9 < n) = decide (9 < n) := by rw [decide_eq_decide]; omega
  rw [this]; rfl
theorem Sg (e23 : ak 14 p.fs = f14) (w : Rf h0 h q r) {a b c n : Int} {g : AV} : ∃ r', Os p (opsL (dp 2 (bh (bh C16)))) (T56 v (.ptr q 0) x (i64 a) (i64 b) (i64 c) g (i64 n)) h (.nm r' h) ∧ y3 r' = v ∧ y4 r' = .ptr q 0 ∧ y5 r' = x ∧ y6 r' = i64 a ∧ y7 r' = i64 b ∧ y8 r' = i64 c ∧ y10 r' = g ∧
  y73 r' = .bool (!(r.isSome && (decide (n = 0) && (small a && (small b && small c))))) := by
 obtain ⟨xx, s, at', ref, u', vv, w, hr⟩ := w
 have l2 : lD (.ptr q 2) h = .ok (.bool ref) h := aj w.c 2 rfl
 have sa := eE (p := p) (h := h) e23 a
 have sb := eE (p := p) (h := h) e23 b
 have sc := eE (p := p) (h := h) e23 c
 cases ref with
 | true =>
  rw [if_pos rfl] at hr
  subst hr
  exact ⟨_, .step (v := .ptr q 0) (h' := h) rfl <| .step (v := .ptr q 0) (h' := h) rfl <| .step (v := .ptr q 2) (h' := h) rfl <| .step (v := .bool true) (h' := h) l2 <| .step (v := .bool true) (h' := h) rfl <| .off rfl <| .off rfl <| .step (v := .bool true) (h' := h) rfl <| .step (v := .bool true) (h' := h) rfl <| .off rfl <| .off rfl <| .off rfl <| .step (v := .bool true) (h' := h) rfl <| .step (v := .bool true) (h' := h) rfl <| .off rfl <| .off rfl <| .off rfl <| .step (v := .bool true) (h' := h) rfl <| .step (v := .bool true) (h' := h) rfl <| .off rfl <| .off rfl <| .off rfl <| .step (v := .bool true) (h' := h) rfl <| .nil, rfl, rfl, rfl, rfl, rfl, rfl, rfl, rfl⟩
 | false =>
  rw [if_neg (by simp)] at hr
  subst hr
  by_cases hn : n = 0
  case neg =>
   have ne : bK .ne (i64 n) i0 h = .ok (.bool true) h := vR hn
   exact ⟨_, .step (v := .ptr q 0) (h' := h) rfl <| .step (v := .ptr q 0) (h' := h) rfl <| .step (v := .ptr q 2) (h' := h) rfl <| .step (v := .bool false) (h' := h) l2 <| .step (v := .bool false) (h' := h) rfl <| .on rfl <| .step (v := i64 n) (h' := h) rfl <| .on rfl <| .step (v := .bool true) (h' := h) ne <| .step (v := .bool true) (h' := h) rfl <| .step (v := .bool true) (h' := h) rfl <| .off rfl <| .off rfl <| .off rfl <| .step (v := .bool true) (h' := h) rfl <| .step (v := .bool true) (h' := h) rfl <| .off rfl <| .off rfl <| .off rfl <| .step (v := .bool true) (h' := h) rfl <| .step (v := .bool true) (h' := h) rfl <| .off rfl <| .off rfl <| .off rfl <| .step (v := .bool true) (h' := h) rfl <| .nil, rfl, rfl, rfl, rfl, rfl, rfl, rfl, by rw [decide_eq_false hn]; rfl⟩
  have ne : bK .ne (i64 n) i0 h = .ok (.bool false) h := tM hn
  rw [decide_eq_true hn]
  cases ha : small a with
  | false =>
   rw [ha] at sa
   exact ⟨_, .step (v := .ptr q 0) (h' := h) rfl <| .step (v := .ptr q 0) (h' := h) rfl <| .step (v := .ptr q 2) (h' := h) rfl <| .step (v := .bool false) (h' := h) l2 <| .step (v := .bool false) (h' := h) rfl <| .on rfl <| .step (v := i64 n) (h' := h) rfl <| .on rfl <| .step (v := .bool false) (h' := h) ne <| .step (v := .bool false) (h' := h) rfl <| .step (v := .bool false) (h' := h) rfl <| .on rfl <| .step (v := i64 a) (h' := h) rfl <| .on rfl <| .call (v := .bool false) (h' := h) sa <| .on rfl <| .step (v := .bool true) (h' := h) rfl <| .step (v := .bool true) (h' := h) rfl <| .step (v := .bool true) (h' := h) rfl <| .off rfl <| .off rfl <| .off rfl <| .step (v := .bool true) (h' := h) rfl <| .step (v := .bool true) (h' := h) rfl <| .off rfl <| .off rfl <| .off rfl <| .step (v := .bool true) (h' := h) rfl <| .nil, rfl, rfl, rfl, rfl, rfl, rfl, rfl, rfl⟩
  | true =>
   rw [ha] at sa
   cases hb : small b with
   | false =>
    rw [hb] at sb
    exact ⟨_, .step (v := .ptr q 0) (h' := h) rfl <| .step (v := .ptr q 0) (h' := h) rfl <| .step (v := .ptr q 2) (h' := h) rfl <| .step (v := .bool false) (h' := h) l2 <| .step (v := .bool false) (h' := h) rfl <| .on rfl <| .step (v := i64 n) (h' := h) rfl <| .on rfl <| .step (v := .bool false) (h' := h) ne <| .step (v := .bool false) (h' := h) rfl <| .step (v := .bool false) (h' := h) rfl <| .on rfl <| .step (v := i64 a) (h' := h) rfl <| .on rfl <| .call (v := .bool true) (h' := h) sa <| .on rfl <| .step (v := .bool false) (h' := h) rfl <| .step (v := .bool false) (h' := h) rfl <| .step (v := .bool false) (h' := h) rfl <| .on rfl <| .step (v := i64 b) (h' := h) rfl <| .on rfl <| .call (v := .bool false) (h' := h) sb <| .on rfl <| .step (v := .bool true) (h' := h) rfl <| .step (v := .bool true) (h' := h) rfl <| .step (v := .bool true) (h' := h) rfl <| .off rfl <| .off rfl <| .off rfl <| .step (v := .bool true) (h' := h) rfl <| .nil, rfl, rfl, rfl, rfl, rfl, rfl, rfl, rfl⟩
   | true =>
    rw [hb] at sb
    cases hc : small c with
    | false =>
     rw [hc] at sc
     exact ⟨_, .step (v := .ptr q 0) (h' := h) rfl <| .step (v := .ptr q 0) (h' := h) rfl <| .step (v := .ptr q 2) (h' := h) rfl <| .step (v := .bool false) (h' := h) l2 <| .step (v := .bool false) (h' := h) rfl <| .on rfl <| .step (v := i64 n) (h' := h) rfl <| .on rfl <| .step (v := .bool false) (h' := h) ne <| .step (v := .bool false) (h' := h) rfl <| .step (v := .bool false) (h' := h) rfl <| .on rfl <| .step (v := i64 a) (h' := h) rfl <| .on rfl <| .call (v := .bool true) (h' := h) sa <| .on rfl <| .step (v := .bool false) (h' := h) rfl <| .step (v := .bool false) (h' := h) rfl <| .step (v := .bool false) (h' := h) rfl <| .on rfl <| .step (v := i64 b) (h' := h) rfl <| .on rfl <| .call (v := .bool true) (h' := h) sb <| .on rfl <| .step (v := .bool false) (h' := h) rfl <| .step (v := .bool false) (h' := h) rfl <| .step (v := .bool false) (h' := h) rfl <| .on rfl <| .step (v := i64 c) (h' := h) rfl <| .on rfl <| .call (v := .bool false) (h' := h) sc <| .on rfl <| .step (v := .bool true) (h' := h) rfl <| .step (v := .bool true) (h' := h) rfl <| .nil, rfl, rfl, rfl, rfl, rfl, rfl, rfl, rfl⟩
    | true =>
     rw [hc] at sc
     exact ⟨_, .step (v := .ptr q 0) (h' := h) rfl <| .step (v := .ptr q 0) (h' := h) rfl <| .step (v := .ptr q 2) (h' := h) rfl <| .step (v := .bool false) (h' := h) l2 <| .step (v := .bool false) (h' := h) rfl <| .on rfl <| .step (v := i64 n) (h' := h) rfl <| .on rfl <| .step (v := .bool false) (h' := h) ne <| .step (v := .bool false) (h' := h) rfl <| .step (v := .bool false) (h' := h) rfl <| .on rfl <| .step (v := i64 a) (h' := h) rfl <| .on rfl <| .call (v := .bool true) (h' := h) sa <| .on rfl <| .step (v := .bool false) (h' := h) rfl <| .step (v := .bool false) (h' := h) rfl <| .step (v := .bool false) (h' := h) rfl <| .on rfl <| .step (v := i64 b) (h' := h) rfl <| .on rfl <| .call (v := .bool true) (h' := h) sb <| .on rfl <| .step (v := .bool false) (h' := h) rfl <| .step (v := .bool false) (h' := h) rfl <| .step (v := .bool false) (h' := h) rfl <| .on rfl <| .step (v := i64 c) (h' := h) rfl <| .on rfl <| .call (v := .bool true) (h' := h) sc <| .on rfl <| .step (v := .bool false) (h' := h) rfl <| .step (v := .bool false) (h' := h) rfl <| .nil, rfl, rfl, rfl, rfl, rfl, rfl, rfl, rfl⟩
structure Kc (p : Pg) : Prop where
 f : uE p
 e : JF p
 e16 : ak 11 p.fs = f11
 e23 : ak 14 p.fs = f14
theorem MI (kk : Nat) (r : Rd) : jT kk r = match dec (aL 65535 (aL 255 (aq (aq (aq r).2).2).2).2).1, (aL 65535 (aL 255 (aq (aq (aq r).2).2).2).2).2 with
   | some e, some l => if small (aq r).1 && small (aq (aq r).2).1 && small (aq (aq (aq r).2).2).1 then some (⟨kk, (aq r).1, (aq (aq r).2).1, (aq (aq (aq r).2).2).1, (aL 255 (aq (aq (aq r).2).2).2).1, e⟩, l) else none
   | _, _ => none := by unfold jT; rfl
def NZ (p : Pg) (h0 : Hp) (q js : P4) (v : AV) (xs : List pW) (kk : Nat) (r : Rd) (h : Hp) : Prop := (jT kk r = none ∧ ∃ r' h2, Rn p C16 (T35 v (.ptr q 0) (.ptr js 0)) h (.ex 0 r' h2) ∧ y3 r' = v ∧ Old h0 h2 ∧ Wf h2 ∧ eV (fun j => ah j h0 = .none) h2 v xs) ∨
  ∃ st l2, jT kk r = some (st, l2) ∧ ∃ v' h2, Rn p C16 (T35 v (.ptr q 0) (.ptr js 0)) h (.nm (T3 v' (.ptr q 0)) h2) ∧ Qn h0 q h2 v' (xs ++ [st]) l2
theorem Qo (T : Kc p) {kk : Nat} (w : Rf h0 h q r) (o : Ob h js 30 true .plain (zY kk)) (nj : ah js h0 = .none) (own : eV (fun j => ah j h0 = .none) h v xs) (hx : xs.length < 2048) : NZ p h0 q js v xs kk r h := by
 have hj : js ≠ q := w.apart o (.inl (by decide))
 have nq := w.new
 obtain ⟨h1, c1, w1, F1⟩ := ue T.f w
 obtain ⟨h2, c2, w2, F2'⟩ := ue T.f w1
 obtain ⟨h3, c3, w3, F3⟩ := ue T.f w2
 have gs := MI kk r
 generalize hA : aq r = A at *
 generalize hB : aq A.2 = B at *
 generalize hC : aq B.2 = C at *
 have F13 := (F1.trans F2').trans F3
 have o3 := F13.ob o hj
 obtain ⟨h4, c4, w4, F4⟩ := Ae T.f w3 255
 generalize hD : aL 255 C.2 = D at *
 have o4 := F4.ob o3 hj
 obtain ⟨h5, b1, b2, b3, b4⟩ := cP (k := 4) (v := bu D.1) o4 (by simp) rfl
 have b2 : Ob h5 js 30 true .plain [i64 kk, i0, i0, i0, bu D.1, i0, i0, i0, iS, iS, .ai, .ai] := b2
 have W5 := dt w4.wf o4 b3 b4
 have w5 := w4.fr (fun j hj _ => b3 j hj) nj (Ne.symm hj) W5
 obtain ⟨h6, c6, w6, F6⟩ := Ae T.f w5 65535
 have hE0 := Cod.kR 65535 D.2
 generalize hE : aL 65535 D.2 = E at *
 have o6 := F6.ob b2 hj
 have own6 : eV (fun j => ah j h0 = .none) h6 v xs := by
  have a := own.cq (Dx w F13)
  have a := a.cq (Dx w3 F4)
  have a := a.cq (nR o4 fun j hj _ => b3 j hj)
  exact a.cq (Dx w5 F6)
 obtain ⟨v8, h8, d1, d2, d3, d4⟩ := JS w6.wf E.1 (by omega)
 obtain ⟨le, h9, n9, c9, O9, W9, D9⟩ := vV (p := p) T.e d4 d2 (by omega)
 have hle : le.length = 7 := by rcases D9 with ⟨e, xc, xg, _, _, rfl, _⟩ | ⟨_, _, rfl⟩ <;> rfl
 have O69 := d3.trans O9
 obtain ⟨j10, h10, e1, e2, e3, e4, e5, _⟩ := fK (el := 28) (n := 7) W9 (c := .k1 (Y7 i0 i0 i0 iS iS .ai .ai)) trivial (by decide)
 obtain ⟨h11, f1, f2, f3, f4⟩ := ef (k := 0) (m := 7) (l' := le) e3 hle (by rw [aW]; omega)
 have f2 : Ob h11 j10 28 true .plain le := by
  have : (bP 7 (.k1 (Y7 i0 i0 i0 iS iS .ai .ai)) 0).take 0 ++ (le ++ (bP 7 (.k1 (Y7 i0 i0 i0 iS iS .ai .ai)) 0).drop (0 + 7)) = le := by
   rw [List.drop_of_length_le (by rw [aW]; omega)]; simp
  rw [← this]; exact f2
 have W11 := dt e5 e3 f3 f4
 have w10 := (w6.up O69 W9).up e4 e5
 have nj10 : ah j10 h0 = .none := (w6.up O69 W9).old.none e2
 have j10q : q ≠ j10 := fun e => by have := (w6.up O69 W9).ne; rw [e] at this; exact this e2
 have w11 := w10.fr (fun j hj _ => f3 j hj) nj10 j10q W11
 have o11 := ((o6.old O69).old e4).eq (f3 js (((o6.old O69).old e4).apart e3 (.inl (by decide))))
 have own11 : eV (fun j => ah j h0 = .none) h11 v xs := ((own6.cq fun k el fl l o => (O69.trans e4) k o.ne).cq (nR e3 fun j hj _ => f3 j hj))
 obtain ⟨r', p1, p2, p3, p4, p5, p6, p7, p8, p9⟩ := Sg (p := p) (v := v) (x := .ptr js 0) (a := A.1) (b := B.1) (c := C.1) (n := n9) (g := .ptr j10 0) T.e23 w11
 have s4 : Ev fun m => ∀ K : A2 → Hp → RS, k11_4 (aB p (exec p m)) (aH p (exec p m)) K (T35 v (.ptr q 0) (.ptr js 0)) h = K (T55 v (.ptr q 0) (.ptr js 0) (i64 A.1) (i64 B.1) (i64 C.1) (bu E.1)) h6 := (c1.and (c2.and (c3.and (c4.and c6)))).mono fun m g K => by
  obtain ⟨g1, g2, g3, g4, g6⟩ := g
  simp only [k11_4, K3, t35_3, t35_4, t35_5]
  (rw [aF g1, aF g2, aF g3, aF g4, an, Nat.zero_add, cJ b1, aF g6]; try rfl)
 have s5 : Ev fun m => ∀ K : A2 → Hp → RS, k11_5 (aB p (exec p m)) (aH p (exec p m)) K (T55 v (.ptr q 0) (.ptr js 0) (i64 A.1) (i64 B.1) (i64 C.1) (bu E.1)) h6 = K (T56 v (.ptr q 0) (.ptr js 0) (i64 A.1) (i64 B.1) (i64 C.1) (.ptr j10 0) (i64 n9)) h11 := c9.mono fun m g K => by
  simp only [k11_5, K7, t55_3, t55_4, t55_5, t55_6, t55_7, t55_8, t55_9]
  have x0 : Seat.ext 0 (.nZ [.agg le, i64 n9]) h9 = .ok (.agg le) h9 := rfl
  have x1 : Seat.ext 1 (.nZ [.agg le, i64 n9]) h9 = .ok (i64 n9) h9 := rfl
  (rw [aw d1, aF g, vJ x0, vJ x1, iI e1, fX f1]; try rfl)
 have s6 : Rn p (.ag k11_6 .skip) r' h11 (Seat.I (.bool (!(E.2.isSome && (decide (n9 = 0) && (small A.1 && (small B.1 && small C.1)))))) (.ex 0 (T57 v (.ptr q 0) (.ptr js 0) (i64 A.1) (i64 B.1) (i64 C.1) (.ptr j10 0)) h11) (.nm (T57 v (.ptr q 0) (.ptr js 0) (i64 A.1) (i64 B.1) (i64 C.1) (.ptr j10 0)) h11)) := .aJ fun c i K => by
  simp only [k11_6, K8, p2, p3, p4, p5, p6, p7, p8, p9]
 have no : jT kk r = none → (E.2.isSome && (decide (n9 = 0) && (small A.1 && (small B.1 && small C.1)))) = false → NZ p h0 q js v xs kk r h := fun g1 g2 => by
  rw [g2] at s6
  exact .inl ⟨g1, _, h11, .to s4 (.to s5 (.qh (.seq (.ops p1) s6))), rfl, w11.old, W11, own11⟩
 cases hE2 : E.2 with
 | none => exact no (by rw [gs, hE2]; cases dec E.1 <;> rfl) (by rw [hE2]; rfl)
 | some l5 =>
  rcases D9 with ⟨e, xc, xg, y1, rfl, rfl, y4, y5, y6⟩ | ⟨y1, rfl, rfl⟩
  case inr => exact no (by rw [gs, hE2, y1]) (by simp)
  cases hsm : (small A.1 && (small B.1 && small C.1)) with
  | false =>
   refine no ?_ (by rw [hsm]; simp)
   rw [gs, hE2, y1]
   simp only [Bool.and_assoc, hsm]
   rfl
  | true =>
   rw [hE2, decide_eq_true rfl, hsm] at s6
   have gs' : jT kk r = some (⟨kk, A.1, B.1, C.1, D.1, e⟩, l5) := by
    rw [gs, hE2, y1]
    simp only [Bool.and_assoc, hsm]
    rfl
   refine .inr ⟨_, _, gs', ?_⟩
   obtain ⟨h12, m1, m2, m3, m4⟩ := cP (k := 1) (v := i64 A.1) o11 (by simp) rfl
   obtain ⟨h13, m5, m6, m7, m8⟩ := cP (k := 2) (v := i64 B.1) m2 (by simp) rfl
   obtain ⟨h14, q1, q2, q3, q4⟩ := cP (k := 3) (v := i64 C.1) m6 (by simp) rfl
   have q2 : Ob h14 js 30 true .plain [i64 kk, i64 A.1, i64 B.1, i64 C.1, bu D.1, i0, i0, i0, iS, iS, .ai, .ai] := q2
   have jne : j10 ≠ js := f2.apart o11 (.inl (by decide))
   have f14 := ((f2.eq (m3 j10 jne)).eq (m7 j10 jne)).eq (q3 j10 jne)
   obtain ⟨h15, t1, t2, t3, t4⟩ := ef (k := 5) (m := 7) (l' := cE xc xg e) q2 (by simp [cE]) (by simp)
   have t2 : Ob h15 js 30 true .plain (eZ xc xg (sq ⟨kk, A.1, B.1, C.1, D.1, e⟩)) := t2
   have W15 := dt (dt (dt (dt W11 o11 m3 m4) m2 m7 m8) m6 q3 q4) q2 t3 t4
   have g15 : ∀ j, j ≠ js → ah j h15 = ah j h11 := fun j hj => by rw [t3 j hj, q3 j hj, m7 j hj, m3 j hj]
   have w15 := w11.fr (fun j hj _ => g15 j hj) nj (Ne.symm hj) W15
   rw [hE2] at w15
   have own15 := own11.cq (nR o11 fun j hj _ => g15 j hj)
   obtain ⟨m', h16, u1, u2, u3, u4, u5, u6⟩ := fm (el := 30) (es := 12) (n := 1) (z := [i0, i0, i0, i0, iS, i0, i0, i0, iS, iS, .ai, .ai]) (ps := [.mk 0 12 (.c (.agg (eZ xc xg (sq ⟨kk, A.1, B.1, C.1, D.1, e⟩))))]) (l := eZ xc xg (sq ⟨kk, A.1, B.1, C.1, D.1, e⟩)) W15 rfl rfl (by simp [eZ, cE])
   obtain ⟨Ls, z1, z2, z3⟩ := own15.cq (h' := h16) fun k el fl l o => u4 k o.ne
   obtain ⟨v', h17, a1, a2, a3, a4, a5⟩ := pa (m := 1) u5 z2 (by omega) (new := eZ xc xg (sq ⟨kk, A.1, B.1, C.1, D.1, e⟩)) (by simp [eZ, cE]) (by rw [Aa z1]; simp [eZ, cE]; omega)
   have V : df 30 12 v (.slice m' 0 1 1) h16 = .ok v' h17 := by
    rw [dB (m := 1) (q := m') (o := 0) (l := eZ xc xg (sq ⟨kk, A.1, B.1, C.1, D.1, e⟩)) (.inl ⟨_, rfl⟩) (by omega) (fun _ => Ob.c0 u3) (by simp [eZ, cE]) (by omega)]
    exact a1
   have old17 : Old h0 h17 := fun j hj => by
    have e := (w15.old.trans u4) j hj
    rw [a4 j (by rw [e]; exact hj) (fun g => hj g), e]
   have kp : ∀ k el fl l', Ob h9 k el false fl l' → el ≠ 30 → ah k h17 = ah k h9 := fun k el fl l' ok hel => by
    have b10 := e4 k ok.ne
    have ok10 := ok.old e4
    have b11 := f3 k (ok10.apart e3 (.inr (by simp)))
    have ok11 := ok10.eq b11
    have b15 := g15 k (ok11.apart o11 (.inr (by simp)))
    have ok15 := ok11.eq b15
    have b16 := u4 k ok15.ne
    have ok16 := ok15.old u4
    rw [a5 k _ _ _ _ ok16 (.inl hel), b16, b15, b11, b10]
   refine ⟨v', h17, .to s4 (.to s5 (.seq (.seq (.ops p1) s6) (.aJ fun c i K => ?_))), w15.cq (h' := h17) a3 old17 fun k el ex fl l o g => ?_, Ls ++ [(xc, xg)], by simp [z1], ?_, fun i b1 b2 => ?_⟩
   ·simp only [k11_7, K7, t57_3, t57_4, t57_5, t57_6, t57_7, t57_8, t57_10]
    (rw [an, Nat.zero_add, cJ m1, an, Nat.zero_add, cJ m5, an, Nat.zero_add, cJ q1, fk (bD (m := 7) (Ob.c0 f14) (by simp [cE])), an, Nat.zero_add, fX t1, fk (bD (m := 12) (Ob.c0 t2) (by simp [eZ, cE])), aw u1, aw V]; try rfl)
   ·have o16 := o.old u4
    rw [a5 k el ex fl l o16 (.inl (by rw [g]; decide)), u4 k o.ne]
   ·rw [zZ z1]
    exact dh.mono a2 fun j hj => hj.elim id fun g => (w15.old.trans u4).none g
   ·by_cases hi : i < Ls.length
    ·simp only [List.getElem_append_left hi, List.getElem_append_left (show i < xs.length by omega)]
     obtain ⟨t1, t2, t3⟩ := z3 i hi (by omega)
     exact ⟨t1.cq fun k fl l o => a5 k _ _ fl l o (.inl (by decide)), t2.cq fun k el fl l o g => a5 k el _ fl l o (.inl (by rcases g with rfl | rfl <;> decide)), t3⟩
    ·have hi' : i = Ls.length := by simp at b1; omega
     subst hi'
     have q1 : (Ls ++ [(xc, xg)])[Ls.length]'b1 = (xc, xg) := by simp
     have q2 : (xs ++ [(⟨kk, A.1, B.1, C.1, D.1, e⟩ : pW)])[Ls.length]'b2 = ⟨kk, A.1, B.1, C.1, D.1, e⟩ := by
      have := List.getElem_append_right (as := xs) (bs := [(⟨kk, A.1, B.1, C.1, D.1, e⟩ : pW)]) (i := Ls.length) (by omega) (h₂ := b2)
      rw [this]; simp
     rw [q1, q2]
     obtain ⟨xs', n1, n2, n3⟩ := y5.cq (h' := h17) fun k el fl l o g => kp k el fl l o (by rcases g with rfl | rfl <;> decide)
     exact ⟨dh.mono (y4.cq fun k fl l o => kp k _ fl l o (by decide)) fun _ _ => True.intro, ⟨xs', n1, dh.mono n2 fun _ _ => True.intro, n3⟩, y6⟩
theorem MJ (T : Kc p) {b : UInt8} (I : Qn h0 q h v xs (b :: l)) (hx : xs.length < 2048) :
  (b.toNat < 1 ∨ 9 < b.toNat) ∧ (∃ d' h2, Rn p L16 (T35 v (.ptr q 0) d) h (.nm (T35 v (.ptr q 0) d') h2) ∧ Qn h0 q h2 v xs l) ∨
  ¬ (b.toNat < 1 ∨ 9 < b.toNat) ∧ ((jT b.toNat (some l) = none ∧ ∃ r' h2, Rn p L16 (T35 v (.ptr q 0) d) h (.ex 0 r' h2) ∧ y3 r' = v ∧ Old h0 h2 ∧ Wf h2 ∧ eV (fun j => ah j h0 = .none) h2 v xs) ∨
   ∃ st l2, jT b.toNat (some l) = some (st, l2) ∧ ∃ v' h2, Rn p L16 (T35 v (.ptr q 0) d) h (.nm (T35 v' (.ptr q 0) u) h2) ∧ Qn h0 q h2 v' (xs ++ [st]) l2) := by
 obtain ⟨r1, o1, o2, o3, o4⟩ := Kb (p := p) (d := d) T.f I
 rw [decide_eq_true (show 0 < (b :: l).length by simp), decide_eq_true hx] at o4
 obtain ⟨h1, c1, w1, F1⟩ := JZ T.f I.rd
 have hb : bJ (some (b :: l)) = (b.toNat, some l) := by
  unfold bJ Cod.get Cod.take
  simp [un]
 rw [hb] at c1 w1
 simp only at c1 w1
 obtain ⟨js, h2, a1, a2, a3, a4, a5, _⟩ := fK (el := 30) (n := 12) w1.wf (c := .k1 (Y12 i0 i0 i0 i0 iS i0 i0 i0 iS iS .ai .ai)) trivial (by decide)
 obtain ⟨h3, b1, b2, b3, b4⟩ := ef (k := 0) (m := 12) (l' := zY b.toNat) a3 rfl (by rw [aW]; omega)
 have b2 : Ob h3 js 30 true .plain (zY b.toNat) := b2
 have W3 := dt a5 a3 b3 b4
 have hjs : ah js h0 = .none := w1.old.none a2
 have jq : q ≠ js := fun e => by have := w1.ne; rw [e] at this; exact this a2
 have w3 := (w1.up a4 a5).fr (fun j hj _ => b3 j hj) hjs jq W3
 have own3 : eV (fun j => ah j h0 = .none) h3 v xs := ((I.own.cq (Dx I.rd F1)).cq fun k el fl l o => a4 k o.ne).cq (nR a3 fun j hj _ => b3 j hj)
 obtain ⟨r2, p1, p2, p3, p4, p5⟩ := Sf (p := p) (x := .ptr q 0) (v := v) (n := b.toNat) (T := [i0, i0, i0, iS, i0, i0, i0, iS, iS, .ai, .ai]) (Ob.c0 b2)
 have s1 : Rn p (.ag k11_1 .skip) r1 h (.nm (T3 v (.ptr q 0)) h) := .aJ fun c i K => by
  simp only [k11_1, K3, o2, o3, o4]; rfl
 have s2 : Ev fun m => ∀ K : A2 → Hp → RS, k11_2 (aB p (exec p m)) (aH p (exec p m)) K (T3 v (.ptr q 0)) h = K (T35 v (.ptr q 0) (.ptr js 0)) h3 := c1.mono fun m g K => by
  simp only [k11_2, K2, IV, t3_4]
  have U0 : bl [i0, i0, i0, i0, iS, i0, i0, i0, iS, iS, .ai, .ai] [.mk 0 1 (.c (i64 (b.toNat : Nat)))] h1 = .ok (.agg (zY b.toNat)) h1 := rfl
  (rw [aF g, mY U0, iI a1, fX b1]; try rfl)
 by_cases hk : b.toNat < 1 ∨ 9 < b.toNat
 ·rw [decide_eq_true hk] at p5
  refine .inl ⟨hk, .ptr js 0, h3, .seq (.seq (.ops o1) s1) (.br (.to s2 (.qh (.seq (.ops p1) (.aJ fun c i K => ?_))))), w3, own3⟩
  simp only [k11_3, K4, p2, p3, p4, p5]; rfl
 ·rw [decide_eq_false hk] at p5
  have s3 : Rn p (.ag k11_3 .skip) r2 h3 (.nm (T35 v (.ptr q 0) (.ptr js 0)) h3) := .aJ fun c i K => by
   simp only [k11_3, K4, p2, p3, p4, p5]; rfl
  refine .inr ⟨hk, ?_⟩
  rcases Qo (p := p) T w3 b2 hjs own3 hx with ⟨e, r', h4, k4, y3, O4, W4, S4⟩ | ⟨st, l2, e, v', h4, k4, I4⟩
  ·exact .inl ⟨e, r', h4, .seq (.seq (.ops o1) s1) (.Fg (.to s2 (.seq (.seq (.ops p1) s3) k4)) rfl), y3, O4, W4, S4⟩
  ·exact .inr ⟨st, l2, e, v', h4, .seq (.seq (.ops o1) s1) (.block (.to s2 (.seq (.seq (.ops p1) s3) k4))), I4⟩
theorem BQ (T : Kc p) : ∀ (f : Nat) {l : Bs} {h : Hp} {v d : AV} {xs : List pW}, Qn h0 q h v xs l → xs.length ≤ 2048 → l.length < f →
  ∃ v' r' h', Rn p (.loop L16) (T35 v (.ptr q 0) d) h (.ex 0 r' h') ∧ y3 r' = v' ∧ Old h0 h' ∧ Wf h' ∧ eV (fun j => ah j h0 = .none) h' v' (xs ++ items f (2048 - xs.length) l)
 | 0, l, h, v, d, xs, I, hx, hf => by omega
 | f + 1, l, h, v, d, xs, I, hx, hf => by
  have stop : ∀ r', Os p (opsL (dp 2 L16)) (T35 v (.ptr q 0) d) h (.nm r' h) → y3 r' = v → y4 r' = .ptr q 0 → y22 r' = .bool false → Rn p (.loop L16) (T35 v (.ptr q 0) d) h (.ex 0 (T3 v (.ptr q 0)) h) := fun r' o1 o2 o3 o4 =>
   .cW (.qh (.seq (.ops o1) (.aJ fun c i K => by simp only [k11_1, K3, o2, o3, o4]; rfl)))
  cases l with
  | nil =>
   obtain ⟨r1, o1, o2, o3, o4⟩ := Kb (p := p) (d := d) T.f I
   refine ⟨v, _, h, stop r1 o1 o2 o3 (by rw [o4]; rfl), rfl, I.rd.old, I.rd.wf, ?_⟩
   rw [pZ, List.append_nil]; exact I.own
  | cons b l =>
   rw [nO]
   by_cases hroom : 2048 - xs.length = 0
   ·obtain ⟨r1, o1, o2, o3, o4⟩ := Kb (p := p) (d := d) T.f I
    refine ⟨v, _, h, stop r1 o1 o2 o3 (by rw [o4, decide_eq_false (show ¬ xs.length < 2048 by omega), Bool.and_false]), rfl, I.rd.old, I.rd.wf, ?_⟩
    rw [if_pos hroom, List.append_nil]; exact I.own
   ·rw [if_neg hroom]
    rcases MJ (p := p) (d := d) T I (by omega) with ⟨hk, d', h2, k, I2⟩ | ⟨hk, ⟨e, r', h2, k, y3, O2, W2, S2⟩ | ⟨st, l2, e, v', h2, k, I2⟩⟩
    ·rw [if_pos hk]
     obtain ⟨v', r', h', k', rest⟩ := BQ T f (d := d') I2 hx (by simpa using hf)
     exact ⟨v', r', h', .loop k k', rest⟩
    ·rw [if_neg hk, e, pX, List.append_nil]
     exact ⟨v, r', h2, .cW k, y3, O2, W2, S2⟩
    ·rw [if_neg hk, e, pY]
     have hlen : l2.length < f := by
      obtain ⟨l0, e0, e1⟩ := zL e
      cases e0
      simp at hf
      omega
     obtain ⟨v2, r', h', k', y3, O', W', S'⟩ := BQ T f (d := u) I2 (by simp; omega) hlen
     refine ⟨v2, r', h', .loop k k', y3, O', W', ?_⟩
     rw [List.append_assoc] at S'
     simp only [List.length_append, List.length_singleton] at S'
     rw [show 2048 - xs.length - 1 = 2048 - (xs.length + 1) by omega]
     exact S'
theorem Fh (T : Kc p) (W : Wf h) {bb : P4 → Prop} (w : dh h x 5 1 (bc s) bb) (hl : s.length ≤ 16777216) : ∃ v h', Cv p 11 [x] h v h' ∧ Old h h' ∧ Wf h' ∧ eV (fun j => ah j h = .none) h' v (items (s.length + 1) 2048 s) := by
 obtain ⟨q, h1, e1, e2, e3, e4, e5, e6⟩ := lj (el := 62) (l := [x, i0, .bool false, i0, i0]) W (by simp)
 have U0 : bl [.ai, i0, .bool false, i0, i0] [.mk 0 1 (.c x)] h = .ok (.agg [x, i0, .bool false, i0, i0]) h := by
  rcases w with ⟨_, rfl | ⟨q, rfl⟩⟩ | ⟨q, n, rfl, _⟩ <;> rfl
 have I : Qn h q h1 .ai [] s := ⟨⟨x, s, 0, false, 0, 0, ⟨e4, e5, e2, e3, dh.mono w fun _ _ => True.intro, hl, by omega⟩, by simp⟩, [], rfl, .inl ⟨rfl, .inl rfl⟩, fun i h1 => by cases h1⟩
 obtain ⟨v, r', h', k, y3, O, W', S⟩ := BQ (p := p) T (s.length + 1) (d := u) I (by simp) (by omega)
 refine ⟨v, h', .of (r' := T0 v) (h1 := h') T.e16 (by simp) (.di (r' := T35 .ai (.ptr q 0) u) (h' := h1) (fun c i K => ?_) (.seq (.br k) (.aJ fun c i K => ?_))) rfl, O, W', ?_⟩
 ·simp only [k11_0, K1, cm]
  (rw [mY U0, jh e1]; try rfl)
 ·simp only [k11_8, K1, y3]
 ·simpa using S
end
open Go.Cod
noncomputable section
variable {p : Pg} {h hb h' h2 h0 : Hp} {q j je : P4} {x y v a b d e f g : AV} {o : Nat}
end
open Go.Cod
set_option maxRecDepth 20000
noncomputable section
variable {p : Pg} {h hb h0 h' h1 h2 h3 : Hp} {q i j k js : P4} {s t l : Bs} {x y v a b d xc xg : AV}
theorem MK (e46 : ak 30 p.fs = f30) (ra : dW h x s) (rb : dW h y t) (hn : s.length < 9223372036854775807) : Cv p 30 [x, y] h (.bool (decide (s = t))) h := by
 have ne (u w : UInt8) : ig (.int .u8 (u.toNat : Int)) (.int .u8 (w.toNat : Int)) h = .ok (.bool (!decide (u = w))) h := by
  rw [Dc]
  congr 3
  rw [decide_eq_decide]
  refine ⟨fun g => UInt8.toNat_inj.1 (by omega), fun g => by rw [g]⟩
 obtain ⟨h', rfl, c⟩ := ua (p := p) (x := x) (y := y) (as := s) (bs := t) e46 (R := fun i => T21 x y (i64 i)) (Re := T21 x y (i64 s.length)) (Q := fun h' => h' = h) rfl
  (zW (dW.len ra) (dW.len rb) fun c i K => by simp only [k30_0, K2, dE, dF]) (fun c i K => by simp only [k30_1, K2, gJ, gK]; rfl) (fun c i K h' => rfl)
  (fun hl i h' hi hj e0 e => by
   subst e0
   refine ⟨h', rfl, .aJ fun c i' K => ?_⟩
   obtain ⟨u1, a1, a2⟩ := ra.at hi
   obtain ⟨u2, b1, b2⟩ := rb.at hj
   simp only [k30_2, K3, fU, fV, fW]
   have av := ne s[i] t[i]
   rw [decide_eq_true e] at av
   (rw [aR (dW.len ra), aV, bC, if_pos (by omega), al a1, al a2, al b1, al b2, al av, Bool.not_true, dP, dj hi hn]; try rfl))
  (fun hl i h' hi hj e0 e => by
   subst e0
   refine ⟨h', rfl, .aJ fun c i' K => ?_⟩
   obtain ⟨u1, a1, a2⟩ := ra.at hi
   obtain ⟨u2, b1, b2⟩ := rb.at hj
   simp only [k30_2, K3, fU, fV, fW]
   have av := ne s[i] t[i]
   rw [decide_eq_false e] at av
   (rw [aR (dW.len ra), aV, bC, if_pos (by omega), al a1, al a2, al b1, al b2, al av, Bool.not_false, ew]; try rfl))
  (fun h' e0 => by
   subst e0
   refine .aJ fun c i' K => ?_
   simp only [k30_2, K3, fU, fV, fW]
   (rw [aR (dW.len ra), aV, bC, if_neg (by omega)]; try rfl))
 exact c
theorem Qp {Z : List AV} (W : Wf h) (o : Ob h i 5 true .plain Z) (r : dW h y s) (hs : s.length ≤ Z.length) (hl : s.length ≤ 16777216) : ∃ h', FA 1 (.slice i 0 Z.length Z.length) y h = .ok (iW (Nat.min s.length Z.length)) h' ∧ Ob h' i 5 true .plain (bc s ++ Z.drop s.length) ∧ (∀ j, j ≠ i → ah j h' = ah j h) ∧ h'.next = h.next := by
 obtain ⟨q, o', n, e1, e2, e3⟩ := r
 subst e2
 have el := tw (h := h) e1 (by omega) e3 (by rw [bw]; omega) (fun l => rQ (List.take (Nat.mul Z.length 1) l) (.slice i 0 Z.length Z.length) h (fun h => .ok (iW (Nat.min s.length Z.length)) h)) (.err 94)
 have hv : FA 1 (.slice i 0 Z.length Z.length) y h = elems 1 y h (fun l => rQ (List.take (Nat.mul Z.length 1) l) (.slice i 0 Z.length Z.length) h (fun h => .ok (iW (Nat.min s.length Z.length)) h)) (.err 94) := by
  rcases e1 with ⟨cap, rfl⟩ | rfl | ⟨rfl, h0⟩
  ·rfl
  ·rfl
  ·show elems 1 .ai h (fun l => rQ (List.take (Nat.mul Z.length 1) l) (.slice i 0 Z.length Z.length) h (fun h => .ok (iW (Nat.min 0 Z.length)) h)) (.err 94) = _
   rw [h0]
 rw [hv, el]
 have tk : List.take (Nat.mul Z.length 1) (bc s) = bc s := List.take_of_length_le (by rw [bw]; show s.length ≤ Z.length * 1; omega)
 rw [tk]
 cases hb : bc s with
 | nil =>
  have : s = [] := by cases s with | nil => rfl | cons _ _ => simp [bc] at hb
  subst this
  exact ⟨h, rfl, by simpa using o, fun _ _ => rfl, rfl⟩
 | cons c0 cs =>
  obtain ⟨c, f1, f2, f3⟩ := o
  have hlen : (c0 :: cs).length = s.length := by rw [← hb, bw]
  refine ⟨dY i (.cells 5 Z.length true .plain (cH (c0 :: cs) 0 c)) h, ?_, ⟨cH (c0 :: cs) 0 c, ?_, ?_, fun j hj => ?_⟩, fun j hj => by rw [aN, if_neg hj], rfl⟩
  ·show (Obj.bp (ah i h) (fun el n ex fl c => @Bool.rec (fun _ => RV) (.err 78) (@Bool.rec (fun _ => RV) (.err 79) (.ok (iW (Nat.min s.length Z.length)) (dY i (.cells el n ex fl (cH (c0 :: cs) 0 c)) h)) (Nat.ble (Nat.add 0 (c0 :: cs).length) n)) (wr fl)) (.err 80) : RV) = _
   rw [f1]
   show (@Bool.rec (fun _ => RV) (.err 79) (.ok (iW (Nat.min s.length Z.length)) (dY i (.cells 5 Z.length true .plain (cH (c0 :: cs) 0 c)) h)) (Nat.ble (0 + (c0 :: cs).length) Z.length) : RV) = _
   rw [Nat.ble_eq_true_of_le (show 0 + (c0 :: cs).length ≤ Z.length by rw [hlen]; omega)]
  ·have e : (c0 :: cs ++ Z.drop s.length).length = Z.length := by rw [List.length_append, hlen, List.length_drop]; omega
   rw [e, aN, if_pos rfl]
  ·have e : (c0 :: cs ++ Z.drop s.length).length = Z.length := by rw [List.length_append, hlen, List.length_drop]; omega
   rw [e, fj]
   exact ⟨f2.1.cH _ _, f2.2⟩
  ·have e : (c0 :: cs ++ Z.drop s.length).length = Z.length := by rw [List.length_append, hlen, List.length_drop]; omega
   rw [e] at hj
   have hr := f2.2
   rw [kK (c0 :: cs) 0 c j (by omega) (by omega)]
   by_cases h1 : j < s.length
   ·rw [dif_pos (by omega), List.getElem_append_left (by omega)]
    congr 1
   ·rw [dif_neg (by omega), List.getElem_append_right (by omega), List.getElem_drop, f3 j (by omega)]
    congr 1
    omega
theorem Oa (n : Nat) (z : AV) : fc n [z] = List.replicate n z := by
 induction n with
 | zero => rfl
 | succ n ih => rw [pR, ih]; rfl
theorem Af (e15 : ak 8 p.fs = f8) (W : Wf h) (r : dW h x s) (hl : s.length + 80 ≤ 1048576) : ∃ i h', Cv p 8 [x, .int .u8 (.ofNat 165)] h (.slice i 0 (s.length + 80) (s.length + 80)) h' ∧ Ob h' i 5 true .plain (bc (s ++ List.replicate 80 165)) ∧ Old h h' ∧ Wf h' := by
 have hZ : (fc (s.length + 80) [AV.int .u8 (.ofNat 0)]).length = s.length + 80 := by rw [Oa, List.length_replicate]
 obtain ⟨i, h1, e1, e2, e3, e4, e5, e6⟩ := tx (el := 5) (ex := true) (fl := .plain) W (fc (s.length + 80) [AV.int .u8 (.ofNat 0)]) (c := ng (fc (s.length + 80) [AV.int .u8 (.ofNat 0)])) (Gd.of _ (by rw [hZ]; omega)) (fun k hk => jR _ (by rw [hZ]; omega) k hk) (fun i h => .ok (.slice i 0 (s.length + 80) (s.length + 80)) h)
 have mk : fh 5 [(.int .u8 (.ofNat 0))] (.c (i64 (s.length + 80 : Nat))) (.c (i64 (s.length + 80 : Nat))) .nil h = .ok (.slice i 0 (s.length + 80) (s.length + 80)) h1 := by
  show (@Bool.rec (fun _ => RV) (.err 39) (@Bool.rec (fun _ => RV) (.err 40) (QW 5 (s.length + 80) (s.length + 80) (fc (s.length + 80) [AV.int .u8 (.ofNat 0)]) h) (Nat.ble (s.length + 80) 1048576)) (Nat.ble (s.length + 80) (s.length + 80))) = _
  rw [Nat.ble_eq_true_of_le (Nat.le_refl _), Nat.ble_eq_true_of_le hl]
  exact e1
 obtain ⟨h2, c1, c2, c3, c4⟩ := Qp e5 e3 (r.up e4) (by rw [hZ]; omega) (by omega)
 rw [hZ] at c1
 have W2 := dt e5 e3 c3 c4
 have O2 : Old h h2 := Fr.old (fun j hj _ => c3 j hj) e4 e2
 have c2 : Ob h2 i 5 true .plain (bc (s ++ List.replicate 0 165) ++ List.replicate (80 - 0) (.int .u8 (.ofNat 0))) := by
  have : (fc (s.length + 80) [AV.int .u8 (.ofNat 0)]).drop s.length = List.replicate 80 (.int .u8 (.ofNat 0)) := by rw [Oa, List.drop_replicate, Nat.add_sub_cancel_left]
  rw [this] at c2
  simpa using c2
 have sl : vL (.slice i 0 (s.length + 80) (s.length + 80)) 1 (s.length + 80) i 0 := .inl ⟨_, rfl⟩
 obtain ⟨r', h3, ⟨rfl, O3, W3, o3⟩, k3⟩ := gU (p := p) (body := .ag k8_2 .skip) (r := T20 (.int .u8 (.ofNat 165)) (.slice i 0 (s.length + 80) (s.length + 80)) (i64 (s.length + 0 : Nat))) (h := h2) 80
  (Inv := fun n r h' => r = T20 (.int .u8 (.ofNat 165)) (.slice i 0 (s.length + 80) (s.length + 80)) (i64 (s.length + n : Nat)) ∧ Old h h' ∧ Wf h' ∧ Ob h' i 5 true .plain (bc (s ++ List.replicate n 165) ++ List.replicate (80 - n) (.int .u8 (.ofNat 0)))) (l := 0) (Re := T20 (.int .u8 (.ofNat 165)) (.slice i 0 (s.length + 80) (s.length + 80)) (i64 (s.length + 80 : Nat))) (fun n r h' hn I => by
   obtain ⟨rfl, O, W', o⟩ := I
   have hlen : (bc (s ++ List.replicate n 165) ++ List.replicate (80 - n) (AV.int .u8 (.ofNat 0))).length = s.length + 80 := by simp [bc]; omega
   obtain ⟨h4, g1, g2, g3, g4⟩ := cP (k := s.length + n) (v := .int .u8 (.ofNat 165)) o (by omega) rfl
   refine ⟨_, h4, .aJ fun c i' K => ?_, rfl, Fr.old (fun j hj _ => g3 j hj) O e2, dt W' o g3 g4, ?_⟩
   ·simp only [k8_2, K3, t20_1, vB, t20_6]
    have X : iX 1 (.slice i 0 (s.length + 80) (s.length + 80)) (i64 (s.length + n : Nat)) h' = .ok (.ptr i (s.length + n)) h' := by
     rw [bS sl (by omega), Nat.zero_add, Nat.mul_one]
    (rw [aR (fg sl), aV, bC, if_pos (by omega), cN X, cJ g1, dj (n := s.length + 80) (by omega) (by omega)]; try rfl)
   ·have : (bc (s ++ List.replicate n 165) ++ List.replicate (80 - n) (AV.int .u8 (.ofNat 0))).set (s.length + n) (.int .u8 (.ofNat 165)) = bc (s ++ List.replicate (n + 1) 165) ++ List.replicate (80 - (n + 1)) (.int .u8 (.ofNat 0)) := by
     have e1 : 80 - n = (80 - (n + 1)) + 1 := by omega
     rw [e1, List.replicate_succ, List.set_append_right _ _ (by simp [bc])]
     have e2 : s.length + n - (bc (s ++ List.replicate n 165)).length = 0 := by simp [bc]
     rw [e2, List.set_cons_zero, List.replicate_succ', ← List.append_assoc s, tH (s ++ _), List.append_assoc (bc _)]
     rfl
    rw [this] at g2
    exact g2) (fun r h' I => by
   obtain ⟨rfl, O, W', o⟩ := I
   refine .aJ fun c i' K => ?_
   simp only [k8_2, K3, t20_1, vB, t20_6]
   (rw [aR (fg sl), aV, bC, if_neg (by omega)]; try rfl)) ⟨rfl, O2, W2, c2⟩
 refine ⟨i, h3, .of (r' := T18 (.slice i 0 (s.length + 80) (s.length + 80))) (h1 := h3) e15 (by simp) (.di (r' := T21 x (.int .u8 (.ofNat 165)) (.slice i 0 (s.length + 80) (s.length + 80))) (h' := h2) (fun c i' K => ?_) (.seq (.di (r' := T20 (.int .u8 (.ofNat 165)) (.slice i 0 (s.length + 80) (s.length + 80)) (i64 (s.length + 0 : Nat))) (h' := h2) (fun c i' K => ?_) (.br k3)) (.aJ fun c i' K => ?_))) rfl, by simpa using o3, O3, W3⟩
 ·simp only [k8_0, K2, dE, dF]
  have hd : ∀ K : AV → Hp → RS, Seat.D (i64 s.length) (pi 80) h K = K (i64 (s.length + 80 : Nat)) h := fun K => by
   show Seat.D (i64 s.length) (i64 80) h K = _
   rw [lh, gW _ (by unfold cS; omega)]; rfl
  (rw [aR (dW.len r), hd, aw mk, aw c1]; try rfl)
 ·simp only [k8_1, K3, fU, fV, fW]
  (rw [aR (dW.len (r.up O2))]; try rfl)
 ·simp only [k8_3, K1, vB]
theorem Ag {cap : Nat} (o : Ob h i 5 true .plain (bc (s ++ t))) : dW h (.slice i 0 s.length cap) s := ⟨i, 0, s.length, .inl ⟨_, rfl⟩, rfl, fun _ => o.cs (k := 0) (m := bc s) (fun j hj => by
 have e : bc (s ++ t) = bc s ++ bc t := tH s t
 simp only [Nat.zero_add, e]
 exact ⟨by rw [List.length_append]; omega, List.getElem_append_left hj⟩) (by rw [tH, List.length_append]; omega)⟩
theorem BR (e46 : ak 30 p.fs = f30) (rf : Ob h i 5 true .plain (bc (s ++ List.replicate 80 165))) (rx : dW h x s) (hl : s.length + 80 ≤ 1048576) : ∃ r', Os p (opsL (dp 2 (bh x12))) (T58 (.slice i 0 (s.length + 80) (s.length + 80)) x (.int .u8 (.ofNat 165))) h (.nm r' h) ∧ y0 r' = .slice i 0 (s.length + 80) (s.length + 80) ∧ y1 r' = x ∧ y2 r' = .int .u8 (.ofNat 165) ∧ y22 r' = .bool false := by
 have sl : vL (.slice i 0 (s.length + 80) (s.length + 80)) 1 (s.length + 80) i 0 := .inl ⟨_, rfl⟩
 have add : bK .add (i64 s.length) (pi 80) h = .ok (i64 (s.length + 80 : Nat)) h := by
  show qu (.int .i64 s.length) (.int .i64 80) h = _
  rw [rF, gW _ (by unfold cS; omega)]; rfl
 have ne : bK .ne (i64 (s.length + 80 : Nat)) (i64 (s.length + 80 : Nat)) h = .ok (.bool false) h := by
  show ig (.int .i64 _) (.int .i64 _) h = _
  rw [Dc, decide_eq_true rfl]; rfl
 have cut : fu 1 (.c (.slice i 0 (s.length + 80) (s.length + 80))) .none (.some (.c (i64 s.length))) .none .nil h = .ok (.slice i 0 s.length (s.length + 80)) h := by
  show (@Bool.rec (fun _ => RV) (.err 42) (@Bool.rec (fun _ => RV) (.err 42) (@Bool.rec (fun _ => RV) (.err 42) (.ok (.slice i (@Bool.rec (fun _ => Nat) (Nat.add 0 (Nat.mul 0 1)) 0 (Nat.beq (s.length + 80) 0)) (Nat.sub s.length 0) (Nat.sub (s.length + 80) 0)) h) (Nat.ble (s.length + 80) (s.length + 80))) (Nat.ble s.length (s.length + 80))) (Nat.ble 0 s.length)) = _
  rw [Nat.ble_eq_true_of_le (Nat.zero_le _), Nat.ble_eq_true_of_le (Nat.le_refl _), Nat.ble_eq_true_of_le (Nat.le_add_right _ _)]
  rfl
 have rb : dW h (.slice i 0 s.length (s.length + 80)) s := Ag rf
 have sm := MK (p := p) (h := h) e46 rb rx (by omega)
 rw [decide_eq_true rfl] at sm
 exact ⟨_, .step (v := .slice i 0 (s.length + 80) (s.length + 80)) (h' := h) rfl <| .step (v := i64 (s.length + 80 : Nat)) (h' := h) (fg sl) <| .step (v := x) (h' := h) rfl <| .step (v := i64 s.length) (h' := h) (dW.len rx) <| .step (v := i64 (s.length + 80 : Nat)) (h' := h) add <| .step (v := .bool false) (h' := h) ne <| .step (v := .bool false) (h' := h) rfl <|
  .on rfl <| .step (v := .slice i 0 (s.length + 80) (s.length + 80)) (h' := h) rfl <| .on rfl <| .step (v := x) (h' := h) rfl <| .on rfl <| .step (v := i64 s.length) (h' := h) (dW.len rx) <| .on rfl <| .step (v := .slice i 0 s.length (s.length + 80)) (h' := h) cut <| .on rfl <| .step (v := x) (h' := h) rfl <|
  .on rfl <| .call (v := .bool true) (h' := h) sm <| .on rfl <| .step (v := .bool false) (h' := h) rfl <| .step (v := .bool false) (h' := h) rfl <| .nil, rfl, rfl, rfl, rfl⟩
theorem Fi (e17 : ak 12 p.fs = f12) (e46 : ak 30 p.fs = f30) (rf : Ob h i 5 true .plain (bc (s ++ List.replicate 80 165))) (rx : dW h x s) (hl : s.length + 80 ≤ 1048576) : Cv p 12 [.slice i 0 (s.length + 80) (s.length + 80), x, .int .u8 (.ofNat 165)] h (.bool true) h := by
 have sl : vL (.slice i 0 (s.length + 80) (s.length + 80)) 1 (s.length + 80) i 0 := .inl ⟨_, rfl⟩
 obtain ⟨r', o1, o2, o3, o4, o5⟩ := BR (p := p) e46 rf rx hl
 obtain ⟨r2, h2, ⟨rfl, rfl⟩, k2⟩ := gU (p := p) (body := .ag k12_3 .skip) (r := T59 (.slice i 0 (s.length + 80) (s.length + 80)) (.int .u8 (.ofNat 165)) (i64 (s.length + 0 : Nat))) (h := h) 80
  (Inv := fun n r h' => r = T59 (.slice i 0 (s.length + 80) (s.length + 80)) (.int .u8 (.ofNat 165)) (i64 (s.length + n : Nat)) ∧ h' = h) (l := 0) (Re := T59 (.slice i 0 (s.length + 80) (s.length + 80)) (.int .u8 (.ofNat 165)) (i64 (s.length + 80 : Nat))) (fun n r h' hn I => by
   obtain ⟨rfl, rfl⟩ := I
   refine ⟨_, h', .aJ fun c i' K => ?_, rfl, rfl⟩
   simp only [k12_3, K3, t59_0, t59_2, t59_7]
   have X : iX 1 (.slice i 0 (s.length + 80) (s.length + 80)) (i64 (s.length + n : Nat)) h' = .ok (.ptr i (0 + (s.length + n))) h' := by
    rw [bS sl (by omega), Nat.mul_one]
   have Lv : lD (.ptr i (0 + (s.length + n))) h' = .ok (.int .u8 (.ofNat 165)) h' := aj (Ob.c0 rf) (s.length + n) (by
    rw [List.getElem?_eq_some_iff]
    refine ⟨by simp [bc]; omega, ?_⟩
    simp only [bc, List.getElem_map, List.getElem_append_right (show s.length ≤ s.length + n by omega), List.getElem_replicate]
    rfl)
   have ne : ig (.int .u8 (.ofNat 165)) (.int .u8 (.ofNat 165)) h' = .ok (.bool false) h' := rfl
   (rw [aR (fg sl), aV, bC, if_pos (by omega), cN X, aD Lv, aw ne, dP, dj (n := s.length + 80) (by omega) (by omega)]; try rfl)) (fun r h' I => by
   obtain ⟨rfl, rfl⟩ := I
   refine .aJ fun c i' K => ?_
   simp only [k12_3, K3, t59_0, t59_2, t59_7]
   (rw [aR (fg sl), aV, bC, if_neg (by omega)]; try rfl)) ⟨rfl, rfl⟩
 refine .of (r' := T37 (.bool true)) (h1 := h2) e17 (by simp) (.di (r' := T58 (.slice i 0 (s.length + 80) (s.length + 80)) x (.int .u8 (.ofNat 165))) (h' := h2) (fun c i' K => ?_) (.seq (.seq (.ops o1) (.aJ (s := .nm (T58 (.slice i 0 (s.length + 80) (s.length + 80)) x (.int .u8 (.ofNat 165))) h2) fun c i' K => ?_)) (.seq (.di (r' := T59 (.slice i 0 (s.length + 80) (s.length + 80)) (.int .u8 (.ofNat 165)) (i64 (s.length + 0 : Nat))) (h' := h2) (fun c i' K => ?_) (.br k2)) (.aJ fun c i' K => rfl)))) rfl
 ·simp only [k12_0, K3, qH, qI, qJ]
 ·simp only [k12_1, K4, o2, o3, o4, o5]; rfl
 ·simp only [k12_2, K3, t58_0, t58_1, t58_2]
  (rw [aR (dW.len rx)]; try rfl)
end
open Go.Cod
set_option maxRecDepth 20000
noncomputable section
variable {p : Pg} {h hb h0 h' h1 h2 h3 : Hp} {q i j k js : P4} {s t l : Bs} {x y v a b d e f xc xg : AV}
theorem BS (e : po) : (enc (aO e)).length ≤ 6000 := by
 have h5 : (aO e).bB.length ≤ 8 := by
  unfold aO
  simp only [List.length_map]
  exact Nat.le_trans (List.takeWhile_sublist _).length_le (by simp; omega)
 have h6 : (aO e).changes.length ≤ 9 := by
  unfold aO
  simp only [List.length_map, List.length_take]
  omega
 have h7 : (aO e).name.length ≤ 20 ∧ (aO e).text.length ≤ 700 := by
  unfold aO
  simp only [List.length_take]
  omega
 have c1 : ((aO e).bB.flatMap nM).length ≤ (aO e).bB.length * 30 := tF fun c hc => by
  unfold aO at hc
  simp only [List.mem_map] at hc
  obtain ⟨x, hx, rfl⟩ := hc
  have := jx hx
  simp only [decide_eq_true_eq] at this
  unfold nM
  simp only [List.length_append, aM, aK]
  omega
 have c2 : ((aO e).changes.flatMap nL).length ≤ (aO e).changes.length * 500 := tF fun c hc => by
  unfold aO at hc
  simp only [List.mem_map] at hc
  obtain ⟨x, _, rfl⟩ := hc
  have h1 : ((lW x).row.flatMap nK).length ≤ (lW x).row.length * 59 := tF fun v hv => by
   unfold lW at hv
   simp only [List.mem_map] at hv
   obtain ⟨y, _, rfl⟩ := hv
   unfold nK qZ
   simp only [List.length_append, aM, aK, List.length_take]
   omega
  have h2 : (lW x).row.length ≤ 7 := by unfold lW; simp; omega
  have h3 : (lW x).table.length ≤ 20 := by unfold lW; simp; omega
  unfold nL
  simp only [List.length_append, aM, bL]
  omega
 unfold enc
 simp only [List.length_append, aM, aK, bL]
 omega
structure Qq (p : Pg) : Prop where
 l : JX p
 w : Sc p
 i : Kc p
 e5 : ak 3 p.fs = f3
 e15 : ak 8 p.fs = f8
 e17 : ak 12 p.fs = f12
 e46 : ak 30 p.fs = f30
theorem Qr (T : JX p) {ss ys : List nX} {i : Nat} {v : AV} (w : Lb h h h' v 30 12 eu ys) (r : dc h x ss) (hi : i < ss.length) (hi2 : i < 20) (hy : ys.length ≤ 1000) (hr : ∀ c, c ∈ ss[i].entry.changes → c.row.length ≤ 1048576) :
  ∃ v' h2, Rn p (.ag DC (.ag DB .skip)) (T51 a x b d v (i64 i)) h' (.nm (T51 a x b d v' (i64 (i + 1 : Nat))) h2) ∧ Lb h h h2 v' 30 12 eu (if fM (bm ss[i]) = true then ys ++ [bm ss[i]] else ys) := by
 obtain ⟨q', o', sl, g⟩ := cT.sl r
 obtain ⟨l, l1, l2, l3⟩ := g i hi
 obtain ⟨x', y', h1, hr', c1, c2, c3, c4, c5, c6, c7, c8⟩ := vX (p := p) T.k w.wf w.old l3 hr
 have bl : (bm ss[i]).entry.bB.length < 9223372036854775807 ∧ (bm ss[i]).entry.changes.length < 9223372036854775807 := by
  unfold bm aO
  simp only [List.length_map, List.length_take]
  have := (List.takeWhile_sublist (fun c : Bs × Int => decide (c.1.length ≤ 20)) (l := ss[i].entry.bB.take 8)).length_le
  rw [List.length_take] at this
  omega
 obtain ⟨h2, q1, q2, q3⟩ := JW (p := p) T.e5 T.b.s.tt.e10 c3 (aQ.up c7 c5) (aZ.up c8 c5) bl.1 bl.2
 have M0 := bD (m := 12) (l2.old w.old) l1
 have s4 : ∀ v' hh, ∀ cc i' (K : A2 → Hp → RS), DB cc i' K (T51 a x b d v' (i64 i)) hh = .nm (T51 a x b d v' (i64 (i + 1 : Nat))) hh := fun v' hh cc i' K => by
  simp only [DB, K6, zA, zB, zC, zD, zE, tu]
  (rw [dj (n := 20) hi2 (by omega)]; try rfl)
 have O12 := c2.trans q2
 have w2 := Lb.up w O12 q3
 cases hR : fM (bm ss[i]) with
 | false =>
  rw [hR] at q1
  refine ⟨v, h2, .to (r' := T51 a x b d v (i64 i)) (h' := h2) ((c1.and q1).mono fun n g K => ?_) (.aJ (s4 v h2)), by simpa using w2⟩
  obtain ⟨g1, g2⟩ := g
  simp only [DC, K6, zA, zB, zC, zD, zE, tu]
  (rw [cN (bS sl hi), fk M0, aF g1, aF g2, dP]; try rfl)
 | true =>
  rw [hR] at q1
  obtain ⟨x2, y2, h3, hr2, d1, d2, d3, d4, d5, d6, d7, d8⟩ := vX (p := p) T.k w2.wf w2.old l3 hr
  generalize hs : bm ss[i] = st at *
  obtain ⟨m, h4, u1, u2, u3, u4, u5, u6⟩ := fm (el := 30) (es := 12) (n := 1) (z := [i0,i0,i0,i0,iS,i0,i0,i0,iS,iS,.ai,.ai]) (ps := [.mk 0 12 (.c (.agg (eZ x2 y2 st)))]) (l := eZ x2 y2 st) d3 rfl rfl (by simp [eZ, cE])
  have Or4 : Old hr2 h4 := d5.trans u4
  obtain ⟨v', h5, z1, z2, z3⟩ := w2.app (a := st) (l := eZ x2 y2 st) eu.mono (by omega) (d2.trans u4) u5 (by simp [eZ, cE]) (fun hz H1 H2 => by
   have O : Old hr2 hz := fun t ht => by
    rcases d6 t ht with gg | gg
    ·rw [H1 t gg, d4 t gg]
    ·rw [H2 t gg, Or4 t ht]
   exact ⟨x2, y2, rfl, aQ.up d7 O, aZ.up d8 O⟩) (by omega)
  have M2 := bD (m := 12) (l2.old w2.old) l1
  have V : df 30 12 v (.slice m 0 1 1) h4 = .ok v' h5 := by
   rw [dB (m := 1) (q := m) (o := 0) (l := eZ x2 y2 st) (.inl ⟨_, rfl⟩) (by omega) (fun _ => Ob.c0 u3) (by simp [eZ, cE]) (by omega)]
   exact z1
  refine ⟨v', h5, .to (r' := T51 a x b d v' (i64 i)) (h' := h5) ((c1.and (q1.and d1)).mono fun n g K => ?_) (.aJ (s4 v' h5)), by simpa using z2⟩
  obtain ⟨g1, g2, g3⟩ := g
  simp only [DC, K6, zA, zB, zC, zD, zE, tu]
  (rw [cN (bS sl hi), fk M0, aF g1, aF g2, ew, cN (bS sl hi), fk M2, aF g3, aw u1, aw V]; try rfl)
theorem Sh (T : JX p) (W : Wf h) {ss : List nX} (r : dc h x ss) (hr : ∀ s, s ∈ ss → ∀ c, c ∈ s.entry.changes → c.row.length ≤ 1048576) :
  ∃ v h', Rn p (.loop (.ag DD (.ag DC (.ag DB .skip)))) (T51 a x b d .ai i0) h (.ex 0 (T52 a b d v) h') ∧ Lb h h h' v 30 12 eu (((ss.take 20).map bm).filter fM) := by
 obtain ⟨st, ⟨v, h', rfl, w⟩, k⟩ := eo (p := p) (body := .ag DD (.ag DC (.ag DB .skip))) (min ss.length 20) (Inv := fun i r h' => ∃ v, r = T51 a x b d v (i64 i) ∧ Lb h h h' v 30 12 eu (((ss.take i).map bm).filter fM))
  (S := fun st => ∃ v h', st = .ex 0 (T52 a b d v) h' ∧ Lb h h h' v 30 12 eu (((ss.take 20).map bm).filter fM)) (fun i r' h' hi I => by
   obtain ⟨v, rfl, w⟩ := I
   have hi1 : i < ss.length := by omega
   have t2 : ∀ c i' (K : A2 → Hp → RS), DD c i' K (T51 a x b d v (i64 i)) h' = K (T51 a x b d v (i64 i)) h' := fun c i' K => by
    simp only [DD, K6, zA, zB, zC, zD, zE, tu]
    have lt : ∀ K : AV → Hp → RS, Seat.Y (i64 i) (pi 20) h' K = K (.bool true) h' := fun K => by
     show Seat.Y (i64 i) (i64 20) h' K = _
     rw [aV, decide_eq_true (by omega)]
    (rewrite [aR (cT.len (dc.up r w.old))]; (try dsimp only); rewrite [aV]; (try dsimp only); rewrite [decide_eq_true (show (i : Int) < (ss.length : Int) by omega)]; (try dsimp only); rewrite [zH]; (try dsimp only); rewrite [zH]; (try dsimp only); rewrite [lt]; (try dsimp only); rewrite [pV]; (try dsimp only); rewrite [bR]; (try dsimp only); rewrite [ew]; (try dsimp only); try rfl)
   obtain ⟨v', h2, k, w'⟩ := Qr (p := p) (a := a) (b := b) (d := d) T w r hi1 (by omega) (by
    have := List.length_filter_le fM ((ss.take i).map bm)
    rw [List.length_map, List.length_take] at this
    omega) (hr _ (by simp))
   refine .inl ⟨_, h2, .di t2 k, v', rfl, ?_⟩
   rw [List.take_succ_eq_append_getElem hi1, List.map_append, List.filter_append]
   cases hR : fM (bm ss[i]) with
   | true =>
    rw [hR, if_pos rfl] at w'
    simpa [hR] using w'
   | false =>
    rw [hR, if_neg (by simp)] at w'
    simpa [hR] using w') (fun r' h' I => by
   obtain ⟨v, rfl, w⟩ := I
   refine ⟨_, ⟨v, h', rfl, ?_⟩, .cW (.aJ fun c i' K => ?_)⟩
   ·have : ss.take (min ss.length 20) = ss.take 20 := by
     by_cases g : ss.length ≤ 20
     ·rw [Nat.min_eq_left g, List.take_length, List.take_of_length_le g]
     ·rw [Nat.min_eq_right (by omega)]
    rw [this] at w
    exact w
   ·simp only [DD, K6, zA, zB, zC, zD, zE, tu]
    by_cases g : ss.length ≤ 20
    ·(rw [aR (cT.len (dc.up r w.old)), aV, decide_eq_false (show ¬ ((min ss.length 20 : Nat) : Int) < (ss.length : Int) by omega), vN, vN, tz, bR, dP]; try rfl)
    ·have lt : ∀ K : AV → Hp → RS, Seat.Y (i64 (min ss.length 20 : Nat)) (pi 20) h' K = K (.bool false) h' := fun K => by
      show Seat.Y (i64 (min ss.length 20 : Nat)) (i64 20) h' K = _
      rw [aV, decide_eq_false (by omega)]
     (rewrite [aR (cT.len (dc.up r w.old))]; (try dsimp only); rewrite [aV]; (try dsimp only); rewrite [decide_eq_true (show ((min ss.length 20 : Nat) : Int) < (ss.length : Int) by omega)]; (try dsimp only); rewrite [zH]; (try dsimp only); rewrite [zH]; (try dsimp only); rewrite [lt]; (try dsimp only); rewrite [pV]; (try dsimp only); rewrite [bR]; (try dsimp only); rewrite [dP]; (try dsimp only); try rfl)) (min ss.length 20) 0 (T51 a x b d .ai i0) h (by omega) ⟨.ai, rfl, by simpa using Lb.nil W (.refl h) (.inl rfl)⟩
 exact ⟨v, h', k, w⟩
theorem ML (w : Bb h0 h x s) {m : Nat} (hm : m < s.length) (z : UInt8) : ∃ a u h', iX 1 x (i64 m) h = .ok a h ∧ lD a h = .ok (.int .u8 (s[m].toNat : Int)) h ∧ rK (.int .u8 (s[m].toNat : Int)) (.int .u8 (z.toNat : Int)) h = .ok u h ∧ sT a u h = .ok .undef h' ∧ ∃ s', s'.length = s.length ∧ Bb h0 h' x s' := by
 obtain ⟨a, b1, b2⟩ := w.rd.at hm
 have hz := z.toNat_lt
 have hs := s[m].toNat_lt
 have hx : Nat.xor s[m].toNat z.toNat < 256 := Nat.xor_lt_two_pow (n := 8) hs hz
 have xo : rK (.int .u8 (s[m].toNat : Int)) (.int .u8 (z.toNat : Int)) h = .ok (.int .u8 ((UInt8.ofNat (Nat.xor s[m].toNat z.toNat)).toNat : Int)) h := by
  show RV.ok (.int .u8 (.ofNat (Nat.xor (s[m].toNat % 256) (z.toNat % 256) % 256))) h = _
  rw [Nat.mod_eq_of_lt hs, Nat.mod_eq_of_lt hz]
  have (n : Nat) : (UInt8.ofNat n).toNat = n % 256 := by simp
  rw [this]; rfl
 rcases w.own with ⟨e, _⟩ | ⟨k', n, rfl, e2, e3, e4⟩
 ·have h0 : s.length = 0 := by rw [← bw, e]; rfl
  omega
 ·have ea : a = .ptr k' m := by
   have X := bS (h := h) (x := .ft k' 0 n 1) (es := 1) (n := n) (q := k') (o := 0) (.inr (.inl rfl)) (i := m) (by rw [bw] at e2; omega)
   rw [b1] at X
   have := (RV.ok.inj X).1
   rw [this, Nat.mul_one, Nat.zero_add]
  subst ea
  obtain ⟨h', g1, g2, g3, g4⟩ := cP (k := m) (v := .int .u8 ((UInt8.ofNat (Nat.xor s[m].toNat z.toNat)).toNat : Int)) e3 (by rw [bw]; exact hm) rfl
  have g2 : Ob h' k' 5 false .plain (bc (s.set m (UInt8.ofNat (Nat.xor s[m].toNat z.toNat)))) := by
   have : bc (s.set m (UInt8.ofNat (Nat.xor s[m].toNat z.toNat))) = (bc s).set m (.int .u8 ((UInt8.ofNat (Nat.xor s[m].toNat z.toNat)).toNat : Int)) := by
    unfold bc
    rw [List.map_set]
   rw [this]; exact g2
  exact ⟨_, _, h', b1, b2, xo, g1, s.set m (UInt8.ofNat (Nat.xor s[m].toNat z.toNat)), by simp, Fr.old (fun j hj _ => g3 j hj) w.old e4, dt w.wf e3 g3 g4, .inr ⟨k', n, rfl, by rw [bw, List.length_set, ← bw]; exact e2, g2, e4⟩⟩
def SC (h : Hp) (x : AV) (s : Bs) : Prop := dW h x s ∧ (x = .ai ∨ ∃ q o cap, x = .slice q o s.length cap ∧ s.length ≤ cap)
theorem MM (r : SC h x s) (hl : 1000 < s.length) : ∃ v, fu 1 (.c x) .none (.some (.c (pi 1000))) .none .nil h = .ok v h ∧ dW h v (s.take 1000) := by
 obtain ⟨⟨q, o, n, g1, g2, g3⟩, hx⟩ := r
 rcases hx with rfl | ⟨q', o', cap, rfl, hc⟩
 ·rcases g1 with ⟨_, g⟩ | g | ⟨_, g⟩
  ·cases g
  ·cases g
  ·omega
 ·rcases g1 with ⟨_, g⟩ | g | ⟨g, _⟩
  ·cases g
   have c := g3 (by omega)
   refine ⟨.slice q o 1000 cap, ?_, q, o, 1000, .inl ⟨cap, rfl⟩, by simp; omega, fun _ => ?_⟩
   ·show (@Bool.rec (fun _ => RV) (.err 42) (@Bool.rec (fun _ => RV) (.err 42) (@Bool.rec (fun _ => RV) (.err 42) (.ok (.slice q (@Bool.rec (fun _ => Nat) (Nat.add o (Nat.mul 0 1)) o (Nat.beq cap 0)) (Nat.sub 1000 0) (Nat.sub cap 0)) h) (Nat.ble cap cap)) (Nat.ble 1000 cap)) (Nat.ble 0 1000)) = _
    rw [Nat.ble_eq_true_of_le (Nat.le_refl _), Nat.ble_eq_true_of_le (show 1000 ≤ cap by omega)]
    have : Nat.beq cap 0 = false := by cases cap with | zero => omega | succ _ => rfl
    rw [this]
    rfl
   ·have := c.sub 0 (bc (s.take 1000)) (by rw [bw, bw]; simp; omega) (fun i hi => by simp [bc])
    simpa using this
  ·cases g
  ·cases g
theorem Qs (T : Qq p) {A : List nX} {i : P4} {hh h2 h3 h4 : Hp} {n : Nat} {s : Bs} {vf va : AV} (hs : s.length = n) (rf : Ob h4 i 5 true .plain (bc (s ++ List.replicate 80 165))) (rx0 : Am.len x h = .ok (i64 n) h) (rx : dW h4 x s) (hl : n + 80 ≤ 1048576) (c12 : Cv p 10 [.slice i 0 n (n + 80)] h vf h2) (c16 : Cv p 11 [x] h2 va h3) (c14 : Cv p 9 [vf, va] h3 (.bool true) h4) :
  ∃ r', Os p (opsL (fst (bh (bh (bh (bh x3)))))) (T54 x (.slice i 0 (n + 80) (n + 80))) h (.nm r' h4) ∧ y8 r' = .bool true := by
 subst hs
 have cut : fu 1 (.c (.slice i 0 (s.length + 80) (s.length + 80))) .none (.some (.c (i64 s.length))) .none .nil h = .ok (.slice i 0 s.length (s.length + 80)) h := by
  show (@Bool.rec (fun _ => RV) (.err 42) (@Bool.rec (fun _ => RV) (.err 42) (@Bool.rec (fun _ => RV) (.err 42) (.ok (.slice i (@Bool.rec (fun _ => Nat) (Nat.add 0 (Nat.mul 0 1)) 0 (Nat.beq (s.length + 80) 0)) (Nat.sub s.length 0) (Nat.sub (s.length + 80) 0)) h) (Nat.ble (s.length + 80) (s.length + 80))) (Nat.ble s.length (s.length + 80))) (Nat.ble 0 s.length)) = _
  rw [Nat.ble_eq_true_of_le (Nat.zero_le _), Nat.ble_eq_true_of_le (Nat.le_refl _), Nat.ble_eq_true_of_le (Nat.le_add_right _ _)]
  rfl
 have c17 := Fi (p := p) T.e17 T.e46 rf rx hl
 exact ⟨_, .step (v := .slice i 0 (s.length + 80) (s.length + 80)) (h' := h) rfl <| .step (v := x) (h' := h) rfl <| .step (v := i64 s.length) (h' := h) rx0 <| .step (v := .slice i 0 s.length (s.length + 80)) (h' := h) cut <| .call (v := vf) (h' := h2) c12 <| .step (v := x) (h' := h2) rfl <| .call (v := va) (h' := h3) c16 <| .call (v := .bool true) (h' := h4) c14 <|
  .step (v := .bool true) (h' := h4) rfl <| .on rfl <| .step (v := .slice i 0 (s.length + 80) (s.length + 80)) (h' := h4) rfl <| .on rfl <| .step (v := x) (h' := h4) rfl <| .on rfl <| .call (v := .bool true) (h' := h4) c17 <| .step (v := .bool true) (h' := h4) rfl <| .step (v := .bool true) (h' := h4) rfl <|
  .on rfl <| .call (v := .bool true) (h' := h4) (T.l.e7 h4) <| .step (v := .bool true) (h' := h4) rfl <| .step (v := .bool true) (h' := h4) rfl <| .nil, rfl⟩
theorem MN (T : Qq p) (W : Wf h) {ss : List nX} {B : Nat} {u : Bs} (ru : SC h y u) (r : dc h x ss) (bd : ∀ s, s ∈ ss → Mb B s) (hB : B ≤ 1048576) (hu : u.length ≤ B) (at' : Int) (ha : cS at') (z : UInt8) : ∃ h', Cv p 3 [y, x, i64 at', .int .u8 (z.toNat : Int)] h (.bool true) h' := by
 obtain ⟨v, h1, k1, w1⟩ := Sh (p := p) (a := y) (b := i64 at') (d := .int .u8 (z.toNat : Int)) T.l W r fun s hs c hc => by
  obtain ⟨_, _, _, _, _, _, _, _, _, _, _, _, _, b9⟩ := bd s hs
  have := (b9 c hc).2.1
  omega
 obtain ⟨hr, p1, p2, p3, p4⟩ := Lb.rd w1 eu.mono (by omega)
 have R : dc h1 v (((ss.take 20).map bm).filter fM) := dc.up p4 p2
 generalize hS : ((ss.take 20).map bm).filter fM = S at *
 have hSb : ∀ s, s ∈ S → Mb B s ∧ (enc s.entry).length ≤ 6000 ∧ zJ s = true := fun s hs => by
  rw [← hS, List.mem_filter] at hs
  obtain ⟨hs, hR⟩ := hs
  obtain ⟨s0, h0, rfl⟩ := List.mem_map.1 hs
  exact ⟨Fc (bd s0 (List.mem_of_mem_take h0)), BS _, by rw [Bx]; exact hR⟩
 have hSl : S.length ≤ 20 := by
  rw [← hS]
  have := List.length_filter_le fM ((ss.take 20).map bm)
  simp at this ⊢
  omega
 have tot : (S.flatMap qa).length ≤ 20 * 6400 := by
  have := tF (f := qa) (k := 6400) (l := S) fun s hs => by
   obtain ⟨_, a2, a3⟩ := hSb s hs
   unfold zJ at a3
   simp only [Bool.and_eq_true, decide_eq_true_eq] at a3
   rw [qL]
   have := a3.2.1.2
   omega
  have h2 : S.length * 6400 ≤ 20 * 6400 := Nat.mul_le_mul_right _ hSl
  omega
 obtain ⟨vx, h2, c11, w2⟩ := JD (p := p) T.l.b w1.wf R (fun s hs => (hSb s hs).1) (B := B) (by omega) (by omega) (fun s hs => by
   have := (hSb s hs).2.2
   unfold zJ at this
   simp only [Bool.and_eq_true] at this
   exact this.2.2) (fun s hs => by have := (hSb s hs).2.1; omega) (by omega)
 generalize hX : S.flatMap qa = X at *
 have s0 : ∀ cc i' (K : A2 → Hp → RS), k3_0 cc i' K (bE [y, x, i64 at', .int .u8 (z.toNat : Int)] 0 .nil) h = K (T50 y x (i64 at') (.int .u8 (z.toNat : Int)) .ai) h := fun cc i' K => rfl
 have s1 : ∀ cc i' (K : A2 → Hp → RS), k3_1 cc i' K (T50 y x (i64 at') (.int .u8 (z.toNat : Int)) .ai) h = K (T51 y x (i64 at') (.int .u8 (z.toNat : Int)) .ai i0) h := fun cc i' K => by simp only [k3_1, K5, t50_0, t50_1, t50_2, t50_3, t50_9]
 -- a byte is turned
 have turn : ∃ s' h3, (Ev fun m => ∀ K : A2 → Hp → RS, k3_5 (aB p (exec p m)) (aH p (exec p m)) K (T52 y (i64 at') (.int .u8 (z.toNat : Int)) v) h1 = K (T53 y vx) h3) ∧ s'.length = X.length ∧ Bb h1 h3 vx s' := by
  have gt : cB (i64 X.length) i0 h2 = .ok (.bool (decide (0 < X.length))) h2 := by
   show cB (i64 X.length) (i64 0) h2 = _
   rw [Jn]
   congr 2
   rw [decide_eq_decide]; omega
  by_cases hl : 0 < X.length
  ·obtain ⟨m, hm, c13⟩ := EW (p := p) (h := h2) T.w.e13 at' ha (X.length - 1) (by omega)
   obtain ⟨aa, uu, h3, t1, t2, t3, t4, s', t5, t6⟩ := ML w2 (m := m) (by omega) z
   refine ⟨s', h3, (c11.and c13).mono fun n g K => ?_, t5, t6⟩
   obtain ⟨g1, g2⟩ := g
   simp only [k3_5, K4, t52_0, t52_2, t52_3, t52_9]
   have dz : ∀ K : AV → Hp → RS, Seat.Z (i64 X.length) i1 h2 K = K (i64 (X.length - 1 : Nat)) h2 := fun K => by
    obtain ⟨n, hn⟩ : ∃ n, X.length = n + 1 := ⟨X.length - 1, by omega⟩
    rw [hn, tP (by omega), Nat.add_sub_cancel]
   rw [decide_eq_true hl] at gt
   (rw [aF g1, aR (dW.len w2.rd), aw gt, ew, aR (dW.len w2.rd), dz, aF g2, cN t1, aD t2, aw t3, cN t1, cJ t4]; try rfl)
  ·refine ⟨X, h2, c11.mono fun n g K => ?_, rfl, w2⟩
   simp only [k3_5, K4, t52_0, t52_2, t52_3, t52_9]
   rw [decide_eq_false hl] at gt
   (rw [aF g, aR (dW.len w2.rd), aw gt, dP]; try rfl)
 obtain ⟨s', h3, k5, e5, w3⟩ := turn
 -- the bytes that came, behind
 have O13 : Old h h3 := w1.old.trans w3.old
 have more : ∃ t v' h4 i h5, (Ev fun m => ∀ K : A2 → Hp → RS, k3_6 (aB p (exec p m)) (aH p (exec p m)) K (T53 y vx) h3 = K (T54 v' (.slice i 0 ((s' ++ t).length + 80) ((s' ++ t).length + 80))) h5) ∧ t.length ≤ 1000 ∧ Bb h1 h4 v' (s' ++ t) ∧ Ob h5 i 5 true .plain (bc ((s' ++ t) ++ List.replicate 80 165)) ∧ Old h4 h5 ∧ Wf h5 := by
  have ru3 : SC h3 y u := ⟨ru.1.up O13, ru.2⟩
  have gt : cB (i64 u.length) (pi 1000) h3 = .ok (.bool (decide (1000 < u.length))) h3 := by
   show cB (i64 u.length) (i64 1000) h3 = _
   rw [Jn]
   congr 2
   rw [decide_eq_decide]; omega
  have app : ∀ (yy : AV) (t : Bs), dW h3 yy t → t.length ≤ 1000 → ∃ v' h4, df 5 1 vx yy h3 = .ok v' h4 ∧ Bb h1 h4 v' (s' ++ t) := fun yy t rt ht => by
   obtain ⟨q, o, n, g1, g2, g3⟩ := rt
   obtain ⟨v', h4, z1, z2⟩ := w3.app t g2 (by omega)
   exact ⟨v', h4, by rw [dB g1 (by omega) g3 (by rw [bw]; omega) (by omega)]; exact z1, z2⟩
  by_cases hl : 1000 < u.length
  ·obtain ⟨vc, c1, c2⟩ := MM ru3 hl
   obtain ⟨v', h4, z1, z2⟩ := app vc (u.take 1000) c2 (by simp; omega)
   obtain ⟨i, h5, r1, r2, r3, r4⟩ := Af (p := p) T.e15 z2.wf z2.rd (by simp; omega)
   refine ⟨u.take 1000, v', h4, i, h5, r1.mono fun n g K => ?_, by simp; omega, z2, r2, r3, r4⟩
   simp only [k3_6, K2, t53_0, t53_11]
   rw [decide_eq_true hl] at gt
   (rw [aR (dW.len ru3.1), aw gt, ew, aw c1, aw z1, aF g]; try rfl)
  ·obtain ⟨v', h4, z1, z2⟩ := app y u ru3.1 (by omega)
   obtain ⟨i, h5, r1, r2, r3, r4⟩ := Af (p := p) T.e15 z2.wf z2.rd (by simp; omega)
   refine ⟨u, v', h4, i, h5, r1.mono fun n g K => ?_, by omega, z2, r2, r3, r4⟩
   simp only [k3_6, K2, t53_0, t53_11]
   rw [decide_eq_false hl] at gt
   (rw [aR (dW.len ru3.1), aw gt, dP, aw z1, aF g]; try rfl)
 obtain ⟨t, v', h4, i, h5, k6, ht, w4, rf, O45, W5⟩ := more
 generalize hZ : s' ++ t = Z at *
 have hZl : Z.length ≤ 129000 := by rw [← hZ, List.length_append]; omega
 have rx5 := w4.rd.up O45
 have rfull : dW h5 (.slice i 0 Z.length (Z.length + 80)) Z := Ag rf
 obtain ⟨vf, h6, c12, O56, W6, S6⟩ := MC (p := p) T.w.s3 W5 rfull (by omega)
 have own6 : dh h6 v' 5 1 (bc Z) fun _ => True := dh.mono ((w4.own.old fun j _ hj => O45 j hj).old fun j _ hj => O56 j hj) fun _ _ => True.intro
 obtain ⟨va, h7, c16, O67, W7, S7⟩ := Fh (p := p) T.i W6 own6 (by omega)
 have RF := dc.up (uc S6) O67
 have RA := uc S7
 have TG : ∀ s, s ∈ (items (Z.length + 1) 2048 Z).map sq → xF 65535 s.entry := fun s hs => by
  obtain ⟨L, e1, _, e3⟩ := S6
  obtain ⟨st, hst, rfl⟩ := List.mem_map.1 hs
  obtain ⟨n, hn, rfl⟩ := List.mem_iff_getElem.1 hst
  exact (e3 n (by omega) hn).2.2
 have hil : ((items (Z.length + 1) 2048 Z).map sq).length < 9223372036854775807 := by
  rw [List.length_map]
  have := qb (Z.length + 1) 2048 Z
  omega
 obtain ⟨h8, ⟨O78, W8⟩, c14⟩ := JR (p := p) T.w.c T.w.e40 T.w.e14 W7 RF RA hil (B := 65535) TG (by omega)
 rw [decide_eq_true rfl] at c14
 obtain ⟨r', o1, o2⟩ := Qs (p := p) T (A := []) (hh := h) (n := Z.length) (s := Z) rfl (((rf.old O56).old O67).old O78) (dW.len rx5) (((rx5.up O56).up O67).up O78) (by omega) c12 c16 c14
 exact ⟨h8, .of (r' := r') (h1 := h8) T.e5 (by simp) (.di s0 (.seq (.di s1 (.br k1)) (.to k5 (.to k6 (.seq (.ops o1) .ret))))) (by
  show RV.ok (y8 r') h8 = _
  rw [o2])⟩
end
open Go.Cod
noncomputable section
def Tf : AF := .uo (.fn Dy) x13 [.t .h0 .h0]
def Oe : F1 := match Ol with
 | .nil => .nil
 | .mk a0 a1 a2 a3 a4 a5 a6 a7 a8 a9 b0 b1 b2 _ b4 b5 => .mk a0 a1 a2 a3 a4 a5 a6 a7 a8 a9 b0 b1 b2 Tf b4 b5
def Kd : F2 := match FF with
 | .nil => .nil
 | .mk _ a1 a2 a3 a4 a5 a6 a7 a8 a9 b0 b1 b2 b3 b4 b5 => .mk Oe a1 a2 a3 a4 a5 a6 a7 a8 a9 b0 b1 b2 b3 b4 b5
def Qt : Pg := match pg with
 | .mk fs ms => .mk (match fs with
  | .nil => .nil
  | .mk _ a1 a2 a3 a4 a5 a6 a7 a8 a9 b0 b1 b2 b3 b4 b5 => .mk Kd a1 a2 a3 a4 a5 a6 a7 a8 a9 b0 b1 b2 b3 b4 b5) ms
theorem MO : JX Qt where
 b := { s := { t := ⟨rfl, rfl, rfl, rfl, rfl, rfl, rfl, rfl⟩, tt := ⟨rfl, rfl, rfl, rfl, rfl⟩, e14 := rfl, e17 := rfl, e29 := rfl }, r := ⟨rfl, rfl, rfl, rfl⟩, e8 := rfl }
 k := ⟨rfl, rfl, rfl, rfl⟩
 e5 := rfl
 e7 := fun h => .uo (k := .fn Dy) (body := x13) (res := [.t .h0 .h0]) rfl rfl
theorem Si : JF Qt where
 d := ⟨rfl, rfl, rfl, rfl, rfl, rfl, rfl, rfl, rfl, rfl, rfl⟩
 w := MO.b.s.t
 t := MO.b.s.tt
 e30 := rfl
 e45 := rfl
 e72 := rfl
 e74 := rfl
theorem Tg : Sc Qt where
 l := MO
 s3 := ⟨⟨Si, rfl, rfl⟩, rfl, rfl⟩
 c := ⟨rfl, rfl, rfl, rfl⟩
 e13 := rfl
 e14 := rfl
 e40 := rfl
theorem Th : Qq Qt where
 l := MO
 w := Tg
 i := ⟨⟨rfl, rfl, rfl, rfl, rfl, rfl, rfl, rfl⟩, Si, rfl, rfl⟩
 e5 := rfl
 e15 := rfl
 e17 := rfl
 e46 := rfl
end
open Go.Cod
noncomputable section
theorem Qu (n : Nat) (w : World) : Wf (Al n w) := ⟨w.heap.size, rfl, fun m hm => by
 rw [pd]
 unfold Fj
 rw [Array.getElem?_eq_none hm]⟩
def ji : List TypeId := [23, 30, 28, 25, 42, 26, 46, 44, 48, 3, 2, 9, 4, 22, 5]
variable {P : Program} {H : Type} {enc : TypeId × Value → H} {w : World} {sp : Nat → Bool} {held : Bool} {bk : DataW H → Nat} {bkA : List (DataW H) → Nat} {h : Hp}
structure Ask (P : Program) (names : List String) : Prop where
 e : Env P ⟨7, [], none⟩ names Qt
 t : fp P 3 2 9 4 48 44 46 26 42 25 28 30 23
 k : uf P ji = true
 s : fo P 22 = some (5, 1)
 u : P.underlying 5 = some (.int .u8)
def Kept (w : World) (e : Ending) (w' : World) : Prop := e = .returned (.bool true) ∧ w.heap.size ≤ w'.heap.size ∧ (∀ b, b < w.heap.size → w'.heap[b]? = w.heap[b]?) ∧ w'.os = w.os ∧ w'.output = w.output
theorem xw {names : List String} (A : Ask P names) (hsp : ∀ b, sp b = true) {v : Value} {t : TypeId} {d : DataW H} {ps : List MemPlace} (hv : v.cells.toList = [v]) (ht : t ∈ ji) (r : DataW.Trod enc P w 0 sp held t v d ps) : ∃ n, qc P (Al 7 w) n t [kT w v] d := by
 obtain ⟨n, r⟩ := r
 obtain ⟨r, _, _⟩ := reads (g := 7) A.k hsp n t v.cells.toList (d, ps) ht r
 rw [hv] at r
 exact ⟨n, r⟩
theorem Ti {names : List String} (A : Ask P names) (K : lq bk bkA) {n : Nat} {a : AV} {d : DataW H} (r : qc P h n 23 [a] d) (hB : bk d ≤ 1048576) : ∃ xs, dc h a xs ∧ ∀ s, s ∈ xs → Mb 1048576 s := by
 obtain ⟨x, xs, e, rs, _, bd⟩ := Mc A.t K (qc.add n 8 23 [a] d r) hB
 have e : a = x := by simpa using e
 subst e
 exact ⟨xs, rs, bd⟩
theorem Sj {k : IntKind} {t : TypeId} {n : Nat} {a : AV} {d : DataW H} (hu : P.underlying t = some (.int k)) (r : qc P h n t [a] d) : ∃ z, a = .int k z ∧ (Lit.int k z).wf = true := by
 obtain ⟨z, e, _, wf⟩ := fO.int hu (qc.succ n t [a] d r)
 have e : a = .int k z := by simpa using e
 exact ⟨z, e, wf⟩
theorem Tj {names : List String} (A : Ask P names) (K : lq bk bkA) {n : Nat} {a : AV} {d : DataW H} (r : qc P h n 22 [a] d) (hB : bk d ≤ 1048576) : ∃ u, SC h a u ∧ u.length ≤ 1048576 := by
 have r2 : fO P h (qc P h (n + 1)) 22 [a] d := qc.add n 2 22 [a] d r
 obtain ⟨x, u, e, rl, hl, _⟩ := fO.slice K (f := fun l (b : UInt8) => l = [AV.int .u8 (b.toNat : Int)]) (Q := fun _ => True) (B := 1048576) A.s r2 hB fun l d r _ => by
  obtain ⟨z, rfl, _, wf⟩ := fO.int A.u r
  simp only [Lit.wf, Bool.and_eq_true, decide_eq_true_eq] at wf
  have h1 : (0 : Int) ≤ z := wf.1
  have h2 : z ≤ 255 := wf.2
  refine ⟨UInt8.ofNat z.toNat, ?_, trivial⟩
  have (n : Nat) : (UInt8.ofNat n).toNat = n % 256 := by simp
  rw [this, show ((z.toNat % 256 : Nat) : Int) = z by omega]
 have e : a = x := by simpa using e
 subst e
 have form : a = .ai ∨ ∃ p k cap, a = .slice p 0 k cap ∧ k ≤ cap := by
  obtain ⟨e', hs⟩ : ∃ e', P.underlying 22 = some (.slice e') := by
   have := A.s
   unfold fo at this
   split at this
   ·exact ⟨_, by assumption⟩
   ·cases this
  unfold fO at r2
  rw [hs] at r2
  rcases r2 with ⟨e, _⟩ | ⟨p, cap, el, rest, ls, e, hc, _⟩
  ·exact .inl (by simpa using e)
  ·exact .inr ⟨p, _, cap, by simpa using e, hc⟩
 obtain ⟨q, o, sl, g⟩ := cT.sl rl
 refine ⟨u, ⟨⟨q, o, u.length, sl, rfl, fun hne => ?_⟩, ?_⟩, hl⟩
 ·obtain ⟨l0, l1, ⟨el, n, ex, fl, c, c1, c2, c3⟩, rfl⟩ := g 0 (by omega)
  have all : ∀ k (hk : k < u.length), o + k + 1 ≤ n ∧ eP (o + k) c = .int .u8 (u[k].toNat : Int) := fun k hk => by
   obtain ⟨l, l1, ⟨el', n', ex', fl', c', d1, d2, d3⟩, rfl⟩ := g k hk
   rw [c1] at d1
   obtain ⟨_, rfl, _, _, rfl⟩ := Obj.cells.inj d1
   have := d3 0 (by simp)
   simp only [List.length_singleton, Nat.mul_one, Nat.add_zero, List.getElem_cons_zero] at this d2
   exact ⟨d2, this⟩
  refine ⟨el, n, ex, fl, c, c1, ?_, fun k hk => ?_⟩
  ·rw [bw]
   have := (all (u.length - 1) (by omega)).1
   omega
  ·rw [(all k (by rwa [bw] at hk)).2]
   simp [bc]
 ·rcases form with rfl | ⟨p, k, cap, rfl, hc⟩
  ·exact .inl rfl
  ·rcases sl with ⟨cap', e⟩ | e | ⟨e, _⟩
   ·cases e
    exact .inr ⟨_, _, _, rfl, hc⟩
   ·cases e
   ·cases e
theorem JH {names : List String} (A : Ask P names) (K : lq bk bkA) (hs : 7 ≤ w.heap.size) (hsp : ∀ b, sp b = true) {v v1 v2 v3 : Value} {d d1 d2 d3 : DataW H} {ps ps1 ps2 ps3 : List MemPlace} (hv : v.cells.toList = [v]) (hv1 : v1.cells.toList = [v1]) (hv2 : v2.cells.toList = [v2]) (hv3 : v3.cells.toList = [v3])
  (ht : DataW.Trod enc P w 0 sp held 22 v d ps) (ht1 : DataW.Trod enc P w 0 sp held 23 v1 d1 ps1) (ht2 : DataW.Trod enc P w 0 sp held 3 v2 d2 ps2) (ht3 : DataW.Trod enc P w 0 sp held 5 v3 d3 ps3) (hB : bk d ≤ 1048576) (hB1 : bk d1 ≤ 1048576) : Calls P 3 #[v, v1, v2, v3] w (Kept w) := by
 obtain ⟨n, r⟩ := xw A hsp hv (by simp [ji]) ht
 obtain ⟨n1, r1⟩ := xw A hsp hv1 (by simp [ji]) ht1
 obtain ⟨n2, r2⟩ := xw A hsp hv2 (by simp [ji]) ht2
 obtain ⟨n3, r3⟩ := xw A hsp hv3 (by simp [ji]) ht3
 obtain ⟨u, ru, hu⟩ := Tj A K r hB
 obtain ⟨xs, rs, bd⟩ := Ti A K r1 hB1
 obtain ⟨z, e2, wf⟩ := Sj A.t.i r2
 obtain ⟨t, e3, wt⟩ := Sj A.u r3
 simp only [Lit.wf, Bool.and_eq_true, decide_eq_true_eq] at wt
 have h1 : (0 : Int) ≤ t := wt.1
 have h2 : t ≤ 255 := wt.2
 obtain ⟨h', c⟩ := MN (p := Qt) Th (Qu 7 w) ru rs bd (Nat.le_refl _) hu z (lX wf) (UInt8.ofNat t.toNat)
 have (n : Nat) : (UInt8.ofNat n).toNat = n % 256 := by simp
 have e2 : kT w v2 = i64 z := e2
 rw [this, show ((t.toNat % 256 : Nat) : Int) = t by omega, ← e2, ← e3] at c
 obtain ⟨k, c⟩ := c.some
 exact MP A.e k 3 [v, v1, v2, v3] w (by decide) hs h' c
end
end Go.Am.Seat
