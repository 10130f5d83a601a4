/- The walk: what each function of the program does at arguments that are not known; and what the law comes to. Conditions: the table of functions holds these functions. -/
import Derived.Test.YtkagkfknfennmaaGreatDoorW0
set_option linter.all false
namespace Go.Am.Seat
open Go.Cod
noncomputable section
variable {p : Pg} {h hb h' h2 h0 : Hp} {q j je : P4} {x y v a b d e f g : AV} {o : Nat}
def vY (c : sj) : Bool := !decide (255 < c.row.length) && c.row.all fun v => small v.kind
theorem Dg (e10 : aw 10 p.fs = f10) {L : List AV} {cs : List (Bs × Int)} (c : Cs h j 0 L) (hL : L[5]? = some x) (r : aN h x cs) (hn : cs.length < 9223372036854775807) :
  ∃ st, ((st = .ex 0 (T2 (.ptr j 0) (i64 cs.length)) h ∧ cs.all (fun c => small c.2) = true) ∨ (st = .ret (T5 (.bool false)) h ∧ cs.all (fun c => small c.2) = false)) ∧ Rn p (.loop (.ag Cx .skip)) (T2 (.ptr j 0) i0) h st := by
 obtain ⟨q, o, sl, g⟩ := dD.sl r
 have hlen := dD.len r
 refine dt cs.length (Inv := fun i r h' => r = T2 (.ptr j 0) (i64 i) ∧ h' = h ∧ (cs.take i).all (fun c => small c.2) = true) (fun i r h' hi I => ?_) (fun r h' I => ?_) cs.length 0 _ h (by omega) ⟨rfl, rfl, by simp⟩
 ·obtain ⟨rfl, rfl, I⟩ := I
  obtain ⟨l, l1, l2, rfl⟩ := g i hi
  have sm := fL (p := p) (h := h') e10 cs[i].2
  cases hs : small cs[i].2 with
  | true =>
   rw [hs] at sm
   refine .inl ⟨T2 (.ptr j 0) (i64 (i + 1 : Nat)), h', .ag (sm.mono fun m gm => ?_), rfl, rfl, by rw [eh hi, I, hs]; rfl⟩
   simp only [Cx, K2, Dh, t2_4]
   (rw [az, aE (av c 5 hL), bP hlen, bq, bJ, if_pos (by omega), az, aE (av c 5 hL), dg (dc sl hi), az, aE (av l2 1 rfl), bm gm, fu, aV, Bool.not_true, mO, dB hi hn]; try rfl)
  | false =>
   rw [hs] at sm
   refine .inr ⟨_, .inr ⟨rfl, all_false hi hs⟩, .ei (.ag (sm.mono fun m gm => ?_))⟩
   simp only [Cx, K2, Dh, t2_4]
   (rw [az, aE (av c 5 hL), bP hlen, bq, bJ, if_pos (by omega), az, aE (av c 5 hL), dg (dc sl hi), az, aE (av l2 1 rfl), bm gm, fu, aV, Bool.not_false, nY]; try rfl)
 ·obtain ⟨rfl, rfl, I⟩ := I
  refine ⟨_, .inl ⟨rfl, by simpa using I⟩, .de (.bI fun c' i' K => ?_)⟩
  simp only [Cx, K2, Dh, t2_4]
  (rw [az, aE (av c 5 hL), bP hlen, bq, bJ, if_neg (by omega)]; try rfl)
theorem Hx (e10 : aw 10 p.fs = f10) {L : List AV} {cs : List sj} {i : Nat} (c : Cs h j 0 L) (hL : L[6]? = some y) (r : bw h y cs) (hi : i < cs.length) (hn : cs[i].row.length < 9223372036854775807) :
  ∃ st, ((st = .ex 4 (T8 (.ptr j 0) (i64 i)) h ∧ cs[i].row.all (fun v => small v.kind) = true) ∨ (st = .ret (T5 (.bool false)) h ∧ cs[i].row.all (fun v => small v.kind) = false)) ∧ Rn p (.loop (.ag Cy (.ag k5_8 .skip))) (T10 (.ptr j 0) (i64 i) i0) h st := by
 obtain ⟨q, o, sl, g⟩ := dD.sl r
 obtain ⟨l, l1, l2, z, rfl, hrow⟩ := g i hi
 obtain ⟨q2, o2, sl2, g2⟩ := dD.sl hrow
 have hlen := dD.len hrow
 generalize hr : cs[i].row = row at *
 refine dt row.length (Inv := fun k r h' => r = T10 (.ptr j 0) (i64 i) (i64 k) ∧ h' = h ∧ (row.take k).all (fun v => small v.kind) = true) (fun k r h' hk I => ?_) (fun r h' I => ?_) row.length 0 _ h (by omega) ⟨rfl, rfl, by simp⟩
 ·obtain ⟨rfl, rfl, I⟩ := I
  obtain ⟨l', m1, m2, rfl⟩ := g2 k hk
  have sm := fL (p := p) (h := h') e10 row[k].kind
  have t1 : ∀ cc i' (K : A2 → Hp → RS), Cy cc i' K (T10 (.ptr j 0) (i64 i) (i64 k)) h' = K (T10 (.ptr j 0) (i64 i) (i64 k)) h' := fun cc i' K => by
   simp only [Cy, K3, t10_3, t10_5, t10_6]
   (rw [az, aE (av c 6 hL), dg (dc sl hi), az, aE (av l2 1 rfl), bP hlen, bq, bJ, if_pos (by omega)]; try rfl)
  cases hs : small row[k].kind with
  | true =>
   rw [hs] at sm
   refine .inl ⟨T10 (.ptr j 0) (i64 i) (i64 (k + 1 : Nat)), h', .dQ t1 (.ag (sm.mono fun m gm => ?_)), rfl, rfl, by rw [eh hk, I, hs]; rfl⟩
   simp only [k5_8, K3, t10_3, t10_5, t10_6]
   (rw [az, aE (av c 6 hL), dg (dc sl hi), az, aE (av l2 1 rfl), dg (dc sl2 hk), az, Nat.add_zero, aE (bz m2 rfl), bm gm, fu, aV, Bool.not_true, mO, dB hk hn]; try rfl)
  | false =>
   rw [hs] at sm
   refine .inr ⟨_, .inr ⟨rfl, all_false hk hs⟩, .ei (.dQ t1 (.ag (sm.mono fun m gm => ?_)))⟩
   simp only [k5_8, K3, t10_3, t10_5, t10_6]
   (rw [az, aE (av c 6 hL), dg (dc sl hi), az, aE (av l2 1 rfl), dg (dc sl2 hk), az, Nat.add_zero, aE (bz m2 rfl), bm gm, fu, aV, Bool.not_false, nY]; try rfl)
 ·obtain ⟨rfl, rfl, I⟩ := I
  refine ⟨_, .inl ⟨rfl, by simpa using I⟩, .de (.bI fun c' i' K => ?_)⟩
  simp only [Cy, K3, t10_3, t10_5, t10_6]
  (rw [az, aE (av c 6 hL), dg (dc sl hi), az, aE (av l2 1 rfl), bP hlen, bq, bJ, if_neg (by omega)]; try rfl)
theorem Di (e10 : aw 10 p.fs = f10) {L : List AV} {cs : List sj} (c : Cs h j 0 L) (hL : L[6]? = some y) (r : bw h y cs) (hn : cs.length < 9223372036854775807) :
  ∃ st, ((st = .ex 2 T9 h ∧ cs.all vY = true) ∨ (st = .ret (T5 (.bool false)) h ∧ cs.all vY = false)) ∧ Rn p (dp 3 (bh (bh (bh x5)))) (T8 (.ptr j 0) i0) h st := by
 obtain ⟨q, o, sl, g⟩ := dD.sl r
 have hlen := dD.len r
 refine dt (body := dp 4 (bh (bh (bh x5)))) cs.length (Inv := fun i r h' => r = T8 (.ptr j 0) (i64 i) ∧ h' = h ∧ (cs.take i).all vY = true) (fun i r' h' hi I => ?_) (fun r' h' I => ?_) cs.length 0 _ h (by omega) ⟨rfl, rfl, by simp⟩
 ·obtain ⟨rfl, rfl, I⟩ := I
  obtain ⟨l, l1, l2, z, rfl, hrow⟩ := g i hi
  have hrl := dD.len hrow
  have t1 : ∀ cc i' (K : A2 → Hp → RS), k5_5 cc i' K (T8 (.ptr j 0) (i64 i)) h' = K (T8 (.ptr j 0) (i64 i)) h' := fun cc i' K => by
   simp only [k5_5, K2, Dj, Dk]
   (rw [az, aE (av c 6 hL), bP hlen, bq, bJ, if_pos (by omega)]; try rfl)
  have gt : eN (i64 cs[i].row.length) (pi 255) h' = .ok (.bool (decide (255 < cs[i].row.length))) h' := Om (h := h') 255 cs[i].row.length
  by_cases hl : 255 < cs[i].row.length
  ·have : vY cs[i] = false := by unfold vY; rw [decide_eq_true hl]; rfl
   refine .inr ⟨_, .inr ⟨rfl, all_false hi this⟩, .ei (.dQ t1 (.cR (.bT (.bI fun cc i' K => ?_))))⟩
   simp only [k5_6, K2, Dj, Dk]
   (rw [az, aE (av c 6 hL), dg (dc sl hi), az, aE (av l2 1 rfl), bP hrl, aR gt, bJ, if_pos hl]; try rfl)
  ·have t2 : ∀ cc i' (K : A2 → Hp → RS), k5_6 cc i' K (T8 (.ptr j 0) (i64 i)) h' = K (T10 (.ptr j 0) (i64 i) i0) h' := fun cc i' K => by
    simp only [k5_6, K2, Dj, Dk]
    (rw [az, aE (av c 6 hL), dg (dc sl hi), az, aE (av l2 1 rfl), bP hrl, aR gt, bJ, if_neg hl]; try rfl)
   have hc : vY cs[i] = cs[i].row.all fun v => small v.kind := by unfold vY; rw [decide_eq_false hl]; rfl
   obtain ⟨st, hst, k⟩ := Hx (p := p) e10 c hL r hi (by omega)
   rcases hst with ⟨rfl, ha⟩ | ⟨rfl, ha⟩
   ·refine .inl ⟨T8 (.ptr j 0) (i64 (i + 1 : Nat)), h', .dQ t1 (.seq (.block (.dQ t2 (.bA k))) (.bI fun cc i' K => ?_)), rfl, rfl, by rw [eh hi, I, hc, ha]; rfl⟩
    simp only [k5_9, K2, Dj, Dk]
    (rw [dB hi hn]; try rfl)
   ·exact .inr ⟨_, .inr ⟨rfl, all_false hi (by rw [hc]; exact ha)⟩, .ei (.dQ t1 (.cR (.bT (.dQ t2 (.bT k)))))⟩
 ·obtain ⟨rfl, rfl, I⟩ := I
  refine ⟨_, .inl ⟨rfl, by simpa using I⟩, .de (.bI fun c' i' K => ?_)⟩
  simp only [k5_5, K2, Dj, Dk]
  (rw [az, aE (av c 6 hL), bP hlen, bq, bJ, if_neg (by omega)]; try rfl)
end
open Go.Cod
noncomputable section
variable {p : Pg} {h hb h' h2 h0 : Hp} {q j je : P4} {x y v a b d e f g : AV} {o : Nat}
theorem Dl (e5 : aw 5 p.fs = f5) (e10 : aw 10 p.fs = f10) (W : Wf h) {s : lK} (r1 : aN h x s.entry.bL) (r2 : bw h y s.entry.changes) (hn : s.entry.bL.length < 9223372036854775807) (hm : s.entry.changes.length < 9223372036854775807) :
  ∃ h', Cv p 5 [.agg (gu x y s)] h (.bool (dX s)) h' ∧ Old h h' ∧ Wf h' := by
 obtain ⟨j, h1, f1, f2, f3, f4, f5', f6⟩ := qt (el := 28) (l := gu x y s) W (by simp [gu, dY])
 obtain ⟨je, h2, g1, g2, g3, g4, g5, g6⟩ := qu (el := 26) (n := 7) f5' (c := .k1 (Y7 i0 i0 i0 iS iS .ak .ak)) trivial (by decide)
 have njr : ah je h = .none := f4.none g2
 have oj2 := f3.old g4
 obtain ⟨h3, d1, d2, d3, d4⟩ := nZ (k := 0) (m := 7) (l' := dY x y s.entry) g3 (by simp [dY]) (by rw [bM]; omega)
 have W3 : Wf h3 := g5.of d4 fun k hk => by rw [d3 k (fun e => by rw [e] at hk; exact g3.ne hk)]; exact hk
 have d2 : Ob h3 je 26 true .plain (dY x y s.entry) := by
  have : (bn 7 (.k1 (Y7 i0 i0 i0 iS iS .ak .ak)) 0).take 0 ++ (dY x y s.entry ++ (bn 7 (.k1 (Y7 i0 i0 i0 iS iS .ak .ak)) 0).drop (0 + 7)) = dY x y s.entry := by
   rw [List.drop_of_length_le (by rw [bM]; omega)]; simp
  rw [← this]; exact d2
 have O3 : Old h h3 := fun k hk => by
  have e := (f4.trans g4) k hk
  rw [d3 k (fun e => by rw [e] at hk; exact hk njr), e]
 have hne : j ≠ je := fun e => f3.ne (e ▸ g2)
 have oj3 := oj2.eq (d3 j hne)
 have M1 := dC (m := 7) (Hy (Ob.c0 f3)) (by simp [dY])
 have s0 : ∀ cc i' (K : A2 → Hp → RS), k5_0 cc i' K (bG [.agg (gu x y s)] 0 .nil) h = K (T6 (.ptr j 0) (.ptr je 0)) h3 := fun cc i' K => by
  simp only [k5_0, K1, dK]
  (rw [mP f1, az, Nat.zero_add, fM M1, qv g1, qw d1]; try rfl)
 have c := Ob.c0 d2
 have rc := aN.up r1 O3
 have rg := bw.up r2 O3
 obtain ⟨r3, o1, o2, o3⟩ := AP (p := p) e10 (Ob.c0 oj3) c rc rg
 have s1 : ∀ cc i' (K : A2 → Hp → RS), k5_1 cc i' K r3 h3 = Seat.I (.bool (lz s)) (.ret (T5 (.bool false)) h3) (.nm (T7 (.ptr je 0)) h3) := fun cc i' K => by simp only [k5_1, K2, o2, o3]
 have out : ∀ bb, Rn p (bh x5) (T6 (.ptr j 0) (.ptr je 0)) h3 (.ret (T5 (.bool bb)) h3) → Cv p 5 [.agg (gu x y s)] h (.bool bb) h3 := fun bb k => .of (r' := T5 (.bool bb)) (h1 := h3) e5 (by simp) (.dQ s0 k) rfl
 have hq : dX s = (!lz s && s.entry.bL.all (fun c => small c.2) && s.entry.changes.all vY) := rfl
 refine ⟨h3, ?_, O3, W3⟩
 cases hb : lz s with
 | true =>
  rw [hq, hb]
  exact out _ (.cR (.seq (.ops o1) (.bI fun cc i' K => by rw [s1, hb, nY]; rfl)))
 | false =>
  have He : Rn p (fst (bh x5)) (T6 (.ptr j 0) (.ptr je 0)) h3 (.nm (T7 (.ptr je 0)) h3) := .seq (.ops o1) (.bI fun cc i' K => by rw [s1, hb, mO])
  have s2 : ∀ cc i' (K : A2 → Hp → RS), k5_2 cc i' K (T7 (.ptr je 0)) h3 = K (T2 (.ptr je 0) i0) h3 := fun cc i' K => by simp only [k5_2, K1, t7_3]
  obtain ⟨st, hst, k⟩ := Dg (p := p) e10 c rfl rc hn
  rcases hst with ⟨rfl, ha⟩ | ⟨rfl, ha⟩
  ·have s4 : ∀ cc i' (K : A2 → Hp → RS), k5_4 cc i' K (T2 (.ptr je 0) (i64 s.entry.bL.length)) h3 = K (T8 (.ptr je 0) i0) h3 := fun cc i' K => by simp only [k5_4, K1, Dh]
   obtain ⟨st, hst, k2⟩ := Di (p := p) e10 c rfl rg hm
   rw [hq, hb, ha]
   rcases hst with ⟨rfl, hc⟩ | ⟨rfl, hc⟩
   ·rw [hc]
    exact out _ (.seq He (.seq (.dQ s2 (.bA k)) (.seq (.dQ s4 (.bA k2)) (.bI fun cc i' K => rfl))))
   ·rw [hc]
    exact out _ (.seq He (.seq (.dQ s2 (.bA k)) (.cR (.dQ s4 (.bT k2)))))
  ·rw [hq, hb, ha]
   exact out _ (.seq He (.cR (.dQ s2 (.bT k))))
end
open Go.Cod
noncomputable section
variable {p : Pg} {h hb h' h2 h0 : Hp} {q j je : P4} {x y v a b d e f g : AV} {o : Nat}
theorem en.mono : ∀ (h1 h2 : Hp) (l : List AV) (a : lK), Old h1 h2 → en h1 l a → en h2 l a := fun _ _ _ _ O r => en.up r O
structure AQ (p : Pg) : Prop where
 b : KD p
 k : MV p
 e3 : aw 3 p.fs = f3
 e5 : aw 5 p.fs = f5
 e7 : ∀ h, Cv p 7 [] h (.bool true) h
theorem Dm (T : AQ p) {ss ys : List lK} {i : Nat} {v : AV} {rt : Bool} (w : Lb h h h' v 28 12 en ys) (r : du h x ss) (hi : i < ss.length) (hi2 : i < 30) (hy : ys.length ≤ 1000) (hr : ∀ c, c ∈ ss[i].entry.changes → c.row.length ≤ 1048576) :
  ∃ v' h2, Rn p (bh (dp 4 (bh x3))) (T1 x v (.bool rt) (i64 i)) h' (.nm (T1 x v' (.bool (rt && dX (aL ss[i]))) (i64 (i + 1 : Nat))) h2) ∧ Lb h h h2 v' 28 12 en (ys ++ [aL ss[i]]) := by
 obtain ⟨q', o', sl, g⟩ := dD.sl r
 obtain ⟨l, l1, l2, l3⟩ := g i hi
 obtain ⟨x', y', h1, hr', c1, c2, c3, c4, c5, c6, c7, c8⟩ := AR (p := p) T.k w.wf w.old l3 hr
 generalize hs : aL ss[i] = st at *
 obtain ⟨k, h2, g1, g2, g3, g4, g5, g6⟩ := qu (el := 28) (n := 12) c3 (c := .k1 (Y12 i0 i0 i0 i0 iS i0 i0 i0 iS iS .ak .ak)) trivial (by decide)
 obtain ⟨h3, d1, d2, d3, d4⟩ := nZ (k := 0) (m := 12) (l' := gu x' y' st) g3 (by simp [gu, dY]) (by rw [bM]; omega)
 have W3 : Wf h3 := g5.of d4 fun t ht => by rw [d3 t (fun e => by rw [e] at ht; exact g3.ne ht)]; exact ht
 have d2 : Ob h3 k 28 true .plain (gu x' y' st) := by
  have : (bn 12 (.k1 (Y12 i0 i0 i0 i0 iS i0 i0 i0 iS iS .ak .ak)) 0).take 0 ++ (gu x' y' st ++ (bn 12 (.k1 (Y12 i0 i0 i0 i0 iS i0 i0 i0 iS iS .ak .ak)) 0).drop (0 + 12)) = gu x' y' st := by
   rw [List.drop_of_length_le (by rw [bM]; omega)]; simp
  rw [← this]; exact d2
 have nk : ah k h' = .none := c2.none g2
 have O3 : Old h' h3 := fun t ht => by
  have e := (c2.trans g4) t ht
  rw [d3 t (fun e => by rw [e] at ht; exact ht nk), e]
 have O13 : Old h1 h3 := fun t ht => by
  have e := g4 t ht
  rw [d3 t (fun e => by rw [e] at ht; exact ht g2), e]
 obtain ⟨m, h4, u1, u2, u3, u4, u5, u6⟩ := iD (el := 28) (es := 12) (n := 1) (z := [i0,i0,i0,i0,iS,i0,i0,i0,iS,iS,.ak,.ak]) (ps := [.mk 0 12 (.c (.agg (gu x' y' st)))]) (l := gu x' y' st) W3 rfl rfl (by simp [gu, dY])
 have Or4 : Old hr' h4 := (c5.trans O13).trans u4
 obtain ⟨v', h5, z1, z2, z3⟩ := w.app (a := st) (l := gu x' y' st) en.mono (by omega) (O3.trans u4) u5 (by simp [gu, dY]) (fun hz H1 H2 => by
  have O : Old hr' hz := fun t ht => by
   rcases c6 t ht with gg | gg
   ·rw [H1 t gg, c4 t gg]
   ·rw [H2 t gg, Or4 t ht]
  exact ⟨x', y', rfl, aN.up c7 O, bw.up c8 O⟩) (by omega)
 have Or5 : Old hr' h5 := fun t ht => by
  rcases c6 t ht with gg | gg
  ·rw [z2.old t gg, c4 t gg]
  ·have e := Or4 t ht
   rw [z3 t gg (by rw [e]; exact ht), e]
 have ok5 : Ob h5 k 28 true .plain (gu x' y' st) := by
  have o4 := d2.old u4
  exact o4.eq (z3 k nk o4.ne)
 have M0 := dC (m := 12) (l2.old w.old) l1
 have M1 := dC (m := 12) (Ob.c0 d2) (by simp [gu, dY])
 have M5 := dC (m := 12) (Ob.c0 ok5) (by simp [gu, dY])
 have V : dW 28 12 v (.slice m 0 1 1) h4 = .ok v' h5 := by
  rw [gU (m := 1) (q := m) (o := 0) (l := gu x' y' st) (.inl ⟨_, rfl⟩) (by omega) (fun _ => Ob.c0 u3) (by simp [gu, dY]) (by omega)]
  exact z1
 have s4 : ∀ rt' hh, ∀ cc i' (K : A2 → Hp → RS), k3_4 cc i' K (T1 x v' (.bool rt') (i64 i)) hh = .nm (T1 x v' (.bool rt') (i64 (i + 1 : Nat))) hh := fun rt' hh cc i' K => by
  simp only [k3_4, K4, Dn, Dp, Dq, Dr]
  (rw [dB (n := 30) hi2 (by omega)]; try rfl)
 cases rt with
 | false =>
  refine ⟨v', h5, .to (c1.mono fun n g K => ?_) (.bI (s4 false h5)), z2⟩
  simp only [k3_3, K4, Dn, Dp, Dq, Dr]
  (rw [dg (dc sl hi), fM M0, bm g, qv g1, qw d1, fM M1, aR u1, aR V, sO, sO, qx, aV]; try rfl)
 | true =>
  have bl : st.entry.bL.length < 9223372036854775807 ∧ st.entry.changes.length < 9223372036854775807 := by
   rw [← hs]
   unfold aL aG
   simp only [List.length_map, List.length_take]
   have := (List.takeWhile_sublist (fun c : Bs × Int => decide (c.1.length ≤ 20)) (l := ss[i].entry.bL.take 8)).length_le
   rw [List.length_take] at this
   omega
  obtain ⟨h6, q1, q2, q3⟩ := Dl (p := p) T.e5 T.b.s.tt.e10 z2.wf (aN.up c7 Or5) (bw.up c8 Or5) bl.1 bl.2
  refine ⟨v', h6, .to ((c1.and q1).mono fun n g K => ?_) (.bI (s4 _ h6)), Lb.up z2 q2 q3⟩
  obtain ⟨ga, gb⟩ := g
  simp only [k3_3, K4, Dn, Dp, Dq, Dr]
  (rewrite [dg (dc sl hi)]; (try dsimp only); rewrite [fM M0]; (try dsimp only); rewrite [bm ga]; (try dsimp only); rewrite [qv g1]; (try dsimp only); rewrite [qw d1]; (try dsimp only); rewrite [fM M1]; (try dsimp only); rewrite [aR u1]; (try dsimp only); rewrite [aR V]; (try dsimp only); rewrite [vZ]; (try dsimp only); rewrite [fM M5]; (try dsimp only); rewrite [vZ]; (try dsimp only); rewrite [bm gb]; (try dsimp only); rewrite [od]; (try dsimp only); rewrite [aV]; (try dsimp only); rewrite [Bool.true_and]; (try dsimp only); try rfl)
end
open Go.Cod
noncomputable section
variable {p : Pg} {h hb h' h2 h0 : Hp} {q j je : P4} {x y v a b d e f g : AV} {o : Nat}
theorem Hz {es n : Nat} (sl : zq x es n q o) : same x x = true := by
 have := qy sl
 rcases sl with ⟨cap, rfl⟩ | rfl | ⟨rfl, _⟩ <;> exact this
theorem zr (k : Int) : fw (gh k) := Dt (mf k)
theorem Du {B : Nat} {e : vx} (b : Dv B e) : Dv B (aG e) := by
 obtain ⟨b1, b2, b3, b4, b5, b6, b7, b8, b9⟩ := b
 have hsub := (List.takeWhile_sublist (fun c : Bs × Int => decide (c.1.length ≤ 20)) (l := e.bL.take 8))
 refine ⟨b1, b2, b3, ?_, ?_, ?_, ?_, ?_, ?_⟩
 ·simp only [aG, List.length_take]; omega
 ·simp only [aG, List.length_take]; omega
 ·simp only [aG, List.length_map]
  have := hsub.length_le
  rw [List.length_take] at this
  omega
 ·intro c hc
  simp only [aG, List.mem_map] at hc
  obtain ⟨c0, h0, rfl⟩ := hc
  exact ⟨(b7 c0 (List.mem_of_mem_take (hsub.subset h0))).1, zr _⟩
 ·simp only [aG, List.length_map, List.length_take]; omega
 ·intro c hc
  simp only [aG, List.mem_map] at hc
  obtain ⟨c0, h0, rfl⟩ := hc
  obtain ⟨d1, d2, d3⟩ := b9 c0 (List.mem_of_mem_take h0)
  refine ⟨by simp only [kq, List.length_take]; omega, by simp only [kq, List.length_map, List.length_take]; omega, fun v hv => ?_⟩
  simp only [kq, List.mem_map] at hv
  obtain ⟨v0, h1, rfl⟩ := hv
  obtain ⟨k1, k2, k3⟩ := d3 v0 (List.mem_of_mem_take h1)
  exact ⟨zr _, k2, by simp only [pD, List.length_take]; omega⟩
theorem AU {B : Nat} {s : lK} (b : HB B s) : HB B (aL s) := by
 obtain ⟨b1, b2, b3, b4, b5, b6⟩ := b
 exact ⟨b1, b2, b3, b4, b5, Du b6⟩
theorem Dw {s : lK} (hf : eo s = true) (he : (enc s.entry).length ≤ 65535) : (gP s).length ≤ 65819 := by
 rw [kr]
 unfold eo at hf
 simp only [Bool.and_eq_true, decide_eq_true_eq] at hf
 omega
theorem Dx (T : AQ p) (W : Wf h) {ss : List lK} (r : du h x ss) (hr : ∀ s, s ∈ ss → ∀ c, c ∈ s.entry.changes → c.row.length ≤ 1048576) :
  ∃ v h', Rn p (dp 3 (bh x3)) (T1 x .ak (.bool true) i0) h (.ex 0 (T2 v (.bool (((ss.take 30).map aL).all dX))) h') ∧ Lb h h h' v 28 12 en ((ss.take 30).map aL) := by
 have hlen : ∀ h', Old h h' → Am.len x h' = .ok (.int .i64 (ss.length : Int)) h' := fun h' O => dD.len (du.up r O)
 have hn : ss.take (min ss.length 30) = ss.take 30 := by
  by_cases g : ss.length ≤ 30
  ·rw [Nat.min_eq_left g, List.take_length, List.take_of_length_le g]
  ·rw [Nat.min_eq_right (by omega)]
 have key : ∃ s, (∃ v h', s = .ex 0 (T2 v (.bool (((ss.take 30).map aL).all dX))) h' ∧ Lb h h h' v 28 12 en ((ss.take 30).map aL)) ∧ Rn p (.loop (dp 4 (bh x3))) (T1 x .ak (.bool true) i0) h s := by
  refine dt (min ss.length 30) (Inv := fun i r h' => ∃ v, r = T1 x v (.bool (((ss.take i).map aL).all dX)) (i64 i) ∧ Lb h h h' v 28 12 en ((ss.take i).map aL)) (fun i r' h' hi I => ?_) (fun r' h' I => ?_) (min ss.length 30) 0 _ h (by omega) ⟨.ak, rfl, by simpa using Lb.nil W (.refl h) (.inl rfl)⟩
  ·obtain ⟨v, rfl, w⟩ := I
   have hi1 : i < ss.length := by omega
   obtain ⟨v', h2, k, w2⟩ := Dm (p := p) (rt := ((ss.take i).map aL).all dX) T w r hi1 (by omega) (by simp; omega) (hr _ (by simp))
   have e1 : (ss.take (i + 1)).map aL = (ss.take i).map aL ++ [aL ss[i]] := by
    rw [List.take_succ_eq_append_getElem hi1, List.map_append]; rfl
   refine .inl ⟨_, h2, .dQ (r' := T1 x v (.bool (((ss.take i).map aL).all dX)) (i64 i)) (h' := h') (fun cc i' K => ?_) k, v', ?_, by rw [e1]; exact w2⟩
   ·simp only [k3_2, K4, Dn, Dp, Dq, Dr]
    (rewrite [bP (hlen h' w.old)]; (try dsimp only); rewrite [bq]; (try dsimp only); rewrite [decide_eq_true (show (i : Int) < (ss.length : Int) by omega)]; (try dsimp only); rewrite [vZ]; (try dsimp only); rewrite [vZ]; (try dsimp only); rewrite [bq]; (try dsimp only); rewrite [decide_eq_true (show (i : Int) < Int.ofNat 30 by show (i : Int) < 30; omega)]; (try dsimp only); rewrite [od]; (try dsimp only); rewrite [aV]; (try dsimp only); rewrite [nY]; (try dsimp only); try rfl)
   ·rw [e1, List.all_append]; simp
  ·obtain ⟨v, rfl, w⟩ := I
   rw [hn] at w
   refine ⟨_, ⟨v, h', rfl, w⟩, .de (.bI fun cc i' K => ?_)⟩
   simp only [k3_2, K4, Dn, Dp, Dq, Dr]
   rw [hn]
   by_cases g : ss.length ≤ 30
   ·(rewrite [bP (hlen h' w.old)]; (try dsimp only); rewrite [bq]; (try dsimp only); rewrite [decide_eq_false (show ¬ (((min ss.length 30 : Nat)) : Int) < (ss.length : Int) by omega)]; (try dsimp only); rewrite [sO]; (try dsimp only); rewrite [sO]; (try dsimp only); rewrite [qx]; (try dsimp only); rewrite [aV]; (try dsimp only); rewrite [mO]; (try dsimp only); try rfl)
   ·(rewrite [bP (hlen h' w.old)]; (try dsimp only); rewrite [bq]; (try dsimp only); rewrite [decide_eq_true (show (((min ss.length 30 : Nat)) : Int) < (ss.length : Int) by omega)]; (try dsimp only); rewrite [vZ]; (try dsimp only); rewrite [vZ]; (try dsimp only); rewrite [bq]; (try dsimp only); rewrite [decide_eq_false (show ¬ (((min ss.length 30 : Nat)) : Int) < Int.ofNat 30 by show ¬ _ < (30 : Int); omega)]; (try dsimp only); rewrite [od]; (try dsimp only); rewrite [aV]; (try dsimp only); rewrite [mO]; (try dsimp only); try rfl)
 obtain ⟨s, ⟨v, h', rfl, w⟩, k⟩ := key
 exact ⟨v, h', k, w⟩
end
open Go.Cod
noncomputable section
variable {p : Pg} {h hb h' h2 h0 : Hp} {q j je : P4} {x y v a b d e f g : AV} {o : Nat}
theorem Dy (T : AQ p) {S : Bs} {vb : AV} {h3 : Hp} {v2 : AV} (rb : qz h vb S) (c8 : Cv p 8 [v] h v2 h3) (rb2 : qz h3 v2 S) (O : Old h h3) (bb : AV) :
  ∃ r', Rn p (bh (bh (bh (bh x3)))) (T4 v vb (i64 0) bb) h (.ret r' h3) ∧ y2 r' = .bool true := by
 have rb' : qz h vb S := rb
 obtain ⟨q, o, n, sl, _⟩ := rb
 have sq : bK .seq (cD S) (cD S) h3 = .ok (.bool true) h3 := by
  show zt (.str _) (.str _) h3 = _
  rw [KE, decide_eq_true rfl]
 have e0 : bK .eq (i64 0) (pi 0) h = .ok (.bool true) h := by
  show vT (.int .i64 0) (.int .i64 (.ofNat 0)) h = _
  rw [zu]; rfl
 exact ⟨_, .seq (.pL (
  .ur (v := i64 0) (g' := h) rfl <| .ur (v := .bool true) (g' := h) e0 <| .ur (v := .bool true) (g' := h) rfl <|
  .on rfl <| .ur (v := v) (g' := h) rfl <| .on rfl <| .call (v := v2) (h' := h3) c8 <|
  .on rfl <| .MB (v := vb) (g' := h3) (h1' := h) rfl rfl (Hz sl) <| .on rfl <| .MB (v := cD S) (g' := h3) (h1' := h) (qA (qz.up rb' O)) (qA rb') (Dz _) <|
  .on rfl <| .ur (v := cD S) (g' := h3) (qA rb2) <| .on rfl <| .ur (v := .bool true) (g' := h3) sq <|
  .ur (v := .bool true) (g' := h3) rfl <| .ur (v := .bool true) (g' := h3) rfl <|
  .on rfl <| .call (v := .bool true) (h' := h3) (T.e7 h3) <| .ur (v := .bool true) (g' := h3) rfl <| .ur (v := .bool true) (g' := h3) rfl <| .nil)) .ret, rfl⟩
theorem DA (T : AQ p) : ∃ r', Rn p (fst (bh (bh (bh x3)))) (T3 v (.bool false) .ak (i64 1)) h (.ret r' h) ∧ y2 r' = .bool true := by
 have l0 : Am.len .ak h = .ok (i64 0) h := rfl
 have e0 : bK .eq (i64 0) (pi 0) h = .ok (.bool true) h := by
  show vT (.int .i64 0) (.int .i64 (.ofNat 0)) h = _
  rw [zu]; rfl
 have e1 : bK .eq (i64 1) (pi 1) h = .ok (.bool true) h := by
  show vT (.int .i64 1) (.int .i64 (.ofNat 1)) h = _
  rw [zu]; rfl
 have s6 : ∀ cc i' (K : A2 → Hp → RS), Cw cc i' K (T3 v (.bool false) .ak (i64 1)) h = K (T4 v .ak (i64 1) (.bool true)) h := fun cc i' K => by
  simp only [Cw, K4, t3_3, t3_4, t3_7, t3_8]
  (rw [fu, aV]; try rfl)
 exact ⟨_, .dQ s6 (.KG rfl (.seq (.ops (
  .step (v := .ak) (h' := h) rfl <| .step (v := i64 0) (h' := h) l0 <| .step (v := .bool true) (h' := h) e0 <| .step (v := .bool true) (h' := h) rfl <|
  .on rfl <| .step (v := i64 1) (h' := h) rfl <| .on rfl <| .step (v := .bool true) (h' := h) e1 <| .step (v := .bool true) (h' := h) rfl <| .step (v := .bool true) (h' := h) rfl <|
  .on rfl <| .call (v := .bool true) (h' := h) (T.e7 h) <| .step (v := .bool true) (h' := h) rfl <| .step (v := .bool true) (h' := h) rfl <| .nil)) .ret)), rfl⟩
theorem HC (T : AQ p) (W : Wf h) {ss : List lK} {B : Nat} (r : du h x ss) (bd : ∀ s, s ∈ ss → HB B s) (hB : B ≤ 1048576) : ∃ h', Cv p 3 [x] h (.bool true) h' := by
 obtain ⟨v, h1, k1, w1⟩ := Dx (p := p) T W r fun s hs c hc => by
  obtain ⟨_, _, _, _, _, _, _, _, _, _, _, _, _, b9⟩ := bd s hs
  have := (b9 c hc).2.1
  omega
 obtain ⟨hr, p1, p2, p3, p4⟩ := Lb.rd w1 en.mono (by omega)
 have R : du h1 v ((ss.take 30).map aL) := du.up p4 p2
 generalize hS : (ss.take 30).map aL = S at *
 have hSb : ∀ s, s ∈ S → HB B s ∧ (enc s.entry).length ≤ 65535 ∧ eo s = dX s := fun s hs => by
  rw [← hS] at hs
  obtain ⟨s0, h0, rfl⟩ := List.mem_map.1 hs
  exact ⟨AU (bd s0 (List.mem_of_mem_take h0)), AW _, xZ s0⟩
 have hSl : S.length ≤ 30 := by rw [← hS, List.length_map, List.length_take]; omega
 have hall : S.all eo = S.all dX := by
  clear R k1 w1 p4 hS hSl
  induction S with
  | nil => rfl
  | cons a S ih => rw [List.all_cons, List.all_cons, (hSb a (by simp)).2.2, ih fun s hs => hSb s (by simp [hs])]
 have tot : S.all eo = true → (S.flatMap gP).length ≤ 16777216 := fun hf => by
  have := qB (f := gP) (k := 65819) (l := S) fun s hs => Dw (by rw [List.all_eq_true] at hf; exact hf s hs) (hSb s hs).2.1
  have h2 : S.length * 65819 ≤ 30 * 65819 := Nat.mul_le_mul_right _ hSl
  omega
 obtain ⟨vb, n, h2, c6, O2, W2, hcase⟩ := AX (p := p) T.b.s w1.wf R (fun s hs => (hSb s hs).1.2.2.2.2.2) (B := B) (by omega) (by omega) (fun s hs => (hSb s hs).2.1) tot
 have s0 : ∀ cc i' (K : A2 → Hp → RS), k3_0 cc i' K (bG [x] 0 .nil) h = K (T0 x .ak (.bool true)) h := fun cc i' K => by simp only [k3_0, K1, dK]
 have s1 : ∀ cc i' (K : A2 → Hp → RS), k3_1 cc i' K (T0 x .ak (.bool true)) h = K (T1 x .ak (.bool true) i0) h := fun cc i' K => by simp only [k3_1, K3, t0_0, t0_3, t0_4]
 have s5 : Ev fun m => ∀ K : A2 → Hp → RS, k3_5 (ar p (exec p m)) (aF p (exec p m)) K (T2 v (.bool (S.all dX))) h1 = K (T3 v (.bool (S.all dX)) vb (i64 n)) h2 := c6.mono fun m g K => by
  simp only [k3_5, K2, Dh, t2_4]
  have x0 : Seat.ext 0 (.ku [vb, i64 n]) h2 = .ok vb h2 := rfl
  have x1 : Seat.ext 1 (.ku [vb, i64 n]) h2 = .ok (i64 n) h2 := rfl
  (rw [bm g, JS x0, JS x1]; try rfl)
 have out : ∀ r' hf, y2 r' = .bool true → Rn p (bh (bh (bh x3))) (T3 v (.bool (S.all dX)) vb (i64 n)) h2 (.ret r' hf) → Cv p 3 [x] h (.bool true) hf := fun r' hf e k => .of (r' := r') (h1 := hf) T.e3 (by simp) (.dQ s0 (.seq (.dQ s1 (.bA k1)) (.to s5 k))) (by
  show RV.ok (y2 r') hf = _
  rw [e])
 rcases hcase with ⟨ha, rfl, rb⟩ | ⟨ha, rfl, rfl⟩
 ·have rb := jR.MW rb
  have hf : ∀ s, s ∈ S → eo s = true := by rw [List.all_eq_true] at ha; exact ha
  obtain ⟨v2, h3, c8, w8⟩ := DB (p := p) T.b W2 (du.up R O2) (fun s hs => (hSb s hs).1) (B := B) (by omega) (by omega) (fun s hs => by
   have := hf s hs
   unfold eo at this
   simp only [Bool.and_eq_true] at this
   exact this.2.2) (fun s hs => (hSb s hs).2.1) (tot ha)
  rw [hall] at ha
  obtain ⟨r', k, e⟩ := Dy (p := p) T (v := v) rb c8 (Bb.rd w8) w8.old (.bool false)
  have s6 : ∀ cc i' (K : A2 → Hp → RS), Cw cc i' K (T3 v (.bool (S.all dX)) vb (i64 0)) h2 = K (T4 v vb (i64 0) (.bool false)) h2 := fun cc i' K => by
   simp only [Cw, K4, t3_3, t3_4, t3_7, t3_8]
   rw [ha]
   (rw [fu, aV]; try rfl)
  exact ⟨h3, out r' h3 e (.seq (.dQ s6 (.KH rfl .skip)) k)⟩
 ·rw [hall] at ha
  obtain ⟨r', k, e⟩ := DA (p := p) (v := v) (h := h2) T
  refine ⟨h2, out r' h2 e ?_⟩
  rw [ha]
  exact .cR k
end
open Go.Cod
noncomputable section
def PY : AF := .sw (.fn zw) x7 [.t .h0 .h0]
def JT : F1 := match Kx with
 | .nil => .nil
 | .mk a0 a1 a2 a3 a4 a5 a6 _ a8 a9 b0 b1 b2 b3 b4 b5 => .mk a0 a1 a2 a3 a4 a5 a6 PY a8 a9 b0 b1 b2 b3 b4 b5
def DC : F2 := match CL with
 | .nil => .nil
 | .mk _ a1 a2 a3 a4 a5 a6 a7 a8 a9 b0 b1 b2 b3 b4 b5 => .mk JT a1 a2 a3 a4 a5 a6 a7 a8 a9 b0 b1 b2 b3 b4 b5
def Oo : Pg := match pg with
 | .mk fs ms => .mk (match fs with
  | .nil => .nil
  | .mk _ a1 a2 a3 a4 a5 a6 a7 a8 a9 b0 b1 b2 b3 b4 b5 => .mk DC a1 a2 a3 a4 a5 a6 a7 a8 a9 b0 b1 b2 b3 b4 b5) ms
theorem OJ : AQ Oo where
 b := { s := { t := ⟨rfl, rfl, rfl, rfl, rfl, rfl, rfl, rfl⟩, tt := ⟨rfl, rfl, rfl, rfl, rfl⟩, e6 := rfl, e11 := rfl, e14 := rfl, e17 := rfl, e29 := rfl }, r := ⟨rfl, rfl, rfl, rfl⟩, e8 := rfl }
 k := ⟨rfl, rfl, rfl, rfl⟩
 e3 := rfl
 e5 := rfl
 e7 := fun h => .sw (k := .fn zw) (body := x7) (res := [.t .h0 .h0]) rfl rfl
end
open Go.Cod
noncomputable section
theorem KI (n : Nat) (w : World) : Wf (xT n w) := ⟨w.heap.size, rfl, fun m hm => by
 rw [mQ]
 unfold AY
 rw [Array.getElem?_eq_none hm]⟩
def mR : List TypeId := [22, 28, 26, 23, 41, 24, 45, 43, 47, 3, 2, 9, 4]
variable {P : Program} {H : Type} {enc : TypeId × Value → H} {w : World} {sp : Nat → Bool} {held : Bool} {bk : DataW H → Nat} {bkA : List (DataW H) → Nat} {h : Hp}
structure Ask (P : Program) (names : List String) : Prop where
 e : Env P ⟨7, [], none⟩ names Oo
 t : eJ P 3 2 9 4 47 43 45 24 41 23 26 28 22
 k : qC P mR = true
def Kept (w : World) (e : Ending) (w' : World) : Prop := e = .returned (.bool true) ∧ w.heap.size ≤ w'.heap.size ∧ (∀ b, b < w.heap.size → w'.heap[b]? = w.heap[b]?) ∧ w'.os = w.os ∧ w'.output = w.output
theorem KJ {names : List String} (A : Ask P names) (hsp : ∀ b, sp b = true) {v : Value} {t : TypeId} {d : DataW H} {ps : List MemPlace} (hv : v.cells.toList = [v]) (ht : t ∈ mR) (r : DataW.Trod enc P w 0 sp held t v d ps) : ∃ n, sk P (xT 7 w) n t [jS w v] d := by
 obtain ⟨n, r⟩ := r
 obtain ⟨r, _, _⟩ := reads (g := 7) A.k hsp n t v.cells.toList (d, ps) ht r
 rw [hv] at r
 exact ⟨n, r⟩
theorem OK {names : List String} (A : Ask P names) (K : lA bk bkA) {n : Nat} {a : AV} {d : DataW H} (r : sk P h n 22 [a] d) (hB : bk d ≤ 1048576) : ∃ xs, du h a xs ∧ ∀ s, s ∈ xs → HB 1048576 s := by
 obtain ⟨x, xs, e, rs, _, bd⟩ := HD A.t K (sk.add n 8 22 [a] d r) hB
 have e : a = x := by simpa using e
 subst e
 exact ⟨xs, rs, bd⟩
theorem DD {names : List String} (A : Ask P names) (K : lA bk bkA) (hs : 7 ≤ w.heap.size) (hsp : ∀ b, sp b = true) {v : Value} {d : DataW H} {ps : List MemPlace} (hv : v.cells.toList = [v]) (ht : DataW.Trod enc P w 0 sp held 22 v d ps) (hB : bk d ≤ 1048576) : Calls P 3 #[v] w (Kept w) := by
 obtain ⟨n, r⟩ := KJ A hsp hv (by simp [mR]) ht
 obtain ⟨xs, rs, bd⟩ := OK A K r hB
 obtain ⟨h', c⟩ := HC (p := Oo) OJ (KI 7 w) rs bd (Nat.le_refl _)
 obtain ⟨k, c⟩ := c.some
 exact HE A.e k 3 [v] w (by decide) hs h' c
end
end Go.Am.Seat
