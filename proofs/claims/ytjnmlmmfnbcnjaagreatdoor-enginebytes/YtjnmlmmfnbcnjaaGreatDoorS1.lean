/- The abstract machine is sound: what its run says holds of the Go program. Conditions: the table of functions is the program's (Env). -/
import Derived.Test.YtjnmlmmfnbcnjaaGreatDoorS0
import Derived.Lib.Builder
import Derived.Lib.UnsafeStr
import Derived.Orders
import Derived.Scope
import Derived.Laws.Sem
set_option linter.all false
namespace Go.Am
variable {P : Program} {φ : aI} {h h' : Hp} {w : World} {v : AV} {r : A2} {cx cy : Value} {t : TypeId} {G : Gl} {ρ : Operand → Value}
theorem pr {op : BinOp} {x y : Operand} {k : NK} (neg : Bool) {ay : AO} (hc : ∀ c, ρ (.const c) = c) (hop : Fa P op t y x = some (if neg then .rM k else .jR k)) (H : HR φ h w) (hy : VR φ (ev ay r) (ρ y))
  (he : EB.rv neg h (tM k (ev ay r)) = .ok v h') : Good φ h w v h' ((do eqGuard op t x y (ρ x) (ρ y); binOp op t (ρ x) (ρ y) : Sem Value).run P w) := by
 unfold Fa at hop
 split at hop <;> (try (split at hop)) <;> (try (cases neg <;> cases hop; done))
 all_goals (try (simp only [Option.map_eq_some_iff] at hop; obtain ⟨ks, hk, hop⟩ := hop; cases neg <;> cases hop; done))
 all_goals
  rename_i hu hn
  cases neg <;> cases hop
  have hn := fp hn
  subst hn
  rw [hc]
 ·exact (bO false (k := .s) ⟨_, al hu (by simp)⟩ H hy y he).2
 ·exact (bO true (k := .s) ⟨_, al hu (by simp)⟩ H hy y he).2
 ·exact (bO false (k := .m) ⟨_, _, al hu (by simp)⟩ H hy y he).2
 ·exact (bO true (k := .m) ⟨_, _, al hu (by simp)⟩ H hy y he).2
 ·exact (bO false (k := .f) ⟨_, _, _, al hu (by simp)⟩ H hy y he).2
 ·exact (bO true (k := .f) ⟨_, _, _, al hu (by simp)⟩ H hy y he).2
 ·exact (bO false (k := .i) ⟨_, al hu (by simp)⟩ H hy y he).2
 ·exact (bO true (k := .i) ⟨_, al hu (by simp)⟩ H hy y he).2
theorem lW {a b : Bool} (h : Bool.and a b = true) : a = true ∧ b = true := by cases a <;> cases b <;> first | exact ⟨rfl, rfl⟩ | cases h
theorem GY {a : AV} (H : HR φ h w) (hx : VR φ a cx) {s d t : TypeId} (hs : P.underlying s = some (.pointer t)) (hd : P.underlying d = some .unsafePointer) (hz : bp P t ≠ 0) (e : GZ a h = .ok v h') :
  Good φ h w v h' ((convert s d cx).run P w) := by
 obtain ⟨j, hj, hjs⟩ := mX hz
 cases a <;> try (cases e; done)
 case fo =>
  obtain ⟨rfl, rfl⟩ := RV.ak (show RV.ok .fo h = .ok v h' from e)
  cases hx
  exact .same H .fo (by simp [convert, ai hs, ai hd, Conv.unsafePointer])
 case ptr i o =>
  obtain ⟨el, n, ex, fl, c, hi, e⟩ := aX (show Obj.aU (ag i h) (fun _ n ex _ _ => @Bool.rec (fun _ => RV) (.err 191) (.ok (.ptr i o) h) (Bool.and ex (Ha o n))) (.err 192) = _ from e)
  obtain ⟨hb, e⟩ := az e
  obtain ⟨rfl, rfl⟩ := RV.ak e
  obtain ⟨hex, hin⟩ := lW hb
  cases hx with
  | ptr _ _ p hp =>
   have hl : live (ag i h) := by rw [hi]; exact aV
   obtain ⟨q, hq, hor⟩ := H.obj i hl
   rw [hp] at hq; cases hq
   rw [hi] at hor
   obtain ⟨rc, fz, hrc, h1, h2, h3, _⟩ := hor
   have h4 := h3 hex
   have ho := lX hin
   refine .same H (.ptr _ _ _ hp) (Lib.run_to_unsafe w (p.addr o) hs hd hj hjs (e := el) (cells := rc.size) ?_ ?_)
   ·show w.shape? p.da = _
    simp [World.shape?, hrc]
   ·show p.base + o < rc.size
    omega
theorem Bt {a : AV} (H : HR φ h w) (hx : VR φ a cx) {s d u : TypeId} (hs : P.underlying s = some .unsafePointer) (hd : P.underlying d = some (.pointer u)) (hz : bp P u ≠ 0) (hlies : liesAt P P.depth u 1 0 u 1 = true) (e : xL u (bp P u) a h = .ok v h') :
  Good φ h w v h' ((convert s d cx).run P w) := by
 obtain ⟨j, hj, hjs⟩ := mX hz
 cases a <;> try (cases e; done)
 case fo =>
  obtain ⟨rfl, rfl⟩ := RV.ak (show RV.ok .fo h = .ok v h' from e)
  cases hx
  exact .same H .fo (by simp [convert, ai hs, ai hd, Conv.unsafePointer])
 case ptr i o =>
  obtain ⟨el, n, ex, fl, c, hi, e⟩ := aX (show Obj.aU (ag i h) (fun el n ex _ _ => @Bool.rec (fun _ => RV) (.err 193) (.ok (.ptr i o) h) (Bool.and ex (Bool.and (Nat.beq o 0) (Bool.and (Nat.beq el u) (Nat.beq n (bp P u)))))) (.err 194) = _ from e)
  obtain ⟨hb, e⟩ := az e
  obtain ⟨rfl, rfl⟩ := RV.ak e
  obtain ⟨hex, hb⟩ := lW hb
  obtain ⟨ho, hb⟩ := lW hb
  obtain ⟨hel, hn⟩ := lW hb
  have ho := Nat.eq_of_beq_eq_true ho
  have hel := Nat.eq_of_beq_eq_true hel
  have hn := Nat.eq_of_beq_eq_true hn
  subst ho hel
  cases hx with
  | ptr _ _ p hp =>
   have hl : live (ag i h) := by rw [hi]; exact aV
   obtain ⟨q, hq, hor⟩ := H.obj i hl
   rw [hp] at hq; cases hq
   rw [hi] at hor
   obtain ⟨rc, fz, hrc, h1, h2, h3, _⟩ := hor
   have h4 := h3 hex
   have hsz : rc.size = P.cellsOf el := by
    have : bp P el = P.cellsOf el := rfl
    omega
   have hpos : 0 < P.cellsOf el := Nat.pos_of_ne_zero hz
   refine .same H (.ptr _ _ _ hp) (Lib.run_from_unsafe w (p.addr 0) hs hd hj (e := el) (cells := rc.size) ?_ ?_)
   ·show w.shape? p.da = _
    simp [World.shape?, hrc]
   ·show liesAt P P.depth el (rc.size / P.cellsOf el) (p.base + 0) el 1 = true
    rw [hsz, Nat.div_self hpos, h4.1]
    exact hlies
theorem Fe {s d : TypeId} {k : CK} {ax : AO} (hop : GQ P s d = some k) (H : HR φ h w) (hx : VR φ (ev ax r) cx) (he : tP k ax r h = .ok v h') : Good φ h w v h' ((convert s d cx).run P w) := by
 unfold GQ at hop
 split at hop
 case h_1 hs hd => cases hop; exact Bu H hx (al hs (by simp)) (al hd (by simp)) he
 case h_2 hs hd =>
  cases hop
  obtain ⟨l, el, he⟩ := cP he
  obtain ⟨rfl, rfl⟩ := RV.ak he
  rw [el] at hx
  refine .same H hx ?_
  obtain ⟨s, rfl, rfl⟩ := hx.db
  simp [convert, ai (al hs (by simp)), ai (al hd (by simp))]
 case h_3 hs hd =>
  split at hop
  ·cases hop
  ·rename_i hz
   cases hop
   exact GY H hx (al hs (by simp)) (al hd (by simp)) hz he
 case h_4 hs hd =>
  split at hop
  ·cases hop
  ·rename_i hz
   cases hop
   simp only [Bool.or_eq_true, decide_eq_true_eq, Bool.not_eq_true', not_or, Bool.not_eq_false] at hz
   exact Bt H hx (al hs (by simp)) (al hd (by simp)) hz.1 hz.2 he
 case h_5 hs hd =>
  split at hop
  ·rename_i hu; cases hop; exact Hb H hx (al hs (by simp)) (al hu (by simp)) (al hd (by simp)) he
  ·cases hop
 case h_6 hs hd =>
  split at hop
  ·rename_i hu; cases hop; exact Hc H hx (al hs (by simp)) (al hu (by simp)) (al hd (by simp)) he
  ·cases hop
 case h_7 hs hd => cases hop; exact Hd H hx (al hs (by simp)) (al hd (by simp)) he
 case h_8 hs hd => cases hop; exact He H hx (al hs (by simp)) (al hd (by simp)) he
 case h_9 => cases hop
variable {P : Program} {φ : aI} {h h' : Hp} {w : World} {v : AV} {r : A2} {cx cy : Value} {t : TypeId} {G : Gl} {ρ : Operand → Value}
theorem Sz {fl : Fl} {t : RV} {n : Nat} (e : (@Bool.rec (fun _ => RV) t (.err n) (Hf fl)) = .ok v h') : Hf fl = false ∧ t = .ok v h' := by
 cases hf : Hf fl with
 | true => rw [hf] at e; cases e
 | false => rw [hf] at e; exact ⟨rfl, e⟩
theorem Bv {e : TypeId} (hc : P.cellsOf e = 1) (count off n : Nat) (hn : off + n ≤ count) : liesAt P P.depth e count off e n = true := by
 have hd : P.depth = (2 * (P.types.size + Made.depth) + 1) + 1 := rfl
 rw [hd]
 simp only [liesAt, Bool.or_eq_true]
 left
 rw [hd]
 simp [rowAt, hc, hn, sameLayout, Nat.mod_one]
theorem Hg {ts : Array TypeId} {pt e ty : TypeId} {k : IntKind} (h0 : ts[0]? = some pt) (hp : P.underlying pt = some (.pointer e)) (hc : P.cellsOf e = 1) (a : Addr) (cells : Nat) (hsh : w.shape? a.block = some (e, cells)) (l : List UInt8) (hl0 : l ≠ []) (hn : a.off + l.length ≤ cells) (h63 : l.length ≤ 9223372036854775807)
  (hcell : ∀ j x, l[j]? = some x → w.cell? (a.add j) = some (.int .u8 x.toNat)) :
  (Builtin.unsafeString_ ts ty #[.pointer (some a), .int k l.length]).run P w = .ok (.string ⟨l.toArray⟩) (w.freeze a l.length) := by
 have hl : l.length ≠ 0 := by simpa using hl0
 have hlb := Lib.run_loadBytes (P := P) w l a .empty hcell
 have hlies := Bv (P := P) hc (cells / P.cellsOf e) a.off l.length (by rw [hc]; simpa using hn)
 have h63' : ¬ (9223372036854775807 : Int) < (l.length : Int) := by omega
 have hdef : Builtin.unsafeString_ ts ty #[.pointer (some a), .int k l.length] =
   (do
    let n ← asInt (.int k l.length)
    let some pt := ts[0]? | stuck "unsafe.String: no argument types"
    if n < 0 then runtimePanic (.error "unsafe.String: len out of range")
    if n > IntKind.i64.max then unsupported (.unsafePointer "String: a length above the largest int")
    if n = 0 then pure (.string .empty)
    else if ← variablesAt a (← elemOf pt) n.toNat then do
     let s ← loadBytes a .empty n.toNat
     freeze a n.toNat
     pure (.string s)
    else unsupported (.unsafePointer "String: not so many bytes at ptr")) := rfl
 rw [hdef]
 have hmax : IntKind.i64.max = 9223372036854775807 := rfl
 have hneg : ¬ (l.length : Int) < 0 := by omega
 simp [asInt, asIntOf, hmax, h63', hneg, hl, variablesAt, hsh, elemOf, run_underlying hp, hlies, hlb, h0]
theorem Ff {ts : Array TypeId} {pt ty : TypeId} {k : IntKind} (h0 : ts[0]? = some pt) (q : Option Addr) : (Builtin.unsafeString_ ts ty #[.pointer q, .int k 0]).run P w = .ok (.string .empty) w := by
 have hmax : IntKind.i64.max = 9223372036854775807 := rfl
 cases q with
 | none =>
  have hdef : Builtin.unsafeString_ ts ty #[.pointer none, .int k 0] =
    (do
     let n ← asInt (.int k 0)
     let some _ := ts[0]? | stuck "unsafe.String: no argument types"
     if n < 0 then runtimePanic (.error "unsafe.String: len out of range")
     if n > IntKind.i64.max then unsupported (.unsafePointer "String: a length above the largest int")
     if n = 0 then pure (.string .empty)
     else runtimePanic (.error "unsafe.String: ptr is nil and len is not zero")) := rfl
  rw [hdef]
  simp [asInt, asIntOf, hmax, h0]
 | some a =>
  have hdef : Builtin.unsafeString_ ts ty #[.pointer (some a), .int k 0] =
    (do
     let n ← asInt (.int k 0)
     let some pt := ts[0]? | stuck "unsafe.String: no argument types"
     if n < 0 then runtimePanic (.error "unsafe.String: len out of range")
     if n > IntKind.i64.max then unsupported (.unsafePointer "String: a length above the largest int")
     if n = 0 then pure (.string .empty)
     else if ← variablesAt a (← elemOf pt) n.toNat then do
      let s ← loadBytes a .empty n.toNat
      freeze a n.toNat
      pure (.string s)
     else unsupported (.unsafePointer "String: not so many bytes at ptr")) := rfl
  rw [hdef]
  simp [asInt, asIntOf, hmax, h0]
theorem Fg {ts : Array TypeId} {ty : TypeId} {x : AO} (H : HR φ h w) (hx : VR φ (ev x r) cx) (e : lY x r h = .ok v h') : Good φ h w v h' ((Builtin.unsafeSliceData_ ts ty #[cx]).run P w) := by
 unfold lY at e
 cases ha : ev x r <;> rw [ha] at e hx <;> try (cases e; done)
 case slice i o n c =>
  cases c with
  | zero => cases e
  | succ c =>
   obtain ⟨rfl, rfl⟩ := RV.ak (show RV.ok (.ptr i o) h = .ok v h' from e)
   cases hx with
   | slice _ _ _ _ p hp => exact .same H (.ptr _ _ _ hp) (Lib.run_unsafeSliceData_row w ts ty _ _ _ (Nat.succ_ne_zero c))
 case fq i o n es =>
  cases n with
  | zero => cases e
  | succ n =>
   obtain ⟨rfl, rfl⟩ := RV.ak (show RV.ok (.ptr i o) h = .ok v h' from e)
   cases hx with
   | fq _ _ _ _ c p a hp h1 h2 h3 h4 h5 h6 =>
    have hc : c ≠ 0 := by omega
    have ea : a = p.addr o := by
     obtain ⟨b, off, sp⟩ := a
     simp only [Place.addr, Addr.mk.injEq]
     exact ⟨h3, h5 hc, h4⟩
    subst ea
    exact .same H (.ptr _ _ _ hp) (Lib.run_unsafeSliceData_row w ts ty _ _ _ hc)
 case ar =>
  obtain ⟨rfl, rfl⟩ := RV.ak (show RV.ok .fo h = .ok v h' from e)
  cases hx
  exact .same H .fo (Lib.run_unsafeSliceData_nil w ts ty 0 0)
theorem Hh : VR φ (.str []) (.string .empty) := .str _ _ rfl
theorem Fh {ts : Array TypeId} {pt e ty : TypeId} {x y : AO} (h0 : ts[0]? = some pt) (hp : P.underlying pt = some (.pointer e)) (hc : P.cellsOf e = 1) (H : HR φ h w) (hx : VR φ (ev x r) cx) (hy : VR φ (ev y r) cy) (he : oC e x y r h = .ok v h') :
  Good φ h w v h' ((Builtin.unsafeString_ ts ty #[cx, cy]).run P w) := by
 unfold oC eK at he
 obtain ⟨k, n, ey, he⟩ := bD he
 rw [ey] at hy
 rw [hy.aW]
 cases n with
 | negSucc n => cases he
 | ofNat n =>
  cases n with
  | zero =>
   have go : ∀ q, cx = .pointer q → RV.ok (.str []) h = .ok v h' → Good φ h w v h' ((Builtin.unsafeString_ ts ty #[cx, .int k (.ofNat 0)]).run P w) := by
    rintro q rfl e
    obtain ⟨rfl, rfl⟩ := RV.ak e
    exact .same H Hh (Ff h0 q)
   cases ha : ev x r <;> rw [ha] at he hx <;> try (cases he; done)
   case ptr i o => cases hx with | ptr _ _ p hp => exact go _ rfl he
   case fo => cases hx; exact go _ rfl he
  | succ n =>
   obtain ⟨i, o, ex, he⟩ := cQ (show AV.fc (ev x r) _ (RV.err 117) = RV.ok v h' from he)
   rw [ex] at hx
   obtain ⟨el, m, xx, fl, c, hi, he⟩ := aX he
   obtain ⟨hro, he⟩ := Sz he
   obtain ⟨hb, he⟩ := az he
   obtain ⟨hb1, hb⟩ := lW hb
   obtain ⟨hb2, hb3⟩ := lW hb
   have hb1 : n ≤ 1048576 := Nat.le_of_ble_eq_true hb1
   have hb2 := Nat.eq_of_beq_eq_true hb2
   have hb3 : o + (n + 1) ≤ m := Nat.le_of_ble_eq_true hb3
   subst hb2
   obtain ⟨bs, hbs, he⟩ := fS he
   obtain ⟨rfl, rfl⟩ := RV.ak he
   cases hx with
   | ptr _ _ p hp' =>
    obtain ⟨l, l1, l2, l3, l4⟩ := H.values hi hp' (n + 1) o hb3
    rw [hbs] at l2
    have hl := nO l2
    subst hl
    have hlen : bs.length = n + 1 := by simpa using l1
    have hl : live (ag i h) := by rw [hi]; exact aV
    obtain ⟨q, hq, hor⟩ := H.obj i hl
    rw [hp'] at hq; cases hq
    rw [hi] at hor
    obtain ⟨rc, fz, hrc, r1, r2, r3, r4, r5, r6⟩ := hor
    have hrun := Hg (w := w) (ty := ty) (k := k) h0 hp hc (p.addr o) rc.size (by show w.shape? p.da = _; simp [World.shape?, hrc]) bs (by intro g; rw [g] at hlen; cases hlen)
     (by show p.base + o + bs.length ≤ rc.size; omega) (by omega) (fun j x hj => by
      have hj' : j < bs.length := (List.getElem?_eq_some_iff.1 hj).1
      have hx' := (List.getElem?_eq_some_iff.1 hj).2
      have := l4 j (by simpa using hj')
      rw [this]
      simp [hx'])
    have hn' : (Int.ofNat (n + 1)) = ((bs.length : Nat) : Int) := by rw [hlen]; rfl
    have hne : bs.length ≠ 0 := by omega
    have hheap : (w.freeze (p.addr o) bs.length).heap = w.heap.modify p.da fun
      | .cells c elem (lo, hi) => .cells c elem (if lo == hi then (p.base + o, p.base + o + bs.length) else (min lo (p.base + o), max hi (p.base + o + bs.length)))
      | o => o := by
     unfold World.freeze
     rw [if_neg hne]
     rfl
    have hsz : (w.freeze (p.addr o) bs.length).heap.size = w.heap.size := by rw [hheap]; simp
    have hother : ∀ b, b ≠ p.da → (w.freeze (p.addr o) bs.length).heap[b]? = w.heap[b]? := fun b hb => by
     rw [hheap, Array.getElem?_modify, if_neg (Ne.symm hb)]
    have hO : OR φ (.cells e m xx .Bw c) p ((w.freeze (p.addr o) bs.length).heap[p.da]?) := by
     rw [hheap, Array.getElem?_modify, if_pos rfl, hrc]
     obtain ⟨lo, hi2⟩ := fz
     exact ⟨rc, _, rfl, r1, r2, r3, r4, r5, trivial⟩
    have HH := H.set ⟨hl, by rw [hi]; exact hro⟩ hp' hsz hother hO (by simp)
    refine ⟨_, _, φ, by rw [hn']; exact hrun, .str _ _ (by simp), HH, φ.le_refl, ?_, fun j q hj hq => ?_⟩
    ·refine gy.set ⟨hl, by rw [hi]; exact hro⟩ hp' hsz hother ?_ ?_ ?_ <;> (unfold World.freeze; rw [if_neg hne])
    ·rw [aF] at hj
     by_cases ej : j = i
     ·subst ej; exact .inl ⟨hl, hq, fun _ => ⟨hl, by rw [hi]; exact hro⟩⟩
     ·rw [if_neg ej] at hj; exact .inl ⟨hj, hq, fun x => by rw [aF, if_neg ej] at x; exact x⟩
variable {P : Program} {φ : aI} {h h' : Hp} {w : World} {v : AV} {r : A2} {x y : AO} {cx cy : Value} {ty : TypeId}
theorem Uq {e u : TypeId} {i : TypeInfo} {zv : Value} {z : List AV} {k kn : IntKind} (hu : P.underlying u = some (.int kn)) (hi : P.info? e = some i) (hz : i.zero = some zv) (hzs : zv.cells.size = i.size) (hby : i.bytes ≤ 1048576) (hes : 0 < i.size)
  (g1 : cL φ z zv.cells.toList) (g2 : ∀ c, c ∈ zv.cells.toList → c.oneCell' = true) (n : Nat) (hn : n ≤ 1048576) :
  Src P φ w e u i.size n (dM n z) (.int k n) (Builtin.zeroCells zv.cells n).toList := by
 obtain ⟨k1, k2⟩ := eL g1 g2 n (n * i.size) (by rw [hzs])
 have hzc : (Builtin.zeroCells zv.cells n).toList = ((Array.range (n * i.size)).map (zv.cells[· % zv.cells.size]!)).toList := by
  simp [Builtin.zeroCells, hzs]
 have hw : IntKind.i64.wrap (n : Int) = n := by rw [IntKind.wrap_i64]; omega
 have hneg : ¬ ((n : Int) < 0) := by omega
 have hbig : n * i.bytes ≤ 1048576 * 1048576 := Nat.mul_le_mul hn hby
 have h48i : ¬ (281474976710656 < (n : Int) * (i.bytes : Int)) := by
  rw [← Int.natCast_mul]
  omega
 refine ⟨?_, ?_, ?_, ?_, ?_⟩
 ·intro t ty i' ht hi' hs base m c hc w' h1 h2
  rw [hi] at hi'; cases hi'
  by_cases h0 : n = 0
  ·subst h0
   have hw0 : IntKind.i64.wrap 0 = 0 := rfl
   have hc0 : m ≤ c := hc
   cases base with
   | none =>
    rw [h2 rfl]
    simp [Builtin.append_, ai ht, ai hu, aP hi, bM hi, asInt, asIntOf, hw0, hc0]
   | some a =>
    have h1 := h1 a rfl
    simp [Builtin.zeroCells] at h1
    simp [Builtin.append_, ai ht, ai hu, aP hi, bM hi, asInt, asIntOf, hw0, hc0, h1]
  ·have hns : ¬ (n * i.size = 0) := Nat.mul_ne_zero h0 (by omega)
   cases base with
   | none =>
    rw [h2 rfl]
    simp [Builtin.append_, ai ht, ai hu, aP hi, bM hi, zeroValue, hz, asInt, asIntOf, hw, hneg, h48i, hc, h0, hns, hes]
   | some a =>
    simp [Builtin.append_, ai ht, ai hu, aP hi, bM hi, zeroValue, hz, asInt, asIntOf, hw, hneg, h48i, hc, h0, hns, hes, h1 a rfl]
 ·intro t ty i' z' ht hi' hs hz' base m c hc os ho hb h63
  rw [hi] at hi'; cases hi'
  rw [hz] at hz'; cases hz'
  by_cases h0 : n = 0
  ·subst h0
   have hw0 : IntKind.i64.wrap 0 = 0 := rfl
   have hc0 : ¬ m ≤ c := hc
   have h63' : ¬ (9223372036854775807 < ((m : Int))) := by omega
   have h48 := growslice_fits (old := c) (show c < m + 0 by omega) hb
   have h48' : ¬ (281474976710656 < Builtin.nextslicecap m c * i.bytes) := by simpa using h48
   have hold := ho w.drew rfl
   simp only [grown, Array.append_assoc]
   simp [Builtin.append_, ai ht, ai hu, aP hi, bM hi, zeroValue, hz, asInt, asIntOf, hw0, hc0, h63', h48', Question.forced, hold, newRow, dT, Builtin.zeroCells]
  ·have hns : ¬ (n * i.size = 0) := Nat.mul_ne_zero h0 (by omega)
   have h63' : ¬ (9223372036854775807 < ((m : Int) + (n : Int))) := by omega
   have h48 := growslice_fits (old := c) (show c < m + n by omega) hb
   have h48' : ¬ (281474976710656 < Builtin.nextslicecap (m + n) c * i.bytes) := by omega
   have hold := ho w.drew rfl
   simp only [grown, Array.append_assoc]
   simp [Builtin.append_, ai ht, ai hu, aP hi, bM hi, zeroValue, hz, asInt, asIntOf, hw, hneg, h48i, hc, h0, hns, hes, h63', h48', Question.forced, hold, newRow, dT]
 ·rw [hzc]; simp
 ·rw [hzc]; exact k1
 ·rw [hzc]; exact k2
theorem Fi {t u e : TypeId} {z : List AV} {kn : IntKind} (H : HR φ h w) (hx : VR φ (ev x r) cx) (hy : VR φ (ev y r) cy) (ht : P.underlying t = some (.slice e)) (hu : P.underlying u = some (.int kn)) (hg : jE P e = true) (hes : bp P e ≠ 0) (hz : gw P e = some z)
  (he : qD e (bp P e) z x y r h = .ok v h') : Good φ h w v h' ((Builtin.append_ #[t, u] ty #[cx, cy]).run P w) := by
 obtain ⟨i, zv, hi, hzv, hzs, hby⟩ := mY hg
 rw [cR hi] at hes he
 unfold qD at he
 obtain ⟨k, n, e1, he⟩ := dc he
 obtain ⟨hn, he⟩ := az he
 have hn : n * i.size ≤ 1048576 := Nat.le_of_ble_eq_true hn
 have hn : n ≤ 1048576 := Nat.le_trans (Nat.le_mul_of_pos_right n (by omega)) hn
 rw [e1] at hy
 rw [hy.aW]
 obtain ⟨i', zv', hi', hzv', g1, g2⟩ := gz hz φ
 rw [hi] at hi'; cases hi'
 rw [hzv] at hzv'; cases hzv'
 exact qE H ht hi hzv hzs hby (by omega) (Uq hu hi hzv hzs hby (by omega) g1 g2 n hn) hx he
variable {P : Program} {φ : aI} {h h' : Hp} {w : World} {v : AV} {r : A2} {cx cy : Value} {t : TypeId} {G : Gl} {ρ : Operand → Value}
theorem cL.mZ {x : AO} {vs : List Value} (hx : cL φ (fL [x] r) vs) : ∃ c, vs = [c] ∧ VR φ (ev x r) c := by
 cases hx with
 | cons a c as cs h1 h2 => cases h2; exact ⟨c, rfl, h1⟩
theorem cL.pv {x y : AO} {vs : List Value} (hx : cL φ (fL [x, y] r) vs) : ∃ c d, vs = [c, d] ∧ VR φ (ev x r) c ∧ VR φ (ev y r) d := by
 cases hx with
 | cons a c as cs h1 h2 => cases h2 with
  | cons b d bs ds h3 h4 => cases h4; exact ⟨c, d, rfl, h1, h3⟩
theorem ft {ts : Array TypeId} {t : TypeId} {l : List TypeId} (e : ts.toList = t :: l) : ts[0]? = some t := by
 rw [← Array.getElem?_toList, e]; rfl
theorem lZ {t : TypeId} {kt : KT} (e : EZ P t = some kt) : ∃ k e, P.underlying t = some (.map k e) ∧ ov P k = some kt := by
 unfold EZ at e
 split at e
 ·exact ⟨_, _, by assumption, e⟩
 ·cases e
theorem xM {b : Builtin} {ts : Array TypeId} {ty : TypeId} {cs : Array Bool} {xs : List AO} {vs : List Value} {op : oZ} (hop : jS P b ts.toList xs = some op) (H : HR φ h w) (hxs : cL φ (fL xs r) vs) (he : op.run r h = .ok v h') :
  ∃ s : Sem Value, builtin b ts ty cs vs.toArray = (do pure (.value (← s))) ∧ Good φ h w v h' (s.run P w) := by
 unfold jS at hop
 split at hop
 case h_1 t l x ht =>
  obtain ⟨c, rfl, h1⟩ := hxs.mZ
  refine ⟨_, rfl, ?_⟩
  split at hop
  case h_1 hu => cases hop; exact Fj (ft ht) H h1 (al hu (by simp)) he
  case h_2 hu => cases hop; exact Hi (ft ht) H h1 ⟨_, al hu (by simp)⟩ he
  case h_3 hu => cases hop; exact Fk (ft ht) H h1 (al hu (by simp)) he
  case h_4 hu =>
   cases hop
   obtain ⟨rfl, rfl⟩ := RV.ak he
   exact .same H (.int _ _) (by simp [Builtin.len_, ft ht, ai (al hu (by simp)), goInt])
  case h_5 hu =>
   split at hop
   ·rename_i hu2
    cases hop
    obtain ⟨rfl, rfl⟩ := RV.ak he
    exact .same H (.int _ _) (by simp [Builtin.len_, ft ht, ai (al hu (by simp)), ai (al hu2 (by simp)), goInt])
   ·cases hop
  case h_6 => cases hop
 case h_2 t l x ht =>
  obtain ⟨c, rfl, h1⟩ := hxs.mZ
  refine ⟨_, rfl, ?_⟩
  split at hop
  case h_1 hu => cases hop; exact Hj (ft ht) H h1 (al hu (by simp)) he
  case h_2 hu =>
   cases hop
   obtain ⟨rfl, rfl⟩ := RV.ak he
   exact .same H (.int _ _) (by simp [Builtin.cap_, ft ht, ai (al hu (by simp)), goInt])
  case h_3 => cases hop
 case h_3 t u x y ht =>
  obtain ⟨c, d, rfl, h1, h2⟩ := hxs.pv
  refine ⟨_, rfl, ?_⟩
  have hts : ts = #[t, u] := by apply Array.ext'; rw [ht]
  subst hts
  split at hop
  case h_1 hu hv =>
   split at hop
   ·rename_i hg
    cases hop
    simp only [Bool.and_eq_true, decide_eq_true_eq] at hg
    exact Fm H h1 h2 (al hu (by simp)) (al hv (by simp)) hg.2 hg.1 he
   ·cases hop
  case h_2 hu hv =>
   split at hop
   ·cases hop
   ·rename_i hg
    cases hop
    simp only [Bool.or_eq_true, decide_eq_true_eq, Bool.not_eq_true', not_or, Bool.not_eq_false] at hg
    exact Hk H h1 h2 (al hu (by simp)) (al hv (by simp)) hg.2 hg.1 he
  case h_3 hu hv =>
   split at hop
   ·cases hop
   ·rename_i hg
    simp only [Option.bind_eq_some_iff] at hop
    obtain ⟨z, hz, hop⟩ := hop
    split at hop
    ·cases hop
    ·cases hop
     simp only [Bool.or_eq_true, decide_eq_true_eq, Bool.not_eq_true', not_or, Bool.not_eq_false] at hg
     exact Fi H h1 h2 (al hu (by simp)) (al hv (by simp)) hg.2 hg.1 hz he
  case h_4 => cases hop
 case h_4 t l x y ht =>
  obtain ⟨c, d, rfl, h1, h2⟩ := hxs.pv
  refine ⟨_, rfl, ?_⟩
  split at hop
  case h_1 e hu =>
   split at hop
   ·cases hop
   ·rename_i hs
    cases hop
    obtain ⟨i, hi, hs'⟩ := mX hs
    rw [cR hi] at he
    exact Hl (ft ht) H h1 h2 (al hu (by simp)) hi (by omega) he
  case h_2 => cases hop
 case h_5 t l x ht =>
  obtain ⟨c, rfl, h1⟩ := hxs.mZ
  refine ⟨_, rfl, ?_⟩
  split at hop
  case h_1 e hu =>
   split at hop
   ·cases hop
   ·simp only [Option.bind_eq_some_iff] at hop
    obtain ⟨z, hz, hop⟩ := hop
    split at hop
    ·cases hop
    ·cases hop
     exact Hm (ft ht) H h1 (al hu (by simp)) hz he
  case h_2 => cases hop
 case h_6 t l x y ht =>
  obtain ⟨c, d, rfl, h1, h2⟩ := hxs.pv
  refine ⟨_, rfl, ?_⟩
  simp only [bind, Option.bind_eq_some_iff, Option.some.injEq] at hop
  obtain ⟨kt, hk, rfl⟩ := hop
  obtain ⟨k, e, hu, hk⟩ := lZ hk
  exact Hn (ft ht) H h1 h2 hu hk he
 case h_7 => cases hop; exact ⟨_, rfl, zt (ts := ts) (ty := ty) (mn := false) H hxs he⟩
 case h_8 => cases hop; exact ⟨_, rfl, zt (ts := ts) (ty := ty) (mn := true) H hxs he⟩
 case h_9 x =>
  obtain ⟨c, rfl, h1⟩ := hxs.mZ
  cases hop
  exact ⟨_, rfl, Fg H h1 he⟩
 case h_10 x =>
  obtain ⟨c, rfl, h1⟩ := hxs.mZ
  cases hop
  exact ⟨_, rfl, Fo H h1 he⟩
 case h_11 x =>
  obtain ⟨c, rfl, h1⟩ := hxs.mZ
  cases hop
  exact ⟨_, rfl, Fp H h1 he⟩
 case h_12 t l x y ht =>
  obtain ⟨c, d, rfl, h1, h2⟩ := hxs.pv
  refine ⟨_, rfl, ?_⟩
  split at hop
  case h_1 e hu =>
   split at hop
   ·rename_i hs
    cases hop
    exact Fh (ft ht) (al hu (by simp)) hs H h1 h2 he
   ·cases hop
  case h_2 => cases hop
 case h_13 t l x y ht =>
  obtain ⟨c, d, rfl, h1, h2⟩ := hxs.pv
  refine ⟨_, rfl, ?_⟩
  split at hop
  case h_1 => cases hop; exact Fq H h1 h2 he
  case h_2 => cases hop
 case h_14 => cases hop
variable {P : Program} {φ : aI} {h h' : Hp} {w : World} {v : AV} {r : A2} {cx cy : Value} {t : TypeId} {G : Gl} {ρ : Operand → Value}
theorem gW {α : Type} {o : Option α} (h : ¬ o.isNone = true) : ∃ a, o = some a := by cases o with
 | none => exact absurd rfl h
 | some a => exact ⟨a, rfl⟩
def cq (φ : aI) (h : Hp) (w : World) (v : AV) (h' : Hp) (res : Result Next) : Prop :=
 ∃ nx w' φ', res = .ok nx w' ∧ ((∃ cv, nx = .value cv ∧ VR φ' v cv) ∨ (nx = .skip ∧ v = .undef)) ∧ HR φ' h' w' ∧ Step φ h w φ' h' w'
theorem Good.jT {s : Sem Value} (g : Good φ h w v h' (s.run P w)) : cq φ h w v h' ((do pure (.value (← s)) : Sem Next).run P w) := by
 obtain ⟨cv, w', φ', e, h1, h2, h3⟩ := g
 exact ⟨.value cv, w', φ', by simp only [Sem.run_bind, e, Result.andThen_ok, Sem.run_pure], .inl ⟨cv, rfl, h1⟩, h2, h3⟩
theorem vS.jT {s : Sem Unit} (hv : v = .undef) (g : vS φ h w h' (s.run P w)) : cq φ h w v h' ((do s; pure .skip : Sem Next).run P w) := by
 obtain ⟨w', φ', e, h2, h3⟩ := g
 exact ⟨.skip, w', φ', by simp only [Sem.run_bind, e, Result.andThen_ok, Sem.run_pure], .inr ⟨rfl, hv⟩, h2, h3⟩
theorem cq.same {nx : Next} {res : Result Next} (H : HR φ h w) (hn : (∃ cv, nx = .value cv ∧ VR φ v cv)) (e : res = .ok nx w) : cq φ h w v h res := ⟨nx, w, φ, e, .inl hn, H, .refl _ _ _⟩
section
variable {dst : Option Tmp} {type : TypeId} {pos : String} {after : Array Edge} {guard : Option (Nat × Bool)} {names : List String} {op : oZ}
variable (hρ : ∀ q x, cO G q = some x → VR φ (ev x r) (ρ q))
include hρ
theorem ma {o : Option Operand} {x : OA} (e : LO G o = some x) : Ho φ r x (o.map ρ) := by
 cases o with
 | none => cases e; trivial
 | some q =>
  simp only [LO, Option.map_eq_some_iff] at e
  obtain ⟨y, hy, rfl⟩ := e
  exact hρ q y hy
theorem SA {x : Operand} (hop : cE P G names ⟨dst, .move x, type, pos, after, guard⟩ = some (.op op)) (H : HR φ h w) (he : op.run r h = .ok v h') : cq φ h w v h' ((execOp ρ ⟨dst, .move x, type, pos, after, guard⟩).run P w) := by
 simp only [cE, bind, Option.bind_eq_some_iff, Option.some.injEq, AI.op.injEq] at hop
 obtain ⟨a, ha, rfl⟩ := hop
 obtain ⟨rfl, rfl⟩ := RV.ak he
 exact .same H ⟨_, rfl, hρ _ _ ha⟩ rfl
theorem SB {x : Operand} (hop : cE P G names ⟨dst, .assign x, type, pos, after, guard⟩ = some (.op op)) (H : HR φ h w) (he : op.run r h = .ok v h') : cq φ h w v h' ((execOp ρ ⟨dst, .assign x, type, pos, after, guard⟩).run P w) := by
 simp only [cE, bind, Option.bind_eq_some_iff, Option.some.injEq, AI.op.injEq] at hop
 obtain ⟨a, ha, rfl⟩ := hop
 obtain ⟨rfl, rfl⟩ := RV.ak he
 exact .same H ⟨_, rfl, hρ _ _ ha⟩ rfl
theorem Mg {a b c : Operand} (hop : cE P G names ⟨dst, .pick c a b, type, pos, after, guard⟩ = some (.op op)) (H : HR φ h w) (he : op.run r h = .ok v h') : cq φ h w v h' ((execOp ρ ⟨dst, .pick c a b, type, pos, after, guard⟩).run P w) := by
 simp only [cE, bind, Option.bind_eq_some_iff, Option.some.injEq, AI.op.injEq] at hop
 obtain ⟨x, hx, y, hy, z, hz, rfl⟩ := hop
 obtain ⟨cv, w', φ', e, h1, h2, h3⟩ := Fs (P := P) H (hρ _ _ hx) (hρ _ _ hy) (hρ _ _ hz) he
 refine ⟨.value cv, w', φ', ?_, .inl ⟨cv, rfl, h1⟩, h2, h3⟩
 simp only [Sem.run_bind, Sem.run_pure] at e
 simp only [execOp, Sem.run_bind, Sem.run_pure]
 cases hb : (asBool (ρ c)).run P w with
 | ok t w1 => rw [hb] at e; simp only [Result.andThen_ok] at e ⊢; obtain ⟨rfl, rfl⟩ := Result.ok.inj e; rfl
 | halt x w1 => rw [hb] at e; cases e
theorem Hq {e : TypeId} (hop : cE P G names ⟨dst, .alloc e, type, pos, after, guard⟩ = some (.op op)) (H : HR φ h w) (he : op.run r h = .ok v h') : cq φ h w v h' ((execOp ρ ⟨dst, .alloc e, type, pos, after, guard⟩).run P w) := by
 simp only [cE, bind, Option.bind_eq_some_iff, Option.some.injEq, AI.op.injEq] at hop
 obtain ⟨z, hz, rfl⟩ := hop
 exact (Bx (r := r) H hz he).jT
theorem Qd {e : TypeId} {x : Operand} (hop : cE P G names ⟨dst, .box e x, type, pos, after, guard⟩ = some (.op op)) (H : HR φ h w) (he : op.run r h = .ok v h') : cq φ h w v h' ((execOp ρ ⟨dst, .box e x, type, pos, after, guard⟩).run P w) := by
 simp only [cE, bind, Option.bind_eq_some_iff, Option.some.injEq, AI.op.injEq] at hop
 obtain ⟨z, hz, rfl⟩ := hop
 exact (Hr H (hρ _ _ hz) he).jT
theorem qF (ps : Array (Nat × Operand)) : (ps.map fun (i, x) => (i, ρ x)) = (ps.toList.map fun q => (q.1, ρ q.2)).toArray := by
 apply Array.ext'
 simp
theorem Hs {t : TypeId} {ps : Array (Nat × Operand)} (hop : cE P G names ⟨dst, .build t ps, type, pos, after, guard⟩ = some (.op op)) (H : HR φ h w) (he : op.run r h = .ok v h') : cq φ h w v h' ((execOp ρ ⟨dst, .build t ps, type, pos, after, guard⟩).run P w) := by
 simp only [cE, bind, Option.bind_eq_some_iff] at hop
 obtain ⟨z, hz, hop⟩ := hop
 refine Good.jT ?_
 rw [qF hρ ps]
 split at hop
 ·rename_i fs hu
  split at hop
  ·rename_i hall
   simp only [Option.bind_eq_some_iff, Option.some.injEq, AI.op.injEq] at hop
   obtain ⟨l, hl, rfl⟩ := hop
   obtain ⟨g1, g2, g3⟩ := jU (φ := φ) (r := r) (ρ := ρ) hl (fun q _ a ha => hρ _ _ ha)
   exact tS H hz (by simpa using g1) g2 g3 (.inl ⟨fs, al hu (by simp), fun f hf => Array.all_eq_true_iff_forall_mem.1 hall f hf, rfl⟩) he
  ·cases hop
 ·rename_i n e hu
  split at hop
  ·rename_i hall
   simp only [Option.bind_eq_some_iff, Option.some.injEq, AI.op.injEq] at hop
   obtain ⟨l, hl, rfl⟩ := hop
   obtain ⟨g1, g2, g3⟩ := jU (φ := φ) (r := r) (ρ := ρ) hl (fun q _ a ha => hρ _ _ ha)
   exact tS H hz (by simpa using g1) g2 g3 (.inr ⟨n, e, al hu (by simp), hall, rfl⟩) he
  ·cases hop
 ·cases hop
theorem Ft {t : TypeId} {n : Nat} {ps : Array (Nat × Operand)} (hop : cE P G names ⟨dst, .buildSlice t n ps, type, pos, after, guard⟩ = some (.op op)) (H : HR φ h w) (he : op.run r h = .ok v h') : cq φ h w v h' ((execOp ρ ⟨dst, .buildSlice t n ps, type, pos, after, guard⟩).run P w) := by
 simp only [cE] at hop
 split at hop
 ·rename_i e hu
  simp only [bind, Option.bind_eq_some_iff] at hop
  obtain ⟨z, hz, hop⟩ := hop
  split at hop
  ·simp at hop
  ·rename_i hs
   simp only [not_or, Decidable.not_not] at hs
   simp only [bind, pure, Option.bind_some, Option.bind_eq_some_iff, Option.some.injEq, AI.op.injEq] at hop
   obtain ⟨l, hl, rfl⟩ := hop
   refine Good.jT ?_
   rw [qF hρ ps]
   obtain ⟨g1, g2, g3⟩ := jU (φ := φ) (r := r) (ρ := ρ) hl (fun q _ a ha => hρ _ _ ha)
   exact zu H (al hu (by simp)) hz hs.2 hs.1 (by simpa using g1) g2 g3 he
 ·cases hop
theorem Mh {t : TypeId} {x : Operand} (hop : cE P G names ⟨dst, .load t x, type, pos, after, guard⟩ = some (.op op)) (H : HR φ h w) (he : op.run r h = .ok v h') : cq φ h w v h' ((execOp ρ ⟨dst, .load t x, type, pos, after, guard⟩).run P w) := by
 simp only [cE] at hop
 split at hop
 ·simp at hop
 ·rename_i hu
  obtain ⟨d, hd⟩ := gW hu
  split at hop
  ·rename_i ha
   simp only [bind, pure, Option.bind_some, Option.bind_eq_some_iff, Option.some.injEq, AI.op.injEq] at hop
   obtain ⟨a, hx, rfl⟩ := hop
   exact (Ht H (hρ _ _ hx) hd ha rfl he).jT
  ·rename_i ha
   simp only [bind, pure, Option.bind_some, Option.bind_eq_some_iff, Option.some.injEq, AI.op.injEq] at hop
   obtain ⟨a, hx, rfl⟩ := hop
   exact (Hu H (hρ _ _ hx) hd (by simpa using ha) he).jT
theorem Hv {t : TypeId} {x y : Operand} (hop : cE P G names ⟨dst, .store t x y, type, pos, after, guard⟩ = some (.op op)) (H : HR φ h w) (he : op.run r h = .ok v h') : cq φ h w v h' ((execOp ρ ⟨dst, .store t x y, type, pos, after, guard⟩).run P w) := by
 simp only [cE] at hop
 split at hop
 ·simp at hop
 ·rename_i hu
  obtain ⟨i, hi⟩ := gW hu
  split at hop
  ·simp only [bind, pure, Option.bind_some, Option.bind_eq_some_iff, Option.some.injEq, AI.op.injEq] at hop
   obtain ⟨a, hx, b, hy, rfl⟩ := hop
   obtain ⟨g1, g2⟩ := Hw H (hρ _ _ hx) (hρ _ _ hy) hi rfl he
   exact g2.jT g1
  ·split at hop
   ·rename_i hs
    simp only [bind, pure, Option.bind_some, Option.bind_eq_some_iff, Option.some.injEq, AI.op.injEq] at hop
    obtain ⟨a, hx, b, hy, rfl⟩ := hop
    obtain ⟨g1, g2⟩ := Hx H (hρ _ _ hx) (hρ _ _ hy) hi (by rw [← cR hi]; exact hs) he
    exact g2.jT g1
   ·simp at hop
theorem Mi {x : Operand} (hop : cE P G names ⟨dst, .nilCheck x, type, pos, after, guard⟩ = some (.op op)) (H : HR φ h w) (he : op.run r h = .ok v h') : cq φ h w v h' ((execOp ρ ⟨dst, .nilCheck x, type, pos, after, guard⟩).run P w) := by
 simp only [cE, bind, Option.bind_eq_some_iff, Option.some.injEq, AI.op.injEq] at hop
 obtain ⟨a, ha, rfl⟩ := hop
 have hv := hρ _ _ ha
 obtain ⟨g1, g2, g3, g4, g5⟩ := Fu H hv he
 subst g2
 rw [g1]
 refine .same H ⟨_, rfl, hv⟩ ?_
 have hm : ∀ n f c, ρ x ≠ .func (.method n) f c := by
  intro n f c e
  rw [e] at hv
  change (OP.rec (sA (ev a r) h') (fun i o => .ok (.ptr i o) h') (ev a r).gS : RV) = _ at he
  generalize ev a r = z at hv he
  cases hv
  cases he
 simp only [execOp]
 cases hr : ρ x with
 | pointer p => cases p with
  | none => exact absurd hr g3
  | some p => rfl
 | nilIface => exact absurd hr g4
 | nilFunc => exact absurd hr g5
 | func fn f c => cases fn <;> first | exact absurd hr (hm _ _ _) | rfl
 | _ => rfl
theorem Qe {o : BinOp} {t u : TypeId} {x y : Operand} (hc : ∀ c, ρ (.const c) = c) (hop : cE P G names ⟨dst, .binOp o t x y u, type, pos, after, guard⟩ = some (.op op)) (H : HR φ h w) (he : op.run r h = .ok v h') : cq φ h w v h' ((execOp ρ ⟨dst, .binOp o t x y u, type, pos, after, guard⟩).run P w) := by
 simp only [cE] at hop
 split at hop
 ·rename_i k hk
  simp only [bind, Option.bind_eq_some_iff, Option.some.injEq, AI.op.injEq] at hop
  obtain ⟨a, hx, b, hy, rfl⟩ := hop
  exact (Hy hc hk H (hρ _ _ hx) (hρ _ _ hy) he).jT
 ·split at hop
  ·rename_i k hk
   simp only [bind, Option.bind_eq_some_iff, Option.some.injEq, AI.op.injEq] at hop
   obtain ⟨a, hx, b, hy, rfl⟩ := hop
   exact (pr (k := k) false hc hk H (hρ _ _ hx) he).jT
  ·rename_i k hk
   simp only [bind, Option.bind_eq_some_iff, Option.some.injEq, AI.op.injEq] at hop
   obtain ⟨a, hx, b, hy, rfl⟩ := hop
   exact (pr (k := k) true hc hk H (hρ _ _ hx) he).jT
  ·cases hop
theorem SC {o : UnOp} {t : TypeId} {x : Operand} (hop : cE P G names ⟨dst, .unOp o t x, type, pos, after, guard⟩ = some (.op op)) (H : HR φ h w) (he : op.run r h = .ok v h') : cq φ h w v h' ((execOp ρ ⟨dst, .unOp o t x, type, pos, after, guard⟩).run P w) := by
 cases o <;> simp only [cE, bind, Option.bind_eq_some_iff, Option.some.injEq, AI.op.injEq] at hop
 case plus => cases hop
 all_goals obtain ⟨a, hx, rfl⟩ := hop
 all_goals first | exact (Hz H (hρ _ _ hx) he).jT | exact (HB H (hρ _ _ hx) he).jT | exact (HC H (hρ _ _ hx) he).jT
theorem Mj {s d : TypeId} {x : Operand} (hop : cE P G names ⟨dst, .convert s d x, type, pos, after, guard⟩ = some (.op op)) (H : HR φ h w) (he : op.run r h = .ok v h') : cq φ h w v h' ((execOp ρ ⟨dst, .convert s d x, type, pos, after, guard⟩).run P w) := by
 simp only [cE, bind, Option.bind_eq_some_iff, Option.some.injEq, AI.op.injEq] at hop
 obtain ⟨k, hk, a, ha, rfl⟩ := hop
 exact (Fe hk H (hρ _ _ ha) he).jT
end
variable {P : Program} {φ : aI} {h h' : Hp} {w : World} {v : AV} {r : A2} {cx cy : Value} {t : TypeId} {G : Gl} {ρ : Operand → Value}
theorem xN {t : TypeId} {k : IntKind} {n : Int} {a b : TypeId} (ht : P.underlying t = some (.map a b)) (H : HR φ h w) (he : xO r h = .ok v h') : Good φ h w v h' ((Instr.makeMap t (some (.int k n))).run P w) := by
 have hrun : (Instr.makeMap t (some (.int k n))).run P w = (Instr.makeMap t none).run P w := by
  have ha : (asInt (.int k n)).run P w = .ok n w := rfl
  simp [Instr.makeMap, ai ht, ha]
 rw [hrun]
 exact tU H he
section
variable {dst : Option Tmp} {type : TypeId} {pos : String} {after : Array Edge} {guard : Option (Nat × Bool)} {names : List String} {op : oZ}
variable (hρ : ∀ q x, cO G q = some x → VR φ (ev x r) (ρ q))
include hρ
theorem Qf {t : TypeId} {x : Operand} (hop : cE P G names ⟨dst, .makeInterface t x, type, pos, after, guard⟩ = some (.op op)) (H : HR φ h w) (he : op.run r h = .ok v h') : cq φ h w v h' ((execOp ρ ⟨dst, .makeInterface t x, type, pos, after, guard⟩).run P w) := by
 cases hu : P.underlying t with
 | none => simp [cE, hu] at hop
 | some d =>
  have hn : ∀ m, d ≠ .interface m := by
   intro m e
   subst e
   simp [cE, hu] at hop
  have hop : ∃ a, cO G x = some a ∧ oZ.OK t a = op := by
   cases d <;> simp only [cE, hu, bind, Option.bind_eq_some_iff, Option.some.injEq, AI.op.injEq] at hop <;> first | exact hop | exact absurd rfl (hn _)
  obtain ⟨a, hx, rfl⟩ := hop
  exact (HD H (hρ _ _ hx) hu hn he).jT
theorem Qg {fn : Fn} {first cap : Array Operand} (hop : cE P G names ⟨dst, .makeFunc fn first cap, type, pos, after, guard⟩ = some (.op op)) (H : HR φ h w) (he : op.run r h = .ok v h') : cq φ h w v h' ((execOp ρ ⟨dst, .makeFunc fn first cap, type, pos, after, guard⟩).run P w) := by
  cases fn <;> simp only [cE] at hop
  case func f =>
    split at hop
    · rename_i hf
      simp only [bind, Option.bind_eq_some_iff, Option.some.injEq, AI.op.injEq] at hop
      obtain ⟨l, hl, rfl⟩ := hop
      have g1 := na (φ := φ) (r := r) (ρ := ρ) hl (fun o _ a ha => hρ _ _ ha)
      have e1 : first.map ρ = #[] := by have : first = #[] := by simpa using hf
                                        subst this; simp
      have e2 : cap.map ρ = (cap.toList.map ρ).toArray := by apply Array.ext'; simp
      show cq φ h w v h' ((do pure (.value (← Instr.makeFunc (.func f) (first.map ρ) (cap.map ρ))) : Sem Next).run P w)
      rw [e1, e2]
      exact (HE H g1 he).jT
    · cases hop
  all_goals cases hop
theorem HF {t : TypeId} {re : Option Operand} (hc : ∀ c, ρ (.const c) = c) (hop : cE P G names ⟨dst, .makeMap t re, type, pos, after, guard⟩ = some (.op op)) (H : HR φ h w) (he : op.run r h = .ok v h') : cq φ h w v h' ((execOp ρ ⟨dst, .makeMap t re, type, pos, after, guard⟩).run P w) := by
 cases re with
 | none =>
  simp only [cE, Option.some.injEq, AI.op.injEq] at hop
  subst hop
  exact (tU (r := r) H he).jT
 | some q =>
  cases q <;> (try (simp [cE] at hop; done))
  rename_i cv
  cases cv <;> (try (simp [cE] at hop; done))
  simp only [cE] at hop
  split at hop
  ·rename_i hu
   cases hop
   refine Good.jT ?_
   show Good φ h w v h' ((Instr.makeMap t (some (ρ (.const (.int _ _))))).run P w)
   rw [hc]
   exact xN (r := r) (al hu (by simp)) H he
  ·cases hop
theorem Bz {t : TypeId} {x y : Operand} (hop : cE P G names ⟨dst, .makeSlice t x y, type, pos, after, guard⟩ = some (.op op)) (H : HR φ h w) (he : op.run r h = .ok v h') : cq φ h w v h' ((execOp ρ ⟨dst, .makeSlice t x y, type, pos, after, guard⟩).run P w) := by
 simp only [cE] at hop
 split at hop
 ·rename_i e hu
  simp only [bind, Option.bind_eq_some_iff] at hop
  obtain ⟨z, hz, hop⟩ := hop
  split at hop
  ·simp at hop
  ·rename_i hs
   simp only [not_or, Decidable.not_not] at hs
   simp only [bind, pure, Option.bind_some, Option.bind_eq_some_iff, Option.some.injEq, AI.op.injEq] at hop
   obtain ⟨a, hx, b, hy, rfl⟩ := hop
   exact (xP H (hρ _ _ hx) (hρ _ _ hy) (al hu (by simp)) hz hs.2.1 hs.1 (by simpa using hs.2.2) he).jT
 ·cases hop
theorem HG {t : TypeId} {x : Operand} {l u m : Option Operand} (hop : cE P G names ⟨dst, .slice t x l u m, type, pos, after, guard⟩ = some (.op op)) (H : HR φ h w) (he : op.run r h = .ok v h') : cq φ h w v h' ((execOp ρ ⟨dst, .slice t x l u m, type, pos, after, guard⟩).run P w) := by
 simp only [cE] at hop
 split at hop
 ·rename_i hu
  split at hop
  ·simp at hop
  ·rename_i hm
   have hm : m = none := by simpa using hm
   subst hm
   simp only [bind, pure, Option.bind_some, Option.bind_eq_some_iff, Option.some.injEq, AI.op.injEq] at hop
   obtain ⟨a, hx, b, hb, c, hc, rfl⟩ := hop
   exact (Fv H (hρ _ _ hx) (ma hρ hb) (ma hρ hc) (al hu (by simp)) he).jT
 ·rename_i e hu
  split at hop
  ·simp at hop
  ·rename_i hs
   simp only [not_or, not_and] at hs
   obtain ⟨i, hi, hs'⟩ := mX hs.1
   simp only [bind, pure, Option.bind_some, Option.bind_eq_some_iff, Option.some.injEq, AI.op.injEq] at hop
   obtain ⟨a, hx, b, hb, c, hc, d, hd, rfl⟩ := hop
   rw [cR hi] at he
   exact (HI H (hρ _ _ hx) (ma hρ hb) (ma hρ hc) (ma hρ hd) (al hu (by simp)) hi (by omega) (fun g => by cases u <;> simp_all) he).jT
 ·rename_i n e hu
  split at hop
  ·simp at hop
  ·rename_i hs
   simp only [not_or, not_and] at hs
   obtain ⟨i, hi⟩ := gW hs.2
   simp only [bind, pure, Option.bind_some, Option.bind_eq_some_iff, Option.some.injEq, AI.op.injEq] at hop
   obtain ⟨a, hx, b, hb, c, hc, d, hd, rfl⟩ := hop
   rw [cR hi] at he
   exact (Fw H (hρ _ _ hx) (ma hρ hb) (ma hρ hc) (ma hρ hd) (al hu (by simp)) hi (fun g => by cases u <;> simp_all) he).jT
 ·cases hop
theorem Qh {t : TypeId} {x : Operand} {f : Nat} (hop : cE P G names ⟨dst, .fieldAddr t x f, type, pos, after, guard⟩ = some (.op op)) (H : HR φ h w) (he : op.run r h = .ok v h') : cq φ h w v h' ((execOp ρ ⟨dst, .fieldAddr t x f, type, pos, after, guard⟩).run P w) := by
 simp only [cE] at hop
 split at hop
 ·rename_i fs hu
  simp only [bind, Option.bind_eq_some_iff] at hop
  obtain ⟨fd, hf, hop⟩ := hop
  split at hop
  ·simp at hop
  ·rename_i hs
   obtain ⟨i, hi, hs'⟩ := mX hs
   simp only [bind, pure, Option.bind_some, Option.bind_eq_some_iff, Option.some.injEq, AI.op.injEq] at hop
   obtain ⟨a, hx, rfl⟩ := hop
   exact (HJ H (hρ _ _ hx) (al hu (by simp)) hf hi hs' he).jT
 ·cases hop
theorem HK {t : TypeId} {x : Operand} {f : Nat} (hop : cE P G names ⟨dst, .field t x f, type, pos, after, guard⟩ = some (.op op)) (H : HR φ h w) (he : op.run r h = .ok v h') : cq φ h w v h' ((execOp ρ ⟨dst, .field t x f, type, pos, after, guard⟩).run P w) := by
 simp only [cE] at hop
 split at hop
 ·rename_i fs hu
  simp only [bind, Option.bind_eq_some_iff] at hop
  obtain ⟨fd, hf, hop⟩ := hop
  split at hop
  ·simp at hop
  ·rename_i hs
   obtain ⟨d, hd⟩ := gW hs
   obtain ⟨i, hi⟩ := ji hd
   split at hop
   ·rename_i ha
    simp only [bind, pure, Option.bind_some, Option.bind_eq_some_iff, Option.some.injEq, AI.op.injEq] at hop
    obtain ⟨a, hx, rfl⟩ := hop
    rw [cR hi] at he
    exact (Fx H (hρ _ _ hx) (al hu (by simp)) hf hd ha hi he).jT
   ·rename_i ha
    simp only [bind, pure, Option.bind_some, Option.bind_eq_some_iff, Option.some.injEq, AI.op.injEq] at hop
    obtain ⟨a, hx, rfl⟩ := hop
    exact (Fy H (hρ _ _ hx) (al hu (by simp)) hf hd (by simpa using ha) he).jT
 ·cases hop
theorem Mk {t : TypeId} {x y : Operand} (hop : cE P G names ⟨dst, .indexAddr t x y, type, pos, after, guard⟩ = some (.op op)) (H : HR φ h w) (he : op.run r h = .ok v h') : cq φ h w v h' ((execOp ρ ⟨dst, .indexAddr t x y, type, pos, after, guard⟩).run P w) := by
 simp only [cE] at hop
 split at hop
 ·rename_i n e hu
  split at hop
  ·simp at hop
  ·rename_i hs
   obtain ⟨i, hi⟩ := gW hs
   simp only [bind, pure, Option.bind_some, Option.bind_eq_some_iff, Option.some.injEq, AI.op.injEq] at hop
   obtain ⟨a, hx, b, hb, rfl⟩ := hop
   rw [cR hi] at he
   exact (HL H (hρ _ _ hx) (hρ _ _ hb) (al hu (by simp)) hi he).jT
 ·rename_i e hu
  split at hop
  ·simp at hop
  ·rename_i hs
   obtain ⟨i, hi⟩ := gW hs
   simp only [bind, pure, Option.bind_some, Option.bind_eq_some_iff, Option.some.injEq, AI.op.injEq] at hop
   obtain ⟨a, hx, b, hb, rfl⟩ := hop
   rw [cR hi] at he
   exact (HM H (hρ _ _ hx) (hρ _ _ hb) (al hu (by simp)) hi he).jT
 ·cases hop
theorem HN {t : TypeId} {x y : Operand} (hop : cE P G names ⟨dst, .index t x y, type, pos, after, guard⟩ = some (.op op)) (H : HR φ h w) (he : op.run r h = .ok v h') : cq φ h w v h' ((execOp ρ ⟨dst, .index t x y, type, pos, after, guard⟩).run P w) := by
 simp only [cE] at hop
 split at hop
 ·rename_i hu
  simp only [bind, pure, Option.bind_some, Option.bind_eq_some_iff, Option.some.injEq, AI.op.injEq] at hop
  obtain ⟨a, hx, b, hb, rfl⟩ := hop
  exact (FA H (hρ _ _ hx) (hρ _ _ hb) (al hu (by simp)) he).jT
 ·rename_i n e hu
  split at hop
  ·simp at hop
  ·rename_i hs
   obtain ⟨d, hd⟩ := gW hs
   obtain ⟨i, hi⟩ := ji hd
   simp only [bind, pure, Option.bind_some, Option.bind_eq_some_iff, Option.some.injEq, AI.op.injEq] at hop
   obtain ⟨a, hx, b, hb, rfl⟩ := hop
   rw [cR hi] at he
   exact (FB H (hρ _ _ hx) (hρ _ _ hb) (al hu (by simp)) hd hi he).jT
 ·cases hop
theorem Qi {t : TypeId} {x y : Operand} {ok : Bool} (hop : cE P G names ⟨dst, .lookup t x y ok, type, pos, after, guard⟩ = some (.op op)) (H : HR φ h w) (he : op.run r h = .ok v h') : cq φ h w v h' ((execOp ρ ⟨dst, .lookup t x y ok, type, pos, after, guard⟩).run P w) := by
 simp only [cE] at hop
 split at hop
 ·rename_i k e hu
  simp only [bind, pure, Option.bind_some, Option.bind_eq_some_iff, Option.some.injEq, AI.op.injEq] at hop
  obtain ⟨kt, hk, z, hz, a, hx, b, hb, rfl⟩ := hop
  obtain ⟨k', e', hu', hk'⟩ := lZ hk
  have := al hu (by simp)
  rw [this] at hu'; cases hu'
  exact (HO H (hρ _ _ hx) (hρ _ _ hb) this hk' hz he).jT
 ·cases hop
theorem Qj {t : TypeId} {x y z : Operand} (hop : cE P G names ⟨dst, .mapUpdate t x y z, type, pos, after, guard⟩ = some (.op op)) (H : HR φ h w) (he : op.run r h = .ok v h') : cq φ h w v h' ((execOp ρ ⟨dst, .mapUpdate t x y z, type, pos, after, guard⟩).run P w) := by
 simp only [cE, bind, Option.bind_eq_some_iff, Option.some.injEq, AI.op.injEq] at hop
 obtain ⟨kt, hk, a, hx, b, hb, c, hc, rfl⟩ := hop
 obtain ⟨k', e', hu', hk'⟩ := lZ hk
 obtain ⟨g1, g2⟩ := zw H (hρ _ _ hx) (hρ _ _ hb) (hρ _ _ hc) hu' hk' he
 exact g2.jT g1
theorem Qk {t : TypeId} {x y z : Operand} (hop : cE P G names ⟨dst, .insert t x y z, type, pos, after, guard⟩ = some (.op op)) (H : HR φ h w) (he : op.run r h = .ok v h') : cq φ h w v h' ((execOp ρ ⟨dst, .insert t x y z, type, pos, after, guard⟩).run P w) := by
 simp only [cE, bind, Option.bind_eq_some_iff, Option.some.injEq, AI.op.injEq] at hop
 obtain ⟨kt, hk, a, hx, b, hb, c, hc, rfl⟩ := hop
 obtain ⟨k', e', hu', hk'⟩ := lZ hk
 obtain ⟨g1, g2⟩ := zw H (hρ _ _ hx) (hρ _ _ hb) (hρ _ _ hc) hu' hk' he
 exact g2.jT g1
theorem HP {t : TypeId} {x : Operand} (hop : cE P G names ⟨dst, .range t x, type, pos, after, guard⟩ = some (.op op)) (H : HR φ h w) (he : op.run r h = .ok v h') : cq φ h w v h' ((execOp ρ ⟨dst, .range t x, type, pos, after, guard⟩).run P w) := by
 simp only [cE] at hop
 split at hop
 ·rename_i k e hu
  simp only [bind, pure, Option.bind_some, Option.bind_eq_some_iff, Option.some.injEq, AI.op.injEq] at hop
  obtain ⟨a, hx, rfl⟩ := hop
  exact (FC H (hρ _ _ hx) (al hu (by simp)) he).jT
 ·cases hop
theorem Ql {x : Operand} (hop : cE P G names ⟨dst, .entry x, type, pos, after, guard⟩ = some (.op op)) (H : HR φ h w) (he : op.run r h = .ok v h') : cq φ h w v h' ((execOp ρ ⟨dst, .entry x, type, pos, after, guard⟩).run P w) := by
 simp only [cE, bind, Option.bind_eq_some_iff, Option.some.injEq, AI.op.injEq] at hop
 obtain ⟨a, hx, rfl⟩ := hop
 exact (HQ H (hρ _ _ hx) he).jT
theorem Qm {t u : TypeId} {x : Operand} {ok : Bool} (hop : cE P G names ⟨dst, .typeAssert x u t ok, type, pos, after, guard⟩ = some (.op op)) (H : HR φ h w) (he : op.run r h = .ok v h') : cq φ h w v h' ((execOp ρ ⟨dst, .typeAssert x u t ok, type, pos, after, guard⟩).run P w) := by
 simp only [cE] at hop
 split at hop
 ·simp at hop
 ·rename_i hs
  by_cases hn : (P.underlying t).isNone = true
  ·simp [hn] at hop
  ·rw [if_neg (by simp [hn])] at hop
   obtain ⟨d, hd⟩ := gW hn
   simp only [bind, pure, Option.bind_some, Option.bind_eq_some_iff, Option.some.injEq, AI.op.injEq] at hop
   obtain ⟨z, hz, a, hx, rfl⟩ := hop
   refine (HS H (hρ _ _ hx) hd (fun m e => ?_) hz he).jT
   subst e
   exact hs m (by simp [kH, hd])
theorem Qn {x : Operand} {i : Nat} (hop : cE P G names ⟨dst, .extract x i, type, pos, after, guard⟩ = some (.op op)) (H : HR φ h w) (he : op.run r h = .ok v h') : cq φ h w v h' ((execOp ρ ⟨dst, .extract x i, type, pos, after, guard⟩).run P w) := by
 simp only [cE, bind, Option.bind_eq_some_iff, Option.some.injEq, AI.op.injEq] at hop
 obtain ⟨a, hx, rfl⟩ := hop
 exact (HT H (hρ _ _ hx) he).jT
theorem Ml {c : Call} (hop : cE P G names ⟨dst, .call c, type, pos, after, guard⟩ = some (.op op)) (H : HR φ h w) (he : op.run r h = .ok v h') : cq φ h w v h' ((execOp ρ ⟨dst, .call c, type, pos, after, guard⟩).run P w) := by
 simp only [cE, bind, Option.bind_eq_some_iff] at hop
 obtain ⟨xs, hxs, hop⟩ := hop
 have g1 := na (φ := φ) (r := r) (ρ := ρ) hxs (fun o _ a ha => hρ _ _ ha)
 split at hop
 ·rename_i b hb
  simp only [Option.map_eq_some_iff, AI.op.injEq] at hop
  obtain ⟨o, ho, rfl⟩ := hop
  obtain ⟨s, e, hg⟩ := xM (ty := type) (cs := c.args.map fun | .const _ => true | _ => false) ho H g1 he
  have e2 : c.args.map ρ = (c.args.toList.map ρ).toArray := by apply Array.ext'; simp
  have : (execOp ρ ⟨dst, .call c, type, pos, after, guard⟩).run P w = (do pure (.value (← s)) : Sem Next).run P w := by
   rw [← e, ← e2]
   simp only [execOp, resolve, hb, Sem.run_bind, Sem.run_pure, Result.andThen_ok, invoke]
   rfl
  rw [this]
  exact hg.jT
 ·cases hop
 ·simp only [bind, Option.bind_eq_some_iff, Option.some.injEq] at hop
  obtain ⟨a, _, e⟩ := hop; cases e
 ·simp only [bind, Option.bind_eq_some_iff, Option.some.injEq] at hop
  obtain ⟨a, _, b, _, e⟩ := hop; cases e
theorem Mm {t : TypeId} {x y : Operand} (hop : cE P G names ⟨dst, .mapEntry t x y, type, pos, after, guard⟩ = some (.op op)) (H : HR φ h w) (he : op.run r h = .ok v h') : cq φ h w v h' ((execOp ρ ⟨dst, .mapEntry t x y, type, pos, after, guard⟩).run P w) := by
 simp only [cE] at hop
 split at hop
 ·rename_i k e hu
  simp only [bind, pure, Option.bind_some, Option.bind_eq_some_iff, Option.some.injEq, AI.op.injEq] at hop
  obtain ⟨kt, hk, zv, hz, a, hx, b, hb, rfl⟩ := hop
  obtain ⟨k', e', hu', hk'⟩ := lZ hk
  have hu2 := al hu (by simp)
  rw [hu2] at hu'
  cases hu'
  exact (FD H (hρ _ _ hx) (hρ _ _ hb) hu2 hk' hz he).jT
 ·cases hop
theorem Mn {t : TypeId} {x y z : Operand} (hop : cE P G names ⟨dst, .entryStore t x y z, type, pos, after, guard⟩ = some (.op op)) (H : HR φ h w) (he : op.run r h = .ok v h') : cq φ h w v h' ((execOp ρ ⟨dst, .entryStore t x y z, type, pos, after, guard⟩).run P w) := by
 simp only [cE, bind, Option.bind_eq_some_iff, Option.some.injEq, AI.op.injEq] at hop
 obtain ⟨a, hx, b, hb, c, hc, rfl⟩ := hop
 obtain ⟨g1, g2⟩ := FE (t := t) H (hρ _ _ hx) (hρ _ _ hb) (hρ _ _ hc) he
 exact g2.jT g1
end
variable {P : Program} {φ : aI} {h h' : Hp} {w : World} {v : AV} {r : A2} {cx cy : Value} {t : TypeId} {G : Gl} {ρ : Operand → Value} {names : List String}
theorem Dh {op : oZ} {o : Oper} (hρ : ∀ q x, cO G q = some x → VR φ (ev x r) (ρ q)) (hc : ∀ c, ρ (.const c) = c) (hop : cE P G names o = some (.op op)) (H : HR φ h w) (he : op.run r h = .ok v h') :
  cq φ h w v h' ((execOp ρ o).run P w) := by
 obtain ⟨dst, x, type, pos, after, guard⟩ := o
 cases x with
 | move x => exact SA hρ hop H he
 | assign x => exact SB hρ hop H he
 | pick c a b => exact Mg hρ hop H he
 | alloc e => exact Hq hρ hop H he
 | box e x => exact Qd hρ hop H he
 | build t ps => exact Hs hρ hop H he
 | buildSlice t n ps => exact Ft hρ hop H he
 | insert t m k x => exact Qk hρ hop H he
 | load t x => exact Mh hρ hop H he
 | store t x y => exact Hv hρ hop H he
 | ready g => cases hop
 | waits g => cases hop
 | nilCheck x => exact Mi hρ hop H he
 | binOp o t x y u => exact Qe hρ hc hop H he
 | unOp o t x => exact SC hρ hop H he
 | convert s d x => exact Mj hρ hop H he
 | sliceToArrayPointer d x => cases hop
 | makeInterface t x => exact Qf hρ hop H he
 | makeFunc f a b => exact Qg hρ hop H he
 | makeMap t re => exact HF hρ hc hop H he
 | makeChan t x => cases hop
 | makeSlice t l c => exact Bz hρ hop H he
 | slice t x l u m => exact HG hρ hop H he
 | fieldAddr t x f => exact Qh hρ hop H he
 | field t x f => exact HK hρ hop H he
 | indexAddr t x i => exact Mk hρ hop H he
 | index t x i => exact HN hρ hop H he
 | lookup t x i ok => exact Qi hρ hop H he
 | mapUpdate t m k x => exact Qj hρ hop H he
 | mapEntry t m k => exact Mm hρ hop H he
 | entryStore t m s x => exact Mn hρ hop H he
 | range t x => exact HP hρ hop H he
 | next x s =>
  simp only [cE] at hop
  split at hop
  ·simp at hop
  ·simp only [bind, Option.bind_eq_some_iff, Option.some.injEq] at hop
   obtain ⟨a, _, e⟩ := hop; cases e
 | entry x => exact Ql hρ hop H he
 | typeAssert x u t ok => exact Qm hρ hop H he
 | extract x i => exact Qn hρ hop H he
 | call c => exact Ml hρ hop H he
 | go c => cases hop
 | defer c => cases hop
 | panic x => cases hop
 | send c x => cases hop
 | recv t c ok => cases hop
 | select cs b => cases hop
theorem zx {s : Bool} {x : AO} {o : Oper} (hρ : ∀ q x, cO G q = some x → VR φ (ev x r) (ρ q)) (hop : cE P G names o = some (.Dc s x)) (H : HR φ h w) (hs : (jh s (ev x r) h).Safe) :
  ∃ cv w' φ' v h', (jh s (ev x r) h).aG (.ok v h') ∧ (execOp ρ o).run P w = .ok (.value cv) w' ∧ VR φ' v cv ∧ HR φ' h' w' ∧ Step φ h w φ' h' w' := by
 obtain ⟨dst, y, type, pos, after, guard⟩ := o
 have hy : ∃ q, y = .next q false ∧ s = false ∧ cO G q = some x := by
  simp only [cE] at hop
  split at hop
  case h_28 q b =>
   split at hop
   ·simp at hop
   ·rename_i hb
    simp only [bind, Option.bind_eq_some_iff, Option.some.injEq, AI.Dc.injEq] at hop
    obtain ⟨a, ha, hb', rfl⟩ := hop
    subst hb'
    have : b = false := by simpa using hb
    subst this
    exact ⟨q, rfl, rfl, ha⟩
  case h_21 =>
   split at hop
   ·simp only [bind, Option.bind_eq_some_iff] at hop
    obtain ⟨fd, _, hop⟩ := hop
    split at hop
    ·simp at hop
    ·split at hop <;> simp [Option.bind_eq_some_iff] at hop
   ·cases hop
  all_goals (repeat' split at hop) <;> simp [Option.bind_eq_some_iff, Option.map_eq_some_iff] at hop
 obtain ⟨q, rfl, rfl, hq⟩ := hy
 obtain ⟨v, h', h1, cv, w', φ', e, h2, h3, h4⟩ := BA (P := P) (ty := type) H (hρ _ _ hq) hs
 refine ⟨cv, w', φ', v, h', h1, ?_, h2, h3, h4⟩
 simp only [execOp, Sem.run_bind, e, Result.andThen_ok, Sem.run_pure]
inductive RS.aG : RS → RS → Prop
 | nm (r : A2) (h : Hp) : aG (.nm r h) (.nm r h)
 | ex (i : Nat) (r : A2) (h : Hp) : aG (.ex i r h) (.ex i r h)
 | go (i : Nat) (r : A2) (h : Hp) : aG (.go i r h) (.go i r h)
 | ret (r : A2) (h : Hp) : aG (.ret r h) (.ret r h)
 | err (n : Nat) : aG (.err n) (.err n)
 | ch (n : Nat) (k : Nat → RS) (c : Nat) (y : RS) : c < n → aG (k c) y → aG (.ch n k) y
def RS.Safe (x : RS) : Prop := ∀ n, ¬ x.aG (.err n)
theorem RS.Safe.err {n : Nat} (h : (RS.err n).Safe) : False := h n (.err n)
theorem kN {d : bw} {k : A2 → Hp → RS} {r : A2} {v : AV} {h' : Hp} {y : RS} : ∀ {x z : RT}, x.aG z → z = .ok v h' → (k (cm d v r) h').aG y → (stepT d k r x).aG y
 | _, _, .ok v h, e, g => by cases e; exact g
 | _, _, .err n, e, g => by cases e
 | _, _, .ch n kk c y' hc hl, e, g => .ch n _ c _ hc (kN hl e g)
theorem mb {d : bw} {k : A2 → Hp → RS} {r : A2} {n : Nat} : ∀ {x z : RT}, x.aG z → z = .err n → (stepT d k r x).aG (.err n)
 | _, _, .ok v h, e => by cases e
 | _, _, .err n, e => by cases e; exact .err n
 | _, _, .ch n kk c y' hc hl, e => .ch n _ c _ hc (mb hl e)
theorem tW {d : bw} {k : A2 → Hp → RS} {r : A2} {x : RT} (hs : (stepT d k r x).Safe) : x.Safe ∧ ∀ v h', x.aG (.ok v h') → (k (cm d v r) h').Safe :=
 ⟨fun n hl => hs n (mb hl rfl), fun _ _ hl n hn => hs n (kN hl rfl hn)⟩
noncomputable def AI.res (i : AI) (p : Pg) (run : iY) (r : A2) (h : Hp) : RT := match i with
 | .op o => (o.run r h).lL
 | .Dc s x => jh s (ev x r) h
 | .call f xs => au p run f (fL xs r) h
 | .lE x xs => lF p run (ev x r) (fL xs r) h
 | .inv n x xs => aB p run n (ev x r) (fL xs r) h
theorem pw (i : AI) (p : Pg) (run : iY) (d : bw) (k : A2 → Hp → RS) (r : A2) (h : Hp) : i.exec p run d k r h = stepT d k r (i.res p run r h) := by
 cases i with
 | op o =>
  show Dg d k r (o.run r h) = stepT d k r (o.run r h).lL
  cases o.run r h <;> rfl
 | _ => rfl
theorem jV {v : RV} (hs : v.lL.Safe) : ∃ a h, v = .ok a h := by
 cases v with
 | ok a h => exact ⟨a, h, rfl⟩
 | err n => exact (RT.Safe.err hs).elim
abbrev NB (G : Gl) : Prop := Nonempty (G.b = none)
instance VB : NB 0 := ⟨rfl⟩
instance VC {n : Nat} {l : List (P4 × Nat)} : NB ⟨n, l, none⟩ := ⟨rfl⟩
theorem nb (G : Gl) [i : NB G] : G.b = none := i.elim id
theorem Di {G : Gl} {t s : Nat} (e : G.sl t = some s) : s < 256 ∧ G.tm s = t := by
 unfold Gl.sl at e
 unfold Gl.tm
 cases hb : G.b with
 | none =>
  rw [hb] at e
  have e : (if t < 256 then some t else none) = some s := e
  split at e
  ·rename_i h1; cases e; exact ⟨h1, rfl⟩
  ·cases e
 | some q =>
  rw [hb] at e
  have e : (if t < 16 * q then (if t < 256 then some t else none) else if t < 16 * q + 16 then none else if t < 272 then some (t - 16) else none) = some s := e
  split at e
  ·rename_i h1
   split at e
   ·rename_i h2; cases e; exact ⟨h2, if_pos h1⟩
   ·cases e
  ·split at e
   ·cases e
   ·rename_i h1 h2
    split at e
    ·rename_i h3
     cases e
     refine ⟨by omega, ?_⟩
     show (if t - 16 < 16 * q then t - 16 else t - 16 + 16) = t
     rw [if_neg (by omega)]
     omega
    ·cases e
theorem Qo {G : Gl} {s t : Nat} (e : G.tm s = G.tm t) : s = t := by
 unfold Gl.tm at e
 cases hb : G.b with
 | none => rw [hb] at e; exact e
 | some q =>
  rw [hb] at e
  have e : (if s < 16 * q then s else s + 16) = (if t < 16 * q then t else t + 16) := e
  split at e <;> split at e <;> omega
theorem Dj (G : Gl) [NB G] (s : Nat) : G.tm s = s := by unfold Gl.tm; rw [nb G]
theorem Dk (G : Gl) [NB G] (t : Nat) : G.sl t = if t < 256 then some t else none := by unfold Gl.sl; rw [nb G]
theorem xQ {G : Gl} [NB G] {t : Nat} (h : t < 256) : G.sl t = some t := by rw [Dk, if_pos h]
theorem HU {G : Gl} [NB G] {t s : Nat} (e : G.sl t = some s) : s = t ∧ t < 256 := by
 rw [Dk] at e
 split at e
 ·rename_i h; cases e; exact ⟨rfl, h⟩
 ·cases e
def nJ (G : Gl) (φ : aI) : Prop := (∀ g, g < G.n → ∃ room, φ (P4.of g) = some ⟨g, 0, room⟩) ∧ ∀ x, x ∈ G.sy → φ x.1 = some ⟨0, 0, x.2⟩
theorem nJ.mono {G : Gl} {φ ψ : aI} (g : nJ G φ) (h : φ.le ψ) : nJ G ψ := ⟨fun i hi => let ⟨room, e⟩ := g.1 i hi; ⟨room, h _ _ e⟩, fun x hx => h _ _ (g.2 x hx)⟩
structure St (n : Nat) (G : Gl) (φ : aI) (r : A2) (h : Hp) (a : Act) (w : World) : Prop where
 hr : HR φ h w
 aE : ∀ t, t < 256 → VR φ (an (hi t) (lo t) r) (a.tmps.getD (G.tm t) undef)
 fu : a.defers = []
 size : n ≤ a.tmps.size
 iZ : nJ G φ
variable {P : Program} {φ φ' : aI} {h h' : Hp} {w w' : World} {v : AV} {r : A2} {a : Act} {cv : Value} {n : Nat} {G : Gl} {names : List String} {p : Pg} {run : iY}
theorem HV {s t : Nat} (hs : s < 256) (ht : t < 256) : (hi s = hi t ∧ lo s = lo t) ↔ s = t := by
 constructor
 ·rintro ⟨h1, h2⟩
  have e1 := nc (show s / 16 < 16 by omega) (show t / 16 < 16 by omega) h1
  have e2 := nc (show s % 16 < 16 by omega) (show t % 16 < 16 by omega) h2
  omega
 ·rintro rfl; exact ⟨rfl, rfl⟩
theorem St.OW (S : St n G φ r h a w) {q : Operand} {x : AO} (e : cO G q = some x) : VR φ (ev x r) (a.eval q) := by
 cases q with
 | tmp t =>
  simp only [cO, Option.map_eq_some_iff] at e
  obtain ⟨s, hs, rfl⟩ := e
  obtain ⟨h1, h2⟩ := Di hs
  have := S.aE s h1
  rw [h2] at this
  exact this
 | const c =>
  simp only [cO, Option.map_eq_some_iff] at e
  obtain ⟨b, hb, rfl⟩ := e
  exact px hb φ
 | global g =>
  simp only [cO] at e
  split at e
  ·rename_i hg
   cases e
   obtain ⟨room, hp⟩ := S.iZ.1 g hg
   have := VR.ptr (φ := φ) _ 0 _ hp
   show VR φ (.ptr (P4.of g) 0) (.pointer (some ⟨g, 0, none⟩))
   simpa [Place.addr] using this
  ·cases e
 | func f => cases e; exact .fn f [] [] .nil
theorem St.put (S : St n G φ r h a w) {o : Option Tmp} {d : bw} (hd : kJ G n o = some d) (hv : VR φ' v cv) (H : HR φ' h' w') (T : Step φ h w φ' h' w') : St n G φ' (cm d v r) h' (a.put o cv) w' := by
 cases o with
 | none =>
  cases hd
  exact ⟨H, fun t ht => (S.aE t ht).mono T.le, S.fu, S.size, S.iZ.mono T.le⟩
 | some t =>
  simp only [kJ] at hd
  split at hd
  ·rename_i s hs
   split at hd
   ·rename_i hn
    cases hd
    obtain ⟨h1, h2⟩ := Di hs
    refine ⟨H, fun u hu => ?_, S.fu, by simpa [Act.put] using S.size, S.iZ.mono T.le⟩
    show VR φ' (an (hi u) (lo u) (jG (hi s) (lo s) v r)) ((a.tmps.setIfInBounds t cv).getD (G.tm u) undef)
    rw [hM]
    by_cases e : u = s
    ·subst e
     rw [if_pos ⟨rfl, rfl⟩, h2]
     have : (a.tmps.setIfInBounds t cv).getD t undef = cv := by
      have h3 : t < a.tmps.size := Nat.lt_of_lt_of_le hn S.size
      simp [Array.getD, h3]
     rw [this]; exact hv
    ·rw [if_neg (fun g => e ((HV hu h1).1 g))]
     have hne : G.tm u ≠ t := fun g => e (Qo (g.trans h2.symm))
     have : (a.tmps.setIfInBounds t cv).getD (G.tm u) undef = a.tmps.getD (G.tm u) undef := by
      simp only [Array.getD_eq_getD_getElem?, Array.getElem?_setIfInBounds, if_neg (Ne.symm hne)]
     rw [this]; exact (S.aE u hu).mono T.le
   ·cases hd
  ·cases hd
theorem St.Mo [NB G] (S : St n G φ r h a w) (t : Nat) (ht : t < 256) : VR φ (an (hi t) (lo t) r) (a.tmps.getD t undef) := by
 have := S.aE t ht
 rw [Dj] at this
 exact this
theorem St.mk' [NB G] (hr : HR φ h w) (aE : ∀ t, t < 256 → VR φ (an (hi t) (lo t) r) (a.tmps.getD t undef)) (fu : a.defers = []) (size : n ≤ a.tmps.size) (iZ : nJ G φ) : St n G φ r h a w :=
 ⟨hr, fun t ht => by rw [Dj]; exact aE t ht, fu, size, iZ⟩
theorem tY [NB G] {t : Nat} {d : bw} (hd : kJ G n (some t) = some d) : t < 256 ∧ t < n ∧ d = .t (hi t) (lo t) := by
 simp only [kJ] at hd
 split at hd
 ·rename_i s hs
  obtain ⟨rfl, h1⟩ := HU hs
  split at hd
  ·rename_i h2; cases hd; exact ⟨h1, h2, rfl⟩
  ·cases hd
 ·cases hd
theorem sP [NB G] {t : Nat} (h1 : t < 256) (h2 : t < n) : kJ G n (some t) = some (.t (hi t) (lo t)) := by
 simp only [kJ, xQ h1, if_pos h2]
theorem SD [NB G] {t : Nat} (h1 : t < 256) : cO G (.tmp t) = some (.t (hi t) (lo t)) := by
 simp only [cO, xQ h1, Option.map_some]
theorem zy {f : Nat → A1} : ∀ {i : Nat}, i < 16 → A2.get (dw i) (.mk (f 0) (f 1) (f 2) (f 3) (f 4) (f 5) (f 6) (f 7) (f 8) (f 9) (f 10) (f 11) (f 12) (f 13) (f 14) (f 15)) = f i := by
 intro i hi
 match i, hi with
 | 0, _ => rfl
 | 1, _ => rfl
 | 2, _ => rfl
 | 3, _ => rfl
 | 4, _ => rfl
 | 5, _ => rfl
 | 6, _ => rfl
 | 7, _ => rfl
 | 8, _ => rfl
 | 9, _ => rfl
 | 10, _ => rfl
 | 11, _ => rfl
 | 12, _ => rfl
 | 13, _ => rfl
 | 14, _ => rfl
 | 15, _ => rfl
 | k + 16, h => omega
theorem FF {q s : Nat} (hs : s < 256) : an (hi s) (lo s) (tZ q r) = if s < 16 * q then an (hi s) (lo s) r else if s < 240 then an (hi (s + 16)) (lo (s + 16)) r else .undef := by
 show A1.get (lo s) (A2.get (dw (s / 16)) (tZ q r)) = _
 have e : A2.get (dw (s / 16)) (tZ q r) = zb q r (s / 16) := zy (f := zb q r) (by omega)
 rw [e]
 show A1.get (lo s) (@Bool.rec (fun _ => A1) (A2.get (dw (s / 16)) r) (@Bool.rec (fun _ => A1) (A2.get (dw (Nat.succ (s / 16))) r) .nil (Nat.beq (s / 16) 15)) (Nat.ble q (s / 16))) = _
 cases h1 : Nat.ble q (s / 16) with
 | false =>
  have h1 : ¬ q ≤ s / 16 := fun g => by rw [Nat.ble_eq_true_of_le g] at h1; cases h1
  rw [if_pos (by omega)]
  rfl
 | true =>
  have h1 := Nat.le_of_ble_eq_true h1
  rw [if_neg (by omega)]
  cases h2 : Nat.beq (s / 16) 15 with
  | true =>
   have h2 := Nat.eq_of_beq_eq_true h2
   rw [if_neg (by omega)]
   exact A1.get_nil _
  | false =>
   have h2 : s / 16 ≠ 15 := fun g => by rw [g] at h2; cases h2
   rw [if_pos (by omega)]
   have e1 : (s + 16) / 16 = Nat.succ (s / 16) := by omega
   have e2 : (s + 16) % 16 = s % 16 := by omega
   show A1.get (dw (s % 16)) (A2.get (dw (Nat.succ (s / 16))) r) = A1.get (dw ((s + 16) % 16)) (A2.get (dw ((s + 16) / 16)) r)
   rw [e1, e2]
theorem HW {q s : Nat} (hs : s < 256) : an (hi s) (lo s) (BB q r) = if s < 16 * q then an (hi s) (lo s) r else if s < 16 * q + 16 then .undef else an (hi (s - 16)) (lo (s - 16)) r := by
 show A1.get (lo s) (A2.get (dw (s / 16)) (BB q r)) = _
 have e : A2.get (dw (s / 16)) (BB q r) = zd q r (s / 16) := zy (f := zd q r) (by omega)
 rw [e]
 show A1.get (lo s) (@Bool.rec (fun _ => A1) (A2.get (dw (Nat.pred (s / 16))) r) (@Bool.rec (fun _ => A1) (A2.get (dw (s / 16)) r) .nil (Nat.beq (s / 16) q)) (Nat.ble (s / 16) q)) = _
 cases h1 : Nat.ble (s / 16) q with
 | false =>
  have h1 : ¬ s / 16 ≤ q := fun g => by rw [Nat.ble_eq_true_of_le g] at h1; cases h1
  rw [if_neg (by omega), if_neg (by omega)]
  have e1 : (s - 16) / 16 = Nat.pred (s / 16) := by show (s - 16) / 16 = s / 16 - 1; omega
  have e2 : (s - 16) % 16 = s % 16 := by omega
  show A1.get (dw (s % 16)) (A2.get (dw (Nat.pred (s / 16))) r) = A1.get (dw ((s - 16) % 16)) (A2.get (dw ((s - 16) / 16)) r)
  rw [e1, e2]
 | true =>
  have h1 := Nat.le_of_ble_eq_true h1
  cases h2 : Nat.beq (s / 16) q with
  | true =>
   have h2 := Nat.eq_of_beq_eq_true h2
   rw [if_neg (by omega), if_pos (by omega)]
   exact A1.get_nil _
  | false =>
   have h2 : s / 16 ≠ q := fun g => by rw [g, Nat.beq_refl] at h2; cases h2
   rw [if_pos (by omega)]
   rfl
theorem St.drop [NB G] (S : St n G φ r h a w) (q : Nat) : St n { G with b := some q } φ (tZ q r) h a w := by
 refine ⟨S.hr, fun t ht => ?_, S.fu, S.size, S.iZ⟩
 show VR φ _ (a.tmps.getD (if t < 16 * q then t else t + 16) undef)
 rw [FF ht]
 by_cases h1 : t < 16 * q
 ·rw [if_pos h1, if_pos h1]; exact S.Mo t ht
 ·rw [if_neg h1, if_neg h1]
  by_cases h2 : t < 240
  ·rw [if_pos h2]; exact S.Mo (t + 16) (by omega)
  ·rw [if_neg h2]; exact .undef _
theorem St.ins [NB G] {q : Nat} (S : St n { G with b := some q } φ r h a w) : St n G φ (BB q r) h a w := by
 refine St.mk' S.hr (fun t ht => ?_) S.fu S.size S.iZ
 rw [HW ht]
 by_cases h1 : t < 16 * q
 ·rw [if_pos h1]
  have : VR φ (an (hi t) (lo t) r) (a.tmps.getD (if t < 16 * q then t else t + 16) undef) := S.aE t ht
  rw [if_pos h1] at this
  exact this
 ·rw [if_neg h1]
  by_cases h2 : t < 16 * q + 16
  ·rw [if_pos h2]; exact .undef _
  ·rw [if_neg h2]
   have : VR φ (an (hi (t - 16)) (lo (t - 16)) r) (a.tmps.getD (if t - 16 < 16 * q then t - 16 else t - 16 + 16) undef) := S.aE (t - 16) (by omega)
   rw [if_neg (by omega), show t - 16 + 16 = t by omega] at this
   exact this
def py (P : Program) (names : List String) (ms : List MR) : Prop := ∀ t k f, MR.mk t k f ∈ ms → ∃ name info m e, names[k]? = some name ∧ P.info? t = some info ∧ info.methods.find? (·.name == name) = some m ∧ m.path = #[] ∧ m.func = some (f, true) ∧ P.underlying t = some (.pointer e)
def dN (φ : aI) (h : Hp) (w : World) (x : RT) : Ending → World → Prop := fun e w' => ∃ v h' cv φ', x.aG (.ok v h') ∧ e = .returned cv ∧ VR φ' v cv ∧ HR φ' h' w' ∧ Step φ h w φ' h' w'
def Qp (P : Program) (f : Nat) (vals : Array Value) (w : World) (Q : Ending → World → Prop) : Prop := ((∃ fn c, P.funcs[f]? = some fn ∧ fn.name ≠ "runtime.NumGoroutine" ∧ fn.body = some c) ∧ Calls P f vals w Q) ∨
 ∃ cv w', (callFunc f vals).run P w = .ok (.value cv) w' ∧ Q (.returned cv) w'
def dU (P : Program) (G : Gl) (p : Pg) (run : iY) : Prop := ∀ (f : Nat) (args : List AV) (h : Hp) (φ : aI) (w : World) (vals : List Value), nJ G φ → HR φ h w → cL φ args vals → (au p run f args h).Safe →
 Qp P f vals.toArray w (dN φ h w (au p run f args h))
theorem fw {f : Nat} {args : Array Value} {fn : Func} {c : Code} (hf : P.funcs[f]? = some fn) (hn : fn.name ≠ "runtime.NumGoroutine") (hb : fn.body = some c) : (callFunc f args).run P w = .ok (.enter f args) w := by
 have hp : (program).run P w = .ok P w := rfl
 simp [callFunc, hp, hf, hn, hb]
theorem ua {t name : Nat} {k : Nat → RT} {n : Nat} : ∀ {ms : List MR}, (pA t name ms k (.err n)).Safe → ∃ f, MR.mk t name f ∈ ms ∧ pA t name ms k (.err n) = k f
 | [], hs => (RT.Safe.err hs).elim
 | .mk t' n' f :: ms, hs => by
  change RT.Safe (@Bool.rec (fun _ => RT) (pA t name ms k (.err n)) (@Bool.rec (fun _ => RT) (pA t name ms k (.err n)) (k f) (Nat.beq name n')) (Nat.beq t t')) at hs
  show ∃ f', _ ∧ (@Bool.rec (fun _ => RT) (pA t name ms k (.err n)) (@Bool.rec (fun _ => RT) (pA t name ms k (.err n)) (k f) (Nat.beq name n')) (Nat.beq t t')) = _
  cases h1 : Nat.beq t t' with
  | false =>
   rw [h1] at hs
   obtain ⟨f', m1, m2⟩ := ua (ms := ms) hs
   exact ⟨f', by simp [m1], m2⟩
  | true =>
   cases h2 : Nat.beq name n' with
   | false =>
    rw [h1, h2] at hs
    obtain ⟨f', m1, m2⟩ := ua (ms := ms) hs
    exact ⟨f', by simp [m1], m2⟩
   | true =>
    have e1 := Nat.eq_of_beq_eq_true h1
    have e2 := Nat.eq_of_beq_eq_true h2
    subst e1 e2
    exact ⟨f, by simp, rfl⟩
theorem FG {s : String} {k : Nat} (e : xI names s = some k) : names[k]? = some s := by
 unfold xI at e
 rw [List.findIdx?_eq_some_iff_getElem] at e
 obtain ⟨hk, h1, _⟩ := e
 rw [List.getElem?_eq_getElem hk]
 simp at h1
 rw [h1]
theorem BC {ms : List MR} (M : py P names ms) {t k f : Nat} (hm : MR.mk t k f ∈ ms) {s : String} (hk : names[k]? = some s) (d : Nat) (cv : Value) : (method (d + 1) t cv s).run P w = .ok (f, cv) w := by
 obtain ⟨name, info, m, e, h1, h2, h3, h4, h5, h6⟩ := M t k f hm
 rw [hk] at h1; cases h1
 simp [method, bM h2, h3, h4, h5, follow, receiverAt, ai h6, Place.get]
variable {P : Program} {φ φ' : aI} {h h' : Hp} {w w' : World} {v : AV} {r : A2} {a : Act} {cv : Value} {n : Nat} {G : Gl} {names : List String} {p : Pg} {run : iY}
theorem HX {o : Oper} {f : Nat} {xs : List AO} (hop : cE P G names o = some (.call f xs)) :
  ∃ c, o.op = .call c ∧ c.callee = .value (.func f) ∧ c.args.toList.mapM (cO G) = some xs := by
 obtain ⟨dst, y, type, pos, after, guard⟩ := o
 simp only [cE] at hop
 split at hop
 case h_21 =>
  split at hop
  ·simp only [bind, Option.bind_eq_some_iff] at hop
   obtain ⟨fd, _, hop⟩ := hop
   split at hop
   ·simp at hop
   ·split at hop <;> simp [Option.bind_eq_some_iff] at hop
  ·cases hop
 case h_32 c =>
  simp only [bind, Option.bind_eq_some_iff] at hop
  obtain ⟨ys, hys, hop⟩ := hop
  split at hop
  ·simp [Option.map_eq_some_iff] at hop
  ·rename_i g hc
   cases hop
   exact ⟨c, rfl, hc, hys⟩
  ·simp [Option.bind_eq_some_iff] at hop
  ·simp [Option.bind_eq_some_iff] at hop
 all_goals (repeat' split at hop) <;> simp [Option.bind_eq_some_iff, Option.map_eq_some_iff] at hop
theorem FH {o : Oper} {x : AO} {xs : List AO} (hop : cE P G names o = some (.lE x xs)) :
  ∃ c y, o.op = .call c ∧ c.callee = .value y ∧ cO G y = some x ∧ c.args.toList.mapM (cO G) = some xs := by
 obtain ⟨dst, y, type, pos, after, guard⟩ := o
 simp only [cE] at hop
 split at hop
 case h_21 =>
  split at hop
  ·simp only [bind, Option.bind_eq_some_iff] at hop
   obtain ⟨fd, _, hop⟩ := hop
   split at hop
   ·simp at hop
   ·split at hop <;> simp [Option.bind_eq_some_iff] at hop
  ·cases hop
 case h_32 c =>
  simp only [bind, Option.bind_eq_some_iff] at hop
  obtain ⟨ys, hys, hop⟩ := hop
  split at hop
  ·simp [Option.map_eq_some_iff] at hop
  ·cases hop
  ·rename_i z hz hc
   simp only [Option.bind_eq_some_iff, Option.some.injEq, AI.lE.injEq] at hop
   obtain ⟨b, hb, rfl, rfl⟩ := hop
   exact ⟨c, z, rfl, hc, hb, hys⟩
  ·simp [Option.bind_eq_some_iff] at hop
 all_goals (repeat' split at hop) <;> simp [Option.bind_eq_some_iff, Option.map_eq_some_iff] at hop
theorem Mp {o : Oper} {k : Nat} {x : AO} {xs : List AO} (hop : cE P G names o = some (.inv k x xs)) :
  ∃ c y name, o.op = .call c ∧ c.callee = .invoke y name ∧ xI names name = some k ∧ cO G y = some x ∧ c.args.toList.mapM (cO G) = some xs := by
 obtain ⟨dst, y, type, pos, after, guard⟩ := o
 simp only [cE] at hop
 split at hop
 case h_21 =>
  split at hop
  ·simp only [bind, Option.bind_eq_some_iff] at hop
   obtain ⟨fd, _, hop⟩ := hop
   split at hop
   ·simp at hop
   ·split at hop <;> simp [Option.bind_eq_some_iff] at hop
  ·cases hop
 case h_32 c =>
  simp only [bind, Option.bind_eq_some_iff] at hop
  obtain ⟨ys, hys, hop⟩ := hop
  split at hop
  ·simp [Option.map_eq_some_iff] at hop
  ·cases hop
  ·simp [Option.bind_eq_some_iff] at hop
  ·rename_i z nm hc
   simp only [Option.bind_eq_some_iff, Option.some.injEq, AI.inv.injEq] at hop
   obtain ⟨b, hb, b2, hb2, rfl, rfl, rfl⟩ := hop
   exact ⟨c, z, nm, rfl, hc, hb, hb2, hys⟩
 all_goals (repeat' split at hop) <;> simp [Option.bind_eq_some_iff, Option.map_eq_some_iff] at hop
variable {P : Program} {φ φ' : aI} {h h' : Hp} {w w' : World} {v : AV} {r : A2} {a : Act} {cv : Value} {n : Nat} {G : Gl} {names : List String} {p : Pg} {run : iY}
theorem BD {x : AV} {args : List AV} (hs : (lF p run x args h).Safe) : ∃ f cs, x = .fn f cs ∧ lF p run x args h = au p run f (List.append args cs) h := by
 cases x <;> first | exact ⟨_, _, rfl, rfl⟩ | exact (RT.Safe.err hs).elim
theorem BE {k : Nat} {x : AV} {args : List AV} (hs : (aB p run k x args h).Safe) : ∃ t u, x = .iface t u ∧ aB p run k x args h = pA t k p.ms (fun f => au p run f (.cons u args) h) (.err 206) := by
 cases x <;> first | exact ⟨_, _, rfl, rfl⟩ | exact (RT.Safe.err hs).elim
theorem toArray_map (ρ : Operand → Value) (l : Array Operand) : l.map ρ = (l.toList.map ρ).toArray := by apply Array.ext'; simp
theorem sQ {i : AI} {o : Oper} {d : bw} (M : py P names p.ms) (CO : dU P G p run) (S : St n G φ r h a w) (hop : cE P G names o = some i) (hd : kJ G n o.dst = some d) (hs : (i.res p run r h).Safe)
  {next : Act → World → Prop} {Q : Exit → Act → World → Prop}
  (hn : ∀ v h' φ' cv w', (i.res p run r h).aG (.ok v h') → St n G φ' (cm d v r) h' (a.put o.dst cv) w' → Step φ h w φ' h' w' → next (a.put o.dst cv) w') : o.wp P a w next Q := by
 have hρ : ∀ q x, cO G q = some x → VR φ (ev x r) (a.eval q) := fun q x e => S.OW e
 unfold Oper.wp
 cases i with
 | op op =>
  obtain ⟨v, h', he⟩ := jV (show (op.run r h).lL.Safe from hs)
  obtain ⟨nx, w', φ', e1, e2, e3, e4⟩ := Dh hρ (fun c => rfl) hop S.hr he
  have hl : (AI.res (.op op) p run r h).aG (.ok v h') := by
   show (op.run r h).lL.aG (.ok v h')
   rw [he]; exact .ok _ _
  rw [e1]
  rcases e2 with ⟨cv, rfl, hv⟩ | ⟨rfl, rfl⟩
  ·exact hn v h' φ' cv w' hl (S.put hd hv e3 e4) e4
  ·exact hn .undef h' φ' undef w' hl (S.put hd (.undef _) e3 e4) e4
 | Dc s x =>
  obtain ⟨cv, w', φ', v, h', hl, e1, hv, e3, e4⟩ := zx hρ hop S.hr hs
  rw [e1]
  exact hn v h' φ' cv w' hl (S.put hd hv e3 e4) e4
 | call f xs =>
  obtain ⟨c, ho, hc, hx⟩ := HX hop
  have g1 := na (φ := φ) (r := r) (ρ := a.eval) hx (fun o _ b hb => hρ _ _ hb)
  have hrun : (execOp a.eval o).run P w = (callFunc f (c.args.toList.map a.eval).toArray).run P w := by
   have hf : a.eval (.func f) = .func (.func f) #[] #[] := rfl
   simp only [execOp, ho, resolve, hc, hf, Deferred.ofValue, Sem.run_bind, Sem.run_pure, Result.andThen_ok, invoke, Array.empty_append, Array.append_empty]
   rw [toArray_map]
  rcases CO f _ h φ w _ S.iZ S.hr g1 hs with ⟨⟨fn, b, f1, f2, f3⟩, hC⟩ | ⟨cv, w', hcf, v, h', cv', φ', hl, he, hv, e3, e4⟩
  ·rw [hrun, fw f1 f2 f3, Oper.upon_enter]
   refine hC.mono ?_
   rintro e w' ⟨v, h', cv, φ', hl, rfl, hv, e3, e4⟩
   exact hn v h' φ' cv w' hl (S.put hd hv e3 e4) e4
  ·rw [hrun, hcf]
   cases he
   exact hn v h' φ' _ w' hl (S.put hd hv e3 e4) e4
 | lE x xs =>
  obtain ⟨c, y, ho, hc, hy, hx⟩ := FH hop
  obtain ⟨f, cs, e1, e2⟩ := BD (show (lF p run (ev x r) (fL xs r) h).Safe from hs)
  have g1 := na (φ := φ) (r := r) (ρ := a.eval) hx (fun o _ b hb => hρ _ _ hb)
  have g2 := hρ _ _ hy
  rw [e1] at g2
  have hval : ∃ vs : List Value, a.eval y = .func (.func f) #[] vs.toArray ∧ cL φ cs vs := by
   generalize a.eval y = z at g2
   cases g2; exact ⟨_, rfl, by assumption⟩
  obtain ⟨vs, hval, g3⟩ := hval
  have hs' : (au p run f (List.append (fL xs r) cs) h).Safe := by
   have : (lF p run (ev x r) (fL xs r) h).Safe := hs
   rwa [e2] at this
  have hrun : (execOp a.eval o).run P w = (callFunc f (c.args.toList.map a.eval ++ vs).toArray).run P w := by
   simp only [execOp, ho, resolve, hc, hval, Deferred.ofValue, Sem.run_bind, Sem.run_pure, Result.andThen_ok, invoke, Array.empty_append]
   rw [toArray_map]
   simp
  rcases CO f _ h φ w _ S.iZ S.hr (g1.append g3) hs' with ⟨⟨fn, b, f1, f2, f3⟩, hC⟩ | ⟨cv, w', hcf, v, h', cv', φ', hl, he, hv, e3, e4⟩
  ·rw [hrun, fw f1 f2 f3, Oper.upon_enter]
   refine hC.mono ?_
   rintro e w' ⟨v, h', cv, φ', hl, rfl, hv, e3, e4⟩
   refine hn v h' φ' cv w' ?_ (S.put hd hv e3 e4) e4
   show (lF p run (ev x r) (fL xs r) h).aG _
   rw [e2]; exact hl
  ·rw [hrun, hcf]
   cases he
   refine hn v h' φ' _ w' ?_ (S.put hd hv e3 e4) e4
   show (lF p run (ev x r) (fL xs r) h).aG _
   rw [e2]; exact hl
 | inv k x xs =>
  obtain ⟨c, y, name, ho, hc, hk, hy, hx⟩ := Mp hop
  obtain ⟨t, u, e1, e2⟩ := BE (show (aB p run k (ev x r) (fL xs r) h).Safe from hs)
  have Qq : (pA t k p.ms (fun f => au p run f (.cons u (fL xs r)) h) (.err 206)).Safe := by
   have : (aB p run k (ev x r) (fL xs r) h).Safe := hs
   rwa [e2] at this
  obtain ⟨f, hm, e3⟩ := ua Qq
  rw [e3] at Qq e2
  have g1 := na (φ := φ) (r := r) (ρ := a.eval) hx (fun o _ b hb => hρ _ _ hb)
  have g2 := hρ _ _ hy
  rw [e1] at g2
  have hval : ∃ z, a.eval y = .iface t z ∧ VR φ u z := by
   generalize a.eval y = z at g2
   cases g2; exact ⟨_, rfl, by assumption⟩
  obtain ⟨z, hval, g3⟩ := hval
  have hrun : (execOp a.eval o).run P w = (callFunc f (z :: c.args.toList.map a.eval).toArray).run P w := by
   have hp : (program).run P w = .ok P w := rfl
   have hmeth := BC (w := w) M hm (FG hk) (P.types.size + Made.depth - 1) z
   have hdep : P.types.size + Made.depth - 1 + 1 = P.types.size + Made.depth := by
    have : 0 < Made.depth := by decide
    omega
   rw [hdep] at hmeth
   have h0 : (#[Value.iface t z] ++ c.args.map a.eval)[0]? = some (Value.iface t z) := by
    rw [Array.getElem?_append]; rfl
   have h1 : (#[Value.iface t z] ++ c.args.map a.eval).extract 1 (#[Value.iface t z] ++ c.args.map a.eval).size = c.args.map a.eval := by
    apply Array.ext'
    simp only [Array.toList_extract, List.extract_eq_take_drop]
    simp
    rw [List.take_of_length_le (by simp)]
   simp only [execOp, ho, resolve, hc, hval, Sem.run_bind, Sem.run_pure, Result.andThen_ok, invoke, h0, h1, callMethod, hp, hmeth]
   rw [toArray_map]
   simp
  rcases CO f _ h φ w _ S.iZ S.hr (.cons _ _ _ _ g3 g1) Qq with ⟨⟨fn, b, f1, f2, f3⟩, hC⟩ | ⟨cv, w', hcf, v, h', cv', φ', hl, he, hv, e5, e6⟩
  ·rw [hrun, fw f1 f2 f3, Oper.upon_enter]
   refine hC.mono ?_
   rintro e w' ⟨v, h', cv, φ', hl, rfl, hv, e5, e6⟩
   refine hn v h' φ' cv w' ?_ (S.put hd hv e5 e6) e6
   show (aB p run k (ev x r) (fL xs r) h).aG _
   rw [e2]; exact hl
  ·rw [hrun, hcf]
   cases he
   refine hn v h' φ' _ w' ?_ (S.put hd hv e5 e6) e6
   show (aB p run k (ev x r) (fL xs r) h).aG _
   rw [e2]; exact hl
variable {P : Program} {φ φ' : aI} {h h' : Hp} {w w' : World} {v : AV} {r : A2} {a : Act} {cv : Value} {n : Nat} {G : Gl} {names : List String} {p : Pg} {run : iY} {ops : Array Oper}
theorem kO {k : A2 → Hp → RS} (hs : (rN.exec p run k r h).Safe) : False := RS.Safe.err (n := 400) hs
theorem BF (b : Bool) : (undef : Value) ≠ .bool b := by simp [undef]
theorem oD {t j : Nat} {b : Bool} (hj : (ops[j]?).bind (·.dst) = some t) (ht : a.tmps.getD t undef = .bool b) : yielded ops a.tmps j = some b := by
 unfold yielded
 rw [hj, Option.bind_some]
 rw [Array.getD_eq_getD_getElem?] at ht
 cases h : a.tmps[t]? with
 | none => rw [h] at ht; exact absurd ht (BF b)
 | some x => rw [h] at ht; have ht : x = .bool b := ht; rw [ht]
theorem gA {x : AV} {k : Bool → RS} {n : Nat} (hs : (AV.bF x k (.err n)).Safe) : ∃ b, x = .bool b ∧ AV.bF x k (.err n) = k b := by
 cases x <;> first | exact ⟨_, rfl, rfl⟩ | exact (RS.Safe.err hs).elim
theorem xR {w b : Bool} {x : AV} (h : gb w x = .bool b) : x = .bool b ∨ (x = .jj [] ∧ b = !w) := by
 cases x with
 | jj l =>
  cases l with
  | nil => right; have h : AV.bool (Bool.not w) = .bool b := h; injection h with h; exact ⟨rfl, h.symm⟩
  | cons a l => have h : AV.undef = .bool b := h; cases h
 | _ => exact .inl h
theorem sR : VR φ cn undef := .jj [] [] .nil
theorem xS (h : VR φ (.jj []) cv) : cv = undef := by
 cases h with
 | jj _ vs e => cases e; rfl
theorem kP {t j : Nat} (hj : (ops[j]?).bind (·.dst) = some t) (ht : a.tmps.getD t undef = undef) : yielded ops a.tmps j = none := by
 unfold yielded
 rw [hj, Option.bind_some]
 rw [Array.getD_eq_getD_getElem?] at ht
 cases h : a.tmps[t]? with
 | none => rfl
 | some x => rw [h] at ht; have ht : x = undef := ht; rw [ht]; rfl
theorem xT (a b : Bool) : kL a b = (a == b) := by cases a <;> cases b <;> rfl
theorem SE {o : Oper} {i : Nat} {k : A2 → Hp → RS} (M : py P names p.ms) (CO : dU P G p run) (S : St n G φ r h a w) (hoi : ops[i]? = some o) (hs : ((ir P G n names ops o).exec p run k r h).Safe)
  {K : Act → World → Prop} {Q : Exit → Act → World → Prop}
  (hn : ∀ r' h' φ' a' w', (k r' h').Safe → (∀ y, (k r' h').aG y → ((ir P G n names ops o).exec p run k r h).aG y) → St n G φ' r' h' a' w' → Step φ h w φ' h' w' → K a' w') : wpOp P ops Q i K a w := by
 unfold wpOp
 simp only [hoi]
 unfold ir at hs hn
 split at hs
 ·rename_i d x hd hx
  split at hs
  ·rename_i hg
   have hw : Region.wanted o (yielded ops a.tmps) = true := by simp [Region.wanted, hg]
   rw [if_pos hw]
   simp only [hg, hd, hx] at hn
   change (x.exec p run d k r h).Safe at hs
   rw [pw] at hs
   obtain ⟨s1, s2⟩ := tW hs
   refine .inl (sQ M CO S hx hd s1 fun v h' φ' cv w' hl S' T => hn _ h' φ' _ w' (s2 v h' hl) (fun y hy => ?_) S' T)
   show (x.exec p run d k r h).aG y
   rw [pw]
   exact kN hl rfl hy
  ·rename_i j wnt hg
   simp only [hg, hd, hx] at hn
   split at hs
   ·rename_i t ht
    simp only [ht] at hn
    split at hs
    ·rename_i s hsl
     obtain ⟨hs256, htm⟩ := Di hsl
     simp only [hsl] at hn
     change (AV.bF (gb wnt (an (hi s) (lo s) r)) (jJ d k r h x p run wnt) (.err 210)).Safe at hs
     obtain ⟨b, hb, e⟩ := gA hs
     have hv := S.aE s hs256
     rw [htm] at hv
     have hw : Region.wanted o (yielded ops a.tmps) = (b == wnt) := by
      rcases xR hb with hb2 | ⟨hb2, rfl⟩
      ·rw [hb2] at hv
       have hy := oD ht hv.cW
       simp only [Region.wanted, hg, hy]; cases b <;> cases wnt <;> rfl
      ·rw [hb2] at hv
       have hy := kP (a := a) ht (xS hv)
       simp only [Region.wanted, hg, hy]; cases wnt <;> rfl
     rw [e] at hs
     have hs : (@Bool.rec (fun _ => RS) (k (cm d cn r) h) (x.exec p run d k r h) (kL b wnt)).Safe := hs
     have e : (AV.bF (gb wnt (an (hi s) (lo s) r)) (jJ d k r h x p run wnt) (.err 210)) = (@Bool.rec (fun _ => RS) (k (cm d cn r) h) (x.exec p run d k r h) (kL b wnt)) := e
     have hn : ∀ r' h' φ' a' w', (k r' h').Safe → (∀ y, (k r' h').aG y → (AV.bF (gb wnt (an (hi s) (lo s) r)) (jJ d k r h x p run wnt) (.err 210)).aG y) → St n G φ' r' h' a' w' → Step φ h w φ' h' w' → K a' w' := hn
     rw [e] at hn
     rw [xT] at hs hn
     rw [hw]
     cases hbw : (b == wnt) with
     | true =>
      rw [hbw] at hs hn
      rw [if_pos rfl]
      have hs : (x.exec p run d k r h).Safe := hs
      rw [pw] at hs
      obtain ⟨s1, s2⟩ := tW hs
      refine .inl (sQ M CO S hx hd s1 fun v h' φ' cv w' hl S' T => hn _ h' φ' _ w' (s2 v h' hl) (fun y hy => ?_) S' T)
      show (x.exec p run d k r h).aG y
      rw [pw]
      exact kN hl rfl hy
     | false =>
      rw [hbw] at hs hn
      rw [if_neg (by simp)]
      exact hn _ h φ _ w hs (fun y hy => hy) (S.put hd sR S.hr (.refl _ _ _)) (.refl _ _ _)
    ·exact (kO hs).elim
   ·exact (kO hs).elim
 ·exact (kO hs).elim
theorem FI (n : Nat) (names : List String) (ops : Array Oper) (o : Oper) : oy P G n names ops o = ir P G n names ops o ∨ oy P G n names ops o = rN ∨
  ∃ j w d t s, o.guard = some (j, w) ∧ kJ G n o.dst = some d ∧ (ops[j]?).bind (·.dst) = some t ∧ G.sl t = some s ∧ oy P G n names ops o = .g (hi s) (lo s) w d (.op (.bad 405)) := by
 unfold oy
 split
 ·rename_i j w d hx hg hd
  split
  ·rename_i t ht
   split
   ·rename_i s hs
    exact .inr (.inr ⟨j, w, d, t, s, hg, hd, ht, hs, rfl⟩)
   ·exact .inr (.inl rfl)
  ·exact .inr (.inl rfl)
 ·exact .inl rfl
theorem OX {o : Oper} {i : Nat} {k : A2 → Hp → RS} (M : py P names p.ms) (CO : dU P G p run) (S : St n G φ r h a w) (hoi : ops[i]? = some o) (hs : ((oy P G n names ops o).exec p run k r h).Safe)
  {K : Act → World → Prop} {Q : Exit → Act → World → Prop}
  (hn : ∀ r' h' φ' a' w', (k r' h').Safe → (∀ y, (k r' h').aG y → ((oy P G n names ops o).exec p run k r h).aG y) → St n G φ' r' h' a' w' → Step φ h w φ' h' w' → K a' w') : wpOp P ops Q i K a w := by
 rcases FI (P := P) (G := G) n names ops o with e | e | ⟨j, wnt, d, t, s, hg, hd, ht, hsl, e⟩
 ·rw [e] at hs hn
  exact SE M CO S hoi hs hn
 ·rw [e] at hs
  exact (kO hs).elim
 ·rw [e] at hs hn
  obtain ⟨hs256, htm⟩ := Di hsl
  change (AV.bF (gb wnt (an (hi s) (lo s) r)) (jJ d k r h (.op (.bad 405)) p run wnt) (.err 210)).Safe at hs
  obtain ⟨b, hb, e1⟩ := gA hs
  have hv := S.aE s hs256
  rw [htm] at hv
  have hw : Region.wanted o (yielded ops a.tmps) = (b == wnt) := by
   rcases xR hb with hb2 | ⟨hb2, rfl⟩
   ·rw [hb2] at hv
    have hy := oD ht hv.cW
    simp only [Region.wanted, hg, hy]; cases b <;> cases wnt <;> rfl
   ·rw [hb2] at hv
    have hy := kP (a := a) ht (xS hv)
    simp only [Region.wanted, hg, hy]; cases wnt <;> rfl
  rw [e1] at hs
  have hs : (@Bool.rec (fun _ => RS) (k (cm d cn r) h) ((AI.op (.bad 405)).exec p run d k r h) (kL b wnt)).Safe := hs
  have e1 : (AV.bF (gb wnt (an (hi s) (lo s) r)) (jJ d k r h (.op (.bad 405)) p run wnt) (.err 210)) = (@Bool.rec (fun _ => RS) (k (cm d cn r) h) ((AI.op (.bad 405)).exec p run d k r h) (kL b wnt)) := e1
  have hn : ∀ r' h' φ' a' w', (k r' h').Safe → (∀ y, (k r' h').aG y → (AV.bF (gb wnt (an (hi s) (lo s) r)) (jJ d k r h (.op (.bad 405)) p run wnt) (.err 210)).aG y) → St n G φ' r' h' a' w' → Step φ h w φ' h' w' → K a' w' := hn
  rw [e1] at hn
  rw [xT] at hs hn
  unfold wpOp
  simp only [hoi]
  rw [hw]
  cases hbw : (b == wnt) with
  | true => rw [hbw] at hs; exact (RS.Safe.err (n := 405) hs).elim
  | false =>
   rw [hbw] at hs hn
   rw [if_neg (by simp)]
   exact hn _ h φ _ w hs (fun y hy => hy) (S.put hd sR S.hr (.refl _ _ _)) (.refl _ _ _)
theorem BG (M : py P names p.ms) (CO : dU P G p run) {Q : Exit → Act → World → Prop} : ∀ (os pre : List Oper) (r : A2) (h : Hp) (φ : aI) (a : Act) (w : World), ops.toList = pre ++ os → St n G φ r h a w →
  (eU p run (os.map fun o => oy P G n names ops o) r h).Safe →
  (∀ r' h' φ' a' w', (eU p run (os.map fun o => oy P G n names ops o) r h).aG (.nm r' h') → St n G φ' r' h' a' w' → Step φ h w φ' h' w' → Q .normal a' w') →
  wpOps P ops Q (List.range' pre.length os.length) a w
 | [], pre, r, h, φ, a, w, _, S, _, hQ => hQ r h φ a w (.nm _ _) S (.refl _ _ _)
 | o :: os, pre, r, h, φ, a, w, e, S, hs, hQ => by
  have hoi : ops[pre.length]? = some o := by rw [← Array.getElem?_toList, e]; simp
  rw [List.length_cons, List.range'_succ, wpOps_cons]
  have hs : ((oy P G n names ops o).exec p run (eU p run (os.map fun o => oy P G n names ops o)) r h).Safe := hs
  refine OX M CO S hoi hs fun r' h' φ' a' w' s1 s2 S' T => ?_
  have := BG M CO os (pre ++ [o]) r' h' φ' a' w' (by rw [e]; simp) S' s1 (Q := Q) fun r'' h'' φ'' a'' w'' hl S'' T' => hQ r'' h'' φ'' a'' w'' (s2 _ hl) S'' (T.trans T')
  simpa using this
variable {P : Program} {φ φ' : aI} {h h' : Hp} {w w' : World} {v : AV} {r : A2} {a : Act} {cv : Value} {n : Nat} {G : Gl} {names : List String} {p : Pg} {run : iY} {ops : Array Oper}
section
variable {kn : A2 → Hp → RS} {ke : Nat → A2 → Hp → RS} {kg : Nat → A2 → Hp → RS}
theorem dF {y : RS} : ∀ {x z : RS}, x.aG z → z = .nm r h → (kn r h).aG y → (RS.bind x kn ke kg).aG y
 | _, _, .nm r h, e, g => by cases e; exact g
 | _, _, .ex .., e, _ => by cases e
 | _, _, .go .., e, _ => by cases e
 | _, _, .ret .., e, _ => by cases e
 | _, _, .err .., e, _ => by cases e
 | _, _, .ch n k c y' hc hl, e, g => .ch n _ c _ hc (dF hl e g)
theorem eF {i : Nat} {y : RS} : ∀ {x z : RS}, x.aG z → z = .ex i r h → (ke i r h).aG y → (RS.bind x kn ke kg).aG y
 | _, _, .nm .., e, _ => by cases e
 | _, _, .ex .., e, g => by cases e; exact g
 | _, _, .go .., e, _ => by cases e
 | _, _, .ret .., e, _ => by cases e
 | _, _, .err .., e, _ => by cases e
 | _, _, .ch n k c y' hc hl, e, g => .ch n _ c _ hc (eF hl e g)
theorem dG {i : Nat} {y : RS} : ∀ {x z : RS}, x.aG z → z = .go i r h → (kg i r h).aG y → (RS.bind x kn ke kg).aG y
 | _, _, .nm .., e, _ => by cases e
 | _, _, .ex .., e, _ => by cases e
 | _, _, .go .., e, g => by cases e; exact g
 | _, _, .ret .., e, _ => by cases e
 | _, _, .err .., e, _ => by cases e
 | _, _, .ch n k c y' hc hl, e, g => .ch n _ c _ hc (dG hl e g)
theorem eM : ∀ {x z : RS}, x.aG z → z = .ret r h → (RS.bind x kn ke kg).aG (.ret r h)
 | _, _, .nm .., e => by cases e
 | _, _, .ex .., e => by cases e
 | _, _, .go .., e => by cases e
 | _, _, .ret .., e => by cases e; exact .ret _ _
 | _, _, .err .., e => by cases e
 | _, _, .ch n k c y' hc hl, e => .ch n _ c _ hc (eM hl e)
theorem nP {i : Nat} : ∀ {x z : RS}, x.aG z → z = .err i → (RS.bind x kn ke kg).aG (.err i)
 | _, _, .nm .., e => by cases e
 | _, _, .ex .., e => by cases e
 | _, _, .go .., e => by cases e
 | _, _, .ret .., e => by cases e
 | _, _, .err .., e => by cases e; exact .err _
 | _, _, .ch n k c y' hc hl, e => .ch n _ c _ hc (nP hl e)
theorem jW {x : RS} (hs : (RS.bind x kn ke kg).Safe) : x.Safe := fun n hl => hs n (nP hl rfl)
theorem pB {x : RS} (hs : (RS.bind x kn ke kg).Safe) (hl : x.aG (.nm r h)) : (kn r h).Safe := fun n g => hs n (dF hl rfl g)
theorem xU {i : Nat} {x : RS} (hs : (RS.bind x kn ke kg).Safe) (hl : x.aG (.go i r h)) : (kg i r h).Safe := fun n g => hs n (dG hl rfl g)
end
inductive Ends : RS → Exit → A2 → Hp → Prop
 | nm (r : A2) (h : Hp) : Ends (.nm r h) .normal r h
 | ex (i : Nat) (r : A2) (h : Hp) : Ends (.ex i r h) (.exit i) r h
 | go (i : Nat) (r : A2) (h : Hp) : Ends (.go i r h) (.goto i) r h
 | ret (r : A2) (h : Hp) : Ends (.ret r h) .ret r h
def bG (n : Nat) (G : Gl) (φ : aI) (h : Hp) (w : World) (x : RS) : Exit → Act → World → Prop := fun e a' w' => ∃ y r' h' φ', x.aG y ∧ Ends y e r' h' ∧ St n G φ' r' h' a' w' ∧ Step φ h w φ' h' w'
def rP (P : Program) (c : Code) (Q : Exit → Act → World → Prop) (a : Act) (w : World) : Prop :=
 ∀ (b : Frame) (k : List Item) (cs : List Frame), ∃ e a' w', Q e a' w' ∧ Arrives P (lone (b.at a (.code c :: .inLoop c :: k)) cs w) b k cs e a' w'
theorem zz {c : Code} {Q : Exit → Act → World → Prop} (hl : rP P c Q a w) : (Code.loop c).wp P Q a w := fun b k cs =>
 let ⟨e, a', w', q, g⟩ := hl b k cs; ⟨e, a', w', q, .of_steps (.one step_loop) g⟩
theorem HY {c : Code} {Q : Exit → Act → World → Prop} (hc : c.wp P (Exit.then (rP P c Q) Q) a w) : rP P c Q a w := by
 intro b k cs
 obtain ⟨e, a₁, w₁, hq, harr⟩ := hc b (.inLoop c :: k) cs
 cases e with
 | normal =>
  obtain ⟨e₂, a₂, w₂, hq₂, harr₂⟩ := hq b k cs
  exact ⟨e₂, a₂, w₂, hq₂, .of_steps (Steps.trans harr (.one step_inLoop)) harr₂⟩
 | exit id => exact ⟨_, a₁, w₁, hq, .pass (x := .inLoop c) rfl (fun _ _ => .inl (by simp)) harr⟩
 | goto l => exact ⟨_, a₁, w₁, hq, .pass (x := .inLoop c) rfl (fun _ _ => .inl (by simp)) harr⟩
 | ret => exact ⟨_, a₁, w₁, hq, .pass (x := .inLoop c) rfl (fun _ _ => .inl (by simp)) harr⟩
 | panic ch => exact ⟨_, a₁, w₁, hq, .pass (x := .inLoop c) rfl (fun _ _ => .inl (by simp)) harr⟩
 | outgrown => exact ⟨_, a₁, w₁, hq, .pass (x := .inLoop c) rfl (fun _ _ => .inl (by simp)) harr⟩
def xV (P : Program) (s c : Code) (Q : Exit → Act → World → Prop) (a : Act) (w : World) : Prop :=
 ∀ (b : Frame) (k : List Item) (cs : List Frame), ∃ e a' w', Q e a' w' ∧ Arrives P (lone (b.at a (.code c :: .inScope s :: k)) cs w) b k cs e a' w'
def Exit.inScope (P : Program) (s : Code) (Q : Exit → Act → World → Prop) : Exit → Act → World → Prop
 | .goto l, a, w => match findLabel s l with
  | some c => xV P s c Q a w
  | none => Q (.goto l) a w
 | e, a, w => Q e a w
theorem BH {c : Code} {Q : Exit → Act → World → Prop} (hl : xV P c c Q a w) : (Code.scope c).wp P Q a w := fun b k cs =>
 let ⟨e, a', w', q, g⟩ := hl b k cs; ⟨e, a', w', q, .of_steps (.one step_scope) g⟩
theorem Mq {s c : Code} {Q : Exit → Act → World → Prop} (hc : c.wp P (Exit.inScope P s Q) a w) : xV P s c Q a w := by
 intro b k cs
 obtain ⟨e, a₁, w₁, hq, harr⟩ := hc b (.inScope s :: k) cs
 cases e with
 | normal => exact ⟨.normal, a₁, w₁, hq, Steps.trans harr (.one step_inScope)⟩
 | exit id => exact ⟨.exit id, a₁, w₁, hq, fun k' hk => harr k' (by simp [exitTo, hk])⟩
 | goto l =>
  simp only [Exit.inScope] at hq
  split at hq
  ·rename_i rest hf
   obtain ⟨e₂, a₂, w₂, hq₂, harr₂⟩ := hq b k cs
   exact ⟨e₂, a₂, w₂, hq₂, .of_steps (harr _ (by simp [gotoIn, hf])) harr₂⟩
  ·rename_i hf
   exact ⟨.goto l, a₁, w₁, hq, fun k' hk => harr k' (by simp [gotoIn, hf, hk])⟩
 | ret => exact ⟨_, a₁, w₁, hq, harr⟩
 | panic ch => exact ⟨_, a₁, w₁, hq, harr⟩
 | outgrown => exact ⟨_, a₁, w₁, hq, harr⟩
theorem eh {b c : Bool} (e : (@Bool.rec (fun _ => Bool) false c b) = true) : b = true ∧ c = true := by cases b <;> first | exact ⟨rfl, e⟩ | cases e
theorem sD {b c : Bool} (e : Bool.and b c = true) : b = true ∧ c = true := by cases b <;> cases c <;> first | exact ⟨rfl, rfl⟩ | cases e
theorem nK {a b : Nat} (e : Nat.beq a b = true) : a = b := Nat.eq_of_beq_eq_true e
theorem zA {a b : Bool} (e : kL a b = true) : a = b := by cases a <;> cases b <;> first | rfl | cases e
theorem zB {x y : AV} (e : lG x y = true) : x = y := by
 cases x <;> cases y <;> (try (cases e; done))
 ·rename_i a b; exact congrArg _ (zA e)
 ·rename_i k a k' b
  obtain ⟨h1, h2⟩ := eh (show (@Bool.rec (fun _ => Bool) false (ub a b) (mc k k')) = true from e)
  have h1 := iu h1
  have h2 : a = b := by rw [gK] at h2; exact of_decide_eq_true h2
  subst h1 h2; rfl
 ·rename_i a b
  have h2 : iw a b = true := e
  rw [iy] at h2
  exact congrArg _ (of_decide_eq_true h2)
 ·rename_i k a k' b
  obtain ⟨h1, h2⟩ := sD (show Bool.and (xW k k') (Nat.beq a b) = true from e)
  have h1 := jX h1
  have h2 := nK h2
  subst h1 h2; rfl
 ·rename_i k a b k' c d
  obtain ⟨h1, h2⟩ := sD (show Bool.and (xW k k') (Bool.and (Nat.beq a c) (Nat.beq b d)) = true from e)
  obtain ⟨h2, h3⟩ := sD h2
  have h1 := jX h1
  have h2 := nK h2
  have h3 := nK h3
  subst h1 h2 h3; rfl
 ·rename_i i o j q
  obtain ⟨h1, h2⟩ := sD (show Bool.and (qw i j) (Nat.beq o q) = true from e)
  have h1 := jl.1 h1
  have h2 := nK h2
  subst h1 h2; rfl
 ·rfl
 ·rename_i i a b c j d e' f
  obtain ⟨h1, h2⟩ := sD (show Bool.and (qw i j) (Bool.and (Nat.beq a d) (Bool.and (Nat.beq b e') (Nat.beq c f))) = true from e)
  obtain ⟨h2, h3⟩ := sD h2
  obtain ⟨h3, h4⟩ := sD h3
  have h1 := jl.1 h1
  have h2 := nK h2
  have h3 := nK h3
  have h4 := nK h4
  subst h1 h2 h3 h4; rfl
 ·rename_i i a b c j d e' f
  obtain ⟨h1, h2⟩ := sD (show Bool.and (qw i j) (Bool.and (Nat.beq a d) (Bool.and (Nat.beq b e') (Nat.beq c f))) = true from e)
  obtain ⟨h2, h3⟩ := sD h2
  obtain ⟨h3, h4⟩ := sD h3
  have h1 := jl.1 h1
  have h2 := nK h2
  have h3 := nK h3
  have h4 := nK h4
  subst h1 h2 h3 h4; rfl
 ·rfl
 ·rename_i i j; exact congrArg _ (jl.1 e)
 ·rfl
 ·rfl
 ·rfl
theorem uc : ∀ {a b : List AV}, rQ a b = true → a = b
 | [], [], _ => rfl
 | [], _ :: _, e => by cases e
 | _ :: _, [], e => by cases e
 | x :: a, y :: b, e => by
  obtain ⟨h1, h2⟩ := eh (show (@Bool.rec (fun _ => Bool) false (rQ a b) (lG x y)) = true from e)
  rw [zB h1, uc h2]
theorem zD {x y : AV} (e : ud x y = true) : x = y := by
 by_cases hx : ∃ l, x = .agg l
 ·obtain ⟨l, rfl⟩ := hx
  cases y <;> (try (cases e; done))
  exact congrArg _ (uc e)
 ·have : ud x y = lG x y := by cases x <;> first | rfl | exact absurd ⟨_, rfl⟩ hx
  exact zB (this ▸ e)
theorem zE {x y : AV} (e : vT x y = true) : x = y := by
 by_cases hx : ∃ f l, x = .fn f l
 ·obtain ⟨f, l, rfl⟩ := hx
  cases y <;> (try (cases e; done))
  rename_i g m
  obtain ⟨h1, h2⟩ := sD (show Bool.and (Nat.beq f g) (rQ l m) = true from e)
  rw [nK h1, uc h2]
 ·by_cases hi : ∃ t u, x = .iface t u
  ·obtain ⟨t, u, rfl⟩ := hi
   cases y <;> (try (cases e; done))
   rename_i t' u'
   obtain ⟨h1, h2⟩ := sD (show Bool.and (Nat.beq t t') (ud u u') = true from e)
   rw [nK h1, zD h2]
  ·have : vT x y = ud x y := by cases x <;> first | rfl | exact absurd ⟨_, _, rfl⟩ hx | exact absurd ⟨_, _, rfl⟩ hi
   exact zD (this ▸ e)
theorem zF : ∀ {a b : List AV}, HZ a b = true → a = b
 | [], [], _ => rfl
 | [], _ :: _, e => by cases e
 | _ :: _, [], e => by cases e
 | x :: a, y :: b, e => by
  obtain ⟨h1, h2⟩ := eh (show (@Bool.rec (fun _ => Bool) false (HZ a b) (vT x y)) = true from e)
  rw [zE h1, zF h2]
theorem sS {x y : AV} (e : same x y = true) : x = y := by
 by_cases hx : ∃ l, x = .jj l
 ·obtain ⟨l, rfl⟩ := hx
  cases y <;> (try (cases e; done))
  exact congrArg _ (zF e)
 ·have : same x y = vT x y := by cases x <;> first | rfl | exact absurd ⟨_, rfl⟩ hx
  exact zE (this ▸ e)
theorem Ia {x : AV} (e : Qr x = true) : x = .undef := by cases x <;> first | rfl | cases e
theorem ei {x y : AV} (e : zf x y = true) : x = y := by
 have e : (@Bool.rec (fun _ => Bool) (same x y) (Qr y) (Qr x)) = true := e
 cases hx : Qr x with
 | true => rw [hx] at e; rw [Ia hx, Ia e]
 | false => rw [hx] at e; exact sS e
theorem A1.eq_eq {x y : A1} (e : A1.eq x y = true) : x = y := by
 cases x with
 | nil => cases y with
  | nil => rfl
  | mk => cases e
 | mk => cases y with
  | nil => cases e
  | mk =>
   obtain ⟨e0, e⟩ := eh e; obtain ⟨e1, e⟩ := eh e; obtain ⟨e2, e⟩ := eh e; obtain ⟨e3, e⟩ := eh e; obtain ⟨e4, e⟩ := eh e; obtain ⟨e5, e⟩ := eh e; obtain ⟨e6, e⟩ := eh e; obtain ⟨e7, e⟩ := eh e
   obtain ⟨e8, e⟩ := eh e; obtain ⟨e9, e⟩ := eh e; obtain ⟨ea, e⟩ := eh e; obtain ⟨eb, e⟩ := eh e; obtain ⟨ec, e⟩ := eh e; obtain ⟨ed, e⟩ := eh e; obtain ⟨ee, e⟩ := eh e
   rw [ei e0, ei e1, ei e2, ei e3, ei e4, ei e5, ei e6, ei e7, ei e8, ei e9, ei ea, ei eb, ei ec, ei ed, ei ee, ei e]
theorem A2.eq_eq {x y : A2} (e : A2.eq x y = true) : x = y := by
 cases x with
 | nil => cases y with
  | nil => rfl
  | mk => cases e
 | mk => cases y with
  | nil => cases e
  | mk =>
   obtain ⟨e0, e⟩ := eh e; obtain ⟨e1, e⟩ := eh e; obtain ⟨e2, e⟩ := eh e; obtain ⟨e3, e⟩ := eh e; obtain ⟨e4, e⟩ := eh e; obtain ⟨e5, e⟩ := eh e; obtain ⟨e6, e⟩ := eh e; obtain ⟨e7, e⟩ := eh e
   obtain ⟨e8, e⟩ := eh e; obtain ⟨e9, e⟩ := eh e; obtain ⟨ea, e⟩ := eh e; obtain ⟨eb, e⟩ := eh e; obtain ⟨ec, e⟩ := eh e; obtain ⟨ed, e⟩ := eh e; obtain ⟨ee, e⟩ := eh e
   rw [A1.eq_eq e0, A1.eq_eq e1, A1.eq_eq e2, A1.eq_eq e3, A1.eq_eq e4, A1.eq_eq e5, A1.eq_eq e6, A1.eq_eq e7, A1.eq_eq e8, A1.eq_eq e9, A1.eq_eq ea, A1.eq_eq eb, A1.eq_eq ec, A1.eq_eq ed, A1.eq_eq ee, A1.eq_eq e]
theorem A3.eq_eq {x y : A3} (e : A3.eq x y = true) : x = y := by
 cases x with
 | nil => cases y with
  | nil => rfl
  | mk => cases e
 | mk => cases y with
  | nil => cases e
  | mk =>
   obtain ⟨e0, e⟩ := eh e; obtain ⟨e1, e⟩ := eh e; obtain ⟨e2, e⟩ := eh e; obtain ⟨e3, e⟩ := eh e; obtain ⟨e4, e⟩ := eh e; obtain ⟨e5, e⟩ := eh e; obtain ⟨e6, e⟩ := eh e; obtain ⟨e7, e⟩ := eh e
   obtain ⟨e8, e⟩ := eh e; obtain ⟨e9, e⟩ := eh e; obtain ⟨ea, e⟩ := eh e; obtain ⟨eb, e⟩ := eh e; obtain ⟨ec, e⟩ := eh e; obtain ⟨ed, e⟩ := eh e; obtain ⟨ee, e⟩ := eh e
   rw [A2.eq_eq e0, A2.eq_eq e1, A2.eq_eq e2, A2.eq_eq e3, A2.eq_eq e4, A2.eq_eq e5, A2.eq_eq e6, A2.eq_eq e7, A2.eq_eq e8, A2.eq_eq e9, A2.eq_eq ea, A2.eq_eq eb, A2.eq_eq ec, A2.eq_eq ed, A2.eq_eq ee, A2.eq_eq e]
theorem A4.eq_eq {x y : A4} (e : A4.eq x y = true) : x = y := by
 cases x with
 | nil => cases y with
  | nil => rfl
  | mk => cases e
 | mk => cases y with
  | nil => cases e
  | mk =>
   obtain ⟨e0, e⟩ := eh e; obtain ⟨e1, e⟩ := eh e; obtain ⟨e2, e⟩ := eh e; obtain ⟨e3, e⟩ := eh e; obtain ⟨e4, e⟩ := eh e; obtain ⟨e5, e⟩ := eh e; obtain ⟨e6, e⟩ := eh e; obtain ⟨e7, e⟩ := eh e
   obtain ⟨e8, e⟩ := eh e; obtain ⟨e9, e⟩ := eh e; obtain ⟨ea, e⟩ := eh e; obtain ⟨eb, e⟩ := eh e; obtain ⟨ec, e⟩ := eh e; obtain ⟨ed, e⟩ := eh e; obtain ⟨ee, e⟩ := eh e
   rw [A3.eq_eq e0, A3.eq_eq e1, A3.eq_eq e2, A3.eq_eq e3, A3.eq_eq e4, A3.eq_eq e5, A3.eq_eq e6, A3.eq_eq e7, A3.eq_eq e8, A3.eq_eq e9, A3.eq_eq ea, A3.eq_eq eb, A3.eq_eq ec, A3.eq_eq ed, A3.eq_eq ee, A3.eq_eq e]
theorem Cl.eq_eq {x y : Cl} (e : Cl.eq x y = true) : x = y := by
 cases x <;> cases y <;> (try (cases e; done))
 ·exact congrArg _ (A1.eq_eq e)
 ·exact congrArg _ (A2.eq_eq e)
 ·exact congrArg _ (A3.eq_eq e)
 ·exact congrArg _ (A4.eq_eq e)
theorem Fl.eq_eq {x y : Fl} (e : Fl.eq x y = true) : x = y := by cases x <;> cases y <;> first | rfl | cases e
theorem Mr {x y : KV} (e : Qs x y = true) : x = y := by
 cases x; cases y
 obtain ⟨h1, h2⟩ := eh e
 obtain ⟨h2, h3⟩ := eh h2
 rw [nK h1, sS h2, ei h3]
theorem zG : ∀ {a b : List KV}, Ib a b = true → a = b
 | [], [], _ => rfl
 | [], _ :: _, e => by cases e
 | _ :: _, [], e => by cases e
 | x :: a, y :: b, e => by
  obtain ⟨h1, h2⟩ := eh (show (@Bool.rec (fun _ => Bool) false (Ib a b) (Qs x y)) = true from e)
  rw [Mr h1, zG h2]
theorem Ic {x y : Obj} (e : zH x y = true) : x = y := by
 cases x <;> cases y <;> (try (cases e; done))
 ·rfl
 ·obtain ⟨h1, h2⟩ := eh e
  obtain ⟨h2, h3⟩ := eh h2
  obtain ⟨h3, h4⟩ := eh h3
  obtain ⟨h4, h5⟩ := eh h4
  rw [nK h1, nK h2, zA h3, Fl.eq_eq h4, Cl.eq_eq h5]
 ·obtain ⟨h1, h2⟩ := eh e
  rw [nK h1, zG h2]
theorem Dl (x y : AV) : (gI x y = x ∧ x = y) ∨ gI x y = .undef := by
 show ((@Bool.rec (fun _ => AV) .undef x (same x y)) = x ∧ x = y) ∨ (@Bool.rec (fun _ => AV) .undef x (same x y)) = .undef
 cases hs : same x y with
 | true => exact .inl ⟨rfl, sS hs⟩
 | false => exact .inr rfl
theorem vU (x y : Obj) : (bm x y = x ∧ x = y) ∨ bm x y = .dead := by
 show ((@Bool.rec (fun _ => Obj) .dead x (zH x y)) = x ∧ x = y) ∨ (@Bool.rec (fun _ => Obj) .dead x (zH x y)) = .dead
 cases hs : zH x y with
 | true => exact .inl ⟨rfl, Ic hs⟩
 | false => exact .inr rfl
theorem A1.iz (d : H) (x y : A1) : A1.get d (A1.mg x y) = gI (A1.get d x) (A1.get d y) := by
 cases x <;> cases y <;> cases d <;> rfl
theorem A2.iz (d : H) (x y : A2) : A2.get d (A2.mg x y) = A1.mg (A2.get d x) (A2.get d y) := by
 cases x <;> cases y <;> cases d <;> rfl
theorem O1.iz (d : H) (x y : O1) : O1.get d (O1.mg x y) = bm (O1.get d x) (O1.get d y) := by
 cases x <;> cases y <;> cases d <;> rfl
theorem O2.iz (d : H) (x y : O2) : O2.get d (O2.mg x y) = O1.mg (O2.get d x) (O2.get d y) := by
 cases x <;> cases y <;> cases d <;> rfl
theorem O3.iz (d : H) (x y : O3) : O3.get d (O3.mg x y) = O2.mg (O3.get d x) (O3.get d y) := by
 cases x <;> cases y <;> cases d <;> rfl
theorem O4.iz (d : H) (x y : O4) : O4.get d (O4.mg x y) = O3.mg (O4.get d x) (O4.get d y) := by
 cases x <;> cases y <;> cases d <;> rfl
theorem Dm (a b : H) (x y : A2) : an a b (A2.mg x y) = gI (an a b x) (an a b y) := by
 simp only [an, A2.iz, A1.iz]
theorem zI (i : P4) (x y : T4) : cJ i (xX x y) = bm (cJ i x) (cJ i y) := by
 obtain ⟨x, f⟩ := x
 obtain ⟨y, g⟩ := y
 cases i with
 | eN n s => rfl
 | mk a b c d =>
 show O1.get d (O2.get c (O3.get b (O4.get a (O4.mg x y)))) = _
 rw [O4.iz, O3.iz, O2.iz, O1.iz]
 rfl
def jm (r2 r : A2) : Prop := ∀ a b, an a b r2 = an a b r ∨ an a b r2 = .undef
def jY (h2 h : Hp) : Prop := ∀ i, ag i h2 = ag i h ∨ ag i h2 = .dead
theorem jm.refl (r : A2) : jm r r := fun _ _ => .inl rfl
theorem jY.refl (h : Hp) : jY h h := fun _ => .inl rfl
theorem jm.trans {r1 r2 r3 : A2} (h : jm r1 r2) (g : jm r2 r3) : jm r1 r3 := fun a b => by
 rcases h a b with e | e
 ·rw [e]; exact g a b
 ·exact .inr e
theorem jY.trans {h1 h2 h3 : Hp} (h : jY h1 h2) (g : jY h2 h3) : jY h1 h3 := fun i => by
 rcases h i with e | e
 ·rw [e]; exact g i
 ·exact .inr e
variable {P : Program} {φ φ' : aI} {h h' h2 : Hp} {w w' : World} {v : AV} {r r2 : A2} {a : Act} {cv : Value} {n : Nat} {G : Gl}
theorem HR.less (H : HR φ h w) (L : jY h2 h) : HR φ h2 w where
 obj i hl := by
  rcases L i with e | e
  ·rw [e] at hl ⊢; exact H.obj i hl
  ·exact absurd e hl.2
 inj i j p q hi hj hw := by
  rcases L i with e | e
  ·rcases L j with e' | e'
   ·rw [e] at hi; rw [e'] at hj; rw [e, e'] at hw; exact H.inj i j p q hi hj hw
   ·exact absurd e' hj.2
  ·exact absurd e hi.2
 fresh i hi := by
  rcases L i with e | e
  ·exact H.fresh i (e ▸ hi)
  ·rw [e] at hi; cases hi
 bound := H.bound
theorem Step.less {φ₀ : aI} {h₀ : Hp} {w₀ : World} (S : Step φ₀ h₀ w₀ φ h w) (L : jY h2 h) : Step φ₀ h₀ w₀ φ h2 w :=
 ⟨S.le, S.keeps, fun i p hl hp => by
  rcases L i with e | e
  ·have g := S.new i p (e ▸ hl) hp
   rw [e]; exact g
  ·exact absurd e hl.2⟩
theorem St.less (S : St n G φ r h a w) (L : jm r2 r) (M : jY h2 h) : St n G φ r2 h2 a w :=
 ⟨S.hr.less M, fun t ht => by
  rcases L (hi t) (lo t) with e | e
  ·rw [e]; exact S.aE t ht
  ·rw [e]; exact .undef _, S.fu, S.size, S.iZ⟩
theorem vV {x y : RS} (hs : (BI x y).Safe) : ∃ r h r' h' h2, x = .nm r h ∧ y = .nm r' h' ∧ BI x y = .nm (A2.mg r r') h2 ∧ jY h2 h ∧ jY h2 h' := by
 cases x <;> (try exact (RS.Safe.err hs).elim)
 rename_i r h
 cases y <;> (try exact (RS.Safe.err hs).elim)
 rename_i r' h'
 obtain ⟨t, m⟩ := h
 obtain ⟨t', m'⟩ := h'
 change RS.Safe (@Bool.rec (fun _ => RS) (.err 301) (.nm (A2.mg r r') (.mk (xX t t') m)) (qw m m')) at hs
 have e : BI (.nm r (.mk t m)) (.nm r' (.mk t' m')) = (@Bool.rec (fun _ => RS) (.err 301) (.nm (A2.mg r r') (.mk (xX t t') m)) (qw m m')) := rfl
 cases hp : qw m m' with
 | false => rw [hp] at hs; exact (RS.Safe.err hs).elim
 | true =>
  rw [hp] at e
  refine ⟨r, _, r', _, .mk (xX t t') m, rfl, rfl, e, fun i => ?_, fun i => ?_⟩
  ·show cJ i (xX t t') = cJ i t ∨ cJ i (xX t t') = .dead
   rw [zI]
   rcases vU (cJ i t) (cJ i t') with ⟨g1, _⟩ | g1
   ·exact .inl g1
   ·exact .inr g1
  ·show cJ i (xX t t') = cJ i t' ∨ cJ i (xX t t') = .dead
   rw [zI]
   rcases vU (cJ i t) (cJ i t') with ⟨g1, g2⟩ | g1
   ·exact .inl (g1.trans g2)
   ·exact .inr g1
theorem jm.SF (r r' : A2) : jm (A2.mg r r') r := fun a b => by
 rw [Dm]
 rcases Dl (an a b r) (an a b r') with ⟨g1, _⟩ | g1
 ·exact .inl g1
 ·exact .inr g1
theorem jm.SG (r r' : A2) : jm (A2.mg r r') r' := fun a b => by
 rw [Dm]
 rcases Dl (an a b r) (an a b r') with ⟨g1, g2⟩ | g1
 ·exact .inl (g1.trans g2)
 ·exact .inr g1
theorem FJ {β : Type} (z : β) (s : Nat → β → β) (m : Nat) : xY z s (m + 1) = s m (xY z s m) := rfl
theorem Ie {f : Nat → RS} : ∀ m, (xY (f 0) (fun m ih => BI ih (f (Nat.succ m))) (m + 1)).Safe → ∃ R H, xY (f 0) (fun m ih => BI ih (f (Nat.succ m))) (m + 1) = .nm R H ∧ ∀ c, c ≤ m + 1 → ∃ r h, f c = .nm r h ∧ jm R r ∧ jY H h
 | 0, hs => by
  obtain ⟨r, h, r', h', h2, e1, e2, e3, l1, l2⟩ := vV (x := f 0) (y := f 1) hs
  refine ⟨_, _, e3, fun c hc => ?_⟩
  rcases Nat.lt_or_ge c 1 with g | g
  ·obtain rfl : c = 0 := by omega
   exact ⟨r, h, e1, .SF _ _, l1⟩
  ·obtain rfl : c = 1 := by omega
   exact ⟨r', h', e2, .SG _ _, l2⟩
 | m + 1, hs => by
  rw [FJ] at hs ⊢
  obtain ⟨r, h, r', h', h2, e1, e2, e3, l1, l2⟩ := vV hs
  obtain ⟨R, H, g1, g2⟩ := Ie m (by rw [e1]; exact fun n hn => by cases hn)
  rw [e1] at g1; cases g1
  refine ⟨_, _, e3, fun c hc => ?_⟩
  rcases Nat.lt_or_ge c (m + 2) with g | g
  ·obtain ⟨rc, hc', f1, f2, f3⟩ := g2 c (by omega)
   exact ⟨rc, hc', f1, (jm.SF _ _).trans f2, l1.trans f3⟩
  ·obtain rfl : c = m + 2 := by omega
   exact ⟨r', h', e2, .SG _ _, l2⟩
theorem sU : ∀ x : RS, (dA x).Safe → x.Safe ∧ ∀ y, x.aG y → ∀ e r' h', Ends y e r' h' → ∃ y2 r2 h2, (dA x).aG y2 ∧ Ends y2 e r2 h2 ∧ jm r2 r' ∧ jY h2 h' := by
  intro x
  induction x with
  | nm r h => exact fun hs => ⟨hs, fun y hy e r' h' he => ⟨y, r', h', hy, he, .refl _, .refl _⟩⟩
  | ex i r h => exact fun hs => ⟨hs, fun y hy e r' h' he => ⟨y, r', h', hy, he, .refl _, .refl _⟩⟩
  | go i r h => exact fun hs => ⟨hs, fun y hy e r' h' he => ⟨y, r', h', hy, he, .refl _, .refl _⟩⟩
  | ret r h => exact fun hs => ⟨hs, fun y hy e r' h' he => ⟨y, r', h', hy, he, .refl _, .refl _⟩⟩
  | err n => exact fun hs => (RS.Safe.err hs).elim
  | ch n k ih =>
    intro hs
    have e0 : dA (.ch n k) = Ig n (fun i => dA (k i)) := rfl
    rw [e0] at hs ⊢
    cases n with
    | zero => exact (RS.Safe.err hs).elim
    | succ n =>
      cases n with
      | zero =>
        have hs : (dA (k 0)).Safe := hs
        obtain ⟨s1, s2⟩ := ih 0 hs
        refine ⟨fun m hm => ?_, fun y hy e r' h' he => ?_⟩
        · cases hm with
          | ch _ _ c _ hc hl => obtain rfl : c = 0 := by omega
                                exact s1 m hl
        · cases hy with
          | ch _ _ c _ hc hl => obtain rfl : c = 0 := by omega
                                exact s2 y hl e r' h' he
      | succ m =>
        have hs : (xY (dA (k 0)) (fun m ih => BI ih (dA (k (Nat.succ m)))) (m + 1)).Safe := hs
        obtain ⟨R, H, g1, g2⟩ := Ie (f := fun i => dA (k i)) m hs
        have e1 : Ig (m + 1 + 1) (fun i => dA (k i)) = .nm R H := g1
        rw [e1]
        have hk : ∀ c, c < m + 1 + 1 → (dA (k c)).Safe := fun c hc => by
          obtain ⟨rc, hc', f1, _, _⟩ := g2 c (by omega)
          rw [f1]; exact fun n hn => by cases hn
        refine ⟨fun j hj => ?_, fun y hy e r' h' he => ?_⟩
        · cases hj with
          | ch _ _ c _ hc hl => exact (ih c (hk c hc)).1 j hl
        · cases hy with
          | ch _ _ c _ hc hl =>
            obtain ⟨y2, r2, h2, q1, q2, q3, q4⟩ := (ih c (hk c hc)).2 y hl e r' h' he
            obtain ⟨rc, hc', f1, f2, f3⟩ := g2 c (by omega)
            have f1 : dA (k c) = .nm rc hc' := f1
            rw [f1] at q1
            cases q1
            cases q2
            exact ⟨_, R, H, .nm _ _, .nm _ _, f2.trans q3, f3.trans q4⟩
variable {P : Program} {φ φ' : aI} {h h' h2 : Hp} {w w' : World} {v : AV} {r r2 : A2} {a : Act} {cv : Value} {n : Nat} {G : Gl} [NB G] {names : List String} {p : Pg} {run : iY}
theorem Ms {x : AO} {cx : Value} (H : HR φ h w) (hx : VR φ (ev x r) cx) {t : TypeId} {d : TypeDesc} (hd : P.underlying t = some d) (ha : sN P t = false) (e : jZ x r h = .ok v h') :
  h' = h ∧ ∃ ad cv, cx = .pointer (some ad) ∧ (loadVar t ad).run P w = .ok cv w ∧ VR φ v cv := by
 obtain ⟨i, o, ex, e1⟩ := cQ e
 rw [ex] at hx
 obtain ⟨el, n, ex, fl, c, hi, e2⟩ := aX e1
 obtain ⟨hb, e3⟩ := az e2
 obtain ⟨rfl, rfl⟩ := RV.ak e3
 cases hx with
 | ptr _ _ p hp =>
  obtain ⟨cv, h1, h2, h3⟩ := H.cell hi hp (lX hb)
  exact ⟨rfl, _, cv, rfl, by simp [loadVar, hS hd, ha, h1], h2⟩
theorem Mt {x : AO} {cx : Value} (H : HR φ h w) (hx : VR φ (ev x r) cx) {t : TypeId} {d : TypeDesc} (hd : P.underlying t = some d) (ha : sN P t = true) {m : Nat} (hm : bp P t = m) (e : rR m x r h = .ok v h') :
  h' = h ∧ ∃ ad cv, cx = .pointer (some ad) ∧ (loadVar t ad).run P w = .ok cv w ∧ VR φ v cv := by
 obtain ⟨i, o, ex, e1⟩ := cQ e
 rw [ex] at hx
 obtain ⟨el, n, ex, fl, c, hi, e2⟩ := aX e1
 obtain ⟨hb, e3⟩ := az e2
 obtain ⟨rfl, rfl⟩ := RV.ak e3
 obtain ⟨inf, hinf⟩ := ji hd
 cases hx with
 | ptr _ _ p hp =>
  obtain ⟨l, h1, h2, h3, h4⟩ := H.values hi hp m o (by simpa using hb)
  have hsz : inf.size = m := by rw [← cR hinf, hm]
  exact ⟨rfl, _, _, rfl, by simp [loadVar, hS hd, ha, aP hinf, hsz, run_loadCells h1 h4], .agg _ l h2 h3⟩
def zJ (a : Act) : ResultVar → Sem Value := fun
 | .tmp t => pure (a.tmps.getD t undef)
 | .cell b t => do loadVar t (← asAddr (a.tmps.getD b undef))
theorem Mu {s : Rs} {rv : ResultVar} (S : St n G φ r h a w) (hs : OU P n rv = some s) (he : Mv s r h = .ok v h') : h' = h ∧ ∃ cv, (zJ a rv).run P w = .ok cv w ∧ VR φ v cv := by
 cases rv with
 | tmp t =>
  simp only [OU] at hs
  split at hs
  ·rename_i ht
   cases hs
   obtain ⟨rfl, rfl⟩ := RV.ak he
   exact ⟨rfl, _, rfl, S.Mo t ht⟩
  ·cases hs
 | cell b t =>
  simp only [OU] at hs
  split at hs
  ·cases hs
  ·rename_i hu
   obtain ⟨d, hd⟩ := gW hu
   split at hs
   ·rename_i ht
    have hv : VR φ (ev (.t (hi b) (lo b)) r) (a.tmps.getD b undef) := S.Mo b ht
    have key : h' = h ∧ ∃ ad cv, a.tmps.getD b undef = .pointer (some ad) ∧ (loadVar t ad).run P w = .ok cv w ∧ VR φ v cv := by
     cases ha : sN P t with
     | true =>
      rw [ha] at hs
      cases hs
      exact Mt S.hr hv hd ha rfl he
     | false =>
      rw [ha] at hs
      cases hs
      exact Ms S.hr hv hd ha he
    obtain ⟨e1, ad, cv, e2, e3, e4⟩ := key
    refine ⟨e1, cv, ?_, e4⟩
    have : (asAddr (.pointer (some ad))).run P w = .ok ad w := rfl
    simp only [zJ, e2, Sem.run_bind, this, Result.andThen_ok, e3]
   ·cases hs
theorem Dn (S : St n G φ r h a w) : ∀ {l : List ResultVar} {rs : List Rs} {k : List AV → RV}, l.mapM (OU P n) = some rs → Qt rs r h k = .ok v h' → ∃ vs cs, k vs = .ok v h' ∧ (l.mapM (zJ a)).run P w = .ok cs w ∧ cL φ vs cs
 | [], rs, k, hl, he => by
  simp at hl; subst hl
  exact ⟨[], [], he, rfl, .nil⟩
 | x :: l, rs, k, hl, he => by
  simp only [List.mapM_cons, Option.pure_def, Option.bind_eq_bind, Option.bind_eq_some_iff, Option.some.injEq] at hl
  obtain ⟨s, hs, rs, hrs, rfl⟩ := hl
  have he : (RV.rec (fun v _ => Qt rs r h (fun vs => k (v :: vs))) (fun n => .err n) (Mv s r h) : RV) = .ok v h' := he
  cases h1 : Mv s r h with
  | err n => rw [h1] at he; cases he
  | ok u g =>
   rw [h1] at he
   obtain ⟨_, cv, e1, e2⟩ := Mu S hs h1
   obtain ⟨vs, cs, f1, f2, f3⟩ := Dn S hrs he
   refine ⟨u :: vs, cv :: cs, f1, ?_, .cons _ _ _ _ e2 f3⟩
   simp only [List.mapM_cons, Sem.run_bind, e1, Result.andThen_ok, f2, Sem.run_pure]
theorem kQ {fn : Func} {rs : List Rs} (S : St n G φ r h a w) (hr : fn.results.toList.mapM (OU P n) = some rs) (he : ue rs r h = .ok v h') : h' = h ∧ ∃ cv, (results fn a.tmps).run P w = .ok cv w ∧ VR φ v cv := by
 obtain ⟨vs, cs, f1, f2, f3⟩ := Dn S hr he
 have hm : (fn.results.mapM (zJ a)).run P w = .ok cs.toArray w := by
  rw [Array.mapM_eq_mapM_toList]
  simp [f2]
 have hrun : (results fn a.tmps).run P w = .ok (if h : cs.toArray.size = 1 then cs.toArray[0] else .tuple cs.toArray) w := by
  have : results fn a.tmps = (do let vs ← fn.results.mapM (zJ a); pure (if h : vs.size = 1 then vs[0] else .tuple vs)) := rfl
  rw [this]
  simp only [Sem.run_bind, hm, Result.andThen_ok, Sem.run_pure]
 cases f3 with
 | nil =>
  obtain ⟨rfl, rfl⟩ := RV.ak f1
  exact ⟨rfl, .tuple #[], by rw [hrun]; rfl, .jj [] [] .nil⟩
 | cons u c us ds g1 g2 => cases g2 with
  | nil =>
   obtain ⟨rfl, rfl⟩ := RV.ak f1
   exact ⟨rfl, c, by rw [hrun]; rfl, g1⟩
  | cons u2 c2 us ds g3 g4 =>
   obtain ⟨rfl, rfl⟩ := RV.ak f1
   refine ⟨rfl, .tuple (c :: c2 :: ds).toArray, by rw [hrun]; rw [dif_neg (by simp)], .jj _ _ (.cons _ _ _ _ g1 (.cons _ _ _ _ g3 g4))⟩
theorem uf : ∀ (l : List AV) (i : Nat) (r : A2) (t : Nat), t < 256 → i + l.length ≤ 256 → an (hi t) (lo t) (aY l i r) = if hh : i ≤ t ∧ t < i + l.length then l[t - i]'(by omega) else an (hi t) (lo t) r
 | [], i, r, t, ht, hl => by rw [dif_neg (by simp only [List.length_nil]; omega)]; rfl
 | v :: l, i, r, t, ht, hl => by
  simp only [List.length_cons] at hl
  have e : aY (v :: l) i r = aY l (i + 1) (jG (hi i) (lo i) v r) := rfl
  rw [e, uf l (i + 1) _ t ht (by omega), hM]
  by_cases h1 : t = i
  ·subst h1
   rw [dif_neg (by omega), dif_pos (by simp), if_pos ⟨rfl, rfl⟩]
   simp
  ·rw [if_neg (fun g => h1 ((HV ht (by omega)).1 g))]
   by_cases h2 : i ≤ t ∧ t < i + (l.length + 1)
   ·rw [dif_pos (by omega), dif_pos (by simpa using h2)]
    have : t - i = (t - (i + 1)) + 1 := by omega
    simp only [this, List.getElem_cons_succ]
   ·rw [dif_neg (by omega), dif_neg (by simpa using h2)]
theorem Ih (a b : H) : an a b .nil = .undef := by
 simp only [an, A2.get_nil, A1.get_nil]
theorem St.start {args : List AV} {vals : List Value} (H : HR φ h w) (hv : cL φ args vals) (hg : nJ G φ) (hl : args.length ≤ 256) (n : Nat) : St n G φ (aY args 0 .nil) h { tmps := vals.toArray ++ Array.replicate (n - vals.toArray.size) undef, defers := [] } w := by
 refine St.mk' H (fun t ht => ?_) rfl ?_ hg
 ·rw [uf args 0 _ t ht (by omega)]
  by_cases h1 : t < args.length
  ·rw [dif_pos (by omega)]
   have hlen := hv.length
   have : ({ tmps := vals.toArray ++ Array.replicate (n - vals.toArray.size) undef, defers := [] } : Act).tmps.getD t undef = vals[t]'(by omega) := by
    rw [Array.getD_eq_getD_getElem?, Array.getElem?_append_left (by simpa using (by omega : t < vals.length))]
    simp [List.getElem?_eq_getElem (show t < vals.length by omega)]
   rw [this]
   exact hv.get t h1 (by omega)
  ·rw [dif_neg (by omega), Ih]; exact .undef _
 ·simp; omega
section
variable {P : Program} {ops : Array Oper} {x y : Nat}
theorem ug (i : Nat) : (fR x y ops)[i]? = (ops[i]?).map fun o => if i = y then { o with after := o.after.push ⟨x, .data⟩ } else o := by
 unfold fR
 rw [Array.getElem?_modify]
 by_cases h : y = i
 ·subst h; simp
 ·rw [if_neg h]
  have : ¬ i = y := fun e => h e.symm
  simp [this]
theorem vW : (fR x y ops).size = ops.size := by simp [fR]
theorem Ii (j : Nat) : ((fR x y ops)[j]?).bind (·.dst) = (ops[j]?).bind (·.dst) := by
 rw [ug]
 cases ops[j]? with
 | none => rfl
 | some o =>
  show (if j = y then _ else o : Oper).dst = o.dst
  split <;> rfl
theorem xZ (t : Array Value) : yielded (fR x y ops) t = yielded ops t := by
 funext j
 unfold yielded
 rw [Ii]
theorem nd (Q : Exit → Act → World → Prop) (i : Nat) (K : Act → World → Prop) (a : Act) (w : World) : wpOp P (fR x y ops) Q i K a w = wpOp P ops Q i K a w := by
 unfold wpOp
 rw [ug, xZ]
 cases ops[i]? with
 | none => rfl
 | some o =>
  show (if Region.wanted (if i = y then _ else o : Oper) _ then (if i = y then _ else o : Oper).wp P a w K Q ∨ ((if i = y then _ else o : Oper).asks P a w ∧ LetsOut Q) else K (a.put (if i = y then _ else o : Oper).dst undef) w) = _
  by_cases h : i = y
  ·rw [if_pos h]; rfl
  ·rw [if_neg h]
theorem eo {L : Array Bool} (i : Nat) : i ∈ Region.ready .any (fR x y ops) L ↔ i ∈ Region.ready .any ops L ∧ (i = y → L.getD x false = true) := by
 unfold Region.ready
 rw [List.mem_filter, List.mem_filter, vW, ug]
 cases ho : ops[i]? with
 | none => simp
 | some o =>
  by_cases h : i = y
  ·subst h
   have hb : Region.binds .any ⟨x, .data⟩ = true := rfl
   simp [hb, and_assoc]
  ·simp [h]
def Flat (P : Program) (o : Oper) : Prop := ∀ (a : Act) (w : World) (n : Next) (w' : World), (execOp a.eval o).run P w = .ok n w' → (∃ v, n = .value v) ∨ n = .skip
variable {Q Q1 Q2 : Exit → Act → World → Prop}
theorem Ij {o : Oper} (hf : Flat P o) {a : Act} {w : World} {K1 K2 K : Act → World → Prop} (hK : ∀ a w, K1 a w → K2 a w → K a w) (hQ : ∀ e a w, Q1 e a w → Q e a w) (h1 : o.wp P a w K1 Q1) (h2 : o.wp P a w K2 Q2) : o.wp P a w K Q := by
 unfold Oper.wp at *
 cases hr : (execOp a.eval o).run P w with
 | ok n w' =>
  rw [hr] at h1 h2
  rcases hf a w n w' hr with ⟨v, rfl⟩ | rfl
  ·exact hK _ _ h1 h2
  ·exact hK _ _ h1 h2
 | halt s w' =>
  rw [hr] at h1 h2
  cases s <;> simp only [Oper.upon] at h1 h2 ⊢ <;> exact hQ _ _ _ h1
theorem Ik (hf : ∀ (i : Nat) (o : Oper), ops[i]? = some o → Flat P o) (hl1 : ¬ LetsOut Q1) (hl2 : ¬ LetsOut Q2) {i : Nat} {a : Act} {w : World} {K1 K2 K : Act → World → Prop} (hK : ∀ a w, K1 a w → K2 a w → K a w) (hQ : ∀ e a w, Q1 e a w → Q e a w)
  (h1 : wpOp P ops Q1 i K1 a w) (h2 : wpOp P ops Q2 i K2 a w) : wpOp P ops Q i K a w := by
 unfold wpOp at *
 cases ho : ops[i]? with
 | none => rw [ho] at h1 h2; exact hK _ _ h1 h2
 | some o =>
  rw [ho] at h1 h2
  simp only at h1 h2 ⊢
  split
  ·rename_i hw
   rw [if_pos hw] at h1 h2
   rcases h1 with h1 | h1
   ·rcases h2 with h2 | h2
    ·exact .inl (Ij (hf i o ho) hK hQ h1 h2)
    ·exact absurd h2.2 hl2
   ·exact absurd h1.2 hl1
  ·rename_i hw
   rw [if_neg hw] at h1 h2
   exact hK _ _ h1 h2
theorem Il (hQ : ∀ e a w, Q1 e a w → Q e a w) (h : LetsOut Q1) : LetsOut Q := let ⟨a, w, h⟩ := h; ⟨a, w, hQ _ _ _ h⟩
theorem qG (hQ : ∀ e a w, Q1 e a w → Q e a w) (hf : ∀ (i : Nat) (o : Oper), ops[i]? = some o → Flat P o) {i : Nat} {a : Act} {w : World} {K1 K : Act → World → Prop} (hK : ∀ a w, K1 a w → K a w) (h1 : wpOp P ops Q1 i K1 a w) : wpOp P ops Q i K a w := by
 unfold wpOp at *
 cases ho : ops[i]? with
 | none => rw [ho] at h1; exact hK _ _ h1
 | some o =>
  rw [ho] at h1
  simp only at h1 ⊢
  split
  ·rename_i hw
   rw [if_pos hw] at h1
   rcases h1 with h1 | h1
   ·exact .inl (Ij (hf i o ho) (fun a w h _ => hK a w h) hQ h1 h1)
   ·exact .inr ⟨h1.1, Il hQ h1.2⟩
  ·rename_i hw
   rw [if_neg hw] at h1
   exact hK _ _ h1
theorem kR (hf : ∀ (i : Nat) (o : Oper), ops[i]? = some o → Flat P o) (hQ : ∀ e a w, Q1 e a w → Q e a w) : ∀ (fuel : Nat) (L : Array Bool) (a : Act) (w : World), L.getD x false = true → wpAny P .any (fR x y ops) Q1 fuel L a w → wpAny P .any ops Q fuel L a w
 | 0, L, a, w, hx, h => by
  have hr : Region.ready .any ops L = [] := List.eq_nil_iff_forall_not_mem.2 fun j hj => by
   have : j ∈ Region.ready .any (fR x y ops) L := eo j |>.2 ⟨hj, fun _ => hx⟩
   rw [h.1] at this; cases this
  exact ⟨hr, hQ _ _ _ h.2⟩
 | fuel + 1, L, a, w, hx, h => by
  have hrd : ∀ j, j ∈ Region.ready .any ops L → j ∈ Region.ready .any (fR x y ops) L := fun j hj => eo j |>.2 ⟨hj, fun _ => hx⟩
  refine ⟨fun hr => hQ _ _ _ (h.1 (List.eq_nil_iff_forall_not_mem.2 fun j hj => ?_)), fun i hi => ?_⟩
  ·have := (eo j |>.1 hj).1
   rw [hr] at this; cases this
  ·have := h.2 i (hrd i hi)
   rw [nd] at this
   refine qG hQ hf (fun a w h => kR hf hQ fuel _ a w ?_ h) this
   rw [Array.getD_eq_getD_getElem?] at hx ⊢
   rw [Array.getElem?_setIfInBounds]
   split
   ·rename_i e; subst e
    split
    ·rfl
    ·rename_i hlt
     rw [Array.getElem?_eq_none (by omega)] at hx
     cases hx
   ·exact hx
theorem vX (hf : ∀ (i : Nat) (o : Oper), ops[i]? = some o → Flat P o) (hl1 : ¬ LetsOut Q1) (hl2 : ¬ LetsOut Q2) (h1Q : ∀ e a w, Q1 e a w → Q e a w) (h2Q : ∀ e a w, Q2 e a w → Q e a w) :
  ∀ (fuel : Nat) (L : Array Bool) (a : Act) (w : World), wpAny P .any (fR x y ops) Q1 fuel L a w → wpAny P .any (fR y x ops) Q2 fuel L a w → x ≠ y → (L.getD x false = false) → (L.getD y false = false) → L.size = ops.size → x < ops.size → y < ops.size → wpAny P .any ops Q fuel L a w
 | 0, L, a, w, h1, h2, hn, hx, hy, hs, hxs, hys => by
  refine ⟨List.eq_nil_iff_forall_not_mem.2 fun j hj => ?_, h1Q _ _ _ h1.2⟩
  by_cases e : j = y
  ·have hjx : j ≠ x := fun e2 => hn (e2.symm.trans e)
   have : j ∈ Region.ready .any (fR y x ops) L := eo j |>.2 ⟨hj, fun e2 => absurd e2 hjx⟩
   rw [h2.1] at this; cases this
  ·have : j ∈ Region.ready .any (fR x y ops) L := eo j |>.2 ⟨hj, fun e2 => absurd e2 e⟩
   rw [h1.1] at this; cases this
 | fuel + 1, L, a, w, h1, h2, hn, hx, hy, hs, hxs, hys => by
  have r1 : ∀ j, j ∈ Region.ready .any ops L → j ≠ y → j ∈ Region.ready .any (fR x y ops) L := fun j hj e => eo j |>.2 ⟨hj, fun e2 => absurd e2 e⟩
  have r2 : ∀ j, j ∈ Region.ready .any ops L → j ≠ x → j ∈ Region.ready .any (fR y x ops) L := fun j hj e => eo j |>.2 ⟨hj, fun e2 => absurd e2 e⟩
  refine ⟨fun hr => h1Q _ _ _ (h1.1 (List.eq_nil_iff_forall_not_mem.2 fun j hj => ?_)), fun i hi => ?_⟩
  ·have := (eo j |>.1 hj).1
   rw [hr] at this; cases this
  ·by_cases e : i = x
   ·subst e
    have := h1.2 i (r1 i hi hn)
    rw [nd] at this
    refine qG h1Q hf (fun a w h => kR hf h1Q fuel _ a w ?_ h) this
    rw [Array.getD_eq_getD_getElem?, Array.getElem?_setIfInBounds, if_pos rfl, if_pos (by omega)]; rfl
   ·by_cases e' : i = y
    ·subst e'
     have := h2.2 i (r2 i hi e)
     rw [nd] at this
     refine qG h2Q hf (fun a w h => kR hf h2Q fuel _ a w ?_ h) this
     rw [Array.getD_eq_getD_getElem?, Array.getElem?_setIfInBounds, if_pos rfl, if_pos (by omega)]; rfl
    ·have g1 := h1.2 i (r1 i hi e')
     have g2 := h2.2 i (r2 i hi e)
     rw [nd] at g1 g2
     refine Ik hf hl1 hl2 (fun a w k1 k2 => vX hf hl1 hl2 h1Q h2Q fuel _ a w k1 k2 hn ?_ ?_ (by simp [hs]) hxs hys) h1Q g1 g2
     ·rw [Array.getD_eq_getD_getElem?, Array.getElem?_setIfInBounds, if_neg e, ← Array.getD_eq_getD_getElem?]; exact hx
     ·rw [Array.getD_eq_getD_getElem?, Array.getElem?_setIfInBounds, if_neg e', ← Array.getD_eq_getD_getElem?]; exact hy
end
variable {P : Program}
theorem Im {s : Sem Value} {w w' : World} {n : Next} (h : (s >>= fun x => pure (Next.value x) : Sem Next).run P w = .ok n w') : (∃ v, n = .value v) ∨ n = .skip := by
 rw [Sem.run_bind] at h
 cases hs : s.run P w with
 | ok x w2 => rw [hs] at h; cases h; exact .inl ⟨_, rfl⟩
 | halt q w2 => rw [hs] at h; cases h
theorem Qu {s : Sem Unit} {w w' : World} {n : Next} (h : (s >>= fun _ => pure Next.skip : Sem Next).run P w = .ok n w') : (∃ v, n = .value v) ∨ n = .skip := by
 rw [Sem.run_bind] at h
 cases hs : s.run P w with
 | ok x w2 => rw [hs] at h; cases h; exact .inr rfl
 | halt q w2 => rw [hs] at h; cases h
theorem sV {α β : Type} {s : Sem α} {f : α → Sem β} {w w' : World} {n : β} (h : (s >>= f).run P w = .ok n w') : ∃ x w2, s.run P w = .ok x w2 ∧ (f x).run P w2 = .ok n w' := by
 rw [Sem.run_bind] at h
 cases hs : s.run P w with
 | ok x w2 => rw [hs] at h; exact ⟨x, w2, rfl, h⟩
 | halt q w2 => rw [hs] at h; cases h
theorem Mw {o : Oper} (hf : xJ o.op = true) : Flat P o := by
 intro a w n w' h
 unfold execOp at h
 cases ho : o.op with
 | move x => rw [ho] at h; cases h; exact .inl ⟨_, rfl⟩
 | assign x => rw [ho] at h; cases h; exact .inl ⟨_, rfl⟩
 | pick c x y =>
  rw [ho] at h
  have h : ((asBool (a.eval c)) >>= fun b => pure (Next.value (if b then a.eval x else a.eval y)) : Sem Next).run P w = .ok n w' := h
  rw [Sem.run_bind] at h
  cases hs : (asBool (a.eval c)).run P w with
  | ok x w2 => rw [hs] at h; cases h; exact .inl ⟨_, rfl⟩
  | halt q w2 => rw [hs] at h; cases h
 | nilCheck x =>
  rw [ho] at h
  simp only at h
  split at h
  ·cases h
  ·cases h
  ·cases h
  ·split at h
   ·cases h
   ·obtain ⟨_, _, _, h⟩ := sV h
    obtain ⟨_, _, _, h⟩ := sV h
    split at h
    ·obtain ⟨_, _, h1, _⟩ := sV h
     cases h1
    ·first
      | (cases h; exact .inl ⟨_, rfl⟩)
      | (obtain ⟨_, _, _, h⟩ := sV h; cases h; exact .inl ⟨_, rfl⟩)
   ·cases h; exact .inl ⟨_, rfl⟩
  ·cases h; exact .inl ⟨_, rfl⟩
 | call c =>
  rw [ho] at hf h
  simp only [xJ] at hf
  split at hf
  ·rename_i b hb
   have h : (resolve a.eval c o.type >>= fun d => invoke d.target d.args).run P w = .ok n w' := h
   unfold resolve at h
   simp only [hb] at h
   have h : (builtin b c.argTypes o.type (c.args.map fun | .const _ => true | _ => false) (c.args.map a.eval)).run P w = .ok n w' := h
   unfold builtin at h
   cases b <;> first | exact Im h | (exact absurd hf (by decide)) | cases h
  ·cases hf
 | go c => rw [ho] at hf; cases hf
 | defer c => rw [ho] at hf; cases hf
 | send c x => rw [ho] at hf; cases hf
 | recv c x y => rw [ho] at hf; cases hf
 | select c x => rw [ho] at hf; cases hf
 | panic x => rw [ho] at hf; cases hf
 | _ => rw [ho] at h; first | exact Im h | exact Qu h
variable {P : Program} {φ φ' : aI} {h h' h2 : Hp} {w w' : World} {v : AV} {r r2 : A2} {a : Act} {cv : Value} {n : Nat} {G : Gl} [NB G] {names : List String} {p : Pg} {run : iY}
def sF (P : Program) (G : Gl) (names : List String) (f : Nat) (body : AC) (res : List Rs) : Prop := ∃ fn body0, P.funcs[f]? = some fn ∧ cF P G names fn = .mk body0 res ∧ Impl body0 body
def qH (P : Program) (G : Gl) (k : PK) (f : Nat) : Prop := ∀ (φ : aI) (h : Hp) (w : World) (args : List AV) (vals : List Value), nJ G φ → HR φ h w → cL φ args vals → (dH k args h).Safe →
 Calls P f vals.toArray w (dN φ h w (dH k args h))
def lH (P : Program) (G : Gl) (k : PK) (f : Nat) : Prop := ∀ (φ : aI) (h : Hp) (w : World) (args : List AV) (vals : List Value), nJ G φ → HR φ h w → cL φ args vals → (dH k args h).Safe →
 ∃ cv w', (callFunc f vals.toArray).run P w = .ok (.value cv) w' ∧ dN φ h w (dH k args h) (.returned cv) w'
structure Env (P : Program) (G : Gl) (names : List String) (p : Pg) : Prop where
 mixed : P.follows .mixedOrders = true
 ms : py P names p.ms
 fs : ∀ f, match aq f p.fs with
  | .none => True
  | .mk body res => sF P G names f body res
  | .tz k body res => sF P G names f body res ∧ qH P G k f
  | .Qc body res => sF P G names f body res
  | .ext k => lH P G k f
def Qv (P : Program) (G : Gl) (names : List String) (p : Pg) : Prop := ∀ (n : Nat) (run : iY), dU P G p run → ∀ (id : Nat) (ops : Array Oper) (l : List (Nat × Bk)) (kf : A2 → Hp → RS) (r : A2) (h : Hp) (φ : aI) (a : Act) (w : World), kK P G n names ops l = true → St n G φ r h a w →
 (pk (au p run) (aB p run) kf (l.map fun (i, b) => .mk b (ir P G n names ops (ops.getD i default))) r h h []).Safe → (Code.region id ops true).wp P (fun e a' w' => e = .normal ∧ ∃ r' h' φ',
  pk (au p run) (aB p run) kf (l.map fun (i, b) => .mk b (ir P G n names ops (ops.getD i default))) r h h [] = kf r' h' ∧ St n G φ' r' h' a' w' ∧ Step φ h w φ' h' w') a w
def ya (P : Program) (G : Gl) (names : List String) (p : Pg) : Prop := ∀ (n : Nat) (run : iY), dU P G p run → ∀ (ops : Array Oper) (l : List (Nat × Bk)) (kf : A2 → Hp → RS) (r : A2) (h : Hp) (φ : aI) (a : Act) (w : World) (Q : Exit → Act → World → Prop), kK P G n names ops l = true → St n G φ r h a w →
 (pk (au p run) (aB p run) kf (l.map fun (i, b) => .mk b (ir P G n names ops (ops.getD i default))) r h h []).Safe → (∀ r' h' φ' a' w',
  pk (au p run) (aB p run) kf (l.map fun (i, b) => .mk b (ir P G n names ops (ops.getD i default))) r h h [] = kf r' h' → St n G φ' r' h' a' w' → Step φ h w φ' h' w' → Q .normal a' w') → wpAny P .any ops Q ops.size (Array.replicate ops.size false) a { w with drawn := w.drawn + 1 }
theorem ya.Vq (hm : P.follows .mixedOrders = true) (D : ya P G names p) : Qv P G names p := fun n run CO _ ops l kf r h φ a w hd S hs => wp_region_any hm (D n run CO ops l kf r h φ a w _ hd S hs fun r' h' φ' _ _ e S' T => ⟨rfl, r', h', φ', e, S', T⟩)
theorem kS {bad : Array Oper → AC} (ops : Array Oper) : (∃ l, kK P G n names ops l = true ∧ jF P G bad n names ops = .qv (l.map fun (i, b) => .mk b (ir P G n names ops (ops.getD i default)))) ∨ jF P G bad n names ops = bad ops := by
 unfold jF
 dsimp only
 split
 ·rename_i h; exact .inl ⟨_, h, rfl⟩
 ·split
  ·rename_i h; exact .inl ⟨_, h, rfl⟩
  ·split
   ·rename_i h; exact .inl ⟨_, h, rfl⟩
   ·exact .inr rfl
theorem kT {next : Array Oper → AC} (ops : Array Oper) : (∃ x y, (∀ o, o ∈ ops.toList → xJ o.op = true) ∧ x ≠ y ∧ x < ops.size ∧ y < ops.size ∧ lT P G next names ops = .alt (next (fR x y ops)) (next (fR y x ops))) ∨ ∃ k, lT P G next names ops = .bad k := by
 unfold lT
 split
 ·rename_i x y _
  split
  ·rename_i h
   simp only [Bool.and_eq_true, bne_iff_ne, ne_eq, decide_eq_true_eq] at h
   obtain ⟨⟨⟨h1, h2⟩, h3⟩, h4⟩ := h
   refine .inl ⟨x, y, fun o ho => ?_, h2, h3, h4, rfl⟩
   obtain ⟨i, hi, rfl⟩ := List.getElem_of_mem ho
   have := (Array.all_eq_true.1 h1) i (by simpa using hi)
   simpa using this
  ·exact .inr ⟨_, rfl⟩
 ·exact .inr ⟨_, rfl⟩
theorem iA (ops : Array Oper) : sB P G n names ops = .ops (ops.toList.map fun o => oy P G n names ops o) ∨ ∃ q, sB P G n names ops = .Qa q (ops.toList.map fun o => oy P { G with b := some q } n names ops o) := by
 unfold sB
 dsimp only
 split
 ·split
  ·exact .inr ⟨_, rfl⟩
  ·exact .inl rfl
 ·exact .inl rfl
theorem BJ (ops : Array Oper) (l : Nat) : cT (sB P G n names ops) l = none := by
 rcases iA (P := P) (G := G) (n := n) (names := names) ops with e | ⟨q, e⟩ <;> rw [e] <;> rfl
theorem bG.lift {x x' : RS} (hl : ∀ y, x.aG y → x'.aG y) {e : Exit} (hq : bG n G φ h w x e a w') : bG n G φ h w x' e a w' :=
 let ⟨y, r', h', φ', h1, h2, h3, h4⟩ := hq; ⟨y, r', h', φ', hl y h1, h2, h3, h4⟩
theorem pC (i : Nat) (c : Code) : cC P G n names (.block i c) = .block i (cC P G n names c) ∨ cC P G n names (.block i c) = .join (.block i (cC P G n names c)) := by
 cases c with
 | loop b =>
  show (if hasNext b then AC.join (.block i (.loop (cC P G n names b))) else .block i (.loop (cC P G n names b))) = _ ∨ (if hasNext b then AC.join (.block i (.loop (cC P G n names b))) else .block i (.loop (cC P G n names b))) = _
  split
  ·exact .inr rfl
  ·exact .inl rfl
 | _ => exact .inl rfl
theorem BL {bad : Array Oper → AC} (hb : ∀ ops l, cT (bad ops) l = none) (ops : Array Oper) (l : Nat) : cT (jF P G bad n names ops) l = none := by
 unfold jF
 dsimp only
 split
 ·rfl
 ·split
  ·rfl
  ·split
   ·rfl
   ·exact hb _ _
theorem BM {next : Array Oper → AC} (ops : Array Oper) (l : Nat) : cT (lT P G next names ops) l = none := by
 unfold lT
 split
 ·split <;> rfl
 ·rfl
theorem BN (ops : Array Oper) (l : Nat) : cT (pj P G n names ops) l = none :=
 BL (fun ops l => BM ops l) ops l
theorem uh (l : Nat) : ∀ c : Code, cT (cC P G n names c) l = (findLabel c l).map (cC P G n names)
 | .seq a b => by
  have ha := uh l a
  have hb := uh l b
  show (match cT (cC P G n names a) l with | some c => some (AC.seq c (cC P G n names b)) | none => cT (cC P G n names b) l) = (match findLabel a l with | some rest => some (Code.seq rest b) | none => findLabel b l).map (cC P G n names)
  rw [ha, hb]
  cases findLabel a l <;> rfl
 | .label l' => by
  show (if Nat.beq l' l then some AC.skip else none) = (if l' == l then some Code.skip else none).map (cC P G n names)
  have : (l' == l) = Nat.beq l' l := by
   rw [Bool.eq_iff_iff, beq_iff_eq]; exact ⟨fun e => e ▸ Nat.beq_refl _, fun e => Nat.eq_of_beq_eq_true e⟩
  rw [this]
  cases Nat.beq l' l <;> rfl
 | .skip => rfl
 | .region _ ops false => BJ ops l
 | .region _ ops true => BN ops l
 | .cond c a b => by simp only [cC]; split <;> rfl
 | .block i a => by
  rcases pC (P := P) (G := G) (n := n) (names := names) i a with e | e <;> rw [e] <;> rfl
 | .loop a => rfl
 | .rangeFunc .. => rfl
 | .exit _ => rfl
 | .scope a => rfl
 | .goto _ => rfl
 | .ret => rfl
 | .refuse _ => rfl
theorem iB (l : Nat) : ∀ {a : AC}, rO a = true → cT a l = none
 | .seq a b, h => by
  simp only [rO, Bool.and_eq_true] at h
  simp only [cT, iB l h.1, iB l h.2]
 | .skip, _ => rfl
 | .ops _, _ => rfl
 | .qv _, _ => rfl
 | .cond .., _ => rfl
 | .block .., _ => rfl
 | .loop _, _ => rfl
 | .scope _, _ => rfl
 | .sat .., _ => rfl
 | .exit _, _ => rfl
 | .goto _, _ => rfl
 | .label _, h => by cases h
 | .ret, _ => rfl
 | .join _, _ => rfl
 | .bad _, _ => rfl
 | .ah .., h => by cases h
 | .alt .., _ => rfl
 | .Qa .., _ => rfl
theorem ui (l : Nat) : ∀ {k : Nat} {c : AC}, lV k c = true → cT c l = cT (kM k c) l
 | 0, c, _ => rfl
 | k + 1, c, h => by
  cases c with
  | seq a b =>
   simp only [lV, Bool.and_eq_true] at h
   simp only [cT, iB l h.1, kM]
   exact ui l h.2
  | _ => exact iB l h
theorem uj (l : Nat) {a a' : AC} (h : Impl a a') : (cT a l = none ∧ cT a' l = none) ∨ ∃ c c', cT a l = some c ∧ cT a' l = some c' ∧ Impl c c' := by
 induction h with
 | refl c =>
  cases hc : cT c l with
  | none => exact .inl ⟨rfl, rfl⟩
  | some d => exact .inr ⟨d, d, rfl, rfl, .refl d⟩
 | @seq a a' b b' ha hb iha ihb =>
  simp only [cT]
  rcases iha with ⟨e1, e2⟩ | ⟨c, c', e1, e2, e3⟩
  ·simp only [e1, e2]; exact ihb
  ·simp only [e1, e2]; exact .inr ⟨_, _, rfl, rfl, .seq e3 hb⟩
 | cond => exact .inl ⟨rfl, rfl⟩
 | block => exact .inl ⟨rfl, rfl⟩
 | loop => exact .inl ⟨rfl, rfl⟩
 | scope => exact .inl ⟨rfl, rfl⟩
 | join => exact .inl ⟨rfl, rfl⟩
 | Vb => exact .inl ⟨rfl, rfl⟩
 | bad n hn => exact .inl ⟨iB l hn, rfl⟩
 | ah k Lin L Lr Lx hn he hx ih =>
  rw [ui l hn]
  exact ih
def SH (c x : AC) : Prop := match c with
 | .seq a b => ∃ a' b', x = .seq a' b' ∧ Impl a a' ∧ Impl b b'
 | .cond o a b => ∃ a' b', x = .cond o a' b' ∧ Impl a a' ∧ Impl b b'
 | .block i a => ∃ a', x = .block i a' ∧ Impl a a'
 | .loop a => ∃ a', x = .loop a' ∧ Impl a a'
 | .scope a => ∃ a', x = .scope a' ∧ Impl a a'
 | .join a => x = .join a ∨ (∃ i b b', a = .block i (.loop b) ∧ x = .join (.block i (.loop b')) ∧ Impl b b') ∨ ∃ i b b', a = .block i b ∧ x = .block i b' ∧ Impl b b'
 | c => x = c
theorem BO {c x : AC} (h : Impl c x) : (∃ k Lin L Lr Lx y, x = .ah (tx c k Lin L Lr Lx) y ∧ lV k c = true ∧ Impl (kM k c) y) ∨ (∃ n, x = .bad n) ∨ SH c x := by
 cases h with
 | refl =>
  right; right
  cases c <;> first
   | exact ⟨_, _, rfl, .refl _, .refl _⟩
   | exact ⟨_, rfl, .refl _⟩
   | exact .inl rfl
   | rfl
 | seq ha hb => exact .inr (.inr ⟨_, _, rfl, ha, hb⟩)
 | cond ha hb => exact .inr (.inr ⟨_, _, rfl, ha, hb⟩)
 | block ha => exact .inr (.inr ⟨_, rfl, ha⟩)
 | loop ha => exact .inr (.inr ⟨_, rfl, ha⟩)
 | scope ha => exact .inr (.inr ⟨_, rfl, ha⟩)
 | join ha => exact .inr (.inr (.inr (.inl ⟨_, _, _, rfl, rfl, ha⟩)))
 | Vb ha => exact .inr (.inr (.inr (.inr ⟨_, _, _, rfl, rfl, ha⟩)))
 | bad n hn => exact .inr (.inl ⟨n, rfl⟩)
 | ah k Lin L Lr Lx hn he hx => subst he; exact .inl ⟨k, Lin, L, Lr, Lx, _, rfl, hn, hx⟩
structure kU (P : Program) (G : Gl) (names : List String) (p : Pg) (m : Nat) : Prop where
 code : ∀ (n : Nat) (c : Code) (x : AC) (r : A2) (h : Hp) (φ : aI) (a : Act) (w : World), Impl (cC P G n names c) x → St n G φ r h a w → (exec p m x r h).Safe → c.wp P (bG n G φ h w (exec p m x r h)) a w
 block : ∀ (n i : Nat) (c : Code) (x : AC) (r : A2) (h : Hp) (φ : aI) (a : Act) (w : World), Impl (cC P G n names c) x → St n G φ r h a w → (exec p m (.block i x) r h).Safe → (Code.block i c).wp P (bG n G φ h w (exec p m (.block i x) r h)) a w
 loop : ∀ (n : Nat) (c : Code) (x : AC) (r : A2) (h : Hp) (φ : aI) (a : Act) (w : World), Impl (cC P G n names c) x → St n G φ r h a w → (exec p m (.loop x) r h).Safe → rP P c (bG n G φ h w (exec p m (.loop x) r h)) a w
 sat : ∀ (n : Nat) (s c : Code) (x y : AC) (r : A2) (h : Hp) (φ : aI) (a : Act) (w : World), Impl (cC P G n names s) x → Impl (cC P G n names c) y → St n G φ r h a w → (exec p m (.sat x y) r h).Safe → xV P s c (bG n G φ h w (exec p m (.sat x y) r h)) a w
theorem kV {res : List Rs} {z : RT} : ∀ {x y : RS}, x.aG y → (eu res y).aG z → (eu res x).aG z
 | _, _, .nm .., g => g
 | _, _, .ex .., g => g
 | _, _, .go .., g => g
 | _, _, .ret .., g => g
 | _, _, .err .., g => g
 | _, _, .ch n k c y hc hl, g => .ch n _ c _ hc (kV hl g)
theorem fT {res : List Rs} {x y : RS} (hs : (eu res x).Safe) (hl : x.aG y) : (eu res y).Safe := fun n hn => hs n (kV hl hn)
theorem zK {f : Nat} {body : AC} {res : List Rs} {args : List AV} (e : aq f p.fs = .mk body res) : au p run f args h = (@Bool.rec (fun _ => RT) (.err 207) (eu res (run body (aY args 0 .nil) h)) (Nat.ble args.length 256)) := by
 show (AF.rec _ _ _ _ _ (aq f p.fs) : RT) = _
 rw [e]
theorem vI {f : Nat} {k : PK} {body : AC} {res : List Rs} {args : List AV} (e : aq f p.fs = .tz k body res) : au p run f args h = (RT.rec (fun v h => RT.ok v h) (fun _ => @Bool.rec (fun _ => RT) (.err 207) (eu res (run body (aY args 0 .nil) h)) (Nat.ble args.length 256)) (fun n k _ => .ch n k) (dH k args h) : RT) := by
 show (AF.rec _ _ _ _ _ (aq f p.fs) : RT) = _
 rw [e]
theorem yb {f : Nat} {body : AC} {res : List Rs} {args : List AV} (e : aq f p.fs = .Qc body res) : au p run f args h = (@Bool.rec (fun _ => RT) (.err 207) (eu res (dA (uk (run body (aY args 0 .nil) h)))) (Nat.ble args.length 256)) := by
 show (AF.rec _ _ _ _ _ (aq f p.fs) : RT) = _
 rw [e]
theorem yc {f : Nat} {k : PK} {args : List AV} (e : aq f p.fs = .ext k) : au p run f args h = dH k args h := by
 unfold au; rw [e]
theorem nQ {f : Nat} {args : List AV} (e : aq f p.fs = .none) : au p run f args h = .err (Nat.add 1000 f) := by
 show (AF.rec _ _ _ _ _ (aq f p.fs) : RT) = _
 rw [e]
theorem Dp {m f : Nat} {body : AC} {res : List Rs} {args : List AV} {vals : List Value} (C : kU P G names p m) (F : sF P G names f body res) (hg : nJ G φ) (H : HR φ h w) (hv : cL φ args vals)
  (hs : (@Bool.rec (fun _ => RT) (.err 207) (eu res (exec p m body (aY args 0 .nil) h)) (Nat.ble args.length 256)).Safe) :
  (∃ fn c, P.funcs[f]? = some fn ∧ fn.name ≠ "runtime.NumGoroutine" ∧ fn.body = some c) ∧ Calls P f vals.toArray w (dN φ h w (@Bool.rec (fun _ => RT) (.err 207) (eu res (exec p m body (aY args 0 .nil) h)) (Nat.ble args.length 256))) := by
 cases hb : Nat.ble args.length 256 with
 | false => rw [hb] at hs; exact (RT.Safe.err hs).elim
 | true =>
  rw [hb] at hs
  have hs : (eu res (exec p m body (aY args 0 .nil) h)).Safe := hs
  have hl := Nat.le_of_ble_eq_true hb
  obtain ⟨fn, body0, hf, hc, hI⟩ := F
  unfold cF at hc
  split at hc
  ·rename_i c rs hbody hrs
   split at hc
   ·cases hc
   ·rename_i hname
    cases hc
    refine ⟨⟨fn, c, hf, by simpa using hname, hbody⟩, ?_⟩
    have S := St.start H hv hg hl fn.ntmps
    have hxs : (exec p m body (aY args 0 .nil) h).Safe := by
     intro j hj
     have := fT hs hj
     exact RT.Safe.err (n := j) this
    refine calls_of_wp hf hbody (wp_mono (C.code _ c body _ h φ _ w hI S hxs) ?_)
    rintro e a' w' ⟨y, r', h', φ', hy, he, S', T⟩
    have hsy := fT hs hy
    have fin : ∀ r' h', y = .nm r' h' ∨ y = .ret r' h' → St fn.ntmps G φ' r' h' a' w' → Step φ h w φ' h' w' → a'.defers = [] ∧ ∃ v, (results fn a'.tmps).run P w' = .ok v w' ∧ dN φ h w (eu res (exec p m body (aY args 0 .nil) h)) (.returned v) w' := by
     intro r' h' hyy S' T
     have hr : eu res y = (ue res r' h').lL := by rcases hyy with rfl | rfl <;> rfl
     rw [hr] at hsy
     obtain ⟨v, h2, hv2⟩ := jV hsy
     obtain ⟨e1, cv, e2, e3⟩ := kQ S' hrs hv2
     subst e1
     refine ⟨S'.fu, cv, e2, v, h2, cv, φ', kV hy ?_, rfl, e3, S'.hr, T⟩
     rw [hr, hv2]; exact .ok _ _
    cases he with
    | nm => exact fin _ _ (.inl rfl) S' T
    | ret => exact fin _ _ (.inr rfl) S' T
    | ex i => exact (RT.Safe.err hsy).elim
    | go i => exact (RT.Safe.err hsy).elim
  ·cases hc
theorem kc {z : RS} : ∀ {x y : RS}, x.aG y → (uk y).aG z → (uk x).aG z
 | _, _, .nm .., g => g
 | _, _, .ex .., g => g
 | _, _, .go .., g => g
 | _, _, .ret .., g => g
 | _, _, .err .., g => g
 | _, _, .ch n k c y hc hl, g => .ch n _ c _ hc (kc hl g)
theorem FK {x : RS} (hs : (uk x).Safe) : x.Safe := fun n hn => hs n (kc hn (.err n))
theorem Io {m f : Nat} {body : AC} {res : List Rs} {args : List AV} {vals : List Value} (C : kU P G names p m) (F : sF P G names f body res) (hg : nJ G φ) (H : HR φ h w) (hv : cL φ args vals)
  (hs : (@Bool.rec (fun _ => RT) (.err 207) (eu res (dA (uk (exec p m body (aY args 0 .nil) h)))) (Nat.ble args.length 256)).Safe) :
  (∃ fn c, P.funcs[f]? = some fn ∧ fn.name ≠ "runtime.NumGoroutine" ∧ fn.body = some c) ∧ Calls P f vals.toArray w (dN φ h w (@Bool.rec (fun _ => RT) (.err 207) (eu res (dA (uk (exec p m body (aY args 0 .nil) h)))) (Nat.ble args.length 256))) := by
 cases hb : Nat.ble args.length 256 with
 | false => rw [hb] at hs; exact (RT.Safe.err hs).elim
 | true =>
  rw [hb] at hs
  have hs : (eu res (dA (uk (exec p m body (aY args 0 .nil) h)))).Safe := hs
  have hl := Nat.le_of_ble_eq_true hb
  obtain ⟨fn, body0, hf, hc, hI⟩ := F
  unfold cF at hc
  split at hc
  ·rename_i c rs hbody hrs
   split at hc
   ·cases hc
   ·rename_i hname
    cases hc
    refine ⟨⟨fn, c, hf, by simpa using hname, hbody⟩, ?_⟩
    have S := St.start H hv hg hl fn.ntmps
    have hjs : (dA (uk (exec p m body (aY args 0 .nil) h))).Safe := by
     intro j hj
     have := fT hs hj
     exact RT.Safe.err (n := j) this
    obtain ⟨s1, s2⟩ := sU _ hjs
    refine calls_of_wp hf hbody (wp_mono (C.code _ c body _ h φ _ w hI S (FK s1)) ?_)
    rintro e a' w' ⟨y, r', h', φ', hy, he, S', T⟩
    have fin : (uk y).aG (.nm r' h') → a'.defers = [] ∧ ∃ v, (results fn a'.tmps).run P w' = .ok v w' ∧ dN φ h w (eu res (dA (uk (exec p m body (aY args 0 .nil) h)))) (.returned v) w' := by
     intro hyy
     obtain ⟨y2, r2, h2, q1, q2, q3, q4⟩ := s2 _ (kc hy hyy) .normal r' h' (.nm _ _)
     cases q2
     have hsy := fT hs q1
     have hr : eu res (.nm r2 h2) = (ue res r2 h2).lL := rfl
     rw [hr] at hsy
     obtain ⟨v, h3, hv2⟩ := jV hsy
     have S2 := S'.less q3 q4
     obtain ⟨e1, cv, e2, e3⟩ := kQ S2 hrs hv2
     subst e1
     refine ⟨S'.fu, cv, e2, v, h3, cv, φ', kV q1 ?_, rfl, e3, S2.hr, T.less q4⟩
     rw [hr, hv2]; exact .ok _ _
    cases he with
    | nm => exact fin (.nm _ _)
    | ret => exact fin (.nm _ _)
    | ex i =>
     obtain ⟨y2, r2, h2, q1, q2, q3, q4⟩ := s2 _ (kc hy (.ex _ _ _)) (.exit i) r' h' (.ex _ _ _)
     cases q2
     exact (RT.Safe.err (fT hs q1)).elim
    | go i =>
     obtain ⟨y2, r2, h2, q1, q2, q3, q4⟩ := s2 _ (kc hy (.go _ _ _)) (.goto i) r' h' (.go _ _ _)
     cases q2
     exact (RT.Safe.err (fT hs q1)).elim
  ·cases hc
theorem um {m : Nat} (E : Env P G names p) (C : kU P G names p m) : dU P G p (exec p m) := by
 intro f args h φ w vals hg H hv hs
 have hF := E.fs f
 cases hf : aq f p.fs with
 | none => rw [nQ hf] at hs; exact (RT.Safe.err hs).elim
 | mk body res =>
  rw [hf] at hF
  rw [zK hf] at hs ⊢
  exact .inl (Dp C hF hg H hv hs)
 | ext k =>
  rw [hf] at hF
  rw [yc hf] at hs ⊢
  exact .inr (hF φ h w args vals hg H hv hs)
 | Qc body res =>
  rw [hf] at hF
  rw [yb hf] at hs ⊢
  exact .inl (Io C hF hg H hv hs)
 | tz k body res =>
  rw [hf] at hF
  obtain ⟨hF, hP⟩ := hF
  rw [vI hf] at hs ⊢
  have hex : ∃ fn c, P.funcs[f]? = some fn ∧ fn.name ≠ "runtime.NumGoroutine" ∧ fn.body = some c := by
   obtain ⟨fn, body0, hfn, hc, hI⟩ := hF
   unfold cF at hc
   split at hc
   ·rename_i c rs hbody hrs
    split at hc
    ·cases hc
    ·rename_i hname
     exact ⟨fn, c, hfn, by simpa using hname, hbody⟩
   ·cases hc
  have := hP φ h w args vals hg H hv
  cases hp : dH k args h with
  | err j =>
   rw [hp] at hs
   exact .inl (Dp C hF hg H hv hs)
  | ok v h2 =>
   rw [hp] at this
   exact .inl ⟨hex, this fun j hj => by cases hj⟩
  | ch j g =>
   rw [hp] at this hs
   exact .inl ⟨hex, this hs⟩
section
variable {P : Program} {φ φ' φ₀ : aI} {h h' h2 h₀ : Hp} {w w' w₀ : World} {v : AV} {r r2 : A2} {a : Act} {cv : Value} {n : Nat} {G : Gl} [NB G] {names : List String} {p : Pg} {run : iY} {ops : Array Oper}
theorem zL (i : DI) (k : DK) (r : A2) (h g : Hp) (hs : List Hp) : i.lU (au p run) (aB p run) k r h g hs = i.exec p run k r h g hs := by
 cases i with
 | mk b y =>
  cases y with
  | o d i => cases i <;> rfl
  | g x y w d i => cases i <;> rfl
theorem vY : ∀ (l : List DI), dI p run l = pk (au p run) (aB p run) (fun r h => .nm r h) l
 | [] => rfl
 | i :: l => by
  funext r h g hs
  show i.exec p run (dI p run l) r h g hs = i.lU (au p run) (aB p run) (pk (au p run) (aB p run) _ l) r h g hs
  rw [zL, vY l]
def Sub (y x : RS) : Prop := ∀ z, y.aG z → x.aG z
theorem Sub.safe {x y : RS} (s : Sub y x) (h : x.Safe) : y.Safe := fun n hn => h n (s _ hn)
def Kt.at (K : Kt) : Exit → A2 → Hp → RS → Prop
 | .normal, r, h, x => Sub (K.n r h) x
 | .exit i, r, h, x => Sub (K.e i r h) x
 | .goto l, r, h, x => Sub (K.g l r h) x
 | .ret, r, h, x => Sub (K.r r h) x
 | _, _, _, _ => False
theorem Kt.Mx {K : Kt} {e : Exit} {x y : RS} (s : Sub x y) (h : K.at e r h2 x) : K.at e r h2 y := by
 cases e with
 | normal => exact fun z hz => s z (h z hz)
 | exit i => exact fun z hz => s z (h z hz)
 | goto i => exact fun z hz => s z (h z hz)
 | ret => exact fun z hz => s z (h z hz)
 | panic c => exact h
 | outgrown => exact h
def pD (n : Nat) (G : Gl) (φ : aI) (h : Hp) (w : World) (K : Kt) (x : RS) (e : Exit) (a' : Act) (w' : World) : Prop :=
 ∃ r' h' φ', St n G φ' r' h' a' w' ∧ Step φ h w φ' h' w' ∧ K.at e r' h' x
theorem zM (i : AI) (d : bw) (k : A2 → Hp → RS) (r : A2) (h : Hp) : i.lU (au p run) (aB p run) d k r h = i.exec p run d k r h := by cases i <;> rfl
theorem Ip (i : GI) (k : A2 → Hp → RS) (r : A2) (h : Hp) : i.lU (au p run) (aB p run) k r h = i.exec p run k r h := by
 cases i with
 | o d i => exact zM i d k r h
 | g x y w d i =>
  show AV.bF (gb w (an x y r)) (fun t => @Bool.rec (fun _ => RS) (k (cm d cn r) h) (i.lU (au p run) (aB p run) d k r h) (kL t w)) (.err 210) = AV.bF (gb w (an x y r)) (jJ d k r h i p run w) (.err 210)
  rw [zM]; rfl
theorem Dq {kf : A2 → Hp → RS} (M : py P names p.ms) (CO : dU P G p run) {Q : Exit → Act → World → Prop} : ∀ (os pre : List Oper) (r : A2) (h : Hp) (φ : aI) (a : Act) (w : World), ops.toList = pre ++ os → St n G φ r h a w →
  (vG (au p run) (aB p run) kf (os.map fun o => oy P G n names ops o) r h).Safe →
  (∀ r' h' φ' a' w', Sub (kf r' h') (vG (au p run) (aB p run) kf (os.map fun o => oy P G n names ops o) r h) → St n G φ' r' h' a' w' → Step φ h w φ' h' w' → Q .normal a' w') →
  wpOps P ops Q (List.range' pre.length os.length) a w
 | [], pre, r, h, φ, a, w, _, S, _, hQ => hQ r h φ a w (fun _ hz => hz) S (.refl _ _ _)
 | o :: os, pre, r, h, φ, a, w, e, S, hs, hQ => by
  have hoi : ops[pre.length]? = some o := by rw [← Array.getElem?_toList, e]; simp
  rw [List.length_cons, List.range'_succ, wpOps_cons]
  have e0 : vG (au p run) (aB p run) kf ((o :: os).map fun o => oy P G n names ops o) r h = (oy P G n names ops o).exec p run (vG (au p run) (aB p run) kf (os.map fun o => oy P G n names ops o)) r h := Ip _ _ _ _
  rw [e0] at hs hQ
  refine OX M CO S hoi hs fun r' h' φ' a' w' s1 s2 S' T => ?_
  have := Dq M CO os (pre ++ [o]) r' h' φ' a' w' (by rw [e]; simp) S' s1 (Q := Q) fun r'' h'' φ'' a'' w'' hl S'' T' => hQ r'' h'' φ'' a'' w'' (fun z hz => s2 _ (hl z hz)) S'' (T.trans T')
  simpa using this
theorem Iq (M : py P names p.ms) (D : Qv P G names p) (CO : dU P G p run) : ∀ (c : Code) (K : Kt) (r : A2) (h : Hp) (φ : aI) (a : Act) (w : World), St n G φ r h a w → (den (au p run) (aB p run) (cC P G n names c) K r h).Safe →
  c.wp P (pD n G φ h w K (den (au p run) (aB p run) (cC P G n names c) K r h)) a w := by
 intro c
 induction c with
 | skip => exact fun K r h φ a w S _ => wp_skip ⟨r, h, φ, S, .refl _ _ _, fun _ hz => hz⟩
 | region id ops d =>
  intro K r h φ a w S hs
  cases d with
  | false =>
   have hs : (den (au p run) (aB p run) (sB P G n names ops) K r h).Safe := hs
   show (Code.region id ops false).wp P (pD n G φ h w K (den (au p run) (aB p run) (sB P G n names ops) K r h)) a w
   rcases iA (P := P) (G := G) (n := n) (names := names) ops with e | ⟨q, e⟩
   case inr => rw [e] at hs; exact (RS.Safe.err hs).elim
   rw [e] at hs ⊢
   have hs : (vG (au p run) (aB p run) K.n (ops.toList.map fun o => oy P G n names ops o) r h).Safe := hs
   show (Code.region id ops false).wp P (pD n G φ h w K (vG (au p run) (aB p run) K.n (ops.toList.map fun o => oy P G n names ops o) r h)) a w
   refine wp_region ?_
   have := Dq (Q := pD n G φ h w K (vG (au p run) (aB p run) K.n (ops.toList.map fun o => oy P G n names ops o) r h)) M CO ops.toList [] r h φ a w (by simp) S hs (fun r' h' φ' a' w' hl S' T => ⟨r', h', φ', S', T, hl⟩)
   rw [List.range_eq_range']
   show wpOps P ops (pD n G φ h w K (vG (au p run) (aB p run) K.n (ops.toList.map fun o => oy P G n names ops o) r h)) (List.range' 0 ops.size) a w
   simpa using this
  | true =>
   have key : ∀ l, kK P G n names ops l = true → (pk (au p run) (aB p run) K.n (l.map fun (i, b) => .mk b (ir P G n names ops (ops.getD i default))) r h h []).Safe →
     (Code.region id ops true).wp P (pD n G φ h w K (pk (au p run) (aB p run) K.n (l.map fun (i, b) => .mk b (ir P G n names ops (ops.getD i default))) r h h [])) a w := fun l hl hs => by
    refine wp_mono (D n run CO id ops l K.n r h φ a w hl S hs) ?_
    rintro e a' w' ⟨rfl, r', h', φ', e1, S', T⟩
    refine ⟨r', h', φ', S', T, ?_⟩
    rw [e1]; exact fun _ hz => hz
   have hs : (den (au p run) (aB p run) (pj P G n names ops) K r h).Safe := hs
   show (Code.region id ops true).wp P (pD n G φ h w K (den (au p run) (aB p run) (pj P G n names ops) K r h)) a w
   rcases kS (P := P) (G := G) (n := n) (names := names) (bad := lT P G (jF P G (lT P G (jF P G (fun _ => .bad 404) n names) names) n names) names) ops with ⟨l, hl, e⟩ | e
   ·have e : pj P G n names ops = _ := e
    rw [e] at hs ⊢
    exact key l hl hs
   ·have e : pj P G n names ops = _ := e
    rw [e] at hs
    rcases kT (P := P) (G := G) (names := names) (next := jF P G (lT P G (jF P G (fun _ => .bad 404) n names) names) n names) ops with ⟨x, y, _, _, _, _, e2⟩ | ⟨k, e2⟩
    ·rw [e2] at hs; exact (RS.Safe.err hs).elim
    ·rw [e2] at hs; exact (RS.Safe.err hs).elim
 | seq x y ihx ihy =>
  intro K r h φ a w S hs
  refine wp_seq (wp_mono (ihx ⟨den (au p run) (aB p run) (cC P G n names y) K, K.e, K.g, K.r⟩ r h φ a w S hs) ?_)
  rintro e a' w' ⟨r', h', φ', S', T, hk⟩
  cases e with
  | normal =>
   have hk : Sub (den (au p run) (aB p run) (cC P G n names y) K r' h') _ := hk
   refine wp_mono (ihy K r' h' φ' a' w' S' (hk.safe hs)) ?_
   rintro e a'' w'' ⟨r'', h'', φ'', S'', T', hk'⟩
   exact ⟨r'', h'', φ'', S'', T.trans T', Kt.Mx hk hk'⟩
  | exit i => exact ⟨r', h', φ', S', T, hk⟩
  | goto i => exact ⟨r', h', φ', S', T, hk⟩
  | ret => exact ⟨r', h', φ', S', T, hk⟩
  | panic c => exact hk.elim
  | outgrown => exact hk.elim
 | cond c x y ihx ihy =>
  intro K r h φ a w S hs
  simp only [cC] at hs ⊢
  cases hc : cO G c with
  | none => rw [hc] at hs; exact (RS.Safe.err hs).elim
  | some b =>
   rw [hc] at hs
   have hs : (AV.bF (ev b r) (fun t => @Bool.rec (fun _ => RS) (den (au p run) (aB p run) (cC P G n names y) K r h) (den (au p run) (aB p run) (cC P G n names x) K r h) t) (.err 213)).Safe := hs
   obtain ⟨t, ht, e⟩ := gA hs
   show (Code.cond c x y).wp P (pD n G φ h w K (AV.bF (ev b r) (fun t => @Bool.rec (fun _ => RS) (den (au p run) (aB p run) (cC P G n names y) K r h) (den (au p run) (aB p run) (cC P G n names x) K r h) t) (.err 213))) a w
   rw [e] at hs ⊢
   have hv := S.OW hc
   rw [ht] at hv
   refine wp_cond hv.cW ?_
   cases t with
   | true => exact ihx K r h φ a w S hs
   | false => exact ihy K r h φ a w S hs
 | block i c ih =>
  intro K r h φ a w S hs
  rcases pC (P := P) (G := G) (n := n) (names := names) i c with e | e <;> rw [e] at hs ⊢
  ·refine wp_block (wp_mono (ih ⟨K.n, fun j r h => @Bool.rec (fun _ => RS) (K.e j r h) (K.n r h) (Nat.beq j i), K.g, K.r⟩ r h φ a w S hs) ?_)
   rintro e a' w' ⟨r', h', φ', S', T, hk⟩
   cases e with
   | normal => exact ⟨r', h', φ', S', T, hk⟩
   | exit j =>
    have hk : Sub (@Bool.rec (fun _ => RS) (K.e j r' h') (K.n r' h') (Nat.beq j i)) _ := hk
    show if j = i then _ else _
    by_cases e : j = i
    ·rw [if_pos e]
     rw [e, Nat.beq_refl] at hk
     exact ⟨r', h', φ', S', T, hk⟩
    ·rw [if_neg e]
     have : Nat.beq j i = false := by rw [← Bool.not_eq_true]; exact fun g => e (Nat.eq_of_beq_eq_true g)
     rw [this] at hk
     exact ⟨r', h', φ', S', T, hk⟩
   | goto i => exact ⟨r', h', φ', S', T, hk⟩
   | ret => exact ⟨r', h', φ', S', T, hk⟩
   | panic c => exact hk.elim
   | outgrown => exact hk.elim
  ·exact (RS.Safe.err hs).elim
 | loop c => exact fun K r h φ a w S hs => (RS.Safe.err hs).elim
 | rangeFunc f ps x y => exact fun K r h φ a w S hs => (RS.Safe.err hs).elim
 | exit i => exact fun K r h φ a w S hs => wp_exit ⟨r, h, φ, S, .refl _ _ _, fun _ hz => hz⟩
 | scope c => exact fun K r h φ a w S hs => (RS.Safe.err hs).elim
 | label l => exact fun K r h φ a w S hs => (RS.Safe.err hs).elim
 | goto l => exact fun K r h φ a w S hs => wp_goto ⟨r, h, φ, S, .refl _ _ _, fun _ hz => hz⟩
 | ret => exact fun K r h φ a w S hs => wp_ret ⟨r, h, φ, S, .refl _ _ _, fun _ hz => hz⟩
 | refuse s => exact fun K r h φ a w S hs => (RS.Safe.err hs).elim
theorem vZ {t : Nat} (ht : t < 256) : ∀ {L : List Nat}, an (hi t) (lo t) (bQ r L) = if t ∈ L then an (hi t) (lo t) r else .undef
 | [] => by
  show an (hi t) (lo t) .nil = _
  rw [if_neg (by simp)]
  show A1.get (lo t) (A2.get (hi t) .nil) = _
  rw [A2.get_nil, A1.get_nil]
 | s :: L => by
  have ih := vZ ht (L := L)
  show an (hi t) (lo t) (if s < 256 then jG (hi s) (lo s) (an (hi s) (lo s) r) (bQ r L) else bQ r L) = _
  split
  ·rename_i hs
   rw [hM]
   by_cases e : t = s
   ·subst e; simp
   ·rw [if_neg (fun g => e ((HV ht hs).1 g)), ih]
    simp [e]
  ·rename_i hs
   have e : t ≠ s := by omega
   rw [ih]; simp [e]
theorem St.bQ (S : St n G φ r h a w) (L : List Nat) : St n G φ (bQ r L) h a w := ⟨S.hr, fun t ht => by
 rw [vZ ht]
 split
 ·exact S.aE t ht
 ·exact .undef _, S.fu, S.size, S.iZ⟩
theorem Ir {L Lr : List Nat} {x : RS} {e : Exit} {a' : Act} {w' : World} (hd : pD n G φ h w (oA L Lr) x e a' w') : bG n G φ h w x e a' w' := by
 obtain ⟨r', h', φ', S, T, hk⟩ := hd
 cases e with
 | normal => exact ⟨_, _, h', φ', hk _ (.nm _ _), .nm _ _, S.bQ L, T⟩
 | exit i => exact ⟨_, _, h', φ', hk _ (.ex _ _ _), .ex _ _ _, S.bQ L, T⟩
 | goto i => exact ⟨_, _, h', φ', hk _ (.go _ _ _), .go _ _ _, S.bQ L, T⟩
 | ret => exact ⟨_, _, h', φ', hk _ (.ret _ _), .ret _ _, S.bQ Lr, T⟩
 | panic c => exact hk.elim
 | outgrown => exact hk.elim
theorem Dr (M : py P names p.ms) (D : Qv P G names p) (CO : dU P G p run) {L Lr Lx : List Nat} {y : AC} (hT : ∀ (n : Nat) (c : Code) (r : A2) (h : Hp) (φ : aI) (a : Act) (w : World), Impl (cC P G n names c) y → St n G φ r h a w → (run y r h).Safe → c.wp P (bG n G φ h w (run y r h)) a w) :
  ∀ (k : Nat) (c : Code) (r : A2) (h : Hp) (φ : aI) (a : Act) (w : World), Impl (kM k (cC P G n names c)) y → St n G φ r h a w →
   (xK (au p run) (aB p run) (oA L Lr) (fun r h => run y (bQ r Lx) h) k (cC P G n names c) r h).Safe →
   c.wp P (bG n G φ h w (xK (au p run) (aB p run) (oA L Lr) (fun r h => run y (bQ r Lx) h) k (cC P G n names c) r h)) a w
 | 0, c, r, h, φ, a, w, hI, S, hs => hT n c (bQ r Lx) h φ a w hI (S.bQ Lx) hs
 | k + 1, c, r, h, φ, a, w, hI, S, hs => by
  by_cases hc : ∃ x y', c = .seq x y'
  ·obtain ⟨c1, c2, rfl⟩ := hc
   have hs : (den (au p run) (aB p run) (cC P G n names c1) ⟨xK (au p run) (aB p run) (oA L Lr) (fun r h => run y (bQ r Lx) h) k (cC P G n names c2), (oA L Lr).e, (oA L Lr).g, (oA L Lr).r⟩ r h).Safe := hs
   refine wp_seq (wp_mono (Iq M D CO c1 _ r h φ a w S hs) ?_)
   rintro e a' w' ⟨r', h', φ', S', T, hk⟩
   cases e with
   | normal =>
    have hk : Sub (xK (au p run) (aB p run) (oA L Lr) (fun r h => run y (bQ r Lx) h) k (cC P G n names c2) r' h') _ := hk
    refine wp_mono (Dr M D CO hT k c2 r' h' φ' a' w' hI S' (hk.safe hs)) ?_
    rintro e a'' w'' ⟨z, r'', h'', φ'', hl, he, S'', T'⟩
    exact ⟨z, r'', h'', φ'', hk _ hl, he, S'', T.trans T'⟩
   | exit i => exact ⟨_, _, h', φ', hk _ (.ex _ _ _), .ex _ _ _, S'.bQ L, T⟩
   | goto i => exact ⟨_, _, h', φ', hk _ (.go _ _ _), .go _ _ _, S'.bQ L, T⟩
   | ret => exact ⟨_, _, h', φ', hk _ (.ret _ _), .ret _ _, S'.bQ Lr, T⟩
   | panic c => exact hk.elim
   | outgrown => exact hk.elim
  ·have e0 : xK (au p run) (aB p run) (oA L Lr) (fun r h => run y (bQ r Lx) h) (k + 1) (cC P G n names c) = den (au p run) (aB p run) (cC P G n names c) (oA L Lr) := by
    cases c with
    | seq x y' => exact absurd ⟨_, _, rfl⟩ hc
    | region id ops d =>
     cases d with
     | false =>
      show xK (au p run) (aB p run) (oA L Lr) (fun r h => run y (bQ r Lx) h) (k + 1) (sB P G n names ops) = den (au p run) (aB p run) (sB P G n names ops) (oA L Lr)
      rcases iA (P := P) (G := G) (n := n) (names := names) ops with e | ⟨q, e⟩ <;> rw [e] <;> rfl
     | true =>
      show xK (au p run) (aB p run) (oA L Lr) (fun r h => run y (bQ r Lx) h) (k + 1) (pj P G n names ops) = den (au p run) (aB p run) (pj P G n names ops) (oA L Lr)
      rcases kS (P := P) (G := G) (n := n) (names := names) (bad := lT P G (jF P G (lT P G (jF P G (fun _ => .bad 404) n names) names) n names) names) ops with ⟨l, hl, e⟩ | e
      ·have e : pj P G n names ops = _ := e
       rw [e]; rfl
      ·have e : pj P G n names ops = _ := e
       rw [e]
       rcases kT (P := P) (G := G) (names := names) (next := jF P G (lT P G (jF P G (fun _ => .bad 404) n names) names) n names) ops with ⟨x, y, _, _, _, _, e2⟩ | ⟨k, e2⟩
       ·rw [e2]; rfl
       ·rw [e2]; rfl
    | cond c x y =>
     simp only [cC]
     split <;> rfl
    | block i c => rcases pC (P := P) (G := G) (n := n) (names := names) i c with e | e <;> rw [e] <;> rfl
    | _ => rfl
   rw [e0] at hs ⊢
   exact wp_mono (Iq M D CO c _ r h φ a w S hs) fun e a' w' hd => Ir hd
end
variable {P : Program} {φ φ' : aI} {h h' h2 : Hp} {w w' : World} {v : AV} {r r2 : A2} {a : Act} {cv : Value} {n : Nat} {G : Gl} [NB G] {names : List String} {p : Pg} {run : iY}
theorem bG.cases {x : RS} {Q : Exit → Act → World → Prop} {w0 : World}
  (hn : ∀ r' h' φ' a w, x.aG (.nm r' h') → St n G φ' r' h' a w → Step φ h w0 φ' h' w → Q .normal a w)
  (he : ∀ i r' h' φ' a w, x.aG (.ex i r' h') → St n G φ' r' h' a w → Step φ h w0 φ' h' w → Q (.exit i) a w)
  (hg : ∀ i r' h' φ' a w, x.aG (.go i r' h') → St n G φ' r' h' a w → Step φ h w0 φ' h' w → Q (.goto i) a w)
  (hr : ∀ r' h' φ' a w, x.aG (.ret r' h') → St n G φ' r' h' a w → Step φ h w0 φ' h' w → Q .ret a w) (e : Exit) (a : Act) (w : World) (hq : bG n G φ h w0 x e a w) : Q e a w := by
 obtain ⟨y, r', h', φ', hl, hy, S, T⟩ := hq
 cases hy with
 | nm => exact hn _ _ _ _ _ hl S T
 | ex i => exact he _ _ _ _ _ _ hl S T
 | go i => exact hg _ _ _ _ _ _ hl S T
 | ret => exact hr _ _ _ _ _ hl S T
theorem bG.then {x x' : RS} {w0 w1 : World} {φ0 φ1 : aI} {h0 h1 : Hp} (T : Step φ0 h0 w0 φ1 h1 w1) (hl : ∀ y, x.aG y → x'.aG y) (e : Exit) (a : Act) (w : World) (hq : bG n G φ1 h1 w1 x e a w) : bG n G φ0 h0 w0 x' e a w :=
 let ⟨y, r', h', φ', g1, g2, g3, g4⟩ := hq; ⟨y, r', h', φ', hl y g1, g2, g3, T.trans g4⟩
theorem rP.mono {c : Code} {Q Q' : Exit → Act → World → Prop} (hl : rP P c Q a w) (hq : ∀ e a w, Q e a w → Q' e a w) : rP P c Q' a w := fun b k cs =>
 let ⟨e, a', w', q, g⟩ := hl b k cs; ⟨e, a', w', hq _ _ _ q, g⟩
theorem xV.mono {s c : Code} {Q Q' : Exit → Act → World → Prop} (hl : xV P s c Q a w) (hq : ∀ e a w, Q e a w → Q' e a w) : xV P s c Q' a w := fun b k cs =>
 let ⟨e, a', w', q, g⟩ := hl b k cs; ⟨e, a', w', hq _ _ _ q, g⟩
theorem zN {m : Nat} (C : kU P G names p m) (s c : Code) {x y : AC} (hI : Impl (cC P G n names s) x) (hJ : Impl (cC P G n names c) y) (S : St n G φ r h a w) (hs : (zO x y (exec p m) r h).Safe) :
  xV P s c (bG n G φ h w (zO x y (exec p m) r h)) a w := by
 unfold zO at hs ⊢
 refine Mq (wp_mono (C.code n c y r h φ a w hJ S (jW hs)) (bG.cases ?_ ?_ ?_ ?_))
 ·exact fun r' h' φ' a' w' hl S' T => ⟨_, r', h', φ', dF hl rfl (.nm _ _), .nm _ _, S', T⟩
 ·exact fun i r' h' φ' a' w' hl S' T => ⟨_, r', h', φ', eF hl rfl (.ex _ _ _), .ex _ _ _, S', T⟩
 ·intro l r' h' φ' a' w' hl S' T
  have Qw := xU hs hl
  have e := uh (P := P) (G := G) (n := n) (names := names) l s
  show (match findLabel s l with
   | some c => xV P s c _ a' w'
   | none => _)
  cases hf : findLabel s l with
  | none =>
   rw [hf] at e
   have e2 : cT x l = none := by
    rcases uj l hI with ⟨_, e2⟩ | ⟨_, _, e1, _⟩
    ·exact e2
    ·rw [e] at e1; cases e1
   have hk : (Option.rec (.go l r' h') (fun c => exec p m (.sat x c) r' h') (cT x l) : RS) = .go l r' h' := by rw [e2]
   refine ⟨_, r', h', φ', dG hl rfl ?_, .go _ _ _, S', T⟩
   show (Option.rec (.go l r' h') (fun c => exec p m (.sat x c) r' h') (cT x l) : RS).aG _
   rw [hk]; exact .go _ _ _
  | some c' =>
   rw [hf] at e
   obtain ⟨y', e2, e3⟩ : ∃ y', cT x l = some y' ∧ Impl (cC P G n names c') y' := by
    rcases uj l hI with ⟨e1, _⟩ | ⟨d, d', e1, e2, e3⟩
    ·rw [e] at e1; cases e1
    ·rw [e] at e1; cases e1; exact ⟨d', e2, e3⟩
   have hk : (Option.rec (.go l r' h') (fun c => exec p m (.sat x c) r' h') (cT x l) : RS) = exec p m (.sat x y') r' h' := by rw [e2]
   have hs3 : (Option.rec (.go l r' h') (fun c => exec p m (.sat x c) r' h') (cT x l) : RS).Safe := Qw
   rw [hk] at hs3
   refine (C.sat n s c' x y' r' h' φ' a' w' hI e3 S' hs3).mono (bG.then T fun y hy => dG hl rfl ?_)
   show (Option.rec (.go l r' h') (fun c => exec p m (.sat x c) r' h') (cT x l) : RS).aG _
   rw [hk]; exact hy
 ·exact fun r' h' φ' a' w' hl S' T => ⟨_, r', h', φ', eM hl rfl, .ret _ _, S', T⟩
theorem oE {m : Nat} (C : kU P G names p m) (i : Nat) (c : Code) {x : AC} (hI : Impl (cC P G n names c) x) (S : St n G φ r h a w) (hs : (sW i x (exec p m) r h).Safe) :
  (Code.block i c).wp P (bG n G φ h w (sW i x (exec p m) r h)) a w := by
 unfold sW at hs ⊢
 refine wp_block (wp_mono (C.code n c x r h φ a w hI S (jW hs)) (bG.cases ?_ ?_ ?_ ?_))
 ·exact fun r' h' φ' a' w' hl S' T => ⟨_, r', h', φ', dF hl rfl (.nm _ _), .nm _ _, S', T⟩
 ·intro j r' h' φ' a' w' hl S' T
  show if j = i then _ else _
  by_cases e : j = i
  ·rw [if_pos e]
   refine ⟨_, r', h', φ', eF hl rfl ?_, .nm _ _, S', T⟩
   show (@Bool.rec (fun _ => RS) (.ex j r' h') (.nm r' h') (Nat.beq j i)).aG _
   rw [e, Nat.beq_refl]; exact .nm _ _
  ·rw [if_neg e]
   refine ⟨_, r', h', φ', eF hl rfl ?_, .ex _ _ _, S', T⟩
   show (@Bool.rec (fun _ => RS) (.ex j r' h') (.nm r' h') (Nat.beq j i)).aG _
   have : Nat.beq j i = false := by rw [← Bool.not_eq_true]; exact fun g => e (Nat.eq_of_beq_eq_true g)
   rw [this]; exact .ex _ _ _
 ·exact fun i r' h' φ' a' w' hl S' T => ⟨_, r', h', φ', dG hl rfl (.go _ _ _), .go _ _ _, S', T⟩
 ·exact fun r' h' φ' a' w' hl S' T => ⟨_, r', h', φ', eM hl rfl, .ret _ _, S', T⟩
theorem we {m : Nat} (C : kU P G names p m) (c : Code) {x : AC} (hI : Impl (cC P G n names c) x) (S : St n G φ r h a w) (hs : (yd x (exec p m) r h).Safe) :
  rP P c (bG n G φ h w (yd x (exec p m) r h)) a w := by
 unfold yd at hs ⊢
 refine HY (wp_mono (C.code n c x r h φ a w hI S (jW hs)) (bG.cases ?_ ?_ ?_ ?_))
 ·intro r' h' φ' a' w' hl S' T
  exact (C.loop n c x r' h' φ' a' w' hI S' (pB hs hl)).mono (bG.then T fun y hy => dF hl rfl hy)
 ·exact fun i r' h' φ' a' w' hl S' T => ⟨_, r', h', φ', eF hl rfl (.ex _ _ _), .ex _ _ _, S', T⟩
 ·exact fun i r' h' φ' a' w' hl S' T => ⟨_, r', h', φ', dG hl rfl (.go _ _ _), .go _ _ _, S', T⟩
 ·exact fun r' h' φ' a' w' hl S' T => ⟨_, r', h', φ', eM hl rfl, .ret _ _, S', T⟩
def wg (P : Program) (G : Gl) (n : Nat) (p : Pg) (mk : Array Oper → AC) : Prop := ∀ (m : Nat), (∀ k, k ≤ m → dU P G p (exec p k)) → ∀ (ops : Array Oper) (r : A2) (h : Hp) (φ : aI) (a : Act) (w : World), St n G φ r h a w →
 (uo (mk ops) p (exec p m) r h).Safe → wpAny P .any ops (bG n G φ h w (uo (mk ops) p (exec p m) r h)) ops.size (Array.replicate ops.size false) a { w with drawn := w.drawn + 1 }
theorem FL (k : Nat) : wg P G n p (fun _ => .bad k) := fun _ _ _ _ _ _ _ _ _ hs => (RS.Safe.err hs).elim
theorem yf (D : ya P G names p) {bad : Array Oper → AC} (hb : wg P G n p bad) : wg P G n p (jF P G bad n names) := by
 intro m CO ops r h φ a w S hs
 rcases kS (P := P) (G := G) (n := n) (names := names) (bad := bad) ops with ⟨l, hl, e⟩ | e
 ·rw [e] at hs ⊢
  have hs : (dI p (exec p m) (l.map fun (i, b) => .mk b (ir P G n names ops (ops.getD i default))) r h h []).Safe := hs
  show wpAny P .any ops (bG n G φ h w (dI p (exec p m) (l.map fun (i, b) => .mk b (ir P G n names ops (ops.getD i default))) r h h [])) ops.size (Array.replicate ops.size false) a { w with drawn := w.drawn + 1 }
  rw [vY] at hs ⊢
  refine D n (exec p m) (CO m (Nat.le_refl _)) ops l _ r h φ a w _ hl S hs ?_
  intro r' h' φ' a' w' e1 S' T
  rw [e1]
  exact ⟨_, r', h', φ', .nm _ _, .nm _ _, S', T⟩
 ·rw [e] at hs ⊢
  exact hb m CO ops r h φ a w S hs
theorem wi {x : RS} {w0 : World} : ¬ LetsOut (bG n G φ h w0 x) := by
 rintro ⟨a, w, y, r', h', φ', _, he, _⟩
 cases he
theorem bG.It {x : RS} (hs : (dA x).Safe) (e : Exit) (a' : Act) (w' : World) (hq : bG n G φ h w x e a' w') : bG n G φ h w (dA x) e a' w' := by
 obtain ⟨y, r', h', φ', hl, he, S', T⟩ := hq
 obtain ⟨y2, r2, h2, q1, q2, q3, q4⟩ := (sU _ hs).2 y hl e r' h' he
 exact ⟨y2, r2, h2, φ', q1, q2, S'.less q3 q4, T.less q4⟩
theorem My {x y : RS} (hs : (yg x y).Safe) : x.Safe ∧ y.Safe ∧ (∀ e a' w', bG n G φ h w x e a' w' → bG n G φ h w (yg x y) e a' w') ∧ (∀ e a' w', bG n G φ h w y e a' w' → bG n G φ h w (yg x y) e a' w') := by
 have e0 : yg x y = @Bool.rec (fun _ => RS) (.ch 2 (fun i => @Nat.rec (fun _ => RS) x (fun _ _ => y) i)) (dA (.ch 2 (fun i => @Nat.rec (fun _ => RS) x (fun _ _ => y) i))) (Qx x y) := rfl
 cases he : Qx x y with
 | true =>
  rw [he] at e0
  have e0 : yg x y = dA (.ch 2 (fun i => @Nat.rec (fun _ => RS) x (fun _ _ => y) i)) := e0
  rw [e0] at hs ⊢
  have hj := (sU _ hs).1
  exact ⟨fun k hk => hj k (.ch 2 _ 0 _ (by omega) hk), fun k hk => hj k (.ch 2 _ 1 _ (by omega) hk), fun e a' w' hq => bG.It hs e a' w' (hq.lift fun z hz => .ch 2 _ 0 _ (by omega) hz), fun e a' w' hq => bG.It hs e a' w' (hq.lift fun z hz => .ch 2 _ 1 _ (by omega) hz)⟩
 | false =>
  rw [he] at e0
  have e0 : yg x y = .ch 2 (fun i => @Nat.rec (fun _ => RS) x (fun _ _ => y) i) := e0
  rw [e0] at hs ⊢
  exact ⟨fun k hk => hs k (.ch 2 _ 0 _ (by omega) hk), fun k hk => hs k (.ch 2 _ 1 _ (by omega) hk), fun e a' w' hq => hq.lift fun z hz => .ch 2 _ 0 _ (by omega) hz, fun e a' w' hq => hq.lift fun z hz => .ch 2 _ 1 _ (by omega) hz⟩
theorem Dt {next : Array Oper → AC} (hn : wg P G n p next) : wg P G n p (lT P G next names) := by
 intro m CO ops r h φ a w S hs
 rcases kT (P := P) (G := G) (names := names) (next := next) ops with ⟨x, y, hf, hxy, hx, hy, e⟩ | ⟨k, e⟩
 ·rw [e] at hs ⊢
  have hs : (yg (exec p m (next (fR x y ops)) r h) (exec p m (next (fR y x ops)) r h)).Safe := hs
  show wpAny P .any ops (bG n G φ h w (yg (exec p m (next (fR x y ops)) r h) (exec p m (next (fR y x ops)) r h))) ops.size (Array.replicate ops.size false) a { w with drawn := w.drawn + 1 }
  obtain ⟨s1, s2, s3, s4⟩ := My (n := n) (G := G) (φ := φ) (h := h) (w := w) hs
  cases m with
  | zero => exact (RS.Safe.err s1).elim
  | succ m =>
   have g1 := hn m (fun k hk => CO k (by omega)) (fR x y ops) r h φ a w S s1
   have g2 := hn m (fun k hk => CO k (by omega)) (fR y x ops) r h φ a w S s2
   rw [vW] at g1 g2
   refine vX (fun i o ho => Mw (hf o (Array.mem_toList_iff.2 (Array.mem_of_getElem? ho)))) wi wi ?_ ?_ _ _ _ _ g1 g2 hxy ?_ ?_ (by simp) hx hy
   ·exact s3
   ·exact s4
   ·simp [Array.getD_eq_getD_getElem?, Array.getElem?_replicate, hx]
   ·simp [Array.getD_eq_getD_getElem?, Array.getElem?_replicate, hy]
 ·rw [e] at hs
  exact (RS.Safe.err hs).elim
theorem Mz (D : ya P G names p) : wg P G n p (pj P G n names) := yf D (Dt (yf D (Dt (yf D (FL 404)))))
theorem FM {m : Nat} (E : Env P G names p) (D : ya P G names p) (CA : ∀ k, k ≤ m → kU P G names p k) (c : Code) {z : AC} (hI : Impl (cC P G n names c) z) (S : St n G φ r h a w) (hs : (uo z p (exec p m) r h).Safe) :
  c.wp P (bG n G φ h w (uo z p (exec p m) r h)) a w := by
 have C := CA m (Nat.le_refl _)
 have CO := um E C
 rcases BO hI with ⟨k, Lin, L, Lr, Lx, y, rfl, hn, hy⟩ | ⟨q, rfl⟩ | hN
 ·exact Dr E.ms (D.Vq E.mixed) CO (fun n c r h φ a w => C.code n c y r h φ a w) k c (bQ r Lin) h φ a w hy (S.bQ Lin) hs
 ·exact (RS.Safe.err hs).elim
 cases c with
 | skip =>
  have hN : z = .skip := hN
  subst hN
  exact wp_skip ⟨_, r, h, φ, .nm _ _, .nm _ _, S, .refl _ _ _⟩
 | region id ops d =>
  have hz : z = cC P G n names (.region id ops d) := by
   cases d with
   | false =>
    have e3 : cC P G n names (.region id ops false) = sB P G n names ops := rfl
    rw [e3] at hN ⊢
    rcases iA (P := P) (G := G) (n := n) (names := names) ops with e | ⟨q, e⟩ <;> rw [e] at hN ⊢ <;> exact hN
   | true =>
    have e3 : cC P G n names (.region id ops true) = pj P G n names ops := rfl
    rw [e3] at hN ⊢
    rcases kS (P := P) (G := G) (n := n) (names := names) (bad := lT P G (jF P G (lT P G (jF P G (fun _ => .bad 404) n names) names) n names) names) ops with ⟨l, hl, e⟩ | e
    ·have e : pj P G n names ops = _ := e
     rw [e] at hN ⊢; exact hN
    ·have e : pj P G n names ops = _ := e
     rw [e] at hN ⊢
     rcases kT (P := P) (G := G) (names := names) (next := jF P G (lT P G (jF P G (fun _ => .bad 404) n names) names) n names) ops with ⟨x, y, _, _, _, _, e2⟩ | ⟨k, e2⟩
     ·rw [e2] at hN ⊢; exact hN
     ·rw [e2] at hN ⊢; exact hN
  subst hz
  cases d with
  | false =>
   have hs : (uo (sB P G n names ops) p (exec p m) r h).Safe := hs
   show (Code.region id ops false).wp P (bG n G φ h w (uo (sB P G n names ops) p (exec p m) r h)) a w
   rcases iA (P := P) (G := G) (n := n) (names := names) ops with e | ⟨q, e⟩
   case inr =>
    rw [e] at hs ⊢
    have hs : (yh q (ops.toList.map fun o => oy P { G with b := some q } n names ops o) p (exec p m) r h).Safe := hs
    show (Code.region id ops false).wp P (bG n G φ h w (yh q (ops.toList.map fun o => oy P { G with b := some q } n names ops o) p (exec p m) r h)) a w
    unfold yh at hs ⊢
    refine wp_region ?_
    have := BG (Q := bG n G φ h w (RS.bind (eU p (exec p m) (ops.toList.map fun o => oy P { G with b := some q } n names ops o) (tZ q r) h) (fun r h => .nm (BB q r) h) (fun i r h => .ex i r h) (fun l r h => .go l r h))) E.ms (show dU P { G with b := some q } p (exec p m) from fun f args h φ w vals hg => CO f args h φ w vals hg) ops.toList [] (tZ q r) h φ a w (by simp) (S.drop q) (jW hs)
     (fun r' h' φ' a' w' hl S' T => ⟨_, BB q r', h', φ', dF hl rfl (.nm _ _), .nm _ _, S'.ins, T⟩)
    rw [List.range_eq_range']
    simpa using this
   rw [e] at hs ⊢
   have hs : (eU p (exec p m) (ops.toList.map fun o => oy P G n names ops o) r h).Safe := hs
   show (Code.region id ops false).wp P (bG n G φ h w (eU p (exec p m) (ops.toList.map fun o => oy P G n names ops o) r h)) a w
   refine wp_region ?_
   have := BG (Q := bG n G φ h w (eU p (exec p m) (ops.toList.map fun o => oy P G n names ops o) r h)) E.ms CO ops.toList [] r h φ a w (by simp) S hs (fun r' h' φ' a' w' hl S' T => ⟨_, r', h', φ', hl, .nm _ _, S', T⟩)
   rw [List.range_eq_range']
   show wpOps P ops (bG n G φ h w (eU p (exec p m) (ops.toList.map fun o => oy P G n names ops o) r h)) (List.range' 0 ops.size) a w
   simpa using this
  | true =>
   exact wp_region_any E.mixed (Mz D m (fun k hk => um E (CA k hk)) ops r h φ a w S hs)
 | seq c1 c2 =>
  obtain ⟨x, y, rfl, hx, hy⟩ : ∃ a' b', z = .seq a' b' ∧ Impl (cC P G n names c1) a' ∧ Impl (cC P G n names c2) b' := hN
  have hs : (Du x y (exec p m) r h).Safe := hs
  show (Code.seq c1 c2).wp P (bG n G φ h w (Du x y (exec p m) r h)) a w
  unfold Du at hs ⊢
  refine wp_seq (wp_mono (C.code n c1 x r h φ a w hx S (jW hs)) (bG.cases ?_ ?_ ?_ ?_))
  ·intro r' h' φ' a' w' hl S' T
   exact wp_mono (C.code n c2 y r' h' φ' a' w' hy S' (pB hs hl)) (bG.then T fun z hz => dF hl rfl hz)
  ·exact fun i r' h' φ' a' w' hl S' T => ⟨_, r', h', φ', eF hl rfl (.ex _ _ _), .ex _ _ _, S', T⟩
  ·exact fun i r' h' φ' a' w' hl S' T => ⟨_, r', h', φ', dG hl rfl (.go _ _ _), .go _ _ _, S', T⟩
  ·exact fun r' h' φ' a' w' hl S' T => ⟨_, r', h', φ', eM hl rfl, .ret _ _, S', T⟩
 | cond c x y =>
  simp only [cC] at hN
  cases hc : cO G c with
  | none =>
   rw [hc] at hN
   have hN : z = .bad 401 := hN
   subst hN
   exact (RS.Safe.err hs).elim
  | some b =>
   rw [hc] at hN
   obtain ⟨x', y', rfl, hx, hy⟩ : ∃ a' b', z = .cond b a' b' ∧ Impl (cC P G n names x) a' ∧ Impl (cC P G n names y) b' := hN
   have hs : (AV.bF (ev b r) (fun t => @Bool.rec (fun _ => RS) (exec p m y' r h) (exec p m x' r h) t) (.err 213)).Safe := hs
   obtain ⟨t, ht, e⟩ := gA hs
   show (Code.cond c x y).wp P (bG n G φ h w (AV.bF (ev b r) (fun t => @Bool.rec (fun _ => RS) (exec p m y' r h) (exec p m x' r h) t) (.err 213))) a w
   rw [e] at hs ⊢
   have hv := S.OW hc
   rw [ht] at hv
   refine wp_cond hv.cW ?_
   cases t with
   | true => exact C.code n x x' r h φ a w hx S hs
   | false => exact C.code n y y' r h φ a w hy S hs
 | block i c =>
  rcases pC (P := P) (G := G) (n := n) (names := names) i c with e | e <;> rw [e] at hN
  ·obtain ⟨x, rfl, hx⟩ : ∃ a', z = .block i a' ∧ Impl (cC P G n names c) a' := hN
   exact oE C i c hx S hs
  ·have hz : (∃ a', z = .join (.block i a') ∧ Impl (cC P G n names c) a') ∨ ∃ a', z = .block i a' ∧ Impl (cC P G n names c) a' := by
    rcases (show z = .join (.block i (cC P G n names c)) ∨ (∃ i' b b', AC.block i (cC P G n names c) = .block i' (.loop b) ∧ z = .join (.block i' (.loop b')) ∧ Impl b b') ∨ ∃ i' b b', AC.block i (cC P G n names c) = .block i' b ∧ z = .block i' b' ∧ Impl b b' from hN) with rfl | ⟨i', b, b', e1, rfl, hb⟩ | ⟨i', b, b', e1, rfl, hb⟩
    ·exact .inl ⟨_, rfl, .refl _⟩
    ·injection e1 with e1 e2
     subst e1
     rw [e2]
     exact .inl ⟨_, rfl, .loop hb⟩
    ·injection e1 with e1 e2
     subst e1
     rw [e2]
     exact .inr ⟨_, rfl, hb⟩
   rcases hz with ⟨x, rfl, hx⟩ | ⟨x, rfl, hx⟩
   case inr => exact oE C i c hx S hs
   have hs : (dA (exec p m (.block i x) r h)).Safe := hs
   show (Code.block i c).wp P (bG n G φ h w (dA (exec p m (.block i x) r h))) a w
   obtain ⟨s1, s2⟩ := sU _ hs
   refine wp_mono (C.block n i c x r h φ a w hx S s1) ?_
   rintro e a' w' ⟨y, r', h', φ', hl, he, S', T⟩
   obtain ⟨y2, r2, h2, q1, q2, q3, q4⟩ := s2 y hl e r' h' he
   exact ⟨y2, r2, h2, φ', q1, q2, S'.less q3 q4, T.less q4⟩
 | loop c =>
  obtain ⟨x, rfl, hx⟩ : ∃ a', z = .loop a' ∧ Impl (cC P G n names c) a' := hN
  exact zz (we C c hx S hs)
 | rangeFunc f ps x y =>
  have hN : z = .bad 402 := hN
  subst hN
  exact (RS.Safe.err hs).elim
 | exit i =>
  have hN : z = .exit i := hN
  subst hN
  exact wp_exit ⟨_, r, h, φ, .ex _ _ _, .ex _ _ _, S, .refl _ _ _⟩
 | scope c =>
  obtain ⟨x, rfl, hx⟩ : ∃ a', z = .scope a' ∧ Impl (cC P G n names c) a' := hN
  exact BH (zN C c c hx hx S hs)
 | label l =>
  have hN : z = .label l := hN
  subst hN
  exact wp_label ⟨_, r, h, φ, .nm _ _, .nm _ _, S, .refl _ _ _⟩
 | goto l =>
  have hN : z = .goto l := hN
  subst hN
  exact wp_goto ⟨_, r, h, φ, .go _ _ _, .go _ _ _, S, .refl _ _ _⟩
 | ret =>
  have hN : z = .ret := hN
  subst hN
  exact wp_ret ⟨_, r, h, φ, .ret _ _, .ret _ _, S, .refl _ _ _⟩
 | refuse s =>
  have hN : z = .bad 403 := hN
  subst hN
  exact (RS.Safe.err hs).elim
theorem zP (E : Env P G names p) (D : ya P G names p) : ∀ m k, k ≤ m → kU P G names p k
 | 0, 0, _ => ⟨fun _ _ _ _ _ _ _ _ _ _ hs => (RS.Safe.err hs).elim, fun _ _ _ _ _ _ _ _ _ _ _ hs => (RS.Safe.err hs).elim, fun _ _ _ _ _ _ _ _ _ _ hs => (RS.Safe.err hs).elim, fun _ _ _ _ _ _ _ _ _ _ _ _ _ hs => (RS.Safe.err hs).elim⟩
 | m + 1, k, hk => by
  have CA := zP E D m
  rcases Nat.lt_or_ge k (m + 1) with g | g
  ·exact CA k (by omega)
  ·have e : k = m + 1 := by omega
   subst e
   have C := CA m (Nat.le_refl _)
   exact ⟨fun _ c _ _ _ _ _ _ hI S hs => FM E D CA c hI S hs, fun _ i c _ _ _ _ _ _ hI S hs => oE C i c hI S hs, fun _ c _ _ _ _ _ _ hI S hs => we C c hI S hs, fun _ s c _ _ _ _ _ _ _ hI hJ S hs => zN C s c hI hJ S hs⟩
theorem MA (E : Env P G names p) (D : ya P G names p) (m : Nat) : kU P G names p m := zP E D m m (Nat.le_refl _)
def Dv (x : AF) : Bool := match x with | .ext _ => true | _ => false
theorem Dw {x : AF} (h : Dv x = false) (k : PK) : x ≠ .ext k := fun e => by rw [e] at h; cases h
theorem MB (E : Env P G names p) (D : ya P G names p) (m f : Nat) (args : List AV) (vals : List Value) (hg : nJ G φ) (H : HR φ h w) (hv : cL φ args vals) (hs : (au p (exec p m) f args h).Safe) (hb : ∀ k, aq f p.fs ≠ .ext k) :
  Calls P f vals.toArray w (dN φ h w (au p (exec p m) f args h)) := by
 rcases um E (MA E D m) f args h φ w vals hg H hv hs with ⟨_, hC⟩ | ⟨cv, w', hcf, _⟩
 ·exact hC
 ·exfalso
  have hF := E.fs f
  have go : ∀ {body res}, sF P G names f body res → False := by
   rintro body res ⟨fn, body0, hfn, hc, _⟩
   unfold cF at hc
   split at hc
   ·rename_i c rs hbody hrs
    split at hc
    ·cases hc
    ·rename_i hname
     rw [fw hfn (by simpa using hname) hbody] at hcf
     cases hcf
   ·cases hc
  cases hf : aq f p.fs with
  | none => rw [nQ hf] at hs; exact (RT.Safe.err hs).elim
  | mk body res => rw [hf] at hF; exact go hF
  | Qc body res => rw [hf] at hF; exact go hF
  | tz k body res => rw [hf] at hF; exact go hF.1
  | ext k => exact hb k hf
def fe (r r' : A2) (L : List Nat) : Prop := ∀ a b : H, (16 * a.nat + b.nat) ∈ L → an a b r = an a b r'
variable {r r' : A2} {h h' : Hp} {v : AV}
theorem fe.left {L M : List Nat} (e : fe r r' (L ++ M)) : fe r r' L := fun a b m => e a b (List.mem_append_left _ m)
theorem fe.right {L M : List Nat} (e : fe r r' (L ++ M)) : fe r r' M := fun a b m => e a b (List.mem_append_right _ m)
theorem aj {x : AO} (e : fe r r' x.aE) : ev x r = ev x r' := by
 cases x with
 | t a b => exact e a b (by simp [AO.aE])
 | c v => rfl
theorem hY : ∀ {xs : List AO}, fe r r' (tr xs) → fL xs r = fL xs r'
 | [], _ => rfl
 | x :: xs, e => by
  have e : fe r r' (x.aE ++ tr xs) := e
  show ev x r :: fL xs r = ev x r' :: fL xs r'
  rw [aj e.left, hY e.right]
theorem dB {x : OA} {d : Nat} (e : fe r r' x.aE) : fM x d r = fM x d r' := by
 cases x with
 | none => rfl
 | some x =>
  funext k q
  show eK (ev x r) k q = eK (ev x r') k q
  rw [aj (x := x) e]
theorem oG : ∀ {ps : List Part}, fe r r' (ps.flatMap Part.aE) → fits ps r = fits ps r'
 | [], _ => rfl
 | .mk off sz x :: ps, e => by
  have e : fe r r' (x.aE ++ ps.flatMap Part.aE) := e
  show (OL.rec (@Bool.rec (fun _ => Bool) false (fits ps r) (Bool.and (ev x r).one (Nat.beq sz 1))) (fun l => @Bool.rec (fun _ => Bool) false (fits ps r) (Nat.beq l.length sz)) (ev x r).asAgg : Bool) =
   (OL.rec (@Bool.rec (fun _ => Bool) false (fits ps r') (Bool.and (ev x r').one (Nat.beq sz 1))) (fun l => @Bool.rec (fun _ => Bool) false (fits ps r') (Nat.beq l.length sz)) (ev x r').asAgg : Bool)
  rw [aj e.left, oG e.right]
theorem oH : ∀ {ps : List Part} {l : List AV}, fe r r' (ps.flatMap Part.aE) → fill ps r l = fill ps r' l
 | [], _, _ => rfl
 | .mk off sz x :: ps, l, e => by
  have e : fe r r' (x.aE ++ ps.flatMap Part.aE) := e
  show fill ps r (nR (AV.cs (ev x r)) off l) = fill ps r' (nR (AV.cs (ev x r')) off l)
  rw [aj e.left, oH e.right]
theorem uq {op : oZ} (e : fe r r' op.aE) : op.run r h = op.run r' h := by
 cases op with
 | mv x => show MC x r h = MC x r' h; unfold MC; rw [aj e]
 | pick c a b => show fU c a b r h = fU c a b r' h; unfold fU; rw [aj e.left, aj e.right.left, aj e.right.right]
 | alloc el n c => rfl
 | box el x => show zQ el x r h = zQ el x r' h; unfold zQ; rw [aj (x := x) e]
 | build z ps => show kW z ps r h = kW z ps r' h; unfold kW; rw [oG e, oH e]
 | cu el es n z ps => show gB el es n z ps r h = gB el es n z ps r' h; unfold gB; rw [oG e, oH e]
 | lP x => show jZ x r h = jZ x r' h; unfold jZ; rw [aj (x := x) e]
 | lR m x => show rR m x r h = rR m x r' h; unfold rR; rw [aj (x := x) e]
 | LN x y => show ur x y r h = ur x y r' h; unfold ur; rw [aj (x := x) e.left, aj (x := y) e.right]
 | EW m x y => show zR m x y r h = zR m x y r' h; unfold zR; rw [aj (x := x) e.left, aj (x := y) e.right]
 | sA x => show qI x r h = qI x r' h; unfold qI; rw [aj (x := x) e]
 | bin k x y => show bK k (ev x r) (ev y r) h = bK k (ev x r') (ev y r') h; rw [aj (x := x) e.left, aj (x := y) e.right]
 | un k x => show MD k x r h = MD k x r' h; unfold MD; rw [aj (x := x) e]
 | conv k x => show tP k x r h = tP k x r' h; unfold tP; rw [aj (x := x) e]
 | OK t x => show zS t x r h = zS t x r' h; unfold zS; rw [aj (x := x) e]
 | Ua f xs => show zT f xs r h = zT f xs r' h; unfold zT; rw [hY e]
 | pc => rfl
 | pf el z l c => show fV el z l c r h = fV el z l c r' h; unfold fV; rw [aj (x := l) e.left, aj (x := c) e.right]
 | Sh es x lo hi mx => show fN es x lo hi mx r h = fN es x lo hi mx r' h; unfold fN; rw [aj (x := x) e.left]; simp only [dB e.right.left, dB e.right.right.left, dB e.right.right.right]
 | GM x lo hi => show gM x lo hi r h = gM x lo hi r' h; unfold gM; rw [aj (x := x) e.left]; simp only [dB e.right.left, dB e.right.right]
 | LX len es x lo hi mx => show qJ len es x lo hi mx r h = qJ len es x lo hi mx r' h; unfold qJ; rw [aj (x := x) e.left]; simp only [dB e.right.left, dB e.right.right.left, dB e.right.right.right]
 | lS d x => show uv d x r h = uv d x r' h; unfold uv; rw [aj (x := x) e]
 | LY d x => show qK d x r h = qK d x r' h; unfold qK; rw [aj (x := x) e]
 | LZ d n x => show qL d n x r h = qL d n x r' h; unfold qL; rw [aj (x := x) e]
 | zg es x y => show uw es x y r h = uw es x y r' h; unfold uw; rw [aj (x := x) e.left, aj (x := y) e.right]
 | Su len es x y => show wj len es x y r h = wj len es x y r' h; unfold wj; rw [aj (x := x) e.left, aj (x := y) e.right]
 | idxs x y => show oI x y r h = oI x y r' h; unfold oI; rw [aj (x := x) e.left, aj (x := y) e.right]
 | Ma len es agg x y => show qM len es agg x y r h = qM len es agg x y r' h; unfold qM; rw [aj (x := x) e.left, aj (x := y) e.right]
 | ext i x => show wk i x r h = wk i x r' h; unfold wk; rw [aj (x := x) e]
 | Mb t z ok x y => show Dx t z ok x y r h = Dx t z ok x y r' h; unfold Dx; rw [aj (x := x) e.left, aj (x := y) e.right]
 | OO t x y z => show Dy t x y z r h = Dy t x y z r' h; unfold Dy; rw [aj (x := x) e.left, aj (x := y) e.right.left, aj (x := z) e.right.right]
 | del t x y => show Dz t x y r h = Dz t x y r' h; unfold Dz; rw [aj (x := x) e.left, aj (x := y) e.right]
 | GN x => show qN x r h = qN x r' h; unfold qN; rw [aj (x := x) e]
 | len x => show DA x r h = DA x r' h; unfold DA; rw [aj (x := x) e]
 | fQ x => show yi x r h = yi x r' h; unfold yi; rw [aj (x := x) e]
 | cap x => show ux x r h = ux x r' h; unfold ux; rw [aj (x := x) e]
 | max mn xs => show zU mn xs r h = zU mn xs r' h; unfold zU; rw [hY e]
 | app el es x y => show wm el es x y r h = wm el es x y r' h; unfold wm; rw [aj (x := x) e.left, aj (x := y) e.right]
 | apps el x y => show me el x y r h = me el x y r' h; unfold me; rw [aj (x := x) e.left, aj (x := y) e.right]
 | Sv es x y => show wo es x y r h = wo es x y r' h; unfold wo; rw [aj (x := x) e.left, aj (x := y) e.right]
 | Sw z x => show wq z x r h = wq z x r' h; unfold wq; rw [aj (x := x) e]
 | Mc x => show yj x r h = yj x r' h; unfold yj; rw [aj (x := x) e]
 | EX x => show uy x r h = uy x r' h; unfold uy; rw [aj (x := x) e]
 | Md x => show zV x r h = zV x r' h; unfold zV; rw [aj (x := x) e]
 | OQ t z ok x => show DB t z ok x r h = DB t z ok x r' h; unfold DB; rw [aj (x := x) e]
 | iq k x y => show oJ k x y r h = oJ k x y r' h; unfold oJ; rw [aj (x := x) e.left, aj (x := y) e.right]
 | real im x => show kX im x r h = kX im x r' h; unfold kX; rw [aj (x := x) e]
 | Me x => show lY x r h = lY x r' h; unfold lY; rw [aj (x := x) e]
 | zh t z x y => show yk t z x y r h = yk t z x y r' h; unfold yk; rw [aj (x := x) e.left, aj (x := y) e.right]
 | GP el es z x y => show qD el es z x y r h = qD el es z x y r' h; unfold qD; rw [aj (x := x) e.left, aj (x := y) e.right]
 | zi x y z => show yl x y z r h = yl x y z r' h; unfold yl; rw [aj (x := x) e.left.left, aj (x := y) e.left.right, aj (x := z) e.right]
 | GO el x y => show oC el x y r h = oC el x y r' h; unfold oC; rw [aj (x := x) e.left, aj (x := y) e.right]
 | bad n => rfl
theorem wu {i : AI} {p : Pg} {run : iY} (e : fe r r' i.aE) : i.res p run r h = i.res p run r' h := by
 cases i with
 | op o => show (o.run r h).lL = (o.run r' h).lL; rw [uq e]
 | Dc s x => show jh s (ev x r) h = jh s (ev x r') h; rw [aj (x := x) e]
 | call f xs => show au p run f (fL xs r) h = au p run f (fL xs r') h; rw [hY e]
 | lE x xs => show lF p run (ev x r) (fL xs r) h = lF p run (ev x r') (fL xs r') h; rw [aj (x := x) e.left, hY e.right]
 | inv k x xs => show aB p run k (ev x r) (fL xs r) h = aB p run k (ev x r') (fL xs r') h; rw [aj (x := x) e.left, hY e.right]
variable {P : Program} {r r' : A2} {h h' : Hp} {v : AV} {n : Nat}
theorem cI {a : AV} {h0 : Hp} (e : RV.ok a h0 = .ok v h') : h' = h0 := (RV.ak e).2.symm
theorem jK {neg : Bool} {b : EB} (e : EB.rv neg h b = .ok v h') : h' = h := (Iu e).1
theorem nS {f : IntKind → Int → Int → AV} {x y : AV} (e : BP f x y h = .ok v h') : h' = h := by obtain ⟨_, _, _, _, _, _, e⟩ := Iw e; exact e
theorem zW {f : IntKind → Int → Int → AV} {x y : AV} (e : ME f x y h = .ok v h') : h' = h := by obtain ⟨_, _, _, _, _, _, e, _⟩ := Ix e; exact e
theorem wv {f : List Nat → List Nat → AV} {x y : AV} (e : MF f x y h = .ok v h') : h' = h := by obtain ⟨_, _, _, _, _, e⟩ := Iy e; exact e
theorem OY {f : IntKind → Int → Int → AV} {x y : AV} (e : Sj f x y h = .ok v h') : h' = h := by obtain ⟨_, _, _, _, _, _, _, e, _⟩ := BQ e; exact e
theorem Qy {k : FloatKind} {op : BinOp} {a b : Nat} (e : MG k op a b h = .ok v h') : h' = h := by
 unfold MG at e
 simp only at e
 split at e <;> (try (split at e)) <;> first | exact cI e | cases e
theorem MH {k : FloatKind} {op : BinOp} {a b c d : Nat} (e : DC k op a b c d h = .ok v h') : h' = h := by
 unfold DC at e
 split at e <;> (try (split at e)) <;> first | exact cI e | cases e
theorem Ur {k : BK} {x y : AV} (e : bK k x y h = .ok v h') : h' = h := by
 cases k with
 | add => exact nS e
 | sub => exact nS e
 | mul => exact nS e
 | quo => exact zW e
 | rem => exact zW e
 | and => exact zW e
 | or => exact zW e
 | xor => exact zW e
 | Sx => exact nS e
 | shl => exact OY e
 | shr => exact OY e
 | eq => exact nS e
 | ne => exact nS e
 | lt => exact nS e
 | le => exact nS e
 | gt => exact nS e
 | ge => exact nS e
 | seq => exact wv e
 | Si => exact wv e
 | slt => exact wv e
 | sle => exact wv e
 | UU => exact wv e
 | UW => exact wv e
 | cat =>
  obtain ⟨a, _, e⟩ := cP (show zX x y h = _ from e)
  obtain ⟨b, _, e⟩ := cP e
  obtain ⟨_, e⟩ := az e
  exact cI e
 | beq => exact jK e
 | bne => exact jK e
 | qw => exact jK e
 | Uk => exact jK e
 | jR k => exact jK e
 | rM k => exact jK e
 | UX ks =>
  obtain ⟨a, _, e⟩ := dq (show zY false ks x y h = _ from e)
  obtain ⟨b, _, e⟩ := dq e
  exact jK e
 | PX ks =>
  obtain ⟨a, _, e⟩ := dq (show zY true ks x y h = _ from e)
  obtain ⟨b, _, e⟩ := dq e
  exact jK e
 | Sy op =>
  obtain ⟨k, a, _, e⟩ := ew (show Iz op x y h = _ from e)
  obtain ⟨k', b, _, e⟩ := ew e
  obtain ⟨_, e⟩ := az e
  exact Qy e
 | UY op =>
  obtain ⟨k, a, b, _, e⟩ := fW (show IA op x y h = _ from e)
  obtain ⟨k', c, d, _, e⟩ := fW e
  obtain ⟨_, e⟩ := az e
  exact MH e
 | ub => exact jK e
 | Vr => exact jK e
theorem dV {x : OA} {d : Nat} {k : Nat → RV} {q : Nat} (e : fM x d r k (.err q) = .ok v h') : ∃ b, k b = .ok v h' := by
 cases x with
 | none => exact ⟨d, e⟩
 | some x => obtain ⟨_, m, _, e⟩ := dc (show eK (ev x r) k (.err q) = _ from e); exact ⟨m, e⟩
theorem DD {es o a b m cap : Nat} {i : P4} (e : IB es i o a b m cap h = .ok v h') : h' = h := by
 obtain ⟨_, e⟩ := az e
 obtain ⟨_, e⟩ := az e
 obtain ⟨_, e⟩ := az e
 exact cI e
theorem MI {es o a b : Nat} {i : P4} (e : OZ es i o a b h = .ok v h') : h' = h := by
 obtain ⟨_, e⟩ := az e
 obtain ⟨_, _, _, _, _, _, e⟩ := aX e
 obtain ⟨_, e⟩ := az e
 exact cI e
theorem MJ {es o a b m : Nat} {i : P4} (e : Pa es i o a b m h = .ok v h') : h' = h := by
 obtain ⟨_, e⟩ := az e
 obtain ⟨_, e⟩ := az e
 obtain ⟨_, _, _, _, _, _, e⟩ := aX e
 obtain ⟨_, e⟩ := az e
 exact cI e
theorem SI {es : Nat} {x : AO} {lo hi mx : OA} (e : fN es x lo hi mx r h = .ok v h') : h' = h := by
 rcases dW e with ⟨i, o, l, c, _, e⟩ | ⟨i, o, l, c, _, e⟩ | ⟨_, e⟩
 ·obtain ⟨_, e⟩ := dV e
  obtain ⟨_, e⟩ := dV e
  obtain ⟨_, e⟩ := dV e
  exact DD e
 ·obtain ⟨_, e⟩ := az e
  obtain ⟨_, e⟩ := dV e
  obtain ⟨_, e⟩ := dV e
  rcases fx e with ⟨_, e⟩ | ⟨_, e⟩
  ·exact MI e
  ·obtain ⟨_, e⟩ := dV e
   exact MJ e
 ·obtain ⟨_, e⟩ := dV e
  obtain ⟨_, e⟩ := dV e
  obtain ⟨_, e⟩ := dV e
  obtain ⟨_, e⟩ := az e
  exact cI e
theorem Qz {len es : Nat} {x : AO} {lo hi mx : OA} (e : qJ len es x lo hi mx r h = .ok v h') : h' = h := by
 obtain ⟨_, _, _, e⟩ := cQ e
 obtain ⟨_, e⟩ := dV e
 obtain ⟨_, e⟩ := dV e
 obtain ⟨_, e⟩ := dV e
 exact DD e
theorem QA {x : AO} {lo hi : OA} (e : gM x lo hi r h = .ok v h') : h' = h := by
 obtain ⟨_, _, e⟩ := cP e
 obtain ⟨_, e⟩ := dV e
 obtain ⟨_, e⟩ := dV e
 obtain ⟨_, e⟩ := az e
 obtain ⟨_, e⟩ := az e
 exact cI e
theorem sX {α : Type} {l : List α} {f : α → AV} {n : Nat} (e : (List.rec (.err n) (fun a _ _ => .ok (f a) h) l : RV) = .ok v h') : h' = h := by
 cases l with
 | nil => cases e
 | cons a t => exact cI e
theorem wy {es o n : Nat} {i : P4} {k : List AV → RV} {q : Nat} (e : jo es i o n h k (.err q) = .ok v h') : ∃ l, k l = .ok v h' := by
 cases n with
 | zero => exact ⟨_, e⟩
 | succ n =>
  change (Obj.aU (ag i h) (fun _ m _ _ c => @Bool.rec (fun _ => RV) (.err q) (k (bI (Nat.mul (Nat.succ n) es) c o)) (Nat.ble (Nat.add o (Nat.mul (Nat.succ n) es)) m)) (.err q) : RV) = _ at e
  obtain ⟨_, _, _, _, _, _, e⟩ := aX e
  obtain ⟨_, e⟩ := az e
  exact ⟨_, e⟩
theorem MK {es : Nat} {x : AV} {k : List AV → RV} {q : Nat} (e : elems es x h k (.err q) = .ok v h') : ∃ l, k l = .ok v h' := by
 rcases dW e with ⟨i, o, l, c, _, e⟩ | ⟨i, o, l, c, _, e⟩ | ⟨_, e⟩
 ·exact wy e
 ·obtain ⟨_, e⟩ := az e
  exact wy e
 ·exact ⟨_, e⟩
theorem IC {mn : Bool} {k : IntKind} : ∀ {l : List AV} {a : Int}, zZ mn k h l a = .ok v h' → h' = h
 | [], a, e => cI e
 | y :: l, a, e => by
  rw [wz] at e
  obtain ⟨_, _, _, e⟩ := bD e
  obtain ⟨_, e⟩ := az e
  exact IC e
theorem SJ {t : KT} {z : AV} {ok : Bool} {x k : AV} (e : Mb t z ok x k h = .ok v h') : h' = h := by
 obtain ⟨_, e⟩ := az e
 have ho : ∀ {f : Bool} {a : AV}, DE ok f a h = .ok v h' → h' = h := fun e => cI e
 rcases fy e with ⟨i, _, e⟩ | ⟨_, e⟩
 ·obtain ⟨l, c, _, e⟩ := dR e
  rw [mf] at e
  rcases kj e with ⟨_, e⟩ | ⟨_, _, _, _, _, e⟩
  ·exact ho e
  ·exact ho e
 ·exact ho e
theorem SK {t : Nat} {z : AV} {ok : Bool} {x : AV} (e : OQ t z ok x h = .ok v h') : h' = h := by
 cases x <;> (try (cases e; done))
 ·rename_i u a
  have e : (@Bool.rec (fun _ => RV) (@Bool.rec (fun _ => RV) (.err 109) (DE true false z h) ok) (DE ok true a h) (Nat.beq t u)) = _ := e
  rcases fx e with ⟨_, e⟩ | ⟨_, e⟩
  ·obtain ⟨_, e⟩ := az e; exact cI e
  ·exact cI e
 ·obtain ⟨_, e⟩ := az (show (@Bool.rec (fun _ => RV) (.err 109) (DE true false z h) ok) = _ from e)
  exact cI e
theorem QB {x : AO} (e : qI x r h = .ok v h') : h' = h := by
 have e : (OP.rec (sA (ev x r) h) (fun i o => .ok (.ptr i o) h) (ev x r).gS : RV) = _ := e
 generalize ev x r = a at e
 cases a <;> first | exact cI e | cases e
theorem QC {len es : Nat} {agg : Bool} {x y : AO} (e : qM len es agg x y r h = .ok v h') : h' = h := by
 obtain ⟨_, _, _, e⟩ := dc e
 obtain ⟨_, _, e⟩ := dq e
 obtain ⟨_, e⟩ := az e
 rcases fx e with ⟨_, e⟩ | ⟨_, e⟩
 ·exact sX (f := fun v => v) e
 ·obtain ⟨_, e⟩ := az e
  exact cI e
theorem SL {x : AV} (e : len x h = .ok v h') : h' = h := by
 rcases dW e with ⟨i, o, l, c, _, e⟩ | ⟨i, o, l, c, _, e⟩ | ⟨_, e⟩ <;> exact cI e
theorem SM {x : AV} (e : GZ x h = .ok v h') : h' = h := by
 cases x <;> try (cases e; done)
 case fo => exact cI (show RV.ok .fo h = .ok v h' from e)
 case ptr i o =>
  obtain ⟨_, _, _, _, _, _, e⟩ := aX (show Obj.aU (ag i h) (fun _ n ex _ _ => @Bool.rec (fun _ => RV) (.err 191) (.ok (.ptr i o) h) (Bool.and ex (Ha o n))) (RV.err 192) = RV.ok v h' from e)
  obtain ⟨_, e⟩ := az e
  exact cI e
theorem ML {u sz : Nat} {x : AV} (e : xL u sz x h = .ok v h') : h' = h := by
 cases x <;> try (cases e; done)
 case fo => exact cI (show RV.ok .fo h = .ok v h' from e)
 case ptr i o =>
  obtain ⟨_, _, _, _, _, _, e⟩ := aX (show Obj.aU (ag i h) (fun el n ex _ _ => @Bool.rec (fun _ => RV) (.err 193) (.ok (.ptr i o) h) (Bool.and ex (Bool.and (Nat.beq o 0) (Bool.and (Nat.beq el u) (Nat.beq n sz))))) (RV.err 194) = RV.ok v h' from e)
  obtain ⟨_, e⟩ := az e
  exact cI e
theorem Us {k : CK} {x : AV} {y : AO} (hk : qy (.op (.conv k y)) = true) (e : cK k x h = .ok v h') : h' = h := by
 cases k <;> (try (cases hk; done))
 ·obtain ⟨_, _, e⟩ := cP (show ID x h = _ from e); exact cI e
 ·obtain ⟨_, _, _, e⟩ := bD (show ym _ x h = _ from e); exact cI e
 ·obtain ⟨_, e⟩ := MK (show IE x h = _ from e)
  obtain ⟨_, _, e⟩ := fS e
  exact cI e
 ·obtain ⟨_, _, _, e⟩ := bD (show Pb x h = _ from e); exact cI e
 ·obtain ⟨_, _, _, e⟩ := bD (show IG _ x h = _ from e); exact cI e
 ·obtain ⟨_, _, _, e⟩ := ew (show IH _ x h = _ from e)
  split at e
  ·split at e
   ·exact cI e
   ·cases e
  ·cases e
 ·exact SM e
 ·exact ML e
theorem Aa {op : oZ} (hf : qy (.op op) = true) (e : op.run r h = .ok v h') : h' = h := by
 cases op with
 | mv x => exact cI e
 | pick c a b => obtain ⟨_, _, e⟩ := ng (show fU c a b r h = _ from e); exact cI e
 | alloc => cases hf
 | box => cases hf
 | build z ps => obtain ⟨_, e⟩ := az (show kW z ps r h = _ from e); exact cI e
 | cu => cases hf
 | zh => cases hf
 | zi => cases hf
 | GP => cases hf
 | lP x =>
  obtain ⟨_, _, _, e⟩ := cQ (show jZ x r h = _ from e)
  obtain ⟨_, _, _, _, _, _, e⟩ := aX e
  obtain ⟨_, e⟩ := az e
  exact cI e
 | lR m x =>
  obtain ⟨_, _, _, e⟩ := cQ (show rR m x r h = _ from e)
  obtain ⟨_, _, _, _, _, _, e⟩ := aX e
  obtain ⟨_, e⟩ := az e
  exact cI e
 | LN => cases hf
 | EW => cases hf
 | sA x => exact QB e
 | bin k x y => exact Ur (show bK k (ev x r) (ev y r) h = _ from e)
 | un k x =>
  cases k with
  | not => obtain ⟨_, _, e⟩ := ng (show nT (ev x r) h = _ from e); exact cI e
  | neg => obtain ⟨_, _, _, e⟩ := bD (show DF (ev x r) h = _ from e); exact cI e
  | Va => obtain ⟨_, _, _, e⟩ := bD (show wA (ev x r) h = _ from e); exact cI e
 | conv k x => exact Us (k := k) (x := ev x r) (y := x) hf e
 | OK t x => exact cI e
 | Ua f xs => exact cI e
 | pc => cases hf
 | pf => cases hf
 | Sh es x lo hi mx => exact SI e
 | GM x lo hi => exact QA e
 | LX len es x lo hi mx => exact Qz e
 | lS d x => obtain ⟨_, _, _, e⟩ := cQ (show uv d x r h = _ from e); exact cI e
 | LY d x => obtain ⟨_, _, e⟩ := dq (show qK d x r h = _ from e); exact sX (f := fun v => v) e
 | LZ d n x => obtain ⟨_, _, e⟩ := dq (show qL d n x r h = _ from e); obtain ⟨_, e⟩ := az e; exact cI e
 | zg es x y =>
  obtain ⟨_, _, _, e⟩ := dc (show uw es x y r h = _ from e)
  rcases dW e with ⟨i, o, l, c, _, e⟩ | ⟨i, o, l, c, _, e⟩ | ⟨_, e⟩
  ·obtain ⟨_, e⟩ := az e; exact cI e
  ·obtain ⟨_, e⟩ := az e; exact cI e
  ·cases e
 | Su len es x y =>
  obtain ⟨_, _, _, e⟩ := dc (show wj len es x y r h = _ from e)
  obtain ⟨_, _, _, e⟩ := cQ e
  obtain ⟨_, e⟩ := az e; exact cI e
 | idxs x y =>
  obtain ⟨_, _, _, e⟩ := dc (show oI x y r h = _ from e)
  obtain ⟨_, _, e⟩ := cP e
  exact sX (f := fun b => .int .u8 (.ofNat b)) e
 | Ma len es agg x y => exact QC e
 | ext i x => obtain ⟨_, _, e⟩ := Ab (show wk i x r h = _ from e); exact sX (f := fun v => v) e
 | Mb t z ok x y => exact SJ e
 | OO => cases hf
 | del => cases hf
 | GN x =>
  rcases fy (show qN x r h = _ from e) with ⟨i, _, e⟩ | ⟨_, e⟩
  ·obtain ⟨l, c, _, e⟩ := dR e; exact cI e
  ·exact cI e
 | len x => exact SL e
 | fQ x => obtain ⟨_, _, e⟩ := cP (show fQ (ev x r) h = _ from e); exact cI e
 | cap x =>
  rcases dW (show ux x r h = _ from e) with ⟨i, o, l, c, _, e⟩ | ⟨i, o, l, c, _, e⟩ | ⟨_, e⟩
  ·exact cI e
  ·cases e
  ·exact cI e
 | max mn xs =>
  have e : II mn (fL xs r) h = _ := e
  generalize fL xs r = l at e
  cases l with
  | nil => cases e
  | cons a l => obtain ⟨_, _, _, e⟩ := bD (show AV.dC a (fun k b => zZ mn k h l b) (.err 76) = _ from e); exact IC e
 | app => cases hf
 | apps => cases hf
 | Sv => cases hf
 | Sw => cases hf
 | Mc => cases hf
 | EX => cases hf
 | Md => cases hf
 | OQ t z ok x => exact SK e
 | iq k x y =>
  obtain ⟨_, _, _, e⟩ := ew (show oJ k x y r h = _ from e)
  obtain ⟨_, _, _, e⟩ := ew e
  obtain ⟨_, e⟩ := az e
  exact cI e
 | real im x => obtain ⟨_, _, _, _, e⟩ := fW (show kX im x r h = _ from e); exact cI e
 | Me x =>
  rcases dW (show lY x r h = _ from e) with ⟨i, o, l, c, _, e⟩ | ⟨i, o, l, c, _, e⟩ | ⟨_, e⟩
  ·rcases fX e with ⟨_, e⟩ | ⟨m, _, e⟩
   ·cases e
   ·exact cI e
  ·rcases fX e with ⟨_, e⟩ | ⟨m, _, e⟩
   ·cases e
   ·exact cI e
  ·exact cI e
 | GO => cases hf
 | bad => cases hf
variable {ops : Array Oper}
def bg (L : Array Bool) (i : Nat) : Prop := L.getD i false = true
def Ut (ops : Array Oper) (L : Array Bool) : Prop := ∀ j o, ops[j]? = some o → bg L j → ∀ e, e ∈ o.after → Region.binds .any e = true → bg L e.on
def Bf (ops : Array Oper) (i j : Nat) : Prop := ∀ L, Ut ops L → bg L j → bg L i
theorem Bf.trans {i j k : Nat} (h : Bf ops i j) (g : Bf ops j k) : Bf ops i k := fun L c l => h L c (g L c l)
theorem pE {g : Nat → Nat} {i : Nat} : ∀ (es : List Edge) (s : Nat), (es.foldl (fun s e => if Region.binds .any e then s ||| 2 ^ e.on ||| g e.on else s) s).testBit i = true →
  s.testBit i = true ∨ ∃ e, e ∈ es ∧ Region.binds .any e = true ∧ (i = e.on ∨ (g e.on).testBit i = true)
 | [], s, h => .inl h
 | e :: es, s, h => by
  rw [List.foldl_cons] at h
  rcases pE es _ h with g | ⟨e', h1, h2, h3⟩
  ·by_cases hb : Region.binds .any e = true
   ·rw [if_pos hb] at g
    rw [Nat.testBit_or, Nat.testBit_or, Bool.or_eq_true, Bool.or_eq_true] at g
    rcases g with (g | g) | g
    ·exact .inl g
    ·rw [Nat.testBit_two_pow] at g
     exact .inr ⟨e, by simp, hb, .inl (of_decide_eq_true g).symm⟩
    ·exact .inr ⟨e, by simp, hb, .inr g⟩
   ·rw [if_neg hb] at g; exact .inl g
  ·exact .inr ⟨e', by simp [h1], h2, h3⟩
theorem nh {prev : List Nat} (hp : ∀ j i, (prev.getD j 0).testBit i = true → Bf ops i j) : ∀ (os pre : List Oper) (acc : List Nat), ops.toList = pre ++ os → acc.length = pre.length → (∀ j i, (acc.getD j 0).testBit i = true → Bf ops i j) → ∀ j i, ((tv prev os acc).getD j 0).testBit i = true → Bf ops i j
 | [], pre, acc, _, _, h => h
 | o :: os, pre, acc, e, hl, h => by
  refine nh hp os (pre ++ [o]) _ (by rw [e]; simp) (by simp [hl]) ?_
  intro j i hj
  rcases Nat.lt_trichotomy j acc.length with g | g | g
  ·rw [List.getD_eq_getElem?_getD, List.getElem?_append_left g] at hj
   exact h j i (by rw [List.getD_eq_getElem?_getD]; exact hj)
  ·subst g
   rw [List.getD_eq_getElem?_getD, List.getElem?_append_right (Nat.le_refl _)] at hj
   simp only [Nat.sub_self, List.getElem?_cons_zero, Option.getD_some] at hj
   have ho : ops[acc.length]? = some o := by rw [← Array.getElem?_toList, e, hl]; simp
   rcases pE (g := fun k => if k < acc.length then acc.getD k 0 else prev.getD k 0) _ _ hj with g | ⟨e', h1, h2, h3⟩
   ·simp at g
   ·have hb : Bf ops e'.on acc.length := fun L c l => c _ o ho l e' (by simpa using h1) h2
    rcases h3 with rfl | h3
    ·exact hb
    ·split at h3
     ·exact (h _ _ h3).trans hb
     ·exact (hp _ _ h3).trans hb
  ·rw [List.getD_eq_getElem?_getD, List.getElem?_eq_none (by simp; omega)] at hj
   simp at hj
theorem IJ : ∀ j i, ((ph ops.toList).getD j 0).testBit i = true → Bf ops i j := by
 have h0 : ∀ j i, (([] : List Nat).getD j 0).testBit i = true → Bf ops i j := fun j i g => by simp at g
 exact nh (nh (nh h0 _ [] [] rfl rfl h0) _ [] [] rfl rfl h0) _ [] [] rfl rfl h0
def LQ (ops : Array Oper) (i j : Nat) : Bool := ((ph ops.toList).getD j 0).testBit i
theorem kY {i j : Nat} (h : LQ ops i j = true) : Bf ops i j := IJ j i h
def dm (acc : List Nat) (x : Nat × Bk) : List Nat := match x.2 with
 | .dZ => x.1 :: acc
 | _ => acc
def cw (l : List (Nat × Bk)) : List Nat := l.foldl dm []
theorem rS (l : List (Nat × Bk)) (x : Nat × Bk) : cw (l ++ [x]) = dm (cw l) x := by simp [cw]
theorem pF : ∀ (m : List (Nat × Bk)) (acc : List Nat) (x : Nat), x ∈ acc → x ∈ m.foldl dm acc
 | [], acc, x, hx => hx
 | y :: m, acc, x, hx => pF m _ x (by unfold dm; split <;> simp [hx])
theorem Ac : ∀ (m : List (Nat × Bk)) (acc : List Nat) (x : Nat), (x, Bk.dZ) ∈ m → x ∈ m.foldl dm acc
 | [], acc, x, hx => by cases hx
 | y :: m, acc, x, hx => by
  rcases List.mem_cons.1 hx with rfl | hx
  ·exact pF m _ x (by simp [dm])
  ·exact Ac m _ x hx
theorem MM {l pre : List (Nat × Bk)} {i : Nat} (h2 : (match l.find? (fun x => OT x.2) with | some (e, _) => LQ ops i e | none => true) = true)
  (hc : ∀ q (hq : q < l.length), l[q].2 = .dZ → ∀ x, x ∈ cw (pre ++ l.take q) → Bf ops x l[q].1) : ∀ q2 (hq2 : q2 < l.length), l[q2].2 = .dZ → Bf ops i l[q2].1 := by
 intro q2 hq2 he
 cases hf : l.find? (fun x => OT x.2) with
 | none =>
  have := List.find?_eq_none.1 hf l[q2] (List.getElem_mem hq2)
  rw [he] at this; simp [OT] at this
 | some y =>
  rw [hf] at h2
  obtain ⟨g1, as, bs, g2, g3⟩ := List.find?_eq_some_iff_append.1 hf
  have hy : y.2 = .dZ := by
   cases hy : y.2 <;> rw [hy] at g1 <;> first | rfl | cases g1
  have hlen : as.length < l.length := by rw [g2]; simp
  have ag : l[as.length] = y := by simp [g2]
  have hl : Bf ops i l[as.length].1 := by rw [ag]; exact kY h2
  rcases Nat.lt_trichotomy as.length q2 with g | g | g
  ·refine hl.trans (hc q2 hq2 he _ ?_)
   refine Ac _ [] _ (List.mem_append_right _ ?_)
   have : (l[as.length].1, Bk.dZ) = l[as.length] := by rw [ag, ← hy]
   rw [this]
   exact List.mem_take_iff_getElem.2 ⟨as.length, by omega, rfl⟩
  ·subst g; exact hl
  ·have hm : l[q2] ∈ as := by
    have : l[q2] = as[q2] := by simp [g2, List.getElem_append_left g]
    rw [this]; exact List.getElem_mem g
   have := g3 _ hm
   rw [he] at this; simp [OT] at this
theorem pG : ∀ (l pre : List (Nat × Bk)) (fl : Bool), jg (LQ ops) fl l (cw pre) = true → (cw pre).Pairwise (fun x y => Bf ops y x) → ∀ q (hq : q < l.length),
   (l[q].2 = .dZ → ∀ x, x ∈ cw (pre ++ l.take q) → Bf ops x l[q].1) ∧
   (∀ n, l[q].2 = .rd n → n ≤ (cw (pre ++ l.take q)).length ∧ ∀ x, x ∈ (cw (pre ++ l.take q)).drop n → Bf ops x l[q].1) ∧
   (l[q].2 ≠ .dZ → ∀ q2 (h2 : q2 < l.length), q < q2 → l[q2].2 = .dZ → Bf ops l[q].1 l[q2].1)
 | [], pre, fl, _, _, q, hq => by simp at hq
 | (i, b) :: l, pre, fl, h, hp, q, hq => by
  have hall : b = .dZ → ∀ x, x ∈ cw pre → Bf ops x i := by
   intro hb x hx
   subst hb
   simp only [jg, Bool.and_eq_true] at h
   cases he : cw pre with
   | nil => rw [he] at hx; cases hx
   | cons e es =>
    rw [he] at h hx hp
    rcases List.mem_cons.1 hx with rfl | hx
    ·exact kY h.1
    ·exact ((List.pairwise_cons.1 hp).1 x hx).trans (kY h.1)
  have e1 : cw (pre ++ [(i, b)]) = dm (cw pre) (i, b) := rS _ _
  have hp2 : (cw (pre ++ [(i, b)])).Pairwise (fun x y => Bf ops y x) := by
   rw [e1]
   cases b with
   | dZ => exact List.pairwise_cons.2 ⟨hall rfl, hp⟩
   | rd n => exact hp
   | new => exact hp
  have hih : ∃ fl', jg (LQ ops) fl' l (cw (pre ++ [(i, b)])) = true := by
   rw [e1]
   cases b with
   | dZ => simp only [jg, Bool.and_eq_true] at h; exact ⟨_, h.2⟩
   | rd n => simp only [jg, Bool.and_eq_true] at h; exact ⟨_, h.2⟩
   | new => simp only [jg, Bool.and_eq_true] at h; exact ⟨_, h.2⟩
  obtain ⟨fl', hih⟩ := hih
  have ih := pG l (pre ++ [(i, b)]) fl' hih hp2
  have hnext : b ≠ .dZ → ∀ q2 (hq2 : q2 < l.length), l[q2].2 = .dZ → Bf ops i l[q2].1 := by
   intro hb
   refine MM (pre := pre ++ [(i, b)]) ?_ (fun q hq he => (ih q hq).1 he)
   cases b with
   | dZ => exact absurd rfl hb
   | rd n => simp only [jg, Bool.and_eq_true] at h; exact h.1.2
   | new => simp only [jg, Bool.and_eq_true] at h; exact h.1
  cases q with
  | zero =>
   refine ⟨fun hb x hx => hall hb x (by simpa using hx), fun m hm => ?_, fun hb q2 hq2 hlt he => ?_⟩
   ·have hm : b = .rd m := hm
    subst hm
    simp only [jg, Bool.and_eq_true] at h
    obtain ⟨⟨⟨_, h1⟩, h2⟩, h3⟩ := h
    simp only [List.take_zero, List.append_nil, List.getElem_cons_zero]
    cases hd : (cw pre).drop m with
    | nil =>
     rw [hd] at h1
     exact ⟨Nat.le_of_eq (by simpa using h1), fun x hx => by cases hx⟩
    | cons e es =>
     rw [hd] at h1
     have hlt : m < (cw pre).length := by
      rcases Nat.lt_or_ge m (cw pre).length with g | g
      ·exact g
      ·rw [List.drop_of_length_le g] at hd; cases hd
     refine ⟨Nat.le_of_lt hlt, fun x hx => ?_⟩
     have hpd : ((cw pre).drop m).Pairwise (fun x y => Bf ops y x) := List.Pairwise.sublist (List.drop_sublist _ _) hp
     rw [hd] at hpd
     rcases List.mem_cons.1 hx with rfl | hx
     ·exact kY h1
     ·exact ((List.pairwise_cons.1 hpd).1 x hx).trans (kY h1)
   ·cases q2 with
    | zero => omega
    | succ q2 => exact hnext hb q2 (by simpa using hq2) he
  | succ q =>
   have := ih q (by simpa using hq)
   simp only [List.append_assoc, List.singleton_append] at this
   refine ⟨this.1, this.2.1, fun hn q2 h2 hlt he => ?_⟩
   cases q2 with
   | zero => omega
   | succ q2 => exact this.2.2 hn q2 (by simpa using h2) (by omega) he
variable {P : Program} {G : Gl} {n : Nat} {names : List String} {ops : Array Oper} {l : List (Nat × Bk)}
theorem sY {α : Type} {l : List α} {p : Nat} (hp : p < l.length) : (l[p], p) ∈ l.zipIdx := by
 rw [List.mem_zipIdx_iff_getElem?]; simp [hp]
structure FN (P : Program) (G : Gl) (n : Nat) (names : List String) (ops : Array Oper) (l : List (Nat × Bk)) : Prop where
 len : l.length = ops.size
 SN : ∀ q (hq : q < l.length), l[q].1 < ops.size
 cover : ∀ i, i < ops.size → ∃ q, ∃ hq : q < l.length, l[q].1 = i
 inj : ∀ p q (hp : p < l.length) (hq : q < l.length), l[p].1 = l[q].1 → p = q
 lt : ∀ (j : Nat) (o : Oper), ops[j]? = some o → ∀ e, e ∈ o.after → Region.binds .any e = true → e.on < ops.size ∧ (ph ops.toList).getD e.on 0 < (ph ops.toList).getD j 0
 ord : ∀ p q (hp : p < l.length) (hq : q < l.length), LQ ops l[p].1 l[q].1 = true → p < q ∨ (l[p].2 = .new ∧ ∃ m, l[q].2 = .rd m)
 kind : ∀ q (hq : q < l.length), tw P G n names ops l l[q].1 l[q].2 = true
 seq : jg (LQ ops) true l [] = true
 dst : ∀ (i j : Nat) (oi oj : Oper) (t : Nat), ops[i]? = some oi → ops[j]? = some oj → oi.dst = some t → oj.dst = some t → i = j
 look : ∀ (i j : Nat) (oi oj : Oper) (t : Nat), ops[i]? = some oi → ops[j]? = some oj → t ∈ looks P G n names ops oi → oj.dst = some t → i = j ∨ LQ ops i j = true ∨ LQ ops j i = true
 SO : ∀ q (hq : q < l.length), l[q].2 = .new → ∀ t, t ∈ looks P G n names ops (ops.getD l[q].1 default) → ∀ (j : Nat) (oj : Oper), ops[j]? = some oj → oj.dst = some t → LQ ops j l[q].1 = true
theorem QD (h : kK P G n names ops l = true) : FN P G n names ops l := by
 unfold kK at h
 simp only [Bool.and_eq_true, List.all_eq_true, List.any_eq_true, beq_iff_eq] at h
 obtain ⟨⟨⟨⟨⟨⟨⟨⟨⟨⟨h1, h0⟩, h2⟩, h3⟩, h4⟩, h5⟩, h6⟩, h7⟩, h8⟩, h9⟩, h10⟩ := h
 have opm : ∀ {j o}, ops[j]? = some o → (o, j) ∈ ops.toList.zipIdx := fun {j o} e => by
  rw [List.mem_zipIdx_iff_getElem?]; simpa using e
 refine ⟨h1, fun q hq => by simpa using h0 _ (List.getElem_mem hq), fun i hi => ?_, fun p q hp hq e => ?_, fun j o ho e he hb => ?_, fun p q hp hq e => ?_, fun q hq => h6 _ (List.getElem_mem hq), h7, fun i j oi oj t hi hj ti tj => ?_, fun i j oi oj t hi hj ti tj => ?_, fun q hq hn t ht j oj hj tj => ?_⟩
 ·obtain ⟨x, hx, e⟩ := h2 i (by simpa using hi)
  obtain ⟨q, hq, rfl⟩ := List.getElem_of_mem hx
  exact ⟨q, hq, e⟩
 ·have := h3 _ (sY hp) _ (sY hq)
  simp only [e, bne_self_eq_false, Bool.false_or, beq_iff_eq] at this
  exact this
 ·have := h4 _ (opm ho)
  have := Array.all_eq_true_iff_forall_mem.1 this e he
  simpa [hb] using this
 ·have h := h5 _ (sY hp) _ (sY hq)
  have e' : ((ph ops.toList).getD l[q].1 0).testBit l[p].1 = true := e
  simp only [e', Bool.not_true, Bool.false_or, Bool.or_eq_true, decide_eq_true_eq, Bool.and_eq_true] at h
  rcases h with h | ⟨g1, g2⟩
  ·exact .inl h
  ·refine .inr ⟨?_, ?_⟩
   ·revert g1; cases l[p].2 <;> simp
   ·revert g2; cases l[q].2 <;> simp
 ·have h := h8 _ (opm hi)
  rw [ti] at h
  simp only [Option.all_some, List.all_eq_true] at h
  have := h _ (opm hj)
  simpa [tj] using this
 ·have h := h9 _ (opm hi) t ti _ (opm hj)
  simp only [tj, bne_self_eq_false, Bool.false_or, Bool.or_eq_true, beq_iff_eq] at h
  rcases h with (h | h) | h
  ·exact .inl h
  ·exact .inr (.inl h)
  ·exact .inr (.inr h)
 ·have h : (!(l[q].2 matches .new) || (looks P G n names ops (ops.getD l[q].1 default)).all fun t => ops.toList.zipIdx.all fun x => x.1.dst != some t || LQ ops x.2 l[q].1) = true := h10 _ (List.getElem_mem hq)
  rw [hn] at h
  simp only [Bool.not_true, Bool.false_or, List.all_eq_true] at h
  have := h t ht _ (opm hj)
  simpa [tj] using this
variable {P : Program} {G : Gl} [NB G] {n : Nat} {names : List String} {ops : Array Oper} {p : Pg} {run : iY}
structure DS where
 r : A2
 h : Hp
 g : Hp
 hs : List Hp
def QE (p : Pg) (run : iY) (d : bw) (x : AI) (b : Bk) (wnt : Bool) (s s' : DS) (v : AV) : Prop :=
 s'.r = cm d v s.r ∧ match wnt, b with
  | false, .dZ => v = cn ∧ s'.h = s.h ∧ s'.g = s.h ∧ s'.hs = s.g :: s.hs
  | false, .rd _ => v = cn ∧ s'.h = s.h ∧ s'.g = s.g ∧ s'.hs = s.hs
  | false, .new => False
  | true, .dZ => x.res p run s.r s.h = .ok v s'.h ∧ s'.g = s'.h ∧ s'.hs = s.g :: s.hs
  | true, .rd m => ∃ op, x = .op op ∧ (∃ h', op.run s.r s.g = .ok v h') ∧ fB op s.r v s.hs m = true ∧ s'.h = s.h ∧ s'.g = s.g ∧ s'.hs = s.hs
  | true, .new => ∃ op, x = .op op ∧ op.run s.r s.h = .ok v s'.h ∧ s'.g = s.g ∧ s'.hs = s.hs
def Pc (ops : Array Oper) (o : Oper) (r : A2) (wnt : Bool) : Prop := match o.guard with
 | none => wnt = true
 | some (j, w) => ∃ t b, (ops[j]?).bind (·.dst) = some t ∧ t < 256 ∧ gb w (an (hi t) (lo t) r) = .bool b ∧ wnt = (b == w)
structure Uu (P : Program) (G : Gl) (n : Nat) (names : List String) (ops : Array Oper) (p : Pg) (run : iY) (o : Oper) (b : Bk) (s s' : DS) (d : bw) (x : AI) (wnt : Bool) (v : AV) : Prop where
 dst : kJ G n o.dst = some d
 op : cE P G names o = some x
 want : Pc ops o s.r wnt
 FO : QE p run d x b wnt s s' v
theorem FP {d : bw} {k : DK} {r : A2} {g : Hp} {hs : List Hp} {v : RT} (h : (nH d k r g hs v).Safe) : ∃ u h', v = .ok u h' ∧ nH d k r g hs v = k (cm d u r) h' h' (g :: hs) := by
 cases v with
 | ok u h' => exact ⟨u, h', rfl, rfl⟩
 | err m => exact (RS.Safe.err h).elim
 | ch m k => exact (RS.Safe.err h).elim
theorem FQ {d : bw} {op : oZ} {m : Nat} {k : DK} {r : A2} {h g : Hp} {hs : List Hp} {v : RV} (hh : (zk d op m k r h g hs v).Safe) : ∃ u h', v = .ok u h' ∧ fB op r u hs m = true ∧ zk d op m k r h g hs v = k (cm d u r) h g hs := by
 cases v with
 | ok u h' =>
  have hh : (@Bool.rec (fun _ => RS) (.err 211) (k (cm d u r) h g hs) (fB op r u hs m)).Safe := hh
  show ∃ u' h2, RV.ok u h' = .ok u' h2 ∧ _ ∧ (@Bool.rec (fun _ => RS) (.err 211) (k (cm d u r) h g hs) (fB op r u hs m)) = _
  cases hr : fB op r u hs m with
  | false => rw [hr] at hh; exact (RS.Safe.err hh).elim
  | true => exact ⟨u, h', rfl, hr, rfl⟩
 | err m => exact (RS.Safe.err hh).elim
theorem FR {d : bw} {k : DK} {r : A2} {g : Hp} {hs : List Hp} {v : RV} (h : (GU d k r g hs v).Safe) : ∃ u h', v = .ok u h' ∧ GU d k r g hs v = k (cm d u r) h' g hs := by
 cases v with
 | ok u h' => exact ⟨u, h', rfl, rfl⟩
 | err m => exact (RS.Safe.err h).elim
def DK.at (k : DK) (s : DS) : RS := k s.r s.h s.g s.hs
theorem wB {b : Bk} {d : bw} {x : AI} {k : DK} {s : DS} (h : (vJ b d x p run k s.r s.h s.g s.hs).Safe) (hb : b = .dZ ∨ ∃ op, x = .op op) : ∃ v s', QE p run d x b true s s' v ∧ vJ b d x p run k s.r s.h s.g s.hs = k.at s' := by
 have heff : ∀ {y : RT}, (nH d k s.r s.g s.hs y).Safe → vJ .dZ d x p run k s.r s.h s.g s.hs = nH d k s.r s.g s.hs y → y = x.res p run s.r s.h → ∃ v s', QE p run d x .dZ true s s' v ∧ vJ .dZ d x p run k s.r s.h s.g s.hs = k.at s' := by
  intro y hy e1 e2
  obtain ⟨u, h', g1, g2⟩ := FP hy
  exact ⟨u, ⟨cm d u s.r, h', h', s.g :: s.hs⟩, ⟨rfl, e2 ▸ g1, rfl, rfl⟩, by rw [e1, g2]; rfl⟩
 cases x with
 | op o =>
  cases b with
  | dZ => exact heff (y := (o.run s.r s.h).lL) h rfl rfl
  | rd m =>
   obtain ⟨u, h', g1, g2, g3⟩ := FQ (show (zk d o m k s.r s.h s.g s.hs (o.run s.r s.g)).Safe from h)
   exact ⟨u, ⟨cm d u s.r, s.h, s.g, s.hs⟩, ⟨rfl, o, rfl, ⟨h', g1⟩, g2, rfl, rfl, rfl⟩, g3⟩
  | new =>
   obtain ⟨u, h', g1, g2⟩ := FR (show (GU d k s.r s.g s.hs (o.run s.r s.h)).Safe from h)
   exact ⟨u, ⟨cm d u s.r, h', s.g, s.hs⟩, ⟨rfl, o, rfl, g1, rfl, rfl⟩, g2⟩
 | Dc c y =>
  rcases hb with rfl | ⟨_, e⟩
  ·exact heff (y := jh c (ev y s.r) s.h) h rfl rfl
  ·cases e
 | call f xs =>
  rcases hb with rfl | ⟨_, e⟩
  ·exact heff (y := au p run f (fL xs s.r) s.h) h rfl rfl
  ·cases e
 | lE y xs =>
  rcases hb with rfl | ⟨_, e⟩
  ·exact heff (y := lF p run (ev y s.r) (fL xs s.r) s.h) h rfl rfl
  ·cases e
 | inv c y xs =>
  rcases hb with rfl | ⟨_, e⟩
  ·exact heff (y := aB p run c (ev y s.r) (fL xs s.r) s.h) h rfl rfl
  ·cases e
theorem MN {o : Oper} {b : Bk} {k : DK} {s : DS} (h : ((DI.mk b (ir P G n names ops o)).exec p run k s.r s.h s.g s.hs).Safe)
  (hb : b = .dZ ∨ ∃ op, cE P G names o = some (.op op)) :
  ∃ d x wnt v s', Uu P G n names ops p run o b s s' d x wnt v ∧ (DI.mk b (ir P G n names ops o)).exec p run k s.r s.h s.g s.hs = k.at s' := by
 have hbad : ¬ ((DI.mk b rN).exec p run k s.r s.h s.g s.hs).Safe := by
  intro hh
  cases b with
  | dZ => exact RS.Safe.err (n := 400) hh
  | rd m => exact RS.Safe.err (n := 400) hh
  | new => exact RS.Safe.err (n := 400) hh
 unfold ir at h ⊢
 split at h
 ·rename_i d x hd hx
  have hb' : b = .dZ ∨ ∃ op, x = .op op := hb.imp id fun ⟨op, e⟩ => ⟨op, by rw [e] at hx; exact (Option.some.inj hx).symm⟩
  split at h
  ·rename_i hg
   obtain ⟨v, s', g1, g2⟩ := wB (show (vJ b d x p run k s.r s.h s.g s.hs).Safe from h) hb'
   exact ⟨d, x, true, v, s', ⟨hd, hx, by simp [Pc, hg], g1⟩, g2⟩
  ·rename_i j w hg
   split at h
   ·rename_i t ht
    split at h
    ·rename_i s2 hsl
     try simp only [hsl]
     obtain ⟨es2, ht256⟩ := HU hsl
     subst s2
     have h : (AV.bF (gb w (an (hi t) (lo t) s.r)) (FT b d x k s.r s.h s.g s.hs p run w) (.err 212)).Safe := h
     show ∃ d' x' wnt v s', _ ∧ (AV.bF (gb w (an (hi t) (lo t) s.r)) (FT b d x k s.r s.h s.g s.hs p run w) (.err 212)) = _
     obtain ⟨c, hc, e⟩ := gA h
     rw [e] at h ⊢
     have h : (@Bool.rec (fun _ => RS) (Mf b d k s.r s.h s.g s.hs) (vJ b d x p run k s.r s.h s.g s.hs) (kL c w)).Safe := h
     show ∃ d' x' wnt v s', _ ∧ (@Bool.rec (fun _ => RS) (Mf b d k s.r s.h s.g s.hs) (vJ b d x p run k s.r s.h s.g s.hs) (kL c w)) = _
     rw [xT] at h ⊢
     have hw : ∀ z, z = (c == w) → Pc ops o s.r z := fun z hz => by
      simp only [Pc, hg]; exact ⟨t, c, ht, ht256, hc, hz⟩
     cases hcw : (c == w) with
     | true =>
      rw [hcw] at h
      obtain ⟨v, s', g1, g2⟩ := wB (show (vJ b d x p run k s.r s.h s.g s.hs).Safe from h) hb'
      exact ⟨d, x, true, v, s', ⟨hd, hx, hw _ hcw.symm, g1⟩, g2⟩
     | false =>
      rw [hcw] at h
      cases b with
      | dZ => exact ⟨d, x, false, cn, ⟨cm d cn s.r, s.h, s.h, s.g :: s.hs⟩, ⟨hd, hx, hw _ hcw.symm, ⟨rfl, rfl, rfl, rfl, rfl⟩⟩, rfl⟩
      | rd m => exact ⟨d, x, false, cn, ⟨cm d cn s.r, s.h, s.g, s.hs⟩, ⟨hd, hx, hw _ hcw.symm, ⟨rfl, rfl, rfl, rfl, rfl⟩⟩, rfl⟩
      | new => exact (RS.Safe.err (n := 214) h).elim
    ·exact absurd h hbad
   ·exact absurd h hbad
 ·exact absurd h hbad
theorem Ad {kf : A2 → Hp → RS} : ∀ (l : List (Nat × Bk)) (s : DS), (∀ q (hq : q < l.length), l[q].2 = .dZ ∨ ∃ op, cE P G names (ops.getD l[q].1 default) = some (.op op)) →
  (pk (au p run) (aB p run) kf (l.map fun (i, b) => .mk b (ir P G n names ops (ops.getD i default))) s.r s.h s.g s.hs).Safe →
  ∃ T : Nat → DS, T 0 = s ∧ (∀ q (hq : q < l.length), ∃ d x wnt v, Uu P G n names ops p run (ops.getD l[q].1 default) l[q].2 (T q) (T (q + 1)) d x wnt v) ∧
   pk (au p run) (aB p run) kf (l.map fun (i, b) => .mk b (ir P G n names ops (ops.getD i default))) s.r s.h s.g s.hs = kf (T l.length).r (T l.length).h
 | [], s, _, _ => ⟨fun _ => s, rfl, fun q hq => by simp at hq, rfl⟩
 | (i, b) :: l, s, hb, h => by
  have e0 : pk (au p run) (aB p run) kf (((i, b) :: l).map fun (i, b) => .mk b (ir P G n names ops (ops.getD i default))) s.r s.h s.g s.hs =
   (DI.mk b (ir P G n names ops (ops.getD i default))).exec p run (pk (au p run) (aB p run) kf (l.map fun (i, b) => .mk b (ir P G n names ops (ops.getD i default)))) s.r s.h s.g s.hs := zL _ _ _ _ _ _
  rw [e0] at h
  obtain ⟨d, x, wnt, v, s', g1, g2⟩ := MN h (hb 0 (by simp))
  rw [g2] at h
  obtain ⟨T, t1, t2, t3⟩ := Ad l s' (fun q hq => hb (q + 1) (by simpa using hq)) h
  refine ⟨fun q => match q with | 0 => s | q + 1 => T q, rfl, fun q hq => ?_, ?_⟩
  ·cases q with
   | zero => exact ⟨d, x, wnt, v, by simpa [t1] using g1⟩
   | succ q => exact t2 q (by simpa using hq)
  ·rw [e0, g2]
   exact t3
section
variable {P : Program} {G : Gl} [NB G] {n : Nat} {names : List String} {ops : Array Oper} {p : Pg} {run : iY} {l : List (Nat × Bk)}
def bZ (ops : Array Oper) (l : List (Nat × Bk)) (q : Nat) (hq : q < l.length) : Oper := ops.getD l[q].1 default
def Trace (P : Program) (G : Gl) (n : Nat) (names : List String) (ops : Array Oper) (p : Pg) (run : iY) (l : List (Nat × Bk)) (T : Nat → DS) : Prop :=
 ∀ q (hq : q < l.length), ∃ d x wnt v, Uu P G n names ops p run (bZ ops l q hq) l[q].2 (T q) (T (q + 1)) d x wnt v
theorem de (K : FN P G n names ops l) {q : Nat} (hq : q < l.length) : ops[l[q].1]? = some (bZ ops l q hq) := by
 have := K.SN q hq
 simp [bZ, this]
def ec (l : List (Nat × Bk)) (q : Nat) : Nat := (cw (l.take q)).length
theorem DG : ec l 0 = 0 := rfl
theorem fY {q : Nat} (hq : q < l.length) : cw (l.take (q + 1)) = dm (cw (l.take q)) l[q] := by
 rw [List.take_succ_eq_append_getElem hq, rS]
theorem oK {q : Nat} (hq : q < l.length) (he : l[q].2 = .dZ) : ec l (q + 1) = ec l q + 1 := by
 unfold ec; rw [fY hq]; simp [dm, he]
theorem qO {q : Nat} (hq : q < l.length) (he : l[q].2 ≠ .dZ) : ec l (q + 1) = ec l q := by
 unfold ec; rw [fY hq]
 cases hb : l[q].2 with
 | dZ => exact absurd hb he
 | rd m => simp [dm, hb]
 | new => simp [dm, hb]
theorem jq : ∀ {q q' : Nat}, q ≤ q' → q' ≤ l.length → ec l q ≤ ec l q' := by
 intro q q' h hl
 induction h with
 | refl => exact Nat.le_refl _
 | @step m h ih =>
  have ih := ih (by omega)
  by_cases he : (l[m]'(by omega)).2 = .dZ
  ·rw [oK (by omega) he]; omega
  ·rw [qO (by omega) he]; exact ih
theorem Ae {q q' : Nat} (h : q < q') (hl : q' ≤ l.length) (he : (l[q]'(by omega)).2 = .dZ) : ec l q < ec l q' := by
 have := jq (l := l) (show q + 1 ≤ q' by omega) hl
 rw [oK (by omega) he] at this; omega
theorem pH : ∀ {q' k : Nat}, q' ≤ l.length → k < ec l q' → ∃ q, ∃ hq : q < l.length, q < q' ∧ l[q].2 = .dZ ∧ ec l q = k := by
 intro q' k hl hk
 induction q' with
 | zero => rw [DG] at hk; omega
 | succ m ih =>
  by_cases he : (l[m]'(by omega)).2 = .dZ
  ·rw [oK (by omega) he] at hk
   rcases Nat.lt_or_ge k (ec l m) with g | g
   ·obtain ⟨q, hq, h1, h2, h3⟩ := ih (by omega) g
    exact ⟨q, hq, by omega, h2, h3⟩
   ·exact ⟨m, by omega, by omega, he, by omega⟩
  ·rw [qO (by omega) he] at hk
   obtain ⟨q, hq, h1, h2, h3⟩ := ih (by omega) hk
   exact ⟨q, hq, by omega, h2, h3⟩
theorem Af : ∀ {q' q : Nat} (hl : q' ≤ l.length) (h : q < q'), (l[q]'(by omega)).2 = .dZ → (cw (l.take q'))[ec l q' - 1 - ec l q]? = some (l[q]'(by omega)).1 := by
 intro q' q hl h he
 induction q' with
 | zero => omega
 | succ m ih =>
  rw [fY (by omega)]
  by_cases hem : (l[m]'(by omega)).2 = .dZ
  ·rw [oK (by omega) hem]
   have e1 : dm (cw (l.take m)) (l[m]'(by omega)) = (l[m]'(by omega)).1 :: cw (l.take m) := by simp [dm, hem]
   rw [e1]
   rcases Nat.lt_or_ge q m with g | g
   ·have h1 := Ae g (by omega) he
    have := ih (by omega) g he
    rw [show ec l m + 1 - 1 - ec l q = (ec l m - 1 - ec l q) + 1 by omega, List.getElem?_cons_succ]
    exact this
   ·obtain rfl : q = m := by omega
    simp
  ·rw [qO (by omega) hem]
   have e1 : dm (cw (l.take m)) (l[m]'(by omega)) = cw (l.take m) := by
    cases hb : (l[m]'(by omega)).2 with
    | dZ => exact absurd hb hem
    | rd m => simp [dm, hb]
    | new => simp [dm, hb]
   rw [e1]
   rcases Nat.lt_or_ge q m with g | g
   ·exact ih (by omega) g he
   ·obtain rfl : q = m := by omega
    exact absurd he hem
theorem QF (K : FN P G n names ops l) {q q' : Nat} (hq : q < l.length) (hq' : q' < l.length) (h : q < q') (he : l[q].2 = .dZ) (he' : l[q'].2 = .dZ) : Bf ops l[q].1 l[q'].1 := by
 have := (pG l [] true K.seq List.Pairwise.nil q' hq').1 he'
 refine this _ ?_
 simp only [List.nil_append]
 exact List.mem_of_getElem? (Af (by omega) h he)
theorem SP (K : FN P G n names ops l) {q : Nat} (hq : q < l.length) {m : Nat} (hb : l[q].2 = .rd m) : m ≤ ec l q ∧ ∀ q1 (h1 : q1 < q), (l[q1]'(by omega)).2 = .dZ → ec l q1 < ec l q - m → Bf ops (l[q1]'(by omega)).1 l[q].1 := by
 obtain ⟨g1, g2⟩ := (pG l [] true K.seq List.Pairwise.nil q hq).2.1 m hb
 simp only [List.nil_append] at g1 g2
 refine ⟨g1, fun q1 h1 he hlt => g2 _ ?_⟩
 have := Af (by omega) h1 he
 refine List.mem_of_getElem? (i := ec l q - 1 - ec l q1 - m) ?_
 rw [List.getElem?_drop]
 rw [show m + (ec l q - 1 - ec l q1 - m) = ec l q - 1 - ec l q1 by omega]
 exact this
theorem DH (K : FN P G n names ops l) {q q2 : Nat} (hq : q < l.length) (hq2 : q2 < l.length) (h : q < q2) (hb : l[q].2 ≠ .dZ) (he : l[q2].2 = .dZ) : Bf ops l[q].1 l[q2].1 :=
 (pG l [] true K.seq List.Pairwise.nil q hq).2.2 hb q2 hq2 h he
variable {T : Nat → DS}
theorem QG (hT : Trace P G n names ops p run l T) (h0 : (T 0).hs = []) : ∀ q, q ≤ l.length → (T q).hs.length = ec l q := by
 intro q hq
 induction q with
 | zero => rw [h0]; rfl
 | succ q ih =>
  have ih := ih (by omega)
  obtain ⟨d, x, wnt, v, D⟩ := hT q (by omega)
  have hs := D.FO.2
  cases hb : (l[q]'(by omega)).2 with
  | dZ =>
   rw [hb] at hs
   rw [oK (by omega) hb]
   cases wnt with
   | true => rw [hs.2.2]; simp [ih]
   | false => rw [hs.2.2.2]; simp [ih]
  | rd m =>
   rw [hb] at hs
   rw [qO (by omega) (by simp [hb])]
   cases wnt with
   | true => obtain ⟨_, _, _, _, _, _, e⟩ := hs; rw [e]; exact ih
   | false => rw [hs.2.2.2]; exact ih
  | new =>
   rw [hb] at hs
   rw [qO (by omega) (by simp [hb])]
   cases wnt with
   | true => obtain ⟨_, _, _, _, e⟩ := hs; rw [e]; exact ih
   | false => exact hs.elim
theorem MO (hT : Trace P G n names ops p run l T) {q : Nat} (hq : q < l.length) : (T q).g :: (T q).hs <:+ (T (q + 1)).g :: (T (q + 1)).hs := by
 obtain ⟨d, x, wnt, v, D⟩ := hT q hq
 have hs := D.FO.2
 cases hb : (l[q]'(by omega)).2 with
 | dZ =>
  rw [hb] at hs
  cases wnt with
  | true => rw [hs.2.2]; exact List.suffix_cons _ _
  | false => rw [hs.2.2.2]; exact List.suffix_cons _ _
 | rd m =>
  rw [hb] at hs
  cases wnt with
  | true => obtain ⟨_, _, _, _, _, e1, e2⟩ := hs; rw [e1, e2]; exact List.suffix_refl _
  | false => rw [hs.2.2.1, hs.2.2.2]; exact List.suffix_refl _
 | new =>
  rw [hb] at hs
  cases wnt with
  | true => obtain ⟨_, _, _, e1, e2⟩ := hs; rw [e1, e2]; exact List.suffix_refl _
  | false => exact hs.elim
theorem FU (hT : Trace P G n names ops p run l T) {q : Nat} : ∀ {q' : Nat}, q ≤ q' → q' ≤ l.length → (T q).g :: (T q).hs <:+ (T q').g :: (T q').hs := by
 intro q' h hl
 induction h with
 | refl => exact List.suffix_refl _
 | @step m h ih => exact (ih (by omega)).trans (MO hT (by omega))
def bh (l : List (Nat × Bk)) (T : Nat → DS) (k : Nat) : Hp := (((T l.length).g :: (T l.length).hs).reverse[k]?).getD (T 0).h
theorem IK (hT : Trace P G n names ops p run l T) (h0 : (T 0).hs = []) {q : Nat} (hq : q ≤ l.length) {j : Nat} (hj : j ≤ ec l q) : ((T q).g :: (T q).hs)[j]? = some (bh l T (ec l q - j)) := by
 obtain ⟨ys, e⟩ := FU hT hq (Nat.le_refl _)
 have hlen := QG hT h0 q hq
 have hrev : ((T l.length).g :: (T l.length).hs).reverse = ((T q).g :: (T q).hs).reverse ++ ys.reverse := by rw [← e, List.reverse_append]
 have hl2 : ((T q).g :: (T q).hs).length = ec l q + 1 := by simp [hlen]
 unfold bh
 rw [hrev, List.getElem?_append_left (by rw [List.length_reverse, hl2]; omega), List.getElem?_reverse (by rw [hl2]; omega), hl2]
 rw [show ec l q + 1 - 1 - (ec l q - j) = j by omega]
 rw [List.getElem?_eq_getElem (by rw [hl2]; omega)]
 rfl
theorem MP (hT : Trace P G n names ops p run l T) (h0 : (T 0).hs = []) {q : Nat} (hq : q ≤ l.length) : bh l T (ec l q) = (T q).g := by
 have := IK hT h0 hq (j := 0) (by omega)
 simpa using this.symm
theorem SQ (hT : Trace P G n names ops p run l T) (h0 : (T 0).hs = []) {q : Nat} (hq : q ≤ l.length) {j : Nat} (hj : j < ec l q) : (T q).hs[j]? = some (bh l T (ec l q - 1 - j)) := by
 have := IK hT h0 hq (j := j + 1) (by omega)
 rw [List.getElem?_cons_succ] at this
 rw [this, show ec l q - (j + 1) = ec l q - 1 - j by omega]
theorem Ag (hT : Trace P G n names ops p run l T) (h0 : (T 0).g = (T 0).h) : ∀ q, q ≤ l.length → ∃ s, s ≤ q ∧ ec l s = ec l q ∧ (T s).h = (T s).g ∧ (∀ q' (h1 : s ≤ q') (h2 : q' < q) (h3 : q' < l.length), l[q'].2 ≠ .dZ) ∧ ∀ q', q' < s → ec l q' < ec l s := by
 intro q hq
 induction q with
 | zero => exact ⟨0, Nat.le_refl _, rfl, h0.symm, fun q' h1 h2 => by omega, fun q' h1 => by omega⟩
 | succ q ih =>
  by_cases he : (l[q]'(by omega)).2 = .dZ
  ·refine ⟨q + 1, Nat.le_refl _, rfl, ?_, fun q' h1 h2 => by omega, fun q' h1 => by have := jq (l := l) (show q' ≤ q by omega) (by omega); rw [oK (by omega) he]; omega⟩
   obtain ⟨d, x, wnt, v, D⟩ := hT q (by omega)
   have hs := D.FO.2
   rw [he] at hs
   cases wnt with
   | true => exact hs.2.1.symm
   | false => rw [hs.2.1, hs.2.2.1]
  ·obtain ⟨s, g1, g2, g3, g4, g5⟩ := ih (by omega)
   refine ⟨s, by omega, by rw [qO (by omega) he]; exact g2, g3, fun q' h1 h2 h3 => ?_, g5⟩
   rcases Nat.lt_or_ge q' q with g | g
   ·exact g4 q' h1 g h3
   ·obtain rfl : q' = q := by omega
    exact he
theorem IL (hT : Trace P G n names ops p run l T) {q : Nat} (hq : q < l.length) {t : Nat} (ht : t < 256) (hd : (bZ ops l q hq).dst ≠ some t) : an (hi t) (lo t) (T (q + 1)).r = an (hi t) (lo t) (T q).r := by
 obtain ⟨d, x, wnt, v, D⟩ := hT q hq
 rw [D.FO.1]
 have hdst := D.dst
 cases ho : (bZ ops l q hq).dst with
 | none => rw [ho] at hdst; cases hdst; rfl
 | some s =>
  rw [ho] at hdst hd
  obtain ⟨h1, h2, rfl⟩ := tY hdst
  show an (hi t) (lo t) (jG (hi s) (lo s) v (T q).r) = _
  rw [hM, if_neg (fun g => hd (by rw [(HV ht h1).1 g]))]
theorem Ah (hT : Trace P G n names ops p run l T) {q t : Nat} (ht : t < 256) : ∀ {q' : Nat}, q ≤ q' → q' ≤ l.length → (∀ q1 (h1 : q ≤ q1) (h2 : q1 < q') (h3 : q1 < l.length), (bZ ops l q1 h3).dst ≠ some t) → an (hi t) (lo t) (T q').r = an (hi t) (lo t) (T q).r := by
 intro q' h hl hw
 induction h with
 | refl => rfl
 | @step m h ih =>
  rw [IL hT (by omega) ht (hw m h (by omega) (by omega))]
  exact ih (by omega) fun q1 h1 h2 h3 => hw q1 h1 (by omega) h3
theorem IM (K : FN P G n names ops l) (hT : Trace P G n names ops p run l T) {q t : Nat} (hq : q ≤ l.length) (ht : t < 256) :
  (∀ q1 (h1 : q1 < l.length), (bZ ops l q1 h1).dst = some t → q1 < q → an (hi t) (lo t) (T q).r = an (hi t) (lo t) (T (q1 + 1)).r) ∧
  ((∀ q1 (h1 : q1 < l.length), (bZ ops l q1 h1).dst = some t → ¬ q1 < q) → an (hi t) (lo t) (T q).r = an (hi t) (lo t) (T 0).r) := by
 have uniq : ∀ q1 q2 (h1 : q1 < l.length) (h2 : q2 < l.length), (bZ ops l q1 h1).dst = some t → (bZ ops l q2 h2).dst = some t → q1 = q2 := fun q1 q2 h1 h2 e1 e2 =>
  K.inj q1 q2 h1 h2 (K.dst _ _ _ _ t (de K h1) (de K h2) e1 e2)
 constructor
 ·intro q1 h1 e1 hlt
  refine Ah hT ht (by omega) hq fun q2 g1 g2 g3 e2 => ?_
  have := uniq q1 q2 h1 g3 e1 e2
  omega
 ·intro hno
  exact Ah hT ht (by omega) hq fun q2 g1 g2 g3 e2 => hno q2 g3 e2 g2
theorem wC {op : oZ} {r : A2} {v : AV} : ∀ {hs : List Hp} {m : Nat}, fB op r v hs m = true → ∀ j, j < m → ∃ hj, hs[j]? = some hj ∧ ∃ h', op.run r hj = .ok v h'
 | [], 0, _, j, hj => by omega
 | [], m + 1, e, _, _ => by cases e
 | h :: hs, 0, _, j, hj => by omega
 | h :: hs, m + 1, e, j, hj => by
  have e : (RV.rec (fun v' _ => @Bool.rec (fun _ => Bool) false (fB op r v hs m) (same v v')) (fun _ => false) (op.run r h) : Bool) = true := e
  cases ho : op.run r h with
  | err k => rw [ho] at e; cases e
  | ok v' h' =>
   rw [ho] at e
   obtain ⟨e1, e2⟩ := eh e
   cases j with
   | zero => exact ⟨h, rfl, h', by rw [ho, sS e1]⟩
   | succ j =>
    obtain ⟨hj', g1, g2⟩ := wC e2 j (by omega)
    exact ⟨hj', by simpa using g1, g2⟩
end
section
variable {P : Program} {φ φ' : aI} {h h' : Hp} {w w' : World} {v : AV} {n : Nat} {G : Gl} {names : List String}
theorem HR.SR (H : HR φ h w) {o : Obj} {b room : Nat} {i n' : P4} (hi : ag i h = .none) (ho : o ≠ .none) (hb : b < w.heap.size) (hfree : ∀ j q, live (ag j h) → φ j = some q → q.da ≠ b)
  (hOR : OR (φ.put i ⟨b, 0, room⟩) o ⟨b, 0, room⟩ w.heap[b]?) : HR (φ.put i ⟨b, 0, room⟩) (.mk (df i o h.tree) n') w := by
 have hφ := H.fresh i hi
 have hle := aI.iD (φ := φ) (i := i) ⟨b, 0, room⟩ hφ
 have hg : ∀ j, ag j (.mk (df i o h.tree) n') = if j = i then o else ag j h := by
  intro j
  cases h with
  | mk t n => exact dg j i o t
 have hbk : ∀ j q, j ≠ i → (φ.put i ⟨b, 0, room⟩) j = some q → φ j = some q := by
  intro j q hj hq
  simpa [aI.put, hj] using hq
 refine ⟨fun j hj => ?_, fun j k q r hj hk hw2 hjk hq hr => ?_, fun j hj => ?_, fun j q hq => ?_⟩
 ·rw [hg] at hj ⊢
  by_cases e : j = i
  ·subst e
   refine ⟨_, aI.aJ _ _ _, ?_⟩
   rw [if_pos rfl]; exact hOR
  ·rw [if_neg e] at hj ⊢
   obtain ⟨q, hq, hr⟩ := H.obj j hj
   exact ⟨q, hle _ _ hq, hr.mono hle⟩
 ·rw [hg] at hj hk
  by_cases e1 : j = i
  ·by_cases e2 : k = i
   ·exact absurd (e1.trans e2.symm) hjk
   ·rw [if_neg e2] at hk
    have hr' := hbk k r e2 hr
    have hq' : q = ⟨b, 0, room⟩ := by rw [e1, aI.aJ] at hq; exact (Option.some.inj hq).symm
    rw [hq']; exact fun e => hfree k r hk hr' e.symm
  ·rw [if_neg e1] at hj
   have hq' := hbk j q e1 hq
   by_cases e2 : k = i
   ·have hr' : r = ⟨b, 0, room⟩ := by rw [e2, aI.aJ] at hr; exact (Option.some.inj hr).symm
    rw [hr']; exact hfree j q hj hq'
   ·rw [if_neg e2] at hk
    rw [hg, hg, if_neg e1, if_neg e2] at hw2
    exact H.inj j k q r hj hk hw2 hjk hq' (hbk k r e2 hr)
 ·rw [hg] at hj
  by_cases e : j = i
  ·rw [if_pos e] at hj; exact absurd hj ho
  ·rw [if_neg e] at hj
   show (if j = i then some _ else φ j) = none
   rw [if_neg e]; exact H.fresh j hj
 ·by_cases e : j = i
  ·have hq' : q = ⟨b, 0, room⟩ := by rw [e, aI.aJ] at hq; exact (Option.some.inj hq).symm
   rw [hq']; exact hb
  ·exact H.bound j q (hbk j q e hq)
theorem HR.ext (H : HR φ h w) (hs : w.heap.size ≤ w'.heap.size) (hk : ∀ b, b < w.heap.size → w'.heap[b]? = w.heap[b]?) : HR φ h w' where
 obj i hl := let ⟨p, h1, h2⟩ := H.obj i hl; ⟨p, h1, by rw [hk _ (H.bound i p h1)]; exact h2⟩
 inj := H.inj
 fresh := H.fresh
 bound i p hp := Nat.lt_of_lt_of_le (H.bound i p hp) hs
theorem Step.ext (hs : w.heap.size ≤ w'.heap.size) (hk : ∀ b, b < w.heap.size → w'.heap[b]? = w.heap[b]?) (ht : w'.tape = w.tape) (ho : w'.os = w.os) (hu : w'.output = w.output) : Step φ h w φ h w' :=
 ⟨φ.le_refl, ⟨hs, fun b hb _ => hk b hb, ht, ho, hu⟩, fun _ _ a b => .inl ⟨a, b, id⟩⟩
structure vK (φ : aI) (r : A2) (op : oZ) (ob : Go.Obj) (room : Nat) (val : Nat → Value) : Prop where
 am : ∀ h v h', op.run r h = .ok v h' → ∃ obj, h' = .mk (df h.next obj h.tree) h.next.succ ∧ ag h.next h = .none ∧ live obj ∧ (∀ ψ b, φ.le ψ → OR ψ obj ⟨b, 0, room⟩ (some ob)) ∧ ∀ ψ b, ψ h.next = some ⟨b, 0, room⟩ → VR ψ v (val b)
theorem vK.mono {φ ψ : aI} {r : A2} {op : oZ} {ob : Go.Obj} {room : Nat} {val : Nat → Value} (N : vK φ r op ob room val) (g : φ.le ψ) : vK ψ r op ob room val :=
 ⟨fun h v h' e => let ⟨obj, a, b, c, d, f⟩ := N.am h v h' e; ⟨obj, a, b, c, fun χ bb k => d χ bb (aI.le_trans g k), f⟩⟩
def MQ (P : Program) (ρ : Operand → Value) (o : Oper) (ob : Go.Obj) (val : Nat → Value) : Prop := ∀ w : World, (execOp ρ o).run P w = .ok (.value (val w.heap.size)) { w with heap := w.heap.push ob }
variable {r : A2} {ρ : Operand → Value}
theorem FV {o : Oper} {e m : Nat} {c : Cl} (hop : cE P G names o = some (.op (.alloc e m c))) : ∃ ob room val, vK φ r (.alloc e m c) ob room val ∧ MQ P ρ o ob val := by
 have hin : ∃ z, o.op = .alloc e ∧ gw P e = some z ∧ m = z.length ∧ c = ox z := by
  obtain ⟨dst, y, type, pos, after, guard⟩ := o
  simp only [cE] at hop
  split at hop
  case h_4 =>
   simp only [bind, Option.bind_eq_some_iff, Option.some.injEq, AI.op.injEq, oZ.alloc.injEq] at hop
   obtain ⟨z, hz, rfl, rfl, rfl⟩ := hop
   exact ⟨z, rfl, hz, rfl, rfl⟩
  case h_21 =>
   split at hop
   ·simp only [bind, Option.bind_eq_some_iff] at hop
    obtain ⟨fd, _, hop⟩ := hop
    split at hop
    ·simp at hop
    ·split at hop <;> simp [Option.bind_eq_some_iff] at hop
   ·cases hop
  case h_32 c' =>
   simp only [bind, Option.bind_eq_some_iff] at hop
   obtain ⟨ys, hys, hop⟩ := hop
   split at hop
   ·simp only [Option.map_eq_some_iff, AI.op.injEq] at hop
    obtain ⟨op, ho, rfl⟩ := hop
    unfold jS at ho
    split at ho <;> (repeat' split at ho) <;> simp [Option.bind_eq_some_iff] at ho
   ·cases hop
   ·simp [Option.bind_eq_some_iff] at hop
   ·simp [Option.bind_eq_some_iff] at hop
  all_goals (repeat' split at hop) <;> simp [Option.bind_eq_some_iff, Option.map_eq_some_iff] at hop
 obtain ⟨z, ho, hz, rfl, rfl⟩ := hin
 obtain ⟨inf, zv, h1, h2, _, _⟩ := gz hz (fun _ => none)
 refine ⟨.cells zv.cells e, z.length, fun b => .pointer (some ⟨b, 0, none⟩), ⟨fun h v h' he => ?_⟩, fun w => ?_⟩
 case refine_2 => simp [execOp, ho, Instr.alloc, newVar, eA, zeroValue, bM h1, h2]
 ·obtain ⟨hr, hi, he⟩ := jt (show ja e true .plain z.length (ox z) h qP = .ok v h' from he)
  obtain ⟨rfl, rfl⟩ := sZ he
  refine ⟨_, rfl, hi, aV, fun ψ b _ => ?_, fun ψ b hb => ?_⟩
  ·obtain ⟨inf', zv', h1', h2', g1, g2⟩ := gz hz ψ
   rw [h1] at h1'; cases h1'
   rw [h2] at h2'; cases h2'
   have hl := g1.length
   simp only [Array.length_toList] at hl
   refine ⟨zv.cells, (0, 0), rfl, by simp [hl], Nat.le_refl _, fun _ => ⟨rfl, rfl⟩, hr, fun k hk => ?_, rfl⟩
   have hk' : k < zv.cells.size := by omega
   refine ⟨zv.cells[k], by simp [hk'], ?_, g2 _ (by simp)⟩
   rw [eB z hr k hk]
   have := g1.get k hk (by simpa using hk')
   simpa using this
  ·have := VR.ptr (φ := ψ) h.next 0 _ hb
   simpa [Place.addr] using this
theorem MS {o : Oper} (hop : cE P G names o = some (.op .pc)) (hc : ∀ c, ρ (.const c) = c) : ∃ ob room val, vK φ r .pc ob room val ∧ MQ P ρ o ob val := by
 have hin : ∃ t re, o.op = .makeMap t re ∧ (re = none ∨ ∃ k m a b, re = some (.const (.int k m)) ∧ P.underlying t = some (.map a b)) := by
  obtain ⟨dst, y, type, pos, after, guard⟩ := o
  simp only [cE] at hop
  split at hop
  case h_16 => exact ⟨_, _, rfl, .inl rfl⟩
  case h_17 =>
   split at hop
   ·rename_i hu
    exact ⟨_, _, rfl, .inr ⟨_, _, _, _, rfl, al hu (by simp)⟩⟩
   ·cases hop
  case h_21 =>
   split at hop
   ·simp only [bind, Option.bind_eq_some_iff] at hop
    obtain ⟨fd, _, hop⟩ := hop
    split at hop
    ·simp at hop
    ·split at hop <;> simp [Option.bind_eq_some_iff] at hop
   ·cases hop
  case h_32 c' =>
   simp only [bind, Option.bind_eq_some_iff] at hop
   obtain ⟨ys, hys, hop⟩ := hop
   split at hop
   ·simp only [Option.map_eq_some_iff, AI.op.injEq] at hop
    obtain ⟨op, ho, rfl⟩ := hop
    unfold jS at ho
    split at ho <;> (repeat' split at ho) <;> simp [Option.bind_eq_some_iff] at ho
   ·cases hop
   ·simp [Option.bind_eq_some_iff] at hop
   ·simp [Option.bind_eq_some_iff] at hop
  all_goals (repeat' split at hop) <;> simp [Option.bind_eq_some_iff, Option.map_eq_some_iff] at hop
 obtain ⟨t, re, ho, hre⟩ := hin
 have hno : ∀ w : World, (newObj (.map #[] 0)).run P w = .ok w.heap.size { w with heap := w.heap.push (.map #[] 0) } := fun w => run_newObj _
 refine ⟨.map #[] 0, 0, fun b => .map (some b), ⟨fun h v h' he => ?_⟩, fun w => ?_⟩
 case refine_2 =>
  rcases hre with rfl | ⟨k, m, a, b, rfl, hu⟩
  ·simp [execOp, ho, Instr.makeMap, hno]
  ·have ha : (asInt (.int k m)).run P w = .ok m w := rfl
   simp [execOp, ho, Instr.makeMap, hno, hc, ai hu, ha]
 ·obtain ⟨hi, he⟩ := ic (show fZ (.map .nil 0) h (fun i h => .ok (.map i) h) = .ok v h' from he)
  obtain ⟨rfl, rfl⟩ := RV.ak he
  exact ⟨_, rfl, hi, pI, fun ψ b _ => ⟨#[], rfl, .nil⟩, fun ψ b hb => .map _ _ hb⟩
theorem BR {o : Oper} {e es m : Nat} {z : List AV} {ps : List Part} (hop : cE P G names o = some (.op (.cu e es m z ps))) : ∃ t k qs, o.op = .buildSlice t k qs := by
 obtain ⟨dst, y, type, pos, after, guard⟩ := o
 simp only [cE] at hop
 split at hop
 case h_7 => exact ⟨_, _, _, rfl⟩
 case h_21 =>
  split at hop
  ·simp only [bind, Option.bind_eq_some_iff] at hop
   obtain ⟨fd, _, hop⟩ := hop
   split at hop
   ·simp at hop
   ·split at hop <;> simp [Option.bind_eq_some_iff] at hop
  ·cases hop
 case h_32 c' =>
  simp only [bind, Option.bind_eq_some_iff] at hop
  obtain ⟨ys, hys, hop⟩ := hop
  split at hop
  ·simp only [Option.map_eq_some_iff, AI.op.injEq] at hop
   obtain ⟨op, ho, rfl⟩ := hop
   unfold jS at ho
   split at ho <;> (repeat' split at ho) <;> simp [Option.bind_eq_some_iff] at ho
  ·cases hop
  ·simp [Option.bind_eq_some_iff] at hop
  ·simp [Option.bind_eq_some_iff] at hop
 all_goals (repeat' split at hop) <;> simp [Option.bind_eq_some_iff, Option.map_eq_some_iff] at hop
theorem QH {t e : TypeId} {zs : List AV} (ht : P.underlying t = some (.slice e)) (hz : gw P e = some zs) (hzl : zs.length = bp P e) (hes : bp P e ≠ 0) {n : Nat} {ps : List Part} {qs : List (Nat × Value)} (hl : ps.length = qs.length)
  (hp : ∀ k (h1 : k < ps.length) (h2 : k < qs.length), uz φ r (fun i => some (i * bp P e, bp P e)) ps[k] qs[k])
  (hb : ∀ p, p ∈ ps → match p with | .mk off sz _ => off + sz ≤ n * bp P e) (hf : fits ps r = true) (hr : (fill ps r (dM n zs)).length ≤ 16777216) :
  ∃ es : List Value, cL φ (fill ps r (dM n zs)) es ∧ (∀ c, c ∈ es → c.oneCell' = true) ∧ ∀ w : World, (Instr.buildSlice t n qs.toArray).run P w = .ok (.slice (some ⟨w.heap.size, 0, none⟩) n n) { w with heap := w.heap.push (.cells es.toArray e) } := by
 obtain ⟨i, zv, hi, hzv, g1, g2⟩ := gz hz φ
 rw [cR hi] at hzl hes hp hb
 have hzs : zv.cells.size = i.size := by rw [← hzl, g1.length]; simp
 obtain ⟨k1, k2⟩ := eL g1 g2 n (n * i.size) (by rw [hzs])
 have hlen : ((Array.range (n * i.size)).map (zv.cells[· % zv.cells.size]!)).toList.length = n * i.size := by simp
 obtain ⟨es, f1, f2, f3⟩ := uA ps qs (dM n zs) ((Array.range (n * i.size)).map (zv.cells[· % zv.cells.size]!)).toList hl hp hf (fun p hp' => by have := hb p hp'; rw [hlen]; exact this) k1 k2
 rw [mh, ff, hzl] at hr
 refine ⟨es, f2, f3, fun w => ?_⟩
 have hbig : ¬ (16777216 < n * i.size) := by omega
 by_cases h0 : n * i.size = 0
 ·have hn0 : n = 0 := by
   rcases Nat.mul_eq_zero.1 h0 with g | g
   ·exact g
   ·exact absurd g hes
  subst hn0
  have hh : ((Array.range (0 * i.size)).map (zv.cells[· % zv.cells.size]!)).toList.toArray = #[] := by simp
  rw [hh] at f1
  have hh2 : ∀ g : Nat → Value, (Array.range 0).map g = #[] := by intro g; simp
  simp only [Instr.buildSlice, Sem.run_bind, ai ht, Result.andThen_ok, aP hi]
  simp only [Nat.zero_mul, hh2, f1]
  simp [eA]
 ·have f1' : Instr.fill (fun i_1 => some (i_1 * i.size, i.size)) ((Array.range (n * i.size)).map (zv.cells[· % zv.cells.size]!)) qs = some es.toArray := f1
  simp only [Instr.buildSlice, Sem.run_bind, ai ht, Result.andThen_ok, aP hi]
  rw [if_neg hbig]
  simp only [h0, if_false, zeroValue, Sem.run_bind, bM hi, hzv, Result.andThen_ok, Sem.run_pure, f1', eA]
theorem BS {o : Oper} {e es m : Nat} {z : List AV} {ps : List Part} (hop : cE P G names o = some (.op (.cu e es m z ps))) (hρ : ∀ q x, cO G q = some x → VR φ (ev x r) (ρ q)) {h1 h2 : Hp} {v1 : AV} (he : (oZ.cu e es m z ps).run r h1 = .ok v1 h2) :
  ∃ ob room val, vK φ r (.cu e es m z ps) ob room val ∧ MQ P ρ o ob val := by
 obtain ⟨t, k, qs, ho⟩ := BR hop
 obtain ⟨dst, y, type, pos, after, guard⟩ := o
 have ho : y = .buildSlice t k qs := ho
 subst ho
 simp only [cE] at hop
 split at hop
 ·rename_i e' hu
  simp only [bind, Option.bind_eq_some_iff] at hop
  obtain ⟨zs, hz, hop⟩ := hop
  split at hop
  ·simp at hop
  ·rename_i hs
   simp only [not_or, Decidable.not_not] at hs
   simp only [bind, pure, Option.bind_some, Option.bind_eq_some_iff, Option.some.injEq, AI.op.injEq, oZ.cu.injEq] at hop
   obtain ⟨l, hl, rfl, rfl, rfl, rfl, rfl⟩ := hop
   obtain ⟨g1, g2, g3⟩ := jU (φ := φ) (r := r) (ρ := ρ) hl (fun q _ a ha => hρ _ _ ha)
   have he : gB e' (bp P e') k (dM k zs) l r h1 = .ok v1 h2 := he
   obtain ⟨hf, he1⟩ := az he
   have hr := ta (show ja e' true .plain (fill l r (dM k zs)).length (ox (fill l r (dM k zs))) h1 (fun i h => .ok (.slice i 0 k k) h) = .ok v1 h2 from he1)
   obtain ⟨cs, f2, f3, f4⟩ := QH (al hu (by simp)) hz hs.2 hs.1 (by simpa using g1) g2 g3 hf hr
   have hlen := f2.length
   refine ⟨.cells cs.toArray e', cs.length, fun b => .slice (some ⟨b, 0, none⟩) k k, ⟨fun h v h' hx => ?_⟩, fun w => ?_⟩
   ·have hx : gB e' (bp P e') k (dM k zs) l r h = .ok v h' := hx
    obtain ⟨_, hx1⟩ := az hx
    obtain ⟨hr2, hi2, hx2⟩ := jt (show ja e' true .plain (fill l r (dM k zs)).length (ox (fill l r (dM k zs))) h (fun i h => .ok (.slice i 0 k k) h) = .ok v h' from hx1)
    obtain ⟨rfl, rfl⟩ := RV.ak hx2
    refine ⟨_, rfl, hi2, aV, fun ψ b hle => ?_, fun ψ b hb => ?_⟩
    ·refine ⟨cs.toArray, (0, 0), rfl, by simp, Nat.le_of_eq hlen, fun _ => ⟨rfl, hlen⟩, hr2, fun j hj => ?_, rfl⟩
     have hj' : j < cs.length := by omega
     refine ⟨cs[j], by simp [hj'], ?_, f3 _ (List.getElem_mem _)⟩
     rw [eB _ hr2 j hj]
     exact (f2.get j hj hj').mono hle
    ·have := VR.slice (φ := ψ) h.next 0 k k _ hb
     simpa [Place.addr] using this
   ·show ((do pure (.value (← Instr.buildSlice t k (qs.map fun (i, x) => (i, ρ x)))) : Sem Next).run P w) = _
    rw [qF hρ qs]
    simp only [Sem.run_bind, f4 w, Result.andThen_ok, Sem.run_pure]
 ·cases hop
theorem IP {o : Oper} {op : oZ} (hop : cE P G names o = some (.op op)) (hx : Df (.op op) = true) (hρ : ∀ q x, cO G q = some x → VR φ (ev x r) (ρ q)) (hc : ∀ c, ρ (.const c) = c) {h1 h2 : Hp} {v1 : AV} (he : op.run r h1 = .ok v1 h2) :
  ∃ ob room val, vK φ r op ob room val ∧ MQ P ρ o ob val := by
 cases op <;> (try (cases hx; done))
 ·exact FV hop
 ·exact BS hop hρ he
 ·exact MS hop hc
end
section
variable {P : Program} {G : Gl} [NB G] {n : Nat} {names : List String} {ops : Array Oper} {p : Pg} {run : iY} {l : List (Nat × Bk)} {T : Nat → DS} {φ₀ : aI} {w₀ : World}
theorem qQ {d : bw} {v : AV} {r : A2} {o : Option Tmp} {t : Nat} (hd : kJ G n o = some d) (ho : o = some t) : an (hi t) (lo t) (cm d v r) = v := by
 subst ho
 obtain ⟨_, _, rfl⟩ := tY hd
 show an (hi t) (lo t) (jG (hi t) (lo t) v r) = v
 rw [hM, if_pos ⟨rfl, rfl⟩]
theorem BU {L : Array Bool} {i j : Nat} (hi : i < L.size) : bg (L.setIfInBounds i true) j ↔ bg L j ∨ j = i := by
 unfold bg
 by_cases e : j = i
 ·subst e
  simp [hi]
 ·rw [Array.getD_eq_getD_getElem?, Array.getElem?_setIfInBounds, if_neg (fun g => e g.symm), ← Array.getD_eq_getD_getElem?]
  simp [e]
def lM (l : List (Nat × Bk)) (L : Array Bool) (k q : Nat) (hq : q < l.length) : Prop := l[q].2 = .new ∧ bg L l[q].1 ∧ k ≤ ec l q
structure Inv (P : Program) (G : Gl) (n : Nat) (names : List String) (ops : Array Oper) (l : List (Nat × Bk)) (T : Nat → DS) (φ₀ : aI) (w₀ : World) (L : Array Bool) (a : Act) (w : World) (φ : aI) (k : Nat) (pb : Nat → Nat) : Prop where
 sz : L.size = ops.size
 cl : Ut ops L
 Ub : k ≤ ec l l.length
 gx : ∀ q (hq : q < l.length), l[q].2 = .dZ → (bg L l[q].1 ↔ ec l q < k)
 hr : HR φ (bh l T k) w
 FO : Step φ₀ (bh l T 0) w₀ φ (bh l T k) w
 fu : a.defers = []
 size : n ≤ a.tmps.size
 iZ : nJ G φ
 BV : ∀ q (hq : q < l.length), lM l L k q hq → ∃ op ob room val, cE P G names (bZ ops l q hq) = some (.op op) ∧ vK φ (T q).r op ob room val ∧ w₀.heap.size ≤ pb q ∧ pb q < w.heap.size ∧ w.heap[pb q]? = some ob ∧
  (∀ i pl, live (ag i (bh l T k)) → φ i = some pl → pl.da ≠ pb q) ∧ ∀ t, (bZ ops l q hq).dst = some t → a.tmps.getD t undef = val (pb q)
 QI : ∀ q q' (hq : q < l.length) (hq' : q' < l.length), lM l L k q hq → lM l L k q' hq' → q ≠ q' → pb q ≠ pb q'
 old : ∀ t, t < 256 → (∀ q (hq : q < l.length), (bZ ops l q hq).dst = some t → ¬ bg L l[q].1) → VR φ (an (hi t) (lo t) (T 0).r) (a.tmps.getD t undef)
 new : ∀ t, t < 256 → ∀ q (hq : q < l.length), (bZ ops l q hq).dst = some t → bg L l[q].1 → ¬ lM l L k q hq → VR φ (an (hi t) (lo t) (T (q + 1)).r) (a.tmps.getD t undef)
variable {L : Array Bool} {a : Act} {w : World} {φ : aI} {k : Nat} {pb : Nat → Nat}
theorem iE (K : FN P G n names ops l) {q : Nat} (hq : q < l.length) (hb : l[q].2 = .new) : (bZ ops l q hq).guard = none ∧ (∃ x, cE P G names (bZ ops l q hq) = some x ∧ Df x = true) ∧
  ∀ t, (bZ ops l q hq).dst = some t → ∀ q2 (hq2 : q2 < l.length), l[q2].2 = .dZ ∨ t ∉ looks P G n names ops (bZ ops l q2 hq2) := by
 have h := K.kind q hq
 rw [hb] at h
 simp only [tw, Bool.and_eq_true] at h
 obtain ⟨⟨h1, h2⟩, h3⟩ := h
 refine ⟨Option.isNone_iff_eq_none.1 h1, ?_, fun t ht q2 hq2 => ?_⟩
 ·split at h2
  ·rename_i x hx; exact ⟨x, hx, h2⟩
  ·cases h2
 ·have ht' : (ops.getD l[q].1 default).dst = some t := ht
  rw [ht'] at h3
  simp only [Option.all_some, List.all_eq_true] at h3
  have := h3 _ (List.getElem_mem hq2)
  simp only [Bool.or_eq_true, Bool.not_eq_true'] at this
  rcases this with g | g
  ·left; revert g; cases l[q2].2 <;> simp [OT]
  ·right; intro hm
   have : (looks P G n names ops (ops.getD l[q2].1 default)).contains t = true := List.contains_iff_mem.2 hm
   rw [this] at g; cases g
theorem Ai (K : FN P G n names ops l) (hT : Trace P G n names ops p run l T) (h0 : (T 0).hs = []) (hg0 : (T 0).g = (T 0).h) (I : Inv P G n names ops l T φ₀ w₀ L a w φ k pb) {q₁ : Nat} (hq₁ : q₁ ≤ l.length) (hk : ec l q₁ = k)
  (hall : ∀ q (hq : q < l.length), q < q₁ → l[q].2 = .new → ec l q = k → bg L l[q].1) :
  ∃ φ', φ.le φ' ∧ HR φ' (T q₁).h w ∧ Step φ₀ (bh l T 0) w₀ φ' (T q₁).h w ∧ (∀ q (hq : q < l.length), q < q₁ → l[q].2 = .new → ec l q = k → ∀ t, t < 256 → (bZ ops l q hq).dst = some t → VR φ' (an (hi t) (lo t) (T (q + 1)).r) (a.tmps.getD t undef)) ∧
   ∀ q (hq : q < l.length), lM l L k q hq → q₁ ≤ q → ∀ i pl, live (ag i (T q₁).h) → φ' i = some pl → pl.da ≠ pb q := by
 obtain ⟨s, Qq, Qw, hs3, hs4, hs5⟩ := Ag hT hg0 q₁ hq₁
 have hbase : (T s).h = bh l T k := by rw [hs3, ← MP hT h0 (by omega), Qw, hk]
 have hec : ∀ q, s ≤ q → q ≤ q₁ → ec l q = k := fun q h1 h2 => by
  have a1 := jq (l := l) h1 (by omega)
  have a2 := jq (l := l) h2 hq₁
  omega
 have key : ∀ q, s ≤ q → q ≤ q₁ → ∃ φ', φ.le φ' ∧ HR φ' (T q).h w ∧ Step φ₀ (bh l T 0) w₀ φ' (T q).h w ∧ (∀ q2 (hq2 : q2 < l.length), s ≤ q2 → q2 < q → l[q2].2 = .new → ∀ t, t < 256 → (bZ ops l q2 hq2).dst = some t → VR φ' (an (hi t) (lo t) (T (q2 + 1)).r) (a.tmps.getD t undef)) ∧
   ∀ q2 (hq2 : q2 < l.length), lM l L k q2 hq2 → q ≤ q2 → ∀ i pl, live (ag i (T q).h) → φ' i = some pl → pl.da ≠ pb q2 := by
  intro q hsq
  induction hsq with
  | refl =>
   intro _
   refine ⟨φ, φ.le_refl, by rw [hbase]; exact I.hr, by rw [hbase]; exact I.FO, fun q2 _ h1 h2 => by omega, fun q2 hq2 hp _ i pl hl hpl => ?_⟩
   obtain ⟨_, _, _, _, _, _, _, _, _, g, _⟩ := I.BV q2 hq2 hp
   rw [hbase] at hl
   exact g i pl hl hpl
  | @step q hsq ih =>
   intro hle
   obtain ⟨φ', i1, i2, i3, i4, i5⟩ := ih (by omega)
   have hql : q < l.length := by omega
   obtain ⟨d, x, wnt, v, D⟩ := hT q hql
   have hstp := D.FO.2
   have hne := hs4 q hsq (by omega) hql
   cases hb : l[q].2 with
   | dZ => exact absurd hb hne
   | rd m =>
    rw [hb] at hstp
    have hh : (T (q + 1)).h = (T q).h := by
     cases wnt with
     | true => obtain ⟨_, _, _, _, e, _⟩ := hstp; exact e
     | false => exact hstp.2.1
    refine ⟨φ', i1, by rw [hh]; exact i2, by rw [hh]; exact i3, fun q2 hq2 h1 h2 hn t ht hd => ?_, fun q2 hq2 hp h1 i pl hl hpl => ?_⟩
    ·rcases Nat.lt_or_ge q2 q with g | g
     ·exact i4 q2 hq2 h1 g hn t ht hd
     ·obtain rfl : q2 = q := by omega
      rw [hb] at hn; cases hn
    ·rw [hh] at hl; exact i5 q2 hq2 hp (by omega) i pl hl hpl
   | new =>
    rw [hb] at hstp
    obtain ⟨hgd, _, _⟩ := iE K hql hb
    have hw : wnt = true := by have := D.want; simpa [Pc, hgd] using this
    subst hw
    obtain ⟨op, rfl, hrun, _, _⟩ := hstp
    have hp : lM l L k q hql := ⟨hb, hall q hql (by omega) hb (hec q hsq (by omega)), Nat.le_of_eq (hec q hsq (by omega)).symm⟩
    obtain ⟨op', ob, room, val, e1, NS, b1, b2, b3, b4, b5⟩ := I.BV q hql hp
    rw [D.op] at e1
    cases e1
    obtain ⟨obj, f1, f2, f3, f4, f5⟩ := NS.am _ _ _ hrun
    have hle' := aI.iD (φ := φ') (i := (T q).h.next) ⟨pb q, 0, room⟩ (i2.fresh _ f2)
    have HA := i2.SR (n' := (T q).h.next.succ) f2 f3.1 b2 (i5 q hql hp (Nat.le_refl _)) (o := obj) (room := room) (by rw [b3]; exact f4 _ _ (aI.le_trans i1 hle'))
    refine ⟨φ'.put (T q).h.next ⟨pb q, 0, room⟩, aI.le_trans i1 hle', by rw [f1]; exact HA, ?_, fun q2 hq2 h1 h2 hn t ht hd => ?_, fun q2 hq2 hp2 h1 i pl hl hpl => ?_⟩
    ·refine ⟨aI.le_trans i3.le hle', i3.keeps, fun i pl hl hpl => ?_⟩
     rw [f1, eC] at hl
     by_cases e : i = (T q).h.next
     ·subst e
      rw [aI.aJ] at hpl; cases hpl
      exact .inr (.inl b1)
     ·rw [if_neg e] at hl
      rw [f1, eC, if_neg e]
      exact i3.new i pl hl (by simpa [aI.put, e] using hpl)
    ·rcases Nat.lt_or_ge q2 q with g | g
     ·exact (i4 q2 hq2 h1 g hn t ht hd).mono hle'
     ·obtain rfl : q2 = q := by omega
      rw [b5 t hd, D.FO.1, qQ D.dst hd]
      exact f5 _ _ (aI.aJ _ _ _)
    ·rw [f1, eC] at hl
     by_cases e : i = (T q).h.next
     ·subst e
      rw [aI.aJ] at hpl; cases hpl
      exact I.QI q q2 hql hq2 hp hp2 (by omega)
     ·rw [if_neg e] at hl
      exact i5 q2 hq2 hp2 (by omega) i pl hl (by simpa [aI.put, e] using hpl)
 obtain ⟨φ', i1, i2, i3, i4, i5⟩ := key q₁ Qq (Nat.le_refl _)
 refine ⟨φ', i1, i2, i3, fun q hq h1 h2 h3 t ht hd => ?_, i5⟩
 rcases Nat.lt_or_ge q s with g | g
 ·have := hs5 q g; omega
 ·exact i4 q hq g h1 h2 t ht hd
end
end Go.Am
