/- The abstract machine is sound: what its run says holds of the Go program. Conditions: the table of functions is the program's (Env). -/
import Derived.Test.YtcbgjadbemnpcaaGreatDoorS0
import Derived.Orders
import Derived.Scope
import Derived.Laws.Sem
set_option linter.all false
namespace Go.Am
variable {P : Program} {φ : Phi} {h h' : Hp} {w : World} {v : AV} {r : A2} {cx cy : Value} {t : TypeId} {G : Gl} {ρ : Operand → Value}
theorem liesAt_off {e : TypeId} (hc : P.cellsOf e = 1) (count off n : Nat) (hn : off + n ≤ count) : liesAt P P.depth e count off e n = true := by
  have hd : P.depth = (2 * (P.types.size + Made.depth) + 1) + 1 := rfl
  rw [hd]
  simp only [liesAt, Bool.or_eq_true]
  left
  rw [hd]
  simp [rowAt, hc, hn, sameLayout, Nat.mod_one]
theorem run_ustr {ts : Array TypeId} {pt e ty : TypeId} {k : IntKind} (h0 : ts[0]? = some pt) (hp : P.underlying pt = some (.pointer e)) (hc : P.cellsOf e = 1) (a : Addr) (cells : Nat) (hsh : w.shape? a.block = some (e, cells)) (l : List UInt8) (hl0 : l ≠ []) (hn : a.off + l.length ≤ cells) (h63 : l.length ≤ 9223372036854775807)
    (hcell : ∀ j x, l[j]? = some x → w.cell? (a.add j) = some (.int .u8 x.toNat)) :
    (Builtin.unsafeString_ ts ty #[.pointer (some a), .int k l.length]).run P w = .ok (.string ⟨l.toArray⟩) (w.freeze a l.length) := by
  have hl : l.length ≠ 0 := by simpa using hl0
  have hlb := Lib.run_loadBytes (P := P) w l a .empty hcell
  have hlies := liesAt_off (P := P) hc (cells / P.cellsOf e) a.off l.length (by rw [hc]; simpa using hn)
  have h63' : ¬ (9223372036854775807 : Int) < (l.length : Int) := by omega
  have hdef : Builtin.unsafeString_ ts ty #[.pointer (some a), .int k l.length] =
      (do
        let n ← asInt (.int k l.length)
        let some pt := ts[0]? | stuck "unsafe.String: no argument types"
        if n < 0 then runtimePanic (.error "unsafe.String: len out of range")
        if n > IntKind.i64.max then unsupported (.unsafePointer "String: a length above the largest int")
        if n = 0 then pure (.string .empty)
        else if ← variablesAt a (← elemOf pt) n.toNat then do
          let s ← loadBytes a .empty n.toNat
          freeze a n.toNat
          pure (.string s)
        else unsupported (.unsafePointer "String: not so many bytes at ptr")) := rfl
  rw [hdef]
  have hmax : IntKind.i64.max = 9223372036854775807 := rfl
  have hneg : ¬ (l.length : Int) < 0 := by omega
  simp [asInt, asIntOf, hmax, h63', hneg, hl, variablesAt, hsh, elemOf, run_underlying hp, hlies, hlb, h0]
theorem run_ustr0 {ts : Array TypeId} {pt ty : TypeId} {k : IntKind} (h0 : ts[0]? = some pt) (q : Option Addr) : (Builtin.unsafeString_ ts ty #[.pointer q, .int k 0]).run P w = .ok (.string .empty) w := by
  have hmax : IntKind.i64.max = 9223372036854775807 := rfl
  cases q with
  | none =>
    have hdef : Builtin.unsafeString_ ts ty #[.pointer none, .int k 0] =
        (do
          let n ← asInt (.int k 0)
          let some _ := ts[0]? | stuck "unsafe.String: no argument types"
          if n < 0 then runtimePanic (.error "unsafe.String: len out of range")
          if n > IntKind.i64.max then unsupported (.unsafePointer "String: a length above the largest int")
          if n = 0 then pure (.string .empty)
          else runtimePanic (.error "unsafe.String: ptr is nil and len is not zero")) := rfl
    rw [hdef]
    simp [asInt, asIntOf, hmax, h0]
  | some a =>
    have hdef : Builtin.unsafeString_ ts ty #[.pointer (some a), .int k 0] =
        (do
          let n ← asInt (.int k 0)
          let some pt := ts[0]? | stuck "unsafe.String: no argument types"
          if n < 0 then runtimePanic (.error "unsafe.String: len out of range")
          if n > IntKind.i64.max then unsupported (.unsafePointer "String: a length above the largest int")
          if n = 0 then pure (.string .empty)
          else if ← variablesAt a (← elemOf pt) n.toNat then do
            let s ← loadBytes a .empty n.toNat
            freeze a n.toNat
            pure (.string s)
          else unsupported (.unsafePointer "String: not so many bytes at ptr")) := rfl
    rw [hdef]
    simp [asInt, asIntOf, hmax, h0]
theorem good_ussd {ts : Array TypeId} {ty : TypeId} {x : AO} (H : HR φ h w) (hx : VR φ (ev x r) cx) (e : o_ussd x r h = .ok v h') : Good φ h w v h' ((Builtin.unsafeSliceData_ ts ty #[cx]).run P w) := by
  unfold o_ussd at e
  cases ha : ev x r <;> rw [ha] at e hx <;> try (cases e; done)
  case slice i o n c =>
    cases c with
    | zero => cases e
    | succ c =>
      obtain ⟨rfl, rfl⟩ := RV.ok_inj (show RV.ok (.ptr i o) h = .ok v h' from e)
      cases hx with
      | slice _ _ _ _ p hp => exact .same H (.ptr _ _ _ hp) (Lib.run_unsafeSliceData_row w ts ty _ _ _ (Nat.succ_ne_zero c))
  case slr i o n es =>
    cases n with
    | zero => cases e
    | succ n =>
      obtain ⟨rfl, rfl⟩ := RV.ok_inj (show RV.ok (.ptr i o) h = .ok v h' from e)
      cases hx with
      | slr _ _ _ _ c p a hp h1 h2 h3 h4 h5 h6 =>
        have hc : c ≠ 0 := by omega
        have ea : a = p.addr o := by
          obtain ⟨b, off, sp⟩ := a
          simp only [Place.addr, Addr.mk.injEq]
          exact ⟨h3, h5 hc, h4⟩
        subst ea
        exact .same H (.ptr _ _ _ hp) (Lib.run_unsafeSliceData_row w ts ty _ _ _ hc)
  case nils =>
    obtain ⟨rfl, rfl⟩ := RV.ok_inj (show RV.ok .nilp h = .ok v h' from e)
    cases hx
    exact .same H .nilp (Lib.run_unsafeSliceData_nil w ts ty 0 0)
theorem vr_empty : VR φ (.str []) (.string .empty) := .str _ _ rfl
theorem good_ustr {ts : Array TypeId} {pt e ty : TypeId} {x y : AO} (h0 : ts[0]? = some pt) (hp : P.underlying pt = some (.pointer e)) (hc : P.cellsOf e = 1) (H : HR φ h w) (hx : VR φ (ev x r) cx) (hy : VR φ (ev y r) cy) (he : o_ustr e x y r h = .ok v h') :
    Good φ h w v h' ((Builtin.unsafeString_ ts ty #[cx, cy]).run P w) := by
  unfold o_ustr natOf at he
  obtain ⟨k, n, ey, he⟩ := onInt_ok he
  rw [ey] at hy
  rw [hy.int_inv]
  cases n with
  | negSucc n => cases he
  | ofNat n =>
    cases n with
    | zero =>
      have go : ∀ q, cx = .pointer q → RV.ok (.str []) h = .ok v h' → Good φ h w v h' ((Builtin.unsafeString_ ts ty #[cx, .int k (.ofNat 0)]).run P w) := by
        rintro q rfl e
        obtain ⟨rfl, rfl⟩ := RV.ok_inj e
        exact .same H vr_empty (run_ustr0 h0 q)
      cases ha : ev x r <;> rw [ha] at he hx <;> try (cases he; done)
      case ptr i o => cases hx with | ptr _ _ p hp => exact go _ rfl he
      case nilp => cases hx; exact go _ rfl he
    | succ n =>
      obtain ⟨i, o, ex, he⟩ := onPtr_ok (show AV.onPtr (ev x r) _ (RV.err 117) = RV.ok v h' from he)
      rw [ex] at hx
      obtain ⟨el, m, xx, fl, c, hi, he⟩ := onCells_ok he
      obtain ⟨hb, he⟩ := if_ok he
      obtain ⟨hb1, hb⟩ := and_ok hb
      obtain ⟨hb2, hb3⟩ := and_ok hb
      have hb1 : n ≤ 1048576 := Nat.le_of_ble_eq_true hb1
      have hb2 := Nat.eq_of_beq_eq_true hb2
      have hb3 : o + (n + 1) ≤ m := Nat.le_of_ble_eq_true hb3
      subst hb2
      obtain ⟨bs, hbs, he⟩ := bytesIn_ok he
      obtain ⟨rfl, rfl⟩ := RV.ok_inj he
      cases hx with
      | ptr _ _ p hp' =>
        obtain ⟨l, l1, l2, l3, l4⟩ := H.values hi hp' (n + 1) o hb3
        rw [hbs] at l2
        have hl := VRL_byteCells l2
        subst hl
        have hlen : bs.length = n + 1 := by simpa using l1
        have hl : live (hget i h) := by rw [hi]; exact live_cells
        obtain ⟨q, hq, hor⟩ := H.obj i hl
        rw [hp'] at hq; cases hq
        rw [hi] at hor
        obtain ⟨rc, fz, hrc, r1, r2, r3, r4, r5, r6⟩ := hor
        have hrun := run_ustr (w := w) (ty := ty) (k := k) h0 hp hc (p.addr o) rc.size (by show w.shape? p.blk = _; simp [World.shape?, hrc]) bs (by intro g; rw [g] at hlen; cases hlen)
          (by show p.base + o + bs.length ≤ rc.size; omega) (by omega) (fun j x hj => by
            have hj' : j < bs.length := (List.getElem?_eq_some_iff.1 hj).1
            have hx' := (List.getElem?_eq_some_iff.1 hj).2
            have := l4 j (by simpa using hj')
            rw [this]
            simp [hx'])
        have hn' : (Int.ofNat (n + 1)) = ((bs.length : Nat) : Int) := by rw [hlen]; rfl
        have hne : bs.length ≠ 0 := by omega
        have hheap : (w.freeze (p.addr o) bs.length).heap = w.heap.modify p.blk fun
            | .cells c elem (lo, hi) => .cells c elem (if lo == hi then (p.base + o, p.base + o + bs.length) else (min lo (p.base + o), max hi (p.base + o + bs.length)))
            | o => o := by
          unfold World.freeze
          rw [if_neg hne]
          rfl
        have hsz : (w.freeze (p.addr o) bs.length).heap.size = w.heap.size := by rw [hheap]; simp
        have hother : ∀ b, b ≠ p.blk → (w.freeze (p.addr o) bs.length).heap[b]? = w.heap[b]? := fun b hb => by
          rw [hheap, Array.getElem?_modify, if_neg (Ne.symm hb)]
        have hO : OR φ (.cells e m xx .froz c) p ((w.freeze (p.addr o) bs.length).heap[p.blk]?) := by
          rw [hheap, Array.getElem?_modify, if_pos rfl, hrc]
          obtain ⟨lo, hi2⟩ := fz
          exact ⟨rc, _, rfl, r1, r2, r3, r4, r5, trivial⟩
        have HH := H.set hl hp' hsz hother hO (by simp)
        refine ⟨_, _, φ, by rw [hn']; exact hrun, .str _ _ (by simp), HH, φ.le_refl, ?_, fun j q hj hq => ?_⟩
        · refine Keeps.set hl hp' hsz hother ?_ ?_ ?_ <;> (unfold World.freeze; rw [if_neg hne])
        · rw [hget_hset] at hj
          by_cases ej : j = i
          · subst ej; exact .inl ⟨hl, hq⟩
          · rw [if_neg ej] at hj; exact .inl ⟨hj, hq⟩
end Go.Am
namespace Go.Am
variable {P : Program} {φ : Phi} {h h' : Hp} {w : World} {v : AV} {r : A2} {x y : AO} {cx cy : Value} {ty : TypeId}
theorem srcZ {e u : TypeId} {i : TypeInfo} {zv : Value} {z : List AV} {k kn : IntKind} (hu : P.underlying u = some (.int kn)) (hi : P.info? e = some i) (hz : i.zero = some zv) (hzs : zv.cells.size = i.size) (hby : i.bytes ≤ 1048576) (hes : 0 < i.size)
    (g1 : VRL φ z zv.cells.toList) (g2 : ∀ c, c ∈ zv.cells.toList → c.oneCell' = true) (n : Nat) (hn : n ≤ 1048576) :
    Src P φ w e u i.size n (lrep n z) (.int k n) (Builtin.zeroCells zv.cells n).toList := by
  obtain ⟨k1, k2⟩ := VRL_zeroCells g1 g2 n (n * i.size) (by rw [hzs])
  have hzc : (Builtin.zeroCells zv.cells n).toList = ((Array.range (n * i.size)).map (zv.cells[· % zv.cells.size]!)).toList := by
    simp [Builtin.zeroCells, hzs]
  have hw : IntKind.i64.wrap (n : Int) = n := by rw [IntKind.wrap_i64]; omega
  have hneg : ¬ ((n : Int) < 0) := by omega
  have hbig : n * i.bytes ≤ 1048576 * 1048576 := Nat.mul_le_mul hn hby
  have h48i : ¬ (281474976710656 < (n : Int) * (i.bytes : Int)) := by
    rw [← Int.natCast_mul]
    omega
  refine ⟨?_, ?_, ?_, ?_, ?_⟩
  · intro t ty i' ht hi' hs base m c hc w' h1 h2
    rw [hi] at hi'; cases hi'
    by_cases h0 : n = 0
    · subst h0
      have hw0 : IntKind.i64.wrap 0 = 0 := rfl
      have hc0 : m ≤ c := hc
      cases base with
      | none =>
        rw [h2 rfl]
        simp [Builtin.append_, run_und ht, run_und hu, run_size hi, run_info hi, asInt, asIntOf, hw0, hc0]
      | some a =>
        have h1 := h1 a rfl
        simp [Builtin.zeroCells] at h1
        simp [Builtin.append_, run_und ht, run_und hu, run_size hi, run_info hi, asInt, asIntOf, hw0, hc0, h1]
    · have hns : ¬ (n * i.size = 0) := Nat.mul_ne_zero h0 (by omega)
      cases base with
      | none =>
        rw [h2 rfl]
        simp [Builtin.append_, run_und ht, run_und hu, run_size hi, run_info hi, zeroValue, hz, asInt, asIntOf, hw, hneg, h48i, hc, h0, hns, hes]
      | some a =>
        simp [Builtin.append_, run_und ht, run_und hu, run_size hi, run_info hi, zeroValue, hz, asInt, asIntOf, hw, hneg, h48i, hc, h0, hns, hes, h1 a rfl]
  · intro t ty i' z' ht hi' hs hz' base m c hc os ho hb h63
    rw [hi] at hi'; cases hi'
    rw [hz] at hz'; cases hz'
    by_cases h0 : n = 0
    · subst h0
      have hw0 : IntKind.i64.wrap 0 = 0 := rfl
      have hc0 : ¬ m ≤ c := hc
      have h63' : ¬ (9223372036854775807 < ((m : Int))) := by omega
      have h48 := growslice_fits (old := c) (show c < m + 0 by omega) hb
      have h48' : ¬ (281474976710656 < Builtin.nextslicecap m c * i.bytes) := by simpa using h48
      have hold := ho w.drew rfl
      simp only [grown, Array.append_assoc]
      simp [Builtin.append_, run_und ht, run_und hu, run_size hi, run_info hi, zeroValue, hz, asInt, asIntOf, hw0, hc0, h63', h48', Question.forced, hold, newRow, capOf, Builtin.zeroCells]
    · have hns : ¬ (n * i.size = 0) := Nat.mul_ne_zero h0 (by omega)
      have h63' : ¬ (9223372036854775807 < ((m : Int) + (n : Int))) := by omega
      have h48 := growslice_fits (old := c) (show c < m + n by omega) hb
      have h48' : ¬ (281474976710656 < Builtin.nextslicecap (m + n) c * i.bytes) := by omega
      have hold := ho w.drew rfl
      simp only [grown, Array.append_assoc]
      simp [Builtin.append_, run_und ht, run_und hu, run_size hi, run_info hi, zeroValue, hz, asInt, asIntOf, hw, hneg, h48i, hc, h0, hns, hes, h63', h48', Question.forced, hold, newRow, capOf]
  · rw [hzc]; simp
  · rw [hzc]; exact k1
  · rw [hzc]; exact k2
theorem good_appz {t u e : TypeId} {z : List AV} {kn : IntKind} (H : HR φ h w) (hx : VR φ (ev x r) cx) (hy : VR φ (ev y r) cy) (ht : P.underlying t = some (.slice e)) (hu : P.underlying u = some (.int kn)) (hg : growOK P e = true) (hes : szOf P e ≠ 0) (hz : zeros P e = some z)
    (he : o_appz e (szOf P e) z x y r h = .ok v h') : Good φ h w v h' ((Builtin.append_ #[t, u] ty #[cx, cy]).run P w) := by
  obtain ⟨i, zv, hi, hzv, hzs, hby⟩ := growOK_ok hg
  rw [szOf_eq hi] at hes he
  unfold o_appz at he
  obtain ⟨k, n, e1, he⟩ := natOf_ok he
  obtain ⟨hn, he⟩ := if_ok he
  have hn : n * i.size ≤ 1048576 := Nat.le_of_ble_eq_true hn
  have hn : n ≤ 1048576 := Nat.le_trans (Nat.le_mul_of_pos_right n (by omega)) hn
  rw [e1] at hy
  rw [hy.int_inv]
  obtain ⟨i', zv', hi', hzv', g1, g2⟩ := zeros_ok hz φ
  rw [hi] at hi'; cases hi'
  rw [hzv] at hzv'; cases hzv'
  exact good_appL H ht hi hzv hzs hby (by omega) (srcZ hu hi hzv hzs hby (by omega) g1 g2 n hn) hx he
end Go.Am
namespace Go.Am
variable {P : Program} {φ : Phi} {h h' : Hp} {w : World} {v : AV} {r : A2} {cx cy : Value} {t : TypeId} {G : Gl} {ρ : Operand → Value}
theorem VRL.one_inv {x : AO} {vs : List Value} (hx : VRL φ (evs [x] r) vs) : ∃ c, vs = [c] ∧ VR φ (ev x r) c := by
  cases hx with
  | cons a c as cs h1 h2 => cases h2; exact ⟨c, rfl, h1⟩
theorem VRL.two_inv {x y : AO} {vs : List Value} (hx : VRL φ (evs [x, y] r) vs) : ∃ c d, vs = [c, d] ∧ VR φ (ev x r) c ∧ VR φ (ev y r) d := by
  cases hx with
  | cons a c as cs h1 h2 => cases h2 with
    | cons b d bs ds h3 h4 => cases h4; exact ⟨c, d, rfl, h1, h3⟩
theorem ts_head {ts : Array TypeId} {t : TypeId} {l : List TypeId} (e : ts.toList = t :: l) : ts[0]? = some t := by
  rw [← Array.getElem?_toList, e]; rfl
theorem mapK_inv {t : TypeId} {kt : KT} (e : mapK P t = some kt) : ∃ k e, P.underlying t = some (.map k e) ∧ keyT P k = some kt := by
  unfold mapK at e
  split at e
  · exact ⟨_, _, by assumption, e⟩
  · cases e
theorem good_builtin {b : Builtin} {ts : Array TypeId} {ty : TypeId} {cs : Array Bool} {xs : List AO} {vs : List Value} {op : AOp} (hop : cBuiltin P b ts.toList xs = some op) (H : HR φ h w) (hxs : VRL φ (evs xs r) vs) (he : op.run r h = .ok v h') :
    ∃ s : Sem Value, builtin b ts ty cs vs.toArray = (do pure (.value (← s))) ∧ Good φ h w v h' (s.run P w) := by
  unfold cBuiltin at hop
  split at hop
  case h_1 t l x ht =>
    obtain ⟨c, rfl, h1⟩ := hxs.one_inv
    refine ⟨_, rfl, ?_⟩
    split at hop
    case h_1 hu => cases hop; exact good_lent (ts_head ht) H h1 (und_inv hu (by simp)) he
    case h_2 hu => cases hop; exact good_len (ts_head ht) H h1 ⟨_, und_inv hu (by simp)⟩ he
    case h_3 hu => cases hop; exact good_lenm (ts_head ht) H h1 (und_inv hu (by simp)) he
    case h_4 hu =>
      cases hop
      obtain ⟨rfl, rfl⟩ := RV.ok_inj he
      exact .same H (.int _ _) (by simp [Builtin.len_, ts_head ht, run_und (und_inv hu (by simp)), goInt])
    case h_5 hu =>
      split at hop
      · rename_i hu2
        cases hop
        obtain ⟨rfl, rfl⟩ := RV.ok_inj he
        exact .same H (.int _ _) (by simp [Builtin.len_, ts_head ht, run_und (und_inv hu (by simp)), run_und (und_inv hu2 (by simp)), goInt])
      · cases hop
    case h_6 => cases hop
  case h_2 t l x ht =>
    obtain ⟨c, rfl, h1⟩ := hxs.one_inv
    refine ⟨_, rfl, ?_⟩
    split at hop
    case h_1 hu => cases hop; exact good_cap (ts_head ht) H h1 (und_inv hu (by simp)) he
    case h_2 hu =>
      cases hop
      obtain ⟨rfl, rfl⟩ := RV.ok_inj he
      exact .same H (.int _ _) (by simp [Builtin.cap_, ts_head ht, run_und (und_inv hu (by simp)), goInt])
    case h_3 => cases hop
  case h_3 t u x y ht =>
    obtain ⟨c, d, rfl, h1, h2⟩ := hxs.two_inv
    refine ⟨_, rfl, ?_⟩
    have hts : ts = #[t, u] := by apply Array.ext'; rw [ht]
    subst hts
    split at hop
    case h_1 hu hv =>
      split at hop
      · rename_i hg
        cases hop
        simp only [Bool.and_eq_true, decide_eq_true_eq] at hg
        exact good_apps H h1 h2 (und_inv hu (by simp)) (und_inv hv (by simp)) hg.2 hg.1 he
      · cases hop
    case h_2 hu hv =>
      split at hop
      · cases hop
      · rename_i hg
        cases hop
        simp only [Bool.or_eq_true, decide_eq_true_eq, Bool.not_eq_true', not_or, Bool.not_eq_false] at hg
        exact good_app H h1 h2 (und_inv hu (by simp)) (und_inv hv (by simp)) hg.2 hg.1 he
    case h_3 hu hv =>
      split at hop
      · cases hop
      · rename_i hg
        simp only [Option.bind_eq_some_iff] at hop
        obtain ⟨z, hz, hop⟩ := hop
        split at hop
        · cases hop
        · cases hop
          simp only [Bool.or_eq_true, decide_eq_true_eq, Bool.not_eq_true', not_or, Bool.not_eq_false] at hg
          exact good_appz H h1 h2 (und_inv hu (by simp)) (und_inv hv (by simp)) hg.2 hg.1 hz he
    case h_4 => cases hop
  case h_4 t l x y ht =>
    obtain ⟨c, d, rfl, h1, h2⟩ := hxs.two_inv
    refine ⟨_, rfl, ?_⟩
    split at hop
    case h_1 e hu =>
      split at hop
      · cases hop
      · rename_i hs
        cases hop
        obtain ⟨i, hi, hs'⟩ := szOf_ne hs
        rw [szOf_eq hi] at he
        exact good_cpy (ts_head ht) H h1 h2 (und_inv hu (by simp)) hi (by omega) he
    case h_2 => cases hop
  case h_5 t l x ht =>
    obtain ⟨c, rfl, h1⟩ := hxs.one_inv
    refine ⟨_, rfl, ?_⟩
    split at hop
    case h_1 e hu =>
      split at hop
      · cases hop
      · simp only [Option.bind_eq_some_iff] at hop
        obtain ⟨z, hz, hop⟩ := hop
        split at hop
        · cases hop
        · cases hop
          exact good_clr (ts_head ht) H h1 (und_inv hu (by simp)) hz he
    case h_2 => cases hop
  case h_6 t l x y ht =>
    obtain ⟨c, d, rfl, h1, h2⟩ := hxs.two_inv
    refine ⟨_, rfl, ?_⟩
    simp only [bind, Option.bind_eq_some_iff, Option.some.injEq] at hop
    obtain ⟨kt, hk, rfl⟩ := hop
    obtain ⟨k, e, hu, hk⟩ := mapK_inv hk
    exact good_del (ts_head ht) H h1 h2 hu hk he
  case h_7 => cases hop; exact ⟨_, rfl, good_max (ts := ts) (ty := ty) (mn := false) H hxs he⟩
  case h_8 => cases hop; exact ⟨_, rfl, good_max (ts := ts) (ty := ty) (mn := true) H hxs he⟩
  case h_9 x =>
    obtain ⟨c, rfl, h1⟩ := hxs.one_inv
    cases hop
    exact ⟨_, rfl, good_ussd H h1 he⟩
  case h_10 x =>
    obtain ⟨c, rfl, h1⟩ := hxs.one_inv
    cases hop
    exact ⟨_, rfl, good_real H h1 he⟩
  case h_11 x =>
    obtain ⟨c, rfl, h1⟩ := hxs.one_inv
    cases hop
    exact ⟨_, rfl, good_imag H h1 he⟩
  case h_12 t l x y ht =>
    obtain ⟨c, d, rfl, h1, h2⟩ := hxs.two_inv
    refine ⟨_, rfl, ?_⟩
    split at hop
    case h_1 e hu =>
      split at hop
      · rename_i hs
        cases hop
        exact good_ustr (ts_head ht) (und_inv hu (by simp)) hs H h1 h2 he
      · cases hop
    case h_2 => cases hop
  case h_13 t l x y ht =>
    obtain ⟨c, d, rfl, h1, h2⟩ := hxs.two_inv
    refine ⟨_, rfl, ?_⟩
    split at hop
    case h_1 => cases hop; exact good_cplx H h1 h2 he
    case h_2 => cases hop
  case h_14 => cases hop
end Go.Am
namespace Go.Am
variable {P : Program} {φ : Phi} {h h' : Hp} {w : World} {v : AV} {r : A2} {cx cy : Value} {t : TypeId} {G : Gl} {ρ : Operand → Value}
theorem notNone {α : Type} {o : Option α} (h : ¬ o.isNone = true) : ∃ a, o = some a := by cases o with
  | none => exact absurd rfl h
  | some a => exact ⟨a, rfl⟩
def GoodN (φ : Phi) (h : Hp) (w : World) (v : AV) (h' : Hp) (res : Result Next) : Prop :=
  ∃ nx w' φ', res = .ok nx w' ∧ ((∃ cv, nx = .value cv ∧ VR φ' v cv) ∨ (nx = .skip ∧ v = .undef)) ∧ HR φ' h' w' ∧ Step φ h w φ' h' w'
theorem Good.toN {s : Sem Value} (g : Good φ h w v h' (s.run P w)) : GoodN φ h w v h' ((do pure (.value (← s)) : Sem Next).run P w) := by
  obtain ⟨cv, w', φ', e, h1, h2, h3⟩ := g
  exact ⟨.value cv, w', φ', by simp only [Sem.run_bind, e, Result.andThen_ok, Sem.run_pure], .inl ⟨cv, rfl, h1⟩, h2, h3⟩
theorem GoodU.toN {s : Sem Unit} (hv : v = .undef) (g : GoodU φ h w h' (s.run P w)) : GoodN φ h w v h' ((do s; pure .skip : Sem Next).run P w) := by
  obtain ⟨w', φ', e, h2, h3⟩ := g
  exact ⟨.skip, w', φ', by simp only [Sem.run_bind, e, Result.andThen_ok, Sem.run_pure], .inr ⟨rfl, hv⟩, h2, h3⟩
theorem GoodN.same {nx : Next} {res : Result Next} (H : HR φ h w) (hn : (∃ cv, nx = .value cv ∧ VR φ v cv)) (e : res = .ok nx w) : GoodN φ h w v h res := ⟨nx, w, φ, e, .inl hn, H, .refl _ _ _⟩
section
variable {dst : Option Tmp} {type : TypeId} {pos : String} {after : Array Edge} {guard : Option (Nat × Bool)} {names : List String} {op : AOp}
variable (hρ : ∀ q x, cO G q = some x → VR φ (ev x r) (ρ q))
include hρ
theorem op_OAR {o : Option Operand} {x : OA} (e : cOA G o = some x) : OAR φ r x (o.map ρ) := by
  cases o with
  | none => cases e; trivial
  | some q =>
    simp only [cOA, Option.map_eq_some_iff] at e
    obtain ⟨y, hy, rfl⟩ := e
    exact hρ q y hy
theorem op_mv {x : Operand} (hop : cOp P G names ⟨dst, .move x, type, pos, after, guard⟩ = some (.op op)) (H : HR φ h w) (he : op.run r h = .ok v h') : GoodN φ h w v h' ((execOp ρ ⟨dst, .move x, type, pos, after, guard⟩).run P w) := by
  simp only [cOp, bind, Option.bind_eq_some_iff, Option.some.injEq, AI.op.injEq] at hop
  obtain ⟨a, ha, rfl⟩ := hop
  obtain ⟨rfl, rfl⟩ := RV.ok_inj he
  exact .same H ⟨_, rfl, hρ _ _ ha⟩ rfl
theorem op_as {x : Operand} (hop : cOp P G names ⟨dst, .assign x, type, pos, after, guard⟩ = some (.op op)) (H : HR φ h w) (he : op.run r h = .ok v h') : GoodN φ h w v h' ((execOp ρ ⟨dst, .assign x, type, pos, after, guard⟩).run P w) := by
  simp only [cOp, bind, Option.bind_eq_some_iff, Option.some.injEq, AI.op.injEq] at hop
  obtain ⟨a, ha, rfl⟩ := hop
  obtain ⟨rfl, rfl⟩ := RV.ok_inj he
  exact .same H ⟨_, rfl, hρ _ _ ha⟩ rfl
theorem op_pick {a b c : Operand} (hop : cOp P G names ⟨dst, .pick c a b, type, pos, after, guard⟩ = some (.op op)) (H : HR φ h w) (he : op.run r h = .ok v h') : GoodN φ h w v h' ((execOp ρ ⟨dst, .pick c a b, type, pos, after, guard⟩).run P w) := by
  simp only [cOp, bind, Option.bind_eq_some_iff, Option.some.injEq, AI.op.injEq] at hop
  obtain ⟨x, hx, y, hy, z, hz, rfl⟩ := hop
  obtain ⟨cv, w', φ', e, h1, h2, h3⟩ := good_pick (P := P) H (hρ _ _ hx) (hρ _ _ hy) (hρ _ _ hz) he
  refine ⟨.value cv, w', φ', ?_, .inl ⟨cv, rfl, h1⟩, h2, h3⟩
  simp only [Sem.run_bind, Sem.run_pure] at e
  simp only [execOp, Sem.run_bind, Sem.run_pure]
  cases hb : (asBool (ρ c)).run P w with
  | ok t w1 => rw [hb] at e; simp only [Result.andThen_ok] at e ⊢; obtain ⟨rfl, rfl⟩ := Result.ok.inj e; rfl
  | halt x w1 => rw [hb] at e; cases e
theorem op_alloc {e : TypeId} (hop : cOp P G names ⟨dst, .alloc e, type, pos, after, guard⟩ = some (.op op)) (H : HR φ h w) (he : op.run r h = .ok v h') : GoodN φ h w v h' ((execOp ρ ⟨dst, .alloc e, type, pos, after, guard⟩).run P w) := by
  simp only [cOp, bind, Option.bind_eq_some_iff, Option.some.injEq, AI.op.injEq] at hop
  obtain ⟨z, hz, rfl⟩ := hop
  exact (good_alloc (r := r) H hz he).toN
theorem op_box {e : TypeId} {x : Operand} (hop : cOp P G names ⟨dst, .box e x, type, pos, after, guard⟩ = some (.op op)) (H : HR φ h w) (he : op.run r h = .ok v h') : GoodN φ h w v h' ((execOp ρ ⟨dst, .box e x, type, pos, after, guard⟩).run P w) := by
  simp only [cOp, bind, Option.bind_eq_some_iff, Option.some.injEq, AI.op.injEq] at hop
  obtain ⟨z, hz, rfl⟩ := hop
  exact (good_box H (hρ _ _ hz) he).toN
theorem map_pairs (ps : Array (Nat × Operand)) : (ps.map fun (i, x) => (i, ρ x)) = (ps.toList.map fun q => (q.1, ρ q.2)).toArray := by
  apply Array.ext'
  simp
theorem op_build {t : TypeId} {ps : Array (Nat × Operand)} (hop : cOp P G names ⟨dst, .build t ps, type, pos, after, guard⟩ = some (.op op)) (H : HR φ h w) (he : op.run r h = .ok v h') : GoodN φ h w v h' ((execOp ρ ⟨dst, .build t ps, type, pos, after, guard⟩).run P w) := by
  simp only [cOp, bind, Option.bind_eq_some_iff] at hop
  obtain ⟨z, hz, hop⟩ := hop
  refine Good.toN ?_
  rw [map_pairs hρ ps]
  split at hop
  · rename_i fs hu
    split at hop
    · rename_i hall
      simp only [Option.bind_eq_some_iff, Option.some.injEq, AI.op.injEq] at hop
      obtain ⟨l, hl, rfl⟩ := hop
      obtain ⟨g1, g2, g3⟩ := cParts_ok (φ := φ) (r := r) (ρ := ρ) hl (fun q _ a ha => hρ _ _ ha)
      exact good_build H hz (by simpa using g1) g2 g3 (.inl ⟨fs, und_inv hu (by simp), fun f hf => Array.all_eq_true_iff_forall_mem.1 hall f hf, rfl⟩) he
    · cases hop
  · rename_i n e hu
    split at hop
    · rename_i hall
      simp only [Option.bind_eq_some_iff, Option.some.injEq, AI.op.injEq] at hop
      obtain ⟨l, hl, rfl⟩ := hop
      obtain ⟨g1, g2, g3⟩ := cParts_ok (φ := φ) (r := r) (ρ := ρ) hl (fun q _ a ha => hρ _ _ ha)
      exact good_build H hz (by simpa using g1) g2 g3 (.inr ⟨n, e, und_inv hu (by simp), hall, rfl⟩) he
    · cases hop
  · cases hop
theorem op_bslice {t : TypeId} {n : Nat} {ps : Array (Nat × Operand)} (hop : cOp P G names ⟨dst, .buildSlice t n ps, type, pos, after, guard⟩ = some (.op op)) (H : HR φ h w) (he : op.run r h = .ok v h') : GoodN φ h w v h' ((execOp ρ ⟨dst, .buildSlice t n ps, type, pos, after, guard⟩).run P w) := by
  simp only [cOp] at hop
  split at hop
  · rename_i e hu
    simp only [bind, Option.bind_eq_some_iff] at hop
    obtain ⟨z, hz, hop⟩ := hop
    split at hop
    · simp at hop
    · rename_i hs
      simp only [not_or, Decidable.not_not] at hs
      simp only [bind, pure, Option.bind_some, Option.bind_eq_some_iff, Option.some.injEq, AI.op.injEq] at hop
      obtain ⟨l, hl, rfl⟩ := hop
      refine Good.toN ?_
      rw [map_pairs hρ ps]
      obtain ⟨g1, g2, g3⟩ := cParts_ok (φ := φ) (r := r) (ρ := ρ) hl (fun q _ a ha => hρ _ _ ha)
      exact good_bslice H (und_inv hu (by simp)) hz hs.2 hs.1 (by simpa using g1) g2 g3 he
  · cases hop
theorem op_load {t : TypeId} {x : Operand} (hop : cOp P G names ⟨dst, .load t x, type, pos, after, guard⟩ = some (.op op)) (H : HR φ h w) (he : op.run r h = .ok v h') : GoodN φ h w v h' ((execOp ρ ⟨dst, .load t x, type, pos, after, guard⟩).run P w) := by
  simp only [cOp] at hop
  split at hop
  · simp at hop
  · rename_i hu
    obtain ⟨d, hd⟩ := notNone hu
    split at hop
    · rename_i ha
      simp only [bind, pure, Option.bind_some, Option.bind_eq_some_iff, Option.some.injEq, AI.op.injEq] at hop
      obtain ⟨a, hx, rfl⟩ := hop
      exact (good_ldn H (hρ _ _ hx) hd ha rfl he).toN
    · rename_i ha
      simp only [bind, pure, Option.bind_some, Option.bind_eq_some_iff, Option.some.injEq, AI.op.injEq] at hop
      obtain ⟨a, hx, rfl⟩ := hop
      exact (good_ld1 H (hρ _ _ hx) hd (by simpa using ha) he).toN
theorem op_store {t : TypeId} {x y : Operand} (hop : cOp P G names ⟨dst, .store t x y, type, pos, after, guard⟩ = some (.op op)) (H : HR φ h w) (he : op.run r h = .ok v h') : GoodN φ h w v h' ((execOp ρ ⟨dst, .store t x y, type, pos, after, guard⟩).run P w) := by
  simp only [cOp] at hop
  split at hop
  · simp at hop
  · rename_i hu
    obtain ⟨i, hi⟩ := notNone hu
    split at hop
    · simp only [bind, pure, Option.bind_some, Option.bind_eq_some_iff, Option.some.injEq, AI.op.injEq] at hop
      obtain ⟨a, hx, b, hy, rfl⟩ := hop
      obtain ⟨g1, g2⟩ := good_stn H (hρ _ _ hx) (hρ _ _ hy) hi rfl he
      exact g2.toN g1
    · split at hop
      · rename_i hs
        simp only [bind, pure, Option.bind_some, Option.bind_eq_some_iff, Option.some.injEq, AI.op.injEq] at hop
        obtain ⟨a, hx, b, hy, rfl⟩ := hop
        obtain ⟨g1, g2⟩ := good_st1 H (hρ _ _ hx) (hρ _ _ hy) hi (by rw [← szOf_eq hi]; exact hs) he
        exact g2.toN g1
      · simp at hop
theorem op_nilc {x : Operand} (hop : cOp P G names ⟨dst, .nilCheck x, type, pos, after, guard⟩ = some (.op op)) (H : HR φ h w) (he : op.run r h = .ok v h') : GoodN φ h w v h' ((execOp ρ ⟨dst, .nilCheck x, type, pos, after, guard⟩).run P w) := by
  simp only [cOp, bind, Option.bind_eq_some_iff, Option.some.injEq, AI.op.injEq] at hop
  obtain ⟨a, ha, rfl⟩ := hop
  have hv := hρ _ _ ha
  obtain ⟨g1, g2, g3, g4, g5⟩ := good_nilc H hv he
  subst g2
  rw [g1]
  refine .same H ⟨_, rfl, hv⟩ ?_
  have hm : ∀ n f c, ρ x ≠ .func (.method n) f c := by
    intro n f c e
    rw [e] at hv
    change (OP.rec (nilc (ev a r) h') (fun i o => .ok (.ptr i o) h') (ev a r).asPtr : RV) = _ at he
    generalize ev a r = z at hv he
    cases hv
    cases he
  simp only [execOp]
  cases hr : ρ x with
  | pointer p => cases p with
    | none => exact absurd hr g3
    | some p => rfl
  | nilIface => exact absurd hr g4
  | nilFunc => exact absurd hr g5
  | func fn f c => cases fn <;> first | exact absurd hr (hm _ _ _) | rfl
  | _ => rfl
theorem op_bin {o : BinOp} {t u : TypeId} {x y : Operand} (hc : ∀ c, ρ (.const c) = c) (hop : cOp P G names ⟨dst, .binOp o t x y u, type, pos, after, guard⟩ = some (.op op)) (H : HR φ h w) (he : op.run r h = .ok v h') : GoodN φ h w v h' ((execOp ρ ⟨dst, .binOp o t x y u, type, pos, after, guard⟩).run P w) := by
  simp only [cOp] at hop
  split at hop
  · rename_i k hk
    simp only [bind, Option.bind_eq_some_iff, Option.some.injEq, AI.op.injEq] at hop
    obtain ⟨a, hx, b, hy, rfl⟩ := hop
    exact (good_bin hc hk H (hρ _ _ hx) (hρ _ _ hy) he).toN
  · split at hop
    · rename_i k hk
      simp only [bind, Option.bind_eq_some_iff, Option.some.injEq, AI.op.injEq] at hop
      obtain ⟨a, hx, b, hy, rfl⟩ := hop
      exact (good_bin_nil (k := k) false hc hk H (hρ _ _ hx) he).toN
    · rename_i k hk
      simp only [bind, Option.bind_eq_some_iff, Option.some.injEq, AI.op.injEq] at hop
      obtain ⟨a, hx, b, hy, rfl⟩ := hop
      exact (good_bin_nil (k := k) true hc hk H (hρ _ _ hx) he).toN
    · cases hop
theorem op_un {o : UnOp} {t : TypeId} {x : Operand} (hop : cOp P G names ⟨dst, .unOp o t x, type, pos, after, guard⟩ = some (.op op)) (H : HR φ h w) (he : op.run r h = .ok v h') : GoodN φ h w v h' ((execOp ρ ⟨dst, .unOp o t x, type, pos, after, guard⟩).run P w) := by
  cases o <;> simp only [cOp, bind, Option.bind_eq_some_iff, Option.some.injEq, AI.op.injEq] at hop
  case plus => cases hop
  all_goals obtain ⟨a, hx, rfl⟩ := hop
  all_goals first | exact (good_neg H (hρ _ _ hx) he).toN | exact (good_not H (hρ _ _ hx) he).toN | exact (good_com H (hρ _ _ hx) he).toN
theorem op_conv {s d : TypeId} {x : Operand} (hop : cOp P G names ⟨dst, .convert s d x, type, pos, after, guard⟩ = some (.op op)) (H : HR φ h w) (he : op.run r h = .ok v h') : GoodN φ h w v h' ((execOp ρ ⟨dst, .convert s d x, type, pos, after, guard⟩).run P w) := by
  simp only [cOp, bind, Option.bind_eq_some_iff, Option.some.injEq, AI.op.injEq] at hop
  obtain ⟨k, hk, a, ha, rfl⟩ := hop
  exact (good_conv hk H (hρ _ _ ha) he).toN
end
end Go.Am
namespace Go.Am
variable {P : Program} {φ : Phi} {h h' : Hp} {w : World} {v : AV} {r : A2} {cx cy : Value} {t : TypeId} {G : Gl} {ρ : Operand → Value}
theorem good_mkmap_r {t : TypeId} {k : IntKind} {n : Int} {a b : TypeId} (ht : P.underlying t = some (.map a b)) (H : HR φ h w) (he : o_mkmap r h = .ok v h') : Good φ h w v h' ((Instr.makeMap t (some (.int k n))).run P w) := by
  have hrun : (Instr.makeMap t (some (.int k n))).run P w = (Instr.makeMap t none).run P w := by
    have ha : (asInt (.int k n)).run P w = .ok n w := rfl
    simp [Instr.makeMap, run_und ht, ha]
  rw [hrun]
  exact good_mkmap H he
section
variable {dst : Option Tmp} {type : TypeId} {pos : String} {after : Array Edge} {guard : Option (Nat × Bool)} {names : List String} {op : AOp}
variable (hρ : ∀ q x, cO G q = some x → VR φ (ev x r) (ρ q))
include hρ
theorem op_mki {t : TypeId} {x : Operand} (hop : cOp P G names ⟨dst, .makeInterface t x, type, pos, after, guard⟩ = some (.op op)) (H : HR φ h w) (he : op.run r h = .ok v h') : GoodN φ h w v h' ((execOp ρ ⟨dst, .makeInterface t x, type, pos, after, guard⟩).run P w) := by
  cases hu : P.underlying t with
  | none => simp [cOp, hu] at hop
  | some d =>
    have hn : ∀ m, d ≠ .interface m := by
      intro m e
      subst e
      simp [cOp, hu] at hop
    have hop : ∃ a, cO G x = some a ∧ AOp.mki t a = op := by
      cases d <;> simp only [cOp, hu, bind, Option.bind_eq_some_iff, Option.some.injEq, AI.op.injEq] at hop <;> first | exact hop | exact absurd rfl (hn _)
    obtain ⟨a, hx, rfl⟩ := hop
    exact (good_mki H (hρ _ _ hx) hu hn he).toN
theorem op_mkf {fn : Fn} {first cap : Array Operand} (hop : cOp P G names ⟨dst, .makeFunc fn first cap, type, pos, after, guard⟩ = some (.op op)) (H : HR φ h w) (he : op.run r h = .ok v h') : GoodN φ h w v h' ((execOp ρ ⟨dst, .makeFunc fn first cap, type, pos, after, guard⟩).run P w) := by
  cases fn <;> simp only [cOp] at hop
  case func f =>
    split at hop
    · rename_i hf
      simp only [bind, Option.bind_eq_some_iff, Option.some.injEq, AI.op.injEq] at hop
      obtain ⟨l, hl, rfl⟩ := hop
      have g1 := evs_VRL (φ := φ) (r := r) (ρ := ρ) hl (fun o _ a ha => hρ _ _ ha)
      have e1 : first.map ρ = #[] := by have : first = #[] := by simpa using hf
                                        subst this; simp
      have e2 : cap.map ρ = (cap.toList.map ρ).toArray := by apply Array.ext'; simp
      show GoodN φ h w v h' ((do pure (.value (← Instr.makeFunc (.func f) (first.map ρ) (cap.map ρ))) : Sem Next).run P w)
      rw [e1, e2]
      exact (good_mkf H g1 he).toN
    · cases hop
  all_goals cases hop
theorem op_mkmap {t : TypeId} {re : Option Operand} (hc : ∀ c, ρ (.const c) = c) (hop : cOp P G names ⟨dst, .makeMap t re, type, pos, after, guard⟩ = some (.op op)) (H : HR φ h w) (he : op.run r h = .ok v h') : GoodN φ h w v h' ((execOp ρ ⟨dst, .makeMap t re, type, pos, after, guard⟩).run P w) := by
  cases re with
  | none =>
    simp only [cOp, Option.some.injEq, AI.op.injEq] at hop
    subst hop
    exact (good_mkmap (r := r) H he).toN
  | some q =>
    cases q <;> (try (simp [cOp] at hop; done))
    rename_i cv
    cases cv <;> (try (simp [cOp] at hop; done))
    simp only [cOp] at hop
    split at hop
    · rename_i hu
      cases hop
      refine Good.toN ?_
      show Good φ h w v h' ((Instr.makeMap t (some (ρ (.const (.int _ _))))).run P w)
      rw [hc]
      exact good_mkmap_r (r := r) (und_inv hu (by simp)) H he
    · cases hop
theorem op_mkslice {t : TypeId} {x y : Operand} (hop : cOp P G names ⟨dst, .makeSlice t x y, type, pos, after, guard⟩ = some (.op op)) (H : HR φ h w) (he : op.run r h = .ok v h') : GoodN φ h w v h' ((execOp ρ ⟨dst, .makeSlice t x y, type, pos, after, guard⟩).run P w) := by
  simp only [cOp] at hop
  split at hop
  · rename_i e hu
    simp only [bind, Option.bind_eq_some_iff] at hop
    obtain ⟨z, hz, hop⟩ := hop
    split at hop
    · simp at hop
    · rename_i hs
      simp only [not_or, Decidable.not_not] at hs
      simp only [bind, pure, Option.bind_some, Option.bind_eq_some_iff, Option.some.injEq, AI.op.injEq] at hop
      obtain ⟨a, hx, b, hy, rfl⟩ := hop
      exact (good_mkslice H (hρ _ _ hx) (hρ _ _ hy) (und_inv hu (by simp)) hz hs.2.1 hs.1 (by simpa using hs.2.2) he).toN
  · cases hop
theorem op_slice {t : TypeId} {x : Operand} {l u m : Option Operand} (hop : cOp P G names ⟨dst, .slice t x l u m, type, pos, after, guard⟩ = some (.op op)) (H : HR φ h w) (he : op.run r h = .ok v h') : GoodN φ h w v h' ((execOp ρ ⟨dst, .slice t x l u m, type, pos, after, guard⟩).run P w) := by
  simp only [cOp] at hop
  split at hop
  · rename_i hu
    split at hop
    · simp at hop
    · rename_i hm
      have hm : m = none := by simpa using hm
      subst hm
      simp only [bind, pure, Option.bind_some, Option.bind_eq_some_iff, Option.some.injEq, AI.op.injEq] at hop
      obtain ⟨a, hx, b, hb, c, hc, rfl⟩ := hop
      exact (good_slcs H (hρ _ _ hx) (op_OAR hρ hb) (op_OAR hρ hc) (und_inv hu (by simp)) he).toN
  · rename_i e hu
    split at hop
    · simp at hop
    · rename_i hs
      simp only [not_or, not_and] at hs
      obtain ⟨i, hi, hs'⟩ := szOf_ne hs.1
      simp only [bind, pure, Option.bind_some, Option.bind_eq_some_iff, Option.some.injEq, AI.op.injEq] at hop
      obtain ⟨a, hx, b, hb, c, hc, d, hd, rfl⟩ := hop
      rw [szOf_eq hi] at he
      exact (good_slc H (hρ _ _ hx) (op_OAR hρ hb) (op_OAR hρ hc) (op_OAR hρ hd) (und_inv hu (by simp)) hi (by omega) (fun g => by cases u <;> simp_all) he).toN
  · rename_i n e hu
    split at hop
    · simp at hop
    · rename_i hs
      simp only [not_or, not_and] at hs
      obtain ⟨i, hi⟩ := notNone hs.2
      simp only [bind, pure, Option.bind_some, Option.bind_eq_some_iff, Option.some.injEq, AI.op.injEq] at hop
      obtain ⟨a, hx, b, hb, c, hc, d, hd, rfl⟩ := hop
      rw [szOf_eq hi] at he
      exact (good_slca H (hρ _ _ hx) (op_OAR hρ hb) (op_OAR hρ hc) (op_OAR hρ hd) (und_inv hu (by simp)) hi (fun g => by cases u <;> simp_all) he).toN
  · cases hop
theorem op_fad {t : TypeId} {x : Operand} {f : Nat} (hop : cOp P G names ⟨dst, .fieldAddr t x f, type, pos, after, guard⟩ = some (.op op)) (H : HR φ h w) (he : op.run r h = .ok v h') : GoodN φ h w v h' ((execOp ρ ⟨dst, .fieldAddr t x f, type, pos, after, guard⟩).run P w) := by
  simp only [cOp] at hop
  split at hop
  · rename_i fs hu
    simp only [bind, Option.bind_eq_some_iff] at hop
    obtain ⟨fd, hf, hop⟩ := hop
    split at hop
    · simp at hop
    · rename_i hs
      obtain ⟨i, hi, hs'⟩ := szOf_ne hs
      simp only [bind, pure, Option.bind_some, Option.bind_eq_some_iff, Option.some.injEq, AI.op.injEq] at hop
      obtain ⟨a, hx, rfl⟩ := hop
      exact (good_fad H (hρ _ _ hx) (und_inv hu (by simp)) hf hi hs' he).toN
  · cases hop
theorem op_field {t : TypeId} {x : Operand} {f : Nat} (hop : cOp P G names ⟨dst, .field t x f, type, pos, after, guard⟩ = some (.op op)) (H : HR φ h w) (he : op.run r h = .ok v h') : GoodN φ h w v h' ((execOp ρ ⟨dst, .field t x f, type, pos, after, guard⟩).run P w) := by
  simp only [cOp] at hop
  split at hop
  · rename_i fs hu
    simp only [bind, Option.bind_eq_some_iff] at hop
    obtain ⟨fd, hf, hop⟩ := hop
    split at hop
    · simp at hop
    · rename_i hs
      obtain ⟨d, hd⟩ := notNone hs
      obtain ⟨i, hi⟩ := info_of_und hd
      split at hop
      · rename_i ha
        simp only [bind, pure, Option.bind_some, Option.bind_eq_some_iff, Option.some.injEq, AI.op.injEq] at hop
        obtain ⟨a, hx, rfl⟩ := hop
        rw [szOf_eq hi] at he
        exact (good_fldn H (hρ _ _ hx) (und_inv hu (by simp)) hf hd ha hi he).toN
      · rename_i ha
        simp only [bind, pure, Option.bind_some, Option.bind_eq_some_iff, Option.some.injEq, AI.op.injEq] at hop
        obtain ⟨a, hx, rfl⟩ := hop
        exact (good_fld1 H (hρ _ _ hx) (und_inv hu (by simp)) hf hd (by simpa using ha) he).toN
  · cases hop
theorem op_ixad {t : TypeId} {x y : Operand} (hop : cOp P G names ⟨dst, .indexAddr t x y, type, pos, after, guard⟩ = some (.op op)) (H : HR φ h w) (he : op.run r h = .ok v h') : GoodN φ h w v h' ((execOp ρ ⟨dst, .indexAddr t x y, type, pos, after, guard⟩).run P w) := by
  simp only [cOp] at hop
  split at hop
  · rename_i n e hu
    split at hop
    · simp at hop
    · rename_i hs
      obtain ⟨i, hi⟩ := notNone hs
      simp only [bind, pure, Option.bind_some, Option.bind_eq_some_iff, Option.some.injEq, AI.op.injEq] at hop
      obtain ⟨a, hx, b, hb, rfl⟩ := hop
      rw [szOf_eq hi] at he
      exact (good_ixa H (hρ _ _ hx) (hρ _ _ hb) (und_inv hu (by simp)) hi he).toN
  · rename_i e hu
    split at hop
    · simp at hop
    · rename_i hs
      obtain ⟨i, hi⟩ := notNone hs
      simp only [bind, pure, Option.bind_some, Option.bind_eq_some_iff, Option.some.injEq, AI.op.injEq] at hop
      obtain ⟨a, hx, b, hb, rfl⟩ := hop
      rw [szOf_eq hi] at he
      exact (good_ixs H (hρ _ _ hx) (hρ _ _ hb) (und_inv hu (by simp)) hi he).toN
  · cases hop
theorem op_index {t : TypeId} {x y : Operand} (hop : cOp P G names ⟨dst, .index t x y, type, pos, after, guard⟩ = some (.op op)) (H : HR φ h w) (he : op.run r h = .ok v h') : GoodN φ h w v h' ((execOp ρ ⟨dst, .index t x y, type, pos, after, guard⟩).run P w) := by
  simp only [cOp] at hop
  split at hop
  · rename_i hu
    simp only [bind, pure, Option.bind_some, Option.bind_eq_some_iff, Option.some.injEq, AI.op.injEq] at hop
    obtain ⟨a, hx, b, hb, rfl⟩ := hop
    exact (good_idxs H (hρ _ _ hx) (hρ _ _ hb) (und_inv hu (by simp)) he).toN
  · rename_i n e hu
    split at hop
    · simp at hop
    · rename_i hs
      obtain ⟨d, hd⟩ := notNone hs
      obtain ⟨i, hi⟩ := info_of_und hd
      simp only [bind, pure, Option.bind_some, Option.bind_eq_some_iff, Option.some.injEq, AI.op.injEq] at hop
      obtain ⟨a, hx, b, hb, rfl⟩ := hop
      rw [szOf_eq hi] at he
      exact (good_idxa H (hρ _ _ hx) (hρ _ _ hb) (und_inv hu (by simp)) hd hi he).toN
  · cases hop
theorem op_lkp {t : TypeId} {x y : Operand} {ok : Bool} (hop : cOp P G names ⟨dst, .lookup t x y ok, type, pos, after, guard⟩ = some (.op op)) (H : HR φ h w) (he : op.run r h = .ok v h') : GoodN φ h w v h' ((execOp ρ ⟨dst, .lookup t x y ok, type, pos, after, guard⟩).run P w) := by
  simp only [cOp] at hop
  split at hop
  · rename_i k e hu
    simp only [bind, pure, Option.bind_some, Option.bind_eq_some_iff, Option.some.injEq, AI.op.injEq] at hop
    obtain ⟨kt, hk, z, hz, a, hx, b, hb, rfl⟩ := hop
    obtain ⟨k', e', hu', hk'⟩ := mapK_inv hk
    have := und_inv hu (by simp)
    rw [this] at hu'; cases hu'
    exact (good_lkp H (hρ _ _ hx) (hρ _ _ hb) this hk' hz he).toN
  · cases hop
theorem op_mup {t : TypeId} {x y z : Operand} (hop : cOp P G names ⟨dst, .mapUpdate t x y z, type, pos, after, guard⟩ = some (.op op)) (H : HR φ h w) (he : op.run r h = .ok v h') : GoodN φ h w v h' ((execOp ρ ⟨dst, .mapUpdate t x y z, type, pos, after, guard⟩).run P w) := by
  simp only [cOp, bind, Option.bind_eq_some_iff, Option.some.injEq, AI.op.injEq] at hop
  obtain ⟨kt, hk, a, hx, b, hb, c, hc, rfl⟩ := hop
  obtain ⟨k', e', hu', hk'⟩ := mapK_inv hk
  obtain ⟨g1, g2⟩ := good_mup H (hρ _ _ hx) (hρ _ _ hb) (hρ _ _ hc) hu' hk' he
  exact g2.toN g1
theorem op_ins {t : TypeId} {x y z : Operand} (hop : cOp P G names ⟨dst, .insert t x y z, type, pos, after, guard⟩ = some (.op op)) (H : HR φ h w) (he : op.run r h = .ok v h') : GoodN φ h w v h' ((execOp ρ ⟨dst, .insert t x y z, type, pos, after, guard⟩).run P w) := by
  simp only [cOp, bind, Option.bind_eq_some_iff, Option.some.injEq, AI.op.injEq] at hop
  obtain ⟨kt, hk, a, hx, b, hb, c, hc, rfl⟩ := hop
  obtain ⟨k', e', hu', hk'⟩ := mapK_inv hk
  obtain ⟨g1, g2⟩ := good_mup H (hρ _ _ hx) (hρ _ _ hb) (hρ _ _ hc) hu' hk' he
  exact g2.toN g1
theorem op_range {t : TypeId} {x : Operand} (hop : cOp P G names ⟨dst, .range t x, type, pos, after, guard⟩ = some (.op op)) (H : HR φ h w) (he : op.run r h = .ok v h') : GoodN φ h w v h' ((execOp ρ ⟨dst, .range t x, type, pos, after, guard⟩).run P w) := by
  simp only [cOp] at hop
  split at hop
  · rename_i k e hu
    simp only [bind, pure, Option.bind_some, Option.bind_eq_some_iff, Option.some.injEq, AI.op.injEq] at hop
    obtain ⟨a, hx, rfl⟩ := hop
    exact (good_rngm H (hρ _ _ hx) (und_inv hu (by simp)) he).toN
  · cases hop
theorem op_ent {x : Operand} (hop : cOp P G names ⟨dst, .entry x, type, pos, after, guard⟩ = some (.op op)) (H : HR φ h w) (he : op.run r h = .ok v h') : GoodN φ h w v h' ((execOp ρ ⟨dst, .entry x, type, pos, after, guard⟩).run P w) := by
  simp only [cOp, bind, Option.bind_eq_some_iff, Option.some.injEq, AI.op.injEq] at hop
  obtain ⟨a, hx, rfl⟩ := hop
  exact (good_ent H (hρ _ _ hx) he).toN
theorem op_tas {t u : TypeId} {x : Operand} {ok : Bool} (hop : cOp P G names ⟨dst, .typeAssert x u t ok, type, pos, after, guard⟩ = some (.op op)) (H : HR φ h w) (he : op.run r h = .ok v h') : GoodN φ h w v h' ((execOp ρ ⟨dst, .typeAssert x u t ok, type, pos, after, guard⟩).run P w) := by
  simp only [cOp] at hop
  split at hop
  · simp at hop
  · rename_i hs
    by_cases hn : (P.underlying t).isNone = true
    · simp [hn] at hop
    · rw [if_neg (by simp [hn])] at hop
      obtain ⟨d, hd⟩ := notNone hn
      simp only [bind, pure, Option.bind_some, Option.bind_eq_some_iff, Option.some.injEq, AI.op.injEq] at hop
      obtain ⟨z, hz, a, hx, rfl⟩ := hop
      refine (good_tas H (hρ _ _ hx) hd (fun m e => ?_) hz he).toN
      subst e
      exact hs m (by simp [und, hd])
theorem op_ext {x : Operand} {i : Nat} (hop : cOp P G names ⟨dst, .extract x i, type, pos, after, guard⟩ = some (.op op)) (H : HR φ h w) (he : op.run r h = .ok v h') : GoodN φ h w v h' ((execOp ρ ⟨dst, .extract x i, type, pos, after, guard⟩).run P w) := by
  simp only [cOp, bind, Option.bind_eq_some_iff, Option.some.injEq, AI.op.injEq] at hop
  obtain ⟨a, hx, rfl⟩ := hop
  exact (good_ext H (hρ _ _ hx) he).toN
theorem op_call {c : Call} (hop : cOp P G names ⟨dst, .call c, type, pos, after, guard⟩ = some (.op op)) (H : HR φ h w) (he : op.run r h = .ok v h') : GoodN φ h w v h' ((execOp ρ ⟨dst, .call c, type, pos, after, guard⟩).run P w) := by
  simp only [cOp, bind, Option.bind_eq_some_iff] at hop
  obtain ⟨xs, hxs, hop⟩ := hop
  have g1 := evs_VRL (φ := φ) (r := r) (ρ := ρ) hxs (fun o _ a ha => hρ _ _ ha)
  split at hop
  · rename_i b hb
    simp only [Option.map_eq_some_iff, AI.op.injEq] at hop
    obtain ⟨o, ho, rfl⟩ := hop
    obtain ⟨s, e, hg⟩ := good_builtin (ty := type) (cs := c.args.map fun | .const _ => true | _ => false) ho H g1 he
    have e2 : c.args.map ρ = (c.args.toList.map ρ).toArray := by apply Array.ext'; simp
    have : (execOp ρ ⟨dst, .call c, type, pos, after, guard⟩).run P w = (do pure (.value (← s)) : Sem Next).run P w := by
      rw [← e, ← e2]
      simp only [execOp, resolve, hb, Sem.run_bind, Sem.run_pure, Result.andThen_ok, invoke]
      rfl
    rw [this]
    exact hg.toN
  · cases hop
  · simp only [bind, Option.bind_eq_some_iff, Option.some.injEq] at hop
    obtain ⟨a, _, e⟩ := hop; cases e
  · simp only [bind, Option.bind_eq_some_iff, Option.some.injEq] at hop
    obtain ⟨a, _, b, _, e⟩ := hop; cases e
theorem op_ment {t : TypeId} {x y : Operand} (hop : cOp P G names ⟨dst, .mapEntry t x y, type, pos, after, guard⟩ = some (.op op)) (H : HR φ h w) (he : op.run r h = .ok v h') : GoodN φ h w v h' ((execOp ρ ⟨dst, .mapEntry t x y, type, pos, after, guard⟩).run P w) := by
  simp only [cOp] at hop
  split at hop
  · rename_i k e hu
    simp only [bind, pure, Option.bind_some, Option.bind_eq_some_iff, Option.some.injEq, AI.op.injEq] at hop
    obtain ⟨kt, hk, zv, hz, a, hx, b, hb, rfl⟩ := hop
    obtain ⟨k', e', hu', hk'⟩ := mapK_inv hk
    have hu2 := und_inv hu (by simp)
    rw [hu2] at hu'
    cases hu'
    exact (good_ment H (hρ _ _ hx) (hρ _ _ hb) hu2 hk' hz he).toN
  · cases hop
theorem op_esto {t : TypeId} {x y z : Operand} (hop : cOp P G names ⟨dst, .entryStore t x y z, type, pos, after, guard⟩ = some (.op op)) (H : HR φ h w) (he : op.run r h = .ok v h') : GoodN φ h w v h' ((execOp ρ ⟨dst, .entryStore t x y z, type, pos, after, guard⟩).run P w) := by
  simp only [cOp, bind, Option.bind_eq_some_iff, Option.some.injEq, AI.op.injEq] at hop
  obtain ⟨a, hx, b, hb, c, hc, rfl⟩ := hop
  obtain ⟨g1, g2⟩ := good_esto (t := t) H (hρ _ _ hx) (hρ _ _ hb) (hρ _ _ hc) he
  exact g2.toN g1
end
end Go.Am
namespace Go.Am
variable {P : Program} {φ : Phi} {h h' : Hp} {w : World} {v : AV} {r : A2} {cx cy : Value} {t : TypeId} {G : Gl} {ρ : Operand → Value} {names : List String}
theorem good_op {op : AOp} {o : Oper} (hρ : ∀ q x, cO G q = some x → VR φ (ev x r) (ρ q)) (hc : ∀ c, ρ (.const c) = c) (hop : cOp P G names o = some (.op op)) (H : HR φ h w) (he : op.run r h = .ok v h') :
    GoodN φ h w v h' ((execOp ρ o).run P w) := by
  obtain ⟨dst, x, type, pos, after, guard⟩ := o
  cases x with
  | move x => exact op_mv hρ hop H he
  | assign x => exact op_as hρ hop H he
  | pick c a b => exact op_pick hρ hop H he
  | alloc e => exact op_alloc hρ hop H he
  | box e x => exact op_box hρ hop H he
  | build t ps => exact op_build hρ hop H he
  | buildSlice t n ps => exact op_bslice hρ hop H he
  | insert t m k x => exact op_ins hρ hop H he
  | load t x => exact op_load hρ hop H he
  | store t x y => exact op_store hρ hop H he
  | ready g => cases hop
  | waits g => cases hop
  | nilCheck x => exact op_nilc hρ hop H he
  | binOp o t x y u => exact op_bin hρ hc hop H he
  | unOp o t x => exact op_un hρ hop H he
  | convert s d x => exact op_conv hρ hop H he
  | sliceToArrayPointer d x => cases hop
  | makeInterface t x => exact op_mki hρ hop H he
  | makeFunc f a b => exact op_mkf hρ hop H he
  | makeMap t re => exact op_mkmap hρ hc hop H he
  | makeChan t x => cases hop
  | makeSlice t l c => exact op_mkslice hρ hop H he
  | slice t x l u m => exact op_slice hρ hop H he
  | fieldAddr t x f => exact op_fad hρ hop H he
  | field t x f => exact op_field hρ hop H he
  | indexAddr t x i => exact op_ixad hρ hop H he
  | index t x i => exact op_index hρ hop H he
  | lookup t x i ok => exact op_lkp hρ hop H he
  | mapUpdate t m k x => exact op_mup hρ hop H he
  | mapEntry t m k => exact op_ment hρ hop H he
  | entryStore t m s x => exact op_esto hρ hop H he
  | range t x => exact op_range hρ hop H he
  | next x s =>
    simp only [cOp] at hop
    split at hop
    · simp at hop
    · simp only [bind, Option.bind_eq_some_iff, Option.some.injEq] at hop
      obtain ⟨a, _, e⟩ := hop; cases e
  | entry x => exact op_ent hρ hop H he
  | typeAssert x u t ok => exact op_tas hρ hop H he
  | extract x i => exact op_ext hρ hop H he
  | call c => exact op_call hρ hop H he
  | go c => cases hop
  | defer c => cases hop
  | panic x => cases hop
  | send c x => cases hop
  | recv t c ok => cases hop
  | select cs b => cases hop
theorem good_nxt {s : Bool} {x : AO} {o : Oper} (hρ : ∀ q x, cO G q = some x → VR φ (ev x r) (ρ q)) (hop : cOp P G names o = some (.nxt s x)) (H : HR φ h w) (hs : (nextT s (ev x r) h).Safe) :
    ∃ cv w' φ' v h', (nextT s (ev x r) h).Leaf (.ok v h') ∧ (execOp ρ o).run P w = .ok (.value cv) w' ∧ VR φ' v cv ∧ HR φ' h' w' ∧ Step φ h w φ' h' w' := by
  obtain ⟨dst, y, type, pos, after, guard⟩ := o
  have hy : ∃ q, y = .next q false ∧ s = false ∧ cO G q = some x := by
    simp only [cOp] at hop
    split at hop
    case h_28 q b =>
      split at hop
      · simp at hop
      · rename_i hb
        simp only [bind, Option.bind_eq_some_iff, Option.some.injEq, AI.nxt.injEq] at hop
        obtain ⟨a, ha, hb', rfl⟩ := hop
        subst hb'
        have : b = false := by simpa using hb
        subst this
        exact ⟨q, rfl, rfl, ha⟩
    case h_21 =>
      split at hop
      · simp only [bind, Option.bind_eq_some_iff] at hop
        obtain ⟨fd, _, hop⟩ := hop
        split at hop
        · simp at hop
        · split at hop <;> simp [Option.bind_eq_some_iff] at hop
      · cases hop
    all_goals (repeat' split at hop) <;> simp [Option.bind_eq_some_iff, Option.map_eq_some_iff] at hop
  obtain ⟨q, rfl, rfl, hq⟩ := hy
  obtain ⟨v, h', h1, cv, w', φ', e, h2, h3, h4⟩ := good_nextM (P := P) (ty := type) H (hρ _ _ hq) hs
  refine ⟨cv, w', φ', v, h', h1, ?_, h2, h3, h4⟩
  simp only [execOp, Sem.run_bind, e, Result.andThen_ok, Sem.run_pure]
end Go.Am
namespace Go.Am
inductive RS.Leaf : RS → RS → Prop
  | nm (r : A2) (h : Hp) : Leaf (.nm r h) (.nm r h)
  | ex (i : Nat) (r : A2) (h : Hp) : Leaf (.ex i r h) (.ex i r h)
  | go (i : Nat) (r : A2) (h : Hp) : Leaf (.go i r h) (.go i r h)
  | ret (r : A2) (h : Hp) : Leaf (.ret r h) (.ret r h)
  | err (n : Nat) : Leaf (.err n) (.err n)
  | ch (n : Nat) (k : Nat → RS) (c : Nat) (y : RS) : c < n → Leaf (k c) y → Leaf (.ch n k) y
def RS.Safe (x : RS) : Prop := ∀ n, ¬ x.Leaf (.err n)
theorem RS.Safe.err {n : Nat} (h : (RS.err n).Safe) : False := h n (.err n)
theorem leaf_stepT {d : Dst} {k : A2 → Hp → RS} {r : A2} {v : AV} {h' : Hp} {y : RS} : ∀ {x z : RT}, x.Leaf z → z = .ok v h' → (k (dset d v r) h').Leaf y → (stepT d k r x).Leaf y
  | _, _, .ok v h, e, g => by cases e; exact g
  | _, _, .err n, e, g => by cases e
  | _, _, .ch n kk c y' hc hl, e, g => .ch n _ c _ hc (leaf_stepT hl e g)
theorem leaf_stepT_err {d : Dst} {k : A2 → Hp → RS} {r : A2} {n : Nat} : ∀ {x z : RT}, x.Leaf z → z = .err n → (stepT d k r x).Leaf (.err n)
  | _, _, .ok v h, e => by cases e
  | _, _, .err n, e => by cases e; exact .err n
  | _, _, .ch n kk c y' hc hl, e => .ch n _ c _ hc (leaf_stepT_err hl e)
theorem safe_stepT {d : Dst} {k : A2 → Hp → RS} {r : A2} {x : RT} (hs : (stepT d k r x).Safe) : x.Safe ∧ ∀ v h', x.Leaf (.ok v h') → (k (dset d v r) h').Safe :=
  ⟨fun n hl => hs n (leaf_stepT_err hl rfl), fun _ _ hl n hn => hs n (leaf_stepT hl rfl hn)⟩
noncomputable def AI.res (i : AI) (p : Pg) (run : Run) (r : A2) (h : Hp) : RT := match i with
  | .op o => (o.run r h).toT
  | .nxt s x => nextT s (ev x r) h
  | .call f xs => callF p run f (evs xs r) h
  | .calld x xs => callD p run (ev x r) (evs xs r) h
  | .inv n x xs => callI p run n (ev x r) (evs xs r) h
theorem exec_res (i : AI) (p : Pg) (run : Run) (d : Dst) (k : A2 → Hp → RS) (r : A2) (h : Hp) : i.exec p run d k r h = stepT d k r (i.res p run r h) := by
  cases i with
  | op o =>
    show stepK d k r (o.run r h) = stepT d k r (o.run r h).toT
    cases o.run r h <;> rfl
  | _ => rfl
theorem toT_safe {v : RV} (hs : v.toT.Safe) : ∃ a h, v = .ok a h := by
  cases v with
  | ok a h => exact ⟨a, h, rfl⟩
  | err n => exact (RT.Safe.err hs).elim
abbrev NB (G : Gl) : Prop := Nonempty (G.b = none)
instance nb0 : NB 0 := ⟨rfl⟩
instance nbk {n : Nat} {l : List (P4 × Nat)} : NB ⟨n, l, none⟩ := ⟨rfl⟩
theorem nb (G : Gl) [i : NB G] : G.b = none := i.elim id
theorem sl_ok {G : Gl} {t s : Nat} (e : G.sl t = some s) : s < 256 ∧ G.tm s = t := by
  unfold Gl.sl at e
  unfold Gl.tm
  cases hb : G.b with
  | none =>
    rw [hb] at e
    have e : (if t < 256 then some t else none) = some s := e
    split at e
    · rename_i h1; cases e; exact ⟨h1, rfl⟩
    · cases e
  | some q =>
    rw [hb] at e
    have e : (if t < 16 * q then (if t < 256 then some t else none) else if t < 16 * q + 16 then none else if t < 272 then some (t - 16) else none) = some s := e
    split at e
    · rename_i h1
      split at e
      · rename_i h2; cases e; exact ⟨h2, if_pos h1⟩
      · cases e
    · split at e
      · cases e
      · rename_i h1 h2
        split at e
        · rename_i h3
          cases e
          refine ⟨by omega, ?_⟩
          show (if t - 16 < 16 * q then t - 16 else t - 16 + 16) = t
          rw [if_neg (by omega)]
          omega
        · cases e
theorem tm_inj {G : Gl} {s t : Nat} (e : G.tm s = G.tm t) : s = t := by
  unfold Gl.tm at e
  cases hb : G.b with
  | none => rw [hb] at e; exact e
  | some q =>
    rw [hb] at e
    have e : (if s < 16 * q then s else s + 16) = (if t < 16 * q then t else t + 16) := e
    split at e <;> split at e <;> omega
theorem tm_none (G : Gl) [NB G] (s : Nat) : G.tm s = s := by unfold Gl.tm; rw [nb G]
theorem sl_none (G : Gl) [NB G] (t : Nat) : G.sl t = if t < 256 then some t else none := by unfold Gl.sl; rw [nb G]
theorem sl_some {G : Gl} [NB G] {t : Nat} (h : t < 256) : G.sl t = some t := by rw [sl_none, if_pos h]
theorem sl_inv {G : Gl} [NB G] {t s : Nat} (e : G.sl t = some s) : s = t ∧ t < 256 := by
  rw [sl_none] at e
  split at e
  · rename_i h; cases e; exact ⟨rfl, h⟩
  · cases e
def Glob (G : Gl) (φ : Phi) : Prop := (∀ g, g < G.n → ∃ room, φ (P4.of g) = some ⟨g, 0, room⟩) ∧ ∀ x, x ∈ G.sy → φ x.1 = some ⟨0, 0, x.2⟩
theorem Glob.mono {G : Gl} {φ ψ : Phi} (g : Glob G φ) (h : φ.le ψ) : Glob G ψ := ⟨fun i hi => let ⟨room, e⟩ := g.1 i hi; ⟨room, h _ _ e⟩, fun x hx => h _ _ (g.2 x hx)⟩
structure St (n : Nat) (G : Gl) (φ : Phi) (r : A2) (h : Hp) (a : Act) (w : World) : Prop where
  hr : HR φ h w
  regs : ∀ t, t < 256 → VR φ (rget (hi t) (lo t) r) (a.tmps.getD (G.tm t) undef)
  nodef : a.defers = []
  size : n ≤ a.tmps.size
  glob : Glob G φ
variable {P : Program} {φ φ' : Phi} {h h' : Hp} {w w' : World} {v : AV} {r : A2} {a : Act} {cv : Value} {n : Nat} {G : Gl} {names : List String} {p : Pg} {run : Run}
theorem hilo {s t : Nat} (hs : s < 256) (ht : t < 256) : (hi s = hi t ∧ lo s = lo t) ↔ s = t := by
  constructor
  · rintro ⟨h1, h2⟩
    have e1 := dig_inj (show s / 16 < 16 by omega) (show t / 16 < 16 by omega) h1
    have e2 := dig_inj (show s % 16 < 16 by omega) (show t % 16 < 16 by omega) h2
    omega
  · rintro rfl; exact ⟨rfl, rfl⟩
theorem St.opd (S : St n G φ r h a w) {q : Operand} {x : AO} (e : cO G q = some x) : VR φ (ev x r) (a.eval q) := by
  cases q with
  | tmp t =>
    simp only [cO, Option.map_eq_some_iff] at e
    obtain ⟨s, hs, rfl⟩ := e
    obtain ⟨h1, h2⟩ := sl_ok hs
    have := S.regs s h1
    rw [h2] at this
    exact this
  | const c =>
    simp only [cO, Option.map_eq_some_iff] at e
    obtain ⟨b, hb, rfl⟩ := e
    exact toAV2_VR hb φ
  | global g =>
    simp only [cO] at e
    split at e
    · rename_i hg
      cases e
      obtain ⟨room, hp⟩ := S.glob.1 g hg
      have := VR.ptr (φ := φ) _ 0 _ hp
      show VR φ (.ptr (P4.of g) 0) (.pointer (some ⟨g, 0, none⟩))
      simpa [Place.addr] using this
    · cases e
  | func f => cases e; exact .fn f [] [] .nil
theorem St.put (S : St n G φ r h a w) {o : Option Tmp} {d : Dst} (hd : cDst G n o = some d) (hv : VR φ' v cv) (H : HR φ' h' w') (T : Step φ h w φ' h' w') : St n G φ' (dset d v r) h' (a.put o cv) w' := by
  cases o with
  | none =>
    cases hd
    exact ⟨H, fun t ht => (S.regs t ht).mono T.le, S.nodef, S.size, S.glob.mono T.le⟩
  | some t =>
    simp only [cDst] at hd
    split at hd
    · rename_i s hs
      split at hd
      · rename_i hn
        cases hd
        obtain ⟨h1, h2⟩ := sl_ok hs
        refine ⟨H, fun u hu => ?_, S.nodef, by simpa [Act.put] using S.size, S.glob.mono T.le⟩
        show VR φ' (rget (hi u) (lo u) (rset (hi s) (lo s) v r)) ((a.tmps.setIfInBounds t cv).getD (G.tm u) undef)
        rw [rget_rset]
        by_cases e : u = s
        · subst e
          rw [if_pos ⟨rfl, rfl⟩, h2]
          have : (a.tmps.setIfInBounds t cv).getD t undef = cv := by
            have h3 : t < a.tmps.size := Nat.lt_of_lt_of_le hn S.size
            simp [Array.getD, h3]
          rw [this]; exact hv
        · rw [if_neg (fun g => e ((hilo hu h1).1 g))]
          have hne : G.tm u ≠ t := fun g => e (tm_inj (g.trans h2.symm))
          have : (a.tmps.setIfInBounds t cv).getD (G.tm u) undef = a.tmps.getD (G.tm u) undef := by
            simp only [Array.getD_eq_getD_getElem?, Array.getElem?_setIfInBounds, if_neg (Ne.symm hne)]
          rw [this]; exact (S.regs u hu).mono T.le
      · cases hd
    · cases hd
theorem St.reg [NB G] (S : St n G φ r h a w) (t : Nat) (ht : t < 256) : VR φ (rget (hi t) (lo t) r) (a.tmps.getD t undef) := by
  have := S.regs t ht
  rw [tm_none] at this
  exact this
theorem St.mk' [NB G] (hr : HR φ h w) (regs : ∀ t, t < 256 → VR φ (rget (hi t) (lo t) r) (a.tmps.getD t undef)) (nodef : a.defers = []) (size : n ≤ a.tmps.size) (glob : Glob G φ) : St n G φ r h a w :=
  ⟨hr, fun t ht => by rw [tm_none]; exact regs t ht, nodef, size, glob⟩
theorem cDst_inv [NB G] {t : Nat} {d : Dst} (hd : cDst G n (some t) = some d) : t < 256 ∧ t < n ∧ d = .t (hi t) (lo t) := by
  simp only [cDst] at hd
  split at hd
  · rename_i s hs
    obtain ⟨rfl, h1⟩ := sl_inv hs
    split at hd
    · rename_i h2; cases hd; exact ⟨h1, h2, rfl⟩
    · cases hd
  · cases hd
theorem cDst_at [NB G] {t : Nat} (h1 : t < 256) (h2 : t < n) : cDst G n (some t) = some (.t (hi t) (lo t)) := by
  simp only [cDst, sl_some h1, if_pos h2]
theorem cO_at [NB G] {t : Nat} (h1 : t < 256) : cO G (.tmp t) = some (.t (hi t) (lo t)) := by
  simp only [cO, sl_some h1, Option.map_some]
theorem get_mk16 {f : Nat → A1} : ∀ {i : Nat}, i < 16 → A2.get (dig i) (.mk (f 0) (f 1) (f 2) (f 3) (f 4) (f 5) (f 6) (f 7) (f 8) (f 9) (f 10) (f 11) (f 12) (f 13) (f 14) (f 15)) = f i := by
  intro i hi
  match i, hi with
  | 0, _ => rfl
  | 1, _ => rfl
  | 2, _ => rfl
  | 3, _ => rfl
  | 4, _ => rfl
  | 5, _ => rfl
  | 6, _ => rfl
  | 7, _ => rfl
  | 8, _ => rfl
  | 9, _ => rfl
  | 10, _ => rfl
  | 11, _ => rfl
  | 12, _ => rfl
  | 13, _ => rfl
  | 14, _ => rfl
  | 15, _ => rfl
  | k + 16, h => omega
theorem rget_drop {q s : Nat} (hs : s < 256) : rget (hi s) (lo s) (dropP q r) = if s < 16 * q then rget (hi s) (lo s) r else if s < 240 then rget (hi (s + 16)) (lo (s + 16)) r else .undef := by
  show A1.get (lo s) (A2.get (dig (s / 16)) (dropP q r)) = _
  have e : A2.get (dig (s / 16)) (dropP q r) = pgD q r (s / 16) := get_mk16 (f := pgD q r) (by omega)
  rw [e]
  show A1.get (lo s) (@Bool.rec (fun _ => A1) (A2.get (dig (s / 16)) r) (@Bool.rec (fun _ => A1) (A2.get (dig (Nat.succ (s / 16))) r) .nil (Nat.beq (s / 16) 15)) (Nat.ble q (s / 16))) = _
  cases h1 : Nat.ble q (s / 16) with
  | false =>
    have h1 : ¬ q ≤ s / 16 := fun g => by rw [Nat.ble_eq_true_of_le g] at h1; cases h1
    rw [if_pos (by omega)]
    rfl
  | true =>
    have h1 := Nat.le_of_ble_eq_true h1
    rw [if_neg (by omega)]
    cases h2 : Nat.beq (s / 16) 15 with
    | true =>
      have h2 := Nat.eq_of_beq_eq_true h2
      rw [if_neg (by omega)]
      exact A1.get_nil _
    | false =>
      have h2 : s / 16 ≠ 15 := fun g => by rw [g] at h2; cases h2
      rw [if_pos (by omega)]
      have e1 : (s + 16) / 16 = Nat.succ (s / 16) := by omega
      have e2 : (s + 16) % 16 = s % 16 := by omega
      show A1.get (dig (s % 16)) (A2.get (dig (Nat.succ (s / 16))) r) = A1.get (dig ((s + 16) % 16)) (A2.get (dig ((s + 16) / 16)) r)
      rw [e1, e2]
theorem rget_ins {q s : Nat} (hs : s < 256) : rget (hi s) (lo s) (insP q r) = if s < 16 * q then rget (hi s) (lo s) r else if s < 16 * q + 16 then .undef else rget (hi (s - 16)) (lo (s - 16)) r := by
  show A1.get (lo s) (A2.get (dig (s / 16)) (insP q r)) = _
  have e : A2.get (dig (s / 16)) (insP q r) = pgI q r (s / 16) := get_mk16 (f := pgI q r) (by omega)
  rw [e]
  show A1.get (lo s) (@Bool.rec (fun _ => A1) (A2.get (dig (Nat.pred (s / 16))) r) (@Bool.rec (fun _ => A1) (A2.get (dig (s / 16)) r) .nil (Nat.beq (s / 16) q)) (Nat.ble (s / 16) q)) = _
  cases h1 : Nat.ble (s / 16) q with
  | false =>
    have h1 : ¬ s / 16 ≤ q := fun g => by rw [Nat.ble_eq_true_of_le g] at h1; cases h1
    rw [if_neg (by omega), if_neg (by omega)]
    have e1 : (s - 16) / 16 = Nat.pred (s / 16) := by show (s - 16) / 16 = s / 16 - 1; omega
    have e2 : (s - 16) % 16 = s % 16 := by omega
    show A1.get (dig (s % 16)) (A2.get (dig (Nat.pred (s / 16))) r) = A1.get (dig ((s - 16) % 16)) (A2.get (dig ((s - 16) / 16)) r)
    rw [e1, e2]
  | true =>
    have h1 := Nat.le_of_ble_eq_true h1
    cases h2 : Nat.beq (s / 16) q with
    | true =>
      have h2 := Nat.eq_of_beq_eq_true h2
      rw [if_neg (by omega), if_pos (by omega)]
      exact A1.get_nil _
    | false =>
      have h2 : s / 16 ≠ q := fun g => by rw [g, Nat.beq_refl] at h2; cases h2
      rw [if_pos (by omega)]
      rfl
theorem St.drop [NB G] (S : St n G φ r h a w) (q : Nat) : St n { G with b := some q } φ (dropP q r) h a w := by
  refine ⟨S.hr, fun t ht => ?_, S.nodef, S.size, S.glob⟩
  show VR φ _ (a.tmps.getD (if t < 16 * q then t else t + 16) undef)
  rw [rget_drop ht]
  by_cases h1 : t < 16 * q
  · rw [if_pos h1, if_pos h1]; exact S.reg t ht
  · rw [if_neg h1, if_neg h1]
    by_cases h2 : t < 240
    · rw [if_pos h2]; exact S.reg (t + 16) (by omega)
    · rw [if_neg h2]; exact .undef _
theorem St.ins [NB G] {q : Nat} (S : St n { G with b := some q } φ r h a w) : St n G φ (insP q r) h a w := by
  refine St.mk' S.hr (fun t ht => ?_) S.nodef S.size S.glob
  rw [rget_ins ht]
  by_cases h1 : t < 16 * q
  · rw [if_pos h1]
    have : VR φ (rget (hi t) (lo t) r) (a.tmps.getD (if t < 16 * q then t else t + 16) undef) := S.regs t ht
    rw [if_pos h1] at this
    exact this
  · rw [if_neg h1]
    by_cases h2 : t < 16 * q + 16
    · rw [if_pos h2]; exact .undef _
    · rw [if_neg h2]
      have : VR φ (rget (hi (t - 16)) (lo (t - 16)) r) (a.tmps.getD (if t - 16 < 16 * q then t - 16 else t - 16 + 16) undef) := S.regs (t - 16) (by omega)
      rw [if_neg (by omega), show t - 16 + 16 = t by omega] at this
      exact this
def MsOK (P : Program) (names : List String) (ms : List MR) : Prop := ∀ t k f, MR.mk t k f ∈ ms → ∃ name info m e, names[k]? = some name ∧ P.info? t = some info ∧ info.methods.find? (·.name == name) = some m ∧ m.path = #[] ∧ m.func = some (f, true) ∧ P.underlying t = some (.pointer e)
def CallPost (φ : Phi) (h : Hp) (w : World) (x : RT) : Ending → World → Prop := fun e w' => ∃ v h' cv φ', x.Leaf (.ok v h') ∧ e = .returned cv ∧ VR φ' v cv ∧ HR φ' h' w' ∧ Step φ h w φ' h' w'
def Called (P : Program) (f : Nat) (vals : Array Value) (w : World) (Q : Ending → World → Prop) : Prop := ((∃ fn c, P.funcs[f]? = some fn ∧ fn.name ≠ "runtime.NumGoroutine" ∧ fn.body = some c) ∧ Calls P f vals w Q) ∨
  ∃ cv w', (callFunc f vals).run P w = .ok (.value cv) w' ∧ Q (.returned cv) w'
def CallsOK (P : Program) (G : Gl) (p : Pg) (run : Run) : Prop := ∀ (f : Nat) (args : List AV) (h : Hp) (φ : Phi) (w : World) (vals : List Value), Glob G φ → HR φ h w → VRL φ args vals → (callF p run f args h).Safe →
  Called P f vals.toArray w (CallPost φ h w (callF p run f args h))
theorem run_callFunc {f : Nat} {args : Array Value} {fn : Func} {c : Code} (hf : P.funcs[f]? = some fn) (hn : fn.name ≠ "runtime.NumGoroutine") (hb : fn.body = some c) : (callFunc f args).run P w = .ok (.enter f args) w := by
  have hp : (program).run P w = .ok P w := rfl
  simp [callFunc, hp, hf, hn, hb]
theorem mfind_ok {t name : Nat} {k : Nat → RT} {n : Nat} : ∀ {ms : List MR}, (mfind t name ms k (.err n)).Safe → ∃ f, MR.mk t name f ∈ ms ∧ mfind t name ms k (.err n) = k f
  | [], hs => (RT.Safe.err hs).elim
  | .mk t' n' f :: ms, hs => by
    change RT.Safe (@Bool.rec (fun _ => RT) (mfind t name ms k (.err n)) (@Bool.rec (fun _ => RT) (mfind t name ms k (.err n)) (k f) (Nat.beq name n')) (Nat.beq t t')) at hs
    show ∃ f', _ ∧ (@Bool.rec (fun _ => RT) (mfind t name ms k (.err n)) (@Bool.rec (fun _ => RT) (mfind t name ms k (.err n)) (k f) (Nat.beq name n')) (Nat.beq t t')) = _
    cases h1 : Nat.beq t t' with
    | false =>
      rw [h1] at hs
      obtain ⟨f', m1, m2⟩ := mfind_ok (ms := ms) hs
      exact ⟨f', by simp [m1], m2⟩
    | true =>
      cases h2 : Nat.beq name n' with
      | false =>
        rw [h1, h2] at hs
        obtain ⟨f', m1, m2⟩ := mfind_ok (ms := ms) hs
        exact ⟨f', by simp [m1], m2⟩
      | true =>
        have e1 := Nat.eq_of_beq_eq_true h1
        have e2 := Nat.eq_of_beq_eq_true h2
        subst e1 e2
        exact ⟨f, by simp, rfl⟩
theorem nameNo_ok {s : String} {k : Nat} (e : nameNo names s = some k) : names[k]? = some s := by
  unfold nameNo at e
  rw [List.findIdx?_eq_some_iff_getElem] at e
  obtain ⟨hk, h1, _⟩ := e
  rw [List.getElem?_eq_getElem hk]
  simp at h1
  rw [h1]
theorem run_method {ms : List MR} (M : MsOK P names ms) {t k f : Nat} (hm : MR.mk t k f ∈ ms) {s : String} (hk : names[k]? = some s) (d : Nat) (cv : Value) : (method (d + 1) t cv s).run P w = .ok (f, cv) w := by
  obtain ⟨name, info, m, e, h1, h2, h3, h4, h5, h6⟩ := M t k f hm
  rw [hk] at h1; cases h1
  simp [method, run_info h2, h3, h4, h5, follow, receiverAt, run_und h6, Place.get]
end Go.Am
namespace Go.Am
variable {P : Program} {φ φ' : Phi} {h h' : Hp} {w w' : World} {v : AV} {r : A2} {a : Act} {cv : Value} {n : Nat} {G : Gl} {names : List String} {p : Pg} {run : Run}
theorem cOp_call {o : Oper} {f : Nat} {xs : List AO} (hop : cOp P G names o = some (.call f xs)) :
    ∃ c, o.op = .call c ∧ c.callee = .value (.func f) ∧ c.args.toList.mapM (cO G) = some xs := by
  obtain ⟨dst, y, type, pos, after, guard⟩ := o
  simp only [cOp] at hop
  split at hop
  case h_21 =>
    split at hop
    · simp only [bind, Option.bind_eq_some_iff] at hop
      obtain ⟨fd, _, hop⟩ := hop
      split at hop
      · simp at hop
      · split at hop <;> simp [Option.bind_eq_some_iff] at hop
    · cases hop
  case h_32 c =>
    simp only [bind, Option.bind_eq_some_iff] at hop
    obtain ⟨ys, hys, hop⟩ := hop
    split at hop
    · simp [Option.map_eq_some_iff] at hop
    · rename_i g hc
      cases hop
      exact ⟨c, rfl, hc, hys⟩
    · simp [Option.bind_eq_some_iff] at hop
    · simp [Option.bind_eq_some_iff] at hop
  all_goals (repeat' split at hop) <;> simp [Option.bind_eq_some_iff, Option.map_eq_some_iff] at hop
theorem cOp_calld {o : Oper} {x : AO} {xs : List AO} (hop : cOp P G names o = some (.calld x xs)) :
    ∃ c y, o.op = .call c ∧ c.callee = .value y ∧ cO G y = some x ∧ c.args.toList.mapM (cO G) = some xs := by
  obtain ⟨dst, y, type, pos, after, guard⟩ := o
  simp only [cOp] at hop
  split at hop
  case h_21 =>
    split at hop
    · simp only [bind, Option.bind_eq_some_iff] at hop
      obtain ⟨fd, _, hop⟩ := hop
      split at hop
      · simp at hop
      · split at hop <;> simp [Option.bind_eq_some_iff] at hop
    · cases hop
  case h_32 c =>
    simp only [bind, Option.bind_eq_some_iff] at hop
    obtain ⟨ys, hys, hop⟩ := hop
    split at hop
    · simp [Option.map_eq_some_iff] at hop
    · cases hop
    · rename_i z hz hc
      simp only [Option.bind_eq_some_iff, Option.some.injEq, AI.calld.injEq] at hop
      obtain ⟨b, hb, rfl, rfl⟩ := hop
      exact ⟨c, z, rfl, hc, hb, hys⟩
    · simp [Option.bind_eq_some_iff] at hop
  all_goals (repeat' split at hop) <;> simp [Option.bind_eq_some_iff, Option.map_eq_some_iff] at hop
theorem cOp_inv {o : Oper} {k : Nat} {x : AO} {xs : List AO} (hop : cOp P G names o = some (.inv k x xs)) :
    ∃ c y name, o.op = .call c ∧ c.callee = .invoke y name ∧ nameNo names name = some k ∧ cO G y = some x ∧ c.args.toList.mapM (cO G) = some xs := by
  obtain ⟨dst, y, type, pos, after, guard⟩ := o
  simp only [cOp] at hop
  split at hop
  case h_21 =>
    split at hop
    · simp only [bind, Option.bind_eq_some_iff] at hop
      obtain ⟨fd, _, hop⟩ := hop
      split at hop
      · simp at hop
      · split at hop <;> simp [Option.bind_eq_some_iff] at hop
    · cases hop
  case h_32 c =>
    simp only [bind, Option.bind_eq_some_iff] at hop
    obtain ⟨ys, hys, hop⟩ := hop
    split at hop
    · simp [Option.map_eq_some_iff] at hop
    · cases hop
    · simp [Option.bind_eq_some_iff] at hop
    · rename_i z nm hc
      simp only [Option.bind_eq_some_iff, Option.some.injEq, AI.inv.injEq] at hop
      obtain ⟨b, hb, b2, hb2, rfl, rfl, rfl⟩ := hop
      exact ⟨c, z, nm, rfl, hc, hb, hb2, hys⟩
  all_goals (repeat' split at hop) <;> simp [Option.bind_eq_some_iff, Option.map_eq_some_iff] at hop
end Go.Am
namespace Go.Am
variable {P : Program} {φ φ' : Phi} {h h' : Hp} {w w' : World} {v : AV} {r : A2} {a : Act} {cv : Value} {n : Nat} {G : Gl} {names : List String} {p : Pg} {run : Run}
theorem callD_safe {x : AV} {args : List AV} (hs : (callD p run x args h).Safe) : ∃ f cs, x = .fn f cs ∧ callD p run x args h = callF p run f (List.append args cs) h := by
  cases x <;> first | exact ⟨_, _, rfl, rfl⟩ | exact (RT.Safe.err hs).elim
theorem callI_safe {k : Nat} {x : AV} {args : List AV} (hs : (callI p run k x args h).Safe) : ∃ t u, x = .iface t u ∧ callI p run k x args h = mfind t k p.ms (fun f => callF p run f (.cons u args) h) (.err 206) := by
  cases x <;> first | exact ⟨_, _, rfl, rfl⟩ | exact (RT.Safe.err hs).elim
theorem toArray_map (ρ : Operand → Value) (l : Array Operand) : l.map ρ = (l.toList.map ρ).toArray := by apply Array.ext'; simp
theorem oper_wp {i : AI} {o : Oper} {d : Dst} (M : MsOK P names p.ms) (CO : CallsOK P G p run) (S : St n G φ r h a w) (hop : cOp P G names o = some i) (hd : cDst G n o.dst = some d) (hs : (i.res p run r h).Safe)
    {next : Act → World → Prop} {Q : Exit → Act → World → Prop}
    (hn : ∀ v h' φ' cv w', (i.res p run r h).Leaf (.ok v h') → St n G φ' (dset d v r) h' (a.put o.dst cv) w' → Step φ h w φ' h' w' → next (a.put o.dst cv) w') : o.wp P a w next Q := by
  have hρ : ∀ q x, cO G q = some x → VR φ (ev x r) (a.eval q) := fun q x e => S.opd e
  unfold Oper.wp
  cases i with
  | op op =>
    obtain ⟨v, h', he⟩ := toT_safe (show (op.run r h).toT.Safe from hs)
    obtain ⟨nx, w', φ', e1, e2, e3, e4⟩ := good_op hρ (fun c => rfl) hop S.hr he
    have hl : (AI.res (.op op) p run r h).Leaf (.ok v h') := by
      show (op.run r h).toT.Leaf (.ok v h')
      rw [he]; exact .ok _ _
    rw [e1]
    rcases e2 with ⟨cv, rfl, hv⟩ | ⟨rfl, rfl⟩
    · exact hn v h' φ' cv w' hl (S.put hd hv e3 e4) e4
    · exact hn .undef h' φ' undef w' hl (S.put hd (.undef _) e3 e4) e4
  | nxt s x =>
    obtain ⟨cv, w', φ', v, h', hl, e1, hv, e3, e4⟩ := good_nxt hρ hop S.hr hs
    rw [e1]
    exact hn v h' φ' cv w' hl (S.put hd hv e3 e4) e4
  | call f xs =>
    obtain ⟨c, ho, hc, hx⟩ := cOp_call hop
    have g1 := evs_VRL (φ := φ) (r := r) (ρ := a.eval) hx (fun o _ b hb => hρ _ _ hb)
    have hrun : (execOp a.eval o).run P w = (callFunc f (c.args.toList.map a.eval).toArray).run P w := by
      have hf : a.eval (.func f) = .func (.func f) #[] #[] := rfl
      simp only [execOp, ho, resolve, hc, hf, Deferred.ofValue, Sem.run_bind, Sem.run_pure, Result.andThen_ok, invoke, Array.empty_append, Array.append_empty]
      rw [toArray_map]
    rcases CO f _ h φ w _ S.glob S.hr g1 hs with ⟨⟨fn, b, f1, f2, f3⟩, hC⟩ | ⟨cv, w', hcf, v, h', cv', φ', hl, he, hv, e3, e4⟩
    · rw [hrun, run_callFunc f1 f2 f3, Oper.upon_enter]
      refine hC.mono ?_
      rintro e w' ⟨v, h', cv, φ', hl, rfl, hv, e3, e4⟩
      exact hn v h' φ' cv w' hl (S.put hd hv e3 e4) e4
    · rw [hrun, hcf]
      cases he
      exact hn v h' φ' _ w' hl (S.put hd hv e3 e4) e4
  | calld x xs =>
    obtain ⟨c, y, ho, hc, hy, hx⟩ := cOp_calld hop
    obtain ⟨f, cs, e1, e2⟩ := callD_safe (show (callD p run (ev x r) (evs xs r) h).Safe from hs)
    have g1 := evs_VRL (φ := φ) (r := r) (ρ := a.eval) hx (fun o _ b hb => hρ _ _ hb)
    have g2 := hρ _ _ hy
    rw [e1] at g2
    have hval : ∃ vs : List Value, a.eval y = .func (.func f) #[] vs.toArray ∧ VRL φ cs vs := by
      generalize a.eval y = z at g2
      cases g2; exact ⟨_, rfl, by assumption⟩
    obtain ⟨vs, hval, g3⟩ := hval
    have hs' : (callF p run f (List.append (evs xs r) cs) h).Safe := by
      have : (callD p run (ev x r) (evs xs r) h).Safe := hs
      rwa [e2] at this
    have hrun : (execOp a.eval o).run P w = (callFunc f (c.args.toList.map a.eval ++ vs).toArray).run P w := by
      simp only [execOp, ho, resolve, hc, hval, Deferred.ofValue, Sem.run_bind, Sem.run_pure, Result.andThen_ok, invoke, Array.empty_append]
      rw [toArray_map]
      simp
    rcases CO f _ h φ w _ S.glob S.hr (g1.append g3) hs' with ⟨⟨fn, b, f1, f2, f3⟩, hC⟩ | ⟨cv, w', hcf, v, h', cv', φ', hl, he, hv, e3, e4⟩
    · rw [hrun, run_callFunc f1 f2 f3, Oper.upon_enter]
      refine hC.mono ?_
      rintro e w' ⟨v, h', cv, φ', hl, rfl, hv, e3, e4⟩
      refine hn v h' φ' cv w' ?_ (S.put hd hv e3 e4) e4
      show (callD p run (ev x r) (evs xs r) h).Leaf _
      rw [e2]; exact hl
    · rw [hrun, hcf]
      cases he
      refine hn v h' φ' _ w' ?_ (S.put hd hv e3 e4) e4
      show (callD p run (ev x r) (evs xs r) h).Leaf _
      rw [e2]; exact hl
  | inv k x xs =>
    obtain ⟨c, y, name, ho, hc, hk, hy, hx⟩ := cOp_inv hop
    obtain ⟨t, u, e1, e2⟩ := callI_safe (show (callI p run k (ev x r) (evs xs r) h).Safe from hs)
    have hs1 : (mfind t k p.ms (fun f => callF p run f (.cons u (evs xs r)) h) (.err 206)).Safe := by
      have : (callI p run k (ev x r) (evs xs r) h).Safe := hs
      rwa [e2] at this
    obtain ⟨f, hm, e3⟩ := mfind_ok hs1
    rw [e3] at hs1 e2
    have g1 := evs_VRL (φ := φ) (r := r) (ρ := a.eval) hx (fun o _ b hb => hρ _ _ hb)
    have g2 := hρ _ _ hy
    rw [e1] at g2
    have hval : ∃ z, a.eval y = .iface t z ∧ VR φ u z := by
      generalize a.eval y = z at g2
      cases g2; exact ⟨_, rfl, by assumption⟩
    obtain ⟨z, hval, g3⟩ := hval
    have hrun : (execOp a.eval o).run P w = (callFunc f (z :: c.args.toList.map a.eval).toArray).run P w := by
      have hp : (program).run P w = .ok P w := rfl
      have hmeth := run_method (w := w) M hm (nameNo_ok hk) (P.types.size + Made.depth - 1) z
      have hdep : P.types.size + Made.depth - 1 + 1 = P.types.size + Made.depth := by
        have : 0 < Made.depth := by decide
        omega
      rw [hdep] at hmeth
      have h0 : (#[Value.iface t z] ++ c.args.map a.eval)[0]? = some (Value.iface t z) := by
        rw [Array.getElem?_append]; rfl
      have h1 : (#[Value.iface t z] ++ c.args.map a.eval).extract 1 (#[Value.iface t z] ++ c.args.map a.eval).size = c.args.map a.eval := by
        apply Array.ext'
        simp only [Array.toList_extract, List.extract_eq_take_drop]
        simp
        rw [List.take_of_length_le (by simp)]
      simp only [execOp, ho, resolve, hc, hval, Sem.run_bind, Sem.run_pure, Result.andThen_ok, invoke, h0, h1, callMethod, hp, hmeth]
      rw [toArray_map]
      simp
    rcases CO f _ h φ w _ S.glob S.hr (.cons _ _ _ _ g3 g1) hs1 with ⟨⟨fn, b, f1, f2, f3⟩, hC⟩ | ⟨cv, w', hcf, v, h', cv', φ', hl, he, hv, e5, e6⟩
    · rw [hrun, run_callFunc f1 f2 f3, Oper.upon_enter]
      refine hC.mono ?_
      rintro e w' ⟨v, h', cv, φ', hl, rfl, hv, e5, e6⟩
      refine hn v h' φ' cv w' ?_ (S.put hd hv e5 e6) e6
      show (callI p run k (ev x r) (evs xs r) h).Leaf _
      rw [e2]; exact hl
    · rw [hrun, hcf]
      cases he
      refine hn v h' φ' _ w' ?_ (S.put hd hv e5 e6) e6
      show (callI p run k (ev x r) (evs xs r) h).Leaf _
      rw [e2]; exact hl
end Go.Am
namespace Go.Am
variable {P : Program} {φ φ' : Phi} {h h' : Hp} {w w' : World} {v : AV} {r : A2} {a : Act} {cv : Value} {n : Nat} {G : Gl} {names : List String} {p : Pg} {run : Run} {ops : Array Oper}
theorem badGI_safe {k : A2 → Hp → RS} (hs : (badGI.exec p run k r h).Safe) : False := RS.Safe.err (n := 400) hs
theorem undef_bool (b : Bool) : (undef : Value) ≠ .bool b := by simp [undef]
theorem yielded_of {t j : Nat} {b : Bool} (hj : (ops[j]?).bind (·.dst) = some t) (ht : a.tmps.getD t undef = .bool b) : yielded ops a.tmps j = some b := by
  unfold yielded
  rw [hj, Option.bind_some]
  rw [Array.getD_eq_getD_getElem?] at ht
  cases h : a.tmps[t]? with
  | none => rw [h] at ht; exact absurd ht (undef_bool b)
  | some x => rw [h] at ht; have ht : x = .bool b := ht; rw [ht]
theorem onBool_safe {x : AV} {k : Bool → RS} {n : Nat} (hs : (AV.onBool x k (.err n)).Safe) : ∃ b, x = .bool b ∧ AV.onBool x k (.err n) = k b := by
  cases x <;> first | exact ⟨_, rfl, rfl⟩ | exact (RS.Safe.err hs).elim
theorem gb_bool {w b : Bool} {x : AV} (h : gb w x = .bool b) : x = .bool b ∨ (x = .tup [] ∧ b = !w) := by
  cases x with
  | tup l =>
    cases l with
    | nil => right; have h : AV.bool (Bool.not w) = .bool b := h; injection h with h; exact ⟨rfl, h.symm⟩
    | cons a l => have h : AV.undef = .bool b := h; cases h
  | _ => exact .inl h
theorem vr_unit : VR φ unitV undef := .tup [] [] .nil
theorem vr_tup0 (h : VR φ (.tup []) cv) : cv = undef := by
  cases h with
  | tup _ vs e => cases e; rfl
theorem yielded_none {t j : Nat} (hj : (ops[j]?).bind (·.dst) = some t) (ht : a.tmps.getD t undef = undef) : yielded ops a.tmps j = none := by
  unfold yielded
  rw [hj, Option.bind_some]
  rw [Array.getD_eq_getD_getElem?] at ht
  cases h : a.tmps[t]? with
  | none => rfl
  | some x => rw [h] at ht; have ht : x = undef := ht; rw [ht]; rfl
theorem beq1_eq (a b : Bool) : beq1 a b = (a == b) := by cases a <;> cases b <;> rfl
theorem gi_wp {o : Oper} {i : Nat} {k : A2 → Hp → RS} (M : MsOK P names p.ms) (CO : CallsOK P G p run) (S : St n G φ r h a w) (hoi : ops[i]? = some o) (hs : ((cGI P G n names ops o).exec p run k r h).Safe)
    {K : Act → World → Prop} {Q : Exit → Act → World → Prop}
    (hn : ∀ r' h' φ' a' w', (k r' h').Safe → (∀ y, (k r' h').Leaf y → ((cGI P G n names ops o).exec p run k r h).Leaf y) → St n G φ' r' h' a' w' → Step φ h w φ' h' w' → K a' w') : wpOp P ops Q i K a w := by
  unfold wpOp
  simp only [hoi]
  unfold cGI at hs hn
  split at hs
  · rename_i d x hd hx
    split at hs
    · rename_i hg
      have hw : Region.wanted o (yielded ops a.tmps) = true := by simp [Region.wanted, hg]
      rw [if_pos hw]
      simp only [hg, hd, hx] at hn
      change (x.exec p run d k r h).Safe at hs
      rw [exec_res] at hs
      obtain ⟨s1, s2⟩ := safe_stepT hs
      refine .inl (oper_wp M CO S hx hd s1 fun v h' φ' cv w' hl S' T => hn _ h' φ' _ w' (s2 v h' hl) (fun y hy => ?_) S' T)
      show (x.exec p run d k r h).Leaf y
      rw [exec_res]
      exact leaf_stepT hl rfl hy
    · rename_i j wnt hg
      simp only [hg, hd, hx] at hn
      split at hs
      · rename_i t ht
        simp only [ht] at hn
        split at hs
        · rename_i s hsl
          obtain ⟨hs256, htm⟩ := sl_ok hsl
          simp only [hsl] at hn
          change (AV.onBool (gb wnt (rget (hi s) (lo s) r)) (guardK d k r h x p run wnt) (.err 210)).Safe at hs
          obtain ⟨b, hb, e⟩ := onBool_safe hs
          have hv := S.regs s hs256
          rw [htm] at hv
          have hw : Region.wanted o (yielded ops a.tmps) = (b == wnt) := by
            rcases gb_bool hb with hb2 | ⟨hb2, rfl⟩
            · rw [hb2] at hv
              have hy := yielded_of ht hv.bool_inv
              simp only [Region.wanted, hg, hy]; cases b <;> cases wnt <;> rfl
            · rw [hb2] at hv
              have hy := yielded_none (a := a) ht (vr_tup0 hv)
              simp only [Region.wanted, hg, hy]; cases wnt <;> rfl
          rw [e] at hs
          have hs : (@Bool.rec (fun _ => RS) (k (dset d unitV r) h) (x.exec p run d k r h) (beq1 b wnt)).Safe := hs
          have e : (AV.onBool (gb wnt (rget (hi s) (lo s) r)) (guardK d k r h x p run wnt) (.err 210)) = (@Bool.rec (fun _ => RS) (k (dset d unitV r) h) (x.exec p run d k r h) (beq1 b wnt)) := e
          have hn : ∀ r' h' φ' a' w', (k r' h').Safe → (∀ y, (k r' h').Leaf y → (AV.onBool (gb wnt (rget (hi s) (lo s) r)) (guardK d k r h x p run wnt) (.err 210)).Leaf y) → St n G φ' r' h' a' w' → Step φ h w φ' h' w' → K a' w' := hn
          rw [e] at hn
          rw [beq1_eq] at hs hn
          rw [hw]
          cases hbw : (b == wnt) with
          | true =>
            rw [hbw] at hs hn
            rw [if_pos rfl]
            have hs : (x.exec p run d k r h).Safe := hs
            rw [exec_res] at hs
            obtain ⟨s1, s2⟩ := safe_stepT hs
            refine .inl (oper_wp M CO S hx hd s1 fun v h' φ' cv w' hl S' T => hn _ h' φ' _ w' (s2 v h' hl) (fun y hy => ?_) S' T)
            show (x.exec p run d k r h).Leaf y
            rw [exec_res]
            exact leaf_stepT hl rfl hy
          | false =>
            rw [hbw] at hs hn
            rw [if_neg (by simp)]
            exact hn _ h φ _ w hs (fun y hy => hy) (S.put hd vr_unit S.hr (.refl _ _ _)) (.refl _ _ _)
        · exact (badGI_safe hs).elim
      · exact (badGI_safe hs).elim
  · exact (badGI_safe hs).elim
theorem cGJ_cases (n : Nat) (names : List String) (ops : Array Oper) (o : Oper) : cGJ P G n names ops o = cGI P G n names ops o ∨ cGJ P G n names ops o = badGI ∨
    ∃ j w d t s, o.guard = some (j, w) ∧ cDst G n o.dst = some d ∧ (ops[j]?).bind (·.dst) = some t ∧ G.sl t = some s ∧ cGJ P G n names ops o = .g (hi s) (lo s) w d (.op (.bad 405)) := by
  unfold cGJ
  split
  · rename_i j w d hx hg hd
    split
    · rename_i t ht
      split
      · rename_i s hs
        exact .inr (.inr ⟨j, w, d, t, s, hg, hd, ht, hs, rfl⟩)
      · exact .inr (.inl rfl)
    · exact .inr (.inl rfl)
  · exact .inl rfl
theorem gj_wp {o : Oper} {i : Nat} {k : A2 → Hp → RS} (M : MsOK P names p.ms) (CO : CallsOK P G p run) (S : St n G φ r h a w) (hoi : ops[i]? = some o) (hs : ((cGJ P G n names ops o).exec p run k r h).Safe)
    {K : Act → World → Prop} {Q : Exit → Act → World → Prop}
    (hn : ∀ r' h' φ' a' w', (k r' h').Safe → (∀ y, (k r' h').Leaf y → ((cGJ P G n names ops o).exec p run k r h).Leaf y) → St n G φ' r' h' a' w' → Step φ h w φ' h' w' → K a' w') : wpOp P ops Q i K a w := by
  rcases cGJ_cases (P := P) (G := G) n names ops o with e | e | ⟨j, wnt, d, t, s, hg, hd, ht, hsl, e⟩
  · rw [e] at hs hn
    exact gi_wp M CO S hoi hs hn
  · rw [e] at hs
    exact (badGI_safe hs).elim
  · rw [e] at hs hn
    obtain ⟨hs256, htm⟩ := sl_ok hsl
    change (AV.onBool (gb wnt (rget (hi s) (lo s) r)) (guardK d k r h (.op (.bad 405)) p run wnt) (.err 210)).Safe at hs
    obtain ⟨b, hb, e1⟩ := onBool_safe hs
    have hv := S.regs s hs256
    rw [htm] at hv
    have hw : Region.wanted o (yielded ops a.tmps) = (b == wnt) := by
      rcases gb_bool hb with hb2 | ⟨hb2, rfl⟩
      · rw [hb2] at hv
        have hy := yielded_of ht hv.bool_inv
        simp only [Region.wanted, hg, hy]; cases b <;> cases wnt <;> rfl
      · rw [hb2] at hv
        have hy := yielded_none (a := a) ht (vr_tup0 hv)
        simp only [Region.wanted, hg, hy]; cases wnt <;> rfl
    rw [e1] at hs
    have hs : (@Bool.rec (fun _ => RS) (k (dset d unitV r) h) ((AI.op (.bad 405)).exec p run d k r h) (beq1 b wnt)).Safe := hs
    have e1 : (AV.onBool (gb wnt (rget (hi s) (lo s) r)) (guardK d k r h (.op (.bad 405)) p run wnt) (.err 210)) = (@Bool.rec (fun _ => RS) (k (dset d unitV r) h) ((AI.op (.bad 405)).exec p run d k r h) (beq1 b wnt)) := e1
    have hn : ∀ r' h' φ' a' w', (k r' h').Safe → (∀ y, (k r' h').Leaf y → (AV.onBool (gb wnt (rget (hi s) (lo s) r)) (guardK d k r h (.op (.bad 405)) p run wnt) (.err 210)).Leaf y) → St n G φ' r' h' a' w' → Step φ h w φ' h' w' → K a' w' := hn
    rw [e1] at hn
    rw [beq1_eq] at hs hn
    unfold wpOp
    simp only [hoi]
    rw [hw]
    cases hbw : (b == wnt) with
    | true => rw [hbw] at hs; exact (RS.Safe.err (n := 405) hs).elim
    | false =>
      rw [hbw] at hs hn
      rw [if_neg (by simp)]
      exact hn _ h φ _ w hs (fun y hy => hy) (S.put hd vr_unit S.hr (.refl _ _ _)) (.refl _ _ _)
theorem ops_wp (M : MsOK P names p.ms) (CO : CallsOK P G p run) {Q : Exit → Act → World → Prop} : ∀ (os pre : List Oper) (r : A2) (h : Hp) (φ : Phi) (a : Act) (w : World), ops.toList = pre ++ os → St n G φ r h a w →
    (runOps p run (os.map fun o => cGJ P G n names ops o) r h).Safe →
    (∀ r' h' φ' a' w', (runOps p run (os.map fun o => cGJ P G n names ops o) r h).Leaf (.nm r' h') → St n G φ' r' h' a' w' → Step φ h w φ' h' w' → Q .normal a' w') →
    wpOps P ops Q (List.range' pre.length os.length) a w
  | [], pre, r, h, φ, a, w, _, S, _, hQ => hQ r h φ a w (.nm _ _) S (.refl _ _ _)
  | o :: os, pre, r, h, φ, a, w, e, S, hs, hQ => by
    have hoi : ops[pre.length]? = some o := by rw [← Array.getElem?_toList, e]; simp
    rw [List.length_cons, List.range'_succ, wpOps_cons]
    have hs : ((cGJ P G n names ops o).exec p run (runOps p run (os.map fun o => cGJ P G n names ops o)) r h).Safe := hs
    refine gj_wp M CO S hoi hs fun r' h' φ' a' w' s1 s2 S' T => ?_
    have := ops_wp M CO os (pre ++ [o]) r' h' φ' a' w' (by rw [e]; simp) S' s1 (Q := Q) fun r'' h'' φ'' a'' w'' hl S'' T' => hQ r'' h'' φ'' a'' w'' (s2 _ hl) S'' (T.trans T')
    simpa using this
end Go.Am
namespace Go.Am
variable {P : Program} {φ φ' : Phi} {h h' : Hp} {w w' : World} {v : AV} {r : A2} {a : Act} {cv : Value} {n : Nat} {G : Gl} {names : List String} {p : Pg} {run : Run} {ops : Array Oper}
section
variable {kn : A2 → Hp → RS} {ke : Nat → A2 → Hp → RS} {kg : Nat → A2 → Hp → RS}
theorem leaf_bind_nm {y : RS} : ∀ {x z : RS}, x.Leaf z → z = .nm r h → (kn r h).Leaf y → (RS.bind x kn ke kg).Leaf y
  | _, _, .nm r h, e, g => by cases e; exact g
  | _, _, .ex .., e, _ => by cases e
  | _, _, .go .., e, _ => by cases e
  | _, _, .ret .., e, _ => by cases e
  | _, _, .err .., e, _ => by cases e
  | _, _, .ch n k c y' hc hl, e, g => .ch n _ c _ hc (leaf_bind_nm hl e g)
theorem leaf_bind_ex {i : Nat} {y : RS} : ∀ {x z : RS}, x.Leaf z → z = .ex i r h → (ke i r h).Leaf y → (RS.bind x kn ke kg).Leaf y
  | _, _, .nm .., e, _ => by cases e
  | _, _, .ex .., e, g => by cases e; exact g
  | _, _, .go .., e, _ => by cases e
  | _, _, .ret .., e, _ => by cases e
  | _, _, .err .., e, _ => by cases e
  | _, _, .ch n k c y' hc hl, e, g => .ch n _ c _ hc (leaf_bind_ex hl e g)
theorem leaf_bind_go {i : Nat} {y : RS} : ∀ {x z : RS}, x.Leaf z → z = .go i r h → (kg i r h).Leaf y → (RS.bind x kn ke kg).Leaf y
  | _, _, .nm .., e, _ => by cases e
  | _, _, .ex .., e, _ => by cases e
  | _, _, .go .., e, g => by cases e; exact g
  | _, _, .ret .., e, _ => by cases e
  | _, _, .err .., e, _ => by cases e
  | _, _, .ch n k c y' hc hl, e, g => .ch n _ c _ hc (leaf_bind_go hl e g)
theorem leaf_bind_ret : ∀ {x z : RS}, x.Leaf z → z = .ret r h → (RS.bind x kn ke kg).Leaf (.ret r h)
  | _, _, .nm .., e => by cases e
  | _, _, .ex .., e => by cases e
  | _, _, .go .., e => by cases e
  | _, _, .ret .., e => by cases e; exact .ret _ _
  | _, _, .err .., e => by cases e
  | _, _, .ch n k c y' hc hl, e => .ch n _ c _ hc (leaf_bind_ret hl e)
theorem leaf_bind_err {i : Nat} : ∀ {x z : RS}, x.Leaf z → z = .err i → (RS.bind x kn ke kg).Leaf (.err i)
  | _, _, .nm .., e => by cases e
  | _, _, .ex .., e => by cases e
  | _, _, .go .., e => by cases e
  | _, _, .ret .., e => by cases e
  | _, _, .err .., e => by cases e; exact .err _
  | _, _, .ch n k c y' hc hl, e => .ch n _ c _ hc (leaf_bind_err hl e)
theorem safe_bind {x : RS} (hs : (RS.bind x kn ke kg).Safe) : x.Safe := fun n hl => hs n (leaf_bind_err hl rfl)
theorem safe_bind_nm {x : RS} (hs : (RS.bind x kn ke kg).Safe) (hl : x.Leaf (.nm r h)) : (kn r h).Safe := fun n g => hs n (leaf_bind_nm hl rfl g)
theorem safe_bind_ex {i : Nat} {x : RS} (hs : (RS.bind x kn ke kg).Safe) (hl : x.Leaf (.ex i r h)) : (ke i r h).Safe := fun n g => hs n (leaf_bind_ex hl rfl g)
theorem safe_bind_go {i : Nat} {x : RS} (hs : (RS.bind x kn ke kg).Safe) (hl : x.Leaf (.go i r h)) : (kg i r h).Safe := fun n g => hs n (leaf_bind_go hl rfl g)
end
inductive Ends : RS → Exit → A2 → Hp → Prop
  | nm (r : A2) (h : Hp) : Ends (.nm r h) .normal r h
  | ex (i : Nat) (r : A2) (h : Hp) : Ends (.ex i r h) (.exit i) r h
  | go (i : Nat) (r : A2) (h : Hp) : Ends (.go i r h) (.goto i) r h
  | ret (r : A2) (h : Hp) : Ends (.ret r h) .ret r h
def CPost (n : Nat) (G : Gl) (φ : Phi) (h : Hp) (w : World) (x : RS) : Exit → Act → World → Prop := fun e a' w' => ∃ y r' h' φ', x.Leaf y ∧ Ends y e r' h' ∧ St n G φ' r' h' a' w' ∧ Step φ h w φ' h' w'
def LoopK (P : Program) (c : Code) (Q : Exit → Act → World → Prop) (a : Act) (w : World) : Prop :=
  ∀ (b : Frame) (k : List Item) (cs : List Frame), ∃ e a' w', Q e a' w' ∧ Arrives P (lone (b.at a (.code c :: .inLoop c :: k)) cs w) b k cs e a' w'
theorem wp_of_loopK {c : Code} {Q : Exit → Act → World → Prop} (hl : LoopK P c Q a w) : (Code.loop c).wp P Q a w := fun b k cs =>
  let ⟨e, a', w', q, g⟩ := hl b k cs; ⟨e, a', w', q, .of_steps (.one step_loop) g⟩
theorem loopK_of {c : Code} {Q : Exit → Act → World → Prop} (hc : c.wp P (Exit.then (LoopK P c Q) Q) a w) : LoopK P c Q a w := by
  intro b k cs
  obtain ⟨e, a₁, w₁, hq, harr⟩ := hc b (.inLoop c :: k) cs
  cases e with
  | normal =>
    obtain ⟨e₂, a₂, w₂, hq₂, harr₂⟩ := hq b k cs
    exact ⟨e₂, a₂, w₂, hq₂, .of_steps (Steps.trans harr (.one step_inLoop)) harr₂⟩
  | exit id => exact ⟨_, a₁, w₁, hq, .pass (x := .inLoop c) rfl (fun _ _ => .inl (by simp)) harr⟩
  | goto l => exact ⟨_, a₁, w₁, hq, .pass (x := .inLoop c) rfl (fun _ _ => .inl (by simp)) harr⟩
  | ret => exact ⟨_, a₁, w₁, hq, .pass (x := .inLoop c) rfl (fun _ _ => .inl (by simp)) harr⟩
  | panic ch => exact ⟨_, a₁, w₁, hq, .pass (x := .inLoop c) rfl (fun _ _ => .inl (by simp)) harr⟩
  | outgrown => exact ⟨_, a₁, w₁, hq, .pass (x := .inLoop c) rfl (fun _ _ => .inl (by simp)) harr⟩
def SatK (P : Program) (s c : Code) (Q : Exit → Act → World → Prop) (a : Act) (w : World) : Prop :=
  ∀ (b : Frame) (k : List Item) (cs : List Frame), ∃ e a' w', Q e a' w' ∧ Arrives P (lone (b.at a (.code c :: .inScope s :: k)) cs w) b k cs e a' w'
def Exit.inScope (P : Program) (s : Code) (Q : Exit → Act → World → Prop) : Exit → Act → World → Prop
  | .goto l, a, w => match findLabel s l with
    | some c => SatK P s c Q a w
    | none => Q (.goto l) a w
  | e, a, w => Q e a w
theorem wp_of_satK {c : Code} {Q : Exit → Act → World → Prop} (hl : SatK P c c Q a w) : (Code.scope c).wp P Q a w := fun b k cs =>
  let ⟨e, a', w', q, g⟩ := hl b k cs; ⟨e, a', w', q, .of_steps (.one step_scope) g⟩
theorem satK_of {s c : Code} {Q : Exit → Act → World → Prop} (hc : c.wp P (Exit.inScope P s Q) a w) : SatK P s c Q a w := by
  intro b k cs
  obtain ⟨e, a₁, w₁, hq, harr⟩ := hc b (.inScope s :: k) cs
  cases e with
  | normal => exact ⟨.normal, a₁, w₁, hq, Steps.trans harr (.one step_inScope)⟩
  | exit id => exact ⟨.exit id, a₁, w₁, hq, fun k' hk => harr k' (by simp [exitTo, hk])⟩
  | goto l =>
    simp only [Exit.inScope] at hq
    split at hq
    · rename_i rest hf
      obtain ⟨e₂, a₂, w₂, hq₂, harr₂⟩ := hq b k cs
      exact ⟨e₂, a₂, w₂, hq₂, .of_steps (harr _ (by simp [gotoIn, hf])) harr₂⟩
    · rename_i hf
      exact ⟨.goto l, a₁, w₁, hq, fun k' hk => harr k' (by simp [gotoIn, hf, hk])⟩
  | ret => exact ⟨_, a₁, w₁, hq, harr⟩
  | panic ch => exact ⟨_, a₁, w₁, hq, harr⟩
  | outgrown => exact ⟨_, a₁, w₁, hq, harr⟩
end Go.Am
namespace Go.Am
theorem ifb {b c : Bool} (e : (@Bool.rec (fun _ => Bool) false c b) = true) : b = true ∧ c = true := by cases b <;> first | exact ⟨rfl, e⟩ | cases e
theorem andb {b c : Bool} (e : Bool.and b c = true) : b = true ∧ c = true := by cases b <;> cases c <;> first | exact ⟨rfl, rfl⟩ | cases e
theorem beqn {a b : Nat} (e : Nat.beq a b = true) : a = b := Nat.eq_of_beq_eq_true e
theorem beq1_iff {a b : Bool} (e : beq1 a b = true) : a = b := by cases a <;> cases b <;> first | rfl | cases e
theorem same1_eq {x y : AV} (e : same1 x y = true) : x = y := by
  cases x <;> cases y <;> (try (cases e; done))
  · rename_i a b; exact congrArg _ (beq1_iff e)
  · rename_i k a k' b
    obtain ⟨h1, h2⟩ := ifb (show (@Bool.rec (fun _ => Bool) false (ieq a b) (keqK k k')) = true from e)
    have h1 := keqK_iff h1
    have h2 : a = b := by rw [ieq_eq] at h2; exact of_decide_eq_true h2
    subst h1 h2; rfl
  · rename_i a b
    have h2 : nlist a b = true := e
    rw [nlist_eq] at h2
    exact congrArg _ (of_decide_eq_true h2)
  · rename_i k a k' b
    obtain ⟨h1, h2⟩ := andb (show Bool.and (keqF k k') (Nat.beq a b) = true from e)
    have h1 := keqF_iff h1
    have h2 := beqn h2
    subst h1 h2; rfl
  · rename_i k a b k' c d
    obtain ⟨h1, h2⟩ := andb (show Bool.and (keqF k k') (Bool.and (Nat.beq a c) (Nat.beq b d)) = true from e)
    obtain ⟨h2, h3⟩ := andb h2
    have h1 := keqF_iff h1
    have h2 := beqn h2
    have h3 := beqn h3
    subst h1 h2 h3; rfl
  · rename_i i o j q
    obtain ⟨h1, h2⟩ := andb (show Bool.and (peq i j) (Nat.beq o q) = true from e)
    have h1 := peq_iff.1 h1
    have h2 := beqn h2
    subst h1 h2; rfl
  · rfl
  · rename_i i a b c j d e' f
    obtain ⟨h1, h2⟩ := andb (show Bool.and (peq i j) (Bool.and (Nat.beq a d) (Bool.and (Nat.beq b e') (Nat.beq c f))) = true from e)
    obtain ⟨h2, h3⟩ := andb h2
    obtain ⟨h3, h4⟩ := andb h3
    have h1 := peq_iff.1 h1
    have h2 := beqn h2
    have h3 := beqn h3
    have h4 := beqn h4
    subst h1 h2 h3 h4; rfl
  · rename_i i a b c j d e' f
    obtain ⟨h1, h2⟩ := andb (show Bool.and (peq i j) (Bool.and (Nat.beq a d) (Bool.and (Nat.beq b e') (Nat.beq c f))) = true from e)
    obtain ⟨h2, h3⟩ := andb h2
    obtain ⟨h3, h4⟩ := andb h3
    have h1 := peq_iff.1 h1
    have h2 := beqn h2
    have h3 := beqn h3
    have h4 := beqn h4
    subst h1 h2 h3 h4; rfl
  · rfl
  · rename_i i j; exact congrArg _ (peq_iff.1 e)
  · rfl
  · rfl
  · rfl
theorem sameL_eq : ∀ {a b : List AV}, sameL a b = true → a = b
  | [], [], _ => rfl
  | [], _ :: _, e => by cases e
  | _ :: _, [], e => by cases e
  | x :: a, y :: b, e => by
    obtain ⟨h1, h2⟩ := ifb (show (@Bool.rec (fun _ => Bool) false (sameL a b) (same1 x y)) = true from e)
    rw [same1_eq h1, sameL_eq h2]
theorem sameA_eq {x y : AV} (e : sameA x y = true) : x = y := by
  by_cases hx : ∃ l, x = .agg l
  · obtain ⟨l, rfl⟩ := hx
    cases y <;> (try (cases e; done))
    exact congrArg _ (sameL_eq e)
  · have : sameA x y = same1 x y := by cases x <;> first | rfl | exact absurd ⟨_, rfl⟩ hx
    exact same1_eq (this ▸ e)
theorem same2_eq {x y : AV} (e : same2 x y = true) : x = y := by
  by_cases hx : ∃ f l, x = .fn f l
  · obtain ⟨f, l, rfl⟩ := hx
    cases y <;> (try (cases e; done))
    rename_i g m
    obtain ⟨h1, h2⟩ := andb (show Bool.and (Nat.beq f g) (sameL l m) = true from e)
    rw [beqn h1, sameL_eq h2]
  · by_cases hi : ∃ t u, x = .iface t u
    · obtain ⟨t, u, rfl⟩ := hi
      cases y <;> (try (cases e; done))
      rename_i t' u'
      obtain ⟨h1, h2⟩ := andb (show Bool.and (Nat.beq t t') (sameA u u') = true from e)
      rw [beqn h1, sameA_eq h2]
    · have : same2 x y = sameA x y := by cases x <;> first | rfl | exact absurd ⟨_, _, rfl⟩ hx | exact absurd ⟨_, _, rfl⟩ hi
      exact sameA_eq (this ▸ e)
theorem sameT_eq : ∀ {a b : List AV}, sameT a b = true → a = b
  | [], [], _ => rfl
  | [], _ :: _, e => by cases e
  | _ :: _, [], e => by cases e
  | x :: a, y :: b, e => by
    obtain ⟨h1, h2⟩ := ifb (show (@Bool.rec (fun _ => Bool) false (sameT a b) (same2 x y)) = true from e)
    rw [same2_eq h1, sameT_eq h2]
theorem same_eq {x y : AV} (e : same x y = true) : x = y := by
  by_cases hx : ∃ l, x = .tup l
  · obtain ⟨l, rfl⟩ := hx
    cases y <;> (try (cases e; done))
    exact congrArg _ (sameT_eq e)
  · have : same x y = same2 x y := by cases x <;> first | rfl | exact absurd ⟨_, rfl⟩ hx
    exact same2_eq (this ▸ e)
theorem isU_eq {x : AV} (e : isU x = true) : x = .undef := by cases x <;> first | rfl | cases e
theorem eqV_eq {x y : AV} (e : eqV x y = true) : x = y := by
  have e : (@Bool.rec (fun _ => Bool) (same x y) (isU y) (isU x)) = true := e
  cases hx : isU x with
  | true => rw [hx] at e; rw [isU_eq hx, isU_eq e]
  | false => rw [hx] at e; exact same_eq e
theorem A1.eq_eq {x y : A1} (e : A1.eq x y = true) : x = y := by
  cases x with
  | nil => cases y with
    | nil => rfl
    | mk => cases e
  | mk => cases y with
    | nil => cases e
    | mk =>
      obtain ⟨e0, e⟩ := ifb e; obtain ⟨e1, e⟩ := ifb e; obtain ⟨e2, e⟩ := ifb e; obtain ⟨e3, e⟩ := ifb e; obtain ⟨e4, e⟩ := ifb e; obtain ⟨e5, e⟩ := ifb e; obtain ⟨e6, e⟩ := ifb e; obtain ⟨e7, e⟩ := ifb e
      obtain ⟨e8, e⟩ := ifb e; obtain ⟨e9, e⟩ := ifb e; obtain ⟨ea, e⟩ := ifb e; obtain ⟨eb, e⟩ := ifb e; obtain ⟨ec, e⟩ := ifb e; obtain ⟨ed, e⟩ := ifb e; obtain ⟨ee, e⟩ := ifb e
      rw [eqV_eq e0, eqV_eq e1, eqV_eq e2, eqV_eq e3, eqV_eq e4, eqV_eq e5, eqV_eq e6, eqV_eq e7, eqV_eq e8, eqV_eq e9, eqV_eq ea, eqV_eq eb, eqV_eq ec, eqV_eq ed, eqV_eq ee, eqV_eq e]
theorem A2.eq_eq {x y : A2} (e : A2.eq x y = true) : x = y := by
  cases x with
  | nil => cases y with
    | nil => rfl
    | mk => cases e
  | mk => cases y with
    | nil => cases e
    | mk =>
      obtain ⟨e0, e⟩ := ifb e; obtain ⟨e1, e⟩ := ifb e; obtain ⟨e2, e⟩ := ifb e; obtain ⟨e3, e⟩ := ifb e; obtain ⟨e4, e⟩ := ifb e; obtain ⟨e5, e⟩ := ifb e; obtain ⟨e6, e⟩ := ifb e; obtain ⟨e7, e⟩ := ifb e
      obtain ⟨e8, e⟩ := ifb e; obtain ⟨e9, e⟩ := ifb e; obtain ⟨ea, e⟩ := ifb e; obtain ⟨eb, e⟩ := ifb e; obtain ⟨ec, e⟩ := ifb e; obtain ⟨ed, e⟩ := ifb e; obtain ⟨ee, e⟩ := ifb e
      rw [A1.eq_eq e0, A1.eq_eq e1, A1.eq_eq e2, A1.eq_eq e3, A1.eq_eq e4, A1.eq_eq e5, A1.eq_eq e6, A1.eq_eq e7, A1.eq_eq e8, A1.eq_eq e9, A1.eq_eq ea, A1.eq_eq eb, A1.eq_eq ec, A1.eq_eq ed, A1.eq_eq ee, A1.eq_eq e]
theorem A3.eq_eq {x y : A3} (e : A3.eq x y = true) : x = y := by
  cases x with
  | nil => cases y with
    | nil => rfl
    | mk => cases e
  | mk => cases y with
    | nil => cases e
    | mk =>
      obtain ⟨e0, e⟩ := ifb e; obtain ⟨e1, e⟩ := ifb e; obtain ⟨e2, e⟩ := ifb e; obtain ⟨e3, e⟩ := ifb e; obtain ⟨e4, e⟩ := ifb e; obtain ⟨e5, e⟩ := ifb e; obtain ⟨e6, e⟩ := ifb e; obtain ⟨e7, e⟩ := ifb e
      obtain ⟨e8, e⟩ := ifb e; obtain ⟨e9, e⟩ := ifb e; obtain ⟨ea, e⟩ := ifb e; obtain ⟨eb, e⟩ := ifb e; obtain ⟨ec, e⟩ := ifb e; obtain ⟨ed, e⟩ := ifb e; obtain ⟨ee, e⟩ := ifb e
      rw [A2.eq_eq e0, A2.eq_eq e1, A2.eq_eq e2, A2.eq_eq e3, A2.eq_eq e4, A2.eq_eq e5, A2.eq_eq e6, A2.eq_eq e7, A2.eq_eq e8, A2.eq_eq e9, A2.eq_eq ea, A2.eq_eq eb, A2.eq_eq ec, A2.eq_eq ed, A2.eq_eq ee, A2.eq_eq e]
theorem A4.eq_eq {x y : A4} (e : A4.eq x y = true) : x = y := by
  cases x with
  | nil => cases y with
    | nil => rfl
    | mk => cases e
  | mk => cases y with
    | nil => cases e
    | mk =>
      obtain ⟨e0, e⟩ := ifb e; obtain ⟨e1, e⟩ := ifb e; obtain ⟨e2, e⟩ := ifb e; obtain ⟨e3, e⟩ := ifb e; obtain ⟨e4, e⟩ := ifb e; obtain ⟨e5, e⟩ := ifb e; obtain ⟨e6, e⟩ := ifb e; obtain ⟨e7, e⟩ := ifb e
      obtain ⟨e8, e⟩ := ifb e; obtain ⟨e9, e⟩ := ifb e; obtain ⟨ea, e⟩ := ifb e; obtain ⟨eb, e⟩ := ifb e; obtain ⟨ec, e⟩ := ifb e; obtain ⟨ed, e⟩ := ifb e; obtain ⟨ee, e⟩ := ifb e
      rw [A3.eq_eq e0, A3.eq_eq e1, A3.eq_eq e2, A3.eq_eq e3, A3.eq_eq e4, A3.eq_eq e5, A3.eq_eq e6, A3.eq_eq e7, A3.eq_eq e8, A3.eq_eq e9, A3.eq_eq ea, A3.eq_eq eb, A3.eq_eq ec, A3.eq_eq ed, A3.eq_eq ee, A3.eq_eq e]
theorem Cl.eq_eq {x y : Cl} (e : Cl.eq x y = true) : x = y := by
  cases x <;> cases y <;> (try (cases e; done))
  · exact congrArg _ (A1.eq_eq e)
  · exact congrArg _ (A2.eq_eq e)
  · exact congrArg _ (A3.eq_eq e)
  · exact congrArg _ (A4.eq_eq e)
theorem Fl.eq_eq {x y : Fl} (e : Fl.eq x y = true) : x = y := by cases x <;> cases y <;> first | rfl | cases e
theorem eqKV_eq {x y : KV} (e : eqKV x y = true) : x = y := by
  cases x; cases y
  obtain ⟨h1, h2⟩ := ifb e
  obtain ⟨h2, h3⟩ := ifb h2
  rw [beqn h1, same_eq h2, eqV_eq h3]
theorem eqKVs_eq : ∀ {a b : List KV}, eqKVs a b = true → a = b
  | [], [], _ => rfl
  | [], _ :: _, e => by cases e
  | _ :: _, [], e => by cases e
  | x :: a, y :: b, e => by
    obtain ⟨h1, h2⟩ := ifb (show (@Bool.rec (fun _ => Bool) false (eqKVs a b) (eqKV x y)) = true from e)
    rw [eqKV_eq h1, eqKVs_eq h2]
theorem eqObj_eq {x y : Obj} (e : eqObj x y = true) : x = y := by
  cases x <;> cases y <;> (try (cases e; done))
  · rfl
  · obtain ⟨h1, h2⟩ := ifb e
    obtain ⟨h2, h3⟩ := ifb h2
    obtain ⟨h3, h4⟩ := ifb h3
    obtain ⟨h4, h5⟩ := ifb h4
    rw [beqn h1, beqn h2, beq1_iff h3, Fl.eq_eq h4, Cl.eq_eq h5]
  · obtain ⟨h1, h2⟩ := ifb e
    rw [beqn h1, eqKVs_eq h2]
theorem mgV_get (x y : AV) : (mgV x y = x ∧ x = y) ∨ mgV x y = .undef := by
  show ((@Bool.rec (fun _ => AV) .undef x (same x y)) = x ∧ x = y) ∨ (@Bool.rec (fun _ => AV) .undef x (same x y)) = .undef
  cases hs : same x y with
  | true => exact .inl ⟨rfl, same_eq hs⟩
  | false => exact .inr rfl
theorem mgObj_get (x y : Obj) : (mgObj x y = x ∧ x = y) ∨ mgObj x y = .dead := by
  show ((@Bool.rec (fun _ => Obj) .dead x (eqObj x y)) = x ∧ x = y) ∨ (@Bool.rec (fun _ => Obj) .dead x (eqObj x y)) = .dead
  cases hs : eqObj x y with
  | true => exact .inl ⟨rfl, eqObj_eq hs⟩
  | false => exact .inr rfl
theorem A1.get_mg (d : H) (x y : A1) : A1.get d (A1.mg x y) = mgV (A1.get d x) (A1.get d y) := by
  cases x <;> cases y <;> cases d <;> rfl
theorem A2.get_mg (d : H) (x y : A2) : A2.get d (A2.mg x y) = A1.mg (A2.get d x) (A2.get d y) := by
  cases x <;> cases y <;> cases d <;> rfl
theorem O1.get_mg (d : H) (x y : O1) : O1.get d (O1.mg x y) = mgObj (O1.get d x) (O1.get d y) := by
  cases x <;> cases y <;> cases d <;> rfl
theorem O2.get_mg (d : H) (x y : O2) : O2.get d (O2.mg x y) = O1.mg (O2.get d x) (O2.get d y) := by
  cases x <;> cases y <;> cases d <;> rfl
theorem O3.get_mg (d : H) (x y : O3) : O3.get d (O3.mg x y) = O2.mg (O3.get d x) (O3.get d y) := by
  cases x <;> cases y <;> cases d <;> rfl
theorem O4.get_mg (d : H) (x y : O4) : O4.get d (O4.mg x y) = O3.mg (O4.get d x) (O4.get d y) := by
  cases x <;> cases y <;> cases d <;> rfl
theorem rget_mg (a b : H) (x y : A2) : rget a b (A2.mg x y) = mgV (rget a b x) (rget a b y) := by
  simp only [rget, A2.get_mg, A1.get_mg]
theorem hgetT_mg (i : P4) (x y : O4) : hgetT i (O4.mg x y) = mgObj (hgetT i x) (hgetT i y) := by
  obtain ⟨a, b, c, d⟩ := i
  show O1.get d (O2.get c (O3.get b (O4.get a (O4.mg x y)))) = _
  rw [O4.get_mg, O3.get_mg, O2.get_mg, O1.get_mg]
  rfl
end Go.Am
namespace Go.Am
def LessR (r2 r : A2) : Prop := ∀ a b, rget a b r2 = rget a b r ∨ rget a b r2 = .undef
def LessH (h2 h : Hp) : Prop := ∀ i, hget i h2 = hget i h ∨ hget i h2 = .dead
theorem LessR.refl (r : A2) : LessR r r := fun _ _ => .inl rfl
theorem LessH.refl (h : Hp) : LessH h h := fun _ => .inl rfl
theorem LessR.trans {r1 r2 r3 : A2} (h : LessR r1 r2) (g : LessR r2 r3) : LessR r1 r3 := fun a b => by
  rcases h a b with e | e
  · rw [e]; exact g a b
  · exact .inr e
theorem LessH.trans {h1 h2 h3 : Hp} (h : LessH h1 h2) (g : LessH h2 h3) : LessH h1 h3 := fun i => by
  rcases h i with e | e
  · rw [e]; exact g i
  · exact .inr e
variable {P : Program} {φ φ' : Phi} {h h' h2 : Hp} {w w' : World} {v : AV} {r r2 : A2} {a : Act} {cv : Value} {n : Nat} {G : Gl}
theorem HR.less (H : HR φ h w) (L : LessH h2 h) : HR φ h2 w where
  obj i hl := by
    rcases L i with e | e
    · rw [e] at hl ⊢; exact H.obj i hl
    · exact absurd e hl.2
  inj i j p q hi hj := by
    rcases L i with e | e
    · rcases L j with e' | e'
      · rw [e] at hi; rw [e'] at hj; exact H.inj i j p q hi hj
      · exact absurd e' hj.2
    · exact absurd e hi.2
  fresh i hi := by
    rcases L i with e | e
    · exact H.fresh i (e ▸ hi)
    · rw [e] at hi; cases hi
  bound := H.bound
theorem Step.less {φ₀ : Phi} {h₀ : Hp} {w₀ : World} (S : Step φ₀ h₀ w₀ φ h w) (L : LessH h2 h) : Step φ₀ h₀ w₀ φ h2 w :=
  ⟨S.le, S.keeps, fun i p hl hp => by
    rcases L i with e | e
    · exact S.new i p (e ▸ hl) hp
    · exact absurd e hl.2⟩
theorem St.less (S : St n G φ r h a w) (L : LessR r2 r) (M : LessH h2 h) : St n G φ r2 h2 a w :=
  ⟨S.hr.less M, fun t ht => by
    rcases L (hi t) (lo t) with e | e
    · rw [e]; exact S.regs t ht
    · rw [e]; exact .undef _, S.nodef, S.size, S.glob⟩
theorem peq_eq {a b : P4} (e : peq a b = true) : a = b := peq_iff.1 e
theorem mgRS_safe {x y : RS} (hs : (mgRS x y).Safe) : ∃ r h r' h' h2, x = .nm r h ∧ y = .nm r' h' ∧ mgRS x y = .nm (A2.mg r r') h2 ∧ LessH h2 h ∧ LessH h2 h' := by
  cases x <;> (try exact (RS.Safe.err hs).elim)
  rename_i r h
  cases y <;> (try exact (RS.Safe.err hs).elim)
  rename_i r' h'
  obtain ⟨t, m⟩ := h
  obtain ⟨t', m'⟩ := h'
  change RS.Safe (@Bool.rec (fun _ => RS) (.err 301) (.nm (A2.mg r r') (.mk (O4.mg t t') m)) (peq m m')) at hs
  have e : mgRS (.nm r (.mk t m)) (.nm r' (.mk t' m')) = (@Bool.rec (fun _ => RS) (.err 301) (.nm (A2.mg r r') (.mk (O4.mg t t') m)) (peq m m')) := rfl
  cases hp : peq m m' with
  | false => rw [hp] at hs; exact (RS.Safe.err hs).elim
  | true =>
    rw [hp] at e
    refine ⟨r, _, r', _, .mk (O4.mg t t') m, rfl, rfl, e, fun i => ?_, fun i => ?_⟩
    · show hgetT i (O4.mg t t') = hgetT i t ∨ hgetT i (O4.mg t t') = .dead
      rw [hgetT_mg]
      rcases mgObj_get (hgetT i t) (hgetT i t') with ⟨g1, _⟩ | g1
      · exact .inl g1
      · exact .inr g1
    · show hgetT i (O4.mg t t') = hgetT i t' ∨ hgetT i (O4.mg t t') = .dead
      rw [hgetT_mg]
      rcases mgObj_get (hgetT i t) (hgetT i t') with ⟨g1, g2⟩ | g1
      · exact .inl (g1.trans g2)
      · exact .inr g1
theorem LessR.mg_l (r r' : A2) : LessR (A2.mg r r') r := fun a b => by
  rw [rget_mg]
  rcases mgV_get (rget a b r) (rget a b r') with ⟨g1, _⟩ | g1
  · exact .inl g1
  · exact .inr g1
theorem LessR.mg_r (r r' : A2) : LessR (A2.mg r r') r' := fun a b => by
  rw [rget_mg]
  rcases mgV_get (rget a b r) (rget a b r') with ⟨g1, g2⟩ | g1
  · exact .inl (g1.trans g2)
  · exact .inr g1
theorem nrec_succ {β : Type} (z : β) (s : Nat → β → β) (m : Nat) : nrec z s (m + 1) = s m (nrec z s m) := rfl
theorem mgN_ok {f : Nat → RS} : ∀ m, (nrec (f 0) (fun m ih => mgRS ih (f (Nat.succ m))) (m + 1)).Safe → ∃ R H, nrec (f 0) (fun m ih => mgRS ih (f (Nat.succ m))) (m + 1) = .nm R H ∧ ∀ c, c ≤ m + 1 → ∃ r h, f c = .nm r h ∧ LessR R r ∧ LessH H h
  | 0, hs => by
    obtain ⟨r, h, r', h', h2, e1, e2, e3, l1, l2⟩ := mgRS_safe (x := f 0) (y := f 1) hs
    refine ⟨_, _, e3, fun c hc => ?_⟩
    rcases Nat.lt_or_ge c 1 with g | g
    · obtain rfl : c = 0 := by omega
      exact ⟨r, h, e1, .mg_l _ _, l1⟩
    · obtain rfl : c = 1 := by omega
      exact ⟨r', h', e2, .mg_r _ _, l2⟩
  | m + 1, hs => by
    rw [nrec_succ] at hs ⊢
    obtain ⟨r, h, r', h', h2, e1, e2, e3, l1, l2⟩ := mgRS_safe hs
    obtain ⟨R, H, g1, g2⟩ := mgN_ok m (by rw [e1]; exact fun n hn => by cases hn)
    rw [e1] at g1; cases g1
    refine ⟨_, _, e3, fun c hc => ?_⟩
    rcases Nat.lt_or_ge c (m + 2) with g | g
    · obtain ⟨rc, hc', f1, f2, f3⟩ := g2 c (by omega)
      exact ⟨rc, hc', f1, (LessR.mg_l _ _).trans f2, l1.trans f3⟩
    · obtain rfl : c = m + 2 := by omega
      exact ⟨r', h', e2, .mg_r _ _, l2⟩
theorem join_ok : ∀ x : RS, (joinT x).Safe → x.Safe ∧ ∀ y, x.Leaf y → ∀ e r' h', Ends y e r' h' → ∃ y2 r2 h2, (joinT x).Leaf y2 ∧ Ends y2 e r2 h2 ∧ LessR r2 r' ∧ LessH h2 h' := by
  intro x
  induction x with
  | nm r h => exact fun hs => ⟨hs, fun y hy e r' h' he => ⟨y, r', h', hy, he, .refl _, .refl _⟩⟩
  | ex i r h => exact fun hs => ⟨hs, fun y hy e r' h' he => ⟨y, r', h', hy, he, .refl _, .refl _⟩⟩
  | go i r h => exact fun hs => ⟨hs, fun y hy e r' h' he => ⟨y, r', h', hy, he, .refl _, .refl _⟩⟩
  | ret r h => exact fun hs => ⟨hs, fun y hy e r' h' he => ⟨y, r', h', hy, he, .refl _, .refl _⟩⟩
  | err n => exact fun hs => (RS.Safe.err hs).elim
  | ch n k ih =>
    intro hs
    have e0 : joinT (.ch n k) = mgAll n (fun i => joinT (k i)) := rfl
    rw [e0] at hs ⊢
    cases n with
    | zero => exact (RS.Safe.err hs).elim
    | succ n =>
      cases n with
      | zero =>
        have hs : (joinT (k 0)).Safe := hs
        obtain ⟨s1, s2⟩ := ih 0 hs
        refine ⟨fun m hm => ?_, fun y hy e r' h' he => ?_⟩
        · cases hm with
          | ch _ _ c _ hc hl => obtain rfl : c = 0 := by omega
                                exact s1 m hl
        · cases hy with
          | ch _ _ c _ hc hl => obtain rfl : c = 0 := by omega
                                exact s2 y hl e r' h' he
      | succ m =>
        have hs : (nrec (joinT (k 0)) (fun m ih => mgRS ih (joinT (k (Nat.succ m)))) (m + 1)).Safe := hs
        obtain ⟨R, H, g1, g2⟩ := mgN_ok (f := fun i => joinT (k i)) m hs
        have e1 : mgAll (m + 1 + 1) (fun i => joinT (k i)) = .nm R H := g1
        rw [e1]
        have hk : ∀ c, c < m + 1 + 1 → (joinT (k c)).Safe := fun c hc => by
          obtain ⟨rc, hc', f1, _, _⟩ := g2 c (by omega)
          rw [f1]; exact fun n hn => by cases hn
        refine ⟨fun j hj => ?_, fun y hy e r' h' he => ?_⟩
        · cases hj with
          | ch _ _ c _ hc hl => exact (ih c (hk c hc)).1 j hl
        · cases hy with
          | ch _ _ c _ hc hl =>
            obtain ⟨y2, r2, h2, q1, q2, q3, q4⟩ := (ih c (hk c hc)).2 y hl e r' h' he
            obtain ⟨rc, hc', f1, f2, f3⟩ := g2 c (by omega)
            have f1 : joinT (k c) = .nm rc hc' := f1
            rw [f1] at q1
            cases q1
            cases q2
            exact ⟨_, R, H, .nm _ _, .nm _ _, f2.trans q3, f3.trans q4⟩
end Go.Am
namespace Go.Am
variable {P : Program} {φ φ' : Phi} {h h' h2 : Hp} {w w' : World} {v : AV} {r r2 : A2} {a : Act} {cv : Value} {n : Nat} {G : Gl} [NB G] {names : List String} {p : Pg} {run : Run}
theorem var_ld1 {x : AO} {cx : Value} (H : HR φ h w) (hx : VR φ (ev x r) cx) {t : TypeId} {d : TypeDesc} (hd : P.underlying t = some d) (ha : isA P t = false) (e : o_ld1 x r h = .ok v h') :
    h' = h ∧ ∃ ad cv, cx = .pointer (some ad) ∧ (loadVar t ad).run P w = .ok cv w ∧ VR φ v cv := by
  obtain ⟨i, o, ex, e1⟩ := onPtr_ok e
  rw [ex] at hx
  obtain ⟨el, n, ex, fl, c, hi, e2⟩ := onCells_ok e1
  obtain ⟨hb, e3⟩ := if_ok e2
  obtain ⟨rfl, rfl⟩ := RV.ok_inj e3
  cases hx with
  | ptr _ _ p hp =>
    obtain ⟨cv, h1, h2, h3⟩ := H.cell hi hp (inb_lt hb)
    exact ⟨rfl, _, cv, rfl, by simp [loadVar, run_isAgg hd, ha, h1], h2⟩
theorem var_ldn {x : AO} {cx : Value} (H : HR φ h w) (hx : VR φ (ev x r) cx) {t : TypeId} {d : TypeDesc} (hd : P.underlying t = some d) (ha : isA P t = true) {m : Nat} (hm : szOf P t = m) (e : o_ldn m x r h = .ok v h') :
    h' = h ∧ ∃ ad cv, cx = .pointer (some ad) ∧ (loadVar t ad).run P w = .ok cv w ∧ VR φ v cv := by
  obtain ⟨i, o, ex, e1⟩ := onPtr_ok e
  rw [ex] at hx
  obtain ⟨el, n, ex, fl, c, hi, e2⟩ := onCells_ok e1
  obtain ⟨hb, e3⟩ := if_ok e2
  obtain ⟨rfl, rfl⟩ := RV.ok_inj e3
  obtain ⟨inf, hinf⟩ := info_of_und hd
  cases hx with
  | ptr _ _ p hp =>
    obtain ⟨l, h1, h2, h3, h4⟩ := H.values hi hp m o (by simpa using hb)
    have hsz : inf.size = m := by rw [← szOf_eq hinf, hm]
    exact ⟨rfl, _, _, rfl, by simp [loadVar, run_isAgg hd, ha, run_size hinf, hsz, run_loadCells h1 h4], .agg _ l h2 h3⟩
def resOf (a : Act) : ResultVar → Sem Value := fun
  | .tmp t => pure (a.tmps.getD t undef)
  | .cell b t => do loadVar t (← asAddr (a.tmps.getD b undef))
theorem res1_ok {s : Rs} {rv : ResultVar} (S : St n G φ r h a w) (hs : cRs P n rv = some s) (he : res1 s r h = .ok v h') : h' = h ∧ ∃ cv, (resOf a rv).run P w = .ok cv w ∧ VR φ v cv := by
  cases rv with
  | tmp t =>
    simp only [cRs] at hs
    split at hs
    · rename_i ht
      cases hs
      obtain ⟨rfl, rfl⟩ := RV.ok_inj he
      exact ⟨rfl, _, rfl, S.reg t ht⟩
    · cases hs
  | cell b t =>
    simp only [cRs] at hs
    split at hs
    · cases hs
    · rename_i hu
      obtain ⟨d, hd⟩ := notNone hu
      split at hs
      · rename_i ht
        have hv : VR φ (ev (.t (hi b) (lo b)) r) (a.tmps.getD b undef) := S.reg b ht
        have key : h' = h ∧ ∃ ad cv, a.tmps.getD b undef = .pointer (some ad) ∧ (loadVar t ad).run P w = .ok cv w ∧ VR φ v cv := by
          cases ha : isA P t with
          | true =>
            rw [ha] at hs
            cases hs
            exact var_ldn S.hr hv hd ha rfl he
          | false =>
            rw [ha] at hs
            cases hs
            exact var_ld1 S.hr hv hd ha he
        obtain ⟨e1, ad, cv, e2, e3, e4⟩ := key
        refine ⟨e1, cv, ?_, e4⟩
        have : (asAddr (.pointer (some ad))).run P w = .ok ad w := rfl
        simp only [resOf, e2, Sem.run_bind, this, Result.andThen_ok, e3]
      · cases hs
theorem resL_ok (S : St n G φ r h a w) : ∀ {l : List ResultVar} {rs : List Rs} {k : List AV → RV}, l.mapM (cRs P n) = some rs → resL rs r h k = .ok v h' → ∃ vs cs, k vs = .ok v h' ∧ (l.mapM (resOf a)).run P w = .ok cs w ∧ VRL φ vs cs
  | [], rs, k, hl, he => by
    simp at hl; subst hl
    exact ⟨[], [], he, rfl, .nil⟩
  | x :: l, rs, k, hl, he => by
    simp only [List.mapM_cons, Option.pure_def, Option.bind_eq_bind, Option.bind_eq_some_iff, Option.some.injEq] at hl
    obtain ⟨s, hs, rs, hrs, rfl⟩ := hl
    have he : (RV.rec (fun v _ => resL rs r h (fun vs => k (v :: vs))) (fun n => .err n) (res1 s r h) : RV) = .ok v h' := he
    cases h1 : res1 s r h with
    | err n => rw [h1] at he; cases he
    | ok u g =>
      rw [h1] at he
      obtain ⟨_, cv, e1, e2⟩ := res1_ok S hs h1
      obtain ⟨vs, cs, f1, f2, f3⟩ := resL_ok S hrs he
      refine ⟨u :: vs, cv :: cs, f1, ?_, .cons _ _ _ _ e2 f3⟩
      simp only [List.mapM_cons, Sem.run_bind, e1, Result.andThen_ok, f2, Sem.run_pure]
theorem results_ok {fn : Func} {rs : List Rs} (S : St n G φ r h a w) (hr : fn.results.toList.mapM (cRs P n) = some rs) (he : retF rs r h = .ok v h') : h' = h ∧ ∃ cv, (results fn a.tmps).run P w = .ok cv w ∧ VR φ v cv := by
  obtain ⟨vs, cs, f1, f2, f3⟩ := resL_ok S hr he
  have hm : (fn.results.mapM (resOf a)).run P w = .ok cs.toArray w := by
    rw [Array.mapM_eq_mapM_toList]
    simp [f2]
  have hrun : (results fn a.tmps).run P w = .ok (if h : cs.toArray.size = 1 then cs.toArray[0] else .tuple cs.toArray) w := by
    have : results fn a.tmps = (do let vs ← fn.results.mapM (resOf a); pure (if h : vs.size = 1 then vs[0] else .tuple vs)) := rfl
    rw [this]
    simp only [Sem.run_bind, hm, Result.andThen_ok, Sem.run_pure]
  cases f3 with
  | nil =>
    obtain ⟨rfl, rfl⟩ := RV.ok_inj f1
    exact ⟨rfl, .tuple #[], by rw [hrun]; rfl, .tup [] [] .nil⟩
  | cons u c us ds g1 g2 => cases g2 with
    | nil =>
      obtain ⟨rfl, rfl⟩ := RV.ok_inj f1
      exact ⟨rfl, c, by rw [hrun]; rfl, g1⟩
    | cons u2 c2 us ds g3 g4 =>
      obtain ⟨rfl, rfl⟩ := RV.ok_inj f1
      refine ⟨rfl, .tuple (c :: c2 :: ds).toArray, by rw [hrun]; rw [dif_neg (by simp)], .tup _ _ (.cons _ _ _ _ g1 (.cons _ _ _ _ g3 g4))⟩
theorem rget_rputs : ∀ (l : List AV) (i : Nat) (r : A2) (t : Nat), t < 256 → i + l.length ≤ 256 → rget (hi t) (lo t) (rputs l i r) = if hh : i ≤ t ∧ t < i + l.length then l[t - i]'(by omega) else rget (hi t) (lo t) r
  | [], i, r, t, ht, hl => by rw [dif_neg (by simp only [List.length_nil]; omega)]; rfl
  | v :: l, i, r, t, ht, hl => by
    simp only [List.length_cons] at hl
    have e : rputs (v :: l) i r = rputs l (i + 1) (rset (hi i) (lo i) v r) := rfl
    rw [e, rget_rputs l (i + 1) _ t ht (by omega), rget_rset]
    by_cases h1 : t = i
    · subst h1
      rw [dif_neg (by omega), dif_pos (by simp), if_pos ⟨rfl, rfl⟩]
      simp
    · rw [if_neg (fun g => h1 ((hilo ht (by omega)).1 g))]
      by_cases h2 : i ≤ t ∧ t < i + (l.length + 1)
      · rw [dif_pos (by omega), dif_pos (by simpa using h2)]
        have : t - i = (t - (i + 1)) + 1 := by omega
        simp only [this, List.getElem_cons_succ]
      · rw [dif_neg (by omega), dif_neg (by simpa using h2)]
theorem rget_nil (a b : H) : rget a b .nil = .undef := by
  simp only [rget, A2.get_nil, A1.get_nil]
theorem St.start {args : List AV} {vals : List Value} (H : HR φ h w) (hv : VRL φ args vals) (hg : Glob G φ) (hl : args.length ≤ 256) (n : Nat) : St n G φ (rputs args 0 .nil) h { tmps := vals.toArray ++ Array.replicate (n - vals.toArray.size) undef, defers := [] } w := by
  refine St.mk' H (fun t ht => ?_) rfl ?_ hg
  · rw [rget_rputs args 0 _ t ht (by omega)]
    by_cases h1 : t < args.length
    · rw [dif_pos (by omega)]
      have hlen := hv.length
      have : ({ tmps := vals.toArray ++ Array.replicate (n - vals.toArray.size) undef, defers := [] } : Act).tmps.getD t undef = vals[t]'(by omega) := by
        rw [Array.getD_eq_getD_getElem?, Array.getElem?_append_left (by simpa using (by omega : t < vals.length))]
        simp [List.getElem?_eq_getElem (show t < vals.length by omega)]
      rw [this]
      exact hv.get t h1 (by omega)
    · rw [dif_neg (by omega), rget_nil]; exact .undef _
  · simp; omega
end Go.Am
namespace Go.Am
section
variable {P : Program} {ops : Array Oper} {x y : Nat}
theorem edge_get (i : Nat) : (edge x y ops)[i]? = (ops[i]?).map fun o => if i = y then { o with after := o.after.push ⟨x, .data⟩ } else o := by
  unfold edge
  rw [Array.getElem?_modify]
  by_cases h : y = i
  · subst h; simp
  · rw [if_neg h]
    have : ¬ i = y := fun e => h e.symm
    simp [this]
theorem edge_size : (edge x y ops).size = ops.size := by simp [edge]
theorem edge_dst (j : Nat) : ((edge x y ops)[j]?).bind (·.dst) = (ops[j]?).bind (·.dst) := by
  rw [edge_get]
  cases ops[j]? with
  | none => rfl
  | some o =>
    show (if j = y then _ else o : Oper).dst = o.dst
    split <;> rfl
theorem edge_yielded (t : Array Value) : yielded (edge x y ops) t = yielded ops t := by
  funext j
  unfold yielded
  rw [edge_dst]
theorem edge_wpOp (Q : Exit → Act → World → Prop) (i : Nat) (K : Act → World → Prop) (a : Act) (w : World) : wpOp P (edge x y ops) Q i K a w = wpOp P ops Q i K a w := by
  unfold wpOp
  rw [edge_get, edge_yielded]
  cases ops[i]? with
  | none => rfl
  | some o =>
    show (if Region.wanted (if i = y then _ else o : Oper) _ then (if i = y then _ else o : Oper).wp P a w K Q ∨ ((if i = y then _ else o : Oper).asks P a w ∧ LetsOut Q) else K (a.put (if i = y then _ else o : Oper).dst undef) w) = _
    by_cases h : i = y
    · rw [if_pos h]; rfl
    · rw [if_neg h]
theorem edge_ready {L : Array Bool} (i : Nat) : i ∈ Region.ready .any (edge x y ops) L ↔ i ∈ Region.ready .any ops L ∧ (i = y → L.getD x false = true) := by
  unfold Region.ready
  rw [List.mem_filter, List.mem_filter, edge_size, edge_get]
  cases ho : ops[i]? with
  | none => simp
  | some o =>
    by_cases h : i = y
    · subst h
      have hb : Region.binds .any ⟨x, .data⟩ = true := rfl
      simp [hb, and_assoc]
    · simp [h]
def Flat (P : Program) (o : Oper) : Prop := ∀ (a : Act) (w : World) (n : Next) (w' : World), (execOp a.eval o).run P w = .ok n w' → (∃ v, n = .value v) ∨ n = .skip
variable {Q Q1 Q2 : Exit → Act → World → Prop}
theorem wp_and {o : Oper} (hf : Flat P o) {a : Act} {w : World} {K1 K2 K : Act → World → Prop} (hK : ∀ a w, K1 a w → K2 a w → K a w) (hQ : ∀ e a w, Q1 e a w → Q e a w) (h1 : o.wp P a w K1 Q1) (h2 : o.wp P a w K2 Q2) : o.wp P a w K Q := by
  unfold Oper.wp at *
  cases hr : (execOp a.eval o).run P w with
  | ok n w' =>
    rw [hr] at h1 h2
    rcases hf a w n w' hr with ⟨v, rfl⟩ | rfl
    · exact hK _ _ h1 h2
    · exact hK _ _ h1 h2
  | halt s w' =>
    rw [hr] at h1 h2
    cases s <;> simp only [Oper.upon] at h1 h2 ⊢ <;> exact hQ _ _ _ h1
theorem wpOp_and (hf : ∀ (i : Nat) (o : Oper), ops[i]? = some o → Flat P o) (hl1 : ¬ LetsOut Q1) (hl2 : ¬ LetsOut Q2) {i : Nat} {a : Act} {w : World} {K1 K2 K : Act → World → Prop} (hK : ∀ a w, K1 a w → K2 a w → K a w) (hQ : ∀ e a w, Q1 e a w → Q e a w)
    (h1 : wpOp P ops Q1 i K1 a w) (h2 : wpOp P ops Q2 i K2 a w) : wpOp P ops Q i K a w := by
  unfold wpOp at *
  cases ho : ops[i]? with
  | none => rw [ho] at h1 h2; exact hK _ _ h1 h2
  | some o =>
    rw [ho] at h1 h2
    simp only at h1 h2 ⊢
    split
    · rename_i hw
      rw [if_pos hw] at h1 h2
      rcases h1 with h1 | h1
      · rcases h2 with h2 | h2
        · exact .inl (wp_and (hf i o ho) hK hQ h1 h2)
        · exact absurd h2.2 hl2
      · exact absurd h1.2 hl1
    · rename_i hw
      rw [if_neg hw] at h1 h2
      exact hK _ _ h1 h2
theorem letsMono (hQ : ∀ e a w, Q1 e a w → Q e a w) (h : LetsOut Q1) : LetsOut Q := let ⟨a, w, h⟩ := h; ⟨a, w, hQ _ _ _ h⟩
theorem wpOp_weak (hQ : ∀ e a w, Q1 e a w → Q e a w) (hf : ∀ (i : Nat) (o : Oper), ops[i]? = some o → Flat P o) {i : Nat} {a : Act} {w : World} {K1 K : Act → World → Prop} (hK : ∀ a w, K1 a w → K a w) (h1 : wpOp P ops Q1 i K1 a w) : wpOp P ops Q i K a w := by
  unfold wpOp at *
  cases ho : ops[i]? with
  | none => rw [ho] at h1; exact hK _ _ h1
  | some o =>
    rw [ho] at h1
    simp only at h1 ⊢
    split
    · rename_i hw
      rw [if_pos hw] at h1
      rcases h1 with h1 | h1
      · exact .inl (wp_and (hf i o ho) (fun a w h _ => hK a w h) hQ h1 h1)
      · exact .inr ⟨h1.1, letsMono hQ h1.2⟩
    · rename_i hw
      rw [if_neg hw] at h1
      exact hK _ _ h1
theorem wpAny_listed (hf : ∀ (i : Nat) (o : Oper), ops[i]? = some o → Flat P o) (hQ : ∀ e a w, Q1 e a w → Q e a w) : ∀ (fuel : Nat) (L : Array Bool) (a : Act) (w : World), L.getD x false = true → wpAny P .any (edge x y ops) Q1 fuel L a w → wpAny P .any ops Q fuel L a w
  | 0, L, a, w, hx, h => by
    have hr : Region.ready .any ops L = [] := List.eq_nil_iff_forall_not_mem.2 fun j hj => by
      have : j ∈ Region.ready .any (edge x y ops) L := edge_ready j |>.2 ⟨hj, fun _ => hx⟩
      rw [h.1] at this; cases this
    exact ⟨hr, hQ _ _ _ h.2⟩
  | fuel + 1, L, a, w, hx, h => by
    have hrd : ∀ j, j ∈ Region.ready .any ops L → j ∈ Region.ready .any (edge x y ops) L := fun j hj => edge_ready j |>.2 ⟨hj, fun _ => hx⟩
    refine ⟨fun hr => hQ _ _ _ (h.1 (List.eq_nil_iff_forall_not_mem.2 fun j hj => ?_)), fun i hi => ?_⟩
    · have := (edge_ready j |>.1 hj).1
      rw [hr] at this; cases this
    · have := h.2 i (hrd i hi)
      rw [edge_wpOp] at this
      refine wpOp_weak hQ hf (fun a w h => wpAny_listed hf hQ fuel _ a w ?_ h) this
      rw [Array.getD_eq_getD_getElem?] at hx ⊢
      rw [Array.getElem?_setIfInBounds]
      split
      · rename_i e; subst e
        split
        · rfl
        · rename_i hlt
          rw [Array.getElem?_eq_none (by omega)] at hx
          cases hx
      · exact hx
theorem wpAny_alt (hf : ∀ (i : Nat) (o : Oper), ops[i]? = some o → Flat P o) (hl1 : ¬ LetsOut Q1) (hl2 : ¬ LetsOut Q2) (h1Q : ∀ e a w, Q1 e a w → Q e a w) (h2Q : ∀ e a w, Q2 e a w → Q e a w) :
    ∀ (fuel : Nat) (L : Array Bool) (a : Act) (w : World), wpAny P .any (edge x y ops) Q1 fuel L a w → wpAny P .any (edge y x ops) Q2 fuel L a w → x ≠ y → (L.getD x false = false) → (L.getD y false = false) → L.size = ops.size → x < ops.size → y < ops.size → wpAny P .any ops Q fuel L a w
  | 0, L, a, w, h1, h2, hn, hx, hy, hs, hxs, hys => by
    refine ⟨List.eq_nil_iff_forall_not_mem.2 fun j hj => ?_, h1Q _ _ _ h1.2⟩
    by_cases e : j = y
    · have hjx : j ≠ x := fun e2 => hn (e2.symm.trans e)
      have : j ∈ Region.ready .any (edge y x ops) L := edge_ready j |>.2 ⟨hj, fun e2 => absurd e2 hjx⟩
      rw [h2.1] at this; cases this
    · have : j ∈ Region.ready .any (edge x y ops) L := edge_ready j |>.2 ⟨hj, fun e2 => absurd e2 e⟩
      rw [h1.1] at this; cases this
  | fuel + 1, L, a, w, h1, h2, hn, hx, hy, hs, hxs, hys => by
    have r1 : ∀ j, j ∈ Region.ready .any ops L → j ≠ y → j ∈ Region.ready .any (edge x y ops) L := fun j hj e => edge_ready j |>.2 ⟨hj, fun e2 => absurd e2 e⟩
    have r2 : ∀ j, j ∈ Region.ready .any ops L → j ≠ x → j ∈ Region.ready .any (edge y x ops) L := fun j hj e => edge_ready j |>.2 ⟨hj, fun e2 => absurd e2 e⟩
    refine ⟨fun hr => h1Q _ _ _ (h1.1 (List.eq_nil_iff_forall_not_mem.2 fun j hj => ?_)), fun i hi => ?_⟩
    · have := (edge_ready j |>.1 hj).1
      rw [hr] at this; cases this
    · by_cases e : i = x
      · subst e
        have := h1.2 i (r1 i hi hn)
        rw [edge_wpOp] at this
        refine wpOp_weak h1Q hf (fun a w h => wpAny_listed hf h1Q fuel _ a w ?_ h) this
        rw [Array.getD_eq_getD_getElem?, Array.getElem?_setIfInBounds, if_pos rfl, if_pos (by omega)]; rfl
      · by_cases e' : i = y
        · subst e'
          have := h2.2 i (r2 i hi e)
          rw [edge_wpOp] at this
          refine wpOp_weak h2Q hf (fun a w h => wpAny_listed hf h2Q fuel _ a w ?_ h) this
          rw [Array.getD_eq_getD_getElem?, Array.getElem?_setIfInBounds, if_pos rfl, if_pos (by omega)]; rfl
        · have g1 := h1.2 i (r1 i hi e')
          have g2 := h2.2 i (r2 i hi e)
          rw [edge_wpOp] at g1 g2
          refine wpOp_and hf hl1 hl2 (fun a w k1 k2 => wpAny_alt hf hl1 hl2 h1Q h2Q fuel _ a w k1 k2 hn ?_ ?_ (by simp [hs]) hxs hys) h1Q g1 g2
          · rw [Array.getD_eq_getD_getElem?, Array.getElem?_setIfInBounds, if_neg e, ← Array.getD_eq_getD_getElem?]; exact hx
          · rw [Array.getD_eq_getD_getElem?, Array.getElem?_setIfInBounds, if_neg e', ← Array.getD_eq_getD_getElem?]; exact hy
end
end Go.Am
namespace Go.Am
variable {P : Program}
theorem flat_v {s : Sem Value} {w w' : World} {n : Next} (h : (s >>= fun x => pure (Next.value x) : Sem Next).run P w = .ok n w') : (∃ v, n = .value v) ∨ n = .skip := by
  rw [Sem.run_bind] at h
  cases hs : s.run P w with
  | ok x w2 => rw [hs] at h; cases h; exact .inl ⟨_, rfl⟩
  | halt q w2 => rw [hs] at h; cases h
theorem flat_u {s : Sem Unit} {w w' : World} {n : Next} (h : (s >>= fun _ => pure Next.skip : Sem Next).run P w = .ok n w') : (∃ v, n = .value v) ∨ n = .skip := by
  rw [Sem.run_bind] at h
  cases hs : s.run P w with
  | ok x w2 => rw [hs] at h; cases h; exact .inr rfl
  | halt q w2 => rw [hs] at h; cases h
theorem bind_ok {α β : Type} {s : Sem α} {f : α → Sem β} {w w' : World} {n : β} (h : (s >>= f).run P w = .ok n w') : ∃ x w2, s.run P w = .ok x w2 ∧ (f x).run P w2 = .ok n w' := by
  rw [Sem.run_bind] at h
  cases hs : s.run P w with
  | ok x w2 => rw [hs] at h; exact ⟨x, w2, rfl, h⟩
  | halt q w2 => rw [hs] at h; cases h
theorem flat_ok {o : Oper} (hf : flatOp o.op = true) : Flat P o := by
  intro a w n w' h
  unfold execOp at h
  cases ho : o.op with
  | move x => rw [ho] at h; cases h; exact .inl ⟨_, rfl⟩
  | assign x => rw [ho] at h; cases h; exact .inl ⟨_, rfl⟩
  | pick c x y =>
    rw [ho] at h
    have h : ((asBool (a.eval c)) >>= fun b => pure (Next.value (if b then a.eval x else a.eval y)) : Sem Next).run P w = .ok n w' := h
    rw [Sem.run_bind] at h
    cases hs : (asBool (a.eval c)).run P w with
    | ok x w2 => rw [hs] at h; cases h; exact .inl ⟨_, rfl⟩
    | halt q w2 => rw [hs] at h; cases h
  | nilCheck x =>
    rw [ho] at h
    simp only at h
    split at h
    · cases h
    · cases h
    · cases h
    · split at h
      · cases h
      · obtain ⟨_, _, _, h⟩ := bind_ok h
        obtain ⟨_, _, _, h⟩ := bind_ok h
        split at h
        · obtain ⟨_, _, h1, _⟩ := bind_ok h
          cases h1
        · first
            | (cases h; exact .inl ⟨_, rfl⟩)
            | (obtain ⟨_, _, _, h⟩ := bind_ok h; cases h; exact .inl ⟨_, rfl⟩)
      · cases h; exact .inl ⟨_, rfl⟩
    · cases h; exact .inl ⟨_, rfl⟩
  | call c =>
    rw [ho] at hf h
    simp only [flatOp] at hf
    split at hf
    · rename_i b hb
      have h : (resolve a.eval c o.type >>= fun d => invoke d.target d.args).run P w = .ok n w' := h
      unfold resolve at h
      simp only [hb] at h
      have h : (builtin b c.argTypes o.type (c.args.map fun | .const _ => true | _ => false) (c.args.map a.eval)).run P w = .ok n w' := h
      unfold builtin at h
      cases b <;> first | exact flat_v h | (exact absurd hf (by decide)) | cases h
    · cases hf
  | go c => rw [ho] at hf; cases hf
  | defer c => rw [ho] at hf; cases hf
  | send c x => rw [ho] at hf; cases hf
  | recv c x y => rw [ho] at hf; cases hf
  | select c x => rw [ho] at hf; cases hf
  | panic x => rw [ho] at hf; cases hf
  | _ => rw [ho] at h; first | exact flat_v h | exact flat_u h
end Go.Am
namespace Go.Am
variable {P : Program} {φ φ' : Phi} {h h' h2 : Hp} {w w' : World} {v : AV} {r r2 : A2} {a : Act} {cv : Value} {n : Nat} {G : Gl} [NB G] {names : List String} {p : Pg} {run : Run}
def FnOK (P : Program) (G : Gl) (names : List String) (f : Nat) (body : AC) (res : List Rs) : Prop := ∃ fn body0, P.funcs[f]? = some fn ∧ cF P G names fn = .mk body0 res ∧ Impl body0 body
def PrimOK (P : Program) (G : Gl) (k : PK) (f : Nat) : Prop := ∀ (φ : Phi) (h : Hp) (w : World) (args : List AV) (vals : List Value), Glob G φ → HR φ h w → VRL φ args vals → (primRun k args h).Safe →
  Calls P f vals.toArray w (CallPost φ h w (primRun k args h))
def ExtOK (P : Program) (G : Gl) (k : PK) (f : Nat) : Prop := ∀ (φ : Phi) (h : Hp) (w : World) (args : List AV) (vals : List Value), Glob G φ → HR φ h w → VRL φ args vals → (primRun k args h).Safe →
  ∃ cv w', (callFunc f vals.toArray).run P w = .ok (.value cv) w' ∧ CallPost φ h w (primRun k args h) (.returned cv) w'
structure Env (P : Program) (G : Gl) (names : List String) (p : Pg) : Prop where
  mixed : P.follows .mixedOrders = true
  ms : MsOK P names p.ms
  fs : ∀ f, match fgetT f p.fs with
    | .none => True
    | .mk body res => FnOK P G names f body res
    | .prim k body res => FnOK P G names f body res ∧ PrimOK P G k f
    | .mkj body res => FnOK P G names f body res
    | .ext k => ExtOK P G k f
def DrwH (P : Program) (G : Gl) (names : List String) (p : Pg) : Prop := ∀ (n : Nat) (run : Run), CallsOK P G p run → ∀ (id : Nat) (ops : Array Oper) (l : List (Nat × Bk)) (kf : A2 → Hp → RS) (r : A2) (h : Hp) (φ : Phi) (a : Act) (w : World), okDraw P G n names ops l = true → St n G φ r h a w →
  (drwC (callF p run) (callI p run) kf (l.map fun (i, b) => .mk b (cGI P G n names ops (ops.getD i default))) r h h []).Safe → (Code.region id ops true).wp P (fun e a' w' => e = .normal ∧ ∃ r' h' φ',
    drwC (callF p run) (callI p run) kf (l.map fun (i, b) => .mk b (cGI P G n names ops (ops.getD i default))) r h h [] = kf r' h' ∧ St n G φ' r' h' a' w' ∧ Step φ h w φ' h' w') a w
def DrwA (P : Program) (G : Gl) (names : List String) (p : Pg) : Prop := ∀ (n : Nat) (run : Run), CallsOK P G p run → ∀ (ops : Array Oper) (l : List (Nat × Bk)) (kf : A2 → Hp → RS) (r : A2) (h : Hp) (φ : Phi) (a : Act) (w : World) (Q : Exit → Act → World → Prop), okDraw P G n names ops l = true → St n G φ r h a w →
  (drwC (callF p run) (callI p run) kf (l.map fun (i, b) => .mk b (cGI P G n names ops (ops.getD i default))) r h h []).Safe → (∀ r' h' φ' a' w',
    drwC (callF p run) (callI p run) kf (l.map fun (i, b) => .mk b (cGI P G n names ops (ops.getD i default))) r h h [] = kf r' h' → St n G φ' r' h' a' w' → Step φ h w φ' h' w' → Q .normal a' w') → wpAny P .any ops Q ops.size (Array.replicate ops.size false) a { w with drawn := w.drawn + 1 }
theorem DrwA.toH (hm : P.follows .mixedOrders = true) (D : DrwA P G names p) : DrwH P G names p := fun n run CO _ ops l kf r h φ a w hd S hs => wp_region_any hm (D n run CO ops l kf r h φ a w _ hd S hs fun r' h' φ' _ _ e S' T => ⟨rfl, r', h', φ', e, S', T⟩)
theorem dalX_cases {bad : Array Oper → AC} (ops : Array Oper) : (∃ l, okDraw P G n names ops l = true ∧ dalX P G bad n names ops = .drw (l.map fun (i, b) => .mk b (cGI P G n names ops (ops.getD i default)))) ∨ dalX P G bad n names ops = bad ops := by
  unfold dalX
  dsimp only
  split
  · rename_i h; exact .inl ⟨_, h, rfl⟩
  · split
    · rename_i h; exact .inl ⟨_, h, rfl⟩
    · split
      · rename_i h; exact .inl ⟨_, h, rfl⟩
      · exact .inr rfl
theorem dalA_cases {next : Array Oper → AC} (ops : Array Oper) : (∃ x y, (∀ o, o ∈ ops.toList → flatOp o.op = true) ∧ x ≠ y ∧ x < ops.size ∧ y < ops.size ∧ dalA P G next names ops = .alt (next (edge x y ops)) (next (edge y x ops))) ∨ ∃ k, dalA P G next names ops = .bad k := by
  unfold dalA
  split
  · rename_i x y _
    split
    · rename_i h
      simp only [Bool.and_eq_true, bne_iff_ne, ne_eq, decide_eq_true_eq] at h
      obtain ⟨⟨⟨h1, h2⟩, h3⟩, h4⟩ := h
      refine .inl ⟨x, y, fun o ho => ?_, h2, h3, h4, rfl⟩
      obtain ⟨i, hi, rfl⟩ := List.getElem_of_mem ho
      have := (Array.all_eq_true.1 h1) i (by simpa using hi)
      simpa using this
    · exact .inr ⟨_, rfl⟩
  · exact .inr ⟨_, rfl⟩
theorem regC_cases (ops : Array Oper) : regC P G n names ops = .ops (ops.toList.map fun o => cGJ P G n names ops o) ∨ ∃ q, regC P G n names ops = .opsb q (ops.toList.map fun o => cGJ P { G with b := some q } n names ops o) := by
  unfold regC
  dsimp only
  split
  · split
    · exact .inr ⟨_, rfl⟩
    · exact .inl rfl
  · exact .inl rfl
theorem findL_regC (ops : Array Oper) (l : Nat) : findL (regC P G n names ops) l = none := by
  rcases regC_cases (P := P) (G := G) (n := n) (names := names) ops with e | ⟨q, e⟩ <;> rw [e] <;> rfl
theorem exec_succ (p : Pg) (m : Nat) (c : AC) : exec p (m + 1) c = execS c p (exec p m) := rfl
theorem CPost.lift {x x' : RS} (hl : ∀ y, x.Leaf y → x'.Leaf y) {e : Exit} (hq : CPost n G φ h w x e a w') : CPost n G φ h w x' e a w' :=
  let ⟨y, r', h', φ', h1, h2, h3, h4⟩ := hq; ⟨y, r', h', φ', hl y h1, h2, h3, h4⟩
theorem cC_block (i : Nat) (c : Code) : cC P G n names (.block i c) = .block i (cC P G n names c) ∨ cC P G n names (.block i c) = .join (.block i (cC P G n names c)) := by
  cases c with
  | loop b =>
    show (if hasNext b then AC.join (.block i (.loop (cC P G n names b))) else .block i (.loop (cC P G n names b))) = _ ∨ (if hasNext b then AC.join (.block i (.loop (cC P G n names b))) else .block i (.loop (cC P G n names b))) = _
    split
    · exact .inr rfl
    · exact .inl rfl
  | _ => exact .inl rfl
theorem findL_dalX {bad : Array Oper → AC} (hb : ∀ ops l, findL (bad ops) l = none) (ops : Array Oper) (l : Nat) : findL (dalX P G bad n names ops) l = none := by
  unfold dalX
  dsimp only
  split
  · rfl
  · split
    · rfl
    · split
      · rfl
      · exact hb _ _
theorem findL_dalA {next : Array Oper → AC} (ops : Array Oper) (l : Nat) : findL (dalA P G next names ops) l = none := by
  unfold dalA
  split
  · split <;> rfl
  · rfl
theorem findL_dalC (ops : Array Oper) (l : Nat) : findL (dalC P G n names ops) l = none :=
  findL_dalX (fun ops l => findL_dalA ops l) ops l
theorem findL_cC (l : Nat) : ∀ c : Code, findL (cC P G n names c) l = (findLabel c l).map (cC P G n names)
  | .seq a b => by
    have ha := findL_cC l a
    have hb := findL_cC l b
    show (match findL (cC P G n names a) l with | some c => some (AC.seq c (cC P G n names b)) | none => findL (cC P G n names b) l) = (match findLabel a l with | some rest => some (Code.seq rest b) | none => findLabel b l).map (cC P G n names)
    rw [ha, hb]
    cases findLabel a l <;> rfl
  | .label l' => by
    show (if Nat.beq l' l then some AC.skip else none) = (if l' == l then some Code.skip else none).map (cC P G n names)
    have : (l' == l) = Nat.beq l' l := by
      rw [Bool.eq_iff_iff, beq_iff_eq]; exact ⟨fun e => e ▸ Nat.beq_refl _, fun e => Nat.eq_of_beq_eq_true e⟩
    rw [this]
    cases Nat.beq l' l <;> rfl
  | .skip => rfl
  | .region _ ops false => findL_regC ops l
  | .region _ ops true => findL_dalC ops l
  | .cond c a b => by simp only [cC]; split <;> rfl
  | .block i a => by
    rcases cC_block (P := P) (G := G) (n := n) (names := names) i a with e | e <;> rw [e] <;> rfl
  | .loop a => rfl
  | .rangeFunc .. => rfl
  | .exit _ => rfl
  | .scope a => rfl
  | .goto _ => rfl
  | .ret => rfl
  | .refuse _ => rfl
theorem noLab_find (l : Nat) : ∀ {a : AC}, noLab a = true → findL a l = none
  | .seq a b, h => by
    simp only [noLab, Bool.and_eq_true] at h
    simp only [findL, noLab_find l h.1, noLab_find l h.2]
  | .skip, _ => rfl
  | .ops _, _ => rfl
  | .drw _, _ => rfl
  | .cond .., _ => rfl
  | .block .., _ => rfl
  | .loop _, _ => rfl
  | .scope _, _ => rfl
  | .sat .., _ => rfl
  | .exit _, _ => rfl
  | .goto _, _ => rfl
  | .label _, h => by cases h
  | .ret, _ => rfl
  | .join _, _ => rfl
  | .bad _, _ => rfl
  | .shal .., h => by cases h
  | .alt .., _ => rfl
  | .opsb .., _ => rfl
theorem findL_tail (l : Nat) : ∀ {k : Nat} {c : AC}, noLabs k c = true → findL c l = findL (tailOf k c) l
  | 0, c, _ => rfl
  | k + 1, c, h => by
    cases c with
    | seq a b =>
      simp only [noLabs, Bool.and_eq_true] at h
      simp only [findL, noLab_find l h.1, tailOf]
      exact findL_tail l h.2
    | _ => exact noLab_find l h
theorem findL_impl (l : Nat) {a a' : AC} (h : Impl a a') : (findL a l = none ∧ findL a' l = none) ∨ ∃ c c', findL a l = some c ∧ findL a' l = some c' ∧ Impl c c' := by
  induction h with
  | refl c =>
    cases hc : findL c l with
    | none => exact .inl ⟨rfl, rfl⟩
    | some d => exact .inr ⟨d, d, rfl, rfl, .refl d⟩
  | @seq a a' b b' ha hb iha ihb =>
    simp only [findL]
    rcases iha with ⟨e1, e2⟩ | ⟨c, c', e1, e2, e3⟩
    · simp only [e1, e2]; exact ihb
    · simp only [e1, e2]; exact .inr ⟨_, _, rfl, rfl, .seq e3 hb⟩
  | cond => exact .inl ⟨rfl, rfl⟩
  | block => exact .inl ⟨rfl, rfl⟩
  | loop => exact .inl ⟨rfl, rfl⟩
  | scope => exact .inl ⟨rfl, rfl⟩
  | join => exact .inl ⟨rfl, rfl⟩
  | unj => exact .inl ⟨rfl, rfl⟩
  | bad n hn => exact .inl ⟨noLab_find l hn, rfl⟩
  | shal k Lin L Lr Lx hn he hx ih =>
    rw [findL_tail l hn]
    exact ih
def ImplN (c x : AC) : Prop := match c with
  | .seq a b => ∃ a' b', x = .seq a' b' ∧ Impl a a' ∧ Impl b b'
  | .cond o a b => ∃ a' b', x = .cond o a' b' ∧ Impl a a' ∧ Impl b b'
  | .block i a => ∃ a', x = .block i a' ∧ Impl a a'
  | .loop a => ∃ a', x = .loop a' ∧ Impl a a'
  | .scope a => ∃ a', x = .scope a' ∧ Impl a a'
  | .join a => x = .join a ∨ (∃ i b b', a = .block i (.loop b) ∧ x = .join (.block i (.loop b')) ∧ Impl b b') ∨ ∃ i b b', a = .block i b ∧ x = .block i b' ∧ Impl b b'
  | c => x = c
theorem impl_cases {c x : AC} (h : Impl c x) : (∃ k Lin L Lr Lx y, x = .shal (denTop c k Lin L Lr Lx) y ∧ noLabs k c = true ∧ Impl (tailOf k c) y) ∨ (∃ n, x = .bad n) ∨ ImplN c x := by
  cases h with
  | refl =>
    right; right
    cases c <;> first
      | exact ⟨_, _, rfl, .refl _, .refl _⟩
      | exact ⟨_, rfl, .refl _⟩
      | exact .inl rfl
      | rfl
  | seq ha hb => exact .inr (.inr ⟨_, _, rfl, ha, hb⟩)
  | cond ha hb => exact .inr (.inr ⟨_, _, rfl, ha, hb⟩)
  | block ha => exact .inr (.inr ⟨_, rfl, ha⟩)
  | loop ha => exact .inr (.inr ⟨_, rfl, ha⟩)
  | scope ha => exact .inr (.inr ⟨_, rfl, ha⟩)
  | join ha => exact .inr (.inr (.inr (.inl ⟨_, _, _, rfl, rfl, ha⟩)))
  | unj ha => exact .inr (.inr (.inr (.inr ⟨_, _, _, rfl, rfl, ha⟩)))
  | bad n hn => exact .inr (.inl ⟨n, rfl⟩)
  | shal k Lin L Lr Lx hn he hx => subst he; exact .inl ⟨k, Lin, L, Lr, Lx, _, rfl, hn, hx⟩
structure CodeOK (P : Program) (G : Gl) (names : List String) (p : Pg) (m : Nat) : Prop where
  code : ∀ (n : Nat) (c : Code) (x : AC) (r : A2) (h : Hp) (φ : Phi) (a : Act) (w : World), Impl (cC P G n names c) x → St n G φ r h a w → (exec p m x r h).Safe → c.wp P (CPost n G φ h w (exec p m x r h)) a w
  block : ∀ (n i : Nat) (c : Code) (x : AC) (r : A2) (h : Hp) (φ : Phi) (a : Act) (w : World), Impl (cC P G n names c) x → St n G φ r h a w → (exec p m (.block i x) r h).Safe → (Code.block i c).wp P (CPost n G φ h w (exec p m (.block i x) r h)) a w
  loop : ∀ (n : Nat) (c : Code) (x : AC) (r : A2) (h : Hp) (φ : Phi) (a : Act) (w : World), Impl (cC P G n names c) x → St n G φ r h a w → (exec p m (.loop x) r h).Safe → LoopK P c (CPost n G φ h w (exec p m (.loop x) r h)) a w
  sat : ∀ (n : Nat) (s c : Code) (x y : AC) (r : A2) (h : Hp) (φ : Phi) (a : Act) (w : World), Impl (cC P G n names s) x → Impl (cC P G n names c) y → St n G φ r h a w → (exec p m (.sat x y) r h).Safe → SatK P s c (CPost n G φ h w (exec p m (.sat x y) r h)) a w
theorem leaf_callR {res : List Rs} {y : RS} : ∀ {x : RS}, x.Leaf y → (callR res y).Safe ∨ True := fun _ => .inr trivial
theorem callR_leaf {res : List Rs} {z : RT} : ∀ {x y : RS}, x.Leaf y → (callR res y).Leaf z → (callR res x).Leaf z
  | _, _, .nm .., g => g
  | _, _, .ex .., g => g
  | _, _, .go .., g => g
  | _, _, .ret .., g => g
  | _, _, .err .., g => g
  | _, _, .ch n k c y hc hl, g => .ch n _ c _ hc (callR_leaf hl g)
theorem callR_safe {res : List Rs} {x y : RS} (hs : (callR res x).Safe) (hl : x.Leaf y) : (callR res y).Safe := fun n hn => hs n (callR_leaf hl hn)
theorem callF_eq_mk {f : Nat} {body : AC} {res : List Rs} {args : List AV} (e : fgetT f p.fs = .mk body res) : callF p run f args h = (@Bool.rec (fun _ => RT) (.err 207) (callR res (run body (rputs args 0 .nil) h)) (Nat.ble args.length 256)) := by
  show (AF.rec _ _ _ _ _ (fgetT f p.fs) : RT) = _
  rw [e]
theorem callF_eq_prim {f : Nat} {k : PK} {body : AC} {res : List Rs} {args : List AV} (e : fgetT f p.fs = .prim k body res) : callF p run f args h = (RT.rec (fun v h => RT.ok v h) (fun _ => @Bool.rec (fun _ => RT) (.err 207) (callR res (run body (rputs args 0 .nil) h)) (Nat.ble args.length 256)) (fun n k _ => .ch n k) (primRun k args h) : RT) := by
  show (AF.rec _ _ _ _ _ (fgetT f p.fs) : RT) = _
  rw [e]
theorem callF_eq_mkj {f : Nat} {body : AC} {res : List Rs} {args : List AV} (e : fgetT f p.fs = .mkj body res) : callF p run f args h = (@Bool.rec (fun _ => RT) (.err 207) (callR res (joinT (retN (run body (rputs args 0 .nil) h)))) (Nat.ble args.length 256)) := by
  show (AF.rec _ _ _ _ _ (fgetT f p.fs) : RT) = _
  rw [e]
theorem callF_eq_ext {f : Nat} {k : PK} {args : List AV} (e : fgetT f p.fs = .ext k) : callF p run f args h = primRun k args h := by
  unfold callF; rw [e]
theorem callF_eq_none {f : Nat} {args : List AV} (e : fgetT f p.fs = .none) : callF p run f args h = .err (Nat.add 1000 f) := by
  show (AF.rec _ _ _ _ _ (fgetT f p.fs) : RT) = _
  rw [e]
theorem body_ok {m f : Nat} {body : AC} {res : List Rs} {args : List AV} {vals : List Value} (C : CodeOK P G names p m) (F : FnOK P G names f body res) (hg : Glob G φ) (H : HR φ h w) (hv : VRL φ args vals)
    (hs : (@Bool.rec (fun _ => RT) (.err 207) (callR res (exec p m body (rputs args 0 .nil) h)) (Nat.ble args.length 256)).Safe) :
    (∃ fn c, P.funcs[f]? = some fn ∧ fn.name ≠ "runtime.NumGoroutine" ∧ fn.body = some c) ∧ Calls P f vals.toArray w (CallPost φ h w (@Bool.rec (fun _ => RT) (.err 207) (callR res (exec p m body (rputs args 0 .nil) h)) (Nat.ble args.length 256))) := by
  cases hb : Nat.ble args.length 256 with
  | false => rw [hb] at hs; exact (RT.Safe.err hs).elim
  | true =>
    rw [hb] at hs
    have hs : (callR res (exec p m body (rputs args 0 .nil) h)).Safe := hs
    have hl := Nat.le_of_ble_eq_true hb
    obtain ⟨fn, body0, hf, hc, hI⟩ := F
    unfold cF at hc
    split at hc
    · rename_i c rs hbody hrs
      split at hc
      · cases hc
      · rename_i hname
        cases hc
        refine ⟨⟨fn, c, hf, by simpa using hname, hbody⟩, ?_⟩
        have S := St.start H hv hg hl fn.ntmps
        have hxs : (exec p m body (rputs args 0 .nil) h).Safe := by
          intro j hj
          have := callR_safe hs hj
          exact RT.Safe.err (n := j) this
        refine calls_of_wp hf hbody (wp_mono (C.code _ c body _ h φ _ w hI S hxs) ?_)
        rintro e a' w' ⟨y, r', h', φ', hy, he, S', T⟩
        have hsy := callR_safe hs hy
        have fin : ∀ r' h', y = .nm r' h' ∨ y = .ret r' h' → St fn.ntmps G φ' r' h' a' w' → Step φ h w φ' h' w' → a'.defers = [] ∧ ∃ v, (results fn a'.tmps).run P w' = .ok v w' ∧ CallPost φ h w (callR res (exec p m body (rputs args 0 .nil) h)) (.returned v) w' := by
          intro r' h' hyy S' T
          have hr : callR res y = (retF res r' h').toT := by rcases hyy with rfl | rfl <;> rfl
          rw [hr] at hsy
          obtain ⟨v, h2, hv2⟩ := toT_safe hsy
          obtain ⟨e1, cv, e2, e3⟩ := results_ok S' hrs hv2
          subst e1
          refine ⟨S'.nodef, cv, e2, v, h2, cv, φ', callR_leaf hy ?_, rfl, e3, S'.hr, T⟩
          rw [hr, hv2]; exact .ok _ _
        cases he with
        | nm => exact fin _ _ (.inl rfl) S' T
        | ret => exact fin _ _ (.inr rfl) S' T
        | ex i => exact (RT.Safe.err hsy).elim
        | go i => exact (RT.Safe.err hsy).elim
    · cases hc
theorem leaf_retN {z : RS} : ∀ {x y : RS}, x.Leaf y → (retN y).Leaf z → (retN x).Leaf z
  | _, _, .nm .., g => g
  | _, _, .ex .., g => g
  | _, _, .go .., g => g
  | _, _, .ret .., g => g
  | _, _, .err .., g => g
  | _, _, .ch n k c y hc hl, g => .ch n _ c _ hc (leaf_retN hl g)
theorem safe_retN {x : RS} (hs : (retN x).Safe) : x.Safe := fun n hn => hs n (leaf_retN hn (.err n))
theorem body_okJ {m f : Nat} {body : AC} {res : List Rs} {args : List AV} {vals : List Value} (C : CodeOK P G names p m) (F : FnOK P G names f body res) (hg : Glob G φ) (H : HR φ h w) (hv : VRL φ args vals)
    (hs : (@Bool.rec (fun _ => RT) (.err 207) (callR res (joinT (retN (exec p m body (rputs args 0 .nil) h)))) (Nat.ble args.length 256)).Safe) :
    (∃ fn c, P.funcs[f]? = some fn ∧ fn.name ≠ "runtime.NumGoroutine" ∧ fn.body = some c) ∧ Calls P f vals.toArray w (CallPost φ h w (@Bool.rec (fun _ => RT) (.err 207) (callR res (joinT (retN (exec p m body (rputs args 0 .nil) h)))) (Nat.ble args.length 256))) := by
  cases hb : Nat.ble args.length 256 with
  | false => rw [hb] at hs; exact (RT.Safe.err hs).elim
  | true =>
    rw [hb] at hs
    have hs : (callR res (joinT (retN (exec p m body (rputs args 0 .nil) h)))).Safe := hs
    have hl := Nat.le_of_ble_eq_true hb
    obtain ⟨fn, body0, hf, hc, hI⟩ := F
    unfold cF at hc
    split at hc
    · rename_i c rs hbody hrs
      split at hc
      · cases hc
      · rename_i hname
        cases hc
        refine ⟨⟨fn, c, hf, by simpa using hname, hbody⟩, ?_⟩
        have S := St.start H hv hg hl fn.ntmps
        have hjs : (joinT (retN (exec p m body (rputs args 0 .nil) h))).Safe := by
          intro j hj
          have := callR_safe hs hj
          exact RT.Safe.err (n := j) this
        obtain ⟨s1, s2⟩ := join_ok _ hjs
        refine calls_of_wp hf hbody (wp_mono (C.code _ c body _ h φ _ w hI S (safe_retN s1)) ?_)
        rintro e a' w' ⟨y, r', h', φ', hy, he, S', T⟩
        have fin : (retN y).Leaf (.nm r' h') → a'.defers = [] ∧ ∃ v, (results fn a'.tmps).run P w' = .ok v w' ∧ CallPost φ h w (callR res (joinT (retN (exec p m body (rputs args 0 .nil) h)))) (.returned v) w' := by
          intro hyy
          obtain ⟨y2, r2, h2, q1, q2, q3, q4⟩ := s2 _ (leaf_retN hy hyy) .normal r' h' (.nm _ _)
          cases q2
          have hsy := callR_safe hs q1
          have hr : callR res (.nm r2 h2) = (retF res r2 h2).toT := rfl
          rw [hr] at hsy
          obtain ⟨v, h3, hv2⟩ := toT_safe hsy
          have S2 := S'.less q3 q4
          obtain ⟨e1, cv, e2, e3⟩ := results_ok S2 hrs hv2
          subst e1
          refine ⟨S'.nodef, cv, e2, v, h3, cv, φ', callR_leaf q1 ?_, rfl, e3, S2.hr, T.less q4⟩
          rw [hr, hv2]; exact .ok _ _
        cases he with
        | nm => exact fin (.nm _ _)
        | ret => exact fin (.nm _ _)
        | ex i =>
          obtain ⟨y2, r2, h2, q1, q2, q3, q4⟩ := s2 _ (leaf_retN hy (.ex _ _ _)) (.exit i) r' h' (.ex _ _ _)
          cases q2
          exact (RT.Safe.err (callR_safe hs q1)).elim
        | go i =>
          obtain ⟨y2, r2, h2, q1, q2, q3, q4⟩ := s2 _ (leaf_retN hy (.go _ _ _)) (.goto i) r' h' (.go _ _ _)
          cases q2
          exact (RT.Safe.err (callR_safe hs q1)).elim
    · cases hc
theorem calls_ok {m : Nat} (E : Env P G names p) (C : CodeOK P G names p m) : CallsOK P G p (exec p m) := by
  intro f args h φ w vals hg H hv hs
  have hF := E.fs f
  cases hf : fgetT f p.fs with
  | none => rw [callF_eq_none hf] at hs; exact (RT.Safe.err hs).elim
  | mk body res =>
    rw [hf] at hF
    rw [callF_eq_mk hf] at hs ⊢
    exact .inl (body_ok C hF hg H hv hs)
  | ext k =>
    rw [hf] at hF
    rw [callF_eq_ext hf] at hs ⊢
    exact .inr (hF φ h w args vals hg H hv hs)
  | mkj body res =>
    rw [hf] at hF
    rw [callF_eq_mkj hf] at hs ⊢
    exact .inl (body_okJ C hF hg H hv hs)
  | prim k body res =>
    rw [hf] at hF
    obtain ⟨hF, hP⟩ := hF
    rw [callF_eq_prim hf] at hs ⊢
    have hex : ∃ fn c, P.funcs[f]? = some fn ∧ fn.name ≠ "runtime.NumGoroutine" ∧ fn.body = some c := by
      obtain ⟨fn, body0, hfn, hc, hI⟩ := hF
      unfold cF at hc
      split at hc
      · rename_i c rs hbody hrs
        split at hc
        · cases hc
        · rename_i hname
          exact ⟨fn, c, hfn, by simpa using hname, hbody⟩
      · cases hc
    have := hP φ h w args vals hg H hv
    cases hp : primRun k args h with
    | err j =>
      rw [hp] at hs
      exact .inl (body_ok C hF hg H hv hs)
    | ok v h2 =>
      rw [hp] at this
      exact .inl ⟨hex, this fun j hj => by cases hj⟩
    | ch j g =>
      rw [hp] at this hs
      exact .inl ⟨hex, this hs⟩
end Go.Am
namespace Go.Am
section
variable {P : Program} {φ φ' φ₀ : Phi} {h h' h2 h₀ : Hp} {w w' w₀ : World} {v : AV} {r r2 : A2} {a : Act} {cv : Value} {n : Nat} {G : Gl} [NB G] {names : List String} {p : Pg} {run : Run} {ops : Array Oper}
theorem DI_execC (i : DI) (k : DK) (r : A2) (h g : Hp) (hs : List Hp) : i.execC (callF p run) (callI p run) k r h g hs = i.exec p run k r h g hs := by
  cases i with
  | mk b y =>
    cases y with
    | o d i => cases i <;> rfl
    | g x y w d i => cases i <;> rfl
theorem runDrw_eq : ∀ (l : List DI), runDrw p run l = drwC (callF p run) (callI p run) (fun r h => .nm r h) l
  | [] => rfl
  | i :: l => by
    funext r h g hs
    show i.exec p run (runDrw p run l) r h g hs = i.execC (callF p run) (callI p run) (drwC (callF p run) (callI p run) _ l) r h g hs
    rw [DI_execC, runDrw_eq l]
def Sub (y x : RS) : Prop := ∀ z, y.Leaf z → x.Leaf z
theorem Sub.safe {x y : RS} (s : Sub y x) (h : x.Safe) : y.Safe := fun n hn => h n (s _ hn)
def Kt.at (K : Kt) : Exit → A2 → Hp → RS → Prop
  | .normal, r, h, x => Sub (K.n r h) x
  | .exit i, r, h, x => Sub (K.e i r h) x
  | .goto l, r, h, x => Sub (K.g l r h) x
  | .ret, r, h, x => Sub (K.r r h) x
  | _, _, _, _ => False
theorem Kt.at_mono {K : Kt} {e : Exit} {x y : RS} (s : Sub x y) (h : K.at e r h2 x) : K.at e r h2 y := by
  cases e with
  | normal => exact fun z hz => s z (h z hz)
  | exit i => exact fun z hz => s z (h z hz)
  | goto i => exact fun z hz => s z (h z hz)
  | ret => exact fun z hz => s z (h z hz)
  | panic c => exact h
  | outgrown => exact h
def DPost (n : Nat) (G : Gl) (φ : Phi) (h : Hp) (w : World) (K : Kt) (x : RS) (e : Exit) (a' : Act) (w' : World) : Prop :=
  ∃ r' h' φ', St n G φ' r' h' a' w' ∧ Step φ h w φ' h' w' ∧ K.at e r' h' x
theorem AI_execC (i : AI) (d : Dst) (k : A2 → Hp → RS) (r : A2) (h : Hp) : i.execC (callF p run) (callI p run) d k r h = i.exec p run d k r h := by cases i <;> rfl
theorem GI_execC (i : GI) (k : A2 → Hp → RS) (r : A2) (h : Hp) : i.execC (callF p run) (callI p run) k r h = i.exec p run k r h := by
  cases i with
  | o d i => exact AI_execC i d k r h
  | g x y w d i =>
    show AV.onBool (gb w (rget x y r)) (fun t => @Bool.rec (fun _ => RS) (k (dset d unitV r) h) (i.execC (callF p run) (callI p run) d k r h) (beq1 t w)) (.err 210) = AV.onBool (gb w (rget x y r)) (guardK d k r h i p run w) (.err 210)
    rw [AI_execC]; rfl
theorem opsC_wp {kf : A2 → Hp → RS} (M : MsOK P names p.ms) (CO : CallsOK P G p run) {Q : Exit → Act → World → Prop} : ∀ (os pre : List Oper) (r : A2) (h : Hp) (φ : Phi) (a : Act) (w : World), ops.toList = pre ++ os → St n G φ r h a w →
    (opsC (callF p run) (callI p run) kf (os.map fun o => cGJ P G n names ops o) r h).Safe →
    (∀ r' h' φ' a' w', Sub (kf r' h') (opsC (callF p run) (callI p run) kf (os.map fun o => cGJ P G n names ops o) r h) → St n G φ' r' h' a' w' → Step φ h w φ' h' w' → Q .normal a' w') →
    wpOps P ops Q (List.range' pre.length os.length) a w
  | [], pre, r, h, φ, a, w, _, S, _, hQ => hQ r h φ a w (fun _ hz => hz) S (.refl _ _ _)
  | o :: os, pre, r, h, φ, a, w, e, S, hs, hQ => by
    have hoi : ops[pre.length]? = some o := by rw [← Array.getElem?_toList, e]; simp
    rw [List.length_cons, List.range'_succ, wpOps_cons]
    have e0 : opsC (callF p run) (callI p run) kf ((o :: os).map fun o => cGJ P G n names ops o) r h = (cGJ P G n names ops o).exec p run (opsC (callF p run) (callI p run) kf (os.map fun o => cGJ P G n names ops o)) r h := GI_execC _ _ _ _
    rw [e0] at hs hQ
    refine gj_wp M CO S hoi hs fun r' h' φ' a' w' s1 s2 S' T => ?_
    have := opsC_wp M CO os (pre ++ [o]) r' h' φ' a' w' (by rw [e]; simp) S' s1 (Q := Q) fun r'' h'' φ'' a'' w'' hl S'' T' => hQ r'' h'' φ'' a'' w'' (fun z hz => s2 _ (hl z hz)) S'' (T.trans T')
    simpa using this
theorem den_ok (M : MsOK P names p.ms) (D : DrwH P G names p) (CO : CallsOK P G p run) : ∀ (c : Code) (K : Kt) (r : A2) (h : Hp) (φ : Phi) (a : Act) (w : World), St n G φ r h a w → (den (callF p run) (callI p run) (cC P G n names c) K r h).Safe →
    c.wp P (DPost n G φ h w K (den (callF p run) (callI p run) (cC P G n names c) K r h)) a w := by
  intro c
  induction c with
  | skip => exact fun K r h φ a w S _ => wp_skip ⟨r, h, φ, S, .refl _ _ _, fun _ hz => hz⟩
  | region id ops d =>
    intro K r h φ a w S hs
    cases d with
    | false =>
      have hs : (den (callF p run) (callI p run) (regC P G n names ops) K r h).Safe := hs
      show (Code.region id ops false).wp P (DPost n G φ h w K (den (callF p run) (callI p run) (regC P G n names ops) K r h)) a w
      rcases regC_cases (P := P) (G := G) (n := n) (names := names) ops with e | ⟨q, e⟩
      case inr => rw [e] at hs; exact (RS.Safe.err hs).elim
      rw [e] at hs ⊢
      have hs : (opsC (callF p run) (callI p run) K.n (ops.toList.map fun o => cGJ P G n names ops o) r h).Safe := hs
      show (Code.region id ops false).wp P (DPost n G φ h w K (opsC (callF p run) (callI p run) K.n (ops.toList.map fun o => cGJ P G n names ops o) r h)) a w
      refine wp_region ?_
      have := opsC_wp (Q := DPost n G φ h w K (opsC (callF p run) (callI p run) K.n (ops.toList.map fun o => cGJ P G n names ops o) r h)) M CO ops.toList [] r h φ a w (by simp) S hs (fun r' h' φ' a' w' hl S' T => ⟨r', h', φ', S', T, hl⟩)
      rw [List.range_eq_range']
      show wpOps P ops (DPost n G φ h w K (opsC (callF p run) (callI p run) K.n (ops.toList.map fun o => cGJ P G n names ops o) r h)) (List.range' 0 ops.size) a w
      simpa using this
    | true =>
      have key : ∀ l, okDraw P G n names ops l = true → (drwC (callF p run) (callI p run) K.n (l.map fun (i, b) => .mk b (cGI P G n names ops (ops.getD i default))) r h h []).Safe →
          (Code.region id ops true).wp P (DPost n G φ h w K (drwC (callF p run) (callI p run) K.n (l.map fun (i, b) => .mk b (cGI P G n names ops (ops.getD i default))) r h h [])) a w := fun l hl hs => by
        refine wp_mono (D n run CO id ops l K.n r h φ a w hl S hs) ?_
        rintro e a' w' ⟨rfl, r', h', φ', e1, S', T⟩
        refine ⟨r', h', φ', S', T, ?_⟩
        rw [e1]; exact fun _ hz => hz
      have hs : (den (callF p run) (callI p run) (dalC P G n names ops) K r h).Safe := hs
      show (Code.region id ops true).wp P (DPost n G φ h w K (den (callF p run) (callI p run) (dalC P G n names ops) K r h)) a w
      rcases dalX_cases (P := P) (G := G) (n := n) (names := names) (bad := dalA P G (dalX P G (dalA P G (dalX P G (fun _ => .bad 404) n names) names) n names) names) ops with ⟨l, hl, e⟩ | e
      · have e : dalC P G n names ops = _ := e
        rw [e] at hs ⊢
        exact key l hl hs
      · have e : dalC P G n names ops = _ := e
        rw [e] at hs
        rcases dalA_cases (P := P) (G := G) (names := names) (next := dalX P G (dalA P G (dalX P G (fun _ => .bad 404) n names) names) n names) ops with ⟨x, y, _, _, _, _, e2⟩ | ⟨k, e2⟩
        · rw [e2] at hs; exact (RS.Safe.err hs).elim
        · rw [e2] at hs; exact (RS.Safe.err hs).elim
  | seq x y ihx ihy =>
    intro K r h φ a w S hs
    refine wp_seq (wp_mono (ihx ⟨den (callF p run) (callI p run) (cC P G n names y) K, K.e, K.g, K.r⟩ r h φ a w S hs) ?_)
    rintro e a' w' ⟨r', h', φ', S', T, hk⟩
    cases e with
    | normal =>
      have hk : Sub (den (callF p run) (callI p run) (cC P G n names y) K r' h') _ := hk
      refine wp_mono (ihy K r' h' φ' a' w' S' (hk.safe hs)) ?_
      rintro e a'' w'' ⟨r'', h'', φ'', S'', T', hk'⟩
      exact ⟨r'', h'', φ'', S'', T.trans T', Kt.at_mono hk hk'⟩
    | exit i => exact ⟨r', h', φ', S', T, hk⟩
    | goto i => exact ⟨r', h', φ', S', T, hk⟩
    | ret => exact ⟨r', h', φ', S', T, hk⟩
    | panic c => exact hk.elim
    | outgrown => exact hk.elim
  | cond c x y ihx ihy =>
    intro K r h φ a w S hs
    simp only [cC] at hs ⊢
    cases hc : cO G c with
    | none => rw [hc] at hs; exact (RS.Safe.err hs).elim
    | some b =>
      rw [hc] at hs
      have hs : (AV.onBool (ev b r) (fun t => @Bool.rec (fun _ => RS) (den (callF p run) (callI p run) (cC P G n names y) K r h) (den (callF p run) (callI p run) (cC P G n names x) K r h) t) (.err 213)).Safe := hs
      obtain ⟨t, ht, e⟩ := onBool_safe hs
      show (Code.cond c x y).wp P (DPost n G φ h w K (AV.onBool (ev b r) (fun t => @Bool.rec (fun _ => RS) (den (callF p run) (callI p run) (cC P G n names y) K r h) (den (callF p run) (callI p run) (cC P G n names x) K r h) t) (.err 213))) a w
      rw [e] at hs ⊢
      have hv := S.opd hc
      rw [ht] at hv
      refine wp_cond hv.bool_inv ?_
      cases t with
      | true => exact ihx K r h φ a w S hs
      | false => exact ihy K r h φ a w S hs
  | block i c ih =>
    intro K r h φ a w S hs
    rcases cC_block (P := P) (G := G) (n := n) (names := names) i c with e | e <;> rw [e] at hs ⊢
    · refine wp_block (wp_mono (ih ⟨K.n, fun j r h => @Bool.rec (fun _ => RS) (K.e j r h) (K.n r h) (Nat.beq j i), K.g, K.r⟩ r h φ a w S hs) ?_)
      rintro e a' w' ⟨r', h', φ', S', T, hk⟩
      cases e with
      | normal => exact ⟨r', h', φ', S', T, hk⟩
      | exit j =>
        have hk : Sub (@Bool.rec (fun _ => RS) (K.e j r' h') (K.n r' h') (Nat.beq j i)) _ := hk
        show if j = i then _ else _
        by_cases e : j = i
        · rw [if_pos e]
          rw [e, Nat.beq_refl] at hk
          exact ⟨r', h', φ', S', T, hk⟩
        · rw [if_neg e]
          have : Nat.beq j i = false := by rw [← Bool.not_eq_true]; exact fun g => e (Nat.eq_of_beq_eq_true g)
          rw [this] at hk
          exact ⟨r', h', φ', S', T, hk⟩
      | goto i => exact ⟨r', h', φ', S', T, hk⟩
      | ret => exact ⟨r', h', φ', S', T, hk⟩
      | panic c => exact hk.elim
      | outgrown => exact hk.elim
    · exact (RS.Safe.err hs).elim
  | loop c => exact fun K r h φ a w S hs => (RS.Safe.err hs).elim
  | rangeFunc f ps x y => exact fun K r h φ a w S hs => (RS.Safe.err hs).elim
  | exit i => exact fun K r h φ a w S hs => wp_exit ⟨r, h, φ, S, .refl _ _ _, fun _ hz => hz⟩
  | scope c => exact fun K r h φ a w S hs => (RS.Safe.err hs).elim
  | label l => exact fun K r h φ a w S hs => (RS.Safe.err hs).elim
  | goto l => exact fun K r h φ a w S hs => wp_goto ⟨r, h, φ, S, .refl _ _ _, fun _ hz => hz⟩
  | ret => exact fun K r h φ a w S hs => wp_ret ⟨r, h, φ, S, .refl _ _ _, fun _ hz => hz⟩
  | refuse s => exact fun K r h φ a w S hs => (RS.Safe.err hs).elim
theorem lo_hi_lt {t : Nat} (ht : t < 256) : t / 16 < 16 ∧ t % 16 < 16 := by omega
theorem restr_get {t : Nat} (ht : t < 256) : ∀ {L : List Nat}, rget (hi t) (lo t) (restr r L) = if t ∈ L then rget (hi t) (lo t) r else .undef
  | [] => by
    show rget (hi t) (lo t) .nil = _
    rw [if_neg (by simp)]
    show A1.get (lo t) (A2.get (hi t) .nil) = _
    rw [A2.get_nil, A1.get_nil]
  | s :: L => by
    have ih := restr_get ht (L := L)
    show rget (hi t) (lo t) (if s < 256 then rset (hi s) (lo s) (rget (hi s) (lo s) r) (restr r L) else restr r L) = _
    split
    · rename_i hs
      rw [rget_rset]
      by_cases e : t = s
      · subst e; simp
      · rw [if_neg (fun g => e ((hilo ht hs).1 g)), ih]
        simp [e]
    · rename_i hs
      have e : t ≠ s := by omega
      rw [ih]; simp [e]
theorem St.restr (S : St n G φ r h a w) (L : List Nat) : St n G φ (restr r L) h a w := ⟨S.hr, fun t ht => by
  rw [restr_get ht]
  split
  · exact S.regs t ht
  · exact .undef _, S.nodef, S.size, S.glob⟩
theorem top_post {L Lr : List Nat} {x : RS} {e : Exit} {a' : Act} {w' : World} (hd : DPost n G φ h w (topK L Lr) x e a' w') : CPost n G φ h w x e a' w' := by
  obtain ⟨r', h', φ', S, T, hk⟩ := hd
  cases e with
  | normal => exact ⟨_, _, h', φ', hk _ (.nm _ _), .nm _ _, S.restr L, T⟩
  | exit i => exact ⟨_, _, h', φ', hk _ (.ex _ _ _), .ex _ _ _, S.restr L, T⟩
  | goto i => exact ⟨_, _, h', φ', hk _ (.go _ _ _), .go _ _ _, S.restr L, T⟩
  | ret => exact ⟨_, _, h', φ', hk _ (.ret _ _), .ret _ _, S.restr Lr, T⟩
  | panic c => exact hk.elim
  | outgrown => exact hk.elim
theorem denS_ok (M : MsOK P names p.ms) (D : DrwH P G names p) (CO : CallsOK P G p run) {L Lr Lx : List Nat} {y : AC} (hT : ∀ (n : Nat) (c : Code) (r : A2) (h : Hp) (φ : Phi) (a : Act) (w : World), Impl (cC P G n names c) y → St n G φ r h a w → (run y r h).Safe → c.wp P (CPost n G φ h w (run y r h)) a w) :
    ∀ (k : Nat) (c : Code) (r : A2) (h : Hp) (φ : Phi) (a : Act) (w : World), Impl (tailOf k (cC P G n names c)) y → St n G φ r h a w →
      (denS (callF p run) (callI p run) (topK L Lr) (fun r h => run y (restr r Lx) h) k (cC P G n names c) r h).Safe →
      c.wp P (CPost n G φ h w (denS (callF p run) (callI p run) (topK L Lr) (fun r h => run y (restr r Lx) h) k (cC P G n names c) r h)) a w
  | 0, c, r, h, φ, a, w, hI, S, hs => hT n c (restr r Lx) h φ a w hI (S.restr Lx) hs
  | k + 1, c, r, h, φ, a, w, hI, S, hs => by
    by_cases hc : ∃ x y', c = .seq x y'
    · obtain ⟨c1, c2, rfl⟩ := hc
      have hs : (den (callF p run) (callI p run) (cC P G n names c1) ⟨denS (callF p run) (callI p run) (topK L Lr) (fun r h => run y (restr r Lx) h) k (cC P G n names c2), (topK L Lr).e, (topK L Lr).g, (topK L Lr).r⟩ r h).Safe := hs
      refine wp_seq (wp_mono (den_ok M D CO c1 _ r h φ a w S hs) ?_)
      rintro e a' w' ⟨r', h', φ', S', T, hk⟩
      cases e with
      | normal =>
        have hk : Sub (denS (callF p run) (callI p run) (topK L Lr) (fun r h => run y (restr r Lx) h) k (cC P G n names c2) r' h') _ := hk
        refine wp_mono (denS_ok M D CO hT k c2 r' h' φ' a' w' hI S' (hk.safe hs)) ?_
        rintro e a'' w'' ⟨z, r'', h'', φ'', hl, he, S'', T'⟩
        exact ⟨z, r'', h'', φ'', hk _ hl, he, S'', T.trans T'⟩
      | exit i => exact ⟨_, _, h', φ', hk _ (.ex _ _ _), .ex _ _ _, S'.restr L, T⟩
      | goto i => exact ⟨_, _, h', φ', hk _ (.go _ _ _), .go _ _ _, S'.restr L, T⟩
      | ret => exact ⟨_, _, h', φ', hk _ (.ret _ _), .ret _ _, S'.restr Lr, T⟩
      | panic c => exact hk.elim
      | outgrown => exact hk.elim
    · have e0 : denS (callF p run) (callI p run) (topK L Lr) (fun r h => run y (restr r Lx) h) (k + 1) (cC P G n names c) = den (callF p run) (callI p run) (cC P G n names c) (topK L Lr) := by
        cases c with
        | seq x y' => exact absurd ⟨_, _, rfl⟩ hc
        | region id ops d =>
          cases d with
          | false =>
            show denS (callF p run) (callI p run) (topK L Lr) (fun r h => run y (restr r Lx) h) (k + 1) (regC P G n names ops) = den (callF p run) (callI p run) (regC P G n names ops) (topK L Lr)
            rcases regC_cases (P := P) (G := G) (n := n) (names := names) ops with e | ⟨q, e⟩ <;> rw [e] <;> rfl
          | true =>
            show denS (callF p run) (callI p run) (topK L Lr) (fun r h => run y (restr r Lx) h) (k + 1) (dalC P G n names ops) = den (callF p run) (callI p run) (dalC P G n names ops) (topK L Lr)
            rcases dalX_cases (P := P) (G := G) (n := n) (names := names) (bad := dalA P G (dalX P G (dalA P G (dalX P G (fun _ => .bad 404) n names) names) n names) names) ops with ⟨l, hl, e⟩ | e
            · have e : dalC P G n names ops = _ := e
              rw [e]; rfl
            · have e : dalC P G n names ops = _ := e
              rw [e]
              rcases dalA_cases (P := P) (G := G) (names := names) (next := dalX P G (dalA P G (dalX P G (fun _ => .bad 404) n names) names) n names) ops with ⟨x, y, _, _, _, _, e2⟩ | ⟨k, e2⟩
              · rw [e2]; rfl
              · rw [e2]; rfl
        | cond c x y =>
          simp only [cC]
          split <;> rfl
        | block i c => rcases cC_block (P := P) (G := G) (n := n) (names := names) i c with e | e <;> rw [e] <;> rfl
        | _ => rfl
      rw [e0] at hs ⊢
      exact wp_mono (den_ok M D CO c _ r h φ a w S hs) fun e a' w' hd => top_post hd
end
end Go.Am
namespace Go.Am
variable {P : Program} {φ φ' : Phi} {h h' h2 : Hp} {w w' : World} {v : AV} {r r2 : A2} {a : Act} {cv : Value} {n : Nat} {G : Gl} [NB G] {names : List String} {p : Pg} {run : Run}
theorem CPost.go_on {x : RS} {Q : Exit → Act → World → Prop} {e : Exit} (hq : CPost n G φ h w x e a w)
    (hn : ∀ r' h' φ', x.Leaf (.nm r' h') → St n G φ' r' h' a w → Step φ h w φ' h' w → Q .normal a w)
    (he : ∀ i r' h' φ', x.Leaf (.ex i r' h') → St n G φ' r' h' a w → Step φ h w φ' h' w → Q (.exit i) a w)
    (hg : ∀ i r' h' φ', x.Leaf (.go i r' h') → St n G φ' r' h' a w → Step φ h w φ' h' w → Q (.goto i) a w)
    (hr : ∀ r' h' φ', x.Leaf (.ret r' h') → St n G φ' r' h' a w → Step φ h w φ' h' w → Q .ret a w) : Q e a w := by
  obtain ⟨y, r', h', φ', hl, hy, S, T⟩ := hq
  cases hy with
  | nm => exact hn _ _ _ hl S T
  | ex i => exact he _ _ _ _ hl S T
  | go i => exact hg _ _ _ _ hl S T
  | ret => exact hr _ _ _ hl S T
theorem CPost.cases {x : RS} {Q : Exit → Act → World → Prop} {w0 : World}
    (hn : ∀ r' h' φ' a w, x.Leaf (.nm r' h') → St n G φ' r' h' a w → Step φ h w0 φ' h' w → Q .normal a w)
    (he : ∀ i r' h' φ' a w, x.Leaf (.ex i r' h') → St n G φ' r' h' a w → Step φ h w0 φ' h' w → Q (.exit i) a w)
    (hg : ∀ i r' h' φ' a w, x.Leaf (.go i r' h') → St n G φ' r' h' a w → Step φ h w0 φ' h' w → Q (.goto i) a w)
    (hr : ∀ r' h' φ' a w, x.Leaf (.ret r' h') → St n G φ' r' h' a w → Step φ h w0 φ' h' w → Q .ret a w) (e : Exit) (a : Act) (w : World) (hq : CPost n G φ h w0 x e a w) : Q e a w := by
  obtain ⟨y, r', h', φ', hl, hy, S, T⟩ := hq
  cases hy with
  | nm => exact hn _ _ _ _ _ hl S T
  | ex i => exact he _ _ _ _ _ _ hl S T
  | go i => exact hg _ _ _ _ _ _ hl S T
  | ret => exact hr _ _ _ _ _ hl S T
theorem CPost.then {x x' : RS} {w0 w1 : World} {φ0 φ1 : Phi} {h0 h1 : Hp} (T : Step φ0 h0 w0 φ1 h1 w1) (hl : ∀ y, x.Leaf y → x'.Leaf y) (e : Exit) (a : Act) (w : World) (hq : CPost n G φ1 h1 w1 x e a w) : CPost n G φ0 h0 w0 x' e a w :=
  let ⟨y, r', h', φ', g1, g2, g3, g4⟩ := hq; ⟨y, r', h', φ', hl y g1, g2, g3, T.trans g4⟩
theorem LoopK.mono {c : Code} {Q Q' : Exit → Act → World → Prop} (hl : LoopK P c Q a w) (hq : ∀ e a w, Q e a w → Q' e a w) : LoopK P c Q' a w := fun b k cs =>
  let ⟨e, a', w', q, g⟩ := hl b k cs; ⟨e, a', w', hq _ _ _ q, g⟩
theorem SatK.mono {s c : Code} {Q Q' : Exit → Act → World → Prop} (hl : SatK P s c Q a w) (hq : ∀ e a w, Q e a w → Q' e a w) : SatK P s c Q' a w := fun b k cs =>
  let ⟨e, a', w', q, g⟩ := hl b k cs; ⟨e, a', w', hq _ _ _ q, g⟩
theorem sat_step {m : Nat} (C : CodeOK P G names p m) (s c : Code) {x y : AC} (hI : Impl (cC P G n names s) x) (hJ : Impl (cC P G n names c) y) (S : St n G φ r h a w) (hs : (x_sat x y (exec p m) r h).Safe) :
    SatK P s c (CPost n G φ h w (x_sat x y (exec p m) r h)) a w := by
  unfold x_sat at hs ⊢
  refine satK_of (wp_mono (C.code n c y r h φ a w hJ S (safe_bind hs)) (CPost.cases ?_ ?_ ?_ ?_))
  · exact fun r' h' φ' a' w' hl S' T => ⟨_, r', h', φ', leaf_bind_nm hl rfl (.nm _ _), .nm _ _, S', T⟩
  · exact fun i r' h' φ' a' w' hl S' T => ⟨_, r', h', φ', leaf_bind_ex hl rfl (.ex _ _ _), .ex _ _ _, S', T⟩
  · intro l r' h' φ' a' w' hl S' T
    have hs2 := safe_bind_go hs hl
    have e := findL_cC (P := P) (G := G) (n := n) (names := names) l s
    show (match findLabel s l with
      | some c => SatK P s c _ a' w'
      | none => _)
    cases hf : findLabel s l with
    | none =>
      rw [hf] at e
      have e2 : findL x l = none := by
        rcases findL_impl l hI with ⟨_, e2⟩ | ⟨_, _, e1, _⟩
        · exact e2
        · rw [e] at e1; cases e1
      have hk : (Option.rec (.go l r' h') (fun c => exec p m (.sat x c) r' h') (findL x l) : RS) = .go l r' h' := by rw [e2]
      refine ⟨_, r', h', φ', leaf_bind_go hl rfl ?_, .go _ _ _, S', T⟩
      show (Option.rec (.go l r' h') (fun c => exec p m (.sat x c) r' h') (findL x l) : RS).Leaf _
      rw [hk]; exact .go _ _ _
    | some c' =>
      rw [hf] at e
      obtain ⟨y', e2, e3⟩ : ∃ y', findL x l = some y' ∧ Impl (cC P G n names c') y' := by
        rcases findL_impl l hI with ⟨e1, _⟩ | ⟨d, d', e1, e2, e3⟩
        · rw [e] at e1; cases e1
        · rw [e] at e1; cases e1; exact ⟨d', e2, e3⟩
      have hk : (Option.rec (.go l r' h') (fun c => exec p m (.sat x c) r' h') (findL x l) : RS) = exec p m (.sat x y') r' h' := by rw [e2]
      have hs3 : (Option.rec (.go l r' h') (fun c => exec p m (.sat x c) r' h') (findL x l) : RS).Safe := hs2
      rw [hk] at hs3
      refine (C.sat n s c' x y' r' h' φ' a' w' hI e3 S' hs3).mono (CPost.then T fun y hy => leaf_bind_go hl rfl ?_)
      show (Option.rec (.go l r' h') (fun c => exec p m (.sat x c) r' h') (findL x l) : RS).Leaf _
      rw [hk]; exact hy
  · exact fun r' h' φ' a' w' hl S' T => ⟨_, r', h', φ', leaf_bind_ret hl rfl, .ret _ _, S', T⟩
theorem block_step {m : Nat} (C : CodeOK P G names p m) (i : Nat) (c : Code) {x : AC} (hI : Impl (cC P G n names c) x) (S : St n G φ r h a w) (hs : (x_block i x (exec p m) r h).Safe) :
    (Code.block i c).wp P (CPost n G φ h w (x_block i x (exec p m) r h)) a w := by
  unfold x_block at hs ⊢
  refine wp_block (wp_mono (C.code n c x r h φ a w hI S (safe_bind hs)) (CPost.cases ?_ ?_ ?_ ?_))
  · exact fun r' h' φ' a' w' hl S' T => ⟨_, r', h', φ', leaf_bind_nm hl rfl (.nm _ _), .nm _ _, S', T⟩
  · intro j r' h' φ' a' w' hl S' T
    show if j = i then _ else _
    by_cases e : j = i
    · rw [if_pos e]
      refine ⟨_, r', h', φ', leaf_bind_ex hl rfl ?_, .nm _ _, S', T⟩
      show (@Bool.rec (fun _ => RS) (.ex j r' h') (.nm r' h') (Nat.beq j i)).Leaf _
      rw [e, Nat.beq_refl]; exact .nm _ _
    · rw [if_neg e]
      refine ⟨_, r', h', φ', leaf_bind_ex hl rfl ?_, .ex _ _ _, S', T⟩
      show (@Bool.rec (fun _ => RS) (.ex j r' h') (.nm r' h') (Nat.beq j i)).Leaf _
      have : Nat.beq j i = false := by rw [← Bool.not_eq_true]; exact fun g => e (Nat.eq_of_beq_eq_true g)
      rw [this]; exact .ex _ _ _
  · exact fun i r' h' φ' a' w' hl S' T => ⟨_, r', h', φ', leaf_bind_go hl rfl (.go _ _ _), .go _ _ _, S', T⟩
  · exact fun r' h' φ' a' w' hl S' T => ⟨_, r', h', φ', leaf_bind_ret hl rfl, .ret _ _, S', T⟩
theorem loop_step {m : Nat} (C : CodeOK P G names p m) (c : Code) {x : AC} (hI : Impl (cC P G n names c) x) (S : St n G φ r h a w) (hs : (x_loop x (exec p m) r h).Safe) :
    LoopK P c (CPost n G φ h w (x_loop x (exec p m) r h)) a w := by
  unfold x_loop at hs ⊢
  refine loopK_of (wp_mono (C.code n c x r h φ a w hI S (safe_bind hs)) (CPost.cases ?_ ?_ ?_ ?_))
  · intro r' h' φ' a' w' hl S' T
    exact (C.loop n c x r' h' φ' a' w' hI S' (safe_bind_nm hs hl)).mono (CPost.then T fun y hy => leaf_bind_nm hl rfl hy)
  · exact fun i r' h' φ' a' w' hl S' T => ⟨_, r', h', φ', leaf_bind_ex hl rfl (.ex _ _ _), .ex _ _ _, S', T⟩
  · exact fun i r' h' φ' a' w' hl S' T => ⟨_, r', h', φ', leaf_bind_go hl rfl (.go _ _ _), .go _ _ _, S', T⟩
  · exact fun r' h' φ' a' w' hl S' T => ⟨_, r', h', φ', leaf_bind_ret hl rfl, .ret _ _, S', T⟩
def AltOK (P : Program) (G : Gl) (n : Nat) (p : Pg) (mk : Array Oper → AC) : Prop := ∀ (m : Nat), (∀ k, k ≤ m → CallsOK P G p (exec p k)) → ∀ (ops : Array Oper) (r : A2) (h : Hp) (φ : Phi) (a : Act) (w : World), St n G φ r h a w →
  (execS (mk ops) p (exec p m) r h).Safe → wpAny P .any ops (CPost n G φ h w (execS (mk ops) p (exec p m) r h)) ops.size (Array.replicate ops.size false) a { w with drawn := w.drawn + 1 }
theorem altOK_bad (k : Nat) : AltOK P G n p (fun _ => .bad k) := fun _ _ _ _ _ _ _ _ _ hs => (RS.Safe.err hs).elim
theorem altOK_X (D : DrwA P G names p) {bad : Array Oper → AC} (hb : AltOK P G n p bad) : AltOK P G n p (dalX P G bad n names) := by
  intro m CO ops r h φ a w S hs
  rcases dalX_cases (P := P) (G := G) (n := n) (names := names) (bad := bad) ops with ⟨l, hl, e⟩ | e
  · rw [e] at hs ⊢
    have hs : (runDrw p (exec p m) (l.map fun (i, b) => .mk b (cGI P G n names ops (ops.getD i default))) r h h []).Safe := hs
    show wpAny P .any ops (CPost n G φ h w (runDrw p (exec p m) (l.map fun (i, b) => .mk b (cGI P G n names ops (ops.getD i default))) r h h [])) ops.size (Array.replicate ops.size false) a { w with drawn := w.drawn + 1 }
    rw [runDrw_eq] at hs ⊢
    refine D n (exec p m) (CO m (Nat.le_refl _)) ops l _ r h φ a w _ hl S hs ?_
    intro r' h' φ' a' w' e1 S' T
    rw [e1]
    exact ⟨_, r', h', φ', .nm _ _, .nm _ _, S', T⟩
  · rw [e] at hs ⊢
    exact hb m CO ops r h φ a w S hs
theorem cpost_out {x : RS} {w0 : World} : ¬ LetsOut (CPost n G φ h w0 x) := by
  rintro ⟨a, w, y, r', h', φ', _, he, _⟩
  cases he
theorem CPost.joined {x : RS} (hs : (joinT x).Safe) (e : Exit) (a' : Act) (w' : World) (hq : CPost n G φ h w x e a' w') : CPost n G φ h w (joinT x) e a' w' := by
  obtain ⟨y, r', h', φ', hl, he, S', T⟩ := hq
  obtain ⟨y2, r2, h2, q1, q2, q3, q4⟩ := (join_ok _ hs).2 y hl e r' h' he
  exact ⟨y2, r2, h2, φ', q1, q2, S'.less q3 q4, T.less q4⟩
theorem altJ_ok {x y : RS} (hs : (altJ x y).Safe) : x.Safe ∧ y.Safe ∧ (∀ e a' w', CPost n G φ h w x e a' w' → CPost n G φ h w (altJ x y) e a' w') ∧ (∀ e a' w', CPost n G φ h w y e a' w' → CPost n G φ h w (altJ x y) e a' w') := by
  have e0 : altJ x y = @Bool.rec (fun _ => RS) (.ch 2 (fun i => @Nat.rec (fun _ => RS) x (fun _ _ => y) i)) (joinT (.ch 2 (fun i => @Nat.rec (fun _ => RS) x (fun _ _ => y) i))) (altE x y) := rfl
  cases he : altE x y with
  | true =>
    rw [he] at e0
    have e0 : altJ x y = joinT (.ch 2 (fun i => @Nat.rec (fun _ => RS) x (fun _ _ => y) i)) := e0
    rw [e0] at hs ⊢
    have hj := (join_ok _ hs).1
    exact ⟨fun k hk => hj k (.ch 2 _ 0 _ (by omega) hk), fun k hk => hj k (.ch 2 _ 1 _ (by omega) hk), fun e a' w' hq => CPost.joined hs e a' w' (hq.lift fun z hz => .ch 2 _ 0 _ (by omega) hz), fun e a' w' hq => CPost.joined hs e a' w' (hq.lift fun z hz => .ch 2 _ 1 _ (by omega) hz)⟩
  | false =>
    rw [he] at e0
    have e0 : altJ x y = .ch 2 (fun i => @Nat.rec (fun _ => RS) x (fun _ _ => y) i) := e0
    rw [e0] at hs ⊢
    exact ⟨fun k hk => hs k (.ch 2 _ 0 _ (by omega) hk), fun k hk => hs k (.ch 2 _ 1 _ (by omega) hk), fun e a' w' hq => hq.lift fun z hz => .ch 2 _ 0 _ (by omega) hz, fun e a' w' hq => hq.lift fun z hz => .ch 2 _ 1 _ (by omega) hz⟩
theorem altOK_A {next : Array Oper → AC} (hn : AltOK P G n p next) : AltOK P G n p (dalA P G next names) := by
  intro m CO ops r h φ a w S hs
  rcases dalA_cases (P := P) (G := G) (names := names) (next := next) ops with ⟨x, y, hf, hxy, hx, hy, e⟩ | ⟨k, e⟩
  · rw [e] at hs ⊢
    have hs : (altJ (exec p m (next (edge x y ops)) r h) (exec p m (next (edge y x ops)) r h)).Safe := hs
    show wpAny P .any ops (CPost n G φ h w (altJ (exec p m (next (edge x y ops)) r h) (exec p m (next (edge y x ops)) r h))) ops.size (Array.replicate ops.size false) a { w with drawn := w.drawn + 1 }
    obtain ⟨s1, s2, s3, s4⟩ := altJ_ok (n := n) (G := G) (φ := φ) (h := h) (w := w) hs
    cases m with
    | zero => exact (RS.Safe.err s1).elim
    | succ m =>
      have g1 := hn m (fun k hk => CO k (by omega)) (edge x y ops) r h φ a w S s1
      have g2 := hn m (fun k hk => CO k (by omega)) (edge y x ops) r h φ a w S s2
      rw [edge_size] at g1 g2
      refine wpAny_alt (fun i o ho => flat_ok (hf o (Array.mem_toList_iff.2 (Array.mem_of_getElem? ho)))) cpost_out cpost_out ?_ ?_ _ _ _ _ g1 g2 hxy ?_ ?_ (by simp) hx hy
      · exact s3
      · exact s4
      · simp [Array.getD_eq_getD_getElem?, Array.getElem?_replicate, hx]
      · simp [Array.getD_eq_getD_getElem?, Array.getElem?_replicate, hy]
  · rw [e] at hs
    exact (RS.Safe.err hs).elim
theorem altOK_C (D : DrwA P G names p) : AltOK P G n p (dalC P G n names) := altOK_X D (altOK_A (altOK_X D (altOK_A (altOK_X D (altOK_bad 404)))))
theorem code_step {m : Nat} (E : Env P G names p) (D : DrwA P G names p) (CA : ∀ k, k ≤ m → CodeOK P G names p k) (c : Code) {z : AC} (hI : Impl (cC P G n names c) z) (S : St n G φ r h a w) (hs : (execS z p (exec p m) r h).Safe) :
    c.wp P (CPost n G φ h w (execS z p (exec p m) r h)) a w := by
  have C := CA m (Nat.le_refl _)
  have CO := calls_ok E C
  rcases impl_cases hI with ⟨k, Lin, L, Lr, Lx, y, rfl, hn, hy⟩ | ⟨q, rfl⟩ | hN
  · exact denS_ok E.ms (D.toH E.mixed) CO (fun n c r h φ a w => C.code n c y r h φ a w) k c (restr r Lin) h φ a w hy (S.restr Lin) hs
  · exact (RS.Safe.err hs).elim
  cases c with
  | skip =>
    have hN : z = .skip := hN
    subst hN
    exact wp_skip ⟨_, r, h, φ, .nm _ _, .nm _ _, S, .refl _ _ _⟩
  | region id ops d =>
    have hz : z = cC P G n names (.region id ops d) := by
      cases d with
      | false =>
        have e3 : cC P G n names (.region id ops false) = regC P G n names ops := rfl
        rw [e3] at hN ⊢
        rcases regC_cases (P := P) (G := G) (n := n) (names := names) ops with e | ⟨q, e⟩ <;> rw [e] at hN ⊢ <;> exact hN
      | true =>
        have e3 : cC P G n names (.region id ops true) = dalC P G n names ops := rfl
        rw [e3] at hN ⊢
        rcases dalX_cases (P := P) (G := G) (n := n) (names := names) (bad := dalA P G (dalX P G (dalA P G (dalX P G (fun _ => .bad 404) n names) names) n names) names) ops with ⟨l, hl, e⟩ | e
        · have e : dalC P G n names ops = _ := e
          rw [e] at hN ⊢; exact hN
        · have e : dalC P G n names ops = _ := e
          rw [e] at hN ⊢
          rcases dalA_cases (P := P) (G := G) (names := names) (next := dalX P G (dalA P G (dalX P G (fun _ => .bad 404) n names) names) n names) ops with ⟨x, y, _, _, _, _, e2⟩ | ⟨k, e2⟩
          · rw [e2] at hN ⊢; exact hN
          · rw [e2] at hN ⊢; exact hN
    subst hz
    cases d with
    | false =>
      have hs : (execS (regC P G n names ops) p (exec p m) r h).Safe := hs
      show (Code.region id ops false).wp P (CPost n G φ h w (execS (regC P G n names ops) p (exec p m) r h)) a w
      rcases regC_cases (P := P) (G := G) (n := n) (names := names) ops with e | ⟨q, e⟩
      case inr =>
        rw [e] at hs ⊢
        have hs : (x_opsb q (ops.toList.map fun o => cGJ P { G with b := some q } n names ops o) p (exec p m) r h).Safe := hs
        show (Code.region id ops false).wp P (CPost n G φ h w (x_opsb q (ops.toList.map fun o => cGJ P { G with b := some q } n names ops o) p (exec p m) r h)) a w
        unfold x_opsb at hs ⊢
        refine wp_region ?_
        have := ops_wp (Q := CPost n G φ h w (RS.bind (runOps p (exec p m) (ops.toList.map fun o => cGJ P { G with b := some q } n names ops o) (dropP q r) h) (fun r h => .nm (insP q r) h) (fun i r h => .ex i r h) (fun l r h => .go l r h))) E.ms (show CallsOK P { G with b := some q } p (exec p m) from fun f args h φ w vals hg => CO f args h φ w vals hg) ops.toList [] (dropP q r) h φ a w (by simp) (S.drop q) (safe_bind hs)
          (fun r' h' φ' a' w' hl S' T => ⟨_, insP q r', h', φ', leaf_bind_nm hl rfl (.nm _ _), .nm _ _, S'.ins, T⟩)
        rw [List.range_eq_range']
        simpa using this
      rw [e] at hs ⊢
      have hs : (runOps p (exec p m) (ops.toList.map fun o => cGJ P G n names ops o) r h).Safe := hs
      show (Code.region id ops false).wp P (CPost n G φ h w (runOps p (exec p m) (ops.toList.map fun o => cGJ P G n names ops o) r h)) a w
      refine wp_region ?_
      have := ops_wp (Q := CPost n G φ h w (runOps p (exec p m) (ops.toList.map fun o => cGJ P G n names ops o) r h)) E.ms CO ops.toList [] r h φ a w (by simp) S hs (fun r' h' φ' a' w' hl S' T => ⟨_, r', h', φ', hl, .nm _ _, S', T⟩)
      rw [List.range_eq_range']
      show wpOps P ops (CPost n G φ h w (runOps p (exec p m) (ops.toList.map fun o => cGJ P G n names ops o) r h)) (List.range' 0 ops.size) a w
      simpa using this
    | true =>
      exact wp_region_any E.mixed (altOK_C D m (fun k hk => calls_ok E (CA k hk)) ops r h φ a w S hs)
  | seq c1 c2 =>
    obtain ⟨x, y, rfl, hx, hy⟩ : ∃ a' b', z = .seq a' b' ∧ Impl (cC P G n names c1) a' ∧ Impl (cC P G n names c2) b' := hN
    have hs : (x_seq x y (exec p m) r h).Safe := hs
    show (Code.seq c1 c2).wp P (CPost n G φ h w (x_seq x y (exec p m) r h)) a w
    unfold x_seq at hs ⊢
    refine wp_seq (wp_mono (C.code n c1 x r h φ a w hx S (safe_bind hs)) (CPost.cases ?_ ?_ ?_ ?_))
    · intro r' h' φ' a' w' hl S' T
      exact wp_mono (C.code n c2 y r' h' φ' a' w' hy S' (safe_bind_nm hs hl)) (CPost.then T fun z hz => leaf_bind_nm hl rfl hz)
    · exact fun i r' h' φ' a' w' hl S' T => ⟨_, r', h', φ', leaf_bind_ex hl rfl (.ex _ _ _), .ex _ _ _, S', T⟩
    · exact fun i r' h' φ' a' w' hl S' T => ⟨_, r', h', φ', leaf_bind_go hl rfl (.go _ _ _), .go _ _ _, S', T⟩
    · exact fun r' h' φ' a' w' hl S' T => ⟨_, r', h', φ', leaf_bind_ret hl rfl, .ret _ _, S', T⟩
  | cond c x y =>
    simp only [cC] at hN
    cases hc : cO G c with
    | none =>
      rw [hc] at hN
      have hN : z = .bad 401 := hN
      subst hN
      exact (RS.Safe.err hs).elim
    | some b =>
      rw [hc] at hN
      obtain ⟨x', y', rfl, hx, hy⟩ : ∃ a' b', z = .cond b a' b' ∧ Impl (cC P G n names x) a' ∧ Impl (cC P G n names y) b' := hN
      have hs : (AV.onBool (ev b r) (fun t => @Bool.rec (fun _ => RS) (exec p m y' r h) (exec p m x' r h) t) (.err 213)).Safe := hs
      obtain ⟨t, ht, e⟩ := onBool_safe hs
      show (Code.cond c x y).wp P (CPost n G φ h w (AV.onBool (ev b r) (fun t => @Bool.rec (fun _ => RS) (exec p m y' r h) (exec p m x' r h) t) (.err 213))) a w
      rw [e] at hs ⊢
      have hv := S.opd hc
      rw [ht] at hv
      refine wp_cond hv.bool_inv ?_
      cases t with
      | true => exact C.code n x x' r h φ a w hx S hs
      | false => exact C.code n y y' r h φ a w hy S hs
  | block i c =>
    rcases cC_block (P := P) (G := G) (n := n) (names := names) i c with e | e <;> rw [e] at hN
    · obtain ⟨x, rfl, hx⟩ : ∃ a', z = .block i a' ∧ Impl (cC P G n names c) a' := hN
      exact block_step C i c hx S hs
    · have hz : (∃ a', z = .join (.block i a') ∧ Impl (cC P G n names c) a') ∨ ∃ a', z = .block i a' ∧ Impl (cC P G n names c) a' := by
        rcases (show z = .join (.block i (cC P G n names c)) ∨ (∃ i' b b', AC.block i (cC P G n names c) = .block i' (.loop b) ∧ z = .join (.block i' (.loop b')) ∧ Impl b b') ∨ ∃ i' b b', AC.block i (cC P G n names c) = .block i' b ∧ z = .block i' b' ∧ Impl b b' from hN) with rfl | ⟨i', b, b', e1, rfl, hb⟩ | ⟨i', b, b', e1, rfl, hb⟩
        · exact .inl ⟨_, rfl, .refl _⟩
        · injection e1 with e1 e2
          subst e1
          rw [e2]
          exact .inl ⟨_, rfl, .loop hb⟩
        · injection e1 with e1 e2
          subst e1
          rw [e2]
          exact .inr ⟨_, rfl, hb⟩
      rcases hz with ⟨x, rfl, hx⟩ | ⟨x, rfl, hx⟩
      case inr => exact block_step C i c hx S hs
      have hs : (joinT (exec p m (.block i x) r h)).Safe := hs
      show (Code.block i c).wp P (CPost n G φ h w (joinT (exec p m (.block i x) r h))) a w
      obtain ⟨s1, s2⟩ := join_ok _ hs
      refine wp_mono (C.block n i c x r h φ a w hx S s1) ?_
      rintro e a' w' ⟨y, r', h', φ', hl, he, S', T⟩
      obtain ⟨y2, r2, h2, q1, q2, q3, q4⟩ := s2 y hl e r' h' he
      exact ⟨y2, r2, h2, φ', q1, q2, S'.less q3 q4, T.less q4⟩
  | loop c =>
    obtain ⟨x, rfl, hx⟩ : ∃ a', z = .loop a' ∧ Impl (cC P G n names c) a' := hN
    exact wp_of_loopK (loop_step C c hx S hs)
  | rangeFunc f ps x y =>
    have hN : z = .bad 402 := hN
    subst hN
    exact (RS.Safe.err hs).elim
  | exit i =>
    have hN : z = .exit i := hN
    subst hN
    exact wp_exit ⟨_, r, h, φ, .ex _ _ _, .ex _ _ _, S, .refl _ _ _⟩
  | scope c =>
    obtain ⟨x, rfl, hx⟩ : ∃ a', z = .scope a' ∧ Impl (cC P G n names c) a' := hN
    exact wp_of_satK (sat_step C c c hx hx S hs)
  | label l =>
    have hN : z = .label l := hN
    subst hN
    exact wp_label ⟨_, r, h, φ, .nm _ _, .nm _ _, S, .refl _ _ _⟩
  | goto l =>
    have hN : z = .goto l := hN
    subst hN
    exact wp_goto ⟨_, r, h, φ, .go _ _ _, .go _ _ _, S, .refl _ _ _⟩
  | ret =>
    have hN : z = .ret := hN
    subst hN
    exact wp_ret ⟨_, r, h, φ, .ret _ _, .ret _ _, S, .refl _ _ _⟩
  | refuse s =>
    have hN : z = .bad 403 := hN
    subst hN
    exact (RS.Safe.err hs).elim
theorem code_all (E : Env P G names p) (D : DrwA P G names p) : ∀ m k, k ≤ m → CodeOK P G names p k
  | 0, 0, _ => ⟨fun _ _ _ _ _ _ _ _ _ _ hs => (RS.Safe.err hs).elim, fun _ _ _ _ _ _ _ _ _ _ _ hs => (RS.Safe.err hs).elim, fun _ _ _ _ _ _ _ _ _ _ hs => (RS.Safe.err hs).elim, fun _ _ _ _ _ _ _ _ _ _ _ _ _ hs => (RS.Safe.err hs).elim⟩
  | m + 1, k, hk => by
    have CA := code_all E D m
    rcases Nat.lt_or_ge k (m + 1) with g | g
    · exact CA k (by omega)
    · have e : k = m + 1 := by omega
      subst e
      have C := CA m (Nat.le_refl _)
      exact ⟨fun _ c _ _ _ _ _ _ hI S hs => code_step E D CA c hI S hs, fun _ i c _ _ _ _ _ _ hI S hs => block_step C i c hI S hs, fun _ c _ _ _ _ _ _ hI S hs => loop_step C c hI S hs, fun _ s c _ _ _ _ _ _ _ hI hJ S hs => sat_step C s c hI hJ S hs⟩
theorem code_ok (E : Env P G names p) (D : DrwA P G names p) (m : Nat) : CodeOK P G names p m := code_all E D m m (Nat.le_refl _)
def isExt (x : AF) : Bool := match x with | .ext _ => true | _ => false
theorem not_ext {x : AF} (h : isExt x = false) (k : PK) : x ≠ .ext k := fun e => by rw [e] at h; cases h
theorem call_ok (E : Env P G names p) (D : DrwA P G names p) (m f : Nat) (args : List AV) (vals : List Value) (hg : Glob G φ) (H : HR φ h w) (hv : VRL φ args vals) (hs : (callF p (exec p m) f args h).Safe) (hb : ∀ k, fgetT f p.fs ≠ .ext k) :
    Calls P f vals.toArray w (CallPost φ h w (callF p (exec p m) f args h)) := by
  rcases calls_ok E (code_ok E D m) f args h φ w vals hg H hv hs with ⟨_, hC⟩ | ⟨cv, w', hcf, _⟩
  · exact hC
  · exfalso
    have hF := E.fs f
    have go : ∀ {body res}, FnOK P G names f body res → False := by
      rintro body res ⟨fn, body0, hfn, hc, _⟩
      unfold cF at hc
      split at hc
      · rename_i c rs hbody hrs
        split at hc
        · cases hc
        · rename_i hname
          rw [run_callFunc hfn (by simpa using hname) hbody] at hcf
          cases hcf
      · cases hc
    cases hf : fgetT f p.fs with
    | none => rw [callF_eq_none hf] at hs; exact (RT.Safe.err hs).elim
    | mk body res => rw [hf] at hF; exact go hF
    | mkj body res => rw [hf] at hF; exact go hF
    | prim k body res => rw [hf] at hF; exact go hF.1
    | ext k => exact hb k hf
end Go.Am
namespace Go.Am
def Agree (r r' : A2) (L : List Nat) : Prop := ∀ a b : H, (16 * a.nat + b.nat) ∈ L → rget a b r = rget a b r'
variable {r r' : A2} {h h' : Hp} {v : AV}
theorem Agree.left {L M : List Nat} (e : Agree r r' (L ++ M)) : Agree r r' L := fun a b m => e a b (List.mem_append_left _ m)
theorem Agree.right {L M : List Nat} (e : Agree r r' (L ++ M)) : Agree r r' M := fun a b m => e a b (List.mem_append_right _ m)
theorem ev_congr {x : AO} (e : Agree r r' x.regs) : ev x r = ev x r' := by
  cases x with
  | t a b => exact e a b (by simp [AO.regs])
  | c v => rfl
theorem evs_congr : ∀ {xs : List AO}, Agree r r' (regsL xs) → evs xs r = evs xs r'
  | [], _ => rfl
  | x :: xs, e => by
    have e : Agree r r' (x.regs ++ regsL xs) := e
    show ev x r :: evs xs r = ev x r' :: evs xs r'
    rw [ev_congr e.left, evs_congr e.right]
theorem oaNat_congr {x : OA} {d : Nat} (e : Agree r r' x.regs) : oaNat x d r = oaNat x d r' := by
  cases x with
  | none => rfl
  | some x =>
    funext k q
    show natOf (ev x r) k q = natOf (ev x r') k q
    rw [ev_congr (x := x) e]
theorem fits_congr : ∀ {ps : List Part}, Agree r r' (ps.flatMap Part.regs) → fits ps r = fits ps r'
  | [], _ => rfl
  | .mk off sz x :: ps, e => by
    have e : Agree r r' (x.regs ++ ps.flatMap Part.regs) := e
    show (OL.rec (@Bool.rec (fun _ => Bool) false (fits ps r) (Bool.and (ev x r).one (Nat.beq sz 1))) (fun l => @Bool.rec (fun _ => Bool) false (fits ps r) (Nat.beq l.length sz)) (ev x r).asAgg : Bool) =
      (OL.rec (@Bool.rec (fun _ => Bool) false (fits ps r') (Bool.and (ev x r').one (Nat.beq sz 1))) (fun l => @Bool.rec (fun _ => Bool) false (fits ps r') (Nat.beq l.length sz)) (ev x r').asAgg : Bool)
    rw [ev_congr e.left, fits_congr e.right]
theorem fill_congr : ∀ {ps : List Part} {l : List AV}, Agree r r' (ps.flatMap Part.regs) → fill ps r l = fill ps r' l
  | [], _, _ => rfl
  | .mk off sz x :: ps, l, e => by
    have e : Agree r r' (x.regs ++ ps.flatMap Part.regs) := e
    show fill ps r (lputs (AV.cs (ev x r)) off l) = fill ps r' (lputs (AV.cs (ev x r')) off l)
    rw [ev_congr e.left, fill_congr e.right]
theorem op_congr {op : AOp} (e : Agree r r' op.regs) : op.run r h = op.run r' h := by
  cases op with
  | mv x => show o_mv x r h = o_mv x r' h; unfold o_mv; rw [ev_congr e]
  | pick c a b => show o_pick c a b r h = o_pick c a b r' h; unfold o_pick; rw [ev_congr e.left, ev_congr e.right.left, ev_congr e.right.right]
  | alloc el n c => rfl
  | box el x => show o_box el x r h = o_box el x r' h; unfold o_box; rw [ev_congr (x := x) e]
  | build z ps => show o_build z ps r h = o_build z ps r' h; unfold o_build; rw [fits_congr e, fill_congr e]
  | bslice el es n z ps => show o_bslice el es n z ps r h = o_bslice el es n z ps r' h; unfold o_bslice; rw [fits_congr e, fill_congr e]
  | ld1 x => show o_ld1 x r h = o_ld1 x r' h; unfold o_ld1; rw [ev_congr (x := x) e]
  | ldn m x => show o_ldn m x r h = o_ldn m x r' h; unfold o_ldn; rw [ev_congr (x := x) e]
  | st1 x y => show o_st1 x y r h = o_st1 x y r' h; unfold o_st1; rw [ev_congr (x := x) e.left, ev_congr (x := y) e.right]
  | stn m x y => show o_stn m x y r h = o_stn m x y r' h; unfold o_stn; rw [ev_congr (x := x) e.left, ev_congr (x := y) e.right]
  | nilc x => show o_nilc x r h = o_nilc x r' h; unfold o_nilc; rw [ev_congr (x := x) e]
  | bin k x y => show bK k (ev x r) (ev y r) h = bK k (ev x r') (ev y r') h; rw [ev_congr (x := x) e.left, ev_congr (x := y) e.right]
  | un k x => show o_un k x r h = o_un k x r' h; unfold o_un; rw [ev_congr (x := x) e]
  | conv k x => show o_conv k x r h = o_conv k x r' h; unfold o_conv; rw [ev_congr (x := x) e]
  | mki t x => show o_mki t x r h = o_mki t x r' h; unfold o_mki; rw [ev_congr (x := x) e]
  | mkf f xs => show o_mkf f xs r h = o_mkf f xs r' h; unfold o_mkf; rw [evs_congr e]
  | mkmap => rfl
  | mkslice el z l c => show o_mkslice el z l c r h = o_mkslice el z l c r' h; unfold o_mkslice; rw [ev_congr (x := l) e.left, ev_congr (x := c) e.right]
  | slc es x lo hi mx => show o_slc es x lo hi mx r h = o_slc es x lo hi mx r' h; unfold o_slc; rw [ev_congr (x := x) e.left]; simp only [oaNat_congr e.right.left, oaNat_congr e.right.right.left, oaNat_congr e.right.right.right]
  | slcs x lo hi => show o_slcs x lo hi r h = o_slcs x lo hi r' h; unfold o_slcs; rw [ev_congr (x := x) e.left]; simp only [oaNat_congr e.right.left, oaNat_congr e.right.right]
  | slca len es x lo hi mx => show o_slca len es x lo hi mx r h = o_slca len es x lo hi mx r' h; unfold o_slca; rw [ev_congr (x := x) e.left]; simp only [oaNat_congr e.right.left, oaNat_congr e.right.right.left, oaNat_congr e.right.right.right]
  | fad d x => show o_fad d x r h = o_fad d x r' h; unfold o_fad; rw [ev_congr (x := x) e]
  | fld1 d x => show o_fld1 d x r h = o_fld1 d x r' h; unfold o_fld1; rw [ev_congr (x := x) e]
  | fldn d n x => show o_fldn d n x r h = o_fldn d n x r' h; unfold o_fldn; rw [ev_congr (x := x) e]
  | ixs es x y => show o_ixs es x y r h = o_ixs es x y r' h; unfold o_ixs; rw [ev_congr (x := x) e.left, ev_congr (x := y) e.right]
  | ixa len es x y => show o_ixa len es x y r h = o_ixa len es x y r' h; unfold o_ixa; rw [ev_congr (x := x) e.left, ev_congr (x := y) e.right]
  | idxs x y => show o_idxs x y r h = o_idxs x y r' h; unfold o_idxs; rw [ev_congr (x := x) e.left, ev_congr (x := y) e.right]
  | idxa len es agg x y => show o_idxa len es agg x y r h = o_idxa len es agg x y r' h; unfold o_idxa; rw [ev_congr (x := x) e.left, ev_congr (x := y) e.right]
  | ext i x => show o_ext i x r h = o_ext i x r' h; unfold o_ext; rw [ev_congr (x := x) e]
  | lkp t z ok x y => show o_lkp t z ok x y r h = o_lkp t z ok x y r' h; unfold o_lkp; rw [ev_congr (x := x) e.left, ev_congr (x := y) e.right]
  | mup t x y z => show o_mup t x y z r h = o_mup t x y z r' h; unfold o_mup; rw [ev_congr (x := x) e.left, ev_congr (x := y) e.right.left, ev_congr (x := z) e.right.right]
  | del t x y => show o_del t x y r h = o_del t x y r' h; unfold o_del; rw [ev_congr (x := x) e.left, ev_congr (x := y) e.right]
  | lenm x => show o_lenm x r h = o_lenm x r' h; unfold o_lenm; rw [ev_congr (x := x) e]
  | len x => show o_len x r h = o_len x r' h; unfold o_len; rw [ev_congr (x := x) e]
  | lent x => show o_lent x r h = o_lent x r' h; unfold o_lent; rw [ev_congr (x := x) e]
  | cap x => show o_cap x r h = o_cap x r' h; unfold o_cap; rw [ev_congr (x := x) e]
  | max mn xs => show o_max mn xs r h = o_max mn xs r' h; unfold o_max; rw [evs_congr e]
  | app el es x y => show o_app el es x y r h = o_app el es x y r' h; unfold o_app; rw [ev_congr (x := x) e.left, ev_congr (x := y) e.right]
  | apps el x y => show o_apps el x y r h = o_apps el x y r' h; unfold o_apps; rw [ev_congr (x := x) e.left, ev_congr (x := y) e.right]
  | cpy es x y => show o_cpy es x y r h = o_cpy es x y r' h; unfold o_cpy; rw [ev_congr (x := x) e.left, ev_congr (x := y) e.right]
  | clr z x => show o_clr z x r h = o_clr z x r' h; unfold o_clr; rw [ev_congr (x := x) e]
  | rngs x => show o_rngs x r h = o_rngs x r' h; unfold o_rngs; rw [ev_congr (x := x) e]
  | rngm x => show o_rngm x r h = o_rngm x r' h; unfold o_rngm; rw [ev_congr (x := x) e]
  | ent x => show o_ent x r h = o_ent x r' h; unfold o_ent; rw [ev_congr (x := x) e]
  | tas t z ok x => show o_tas t z ok x r h = o_tas t z ok x r' h; unfold o_tas; rw [ev_congr (x := x) e]
  | cplx k x y => show o_cplx k x y r h = o_cplx k x y r' h; unfold o_cplx; rw [ev_congr (x := x) e.left, ev_congr (x := y) e.right]
  | real im x => show o_real im x r h = o_real im x r' h; unfold o_real; rw [ev_congr (x := x) e]
  | ussd x => show o_ussd x r h = o_ussd x r' h; unfold o_ussd; rw [ev_congr (x := x) e]
  | ment t z x y => show o_ment t z x y r h = o_ment t z x y r' h; unfold o_ment; rw [ev_congr (x := x) e.left, ev_congr (x := y) e.right]
  | appz el es z x y => show o_appz el es z x y r h = o_appz el es z x y r' h; unfold o_appz; rw [ev_congr (x := x) e.left, ev_congr (x := y) e.right]
  | esto x y z => show o_esto x y z r h = o_esto x y z r' h; unfold o_esto; rw [ev_congr (x := x) e.left.left, ev_congr (x := y) e.left.right, ev_congr (x := z) e.right]
  | ustr el x y => show o_ustr el x y r h = o_ustr el x y r' h; unfold o_ustr; rw [ev_congr (x := x) e.left, ev_congr (x := y) e.right]
  | bad n => rfl
theorem res_congr {i : AI} {p : Pg} {run : Run} (e : Agree r r' i.regs) : i.res p run r h = i.res p run r' h := by
  cases i with
  | op o => show (o.run r h).toT = (o.run r' h).toT; rw [op_congr e]
  | nxt s x => show nextT s (ev x r) h = nextT s (ev x r') h; rw [ev_congr (x := x) e]
  | call f xs => show callF p run f (evs xs r) h = callF p run f (evs xs r') h; rw [evs_congr e]
  | calld x xs => show callD p run (ev x r) (evs xs r) h = callD p run (ev x r') (evs xs r') h; rw [ev_congr (x := x) e.left, evs_congr e.right]
  | inv k x xs => show callI p run k (ev x r) (evs xs r) h = callI p run k (ev x r') (evs xs r') h; rw [ev_congr (x := x) e.left, evs_congr e.right]
end Go.Am
namespace Go.Am
variable {P : Program} {r r' : A2} {h h' : Hp} {v : AV} {n : Nat}
theorem rv_h {a : AV} {h0 : Hp} (e : RV.ok a h0 = .ok v h') : h' = h0 := (RV.ok_inj e).2.symm
theorem EBrv_h {neg : Bool} {b : EB} (e : EB.rv neg h b = .ok v h') : h' = h := (EB_rv_ok e).1
theorem bII_h {f : IntKind → Int → Int → AV} {x y : AV} (e : bII f x y h = .ok v h') : h' = h := by obtain ⟨_, _, _, _, _, _, e⟩ := bII_ok e; exact e
theorem bIU_h {f : IntKind → Int → Int → AV} {x y : AV} (e : bIU f x y h = .ok v h') : h' = h := by obtain ⟨_, _, _, _, _, _, e, _⟩ := bIU_ok e; exact e
theorem bSS_h {f : List Nat → List Nat → AV} {x y : AV} (e : bSS f x y h = .ok v h') : h' = h := by obtain ⟨_, _, _, _, _, e⟩ := bSS_ok e; exact e
theorem bSH_h {f : IntKind → Int → Int → AV} {x y : AV} (e : bSH f x y h = .ok v h') : h' = h := by obtain ⟨_, _, _, _, _, _, _, e, _⟩ := bSH_ok e; exact e
theorem fltB_h {k : FloatKind} {op : BinOp} {a b : Nat} (e : fltB k op a b h = .ok v h') : h' = h := by
  unfold fltB at e
  simp only at e
  split at e <;> (try (split at e)) <;> first | exact rv_h e | cases e
theorem cplxB_h {k : FloatKind} {op : BinOp} {a b c d : Nat} (e : cplxB k op a b c d h = .ok v h') : h' = h := by
  unfold cplxB at e
  split at e <;> (try (split at e)) <;> first | exact rv_h e | cases e
theorem bK_h {k : BK} {x y : AV} (e : bK k x y h = .ok v h') : h' = h := by
  cases k with
  | add => exact bII_h e
  | sub => exact bII_h e
  | mul => exact bII_h e
  | quo => exact bIU_h e
  | rem => exact bIU_h e
  | and => exact bIU_h e
  | or => exact bIU_h e
  | xor => exact bIU_h e
  | andn => exact bII_h e
  | shl => exact bSH_h e
  | shr => exact bSH_h e
  | eq => exact bII_h e
  | ne => exact bII_h e
  | lt => exact bII_h e
  | le => exact bII_h e
  | gt => exact bII_h e
  | ge => exact bII_h e
  | seq => exact bSS_h e
  | sne => exact bSS_h e
  | slt => exact bSS_h e
  | sle => exact bSS_h e
  | sgt => exact bSS_h e
  | sge => exact bSS_h e
  | cat =>
    obtain ⟨a, _, e⟩ := onStr_ok (show b_cat x y h = _ from e)
    obtain ⟨b, _, e⟩ := onStr_ok e
    obtain ⟨_, e⟩ := if_ok e
    exact rv_h e
  | beq => exact EBrv_h e
  | bne => exact EBrv_h e
  | peq => exact EBrv_h e
  | pne => exact EBrv_h e
  | isnil k => exact EBrv_h e
  | nonil k => exact EBrv_h e
  | aeq ks =>
    obtain ⟨a, _, e⟩ := onAgg_ok (show b_agg false ks x y h = _ from e)
    obtain ⟨b, _, e⟩ := onAgg_ok e
    exact EBrv_h e
  | ane ks =>
    obtain ⟨a, _, e⟩ := onAgg_ok (show b_agg true ks x y h = _ from e)
    obtain ⟨b, _, e⟩ := onAgg_ok e
    exact EBrv_h e
  | fop op =>
    obtain ⟨k, a, _, e⟩ := onFlt_ok (show b_fop op x y h = _ from e)
    obtain ⟨k', b, _, e⟩ := onFlt_ok e
    obtain ⟨_, e⟩ := if_ok e
    exact fltB_h e
  | cop op =>
    obtain ⟨k, a, b, _, e⟩ := onCplx_ok (show b_cop op x y h = _ from e)
    obtain ⟨k', c, d, _, e⟩ := onCplx_ok e
    obtain ⟨_, e⟩ := if_ok e
    exact cplxB_h e
  | ieq => exact EBrv_h e
  | ine => exact EBrv_h e
theorem oaNat_h {x : OA} {d : Nat} {k : Nat → RV} {q : Nat} (e : oaNat x d r k (.err q) = .ok v h') : ∃ b, k b = .ok v h' := by
  cases x with
  | none => exact ⟨d, e⟩
  | some x => obtain ⟨_, m, _, e⟩ := natOf_ok (show natOf (ev x r) k (.err q) = _ from e); exact ⟨m, e⟩
theorem cutEx_h {es o a b m cap : Nat} {i : P4} (e : cutEx es i o a b m cap h = .ok v h') : h' = h := by
  obtain ⟨_, e⟩ := if_ok e
  obtain ⟨_, e⟩ := if_ok e
  obtain ⟨_, e⟩ := if_ok e
  exact rv_h e
theorem cutRs_h {es o a b : Nat} {i : P4} (e : cutRs es i o a b h = .ok v h') : h' = h := by
  obtain ⟨_, e⟩ := if_ok e
  obtain ⟨_, _, _, _, _, _, e⟩ := onCells_ok e
  obtain ⟨_, e⟩ := if_ok e
  exact rv_h e
theorem cutRx_h {es o a b m : Nat} {i : P4} (e : cutRx es i o a b m h = .ok v h') : h' = h := by
  obtain ⟨_, e⟩ := if_ok e
  obtain ⟨_, e⟩ := if_ok e
  obtain ⟨_, _, _, _, _, _, e⟩ := onCells_ok e
  obtain ⟨_, e⟩ := if_ok e
  exact rv_h e
theorem slc_h {es : Nat} {x : AO} {lo hi mx : OA} (e : o_slc es x lo hi mx r h = .ok v h') : h' = h := by
  rcases onSl_ok e with ⟨i, o, l, c, _, e⟩ | ⟨i, o, l, c, _, e⟩ | ⟨_, e⟩
  · obtain ⟨_, e⟩ := oaNat_h e
    obtain ⟨_, e⟩ := oaNat_h e
    obtain ⟨_, e⟩ := oaNat_h e
    exact cutEx_h e
  · obtain ⟨_, e⟩ := if_ok e
    obtain ⟨_, e⟩ := oaNat_h e
    obtain ⟨_, e⟩ := oaNat_h e
    rcases if_cases e with ⟨_, e⟩ | ⟨_, e⟩
    · exact cutRs_h e
    · obtain ⟨_, e⟩ := oaNat_h e
      exact cutRx_h e
  · obtain ⟨_, e⟩ := oaNat_h e
    obtain ⟨_, e⟩ := oaNat_h e
    obtain ⟨_, e⟩ := oaNat_h e
    obtain ⟨_, e⟩ := if_ok e
    exact rv_h e
theorem slca_h {len es : Nat} {x : AO} {lo hi mx : OA} (e : o_slca len es x lo hi mx r h = .ok v h') : h' = h := by
  obtain ⟨_, _, _, e⟩ := onPtr_ok e
  obtain ⟨_, e⟩ := oaNat_h e
  obtain ⟨_, e⟩ := oaNat_h e
  obtain ⟨_, e⟩ := oaNat_h e
  exact cutEx_h e
theorem slcs_h {x : AO} {lo hi : OA} (e : o_slcs x lo hi r h = .ok v h') : h' = h := by
  obtain ⟨_, _, e⟩ := onStr_ok e
  obtain ⟨_, e⟩ := oaNat_h e
  obtain ⟨_, e⟩ := oaNat_h e
  obtain ⟨_, e⟩ := if_ok e
  obtain ⟨_, e⟩ := if_ok e
  exact rv_h e
theorem listc_h {α : Type} {l : List α} {f : α → AV} {n : Nat} (e : (List.rec (.err n) (fun a _ _ => .ok (f a) h) l : RV) = .ok v h') : h' = h := by
  cases l with
  | nil => cases e
  | cons a t => exact rv_h e
theorem elemsAt_h {es o n : Nat} {i : P4} {k : List AV → RV} {q : Nat} (e : elemsAt es i o n h k (.err q) = .ok v h') : ∃ l, k l = .ok v h' := by
  cases n with
  | zero => exact ⟨_, e⟩
  | succ n =>
    change (Obj.onCells (hget i h) (fun _ m _ _ c => @Bool.rec (fun _ => RV) (.err q) (k (cgets (Nat.mul (Nat.succ n) es) c o)) (Nat.ble (Nat.add o (Nat.mul (Nat.succ n) es)) m)) (.err q) : RV) = _ at e
    obtain ⟨_, _, _, _, _, _, e⟩ := onCells_ok e
    obtain ⟨_, e⟩ := if_ok e
    exact ⟨_, e⟩
theorem elems_h {es : Nat} {x : AV} {k : List AV → RV} {q : Nat} (e : elems es x h k (.err q) = .ok v h') : ∃ l, k l = .ok v h' := by
  rcases onSl_ok e with ⟨i, o, l, c, _, e⟩ | ⟨i, o, l, c, _, e⟩ | ⟨_, e⟩
  · exact elemsAt_h e
  · obtain ⟨_, e⟩ := if_ok e
    exact elemsAt_h e
  · exact ⟨_, e⟩
theorem maxL_h {mn : Bool} {k : IntKind} : ∀ {l : List AV} {a : Int}, maxL mn k h l a = .ok v h' → h' = h
  | [], a, e => rv_h e
  | y :: l, a, e => by
    rw [maxL_cons] at e
    obtain ⟨_, _, _, e⟩ := onInt_ok e
    obtain ⟨_, e⟩ := if_ok e
    exact maxL_h e
theorem lkp_h {t : KT} {z : AV} {ok : Bool} {x k : AV} (e : lkp t z ok x k h = .ok v h') : h' = h := by
  obtain ⟨_, e⟩ := if_ok e
  have ho : ∀ {f : Bool} {a : AV}, okv ok f a h = .ok v h' → h' = h := fun e => rv_h e
  rcases onMap_ok e with ⟨i, _, e⟩ | ⟨_, e⟩
  · obtain ⟨l, c, _, e⟩ := onOMap_ok e
    rw [kfind_eq] at e
    rcases kfind_ok e with ⟨_, e⟩ | ⟨_, _, _, _, _, e⟩
    · exact ho e
    · exact ho e
  · exact ho e
theorem tas_h {t : Nat} {z : AV} {ok : Bool} {x : AV} (e : tas t z ok x h = .ok v h') : h' = h := by
  cases x <;> (try (cases e; done))
  · rename_i u a
    have e : (@Bool.rec (fun _ => RV) (@Bool.rec (fun _ => RV) (.err 109) (okv true false z h) ok) (okv ok true a h) (Nat.beq t u)) = _ := e
    rcases if_cases e with ⟨_, e⟩ | ⟨_, e⟩
    · obtain ⟨_, e⟩ := if_ok e; exact rv_h e
    · exact rv_h e
  · obtain ⟨_, e⟩ := if_ok (show (@Bool.rec (fun _ => RV) (.err 109) (okv true false z h) ok) = _ from e)
    exact rv_h e
theorem nilc_h {x : AO} (e : o_nilc x r h = .ok v h') : h' = h := by
  have e : (OP.rec (nilc (ev x r) h) (fun i o => .ok (.ptr i o) h) (ev x r).asPtr : RV) = _ := e
  generalize ev x r = a at e
  cases a <;> first | exact rv_h e | cases e
theorem idxa_h {len es : Nat} {agg : Bool} {x y : AO} (e : o_idxa len es agg x y r h = .ok v h') : h' = h := by
  obtain ⟨_, _, _, e⟩ := natOf_ok e
  obtain ⟨_, _, e⟩ := onAgg_ok e
  obtain ⟨_, e⟩ := if_ok e
  rcases if_cases e with ⟨_, e⟩ | ⟨_, e⟩
  · exact listc_h (f := fun v => v) e
  · obtain ⟨_, e⟩ := if_ok e
    exact rv_h e
theorem len_h {x : AV} (e : len x h = .ok v h') : h' = h := by
  rcases onSl_ok e with ⟨i, o, l, c, _, e⟩ | ⟨i, o, l, c, _, e⟩ | ⟨_, e⟩ <;> exact rv_h e
theorem uto_h {x : AV} (e : c_uto x h = .ok v h') : h' = h := by
  cases x <;> try (cases e; done)
  case nilp => exact rv_h (show RV.ok .nilp h = .ok v h' from e)
  case ptr i o =>
    obtain ⟨_, _, _, _, _, _, e⟩ := onCells_ok (show Obj.onCells (hget i h) (fun _ n ex _ _ => @Bool.rec (fun _ => RV) (.err 191) (.ok (.ptr i o) h) (Bool.and ex (inb o n))) (RV.err 192) = RV.ok v h' from e)
    obtain ⟨_, e⟩ := if_ok e
    exact rv_h e
theorem ufrom_h {u sz : Nat} {x : AV} (e : c_ufrom u sz x h = .ok v h') : h' = h := by
  cases x <;> try (cases e; done)
  case nilp => exact rv_h (show RV.ok .nilp h = .ok v h' from e)
  case ptr i o =>
    obtain ⟨_, _, _, _, _, _, e⟩ := onCells_ok (show Obj.onCells (hget i h) (fun el n ex _ _ => @Bool.rec (fun _ => RV) (.err 193) (.ok (.ptr i o) h) (Bool.and ex (Bool.and (Nat.beq o 0) (Bool.and (Nat.beq el u) (Nat.beq n sz))))) (RV.err 194) = RV.ok v h' from e)
    obtain ⟨_, e⟩ := if_ok e
    exact rv_h e
theorem cK_h {k : CK} {x : AV} {y : AO} (hk : floats (.op (.conv k y)) = true) (e : cK k x h = .ok v h') : h' = h := by
  cases k <;> (try (cases hk; done))
  · obtain ⟨_, _, e⟩ := onStr_ok (show c_same x h = _ from e); exact rv_h e
  · obtain ⟨_, _, _, e⟩ := onInt_ok (show c_toInt _ x h = _ from e); exact rv_h e
  · obtain ⟨_, e⟩ := elems_h (show c_b2s x h = _ from e)
    obtain ⟨_, _, e⟩ := bytesIn_ok e
    exact rv_h e
  · obtain ⟨_, _, _, e⟩ := onInt_ok (show c_i2s x h = _ from e); exact rv_h e
  · obtain ⟨_, _, _, e⟩ := onInt_ok (show c_i2f _ x h = _ from e); exact rv_h e
  · obtain ⟨_, _, _, e⟩ := onFlt_ok (show c_f2i _ x h = _ from e)
    split at e
    · split at e
      · exact rv_h e
      · cases e
    · cases e
  · exact uto_h e
  · exact ufrom_h e
theorem floats_heap {op : AOp} (hf : floats (.op op) = true) (e : op.run r h = .ok v h') : h' = h := by
  cases op with
  | mv x => exact rv_h e
  | pick c a b => obtain ⟨_, _, e⟩ := onBool_ok (show o_pick c a b r h = _ from e); exact rv_h e
  | alloc => cases hf
  | box => cases hf
  | build z ps => obtain ⟨_, e⟩ := if_ok (show o_build z ps r h = _ from e); exact rv_h e
  | bslice => cases hf
  | ment => cases hf
  | esto => cases hf
  | appz => cases hf
  | ld1 x =>
    obtain ⟨_, _, _, e⟩ := onPtr_ok (show o_ld1 x r h = _ from e)
    obtain ⟨_, _, _, _, _, _, e⟩ := onCells_ok e
    obtain ⟨_, e⟩ := if_ok e
    exact rv_h e
  | ldn m x =>
    obtain ⟨_, _, _, e⟩ := onPtr_ok (show o_ldn m x r h = _ from e)
    obtain ⟨_, _, _, _, _, _, e⟩ := onCells_ok e
    obtain ⟨_, e⟩ := if_ok e
    exact rv_h e
  | st1 => cases hf
  | stn => cases hf
  | nilc x => exact nilc_h e
  | bin k x y => exact bK_h (show bK k (ev x r) (ev y r) h = _ from e)
  | un k x =>
    cases k with
    | not => obtain ⟨_, _, e⟩ := onBool_ok (show u_not (ev x r) h = _ from e); exact rv_h e
    | neg => obtain ⟨_, _, _, e⟩ := onInt_ok (show u_neg (ev x r) h = _ from e); exact rv_h e
    | com => obtain ⟨_, _, _, e⟩ := onInt_ok (show u_com (ev x r) h = _ from e); exact rv_h e
  | conv k x => exact cK_h (k := k) (x := ev x r) (y := x) hf e
  | mki t x => exact rv_h e
  | mkf f xs => exact rv_h e
  | mkmap => cases hf
  | mkslice => cases hf
  | slc es x lo hi mx => exact slc_h e
  | slcs x lo hi => exact slcs_h e
  | slca len es x lo hi mx => exact slca_h e
  | fad d x => obtain ⟨_, _, _, e⟩ := onPtr_ok (show o_fad d x r h = _ from e); exact rv_h e
  | fld1 d x => obtain ⟨_, _, e⟩ := onAgg_ok (show o_fld1 d x r h = _ from e); exact listc_h (f := fun v => v) e
  | fldn d n x => obtain ⟨_, _, e⟩ := onAgg_ok (show o_fldn d n x r h = _ from e); obtain ⟨_, e⟩ := if_ok e; exact rv_h e
  | ixs es x y =>
    obtain ⟨_, _, _, e⟩ := natOf_ok (show o_ixs es x y r h = _ from e)
    rcases onSl_ok e with ⟨i, o, l, c, _, e⟩ | ⟨i, o, l, c, _, e⟩ | ⟨_, e⟩
    · obtain ⟨_, e⟩ := if_ok e; exact rv_h e
    · obtain ⟨_, e⟩ := if_ok e; exact rv_h e
    · cases e
  | ixa len es x y =>
    obtain ⟨_, _, _, e⟩ := natOf_ok (show o_ixa len es x y r h = _ from e)
    obtain ⟨_, _, _, e⟩ := onPtr_ok e
    obtain ⟨_, e⟩ := if_ok e; exact rv_h e
  | idxs x y =>
    obtain ⟨_, _, _, e⟩ := natOf_ok (show o_idxs x y r h = _ from e)
    obtain ⟨_, _, e⟩ := onStr_ok e
    exact listc_h (f := fun b => .int .u8 (.ofNat b)) e
  | idxa len es agg x y => exact idxa_h e
  | ext i x => obtain ⟨_, _, e⟩ := onTup_ok (show o_ext i x r h = _ from e); exact listc_h (f := fun v => v) e
  | lkp t z ok x y => exact lkp_h e
  | mup => cases hf
  | del => cases hf
  | lenm x =>
    rcases onMap_ok (show o_lenm x r h = _ from e) with ⟨i, _, e⟩ | ⟨_, e⟩
    · obtain ⟨l, c, _, e⟩ := onOMap_ok e; exact rv_h e
    · exact rv_h e
  | len x => exact len_h e
  | lent x => obtain ⟨_, _, e⟩ := onStr_ok (show lent (ev x r) h = _ from e); exact rv_h e
  | cap x =>
    rcases onSl_ok (show o_cap x r h = _ from e) with ⟨i, o, l, c, _, e⟩ | ⟨i, o, l, c, _, e⟩ | ⟨_, e⟩
    · exact rv_h e
    · cases e
    · exact rv_h e
  | max mn xs =>
    have e : maxV mn (evs xs r) h = _ := e
    generalize evs xs r = l at e
    cases l with
    | nil => cases e
    | cons a l => obtain ⟨_, _, _, e⟩ := onInt_ok (show AV.onInt a (fun k b => maxL mn k h l b) (.err 76) = _ from e); exact maxL_h e
  | app => cases hf
  | apps => cases hf
  | cpy => cases hf
  | clr => cases hf
  | rngs => cases hf
  | rngm => cases hf
  | ent => cases hf
  | tas t z ok x => exact tas_h e
  | cplx k x y =>
    obtain ⟨_, _, _, e⟩ := onFlt_ok (show o_cplx k x y r h = _ from e)
    obtain ⟨_, _, _, e⟩ := onFlt_ok e
    obtain ⟨_, e⟩ := if_ok e
    exact rv_h e
  | real im x => obtain ⟨_, _, _, _, e⟩ := onCplx_ok (show o_real im x r h = _ from e); exact rv_h e
  | ussd x =>
    rcases onSl_ok (show o_ussd x r h = _ from e) with ⟨i, o, l, c, _, e⟩ | ⟨i, o, l, c, _, e⟩ | ⟨_, e⟩
    · rcases nat_cases e with ⟨_, e⟩ | ⟨m, _, e⟩
      · cases e
      · exact rv_h e
    · rcases nat_cases e with ⟨_, e⟩ | ⟨m, _, e⟩
      · cases e
      · exact rv_h e
    · exact rv_h e
  | ustr => cases hf
  | bad => cases hf
end Go.Am
namespace Go.Am
variable {ops : Array Oper}
def Listed (L : Array Bool) (i : Nat) : Prop := L.getD i false = true
def ClL (ops : Array Oper) (L : Array Bool) : Prop := ∀ j o, ops[j]? = some o → Listed L j → ∀ e, e ∈ o.after → Region.binds .any e = true → Listed L e.on
def Bf (ops : Array Oper) (i j : Nat) : Prop := ∀ L, ClL ops L → Listed L j → Listed L i
theorem Bf.trans {i j k : Nat} (h : Bf ops i j) (g : Bf ops j k) : Bf ops i k := fun L c l => h L c (g L c l)
theorem testBit_fold {g : Nat → Nat} {i : Nat} : ∀ (es : List Edge) (s : Nat), (es.foldl (fun s e => if Region.binds .any e then s ||| 2 ^ e.on ||| g e.on else s) s).testBit i = true →
    s.testBit i = true ∨ ∃ e, e ∈ es ∧ Region.binds .any e = true ∧ (i = e.on ∨ (g e.on).testBit i = true)
  | [], s, h => .inl h
  | e :: es, s, h => by
    rw [List.foldl_cons] at h
    rcases testBit_fold es _ h with g | ⟨e', h1, h2, h3⟩
    · by_cases hb : Region.binds .any e = true
      · rw [if_pos hb] at g
        rw [Nat.testBit_or, Nat.testBit_or, Bool.or_eq_true, Bool.or_eq_true] at g
        rcases g with (g | g) | g
        · exact .inl g
        · rw [Nat.testBit_two_pow] at g
          exact .inr ⟨e, by simp, hb, .inl (of_decide_eq_true g).symm⟩
        · exact .inr ⟨e, by simp, hb, .inr g⟩
      · rw [if_neg hb] at g; exact .inl g
    · exact .inr ⟨e', by simp [h1], h2, h3⟩
theorem masksP_ok {prev : List Nat} (hp : ∀ j i, (prev.getD j 0).testBit i = true → Bf ops i j) : ∀ (os pre : List Oper) (acc : List Nat), ops.toList = pre ++ os → acc.length = pre.length → (∀ j i, (acc.getD j 0).testBit i = true → Bf ops i j) → ∀ j i, ((masksP prev os acc).getD j 0).testBit i = true → Bf ops i j
  | [], pre, acc, _, _, h => h
  | o :: os, pre, acc, e, hl, h => by
    refine masksP_ok hp os (pre ++ [o]) _ (by rw [e]; simp) (by simp [hl]) ?_
    intro j i hj
    rcases Nat.lt_trichotomy j acc.length with g | g | g
    · rw [List.getD_eq_getElem?_getD, List.getElem?_append_left g] at hj
      exact h j i (by rw [List.getD_eq_getElem?_getD]; exact hj)
    · subst g
      rw [List.getD_eq_getElem?_getD, List.getElem?_append_right (Nat.le_refl _)] at hj
      simp only [Nat.sub_self, List.getElem?_cons_zero, Option.getD_some] at hj
      have ho : ops[acc.length]? = some o := by rw [← Array.getElem?_toList, e, hl]; simp
      rcases testBit_fold (g := fun k => if k < acc.length then acc.getD k 0 else prev.getD k 0) _ _ hj with g | ⟨e', h1, h2, h3⟩
      · simp at g
      · have hb : Bf ops e'.on acc.length := fun L c l => c _ o ho l e' (by simpa using h1) h2
        rcases h3 with rfl | h3
        · exact hb
        · split at h3
          · exact (h _ _ h3).trans hb
          · exact (hp _ _ h3).trans hb
    · rw [List.getD_eq_getElem?_getD, List.getElem?_eq_none (by simp; omega)] at hj
      simp at hj
theorem masks_ok : ∀ j i, ((masks ops.toList).getD j 0).testBit i = true → Bf ops i j := by
  have h0 : ∀ j i, (([] : List Nat).getD j 0).testBit i = true → Bf ops i j := fun j i g => by simp at g
  exact masksP_ok (masksP_ok (masksP_ok h0 _ [] [] rfl rfl h0) _ [] [] rfl rfl h0) _ [] [] rfl rfl h0
def leM (ops : Array Oper) (i j : Nat) : Bool := ((masks ops.toList).getD j 0).testBit i
theorem leM_ok {i j : Nat} (h : leM ops i j = true) : Bf ops i j := masks_ok j i h
def effStep (acc : List Nat) (x : Nat × Bk) : List Nat := match x.2 with
  | .eff => x.1 :: acc
  | _ => acc
def effsOf (l : List (Nat × Bk)) : List Nat := l.foldl effStep []
theorem effsOf_snoc (l : List (Nat × Bk)) (x : Nat × Bk) : effsOf (l ++ [x]) = effStep (effsOf l) x := by simp [effsOf]
theorem mem_fold_old : ∀ (m : List (Nat × Bk)) (acc : List Nat) (x : Nat), x ∈ acc → x ∈ m.foldl effStep acc
  | [], acc, x, hx => hx
  | y :: m, acc, x, hx => mem_fold_old m _ x (by unfold effStep; split <;> simp [hx])
theorem mem_fold : ∀ (m : List (Nat × Bk)) (acc : List Nat) (x : Nat), (x, Bk.eff) ∈ m → x ∈ m.foldl effStep acc
  | [], acc, x, hx => by cases hx
  | y :: m, acc, x, hx => by
    rcases List.mem_cons.1 hx with rfl | hx
    · exact mem_fold_old m _ x (by simp [effStep])
    · exact mem_fold m _ x hx
theorem next_ok {l pre : List (Nat × Bk)} {i : Nat} (h2 : (match l.find? (fun x => isE x.2) with | some (e, _) => leM ops i e | none => true) = true)
    (hc : ∀ q (hq : q < l.length), l[q].2 = .eff → ∀ x, x ∈ effsOf (pre ++ l.take q) → Bf ops x l[q].1) : ∀ q2 (hq2 : q2 < l.length), l[q2].2 = .eff → Bf ops i l[q2].1 := by
  intro q2 hq2 he
  cases hf : l.find? (fun x => isE x.2) with
  | none =>
    have := List.find?_eq_none.1 hf l[q2] (List.getElem_mem hq2)
    rw [he] at this; simp [isE] at this
  | some y =>
    rw [hf] at h2
    obtain ⟨g1, as, bs, g2, g3⟩ := List.find?_eq_some_iff_append.1 hf
    have hy : y.2 = .eff := by
      cases hy : y.2 <;> rw [hy] at g1 <;> first | rfl | cases g1
    have hlen : as.length < l.length := by rw [g2]; simp
    have hget : l[as.length] = y := by simp [g2]
    have hl : Bf ops i l[as.length].1 := by rw [hget]; exact leM_ok h2
    rcases Nat.lt_trichotomy as.length q2 with g | g | g
    · refine hl.trans (hc q2 hq2 he _ ?_)
      refine mem_fold _ [] _ (List.mem_append_right _ ?_)
      have : (l[as.length].1, Bk.eff) = l[as.length] := by rw [hget, ← hy]
      rw [this]
      exact List.mem_take_iff_getElem.2 ⟨as.length, by omega, rfl⟩
    · subst g; exact hl
    · have hm : l[q2] ∈ as := by
        have : l[q2] = as[q2] := by simp [g2, List.getElem_append_left g]
        rw [this]; exact List.getElem_mem g
      have := g3 _ hm
      rw [he] at this; simp [isE] at this
theorem okSeq_ok : ∀ (l pre : List (Nat × Bk)) (fl : Bool), okSeq (leM ops) fl l (effsOf pre) = true → (effsOf pre).Pairwise (fun x y => Bf ops y x) → ∀ q (hq : q < l.length),
      (l[q].2 = .eff → ∀ x, x ∈ effsOf (pre ++ l.take q) → Bf ops x l[q].1) ∧
      (∀ n, l[q].2 = .rd n → n ≤ (effsOf (pre ++ l.take q)).length ∧ ∀ x, x ∈ (effsOf (pre ++ l.take q)).drop n → Bf ops x l[q].1) ∧
      (l[q].2 ≠ .eff → ∀ q2 (h2 : q2 < l.length), q < q2 → l[q2].2 = .eff → Bf ops l[q].1 l[q2].1)
  | [], pre, fl, _, _, q, hq => by simp at hq
  | (i, b) :: l, pre, fl, h, hp, q, hq => by
    have hall : b = .eff → ∀ x, x ∈ effsOf pre → Bf ops x i := by
      intro hb x hx
      subst hb
      simp only [okSeq, Bool.and_eq_true] at h
      cases he : effsOf pre with
      | nil => rw [he] at hx; cases hx
      | cons e es =>
        rw [he] at h hx hp
        rcases List.mem_cons.1 hx with rfl | hx
        · exact leM_ok h.1
        · exact ((List.pairwise_cons.1 hp).1 x hx).trans (leM_ok h.1)
    have e1 : effsOf (pre ++ [(i, b)]) = effStep (effsOf pre) (i, b) := effsOf_snoc _ _
    have hp2 : (effsOf (pre ++ [(i, b)])).Pairwise (fun x y => Bf ops y x) := by
      rw [e1]
      cases b with
      | eff => exact List.pairwise_cons.2 ⟨hall rfl, hp⟩
      | rd n => exact hp
      | new => exact hp
    have hih : ∃ fl', okSeq (leM ops) fl' l (effsOf (pre ++ [(i, b)])) = true := by
      rw [e1]
      cases b with
      | eff => simp only [okSeq, Bool.and_eq_true] at h; exact ⟨_, h.2⟩
      | rd n => simp only [okSeq, Bool.and_eq_true] at h; exact ⟨_, h.2⟩
      | new => simp only [okSeq, Bool.and_eq_true] at h; exact ⟨_, h.2⟩
    obtain ⟨fl', hih⟩ := hih
    have ih := okSeq_ok l (pre ++ [(i, b)]) fl' hih hp2
    have hnext : b ≠ .eff → ∀ q2 (hq2 : q2 < l.length), l[q2].2 = .eff → Bf ops i l[q2].1 := by
      intro hb
      refine next_ok (pre := pre ++ [(i, b)]) ?_ (fun q hq he => (ih q hq).1 he)
      cases b with
      | eff => exact absurd rfl hb
      | rd n => simp only [okSeq, Bool.and_eq_true] at h; exact h.1.2
      | new => simp only [okSeq, Bool.and_eq_true] at h; exact h.1
    cases q with
    | zero =>
      refine ⟨fun hb x hx => hall hb x (by simpa using hx), fun m hm => ?_, fun hb q2 hq2 hlt he => ?_⟩
      · have hm : b = .rd m := hm
        subst hm
        simp only [okSeq, Bool.and_eq_true] at h
        obtain ⟨⟨⟨_, h1⟩, h2⟩, h3⟩ := h
        simp only [List.take_zero, List.append_nil, List.getElem_cons_zero]
        cases hd : (effsOf pre).drop m with
        | nil =>
          rw [hd] at h1
          exact ⟨Nat.le_of_eq (by simpa using h1), fun x hx => by cases hx⟩
        | cons e es =>
          rw [hd] at h1
          have hlt : m < (effsOf pre).length := by
            rcases Nat.lt_or_ge m (effsOf pre).length with g | g
            · exact g
            · rw [List.drop_of_length_le g] at hd; cases hd
          refine ⟨Nat.le_of_lt hlt, fun x hx => ?_⟩
          have hpd : ((effsOf pre).drop m).Pairwise (fun x y => Bf ops y x) := List.Pairwise.sublist (List.drop_sublist _ _) hp
          rw [hd] at hpd
          rcases List.mem_cons.1 hx with rfl | hx
          · exact leM_ok h1
          · exact ((List.pairwise_cons.1 hpd).1 x hx).trans (leM_ok h1)
      · cases q2 with
        | zero => omega
        | succ q2 => exact hnext hb q2 (by simpa using hq2) he
    | succ q =>
      have := ih q (by simpa using hq)
      simp only [List.append_assoc, List.singleton_append] at this
      refine ⟨this.1, this.2.1, fun hn q2 h2 hlt he => ?_⟩
      cases q2 with
      | zero => omega
      | succ q2 => exact this.2.2 hn q2 (by simpa using h2) (by omega) he
end Go.Am
namespace Go.Am
variable {P : Program} {G : Gl} {n : Nat} {names : List String} {ops : Array Oper} {l : List (Nat × Bk)}
theorem mem_zip {α : Type} {l : List α} {p : Nat} (hp : p < l.length) : (l[p], p) ∈ l.zipIdx := by
  rw [List.mem_zipIdx_iff_getElem?]; simp [hp]
structure DOK (P : Program) (G : Gl) (n : Nat) (names : List String) (ops : Array Oper) (l : List (Nat × Bk)) : Prop where
  len : l.length = ops.size
  bnd : ∀ q (hq : q < l.length), l[q].1 < ops.size
  cover : ∀ i, i < ops.size → ∃ q, ∃ hq : q < l.length, l[q].1 = i
  inj : ∀ p q (hp : p < l.length) (hq : q < l.length), l[p].1 = l[q].1 → p = q
  lt : ∀ (j : Nat) (o : Oper), ops[j]? = some o → ∀ e, e ∈ o.after → Region.binds .any e = true → e.on < ops.size ∧ (masks ops.toList).getD e.on 0 < (masks ops.toList).getD j 0
  ord : ∀ p q (hp : p < l.length) (hq : q < l.length), leM ops l[p].1 l[q].1 = true → p < q ∨ (l[p].2 = .new ∧ ∃ m, l[q].2 = .rd m)
  kind : ∀ q (hq : q < l.length), okKind P G n names ops l l[q].1 l[q].2 = true
  seq : okSeq (leM ops) true l [] = true
  dst : ∀ (i j : Nat) (oi oj : Oper) (t : Nat), ops[i]? = some oi → ops[j]? = some oj → oi.dst = some t → oj.dst = some t → i = j
  look : ∀ (i j : Nat) (oi oj : Oper) (t : Nat), ops[i]? = some oi → ops[j]? = some oj → t ∈ looks P G n names ops oi → oj.dst = some t → i = j ∨ leM ops i j = true ∨ leM ops j i = true
  nlook : ∀ q (hq : q < l.length), l[q].2 = .new → ∀ t, t ∈ looks P G n names ops (ops.getD l[q].1 default) → ∀ (j : Nat) (oj : Oper), ops[j]? = some oj → oj.dst = some t → leM ops j l[q].1 = true
theorem dok_of (h : okDraw P G n names ops l = true) : DOK P G n names ops l := by
  unfold okDraw at h
  simp only [Bool.and_eq_true, List.all_eq_true, List.any_eq_true, beq_iff_eq] at h
  obtain ⟨⟨⟨⟨⟨⟨⟨⟨⟨⟨h1, h0⟩, h2⟩, h3⟩, h4⟩, h5⟩, h6⟩, h7⟩, h8⟩, h9⟩, h10⟩ := h
  have opm : ∀ {j o}, ops[j]? = some o → (o, j) ∈ ops.toList.zipIdx := fun {j o} e => by
    rw [List.mem_zipIdx_iff_getElem?]; simpa using e
  refine ⟨h1, fun q hq => by simpa using h0 _ (List.getElem_mem hq), fun i hi => ?_, fun p q hp hq e => ?_, fun j o ho e he hb => ?_, fun p q hp hq e => ?_, fun q hq => h6 _ (List.getElem_mem hq), h7, fun i j oi oj t hi hj ti tj => ?_, fun i j oi oj t hi hj ti tj => ?_, fun q hq hn t ht j oj hj tj => ?_⟩
  · obtain ⟨x, hx, e⟩ := h2 i (by simpa using hi)
    obtain ⟨q, hq, rfl⟩ := List.getElem_of_mem hx
    exact ⟨q, hq, e⟩
  · have := h3 _ (mem_zip hp) _ (mem_zip hq)
    simp only [e, bne_self_eq_false, Bool.false_or, beq_iff_eq] at this
    exact this
  · have := h4 _ (opm ho)
    have := Array.all_eq_true_iff_forall_mem.1 this e he
    simpa [hb] using this
  · have h := h5 _ (mem_zip hp) _ (mem_zip hq)
    have e' : ((masks ops.toList).getD l[q].1 0).testBit l[p].1 = true := e
    simp only [e', Bool.not_true, Bool.false_or, Bool.or_eq_true, decide_eq_true_eq, Bool.and_eq_true] at h
    rcases h with h | ⟨g1, g2⟩
    · exact .inl h
    · refine .inr ⟨?_, ?_⟩
      · revert g1; cases l[p].2 <;> simp
      · revert g2; cases l[q].2 <;> simp
  · have h := h8 _ (opm hi)
    rw [ti] at h
    simp only [Option.all_some, List.all_eq_true] at h
    have := h _ (opm hj)
    simpa [tj] using this
  · have h := h9 _ (opm hi) t ti _ (opm hj)
    simp only [tj, bne_self_eq_false, Bool.false_or, Bool.or_eq_true, beq_iff_eq] at h
    rcases h with (h | h) | h
    · exact .inl h
    · exact .inr (.inl h)
    · exact .inr (.inr h)
  · have h : (!(l[q].2 matches .new) || (looks P G n names ops (ops.getD l[q].1 default)).all fun t => ops.toList.zipIdx.all fun x => x.1.dst != some t || leM ops x.2 l[q].1) = true := h10 _ (List.getElem_mem hq)
    rw [hn] at h
    simp only [Bool.not_true, Bool.false_or, List.all_eq_true] at h
    have := h t ht _ (opm hj)
    simpa [tj] using this
end Go.Am
namespace Go.Am
variable {P : Program} {G : Gl} [NB G] {n : Nat} {names : List String} {ops : Array Oper} {p : Pg} {run : Run}
structure DS where
  r : A2
  h : Hp
  g : Hp
  hs : List Hp
def DStp (p : Pg) (run : Run) (d : Dst) (x : AI) (b : Bk) (wnt : Bool) (s s' : DS) (v : AV) : Prop :=
  s'.r = dset d v s.r ∧ match wnt, b with
    | false, .eff => v = unitV ∧ s'.h = s.h ∧ s'.g = s.h ∧ s'.hs = s.g :: s.hs
    | false, .rd _ => v = unitV ∧ s'.h = s.h ∧ s'.g = s.g ∧ s'.hs = s.hs
    | false, .new => False
    | true, .eff => x.res p run s.r s.h = .ok v s'.h ∧ s'.g = s'.h ∧ s'.hs = s.g :: s.hs
    | true, .rd m => ∃ op, x = .op op ∧ (∃ h', op.run s.r s.g = .ok v h') ∧ reread op s.r v s.hs m = true ∧ s'.h = s.h ∧ s'.g = s.g ∧ s'.hs = s.hs
    | true, .new => ∃ op, x = .op op ∧ op.run s.r s.h = .ok v s'.h ∧ s'.g = s.g ∧ s'.hs = s.hs
def Wnt (ops : Array Oper) (o : Oper) (r : A2) (wnt : Bool) : Prop := match o.guard with
  | none => wnt = true
  | some (j, w) => ∃ t b, (ops[j]?).bind (·.dst) = some t ∧ t < 256 ∧ gb w (rget (hi t) (lo t) r) = .bool b ∧ wnt = (b == w)
structure DAt (P : Program) (G : Gl) (n : Nat) (names : List String) (ops : Array Oper) (p : Pg) (run : Run) (o : Oper) (b : Bk) (s s' : DS) (d : Dst) (x : AI) (wnt : Bool) (v : AV) : Prop where
  dst : cDst G n o.dst = some d
  op : cOp P G names o = some x
  want : Wnt ops o s.r wnt
  stp : DStp p run d x b wnt s s' v
theorem drwE_safe {d : Dst} {k : DK} {r : A2} {g : Hp} {hs : List Hp} {v : RT} (h : (drwE d k r g hs v).Safe) : ∃ u h', v = .ok u h' ∧ drwE d k r g hs v = k (dset d u r) h' h' (g :: hs) := by
  cases v with
  | ok u h' => exact ⟨u, h', rfl, rfl⟩
  | err m => exact (RS.Safe.err h).elim
  | ch m k => exact (RS.Safe.err h).elim
theorem drwR_safe {d : Dst} {op : AOp} {m : Nat} {k : DK} {r : A2} {h g : Hp} {hs : List Hp} {v : RV} (hh : (drwR d op m k r h g hs v).Safe) : ∃ u h', v = .ok u h' ∧ reread op r u hs m = true ∧ drwR d op m k r h g hs v = k (dset d u r) h g hs := by
  cases v with
  | ok u h' =>
    have hh : (@Bool.rec (fun _ => RS) (.err 211) (k (dset d u r) h g hs) (reread op r u hs m)).Safe := hh
    show ∃ u' h2, RV.ok u h' = .ok u' h2 ∧ _ ∧ (@Bool.rec (fun _ => RS) (.err 211) (k (dset d u r) h g hs) (reread op r u hs m)) = _
    cases hr : reread op r u hs m with
    | false => rw [hr] at hh; exact (RS.Safe.err hh).elim
    | true => exact ⟨u, h', rfl, hr, rfl⟩
  | err m => exact (RS.Safe.err hh).elim
theorem drwN_safe {d : Dst} {k : DK} {r : A2} {g : Hp} {hs : List Hp} {v : RV} (h : (drwN d k r g hs v).Safe) : ∃ u h', v = .ok u h' ∧ drwN d k r g hs v = k (dset d u r) h' g hs := by
  cases v with
  | ok u h' => exact ⟨u, h', rfl, rfl⟩
  | err m => exact (RS.Safe.err h).elim
def DK.at (k : DK) (s : DS) : RS := k s.r s.h s.g s.hs
theorem toT_ok {v : RV} {u : AV} {h : Hp} (e : v.toT = .ok u h) : v = .ok u h := by
  cases v with
  | ok a b => cases e; rfl
  | err m => cases e
theorem drwI_safe {b : Bk} {d : Dst} {x : AI} {k : DK} {s : DS} (h : (drwI b d x p run k s.r s.h s.g s.hs).Safe) (hb : b = .eff ∨ ∃ op, x = .op op) : ∃ v s', DStp p run d x b true s s' v ∧ drwI b d x p run k s.r s.h s.g s.hs = k.at s' := by
  have heff : ∀ {y : RT}, (drwE d k s.r s.g s.hs y).Safe → drwI .eff d x p run k s.r s.h s.g s.hs = drwE d k s.r s.g s.hs y → y = x.res p run s.r s.h → ∃ v s', DStp p run d x .eff true s s' v ∧ drwI .eff d x p run k s.r s.h s.g s.hs = k.at s' := by
    intro y hy e1 e2
    obtain ⟨u, h', g1, g2⟩ := drwE_safe hy
    exact ⟨u, ⟨dset d u s.r, h', h', s.g :: s.hs⟩, ⟨rfl, e2 ▸ g1, rfl, rfl⟩, by rw [e1, g2]; rfl⟩
  cases x with
  | op o =>
    cases b with
    | eff => exact heff (y := (o.run s.r s.h).toT) h rfl rfl
    | rd m =>
      obtain ⟨u, h', g1, g2, g3⟩ := drwR_safe (show (drwR d o m k s.r s.h s.g s.hs (o.run s.r s.g)).Safe from h)
      exact ⟨u, ⟨dset d u s.r, s.h, s.g, s.hs⟩, ⟨rfl, o, rfl, ⟨h', g1⟩, g2, rfl, rfl, rfl⟩, g3⟩
    | new =>
      obtain ⟨u, h', g1, g2⟩ := drwN_safe (show (drwN d k s.r s.g s.hs (o.run s.r s.h)).Safe from h)
      exact ⟨u, ⟨dset d u s.r, h', s.g, s.hs⟩, ⟨rfl, o, rfl, g1, rfl, rfl⟩, g2⟩
  | nxt c y =>
    rcases hb with rfl | ⟨_, e⟩
    · exact heff (y := nextT c (ev y s.r) s.h) h rfl rfl
    · cases e
  | call f xs =>
    rcases hb with rfl | ⟨_, e⟩
    · exact heff (y := callF p run f (evs xs s.r) s.h) h rfl rfl
    · cases e
  | calld y xs =>
    rcases hb with rfl | ⟨_, e⟩
    · exact heff (y := callD p run (ev y s.r) (evs xs s.r) s.h) h rfl rfl
    · cases e
  | inv c y xs =>
    rcases hb with rfl | ⟨_, e⟩
    · exact heff (y := callI p run c (ev y s.r) (evs xs s.r) s.h) h rfl rfl
    · cases e
theorem di_safe {o : Oper} {b : Bk} {k : DK} {s : DS} (h : ((DI.mk b (cGI P G n names ops o)).exec p run k s.r s.h s.g s.hs).Safe)
    (hb : b = .eff ∨ ∃ op, cOp P G names o = some (.op op)) :
    ∃ d x wnt v s', DAt P G n names ops p run o b s s' d x wnt v ∧ (DI.mk b (cGI P G n names ops o)).exec p run k s.r s.h s.g s.hs = k.at s' := by
  have hbad : ¬ ((DI.mk b badGI).exec p run k s.r s.h s.g s.hs).Safe := by
    intro hh
    cases b with
    | eff => exact RS.Safe.err (n := 400) hh
    | rd m => exact RS.Safe.err (n := 400) hh
    | new => exact RS.Safe.err (n := 400) hh
  unfold cGI at h ⊢
  split at h
  · rename_i d x hd hx
    have hb' : b = .eff ∨ ∃ op, x = .op op := hb.imp id fun ⟨op, e⟩ => ⟨op, by rw [e] at hx; exact (Option.some.inj hx).symm⟩
    split at h
    · rename_i hg
      obtain ⟨v, s', g1, g2⟩ := drwI_safe (show (drwI b d x p run k s.r s.h s.g s.hs).Safe from h) hb'
      exact ⟨d, x, true, v, s', ⟨hd, hx, by simp [Wnt, hg], g1⟩, g2⟩
    · rename_i j w hg
      split at h
      · rename_i t ht
        split at h
        · rename_i s2 hsl
          try simp only [hsl]
          obtain ⟨es2, ht256⟩ := sl_inv hsl
          subst s2
          have h : (AV.onBool (gb w (rget (hi t) (lo t) s.r)) (drwG b d x k s.r s.h s.g s.hs p run w) (.err 212)).Safe := h
          show ∃ d' x' wnt v s', _ ∧ (AV.onBool (gb w (rget (hi t) (lo t) s.r)) (drwG b d x k s.r s.h s.g s.hs p run w) (.err 212)) = _
          obtain ⟨c, hc, e⟩ := onBool_safe h
          rw [e] at h ⊢
          have h : (@Bool.rec (fun _ => RS) (drwS b d k s.r s.h s.g s.hs) (drwI b d x p run k s.r s.h s.g s.hs) (beq1 c w)).Safe := h
          show ∃ d' x' wnt v s', _ ∧ (@Bool.rec (fun _ => RS) (drwS b d k s.r s.h s.g s.hs) (drwI b d x p run k s.r s.h s.g s.hs) (beq1 c w)) = _
          rw [beq1_eq] at h ⊢
          have hw : ∀ z, z = (c == w) → Wnt ops o s.r z := fun z hz => by
            simp only [Wnt, hg]; exact ⟨t, c, ht, ht256, hc, hz⟩
          cases hcw : (c == w) with
          | true =>
            rw [hcw] at h
            obtain ⟨v, s', g1, g2⟩ := drwI_safe (show (drwI b d x p run k s.r s.h s.g s.hs).Safe from h) hb'
            exact ⟨d, x, true, v, s', ⟨hd, hx, hw _ hcw.symm, g1⟩, g2⟩
          | false =>
            rw [hcw] at h
            cases b with
            | eff => exact ⟨d, x, false, unitV, ⟨dset d unitV s.r, s.h, s.h, s.g :: s.hs⟩, ⟨hd, hx, hw _ hcw.symm, ⟨rfl, rfl, rfl, rfl, rfl⟩⟩, rfl⟩
            | rd m => exact ⟨d, x, false, unitV, ⟨dset d unitV s.r, s.h, s.g, s.hs⟩, ⟨hd, hx, hw _ hcw.symm, ⟨rfl, rfl, rfl, rfl, rfl⟩⟩, rfl⟩
            | new => exact (RS.Safe.err (n := 214) h).elim
        · exact absurd h hbad
      · exact absurd h hbad
  · exact absurd h hbad
theorem trace_ok {kf : A2 → Hp → RS} : ∀ (l : List (Nat × Bk)) (s : DS), (∀ q (hq : q < l.length), l[q].2 = .eff ∨ ∃ op, cOp P G names (ops.getD l[q].1 default) = some (.op op)) →
    (drwC (callF p run) (callI p run) kf (l.map fun (i, b) => .mk b (cGI P G n names ops (ops.getD i default))) s.r s.h s.g s.hs).Safe →
    ∃ T : Nat → DS, T 0 = s ∧ (∀ q (hq : q < l.length), ∃ d x wnt v, DAt P G n names ops p run (ops.getD l[q].1 default) l[q].2 (T q) (T (q + 1)) d x wnt v) ∧
      drwC (callF p run) (callI p run) kf (l.map fun (i, b) => .mk b (cGI P G n names ops (ops.getD i default))) s.r s.h s.g s.hs = kf (T l.length).r (T l.length).h
  | [], s, _, _ => ⟨fun _ => s, rfl, fun q hq => by simp at hq, rfl⟩
  | (i, b) :: l, s, hb, h => by
    have e0 : drwC (callF p run) (callI p run) kf (((i, b) :: l).map fun (i, b) => .mk b (cGI P G n names ops (ops.getD i default))) s.r s.h s.g s.hs =
      (DI.mk b (cGI P G n names ops (ops.getD i default))).exec p run (drwC (callF p run) (callI p run) kf (l.map fun (i, b) => .mk b (cGI P G n names ops (ops.getD i default)))) s.r s.h s.g s.hs := DI_execC _ _ _ _ _ _
    rw [e0] at h
    obtain ⟨d, x, wnt, v, s', g1, g2⟩ := di_safe h (hb 0 (by simp))
    rw [g2] at h
    obtain ⟨T, t1, t2, t3⟩ := trace_ok l s' (fun q hq => hb (q + 1) (by simpa using hq)) h
    refine ⟨fun q => match q with | 0 => s | q + 1 => T q, rfl, fun q hq => ?_, ?_⟩
    · cases q with
      | zero => exact ⟨d, x, wnt, v, by simpa [t1] using g1⟩
      | succ q => exact t2 q (by simpa using hq)
    · rw [e0, g2]
      exact t3
end Go.Am
namespace Go.Am
section
variable {P : Program} {G : Gl} [NB G] {n : Nat} {names : List String} {ops : Array Oper} {p : Pg} {run : Run} {l : List (Nat × Bk)}
def opAt (ops : Array Oper) (l : List (Nat × Bk)) (q : Nat) (hq : q < l.length) : Oper := ops.getD l[q].1 default
def Trace (P : Program) (G : Gl) (n : Nat) (names : List String) (ops : Array Oper) (p : Pg) (run : Run) (l : List (Nat × Bk)) (T : Nat → DS) : Prop :=
  ∀ q (hq : q < l.length), ∃ d x wnt v, DAt P G n names ops p run (opAt ops l q hq) l[q].2 (T q) (T (q + 1)) d x wnt v
theorem opAt_get (K : DOK P G n names ops l) {q : Nat} (hq : q < l.length) : ops[l[q].1]? = some (opAt ops l q hq) := by
  have := K.bnd q hq
  simp [opAt, this]
def ec (l : List (Nat × Bk)) (q : Nat) : Nat := (effsOf (l.take q)).length
theorem ec_zero : ec l 0 = 0 := rfl
theorem effsOf_take_succ {q : Nat} (hq : q < l.length) : effsOf (l.take (q + 1)) = effStep (effsOf (l.take q)) l[q] := by
  rw [List.take_succ_eq_append_getElem hq, effsOf_snoc]
theorem ec_eff {q : Nat} (hq : q < l.length) (he : l[q].2 = .eff) : ec l (q + 1) = ec l q + 1 := by
  unfold ec; rw [effsOf_take_succ hq]; simp [effStep, he]
theorem ec_not {q : Nat} (hq : q < l.length) (he : l[q].2 ≠ .eff) : ec l (q + 1) = ec l q := by
  unfold ec; rw [effsOf_take_succ hq]
  cases hb : l[q].2 with
  | eff => exact absurd hb he
  | rd m => simp [effStep, hb]
  | new => simp [effStep, hb]
theorem ec_mono : ∀ {q q' : Nat}, q ≤ q' → q' ≤ l.length → ec l q ≤ ec l q' := by
  intro q q' h hl
  induction h with
  | refl => exact Nat.le_refl _
  | @step m h ih =>
    have ih := ih (by omega)
    by_cases he : (l[m]'(by omega)).2 = .eff
    · rw [ec_eff (by omega) he]; omega
    · rw [ec_not (by omega) he]; exact ih
theorem ec_lt {q q' : Nat} (h : q < q') (hl : q' ≤ l.length) (he : (l[q]'(by omega)).2 = .eff) : ec l q < ec l q' := by
  have := ec_mono (l := l) (show q + 1 ≤ q' by omega) hl
  rw [ec_eff (by omega) he] at this; omega
theorem ec_place : ∀ {q' k : Nat}, q' ≤ l.length → k < ec l q' → ∃ q, ∃ hq : q < l.length, q < q' ∧ l[q].2 = .eff ∧ ec l q = k := by
  intro q' k hl hk
  induction q' with
  | zero => rw [ec_zero] at hk; omega
  | succ m ih =>
    by_cases he : (l[m]'(by omega)).2 = .eff
    · rw [ec_eff (by omega) he] at hk
      rcases Nat.lt_or_ge k (ec l m) with g | g
      · obtain ⟨q, hq, h1, h2, h3⟩ := ih (by omega) g
        exact ⟨q, hq, by omega, h2, h3⟩
      · exact ⟨m, by omega, by omega, he, by omega⟩
    · rw [ec_not (by omega) he] at hk
      obtain ⟨q, hq, h1, h2, h3⟩ := ih (by omega) hk
      exact ⟨q, hq, by omega, h2, h3⟩
theorem effs_get : ∀ {q' q : Nat} (hl : q' ≤ l.length) (h : q < q'), (l[q]'(by omega)).2 = .eff → (effsOf (l.take q'))[ec l q' - 1 - ec l q]? = some (l[q]'(by omega)).1 := by
  intro q' q hl h he
  induction q' with
  | zero => omega
  | succ m ih =>
    rw [effsOf_take_succ (by omega)]
    by_cases hem : (l[m]'(by omega)).2 = .eff
    · rw [ec_eff (by omega) hem]
      have e1 : effStep (effsOf (l.take m)) (l[m]'(by omega)) = (l[m]'(by omega)).1 :: effsOf (l.take m) := by simp [effStep, hem]
      rw [e1]
      rcases Nat.lt_or_ge q m with g | g
      · have h1 := ec_lt g (by omega) he
        have := ih (by omega) g he
        rw [show ec l m + 1 - 1 - ec l q = (ec l m - 1 - ec l q) + 1 by omega, List.getElem?_cons_succ]
        exact this
      · obtain rfl : q = m := by omega
        simp
    · rw [ec_not (by omega) hem]
      have e1 : effStep (effsOf (l.take m)) (l[m]'(by omega)) = effsOf (l.take m) := by
        cases hb : (l[m]'(by omega)).2 with
        | eff => exact absurd hb hem
        | rd m => simp [effStep, hb]
        | new => simp [effStep, hb]
      rw [e1]
      rcases Nat.lt_or_ge q m with g | g
      · exact ih (by omega) g he
      · obtain rfl : q = m := by omega
        exact absurd he hem
theorem bf_eff (K : DOK P G n names ops l) {q q' : Nat} (hq : q < l.length) (hq' : q' < l.length) (h : q < q') (he : l[q].2 = .eff) (he' : l[q'].2 = .eff) : Bf ops l[q].1 l[q'].1 := by
  have := (okSeq_ok l [] true K.seq List.Pairwise.nil q' hq').1 he'
  refine this _ ?_
  simp only [List.nil_append]
  exact List.mem_of_getElem? (effs_get (by omega) h he)
theorem bf_rd (K : DOK P G n names ops l) {q : Nat} (hq : q < l.length) {m : Nat} (hb : l[q].2 = .rd m) : m ≤ ec l q ∧ ∀ q1 (h1 : q1 < q), (l[q1]'(by omega)).2 = .eff → ec l q1 < ec l q - m → Bf ops (l[q1]'(by omega)).1 l[q].1 := by
  obtain ⟨g1, g2⟩ := (okSeq_ok l [] true K.seq List.Pairwise.nil q hq).2.1 m hb
  simp only [List.nil_append] at g1 g2
  refine ⟨g1, fun q1 h1 he hlt => g2 _ ?_⟩
  have := effs_get (by omega) h1 he
  refine List.mem_of_getElem? (i := ec l q - 1 - ec l q1 - m) ?_
  rw [List.getElem?_drop]
  rw [show m + (ec l q - 1 - ec l q1 - m) = ec l q - 1 - ec l q1 by omega]
  exact this
theorem bf_next (K : DOK P G n names ops l) {q q2 : Nat} (hq : q < l.length) (hq2 : q2 < l.length) (h : q < q2) (hb : l[q].2 ≠ .eff) (he : l[q2].2 = .eff) : Bf ops l[q].1 l[q2].1 :=
  (okSeq_ok l [] true K.seq List.Pairwise.nil q hq).2.2 hb q2 hq2 h he
variable {T : Nat → DS}
theorem hs_len (hT : Trace P G n names ops p run l T) (h0 : (T 0).hs = []) : ∀ q, q ≤ l.length → (T q).hs.length = ec l q := by
  intro q hq
  induction q with
  | zero => rw [h0]; rfl
  | succ q ih =>
    have ih := ih (by omega)
    obtain ⟨d, x, wnt, v, D⟩ := hT q (by omega)
    have hs := D.stp.2
    cases hb : (l[q]'(by omega)).2 with
    | eff =>
      rw [hb] at hs
      rw [ec_eff (by omega) hb]
      cases wnt with
      | true => rw [hs.2.2]; simp [ih]
      | false => rw [hs.2.2.2]; simp [ih]
    | rd m =>
      rw [hb] at hs
      rw [ec_not (by omega) (by simp [hb])]
      cases wnt with
      | true => obtain ⟨_, _, _, _, _, _, e⟩ := hs; rw [e]; exact ih
      | false => rw [hs.2.2.2]; exact ih
    | new =>
      rw [hb] at hs
      rw [ec_not (by omega) (by simp [hb])]
      cases wnt with
      | true => obtain ⟨_, _, _, _, e⟩ := hs; rw [e]; exact ih
      | false => exact hs.elim
theorem hs_step (hT : Trace P G n names ops p run l T) {q : Nat} (hq : q < l.length) : (T q).g :: (T q).hs <:+ (T (q + 1)).g :: (T (q + 1)).hs := by
  obtain ⟨d, x, wnt, v, D⟩ := hT q hq
  have hs := D.stp.2
  cases hb : (l[q]'(by omega)).2 with
  | eff =>
    rw [hb] at hs
    cases wnt with
    | true => rw [hs.2.2]; exact List.suffix_cons _ _
    | false => rw [hs.2.2.2]; exact List.suffix_cons _ _
  | rd m =>
    rw [hb] at hs
    cases wnt with
    | true => obtain ⟨_, _, _, _, _, e1, e2⟩ := hs; rw [e1, e2]; exact List.suffix_refl _
    | false => rw [hs.2.2.1, hs.2.2.2]; exact List.suffix_refl _
  | new =>
    rw [hb] at hs
    cases wnt with
    | true => obtain ⟨_, _, _, e1, e2⟩ := hs; rw [e1, e2]; exact List.suffix_refl _
    | false => exact hs.elim
theorem hs_suffix (hT : Trace P G n names ops p run l T) {q : Nat} : ∀ {q' : Nat}, q ≤ q' → q' ≤ l.length → (T q).g :: (T q).hs <:+ (T q').g :: (T q').hs := by
  intro q' h hl
  induction h with
  | refl => exact List.suffix_refl _
  | @step m h ih => exact (ih (by omega)).trans (hs_step hT (by omega))
def bh (l : List (Nat × Bk)) (T : Nat → DS) (k : Nat) : Hp := (((T l.length).g :: (T l.length).hs).reverse[k]?).getD (T 0).h
theorem bh_get (hT : Trace P G n names ops p run l T) (h0 : (T 0).hs = []) {q : Nat} (hq : q ≤ l.length) {j : Nat} (hj : j ≤ ec l q) : ((T q).g :: (T q).hs)[j]? = some (bh l T (ec l q - j)) := by
  obtain ⟨ys, e⟩ := hs_suffix hT hq (Nat.le_refl _)
  have hlen := hs_len hT h0 q hq
  have hrev : ((T l.length).g :: (T l.length).hs).reverse = ((T q).g :: (T q).hs).reverse ++ ys.reverse := by rw [← e, List.reverse_append]
  have hl2 : ((T q).g :: (T q).hs).length = ec l q + 1 := by simp [hlen]
  unfold bh
  rw [hrev, List.getElem?_append_left (by rw [List.length_reverse, hl2]; omega), List.getElem?_reverse (by rw [hl2]; omega), hl2]
  rw [show ec l q + 1 - 1 - (ec l q - j) = j by omega]
  rw [List.getElem?_eq_getElem (by rw [hl2]; omega)]
  rfl
theorem bh_g (hT : Trace P G n names ops p run l T) (h0 : (T 0).hs = []) {q : Nat} (hq : q ≤ l.length) : bh l T (ec l q) = (T q).g := by
  have := bh_get hT h0 hq (j := 0) (by omega)
  simpa using this.symm
theorem bh_hs (hT : Trace P G n names ops p run l T) (h0 : (T 0).hs = []) {q : Nat} (hq : q ≤ l.length) {j : Nat} (hj : j < ec l q) : (T q).hs[j]? = some (bh l T (ec l q - 1 - j)) := by
  have := bh_get hT h0 hq (j := j + 1) (by omega)
  rw [List.getElem?_cons_succ] at this
  rw [this, show ec l q - (j + 1) = ec l q - 1 - j by omega]
theorem stage_start (hT : Trace P G n names ops p run l T) (h0 : (T 0).g = (T 0).h) : ∀ q, q ≤ l.length → ∃ s, s ≤ q ∧ ec l s = ec l q ∧ (T s).h = (T s).g ∧ (∀ q' (h1 : s ≤ q') (h2 : q' < q) (h3 : q' < l.length), l[q'].2 ≠ .eff) ∧ ∀ q', q' < s → ec l q' < ec l s := by
  intro q hq
  induction q with
  | zero => exact ⟨0, Nat.le_refl _, rfl, h0.symm, fun q' h1 h2 => by omega, fun q' h1 => by omega⟩
  | succ q ih =>
    by_cases he : (l[q]'(by omega)).2 = .eff
    · refine ⟨q + 1, Nat.le_refl _, rfl, ?_, fun q' h1 h2 => by omega, fun q' h1 => by have := ec_mono (l := l) (show q' ≤ q by omega) (by omega); rw [ec_eff (by omega) he]; omega⟩
      obtain ⟨d, x, wnt, v, D⟩ := hT q (by omega)
      have hs := D.stp.2
      rw [he] at hs
      cases wnt with
      | true => exact hs.2.1.symm
      | false => rw [hs.2.1, hs.2.2.1]
    · obtain ⟨s, g1, g2, g3, g4, g5⟩ := ih (by omega)
      refine ⟨s, by omega, by rw [ec_not (by omega) he]; exact g2, g3, fun q' h1 h2 h3 => ?_, g5⟩
      rcases Nat.lt_or_ge q' q with g | g
      · exact g4 q' h1 g h3
      · obtain rfl : q' = q := by omega
        exact he
theorem reg_step (hT : Trace P G n names ops p run l T) {q : Nat} (hq : q < l.length) {t : Nat} (ht : t < 256) (hd : (opAt ops l q hq).dst ≠ some t) : rget (hi t) (lo t) (T (q + 1)).r = rget (hi t) (lo t) (T q).r := by
  obtain ⟨d, x, wnt, v, D⟩ := hT q hq
  rw [D.stp.1]
  have hdst := D.dst
  cases ho : (opAt ops l q hq).dst with
  | none => rw [ho] at hdst; cases hdst; rfl
  | some s =>
    rw [ho] at hdst hd
    obtain ⟨h1, h2, rfl⟩ := cDst_inv hdst
    show rget (hi t) (lo t) (rset (hi s) (lo s) v (T q).r) = _
    rw [rget_rset, if_neg (fun g => hd (by rw [(hilo ht h1).1 g]))]
theorem reg_keep (hT : Trace P G n names ops p run l T) {q t : Nat} (ht : t < 256) : ∀ {q' : Nat}, q ≤ q' → q' ≤ l.length → (∀ q1 (h1 : q ≤ q1) (h2 : q1 < q') (h3 : q1 < l.length), (opAt ops l q1 h3).dst ≠ some t) → rget (hi t) (lo t) (T q').r = rget (hi t) (lo t) (T q).r := by
  intro q' h hl hw
  induction h with
  | refl => rfl
  | @step m h ih =>
    rw [reg_step hT (by omega) ht (hw m h (by omega) (by omega))]
    exact ih (by omega) fun q1 h1 h2 h3 => hw q1 h1 (by omega) h3
theorem reg_at (K : DOK P G n names ops l) (hT : Trace P G n names ops p run l T) {q t : Nat} (hq : q ≤ l.length) (ht : t < 256) :
    (∀ q1 (h1 : q1 < l.length), (opAt ops l q1 h1).dst = some t → q1 < q → rget (hi t) (lo t) (T q).r = rget (hi t) (lo t) (T (q1 + 1)).r) ∧
    ((∀ q1 (h1 : q1 < l.length), (opAt ops l q1 h1).dst = some t → ¬ q1 < q) → rget (hi t) (lo t) (T q).r = rget (hi t) (lo t) (T 0).r) := by
  have uniq : ∀ q1 q2 (h1 : q1 < l.length) (h2 : q2 < l.length), (opAt ops l q1 h1).dst = some t → (opAt ops l q2 h2).dst = some t → q1 = q2 := fun q1 q2 h1 h2 e1 e2 =>
    K.inj q1 q2 h1 h2 (K.dst _ _ _ _ t (opAt_get K h1) (opAt_get K h2) e1 e2)
  constructor
  · intro q1 h1 e1 hlt
    refine reg_keep hT ht (by omega) hq fun q2 g1 g2 g3 e2 => ?_
    have := uniq q1 q2 h1 g3 e1 e2
    omega
  · intro hno
    exact reg_keep hT ht (by omega) hq fun q2 g1 g2 g3 e2 => hno q2 g3 e2 g2
theorem reread_ok {op : AOp} {r : A2} {v : AV} : ∀ {hs : List Hp} {m : Nat}, reread op r v hs m = true → ∀ j, j < m → ∃ hj, hs[j]? = some hj ∧ ∃ h', op.run r hj = .ok v h'
  | [], 0, _, j, hj => by omega
  | [], m + 1, e, _, _ => by cases e
  | h :: hs, 0, _, j, hj => by omega
  | h :: hs, m + 1, e, j, hj => by
    have e : (RV.rec (fun v' _ => @Bool.rec (fun _ => Bool) false (reread op r v hs m) (same v v')) (fun _ => false) (op.run r h) : Bool) = true := e
    cases ho : op.run r h with
    | err k => rw [ho] at e; cases e
    | ok v' h' =>
      rw [ho] at e
      obtain ⟨e1, e2⟩ := ifb e
      cases j with
      | zero => exact ⟨h, rfl, h', by rw [ho, same_eq e1]⟩
      | succ j =>
        obtain ⟨hj', g1, g2⟩ := reread_ok e2 j (by omega)
        exact ⟨hj', by simpa using g1, g2⟩
end
end Go.Am
namespace Go.Am
section
variable {P : Program} {φ φ' : Phi} {h h' : Hp} {w w' : World} {v : AV} {n : Nat} {G : Gl} {names : List String}
theorem HR.adopt (H : HR φ h w) {o : Obj} {b room : Nat} {i n' : P4} (hi : hget i h = .none) (ho : o ≠ .none) (hb : b < w.heap.size) (hfree : ∀ j q, live (hget j h) → φ j = some q → q.blk ≠ b)
    (hOR : OR (φ.put i ⟨b, 0, room⟩) o ⟨b, 0, room⟩ w.heap[b]?) : HR (φ.put i ⟨b, 0, room⟩) (.mk (hsetT i o h.tree) n') w := by
  have hφ := H.fresh i hi
  have hle := Phi.le_put (φ := φ) (i := i) ⟨b, 0, room⟩ hφ
  have hg : ∀ j, hget j (.mk (hsetT i o h.tree) n') = if j = i then o else hget j h := by
    intro j
    cases h with
    | mk t n => exact hgetT_hsetT j i o t
  have hbk : ∀ j q, j ≠ i → (φ.put i ⟨b, 0, room⟩) j = some q → φ j = some q := by
    intro j q hj hq
    simpa [Phi.put, hj] using hq
  refine ⟨fun j hj => ?_, fun j k q r hj hk hjk hq hr => ?_, fun j hj => ?_, fun j q hq => ?_⟩
  · rw [hg] at hj ⊢
    by_cases e : j = i
    · subst e
      refine ⟨_, Phi.put_self _ _ _, ?_⟩
      rw [if_pos rfl]; exact hOR
    · rw [if_neg e] at hj ⊢
      obtain ⟨q, hq, hr⟩ := H.obj j hj
      exact ⟨q, hle _ _ hq, hr.mono hle⟩
  · rw [hg] at hj hk
    by_cases e1 : j = i
    · by_cases e2 : k = i
      · exact absurd (e1.trans e2.symm) hjk
      · rw [if_neg e2] at hk
        have hr' := hbk k r e2 hr
        have hq' : q = ⟨b, 0, room⟩ := by rw [e1, Phi.put_self] at hq; exact (Option.some.inj hq).symm
        rw [hq']; exact fun e => hfree k r hk hr' e.symm
    · rw [if_neg e1] at hj
      have hq' := hbk j q e1 hq
      by_cases e2 : k = i
      · have hr' : r = ⟨b, 0, room⟩ := by rw [e2, Phi.put_self] at hr; exact (Option.some.inj hr).symm
        rw [hr']; exact hfree j q hj hq'
      · rw [if_neg e2] at hk
        exact H.inj j k q r hj hk hjk hq' (hbk k r e2 hr)
  · rw [hg] at hj
    by_cases e : j = i
    · rw [if_pos e] at hj; exact absurd hj ho
    · rw [if_neg e] at hj
      show (if j = i then some _ else φ j) = none
      rw [if_neg e]; exact H.fresh j hj
  · by_cases e : j = i
    · have hq' : q = ⟨b, 0, room⟩ := by rw [e, Phi.put_self] at hq; exact (Option.some.inj hq).symm
      rw [hq']; exact hb
    · exact H.bound j q (hbk j q e hq)
theorem HR.ext (H : HR φ h w) (hs : w.heap.size ≤ w'.heap.size) (hk : ∀ b, b < w.heap.size → w'.heap[b]? = w.heap[b]?) : HR φ h w' where
  obj i hl := let ⟨p, h1, h2⟩ := H.obj i hl; ⟨p, h1, by rw [hk _ (H.bound i p h1)]; exact h2⟩
  inj := H.inj
  fresh := H.fresh
  bound i p hp := Nat.lt_of_lt_of_le (H.bound i p hp) hs
theorem Step.ext (hs : w.heap.size ≤ w'.heap.size) (hk : ∀ b, b < w.heap.size → w'.heap[b]? = w.heap[b]?) (ht : w'.tape = w.tape) (ho : w'.os = w.os) (hu : w'.output = w.output) : Step φ h w φ h w' :=
  ⟨φ.le_refl, ⟨hs, fun b hb _ => hk b hb, ht, ho, hu⟩, fun _ _ a b => .inl ⟨a, b⟩⟩
structure NewS (φ : Phi) (r : A2) (op : AOp) (ob : Go.Obj) (room : Nat) (val : Nat → Value) : Prop where
  am : ∀ h v h', op.run r h = .ok v h' → ∃ obj, h' = .mk (hsetT h.next obj h.tree) h.next.succ ∧ hget h.next h = .none ∧ live obj ∧ (∀ ψ b, φ.le ψ → OR ψ obj ⟨b, 0, room⟩ (some ob)) ∧ ∀ ψ b, ψ h.next = some ⟨b, 0, room⟩ → VR ψ v (val b)
theorem NewS.mono {φ ψ : Phi} {r : A2} {op : AOp} {ob : Go.Obj} {room : Nat} {val : Nat → Value} (N : NewS φ r op ob room val) (g : φ.le ψ) : NewS ψ r op ob room val :=
  ⟨fun h v h' e => let ⟨obj, a, b, c, d, f⟩ := N.am h v h' e; ⟨obj, a, b, c, fun χ bb k => d χ bb (Phi.le_trans g k), f⟩⟩
def NewR (P : Program) (ρ : Operand → Value) (o : Oper) (ob : Go.Obj) (val : Nat → Value) : Prop := ∀ w : World, (execOp ρ o).run P w = .ok (.value (val w.heap.size)) { w with heap := w.heap.push ob }
variable {r : A2} {ρ : Operand → Value}
theorem new_alloc {o : Oper} {e m : Nat} {c : Cl} (hop : cOp P G names o = some (.op (.alloc e m c))) : ∃ ob room val, NewS φ r (.alloc e m c) ob room val ∧ NewR P ρ o ob val := by
  have hin : ∃ z, o.op = .alloc e ∧ zeros P e = some z ∧ m = z.length ∧ c = cof z := by
    obtain ⟨dst, y, type, pos, after, guard⟩ := o
    simp only [cOp] at hop
    split at hop
    case h_4 =>
      simp only [bind, Option.bind_eq_some_iff, Option.some.injEq, AI.op.injEq, AOp.alloc.injEq] at hop
      obtain ⟨z, hz, rfl, rfl, rfl⟩ := hop
      exact ⟨z, rfl, hz, rfl, rfl⟩
    case h_21 =>
      split at hop
      · simp only [bind, Option.bind_eq_some_iff] at hop
        obtain ⟨fd, _, hop⟩ := hop
        split at hop
        · simp at hop
        · split at hop <;> simp [Option.bind_eq_some_iff] at hop
      · cases hop
    case h_32 c' =>
      simp only [bind, Option.bind_eq_some_iff] at hop
      obtain ⟨ys, hys, hop⟩ := hop
      split at hop
      · simp only [Option.map_eq_some_iff, AI.op.injEq] at hop
        obtain ⟨op, ho, rfl⟩ := hop
        unfold cBuiltin at ho
        split at ho <;> (repeat' split at ho) <;> simp [Option.bind_eq_some_iff] at ho
      · cases hop
      · simp [Option.bind_eq_some_iff] at hop
      · simp [Option.bind_eq_some_iff] at hop
    all_goals (repeat' split at hop) <;> simp [Option.bind_eq_some_iff, Option.map_eq_some_iff] at hop
  obtain ⟨z, ho, hz, rfl, rfl⟩ := hin
  obtain ⟨inf, zv, h1, h2, _, _⟩ := zeros_ok hz (fun _ => none)
  refine ⟨.cells zv.cells e, z.length, fun b => .pointer (some ⟨b, 0, none⟩), ⟨fun h v h' he => ?_⟩, fun w => ?_⟩
  case refine_2 => simp [execOp, ho, Instr.alloc, newVar, run_newRow, zeroValue, run_info h1, h2]
  · obtain ⟨hr, hi, he⟩ := hnew_ok (show hnew e true .plain z.length (cof z) h kptr = .ok v h' from he)
    obtain ⟨rfl, rfl⟩ := kptr_ok he
    refine ⟨_, rfl, hi, live_cells, fun ψ b _ => ?_, fun ψ b hb => ?_⟩
    · obtain ⟨inf', zv', h1', h2', g1, g2⟩ := zeros_ok hz ψ
      rw [h1] at h1'; cases h1'
      rw [h2] at h2'; cases h2'
      have hl := g1.length
      simp only [Array.length_toList] at hl
      refine ⟨zv.cells, (0, 0), rfl, by simp [hl], Nat.le_refl _, fun _ => ⟨rfl, rfl⟩, hr, fun k hk => ?_, rfl⟩
      have hk' : k < zv.cells.size := by omega
      refine ⟨zv.cells[k], by simp [hk'], ?_, g2 _ (by simp)⟩
      rw [cget_cof z hr k hk]
      have := g1.get k hk (by simpa using hk')
      simpa using this
    · have := VR.ptr (φ := ψ) h.next 0 _ hb
      simpa [Place.addr] using this
theorem new_map {o : Oper} (hop : cOp P G names o = some (.op .mkmap)) (hc : ∀ c, ρ (.const c) = c) : ∃ ob room val, NewS φ r .mkmap ob room val ∧ NewR P ρ o ob val := by
  have hin : ∃ t re, o.op = .makeMap t re ∧ (re = none ∨ ∃ k m a b, re = some (.const (.int k m)) ∧ P.underlying t = some (.map a b)) := by
    obtain ⟨dst, y, type, pos, after, guard⟩ := o
    simp only [cOp] at hop
    split at hop
    case h_16 => exact ⟨_, _, rfl, .inl rfl⟩
    case h_17 =>
      split at hop
      · rename_i hu
        exact ⟨_, _, rfl, .inr ⟨_, _, _, _, rfl, und_inv hu (by simp)⟩⟩
      · cases hop
    case h_21 =>
      split at hop
      · simp only [bind, Option.bind_eq_some_iff] at hop
        obtain ⟨fd, _, hop⟩ := hop
        split at hop
        · simp at hop
        · split at hop <;> simp [Option.bind_eq_some_iff] at hop
      · cases hop
    case h_32 c' =>
      simp only [bind, Option.bind_eq_some_iff] at hop
      obtain ⟨ys, hys, hop⟩ := hop
      split at hop
      · simp only [Option.map_eq_some_iff, AI.op.injEq] at hop
        obtain ⟨op, ho, rfl⟩ := hop
        unfold cBuiltin at ho
        split at ho <;> (repeat' split at ho) <;> simp [Option.bind_eq_some_iff] at ho
      · cases hop
      · simp [Option.bind_eq_some_iff] at hop
      · simp [Option.bind_eq_some_iff] at hop
    all_goals (repeat' split at hop) <;> simp [Option.bind_eq_some_iff, Option.map_eq_some_iff] at hop
  obtain ⟨t, re, ho, hre⟩ := hin
  have hno : ∀ w : World, (newObj (.map #[] 0)).run P w = .ok w.heap.size { w with heap := w.heap.push (.map #[] 0) } := fun w => run_newObj _
  refine ⟨.map #[] 0, 0, fun b => .map (some b), ⟨fun h v h' he => ?_⟩, fun w => ?_⟩
  case refine_2 =>
    rcases hre with rfl | ⟨k, m, a, b, rfl, hu⟩
    · simp [execOp, ho, Instr.makeMap, hno]
    · have ha : (asInt (.int k m)).run P w = .ok m w := rfl
      simp [execOp, ho, Instr.makeMap, hno, hc, run_und hu, ha]
  · obtain ⟨hi, he⟩ := halloc_ok (show halloc (.map .nil 0) h (fun i h => .ok (.map i) h) = .ok v h' from he)
    obtain ⟨rfl, rfl⟩ := RV.ok_inj he
    exact ⟨_, rfl, hi, live_map, fun ψ b _ => ⟨#[], rfl, .nil⟩, fun ψ b hb => .map _ _ hb⟩
theorem bslice_inv {o : Oper} {e es m : Nat} {z : List AV} {ps : List Part} (hop : cOp P G names o = some (.op (.bslice e es m z ps))) : ∃ t k qs, o.op = .buildSlice t k qs := by
  obtain ⟨dst, y, type, pos, after, guard⟩ := o
  simp only [cOp] at hop
  split at hop
  case h_7 => exact ⟨_, _, _, rfl⟩
  case h_21 =>
    split at hop
    · simp only [bind, Option.bind_eq_some_iff] at hop
      obtain ⟨fd, _, hop⟩ := hop
      split at hop
      · simp at hop
      · split at hop <;> simp [Option.bind_eq_some_iff] at hop
    · cases hop
  case h_32 c' =>
    simp only [bind, Option.bind_eq_some_iff] at hop
    obtain ⟨ys, hys, hop⟩ := hop
    split at hop
    · simp only [Option.map_eq_some_iff, AI.op.injEq] at hop
      obtain ⟨op, ho, rfl⟩ := hop
      unfold cBuiltin at ho
      split at ho <;> (repeat' split at ho) <;> simp [Option.bind_eq_some_iff] at ho
    · cases hop
    · simp [Option.bind_eq_some_iff] at hop
    · simp [Option.bind_eq_some_iff] at hop
  all_goals (repeat' split at hop) <;> simp [Option.bind_eq_some_iff, Option.map_eq_some_iff] at hop
theorem bs_run {t e : TypeId} {zs : List AV} (ht : P.underlying t = some (.slice e)) (hz : zeros P e = some zs) (hzl : zs.length = szOf P e) (hes : szOf P e ≠ 0) {n : Nat} {ps : List Part} {qs : List (Nat × Value)} (hl : ps.length = qs.length)
    (hp : ∀ k (h1 : k < ps.length) (h2 : k < qs.length), PartOK φ r (fun i => some (i * szOf P e, szOf P e)) ps[k] qs[k])
    (hb : ∀ p, p ∈ ps → match p with | .mk off sz _ => off + sz ≤ n * szOf P e) (hf : fits ps r = true) (hr : (fill ps r (lrep n zs)).length ≤ croom (cof (fill ps r (lrep n zs)))) :
    ∃ es : List Value, VRL φ (fill ps r (lrep n zs)) es ∧ (∀ c, c ∈ es → c.oneCell' = true) ∧ ∀ w : World, (Instr.buildSlice t n qs.toArray).run P w = .ok (.slice (some ⟨w.heap.size, 0, none⟩) n n) { w with heap := w.heap.push (.cells es.toArray e) } := by
  obtain ⟨i, zv, hi, hzv, g1, g2⟩ := zeros_ok hz φ
  rw [szOf_eq hi] at hzl hes hp hb
  have hzs : zv.cells.size = i.size := by rw [← hzl, g1.length]; simp
  obtain ⟨k1, k2⟩ := VRL_zeroCells g1 g2 n (n * i.size) (by rw [hzs])
  have hlen : ((Array.range (n * i.size)).map (zv.cells[· % zv.cells.size]!)).toList.length = n * i.size := by simp
  obtain ⟨es, f1, f2, f3⟩ := run_fill ps qs (lrep n zs) ((Array.range (n * i.size)).map (zv.cells[· % zv.cells.size]!)).toList hl hp hf (fun p hp' => by have := hb p hp'; rw [hlen]; exact this) k1 k2
  rw [length_fill, length_lrep, hzl] at hr
  have hcr := croom_le (cof (fill ps r (lrep n zs)))
  refine ⟨es, f2, f3, fun w => ?_⟩
  have hbig : ¬ (16777216 < n * i.size) := by omega
  by_cases h0 : n * i.size = 0
  · have hn0 : n = 0 := by
      rcases Nat.mul_eq_zero.1 h0 with g | g
      · exact g
      · exact absurd g hes
    subst hn0
    have hh : ((Array.range (0 * i.size)).map (zv.cells[· % zv.cells.size]!)).toList.toArray = #[] := by simp
    rw [hh] at f1
    have hh2 : ∀ g : Nat → Value, (Array.range 0).map g = #[] := by intro g; simp
    simp only [Instr.buildSlice, Sem.run_bind, run_und ht, Result.andThen_ok, run_size hi]
    simp only [Nat.zero_mul, hh2, f1]
    simp [run_newRow]
  · have f1' : Instr.fill (fun i_1 => some (i_1 * i.size, i.size)) ((Array.range (n * i.size)).map (zv.cells[· % zv.cells.size]!)) qs = some es.toArray := f1
    simp only [Instr.buildSlice, Sem.run_bind, run_und ht, Result.andThen_ok, run_size hi]
    rw [if_neg hbig]
    simp only [h0, if_false, zeroValue, Sem.run_bind, run_info hi, hzv, Result.andThen_ok, Sem.run_pure, f1', run_newRow]
theorem new_bslice {o : Oper} {e es m : Nat} {z : List AV} {ps : List Part} (hop : cOp P G names o = some (.op (.bslice e es m z ps))) (hρ : ∀ q x, cO G q = some x → VR φ (ev x r) (ρ q)) {h1 h2 : Hp} {v1 : AV} (he : (AOp.bslice e es m z ps).run r h1 = .ok v1 h2) :
    ∃ ob room val, NewS φ r (.bslice e es m z ps) ob room val ∧ NewR P ρ o ob val := by
  obtain ⟨t, k, qs, ho⟩ := bslice_inv hop
  obtain ⟨dst, y, type, pos, after, guard⟩ := o
  have ho : y = .buildSlice t k qs := ho
  subst ho
  simp only [cOp] at hop
  split at hop
  · rename_i e' hu
    simp only [bind, Option.bind_eq_some_iff] at hop
    obtain ⟨zs, hz, hop⟩ := hop
    split at hop
    · simp at hop
    · rename_i hs
      simp only [not_or, Decidable.not_not] at hs
      simp only [bind, pure, Option.bind_some, Option.bind_eq_some_iff, Option.some.injEq, AI.op.injEq, AOp.bslice.injEq] at hop
      obtain ⟨l, hl, rfl, rfl, rfl, rfl, rfl⟩ := hop
      obtain ⟨g1, g2, g3⟩ := cParts_ok (φ := φ) (r := r) (ρ := ρ) hl (fun q _ a ha => hρ _ _ ha)
      have he : o_bslice e' (szOf P e') k (lrep k zs) l r h1 = .ok v1 h2 := he
      obtain ⟨hf, he1⟩ := if_ok he
      have hr := (hnew_ok (show hnew e' true .plain (fill l r (lrep k zs)).length (cof (fill l r (lrep k zs))) h1 (fun i h => .ok (.slice i 0 k k) h) = .ok v1 h2 from he1)).1
      obtain ⟨cs, f2, f3, f4⟩ := bs_run (und_inv hu (by simp)) hz hs.2 hs.1 (by simpa using g1) g2 g3 hf hr
      have hlen := f2.length
      refine ⟨.cells cs.toArray e', cs.length, fun b => .slice (some ⟨b, 0, none⟩) k k, ⟨fun h v h' hx => ?_⟩, fun w => ?_⟩
      · have hx : o_bslice e' (szOf P e') k (lrep k zs) l r h = .ok v h' := hx
        obtain ⟨_, hx1⟩ := if_ok hx
        obtain ⟨hr2, hi2, hx2⟩ := hnew_ok (show hnew e' true .plain (fill l r (lrep k zs)).length (cof (fill l r (lrep k zs))) h (fun i h => .ok (.slice i 0 k k) h) = .ok v h' from hx1)
        obtain ⟨rfl, rfl⟩ := RV.ok_inj hx2
        refine ⟨_, rfl, hi2, live_cells, fun ψ b hle => ?_, fun ψ b hb => ?_⟩
        · refine ⟨cs.toArray, (0, 0), rfl, by simp, Nat.le_of_eq hlen, fun _ => ⟨rfl, hlen⟩, hr2, fun j hj => ?_, rfl⟩
          have hj' : j < cs.length := by omega
          refine ⟨cs[j], by simp [hj'], ?_, f3 _ (List.getElem_mem _)⟩
          rw [cget_cof _ hr2 j hj]
          exact (f2.get j hj hj').mono hle
        · have := VR.slice (φ := ψ) h.next 0 k k _ hb
          simpa [Place.addr] using this
      · show ((do pure (.value (← Instr.buildSlice t k (qs.map fun (i, x) => (i, ρ x)))) : Sem Next).run P w) = _
        rw [map_pairs hρ qs]
        simp only [Sem.run_bind, f4 w, Result.andThen_ok, Sem.run_pure]
  · cases hop
theorem new_spec {o : Oper} {op : AOp} (hop : cOp P G names o = some (.op op)) (hx : isNew (.op op) = true) (hρ : ∀ q x, cO G q = some x → VR φ (ev x r) (ρ q)) (hc : ∀ c, ρ (.const c) = c) {h1 h2 : Hp} {v1 : AV} (he : op.run r h1 = .ok v1 h2) :
    ∃ ob room val, NewS φ r op ob room val ∧ NewR P ρ o ob val := by
  cases op <;> (try (cases hx; done))
  · exact new_alloc hop
  · exact new_bslice hop hρ he
  · exact new_map hop hc
end
end Go.Am
namespace Go.Am
section
variable {P : Program} {G : Gl} [NB G] {n : Nat} {names : List String} {ops : Array Oper} {p : Pg} {run : Run} {l : List (Nat × Bk)} {T : Nat → DS} {φ₀ : Phi} {w₀ : World}
theorem rget_dset {d : Dst} {v : AV} {r : A2} {o : Option Tmp} {t : Nat} (hd : cDst G n o = some d) (ho : o = some t) : rget (hi t) (lo t) (dset d v r) = v := by
  subst ho
  obtain ⟨_, _, rfl⟩ := cDst_inv hd
  show rget (hi t) (lo t) (rset (hi t) (lo t) v r) = v
  rw [rget_rset, if_pos ⟨rfl, rfl⟩]
theorem listed_set {L : Array Bool} {i j : Nat} (hi : i < L.size) : Listed (L.setIfInBounds i true) j ↔ Listed L j ∨ j = i := by
  unfold Listed
  by_cases e : j = i
  · subst e
    simp [hi]
  · rw [Array.getD_eq_getD_getElem?, Array.getElem?_setIfInBounds, if_neg (fun g => e g.symm), ← Array.getD_eq_getD_getElem?]
    simp [e]
def Pend (l : List (Nat × Bk)) (L : Array Bool) (k q : Nat) (hq : q < l.length) : Prop := l[q].2 = .new ∧ Listed L l[q].1 ∧ k ≤ ec l q
structure Inv (P : Program) (G : Gl) (n : Nat) (names : List String) (ops : Array Oper) (l : List (Nat × Bk)) (T : Nat → DS) (φ₀ : Phi) (w₀ : World) (L : Array Bool) (a : Act) (w : World) (φ : Phi) (k : Nat) (pb : Nat → Nat) : Prop where
  sz : L.size = ops.size
  cl : ClL ops L
  kle : k ≤ ec l l.length
  effs : ∀ q (hq : q < l.length), l[q].2 = .eff → (Listed L l[q].1 ↔ ec l q < k)
  hr : HR φ (bh l T k) w
  stp : Step φ₀ (bh l T 0) w₀ φ (bh l T k) w
  nodef : a.defers = []
  size : n ≤ a.tmps.size
  glob : Glob G φ
  pend : ∀ q (hq : q < l.length), Pend l L k q hq → ∃ op ob room val, cOp P G names (opAt ops l q hq) = some (.op op) ∧ NewS φ (T q).r op ob room val ∧ w₀.heap.size ≤ pb q ∧ pb q < w.heap.size ∧ w.heap[pb q]? = some ob ∧
    (∀ i pl, live (hget i (bh l T k)) → φ i = some pl → pl.blk ≠ pb q) ∧ ∀ t, (opAt ops l q hq).dst = some t → a.tmps.getD t undef = val (pb q)
  pinj : ∀ q q' (hq : q < l.length) (hq' : q' < l.length), Pend l L k q hq → Pend l L k q' hq' → q ≠ q' → pb q ≠ pb q'
  old : ∀ t, t < 256 → (∀ q (hq : q < l.length), (opAt ops l q hq).dst = some t → ¬ Listed L l[q].1) → VR φ (rget (hi t) (lo t) (T 0).r) (a.tmps.getD t undef)
  new : ∀ t, t < 256 → ∀ q (hq : q < l.length), (opAt ops l q hq).dst = some t → Listed L l[q].1 → ¬ Pend l L k q hq → VR φ (rget (hi t) (lo t) (T (q + 1)).r) (a.tmps.getD t undef)
variable {L : Array Bool} {a : Act} {w : World} {φ : Phi} {k : Nat} {pb : Nat → Nat}
theorem isNew_kind (K : DOK P G n names ops l) {q : Nat} (hq : q < l.length) (hb : l[q].2 = .new) : (opAt ops l q hq).guard = none ∧ (∃ x, cOp P G names (opAt ops l q hq) = some x ∧ isNew x = true) ∧
    ∀ t, (opAt ops l q hq).dst = some t → ∀ q2 (hq2 : q2 < l.length), l[q2].2 = .eff ∨ t ∉ looks P G n names ops (opAt ops l q2 hq2) := by
  have h := K.kind q hq
  rw [hb] at h
  simp only [okKind, Bool.and_eq_true] at h
  obtain ⟨⟨h1, h2⟩, h3⟩ := h
  refine ⟨Option.isNone_iff_eq_none.1 h1, ?_, fun t ht q2 hq2 => ?_⟩
  · split at h2
    · rename_i x hx; exact ⟨x, hx, h2⟩
    · cases h2
  · have ht' : (ops.getD l[q].1 default).dst = some t := ht
    rw [ht'] at h3
    simp only [Option.all_some, List.all_eq_true] at h3
    have := h3 _ (List.getElem_mem hq2)
    simp only [Bool.or_eq_true, Bool.not_eq_true'] at this
    rcases this with g | g
    · left; revert g; cases l[q2].2 <;> simp [isE]
    · right; intro hm
      have : (looks P G n names ops (ops.getD l[q2].1 default)).contains t = true := List.contains_iff_mem.2 hm
      rw [this] at g; cases g
theorem activate (K : DOK P G n names ops l) (hT : Trace P G n names ops p run l T) (h0 : (T 0).hs = []) (hg0 : (T 0).g = (T 0).h) (I : Inv P G n names ops l T φ₀ w₀ L a w φ k pb) {q₁ : Nat} (hq₁ : q₁ ≤ l.length) (hk : ec l q₁ = k)
    (hall : ∀ q (hq : q < l.length), q < q₁ → l[q].2 = .new → ec l q = k → Listed L l[q].1) :
    ∃ φ', φ.le φ' ∧ HR φ' (T q₁).h w ∧ Step φ₀ (bh l T 0) w₀ φ' (T q₁).h w ∧ (∀ q (hq : q < l.length), q < q₁ → l[q].2 = .new → ec l q = k → ∀ t, t < 256 → (opAt ops l q hq).dst = some t → VR φ' (rget (hi t) (lo t) (T (q + 1)).r) (a.tmps.getD t undef)) ∧
      ∀ q (hq : q < l.length), Pend l L k q hq → q₁ ≤ q → ∀ i pl, live (hget i (T q₁).h) → φ' i = some pl → pl.blk ≠ pb q := by
  obtain ⟨s, hs1, hs2, hs3, hs4, hs5⟩ := stage_start hT hg0 q₁ hq₁
  have hbase : (T s).h = bh l T k := by rw [hs3, ← bh_g hT h0 (by omega), hs2, hk]
  have hec : ∀ q, s ≤ q → q ≤ q₁ → ec l q = k := fun q h1 h2 => by
    have a1 := ec_mono (l := l) h1 (by omega)
    have a2 := ec_mono (l := l) h2 hq₁
    omega
  have key : ∀ q, s ≤ q → q ≤ q₁ → ∃ φ', φ.le φ' ∧ HR φ' (T q).h w ∧ Step φ₀ (bh l T 0) w₀ φ' (T q).h w ∧ (∀ q2 (hq2 : q2 < l.length), s ≤ q2 → q2 < q → l[q2].2 = .new → ∀ t, t < 256 → (opAt ops l q2 hq2).dst = some t → VR φ' (rget (hi t) (lo t) (T (q2 + 1)).r) (a.tmps.getD t undef)) ∧
      ∀ q2 (hq2 : q2 < l.length), Pend l L k q2 hq2 → q ≤ q2 → ∀ i pl, live (hget i (T q).h) → φ' i = some pl → pl.blk ≠ pb q2 := by
    intro q hsq
    induction hsq with
    | refl =>
      intro _
      refine ⟨φ, φ.le_refl, by rw [hbase]; exact I.hr, by rw [hbase]; exact I.stp, fun q2 _ h1 h2 => by omega, fun q2 hq2 hp _ i pl hl hpl => ?_⟩
      obtain ⟨_, _, _, _, _, _, _, _, _, g, _⟩ := I.pend q2 hq2 hp
      rw [hbase] at hl
      exact g i pl hl hpl
    | @step q hsq ih =>
      intro hle
      obtain ⟨φ', i1, i2, i3, i4, i5⟩ := ih (by omega)
      have hql : q < l.length := by omega
      obtain ⟨d, x, wnt, v, D⟩ := hT q hql
      have hstp := D.stp.2
      have hne := hs4 q hsq (by omega) hql
      cases hb : l[q].2 with
      | eff => exact absurd hb hne
      | rd m =>
        rw [hb] at hstp
        have hh : (T (q + 1)).h = (T q).h := by
          cases wnt with
          | true => obtain ⟨_, _, _, _, e, _⟩ := hstp; exact e
          | false => exact hstp.2.1
        refine ⟨φ', i1, by rw [hh]; exact i2, by rw [hh]; exact i3, fun q2 hq2 h1 h2 hn t ht hd => ?_, fun q2 hq2 hp h1 i pl hl hpl => ?_⟩
        · rcases Nat.lt_or_ge q2 q with g | g
          · exact i4 q2 hq2 h1 g hn t ht hd
          · obtain rfl : q2 = q := by omega
            rw [hb] at hn; cases hn
        · rw [hh] at hl; exact i5 q2 hq2 hp (by omega) i pl hl hpl
      | new =>
        rw [hb] at hstp
        obtain ⟨hgd, _, _⟩ := isNew_kind K hql hb
        have hw : wnt = true := by have := D.want; simpa [Wnt, hgd] using this
        subst hw
        obtain ⟨op, rfl, hrun, _, _⟩ := hstp
        have hp : Pend l L k q hql := ⟨hb, hall q hql (by omega) hb (hec q hsq (by omega)), Nat.le_of_eq (hec q hsq (by omega)).symm⟩
        obtain ⟨op', ob, room, val, e1, NS, b1, b2, b3, b4, b5⟩ := I.pend q hql hp
        rw [D.op] at e1
        cases e1
        obtain ⟨obj, f1, f2, f3, f4, f5⟩ := NS.am _ _ _ hrun
        have hle' := Phi.le_put (φ := φ') (i := (T q).h.next) ⟨pb q, 0, room⟩ (i2.fresh _ f2)
        have HA := i2.adopt (n' := (T q).h.next.succ) f2 f3.1 b2 (i5 q hql hp (Nat.le_refl _)) (o := obj) (room := room) (by rw [b3]; exact f4 _ _ (Phi.le_trans i1 hle'))
        refine ⟨φ'.put (T q).h.next ⟨pb q, 0, room⟩, Phi.le_trans i1 hle', by rw [f1]; exact HA, ?_, fun q2 hq2 h1 h2 hn t ht hd => ?_, fun q2 hq2 hp2 h1 i pl hl hpl => ?_⟩
        · refine ⟨Phi.le_trans i3.le hle', i3.keeps, fun i pl hl hpl => ?_⟩
          rw [f1, hget_new] at hl
          by_cases e : i = (T q).h.next
          · subst e
            rw [Phi.put_self] at hpl; cases hpl
            exact .inr (.inl b1)
          · rw [if_neg e] at hl
            exact i3.new i pl hl (by simpa [Phi.put, e] using hpl)
        · rcases Nat.lt_or_ge q2 q with g | g
          · exact (i4 q2 hq2 h1 g hn t ht hd).mono hle'
          · obtain rfl : q2 = q := by omega
            rw [b5 t hd, D.stp.1, rget_dset D.dst hd]
            exact f5 _ _ (Phi.put_self _ _ _)
        · rw [f1, hget_new] at hl
          by_cases e : i = (T q).h.next
          · subst e
            rw [Phi.put_self] at hpl; cases hpl
            exact I.pinj q q2 hql hq2 hp hp2 (by omega)
          · rw [if_neg e] at hl
            exact i5 q2 hq2 hp2 (by omega) i pl hl (by simpa [Phi.put, e] using hpl)
  obtain ⟨φ', i1, i2, i3, i4, i5⟩ := key q₁ hs1 (Nat.le_refl _)
  refine ⟨φ', i1, i2, i3, fun q hq h1 h2 h3 t ht hd => ?_, i5⟩
  rcases Nat.lt_or_ge q s with g | g
  · have := hs5 q g; omega
  · exact i4 q hq g h1 h2 t ht hd
end
end Go.Am
namespace Go.Am
section
variable {P : Program} {G : Gl} [NB G] {n : Nat} {names : List String} {ops : Array Oper} {p : Pg} {run : Run} {l : List (Nat × Bk)} {T : Nat → DS} {φ₀ φ φ' : Phi} {w₀ w : World} {L : Array Bool} {a : Act} {k : Nat} {pb : Nat → Nat} {r : A2}
theorem nat_dig (a : H) : dig a.nat = a := by cases a <;> rfl
theorem H.nat_lt (a : H) : a.nat < 16 := by cases a <;> decide
theorem hi_nat (a b : H) : hi (16 * a.nat + b.nat) = a := by
  have h1 := a.nat_lt; have h2 := b.nat_lt
  show dig ((16 * a.nat + b.nat) / 16) = a
  rw [show (16 * a.nat + b.nat) / 16 = a.nat by omega, nat_dig]
theorem lo_nat (a b : H) : lo (16 * a.nat + b.nat) = b := by
  have h1 := a.nat_lt; have h2 := b.nat_lt
  show dig ((16 * a.nat + b.nat) % 16) = b
  rw [show (16 * a.nat + b.nat) % 16 = b.nat by omega, nat_dig]
theorem nat_hilo {t : Nat} (ht : t < 256) : 16 * (hi t).nat + (lo t).nat = t := by
  show 16 * (dig (t / 16)).nat + (dig (t % 16)).nat = t
  rw [dig_nat (by omega), dig_nat (by omega)]; omega
theorem rget_restr {t : Nat} (ht : t < 256) : ∀ {L : List Nat}, rget (hi t) (lo t) (restr r L) = if t ∈ L then rget (hi t) (lo t) r else .undef
  | [] => by
    show rget (hi t) (lo t) .nil = _
    rw [if_neg (by simp)]
    show A1.get (lo t) (A2.get (hi t) .nil) = _
    rw [A2.get_nil, A1.get_nil]
  | s :: L => by
    have ih := rget_restr ht (L := L)
    show rget (hi t) (lo t) (if s < 256 then rset (hi s) (lo s) (rget (hi s) (lo s) r) (restr r L) else restr r L) = _
    split
    · rename_i hs
      rw [rget_rset]
      by_cases e : t = s
      · subst e; simp
      · rw [if_neg (fun g => e ((hilo ht hs).1 g)), ih]
        simp [e]
    · rename_i hs
      have e : t ≠ s := by omega
      rw [ih]; simp [e]
theorem agree_restr {L : List Nat} : Agree r (restr r L) L := fun a b m => by
  have h1 := a.nat_lt; have h2 := b.nat_lt
  have := rget_restr (r := r) (L := L) (t := 16 * a.nat + b.nat) (by omega)
  rw [if_pos m, hi_nat, lo_nat] at this
  exact this.symm
theorem listed_lt (hs : L.size = ops.size) {j : Nat} (h : Listed L j) : j < ops.size := by
  rcases Nat.lt_or_ge j L.size with g | g
  · omega
  · unfold Listed at h
    rw [Array.getD_eq_getD_getElem?, Array.getElem?_eq_none g] at h; cases h
structure Rdy (ops : Array Oper) (l : List (Nat × Bk)) (L : Array Bool) (q : Nat) (hq : q < l.length) : Prop where
  un : ¬ Listed L l[q].1
  pre : ∀ e, e ∈ (opAt ops l q hq).after → Region.binds .any e = true → Listed L e.on
section
variable (K : DOK P G n names ops l) (hT : Trace P G n names ops p run l T) (I : Inv P G n names ops l T φ₀ w₀ L a w φ k pb) {q : Nat} (hq : q < l.length) (R : Rdy ops l L q hq)
include K I R
theorem listed_next {j : Nat} : Listed (L.setIfInBounds l[q].1 true) j ↔ Listed L j ∨ j = l[q].1 := listed_set (by rw [I.sz]; exact K.bnd q hq)
theorem cl_next : ClL ops (L.setIfInBounds l[q].1 true) := by
  intro j o hj hl e he hb
  rw [listed_next K I hq R] at hl ⊢
  rcases hl with hl | rfl
  · exact .inl (I.cl j o hj hl e he hb)
  · have := opAt_get K hq
    rw [this] at hj
    cases hj
    exact .inl (R.pre e he hb)
theorem bf_listed {q1 : Nat} (h1 : q1 < l.length) (hb : Bf ops l[q1].1 l[q].1) (hne : q1 ≠ q) : Listed L l[q1].1 := by
  have := hb _ (cl_next K I hq R) ((listed_next K I hq R).2 (.inr rfl))
  rcases (listed_next K I hq R).1 this with g | g
  · exact g
  · exact absurd (K.inj q1 q h1 hq g) hne
theorem k_eff (he : l[q].2 = .eff) : k = ec l q := by
  have h1 : k ≤ ec l q := by
    rcases Nat.lt_or_ge (ec l q) k with g | g
    · exact absurd ((I.effs q hq he).2 g) R.un
    · exact g
  rcases Nat.lt_or_ge k (ec l q) with g | g
  · obtain ⟨q1, hq1, hlt, he1, e1⟩ := ec_place (by omega) g
    have := (I.effs q1 hq1 he1).1 (bf_listed K I hq R hq1 (bf_eff K hq1 hq hlt he1 he) (by omega))
    omega
  · omega
theorem k_le (he : l[q].2 ≠ .eff) : k ≤ ec l q := by
  rcases Nat.lt_or_ge (ec l q) k with g | g
  · obtain ⟨q2, hq2, _, he2, e2⟩ := ec_place (Nat.le_refl _) (Nat.lt_of_lt_of_le g I.kle)
    have hlt : q < q2 := by
      rcases Nat.lt_trichotomy q q2 with g | g | g
      · exact g
      · subst g; exact absurd he2 he
      · have := ec_lt g (by omega) he2; omega
    exact absurd (bf_next K hq hq2 hlt he he2 L I.cl ((I.effs q2 hq2 he2).2 (by omega))) R.un
  · exact g
theorem k_ge {m : Nat} (hb : l[q].2 = .rd m) : ec l q - m ≤ k := by
  obtain ⟨_, g2⟩ := bf_rd K hq hb
  rcases Nat.lt_or_ge k (ec l q - m) with g | g
  · obtain ⟨q1, hq1, hlt, he1, e1⟩ := ec_place (q' := q) (by omega) (show k < ec l q by omega)
    have := (I.effs q1 hq1 he1).1 (bf_listed K I hq R hq1 (g2 q1 hlt he1 (by omega)) (by omega))
    omega
  · exact g
include hT
theorem look_at {t : Nat} (ht : t < 256) (hl : t ∈ looks P G n names ops (opAt ops l q hq)) : VR φ (rget (hi t) (lo t) (T q).r) (a.tmps.getD t undef) ∨
    ∃ q2, ∃ hq2 : q2 < l.length, q2 < q ∧ Pend l L k q2 hq2 ∧ l[q].2 = .eff ∧ (opAt ops l q2 hq2).dst = some t ∧ rget (hi t) (lo t) (T q).r = rget (hi t) (lo t) (T (q2 + 1)).r := by
  obtain ⟨ra, rb⟩ := reg_at K hT (q := q) (by omega) ht
  by_cases hw : ∃ q2, ∃ hq2 : q2 < l.length, (opAt ops l q2 hq2).dst = some t
  · obtain ⟨q2, hq2, hd⟩ := hw
    have uniq : ∀ q1 (h1 : q1 < l.length), (opAt ops l q1 h1).dst = some t → q1 = q2 := fun q1 h1 e1 => K.inj q1 q2 h1 hq2 (K.dst _ _ _ _ t (opAt_get K h1) (opAt_get K hq2) e1 hd)
    have hunl : ¬ Listed L l[q2].1 → q2 ≥ q → VR φ (rget (hi t) (lo t) (T q).r) (a.tmps.getD t undef) := by
      intro h1 h2
      rw [rb fun q1 h1 e1 => by have := uniq q1 h1 e1; omega]
      exact I.old t ht fun q1 hq1 e1 => by
        obtain rfl := uniq q1 hq1 e1; exact h1
    rcases K.look _ _ _ _ t (opAt_get K hq) (opAt_get K hq2) hl hd with g | g | g
    · obtain rfl := K.inj q q2 hq hq2 g
      exact .inl (hunl R.un (Nat.le_refl _))
    · refine .inl (hunl (fun hl2 => R.un (leM_ok g L I.cl hl2)) ?_)
      rcases K.ord q q2 hq hq2 g with g1 | ⟨g1, g2⟩
      · omega
      · obtain ⟨m, g2⟩ := g2
        have hne : q2 ≠ q := by rintro rfl; rw [g1] at g2; cases g2
        exact absurd (leM_ok g L I.cl (bf_listed K I hq R hq2 (leM_ok (K.nlook q hq g1 t hl _ _ (opAt_get K hq2) hd)) hne)) R.un
    · by_cases hne : q2 = q
      · subst hne; exact .inl (hunl R.un (Nat.le_refl _))
      have hl2 := bf_listed K I hq R hq2 (leM_ok g) hne
      have hlt : q2 < q := by
        rcases K.ord q2 q hq2 hq g with g1 | ⟨g1, m, g2⟩
        · exact g1
        · rcases (isNew_kind K hq2 g1).2.2 t hd q hq with g3 | g3
          · rw [g2] at g3; cases g3
          · exact absurd hl g3
      have er := ra q2 hq2 hd hlt
      by_cases hp : Pend l L k q2 hq2
      · refine .inr ⟨q2, hq2, hlt, hp, ?_, hd, er⟩
        exact ((isNew_kind K hq2 hp.1).2.2 t hd q hq).resolve_right fun g => g hl
      · rw [er]
        exact .inl (I.new t ht q2 hq2 hd hl2 hp)
  · rw [rb fun q1 h1 e1 => absurd ⟨q1, h1, e1⟩ hw]
    exact .inl (I.old t ht fun q1 h1 e1 => absurd ⟨q1, h1, e1⟩ hw)
end
end
end Go.Am
