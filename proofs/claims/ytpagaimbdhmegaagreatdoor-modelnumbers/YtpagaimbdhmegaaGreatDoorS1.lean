/- The abstract machine is sound: what its run says holds of the Go program. Conditions: the table of functions is the program's (Env). -/
import Derived.Test.YtpagaimbdhmegaaGreatDoorS0
import Derived.Orders
import Derived.Scope
import Derived.Laws.Sem
set_option linter.all false
namespace Go.Am
variable {P:Program} {φ:aJ} {h h':Hp} {w:World} {v:AV} {r:A2} {cx cy:Value} {t:TypeId} {G:Gl} {ρ:Operand→Value}
theorem yk {e:TypeId} (hc:P.cellsOf e=1) (count off n:Nat) (hn:off+n≤count):liesAt P P.depth e count off e n=true:=by
 have hd:P.depth=(2 * (P.types.size+Made.depth)+1)+1:=rfl
 rw [hd]
 simp only [liesAt,Bool.or_eq_true]
 left
 rw [hd]
 simp [rowAt,hc,hn,sameLayout,Nat.mod_one]
theorem Cq {ts:Array TypeId} {pt e ty:TypeId} {k:IntKind} (h0:ts[0]?=some pt) (hp:P.underlying pt=some (.pointer e)) (hc:P.cellsOf e=1) (a:Addr) (cells:Nat) (hsh:w.shape? a.block=some (e,cells)) (l:List UInt8) (hl0:l≠[]) (hn:a.off+l.length≤cells) (h63:l.length≤9223372036854775807)
  (hcell:∀j x,l[j]?=some x→w.cell? (a.add j)=some (.int .u8 x.toNat)) :
  (Builtin.unsafeString_ ts ty #[.pointer (some a),.int k l.length]).run P w=.ok (.string ⟨l.toArray⟩) (w.freeze a l.length):=by
 have hl:l.length≠0:=by simpa using hl0
 have hlb:=Lib.run_loadBytes (P:=P) w l a .empty hcell
 have hlies:=yk (P:=P) hc (cells / P.cellsOf e) a.off l.length (by rw [hc];simpa using hn)
 have h63':¬ (9223372036854775807:Int) < (l.length:Int):=by omega
 have hdef:Builtin.unsafeString_ ts ty #[.pointer (some a),.int k l.length] =
   (do
    let n←asInt (.int k l.length)
    let some pt:=ts[0]?|stuck "unsafe.String: no argument types"
    if n < 0 then runtimePanic (.error "unsafe.String: len out of range")
    if n > IntKind.i64.max then unsupported (.unsafePointer "String: a length above the largest int")
    if n=0 then pure (.string .empty)
    else if←variablesAt a (←elemOf pt) n.toNat then do
     let s←loadBytes a .empty n.toNat
     freeze a n.toNat
     pure (.string s)
    else unsupported (.unsafePointer "String: not so many bytes at ptr")):=rfl
 rw [hdef]
 have hmax:IntKind.i64.max=9223372036854775807:=rfl
 have hneg:¬ (l.length:Int) < 0:=by omega
 simp [asInt,asIntOf,hmax,h63',hneg,hl,variablesAt,hsh,elemOf,run_underlying hp,hlies,hlb,h0]
theorem AG {ts:Array TypeId} {pt ty:TypeId} {k:IntKind} (h0:ts[0]?=some pt) (q:Option Addr):(Builtin.unsafeString_ ts ty #[.pointer q,.int k 0]).run P w=.ok (.string .empty) w:=by
 have hmax:IntKind.i64.max=9223372036854775807:=rfl
 cases q with
 | none=>
  have hdef:Builtin.unsafeString_ ts ty #[.pointer none,.int k 0] =
    (do
     let n←asInt (.int k 0)
     let some _:=ts[0]?|stuck "unsafe.String: no argument types"
     if n < 0 then runtimePanic (.error "unsafe.String: len out of range")
     if n > IntKind.i64.max then unsupported (.unsafePointer "String: a length above the largest int")
     if n=0 then pure (.string .empty)
     else runtimePanic (.error "unsafe.String: ptr is nil and len is not zero")):=rfl
  rw [hdef]
  simp [asInt,asIntOf,hmax,h0]
 | some a=>
  have hdef:Builtin.unsafeString_ ts ty #[.pointer (some a),.int k 0] =
    (do
     let n←asInt (.int k 0)
     let some pt:=ts[0]?|stuck "unsafe.String: no argument types"
     if n < 0 then runtimePanic (.error "unsafe.String: len out of range")
     if n > IntKind.i64.max then unsupported (.unsafePointer "String: a length above the largest int")
     if n=0 then pure (.string .empty)
     else if←variablesAt a (←elemOf pt) n.toNat then do
      let s←loadBytes a .empty n.toNat
      freeze a n.toNat
      pure (.string s)
     else unsupported (.unsafePointer "String: not so many bytes at ptr")):=rfl
  rw [hdef]
  simp [asInt,asIntOf,hmax,h0]
theorem AH {ts:Array TypeId} {ty:TypeId} {x:AO} (H:HR φ h w) (hx:VR φ (ev x r) cx) (e:jz x r h=.ok v h'):Good φ h w v h' ((Builtin.unsafeSliceData_ ts ty #[cx]).run P w):=by
 unfold jz at e
 cases ha:ev x r<;>rw [ha] at e hx<;>try (cases e;done)
 case slice i o n c=>
  cases c with
  | zero=>cases e
  | succ c=>
   obtain ⟨rfl,rfl⟩:=RV.au (show RV.ok (.ptr i o) h=.ok v h' from e)
   cases hx with
   | slice _ _ _ _ p hp=>exact .same H (.ptr _ _ _ hp) (Lib.run_unsafeSliceData_row w ts ty _ _ _ (Nat.succ_ne_zero c))
 case aH i o n es=>
  cases n with
  | zero=>cases e
  | succ n=>
   obtain ⟨rfl,rfl⟩:=RV.au (show RV.ok (.ptr i o) h=.ok v h' from e)
   cases hx with
   | aH _ _ _ _ c p a hp h1 h2 h3 h4 h5 h6=>
    have hc:c≠0:=by omega
    have ea:a=p.addr o:=by
     obtain ⟨b,off,sp⟩:=a
     simp only [Place.addr,Addr.mk.injEq]
     exact ⟨h3,h5 hc,h4⟩
    subst ea
    exact .same H (.ptr _ _ _ hp) (Lib.run_unsafeSliceData_row w ts ty _ _ _ hc)
 case ah=>
  obtain ⟨rfl,rfl⟩:=RV.au (show RV.ok .dS h=.ok v h' from e)
  cases hx
  exact .same H .dS (Lib.run_unsafeSliceData_nil w ts ty 0 0)
theorem Cr:VR φ (.str []) (.string .empty):=.str _ _ rfl
theorem AJ {ts:Array TypeId} {pt e ty:TypeId} {x y:AO} (h0:ts[0]?=some pt) (hp:P.underlying pt=some (.pointer e)) (hc:P.cellsOf e=1) (H:HR φ h w) (hx:VR φ (ev x r) cx) (hy:VR φ (ev y r) cy) (he:lJ e x y r h=.ok v h') :
  Good φ h w v h' ((Builtin.unsafeString_ ts ty #[cx,cy]).run P w):=by
 unfold lJ dM at he
 obtain ⟨k,n,ey,he⟩:=bn he
 rw [ey] at hy
 rw [hy.aR]
 cases n with
 | negSucc n=>cases he
 | ofNat n=>
  cases n with
  | zero=>
   have go:∀q,cx=.pointer q→RV.ok (.str []) h=.ok v h'→Good φ h w v h' ((Builtin.unsafeString_ ts ty #[cx,.int k (.ofNat 0)]).run P w):=by
    rintro q rfl e
    obtain ⟨rfl,rfl⟩:=RV.au e
    exact .same H Cr (AG h0 q)
   cases ha:ev x r<;>rw [ha] at he hx<;>try (cases he;done)
   case ptr i o=>cases hx with|ptr _ _ p hp=>exact go _ rfl he
   case dS=>cases hx;exact go _ rfl he
  | succ n=>
   obtain ⟨i,o,ex,he⟩:=cn (show AV.en (ev x r) _ (RV.err 117)=RV.ok v h' from he)
   rw [ex] at hx
   obtain ⟨el,m,xx,fl,c,hi,he⟩:=aQ he
   obtain ⟨hb,he⟩:=aB he
   obtain ⟨hb1,hb⟩:=jA hb
   obtain ⟨hb2,hb3⟩:=jA hb
   have hb1:n≤1048576:=Nat.le_of_ble_eq_true hb1
   have hb2:=Nat.eq_of_beq_eq_true hb2
   have hb3:o+(n+1)≤m:=Nat.le_of_ble_eq_true hb3
   subst hb2
   obtain ⟨bs,hbs,he⟩:=eP he
   obtain ⟨rfl,rfl⟩:=RV.au he
   cases hx with
   | ptr _ _ p hp'=>
    obtain ⟨l,l1,l2,l3,l4⟩:=H.values hi hp' (n+1) o hb3
    rw [hbs] at l2
    have hl:=kT l2
    subst hl
    have hlen:bs.length=n+1:=by simpa using l1
    have hl:live (av i h):=by rw [hi];exact aI
    obtain ⟨q,hq,hor⟩:=H.obj i hl
    rw [hp'] at hq;cases hq
    rw [hi] at hor
    obtain ⟨rc,fz,hrc,r1,r2,r3,r4,r5,r6⟩:=hor
    have hrun:=Cq (w:=w) (ty:=ty) (k:=k) h0 hp hc (p.addr o) rc.size (by show w.shape? p.bZ=_;simp [World.shape?,hrc]) bs (by intro g;rw [g] at hlen;cases hlen)
     (by show p.base+o+bs.length≤rc.size;omega) (by omega) (fun j x hj=>by
      have hj':j < bs.length:=(List.getElem?_eq_some_iff.1 hj).1
      have hx':=(List.getElem?_eq_some_iff.1 hj).2
      have:=l4 j (by simpa using hj')
      rw [this]
      simp [hx'])
    have hn':(Int.ofNat (n+1))=((bs.length:Nat):Int):=by rw [hlen];rfl
    have hne:bs.length≠0:=by omega
    have hheap:(w.freeze (p.addr o) bs.length).heap=w.heap.modify p.bZ fun
      | .cells c elem (lo,hi)=>.cells c elem (if lo == hi then (p.base+o,p.base+o+bs.length) else (min lo (p.base+o),max hi (p.base+o+bs.length)))
      | o=>o:=by
     unfold World.freeze
     rw [if_neg hne]
     rfl
    have hsz:(w.freeze (p.addr o) bs.length).heap.size=w.heap.size:=by rw [hheap];simp
    have hother:∀b,b≠p.bZ→(w.freeze (p.addr o) bs.length).heap[b]?=w.heap[b]?:=fun b hb=>by
     rw [hheap,Array.getElem?_modify,if_neg (Ne.symm hb)]
    have hO:OR φ (.cells e m xx .wV c) p ((w.freeze (p.addr o) bs.length).heap[p.bZ]?):=by
     rw [hheap,Array.getElem?_modify,if_pos rfl,hrc]
     obtain ⟨lo,hi2⟩:=fz
     exact ⟨rc,_,rfl,r1,r2,r3,r4,r5,trivial⟩
    have HH:=H.set hl hp' hsz hother hO (by simp)
    refine ⟨_,_,φ,by rw [hn'];exact hrun,.str _ _ (by simp),HH,φ.le_refl,?_,fun j q hj hq=>?_,.set _ _ _⟩
    ·refine fe.set hl hp' hsz hother ?_ ?_ ?_<;>(unfold World.freeze;rw [if_neg hne])
    ·rw [bj] at hj
     by_cases ej:j=i
     ·subst ej;exact .inl ⟨hl,hq⟩
     ·rw [if_neg ej] at hj;exact .inl ⟨hj,hq⟩
variable {P:Program} {φ:aJ} {h h':Hp} {w:World} {v:AV} {r:A2} {x y:AO} {cx cy:Value} {ty:TypeId}
theorem WS {e u:TypeId} {i:TypeInfo} {zv:Value} {z:List AV} {k kn:IntKind} (hu:P.underlying u=some (.int kn)) (hi:P.info? e=some i) (hz:i.zero=some zv) (hzs:zv.cells.size=i.size) (hby:i.bytes≤1048576) (hes:0 < i.size)
  (g1:bX φ z zv.cells.toList) (g2:∀c,c∈zv.cells.toList→c.oneCell'=true) (n:Nat) (hn:n≤1048576) :
  Src P φ w e u i.size n (dy n z) (.int k n) (Builtin.zeroCells zv.cells n).toList:=by
 obtain ⟨k1,k2⟩:=dU g1 g2 n (n * i.size) (by rw [hzs])
 have hzc:(Builtin.zeroCells zv.cells n).toList=((Array.range (n * i.size)).map (zv.cells[· % zv.cells.size]!)).toList:=by
  simp [Builtin.zeroCells,hzs]
 have hw:IntKind.i64.wrap (n:Int)=n:=by rw [IntKind.wrap_i64];omega
 have hneg:¬ ((n:Int) < 0):=by omega
 have hbig:n * i.bytes≤1048576 * 1048576:=Nat.mul_le_mul hn hby
 have h48i:¬ (281474976710656 < (n:Int) * (i.bytes:Int)):=by
  rw [←Int.natCast_mul]
  omega
 refine ⟨?_,?_,?_,?_,?_⟩
 ·intro t ty i' ht hi' hs base m c hc w' h1 h2
  rw [hi] at hi';cases hi'
  by_cases h0:n=0
  ·subst h0
   have hw0:IntKind.i64.wrap 0=0:=rfl
   have hc0:m≤c:=hc
   cases base with
   | none=>
    rw [h2 rfl]
    simp [Builtin.append_,ak ht,ak hu,aN hi,bz hi,asInt,asIntOf,hw0,hc0]
   | some a=>
    have h1:=h1 a rfl
    simp [Builtin.zeroCells] at h1
    simp [Builtin.append_,ak ht,ak hu,aN hi,bz hi,asInt,asIntOf,hw0,hc0,h1]
  ·have hns:¬ (n * i.size=0):=Nat.mul_ne_zero h0 (by omega)
   cases base with
   | none=>
    rw [h2 rfl]
    simp [Builtin.append_,ak ht,ak hu,aN hi,bz hi,zeroValue,hz,asInt,asIntOf,hw,hneg,h48i,hc,h0,hns,hes]
   | some a=>
    simp [Builtin.append_,ak ht,ak hu,aN hi,bz hi,zeroValue,hz,asInt,asIntOf,hw,hneg,h48i,hc,h0,hns,hes,h1 a rfl]
 ·intro t ty i' z' ht hi' hs hz' base m c hc os ho hb h63
  rw [hi] at hi';cases hi'
  rw [hz] at hz';cases hz'
  by_cases h0:n=0
  ·subst h0
   have hw0:IntKind.i64.wrap 0=0:=rfl
   have hc0:¬ m≤c:=hc
   have h63':¬ (9223372036854775807 < ((m:Int))):=by omega
   have h48:=growslice_fits (old:=c) (show c < m+0 by omega) hb
   have h48':¬ (281474976710656 < Builtin.nextslicecap m c * i.bytes):=by simpa using h48
   have hold:=ho w.drew rfl
   simp only [grown,Array.append_assoc]
   simp [Builtin.append_,ak ht,ak hu,aN hi,bz hi,zeroValue,hz,asInt,asIntOf,hw0,hc0,h63',h48',Question.forced,hold,newRow,dt,Builtin.zeroCells]
  ·have hns:¬ (n * i.size=0):=Nat.mul_ne_zero h0 (by omega)
   have h63':¬ (9223372036854775807 < ((m:Int)+(n:Int))):=by omega
   have h48:=growslice_fits (old:=c) (show c < m+n by omega) hb
   have h48':¬ (281474976710656 < Builtin.nextslicecap (m+n) c * i.bytes):=by omega
   have hold:=ho w.drew rfl
   simp only [grown,Array.append_assoc]
   simp [Builtin.append_,ak ht,ak hu,aN hi,bz hi,zeroValue,hz,asInt,asIntOf,hw,hneg,h48i,hc,h0,hns,hes,h63',h48',Question.forced,hold,newRow,dt]
 ·rw [hzc];simp
 ·rw [hzc];exact k1
 ·rw [hzc];exact k2
theorem AK {t u e:TypeId} {z:List AV} {kn:IntKind} (H:HR φ h w) (hx:VR φ (ev x r) cx) (hy:VR φ (ev y r) cy) (ht:P.underlying t=some (.slice e)) (hu:P.underlying u=some (.int kn)) (hg:gH P e=true) (hes:bk P e≠0) (hz:ff P e=some z)
  (he:oD e (bk P e) z x y r h=.ok v h'):Good φ h w v h' ((Builtin.append_ #[t,u] ty #[cx,cy]).run P w):=by
 obtain ⟨i,zv,hi,hzv,hzs,hby⟩:=kz hg
 rw [cu hi] at hes he
 unfold oD at he
 obtain ⟨k,n,e1,he⟩:=cL he
 obtain ⟨hn,he⟩:=aB he
 have hn:n * i.size≤1048576:=Nat.le_of_ble_eq_true hn
 have hn:n≤1048576:=Nat.le_trans (Nat.le_mul_of_pos_right n (by omega)) hn
 rw [e1] at hy
 rw [hy.aR]
 obtain ⟨i',zv',hi',hzv',g1,g2⟩:=fg hz φ
 rw [hi] at hi';cases hi'
 rw [hzv] at hzv';cases hzv'
 exact oE H ht hi hzv hzs hby (by omega) (WS hu hi hzv hzs hby (by omega) g1 g2 n hn) hx he
variable {P:Program} {φ:aJ} {h h':Hp} {w:World} {v:AV} {r:A2} {cx cy:Value} {t:TypeId} {G:Gl} {ρ:Operand→Value}
theorem bX.kC {x:AO} {vs:List Value} (hx:bX φ (fu [x] r) vs):∃c,vs=[c]∧VR φ (ev x r) c:=by
 cases hx with
 | cons a c as cs h1 h2=>cases h2;exact ⟨c,rfl,h1⟩
theorem bX.mC {x y:AO} {vs:List Value} (hx:bX φ (fu [x,y] r) vs):∃c d,vs=[c,d]∧VR φ (ev x r) c∧VR φ (ev y r) d:=by
 cases hx with
 | cons a c as cs h1 h2=>cases h2 with
  | cons b d bs ds h3 h4=>cases h4;exact ⟨c,d,rfl,h1,h3⟩
theorem ez {ts:Array TypeId} {t:TypeId} {l:List TypeId} (e:ts.toList=t::l):ts[0]?=some t:=by
 rw [←Array.getElem?_toList,e];rfl
theorem jB {t:TypeId} {kt:KT} (e:AL P t=some kt):∃k e,P.underlying t=some (.map k e)∧lK P k=some kt:=by
 unfold AL at e
 split at e
 ·exact ⟨_,_,by assumption,e⟩
 ·cases e
theorem vE {b:Builtin} {ts:Array TypeId} {ty:TypeId} {cs:Array Bool} {xs:List AO} {vs:List Value} {op:oB} (hop:gT P b ts.toList xs=some op) (H:HR φ h w) (hxs:bX φ (fu xs r) vs) (he:op.run r h=.ok v h') :
  ∃s:Sem Value,builtin b ts ty cs vs.toArray=(do pure (.value (←s)))∧Good φ h w v h' (s.run P w):=by
 unfold gT at hop
 split at hop
 case h_1 t l x ht=>
  obtain ⟨c,rfl,h1⟩:=hxs.kC
  refine ⟨_,rfl,?_⟩
  split at hop
  case h_1 hu=>cases hop;exact AM (ez ht) H h1 (aw hu (by simp)) he
  case h_2 hu=>cases hop;exact Cs (ez ht) H h1 ⟨_,aw hu (by simp)⟩ he
  case h_3 hu=>cases hop;exact AN (ez ht) H h1 (aw hu (by simp)) he
  case h_4 hu=>
   cases hop
   obtain ⟨rfl,rfl⟩:=RV.au he
   exact .same H (.int _ _) (by simp [Builtin.len_,ez ht,ak (aw hu (by simp)),goInt])
  case h_5 hu=>
   split at hop
   ·rename_i hu2
    cases hop
    obtain ⟨rfl,rfl⟩:=RV.au he
    exact .same H (.int _ _) (by simp [Builtin.len_,ez ht,ak (aw hu (by simp)),ak (aw hu2 (by simp)),goInt])
   ·cases hop
  case h_6=>cases hop
 case h_2 t l x ht=>
  obtain ⟨c,rfl,h1⟩:=hxs.kC
  refine ⟨_,rfl,?_⟩
  split at hop
  case h_1 hu=>cases hop;exact Ct (ez ht) H h1 (aw hu (by simp)) he
  case h_2 hu=>
   cases hop
   obtain ⟨rfl,rfl⟩:=RV.au he
   exact .same H (.int _ _) (by simp [Builtin.cap_,ez ht,ak (aw hu (by simp)),goInt])
  case h_3=>cases hop
 case h_3 t u x y ht=>
  obtain ⟨c,d,rfl,h1,h2⟩:=hxs.mC
  refine ⟨_,rfl,?_⟩
  have hts:ts=#[t,u]:=by apply Array.ext';rw [ht]
  subst hts
  split at hop
  case h_1 hu hv=>
   split at hop
   ·rename_i hg
    cases hop
    simp only [Bool.and_eq_true,decide_eq_true_eq] at hg
    exact AP H h1 h2 (aw hu (by simp)) (aw hv (by simp)) hg.2 hg.1 he
   ·cases hop
  case h_2 hu hv=>
   split at hop
   ·cases hop
   ·rename_i hg
    cases hop
    simp only [Bool.or_eq_true,decide_eq_true_eq,Bool.not_eq_true',not_or,Bool.not_eq_false] at hg
    exact Cu H h1 h2 (aw hu (by simp)) (aw hv (by simp)) hg.2 hg.1 he
  case h_3 hu hv=>
   split at hop
   ·cases hop
   ·rename_i hg
    simp only [Option.bind_eq_some_iff] at hop
    obtain ⟨z,hz,hop⟩:=hop
    split at hop
    ·cases hop
    ·cases hop
     simp only [Bool.or_eq_true,decide_eq_true_eq,Bool.not_eq_true',not_or,Bool.not_eq_false] at hg
     exact AK H h1 h2 (aw hu (by simp)) (aw hv (by simp)) hg.2 hg.1 hz he
  case h_4=>cases hop
 case h_4 t l x y ht=>
  obtain ⟨c,d,rfl,h1,h2⟩:=hxs.mC
  refine ⟨_,rfl,?_⟩
  split at hop
  case h_1 e hu=>
   split at hop
   ·cases hop
   ·rename_i hs
    cases hop
    obtain ⟨i,hi,hs'⟩:=kD hs
    rw [cu hi] at he
    exact Cv (ez ht) H h1 h2 (aw hu (by simp)) hi (by omega) he
  case h_2=>cases hop
 case h_5 t l x ht=>
  obtain ⟨c,rfl,h1⟩:=hxs.kC
  refine ⟨_,rfl,?_⟩
  split at hop
  case h_1 e hu=>
   split at hop
   ·cases hop
   ·simp only [Option.bind_eq_some_iff] at hop
    obtain ⟨z,hz,hop⟩:=hop
    split at hop
    ·cases hop
    ·cases hop
     exact Cw (ez ht) H h1 (aw hu (by simp)) hz he
  case h_2=>cases hop
 case h_6 t l x y ht=>
  obtain ⟨c,d,rfl,h1,h2⟩:=hxs.mC
  refine ⟨_,rfl,?_⟩
  simp only [bind,Option.bind_eq_some_iff,Option.some.injEq] at hop
  obtain ⟨kt,hk,rfl⟩:=hop
  obtain ⟨k,e,hu,hk⟩:=jB hk
  exact Cx (ez ht) H h1 h2 hu hk he
 case h_7=>cases hop;exact ⟨_,rfl,wW (ts:=ts) (ty:=ty) (mn:=false) H hxs he⟩
 case h_8=>cases hop;exact ⟨_,rfl,wW (ts:=ts) (ty:=ty) (mn:=true) H hxs he⟩
 case h_9 x=>
  obtain ⟨c,rfl,h1⟩:=hxs.kC
  cases hop
  exact ⟨_,rfl,AH H h1 he⟩
 case h_10 x=>
  obtain ⟨c,rfl,h1⟩:=hxs.kC
  cases hop
  exact ⟨_,rfl,AQ H h1 he⟩
 case h_11 x=>
  obtain ⟨c,rfl,h1⟩:=hxs.kC
  cases hop
  exact ⟨_,rfl,AR H h1 he⟩
 case h_12 t l x y ht=>
  obtain ⟨c,d,rfl,h1,h2⟩:=hxs.mC
  refine ⟨_,rfl,?_⟩
  split at hop
  case h_1 e hu=>
   split at hop
   ·rename_i hs
    cases hop
    exact AJ (ez ht) (aw hu (by simp)) hs H h1 h2 he
   ·cases hop
  case h_2=>cases hop
 case h_13 t l x y ht=>
  obtain ⟨c,d,rfl,h1,h2⟩:=hxs.mC
  refine ⟨_,rfl,?_⟩
  split at hop
  case h_1=>cases hop;exact AU H h1 h2 he
  case h_2=>cases hop
 case h_14=>cases hop
variable {P:Program} {φ:aJ} {h h':Hp} {w:World} {v:AV} {r:A2} {cx cy:Value} {t:TypeId} {G:Gl} {ρ:Operand→Value}
theorem fE {α:Type} {o:Option α} (h:¬ o.isNone=true):∃a,o=some a:=by cases o with
 | none=>exact absurd rfl h
 | some a=>exact ⟨a,rfl⟩
def bJ (φ:aJ) (h:Hp) (w:World) (v:AV) (h':Hp) (res:Result Next):Prop:=
 ∃nx w' φ',res=.ok nx w'∧((∃cv,nx=.value cv∧VR φ' v cv)∨(nx=.skip∧v=.undef))∧HR φ' h' w'∧Step φ h w φ' h' w'
theorem Good.gU {s:Sem Value} (g:Good φ h w v h' (s.run P w)):bJ φ h w v h' ((do pure (.value (←s)):Sem Next).run P w):=by
 obtain ⟨cv,w',φ',e,h1,h2,h3⟩:=g
 exact ⟨.value cv,w',φ',by simp only [Sem.run_bind,e,Result.andThen_ok,Sem.run_pure],.inl ⟨cv,rfl,h1⟩,h2,h3⟩
theorem uD.gU {s:Sem Unit} (hv:v=.undef) (g:uD φ h w h' (s.run P w)):bJ φ h w v h' ((do s;pure .skip:Sem Next).run P w):=by
 obtain ⟨w',φ',e,h2,h3⟩:=g
 exact ⟨.skip,w',φ',by simp only [Sem.run_bind,e,Result.andThen_ok,Sem.run_pure],.inr ⟨rfl,hv⟩,h2,h3⟩
theorem bJ.same {nx:Next} {res:Result Next} (H:HR φ h w) (hn:(∃cv,nx=.value cv∧VR φ v cv)) (e:res=.ok nx w):bJ φ h w v h res:=⟨nx,w,φ,e,.inl hn,H,.refl _ _ _⟩
section
variable {dst:Option Tmp} {type:TypeId} {pos:String} {after:Array Edge} {guard:Option (Nat×Bool)} {names:List String} {op:oB}
variable (hρ:∀q x,cO G q=some x→VR φ (ev x r) (ρ q))
include hρ
theorem jC {o:Option Operand} {x:OA} (e:FU G o=some x):Cy φ r x (o.map ρ):=by
 cases o with
 | none=>cases e;trivial
 | some q=>
  simp only [FU,Option.map_eq_some_iff] at e
  obtain ⟨y,hy,rfl⟩:=e
  exact hρ q y hy
theorem TP {x:Operand} (hop:cj P G names ⟨dst,.move x,type,pos,after,guard⟩=some (.op op)) (H:HR φ h w) (he:op.run r h=.ok v h'):bJ φ h w v h' ((execOp ρ ⟨dst,.move x,type,pos,after,guard⟩).run P w):=by
 simp only [cj,bind,Option.bind_eq_some_iff,Option.some.injEq,AI.op.injEq] at hop
 obtain ⟨a,ha,rfl⟩:=hop
 obtain ⟨rfl,rfl⟩:=RV.au he
 exact .same H ⟨_,rfl,hρ _ _ ha⟩ rfl
theorem TQ {x:Operand} (hop:cj P G names ⟨dst,.assign x,type,pos,after,guard⟩=some (.op op)) (H:HR φ h w) (he:op.run r h=.ok v h'):bJ φ h w v h' ((execOp ρ ⟨dst,.assign x,type,pos,after,guard⟩).run P w):=by
 simp only [cj,bind,Option.bind_eq_some_iff,Option.some.injEq,AI.op.injEq] at hop
 obtain ⟨a,ha,rfl⟩:=hop
 obtain ⟨rfl,rfl⟩:=RV.au he
 exact .same H ⟨_,rfl,hρ _ _ ha⟩ rfl
theorem HZ {a b c:Operand} (hop:cj P G names ⟨dst,.pick c a b,type,pos,after,guard⟩=some (.op op)) (H:HR φ h w) (he:op.run r h=.ok v h'):bJ φ h w v h' ((execOp ρ ⟨dst,.pick c a b,type,pos,after,guard⟩).run P w):=by
 simp only [cj,bind,Option.bind_eq_some_iff,Option.some.injEq,AI.op.injEq] at hop
 obtain ⟨x,hx,y,hy,z,hz,rfl⟩:=hop
 obtain ⟨cv,w',φ',e,h1,h2,h3⟩:=AW (P:=P) H (hρ _ _ hx) (hρ _ _ hy) (hρ _ _ hz) he
 refine ⟨.value cv,w',φ',?_,.inl ⟨cv,rfl,h1⟩,h2,h3⟩
 simp only [Sem.run_bind,Sem.run_pure] at e
 simp only [execOp,Sem.run_bind,Sem.run_pure]
 cases hb:(asBool (ρ c)).run P w with
 | ok t w1=>rw [hb] at e;simp only [Result.andThen_ok] at e ⊢;obtain ⟨rfl,rfl⟩:=Result.ok.inj e;rfl
 | halt x w1=>rw [hb] at e;cases e
theorem Cz {e:TypeId} (hop:cj P G names ⟨dst,.alloc e,type,pos,after,guard⟩=some (.op op)) (H:HR φ h w) (he:op.run r h=.ok v h'):bJ φ h w v h' ((execOp ρ ⟨dst,.alloc e,type,pos,after,guard⟩).run P w):=by
 simp only [cj,bind,Option.bind_eq_some_iff,Option.some.injEq,AI.op.injEq] at hop
 obtain ⟨z,hz,rfl⟩:=hop
 exact (yl (r:=r) H hz he).gU
theorem Nj {e:TypeId} {x:Operand} (hop:cj P G names ⟨dst,.box e x,type,pos,after,guard⟩=some (.op op)) (H:HR φ h w) (he:op.run r h=.ok v h'):bJ φ h w v h' ((execOp ρ ⟨dst,.box e x,type,pos,after,guard⟩).run P w):=by
 simp only [cj,bind,Option.bind_eq_some_iff,Option.some.injEq,AI.op.injEq] at hop
 obtain ⟨z,hz,rfl⟩:=hop
 exact (CB H (hρ _ _ hz) he).gU
theorem oG (ps:Array (Nat×Operand)):(ps.map fun (i,x)=>(i,ρ x))=(ps.toList.map fun q=>(q.1,ρ q.2)).toArray:=by
 apply Array.ext'
 simp
theorem CC {t:TypeId} {ps:Array (Nat×Operand)} (hop:cj P G names ⟨dst,.build t ps,type,pos,after,guard⟩=some (.op op)) (H:HR φ h w) (he:op.run r h=.ok v h'):bJ φ h w v h' ((execOp ρ ⟨dst,.build t ps,type,pos,after,guard⟩).run P w):=by
 simp only [cj,bind,Option.bind_eq_some_iff] at hop
 obtain ⟨z,hz,hop⟩:=hop
 refine Good.gU ?_
 rw [oG hρ ps]
 split at hop
 ·rename_i fs hu
  split at hop
  ·rename_i hall
   simp only [Option.bind_eq_some_iff,Option.some.injEq,AI.op.injEq] at hop
   obtain ⟨l,hl,rfl⟩:=hop
   obtain ⟨g1,g2,g3⟩:=gV (φ:=φ) (r:=r) (ρ:=ρ) hl (fun q _ a ha=>hρ _ _ ha)
   exact sv H hz (by simpa using g1) g2 g3 (.inl ⟨fs,aw hu (by simp),fun f hf=>Array.all_eq_true_iff_forall_mem.1 hall f hf,rfl⟩) he
  ·cases hop
 ·rename_i n e hu
  split at hop
  ·rename_i hall
   simp only [Option.bind_eq_some_iff,Option.some.injEq,AI.op.injEq] at hop
   obtain ⟨l,hl,rfl⟩:=hop
   obtain ⟨g1,g2,g3⟩:=gV (φ:=φ) (r:=r) (ρ:=ρ) hl (fun q _ a ha=>hρ _ _ ha)
   exact sv H hz (by simpa using g1) g2 g3 (.inr ⟨n,e,aw hu (by simp),hall,rfl⟩) he
  ·cases hop
 ·cases hop
theorem AX {t:TypeId} {n:Nat} {ps:Array (Nat×Operand)} (hop:cj P G names ⟨dst,.buildSlice t n ps,type,pos,after,guard⟩=some (.op op)) (H:HR φ h w) (he:op.run r h=.ok v h'):bJ φ h w v h' ((execOp ρ ⟨dst,.buildSlice t n ps,type,pos,after,guard⟩).run P w):=by
 simp only [cj] at hop
 split at hop
 ·rename_i e hu
  simp only [bind,Option.bind_eq_some_iff] at hop
  obtain ⟨z,hz,hop⟩:=hop
  split at hop
  ·simp at hop
  ·rename_i hs
   simp only [not_or,Decidable.not_not] at hs
   simp only [bind,pure,Option.bind_some,Option.bind_eq_some_iff,Option.some.injEq,AI.op.injEq] at hop
   obtain ⟨l,hl,rfl⟩:=hop
   refine Good.gU ?_
   rw [oG hρ ps]
   obtain ⟨g1,g2,g3⟩:=gV (φ:=φ) (r:=r) (ρ:=ρ) hl (fun q _ a ha=>hρ _ _ ha)
   exact wX H (aw hu (by simp)) hz hs.2 hs.1 (by simpa using g1) g2 g3 he
 ·cases hop
theorem Ia {t:TypeId} {x:Operand} (hop:cj P G names ⟨dst,.load t x,type,pos,after,guard⟩=some (.op op)) (H:HR φ h w) (he:op.run r h=.ok v h'):bJ φ h w v h' ((execOp ρ ⟨dst,.load t x,type,pos,after,guard⟩).run P w):=by
 simp only [cj] at hop
 split at hop
 ·simp at hop
 ·rename_i hu
  obtain ⟨d,hd⟩:=fE hu
  split at hop
  ·rename_i ha
   simp only [bind,pure,Option.bind_some,Option.bind_eq_some_iff,Option.some.injEq,AI.op.injEq] at hop
   obtain ⟨a,hx,rfl⟩:=hop
   exact (CD H (hρ _ _ hx) hd ha rfl he).gU
  ·rename_i ha
   simp only [bind,pure,Option.bind_some,Option.bind_eq_some_iff,Option.some.injEq,AI.op.injEq] at hop
   obtain ⟨a,hx,rfl⟩:=hop
   exact (CE H (hρ _ _ hx) hd (by simpa using ha) he).gU
theorem CF {t:TypeId} {x y:Operand} (hop:cj P G names ⟨dst,.store t x y,type,pos,after,guard⟩=some (.op op)) (H:HR φ h w) (he:op.run r h=.ok v h'):bJ φ h w v h' ((execOp ρ ⟨dst,.store t x y,type,pos,after,guard⟩).run P w):=by
 simp only [cj] at hop
 split at hop
 ·simp at hop
 ·rename_i hu
  obtain ⟨i,hi⟩:=fE hu
  split at hop
  ·simp only [bind,pure,Option.bind_some,Option.bind_eq_some_iff,Option.some.injEq,AI.op.injEq] at hop
   obtain ⟨a,hx,b,hy,rfl⟩:=hop
   obtain ⟨g1,g2⟩:=CG H (hρ _ _ hx) (hρ _ _ hy) hi rfl he
   exact g2.gU g1
  ·split at hop
   ·rename_i hs
    simp only [bind,pure,Option.bind_some,Option.bind_eq_some_iff,Option.some.injEq,AI.op.injEq] at hop
    obtain ⟨a,hx,b,hy,rfl⟩:=hop
    obtain ⟨g1,g2⟩:=CH H (hρ _ _ hx) (hρ _ _ hy) hi (by rw [←cu hi];exact hs) he
    exact g2.gU g1
   ·simp at hop
theorem Ib {x:Operand} (hop:cj P G names ⟨dst,.nilCheck x,type,pos,after,guard⟩=some (.op op)) (H:HR φ h w) (he:op.run r h=.ok v h'):bJ φ h w v h' ((execOp ρ ⟨dst,.nilCheck x,type,pos,after,guard⟩).run P w):=by
 simp only [cj,bind,Option.bind_eq_some_iff,Option.some.injEq,AI.op.injEq] at hop
 obtain ⟨a,ha,rfl⟩:=hop
 have hv:=hρ _ _ ha
 obtain ⟨g1,g2,g3,g4,g5⟩:=AY H hv he
 subst g2
 rw [g1]
 refine .same H ⟨_,rfl,hv⟩ ?_
 have hm:∀n f c,ρ x≠.func (.method n) f c:=by
  intro n f c e
  rw [e] at hv
  change (OP.rec (pR (ev a r) h') (fun i o=>.ok (.ptr i o) h') (ev a r).eN:RV)=_ at he
  generalize ev a r=z at hv he
  cases hv
  cases he
 simp only [execOp]
 cases hr:ρ x with
 | pointer p=>cases p with
  | none=>exact absurd hr g3
  | some p=>rfl
 | nilIface=>exact absurd hr g4
 | nilFunc=>exact absurd hr g5
 | func fn f c=>cases fn<;>first|exact absurd hr (hm _ _ _)|rfl
 | _=>rfl
theorem Nk {o:BinOp} {t u:TypeId} {x y:Operand} (hc:∀c,ρ (.const c)=c) (hop:cj P G names ⟨dst,.binOp o t x y u,type,pos,after,guard⟩=some (.op op)) (H:HR φ h w) (he:op.run r h=.ok v h'):bJ φ h w v h' ((execOp ρ ⟨dst,.binOp o t x y u,type,pos,after,guard⟩).run P w):=by
 simp only [cj] at hop
 split at hop
 ·rename_i k hk
  simp only [bind,Option.bind_eq_some_iff,Option.some.injEq,AI.op.injEq] at hop
  obtain ⟨a,hx,b,hy,rfl⟩:=hop
  exact (CI hc hk H (hρ _ _ hx) (hρ _ _ hy) he).gU
 ·split at hop
  ·rename_i k hk
   simp only [bind,Option.bind_eq_some_iff,Option.some.injEq,AI.op.injEq] at hop
   obtain ⟨a,hx,b,hy,rfl⟩:=hop
   exact (mD (k:=k) false hc hk H (hρ _ _ hx) he).gU
  ·rename_i k hk
   simp only [bind,Option.bind_eq_some_iff,Option.some.injEq,AI.op.injEq] at hop
   obtain ⟨a,hx,b,hy,rfl⟩:=hop
   exact (mD (k:=k) true hc hk H (hρ _ _ hx) he).gU
  ·cases hop
theorem TR {o:UnOp} {t:TypeId} {x:Operand} (hop:cj P G names ⟨dst,.unOp o t x,type,pos,after,guard⟩=some (.op op)) (H:HR φ h w) (he:op.run r h=.ok v h'):bJ φ h w v h' ((execOp ρ ⟨dst,.unOp o t x,type,pos,after,guard⟩).run P w):=by
 cases o<;>simp only [cj,bind,Option.bind_eq_some_iff,Option.some.injEq,AI.op.injEq] at hop
 case plus=>cases hop
 all_goals obtain ⟨a,hx,rfl⟩:=hop
 all_goals first|exact (CJ H (hρ _ _ hx) he).gU|exact (CM H (hρ _ _ hx) he).gU|exact (CN H (hρ _ _ hx) he).gU
theorem Ic {s d:TypeId} {x:Operand} (hop:cj P G names ⟨dst,.convert s d x,type,pos,after,guard⟩=some (.op op)) (H:HR φ h w) (he:op.run r h=.ok v h'):bJ φ h w v h' ((execOp ρ ⟨dst,.convert s d x,type,pos,after,guard⟩).run P w):=by
 simp only [cj,bind,Option.bind_eq_some_iff,Option.some.injEq,AI.op.injEq] at hop
 obtain ⟨k,hk,a,ha,rfl⟩:=hop
 exact (AZ hk H (hρ _ _ ha) he).gU
end
variable {P:Program} {φ:aJ} {h h':Hp} {w:World} {v:AV} {r:A2} {cx cy:Value} {t:TypeId} {G:Gl} {ρ:Operand→Value}
theorem vF {t:TypeId} {k:IntKind} {n:Int} {a b:TypeId} (ht:P.underlying t=some (.map a b)) (H:HR φ h w) (he:vG r h=.ok v h'):Good φ h w v h' ((Instr.makeMap t (some (.int k n))).run P w):=by
 have hrun:(Instr.makeMap t (some (.int k n))).run P w=(Instr.makeMap t none).run P w:=by
  have ha:(asInt (.int k n)).run P w=.ok n w:=rfl
  simp [Instr.makeMap,ak ht,ha]
 rw [hrun]
 exact sw H he
section
variable {dst:Option Tmp} {type:TypeId} {pos:String} {after:Array Edge} {guard:Option (Nat×Bool)} {names:List String} {op:oB}
variable (hρ:∀q x,cO G q=some x→VR φ (ev x r) (ρ q))
include hρ
theorem Nl {t:TypeId} {x:Operand} (hop:cj P G names ⟨dst,.makeInterface t x,type,pos,after,guard⟩=some (.op op)) (H:HR φ h w) (he:op.run r h=.ok v h'):bJ φ h w v h' ((execOp ρ ⟨dst,.makeInterface t x,type,pos,after,guard⟩).run P w):=by
 cases hu:P.underlying t with
 | none=>simp [cj,hu] at hop
 | some d=>
  have hn:∀m,d≠.interface m:=by
   intro m e
   subst e
   simp [cj,hu] at hop
  have hop:∃a,cO G x=some a∧oB.Ie t a=op:=by
   cases d<;>simp only [cj,hu,bind,Option.bind_eq_some_iff,Option.some.injEq,AI.op.injEq] at hop<;>first|exact hop|exact absurd rfl (hn _)
  obtain ⟨a,hx,rfl⟩:=hop
  exact (CP H (hρ _ _ hx) hu hn he).gU
theorem Nm {fn:Fn} {first cap:Array Operand} (hop:cj P G names ⟨dst,.makeFunc fn first cap,type,pos,after,guard⟩=some (.op op)) (H:HR φ h w) (he:op.run r h=.ok v h'):bJ φ h w v h' ((execOp ρ ⟨dst,.makeFunc fn first cap,type,pos,after,guard⟩).run P w):=by
  cases fn<;>simp only [cj] at hop
  case func f=>
    split at hop
    · rename_i hf
      simp only [bind,Option.bind_eq_some_iff,Option.some.injEq,AI.op.injEq] at hop
      obtain ⟨l,hl,rfl⟩:=hop
      have g1:=kE (φ:=φ) (r:=r) (ρ:=ρ) hl (fun o _ a ha=>hρ _ _ ha)
      have e1 : first.map ρ = #[] := by have : first = #[] := by simpa using hf
                                        subst this;simp
      have e2:cap.map ρ=(cap.toList.map ρ).toArray:=by apply Array.ext';simp
      show bJ φ h w v h' ((do pure (.value (←Instr.makeFunc (.func f) (first.map ρ) (cap.map ρ))):Sem Next).run P w)
      rw [e1,e2]
      exact (CQ H g1 he).gU
    · cases hop
  all_goals cases hop
theorem CS {t:TypeId} {re:Option Operand} (hc:∀c,ρ (.const c)=c) (hop:cj P G names ⟨dst,.makeMap t re,type,pos,after,guard⟩=some (.op op)) (H:HR φ h w) (he:op.run r h=.ok v h'):bJ φ h w v h' ((execOp ρ ⟨dst,.makeMap t re,type,pos,after,guard⟩).run P w):=by
 cases re with
 | none=>
  simp only [cj,Option.some.injEq,AI.op.injEq] at hop
  subst hop
  exact (sw (r:=r) H he).gU
 | some q=>
  cases q<;>(try (simp [cj] at hop;done))
  rename_i cv
  cases cv<;>(try (simp [cj] at hop;done))
  simp only [cj] at hop
  split at hop
  ·rename_i hu
   cases hop
   refine Good.gU ?_
   show Good φ h w v h' ((Instr.makeMap t (some (ρ (.const (.int _ _))))).run P w)
   rw [hc]
   exact vF (r:=r) (aw hu (by simp)) H he
  ·cases hop
theorem ym {t:TypeId} {x y:Operand} (hop:cj P G names ⟨dst,.makeSlice t x y,type,pos,after,guard⟩=some (.op op)) (H:HR φ h w) (he:op.run r h=.ok v h'):bJ φ h w v h' ((execOp ρ ⟨dst,.makeSlice t x y,type,pos,after,guard⟩).run P w):=by
 simp only [cj] at hop
 split at hop
 ·rename_i e hu
  simp only [bind,Option.bind_eq_some_iff] at hop
  obtain ⟨z,hz,hop⟩:=hop
  split at hop
  ·simp at hop
  ·rename_i hs
   simp only [not_or,Decidable.not_not] at hs
   simp only [bind,pure,Option.bind_some,Option.bind_eq_some_iff,Option.some.injEq,AI.op.injEq] at hop
   obtain ⟨a,hx,b,hy,rfl⟩:=hop
   exact (vH H (hρ _ _ hx) (hρ _ _ hy) (aw hu (by simp)) hz hs.2.1 hs.1 (by simpa using hs.2.2) he).gU
 ·cases hop
theorem CT {t:TypeId} {x:Operand} {l u m:Option Operand} (hop:cj P G names ⟨dst,.slice t x l u m,type,pos,after,guard⟩=some (.op op)) (H:HR φ h w) (he:op.run r h=.ok v h'):bJ φ h w v h' ((execOp ρ ⟨dst,.slice t x l u m,type,pos,after,guard⟩).run P w):=by
 simp only [cj] at hop
 split at hop
 ·rename_i hu
  split at hop
  ·simp at hop
  ·rename_i hm
   have hm:m=none:=by simpa using hm
   subst hm
   simp only [bind,pure,Option.bind_some,Option.bind_eq_some_iff,Option.some.injEq,AI.op.injEq] at hop
   obtain ⟨a,hx,b,hb,c,hc,rfl⟩:=hop
   exact (Ba H (hρ _ _ hx) (jC hρ hb) (jC hρ hc) (aw hu (by simp)) he).gU
 ·rename_i e hu
  split at hop
  ·simp at hop
  ·rename_i hs
   simp only [not_or,not_and] at hs
   obtain ⟨i,hi,hs'⟩:=kD hs.1
   simp only [bind,pure,Option.bind_some,Option.bind_eq_some_iff,Option.some.injEq,AI.op.injEq] at hop
   obtain ⟨a,hx,b,hb,c,hc,d,hd,rfl⟩:=hop
   rw [cu hi] at he
   exact (CU H (hρ _ _ hx) (jC hρ hb) (jC hρ hc) (jC hρ hd) (aw hu (by simp)) hi (by omega) (fun g=>by cases u<;>simp_all) he).gU
 ·rename_i n e hu
  split at hop
  ·simp at hop
  ·rename_i hs
   simp only [not_or,not_and] at hs
   obtain ⟨i,hi⟩:=fE hs.2
   simp only [bind,pure,Option.bind_some,Option.bind_eq_some_iff,Option.some.injEq,AI.op.injEq] at hop
   obtain ⟨a,hx,b,hb,c,hc,d,hd,rfl⟩:=hop
   rw [cu hi] at he
   exact (Bb H (hρ _ _ hx) (jC hρ hb) (jC hρ hc) (jC hρ hd) (aw hu (by simp)) hi (fun g=>by cases u<;>simp_all) he).gU
 ·cases hop
theorem Nn {t:TypeId} {x:Operand} {f:Nat} (hop:cj P G names ⟨dst,.fieldAddr t x f,type,pos,after,guard⟩=some (.op op)) (H:HR φ h w) (he:op.run r h=.ok v h'):bJ φ h w v h' ((execOp ρ ⟨dst,.fieldAddr t x f,type,pos,after,guard⟩).run P w):=by
 simp only [cj] at hop
 split at hop
 ·rename_i fs hu
  simp only [bind,Option.bind_eq_some_iff] at hop
  obtain ⟨fd,hf,hop⟩:=hop
  split at hop
  ·simp at hop
  ·rename_i hs
   obtain ⟨i,hi,hs'⟩:=kD hs
   simp only [bind,pure,Option.bind_some,Option.bind_eq_some_iff,Option.some.injEq,AI.op.injEq] at hop
   obtain ⟨a,hx,rfl⟩:=hop
   exact (CV H (hρ _ _ hx) (aw hu (by simp)) hf hi hs' he).gU
 ·cases hop
theorem CW {t:TypeId} {x:Operand} {f:Nat} (hop:cj P G names ⟨dst,.field t x f,type,pos,after,guard⟩=some (.op op)) (H:HR φ h w) (he:op.run r h=.ok v h'):bJ φ h w v h' ((execOp ρ ⟨dst,.field t x f,type,pos,after,guard⟩).run P w):=by
 simp only [cj] at hop
 split at hop
 ·rename_i fs hu
  simp only [bind,Option.bind_eq_some_iff] at hop
  obtain ⟨fd,hf,hop⟩:=hop
  split at hop
  ·simp at hop
  ·rename_i hs
   obtain ⟨d,hd⟩:=fE hs
   obtain ⟨i,hi⟩:=gm hd
   split at hop
   ·rename_i ha
    simp only [bind,pure,Option.bind_some,Option.bind_eq_some_iff,Option.some.injEq,AI.op.injEq] at hop
    obtain ⟨a,hx,rfl⟩:=hop
    rw [cu hi] at he
    exact (Bc H (hρ _ _ hx) (aw hu (by simp)) hf hd ha hi he).gU
   ·rename_i ha
    simp only [bind,pure,Option.bind_some,Option.bind_eq_some_iff,Option.some.injEq,AI.op.injEq] at hop
    obtain ⟨a,hx,rfl⟩:=hop
    exact (Bd H (hρ _ _ hx) (aw hu (by simp)) hf hd (by simpa using ha) he).gU
 ·cases hop
theorem Ig {t:TypeId} {x y:Operand} (hop:cj P G names ⟨dst,.indexAddr t x y,type,pos,after,guard⟩=some (.op op)) (H:HR φ h w) (he:op.run r h=.ok v h'):bJ φ h w v h' ((execOp ρ ⟨dst,.indexAddr t x y,type,pos,after,guard⟩).run P w):=by
 simp only [cj] at hop
 split at hop
 ·rename_i n e hu
  split at hop
  ·simp at hop
  ·rename_i hs
   obtain ⟨i,hi⟩:=fE hs
   simp only [bind,pure,Option.bind_some,Option.bind_eq_some_iff,Option.some.injEq,AI.op.injEq] at hop
   obtain ⟨a,hx,b,hb,rfl⟩:=hop
   rw [cu hi] at he
   exact (CX H (hρ _ _ hx) (hρ _ _ hb) (aw hu (by simp)) hi he).gU
 ·rename_i e hu
  split at hop
  ·simp at hop
  ·rename_i hs
   obtain ⟨i,hi⟩:=fE hs
   simp only [bind,pure,Option.bind_some,Option.bind_eq_some_iff,Option.some.injEq,AI.op.injEq] at hop
   obtain ⟨a,hx,b,hb,rfl⟩:=hop
   rw [cu hi] at he
   exact (CY H (hρ _ _ hx) (hρ _ _ hb) (aw hu (by simp)) hi he).gU
 ·cases hop
theorem CZ {t:TypeId} {x y:Operand} (hop:cj P G names ⟨dst,.index t x y,type,pos,after,guard⟩=some (.op op)) (H:HR φ h w) (he:op.run r h=.ok v h'):bJ φ h w v h' ((execOp ρ ⟨dst,.index t x y,type,pos,after,guard⟩).run P w):=by
 simp only [cj] at hop
 split at hop
 ·rename_i hu
  simp only [bind,pure,Option.bind_some,Option.bind_eq_some_iff,Option.some.injEq,AI.op.injEq] at hop
  obtain ⟨a,hx,b,hb,rfl⟩:=hop
  exact (Be H (hρ _ _ hx) (hρ _ _ hb) (aw hu (by simp)) he).gU
 ·rename_i n e hu
  split at hop
  ·simp at hop
  ·rename_i hs
   obtain ⟨d,hd⟩:=fE hs
   obtain ⟨i,hi⟩:=gm hd
   simp only [bind,pure,Option.bind_some,Option.bind_eq_some_iff,Option.some.injEq,AI.op.injEq] at hop
   obtain ⟨a,hx,b,hb,rfl⟩:=hop
   rw [cu hi] at he
   exact (Bg H (hρ _ _ hx) (hρ _ _ hb) (aw hu (by simp)) hd hi he).gU
 ·cases hop
theorem Np {t:TypeId} {x y:Operand} {ok:Bool} (hop:cj P G names ⟨dst,.lookup t x y ok,type,pos,after,guard⟩=some (.op op)) (H:HR φ h w) (he:op.run r h=.ok v h'):bJ φ h w v h' ((execOp ρ ⟨dst,.lookup t x y ok,type,pos,after,guard⟩).run P w):=by
 simp only [cj] at hop
 split at hop
 ·rename_i k e hu
  simp only [bind,pure,Option.bind_some,Option.bind_eq_some_iff,Option.some.injEq,AI.op.injEq] at hop
  obtain ⟨kt,hk,z,hz,a,hx,b,hb,rfl⟩:=hop
  obtain ⟨k',e',hu',hk'⟩:=jB hk
  have:=aw hu (by simp)
  rw [this] at hu';cases hu'
  exact (Da H (hρ _ _ hx) (hρ _ _ hb) this hk' hz he).gU
 ·cases hop
theorem Nq {t:TypeId} {x y z:Operand} (hop:cj P G names ⟨dst,.mapUpdate t x y z,type,pos,after,guard⟩=some (.op op)) (H:HR φ h w) (he:op.run r h=.ok v h'):bJ φ h w v h' ((execOp ρ ⟨dst,.mapUpdate t x y z,type,pos,after,guard⟩).run P w):=by
 simp only [cj,bind,Option.bind_eq_some_iff,Option.some.injEq,AI.op.injEq] at hop
 obtain ⟨kt,hk,a,hx,b,hb,c,hc,rfl⟩:=hop
 obtain ⟨k',e',hu',hk'⟩:=jB hk
 obtain ⟨g1,g2⟩:=wY H (hρ _ _ hx) (hρ _ _ hb) (hρ _ _ hc) hu' hk' he
 exact g2.gU g1
theorem Nr {t:TypeId} {x y z:Operand} (hop:cj P G names ⟨dst,.insert t x y z,type,pos,after,guard⟩=some (.op op)) (H:HR φ h w) (he:op.run r h=.ok v h'):bJ φ h w v h' ((execOp ρ ⟨dst,.insert t x y z,type,pos,after,guard⟩).run P w):=by
 simp only [cj,bind,Option.bind_eq_some_iff,Option.some.injEq,AI.op.injEq] at hop
 obtain ⟨kt,hk,a,hx,b,hb,c,hc,rfl⟩:=hop
 obtain ⟨k',e',hu',hk'⟩:=jB hk
 obtain ⟨g1,g2⟩:=wY H (hρ _ _ hx) (hρ _ _ hb) (hρ _ _ hc) hu' hk' he
 exact g2.gU g1
theorem Db {t:TypeId} {x:Operand} (hop:cj P G names ⟨dst,.range t x,type,pos,after,guard⟩=some (.op op)) (H:HR φ h w) (he:op.run r h=.ok v h'):bJ φ h w v h' ((execOp ρ ⟨dst,.range t x,type,pos,after,guard⟩).run P w):=by
 simp only [cj] at hop
 split at hop
 ·rename_i k e hu
  simp only [bind,pure,Option.bind_some,Option.bind_eq_some_iff,Option.some.injEq,AI.op.injEq] at hop
  obtain ⟨a,hx,rfl⟩:=hop
  exact (Bh H (hρ _ _ hx) (aw hu (by simp)) he).gU
 ·cases hop
theorem Ns {x:Operand} (hop:cj P G names ⟨dst,.entry x,type,pos,after,guard⟩=some (.op op)) (H:HR φ h w) (he:op.run r h=.ok v h'):bJ φ h w v h' ((execOp ρ ⟨dst,.entry x,type,pos,after,guard⟩).run P w):=by
 simp only [cj,bind,Option.bind_eq_some_iff,Option.some.injEq,AI.op.injEq] at hop
 obtain ⟨a,hx,rfl⟩:=hop
 exact (Dc H (hρ _ _ hx) he).gU
theorem Nt {t u:TypeId} {x:Operand} {ok:Bool} (hop:cj P G names ⟨dst,.typeAssert x u t ok,type,pos,after,guard⟩=some (.op op)) (H:HR φ h w) (he:op.run r h=.ok v h'):bJ φ h w v h' ((execOp ρ ⟨dst,.typeAssert x u t ok,type,pos,after,guard⟩).run P w):=by
 simp only [cj] at hop
 split at hop
 ·simp at hop
 ·rename_i hs
  by_cases hn:(P.underlying t).isNone=true
  ·simp [hn] at hop
  ·rw [if_neg (by simp [hn])] at hop
   obtain ⟨d,hd⟩:=fE hn
   simp only [bind,pure,Option.bind_some,Option.bind_eq_some_iff,Option.some.injEq,AI.op.injEq] at hop
   obtain ⟨z,hz,a,hx,rfl⟩:=hop
   refine (Dd H (hρ _ _ hx) hd (fun m e=>?_) hz he).gU
   subst e
   exact hs m (by simp [iz,hd])
theorem Nu {x:Operand} {i:Nat} (hop:cj P G names ⟨dst,.extract x i,type,pos,after,guard⟩=some (.op op)) (H:HR φ h w) (he:op.run r h=.ok v h'):bJ φ h w v h' ((execOp ρ ⟨dst,.extract x i,type,pos,after,guard⟩).run P w):=by
 simp only [cj,bind,Option.bind_eq_some_iff,Option.some.injEq,AI.op.injEq] at hop
 obtain ⟨a,hx,rfl⟩:=hop
 exact (De H (hρ _ _ hx) he).gU
theorem Ih {c:Call} (hop:cj P G names ⟨dst,.call c,type,pos,after,guard⟩=some (.op op)) (H:HR φ h w) (he:op.run r h=.ok v h'):bJ φ h w v h' ((execOp ρ ⟨dst,.call c,type,pos,after,guard⟩).run P w):=by
 simp only [cj,bind,Option.bind_eq_some_iff] at hop
 obtain ⟨xs,hxs,hop⟩:=hop
 have g1:=kE (φ:=φ) (r:=r) (ρ:=ρ) hxs (fun o _ a ha=>hρ _ _ ha)
 split at hop
 ·rename_i b hb
  simp only [Option.map_eq_some_iff,AI.op.injEq] at hop
  obtain ⟨o,ho,rfl⟩:=hop
  obtain ⟨s,e,hg⟩:=vE (ty:=type) (cs:=c.args.map fun|.const _=>true|_=>false) ho H g1 he
  have e2:c.args.map ρ=(c.args.toList.map ρ).toArray:=by apply Array.ext';simp
  have:(execOp ρ ⟨dst,.call c,type,pos,after,guard⟩).run P w=(do pure (.value (←s)):Sem Next).run P w:=by
   rw [←e,←e2]
   simp only [execOp,resolve,hb,Sem.run_bind,Sem.run_pure,Result.andThen_ok,invoke]
   rfl
  rw [this]
  exact hg.gU
 ·cases hop
 ·simp only [bind,Option.bind_eq_some_iff,Option.some.injEq] at hop
  obtain ⟨a,_,e⟩:=hop;cases e
 ·simp only [bind,Option.bind_eq_some_iff,Option.some.injEq] at hop
  obtain ⟨a,_,b,_,e⟩:=hop;cases e
theorem Ii {t:TypeId} {x y:Operand} (hop:cj P G names ⟨dst,.mapEntry t x y,type,pos,after,guard⟩=some (.op op)) (H:HR φ h w) (he:op.run r h=.ok v h'):bJ φ h w v h' ((execOp ρ ⟨dst,.mapEntry t x y,type,pos,after,guard⟩).run P w):=by
 simp only [cj] at hop
 split at hop
 ·rename_i k e hu
  simp only [bind,pure,Option.bind_some,Option.bind_eq_some_iff,Option.some.injEq,AI.op.injEq] at hop
  obtain ⟨kt,hk,zv,hz,a,hx,b,hb,rfl⟩:=hop
  obtain ⟨k',e',hu',hk'⟩:=jB hk
  have hu2:=aw hu (by simp)
  rw [hu2] at hu'
  cases hu'
  exact (Bi H (hρ _ _ hx) (hρ _ _ hb) hu2 hk' hz he).gU
 ·cases hop
theorem Ij {t:TypeId} {x y z:Operand} (hop:cj P G names ⟨dst,.entryStore t x y z,type,pos,after,guard⟩=some (.op op)) (H:HR φ h w) (he:op.run r h=.ok v h'):bJ φ h w v h' ((execOp ρ ⟨dst,.entryStore t x y z,type,pos,after,guard⟩).run P w):=by
 simp only [cj,bind,Option.bind_eq_some_iff,Option.some.injEq,AI.op.injEq] at hop
 obtain ⟨a,hx,b,hb,c,hc,rfl⟩:=hop
 obtain ⟨g1,g2⟩:=Bj (t:=t) H (hρ _ _ hx) (hρ _ _ hb) (hρ _ _ hc) he
 exact g2.gU g1
end
variable {P:Program} {φ:aJ} {h h':Hp} {w:World} {v:AV} {r:A2} {cx cy:Value} {t:TypeId} {G:Gl} {ρ:Operand→Value} {names:List String}
theorem Ik {op:oB} {o:Oper} (hρ:∀q x,cO G q=some x→VR φ (ev x r) (ρ q)) (hc:∀c,ρ (.const c)=c) (hop:cj P G names o=some (.op op)) (H:HR φ h w) (he:op.run r h=.ok v h') :
  bJ φ h w v h' ((execOp ρ o).run P w):=by
 obtain ⟨dst,x,type,pos,after,guard⟩:=o
 cases x with
 | move x=>exact TP hρ hop H he
 | assign x=>exact TQ hρ hop H he
 | pick c a b=>exact HZ hρ hop H he
 | alloc e=>exact Cz hρ hop H he
 | box e x=>exact Nj hρ hop H he
 | build t ps=>exact CC hρ hop H he
 | buildSlice t n ps=>exact AX hρ hop H he
 | insert t m k x=>exact Nr hρ hop H he
 | load t x=>exact Ia hρ hop H he
 | store t x y=>exact CF hρ hop H he
 | ready g=>cases hop
 | waits g=>cases hop
 | nilCheck x=>exact Ib hρ hop H he
 | binOp o t x y u=>exact Nk hρ hc hop H he
 | unOp o t x=>exact TR hρ hop H he
 | convert s d x=>exact Ic hρ hop H he
 | sliceToArrayPointer d x=>cases hop
 | makeInterface t x=>exact Nl hρ hop H he
 | makeFunc f a b=>exact Nm hρ hop H he
 | makeMap t re=>exact CS hρ hc hop H he
 | makeChan t x=>cases hop
 | makeSlice t l c=>exact ym hρ hop H he
 | slice t x l u m=>exact CT hρ hop H he
 | fieldAddr t x f=>exact Nn hρ hop H he
 | field t x f=>exact CW hρ hop H he
 | indexAddr t x i=>exact Ig hρ hop H he
 | index t x i=>exact CZ hρ hop H he
 | lookup t x i ok=>exact Np hρ hop H he
 | mapUpdate t m k x=>exact Nq hρ hop H he
 | mapEntry t m k=>exact Ii hρ hop H he
 | entryStore t m s x=>exact Ij hρ hop H he
 | range t x=>exact Db hρ hop H he
 | next x s=>
  simp only [cj] at hop
  split at hop
  ·simp at hop
  ·simp only [bind,Option.bind_eq_some_iff,Option.some.injEq] at hop
   obtain ⟨a,_,e⟩:=hop;cases e
 | entry x=>exact Ns hρ hop H he
 | typeAssert x u t ok=>exact Nt hρ hop H he
 | extract x i=>exact Nu hρ hop H he
 | call c=>exact Ih hρ hop H he
 | go c=>cases hop
 | defer c=>cases hop
 | panic x=>cases hop
 | send c x=>cases hop
 | recv t c ok=>cases hop
 | select cs b=>cases hop
theorem Df {s:Bool} {x:AO} {o:Oper} (hρ:∀q x,cO G q=some x→VR φ (ev x r) (ρ q)) (hop:cj P G names o=some (.FV s x)) (H:HR φ h w) (hs:(jD s (ev x r) h).Safe) :
  ∃cv w' φ' v h',(jD s (ev x r) h).aO (.ok v h')∧(execOp ρ o).run P w=.ok (.value cv) w'∧VR φ' v cv∧HR φ' h' w'∧Step φ h w φ' h' w':=by
 obtain ⟨dst,y,type,pos,after,guard⟩:=o
 have hy:∃q,y=.next q false∧s=false∧cO G q=some x:=by
  simp only [cj] at hop
  split at hop
  case h_28 q b=>
   split at hop
   ·simp at hop
   ·rename_i hb
    simp only [bind,Option.bind_eq_some_iff,Option.some.injEq,AI.FV.injEq] at hop
    obtain ⟨a,ha,hb',rfl⟩:=hop
    subst hb'
    have:b=false:=by simpa using hb
    subst this
    exact ⟨q,rfl,rfl,ha⟩
  case h_21=>
   split at hop
   ·simp only [bind,Option.bind_eq_some_iff] at hop
    obtain ⟨fd,_,hop⟩:=hop
    split at hop
    ·simp at hop
    ·split at hop<;>simp [Option.bind_eq_some_iff] at hop
   ·cases hop
  all_goals (repeat' split at hop)<;>simp [Option.bind_eq_some_iff,Option.map_eq_some_iff] at hop
 obtain ⟨q,rfl,rfl,hq⟩:=hy
 obtain ⟨v,h',h1,cv,w',φ',e,h2,h3,h4⟩:=yn (P:=P) (ty:=type) H (hρ _ _ hq) hs
 refine ⟨cv,w',φ',v,h',h1,?_,h2,h3,h4⟩
 simp only [execOp,Sem.run_bind,e,Result.andThen_ok,Sem.run_pure]
inductive RS.aO:RS→RS→Prop
 | nm (r:A2) (h:Hp):aO (.nm r h) (.nm r h)
 | ex (i:Nat) (r:A2) (h:Hp):aO (.ex i r h) (.ex i r h)
 | go (i:Nat) (r:A2) (h:Hp):aO (.go i r h) (.go i r h)
 | ret (r:A2) (h:Hp):aO (.ret r h) (.ret r h)
 | err (n:Nat):aO (.err n) (.err n)
 | ch (n:Nat) (k:Nat→RS) (c:Nat) (y:RS):c < n→aO (k c) y→aO (.ch n k) y
def RS.Safe (x:RS):Prop:=∀n,¬ x.aO (.err n)
theorem RS.Safe.err {n:Nat} (h:(RS.err n).Safe):False:=h n (.err n)
theorem iA {d:aF} {k:A2→Hp→RS} {r:A2} {v:AV} {h':Hp} {y:RS}:∀{x z:RT},x.aO z→z=.ok v h'→(k (dG d v r) h').aO y→(stepT d k r x).aO y
 | _,_,.ok v h,e,g=>by cases e;exact g
 | _,_,.err n,e,g=>by cases e
 | _,_,.ch n kk c y' hc hl,e,g=>.ch n _ c _ hc (iA hl e g)
theorem jE {d:aF} {k:A2→Hp→RS} {r:A2} {n:Nat}:∀{x z:RT},x.aO z→z=.err n→(stepT d k r x).aO (.err n)
 | _,_,.ok v h,e=>by cases e
 | _,_,.err n,e=>by cases e;exact .err n
 | _,_,.ch n kk c y' hc hl,e=>.ch n _ c _ hc (jE hl e)
theorem sx {d:aF} {k:A2→Hp→RS} {r:A2} {x:RT} (hs:(stepT d k r x).Safe):x.Safe∧∀v h',x.aO (.ok v h')→(k (dG d v r) h').Safe:=
 ⟨fun n hl=>hs n (jE hl rfl),fun _ _ hl n hn=>hs n (iA hl rfl hn)⟩
noncomputable def AI.res (i:AI) (p:Pg) (run:gg) (r:A2) (h:Hp):RT:=match i with
 | .op o=>(o.run r h).gh
 | .FV s x=>jD s (ev x r) h
 | .call f xs=>aj p run f (fu xs r) h
 | .jb x xs=>jc p run (ev x r) (fu xs r) h
 | .inv n x xs=>aL p run n (ev x r) (fu xs r) h
theorem mE (i:AI) (p:Pg) (run:gg) (d:aF) (k:A2→Hp→RS) (r:A2) (h:Hp):i.exec p run d k r h=stepT d k r (i.res p run r h):=by
 cases i with
 | op o=>
  show Dg d k r (o.run r h)=stepT d k r (o.run r h).gh
  cases o.run r h<;>rfl
 | _=>rfl
theorem gW {v:RV} (hs:v.gh.Safe):∃a h,v=.ok a h:=by
 cases v with
 | ok a h=>exact ⟨a,h,rfl⟩
 | err n=>exact (RT.Safe.err hs).elim
abbrev NB (G:Gl):Prop:=Nonempty (G.b=none)
instance Yz:NB 0:=⟨rfl⟩
instance YA {n:Nat} {l:List (P4×Nat)}:NB ⟨n,l,none⟩:=⟨rfl⟩
theorem nb (G:Gl) [i:NB G]:G.b=none:=i.elim id
theorem zq {G:Gl} {t s:Nat} (e:G.sl t=some s):s < 256∧G.tm s=t:=by
 unfold Gl.sl at e
 unfold Gl.tm
 cases hb:G.b with
 | none=>
  rw [hb] at e
  have e:(if t < 256 then some t else none)=some s:=e
  split at e
  ·rename_i h1;cases e;exact ⟨h1,rfl⟩
  ·cases e
 | some q=>
  rw [hb] at e
  have e:(if t < 16 * q then (if t < 256 then some t else none) else if t < 16 * q+16 then none else if t < 272 then some (t - 16) else none)=some s:=e
  split at e
  ·rename_i h1
   split at e
   ·rename_i h2;cases e;exact ⟨h2,if_pos h1⟩
   ·cases e
  ·split at e
   ·cases e
   ·rename_i h1 h2
    split at e
    ·rename_i h3
     cases e
     refine ⟨by omega,?_⟩
     show (if t - 16 < 16 * q then t - 16 else t - 16+16)=t
     rw [if_neg (by omega)]
     omega
    ·cases e
theorem Nv {G:Gl} {s t:Nat} (e:G.tm s=G.tm t):s=t:=by
 unfold Gl.tm at e
 cases hb:G.b with
 | none=>rw [hb] at e;exact e
 | some q=>
  rw [hb] at e
  have e:(if s < 16 * q then s else s+16)=(if t < 16 * q then t else t+16):=e
  split at e<;>split at e<;>omega
theorem zr (G:Gl) [NB G] (s:Nat):G.tm s=s:=by unfold Gl.tm;rw [nb G]
theorem zt (G:Gl) [NB G] (t:Nat):G.sl t=if t < 256 then some t else none:=by unfold Gl.sl;rw [nb G]
theorem Il {G:Gl} [NB G] {t:Nat} (h:t < 256):G.sl t=some t:=by rw [zt,if_pos h]
theorem Dh {G:Gl} [NB G] {t s:Nat} (e:G.sl t=some s):s=t∧t < 256:=by
 rw [zt] at e
 split at e
 ·rename_i h;cases e;exact ⟨rfl,h⟩
 ·cases e
def mF (G:Gl) (φ:aJ):Prop:=(∀g,g < G.n→∃room,φ (P4.of g)=some ⟨g,0,room⟩)∧∀x,x∈G.sy→φ x.1=some ⟨0,0,x.2⟩
theorem mF.mono {G:Gl} {φ ψ:aJ} (g:mF G φ) (h:φ.le ψ):mF G ψ:=⟨fun i hi=>let ⟨room,e⟩:=g.1 i hi;⟨room,h _ _ e⟩,fun x hx=>h _ _ (g.2 x hx)⟩
structure St (n:Nat) (G:Gl) (φ:aJ) (r:A2) (h:Hp) (a:Act) (w:World):Prop where
 hr:HR φ h w
 aE:∀t,t < 256→VR φ (aq (hi t) (lo t) r) (a.tmps.getD (G.tm t) undef)
 dz:a.defers=[]
 size:n≤a.tmps.size
 fy:mF G φ
variable {P:Program} {φ φ':aJ} {h h':Hp} {w w':World} {v:AV} {r:A2} {a:Act} {cv:Value} {n:Nat} {G:Gl} {names:List String} {p:Pg} {run:gg}
theorem Di {s t:Nat} (hs:s < 256) (ht:t < 256):(hi s=hi t∧lo s=lo t)↔s=t:=by
 constructor
 ·rintro ⟨h1,h2⟩
  have e1:=kF (show s / 16 < 16 by omega) (show t / 16 < 16 by omega) h1
  have e2:=kF (show s % 16 < 16 by omega) (show t % 16 < 16 by omega) h2
  omega
 ·rintro rfl;exact ⟨rfl,rfl⟩
theorem St.Rr (S:St n G φ r h a w) {q:Operand} {x:AO} (e:cO G q=some x):VR φ (ev x r) (a.eval q):=by
 cases q with
 | tmp t=>
  simp only [cO,Option.map_eq_some_iff] at e
  obtain ⟨s,hs,rfl⟩:=e
  obtain ⟨h1,h2⟩:=zq hs
  have:=S.aE s h1
  rw [h2] at this
  exact this
 | const c=>
  simp only [cO,Option.map_eq_some_iff] at e
  obtain ⟨b,hb,rfl⟩:=e
  exact mG hb φ
 | global g=>
  simp only [cO] at e
  split at e
  ·rename_i hg
   cases e
   obtain ⟨room,hp⟩:=S.fy.1 g hg
   have:=VR.ptr (φ:=φ) _ 0 _ hp
   show VR φ (.ptr (P4.of g) 0) (.pointer (some ⟨g,0,none⟩))
   simpa [Place.addr] using this
  ·cases e
 | func f=>cases e;exact .fn f [] [] .nil
theorem St.put (S:St n G φ r h a w) {o:Option Tmp} {d:aF} (hd:lL G n o=some d) (hv:VR φ' v cv) (H:HR φ' h' w') (T:Step φ h w φ' h' w'):St n G φ' (dG d v r) h' (a.put o cv) w':=by
 cases o with
 | none=>
  cases hd
  exact ⟨H,fun t ht=>(S.aE t ht).mono T.le,S.dz,S.size,S.fy.mono T.le⟩
 | some t=>
  simp only [lL] at hd
  split at hd
  ·rename_i s hs
   split at hd
   ·rename_i hn
    cases hd
    obtain ⟨h1,h2⟩:=zq hs
    refine ⟨H,fun u hu=>?_,S.dz,by simpa [Act.put] using S.size,S.fy.mono T.le⟩
    show VR φ' (aq (hi u) (lo u) (eQ (hi s) (lo s) v r)) ((a.tmps.setIfInBounds t cv).getD (G.tm u) undef)
    rw [dH]
    by_cases e:u=s
    ·subst e
     rw [if_pos ⟨rfl,rfl⟩,h2]
     have:(a.tmps.setIfInBounds t cv).getD t undef=cv:=by
      have h3:t < a.tmps.size:=Nat.lt_of_lt_of_le hn S.size
      simp [Array.getD,h3]
     rw [this];exact hv
    ·rw [if_neg (fun g=>e ((Di hu h1).1 g))]
     have hne:G.tm u≠t:=fun g=>e (Nv (g.trans h2.symm))
     have:(a.tmps.setIfInBounds t cv).getD (G.tm u) undef=a.tmps.getD (G.tm u) undef:=by
      simp only [Array.getD_eq_getD_getElem?,Array.getElem?_setIfInBounds,if_neg (Ne.symm hne)]
     rw [this];exact (S.aE u hu).mono T.le
   ·cases hd
  ·cases hd
theorem St.Nw [NB G] (S:St n G φ r h a w) (t:Nat) (ht:t < 256):VR φ (aq (hi t) (lo t) r) (a.tmps.getD t undef):=by
 have:=S.aE t ht
 rw [zr] at this
 exact this
theorem St.mk' [NB G] (hr:HR φ h w) (aE:∀t,t < 256→VR φ (aq (hi t) (lo t) r) (a.tmps.getD t undef)) (dz:a.defers=[]) (size:n≤a.tmps.size) (fy:mF G φ):St n G φ r h a w:=
 ⟨hr,fun t ht=>by rw [zr];exact aE t ht,dz,size,fy⟩
theorem sA [NB G] {t:Nat} {d:aF} (hd:lL G n (some t)=some d):t < 256∧t < n∧d=.t (hi t) (lo t):=by
 simp only [lL] at hd
 split at hd
 ·rename_i s hs
  obtain ⟨rfl,h1⟩:=Dh hs
  split at hd
  ·rename_i h2;cases hd;exact ⟨h1,h2,rfl⟩
  ·cases hd
 ·cases hd
theorem wZ {f:Nat→A1}:∀{i:Nat},i < 16→A2.get (bN i) (.mk (f 0) (f 1) (f 2) (f 3) (f 4) (f 5) (f 6) (f 7) (f 8) (f 9) (f 10) (f 11) (f 12) (f 13) (f 14) (f 15))=f i:=by
 intro i hi
 match i,hi with
 | 0,_=>rfl
 | 1,_=>rfl
 | 2,_=>rfl
 | 3,_=>rfl
 | 4,_=>rfl
 | 5,_=>rfl
 | 6,_=>rfl
 | 7,_=>rfl
 | 8,_=>rfl
 | 9,_=>rfl
 | 10,_=>rfl
 | 11,_=>rfl
 | 12,_=>rfl
 | 13,_=>rfl
 | 14,_=>rfl
 | 15,_=>rfl
 | k+16,h=>omega
theorem Bl {q s:Nat} (hs:s < 256):aq (hi s) (lo s) (sB q r)=if s < 16 * q then aq (hi s) (lo s) r else if s < 240 then aq (hi (s+16)) (lo (s+16)) r else .undef:=by
 show A1.get (lo s) (A2.get (bN (s / 16)) (sB q r))=_
 have e:A2.get (bN (s / 16)) (sB q r)=wK q r (s / 16):=wZ (f:=wK q r) (by omega)
 rw [e]
 show A1.get (lo s) (@Bool.rec (fun _=>A1) (A2.get (bN (s / 16)) r) (@Bool.rec (fun _=>A1) (A2.get (bN (Nat.succ (s / 16))) r) .nil (Nat.beq (s / 16) 15)) (Nat.ble q (s / 16)))=_
 cases h1:Nat.ble q (s / 16) with
 | false=>
  have h1:¬ q≤s / 16:=fun g=>by rw [Nat.ble_eq_true_of_le g] at h1;cases h1
  rw [if_pos (by omega)]
  rfl
 | true=>
  have h1:=Nat.le_of_ble_eq_true h1
  rw [if_neg (by omega)]
  cases h2:Nat.beq (s / 16) 15 with
  | true=>
   have h2:=Nat.eq_of_beq_eq_true h2
   rw [if_neg (by omega)]
   exact A1.get_nil _
  | false=>
   have h2:s / 16≠15:=fun g=>by rw [g] at h2;cases h2
   rw [if_pos (by omega)]
   have e1:(s+16) / 16=Nat.succ (s / 16):=by omega
   have e2:(s+16) % 16=s % 16:=by omega
   show A1.get (bN (s % 16)) (A2.get (bN (Nat.succ (s / 16))) r)=A1.get (bN ((s+16) % 16)) (A2.get (bN ((s+16) / 16)) r)
   rw [e1,e2]
theorem Dj {q s:Nat} (hs:s < 256):aq (hi s) (lo s) (yo q r)=if s < 16 * q then aq (hi s) (lo s) r else if s < 16 * q+16 then .undef else aq (hi (s - 16)) (lo (s - 16)) r:=by
 show A1.get (lo s) (A2.get (bN (s / 16)) (yo q r))=_
 have e:A2.get (bN (s / 16)) (yo q r)=wL q r (s / 16):=wZ (f:=wL q r) (by omega)
 rw [e]
 show A1.get (lo s) (@Bool.rec (fun _=>A1) (A2.get (bN (Nat.pred (s / 16))) r) (@Bool.rec (fun _=>A1) (A2.get (bN (s / 16)) r) .nil (Nat.beq (s / 16) q)) (Nat.ble (s / 16) q))=_
 cases h1:Nat.ble (s / 16) q with
 | false=>
  have h1:¬ s / 16≤q:=fun g=>by rw [Nat.ble_eq_true_of_le g] at h1;cases h1
  rw [if_neg (by omega),if_neg (by omega)]
  have e1:(s - 16) / 16=Nat.pred (s / 16):=by show (s - 16) / 16=s / 16 - 1;omega
  have e2:(s - 16) % 16=s % 16:=by omega
  show A1.get (bN (s % 16)) (A2.get (bN (Nat.pred (s / 16))) r)=A1.get (bN ((s - 16) % 16)) (A2.get (bN ((s - 16) / 16)) r)
  rw [e1,e2]
 | true=>
  have h1:=Nat.le_of_ble_eq_true h1
  cases h2:Nat.beq (s / 16) q with
  | true=>
   have h2:=Nat.eq_of_beq_eq_true h2
   rw [if_neg (by omega),if_pos (by omega)]
   exact A1.get_nil _
  | false=>
   have h2:s / 16≠q:=fun g=>by rw [g,Nat.beq_refl] at h2;cases h2
   rw [if_pos (by omega)]
   rfl
theorem St.drop [NB G] (S:St n G φ r h a w) (q:Nat):St n {G with b:=some q} φ (sB q r) h a w:=by
 refine ⟨S.hr,fun t ht=>?_,S.dz,S.size,S.fy⟩
 show VR φ _ (a.tmps.getD (if t < 16 * q then t else t+16) undef)
 rw [Bl ht]
 by_cases h1:t < 16 * q
 ·rw [if_pos h1,if_pos h1];exact S.Nw t ht
 ·rw [if_neg h1,if_neg h1]
  by_cases h2:t < 240
  ·rw [if_pos h2];exact S.Nw (t+16) (by omega)
  ·rw [if_neg h2];exact .undef _
theorem St.ins [NB G] {q:Nat} (S:St n {G with b:=some q} φ r h a w):St n G φ (yo q r) h a w:=by
 refine St.mk' S.hr (fun t ht=>?_) S.dz S.size S.fy
 rw [Dj ht]
 by_cases h1:t < 16 * q
 ·rw [if_pos h1]
  have:VR φ (aq (hi t) (lo t) r) (a.tmps.getD (if t < 16 * q then t else t+16) undef):=S.aE t ht
  rw [if_pos h1] at this
  exact this
 ·rw [if_neg h1]
  by_cases h2:t < 16 * q+16
  ·rw [if_pos h2];exact .undef _
  ·rw [if_neg h2]
   have:VR φ (aq (hi (t - 16)) (lo (t - 16)) r) (a.tmps.getD (if t - 16 < 16 * q then t - 16 else t - 16+16) undef):=S.aE (t - 16) (by omega)
   rw [if_neg (by omega),show t - 16+16=t by omega] at this
   exact this
def mH (P:Program) (names:List String) (ms:List MR):Prop:=∀t k f,MR.mk t k f∈ms→∃name info m e,names[k]?=some name∧P.info? t=some info∧info.methods.find? (·.name == name)=some m∧m.path=#[]∧m.func=some (f,true)∧P.underlying t=some (.pointer e)
def eA (φ:aJ) (h:Hp) (w:World) (x:RT):Ending→World→Prop:=fun e w'=>∃v h' cv φ',x.aO (.ok v h')∧e=.returned cv∧VR φ' v cv∧HR φ' h' w'∧Step φ h w φ' h' w'
def Nx (P:Program) (f:Nat) (vals:Array Value) (w:World) (Q:Ending→World→Prop):Prop:=((∃fn c,P.funcs[f]?=some fn∧fn.name≠ "runtime.NumGoroutine" ∧fn.body=some c)∧Calls P f vals w Q)∨
 ∃cv w',(callFunc f vals).run P w=.ok (.value cv) w'∧Q (.returned cv) w'
def du (P:Program) (G:Gl) (p:Pg) (run:gg):Prop:=∀(f:Nat) (args:List AV) (h:Hp) (φ:aJ) (w:World) (vals:List Value),mF G φ→HR φ h w→bX φ args vals→(aj p run f args h).Safe→
 Nx P f vals.toArray w (eA φ h w (aj p run f args h))
theorem fF {f:Nat} {args:Array Value} {fn:Func} {c:Code} (hf:P.funcs[f]?=some fn) (hn:fn.name≠ "runtime.NumGoroutine") (hb:fn.body=some c):(callFunc f args).run P w=.ok (.enter f args) w:=by
 have hp:(program).run P w=.ok P w:=rfl
 simp [callFunc,hp,hf,hn,hb]
theorem sD {t name:Nat} {k:Nat→RT} {n:Nat}:∀{ms:List MR},(mI t name ms k (.err n)).Safe→∃f,MR.mk t name f∈ms∧mI t name ms k (.err n)=k f
 | [],hs=>(RT.Safe.err hs).elim
 | .mk t' n' f::ms,hs=>by
  change RT.Safe (@Bool.rec (fun _=>RT) (mI t name ms k (.err n)) (@Bool.rec (fun _=>RT) (mI t name ms k (.err n)) (k f) (Nat.beq name n')) (Nat.beq t t')) at hs
  show ∃f',_∧(@Bool.rec (fun _=>RT) (mI t name ms k (.err n)) (@Bool.rec (fun _=>RT) (mI t name ms k (.err n)) (k f) (Nat.beq name n')) (Nat.beq t t'))=_
  cases h1:Nat.beq t t' with
  | false=>
   rw [h1] at hs
   obtain ⟨f',m1,m2⟩:=sD (ms:=ms) hs
   exact ⟨f',by simp [m1],m2⟩
  | true=>
   cases h2:Nat.beq name n' with
   | false=>
    rw [h1,h2] at hs
    obtain ⟨f',m1,m2⟩:=sD (ms:=ms) hs
    exact ⟨f',by simp [m1],m2⟩
   | true=>
    have e1:=Nat.eq_of_beq_eq_true h1
    have e2:=Nat.eq_of_beq_eq_true h2
    subst e1 e2
    exact ⟨f,by simp,rfl⟩
theorem Bm {s:String} {k:Nat} (e:vJ names s=some k):names[k]?=some s:=by
 unfold vJ at e
 rw [List.findIdx?_eq_some_iff_getElem] at e
 obtain ⟨hk,h1,_⟩:=e
 rw [List.getElem?_eq_getElem hk]
 simp at h1
 rw [h1]
theorem yp {ms:List MR} (M:mH P names ms) {t k f:Nat} (hm:MR.mk t k f∈ms) {s:String} (hk:names[k]?=some s) (d:Nat) (cv:Value):(method (d+1) t cv s).run P w=.ok (f,cv) w:=by
 obtain ⟨name,info,m,e,h1,h2,h3,h4,h5,h6⟩:=M t k f hm
 rw [hk] at h1;cases h1
 simp [method,bz h2,h3,h4,h5,follow,receiverAt,ak h6,Place.get]
variable {P:Program} {φ φ':aJ} {h h':Hp} {w w':World} {v:AV} {r:A2} {a:Act} {cv:Value} {n:Nat} {G:Gl} {names:List String} {p:Pg} {run:gg}
theorem Dk {o:Oper} {f:Nat} {xs:List AO} (hop:cj P G names o=some (.call f xs)) :
  ∃c,o.op=.call c∧c.callee=.value (.func f)∧c.args.toList.mapM (cO G)=some xs:=by
 obtain ⟨dst,y,type,pos,after,guard⟩:=o
 simp only [cj] at hop
 split at hop
 case h_21=>
  split at hop
  ·simp only [bind,Option.bind_eq_some_iff] at hop
   obtain ⟨fd,_,hop⟩:=hop
   split at hop
   ·simp at hop
   ·split at hop<;>simp [Option.bind_eq_some_iff] at hop
  ·cases hop
 case h_32 c=>
  simp only [bind,Option.bind_eq_some_iff] at hop
  obtain ⟨ys,hys,hop⟩:=hop
  split at hop
  ·simp [Option.map_eq_some_iff] at hop
  ·rename_i g hc
   cases hop
   exact ⟨c,rfl,hc,hys⟩
  ·simp [Option.bind_eq_some_iff] at hop
  ·simp [Option.bind_eq_some_iff] at hop
 all_goals (repeat' split at hop)<;>simp [Option.bind_eq_some_iff,Option.map_eq_some_iff] at hop
theorem Bn {o:Oper} {x:AO} {xs:List AO} (hop:cj P G names o=some (.jb x xs)) :
  ∃c y,o.op=.call c∧c.callee=.value y∧cO G y=some x∧c.args.toList.mapM (cO G)=some xs:=by
 obtain ⟨dst,y,type,pos,after,guard⟩:=o
 simp only [cj] at hop
 split at hop
 case h_21=>
  split at hop
  ·simp only [bind,Option.bind_eq_some_iff] at hop
   obtain ⟨fd,_,hop⟩:=hop
   split at hop
   ·simp at hop
   ·split at hop<;>simp [Option.bind_eq_some_iff] at hop
  ·cases hop
 case h_32 c=>
  simp only [bind,Option.bind_eq_some_iff] at hop
  obtain ⟨ys,hys,hop⟩:=hop
  split at hop
  ·simp [Option.map_eq_some_iff] at hop
  ·cases hop
  ·rename_i z hz hc
   simp only [Option.bind_eq_some_iff,Option.some.injEq,AI.jb.injEq] at hop
   obtain ⟨b,hb,rfl,rfl⟩:=hop
   exact ⟨c,z,rfl,hc,hb,hys⟩
  ·simp [Option.bind_eq_some_iff] at hop
 all_goals (repeat' split at hop)<;>simp [Option.bind_eq_some_iff,Option.map_eq_some_iff] at hop
theorem Im {o:Oper} {k:Nat} {x:AO} {xs:List AO} (hop:cj P G names o=some (.inv k x xs)) :
  ∃c y name,o.op=.call c∧c.callee=.invoke y name∧vJ names name=some k∧cO G y=some x∧c.args.toList.mapM (cO G)=some xs:=by
 obtain ⟨dst,y,type,pos,after,guard⟩:=o
 simp only [cj] at hop
 split at hop
 case h_21=>
  split at hop
  ·simp only [bind,Option.bind_eq_some_iff] at hop
   obtain ⟨fd,_,hop⟩:=hop
   split at hop
   ·simp at hop
   ·split at hop<;>simp [Option.bind_eq_some_iff] at hop
  ·cases hop
 case h_32 c=>
  simp only [bind,Option.bind_eq_some_iff] at hop
  obtain ⟨ys,hys,hop⟩:=hop
  split at hop
  ·simp [Option.map_eq_some_iff] at hop
  ·cases hop
  ·simp [Option.bind_eq_some_iff] at hop
  ·rename_i z nm hc
   simp only [Option.bind_eq_some_iff,Option.some.injEq,AI.inv.injEq] at hop
   obtain ⟨b,hb,b2,hb2,rfl,rfl,rfl⟩:=hop
   exact ⟨c,z,nm,rfl,hc,hb,hb2,hys⟩
 all_goals (repeat' split at hop)<;>simp [Option.bind_eq_some_iff,Option.map_eq_some_iff] at hop
variable {P:Program} {φ φ':aJ} {h h':Hp} {w w':World} {v:AV} {r:A2} {a:Act} {cv:Value} {n:Nat} {G:Gl} {names:List String} {p:Pg} {run:gg}
theorem yq {x:AV} {args:List AV} (hs:(jc p run x args h).Safe):∃f cs,x=.fn f cs∧jc p run x args h=aj p run f (List.append args cs) h:=by
 cases x<;>first|exact ⟨_,_,rfl,rfl⟩|exact (RT.Safe.err hs).elim
theorem yr {k:Nat} {x:AV} {args:List AV} (hs:(aL p run k x args h).Safe):∃t u,x=.iface t u∧aL p run k x args h=mI t k p.ms (fun f=>aj p run f (.cons u args) h) (.err 206):=by
 cases x<;>first|exact ⟨_,_,rfl,rfl⟩|exact (RT.Safe.err hs).elim
theorem toArray_map (ρ:Operand→Value) (l:Array Operand):l.map ρ=(l.toList.map ρ).toArray:=by apply Array.ext';simp
theorem qd {i:AI} {o:Oper} {d:aF} (M:mH P names p.ms) (CO:du P G p run) (S:St n G φ r h a w) (hop:cj P G names o=some i) (hd:lL G n o.dst=some d) (hs:(i.res p run r h).Safe)
  {next:Act→World→Prop} {Q:Exit→Act→World→Prop}
  (hn:∀v h' φ' cv w',(i.res p run r h).aO (.ok v h')→St n G φ' (dG d v r) h' (a.put o.dst cv) w'→Step φ h w φ' h' w'→next (a.put o.dst cv) w'):o.wp P a w next Q:=by
 have hρ:∀q x,cO G q=some x→VR φ (ev x r) (a.eval q):=fun q x e=>S.Rr e
 unfold Oper.wp
 cases i with
 | op op=>
  obtain ⟨v,h',he⟩:=gW (show (op.run r h).gh.Safe from hs)
  obtain ⟨nx,w',φ',e1,e2,e3,e4⟩:=Ik hρ (fun c=>rfl) hop S.hr he
  have hl:(AI.res (.op op) p run r h).aO (.ok v h'):=by
   show (op.run r h).gh.aO (.ok v h')
   rw [he];exact .ok _ _
  rw [e1]
  rcases e2 with ⟨cv,rfl,hv⟩|⟨rfl,rfl⟩
  ·exact hn v h' φ' cv w' hl (S.put hd hv e3 e4) e4
  ·exact hn .undef h' φ' undef w' hl (S.put hd (.undef _) e3 e4) e4
 | FV s x=>
  obtain ⟨cv,w',φ',v,h',hl,e1,hv,e3,e4⟩:=Df hρ hop S.hr hs
  rw [e1]
  exact hn v h' φ' cv w' hl (S.put hd hv e3 e4) e4
 | call f xs=>
  obtain ⟨c,ho,hc,hx⟩:=Dk hop
  have g1:=kE (φ:=φ) (r:=r) (ρ:=a.eval) hx (fun o _ b hb=>hρ _ _ hb)
  have hrun:(execOp a.eval o).run P w=(callFunc f (c.args.toList.map a.eval).toArray).run P w:=by
   have hf:a.eval (.func f)=.func (.func f) #[] #[]:=rfl
   simp only [execOp,ho,resolve,hc,hf,Deferred.ofValue,Sem.run_bind,Sem.run_pure,Result.andThen_ok,invoke,Array.empty_append,Array.append_empty]
   rw [toArray_map]
  rcases CO f _ h φ w _ S.fy S.hr g1 hs with ⟨⟨fn,b,f1,f2,f3⟩,hC⟩|⟨cv,w',hcf,v,h',cv',φ',hl,he,hv,e3,e4⟩
  ·rw [hrun,fF f1 f2 f3,Oper.upon_enter]
   refine hC.mono ?_
   rintro e w' ⟨v,h',cv,φ',hl,rfl,hv,e3,e4⟩
   exact hn v h' φ' cv w' hl (S.put hd hv e3 e4) e4
  ·rw [hrun,hcf]
   cases he
   exact hn v h' φ' _ w' hl (S.put hd hv e3 e4) e4
 | jb x xs=>
  obtain ⟨c,y,ho,hc,hy,hx⟩:=Bn hop
  obtain ⟨f,cs,e1,e2⟩:=yq (show (jc p run (ev x r) (fu xs r) h).Safe from hs)
  have g1:=kE (φ:=φ) (r:=r) (ρ:=a.eval) hx (fun o _ b hb=>hρ _ _ hb)
  have g2:=hρ _ _ hy
  rw [e1] at g2
  have hval:∃vs:List Value,a.eval y=.func (.func f) #[] vs.toArray∧bX φ cs vs:=by
   generalize a.eval y=z at g2
   cases g2;exact ⟨_,rfl,by assumption⟩
  obtain ⟨vs,hval,g3⟩:=hval
  have hs':(aj p run f (List.append (fu xs r) cs) h).Safe:=by
   have:(jc p run (ev x r) (fu xs r) h).Safe:=hs
   rwa [e2] at this
  have hrun:(execOp a.eval o).run P w=(callFunc f (c.args.toList.map a.eval ++ vs).toArray).run P w:=by
   simp only [execOp,ho,resolve,hc,hval,Deferred.ofValue,Sem.run_bind,Sem.run_pure,Result.andThen_ok,invoke,Array.empty_append]
   rw [toArray_map]
   simp
  rcases CO f _ h φ w _ S.fy S.hr (g1.append g3) hs' with ⟨⟨fn,b,f1,f2,f3⟩,hC⟩|⟨cv,w',hcf,v,h',cv',φ',hl,he,hv,e3,e4⟩
  ·rw [hrun,fF f1 f2 f3,Oper.upon_enter]
   refine hC.mono ?_
   rintro e w' ⟨v,h',cv,φ',hl,rfl,hv,e3,e4⟩
   refine hn v h' φ' cv w' ?_ (S.put hd hv e3 e4) e4
   show (jc p run (ev x r) (fu xs r) h).aO _
   rw [e2];exact hl
  ·rw [hrun,hcf]
   cases he
   refine hn v h' φ' _ w' ?_ (S.put hd hv e3 e4) e4
   show (jc p run (ev x r) (fu xs r) h).aO _
   rw [e2];exact hl
 | inv k x xs=>
  obtain ⟨c,y,name,ho,hc,hk,hy,hx⟩:=Im hop
  obtain ⟨t,u,e1,e2⟩:=yr (show (aL p run k (ev x r) (fu xs r) h).Safe from hs)
  have Ny:(mI t k p.ms (fun f=>aj p run f (.cons u (fu xs r)) h) (.err 206)).Safe:=by
   have:(aL p run k (ev x r) (fu xs r) h).Safe:=hs
   rwa [e2] at this
  obtain ⟨f,hm,e3⟩:=sD Ny
  rw [e3] at Ny e2
  have g1:=kE (φ:=φ) (r:=r) (ρ:=a.eval) hx (fun o _ b hb=>hρ _ _ hb)
  have g2:=hρ _ _ hy
  rw [e1] at g2
  have hval:∃z,a.eval y=.iface t z∧VR φ u z:=by
   generalize a.eval y=z at g2
   cases g2;exact ⟨_,rfl,by assumption⟩
  obtain ⟨z,hval,g3⟩:=hval
  have hrun:(execOp a.eval o).run P w=(callFunc f (z::c.args.toList.map a.eval).toArray).run P w:=by
   have hp:(program).run P w=.ok P w:=rfl
   have hmeth:=yp (w:=w) M hm (Bm hk) (P.types.size+Made.depth - 1) z
   have hdep:P.types.size+Made.depth - 1+1=P.types.size+Made.depth:=by
    have:0 < Made.depth:=by decide
    omega
   rw [hdep] at hmeth
   have h0:(#[Value.iface t z] ++ c.args.map a.eval)[0]?=some (Value.iface t z):=by
    rw [Array.getElem?_append];rfl
   have h1:(#[Value.iface t z] ++ c.args.map a.eval).extract 1 (#[Value.iface t z] ++ c.args.map a.eval).size=c.args.map a.eval:=by
    apply Array.ext'
    simp only [Array.toList_extract,List.extract_eq_take_drop]
    simp
    rw [List.take_of_length_le (by simp)]
   simp only [execOp,ho,resolve,hc,hval,Sem.run_bind,Sem.run_pure,Result.andThen_ok,invoke,h0,h1,callMethod,hp,hmeth]
   rw [toArray_map]
   simp
  rcases CO f _ h φ w _ S.fy S.hr (.cons _ _ _ _ g3 g1) Ny with ⟨⟨fn,b,f1,f2,f3⟩,hC⟩|⟨cv,w',hcf,v,h',cv',φ',hl,he,hv,e5,e6⟩
  ·rw [hrun,fF f1 f2 f3,Oper.upon_enter]
   refine hC.mono ?_
   rintro e w' ⟨v,h',cv,φ',hl,rfl,hv,e5,e6⟩
   refine hn v h' φ' cv w' ?_ (S.put hd hv e5 e6) e6
   show (aL p run k (ev x r) (fu xs r) h).aO _
   rw [e2];exact hl
  ·rw [hrun,hcf]
   cases he
   refine hn v h' φ' _ w' ?_ (S.put hd hv e5 e6) e6
   show (aL p run k (ev x r) (fu xs r) h).aO _
   rw [e2];exact hl
variable {P:Program} {φ φ':aJ} {h h':Hp} {w w':World} {v:AV} {r:A2} {a:Act} {cv:Value} {n:Nat} {G:Gl} {names:List String} {p:Pg} {run:gg} {ops:Array Oper}
theorem iB {k:A2→Hp→RS} (hs:(pA.exec p run k r h).Safe):False:=RS.Safe.err (n:=400) hs
theorem yt (b:Bool):(undef:Value)≠.bool b:=by simp [undef]
theorem lM {t j:Nat} {b:Bool} (hj:(ops[j]?).bind (·.dst)=some t) (ht:a.tmps.getD t undef=.bool b):yielded ops a.tmps j=some b:=by
 unfold yielded
 rw [hj,Option.bind_some]
 rw [Array.getD_eq_getD_getElem?] at ht
 cases h:a.tmps[t]? with
 | none=>rw [h] at ht;exact absurd ht (yt b)
 | some x=>rw [h] at ht;have ht:x=.bool b:=ht;rw [ht]
theorem fh {x:AV} {k:Bool→RS} {n:Nat} (hs:(AV.bI x k (.err n)).Safe):∃b,x=.bool b∧AV.bI x k (.err n)=k b:=by
 cases x<;>first|exact ⟨_,rfl,rfl⟩|exact (RS.Safe.err hs).elim
theorem vK {w b:Bool} {x:AV} (h:gb w x=.bool b):x=.bool b∨(x=.aW []∧b = !w):=by
 cases x with
 | aW l=>
  cases l with
  | nil=>right;have h:AV.bool (Bool.not w)=.bool b:=h;injection h with h;exact ⟨rfl,h.symm⟩
  | cons a l=>have h:AV.undef=.bool b:=h;cases h
 | _=>exact .inl h
theorem qe:VR φ di undef:=.aW [] [] .nil
theorem vL (h:VR φ (.aW []) cv):cv=undef:=by
 cases h with
 | aW _ vs e=>cases e;rfl
theorem iD {t j:Nat} (hj:(ops[j]?).bind (·.dst)=some t) (ht:a.tmps.getD t undef=undef):yielded ops a.tmps j=none:=by
 unfold yielded
 rw [hj,Option.bind_some]
 rw [Array.getD_eq_getD_getElem?] at ht
 cases h:a.tmps[t]? with
 | none=>rfl
 | some x=>rw [h] at ht;have ht:x=undef:=ht;rw [ht];rfl
theorem vM (a b:Bool):gP a b=(a == b):=by cases a<;>cases b<;>rfl
theorem TS {o:Oper} {i:Nat} {k:A2→Hp→RS} (M:mH P names p.ms) (CO:du P G p run) (S:St n G φ r h a w) (hoi:ops[i]?=some o) (hs:((oH P G n names ops o).exec p run k r h).Safe)
  {K:Act→World→Prop} {Q:Exit→Act→World→Prop}
  (hn:∀r' h' φ' a' w',(k r' h').Safe→(∀y,(k r' h').aO y→((oH P G n names ops o).exec p run k r h).aO y)→St n G φ' r' h' a' w'→Step φ h w φ' h' w'→K a' w'):wpOp P ops Q i K a w:=by
 unfold wpOp
 simp only [hoi]
 unfold oH at hs hn
 split at hs
 ·rename_i d x hd hx
  split at hs
  ·rename_i hg
   have hw:Region.wanted o (yielded ops a.tmps)=true:=by simp [Region.wanted,hg]
   rw [if_pos hw]
   simp only [hg,hd,hx] at hn
   change (x.exec p run d k r h).Safe at hs
   rw [mE] at hs
   obtain ⟨s1,s2⟩:=sx hs
   refine .inl (qd M CO S hx hd s1 fun v h' φ' cv w' hl S' T=>hn _ h' φ' _ w' (s2 v h' hl) (fun y hy=>?_) S' T)
   show (x.exec p run d k r h).aO y
   rw [mE]
   exact iA hl rfl hy
  ·rename_i j wnt hg
   simp only [hg,hd,hx] at hn
   split at hs
   ·rename_i t ht
    simp only [ht] at hn
    split at hs
    ·rename_i s hsl
     obtain ⟨hs256,htm⟩:=zq hsl
     simp only [hsl] at hn
     change (AV.bI (gb wnt (aq (hi s) (lo s) r)) (jF d k r h x p run wnt) (.err 210)).Safe at hs
     obtain ⟨b,hb,e⟩:=fh hs
     have hv:=S.aE s hs256
     rw [htm] at hv
     have hw:Region.wanted o (yielded ops a.tmps)=(b == wnt):=by
      rcases vK hb with hb2|⟨hb2,rfl⟩
      ·rw [hb2] at hv
       have hy:=lM ht hv.cM
       simp only [Region.wanted,hg,hy];cases b<;>cases wnt<;>rfl
      ·rw [hb2] at hv
       have hy:=iD (a:=a) ht (vL hv)
       simp only [Region.wanted,hg,hy];cases wnt<;>rfl
     rw [e] at hs
     have hs:(@Bool.rec (fun _=>RS) (k (dG d di r) h) (x.exec p run d k r h) (gP b wnt)).Safe:=hs
     have e:(AV.bI (gb wnt (aq (hi s) (lo s) r)) (jF d k r h x p run wnt) (.err 210))=(@Bool.rec (fun _=>RS) (k (dG d di r) h) (x.exec p run d k r h) (gP b wnt)):=e
     have hn:∀r' h' φ' a' w',(k r' h').Safe→(∀y,(k r' h').aO y→(AV.bI (gb wnt (aq (hi s) (lo s) r)) (jF d k r h x p run wnt) (.err 210)).aO y)→St n G φ' r' h' a' w'→Step φ h w φ' h' w'→K a' w':=hn
     rw [e] at hn
     rw [vM] at hs hn
     rw [hw]
     cases hbw:(b == wnt) with
     | true=>
      rw [hbw] at hs hn
      rw [if_pos rfl]
      have hs:(x.exec p run d k r h).Safe:=hs
      rw [mE] at hs
      obtain ⟨s1,s2⟩:=sx hs
      refine .inl (qd M CO S hx hd s1 fun v h' φ' cv w' hl S' T=>hn _ h' φ' _ w' (s2 v h' hl) (fun y hy=>?_) S' T)
      show (x.exec p run d k r h).aO y
      rw [mE]
      exact iA hl rfl hy
     | false=>
      rw [hbw] at hs hn
      rw [if_neg (by simp)]
      exact hn _ h φ _ w hs (fun y hy=>hy) (S.put hd qe S.hr (.refl _ _ _)) (.refl _ _ _)
    ·exact (iB hs).elim
   ·exact (iB hs).elim
 ·exact (iB hs).elim
theorem Bo (n:Nat) (names:List String) (ops:Array Oper) (o:Oper):lN P G n names ops o=oH P G n names ops o∨lN P G n names ops o=pA∨
  ∃j w d t s,o.guard=some (j,w)∧lL G n o.dst=some d∧(ops[j]?).bind (·.dst)=some t∧G.sl t=some s∧lN P G n names ops o=.g (hi s) (lo s) w d (.op (.bad 405)):=by
 unfold lN
 split
 ·rename_i j w d hx hg hd
  split
  ·rename_i t ht
   split
   ·rename_i s hs
    exact .inr (.inr ⟨j,w,d,t,s,hg,hd,ht,hs,rfl⟩)
   ·exact .inr (.inl rfl)
  ·exact .inr (.inl rfl)
 ·exact .inl rfl
theorem JY {o:Oper} {i:Nat} {k:A2→Hp→RS} (M:mH P names p.ms) (CO:du P G p run) (S:St n G φ r h a w) (hoi:ops[i]?=some o) (hs:((lN P G n names ops o).exec p run k r h).Safe)
  {K:Act→World→Prop} {Q:Exit→Act→World→Prop}
  (hn:∀r' h' φ' a' w',(k r' h').Safe→(∀y,(k r' h').aO y→((lN P G n names ops o).exec p run k r h).aO y)→St n G φ' r' h' a' w'→Step φ h w φ' h' w'→K a' w'):wpOp P ops Q i K a w:=by
 rcases Bo (P:=P) (G:=G) n names ops o with e|e|⟨j,wnt,d,t,s,hg,hd,ht,hsl,e⟩
 ·rw [e] at hs hn
  exact TS M CO S hoi hs hn
 ·rw [e] at hs
  exact (iB hs).elim
 ·rw [e] at hs hn
  obtain ⟨hs256,htm⟩:=zq hsl
  change (AV.bI (gb wnt (aq (hi s) (lo s) r)) (jF d k r h (.op (.bad 405)) p run wnt) (.err 210)).Safe at hs
  obtain ⟨b,hb,e1⟩:=fh hs
  have hv:=S.aE s hs256
  rw [htm] at hv
  have hw:Region.wanted o (yielded ops a.tmps)=(b == wnt):=by
   rcases vK hb with hb2|⟨hb2,rfl⟩
   ·rw [hb2] at hv
    have hy:=lM ht hv.cM
    simp only [Region.wanted,hg,hy];cases b<;>cases wnt<;>rfl
   ·rw [hb2] at hv
    have hy:=iD (a:=a) ht (vL hv)
    simp only [Region.wanted,hg,hy];cases wnt<;>rfl
  rw [e1] at hs
  have hs:(@Bool.rec (fun _=>RS) (k (dG d di r) h) ((AI.op (.bad 405)).exec p run d k r h) (gP b wnt)).Safe:=hs
  have e1:(AV.bI (gb wnt (aq (hi s) (lo s) r)) (jF d k r h (.op (.bad 405)) p run wnt) (.err 210))=(@Bool.rec (fun _=>RS) (k (dG d di r) h) ((AI.op (.bad 405)).exec p run d k r h) (gP b wnt)):=e1
  have hn:∀r' h' φ' a' w',(k r' h').Safe→(∀y,(k r' h').aO y→(AV.bI (gb wnt (aq (hi s) (lo s) r)) (jF d k r h (.op (.bad 405)) p run wnt) (.err 210)).aO y)→St n G φ' r' h' a' w'→Step φ h w φ' h' w'→K a' w':=hn
  rw [e1] at hn
  rw [vM] at hs hn
  unfold wpOp
  simp only [hoi]
  rw [hw]
  cases hbw:(b == wnt) with
  | true=>rw [hbw] at hs;exact (RS.Safe.err (n:=405) hs).elim
  | false=>
   rw [hbw] at hs hn
   rw [if_neg (by simp)]
   exact hn _ h φ _ w hs (fun y hy=>hy) (S.put hd qe S.hr (.refl _ _ _)) (.refl _ _ _)
theorem yu (M:mH P names p.ms) (CO:du P G p run) {Q:Exit→Act→World→Prop}:∀(os pre:List Oper) (r:A2) (h:Hp) (φ:aJ) (a:Act) (w:World),ops.toList=pre ++ os→St n G φ r h a w→
  (gI p run (os.map fun o=>lN P G n names ops o) r h).Safe→
  (∀r' h' φ' a' w',(gI p run (os.map fun o=>lN P G n names ops o) r h).aO (.nm r' h')→St n G φ' r' h' a' w'→Step φ h w φ' h' w'→Q .normal a' w')→
  wpOps P ops Q (List.range' pre.length os.length) a w
 | [],pre,r,h,φ,a,w,_,S,_,hQ=>hQ r h φ a w (.nm _ _) S (.refl _ _ _)
 | o::os,pre,r,h,φ,a,w,e,S,hs,hQ=>by
  have hoi:ops[pre.length]?=some o:=by rw [←Array.getElem?_toList,e];simp
  rw [List.length_cons,List.range'_succ,wpOps_cons]
  have hs:((lN P G n names ops o).exec p run (gI p run (os.map fun o=>lN P G n names ops o)) r h).Safe:=hs
  refine JY M CO S hoi hs fun r' h' φ' a' w' s1 s2 S' T=>?_
  have:=yu M CO os (pre ++ [o]) r' h' φ' a' w' (by rw [e];simp) S' s1 (Q:=Q) fun r'' h'' φ'' a'' w'' hl S'' T'=>hQ r'' h'' φ'' a'' w'' (s2 _ hl) S'' (T.trans T')
  simpa using this
variable {P:Program} {φ φ':aJ} {h h':Hp} {w w':World} {v:AV} {r:A2} {a:Act} {cv:Value} {n:Nat} {G:Gl} {names:List String} {p:Pg} {run:gg} {ops:Array Oper}
section
variable {kn:A2→Hp→RS} {ke:Nat→A2→Hp→RS} {kg:Nat→A2→Hp→RS}
theorem cN {y:RS}:∀{x z:RS},x.aO z→z=.nm r h→(kn r h).aO y→(RS.bind x kn ke kg).aO y
 | _,_,.nm r h,e,g=>by cases e;exact g
 | _,_,.ex ..,e,_=>by cases e
 | _,_,.go ..,e,_=>by cases e
 | _,_,.ret ..,e,_=>by cases e
 | _,_,.err ..,e,_=>by cases e
 | _,_,.ch n k c y' hc hl,e,g=>.ch n _ c _ hc (cN hl e g)
theorem dg {i:Nat} {y:RS}:∀{x z:RS},x.aO z→z=.ex i r h→(ke i r h).aO y→(RS.bind x kn ke kg).aO y
 | _,_,.nm ..,e,_=>by cases e
 | _,_,.ex ..,e,g=>by cases e;exact g
 | _,_,.go ..,e,_=>by cases e
 | _,_,.ret ..,e,_=>by cases e
 | _,_,.err ..,e,_=>by cases e
 | _,_,.ch n k c y' hc hl,e,g=>.ch n _ c _ hc (dg hl e g)
theorem cP {i:Nat} {y:RS}:∀{x z:RS},x.aO z→z=.go i r h→(kg i r h).aO y→(RS.bind x kn ke kg).aO y
 | _,_,.nm ..,e,_=>by cases e
 | _,_,.ex ..,e,_=>by cases e
 | _,_,.go ..,e,g=>by cases e;exact g
 | _,_,.ret ..,e,_=>by cases e
 | _,_,.err ..,e,_=>by cases e
 | _,_,.ch n k c y' hc hl,e,g=>.ch n _ c _ hc (cP hl e g)
theorem dp:∀{x z:RS},x.aO z→z=.ret r h→(RS.bind x kn ke kg).aO (.ret r h)
 | _,_,.nm ..,e=>by cases e
 | _,_,.ex ..,e=>by cases e
 | _,_,.go ..,e=>by cases e
 | _,_,.ret ..,e=>by cases e;exact .ret _ _
 | _,_,.err ..,e=>by cases e
 | _,_,.ch n k c y' hc hl,e=>.ch n _ c _ hc (dp hl e)
theorem kU {i:Nat}:∀{x z:RS},x.aO z→z=.err i→(RS.bind x kn ke kg).aO (.err i)
 | _,_,.nm ..,e=>by cases e
 | _,_,.ex ..,e=>by cases e
 | _,_,.go ..,e=>by cases e
 | _,_,.ret ..,e=>by cases e
 | _,_,.err ..,e=>by cases e;exact .err _
 | _,_,.ch n k c y' hc hl,e=>.ch n _ c _ hc (kU hl e)
theorem fK {x:RS} (hs:(RS.bind x kn ke kg).Safe):x.Safe:=fun n hl=>hs n (kU hl rfl)
theorem iE {x:RS} (hs:(RS.bind x kn ke kg).Safe) (hl:x.aO (.nm r h)):(kn r h).Safe:=fun n g=>hs n (cN hl rfl g)
theorem vN {i:Nat} {x:RS} (hs:(RS.bind x kn ke kg).Safe) (hl:x.aO (.go i r h)):(kg i r h).Safe:=fun n g=>hs n (cP hl rfl g)
end
inductive Ends:RS→Exit→A2→Hp→Prop
 | nm (r:A2) (h:Hp):Ends (.nm r h) .normal r h
 | ex (i:Nat) (r:A2) (h:Hp):Ends (.ex i r h) (.exit i) r h
 | go (i:Nat) (r:A2) (h:Hp):Ends (.go i r h) (.goto i) r h
 | ret (r:A2) (h:Hp):Ends (.ret r h) .ret r h
def aZ (n:Nat) (G:Gl) (φ:aJ) (h:Hp) (w:World) (x:RS):Exit→Act→World→Prop:=fun e a' w'=>∃y r' h' φ',x.aO y∧Ends y e r' h'∧St n G φ' r' h' a' w'∧Step φ h w φ' h' w'
def mJ (P:Program) (c:Code) (Q:Exit→Act→World→Prop) (a:Act) (w:World):Prop:=
 ∀(b:Frame) (k:List Item) (cs:List Frame),∃e a' w',Q e a' w'∧Arrives P (lone (b.at a (.code c::.inLoop c::k)) cs w) b k cs e a' w'
theorem pB {c:Code} {Q:Exit→Act→World→Prop} (hl:mJ P c Q a w):(Code.loop c).wp P Q a w:=fun b k cs=>
 let ⟨e,a',w',q,g⟩:=hl b k cs;⟨e,a',w',q,.of_steps (.one step_loop) g⟩
theorem mK {c:Code} {Q:Exit→Act→World→Prop} (hc:c.wp P (Exit.then (mJ P c Q) Q) a w):mJ P c Q a w:=by
 intro b k cs
 obtain ⟨e,a₁,w₁,hq,harr⟩:=hc b (.inLoop c::k) cs
 cases e with
 | normal=>
  obtain ⟨e₂,a₂,w₂,hq₂,harr₂⟩:=hq b k cs
  exact ⟨e₂,a₂,w₂,hq₂,.of_steps (Steps.trans harr (.one step_inLoop)) harr₂⟩
 | exit id=>exact ⟨_,a₁,w₁,hq,.pass (x:=.inLoop c) rfl (fun _ _=>.inl (by simp)) harr⟩
 | goto l=>exact ⟨_,a₁,w₁,hq,.pass (x:=.inLoop c) rfl (fun _ _=>.inl (by simp)) harr⟩
 | ret=>exact ⟨_,a₁,w₁,hq,.pass (x:=.inLoop c) rfl (fun _ _=>.inl (by simp)) harr⟩
 | panic ch=>exact ⟨_,a₁,w₁,hq,.pass (x:=.inLoop c) rfl (fun _ _=>.inl (by simp)) harr⟩
 | outgrown=>exact ⟨_,a₁,w₁,hq,.pass (x:=.inLoop c) rfl (fun _ _=>.inl (by simp)) harr⟩
def vO (P:Program) (s c:Code) (Q:Exit→Act→World→Prop) (a:Act) (w:World):Prop:=
 ∀(b:Frame) (k:List Item) (cs:List Frame),∃e a' w',Q e a' w'∧Arrives P (lone (b.at a (.code c::.inScope s::k)) cs w) b k cs e a' w'
def Exit.inScope (P:Program) (s:Code) (Q:Exit→Act→World→Prop):Exit→Act→World→Prop
 | .goto l,a,w=>match findLabel s l with
  | some c=>vO P s c Q a w
  | none=>Q (.goto l) a w
 | e,a,w=>Q e a w
theorem yv {c:Code} {Q:Exit→Act→World→Prop} (hl:vO P c c Q a w):(Code.scope c).wp P Q a w:=fun b k cs=>
 let ⟨e,a',w',q,g⟩:=hl b k cs;⟨e,a',w',q,.of_steps (.one step_scope) g⟩
theorem Io {s c:Code} {Q:Exit→Act→World→Prop} (hc:c.wp P (Exit.inScope P s Q) a w):vO P s c Q a w:=by
 intro b k cs
 obtain ⟨e,a₁,w₁,hq,harr⟩:=hc b (.inScope s::k) cs
 cases e with
 | normal=>exact ⟨.normal,a₁,w₁,hq,Steps.trans harr (.one step_inScope)⟩
 | exit id=>exact ⟨.exit id,a₁,w₁,hq,fun k' hk=>harr k' (by simp [exitTo,hk])⟩
 | goto l=>
  simp only [Exit.inScope] at hq
  split at hq
  ·rename_i rest hf
   obtain ⟨e₂,a₂,w₂,hq₂,harr₂⟩:=hq b k cs
   exact ⟨e₂,a₂,w₂,hq₂,.of_steps (harr _ (by simp [gotoIn,hf])) harr₂⟩
  ·rename_i hf
   exact ⟨.goto l,a₁,w₁,hq,fun k' hk=>harr k' (by simp [gotoIn,hf,hk])⟩
 | ret=>exact ⟨_,a₁,w₁,hq,harr⟩
 | panic ch=>exact ⟨_,a₁,w₁,hq,harr⟩
 | outgrown=>exact ⟨_,a₁,w₁,hq,harr⟩
theorem aA {b c:Bool} (e:(@Bool.rec (fun _=>Bool) false c b)=true):b=true∧c=true:=by cases b<;>first|exact ⟨rfl,e⟩|cases e
theorem pS {b c:Bool} (e:Bool.and b c=true):b=true∧c=true:=by cases b<;>cases c<;>first|exact ⟨rfl,rfl⟩|cases e
theorem ew {a b:Nat} (e:Nat.beq a b=true):a=b:=Nat.eq_of_beq_eq_true e
theorem sE {a b:Bool} (e:gP a b=true):a=b:=by cases a<;>cases b<;>first|rfl|cases e
theorem dj {x y:AV} (e:dk x y=true):x=y:=by
 cases x<;>cases y<;>(try (cases e;done))
 ·rename_i a b;exact congrArg _ (sE e)
 ·rename_i k a k' b
  obtain ⟨h1,h2⟩:=aA (show (@Bool.rec (fun _=>Bool) false (uh a b) (mL k k'))=true from e)
  have h1:=fO h1
  have h2:a=b:=by rw [jG] at h2;exact of_decide_eq_true h2
  subst h1 h2;rfl
 ·rename_i a b
  have h2:jH a b=true:=e
  rw [sF] at h2
  exact congrArg _ (of_decide_eq_true h2)
 ·rename_i k a k' b
  obtain ⟨h1,h2⟩:=pS (show Bool.and (vP k k') (Nat.beq a b)=true from e)
  have h1:=gX h1
  have h2:=ew h2
  subst h1 h2;rfl
 ·rename_i k a b k' c d
  obtain ⟨h1,h2⟩:=pS (show Bool.and (vP k k') (Bool.and (Nat.beq a c) (Nat.beq b d))=true from e)
  obtain ⟨h2,h3⟩:=pS h2
  have h1:=gX h1
  have h2:=ew h2
  have h3:=ew h3
  subst h1 h2 h3;rfl
 ·rename_i i o j q
  obtain ⟨h1,h2⟩:=pS (show Bool.and (lO i j) (Nat.beq o q)=true from e)
  have h1:=eB.1 h1
  have h2:=ew h2
  subst h1 h2;rfl
 ·rfl
 ·rename_i i a b c j d e' f
  obtain ⟨h1,h2⟩:=pS (show Bool.and (lO i j) (Bool.and (Nat.beq a d) (Bool.and (Nat.beq b e') (Nat.beq c f)))=true from e)
  obtain ⟨h2,h3⟩:=pS h2
  obtain ⟨h3,h4⟩:=pS h3
  have h1:=eB.1 h1
  have h2:=ew h2
  have h3:=ew h3
  have h4:=ew h4
  subst h1 h2 h3 h4;rfl
 ·rename_i i a b c j d e' f
  obtain ⟨h1,h2⟩:=pS (show Bool.and (lO i j) (Bool.and (Nat.beq a d) (Bool.and (Nat.beq b e') (Nat.beq c f)))=true from e)
  obtain ⟨h2,h3⟩:=pS h2
  obtain ⟨h3,h4⟩:=pS h3
  have h1:=eB.1 h1
  have h2:=ew h2
  have h3:=ew h3
  have h4:=ew h4
  subst h1 h2 h3 h4;rfl
 ·rfl
 ·rename_i i j;exact congrArg _ (eB.1 e)
 ·rfl
 ·rfl
 ·rfl
theorem sG:∀{a b:List AV},xa a b=true→a=b
 | [],[],_=>rfl
 | [],_::_,e=>by cases e
 | _::_,[],e=>by cases e
 | x::a,y::b,e=>by
  obtain ⟨h1,h2⟩:=aA (show (@Bool.rec (fun _=>Bool) false (xa a b) (dk x y))=true from e)
  rw [dj h1,sG h2]
theorem xb {x y:AV} (e:sH x y=true):x=y:=by
 by_cases hx:∃l,x=.agg l
 ·obtain ⟨l,rfl⟩:=hx
  cases y<;>(try (cases e;done))
  exact congrArg _ (sG e)
 ·have:sH x y=dk x y:=by cases x<;>first|rfl|exact absurd ⟨_,rfl⟩ hx
  exact dj (this▸e)
theorem xc {x y:AV} (e:uE x y=true):x=y:=by
 by_cases hx:∃f l,x=.fn f l
 ·obtain ⟨f,l,rfl⟩:=hx
  cases y<;>(try (cases e;done))
  rename_i g m
  obtain ⟨h1,h2⟩:=pS (show Bool.and (Nat.beq f g) (xa l m)=true from e)
  rw [ew h1,sG h2]
 ·by_cases hi:∃t u,x=.iface t u
  ·obtain ⟨t,u,rfl⟩:=hi
   cases y<;>(try (cases e;done))
   rename_i t' u'
   obtain ⟨h1,h2⟩:=pS (show Bool.and (Nat.beq t t') (sH u u')=true from e)
   rw [ew h1,xb h2]
  ·have:uE x y=sH x y:=by cases x<;>first|rfl|exact absurd ⟨_,_,rfl⟩ hx|exact absurd ⟨_,_,rfl⟩ hi
   exact xb (this▸e)
theorem sI:∀{a b:List AV},xd a b=true→a=b
 | [],[],_=>rfl
 | [],_::_,e=>by cases e
 | _::_,[],e=>by cases e
 | x::a,y::b,e=>by
  obtain ⟨h1,h2⟩:=aA (show (@Bool.rec (fun _=>Bool) false (xd a b) (uE x y))=true from e)
  rw [xc h1,sI h2]
theorem qg {x y:AV} (e:same x y=true):x=y:=by
 by_cases hx:∃l,x=.aW l
 ·obtain ⟨l,rfl⟩:=hx
  cases y<;>(try (cases e;done))
  exact congrArg _ (sI e)
 ·have:same x y=uE x y:=by cases x<;>first|rfl|exact absurd ⟨_,rfl⟩ hx
  exact xc (this▸e)
theorem Dl {x:AV} (e:Nz x=true):x=.undef:=by cases x<;>first|rfl|cases e
theorem dA {x y:AV} (e:wM x y=true):x=y:=by
 have e:(@Bool.rec (fun _=>Bool) (same x y) (Nz y) (Nz x))=true:=e
 cases hx:Nz x with
 | true=>rw [hx] at e;rw [Dl hx,Dl e]
 | false=>rw [hx] at e;exact qg e
theorem A1.eq_eq {x y:A1} (e:A1.eq x y=true):x=y:=by
 cases x with
 | nil=>cases y with
  | nil=>rfl
  | mk=>cases e
 | mk=>cases y with
  | nil=>cases e
  | mk=>
   obtain ⟨e0,e⟩:=aA e;obtain ⟨e1,e⟩:=aA e;obtain ⟨e2,e⟩:=aA e;obtain ⟨e3,e⟩:=aA e;obtain ⟨e4,e⟩:=aA e;obtain ⟨e5,e⟩:=aA e;obtain ⟨e6,e⟩:=aA e;obtain ⟨e7,e⟩:=aA e
   obtain ⟨e8,e⟩:=aA e;obtain ⟨e9,e⟩:=aA e;obtain ⟨ea,e⟩:=aA e;obtain ⟨eb,e⟩:=aA e;obtain ⟨ec,e⟩:=aA e;obtain ⟨ed,e⟩:=aA e;obtain ⟨ee,e⟩:=aA e
   rw [dA e0,dA e1,dA e2,dA e3,dA e4,dA e5,dA e6,dA e7,dA e8,dA e9,dA ea,dA eb,dA ec,dA ed,dA ee,dA e]
theorem A2.eq_eq {x y:A2} (e:A2.eq x y=true):x=y:=by
 cases x with
 | nil=>cases y with
  | nil=>rfl
  | mk=>cases e
 | mk=>cases y with
  | nil=>cases e
  | mk=>
   obtain ⟨e0,e⟩:=aA e;obtain ⟨e1,e⟩:=aA e;obtain ⟨e2,e⟩:=aA e;obtain ⟨e3,e⟩:=aA e;obtain ⟨e4,e⟩:=aA e;obtain ⟨e5,e⟩:=aA e;obtain ⟨e6,e⟩:=aA e;obtain ⟨e7,e⟩:=aA e
   obtain ⟨e8,e⟩:=aA e;obtain ⟨e9,e⟩:=aA e;obtain ⟨ea,e⟩:=aA e;obtain ⟨eb,e⟩:=aA e;obtain ⟨ec,e⟩:=aA e;obtain ⟨ed,e⟩:=aA e;obtain ⟨ee,e⟩:=aA e
   rw [A1.eq_eq e0,A1.eq_eq e1,A1.eq_eq e2,A1.eq_eq e3,A1.eq_eq e4,A1.eq_eq e5,A1.eq_eq e6,A1.eq_eq e7,A1.eq_eq e8,A1.eq_eq e9,A1.eq_eq ea,A1.eq_eq eb,A1.eq_eq ec,A1.eq_eq ed,A1.eq_eq ee,A1.eq_eq e]
theorem A3.eq_eq {x y:A3} (e:A3.eq x y=true):x=y:=by
 cases x with
 | nil=>cases y with
  | nil=>rfl
  | mk=>cases e
 | mk=>cases y with
  | nil=>cases e
  | mk=>
   obtain ⟨e0,e⟩:=aA e;obtain ⟨e1,e⟩:=aA e;obtain ⟨e2,e⟩:=aA e;obtain ⟨e3,e⟩:=aA e;obtain ⟨e4,e⟩:=aA e;obtain ⟨e5,e⟩:=aA e;obtain ⟨e6,e⟩:=aA e;obtain ⟨e7,e⟩:=aA e
   obtain ⟨e8,e⟩:=aA e;obtain ⟨e9,e⟩:=aA e;obtain ⟨ea,e⟩:=aA e;obtain ⟨eb,e⟩:=aA e;obtain ⟨ec,e⟩:=aA e;obtain ⟨ed,e⟩:=aA e;obtain ⟨ee,e⟩:=aA e
   rw [A2.eq_eq e0,A2.eq_eq e1,A2.eq_eq e2,A2.eq_eq e3,A2.eq_eq e4,A2.eq_eq e5,A2.eq_eq e6,A2.eq_eq e7,A2.eq_eq e8,A2.eq_eq e9,A2.eq_eq ea,A2.eq_eq eb,A2.eq_eq ec,A2.eq_eq ed,A2.eq_eq ee,A2.eq_eq e]
theorem A4.eq_eq {x y:A4} (e:A4.eq x y=true):x=y:=by
 cases x with
 | nil=>cases y with
  | nil=>rfl
  | mk=>cases e
 | mk=>cases y with
  | nil=>cases e
  | mk=>
   obtain ⟨e0,e⟩:=aA e;obtain ⟨e1,e⟩:=aA e;obtain ⟨e2,e⟩:=aA e;obtain ⟨e3,e⟩:=aA e;obtain ⟨e4,e⟩:=aA e;obtain ⟨e5,e⟩:=aA e;obtain ⟨e6,e⟩:=aA e;obtain ⟨e7,e⟩:=aA e
   obtain ⟨e8,e⟩:=aA e;obtain ⟨e9,e⟩:=aA e;obtain ⟨ea,e⟩:=aA e;obtain ⟨eb,e⟩:=aA e;obtain ⟨ec,e⟩:=aA e;obtain ⟨ed,e⟩:=aA e;obtain ⟨ee,e⟩:=aA e
   rw [A3.eq_eq e0,A3.eq_eq e1,A3.eq_eq e2,A3.eq_eq e3,A3.eq_eq e4,A3.eq_eq e5,A3.eq_eq e6,A3.eq_eq e7,A3.eq_eq e8,A3.eq_eq e9,A3.eq_eq ea,A3.eq_eq eb,A3.eq_eq ec,A3.eq_eq ed,A3.eq_eq ee,A3.eq_eq e]
theorem Cl.eq_eq {x y:Cl} (e:Cl.eq x y=true):x=y:=by
 cases x<;>cases y<;>(try (cases e;done))
 ·exact congrArg _ (A1.eq_eq e)
 ·exact congrArg _ (A2.eq_eq e)
 ·exact congrArg _ (A3.eq_eq e)
 ·exact congrArg _ (A4.eq_eq e)
theorem Fl.eq_eq {x y:Fl} (e:Fl.eq x y=true):x=y:=by cases x<;>cases y<;>first|rfl|cases e
theorem Ip {x y:KV} (e:NA x y=true):x=y:=by
 cases x;cases y
 obtain ⟨h1,h2⟩:=aA e
 obtain ⟨h2,h3⟩:=aA h2
 rw [ew h1,qg h2,dA h3]
theorem xe:∀{a b:List KV},Dm a b=true→a=b
 | [],[],_=>rfl
 | [],_::_,e=>by cases e
 | _::_,[],e=>by cases e
 | x::a,y::b,e=>by
  obtain ⟨h1,h2⟩:=aA (show (@Bool.rec (fun _=>Bool) false (Dm a b) (NA x y))=true from e)
  rw [Ip h1,xe h2]
theorem xf {x y:Obj} (e:sJ x y=true):x=y:=by
 cases x<;>cases y<;>(try (cases e;done))
 ·rfl
 ·obtain ⟨h1,h2⟩:=aA e
  obtain ⟨h2,h3⟩:=aA h2
  obtain ⟨h3,h4⟩:=aA h3
  obtain ⟨h4,h5⟩:=aA h4
  rw [ew h1,ew h2,sE h3,Fl.eq_eq h4,Cl.eq_eq h5]
 ·obtain ⟨h1,h2⟩:=aA e
  rw [ew h1,xe h2]
theorem zu (x y:AV):(fw x y=x∧x=y)∨fw x y=.undef:=by
 show ((@Bool.rec (fun _=>AV) .undef x (same x y))=x∧x=y)∨(@Bool.rec (fun _=>AV) .undef x (same x y))=.undef
 cases hs:same x y with
 | true=>exact .inl ⟨rfl,qg hs⟩
 | false=>exact .inr rfl
theorem oJ (x y:Obj):(aX x y=x∧x=y)∨aX x y=.dead:=by
 show ((@Bool.rec (fun _=>Obj) .dead x (sJ x y))=x∧x=y)∨(@Bool.rec (fun _=>Obj) .dead x (sJ x y))=.dead
 cases hs:sJ x y with
 | true=>exact .inl ⟨rfl,xf hs⟩
 | false=>exact .inr rfl
theorem A1.lP (d:H) (x y:A1):A1.get d (A1.mg x y)=fw (A1.get d x) (A1.get d y):=by
 cases x<;>cases y<;>cases d<;>rfl
theorem A2.lP (d:H) (x y:A2):A2.get d (A2.mg x y)=A1.mg (A2.get d x) (A2.get d y):=by
 cases x<;>cases y<;>cases d<;>rfl
theorem O1.lP (d:H) (x y:O1):O1.get d (O1.mg x y)=aX (O1.get d x) (O1.get d y):=by
 cases x<;>cases y<;>cases d<;>rfl
theorem O2.lP (d:H) (x y:O2):O2.get d (O2.mg x y)=O1.mg (O2.get d x) (O2.get d y):=by
 cases x<;>cases y<;>cases d<;>rfl
theorem O3.lP (d:H) (x y:O3):O3.get d (O3.mg x y)=O2.mg (O3.get d x) (O3.get d y):=by
 cases x<;>cases y<;>cases d<;>rfl
theorem O4.lP (d:H) (x y:O4):O4.get d (O4.mg x y)=O3.mg (O4.get d x) (O4.get d y):=by
 cases x<;>cases y<;>cases d<;>rfl
theorem zw (a b:H) (x y:A2):aq a b (A2.mg x y)=fw (aq a b x) (aq a b y):=by
 simp only [aq,A2.lP,A1.lP]
def fi (r2 r:A2):Prop:=∀a b,aq a b r2=aq a b r∨aq a b r2=.undef
def fP (h2 h:Hp):Prop:=∀i,av i h2=av i h∨av i h2=.dead
theorem fi.refl (r:A2):fi r r:=fun _ _=>.inl rfl
theorem fP.refl (h:Hp):fP h h:=fun _=>.inl rfl
theorem fi.trans {r1 r2 r3:A2} (h:fi r1 r2) (g:fi r2 r3):fi r1 r3:=fun a b=>by
 rcases h a b with e|e
 ·rw [e];exact g a b
 ·exact .inr e
theorem fP.trans {h1 h2 h3:Hp} (h:fP h1 h2) (g:fP h2 h3):fP h1 h3:=fun i=>by
 rcases h i with e|e
 ·rw [e];exact g i
 ·exact .inr e
variable {P:Program} {φ φ':aJ} {h h' h2:Hp} {w w':World} {v:AV} {r r2:A2} {a:Act} {cv:Value} {n:Nat} {G:Gl}
theorem HR.less (H:HR φ h w) (L:fP h2 h):HR φ h2 w where
 obj i hl:=by
  rcases L i with e|e
  ·rw [e] at hl ⊢;exact H.obj i hl
  ·exact absurd e hl.2
 inj i j p q hi hj:=by
  rcases L i with e|e
  ·rcases L j with e'|e'
   ·rw [e] at hi;rw [e'] at hj;exact H.inj i j p q hi hj
   ·exact absurd e' hj.2
  ·exact absurd e hi.2
 fresh i hi:=by
  rcases L i with e|e
  ·exact H.fresh i (e▸hi)
  ·rw [e] at hi;cases hi
 bound:=H.bound
theorem Step.Dn {φ₀:aJ} {h₀:Hp} {w₀:World} (S:Step φ₀ (mark h₀) w₀ φ h w) (L:fP h2 h) (F:Fr h₀ h2):Step φ₀ h₀ w₀ φ h2 w:=
 ⟨S.le,⟨S.keeps.size,S.keeps.rest,S.keeps.tape,S.keeps.os,S.keeps.output⟩,fun i p hl hp=>by
  rcases L i with e|e
  ·exact S.new i p (e▸hl) hp
  ·exact absurd e hl.2,F⟩
theorem HR.mark (H:HR φ h w):HR φ (Am.mark h) w:=⟨H.obj,H.inj,H.fresh,H.bound⟩
theorem St.mark (S:St n G φ r h a w):St n G φ r (Am.mark h) a w:=⟨S.hr.mark,S.aE,S.dz,S.size,S.fy⟩
theorem Fr.Dp {h₀:Hp} (F:Fr (Am.mark h₀) h):Fr h₀ (Am.Dp h₀ h):=by
 obtain ⟨l',e,f⟩:=F.2 [] rfl
 obtain ⟨t,n,lg⟩:=h₀
 refine ⟨fun g=>?_,fun l g=>?_⟩
 ·have g:lg=.off:=g
  subst g;rfl
 ·have g:lg=.on l:=g
  subst g
  refine ⟨l',?_,fun q hq=>f q hq⟩
  show Lg.on (ui h.log ++ l)=_
  rw [e,List.append_nil];rfl
theorem St.less (S:St n G φ r h a w) (L:fi r2 r) (M:fP h2 h):St n G φ r2 h2 a w:=
 ⟨S.hr.less M,fun t ht=>by
  rcases L (hi t) (lo t) with e|e
  ·rw [e];exact S.aE t ht
  ·rw [e];exact .undef _,S.dz,S.size,S.fy⟩
theorem sK (x y:Hp):∀(l:List P4) (h0:Hp) (q:P4),av q (oK x y l h0)=if q∈l then aX (av q x) (av q y) else av q h0
 | [],h0,q=>by rw [if_neg (by simp)];rfl
 | p::l,h0,q=>by
  show av q (oK x y l (cE p (aX (av p x) (av p y)) h0))=_
  rw [sK x y l,bj]
  by_cases e1:q∈l
  ·rw [if_pos e1,if_pos (List.mem_cons_of_mem _ e1)]
  ·rw [if_neg e1]
   by_cases e2:q=p
   ·subst e2;rw [if_pos rfl,if_pos (List.mem_cons_self ..)]
   ·rw [if_neg e2,if_neg (by simp [e1,e2])]
theorem vQ {b:Hp} (x y:Hp):∀(l:List P4) (h0:Hp),Fr b h0→Fr b (oK x y l h0)
 | [],_,F=>F
 | p::l,h0,F=>vQ x y l _ (F.trans (.set _ _ _))
theorem uF {b:Hp} (hb:b.log=.on []) {x y:RS} (hs:(yw b x y).Safe):∃r h r' h' h2,x=.nm r h∧y=.nm r' h'∧yw b x y=.nm (A2.mg r r') h2∧(Fr b h→fP h2 h)∧(Fr b h'→fP h2 h')∧Fr b h2:=by
 cases x<;>(try exact (RS.Safe.err hs).elim)
 rename_i r h
 cases y<;>(try exact (RS.Safe.err hs).elim)
 rename_i r' h'
 change RS.Safe (@Bool.rec (fun _=>RS) (.err 301) (.nm (A2.mg r r') (zx h.next (oK h h' (ui h.log) (oK h h' (ui h'.log) b)))) (lO h.next h'.next)) at hs
 have e:yw b (.nm r h) (.nm r' h')=(@Bool.rec (fun _=>RS) (.err 301) (.nm (A2.mg r r') (zx h.next (oK h h' (ui h.log) (oK h h' (ui h'.log) b)))) (lO h.next h'.next)):=rfl
 cases hp:lO h.next h'.next with
 | false=>rw [hp] at hs;exact (RS.Safe.err hs).elim
 | true=>
  rw [hp] at e
  have hg:∀q,av q (zx h.next (oK h h' (ui h.log) (oK h h' (ui h'.log) b)))=if q∈ui h.log then aX (av q h) (av q h') else if q∈ui h'.log then aX (av q h) (av q h') else av q b:=fun q=>by
   show av q (oK h h' (ui h.log) (oK h h' (ui h'.log) b))=_
   rw [sK,sK]
  have key:∀g:Hp,Fr b g→∀q,q ∉ ui g.log→av q g=av q b:=fun g F q hq=>by
   obtain ⟨l',e1,f1⟩:=F.2 [] hb
   rw [e1,List.append_nil] at hq
   exact f1 q hq
  refine ⟨r,_,r',_,_,rfl,rfl,e,fun F q=>?_,fun F q=>?_,?_⟩
  ·rw [hg]
   by_cases e1:q∈ui h.log
   ·rw [if_pos e1]
    rcases oJ (av q h) (av q h') with ⟨g1,_⟩|g1
    ·exact .inl g1
    ·exact .inr g1
   ·rw [if_neg e1]
    by_cases e2:q∈ui h'.log
    ·rw [if_pos e2]
     rcases oJ (av q h) (av q h') with ⟨g1,_⟩|g1
     ·exact .inl g1
     ·exact .inr g1
    ·rw [if_neg e2];exact .inl (key h F q e1).symm
  ·rw [hg]
   have hm:aX (av q h) (av q h')=av q h'∨aX (av q h) (av q h')=.dead:=by
    rcases oJ (av q h) (av q h') with ⟨g1,g2⟩|g1
    ·exact .inl (g1.trans g2)
    ·exact .inr g1
   by_cases e1:q∈ui h.log
   ·rw [if_pos e1];exact hm
   ·rw [if_neg e1]
    by_cases e2:q∈ui h'.log
    ·rw [if_pos e2];exact hm
    ·rw [if_neg e2];exact .inl (key h' F q e2).symm
  ·have:=vQ h h' (ui h.log) _ (vQ h h' (ui h'.log) b (.refl b))
   exact ⟨this.1,this.2⟩
theorem fi.TT (r r':A2):fi (A2.mg r r') r:=fun a b=>by
 rw [zw]
 rcases zu (aq a b r) (aq a b r') with ⟨g1,_⟩|g1
 ·exact .inl g1
 ·exact .inr g1
theorem fi.TU (r r':A2):fi (A2.mg r r') r':=fun a b=>by
 rw [zw]
 rcases zu (aq a b r) (aq a b r') with ⟨g1,g2⟩|g1
 ·exact .inl (g1.trans g2)
 ·exact .inr g1
theorem Bp {β:Type} (z:β) (s:Nat→β→β) (m:Nat):oL z s (m+1)=s m (oL z s m):=rfl
theorem Dq {b:Hp} (hb:b.log=.on []) {f:Nat→RS}:∀m,(oL (f 0) (fun m ih=>yw b ih (f (Nat.succ m))) (m+1)).Safe→∃R H,oL (f 0) (fun m ih=>yw b ih (f (Nat.succ m))) (m+1)=.nm R H∧Fr b H∧∀c,c≤m+1→∃r h,f c=.nm r h∧fi R r∧(Fr b h→fP H h)
 | 0,hs=>by
  obtain ⟨r,h,r',h',h2,e1,e2,e3,l1,l2,l3⟩:=uF hb (x:=f 0) (y:=f 1) hs
  refine ⟨_,_,e3,l3,fun c hc=>?_⟩
  rcases Nat.lt_or_ge c 1 with g|g
  ·obtain rfl:c=0:=by omega
   exact ⟨r,h,e1,.TT _ _,l1⟩
  ·obtain rfl:c=1:=by omega
   exact ⟨r',h',e2,.TU _ _,l2⟩
 | m+1,hs=>by
  rw [Bp] at hs ⊢
  obtain ⟨r,h,r',h',h2,e1,e2,e3,l1,l2,l3⟩:=uF hb hs
  obtain ⟨R,H,g1,g3,g2⟩:=Dq hb m (by rw [e1];exact fun n hn=>by cases hn)
  rw [e1] at g1;cases g1
  refine ⟨_,_,e3,l3,fun c hc=>?_⟩
  rcases Nat.lt_or_ge c (m+2) with g|g
  ·obtain ⟨rc,hc',f1,f2,f3⟩:=g2 c (by omega)
   exact ⟨rc,hc',f1,(fi.TT _ _).trans f2,fun F=>(l1 g3).trans (f3 F)⟩
  ·obtain rfl:c=m+2:=by omega
   exact ⟨r',h',e2,.TU _ _,l2⟩
theorem Iq {b:Hp} (hb:b.log=.on []):∀x:RS,(jd b x).Safe→x.Safe∧∀y,x.aO y→∀e r' h',Ends y e r' h'→Fr b h'→∃y2 r2 h2,(jd b x).aO y2∧Ends y2 e r2 h2∧fi r2 r'∧fP h2 h'∧Fr b h2:=by
  intro x
  induction x with
  | nm r h=>exact fun hs=>⟨hs,fun y hy e r' h' he F=>⟨y,r',h',hy,he,.refl _,.refl _,F⟩⟩
  | ex i r h=>exact fun hs=>⟨hs,fun y hy e r' h' he F=>⟨y,r',h',hy,he,.refl _,.refl _,F⟩⟩
  | go i r h=>exact fun hs=>⟨hs,fun y hy e r' h' he F=>⟨y,r',h',hy,he,.refl _,.refl _,F⟩⟩
  | ret r h=>exact fun hs=>⟨hs,fun y hy e r' h' he F=>⟨y,r',h',hy,he,.refl _,.refl _,F⟩⟩
  | err n=>exact fun hs=>(RS.Safe.err hs).elim
  | ch n k ih=>
    intro hs
    have e0:jd b (.ch n k)=Dr b n (fun i=>jd b (k i)):=rfl
    rw [e0] at hs ⊢
    cases n with
    | zero=>exact (RS.Safe.err hs).elim
    | succ n=>
      cases n with
      | zero=>
        have hs:(jd b (k 0)).Safe:=hs
        obtain ⟨s1,s2⟩:=ih 0 hs
        refine ⟨fun m hm=>?_,fun y hy e r' h' he F=>?_⟩
        · cases hm with
          | ch _ _ c _ hc hl => obtain rfl : c = 0 := by omega
                                exact s1 m hl
        · cases hy with
          | ch _ _ c _ hc hl => obtain rfl : c = 0 := by omega
                                exact s2 y hl e r' h' he F
      | succ m=>
        have hs:(oL (jd b (k 0)) (fun m ih=>yw b ih (jd b (k (Nat.succ m)))) (m+1)).Safe:=hs
        obtain ⟨R,H,g1,g3,g2⟩:=Dq hb (f:=fun i=>jd b (k i)) m hs
        have e1:Dr b (m+1+1) (fun i=>jd b (k i))=.nm R H:=g1
        rw [e1]
        have hk:∀c,c < m+1+1→(jd b (k c)).Safe:=fun c hc=>by
          obtain ⟨rc,hc',f1,_,_⟩:=g2 c (by omega)
          rw [f1];exact fun n hn=>by cases hn
        refine ⟨fun j hj=>?_,fun y hy e r' h' he F=>?_⟩
        · cases hj with
          | ch _ _ c _ hc hl=>exact (ih c (hk c hc)).1 j hl
        · cases hy with
          | ch _ _ c _ hc hl=>
            obtain ⟨y2,r2,h2,q1,q2,q3,q4,q5⟩:=(ih c (hk c hc)).2 y hl e r' h' he F
            obtain ⟨rc,hc',f1,f2,f3⟩:=g2 c (by omega)
            have f1:jd b (k c)=.nm rc hc':=f1
            rw [f1] at q1
            cases q1
            cases q2
            exact ⟨_,R,H,.nm _ _,.nm _ _,f2.trans q3,(f3 q5).trans q4,g3⟩
theorem kG (b:Hp):∀x y:RS,x.aO y→(pT b x).aO (pT b y)
 | _,_,.nm _ _=>.nm _ _
 | _,_,.ex _ _ _=>.ex _ _ _
 | _,_,.go _ _ _=>.go _ _ _
 | _,_,.ret _ _=>.ret _ _
 | _,_,.err _=>.err _
 | _,_,.ch n k c y hc hl=>.ch n _ c _ hc (kG b _ _ hl)
theorem uG {b:Hp} {x:RS} (hs:(pT b x).Safe):x.Safe:=fun n hn=>hs n (kG b _ _ hn)
theorem uH {b:Hp} {y:RS} {e:Exit} (he:Ends y e r h):Ends (pT b y) e r (Dp b h):=by
 cases he with
 | nm=>exact .nm _ _
 | ex=>exact .ex _ _ _
 | go=>exact .go _ _ _
 | ret=>exact .ret _ _
theorem mM {b:Hp} {x:RS} (hs:(fj b x).Safe):x.Safe∧∀y,x.aO y→∀e r' h',Ends y e r' h'→Fr (Am.mark b) h'→∃y2 r2 h2,(fj b x).aO y2∧Ends y2 e r2 h2∧fi r2 r'∧fP h2 h'∧Fr b h2:=by
 obtain ⟨s1,s2⟩:=Iq (b:=Am.mark b) rfl x (uG hs)
 refine ⟨s1,fun y hy e r' h' he F=>?_⟩
 obtain ⟨y2,r2,h2,q1,q2,q3,q4,q5⟩:=s2 y hy e r' h' he F
 exact ⟨_,r2,Dp b h2,kG b _ _ q1,uH q2,q3,fun i=>q4 i,q5.Dp⟩
theorem aZ.pT {x:RS} {e:Exit} {a':Act} {w':World} (hq:aZ n G φ (Am.mark h) w x e a' w'):aZ n G φ h w (Am.pT h x) e a' w':=by
 obtain ⟨y,r',h',φ',hl,he,S',T⟩:=hq
 exact ⟨_,r',Dp h h',φ',kG h _ _ hl,uH he,⟨⟨S'.hr.obj,S'.hr.inj,S'.hr.fresh,S'.hr.bound⟩,S'.aE,S'.dz,S'.size,S'.fy⟩,T.Dn (fun _=>.inl rfl) T.fr.Dp⟩
variable {P:Program} {φ φ':aJ} {h h' h2:Hp} {w w':World} {v:AV} {r r2:A2} {a:Act} {cv:Value} {n:Nat} {G:Gl} [NB G] {names:List String} {p:Pg} {run:gg}
theorem Ir {x:AO} {cx:Value} (H:HR φ h w) (hx:VR φ (ev x r) cx) {t:TypeId} {d:TypeDesc} (hd:P.underlying t=some d) (ha:qh P t=false) (e:gQ x r h=.ok v h') :
  h'=h∧∃ad cv,cx=.pointer (some ad)∧(loadVar t ad).run P w=.ok cv w∧VR φ v cv:=by
 obtain ⟨i,o,ex,e1⟩:=cn e
 rw [ex] at hx
 obtain ⟨el,n,ex,fl,c,hi,e2⟩:=aQ e1
 obtain ⟨hb,e3⟩:=aB e2
 obtain ⟨rfl,rfl⟩:=RV.au e3
 cases hx with
 | ptr _ _ p hp=>
  obtain ⟨cv,h1,h2,h3⟩:=H.cell hi hp (jI hb)
  exact ⟨rfl,_,cv,rfl,by simp [loadVar,fL hd,ha,h1],h2⟩
theorem It {x:AO} {cx:Value} (H:HR φ h w) (hx:VR φ (ev x r) cx) {t:TypeId} {d:TypeDesc} (hd:P.underlying t=some d) (ha:qh P t=true) {m:Nat} (hm:bk P t=m) (e:pC m x r h=.ok v h') :
  h'=h∧∃ad cv,cx=.pointer (some ad)∧(loadVar t ad).run P w=.ok cv w∧VR φ v cv:=by
 obtain ⟨i,o,ex,e1⟩:=cn e
 rw [ex] at hx
 obtain ⟨el,n,ex,fl,c,hi,e2⟩:=aQ e1
 obtain ⟨hb,e3⟩:=aB e2
 obtain ⟨rfl,rfl⟩:=RV.au e3
 obtain ⟨inf,hinf⟩:=gm hd
 cases hx with
 | ptr _ _ p hp=>
  obtain ⟨l,h1,h2,h3,h4⟩:=H.values hi hp m o (by simpa using hb)
  have hsz:inf.size=m:=by rw [←cu hinf,hm]
  exact ⟨rfl,_,_,rfl,by simp [loadVar,fL hd,ha,aN hinf,hsz,run_loadCells h1 h4],.agg _ l h2 h3⟩
def xg (a:Act):ResultVar→Sem Value:=fun
 | .tmp t=>pure (a.tmps.getD t undef)
 | .cell b t=>do loadVar t (←asAddr (a.tmps.getD b undef))
theorem Iu {s:Rs} {rv:ResultVar} (S:St n G φ r h a w) (hs:NC P n rv=some s) (he:Iw s r h=.ok v h'):h'=h∧∃cv,(xg a rv).run P w=.ok cv w∧VR φ v cv:=by
 cases rv with
 | tmp t=>
  simp only [NC] at hs
  split at hs
  ·rename_i ht
   cases hs
   obtain ⟨rfl,rfl⟩:=RV.au he
   exact ⟨rfl,_,rfl,S.Nw t ht⟩
  ·cases hs
 | cell b t=>
  simp only [NC] at hs
  split at hs
  ·cases hs
  ·rename_i hu
   obtain ⟨d,hd⟩:=fE hu
   split at hs
   ·rename_i ht
    have hv:VR φ (ev (.t (hi b) (lo b)) r) (a.tmps.getD b undef):=S.Nw b ht
    have key:h'=h∧∃ad cv,a.tmps.getD b undef=.pointer (some ad)∧(loadVar t ad).run P w=.ok cv w∧VR φ v cv:=by
     cases ha:qh P t with
     | true=>
      rw [ha] at hs
      cases hs
      exact It S.hr hv hd ha rfl he
     | false=>
      rw [ha] at hs
      cases hs
      exact Ir S.hr hv hd ha he
    obtain ⟨e1,ad,cv,e2,e3,e4⟩:=key
    refine ⟨e1,cv,?_,e4⟩
    have:(asAddr (.pointer (some ad))).run P w=.ok ad w:=rfl
    simp only [xg,e2,Sem.run_bind,this,Result.andThen_ok,e3]
   ·cases hs
theorem zy (S:St n G φ r h a w):∀{l:List ResultVar} {rs:List Rs} {k:List AV→RV},l.mapM (NC P n)=some rs→ND rs r h k=.ok v h'→∃vs cs,k vs=.ok v h'∧(l.mapM (xg a)).run P w=.ok cs w∧bX φ vs cs
 | [],rs,k,hl,he=>by
  simp at hl;subst hl
  exact ⟨[],[],he,rfl,.nil⟩
 | x::l,rs,k,hl,he=>by
  simp only [List.mapM_cons,Option.pure_def,Option.bind_eq_bind,Option.bind_eq_some_iff,Option.some.injEq] at hl
  obtain ⟨s,hs,rs,hrs,rfl⟩:=hl
  have he:(RV.rec (fun v _=>ND rs r h (fun vs=>k (v::vs))) (fun n=>.err n) (Iw s r h):RV)=.ok v h':=he
  cases h1:Iw s r h with
  | err n=>rw [h1] at he;cases he
  | ok u g=>
   rw [h1] at he
   obtain ⟨_,cv,e1,e2⟩:=Iu S hs h1
   obtain ⟨vs,cs,f1,f2,f3⟩:=zy S hrs he
   refine ⟨u::vs,cv::cs,f1,?_,.cons _ _ _ _ e2 f3⟩
   simp only [List.mapM_cons,Sem.run_bind,e1,Result.andThen_ok,f2,Sem.run_pure]
theorem lQ {fn:Func} {rs:List Rs} (S:St n G φ r h a w) (hr:fn.results.toList.mapM (NC P n)=some rs) (he:Bq rs r h=.ok v h'):h'=h∧∃cv,(results fn a.tmps).run P w=.ok cv w∧VR φ v cv:=by
 obtain ⟨vs,cs,f1,f2,f3⟩:=zy S hr he
 have hm:(fn.results.mapM (xg a)).run P w=.ok cs.toArray w:=by
  rw [Array.mapM_eq_mapM_toList]
  simp [f2]
 have hrun:(results fn a.tmps).run P w=.ok (if h:cs.toArray.size=1 then cs.toArray[0] else .tuple cs.toArray) w:=by
  have:results fn a.tmps=(do let vs←fn.results.mapM (xg a);pure (if h:vs.size=1 then vs[0] else .tuple vs)):=rfl
  rw [this]
  simp only [Sem.run_bind,hm,Result.andThen_ok,Sem.run_pure]
 cases f3 with
 | nil=>
  obtain ⟨rfl,rfl⟩:=RV.au f1
  exact ⟨rfl,.tuple #[],by rw [hrun];rfl,.aW [] [] .nil⟩
 | cons u c us ds g1 g2=>cases g2 with
  | nil=>
   obtain ⟨rfl,rfl⟩:=RV.au f1
   exact ⟨rfl,c,by rw [hrun];rfl,g1⟩
  | cons u2 c2 us ds g3 g4=>
   obtain ⟨rfl,rfl⟩:=RV.au f1
   refine ⟨rfl,.tuple (c::c2::ds).toArray,by rw [hrun];rw [dif_neg (by simp)],.aW _ _ (.cons _ _ _ _ g1 (.cons _ _ _ _ g3 g4))⟩
theorem sL:∀(l:List AV) (i:Nat) (r:A2) (t:Nat),t < 256→i+l.length≤256→aq (hi t) (lo t) (dv l i r)=if hh:i≤t∧t < i+l.length then l[t - i]'(by omega) else aq (hi t) (lo t) r
 | [],i,r,t,ht,hl=>by rw [dif_neg (by simp only [List.length_nil];omega)];rfl
 | v::l,i,r,t,ht,hl=>by
  simp only [List.length_cons] at hl
  have e:dv (v::l) i r=dv l (i+1) (eQ (hi i) (lo i) v r):=rfl
  rw [e,sL l (i+1) _ t ht (by omega),dH]
  by_cases h1:t=i
  ·subst h1
   rw [dif_neg (by omega),dif_pos (by simp),if_pos ⟨rfl,rfl⟩]
   simp
  ·rw [if_neg (fun g=>h1 ((Di ht (by omega)).1 g))]
   by_cases h2:i≤t∧t < i+(l.length+1)
   ·rw [dif_pos (by omega),dif_pos (by simpa using h2)]
    have:t - i=(t - (i+1))+1:=by omega
    simp only [this,List.getElem_cons_succ]
   ·rw [dif_neg (by omega),dif_neg (by simpa using h2)]
theorem Ds (a b:H):aq a b .nil=.undef:=by
 simp only [aq,A2.get_nil,A1.get_nil]
theorem St.start {args:List AV} {vals:List Value} (H:HR φ h w) (hv:bX φ args vals) (hg:mF G φ) (hl:args.length≤256) (n:Nat):St n G φ (dv args 0 .nil) h {tmps:=vals.toArray ++ Array.replicate (n - vals.toArray.size) undef,defers:=[]} w:=by
 refine St.mk' H (fun t ht=>?_) rfl ?_ hg
 ·rw [sL args 0 _ t ht (by omega)]
  by_cases h1:t < args.length
  ·rw [dif_pos (by omega)]
   have hlen:=hv.length
   have:({tmps:=vals.toArray ++ Array.replicate (n - vals.toArray.size) undef,defers:=[]}:Act).tmps.getD t undef=vals[t]'(by omega):=by
    rw [Array.getD_eq_getD_getElem?,Array.getElem?_append_left (by simpa using (by omega:t < vals.length))]
    simp [List.getElem?_eq_getElem (show t < vals.length by omega)]
   rw [this]
   exact hv.get t h1 (by omega)
  ·rw [dif_neg (by omega),Ds];exact .undef _
 ·simp;omega
section
variable {P:Program} {ops:Array Oper} {x y:Nat}
theorem sM (i:Nat):(eR x y ops)[i]?=(ops[i]?).map fun o=>if i=y then {o with after:=o.after.push ⟨x,.data⟩} else o:=by
 unfold eR
 rw [Array.getElem?_modify]
 by_cases h:y=i
 ·subst h;simp
 ·rw [if_neg h]
  have:¬ i=y:=fun e=>h e.symm
  simp [this]
theorem uI:(eR x y ops).size=ops.size:=by simp [eR]
theorem Dt (j:Nat):((eR x y ops)[j]?).bind (·.dst)=(ops[j]?).bind (·.dst):=by
 rw [sM]
 cases ops[j]? with
 | none=>rfl
 | some o=>
  show (if j=y then _ else o:Oper).dst=o.dst
  split<;>rfl
theorem vR (t:Array Value):yielded (eR x y ops) t=yielded ops t:=by
 funext j
 unfold yielded
 rw [Dt]
theorem kH (Q:Exit→Act→World→Prop) (i:Nat) (K:Act→World→Prop) (a:Act) (w:World):wpOp P (eR x y ops) Q i K a w=wpOp P ops Q i K a w:=by
 unfold wpOp
 rw [sM,vR]
 cases ops[i]? with
 | none=>rfl
 | some o=>
  show (if Region.wanted (if i=y then _ else o:Oper) _ then (if i=y then _ else o:Oper).wp P a w K Q∨((if i=y then _ else o:Oper).asks P a w∧LetsOut Q) else K (a.put (if i=y then _ else o:Oper).dst undef) w)=_
  by_cases h:i=y
  ·rw [if_pos h];rfl
  ·rw [if_neg h]
theorem dB {L:Array Bool} (i:Nat):i∈Region.ready .any (eR x y ops) L↔i∈Region.ready .any ops L∧(i=y→L.getD x false=true):=by
 unfold Region.ready
 rw [List.mem_filter,List.mem_filter,uI,sM]
 cases ho:ops[i]? with
 | none=>simp
 | some o=>
  by_cases h:i=y
  ·subst h
   have hb:Region.binds .any ⟨x,.data⟩=true:=rfl
   simp [hb,and_assoc]
  ·simp [h]
def Flat (P:Program) (o:Oper):Prop:=∀(a:Act) (w:World) (n:Next) (w':World),(execOp a.eval o).run P w=.ok n w'→(∃v,n=.value v)∨n=.skip
variable {Q Q1 Q2:Exit→Act→World→Prop}
theorem Du {o:Oper} (hf:Flat P o) {a:Act} {w:World} {K1 K2 K:Act→World→Prop} (hK:∀a w,K1 a w→K2 a w→K a w) (hQ:∀e a w,Q1 e a w→Q e a w) (h1:o.wp P a w K1 Q1) (h2:o.wp P a w K2 Q2):o.wp P a w K Q:=by
 unfold Oper.wp at *
 cases hr:(execOp a.eval o).run P w with
 | ok n w'=>
  rw [hr] at h1 h2
  rcases hf a w n w' hr with ⟨v,rfl⟩|rfl
  ·exact hK _ _ h1 h2
  ·exact hK _ _ h1 h2
 | halt s w'=>
  rw [hr] at h1 h2
  cases s<;>simp only [Oper.upon] at h1 h2 ⊢<;>exact hQ _ _ _ h1
theorem Dv (hf:∀(i:Nat) (o:Oper),ops[i]?=some o→Flat P o) (hl1:¬ LetsOut Q1) (hl2:¬ LetsOut Q2) {i:Nat} {a:Act} {w:World} {K1 K2 K:Act→World→Prop} (hK:∀a w,K1 a w→K2 a w→K a w) (hQ:∀e a w,Q1 e a w→Q e a w)
  (h1:wpOp P ops Q1 i K1 a w) (h2:wpOp P ops Q2 i K2 a w):wpOp P ops Q i K a w:=by
 unfold wpOp at *
 cases ho:ops[i]? with
 | none=>rw [ho] at h1 h2;exact hK _ _ h1 h2
 | some o=>
  rw [ho] at h1 h2
  simp only at h1 h2 ⊢
  split
  ·rename_i hw
   rw [if_pos hw] at h1 h2
   rcases h1 with h1|h1
   ·rcases h2 with h2|h2
    ·exact .inl (Du (hf i o ho) hK hQ h1 h2)
    ·exact absurd h2.2 hl2
   ·exact absurd h1.2 hl1
  ·rename_i hw
   rw [if_neg hw] at h1 h2
   exact hK _ _ h1 h2
theorem Dw (hQ:∀e a w,Q1 e a w→Q e a w) (h:LetsOut Q1):LetsOut Q:=let ⟨a,w,h⟩:=h;⟨a,w,hQ _ _ _ h⟩
theorem oM (hQ:∀e a w,Q1 e a w→Q e a w) (hf:∀(i:Nat) (o:Oper),ops[i]?=some o→Flat P o) {i:Nat} {a:Act} {w:World} {K1 K:Act→World→Prop} (hK:∀a w,K1 a w→K a w) (h1:wpOp P ops Q1 i K1 a w):wpOp P ops Q i K a w:=by
 unfold wpOp at *
 cases ho:ops[i]? with
 | none=>rw [ho] at h1;exact hK _ _ h1
 | some o=>
  rw [ho] at h1
  simp only at h1 ⊢
  split
  ·rename_i hw
   rw [if_pos hw] at h1
   rcases h1 with h1|h1
   ·exact .inl (Du (hf i o ho) (fun a w h _=>hK a w h) hQ h1 h1)
   ·exact .inr ⟨h1.1,Dw hQ h1.2⟩
  ·rename_i hw
   rw [if_neg hw] at h1
   exact hK _ _ h1
theorem iG (hf:∀(i:Nat) (o:Oper),ops[i]?=some o→Flat P o) (hQ:∀e a w,Q1 e a w→Q e a w):∀(fuel:Nat) (L:Array Bool) (a:Act) (w:World),L.getD x false=true→wpAny P .any (eR x y ops) Q1 fuel L a w→wpAny P .any ops Q fuel L a w
 | 0,L,a,w,hx,h=>by
  have hr:Region.ready .any ops L=[]:=List.eq_nil_iff_forall_not_mem.2 fun j hj=>by
   have:j∈Region.ready .any (eR x y ops) L:=dB j |>.2 ⟨hj,fun _=>hx⟩
   rw [h.1] at this;cases this
  exact ⟨hr,hQ _ _ _ h.2⟩
 | fuel+1,L,a,w,hx,h=>by
  have hrd:∀j,j∈Region.ready .any ops L→j∈Region.ready .any (eR x y ops) L:=fun j hj=>dB j |>.2 ⟨hj,fun _=>hx⟩
  refine ⟨fun hr=>hQ _ _ _ (h.1 (List.eq_nil_iff_forall_not_mem.2 fun j hj=>?_)),fun i hi=>?_⟩
  ·have:=(dB j |>.1 hj).1
   rw [hr] at this;cases this
  ·have:=h.2 i (hrd i hi)
   rw [kH] at this
   refine oM hQ hf (fun a w h=>iG hf hQ fuel _ a w ?_ h) this
   rw [Array.getD_eq_getD_getElem?] at hx ⊢
   rw [Array.getElem?_setIfInBounds]
   split
   ·rename_i e;subst e
    split
    ·rfl
    ·rename_i hlt
     rw [Array.getElem?_eq_none (by omega)] at hx
     cases hx
   ·exact hx
theorem uJ (hf:∀(i:Nat) (o:Oper),ops[i]?=some o→Flat P o) (hl1:¬ LetsOut Q1) (hl2:¬ LetsOut Q2) (h1Q:∀e a w,Q1 e a w→Q e a w) (h2Q:∀e a w,Q2 e a w→Q e a w) :
  ∀(fuel:Nat) (L:Array Bool) (a:Act) (w:World),wpAny P .any (eR x y ops) Q1 fuel L a w→wpAny P .any (eR y x ops) Q2 fuel L a w→x≠y→(L.getD x false=false)→(L.getD y false=false)→L.size=ops.size→x < ops.size→y < ops.size→wpAny P .any ops Q fuel L a w
 | 0,L,a,w,h1,h2,hn,hx,hy,hs,hxs,hys=>by
  refine ⟨List.eq_nil_iff_forall_not_mem.2 fun j hj=>?_,h1Q _ _ _ h1.2⟩
  by_cases e:j=y
  ·have hjx:j≠x:=fun e2=>hn (e2.symm.trans e)
   have:j∈Region.ready .any (eR y x ops) L:=dB j |>.2 ⟨hj,fun e2=>absurd e2 hjx⟩
   rw [h2.1] at this;cases this
  ·have:j∈Region.ready .any (eR x y ops) L:=dB j |>.2 ⟨hj,fun e2=>absurd e2 e⟩
   rw [h1.1] at this;cases this
 | fuel+1,L,a,w,h1,h2,hn,hx,hy,hs,hxs,hys=>by
  have r1:∀j,j∈Region.ready .any ops L→j≠y→j∈Region.ready .any (eR x y ops) L:=fun j hj e=>dB j |>.2 ⟨hj,fun e2=>absurd e2 e⟩
  have r2:∀j,j∈Region.ready .any ops L→j≠x→j∈Region.ready .any (eR y x ops) L:=fun j hj e=>dB j |>.2 ⟨hj,fun e2=>absurd e2 e⟩
  refine ⟨fun hr=>h1Q _ _ _ (h1.1 (List.eq_nil_iff_forall_not_mem.2 fun j hj=>?_)),fun i hi=>?_⟩
  ·have:=(dB j |>.1 hj).1
   rw [hr] at this;cases this
  ·by_cases e:i=x
   ·subst e
    have:=h1.2 i (r1 i hi hn)
    rw [kH] at this
    refine oM h1Q hf (fun a w h=>iG hf h1Q fuel _ a w ?_ h) this
    rw [Array.getD_eq_getD_getElem?,Array.getElem?_setIfInBounds,if_pos rfl,if_pos (by omega)];rfl
   ·by_cases e':i=y
    ·subst e'
     have:=h2.2 i (r2 i hi e)
     rw [kH] at this
     refine oM h2Q hf (fun a w h=>iG hf h2Q fuel _ a w ?_ h) this
     rw [Array.getD_eq_getD_getElem?,Array.getElem?_setIfInBounds,if_pos rfl,if_pos (by omega)];rfl
    ·have g1:=h1.2 i (r1 i hi e')
     have g2:=h2.2 i (r2 i hi e)
     rw [kH] at g1 g2
     refine Dv hf hl1 hl2 (fun a w k1 k2=>uJ hf hl1 hl2 h1Q h2Q fuel _ a w k1 k2 hn ?_ ?_ (by simp [hs]) hxs hys) h1Q g1 g2
     ·rw [Array.getD_eq_getD_getElem?,Array.getElem?_setIfInBounds,if_neg e,←Array.getD_eq_getD_getElem?];exact hx
     ·rw [Array.getD_eq_getD_getElem?,Array.getElem?_setIfInBounds,if_neg e',←Array.getD_eq_getD_getElem?];exact hy
end
variable {P:Program}
theorem Dx {s:Sem Value} {w w':World} {n:Next} (h:(s >>= fun x=>pure (Next.value x):Sem Next).run P w=.ok n w'):(∃v,n=.value v)∨n=.skip:=by
 rw [Sem.run_bind] at h
 cases hs:s.run P w with
 | ok x w2=>rw [hs] at h;cases h;exact .inl ⟨_,rfl⟩
 | halt q w2=>rw [hs] at h;cases h
theorem NF {s:Sem Unit} {w w':World} {n:Next} (h:(s >>= fun _=>pure Next.skip:Sem Next).run P w=.ok n w'):(∃v,n=.value v)∨n=.skip:=by
 rw [Sem.run_bind] at h
 cases hs:s.run P w with
 | ok x w2=>rw [hs] at h;cases h;exact .inr rfl
 | halt q w2=>rw [hs] at h;cases h
theorem qi {α β:Type} {s:Sem α} {f:α→Sem β} {w w':World} {n:β} (h:(s >>= f).run P w=.ok n w'):∃x w2,s.run P w=.ok x w2∧(f x).run P w2=.ok n w':=by
 rw [Sem.run_bind] at h
 cases hs:s.run P w with
 | ok x w2=>rw [hs] at h;exact ⟨x,w2,rfl,h⟩
 | halt q w2=>rw [hs] at h;cases h
theorem Ix {o:Oper} (hf:vS o.op=true):Flat P o:=by
 intro a w n w' h
 unfold execOp at h
 cases ho:o.op with
 | move x=>rw [ho] at h;cases h;exact .inl ⟨_,rfl⟩
 | assign x=>rw [ho] at h;cases h;exact .inl ⟨_,rfl⟩
 | pick c x y=>
  rw [ho] at h
  have h:((asBool (a.eval c)) >>= fun b=>pure (Next.value (if b then a.eval x else a.eval y)):Sem Next).run P w=.ok n w':=h
  rw [Sem.run_bind] at h
  cases hs:(asBool (a.eval c)).run P w with
  | ok x w2=>rw [hs] at h;cases h;exact .inl ⟨_,rfl⟩
  | halt q w2=>rw [hs] at h;cases h
 | nilCheck x=>
  rw [ho] at h
  simp only at h
  split at h
  ·cases h
  ·cases h
  ·cases h
  ·split at h
   ·cases h
   ·obtain ⟨_,_,_,h⟩:=qi h
    obtain ⟨_,_,_,h⟩:=qi h
    split at h
    ·obtain ⟨_,_,h1,_⟩:=qi h
     cases h1
    ·first
      | (cases h;exact .inl ⟨_,rfl⟩)
      | (obtain ⟨_,_,_,h⟩:=qi h;cases h;exact .inl ⟨_,rfl⟩)
   ·cases h;exact .inl ⟨_,rfl⟩
  ·cases h;exact .inl ⟨_,rfl⟩
 | call c=>
  rw [ho] at hf h
  simp only [vS] at hf
  split at hf
  ·rename_i b hb
   have h:(resolve a.eval c o.type >>= fun d=>invoke d.target d.args).run P w=.ok n w':=h
   unfold resolve at h
   simp only [hb] at h
   have h:(builtin b c.argTypes o.type (c.args.map fun|.const _=>true|_=>false) (c.args.map a.eval)).run P w=.ok n w':=h
   unfold builtin at h
   cases b<;>first|exact Dx h|(exact absurd hf (by decide))|cases h
  ·cases hf
 | go c=>rw [ho] at hf;cases hf
 | defer c=>rw [ho] at hf;cases hf
 | send c x=>rw [ho] at hf;cases hf
 | recv c x y=>rw [ho] at hf;cases hf
 | select c x=>rw [ho] at hf;cases hf
 | panic x=>rw [ho] at hf;cases hf
 | _=>rw [ho] at h;first|exact Dx h|exact NF h
variable {P:Program} {φ φ':aJ} {h h' h2:Hp} {w w':World} {v:AV} {r r2:A2} {a:Act} {cv:Value} {n:Nat} {G:Gl} [NB G] {names:List String} {p:Pg} {run:gg}
def mN (P:Program) (G:Gl) (names:List String) (f:Nat) (body:AC) (res:List Rs):Prop:=∃fn body0,P.funcs[f]?=some fn∧cF P G names fn=.mk body0 res∧Impl body0 body
def fB (P:Program) (G:Gl) (k:PK) (f:Nat):Prop:=∀(φ:aJ) (h:Hp) (w:World) (args:List AV) (vals:List Value),mF G φ→HR φ h w→bX φ args vals→(cQ k args h).Safe→
 Calls P f vals.toArray w (eA φ h w (cQ k args h))
def jJ (P:Program) (G:Gl) (k:PK) (f:Nat):Prop:=∀(φ:aJ) (h:Hp) (w:World) (args:List AV) (vals:List Value),mF G φ→HR φ h w→bX φ args vals→(cQ k args h).Safe→
 ∃cv w',(callFunc f vals.toArray).run P w=.ok (.value cv) w'∧eA φ h w (cQ k args h) (.returned cv) w'
structure Env (P:Program) (G:Gl) (names:List String) (p:Pg):Prop where
 mixed:P.follows .mixedOrders=true
 ms:mH P names p.ms
 fs:∀f,match cH f p.fs with
  | .none=>True
  | .mk body res=>mN P G names f body res
  | .oO k body res=>mN P G names f body res∧fB P G k f
  | .Dy body res=>mN P G names f body res
  | .ext k=>jJ P G k f
def NG (P:Program) (G:Gl) (names:List String) (p:Pg):Prop:=∀(n:Nat) (run:gg),du P G p run→∀(id:Nat) (ops:Array Oper) (l:List (Nat×Bk)) (kf:A2→Hp→RS) (r:A2) (h:Hp) (φ:aJ) (a:Act) (w:World),iH P G n names ops l=true→St n G φ r h a w→
 (mO (aj p run) (aL p run) kf (l.map fun (i,b)=>.mk b (oH P G n names ops (ops.getD i default))) r h h []).Safe→(Code.region id ops true).wp P (fun e a' w'=>e=.normal∧∃r' h' φ',
  mO (aj p run) (aL p run) kf (l.map fun (i,b)=>.mk b (oH P G n names ops (ops.getD i default))) r h h []=kf r' h'∧St n G φ' r' h' a' w'∧Step φ h w φ' h' w') a w
def vT (P:Program) (G:Gl) (names:List String) (p:Pg):Prop:=∀(n:Nat) (run:gg),du P G p run→∀(ops:Array Oper) (l:List (Nat×Bk)) (kf:A2→Hp→RS) (r:A2) (h:Hp) (φ:aJ) (a:Act) (w:World) (Q:Exit→Act→World→Prop),iH P G n names ops l=true→St n G φ r h a w→
 (mO (aj p run) (aL p run) kf (l.map fun (i,b)=>.mk b (oH P G n names ops (ops.getD i default))) r h h []).Safe→(∀r' h' φ' a' w',
  mO (aj p run) (aL p run) kf (l.map fun (i,b)=>.mk b (oH P G n names ops (ops.getD i default))) r h h []=kf r' h'→St n G φ' r' h' a' w'→Step φ h w φ' h' w'→Q .normal a' w')→wpAny P .any ops Q ops.size (Array.replicate ops.size false) a {w with drawn:=w.drawn+1}
theorem vT.Yl (hm:P.follows .mixedOrders=true) (D:vT P G names p):NG P G names p:=fun n run CO _ ops l kf r h φ a w hd S hs=>wp_region_any hm (D n run CO ops l kf r h φ a w _ hd S hs fun r' h' φ' _ _ e S' T=>⟨rfl,r',h',φ',e,S',T⟩)
theorem iI {bad:Array Oper→AC} (ops:Array Oper):(∃l,iH P G n names ops l=true∧gJ P G bad n names ops=.da (l.map fun (i,b)=>.mk b (oH P G n names ops (ops.getD i default))))∨gJ P G bad n names ops=bad ops:=by
 unfold gJ
 dsimp only
 split
 ·rename_i h;exact .inl ⟨_,h,rfl⟩
 ·split
  ·rename_i h;exact .inl ⟨_,h,rfl⟩
  ·split
   ·rename_i h;exact .inl ⟨_,h,rfl⟩
   ·exact .inr rfl
theorem iJ {next:Array Oper→AC} (ops:Array Oper):(∃x y,(∀o,o∈ops.toList→vS o.op=true)∧x≠y∧x < ops.size∧y < ops.size∧jK P G next names ops=.alt (next (eR x y ops)) (next (eR y x ops)))∨∃k,jK P G next names ops=.bad k:=by
 unfold jK
 split
 ·rename_i x y _
  split
  ·rename_i h
   simp only [Bool.and_eq_true,bne_iff_ne,ne_eq,decide_eq_true_eq] at h
   obtain ⟨⟨⟨h1,h2⟩,h3⟩,h4⟩:=h
   refine .inl ⟨x,y,fun o ho=>?_,h2,h3,h4,rfl⟩
   obtain ⟨i,hi,rfl⟩:=List.getElem_of_mem ho
   have:=(Array.all_eq_true.1 h1) i (by simpa using hi)
   simpa using this
  ·exact .inr ⟨_,rfl⟩
 ·exact .inr ⟨_,rfl⟩
theorem fQ (ops:Array Oper):pU P G n names ops=.ops (ops.toList.map fun o=>lN P G n names ops o)∨∃q,pU P G n names ops=.NH q (ops.toList.map fun o=>lN P {G with b:=some q} n names ops o):=by
 unfold pU
 dsimp only
 split
 ·split
  ·exact .inr ⟨_,rfl⟩
  ·exact .inl rfl
 ·exact .inl rfl
theorem yx (ops:Array Oper) (l:Nat):cI (pU P G n names ops) l=none:=by
 rcases fQ (P:=P) (G:=G) (n:=n) (names:=names) ops with e|⟨q,e⟩<;>rw [e]<;>rfl
theorem aZ.lift {x x':RS} (hl:∀y,x.aO y→x'.aO y) {e:Exit} (hq:aZ n G φ h w x e a w'):aZ n G φ h w x' e a w':=
 let ⟨y,r',h',φ',h1,h2,h3,h4⟩:=hq;⟨y,r',h',φ',hl y h1,h2,h3,h4⟩
theorem mP (i:Nat) (c:Code):cC P G n names (.block i c)=.block i (cC P G n names c)∨cC P G n names (.block i c)=.join (.block i (cC P G n names c)):=by
 cases c with
 | loop b=>
  show (if hasNext b then AC.join (.block i (.loop (cC P G n names b))) else .block i (.loop (cC P G n names b)))=_∨(if hasNext b then AC.join (.block i (.loop (cC P G n names b))) else .block i (.loop (cC P G n names b)))=_
  split
  ·exact .inr rfl
  ·exact .inl rfl
 | _=>exact .inl rfl
theorem yy {bad:Array Oper→AC} (hb:∀ops l,cI (bad ops) l=none) (ops:Array Oper) (l:Nat):cI (gJ P G bad n names ops) l=none:=by
 unfold gJ
 dsimp only
 split
 ·rfl
 ·split
  ·rfl
  ·split
   ·rfl
   ·exact hb _ _
theorem yz {next:Array Oper→AC} (ops:Array Oper) (l:Nat):cI (jK P G next names ops) l=none:=by
 unfold jK
 split
 ·split<;>rfl
 ·rfl
theorem yA (ops:Array Oper) (l:Nat):cI (mQ P G n names ops) l=none:=
 yy (fun ops l=>yz ops l) ops l
theorem sN (l:Nat):∀c:Code,cI (cC P G n names c) l=(findLabel c l).map (cC P G n names)
 | .seq a b=>by
  have ha:=sN l a
  have hb:=sN l b
  show (match cI (cC P G n names a) l with|some c=>some (AC.seq c (cC P G n names b))|none=>cI (cC P G n names b) l)=(match findLabel a l with|some rest=>some (Code.seq rest b)|none=>findLabel b l).map (cC P G n names)
  rw [ha,hb]
  cases findLabel a l<;>rfl
 | .label l'=>by
  show (if Nat.beq l' l then some AC.skip else none)=(if l' == l then some Code.skip else none).map (cC P G n names)
  have:(l' == l)=Nat.beq l' l:=by
   rw [Bool.eq_iff_iff,beq_iff_eq];exact ⟨fun e=>e▸Nat.beq_refl _,fun e=>Nat.eq_of_beq_eq_true e⟩
  rw [this]
  cases Nat.beq l' l<;>rfl
 | .skip=>rfl
 | .region _ ops false=>yx ops l
 | .region _ ops true=>yA ops l
 | .cond c a b=>by simp only [cC];split<;>rfl
 | .block i a=>by
  rcases mP (P:=P) (G:=G) (n:=n) (names:=names) i a with e|e<;>rw [e]<;>rfl
 | .loop a=>rfl
 | .rangeFunc ..=>rfl
 | .exit _=>rfl
 | .scope a=>rfl
 | .goto _=>rfl
 | .ret=>rfl
 | .refuse _=>rfl
theorem fR (l:Nat):∀{a:AC},pD a=true→cI a l=none
 | .seq a b,h=>by
  simp only [pD,Bool.and_eq_true] at h
  simp only [cI,fR l h.1,fR l h.2]
 | .skip,_=>rfl
 | .ops _,_=>rfl
 | .da _,_=>rfl
 | .cond ..,_=>rfl
 | .block ..,_=>rfl
 | .loop _,_=>rfl
 | .scope _,_=>rfl
 | .sat ..,_=>rfl
 | .exit _,_=>rfl
 | .goto _,_=>rfl
 | .label _,h=>by cases h
 | .ret,_=>rfl
 | .join _,_=>rfl
 | .bad _,_=>rfl
 | .ag ..,h=>by cases h
 | .alt ..,_=>rfl
 | .NH ..,_=>rfl
theorem sO (l:Nat):∀{k:Nat} {c:AC},jL k c=true→cI c l=cI (iK k c) l
 | 0,c,_=>rfl
 | k+1,c,h=>by
  cases c with
  | seq a b=>
   simp only [jL,Bool.and_eq_true] at h
   simp only [cI,fR l h.1,iK]
   exact sO l h.2
  | _=>exact fR l h
theorem sP (l:Nat) {a a':AC} (h:Impl a a'):(cI a l=none∧cI a' l=none)∨∃c c',cI a l=some c∧cI a' l=some c'∧Impl c c':=by
 induction h with
 | refl c=>
  cases hc:cI c l with
  | none=>exact .inl ⟨rfl,rfl⟩
  | some d=>exact .inr ⟨d,d,rfl,rfl,.refl d⟩
 | @seq a a' b b' ha hb iha ihb=>
  simp only [cI]
  rcases iha with ⟨e1,e2⟩|⟨c,c',e1,e2,e3⟩
  ·simp only [e1,e2];exact ihb
  ·simp only [e1,e2];exact .inr ⟨_,_,rfl,rfl,.seq e3 hb⟩
 | cond=>exact .inl ⟨rfl,rfl⟩
 | block=>exact .inl ⟨rfl,rfl⟩
 | loop=>exact .inl ⟨rfl,rfl⟩
 | scope=>exact .inl ⟨rfl,rfl⟩
 | join=>exact .inl ⟨rfl,rfl⟩
 | XR=>exact .inl ⟨rfl,rfl⟩
 | bad n hn=>exact .inl ⟨fR l hn,rfl⟩
 | ag k Lin L Lr Lx hn he hx ih=>
  rw [sO l hn]
  exact ih
def TV (c x:AC):Prop:=match c with
 | .seq a b=>∃a' b',x=.seq a' b'∧Impl a a'∧Impl b b'
 | .cond o a b=>∃a' b',x=.cond o a' b'∧Impl a a'∧Impl b b'
 | .block i a=>∃a',x=.block i a'∧Impl a a'
 | .loop a=>∃a',x=.loop a'∧Impl a a'
 | .scope a=>∃a',x=.scope a'∧Impl a a'
 | .join a=>x=.join a∨(∃i b b',a=.block i (.loop b)∧x=.join (.block i (.loop b'))∧Impl b b')∨∃i b b',a=.block i b∧x=.block i b'∧Impl b b'
 | c=>x=c
theorem yB {c x:AC} (h:Impl c x):(∃k Lin L Lr Lx y,x=.ag (sQ c k Lin L Lr Lx) y∧jL k c=true∧Impl (iK k c) y)∨(∃n,x=.bad n)∨TV c x:=by
 cases h with
 | refl=>
  right;right
  cases c<;>first
   | exact ⟨_,_,rfl,.refl _,.refl _⟩
   | exact ⟨_,rfl,.refl _⟩
   | exact .inl rfl
   | rfl
 | seq ha hb=>exact .inr (.inr ⟨_,_,rfl,ha,hb⟩)
 | cond ha hb=>exact .inr (.inr ⟨_,_,rfl,ha,hb⟩)
 | block ha=>exact .inr (.inr ⟨_,rfl,ha⟩)
 | loop ha=>exact .inr (.inr ⟨_,rfl,ha⟩)
 | scope ha=>exact .inr (.inr ⟨_,rfl,ha⟩)
 | join ha=>exact .inr (.inr (.inr (.inl ⟨_,_,_,rfl,rfl,ha⟩)))
 | XR ha=>exact .inr (.inr (.inr (.inr ⟨_,_,_,rfl,rfl,ha⟩)))
 | bad n hn=>exact .inr (.inl ⟨n,rfl⟩)
 | ag k Lin L Lr Lx hn he hx=>subst he;exact .inl ⟨k,Lin,L,Lr,Lx,_,rfl,hn,hx⟩
structure bP (P:Program) (G:Gl) (names:List String) (p:Pg) (m:Nat):Prop where
 code:∀(n:Nat) (c:Code) (x:AC) (r:A2) (h:Hp) (φ:aJ) (a:Act) (w:World),Impl (cC P G n names c) x→St n G φ r h a w→(exec p m x r h).Safe→c.wp P (aZ n G φ h w (exec p m x r h)) a w
 block:∀(n i:Nat) (c:Code) (x:AC) (r:A2) (h:Hp) (φ:aJ) (a:Act) (w:World),Impl (cC P G n names c) x→St n G φ r h a w→(exec p m (.block i x) r h).Safe→(Code.block i c).wp P (aZ n G φ h w (exec p m (.block i x) r h)) a w
 loop:∀(n:Nat) (c:Code) (x:AC) (r:A2) (h:Hp) (φ:aJ) (a:Act) (w:World),Impl (cC P G n names c) x→St n G φ r h a w→(exec p m (.loop x) r h).Safe→mJ P c (aZ n G φ h w (exec p m (.loop x) r h)) a w
 sat:∀(n:Nat) (s c:Code) (x y:AC) (r:A2) (h:Hp) (φ:aJ) (a:Act) (w:World),Impl (cC P G n names s) x→Impl (cC P G n names c) y→St n G φ r h a w→(exec p m (.sat x y) r h).Safe→vO P s c (aZ n G φ h w (exec p m (.sat x y) r h)) a w
theorem iL {res:List Rs} {z:RT}:∀{x y:RS},x.aO y→(dV res y).aO z→(dV res x).aO z
 | _,_,.nm ..,g=>g
 | _,_,.ex ..,g=>g
 | _,_,.go ..,g=>g
 | _,_,.ret ..,g=>g
 | _,_,.err ..,g=>g
 | _,_,.ch n k c y hc hl,g=>.ch n _ c _ hc (iL hl g)
theorem eS {res:List Rs} {x y:RS} (hs:(dV res x).Safe) (hl:x.aO y):(dV res y).Safe:=fun n hn=>hs n (iL hl hn)
theorem xh {f:Nat} {body:AC} {res:List Rs} {args:List AV} (e:cH f p.fs=.mk body res):aj p run f args h=(@Bool.rec (fun _=>RT) (.err 207) (dV res (run body (dv args 0 .nil) h)) (Nat.ble args.length 256)):=by
 show (AF.rec _ _ _ _ _ (cH f p.fs):RT)=_
 rw [e]
theorem uj {f:Nat} {k:PK} {body:AC} {res:List Rs} {args:List AV} (e:cH f p.fs=.oO k body res):aj p run f args h=(RT.rec (fun v h=>RT.ok v h) (fun _=>@Bool.rec (fun _=>RT) (.err 207) (dV res (run body (dv args 0 .nil) h)) (Nat.ble args.length 256)) (fun n k _=>.ch n k) (cQ k args h):RT):=by
 show (AF.rec _ _ _ _ _ (cH f p.fs):RT)=_
 rw [e]
theorem vU {f:Nat} {body:AC} {res:List Rs} {args:List AV} (e:cH f p.fs=.Dy body res):aj p run f args h=(@Bool.rec (fun _=>RT) (.err 207) (dV res (fj h (sR res (run body (dv args 0 .nil) (mark h))))) (Nat.ble args.length 256)):=by
 show (AF.rec _ _ _ _ _ (cH f p.fs):RT)=_
 rw [e]
theorem vV {f:Nat} {k:PK} {args:List AV} (e:cH f p.fs=.ext k):aj p run f args h=cQ k args h:=by
 unfold aj;rw [e]
theorem kV {f:Nat} {args:List AV} (e:cH f p.fs=.none):aj p run f args h=.err (Nat.add 1000 f):=by
 show (AF.rec _ _ _ _ _ (cH f p.fs):RT)=_
 rw [e]
theorem zz {m f:Nat} {body:AC} {res:List Rs} {args:List AV} {vals:List Value} (C:bP P G names p m) (F:mN P G names f body res) (hg:mF G φ) (H:HR φ h w) (hv:bX φ args vals)
  (hs:(@Bool.rec (fun _=>RT) (.err 207) (dV res (exec p m body (dv args 0 .nil) h)) (Nat.ble args.length 256)).Safe) :
  (∃fn c,P.funcs[f]?=some fn∧fn.name≠ "runtime.NumGoroutine" ∧fn.body=some c)∧Calls P f vals.toArray w (eA φ h w (@Bool.rec (fun _=>RT) (.err 207) (dV res (exec p m body (dv args 0 .nil) h)) (Nat.ble args.length 256))):=by
 cases hb:Nat.ble args.length 256 with
 | false=>rw [hb] at hs;exact (RT.Safe.err hs).elim
 | true=>
  rw [hb] at hs
  have hs:(dV res (exec p m body (dv args 0 .nil) h)).Safe:=hs
  have hl:=Nat.le_of_ble_eq_true hb
  obtain ⟨fn,body0,hf,hc,hI⟩:=F
  unfold cF at hc
  split at hc
  ·rename_i c rs hbody hrs
   split at hc
   ·cases hc
   ·rename_i hname
    cases hc
    refine ⟨⟨fn,c,hf,by simpa using hname,hbody⟩,?_⟩
    have S:=St.start H hv hg hl fn.ntmps
    have hxs:(exec p m body (dv args 0 .nil) h).Safe:=by
     intro j hj
     have:=eS hs hj
     exact RT.Safe.err (n:=j) this
    refine calls_of_wp hf hbody (wp_mono (C.code _ c body _ h φ _ w hI S hxs) ?_)
    rintro e a' w' ⟨y,r',h',φ',hy,he,S',T⟩
    have hsy:=eS hs hy
    have fin:∀r' h',y=.nm r' h'∨y=.ret r' h'→St fn.ntmps G φ' r' h' a' w'→Step φ h w φ' h' w'→a'.defers=[]∧∃v,(results fn a'.tmps).run P w'=.ok v w'∧eA φ h w (dV res (exec p m body (dv args 0 .nil) h)) (.returned v) w':=by
     intro r' h' hyy S' T
     have hr:dV res y=(Bq res r' h').gh:=by rcases hyy with rfl|rfl<;>rfl
     rw [hr] at hsy
     obtain ⟨v,h2,hv2⟩:=gW hsy
     obtain ⟨e1,cv,e2,e3⟩:=lQ S' hrs hv2
     subst e1
     refine ⟨S'.dz,cv,e2,v,h2,cv,φ',iL hy ?_,rfl,e3,S'.hr,T⟩
     rw [hr,hv2];exact .ok _ _
    cases he with
    | nm=>exact fin _ _ (.inl rfl) S' T
    | ret=>exact fin _ _ (.inr rfl) S' T
    | ex i=>exact (RT.Safe.err hsy).elim
    | go i=>exact (RT.Safe.err hsy).elim
  ·cases hc
theorem sS (r:A2):∀l:List Rs,fi (uK l r) r
 | []=>fun a b=>.inr (by cases a<;>cases b<;>rfl)
 | s::l=>by
  have key:∀a b,fi (eQ a b (aq a b r) (uK l r)) r:=fun a b c d=>by
   rw [dH]
   split
   ·rename_i e;obtain ⟨rfl,rfl⟩:=e;exact .inl rfl
   ·exact sS r l c d
  cases s<;>exact key _ _
theorem gY {l:List Rs} {z:RS}:∀{x y:RS},x.aO y→(sR l y).aO z→(sR l x).aO z
 | _,_,.nm ..,g=>g
 | _,_,.ex ..,g=>g
 | _,_,.go ..,g=>g
 | _,_,.ret ..,g=>g
 | _,_,.err ..,g=>g
 | _,_,.ch n k c y hc hl,g=>.ch n _ c _ hc (gY hl g)
theorem Br {l:List Rs} {x:RS} (hs:(sR l x).Safe):x.Safe:=fun n hn=>hs n (gY hn (.err n))
theorem Dz {m f:Nat} {body:AC} {res:List Rs} {args:List AV} {vals:List Value} (C:bP P G names p m) (F:mN P G names f body res) (hg:mF G φ) (H:HR φ h w) (hv:bX φ args vals)
  (hs:(@Bool.rec (fun _=>RT) (.err 207) (dV res (fj h (sR res (exec p m body (dv args 0 .nil) (mark h))))) (Nat.ble args.length 256)).Safe) :
  (∃fn c,P.funcs[f]?=some fn∧fn.name≠ "runtime.NumGoroutine" ∧fn.body=some c)∧Calls P f vals.toArray w (eA φ h w (@Bool.rec (fun _=>RT) (.err 207) (dV res (fj h (sR res (exec p m body (dv args 0 .nil) (mark h))))) (Nat.ble args.length 256))):=by
 cases hb:Nat.ble args.length 256 with
 | false=>rw [hb] at hs;exact (RT.Safe.err hs).elim
 | true=>
  rw [hb] at hs
  have hs:(dV res (fj h (sR res (exec p m body (dv args 0 .nil) (mark h))))).Safe:=hs
  have hl:=Nat.le_of_ble_eq_true hb
  obtain ⟨fn,body0,hf,hc,hI⟩:=F
  unfold cF at hc
  split at hc
  ·rename_i c rs hbody hrs
   split at hc
   ·cases hc
   ·rename_i hname
    cases hc
    refine ⟨⟨fn,c,hf,by simpa using hname,hbody⟩,?_⟩
    have S:=St.start H hv hg hl fn.ntmps
    have hjs:(fj h (sR res (exec p m body (dv args 0 .nil) (mark h)))).Safe:=by
     intro j hj
     have:=eS hs hj
     exact RT.Safe.err (n:=j) this
    obtain ⟨s1,s2⟩:=mM hjs
    refine calls_of_wp hf hbody (wp_mono (C.code _ c body _ (mark h) φ _ w hI S.mark (Br s1)) ?_)
    rintro e a' w' ⟨y,r',h',φ',hy,he,S',T⟩
    have fin:(sR res y).aO (.nm (uK res r') h')→a'.defers=[]∧∃v,(results fn a'.tmps).run P w'=.ok v w'∧eA φ h w (dV res (fj h (sR res (exec p m body (dv args 0 .nil) (mark h))))) (.returned v) w':=by
     intro hyy
     obtain ⟨y2,r2,h2,q1,q2,q3,q4,q5⟩:=s2 _ (gY hy hyy) .normal (uK res r') h' (.nm _ _) T.fr
     cases q2
     have hsy:=eS hs q1
     have hr:dV res (.nm r2 h2)=(Bq res r2 h2).gh:=rfl
     rw [hr] at hsy
     obtain ⟨v,h3,hv2⟩:=gW hsy
     have S2:=S'.less (q3.trans (sS r' res)) q4
     obtain ⟨e1,cv,e2,e3⟩:=lQ S2 hrs hv2
     subst e1
     refine ⟨S'.dz,cv,e2,v,h3,cv,φ',iL q1 ?_,rfl,e3,S2.hr,T.Dn q4 q5⟩
     rw [hr,hv2];exact .ok _ _
    cases he with
    | nm=>exact fin (.nm _ _)
    | ret=>exact fin (.nm _ _)
    | ex i=>
     obtain ⟨y2,r2,h2,q1,q2,q3,q4,q5⟩:=s2 _ (gY hy (.ex _ _ _)) (.exit i) r' h' (.ex _ _ _) T.fr
     cases q2
     exact (RT.Safe.err (eS hs q1)).elim
    | go i=>
     obtain ⟨y2,r2,h2,q1,q2,q3,q4,q5⟩:=s2 _ (gY hy (.go _ _ _)) (.goto i) r' h' (.go _ _ _) T.fr
     cases q2
     exact (RT.Safe.err (eS hs q1)).elim
  ·cases hc
theorem sU {m:Nat} (E:Env P G names p) (C:bP P G names p m):du P G p (exec p m):=by
 intro f args h φ w vals hg H hv hs
 have hF:=E.fs f
 cases hf:cH f p.fs with
 | none=>rw [kV hf] at hs;exact (RT.Safe.err hs).elim
 | mk body res=>
  rw [hf] at hF
  rw [xh hf] at hs ⊢
  exact .inl (zz C hF hg H hv hs)
 | ext k=>
  rw [hf] at hF
  rw [vV hf] at hs ⊢
  exact .inr (hF φ h w args vals hg H hv hs)
 | Dy body res=>
  rw [hf] at hF
  rw [vU hf] at hs ⊢
  exact .inl (Dz C hF hg H hv hs)
 | oO k body res=>
  rw [hf] at hF
  obtain ⟨hF,hP⟩:=hF
  rw [uj hf] at hs ⊢
  have hex:∃fn c,P.funcs[f]?=some fn∧fn.name≠ "runtime.NumGoroutine" ∧fn.body=some c:=by
   obtain ⟨fn,body0,hfn,hc,hI⟩:=hF
   unfold cF at hc
   split at hc
   ·rename_i c rs hbody hrs
    split at hc
    ·cases hc
    ·rename_i hname
     exact ⟨fn,c,hfn,by simpa using hname,hbody⟩
   ·cases hc
  have:=hP φ h w args vals hg H hv
  cases hp:cQ k args h with
  | err j=>
   rw [hp] at hs
   exact .inl (zz C hF hg H hv hs)
  | ok v h2=>
   rw [hp] at this
   exact .inl ⟨hex,this fun j hj=>by cases hj⟩
  | ch j g=>
   rw [hp] at this hs
   exact .inl ⟨hex,this hs⟩
section
variable {P:Program} {φ φ' φ₀:aJ} {h h' h2 h₀:Hp} {w w' w₀:World} {v:AV} {r r2:A2} {a:Act} {cv:Value} {n:Nat} {G:Gl} [NB G] {names:List String} {p:Pg} {run:gg} {ops:Array Oper}
theorem xi (i:DI) (k:DK) (r:A2) (h g:Hp) (hs:List Hp):i.jM (aj p run) (aL p run) k r h g hs=i.exec p run k r h g hs:=by
 cases i with
 | mk b y=>
  cases y with
  | o d i=>cases i<;>rfl
  | g x y w d i=>cases i<;>rfl
theorem uM:∀(l:List DI),sV p run l=mO (aj p run) (aL p run) (fun r h=>.nm r h) l
 | []=>rfl
 | i::l=>by
  funext r h g hs
  show i.exec p run (sV p run l) r h g hs=i.jM (aj p run) (aL p run) (mO (aj p run) (aL p run) _ l) r h g hs
  rw [xi,uM l]
def Sub (y x:RS):Prop:=∀z,y.aO z→x.aO z
theorem Sub.safe {x y:RS} (s:Sub y x) (h:x.Safe):y.Safe:=fun n hn=>h n (s _ hn)
def Kt.at (K:Kt):Exit→A2→Hp→RS→Prop
 | .normal,r,h,x=>Sub (K.n r h) x
 | .exit i,r,h,x=>Sub (K.e i r h) x
 | .goto l,r,h,x=>Sub (K.g l r h) x
 | .ret,r,h,x=>Sub (K.r r h) x
 | _,_,_,_=>False
theorem Kt.Iy {K:Kt} {e:Exit} {x y:RS} (s:Sub x y) (h:K.at e r h2 x):K.at e r h2 y:=by
 cases e with
 | normal=>exact fun z hz=>s z (h z hz)
 | exit i=>exact fun z hz=>s z (h z hz)
 | goto i=>exact fun z hz=>s z (h z hz)
 | ret=>exact fun z hz=>s z (h z hz)
 | panic c=>exact h
 | outgrown=>exact h
def mR (n:Nat) (G:Gl) (φ:aJ) (h:Hp) (w:World) (K:Kt) (x:RS) (e:Exit) (a':Act) (w':World):Prop:=
 ∃r' h' φ',St n G φ' r' h' a' w'∧Step φ h w φ' h' w'∧K.at e r' h' x
theorem xj (i:AI) (d:aF) (k:A2→Hp→RS) (r:A2) (h:Hp):i.jM (aj p run) (aL p run) d k r h=i.exec p run d k r h:=by cases i<;>rfl
theorem DA (i:GI) (k:A2→Hp→RS) (r:A2) (h:Hp):i.jM (aj p run) (aL p run) k r h=i.exec p run k r h:=by
 cases i with
 | o d i=>exact xj i d k r h
 | g x y w d i=>
  show AV.bI (gb w (aq x y r)) (fun t=>@Bool.rec (fun _=>RS) (k (dG d di r) h) (i.jM (aj p run) (aL p run) d k r h) (gP t w)) (.err 210)=AV.bI (gb w (aq x y r)) (jF d k r h i p run w) (.err 210)
  rw [xj];rfl
theorem zA {kf:A2→Hp→RS} (M:mH P names p.ms) (CO:du P G p run) {Q:Exit→Act→World→Prop}:∀(os pre:List Oper) (r:A2) (h:Hp) (φ:aJ) (a:Act) (w:World),ops.toList=pre ++ os→St n G φ r h a w→
  (uk (aj p run) (aL p run) kf (os.map fun o=>lN P G n names ops o) r h).Safe→
  (∀r' h' φ' a' w',Sub (kf r' h') (uk (aj p run) (aL p run) kf (os.map fun o=>lN P G n names ops o) r h)→St n G φ' r' h' a' w'→Step φ h w φ' h' w'→Q .normal a' w')→
  wpOps P ops Q (List.range' pre.length os.length) a w
 | [],pre,r,h,φ,a,w,_,S,_,hQ=>hQ r h φ a w (fun _ hz=>hz) S (.refl _ _ _)
 | o::os,pre,r,h,φ,a,w,e,S,hs,hQ=>by
  have hoi:ops[pre.length]?=some o:=by rw [←Array.getElem?_toList,e];simp
  rw [List.length_cons,List.range'_succ,wpOps_cons]
  have e0:uk (aj p run) (aL p run) kf ((o::os).map fun o=>lN P G n names ops o) r h=(lN P G n names ops o).exec p run (uk (aj p run) (aL p run) kf (os.map fun o=>lN P G n names ops o)) r h:=DA _ _ _ _
  rw [e0] at hs hQ
  refine JY M CO S hoi hs fun r' h' φ' a' w' s1 s2 S' T=>?_
  have:=zA M CO os (pre ++ [o]) r' h' φ' a' w' (by rw [e];simp) S' s1 (Q:=Q) fun r'' h'' φ'' a'' w'' hl S'' T'=>hQ r'' h'' φ'' a'' w'' (fun z hz=>s2 _ (hl z hz)) S'' (T.trans T')
  simpa using this
theorem DB (M:mH P names p.ms) (D:NG P G names p) (CO:du P G p run):∀(c:Code) (K:Kt) (r:A2) (h:Hp) (φ:aJ) (a:Act) (w:World),St n G φ r h a w→(den (aj p run) (aL p run) (cC P G n names c) K r h).Safe→
  c.wp P (mR n G φ h w K (den (aj p run) (aL p run) (cC P G n names c) K r h)) a w:=by
 intro c
 induction c with
 | skip=>exact fun K r h φ a w S _=>wp_skip ⟨r,h,φ,S,.refl _ _ _,fun _ hz=>hz⟩
 | region id ops d=>
  intro K r h φ a w S hs
  cases d with
  | false=>
   have hs:(den (aj p run) (aL p run) (pU P G n names ops) K r h).Safe:=hs
   show (Code.region id ops false).wp P (mR n G φ h w K (den (aj p run) (aL p run) (pU P G n names ops) K r h)) a w
   rcases fQ (P:=P) (G:=G) (n:=n) (names:=names) ops with e|⟨q,e⟩
   case inr=>rw [e] at hs;exact (RS.Safe.err hs).elim
   rw [e] at hs ⊢
   have hs:(uk (aj p run) (aL p run) K.n (ops.toList.map fun o=>lN P G n names ops o) r h).Safe:=hs
   show (Code.region id ops false).wp P (mR n G φ h w K (uk (aj p run) (aL p run) K.n (ops.toList.map fun o=>lN P G n names ops o) r h)) a w
   refine wp_region ?_
   have:=zA (Q:=mR n G φ h w K (uk (aj p run) (aL p run) K.n (ops.toList.map fun o=>lN P G n names ops o) r h)) M CO ops.toList [] r h φ a w (by simp) S hs (fun r' h' φ' a' w' hl S' T=>⟨r',h',φ',S',T,hl⟩)
   rw [List.range_eq_range']
   show wpOps P ops (mR n G φ h w K (uk (aj p run) (aL p run) K.n (ops.toList.map fun o=>lN P G n names ops o) r h)) (List.range' 0 ops.size) a w
   simpa using this
  | true=>
   have key:∀l,iH P G n names ops l=true→(mO (aj p run) (aL p run) K.n (l.map fun (i,b)=>.mk b (oH P G n names ops (ops.getD i default))) r h h []).Safe→
     (Code.region id ops true).wp P (mR n G φ h w K (mO (aj p run) (aL p run) K.n (l.map fun (i,b)=>.mk b (oH P G n names ops (ops.getD i default))) r h h [])) a w:=fun l hl hs=>by
    refine wp_mono (D n run CO id ops l K.n r h φ a w hl S hs) ?_
    rintro e a' w' ⟨rfl,r',h',φ',e1,S',T⟩
    refine ⟨r',h',φ',S',T,?_⟩
    rw [e1];exact fun _ hz=>hz
   have hs:(den (aj p run) (aL p run) (mQ P G n names ops) K r h).Safe:=hs
   show (Code.region id ops true).wp P (mR n G φ h w K (den (aj p run) (aL p run) (mQ P G n names ops) K r h)) a w
   rcases iI (P:=P) (G:=G) (n:=n) (names:=names) (bad:=jK P G (gJ P G (jK P G (gJ P G (fun _=>.bad 404) n names) names) n names) names) ops with ⟨l,hl,e⟩|e
   ·have e:mQ P G n names ops=_:=e
    rw [e] at hs ⊢
    exact key l hl hs
   ·have e:mQ P G n names ops=_:=e
    rw [e] at hs
    rcases iJ (P:=P) (G:=G) (names:=names) (next:=gJ P G (jK P G (gJ P G (fun _=>.bad 404) n names) names) n names) ops with ⟨x,y,_,_,_,_,e2⟩|⟨k,e2⟩
    ·rw [e2] at hs;exact (RS.Safe.err hs).elim
    ·rw [e2] at hs;exact (RS.Safe.err hs).elim
 | seq x y ihx ihy=>
  intro K r h φ a w S hs
  refine wp_seq (wp_mono (ihx ⟨den (aj p run) (aL p run) (cC P G n names y) K,K.e,K.g,K.r⟩ r h φ a w S hs) ?_)
  rintro e a' w' ⟨r',h',φ',S',T,hk⟩
  cases e with
  | normal=>
   have hk:Sub (den (aj p run) (aL p run) (cC P G n names y) K r' h') _:=hk
   refine wp_mono (ihy K r' h' φ' a' w' S' (hk.safe hs)) ?_
   rintro e a'' w'' ⟨r'',h'',φ'',S'',T',hk'⟩
   exact ⟨r'',h'',φ'',S'',T.trans T',Kt.Iy hk hk'⟩
  | exit i=>exact ⟨r',h',φ',S',T,hk⟩
  | goto i=>exact ⟨r',h',φ',S',T,hk⟩
  | ret=>exact ⟨r',h',φ',S',T,hk⟩
  | panic c=>exact hk.elim
  | outgrown=>exact hk.elim
 | cond c x y ihx ihy=>
  intro K r h φ a w S hs
  simp only [cC] at hs ⊢
  cases hc:cO G c with
  | none=>rw [hc] at hs;exact (RS.Safe.err hs).elim
  | some b=>
   rw [hc] at hs
   have hs:(AV.bI (ev b r) (fun t=>@Bool.rec (fun _=>RS) (den (aj p run) (aL p run) (cC P G n names y) K r h) (den (aj p run) (aL p run) (cC P G n names x) K r h) t) (.err 213)).Safe:=hs
   obtain ⟨t,ht,e⟩:=fh hs
   show (Code.cond c x y).wp P (mR n G φ h w K (AV.bI (ev b r) (fun t=>@Bool.rec (fun _=>RS) (den (aj p run) (aL p run) (cC P G n names y) K r h) (den (aj p run) (aL p run) (cC P G n names x) K r h) t) (.err 213))) a w
   rw [e] at hs ⊢
   have hv:=S.Rr hc
   rw [ht] at hv
   refine wp_cond hv.cM ?_
   cases t with
   | true=>exact ihx K r h φ a w S hs
   | false=>exact ihy K r h φ a w S hs
 | block i c ih=>
  intro K r h φ a w S hs
  rcases mP (P:=P) (G:=G) (n:=n) (names:=names) i c with e|e<;>rw [e] at hs ⊢
  ·refine wp_block (wp_mono (ih ⟨K.n,fun j r h=>@Bool.rec (fun _=>RS) (K.e j r h) (K.n r h) (Nat.beq j i),K.g,K.r⟩ r h φ a w S hs) ?_)
   rintro e a' w' ⟨r',h',φ',S',T,hk⟩
   cases e with
   | normal=>exact ⟨r',h',φ',S',T,hk⟩
   | exit j=>
    have hk:Sub (@Bool.rec (fun _=>RS) (K.e j r' h') (K.n r' h') (Nat.beq j i)) _:=hk
    show if j=i then _ else _
    by_cases e:j=i
    ·rw [if_pos e]
     rw [e,Nat.beq_refl] at hk
     exact ⟨r',h',φ',S',T,hk⟩
    ·rw [if_neg e]
     have:Nat.beq j i=false:=by rw [←Bool.not_eq_true];exact fun g=>e (Nat.eq_of_beq_eq_true g)
     rw [this] at hk
     exact ⟨r',h',φ',S',T,hk⟩
   | goto i=>exact ⟨r',h',φ',S',T,hk⟩
   | ret=>exact ⟨r',h',φ',S',T,hk⟩
   | panic c=>exact hk.elim
   | outgrown=>exact hk.elim
  ·exact (RS.Safe.err hs).elim
 | loop c=>exact fun K r h φ a w S hs=>(RS.Safe.err hs).elim
 | rangeFunc f ps x y=>exact fun K r h φ a w S hs=>(RS.Safe.err hs).elim
 | exit i=>exact fun K r h φ a w S hs=>wp_exit ⟨r,h,φ,S,.refl _ _ _,fun _ hz=>hz⟩
 | scope c=>exact fun K r h φ a w S hs=>(RS.Safe.err hs).elim
 | label l=>exact fun K r h φ a w S hs=>(RS.Safe.err hs).elim
 | goto l=>exact fun K r h φ a w S hs=>wp_goto ⟨r,h,φ,S,.refl _ _ _,fun _ hz=>hz⟩
 | ret=>exact fun K r h φ a w S hs=>wp_ret ⟨r,h,φ,S,.refl _ _ _,fun _ hz=>hz⟩
 | refuse s=>exact fun K r h φ a w S hs=>(RS.Safe.err hs).elim
theorem uN {t:Nat} (ht:t < 256):∀{L:List Nat},aq (hi t) (lo t) (bD r L)=if t∈L then aq (hi t) (lo t) r else .undef
 | []=>by
  show aq (hi t) (lo t) .nil=_
  rw [if_neg (by simp)]
  show A1.get (lo t) (A2.get (hi t) .nil)=_
  rw [A2.get_nil,A1.get_nil]
 | s::L=>by
  have ih:=uN ht (L:=L)
  show aq (hi t) (lo t) (if s < 256 then eQ (hi s) (lo s) (aq (hi s) (lo s) r) (bD r L) else bD r L)=_
  split
  ·rename_i hs
   rw [dH]
   by_cases e:t=s
   ·subst e;simp
   ·rw [if_neg (fun g=>e ((Di ht hs).1 g)),ih]
    simp [e]
  ·rename_i hs
   have e:t≠s:=by omega
   rw [ih];simp [e]
theorem St.bD (S:St n G φ r h a w) (L:List Nat):St n G φ (bD r L) h a w:=⟨S.hr,fun t ht=>by
 rw [uN ht]
 split
 ·exact S.aE t ht
 ·exact .undef _,S.dz,S.size,S.fy⟩
theorem DC {L Lr:List Nat} {x:RS} {e:Exit} {a':Act} {w':World} (hd:mR n G φ h w (lR L Lr) x e a' w'):aZ n G φ h w x e a' w':=by
 obtain ⟨r',h',φ',S,T,hk⟩:=hd
 cases e with
 | normal=>exact ⟨_,_,h',φ',hk _ (.nm _ _),.nm _ _,S.bD L,T⟩
 | exit i=>exact ⟨_,_,h',φ',hk _ (.ex _ _ _),.ex _ _ _,S.bD L,T⟩
 | goto i=>exact ⟨_,_,h',φ',hk _ (.go _ _ _),.go _ _ _,S.bD L,T⟩
 | ret=>exact ⟨_,_,h',φ',hk _ (.ret _ _),.ret _ _,S.bD Lr,T⟩
 | panic c=>exact hk.elim
 | outgrown=>exact hk.elim
theorem zB (M:mH P names p.ms) (D:NG P G names p) (CO:du P G p run) {L Lr Lx:List Nat} {y:AC} (hT:∀(n:Nat) (c:Code) (r:A2) (h:Hp) (φ:aJ) (a:Act) (w:World),Impl (cC P G n names c) y→St n G φ r h a w→(run y r h).Safe→c.wp P (aZ n G φ h w (run y r h)) a w) :
  ∀(k:Nat) (c:Code) (r:A2) (h:Hp) (φ:aJ) (a:Act) (w:World),Impl (iK k (cC P G n names c)) y→St n G φ r h a w→
   (vW (aj p run) (aL p run) (lR L Lr) (fun r h=>run y (bD r Lx) h) k (cC P G n names c) r h).Safe→
   c.wp P (aZ n G φ h w (vW (aj p run) (aL p run) (lR L Lr) (fun r h=>run y (bD r Lx) h) k (cC P G n names c) r h)) a w
 | 0,c,r,h,φ,a,w,hI,S,hs=>hT n c (bD r Lx) h φ a w hI (S.bD Lx) hs
 | k+1,c,r,h,φ,a,w,hI,S,hs=>by
  by_cases hc:∃x y',c=.seq x y'
  ·obtain ⟨c1,c2,rfl⟩:=hc
   have hs:(den (aj p run) (aL p run) (cC P G n names c1) ⟨vW (aj p run) (aL p run) (lR L Lr) (fun r h=>run y (bD r Lx) h) k (cC P G n names c2),(lR L Lr).e,(lR L Lr).g,(lR L Lr).r⟩ r h).Safe:=hs
   refine wp_seq (wp_mono (DB M D CO c1 _ r h φ a w S hs) ?_)
   rintro e a' w' ⟨r',h',φ',S',T,hk⟩
   cases e with
   | normal=>
    have hk:Sub (vW (aj p run) (aL p run) (lR L Lr) (fun r h=>run y (bD r Lx) h) k (cC P G n names c2) r' h') _:=hk
    refine wp_mono (zB M D CO hT k c2 r' h' φ' a' w' hI S' (hk.safe hs)) ?_
    rintro e a'' w'' ⟨z,r'',h'',φ'',hl,he,S'',T'⟩
    exact ⟨z,r'',h'',φ'',hk _ hl,he,S'',T.trans T'⟩
   | exit i=>exact ⟨_,_,h',φ',hk _ (.ex _ _ _),.ex _ _ _,S'.bD L,T⟩
   | goto i=>exact ⟨_,_,h',φ',hk _ (.go _ _ _),.go _ _ _,S'.bD L,T⟩
   | ret=>exact ⟨_,_,h',φ',hk _ (.ret _ _),.ret _ _,S'.bD Lr,T⟩
   | panic c=>exact hk.elim
   | outgrown=>exact hk.elim
  ·have e0:vW (aj p run) (aL p run) (lR L Lr) (fun r h=>run y (bD r Lx) h) (k+1) (cC P G n names c)=den (aj p run) (aL p run) (cC P G n names c) (lR L Lr):=by
    cases c with
    | seq x y'=>exact absurd ⟨_,_,rfl⟩ hc
    | region id ops d=>
     cases d with
     | false=>
      show vW (aj p run) (aL p run) (lR L Lr) (fun r h=>run y (bD r Lx) h) (k+1) (pU P G n names ops)=den (aj p run) (aL p run) (pU P G n names ops) (lR L Lr)
      rcases fQ (P:=P) (G:=G) (n:=n) (names:=names) ops with e|⟨q,e⟩<;>rw [e]<;>rfl
     | true=>
      show vW (aj p run) (aL p run) (lR L Lr) (fun r h=>run y (bD r Lx) h) (k+1) (mQ P G n names ops)=den (aj p run) (aL p run) (mQ P G n names ops) (lR L Lr)
      rcases iI (P:=P) (G:=G) (n:=n) (names:=names) (bad:=jK P G (gJ P G (jK P G (gJ P G (fun _=>.bad 404) n names) names) n names) names) ops with ⟨l,hl,e⟩|e
      ·have e:mQ P G n names ops=_:=e
       rw [e];rfl
      ·have e:mQ P G n names ops=_:=e
       rw [e]
       rcases iJ (P:=P) (G:=G) (names:=names) (next:=gJ P G (jK P G (gJ P G (fun _=>.bad 404) n names) names) n names) ops with ⟨x,y,_,_,_,_,e2⟩|⟨k,e2⟩
       ·rw [e2];rfl
       ·rw [e2];rfl
    | cond c x y=>
     simp only [cC]
     split<;>rfl
    | block i c=>rcases mP (P:=P) (G:=G) (n:=n) (names:=names) i c with e|e<;>rw [e]<;>rfl
    | _=>rfl
   rw [e0] at hs ⊢
   exact wp_mono (DB M D CO c _ r h φ a w S hs) fun e a' w' hd=>DC hd
end
variable {P:Program} {φ φ':aJ} {h h' h2:Hp} {w w':World} {v:AV} {r r2:A2} {a:Act} {cv:Value} {n:Nat} {G:Gl} [NB G] {names:List String} {p:Pg} {run:gg}
theorem aZ.cases {x:RS} {Q:Exit→Act→World→Prop} {w0:World}
  (hn:∀r' h' φ' a w,x.aO (.nm r' h')→St n G φ' r' h' a w→Step φ h w0 φ' h' w→Q .normal a w)
  (he:∀i r' h' φ' a w,x.aO (.ex i r' h')→St n G φ' r' h' a w→Step φ h w0 φ' h' w→Q (.exit i) a w)
  (hg:∀i r' h' φ' a w,x.aO (.go i r' h')→St n G φ' r' h' a w→Step φ h w0 φ' h' w→Q (.goto i) a w)
  (hr:∀r' h' φ' a w,x.aO (.ret r' h')→St n G φ' r' h' a w→Step φ h w0 φ' h' w→Q .ret a w) (e:Exit) (a:Act) (w:World) (hq:aZ n G φ h w0 x e a w):Q e a w:=by
 obtain ⟨y,r',h',φ',hl,hy,S,T⟩:=hq
 cases hy with
 | nm=>exact hn _ _ _ _ _ hl S T
 | ex i=>exact he _ _ _ _ _ _ hl S T
 | go i=>exact hg _ _ _ _ _ _ hl S T
 | ret=>exact hr _ _ _ _ _ hl S T
theorem aZ.then {x x':RS} {w0 w1:World} {φ0 φ1:aJ} {h0 h1:Hp} (T:Step φ0 h0 w0 φ1 h1 w1) (hl:∀y,x.aO y→x'.aO y) (e:Exit) (a:Act) (w:World) (hq:aZ n G φ1 h1 w1 x e a w):aZ n G φ0 h0 w0 x' e a w:=
 let ⟨y,r',h',φ',g1,g2,g3,g4⟩:=hq;⟨y,r',h',φ',hl y g1,g2,g3,T.trans g4⟩
theorem mJ.mono {c:Code} {Q Q':Exit→Act→World→Prop} (hl:mJ P c Q a w) (hq:∀e a w,Q e a w→Q' e a w):mJ P c Q' a w:=fun b k cs=>
 let ⟨e,a',w',q,g⟩:=hl b k cs;⟨e,a',w',hq _ _ _ q,g⟩
theorem vO.mono {s c:Code} {Q Q':Exit→Act→World→Prop} (hl:vO P s c Q a w) (hq:∀e a w,Q e a w→Q' e a w):vO P s c Q' a w:=fun b k cs=>
 let ⟨e,a',w',q,g⟩:=hl b k cs;⟨e,a',w',hq _ _ _ q,g⟩
theorem xk {m:Nat} (C:bP P G names p m) (s c:Code) {x y:AC} (hI:Impl (cC P G n names s) x) (hJ:Impl (cC P G n names c) y) (S:St n G φ r h a w) (hs:(xl x y (exec p m) r h).Safe) :
  vO P s c (aZ n G φ h w (xl x y (exec p m) r h)) a w:=by
 unfold xl at hs ⊢
 refine Io (wp_mono (C.code n c y r h φ a w hJ S (fK hs)) (aZ.cases ?_ ?_ ?_ ?_))
 ·exact fun r' h' φ' a' w' hl S' T=>⟨_,r',h',φ',cN hl rfl (.nm _ _),.nm _ _,S',T⟩
 ·exact fun i r' h' φ' a' w' hl S' T=>⟨_,r',h',φ',dg hl rfl (.ex _ _ _),.ex _ _ _,S',T⟩
 ·intro l r' h' φ' a' w' hl S' T
  have TW:=vN hs hl
  have e:=sN (P:=P) (G:=G) (n:=n) (names:=names) l s
  show (match findLabel s l with
   | some c=>vO P s c _ a' w'
   | none=>_)
  cases hf:findLabel s l with
  | none=>
   rw [hf] at e
   have e2:cI x l=none:=by
    rcases sP l hI with ⟨_,e2⟩|⟨_,_,e1,_⟩
    ·exact e2
    ·rw [e] at e1;cases e1
   have hk:(Option.rec (.go l r' h') (fun c=>exec p m (.sat x c) r' h') (cI x l):RS)=.go l r' h':=by rw [e2]
   refine ⟨_,r',h',φ',cP hl rfl ?_,.go _ _ _,S',T⟩
   show (Option.rec (.go l r' h') (fun c=>exec p m (.sat x c) r' h') (cI x l):RS).aO _
   rw [hk];exact .go _ _ _
  | some c'=>
   rw [hf] at e
   obtain ⟨y',e2,e3⟩:∃y',cI x l=some y'∧Impl (cC P G n names c') y':=by
    rcases sP l hI with ⟨e1,_⟩|⟨d,d',e1,e2,e3⟩
    ·rw [e] at e1;cases e1
    ·rw [e] at e1;cases e1;exact ⟨d',e2,e3⟩
   have hk:(Option.rec (.go l r' h') (fun c=>exec p m (.sat x c) r' h') (cI x l):RS)=exec p m (.sat x y') r' h':=by rw [e2]
   have hs3:(Option.rec (.go l r' h') (fun c=>exec p m (.sat x c) r' h') (cI x l):RS).Safe:=TW
   rw [hk] at hs3
   refine (C.sat n s c' x y' r' h' φ' a' w' hI e3 S' hs3).mono (aZ.then T fun y hy=>cP hl rfl ?_)
   show (Option.rec (.go l r' h') (fun c=>exec p m (.sat x c) r' h') (cI x l):RS).aO _
   rw [hk];exact hy
 ·exact fun r' h' φ' a' w' hl S' T=>⟨_,r',h',φ',dp hl rfl,.ret _ _,S',T⟩
theorem lS {m:Nat} (C:bP P G names p m) (i:Nat) (c:Code) {x:AC} (hI:Impl (cC P G n names c) x) (S:St n G φ r h a w) (hs:(qk i x (exec p m) r h).Safe) :
  (Code.block i c).wp P (aZ n G φ h w (qk i x (exec p m) r h)) a w:=by
 unfold qk at hs ⊢
 refine wp_block (wp_mono (C.code n c x r h φ a w hI S (fK hs)) (aZ.cases ?_ ?_ ?_ ?_))
 ·exact fun r' h' φ' a' w' hl S' T=>⟨_,r',h',φ',cN hl rfl (.nm _ _),.nm _ _,S',T⟩
 ·intro j r' h' φ' a' w' hl S' T
  show if j=i then _ else _
  by_cases e:j=i
  ·rw [if_pos e]
   refine ⟨_,r',h',φ',dg hl rfl ?_,.nm _ _,S',T⟩
   show (@Bool.rec (fun _=>RS) (.ex j r' h') (.nm r' h') (Nat.beq j i)).aO _
   rw [e,Nat.beq_refl];exact .nm _ _
  ·rw [if_neg e]
   refine ⟨_,r',h',φ',dg hl rfl ?_,.ex _ _ _,S',T⟩
   show (@Bool.rec (fun _=>RS) (.ex j r' h') (.nm r' h') (Nat.beq j i)).aO _
   have:Nat.beq j i=false:=by rw [←Bool.not_eq_true];exact fun g=>e (Nat.eq_of_beq_eq_true g)
   rw [this];exact .ex _ _ _
 ·exact fun i r' h' φ' a' w' hl S' T=>⟨_,r',h',φ',cP hl rfl (.go _ _ _),.go _ _ _,S',T⟩
 ·exact fun r' h' φ' a' w' hl S' T=>⟨_,r',h',φ',dp hl rfl,.ret _ _,S',T⟩
theorem uQ {m:Nat} (C:bP P G names p m) (c:Code) {x:AC} (hI:Impl (cC P G n names c) x) (S:St n G φ r h a w) (hs:(vX x (exec p m) r h).Safe) :
  mJ P c (aZ n G φ h w (vX x (exec p m) r h)) a w:=by
 unfold vX at hs ⊢
 refine mK (wp_mono (C.code n c x r h φ a w hI S (fK hs)) (aZ.cases ?_ ?_ ?_ ?_))
 ·intro r' h' φ' a' w' hl S' T
  exact (C.loop n c x r' h' φ' a' w' hI S' (iE hs hl)).mono (aZ.then T fun y hy=>cN hl rfl hy)
 ·exact fun i r' h' φ' a' w' hl S' T=>⟨_,r',h',φ',dg hl rfl (.ex _ _ _),.ex _ _ _,S',T⟩
 ·exact fun i r' h' φ' a' w' hl S' T=>⟨_,r',h',φ',cP hl rfl (.go _ _ _),.go _ _ _,S',T⟩
 ·exact fun r' h' φ' a' w' hl S' T=>⟨_,r',h',φ',dp hl rfl,.ret _ _,S',T⟩
def uR (P:Program) (G:Gl) (n:Nat) (p:Pg) (mk:Array Oper→AC):Prop:=∀(m:Nat),(∀k,k≤m→du P G p (exec p k))→∀(ops:Array Oper) (r:A2) (h:Hp) (φ:aJ) (a:Act) (w:World),St n G φ r h a w→
 (sW (mk ops) p (exec p m) r h).Safe→wpAny P .any ops (aZ n G φ h w (sW (mk ops) p (exec p m) r h)) ops.size (Array.replicate ops.size false) a {w with drawn:=w.drawn+1}
theorem Bs (k:Nat):uR P G n p (fun _=>.bad k):=fun _ _ _ _ _ _ _ _ _ hs=>(RS.Safe.err hs).elim
theorem vY (D:vT P G names p) {bad:Array Oper→AC} (hb:uR P G n p bad):uR P G n p (gJ P G bad n names):=by
 intro m CO ops r h φ a w S hs
 rcases iI (P:=P) (G:=G) (n:=n) (names:=names) (bad:=bad) ops with ⟨l,hl,e⟩|e
 ·rw [e] at hs ⊢
  have hs:(sV p (exec p m) (l.map fun (i,b)=>.mk b (oH P G n names ops (ops.getD i default))) r h h []).Safe:=hs
  show wpAny P .any ops (aZ n G φ h w (sV p (exec p m) (l.map fun (i,b)=>.mk b (oH P G n names ops (ops.getD i default))) r h h [])) ops.size (Array.replicate ops.size false) a {w with drawn:=w.drawn+1}
  rw [uM] at hs ⊢
  refine D n (exec p m) (CO m (Nat.le_refl _)) ops l _ r h φ a w _ hl S hs ?_
  intro r' h' φ' a' w' e1 S' T
  rw [e1]
  exact ⟨_,r',h',φ',.nm _ _,.nm _ _,S',T⟩
 ·rw [e] at hs ⊢
  exact hb m CO ops r h φ a w S hs
theorem uS {x:RS} {w0:World}:¬ LetsOut (aZ n G φ h w0 x):=by
 rintro ⟨a,w,y,r',h',φ',_,he,_⟩
 cases he
theorem aZ.yC {x:RS} (hs:(fj h x).Safe) (e:Exit) (a':Act) (w':World) (hq:aZ n G φ (mark h) w x e a' w'):aZ n G φ h w (fj h x) e a' w':=by
 obtain ⟨y,r',h',φ',hl,he,S',T⟩:=hq
 obtain ⟨y2,r2,h2,q1,q2,q3,q4,q5⟩:=(mM hs).2 y hl e r' h' he T.fr
 exact ⟨y2,r2,h2,φ',q1,q2,S'.less q3 q4,T.Dn q4 q5⟩
theorem Iz {x y:RS} (hs:(vZ h x y).Safe):x.Safe∧y.Safe∧(∀e a' w',aZ n G φ (mark h) w x e a' w'→aZ n G φ h w (vZ h x y) e a' w')∧(∀e a' w',aZ n G φ (mark h) w y e a' w'→aZ n G φ h w (vZ h x y) e a' w'):=by
 have e0:vZ h x y=@Bool.rec (fun _=>RS) (pT h (.ch 2 (fun i=>@Nat.rec (fun _=>RS) x (fun _ _=>y) i))) (fj h (.ch 2 (fun i=>@Nat.rec (fun _=>RS) x (fun _ _=>y) i))) (NI x y):=rfl
 cases he:NI x y with
 | true=>
  rw [he] at e0
  have e0:vZ h x y=fj h (.ch 2 (fun i=>@Nat.rec (fun _=>RS) x (fun _ _=>y) i)):=e0
  rw [e0] at hs ⊢
  have hj:=(mM hs).1
  exact ⟨fun k hk=>hj k (.ch 2 _ 0 _ (by omega) hk),fun k hk=>hj k (.ch 2 _ 1 _ (by omega) hk),fun e a' w' hq=>aZ.yC hs e a' w' (hq.lift fun z hz=>.ch 2 _ 0 _ (by omega) hz),fun e a' w' hq=>aZ.yC hs e a' w' (hq.lift fun z hz=>.ch 2 _ 1 _ (by omega) hz)⟩
 | false=>
  rw [he] at e0
  have e0:vZ h x y=pT h (.ch 2 (fun i=>@Nat.rec (fun _=>RS) x (fun _ _=>y) i)):=e0
  rw [e0] at hs ⊢
  have hj:=uG hs
  exact ⟨fun k hk=>hj k (.ch 2 _ 0 _ (by omega) hk),fun k hk=>hj k (.ch 2 _ 1 _ (by omega) hk),fun e a' w' hq=>aZ.pT (hq.lift fun z hz=>.ch 2 _ 0 _ (by omega) hz),fun e a' w' hq=>aZ.pT (hq.lift fun z hz=>.ch 2 _ 1 _ (by omega) hz)⟩
theorem zD {next:Array Oper→AC} (hn:uR P G n p next):uR P G n p (jK P G next names):=by
 intro m CO ops r h φ a w S hs
 rcases iJ (P:=P) (G:=G) (names:=names) (next:=next) ops with ⟨x,y,hf,hxy,hx,hy,e⟩|⟨k,e⟩
 ·rw [e] at hs ⊢
  have hs:(vZ h (exec p m (next (eR x y ops)) r (mark h)) (exec p m (next (eR y x ops)) r (mark h))).Safe:=hs
  show wpAny P .any ops (aZ n G φ h w (vZ h (exec p m (next (eR x y ops)) r (mark h)) (exec p m (next (eR y x ops)) r (mark h)))) ops.size (Array.replicate ops.size false) a {w with drawn:=w.drawn+1}
  obtain ⟨s1,s2,s3,s4⟩:=Iz (n:=n) (G:=G) (φ:=φ) (h:=h) (w:=w) hs
  cases m with
  | zero=>exact (RS.Safe.err s1).elim
  | succ m=>
   have g1:=hn m (fun k hk=>CO k (by omega)) (eR x y ops) r (mark h) φ a w S.mark s1
   have g2:=hn m (fun k hk=>CO k (by omega)) (eR y x ops) r (mark h) φ a w S.mark s2
   rw [uI] at g1 g2
   refine uJ (fun i o ho=>Ix (hf o (Array.mem_toList_iff.2 (Array.mem_of_getElem? ho)))) uS uS ?_ ?_ _ _ _ _ g1 g2 hxy ?_ ?_ (by simp) hx hy
   ·exact s3
   ·exact s4
   ·simp [Array.getD_eq_getD_getElem?,Array.getElem?_replicate,hx]
   ·simp [Array.getD_eq_getD_getElem?,Array.getElem?_replicate,hy]
 ·rw [e] at hs
  exact (RS.Safe.err hs).elim
theorem IA (D:vT P G names p):uR P G n p (mQ P G n names):=vY D (zD (vY D (zD (vY D (Bs 404)))))
theorem Bt {m:Nat} (E:Env P G names p) (D:vT P G names p) (CA:∀k,k≤m→bP P G names p k) (c:Code) {z:AC} (hI:Impl (cC P G n names c) z) (S:St n G φ r h a w) (hs:(sW z p (exec p m) r h).Safe) :
  c.wp P (aZ n G φ h w (sW z p (exec p m) r h)) a w:=by
 have C:=CA m (Nat.le_refl _)
 have CO:=sU E C
 rcases yB hI with ⟨k,Lin,L,Lr,Lx,y,rfl,hn,hy⟩|⟨q,rfl⟩|hN
 ·exact zB E.ms (D.Yl E.mixed) CO (fun n c r h φ a w=>C.code n c y r h φ a w) k c (bD r Lin) h φ a w hy (S.bD Lin) hs
 ·exact (RS.Safe.err hs).elim
 cases c with
 | skip=>
  have hN:z=.skip:=hN
  subst hN
  exact wp_skip ⟨_,r,h,φ,.nm _ _,.nm _ _,S,.refl _ _ _⟩
 | region id ops d=>
  have hz:z=cC P G n names (.region id ops d):=by
   cases d with
   | false=>
    have e3:cC P G n names (.region id ops false)=pU P G n names ops:=rfl
    rw [e3] at hN ⊢
    rcases fQ (P:=P) (G:=G) (n:=n) (names:=names) ops with e|⟨q,e⟩<;>rw [e] at hN ⊢<;>exact hN
   | true=>
    have e3:cC P G n names (.region id ops true)=mQ P G n names ops:=rfl
    rw [e3] at hN ⊢
    rcases iI (P:=P) (G:=G) (n:=n) (names:=names) (bad:=jK P G (gJ P G (jK P G (gJ P G (fun _=>.bad 404) n names) names) n names) names) ops with ⟨l,hl,e⟩|e
    ·have e:mQ P G n names ops=_:=e
     rw [e] at hN ⊢;exact hN
    ·have e:mQ P G n names ops=_:=e
     rw [e] at hN ⊢
     rcases iJ (P:=P) (G:=G) (names:=names) (next:=gJ P G (jK P G (gJ P G (fun _=>.bad 404) n names) names) n names) ops with ⟨x,y,_,_,_,_,e2⟩|⟨k,e2⟩
     ·rw [e2] at hN ⊢;exact hN
     ·rw [e2] at hN ⊢;exact hN
  subst hz
  cases d with
  | false=>
   have hs:(sW (pU P G n names ops) p (exec p m) r h).Safe:=hs
   show (Code.region id ops false).wp P (aZ n G φ h w (sW (pU P G n names ops) p (exec p m) r h)) a w
   rcases fQ (P:=P) (G:=G) (n:=n) (names:=names) ops with e|⟨q,e⟩
   case inr=>
    rw [e] at hs ⊢
    have hs:(wa q (ops.toList.map fun o=>lN P {G with b:=some q} n names ops o) p (exec p m) r h).Safe:=hs
    show (Code.region id ops false).wp P (aZ n G φ h w (wa q (ops.toList.map fun o=>lN P {G with b:=some q} n names ops o) p (exec p m) r h)) a w
    unfold wa at hs ⊢
    refine wp_region ?_
    have:=yu (Q:=aZ n G φ h w (RS.bind (gI p (exec p m) (ops.toList.map fun o=>lN P {G with b:=some q} n names ops o) (sB q r) h) (fun r h=>.nm (yo q r) h) (fun i r h=>.ex i r h) (fun l r h=>.go l r h))) E.ms (show du P {G with b:=some q} p (exec p m) from fun f args h φ w vals hg=>CO f args h φ w vals hg) ops.toList [] (sB q r) h φ a w (by simp) (S.drop q) (fK hs)
     (fun r' h' φ' a' w' hl S' T=>⟨_,yo q r',h',φ',cN hl rfl (.nm _ _),.nm _ _,S'.ins,T⟩)
    rw [List.range_eq_range']
    simpa using this
   rw [e] at hs ⊢
   have hs:(gI p (exec p m) (ops.toList.map fun o=>lN P G n names ops o) r h).Safe:=hs
   show (Code.region id ops false).wp P (aZ n G φ h w (gI p (exec p m) (ops.toList.map fun o=>lN P G n names ops o) r h)) a w
   refine wp_region ?_
   have:=yu (Q:=aZ n G φ h w (gI p (exec p m) (ops.toList.map fun o=>lN P G n names ops o) r h)) E.ms CO ops.toList [] r h φ a w (by simp) S hs (fun r' h' φ' a' w' hl S' T=>⟨_,r',h',φ',hl,.nm _ _,S',T⟩)
   rw [List.range_eq_range']
   show wpOps P ops (aZ n G φ h w (gI p (exec p m) (ops.toList.map fun o=>lN P G n names ops o) r h)) (List.range' 0 ops.size) a w
   simpa using this
  | true=>
   exact wp_region_any E.mixed (IA D m (fun k hk=>sU E (CA k hk)) ops r h φ a w S hs)
 | seq c1 c2=>
  obtain ⟨x,y,rfl,hx,hy⟩:∃a' b',z=.seq a' b'∧Impl (cC P G n names c1) a'∧Impl (cC P G n names c2) b':=hN
  have hs:(zE x y (exec p m) r h).Safe:=hs
  show (Code.seq c1 c2).wp P (aZ n G φ h w (zE x y (exec p m) r h)) a w
  unfold zE at hs ⊢
  refine wp_seq (wp_mono (C.code n c1 x r h φ a w hx S (fK hs)) (aZ.cases ?_ ?_ ?_ ?_))
  ·intro r' h' φ' a' w' hl S' T
   exact wp_mono (C.code n c2 y r' h' φ' a' w' hy S' (iE hs hl)) (aZ.then T fun z hz=>cN hl rfl hz)
  ·exact fun i r' h' φ' a' w' hl S' T=>⟨_,r',h',φ',dg hl rfl (.ex _ _ _),.ex _ _ _,S',T⟩
  ·exact fun i r' h' φ' a' w' hl S' T=>⟨_,r',h',φ',cP hl rfl (.go _ _ _),.go _ _ _,S',T⟩
  ·exact fun r' h' φ' a' w' hl S' T=>⟨_,r',h',φ',dp hl rfl,.ret _ _,S',T⟩
 | cond c x y=>
  simp only [cC] at hN
  cases hc:cO G c with
  | none=>
   rw [hc] at hN
   have hN:z=.bad 401:=hN
   subst hN
   exact (RS.Safe.err hs).elim
  | some b=>
   rw [hc] at hN
   obtain ⟨x',y',rfl,hx,hy⟩:∃a' b',z=.cond b a' b'∧Impl (cC P G n names x) a'∧Impl (cC P G n names y) b':=hN
   have hs:(AV.bI (ev b r) (fun t=>@Bool.rec (fun _=>RS) (exec p m y' r h) (exec p m x' r h) t) (.err 213)).Safe:=hs
   obtain ⟨t,ht,e⟩:=fh hs
   show (Code.cond c x y).wp P (aZ n G φ h w (AV.bI (ev b r) (fun t=>@Bool.rec (fun _=>RS) (exec p m y' r h) (exec p m x' r h) t) (.err 213))) a w
   rw [e] at hs ⊢
   have hv:=S.Rr hc
   rw [ht] at hv
   refine wp_cond hv.cM ?_
   cases t with
   | true=>exact C.code n x x' r h φ a w hx S hs
   | false=>exact C.code n y y' r h φ a w hy S hs
 | block i c=>
  rcases mP (P:=P) (G:=G) (n:=n) (names:=names) i c with e|e<;>rw [e] at hN
  ·obtain ⟨x,rfl,hx⟩:∃a',z=.block i a'∧Impl (cC P G n names c) a':=hN
   exact lS C i c hx S hs
  ·have hz:(∃a',z=.join (.block i a')∧Impl (cC P G n names c) a')∨∃a',z=.block i a'∧Impl (cC P G n names c) a':=by
    rcases (show z=.join (.block i (cC P G n names c))∨(∃i' b b',AC.block i (cC P G n names c)=.block i' (.loop b)∧z=.join (.block i' (.loop b'))∧Impl b b')∨∃i' b b',AC.block i (cC P G n names c)=.block i' b∧z=.block i' b'∧Impl b b' from hN) with rfl|⟨i',b,b',e1,rfl,hb⟩|⟨i',b,b',e1,rfl,hb⟩
    ·exact .inl ⟨_,rfl,.refl _⟩
    ·injection e1 with e1 e2
     subst e1
     rw [e2]
     exact .inl ⟨_,rfl,.loop hb⟩
    ·injection e1 with e1 e2
     subst e1
     rw [e2]
     exact .inr ⟨_,rfl,hb⟩
   rcases hz with ⟨x,rfl,hx⟩|⟨x,rfl,hx⟩
   case inr=>exact lS C i c hx S hs
   have hs:(fj h (exec p m (.block i x) r (mark h))).Safe:=hs
   show (Code.block i c).wp P (aZ n G φ h w (fj h (exec p m (.block i x) r (mark h)))) a w
   refine wp_mono (C.block n i c x r (mark h) φ a w hx S.mark (mM hs).1) ?_
   exact fun e a' w' hq=>aZ.yC hs e a' w' hq
 | loop c=>
  obtain ⟨x,rfl,hx⟩:∃a',z=.loop a'∧Impl (cC P G n names c) a':=hN
  exact pB (uQ C c hx S hs)
 | rangeFunc f ps x y=>
  have hN:z=.bad 402:=hN
  subst hN
  exact (RS.Safe.err hs).elim
 | exit i=>
  have hN:z=.exit i:=hN
  subst hN
  exact wp_exit ⟨_,r,h,φ,.ex _ _ _,.ex _ _ _,S,.refl _ _ _⟩
 | scope c=>
  obtain ⟨x,rfl,hx⟩:∃a',z=.scope a'∧Impl (cC P G n names c) a':=hN
  exact yv (xk C c c hx hx S hs)
 | label l=>
  have hN:z=.label l:=hN
  subst hN
  exact wp_label ⟨_,r,h,φ,.nm _ _,.nm _ _,S,.refl _ _ _⟩
 | goto l=>
  have hN:z=.goto l:=hN
  subst hN
  exact wp_goto ⟨_,r,h,φ,.go _ _ _,.go _ _ _,S,.refl _ _ _⟩
 | ret=>
  have hN:z=.ret:=hN
  subst hN
  exact wp_ret ⟨_,r,h,φ,.ret _ _,.ret _ _,S,.refl _ _ _⟩
 | refuse s=>
  have hN:z=.bad 403:=hN
  subst hN
  exact (RS.Safe.err hs).elim
theorem xm (E:Env P G names p) (D:vT P G names p):∀m k,k≤m→bP P G names p k
 | 0,0,_=>⟨fun _ _ _ _ _ _ _ _ _ _ hs=>(RS.Safe.err hs).elim,fun _ _ _ _ _ _ _ _ _ _ _ hs=>(RS.Safe.err hs).elim,fun _ _ _ _ _ _ _ _ _ _ hs=>(RS.Safe.err hs).elim,fun _ _ _ _ _ _ _ _ _ _ _ _ _ hs=>(RS.Safe.err hs).elim⟩
 | m+1,k,hk=>by
  have CA:=xm E D m
  rcases Nat.lt_or_ge k (m+1) with g|g
  ·exact CA k (by omega)
  ·have e:k=m+1:=by omega
   subst e
   have C:=CA m (Nat.le_refl _)
   exact ⟨fun _ c _ _ _ _ _ _ hI S hs=>Bt E D CA c hI S hs,fun _ i c _ _ _ _ _ _ hI S hs=>lS C i c hI S hs,fun _ c _ _ _ _ _ _ hI S hs=>uQ C c hI S hs,fun _ s c _ _ _ _ _ _ _ hI hJ S hs=>xk C s c hI hJ S hs⟩
theorem dw (E:Env P G names p) (D:vT P G names p) (m:Nat):bP P G names p m:=xm E D m m (Nat.le_refl _)
theorem IB (E:Env P G names p) (D:vT P G names p) (m f:Nat) (args:List AV) (vals:List Value) (hg:mF G φ) (H:HR φ h w) (hv:bX φ args vals) (hs:(aj p (exec p m) f args h).Safe) (hb:∀k,cH f p.fs≠.ext k) :
  Calls P f vals.toArray w (eA φ h w (aj p (exec p m) f args h)):=by
 rcases sU E (dw E D m) f args h φ w vals hg H hv hs with ⟨_,hC⟩|⟨cv,w',hcf,_⟩
 ·exact hC
 ·exfalso
  have hF:=E.fs f
  have go:∀{body res},mN P G names f body res→False:=by
   rintro body res ⟨fn,body0,hfn,hc,_⟩
   unfold cF at hc
   split at hc
   ·rename_i c rs hbody hrs
    split at hc
    ·cases hc
    ·rename_i hname
     rw [fF hfn (by simpa using hname) hbody] at hcf
     cases hcf
   ·cases hc
  cases hf:cH f p.fs with
  | none=>rw [kV hf] at hs;exact (RT.Safe.err hs).elim
  | mk body res=>rw [hf] at hF;exact go hF
  | Dy body res=>rw [hf] at hF;exact go hF
  | oO k body res=>rw [hf] at hF;exact go hF.1
  | ext k=>exact hb k hf
def eo (r r':A2) (L:List Nat):Prop:=∀a b:H,(16 * a.nat+b.nat)∈L→aq a b r=aq a b r'
variable {r r':A2} {h h':Hp} {v:AV}
theorem eo.left {L M:List Nat} (e:eo r r' (L ++ M)):eo r r' L:=fun a b m=>e a b (List.mem_append_left _ m)
theorem eo.right {L M:List Nat} (e:eo r r' (L ++ M)):eo r r' M:=fun a b m=>e a b (List.mem_append_right _ m)
theorem al {x:AO} (e:eo r r' x.aE):ev x r=ev x r':=by
 cases x with
 | t a b=>exact e a b (by simp [AO.aE])
 | c v=>rfl
theorem fM:∀{xs:List AO},eo r r' (sX xs)→fu xs r=fu xs r'
 | [],_=>rfl
 | x::xs,e=>by
  have e:eo r r' (x.aE ++ sX xs):=e
  show ev x r::fu xs r=ev x r'::fu xs r'
  rw [al e.left,fM e.right]
theorem db {x:OA} {d:Nat} (e:eo r r' x.aE):eO x d r=eO x d r':=by
 cases x with
 | none=>rfl
 | some x=>
  funext k q
  show dM (ev x r) k q=dM (ev x r') k q
  rw [al (x:=x) e]
theorem lT:∀{ps:List Part},eo r r' (ps.flatMap Part.aE)→fits ps r=fits ps r'
 | [],_=>rfl
 | .mk off sz x::ps,e=>by
  have e:eo r r' (x.aE ++ ps.flatMap Part.aE):=e
  show (OL.rec (@Bool.rec (fun _=>Bool) false (fits ps r) (Bool.and (ev x r).one (Nat.beq sz 1))) (fun l=>@Bool.rec (fun _=>Bool) false (fits ps r) (Nat.beq l.length sz)) (ev x r).asAgg:Bool) =
   (OL.rec (@Bool.rec (fun _=>Bool) false (fits ps r') (Bool.and (ev x r').one (Nat.beq sz 1))) (fun l=>@Bool.rec (fun _=>Bool) false (fits ps r') (Nat.beq l.length sz)) (ev x r').asAgg:Bool)
  rw [al e.left,lT e.right]
theorem lU:∀{ps:List Part} {l:List AV},eo r r' (ps.flatMap Part.aE)→fill ps r l=fill ps r' l
 | [],_,_=>rfl
 | .mk off sz x::ps,l,e=>by
  have e:eo r r' (x.aE ++ ps.flatMap Part.aE):=e
  show fill ps r (mS (AV.cs (ev x r)) off l)=fill ps r' (mS (AV.cs (ev x r')) off l)
  rw [al e.left,lU e.right]
theorem sY {op:oB} (e:eo r r' op.aE):op.run r h=op.run r' h:=by
 cases op with
 | mv x=>show IC x r h=IC x r' h;unfold IC;rw [al e]
 | pick c a b=>show bQ c a b r h=bQ c a b r' h;unfold bQ;rw [al e.left,al e.right.left,al e.right.right]
 | alloc el n c=>rfl
 | box el x=>show xn el x r h=xn el x r' h;unfold xn;rw [al (x:=x) e]
 | build z ps=>show iy z ps r h=iy z ps r' h;unfold iy;rw [lT e,lU e]
 | aU el es n z ps=>show fc el es n z ps r h=fc el es n z ps r' h;unfold fc;rw [lT e,lU e]
 | bq x=>show gQ x r h=gQ x r' h;unfold gQ;rw [al (x:=x) e]
 | cV m x=>show pC m x r h=pC m x r' h;unfold pC;rw [al (x:=x) e]
 | Rp x y=>show sZ x y r h=sZ x y r' h;unfold sZ;rw [al (x:=x) e.left,al (x:=y) e.right]
 | gS m x y=>show xo m x y r h=xo m x y r' h;unfold xo;rw [al (x:=x) e.left,al (x:=y) e.right]
 | pR x=>show oP x r h=oP x r' h;unfold oP;rw [al (x:=x) e]
 | bin k x y=>show bK k (ev x r) (ev y r) h=bK k (ev x r') (ev y r') h;rw [al (x:=x) e.left,al (x:=y) e.right]
 | un k x=>show ID k x r h=ID k x r' h;unfold ID;rw [al (x:=x) e]
 | conv k x=>show ta k x r h=ta k x r' h;unfold ta;rw [al (x:=x) e]
 | Ie t x=>show xp t x r h=xp t x r' h;unfold xp;rw [al (x:=x) e]
 | TX f xs=>show xq f xs r h=xq f xs r' h;unfold xq;rw [fM e]
 | mT=>rfl
 | mU el z l c=>show gZ el z l c r h=gZ el z l c r' h;unfold gZ;rw [al (x:=l) e.left,al (x:=c) e.right]
 | JZ es x lo hi mx=>show cq es x lo hi mx r h=cq es x lo hi mx r' h;unfold cq;rw [al (x:=x) e.left];simp only [db e.right.left,db e.right.right.left,db e.right.right.right]
 | DD x lo hi=>show fS x lo hi r h=fS x lo hi r' h;unfold fS;rw [al (x:=x) e.left];simp only [db e.right.left,db e.right.right]
 | IE len es x lo hi mx=>show iM len es x lo hi mx r h=iM len es x lo hi mx r' h;unfold iM;rw [al (x:=x) e.left];simp only [db e.right.left,db e.right.right.left,db e.right.right.right]
 | br d x=>show ss d x r h=ss d x r' h;unfold ss;rw [al (x:=x) e]
 | IG d x=>show oQ d x r h=oQ d x r' h;unfold oQ;rw [al (x:=x) e]
 | IH d n x=>show oS d n x r h=oS d n x r' h;unfold oS;rw [al (x:=x) e]
 | bF es x y=>show su es x y r h=su es x y r' h;unfold su;rw [al (x:=x) e.left,al (x:=y) e.right]
 | AD len es x y=>show uU len es x y r h=uU len es x y r' h;unfold uU;rw [al (x:=x) e.left,al (x:=y) e.right]
 | idxs x y=>show eh x y r h=eh x y r' h;unfold eh;rw [al (x:=x) e.left,al (x:=y) e.right]
 | II len es agg x y=>show oT len es agg x y r h=oT len es agg x y r' h;unfold oT;rw [al (x:=x) e.left,al (x:=y) e.right]
 | ext i x=>show uW i x r h=uW i x r' h;unfold uW;rw [al (x:=x) e]
 | IJ t z ok x y=>show zF t z ok x y r h=zF t z ok x y r' h;unfold zF;rw [al (x:=x) e.left,al (x:=y) e.right]
 | Ka t x y z=>show zG t x y z r h=zG t x y z r' h;unfold zG;rw [al (x:=x) e.left,al (x:=y) e.right.left,al (x:=z) e.right.right]
 | del t x y=>show zH t x y r h=zH t x y r' h;unfold zH;rw [al (x:=x) e.left,al (x:=y) e.right]
 | DE x=>show oU x r h=oU x r' h;unfold oU;rw [al (x:=x) e]
 | len x=>show zI x r h=zI x r' h;unfold zI;rw [al (x:=x) e]
 | dI x=>show wb x r h=wb x r' h;unfold wb;rw [al (x:=x) e]
 | cap x=>show pE x r h=pE x r' h;unfold pE;rw [al (x:=x) e]
 | max mn xs=>show xr mn xs r h=xr mn xs r' h;unfold xr;rw [fM e]
 | app el es x y=>show uX el es x y r h=uX el es x y r' h;unfold uX;rw [al (x:=x) e.left,al (x:=y) e.right]
 | apps el x y=>show oV el x y r h=oV el x y r' h;unfold oV;rw [al (x:=x) e.left,al (x:=y) e.right]
 | TY es x y=>show uY es x y r h=uY es x y r' h;unfold uY;rw [al (x:=x) e.left,al (x:=y) e.right]
 | TZ z x=>show uZ z x r h=uZ z x r' h;unfold uZ;rw [al (x:=x) e]
 | IK x=>show wc x r h=wc x r' h;unfold wc;rw [al (x:=x) e]
 | DF x=>show tc x r h=tc x r' h;unfold tc;rw [al (x:=x) e]
 | NJ x=>show xu x r h=xu x r' h;unfold xu;rw [al (x:=x) e]
 | Kb t z ok x=>show zJ t z ok x r h=zJ t z ok x r' h;unfold zJ;rw [al (x:=x) e]
 | cG k x y=>show jN k x y r h=jN k x y r' h;unfold jN;rw [al (x:=x) e.left,al (x:=y) e.right]
 | real im x=>show fT im x r h=fT im x r' h;unfold fT;rw [al (x:=x) e]
 | IL x=>show jz x r h=jz x r' h;unfold jz;rw [al (x:=x) e]
 | xv t z x y=>show we t z x y r h=we t z x y r' h;unfold we;rw [al (x:=x) e.left,al (x:=y) e.right]
 | DG el es z x y=>show oD el es z x y r h=oD el es z x y r' h;unfold oD;rw [al (x:=x) e.left,al (x:=y) e.right]
 | xw x y z=>show wg x y z r h=wg x y z r' h;unfold wg;rw [al (x:=x) e.left.left,al (x:=y) e.left.right,al (x:=z) e.right]
 | DH el x y=>show lJ el x y r h=lJ el x y r' h;unfold lJ;rw [al (x:=x) e.left,al (x:=y) e.right]
 | bad n=>rfl
theorem vd {i:AI} {p:Pg} {run:gg} (e:eo r r' i.aE):i.res p run r h=i.res p run r' h:=by
 cases i with
 | op o=>show (o.run r h).gh=(o.run r' h).gh;rw [sY e]
 | FV s x=>show jD s (ev x r) h=jD s (ev x r') h;rw [al (x:=x) e]
 | call f xs=>show aj p run f (fu xs r) h=aj p run f (fu xs r') h;rw [fM e]
 | jb x xs=>show jc p run (ev x r) (fu xs r) h=jc p run (ev x r') (fu xs r') h;rw [al (x:=x) e.left,fM e.right]
 | inv k x xs=>show aL p run k (ev x r) (fu xs r) h=aL p run k (ev x r') (fu xs r') h;rw [al (x:=x) e.left,fM e.right]
variable {P:Program} {r r':A2} {h h':Hp} {v:AV} {n:Nat}
theorem cg {a:AV} {h0:Hp} (e:RV.ok a h0=.ok v h'):h'=h0:=(RV.au e).2.symm
theorem gK {neg:Bool} {b:EB} (e:EB.rv neg h b=.ok v h'):h'=h:=(DJ e).1
theorem kW {f:IntKind→Int→Int→AV} {x y:AV} (e:zK f x y h=.ok v h'):h'=h:=by obtain ⟨_,_,_,_,_,_,e⟩:=DL e;exact e
theorem xy {f:IntKind→Int→Int→AV} {x y:AV} (e:IM f x y h=.ok v h'):h'=h:=by obtain ⟨_,_,_,_,_,_,e,_⟩:=DM e;exact e
theorem ve {f:List Nat→List Nat→AV} {x y:AV} (e:IP f x y h=.ok v h'):h'=h:=by obtain ⟨_,_,_,_,_,e⟩:=DN e;exact e
theorem Kc {f:IntKind→Int→Int→AV} {x y:AV} (e:Rt f x y h=.ok v h'):h'=h:=by obtain ⟨_,_,_,_,_,_,_,e,_⟩:=yD e;exact e
theorem NL {k:FloatKind} {op:BinOp} {a b:Nat} (e:IQ k op a b h=.ok v h'):h'=h:=by
 unfold IQ at e
 simp only at e
 split at e<;>(try (split at e))<;>first|exact cg e|cases e
theorem IU {k:FloatKind} {op:BinOp} {a b c d:Nat} (e:zL k op a b c d h=.ok v h'):h'=h:=by
 unfold zL at e
 split at e<;>(try (split at e))<;>first|exact cg e|cases e
theorem WT {k:BK} {x y:AV} (e:bK k x y h=.ok v h'):h'=h:=by
 cases k with
 | add=>exact kW e
 | sub=>exact kW e
 | mul=>exact kW e
 | quo=>exact xy e
 | rem=>exact xy e
 | and=>exact xy e
 | or=>exact xy e
 | xor=>exact xy e
 | Ua=>exact kW e
 | shl=>exact Kc e
 | shr=>exact Kc e
 | eq=>exact kW e
 | ne=>exact kW e
 | lt=>exact kW e
 | le=>exact kW e
 | gt=>exact kW e
 | ge=>exact kW e
 | seq=>exact ve e
 | Kd=>exact ve e
 | slt=>exact ve e
 | sle=>exact ve e
 | XS=>exact ve e
 | XT=>exact ve e
 | cat=>
  obtain ⟨a,_,e⟩:=ct (show cA x y h=_ from e)
  obtain ⟨b,_,e⟩:=ct e
  obtain ⟨_,e⟩:=aB e
  exact cg e
 | beq=>exact gK e
 | bne=>exact gK e
 | lO=>exact gK e
 | WU=>exact gK e
 | jO k=>exact gK e
 | jP k=>exact gK e
 | WV ks=>
  obtain ⟨a,_,e⟩:=cZ (show xz false ks x y h=_ from e)
  obtain ⟨b,_,e⟩:=cZ e
  exact gK e
 | Ru ks=>
  obtain ⟨a,_,e⟩:=cZ (show xz true ks x y h=_ from e)
  obtain ⟨b,_,e⟩:=cZ e
  exact gK e
 | DP op=>
  obtain ⟨k,a,_,e⟩:=dC (show DQ op x y h=_ from e)
  obtain ⟨k',b,_,e⟩:=dC e
  obtain ⟨_,e⟩:=aB e
  exact NL e
 | NM op=>
  obtain ⟨k,a,b,_,e⟩:=eT (show DR op x y h=_ from e)
  obtain ⟨k',c,d,_,e⟩:=eT e
  obtain ⟨_,e⟩:=aB e
  exact IU e
 | uh=>exact gK e
 | Ym=>exact gK e
theorem dx {x:OA} {d:Nat} {k:Nat→RV} {q:Nat} (e:eO x d r k (.err q)=.ok v h'):∃b,k b=.ok v h':=by
 cases x with
 | none=>exact ⟨d,e⟩
 | some x=>obtain ⟨_,m,_,e⟩:=cL (show dM (ev x r) k (.err q)=_ from e);exact ⟨m,e⟩
theorem zM {es o a b m cap:Nat} {i:P4} (e:DT es i o a b m cap h=.ok v h'):h'=h:=by
 obtain ⟨_,e⟩:=aB e
 obtain ⟨_,e⟩:=aB e
 obtain ⟨_,e⟩:=aB e
 exact cg e
theorem IV {es o a b:Nat} {i:P4} (e:Ke es i o a b h=.ok v h'):h'=h:=by
 obtain ⟨_,e⟩:=aB e
 obtain ⟨_,_,_,_,_,_,e⟩:=aQ e
 obtain ⟨_,e⟩:=aB e
 exact cg e
theorem IW {es o a b m:Nat} {i:P4} (e:Kf es i o a b m h=.ok v h'):h'=h:=by
 obtain ⟨_,e⟩:=aB e
 obtain ⟨_,e⟩:=aB e
 obtain ⟨_,_,_,_,_,_,e⟩:=aQ e
 obtain ⟨_,e⟩:=aB e
 exact cg e
theorem Ub {es:Nat} {x:AO} {lo hi mx:OA} (e:cq es x lo hi mx r h=.ok v h'):h'=h:=by
 rcases cX e with ⟨i,o,l,c,_,e⟩|⟨i,o,l,c,_,e⟩|⟨_,e⟩
 ·obtain ⟨_,e⟩:=dx e
  obtain ⟨_,e⟩:=dx e
  obtain ⟨_,e⟩:=dx e
  exact zM e
 ·obtain ⟨_,e⟩:=aB e
  obtain ⟨_,e⟩:=dx e
  obtain ⟨_,e⟩:=dx e
  rcases eC e with ⟨_,e⟩|⟨_,e⟩
  ·exact IV e
  ·obtain ⟨_,e⟩:=dx e
   exact IW e
 ·obtain ⟨_,e⟩:=dx e
  obtain ⟨_,e⟩:=dx e
  obtain ⟨_,e⟩:=dx e
  obtain ⟨_,e⟩:=aB e
  exact cg e
theorem NN {len es:Nat} {x:AO} {lo hi mx:OA} (e:iM len es x lo hi mx r h=.ok v h'):h'=h:=by
 obtain ⟨_,_,_,e⟩:=cn e
 obtain ⟨_,e⟩:=dx e
 obtain ⟨_,e⟩:=dx e
 obtain ⟨_,e⟩:=dx e
 exact zM e
theorem NO {x:AO} {lo hi:OA} (e:fS x lo hi r h=.ok v h'):h'=h:=by
 obtain ⟨_,_,e⟩:=ct e
 obtain ⟨_,e⟩:=dx e
 obtain ⟨_,e⟩:=dx e
 obtain ⟨_,e⟩:=aB e
 obtain ⟨_,e⟩:=aB e
 exact cg e
theorem qm {α:Type} {l:List α} {f:α→AV} {n:Nat} (e:(List.rec (.err n) (fun a _ _=>.ok (f a) h) l:RV)=.ok v h'):h'=h:=by
 cases l with
 | nil=>cases e
 | cons a t=>exact cg e
theorem vf {es o n:Nat} {i:P4} {k:List AV→RV} {q:Nat} (e:kI es i o n h k (.err q)=.ok v h'):∃l,k l=.ok v h':=by
 cases n with
 | zero=>exact ⟨_,e⟩
 | succ n=>
  change (Obj.bB (av i h) (fun _ m _ _ c=>@Bool.rec (fun _=>RV) (.err q) (k (bw (Nat.mul (Nat.succ n) es) c o)) (Nat.ble (Nat.add o (Nat.mul (Nat.succ n) es)) m)) (.err q):RV)=_ at e
  obtain ⟨_,_,_,_,_,_,e⟩:=aQ e
  obtain ⟨_,e⟩:=aB e
  exact ⟨_,e⟩
theorem IX {es:Nat} {x:AV} {k:List AV→RV} {q:Nat} (e:elems es x h k (.err q)=.ok v h'):∃l,k l=.ok v h':=by
 rcases cX e with ⟨i,o,l,c,_,e⟩|⟨i,o,l,c,_,e⟩|⟨_,e⟩
 ·exact vf e
 ·obtain ⟨_,e⟩:=aB e
  exact vf e
 ·exact ⟨_,e⟩
theorem DU {mn:Bool} {k:IntKind}:∀{l:List AV} {a:Int},xA mn k h l a=.ok v h'→h'=h
 | [],a,e=>cg e
 | y::l,a,e=>by
  rw [vg] at e
  obtain ⟨_,_,_,e⟩:=bn e
  obtain ⟨_,e⟩:=aB e
  exact DU e
theorem Uc {t:KT} {z:AV} {ok:Bool} {x k:AV} (e:IJ t z ok x k h=.ok v h'):h'=h:=by
 obtain ⟨_,e⟩:=aB e
 have ho:∀{f:Bool} {a:AV},zN ok f a h=.ok v h'→h'=h:=fun e=>cg e
 rcases eD e with ⟨i,_,e⟩|⟨_,e⟩
 ·obtain ⟨l,c,_,e⟩:=dq e
  rw [jQ] at e
  rcases hD e with ⟨_,e⟩|⟨_,_,_,_,_,e⟩
  ·exact ho e
  ·exact ho e
 ·exact ho e
theorem Ud {t:Nat} {z:AV} {ok:Bool} {x:AV} (e:Kb t z ok x h=.ok v h'):h'=h:=by
 cases x<;>(try (cases e;done))
 ·rename_i u a
  have e:(@Bool.rec (fun _=>RV) (@Bool.rec (fun _=>RV) (.err 109) (zN true false z h) ok) (zN ok true a h) (Nat.beq t u))=_:=e
  rcases eC e with ⟨_,e⟩|⟨_,e⟩
  ·obtain ⟨_,e⟩:=aB e;exact cg e
  ·exact cg e
 ·obtain ⟨_,e⟩:=aB (show (@Bool.rec (fun _=>RV) (.err 109) (zN true false z h) ok)=_ from e)
  exact cg e
theorem NP {x:AO} (e:oP x r h=.ok v h'):h'=h:=by
 have e:(OP.rec (pR (ev x r) h) (fun i o=>.ok (.ptr i o) h) (ev x r).eN:RV)=_:=e
 generalize ev x r=a at e
 cases a<;>first|exact cg e|cases e
theorem NQ {len es:Nat} {agg:Bool} {x y:AO} (e:oT len es agg x y r h=.ok v h'):h'=h:=by
 obtain ⟨_,_,_,e⟩:=cL e
 obtain ⟨_,_,e⟩:=cZ e
 obtain ⟨_,e⟩:=aB e
 rcases eC e with ⟨_,e⟩|⟨_,e⟩
 ·exact qm (f:=fun v=>v) e
 ·obtain ⟨_,e⟩:=aB e
  exact cg e
theorem Ue {x:AV} (e:len x h=.ok v h'):h'=h:=by
 rcases cX e with ⟨i,o,l,c,_,e⟩|⟨i,o,l,c,_,e⟩|⟨_,e⟩<;>exact cg e
theorem Uf {x:AV} (e:DV x h=.ok v h'):h'=h:=by
 cases x<;>try (cases e;done)
 case dS=>exact cg (show RV.ok .dS h=.ok v h' from e)
 case ptr i o=>
  obtain ⟨_,_,_,_,_,_,e⟩:=aQ (show Obj.bB (av i h) (fun _ n ex _ _=>@Bool.rec (fun _=>RV) (.err 191) (.ok (.ptr i o) h) (Bool.and ex (FT o n))) (RV.err 192)=RV.ok v h' from e)
  obtain ⟨_,e⟩:=aB e
  exact cg e
theorem IY {u sz:Nat} {x:AV} (e:wh u sz x h=.ok v h'):h'=h:=by
 cases x<;>try (cases e;done)
 case dS=>exact cg (show RV.ok .dS h=.ok v h' from e)
 case ptr i o=>
  obtain ⟨_,_,_,_,_,_,e⟩:=aQ (show Obj.bB (av i h) (fun el n ex _ _=>@Bool.rec (fun _=>RV) (.err 193) (.ok (.ptr i o) h) (Bool.and ex (Bool.and (Nat.beq o 0) (Bool.and (Nat.beq el u) (Nat.beq n sz))))) (RV.err 194)=RV.ok v h' from e)
  obtain ⟨_,e⟩:=aB e
  exact cg e
theorem WW {k:CK} {x:AV} {y:AO} (hk:oW (.op (.conv k y))=true) (e:cK k x h=.ok v h'):h'=h:=by
 cases k<;>(try (cases hk;done))
 ·obtain ⟨_,_,e⟩:=ct (show DW x h=_ from e);exact cg e
 ·obtain ⟨_,_,_,e⟩:=bn (show wi _ x h=_ from e);exact cg e
 ·obtain ⟨_,e⟩:=IX (show DX x h=_ from e)
  obtain ⟨_,_,e⟩:=eP e
  exact cg e
 ·obtain ⟨_,_,_,e⟩:=bn (show Kg x h=_ from e);exact cg e
 ·obtain ⟨_,_,_,e⟩:=bn (show DY _ x h=_ from e);exact cg e
 ·obtain ⟨_,_,_,e⟩:=dC (show DZ _ x h=_ from e)
  split at e
  ·split at e
   ·exact cg e
   ·cases e
  ·cases e
 ·exact Uf e
 ·exact IY e
theorem xB {op:oB} (hf:oW (.op op)=true) (e:op.run r h=.ok v h'):h'=h:=by
 cases op with
 | mv x=>exact cg e
 | pick c a b=>obtain ⟨_,_,e⟩:=kJ (show bQ c a b r h=_ from e);exact cg e
 | alloc=>cases hf
 | box=>cases hf
 | build z ps=>obtain ⟨_,e⟩:=aB (show iy z ps r h=_ from e);exact cg e
 | aU=>cases hf
 | xv=>cases hf
 | xw=>cases hf
 | DG=>cases hf
 | bq x=>
  obtain ⟨_,_,_,e⟩:=cn (show gQ x r h=_ from e)
  obtain ⟨_,_,_,_,_,_,e⟩:=aQ e
  obtain ⟨_,e⟩:=aB e
  exact cg e
 | cV m x=>
  obtain ⟨_,_,_,e⟩:=cn (show pC m x r h=_ from e)
  obtain ⟨_,_,_,_,_,_,e⟩:=aQ e
  obtain ⟨_,e⟩:=aB e
  exact cg e
 | Rp=>cases hf
 | gS=>cases hf
 | pR x=>exact NP e
 | bin k x y=>exact WT (show bK k (ev x r) (ev y r) h=_ from e)
 | un k x=>
  cases k with
  | not=>obtain ⟨_,_,e⟩:=kJ (show bG (ev x r) h=_ from e);exact cg e
  | neg=>obtain ⟨_,_,_,e⟩:=bn (show mV (ev x r) h=_ from e);exact cg e
  | XU=>obtain ⟨_,_,_,e⟩:=bn (show vh (ev x r) h=_ from e);exact cg e
 | conv k x=>exact WW (k:=k) (x:=ev x r) (y:=x) hf e
 | Ie t x=>exact cg e
 | TX f xs=>exact cg e
 | mT=>cases hf
 | mU=>cases hf
 | JZ es x lo hi mx=>exact Ub e
 | DD x lo hi=>exact NO e
 | IE len es x lo hi mx=>exact NN e
 | br d x=>obtain ⟨_,_,_,e⟩:=cn (show ss d x r h=_ from e);exact cg e
 | IG d x=>obtain ⟨_,_,e⟩:=cZ (show oQ d x r h=_ from e);exact qm (f:=fun v=>v) e
 | IH d n x=>obtain ⟨_,_,e⟩:=cZ (show oS d n x r h=_ from e);obtain ⟨_,e⟩:=aB e;exact cg e
 | bF es x y=>
  obtain ⟨_,_,_,e⟩:=cL (show su es x y r h=_ from e)
  rcases cX e with ⟨i,o,l,c,_,e⟩|⟨i,o,l,c,_,e⟩|⟨_,e⟩
  ·obtain ⟨_,e⟩:=aB e;exact cg e
  ·obtain ⟨_,e⟩:=aB e;exact cg e
  ·cases e
 | AD len es x y=>
  obtain ⟨_,_,_,e⟩:=cL (show uU len es x y r h=_ from e)
  obtain ⟨_,_,_,e⟩:=cn e
  obtain ⟨_,e⟩:=aB e;exact cg e
 | idxs x y=>
  obtain ⟨_,_,_,e⟩:=cL (show eh x y r h=_ from e)
  obtain ⟨_,_,e⟩:=ct e
  exact qm (f:=fun b=>.int .u8 (.ofNat b)) e
 | II len es agg x y=>exact NQ e
 | ext i x=>obtain ⟨_,_,e⟩:=xD (show uW i x r h=_ from e);exact qm (f:=fun v=>v) e
 | IJ t z ok x y=>exact Uc e
 | Ka=>cases hf
 | del=>cases hf
 | DE x=>
  rcases eD (show oU x r h=_ from e) with ⟨i,_,e⟩|⟨_,e⟩
  ·obtain ⟨l,c,_,e⟩:=dq e;exact cg e
  ·exact cg e
 | len x=>exact Ue e
 | dI x=>obtain ⟨_,_,e⟩:=ct (show dI (ev x r) h=_ from e);exact cg e
 | cap x=>
  rcases cX (show pE x r h=_ from e) with ⟨i,o,l,c,_,e⟩|⟨i,o,l,c,_,e⟩|⟨_,e⟩
  ·exact cg e
  ·cases e
  ·exact cg e
 | max mn xs=>
  have e:Bu mn (fu xs r) h=_:=e
  generalize fu xs r=l at e
  cases l with
  | nil=>cases e
  | cons a l=>obtain ⟨_,_,_,e⟩:=bn (show AV.de a (fun k b=>xA mn k h l b) (.err 76)=_ from e);exact DU e
 | app=>cases hf
 | apps=>cases hf
 | TY=>cases hf
 | TZ=>cases hf
 | IK=>cases hf
 | DF=>cases hf
 | NJ=>cases hf
 | Kb t z ok x=>exact Ud e
 | cG k x y=>
  obtain ⟨_,_,_,e⟩:=dC (show jN k x y r h=_ from e)
  obtain ⟨_,_,_,e⟩:=dC e
  obtain ⟨_,e⟩:=aB e
  exact cg e
 | real im x=>obtain ⟨_,_,_,_,e⟩:=eT (show fT im x r h=_ from e);exact cg e
 | IL x=>
  rcases cX (show jz x r h=_ from e) with ⟨i,o,l,c,_,e⟩|⟨i,o,l,c,_,e⟩|⟨_,e⟩
  ·rcases fN e with ⟨_,e⟩|⟨m,_,e⟩
   ·cases e
   ·exact cg e
  ·rcases fN e with ⟨_,e⟩|⟨m,_,e⟩
   ·cases e
   ·exact cg e
  ·exact cg e
 | DH=>cases hf
 | bad=>cases hf
variable {ops:Array Oper}
def bg (L:Array Bool) (i:Nat):Prop:=L.getD i false=true
def WX (ops:Array Oper) (L:Array Bool):Prop:=∀j o,ops[j]?=some o→bg L j→∀e,e∈o.after→Region.binds .any e=true→bg L e.on
def Bf (ops:Array Oper) (i j:Nat):Prop:=∀L,WX ops L→bg L j→bg L i
theorem Bf.trans {i j k:Nat} (h:Bf ops i j) (g:Bf ops j k):Bf ops i k:=fun L c l=>h L c (g L c l)
theorem mW {g:Nat→Nat} {i:Nat}:∀(es:List Edge) (s:Nat),(es.foldl (fun s e=>if Region.binds .any e then s ||| 2 ^ e.on ||| g e.on else s) s).testBit i=true→
  s.testBit i=true∨∃e,e∈es∧Region.binds .any e=true∧(i=e.on∨(g e.on).testBit i=true)
 | [],s,h=>.inl h
 | e::es,s,h=>by
  rw [List.foldl_cons] at h
  rcases mW es _ h with g|⟨e',h1,h2,h3⟩
  ·by_cases hb:Region.binds .any e=true
   ·rw [if_pos hb] at g
    rw [Nat.testBit_or,Nat.testBit_or,Bool.or_eq_true,Bool.or_eq_true] at g
    rcases g with (g|g)|g
    ·exact .inl g
    ·rw [Nat.testBit_two_pow] at g
     exact .inr ⟨e,by simp,hb,.inl (of_decide_eq_true g).symm⟩
    ·exact .inr ⟨e,by simp,hb,.inr g⟩
   ·rw [if_neg hb] at g;exact .inl g
  ·exact .inr ⟨e',by simp [h1],h2,h3⟩
theorem kK {prev:List Nat} (hp:∀j i,(prev.getD j 0).testBit i=true→Bf ops i j):∀(os pre:List Oper) (acc:List Nat),ops.toList=pre ++ os→acc.length=pre.length→(∀j i,(acc.getD j 0).testBit i=true→Bf ops i j)→∀j i,((td prev os acc).getD j 0).testBit i=true→Bf ops i j
 | [],pre,acc,_,_,h=>h
 | o::os,pre,acc,e,hl,h=>by
  refine kK hp os (pre ++ [o]) _ (by rw [e];simp) (by simp [hl]) ?_
  intro j i hj
  rcases Nat.lt_trichotomy j acc.length with g|g|g
  ·rw [List.getD_eq_getElem?_getD,List.getElem?_append_left g] at hj
   exact h j i (by rw [List.getD_eq_getElem?_getD];exact hj)
  ·subst g
   rw [List.getD_eq_getElem?_getD,List.getElem?_append_right (Nat.le_refl _)] at hj
   simp only [Nat.sub_self,List.getElem?_cons_zero,Option.getD_some] at hj
   have ho:ops[acc.length]?=some o:=by rw [←Array.getElem?_toList,e,hl];simp
   rcases mW (g:=fun k=>if k < acc.length then acc.getD k 0 else prev.getD k 0) _ _ hj with g|⟨e',h1,h2,h3⟩
   ·simp at g
   ·have hb:Bf ops e'.on acc.length:=fun L c l=>c _ o ho l e' (by simpa using h1) h2
    rcases h3 with rfl|h3
    ·exact hb
    ·split at h3
     ·exact (h _ _ h3).trans hb
     ·exact (hp _ _ h3).trans hb
  ·rw [List.getD_eq_getElem?_getD,List.getElem?_eq_none (by simp;omega)] at hj
   simp at hj
theorem Ea:∀j i,((mX ops.toList).getD j 0).testBit i=true→Bf ops i j:=by
 have h0:∀j i,(([]:List Nat).getD j 0).testBit i=true→Bf ops i j:=fun j i g=>by simp at g
 exact kK (kK (kK h0 _ [] [] rfl rfl h0) _ [] [] rfl rfl h0) _ [] [] rfl rfl h0
def FW (ops:Array Oper) (i j:Nat):Bool:=((mX ops.toList).getD j 0).testBit i
theorem iO {i j:Nat} (h:FW ops i j=true):Bf ops i j:=Ea j i h
def cY (acc:List Nat) (x:Nat×Bk):List Nat:=match x.2 with
 | .dQ=>x.1::acc
 | _=>acc
def bR (l:List (Nat×Bk)):List Nat:=l.foldl cY []
theorem pF (l:List (Nat×Bk)) (x:Nat×Bk):bR (l ++ [x])=cY (bR l) x:=by simp [bR]
theorem mY:∀(m:List (Nat×Bk)) (acc:List Nat) (x:Nat),x∈acc→x∈m.foldl cY acc
 | [],acc,x,hx=>hx
 | y::m,acc,x,hx=>mY m _ x (by unfold cY;split<;>simp [hx])
theorem xE:∀(m:List (Nat×Bk)) (acc:List Nat) (x:Nat),(x,Bk.dQ)∈m→x∈m.foldl cY acc
 | [],acc,x,hx=>by cases hx
 | y::m,acc,x,hx=>by
  rcases List.mem_cons.1 hx with rfl|hx
  ·exact mY m _ x (by simp [cY])
  ·exact xE m _ x hx
theorem IZ {l pre:List (Nat×Bk)} {i:Nat} (h2:(match l.find? (fun x=>Kh x.2) with|some (e,_)=>FW ops i e|none=>true)=true)
  (hc:∀q (hq:q < l.length),l[q].2=.dQ→∀x,x∈bR (pre ++ l.take q)→Bf ops x l[q].1):∀q2 (hq2:q2 < l.length),l[q2].2=.dQ→Bf ops i l[q2].1:=by
 intro q2 hq2 he
 cases hf:l.find? (fun x=>Kh x.2) with
 | none=>
  have:=List.find?_eq_none.1 hf l[q2] (List.getElem_mem hq2)
  rw [he] at this;simp [Kh] at this
 | some y=>
  rw [hf] at h2
  obtain ⟨g1,as,bs,g2,g3⟩:=List.find?_eq_some_iff_append.1 hf
  have hy:y.2=.dQ:=by
   cases hy:y.2<;>rw [hy] at g1<;>first|rfl|cases g1
  have hlen:as.length < l.length:=by rw [g2];simp
  have av:l[as.length]=y:=by simp [g2]
  have hl:Bf ops i l[as.length].1:=by rw [av];exact iO h2
  rcases Nat.lt_trichotomy as.length q2 with g|g|g
  ·refine hl.trans (hc q2 hq2 he _ ?_)
   refine xE _ [] _ (List.mem_append_right _ ?_)
   have:(l[as.length].1,Bk.dQ)=l[as.length]:=by rw [av,←hy]
   rw [this]
   exact List.mem_take_iff_getElem.2 ⟨as.length,by omega,rfl⟩
  ·subst g;exact hl
  ·have hm:l[q2]∈as:=by
    have:l[q2]=as[q2]:=by simp [g2,List.getElem_append_left g]
    rw [this];exact List.getElem_mem g
   have:=g3 _ hm
   rw [he] at this;simp [Kh] at this
theorem mZ:∀(l pre:List (Nat×Bk)) (fl:Bool),gp (FW ops) fl l (bR pre)=true→(bR pre).Pairwise (fun x y=>Bf ops y x)→∀q (hq:q < l.length),
   (l[q].2=.dQ→∀x,x∈bR (pre ++ l.take q)→Bf ops x l[q].1)∧
   (∀n,l[q].2=.rd n→n≤(bR (pre ++ l.take q)).length∧∀x,x∈(bR (pre ++ l.take q)).drop n→Bf ops x l[q].1)∧
   (l[q].2≠.dQ→∀q2 (h2:q2 < l.length),q < q2→l[q2].2=.dQ→Bf ops l[q].1 l[q2].1)
 | [],pre,fl,_,_,q,hq=>by simp at hq
 | (i,b)::l,pre,fl,h,hp,q,hq=>by
  have hall:b=.dQ→∀x,x∈bR pre→Bf ops x i:=by
   intro hb x hx
   subst hb
   simp only [gp,Bool.and_eq_true] at h
   cases he:bR pre with
   | nil=>rw [he] at hx;cases hx
   | cons e es=>
    rw [he] at h hx hp
    rcases List.mem_cons.1 hx with rfl|hx
    ·exact iO h.1
    ·exact ((List.pairwise_cons.1 hp).1 x hx).trans (iO h.1)
  have e1:bR (pre ++ [(i,b)])=cY (bR pre) (i,b):=pF _ _
  have hp2:(bR (pre ++ [(i,b)])).Pairwise (fun x y=>Bf ops y x):=by
   rw [e1]
   cases b with
   | dQ=>exact List.pairwise_cons.2 ⟨hall rfl,hp⟩
   | rd n=>exact hp
   | new=>exact hp
  have hih:∃fl',gp (FW ops) fl' l (bR (pre ++ [(i,b)]))=true:=by
   rw [e1]
   cases b with
   | dQ=>simp only [gp,Bool.and_eq_true] at h;exact ⟨_,h.2⟩
   | rd n=>simp only [gp,Bool.and_eq_true] at h;exact ⟨_,h.2⟩
   | new=>simp only [gp,Bool.and_eq_true] at h;exact ⟨_,h.2⟩
  obtain ⟨fl',hih⟩:=hih
  have ih:=mZ l (pre ++ [(i,b)]) fl' hih hp2
  have hnext:b≠.dQ→∀q2 (hq2:q2 < l.length),l[q2].2=.dQ→Bf ops i l[q2].1:=by
   intro hb
   refine IZ (pre:=pre ++ [(i,b)]) ?_ (fun q hq he=>(ih q hq).1 he)
   cases b with
   | dQ=>exact absurd rfl hb
   | rd n=>simp only [gp,Bool.and_eq_true] at h;exact h.1.2
   | new=>simp only [gp,Bool.and_eq_true] at h;exact h.1
  cases q with
  | zero=>
   refine ⟨fun hb x hx=>hall hb x (by simpa using hx),fun m hm=>?_,fun hb q2 hq2 hlt he=>?_⟩
   ·have hm:b=.rd m:=hm
    subst hm
    simp only [gp,Bool.and_eq_true] at h
    obtain ⟨⟨⟨_,h1⟩,h2⟩,h3⟩:=h
    simp only [List.take_zero,List.append_nil,List.getElem_cons_zero]
    cases hd:(bR pre).drop m with
    | nil=>
     rw [hd] at h1
     exact ⟨Nat.le_of_eq (by simpa using h1),fun x hx=>by cases hx⟩
    | cons e es=>
     rw [hd] at h1
     have hlt:m < (bR pre).length:=by
      rcases Nat.lt_or_ge m (bR pre).length with g|g
      ·exact g
      ·rw [List.drop_of_length_le g] at hd;cases hd
     refine ⟨Nat.le_of_lt hlt,fun x hx=>?_⟩
     have hpd:((bR pre).drop m).Pairwise (fun x y=>Bf ops y x):=List.Pairwise.sublist (List.drop_sublist _ _) hp
     rw [hd] at hpd
     rcases List.mem_cons.1 hx with rfl|hx
     ·exact iO h1
     ·exact ((List.pairwise_cons.1 hpd).1 x hx).trans (iO h1)
   ·cases q2 with
    | zero=>omega
    | succ q2=>exact hnext hb q2 (by simpa using hq2) he
  | succ q=>
   have:=ih q (by simpa using hq)
   simp only [List.append_assoc,List.singleton_append] at this
   refine ⟨this.1,this.2.1,fun hn q2 h2 hlt he=>?_⟩
   cases q2 with
   | zero=>omega
   | succ q2=>exact this.2.2 hn q2 (by simpa using h2) (by omega) he
variable {P:Program} {G:Gl} {n:Nat} {names:List String} {ops:Array Oper} {l:List (Nat×Bk)}
theorem qn {α:Type} {l:List α} {p:Nat} (hp:p < l.length):(l[p],p)∈l.zipIdx:=by
 rw [List.mem_zipIdx_iff_getElem?];simp [hp]
structure Bv (P:Program) (G:Gl) (n:Nat) (names:List String) (ops:Array Oper) (l:List (Nat×Bk)):Prop where
 len:l.length=ops.size
 Ug:∀q (hq:q < l.length),l[q].1 < ops.size
 cover:∀i,i < ops.size→∃q,∃hq:q < l.length,l[q].1=i
 inj:∀p q (hp:p < l.length) (hq:q < l.length),l[p].1=l[q].1→p=q
 lt:∀(j:Nat) (o:Oper),ops[j]?=some o→∀e,e∈o.after→Region.binds .any e=true→e.on < ops.size∧(mX ops.toList).getD e.on 0 < (mX ops.toList).getD j 0
 ord:∀p q (hp:p < l.length) (hq:q < l.length),FW ops l[p].1 l[q].1=true→p < q∨(l[p].2=.new∧∃m,l[q].2=.rd m)
 kind:∀q (hq:q < l.length),te P G n names ops l l[q].1 l[q].2=true
 seq:gp (FW ops) true l []=true
 dst:∀(i j:Nat) (oi oj:Oper) (t:Nat),ops[i]?=some oi→ops[j]?=some oj→oi.dst=some t→oj.dst=some t→i=j
 look:∀(i j:Nat) (oi oj:Oper) (t:Nat),ops[i]?=some oi→ops[j]?=some oj→t∈looks P G n names ops oi→oj.dst=some t→i=j∨FW ops i j=true∨FW ops j i=true
 Uh:∀q (hq:q < l.length),l[q].2=.new→∀t,t∈looks P G n names ops (ops.getD l[q].1 default)→∀(j:Nat) (oj:Oper),ops[j]?=some oj→oj.dst=some t→FW ops j l[q].1=true
theorem NT (h:iH P G n names ops l=true):Bv P G n names ops l:=by
 unfold iH at h
 simp only [Bool.and_eq_true,List.all_eq_true,List.any_eq_true,beq_iff_eq] at h
 obtain ⟨⟨⟨⟨⟨⟨⟨⟨⟨⟨h1,h0⟩,h2⟩,h3⟩,h4⟩,h5⟩,h6⟩,h7⟩,h8⟩,h9⟩,h10⟩:=h
 have opm:∀{j o},ops[j]?=some o→(o,j)∈ops.toList.zipIdx:=fun {j o} e=>by
  rw [List.mem_zipIdx_iff_getElem?];simpa using e
 refine ⟨h1,fun q hq=>by simpa using h0 _ (List.getElem_mem hq),fun i hi=>?_,fun p q hp hq e=>?_,fun j o ho e he hb=>?_,fun p q hp hq e=>?_,fun q hq=>h6 _ (List.getElem_mem hq),h7,fun i j oi oj t hi hj ti tj=>?_,fun i j oi oj t hi hj ti tj=>?_,fun q hq hn t ht j oj hj tj=>?_⟩
 ·obtain ⟨x,hx,e⟩:=h2 i (by simpa using hi)
  obtain ⟨q,hq,rfl⟩:=List.getElem_of_mem hx
  exact ⟨q,hq,e⟩
 ·have:=h3 _ (qn hp) _ (qn hq)
  simp only [e,bne_self_eq_false,Bool.false_or,beq_iff_eq] at this
  exact this
 ·have:=h4 _ (opm ho)
  have:=Array.all_eq_true_iff_forall_mem.1 this e he
  simpa [hb] using this
 ·have h:=h5 _ (qn hp) _ (qn hq)
  have e':((mX ops.toList).getD l[q].1 0).testBit l[p].1=true:=e
  simp only [e',Bool.not_true,Bool.false_or,Bool.or_eq_true,decide_eq_true_eq,Bool.and_eq_true] at h
  rcases h with h|⟨g1,g2⟩
  ·exact .inl h
  ·refine .inr ⟨?_,?_⟩
   ·revert g1;cases l[p].2<;>simp
   ·revert g2;cases l[q].2<;>simp
 ·have h:=h8 _ (opm hi)
  rw [ti] at h
  simp only [Option.all_some,List.all_eq_true] at h
  have:=h _ (opm hj)
  simpa [tj] using this
 ·have h:=h9 _ (opm hi) t ti _ (opm hj)
  simp only [tj,bne_self_eq_false,Bool.false_or,Bool.or_eq_true,beq_iff_eq] at h
  rcases h with (h|h)|h
  ·exact .inl h
  ·exact .inr (.inl h)
  ·exact .inr (.inr h)
 ·have h:(!(l[q].2 matches .new) || (looks P G n names ops (ops.getD l[q].1 default)).all fun t=>ops.toList.zipIdx.all fun x=>x.1.dst != some t || FW ops x.2 l[q].1)=true:=h10 _ (List.getElem_mem hq)
  rw [hn] at h
  simp only [Bool.not_true,Bool.false_or,List.all_eq_true] at h
  have:=h t ht _ (opm hj)
  simpa [tj] using this
variable {P:Program} {G:Gl} [NB G] {n:Nat} {names:List String} {ops:Array Oper} {p:Pg} {run:gg}
structure DS where
 r:A2
 h:Hp
 g:Hp
 hs:List Hp
def NU (p:Pg) (run:gg) (d:aF) (x:AI) (b:Bk) (wnt:Bool) (s s':DS) (v:AV):Prop:=
 s'.r=dG d v s.r∧match wnt,b with
  | false,.dQ=>v=di∧s'.h=s.h∧s'.g=s.h∧s'.hs=s.g::s.hs
  | false,.rd _=>v=di∧s'.h=s.h∧s'.g=s.g∧s'.hs=s.hs
  | false,.new=>False
  | true,.dQ=>x.res p run s.r s.h=.ok v s'.h∧s'.g=s'.h∧s'.hs=s.g::s.hs
  | true,.rd m=>∃op,x=.op op∧(∃h',op.run s.r s.g=.ok v h')∧jR op s.r v s.hs m=true∧s'.h=s.h∧s'.g=s.g∧s'.hs=s.hs
  | true,.new=>∃op,x=.op op∧op.run s.r s.h=.ok v s'.h∧s'.g=s.g∧s'.hs=s.hs
def Ki (ops:Array Oper) (o:Oper) (r:A2) (wnt:Bool):Prop:=match o.guard with
 | none=>wnt=true
 | some (j,w)=>∃t b,(ops[j]?).bind (·.dst)=some t∧t < 256∧gb w (aq (hi t) (lo t) r)=.bool b∧wnt=(b == w)
structure WY (P:Program) (G:Gl) (n:Nat) (names:List String) (ops:Array Oper) (p:Pg) (run:gg) (o:Oper) (b:Bk) (s s':DS) (d:aF) (x:AI) (wnt:Bool) (v:AV):Prop where
 dst:lL G n o.dst=some d
 op:cj P G names o=some x
 want:Ki ops o s.r wnt
 Bw:NU p run d x b wnt s s' v
theorem Bx {d:aF} {k:DK} {r:A2} {g:Hp} {hs:List Hp} {v:RT} (h:(na d k r g hs v).Safe):∃u h',v=.ok u h'∧na d k r g hs v=k (dG d u r) h' h' (g::hs):=by
 cases v with
 | ok u h'=>exact ⟨u,h',rfl,rfl⟩
 | err m=>exact (RS.Safe.err h).elim
 | ch m k=>exact (RS.Safe.err h).elim
theorem Bz {d:aF} {op:oB} {m:Nat} {k:DK} {r:A2} {h g:Hp} {hs:List Hp} {v:RV} (hh:(Eb d op m k r h g hs v).Safe):∃u h',v=.ok u h'∧jR op r u hs m=true∧Eb d op m k r h g hs v=k (dG d u r) h g hs:=by
 cases v with
 | ok u h'=>
  have hh:(@Bool.rec (fun _=>RS) (.err 211) (k (dG d u r) h g hs) (jR op r u hs m)).Safe:=hh
  show ∃u' h2,RV.ok u h'=.ok u' h2∧_∧(@Bool.rec (fun _=>RS) (.err 211) (k (dG d u r) h g hs) (jR op r u hs m))=_
  cases hr:jR op r u hs m with
  | false=>rw [hr] at hh;exact (RS.Safe.err hh).elim
  | true=>exact ⟨u,h',rfl,hr,rfl⟩
 | err m=>exact (RS.Safe.err hh).elim
theorem BA {d:aF} {k:DK} {r:A2} {g:Hp} {hs:List Hp} {v:RV} (h:(Ec d k r g hs v).Safe):∃u h',v=.ok u h'∧Ec d k r g hs v=k (dG d u r) h' g hs:=by
 cases v with
 | ok u h'=>exact ⟨u,h',rfl,rfl⟩
 | err m=>exact (RS.Safe.err h).elim
def DK.at (k:DK) (s:DS):RS:=k s.r s.h s.g s.hs
theorem vi {b:Bk} {d:aF} {x:AI} {k:DK} {s:DS} (h:(um b d x p run k s.r s.h s.g s.hs).Safe) (hb:b=.dQ∨∃op,x=.op op):∃v s',NU p run d x b true s s' v∧um b d x p run k s.r s.h s.g s.hs=k.at s':=by
 have heff:∀{y:RT},(na d k s.r s.g s.hs y).Safe→um .dQ d x p run k s.r s.h s.g s.hs=na d k s.r s.g s.hs y→y=x.res p run s.r s.h→∃v s',NU p run d x .dQ true s s' v∧um .dQ d x p run k s.r s.h s.g s.hs=k.at s':=by
  intro y hy e1 e2
  obtain ⟨u,h',g1,g2⟩:=Bx hy
  exact ⟨u,⟨dG d u s.r,h',h',s.g::s.hs⟩,⟨rfl,e2▸g1,rfl,rfl⟩,by rw [e1,g2];rfl⟩
 cases x with
 | op o=>
  cases b with
  | dQ=>exact heff (y:=(o.run s.r s.h).gh) h rfl rfl
  | rd m=>
   obtain ⟨u,h',g1,g2,g3⟩:=Bz (show (Eb d o m k s.r s.h s.g s.hs (o.run s.r s.g)).Safe from h)
   exact ⟨u,⟨dG d u s.r,s.h,s.g,s.hs⟩,⟨rfl,o,rfl,⟨h',g1⟩,g2,rfl,rfl,rfl⟩,g3⟩
  | new=>
   obtain ⟨u,h',g1,g2⟩:=BA (show (Ec d k s.r s.g s.hs (o.run s.r s.h)).Safe from h)
   exact ⟨u,⟨dG d u s.r,h',s.g,s.hs⟩,⟨rfl,o,rfl,g1,rfl,rfl⟩,g2⟩
 | FV c y=>
  rcases hb with rfl|⟨_,e⟩
  ·exact heff (y:=jD c (ev y s.r) s.h) h rfl rfl
  ·cases e
 | call f xs=>
  rcases hb with rfl|⟨_,e⟩
  ·exact heff (y:=aj p run f (fu xs s.r) s.h) h rfl rfl
  ·cases e
 | jb y xs=>
  rcases hb with rfl|⟨_,e⟩
  ·exact heff (y:=jc p run (ev y s.r) (fu xs s.r) s.h) h rfl rfl
  ·cases e
 | inv c y xs=>
  rcases hb with rfl|⟨_,e⟩
  ·exact heff (y:=aL p run c (ev y s.r) (fu xs s.r) s.h) h rfl rfl
  ·cases e
theorem Ja {o:Oper} {b:Bk} {k:DK} {s:DS} (h:((DI.mk b (oH P G n names ops o)).exec p run k s.r s.h s.g s.hs).Safe)
  (hb:b=.dQ∨∃op,cj P G names o=some (.op op)) :
  ∃d x wnt v s',WY P G n names ops p run o b s s' d x wnt v∧(DI.mk b (oH P G n names ops o)).exec p run k s.r s.h s.g s.hs=k.at s':=by
 have hbad:¬ ((DI.mk b pA).exec p run k s.r s.h s.g s.hs).Safe:=by
  intro hh
  cases b with
  | dQ=>exact RS.Safe.err (n:=400) hh
  | rd m=>exact RS.Safe.err (n:=400) hh
  | new=>exact RS.Safe.err (n:=400) hh
 unfold oH at h ⊢
 split at h
 ·rename_i d x hd hx
  have hb':b=.dQ∨∃op,x=.op op:=hb.imp id fun ⟨op,e⟩=>⟨op,by rw [e] at hx;exact (Option.some.inj hx).symm⟩
  split at h
  ·rename_i hg
   obtain ⟨v,s',g1,g2⟩:=vi (show (um b d x p run k s.r s.h s.g s.hs).Safe from h) hb'
   exact ⟨d,x,true,v,s',⟨hd,hx,by simp [Ki,hg],g1⟩,g2⟩
  ·rename_i j w hg
   split at h
   ·rename_i t ht
    split at h
    ·rename_i s2 hsl
     try simp only [hsl]
     obtain ⟨es2,ht256⟩:=Dh hsl
     subst s2
     have h:(AV.bI (gb w (aq (hi t) (lo t) s.r)) (NV b d x k s.r s.h s.g s.hs p run w) (.err 212)).Safe:=h
     show ∃d' x' wnt v s',_∧(AV.bI (gb w (aq (hi t) (lo t) s.r)) (NV b d x k s.r s.h s.g s.hs p run w) (.err 212))=_
     obtain ⟨c,hc,e⟩:=fh h
     rw [e] at h ⊢
     have h:(@Bool.rec (fun _=>RS) (Jb b d k s.r s.h s.g s.hs) (um b d x p run k s.r s.h s.g s.hs) (gP c w)).Safe:=h
     show ∃d' x' wnt v s',_∧(@Bool.rec (fun _=>RS) (Jb b d k s.r s.h s.g s.hs) (um b d x p run k s.r s.h s.g s.hs) (gP c w))=_
     rw [vM] at h ⊢
     have hw:∀z,z=(c == w)→Ki ops o s.r z:=fun z hz=>by
      simp only [Ki,hg];exact ⟨t,c,ht,ht256,hc,hz⟩
     cases hcw:(c == w) with
     | true=>
      rw [hcw] at h
      obtain ⟨v,s',g1,g2⟩:=vi (show (um b d x p run k s.r s.h s.g s.hs).Safe from h) hb'
      exact ⟨d,x,true,v,s',⟨hd,hx,hw _ hcw.symm,g1⟩,g2⟩
     | false=>
      rw [hcw] at h
      cases b with
      | dQ=>exact ⟨d,x,false,di,⟨dG d di s.r,s.h,s.h,s.g::s.hs⟩,⟨hd,hx,hw _ hcw.symm,⟨rfl,rfl,rfl,rfl,rfl⟩⟩,rfl⟩
      | rd m=>exact ⟨d,x,false,di,⟨dG d di s.r,s.h,s.g,s.hs⟩,⟨hd,hx,hw _ hcw.symm,⟨rfl,rfl,rfl,rfl,rfl⟩⟩,rfl⟩
      | new=>exact (RS.Safe.err (n:=214) h).elim
    ·exact absurd h hbad
   ·exact absurd h hbad
 ·exact absurd h hbad
theorem xF {kf:A2→Hp→RS}:∀(l:List (Nat×Bk)) (s:DS),(∀q (hq:q < l.length),l[q].2=.dQ∨∃op,cj P G names (ops.getD l[q].1 default)=some (.op op))→
  (mO (aj p run) (aL p run) kf (l.map fun (i,b)=>.mk b (oH P G n names ops (ops.getD i default))) s.r s.h s.g s.hs).Safe→
  ∃T:Nat→DS,T 0=s∧(∀q (hq:q < l.length),∃d x wnt v,WY P G n names ops p run (ops.getD l[q].1 default) l[q].2 (T q) (T (q+1)) d x wnt v)∧
   mO (aj p run) (aL p run) kf (l.map fun (i,b)=>.mk b (oH P G n names ops (ops.getD i default))) s.r s.h s.g s.hs=kf (T l.length).r (T l.length).h
 | [],s,_,_=>⟨fun _=>s,rfl,fun q hq=>by simp at hq,rfl⟩
 | (i,b)::l,s,hb,h=>by
  have e0:mO (aj p run) (aL p run) kf (((i,b)::l).map fun (i,b)=>.mk b (oH P G n names ops (ops.getD i default))) s.r s.h s.g s.hs =
   (DI.mk b (oH P G n names ops (ops.getD i default))).exec p run (mO (aj p run) (aL p run) kf (l.map fun (i,b)=>.mk b (oH P G n names ops (ops.getD i default)))) s.r s.h s.g s.hs:=xi _ _ _ _ _ _
  rw [e0] at h
  obtain ⟨d,x,wnt,v,s',g1,g2⟩:=Ja h (hb 0 (by simp))
  rw [g2] at h
  obtain ⟨T,t1,t2,t3⟩:=xF l s' (fun q hq=>hb (q+1) (by simpa using hq)) h
  refine ⟨fun q=>match q with|0=>s|q+1=>T q,rfl,fun q hq=>?_,?_⟩
  ·cases q with
   | zero=>exact ⟨d,x,wnt,v,by simpa [t1] using g1⟩
   | succ q=>exact t2 q (by simpa using hq)
  ·rw [e0,g2]
   exact t3
section
variable {P:Program} {G:Gl} [NB G] {n:Nat} {names:List String} {ops:Array Oper} {p:Pg} {run:gg} {l:List (Nat×Bk)}
def bH (ops:Array Oper) (l:List (Nat×Bk)) (q:Nat) (hq:q < l.length):Oper:=ops.getD l[q].1 default
def Trace (P:Program) (G:Gl) (n:Nat) (names:List String) (ops:Array Oper) (p:Pg) (run:gg) (l:List (Nat×Bk)) (T:Nat→DS):Prop:=
 ∀q (hq:q < l.length),∃d x wnt v,WY P G n names ops p run (bH ops l q hq) l[q].2 (T q) (T (q+1)) d x wnt v
theorem cR (K:Bv P G n names ops l) {q:Nat} (hq:q < l.length):ops[l[q].1]?=some (bH ops l q hq):=by
 have:=K.Ug q hq
 simp [bH,this]
def ec (l:List (Nat×Bk)) (q:Nat):Nat:=(bR (l.take q)).length
theorem zO:ec l 0=0:=rfl
theorem eU {q:Nat} (hq:q < l.length):bR (l.take (q+1))=cY (bR (l.take q)) l[q]:=by
 rw [List.take_succ_eq_append_getElem hq,pF]
theorem lV {q:Nat} (hq:q < l.length) (he:l[q].2=.dQ):ec l (q+1)=ec l q+1:=by
 unfold ec;rw [eU hq];simp [cY,he]
theorem oX {q:Nat} (hq:q < l.length) (he:l[q].2≠.dQ):ec l (q+1)=ec l q:=by
 unfold ec;rw [eU hq]
 cases hb:l[q].2 with
 | dQ=>exact absurd hb he
 | rd m=>simp [cY,hb]
 | new=>simp [cY,hb]
theorem gq:∀{q q':Nat},q≤q'→q'≤l.length→ec l q≤ec l q':=by
 intro q q' h hl
 induction h with
 | refl=>exact Nat.le_refl _
 | @step m h ih=>
  have ih:=ih (by omega)
  by_cases he:(l[m]'(by omega)).2=.dQ
  ·rw [lV (by omega) he];omega
  ·rw [oX (by omega) he];exact ih
theorem xG {q q':Nat} (h:q < q') (hl:q'≤l.length) (he:(l[q]'(by omega)).2=.dQ):ec l q < ec l q':=by
 have:=gq (l:=l) (show q+1≤q' by omega) hl
 rw [lV (by omega) he] at this;omega
theorem nc:∀{q' k:Nat},q'≤l.length→k < ec l q'→∃q,∃hq:q < l.length,q < q'∧l[q].2=.dQ∧ec l q=k:=by
 intro q' k hl hk
 induction q' with
 | zero=>rw [zO] at hk;omega
 | succ m ih=>
  by_cases he:(l[m]'(by omega)).2=.dQ
  ·rw [lV (by omega) he] at hk
   rcases Nat.lt_or_ge k (ec l m) with g|g
   ·obtain ⟨q,hq,h1,h2,h3⟩:=ih (by omega) g
    exact ⟨q,hq,by omega,h2,h3⟩
   ·exact ⟨m,by omega,by omega,he,by omega⟩
  ·rw [oX (by omega) he] at hk
   obtain ⟨q,hq,h1,h2,h3⟩:=ih (by omega) hk
   exact ⟨q,hq,by omega,h2,h3⟩
theorem xH:∀{q' q:Nat} (hl:q'≤l.length) (h:q < q'),(l[q]'(by omega)).2=.dQ→(bR (l.take q'))[ec l q' - 1 - ec l q]?=some (l[q]'(by omega)).1:=by
 intro q' q hl h he
 induction q' with
 | zero=>omega
 | succ m ih=>
  rw [eU (by omega)]
  by_cases hem:(l[m]'(by omega)).2=.dQ
  ·rw [lV (by omega) hem]
   have e1:cY (bR (l.take m)) (l[m]'(by omega))=(l[m]'(by omega)).1::bR (l.take m):=by simp [cY,hem]
   rw [e1]
   rcases Nat.lt_or_ge q m with g|g
   ·have h1:=xG g (by omega) he
    have:=ih (by omega) g he
    rw [show ec l m+1 - 1 - ec l q=(ec l m - 1 - ec l q)+1 by omega,List.getElem?_cons_succ]
    exact this
   ·obtain rfl:q=m:=by omega
    simp
  ·rw [oX (by omega) hem]
   have e1:cY (bR (l.take m)) (l[m]'(by omega))=bR (l.take m):=by
    cases hb:(l[m]'(by omega)).2 with
    | dQ=>exact absurd hb hem
    | rd m=>simp [cY,hb]
    | new=>simp [cY,hb]
   rw [e1]
   rcases Nat.lt_or_ge q m with g|g
   ·exact ih (by omega) g he
   ·obtain rfl:q=m:=by omega
    exact absurd he hem
theorem NW (K:Bv P G n names ops l) {q q':Nat} (hq:q < l.length) (hq':q' < l.length) (h:q < q') (he:l[q].2=.dQ) (he':l[q'].2=.dQ):Bf ops l[q].1 l[q'].1:=by
 have:=(mZ l [] true K.seq List.Pairwise.nil q' hq').1 he'
 refine this _ ?_
 simp only [List.nil_append]
 exact List.mem_of_getElem? (xH (by omega) h he)
theorem Ui (K:Bv P G n names ops l) {q:Nat} (hq:q < l.length) {m:Nat} (hb:l[q].2=.rd m):m≤ec l q∧∀q1 (h1:q1 < q),(l[q1]'(by omega)).2=.dQ→ec l q1 < ec l q - m→Bf ops (l[q1]'(by omega)).1 l[q].1:=by
 obtain ⟨g1,g2⟩:=(mZ l [] true K.seq List.Pairwise.nil q hq).2.1 m hb
 simp only [List.nil_append] at g1 g2
 refine ⟨g1,fun q1 h1 he hlt=>g2 _ ?_⟩
 have:=xH (by omega) h1 he
 refine List.mem_of_getElem? (i:=ec l q - 1 - ec l q1 - m) ?_
 rw [List.getElem?_drop]
 rw [show m+(ec l q - 1 - ec l q1 - m)=ec l q - 1 - ec l q1 by omega]
 exact this
theorem zP (K:Bv P G n names ops l) {q q2:Nat} (hq:q < l.length) (hq2:q2 < l.length) (h:q < q2) (hb:l[q].2≠.dQ) (he:l[q2].2=.dQ):Bf ops l[q].1 l[q2].1:=
 (mZ l [] true K.seq List.Pairwise.nil q hq).2.2 hb q2 hq2 h he
variable {T:Nat→DS}
theorem NX (hT:Trace P G n names ops p run l T) (h0:(T 0).hs=[]):∀q,q≤l.length→(T q).hs.length=ec l q:=by
 intro q hq
 induction q with
 | zero=>rw [h0];rfl
 | succ q ih=>
  have ih:=ih (by omega)
  obtain ⟨d,x,wnt,v,D⟩:=hT q (by omega)
  have hs:=D.Bw.2
  cases hb:(l[q]'(by omega)).2 with
  | dQ=>
   rw [hb] at hs
   rw [lV (by omega) hb]
   cases wnt with
   | true=>rw [hs.2.2];simp [ih]
   | false=>rw [hs.2.2.2];simp [ih]
  | rd m=>
   rw [hb] at hs
   rw [oX (by omega) (by simp [hb])]
   cases wnt with
   | true=>obtain ⟨_,_,_,_,_,_,e⟩:=hs;rw [e];exact ih
   | false=>rw [hs.2.2.2];exact ih
  | new=>
   rw [hb] at hs
   rw [oX (by omega) (by simp [hb])]
   cases wnt with
   | true=>obtain ⟨_,_,_,_,e⟩:=hs;rw [e];exact ih
   | false=>exact hs.elim
theorem Jc (hT:Trace P G n names ops p run l T) {q:Nat} (hq:q < l.length):(T q).g::(T q).hs <:+ (T (q+1)).g::(T (q+1)).hs:=by
 obtain ⟨d,x,wnt,v,D⟩:=hT q hq
 have hs:=D.Bw.2
 cases hb:(l[q]'(by omega)).2 with
 | dQ=>
  rw [hb] at hs
  cases wnt with
  | true=>rw [hs.2.2];exact List.suffix_cons _ _
  | false=>rw [hs.2.2.2];exact List.suffix_cons _ _
 | rd m=>
  rw [hb] at hs
  cases wnt with
  | true=>obtain ⟨_,_,_,_,_,e1,e2⟩:=hs;rw [e1,e2];exact List.suffix_refl _
  | false=>rw [hs.2.2.1,hs.2.2.2];exact List.suffix_refl _
 | new=>
  rw [hb] at hs
  cases wnt with
  | true=>obtain ⟨_,_,_,e1,e2⟩:=hs;rw [e1,e2];exact List.suffix_refl _
  | false=>exact hs.elim
theorem BB (hT:Trace P G n names ops p run l T) {q:Nat}:∀{q':Nat},q≤q'→q'≤l.length→(T q).g::(T q).hs <:+ (T q').g::(T q').hs:=by
 intro q' h hl
 induction h with
 | refl=>exact List.suffix_refl _
 | @step m h ih=>exact (ih (by omega)).trans (Jc hT (by omega))
def bh (l:List (Nat×Bk)) (T:Nat→DS) (k:Nat):Hp:=(((T l.length).g::(T l.length).hs).reverse[k]?).getD (T 0).h
theorem Ed (hT:Trace P G n names ops p run l T) (h0:(T 0).hs=[]) {q:Nat} (hq:q≤l.length) {j:Nat} (hj:j≤ec l q):((T q).g::(T q).hs)[j]?=some (bh l T (ec l q - j)):=by
 obtain ⟨ys,e⟩:=BB hT hq (Nat.le_refl _)
 have hlen:=NX hT h0 q hq
 have hrev:((T l.length).g::(T l.length).hs).reverse=((T q).g::(T q).hs).reverse ++ ys.reverse:=by rw [←e,List.reverse_append]
 have hl2:((T q).g::(T q).hs).length=ec l q+1:=by simp [hlen]
 unfold bh
 rw [hrev,List.getElem?_append_left (by rw [List.length_reverse,hl2];omega),List.getElem?_reverse (by rw [hl2];omega),hl2]
 rw [show ec l q+1 - 1 - (ec l q - j)=j by omega]
 rw [List.getElem?_eq_getElem (by rw [hl2];omega)]
 rfl
theorem Jd (hT:Trace P G n names ops p run l T) (h0:(T 0).hs=[]) {q:Nat} (hq:q≤l.length):bh l T (ec l q)=(T q).g:=by
 have:=Ed hT h0 hq (j:=0) (by omega)
 simpa using this.symm
theorem Uj (hT:Trace P G n names ops p run l T) (h0:(T 0).hs=[]) {q:Nat} (hq:q≤l.length) {j:Nat} (hj:j < ec l q):(T q).hs[j]?=some (bh l T (ec l q - 1 - j)):=by
 have:=Ed hT h0 hq (j:=j+1) (by omega)
 rw [List.getElem?_cons_succ] at this
 rw [this,show ec l q - (j+1)=ec l q - 1 - j by omega]
theorem xI (hT:Trace P G n names ops p run l T) (h0:(T 0).g=(T 0).h):∀q,q≤l.length→∃s,s≤q∧ec l s=ec l q∧(T s).h=(T s).g∧(∀q' (h1:s≤q') (h2:q' < q) (h3:q' < l.length),l[q'].2≠.dQ)∧∀q',q' < s→ec l q' < ec l s:=by
 intro q hq
 induction q with
 | zero=>exact ⟨0,Nat.le_refl _,rfl,h0.symm,fun q' h1 h2=>by omega,fun q' h1=>by omega⟩
 | succ q ih=>
  by_cases he:(l[q]'(by omega)).2=.dQ
  ·refine ⟨q+1,Nat.le_refl _,rfl,?_,fun q' h1 h2=>by omega,fun q' h1=>by have:=gq (l:=l) (show q'≤q by omega) (by omega);rw [lV (by omega) he];omega⟩
   obtain ⟨d,x,wnt,v,D⟩:=hT q (by omega)
   have hs:=D.Bw.2
   rw [he] at hs
   cases wnt with
   | true=>exact hs.2.1.symm
   | false=>rw [hs.2.1,hs.2.2.1]
  ·obtain ⟨s,g1,g2,g3,g4,g5⟩:=ih (by omega)
   refine ⟨s,by omega,by rw [oX (by omega) he];exact g2,g3,fun q' h1 h2 h3=>?_,g5⟩
   rcases Nat.lt_or_ge q' q with g|g
   ·exact g4 q' h1 g h3
   ·obtain rfl:q'=q:=by omega
    exact he
theorem Ee (hT:Trace P G n names ops p run l T) {q:Nat} (hq:q < l.length) {t:Nat} (ht:t < 256) (hd:(bH ops l q hq).dst≠some t):aq (hi t) (lo t) (T (q+1)).r=aq (hi t) (lo t) (T q).r:=by
 obtain ⟨d,x,wnt,v,D⟩:=hT q hq
 rw [D.Bw.1]
 have hdst:=D.dst
 cases ho:(bH ops l q hq).dst with
 | none=>rw [ho] at hdst;cases hdst;rfl
 | some s=>
  rw [ho] at hdst hd
  obtain ⟨h1,h2,rfl⟩:=sA hdst
  show aq (hi t) (lo t) (eQ (hi s) (lo s) v (T q).r)=_
  rw [dH,if_neg (fun g=>hd (by rw [(Di ht h1).1 g]))]
theorem xJ (hT:Trace P G n names ops p run l T) {q t:Nat} (ht:t < 256):∀{q':Nat},q≤q'→q'≤l.length→(∀q1 (h1:q≤q1) (h2:q1 < q') (h3:q1 < l.length),(bH ops l q1 h3).dst≠some t)→aq (hi t) (lo t) (T q').r=aq (hi t) (lo t) (T q).r:=by
 intro q' h hl hw
 induction h with
 | refl=>rfl
 | @step m h ih=>
  rw [Ee hT (by omega) ht (hw m h (by omega) (by omega))]
  exact ih (by omega) fun q1 h1 h2 h3=>hw q1 h1 (by omega) h3
theorem Ef (K:Bv P G n names ops l) (hT:Trace P G n names ops p run l T) {q t:Nat} (hq:q≤l.length) (ht:t < 256) :
  (∀q1 (h1:q1 < l.length),(bH ops l q1 h1).dst=some t→q1 < q→aq (hi t) (lo t) (T q).r=aq (hi t) (lo t) (T (q1+1)).r)∧
  ((∀q1 (h1:q1 < l.length),(bH ops l q1 h1).dst=some t→¬ q1 < q)→aq (hi t) (lo t) (T q).r=aq (hi t) (lo t) (T 0).r):=by
 have uniq:∀q1 q2 (h1:q1 < l.length) (h2:q2 < l.length),(bH ops l q1 h1).dst=some t→(bH ops l q2 h2).dst=some t→q1=q2:=fun q1 q2 h1 h2 e1 e2=>
  K.inj q1 q2 h1 h2 (K.dst _ _ _ _ t (cR K h1) (cR K h2) e1 e2)
 constructor
 ·intro q1 h1 e1 hlt
  refine xJ hT ht (by omega) hq fun q2 g1 g2 g3 e2=>?_
  have:=uniq q1 q2 h1 g3 e1 e2
  omega
 ·intro hno
  exact xJ hT ht (by omega) hq fun q2 g1 g2 g3 e2=>hno q2 g3 e2 g2
theorem vj {op:oB} {r:A2} {v:AV}:∀{hs:List Hp} {m:Nat},jR op r v hs m=true→∀j,j < m→∃hj,hs[j]?=some hj∧∃h',op.run r hj=.ok v h'
 | [],0,_,j,hj=>by omega
 | [],m+1,e,_,_=>by cases e
 | h::hs,0,_,j,hj=>by omega
 | h::hs,m+1,e,j,hj=>by
  have e:(RV.rec (fun v' _=>@Bool.rec (fun _=>Bool) false (jR op r v hs m) (same v v')) (fun _=>false) (op.run r h):Bool)=true:=e
  cases ho:op.run r h with
  | err k=>rw [ho] at e;cases e
  | ok v' h'=>
   rw [ho] at e
   obtain ⟨e1,e2⟩:=aA e
   cases j with
   | zero=>exact ⟨h,rfl,h',by rw [ho,qg e1]⟩
   | succ j=>
    obtain ⟨hj',g1,g2⟩:=vj e2 j (by omega)
    exact ⟨hj',by simpa using g1,g2⟩
end
section
variable {P:Program} {φ φ':aJ} {h h':Hp} {w w':World} {v:AV} {n:Nat} {G:Gl} {names:List String}
theorem HR.Uk (H:HR φ h w) {o:Obj} {b room:Nat} {i n':P4} (hi:av i h=.none) (ho:o≠.none) (hb:b < w.heap.size) (hfree:∀j q,live (av j h)→φ j=some q→q.bZ≠b)
  (hOR:OR (φ.put i ⟨b,0,room⟩) o ⟨b,0,room⟩ w.heap[b]?):HR (φ.put i ⟨b,0,room⟩) (.mk (cU i o h.tree) n' (Lg.add i h.log)) w:=by
 have hφ:=H.fresh i hi
 have hle:=aJ.fC (φ:=φ) (i:=i) ⟨b,0,room⟩ hφ
 have hg:∀j,av j (.mk (cU i o h.tree) n' (Lg.add i h.log))=if j=i then o else av j h:=by
  intro j
  cases h with
  | mk t n lg=>exact dD j i o t
 have hbk:∀j q,j≠i→(φ.put i ⟨b,0,room⟩) j=some q→φ j=some q:=by
  intro j q hj hq
  simpa [aJ.put,hj] using hq
 refine ⟨fun j hj=>?_,fun j k q r hj hk hjk hq hr=>?_,fun j hj=>?_,fun j q hq=>?_⟩
 ·rw [hg] at hj ⊢
  by_cases e:j=i
  ·subst e
   refine ⟨_,aJ.aK _ _ _,?_⟩
   rw [if_pos rfl];exact hOR
  ·rw [if_neg e] at hj ⊢
   obtain ⟨q,hq,hr⟩:=H.obj j hj
   exact ⟨q,hle _ _ hq,hr.mono hle⟩
 ·rw [hg] at hj hk
  by_cases e1:j=i
  ·by_cases e2:k=i
   ·exact absurd (e1.trans e2.symm) hjk
   ·rw [if_neg e2] at hk
    have hr':=hbk k r e2 hr
    have hq':q=⟨b,0,room⟩:=by rw [e1,aJ.aK] at hq;exact (Option.some.inj hq).symm
    rw [hq'];exact fun e=>hfree k r hk hr' e.symm
  ·rw [if_neg e1] at hj
   have hq':=hbk j q e1 hq
   by_cases e2:k=i
   ·have hr':r=⟨b,0,room⟩:=by rw [e2,aJ.aK] at hr;exact (Option.some.inj hr).symm
    rw [hr'];exact hfree j q hj hq'
   ·rw [if_neg e2] at hk
    exact H.inj j k q r hj hk hjk hq' (hbk k r e2 hr)
 ·rw [hg] at hj
  by_cases e:j=i
  ·rw [if_pos e] at hj;exact absurd hj ho
  ·rw [if_neg e] at hj
   show (if j=i then some _ else φ j)=none
   rw [if_neg e];exact H.fresh j hj
 ·by_cases e:j=i
  ·have hq':q=⟨b,0,room⟩:=by rw [e,aJ.aK] at hq;exact (Option.some.inj hq).symm
   rw [hq'];exact hb
  ·exact H.bound j q (hbk j q e hq)
theorem HR.ext (H:HR φ h w) (hs:w.heap.size≤w'.heap.size) (hk:∀b,b < w.heap.size→w'.heap[b]?=w.heap[b]?):HR φ h w' where
 obj i hl:=let ⟨p,h1,h2⟩:=H.obj i hl;⟨p,h1,by rw [hk _ (H.bound i p h1)];exact h2⟩
 inj:=H.inj
 fresh:=H.fresh
 bound i p hp:=Nat.lt_of_lt_of_le (H.bound i p hp) hs
theorem Step.ext (hs:w.heap.size≤w'.heap.size) (hk:∀b,b < w.heap.size→w'.heap[b]?=w.heap[b]?) (ht:w'.tape=w.tape) (ho:w'.os=w.os) (hu:w'.output=w.output):Step φ h w φ h w':=
 ⟨φ.le_refl,⟨hs,fun b hb _=>hk b hb,ht,ho,hu⟩,fun _ _ a b=>.inl ⟨a,b⟩,.refl _⟩
structure uo (φ:aJ) (r:A2) (op:oB) (ob:Go.Obj) (room:Nat) (val:Nat→Value):Prop where
 am:∀h v h',op.run r h=.ok v h'→∃obj,h'=.mk (cU h.next obj h.tree) h.next.succ (Lg.add h.next h.log)∧av h.next h=.none∧live obj∧(∀ψ b,φ.le ψ→OR ψ obj ⟨b,0,room⟩ (some ob))∧∀ψ b,ψ h.next=some ⟨b,0,room⟩→VR ψ v (val b)
theorem uo.mono {φ ψ:aJ} {r:A2} {op:oB} {ob:Go.Obj} {room:Nat} {val:Nat→Value} (N:uo φ r op ob room val) (g:φ.le ψ):uo ψ r op ob room val:=
 ⟨fun h v h' e=>let ⟨obj,a,b,c,d,f⟩:=N.am h v h' e;⟨obj,a,b,c,fun χ bb k=>d χ bb (aJ.le_trans g k),f⟩⟩
def Je (P:Program) (ρ:Operand→Value) (o:Oper) (ob:Go.Obj) (val:Nat→Value):Prop:=∀w:World,(execOp ρ o).run P w=.ok (.value (val w.heap.size)) {w with heap:=w.heap.push ob}
variable {r:A2} {ρ:Operand→Value}
theorem BC {o:Oper} {e m:Nat} {c:Cl} (hop:cj P G names o=some (.op (.alloc e m c))):∃ob room val,uo φ r (.alloc e m c) ob room val∧Je P ρ o ob val:=by
 have hin:∃z,o.op=.alloc e∧ff P e=some z∧m=z.length∧c=lW z:=by
  obtain ⟨dst,y,type,pos,after,guard⟩:=o
  simp only [cj] at hop
  split at hop
  case h_4=>
   simp only [bind,Option.bind_eq_some_iff,Option.some.injEq,AI.op.injEq,oB.alloc.injEq] at hop
   obtain ⟨z,hz,rfl,rfl,rfl⟩:=hop
   exact ⟨z,rfl,hz,rfl,rfl⟩
  case h_21=>
   split at hop
   ·simp only [bind,Option.bind_eq_some_iff] at hop
    obtain ⟨fd,_,hop⟩:=hop
    split at hop
    ·simp at hop
    ·split at hop<;>simp [Option.bind_eq_some_iff] at hop
   ·cases hop
  case h_32 c'=>
   simp only [bind,Option.bind_eq_some_iff] at hop
   obtain ⟨ys,hys,hop⟩:=hop
   split at hop
   ·simp only [Option.map_eq_some_iff,AI.op.injEq] at hop
    obtain ⟨op,ho,rfl⟩:=hop
    unfold gT at ho
    split at ho<;>(repeat' split at ho)<;>simp [Option.bind_eq_some_iff] at ho
   ·cases hop
   ·simp [Option.bind_eq_some_iff] at hop
   ·simp [Option.bind_eq_some_iff] at hop
  all_goals (repeat' split at hop)<;>simp [Option.bind_eq_some_iff,Option.map_eq_some_iff] at hop
 obtain ⟨z,ho,hz,rfl,rfl⟩:=hin
 obtain ⟨inf,zv,h1,h2,_,_⟩:=fg hz (fun _=>none)
 refine ⟨.cells zv.cells e,z.length,fun b=>.pointer (some ⟨b,0,none⟩),⟨fun h v h' he=>?_⟩,fun w=>?_⟩
 case refine_2=>simp [execOp,ho,Instr.alloc,newVar,dE,zeroValue,bz h1,h2]
 ·obtain ⟨hr,hi,he⟩:=eE (show oC e true .plain z.length (lW z) h vA=.ok v h' from he)
  obtain ⟨rfl,rfl⟩:=qo he
  refine ⟨_,rfl,hi,aI,fun ψ b _=>?_,fun ψ b hb=>?_⟩
  ·obtain ⟨inf',zv',h1',h2',g1,g2⟩:=fg hz ψ
   rw [h1] at h1';cases h1'
   rw [h2] at h2';cases h2'
   have hl:=g1.length
   simp only [Array.length_toList] at hl
   refine ⟨zv.cells,(0,0),rfl,by simp [hl],Nat.le_refl _,fun _=>⟨rfl,rfl⟩,hr,fun k hk=>?_,rfl⟩
   have hk':k < zv.cells.size:=by omega
   refine ⟨zv.cells[k],by simp [hk'],?_,g2 _ (by simp)⟩
   rw [dm z hr k hk]
   have:=g1.get k hk (by simpa using hk')
   simpa using this
  ·have:=VR.ptr (φ:=ψ) h.next 0 _ hb
   simpa [Place.addr] using this
theorem Jf {o:Oper} (hop:cj P G names o=some (.op .mT)) (hc:∀c,ρ (.const c)=c):∃ob room val,uo φ r .mT ob room val∧Je P ρ o ob val:=by
 have hin:∃t re,o.op=.makeMap t re∧(re=none∨∃k m a b,re=some (.const (.int k m))∧P.underlying t=some (.map a b)):=by
  obtain ⟨dst,y,type,pos,after,guard⟩:=o
  simp only [cj] at hop
  split at hop
  case h_16=>exact ⟨_,_,rfl,.inl rfl⟩
  case h_17=>
   split at hop
   ·rename_i hu
    exact ⟨_,_,rfl,.inr ⟨_,_,_,_,rfl,aw hu (by simp)⟩⟩
   ·cases hop
  case h_21=>
   split at hop
   ·simp only [bind,Option.bind_eq_some_iff] at hop
    obtain ⟨fd,_,hop⟩:=hop
    split at hop
    ·simp at hop
    ·split at hop<;>simp [Option.bind_eq_some_iff] at hop
   ·cases hop
  case h_32 c'=>
   simp only [bind,Option.bind_eq_some_iff] at hop
   obtain ⟨ys,hys,hop⟩:=hop
   split at hop
   ·simp only [Option.map_eq_some_iff,AI.op.injEq] at hop
    obtain ⟨op,ho,rfl⟩:=hop
    unfold gT at ho
    split at ho<;>(repeat' split at ho)<;>simp [Option.bind_eq_some_iff] at ho
   ·cases hop
   ·simp [Option.bind_eq_some_iff] at hop
   ·simp [Option.bind_eq_some_iff] at hop
  all_goals (repeat' split at hop)<;>simp [Option.bind_eq_some_iff,Option.map_eq_some_iff] at hop
 obtain ⟨t,re,ho,hre⟩:=hin
 have hno:∀w:World,(newObj (.map #[] 0)).run P w=.ok w.heap.size {w with heap:=w.heap.push (.map #[] 0)}:=fun w=>run_newObj _
 refine ⟨.map #[] 0,0,fun b=>.map (some b),⟨fun h v h' he=>?_⟩,fun w=>?_⟩
 case refine_2=>
  rcases hre with rfl|⟨k,m,a,b,rfl,hu⟩
  ·simp [execOp,ho,Instr.makeMap,hno]
  ·have ha:(asInt (.int k m)).run P w=.ok m w:=rfl
   simp [execOp,ho,Instr.makeMap,hno,hc,ak hu,ha]
 ·obtain ⟨hi,he⟩:=hE (show lX (.map .nil 0) h (fun i h=>.ok (.map i) h)=.ok v h' from he)
  obtain ⟨rfl,rfl⟩:=RV.au he
  exact ⟨_,rfl,hi,nd,fun ψ b _=>⟨#[],rfl,.nil⟩,fun ψ b hb=>.map _ _ hb⟩
theorem yE {o:Oper} {e es m:Nat} {z:List AV} {ps:List Part} (hop:cj P G names o=some (.op (.aU e es m z ps))):∃t k qs,o.op=.buildSlice t k qs:=by
 obtain ⟨dst,y,type,pos,after,guard⟩:=o
 simp only [cj] at hop
 split at hop
 case h_7=>exact ⟨_,_,_,rfl⟩
 case h_21=>
  split at hop
  ·simp only [bind,Option.bind_eq_some_iff] at hop
   obtain ⟨fd,_,hop⟩:=hop
   split at hop
   ·simp at hop
   ·split at hop<;>simp [Option.bind_eq_some_iff] at hop
  ·cases hop
 case h_32 c'=>
  simp only [bind,Option.bind_eq_some_iff] at hop
  obtain ⟨ys,hys,hop⟩:=hop
  split at hop
  ·simp only [Option.map_eq_some_iff,AI.op.injEq] at hop
   obtain ⟨op,ho,rfl⟩:=hop
   unfold gT at ho
   split at ho<;>(repeat' split at ho)<;>simp [Option.bind_eq_some_iff] at ho
  ·cases hop
  ·simp [Option.bind_eq_some_iff] at hop
  ·simp [Option.bind_eq_some_iff] at hop
 all_goals (repeat' split at hop)<;>simp [Option.bind_eq_some_iff,Option.map_eq_some_iff] at hop
theorem NY {t e:TypeId} {zs:List AV} (ht:P.underlying t=some (.slice e)) (hz:ff P e=some zs) (hzl:zs.length=bk P e) (hes:bk P e≠0) {n:Nat} {ps:List Part} {qs:List (Nat×Value)} (hl:ps.length=qs.length)
  (hp:∀k (h1:k < ps.length) (h2:k < qs.length),tf φ r (fun i=>some (i * bk P e,bk P e)) ps[k] qs[k])
  (hb:∀p,p∈ps→match p with|.mk off sz _=>off+sz≤n * bk P e) (hf:fits ps r=true) (hr:(fill ps r (dy n zs)).length≤bM (lW (fill ps r (dy n zs)))) :
  ∃es:List Value,bX φ (fill ps r (dy n zs)) es∧(∀c,c∈es→c.oneCell'=true)∧∀w:World,(Instr.buildSlice t n qs.toArray).run P w=.ok (.slice (some ⟨w.heap.size,0,none⟩) n n) {w with heap:=w.heap.push (.cells es.toArray e)}:=by
 obtain ⟨i,zv,hi,hzv,g1,g2⟩:=fg hz φ
 rw [cu hi] at hzl hes hp hb
 have hzs:zv.cells.size=i.size:=by rw [←hzl,g1.length];simp
 obtain ⟨k1,k2⟩:=dU g1 g2 n (n * i.size) (by rw [hzs])
 have hlen:((Array.range (n * i.size)).map (zv.cells[· % zv.cells.size]!)).toList.length=n * i.size:=by simp
 obtain ⟨es,f1,f2,f3⟩:=tg ps qs (dy n zs) ((Array.range (n * i.size)).map (zv.cells[· % zv.cells.size]!)).toList hl hp hf (fun p hp'=>by have:=hb p hp';rw [hlen];exact this) k1 k2
 rw [jS,eu,hzl] at hr
 have hcr:=jT (lW (fill ps r (dy n zs)))
 refine ⟨es,f2,f3,fun w=>?_⟩
 have hbig:¬ (16777216 < n * i.size):=by omega
 by_cases h0:n * i.size=0
 ·have hn0:n=0:=by
   rcases Nat.mul_eq_zero.1 h0 with g|g
   ·exact g
   ·exact absurd g hes
  subst hn0
  have hh:((Array.range (0 * i.size)).map (zv.cells[· % zv.cells.size]!)).toList.toArray=#[]:=by simp
  rw [hh] at f1
  have hh2:∀g:Nat→Value,(Array.range 0).map g=#[]:=by intro g;simp
  simp only [Instr.buildSlice,Sem.run_bind,ak ht,Result.andThen_ok,aN hi]
  simp only [Nat.zero_mul,hh2,f1]
  simp [dE]
 ·have f1':Instr.fill (fun i_1=>some (i_1 * i.size,i.size)) ((Array.range (n * i.size)).map (zv.cells[· % zv.cells.size]!)) qs=some es.toArray:=f1
  simp only [Instr.buildSlice,Sem.run_bind,ak ht,Result.andThen_ok,aN hi]
  rw [if_neg hbig]
  simp only [h0,if_false,zeroValue,Sem.run_bind,bz hi,hzv,Result.andThen_ok,Sem.run_pure,f1',dE]
theorem yF {o:Oper} {e es m:Nat} {z:List AV} {ps:List Part} (hop:cj P G names o=some (.op (.aU e es m z ps))) (hρ:∀q x,cO G q=some x→VR φ (ev x r) (ρ q)) {h1 h2:Hp} {v1:AV} (he:(oB.aU e es m z ps).run r h1=.ok v1 h2) :
  ∃ob room val,uo φ r (.aU e es m z ps) ob room val∧Je P ρ o ob val:=by
 obtain ⟨t,k,qs,ho⟩:=yE hop
 obtain ⟨dst,y,type,pos,after,guard⟩:=o
 have ho:y=.buildSlice t k qs:=ho
 subst ho
 simp only [cj] at hop
 split at hop
 ·rename_i e' hu
  simp only [bind,Option.bind_eq_some_iff] at hop
  obtain ⟨zs,hz,hop⟩:=hop
  split at hop
  ·simp at hop
  ·rename_i hs
   simp only [not_or,Decidable.not_not] at hs
   simp only [bind,pure,Option.bind_some,Option.bind_eq_some_iff,Option.some.injEq,AI.op.injEq,oB.aU.injEq] at hop
   obtain ⟨l,hl,rfl,rfl,rfl,rfl,rfl⟩:=hop
   obtain ⟨g1,g2,g3⟩:=gV (φ:=φ) (r:=r) (ρ:=ρ) hl (fun q _ a ha=>hρ _ _ ha)
   have he:fc e' (bk P e') k (dy k zs) l r h1=.ok v1 h2:=he
   obtain ⟨hf,he1⟩:=aB he
   have hr:=(eE (show oC e' true .plain (fill l r (dy k zs)).length (lW (fill l r (dy k zs))) h1 (fun i h=>.ok (.slice i 0 k k) h)=.ok v1 h2 from he1)).1
   obtain ⟨cs,f2,f3,f4⟩:=NY (aw hu (by simp)) hz hs.2 hs.1 (by simpa using g1) g2 g3 hf hr
   have hlen:=f2.length
   refine ⟨.cells cs.toArray e',cs.length,fun b=>.slice (some ⟨b,0,none⟩) k k,⟨fun h v h' hx=>?_⟩,fun w=>?_⟩
   ·have hx:fc e' (bk P e') k (dy k zs) l r h=.ok v h':=hx
    obtain ⟨_,hx1⟩:=aB hx
    obtain ⟨hr2,hi2,hx2⟩:=eE (show oC e' true .plain (fill l r (dy k zs)).length (lW (fill l r (dy k zs))) h (fun i h=>.ok (.slice i 0 k k) h)=.ok v h' from hx1)
    obtain ⟨rfl,rfl⟩:=RV.au hx2
    refine ⟨_,rfl,hi2,aI,fun ψ b hle=>?_,fun ψ b hb=>?_⟩
    ·refine ⟨cs.toArray,(0,0),rfl,by simp,Nat.le_of_eq hlen,fun _=>⟨rfl,hlen⟩,hr2,fun j hj=>?_,rfl⟩
     have hj':j < cs.length:=by omega
     refine ⟨cs[j],by simp [hj'],?_,f3 _ (List.getElem_mem _)⟩
     rw [dm _ hr2 j hj]
     exact (f2.get j hj hj').mono hle
    ·have:=VR.slice (φ:=ψ) h.next 0 k k _ hb
     simpa [Place.addr] using this
   ·show ((do pure (.value (←Instr.buildSlice t k (qs.map fun (i,x)=>(i,ρ x)))):Sem Next).run P w)=_
    rw [oG hρ qs]
    simp only [Sem.run_bind,f4 w,Result.andThen_ok,Sem.run_pure]
 ·cases hop
theorem Eg {o:Oper} {op:oB} (hop:cj P G names o=some (.op op)) (hx:zQ (.op op)=true) (hρ:∀q x,cO G q=some x→VR φ (ev x r) (ρ q)) (hc:∀c,ρ (.const c)=c) {h1 h2:Hp} {v1:AV} (he:op.run r h1=.ok v1 h2) :
  ∃ob room val,uo φ r op ob room val∧Je P ρ o ob val:=by
 cases op<;>(try (cases hx;done))
 ·exact BC hop
 ·exact yF hop hρ he
 ·exact Jf hop hc
end
section
variable {P:Program} {G:Gl} [NB G] {n:Nat} {names:List String} {ops:Array Oper} {p:Pg} {run:gg} {l:List (Nat×Bk)} {T:Nat→DS} {φ₀:aJ} {w₀:World}
theorem oY {d:aF} {v:AV} {r:A2} {o:Option Tmp} {t:Nat} (hd:lL G n o=some d) (ho:o=some t):aq (hi t) (lo t) (dG d v r)=v:=by
 subst ho
 obtain ⟨_,_,rfl⟩:=sA hd
 show aq (hi t) (lo t) (eQ (hi t) (lo t) v r)=v
 rw [dH,if_pos ⟨rfl,rfl⟩]
theorem yG {L:Array Bool} {i j:Nat} (hi:i < L.size):bg (L.setIfInBounds i true) j↔bg L j∨j=i:=by
 unfold bg
 by_cases e:j=i
 ·subst e
  simp [hi]
 ·rw [Array.getD_eq_getD_getElem?,Array.getElem?_setIfInBounds,if_neg (fun g=>e g.symm),←Array.getD_eq_getD_getElem?]
  simp [e]
def jh (l:List (Nat×Bk)) (L:Array Bool) (k q:Nat) (hq:q < l.length):Prop:=l[q].2=.new∧bg L l[q].1∧k≤ec l q
structure Inv (P:Program) (G:Gl) (n:Nat) (names:List String) (ops:Array Oper) (l:List (Nat×Bk)) (T:Nat→DS) (φ₀:aJ) (w₀:World) (L:Array Bool) (a:Act) (w:World) (φ:aJ) (k:Nat) (pb:Nat→Nat):Prop where
 sz:L.size=ops.size
 cl:WX ops L
 Wp:k≤ec l l.length
 fk:∀q (hq:q < l.length),l[q].2=.dQ→(bg L l[q].1↔ec l q < k)
 hr:HR φ (bh l T k) w
 Bw:Step φ₀ (bh l T 0) w₀ φ (bh l T k) w
 dz:a.defers=[]
 size:n≤a.tmps.size
 fy:mF G φ
 yH:∀q (hq:q < l.length),jh l L k q hq→∃op ob room val,cj P G names (bH ops l q hq)=some (.op op)∧uo φ (T q).r op ob room val∧w₀.heap.size≤pb q∧pb q < w.heap.size∧w.heap[pb q]?=some ob∧
  (∀i pl,live (av i (bh l T k))→φ i=some pl→pl.bZ≠pb q)∧∀t,(bH ops l q hq).dst=some t→a.tmps.getD t undef=val (pb q)
 NZ:∀q q' (hq:q < l.length) (hq':q' < l.length),jh l L k q hq→jh l L k q' hq'→q≠q'→pb q≠pb q'
 old:∀t,t < 256→(∀q (hq:q < l.length),(bH ops l q hq).dst=some t→¬ bg L l[q].1)→VR φ (aq (hi t) (lo t) (T 0).r) (a.tmps.getD t undef)
 new:∀t,t < 256→∀q (hq:q < l.length),(bH ops l q hq).dst=some t→bg L l[q].1→¬ jh l L k q hq→VR φ (aq (hi t) (lo t) (T (q+1)).r) (a.tmps.getD t undef)
variable {L:Array Bool} {a:Act} {w:World} {φ:aJ} {k:Nat} {pb:Nat→Nat}
theorem fU (K:Bv P G n names ops l) {q:Nat} (hq:q < l.length) (hb:l[q].2=.new):(bH ops l q hq).guard=none∧(∃x,cj P G names (bH ops l q hq)=some x∧zQ x=true)∧
  ∀t,(bH ops l q hq).dst=some t→∀q2 (hq2:q2 < l.length),l[q2].2=.dQ∨t ∉ looks P G n names ops (bH ops l q2 hq2):=by
 have h:=K.kind q hq
 rw [hb] at h
 simp only [te,Bool.and_eq_true] at h
 obtain ⟨⟨h1,h2⟩,h3⟩:=h
 refine ⟨Option.isNone_iff_eq_none.1 h1,?_,fun t ht q2 hq2=>?_⟩
 ·split at h2
  ·rename_i x hx;exact ⟨x,hx,h2⟩
  ·cases h2
 ·have ht':(ops.getD l[q].1 default).dst=some t:=ht
  rw [ht'] at h3
  simp only [Option.all_some,List.all_eq_true] at h3
  have:=h3 _ (List.getElem_mem hq2)
  simp only [Bool.or_eq_true,Bool.not_eq_true'] at this
  rcases this with g|g
  ·left;revert g;cases l[q2].2<;>simp [Kh]
  ·right;intro hm
   have:(looks P G n names ops (ops.getD l[q2].1 default)).contains t=true:=List.contains_iff_mem.2 hm
   rw [this] at g;cases g
theorem xK (K:Bv P G n names ops l) (hT:Trace P G n names ops p run l T) (h0:(T 0).hs=[]) (hg0:(T 0).g=(T 0).h) (I:Inv P G n names ops l T φ₀ w₀ L a w φ k pb) {q₁:Nat} (hq₁:q₁≤l.length) (hk:ec l q₁=k)
  (hall:∀q (hq:q < l.length),q < q₁→l[q].2=.new→ec l q=k→bg L l[q].1) :
  ∃φ',φ.le φ'∧HR φ' (T q₁).h w∧Step φ₀ (bh l T 0) w₀ φ' (T q₁).h w∧(∀q (hq:q < l.length),q < q₁→l[q].2=.new→ec l q=k→∀t,t < 256→(bH ops l q hq).dst=some t→VR φ' (aq (hi t) (lo t) (T (q+1)).r) (a.tmps.getD t undef))∧
   ∀q (hq:q < l.length),jh l L k q hq→q₁≤q→∀i pl,live (av i (T q₁).h)→φ' i=some pl→pl.bZ≠pb q:=by
 obtain ⟨s,Ny,TW,hs3,hs4,hs5⟩:=xI hT hg0 q₁ hq₁
 have hbase:(T s).h=bh l T k:=by rw [hs3,←Jd hT h0 (by omega),TW,hk]
 have hec:∀q,s≤q→q≤q₁→ec l q=k:=fun q h1 h2=>by
  have a1:=gq (l:=l) h1 (by omega)
  have a2:=gq (l:=l) h2 hq₁
  omega
 have key:∀q,s≤q→q≤q₁→∃φ',φ.le φ'∧HR φ' (T q).h w∧Step φ₀ (bh l T 0) w₀ φ' (T q).h w∧(∀q2 (hq2:q2 < l.length),s≤q2→q2 < q→l[q2].2=.new→∀t,t < 256→(bH ops l q2 hq2).dst=some t→VR φ' (aq (hi t) (lo t) (T (q2+1)).r) (a.tmps.getD t undef))∧
   ∀q2 (hq2:q2 < l.length),jh l L k q2 hq2→q≤q2→∀i pl,live (av i (T q).h)→φ' i=some pl→pl.bZ≠pb q2:=by
  intro q hsq
  induction hsq with
  | refl=>
   intro _
   refine ⟨φ,φ.le_refl,by rw [hbase];exact I.hr,by rw [hbase];exact I.Bw,fun q2 _ h1 h2=>by omega,fun q2 hq2 hp _ i pl hl hpl=>?_⟩
   obtain ⟨_,_,_,_,_,_,_,_,_,g,_⟩:=I.yH q2 hq2 hp
   rw [hbase] at hl
   exact g i pl hl hpl
  | @step q hsq ih=>
   intro hle
   obtain ⟨φ',i1,i2,i3,i4,i5⟩:=ih (by omega)
   have hql:q < l.length:=by omega
   obtain ⟨d,x,wnt,v,D⟩:=hT q hql
   have hstp:=D.Bw.2
   have hne:=hs4 q hsq (by omega) hql
   cases hb:l[q].2 with
   | dQ=>exact absurd hb hne
   | rd m=>
    rw [hb] at hstp
    have hh:(T (q+1)).h=(T q).h:=by
     cases wnt with
     | true=>obtain ⟨_,_,_,_,e,_⟩:=hstp;exact e
     | false=>exact hstp.2.1
    refine ⟨φ',i1,by rw [hh];exact i2,by rw [hh];exact i3,fun q2 hq2 h1 h2 hn t ht hd=>?_,fun q2 hq2 hp h1 i pl hl hpl=>?_⟩
    ·rcases Nat.lt_or_ge q2 q with g|g
     ·exact i4 q2 hq2 h1 g hn t ht hd
     ·obtain rfl:q2=q:=by omega
      rw [hb] at hn;cases hn
    ·rw [hh] at hl;exact i5 q2 hq2 hp (by omega) i pl hl hpl
   | new=>
    rw [hb] at hstp
    obtain ⟨hgd,_,_⟩:=fU K hql hb
    have hw:wnt=true:=by have:=D.want;simpa [Ki,hgd] using this
    subst hw
    obtain ⟨op,rfl,hrun,_,_⟩:=hstp
    have hp:jh l L k q hql:=⟨hb,hall q hql (by omega) hb (hec q hsq (by omega)),Nat.le_of_eq (hec q hsq (by omega)).symm⟩
    obtain ⟨op',ob,room,val,e1,NS,b1,b2,b3,b4,b5⟩:=I.yH q hql hp
    rw [D.op] at e1
    cases e1
    obtain ⟨obj,f1,f2,f3,f4,f5⟩:=NS.am _ _ _ hrun
    have hle':=aJ.fC (φ:=φ') (i:=(T q).h.next) ⟨pb q,0,room⟩ (i2.fresh _ f2)
    have HA:=i2.Uk (n':=(T q).h.next.succ) f2 f3.1 b2 (i5 q hql hp (Nat.le_refl _)) (o:=obj) (room:=room) (by rw [b3];exact f4 _ _ (aJ.le_trans i1 hle'))
    refine ⟨φ'.put (T q).h.next ⟨pb q,0,room⟩,aJ.le_trans i1 hle',by rw [f1];exact HA,?_,fun q2 hq2 h1 h2 hn t ht hd=>?_,fun q2 hq2 hp2 h1 i pl hl hpl=>?_⟩
    ·refine ⟨aJ.le_trans i3.le hle',i3.keeps,fun i pl hl hpl=>?_,i3.fr.trans (by rw [f1];exact .put _ _ _ _)⟩
     rw [f1,jU] at hl
     by_cases e:i=(T q).h.next
     ·subst e
      rw [aJ.aK] at hpl;cases hpl
      exact .inr (.inl b1)
     ·rw [if_neg e] at hl
      exact i3.new i pl hl (by simpa [aJ.put,e] using hpl)
    ·rcases Nat.lt_or_ge q2 q with g|g
     ·exact (i4 q2 hq2 h1 g hn t ht hd).mono hle'
     ·obtain rfl:q2=q:=by omega
      rw [b5 t hd,D.Bw.1,oY D.dst hd]
      exact f5 _ _ (aJ.aK _ _ _)
    ·rw [f1,jU] at hl
     by_cases e:i=(T q).h.next
     ·subst e
      rw [aJ.aK] at hpl;cases hpl
      exact I.NZ q q2 hql hq2 hp hp2 (by omega)
     ·rw [if_neg e] at hl
      exact i5 q2 hq2 hp2 (by omega) i pl hl (by simpa [aJ.put,e] using hpl)
 obtain ⟨φ',i1,i2,i3,i4,i5⟩:=key q₁ Ny (Nat.le_refl _)
 refine ⟨φ',i1,i2,i3,fun q hq h1 h2 h3 t ht hd=>?_,i5⟩
 rcases Nat.lt_or_ge q s with g|g
 ·have:=hs5 q g;omega
 ·exact i4 q hq g h1 h2 t ht hd
end
end Go.Am
