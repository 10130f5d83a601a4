/- Closed runs, whole and in pieces. Conditions: the table of functions is the program's (Env). -/
import Derived.Test.YtpagaimbdhmegaaGreatDoorS2
import Derived.Test.YtpagaimbdhmegaaGreatDoorH
import Derived.Test.YtpagaimbdhmegaaGreatDoorG0
import Derived.KernelRfl
import Derived.RangeFuncRecord
import Derived.LoopNIn
import Derived.Lib.MakeNoZero
import Derived.Laws.Externs
import Derived.WalkKit
import Derived.ProofKit
import Derived.OpenShut
import Derived.Lib.LaidTab
import Derived.Handed
set_option linter.all false
namespace Go.Am.Crc
open Go.Am.Seat
set_option maxRecDepth 20000
noncomputable section
def T0 (v0 v3:AV):A2:=.mk (.mk v0 .undef .undef v3 .undef .undef .undef .undef .undef .undef .undef .undef .undef .undef .undef .undef) .nil .nil .nil .nil .nil .nil .nil .nil .nil .nil .nil .nil .nil .nil .nil
def T1 (v2:AV):A2:=.mk (.mk .undef .undef v2 .undef .undef .undef .undef .undef .undef .undef .undef .undef .undef .undef .undef .undef) .nil .nil .nil .nil .nil .nil .nil .nil .nil .nil .nil .nil .nil .nil .nil
def T2 (v3:AV):A2:=.mk (.mk .undef .undef .undef v3 .undef .undef .undef .undef .undef .undef .undef .undef .undef .undef .undef .undef) .nil .nil .nil .nil .nil .nil .nil .nil .nil .nil .nil .nil .nil .nil .nil
def T3 (v3 v7 v8 v9:AV):A2:=.mk (.mk .undef .undef .undef v3 .undef .undef .undef v7 v8 v9 .undef .undef .undef .undef .undef .undef) .nil .nil .nil .nil .nil .nil .nil .nil .nil .nil .nil .nil .nil .nil .nil
def T4 (v3 v7 v8 v9 v17:AV):A2:=.mk (.mk .undef .undef .undef v3 .undef .undef .undef v7 v8 v9 .undef .undef .undef .undef .undef .undef) (.mk .undef v17 .undef .undef .undef .undef .undef .undef .undef .undef .undef .undef .undef .undef .undef .undef) .nil .nil .nil .nil .nil .nil .nil .nil .nil .nil .nil .nil .nil .nil
def Ei:Cf→Iv→(A2→Hp→RS)→A2→Hp→RS:=fun cf iv rx r h=>(fun (x23 x24 x25 x26 x27:AV)=>
 tR (vB x27 (pi 8) h) fun v28 h29=>
 Lj v28 (tR (vk x23 (.int .u32 (.ofNat 1)) h29) fun v30 h31=>
 tR (bK .shr x23 (.int .u64 (.ofNat 1)) h31) fun v32 h33=>
 tR (wT v30 (.int .u32 (.ofNat 1)) h33) fun v34 h35=>
 Lj v34 (tR (pI v32 (.int .u32 (.ofNat 3988292384)) h35) fun v36 h37=>
 tR (ja x27 (pi 1) h37) fun v38 h39=>
 .nm (T4 v36 x24 x25 x26 v38) h39) (tR (ja x27 (pi 1) h35) fun v40 h41=>
 .nm (T4 v32 x24 x25 x26 v40) h41)) (.ex 2 (T4 x23 x24 x25 x26 x27) h29)) (aq .h0 .h3 r) (aq .h0 .h7 r) (aq .h0 .h8 r) (aq .h0 .h9 r) (aq .h1 .h1 r)
def kC_3:Cf→Iv→(A2→Hp→RS)→A2→Hp→RS:=fun cf iv rx r h=>(fun (x11 x12 x13 x14:AV)=>
 tR (ix 1 x12 x14 h) fun v15 h16=>
 tR (ld v15 h16) fun v17 h18=>
 tR (cK (.toInt .u32) v17 h18) fun v19 h20=>
 tR (pI x11 v19 h20) fun v21 h22=>
 rx (T4 v21 x12 x13 x14 (pi 0)) h22) (aq .h0 .h3 r) (aq .h0 .h7 r) (aq .h0 .h8 r) (aq .h0 .h9 r)
def wj:Cf→Iv→(A2→Hp→RS)→A2→Hp→RS:=fun cf iv rx r h=>(fun (x42 x43 x44 x45:AV)=>
 tR (ja x45 (pi 1) h) fun v46 h47=>
 .nm (T3 x42 x43 x44 v46) h47) (aq .h0 .h3 r) (aq .h0 .h7 r) (aq .h0 .h8 r) (aq .h0 .h9 r)
def yI:Cf→Iv→(A2→Hp→RS)→A2→Hp→RS:=fun cf iv rx r h=>(fun (x5 x6 x7 x8:AV)=>
 tR (vB x8 x7 h) fun v9 h10=>
 Lj v9 (rx (T3 x5 x6 x7 x8) h10) (.ex 0 (T2 x5) h10)) (aq .h0 .h3 r) (aq .h0 .h7 r) (aq .h0 .h8 r) (aq .h0 .h9 r)
def kC_1:Cf→Iv→(A2→Hp→RS)→A2→Hp→RS:=fun cf iv rx r h=>(fun (x1 x2:AV)=>
 tR (len x1 h) fun v3 h4=>
 rx (T3 x2 x1 v3 (pi 0)) h4) (aq .h0 .h0 r) (aq .h0 .h3 r)
def kC_6:Cf→Iv→(A2→Hp→RS)→A2→Hp→RS:=fun cf iv rx r h=>(fun (x48:AV)=>
 tR (vh x48 h) fun v49 h50=>
 .ret (T1 v49) h50) (aq .h0 .h3 r)
def kC_0:Cf→Iv→(A2→Hp→RS)→A2→Hp→RS:=fun cf iv rx r h=>(fun (x0:AV)=>
 rx (T0 x0 (.int .u32 (.ofNat 4294967295))) h) (aq .h0 .h0 r)
def xC:AC:=(.ag kC_0 (.seq (.ag kC_1 (.block 0 (.loop (.ag yI (.seq (.block 1 (.ag kC_3 (.block 2 (.loop (.ag Ei .skip))))) (.ag wj .skip)))))) (.ag kC_6 .skip)))
def zC:List Rs:=[.t .h0 .h2]
end
section
variable {cf:Cf} {iv:Iv} {rx:A2→Hp→RS} {h:Hp}
theorem Jh (x23 x24 x25 x26 x27:AV):Ei cf iv rx (T4 x23 x24 x25 x26 x27) h =
 tR (vB x27 (pi 8) h) fun v28 h29=>
 Lj v28 (tR (vk x23 (.int .u32 (.ofNat 1)) h29) fun v30 h31=>
 tR (bK .shr x23 (.int .u64 (.ofNat 1)) h31) fun v32 h33=>
 tR (wT v30 (.int .u32 (.ofNat 1)) h33) fun v34 h35=>
 Lj v34 (tR (pI v32 (.int .u32 (.ofNat 3988292384)) h35) fun v36 h37=>
 tR (ja x27 (pi 1) h37) fun v38 h39=>
 .nm (T4 v36 x24 x25 x26 v38) h39) (tR (ja x27 (pi 1) h35) fun v40 h41=>
 .nm (T4 v32 x24 x25 x26 v40) h41)) (.ex 2 (T4 x23 x24 x25 x26 x27) h29):=rfl
theorem Ji (x11 x12 x13 x14:AV):kC_3 cf iv rx (T3 x11 x12 x13 x14) h =
 tR (ix 1 x12 x14 h) fun v15 h16=>
 tR (ld v15 h16) fun v17 h18=>
 tR (cK (.toInt .u32) v17 h18) fun v19 h20=>
 tR (pI x11 v19 h20) fun v21 h22=>
 rx (T4 v21 x12 x13 x14 (pi 0)) h22:=rfl
theorem zT (x5 x6 x7 x8:AV):yI cf iv rx (T3 x5 x6 x7 x8) h =
 tR (vB x8 x7 h) fun v9 h10=>
 Lj v9 (rx (T3 x5 x6 x7 x8) h10) (.ex 0 (T2 x5) h10):=rfl
theorem Jj (x48:AV):kC_6 cf iv rx (T2 x48) h =
 tR (vh x48 h) fun v49 h50=>
 .ret (T1 v49) h50:=rfl
end
section
variable {cf:Cf} {iv:Iv} {rx:A2→Hp→RS} {h:Hp} {x y z:AV} {p:Pg}
def u32 (n:Nat):AV:=.int .u32 (.ofNat n)
theorem fD (v:AV) (h:Hp) (k:AV→Hp→RS):tR (.ok v h) k=k v h:=rfl
theorem zU (t:Bool) (a b:RS):Lj (.bool t) a b=(@Bool.rec (fun _=>RS) b a t):=rfl
theorem Ej (a b:Nat):vB (pi a) (pi b) h=.ok (.bool (Nat.ble (a+1) b)) h:=rfl
theorem jA {c d:Nat} (hc:c < 4294967296) (hd:d < 4294967296):vk (u32 c) (u32 d) h=.ok (u32 (Nat.land c d)) h:=by
 show RV.ok (.int .u32 (.ofNat (Nat.land (c % 4294967296) (d % 4294967296) % 4294967296))) h=_
 rw [Nat.mod_eq_of_lt hc,Nat.mod_eq_of_lt hd,Nat.mod_eq_of_lt (a:=Nat.land c d) (Nat.lt_of_le_of_lt (show Nat.land c d≤c from Nat.and_le_left) hc)];rfl
theorem pa {c d:Nat} (hc:c < 4294967296) (hd:d < 4294967296):Nat.xor c d < 4294967296:=Nat.xor_lt_two_pow (n:=32) hc hd
theorem Ek {c d:Nat} (hc:c < 4294967296) (hd:d < 4294967296):pI (u32 c) (u32 d) h=.ok (u32 (Nat.xor c d)) h:=by
 show RV.ok (.int .u32 (.ofNat (Nat.xor (c % 4294967296) (d % 4294967296) % 4294967296))) h=_
 rw [Nat.mod_eq_of_lt hc,Nat.mod_eq_of_lt hd,Nat.mod_eq_of_lt (pa hc hd)];rfl
theorem OG {c:Nat}:bK .shr (u32 c) (.int .u64 (.ofNat 1)) h=.ok (u32 (c / 2)) h:=rfl
theorem Up {c d:Nat}:wT (u32 c) (u32 d) h=.ok (.bool (Nat.beq c d)) h:=rfl
theorem yJ {a:Nat} (ha:a+1≤9223372036854775807):ja (pi a) (pi 1) h=.ok (pi (a+1)) h:=by
 show RV.ok (.int .i64 (@Bool.rec (fun _=>Int) (IntKind.wrap .i64 (.ofNat (a+1))) (.ofNat (a+1)) (Nat.ble (a+1) 9223372036854775807))) h=_
 rw [Nat.ble_eq_true_of_le ha];rfl
theorem th {c:Nat} (hc:c < 4294967296):(Nat.land c 1=1∧lY c=Nat.xor (c / 2) 3988292384)∨(Nat.land c 1=0∧lY c=c / 2):=by
 have e:Nat.shiftRight c 1=c / 2:=rfl
 have l:Nat.land c 1=c % 2:=Nat.and_one_is_mod c
 unfold lY
 rw [e,l]
 rcases Nat.mod_two_eq_zero_or_one c with g|g
 ·right;rw [g];exact ⟨rfl,Nat.xor_zero _⟩
 ·left;rw [g];exact ⟨rfl,rfl⟩
theorem zV {c:Nat} (hc:c < 4294967296):lY c < 4294967296:=by
 rcases th hc with ⟨_,e⟩|⟨_,e⟩<;>rw [e]
 ·exact pa (by omega) (by omega)
 ·omega
theorem k5 (a b c d e:AV):wj cf iv rx (T4 a b c d e) h=tR (ja d (pi 1) h) fun v h=>.nm (T3 a b c v) h:=rfl
theorem Uq {c k:Nat} (hc:c < 4294967296) (hk:k < 8):Ei cf iv rx (T4 (u32 c) x y z (pi k)) h=.nm (T4 (u32 (lY c)) x y z (pi (k+1))) h:=by
 rw [Jh,Ej,fD,zU,Nat.ble_eq_true_of_le (by omega:k+1≤8)]
 show tR (vk (u32 c) (u32 1) h) (fun _ _=>_)=_
 rw [jA hc (by omega),fD,OG,fD]
 show tR (wT (u32 (Nat.land c 1)) (u32 1) h) (fun _ _=>_)=_
 rw [Up,fD,zU]
 rcases th hc with ⟨e1,e2⟩|⟨e1,e2⟩
 ·rw [e1,e2]
  show tR (pI (u32 (c / 2)) (u32 3988292384) h) (fun _ _=>_)=_
  rw [Ek (by omega) (by omega),fD,yJ (by omega),fD]
 ·rw [e1,e2]
  show tR (ja (pi k) (pi 1) h) (fun _ _=>_)=_
  rw [yJ (by omega),fD]
def Jk:Nat→Nat→Nat
 | 0,c=>c
 | j+1,c=>Jk j (lY c)
theorem El (c:Nat):Jk 8 c=yK c:=rfl
theorem wk:∀(j c:Nat),c < 4294967296→Jk j c < 4294967296
 | 0,_,h=>h
 | j+1,_,h=>wk j _ (zV h)
noncomputable abbrev L4:AC:=.loop (.ag Ei .skip)
theorem Kj (m:Nat):∀(j c:Nat),c < 4294967296→j≤8→exec p (m+3+j) L4 (T4 (u32 c) x y z (pi (8 - j))) h=.ex 2 (T4 (u32 (Jk j c)) x y z (pi 8)) h
 | 0,c,hc,_=>rfl
 | j+1,c,hc,hj=>by
  rw [show m+3+(j+1)=m+2+j+1+1 by omega]
  show RS.bind (Ei (aj p (exec p (m+2+j))) (aL p (exec p (m+2+j))) (fun r h=>exec p (m+2+j) .skip r h) (T4 (u32 c) x y z (pi (8 - (j+1)))) h) (fun r h=>exec p (m+2+j+1) L4 r h) (fun _ _ _=>_) (fun _ _ _=>_)=_
  rw [Uq hc (by omega),show m+2+j+1=m+3+j by omega]
  show exec p (m+3+j) L4 (T4 (u32 (lY c)) x y z (pi (8 - (j+1)+1))) h=_
  rw [show 8 - (j+1)+1=8 - j by omega]
  exact Kj m j _ (zV hc) (by omega)
noncomputable abbrev B3:AC:=.ag kC_3 (.block 2 L4)
noncomputable abbrev L2:AC:=.loop (.ag yI (.seq (.block 1 B3) (.ag wj .skip)))
def Rd (x:AV) (h:Hp) (i b:Nat):Prop:=∃q,ix 1 x (pi i) h=.ok q h∧ld q h=.ok (.int .u8 (.ofNat b)) h
theorem Ur (m:Nat) {c i b:Nat} (hc:c < 4294967296) (hr:Rd x h i b) (hb:b≤255):exec p (m+14) B3 (T3 (u32 c) x y (pi i)) h=.nm (T4 (u32 (yK (Nat.xor c b))) x y (pi i) (pi 8)) h:=by
 obtain ⟨q,e1,e2⟩:=hr
 show kC_3 (aj p (exec p (m+13))) (aL p (exec p (m+13))) (fun r h=>exec p (m+13) (.block 2 L4) r h) (T3 (u32 c) x y (pi i)) h=_
 rw [Ji,e1,fD,e2,fD]
 have e3:cK (.toInt .u32) (.int .u8 (.ofNat b)) h=.ok (u32 b) h:=by
  show RV.ok (.int .u32 (.ofNat (b % 4294967296))) h=_
  rw [Nat.mod_eq_of_lt (by omega)];rfl
 rw [e3,fD]
 rw [Ek hc (by omega),fD]
 show RS.bind (exec p (m+12) L4 (T4 (u32 (Nat.xor c b)) x y (pi i) (pi 0)) h) (fun _ _=>_) (fun _ _ _=>_) (fun _ _ _=>_)=_
 have:=Kj (p:=p) (h:=h) (x:=x) (y:=y) (z:=pi i) (m+1) 8 (Nat.xor c b) (pa hc (by omega)) (Nat.le_refl _)
 rw [El] at this
 have e4:exec p (m+12) L4 (T4 (u32 (Nat.xor c b)) x y (pi i) (pi 0)) h=.ex 2 (T4 (u32 (yK (Nat.xor c b))) x y (pi i) (pi 8)) h:=this
 rw [e4]
 rfl
theorem Kk (m n:Nat) (hn:n < 9223372036854775807):∀(t:List Nat) (i c:Nat),c < 4294967296→i+t.length=n→(∀(j:Nat) (hj:j < t.length),Rd x h (i+j) t[j]∧t[j]≤255)→
  exec p (m+20+t.length) L2 (T3 (u32 c) x (pi n) (pi i)) h=.ex 0 (T2 (u32 (Em t c))) h
 | [],i,c,hc,hi,_=>by
  have hi:i=n:=by simpa using hi
  subst hi
  have:yI (aj p (exec p (m+18))) (aL p (exec p (m+18))) (fun r h=>exec p (m+18) (.seq (.block 1 B3) (.ag wj .skip)) r h) (T3 (u32 c) x (pi i) (pi i)) h=.ex 0 (T2 (u32 c)) h:=by
   rw [zT,Ej,fD,zU]
   have:Nat.ble (i+1) i=false:=by rw [Bool.eq_false_iff];intro e;have:=Nat.le_of_ble_eq_true e;omega
   rw [this]
  show RS.bind (yI (aj p (exec p (m+18))) (aL p (exec p (m+18))) (fun r h=>exec p (m+18) (.seq (.block 1 B3) (.ag wj .skip)) r h) (T3 (u32 c) x (pi i) (pi i)) h) (fun _ _=>_) (fun _ _ _=>_) (fun _ _ _=>_)=_
  rw [this];rfl
 | b::t,i,c,hc,hi,hr=>by
  have hl:i+1+t.length=n:=by simp only [List.length_cons] at hi;omega
  obtain ⟨r0,hb⟩:=hr 0 (by simp)
  have r0:Rd x h i b:=r0
  have hb:b≤255:=hb
  have ih:=Kk m n hn t (i+1) (yK (Nat.xor c b)) (by rw [←El];exact wk 8 _ (pa hc (by omega))) hl (fun j hj=>by
   have:=hr (j+1) (by simpa using hj)
   rw [show i+1+j=i+(j+1) by omega];simpa using this)
  have:yI (aj p (exec p (m+19+t.length))) (aL p (exec p (m+19+t.length))) (fun r h=>exec p (m+19+t.length) (.seq (.block 1 B3) (.ag wj .skip)) r h) (T3 (u32 c) x (pi n) (pi i)) h=.nm (T3 (u32 (yK (Nat.xor c b))) x (pi n) (pi (i+1))) h:=by
   rw [zT,Ej,fD,zU,Nat.ble_eq_true_of_le (by omega:i+1≤n)]
   show exec p (m+19+t.length) (.seq (.block 1 B3) (.ag wj .skip)) (T3 (u32 c) x (pi n) (pi i)) h=_
   rw [show m+19+t.length=(m+3+t.length)+14+1+1 by omega]
   show RS.bind (RS.bind (exec p ((m+3+t.length)+14) B3 (T3 (u32 c) x (pi n) (pi i)) h) (fun _ _=>_) (fun _ _ _=>_) (fun _ _ _=>_)) (fun _ _=>_) (fun _ _ _=>_) (fun _ _ _=>_)=_
   rw [Ur _ hc r0 hb]
   show wj (aj p (exec p (m+3+t.length+14))) (aL p (exec p (m+3+t.length+14))) (fun r h=>exec p (m+3+t.length+14) .skip r h) (T4 (u32 (yK (Nat.xor c b))) x (pi n) (pi i) (pi 8)) h=_
   rw [k5,yJ (by omega),fD]
  rw [show m+20+(b::t).length=m+19+t.length+1+1 by simp only [List.length_cons];omega]
  show RS.bind (yI (aj p (exec p (m+19+t.length))) (aL p (exec p (m+19+t.length))) (fun r h=>exec p (m+19+t.length) (.seq (.block 1 B3) (.ag wj .skip)) r h) (T3 (u32 c) x (pi n) (pi i)) h) (fun r h=>exec p (m+19+t.length+1) L2 r h) (fun _ _ _=>_) (fun _ _ _=>_)=_
  rw [this,show m+19+t.length+1=m+20+t.length by omega]
  exact ih
theorem OH {c:Nat} (hc:c < 4294967296):vh (u32 c) h=.ok (u32 (Nat.xor 4294967295 c)) h:=by
 show RV.ok (.int .u32 (IntKind.wrap .u32 (BitVec.ofInt 32 4294967295 ^^^ BitVec.ofInt 32 (.ofNat c)).toNat)) h=_
 have e:(BitVec.ofInt 32 4294967295 ^^^ BitVec.ofInt 32 (.ofNat c)).toNat=Nat.xor 4294967295 c:=by
  rw [BitVec.toNat_xor]
  have e1:(BitVec.ofInt 32 4294967295).toNat=4294967295:=rfl
  have e2:(BitVec.ofInt 32 (.ofNat c)).toNat=c:=by
   rw [BitVec.toNat_ofInt]
   show ((Int.ofNat c) % ((2 ^ 32:Nat):Int)).toNat=c
   have:(Int.ofNat c)=(c:Int):=rfl
   rw [this];omega
  rw [e1,e2];rfl
 rw [e]
 have e2:IntKind.wrap .u32 (Int.ofNat (Nat.xor 4294967295 c))=Int.ofNat (Nat.xor 4294967295 c):=by
  rw [←dW]
  show Int.ofNat (Nat.xor 4294967295 c % 4294967296)=_
  rw [Nat.mod_eq_of_lt (pa (by omega) hc)]
 rw [show ((Nat.xor 4294967295 c:Nat):Int)=Int.ofNat (Nat.xor 4294967295 c) from rfl,e2];rfl
theorem zW:∀(t:List Nat) (c:Nat),c < 4294967296→(∀b∈t,b≤255)→Em t c < 4294967296
 | [],_,hc,_=>hc
 | b :: t, c, hc, hb => zW t _ (by
   have:=hb b (by simp)
   rw [←El];exact wk 8 _ (pa hc (by omega))) (fun a ha=>hb a (by simp [ha]))
theorem run (s:List Nat) (hn:s.length < 9223372036854775807) (hl:len x h=.ok (gv s.length) h) (hr:∀(j:Nat) (hj:j < s.length),Rd x h j s[j]∧s[j]≤255) :
  dV zC (exec p (s.length+30) xC (dv [x] 0 .nil) h)=.ok (u32 (OJ s)) h:=by
 have hb:∀b∈s,b≤255:=fun b hb=>by
  obtain ⟨j,hj,rfl⟩:=List.mem_iff_getElem.1 hb
  exact (hr j hj).2
 have hc:Em s 4294967295 < 4294967296:=zW s _ (by omega) hb
 have e2:=Kk (p:=p) (x:=x) (h:=h) 6 s.length hn s 0 4294967295 (by omega) (by omega) (fun j hj=>by rw [Nat.zero_add];exact hr j hj)
 have e1:exec p (s.length+30) xC (dv [x] 0 .nil) h=.ret (T1 (u32 (OJ s))) h:=by
  show RS.bind (tR (len x h) fun v3 h4=>exec p (s.length+27) (.block 0 L2) (T3 (u32 4294967295) x v3 (pi 0)) h4) (fun r h=>exec p (s.length+28) (.ag kC_6 .skip) r h) (fun _ _ _=>_) (fun _ _ _=>_)=_
  rw [hl,fD]
  show RS.bind (RS.bind (exec p (s.length+26) L2 (T3 (u32 4294967295) x (pi s.length) (pi 0)) h) (fun _ _=>_) (fun _ _ _=>_) (fun _ _ _=>_)) (fun _ _=>_) (fun _ _ _=>_) (fun _ _ _=>_)=_
  rw [show s.length+26=6+20+s.length by omega,e2]
  show kC_6 (aj p (exec p (s.length+27))) (aL p (exec p (s.length+27))) (fun r h=>exec p (s.length+27) .skip r h) (T2 (u32 (Em s 4294967295))) h=_
  rw [Jj,OH hc,fD];rfl
 rw [e1];rfl
end
section
variable {h h':Hp} {x v:AV} {P:Program} {G:Gl} [NB G] {names:List String} {φ:aJ} {w:World}
theorem eP:∀{l:List AV} {k:List Nat→RV} {q:Nat},gw l k (.err q)=.ok v h'→∃s:List Nat,l=byteCells s∧(∀b∈s,b≤255)∧k s=.ok v h'
 | [],k,q,e=>⟨[],rfl,by simp,e⟩
 | a::l,k,q,e=>by
  obtain ⟨kd,n,rfl,e⟩:=bn e
  obtain ⟨g,e⟩:=aB e
  have gk:kd=.u8:=by cases kd<;>first|rfl|cases g
  subst gk
  cases n with
  | ofNat m=>
   obtain ⟨g,e⟩:=aB e
   obtain ⟨s,rfl,h1,h2⟩:=eP e
   exact ⟨m::s,rfl,by
    intro b hb
    rcases List.mem_cons.1 hb with rfl|hb
    ·exact Nat.le_of_ble_eq_true g
    ·exact h1 b hb,h2⟩
  | negSucc m=>cases e
end
end Go.Am.Crc
namespace Go.Am
section
variable {P:Program} {φ φ':aJ} {h h':Hp} {w w':World} {v:AV} {r:A2} {a:Act} {cv:Value} {n:Nat} {G:Gl} [NB G] {names:List String}
def OK (φ:aJ) (h:Hp) (b:Nat):Prop:=∀i p,live (av i h)→φ i=some p→p.bZ≠b
theorem OK.new (H:HR φ h w) {b:Nat} (hb:w.heap.size≤b):OK φ h b:=fun i p _ hp=>by have:=H.bound i p hp;omega
theorem OK.step {b:Nat} (O:OK φ h b) (hb:b < w.heap.size) (S:Step φ h w φ' h' w'):OK φ' h' b∧w'.heap[b]?=w.heap[b]?:=by
 refine ⟨fun i p hl hp=>?_,S.keeps.rest b hb O⟩
 rcases S.new i p hl hp with ⟨h1,h2⟩|h1|⟨j,q,h1,h2,h3⟩
 ·exact O i p h1 h2
 ·omega
 ·rw [←h3];exact O j q h1 h2
theorem HR.off (H:HR φ h w) (hs:w.heap.size≤w'.heap.size) (hk:∀b,(∃i p,live (av i h)∧φ i=some p∧p.bZ=b)→w'.heap[b]?=w.heap[b]?):HR φ h w' where
 obj i hl:=let ⟨p,h1,h2⟩:=H.obj i hl;⟨p,h1,by rw [hk _ ⟨i,p,hl,h1,rfl⟩];exact h2⟩
 inj:=H.inj
 fresh:=H.fresh
 bound i p hp:=Nat.lt_of_lt_of_le (H.bound i p hp) hs
structure Rv (φ₀:aJ) (h₀:Hp) (w₀:World) (l D:Nat) (rc:Loop) (φ:aJ) (h:Hp) (w:World):Prop where
 hr:HR φ h w
 step:Step φ₀ h₀ w₀ φ h w
 l0:w₀.heap.size≤l
 d0:w₀.heap.size≤D
 ne:D≠l
 Jl:OK φ h l
 OO:OK φ h D
 Wr:w.heap[l]?=some (.loop rc)
 Ws:w.heap[D]?=some (.deferred (some []))
variable {φ₀:aJ} {h₀:Hp} {w₀:World} {l D:Nat} {rc:Loop}
theorem pc {b:Nat} {o:Go.Obj} (h:w.heap[b]?=some o):b < w.heap.size:=(Array.getElem?_eq_some_iff.1 h).1
theorem Rv.go (R:Rv φ₀ h₀ w₀ l D rc φ h w) (H:HR φ' h' w') (S:Step φ h w φ' h' w'):Rv φ₀ h₀ w₀ l D rc φ' h' w':=by
 obtain ⟨a1,a2⟩:=R.Jl.step (pc R.Wr) S
 obtain ⟨b1,b2⟩:=R.OO.step (pc R.Ws) S
 exact ⟨H,R.step.trans S,R.l0,R.d0,R.ne,a1,b1,a2.trans R.Wr,b2.trans R.Ws⟩
theorem En (S:Step φ₀ h₀ w₀ φ h w) (hs:w.heap.size≤w'.heap.size) (hk:∀b,b < w₀.heap.size→w'.heap[b]?=w.heap[b]?) (ht:w'.tape=w.tape) (ho:w'.os=w.os) (hu:w'.output=w.output):Step φ₀ h₀ w₀ φ h w':=
 ⟨S.le,⟨Nat.le_trans S.keeps.size hs,fun b hb hn=>(hk b hb).trans (S.keeps.rest b hb hn),ht.trans S.keeps.tape,ho.trans S.keeps.os,hu.trans S.keeps.output⟩,S.new,S.fr⟩
theorem Rv.put (R:Rv φ₀ h₀ w₀ l D rc φ h w) (rc':Loop):Rv φ₀ h₀ w₀ l D rc' φ h (w.putObj l (.loop rc')) where
 hr:=R.hr.off (by simp) fun b ⟨i,p,hl,hp,e⟩=>World.putObj_heap_other (by rw [←e];exact R.Jl i p hl hp)
 step:=En R.step (by simp) (fun b hb=>World.putObj_heap_other (by have:=R.l0;omega)) rfl rfl rfl
 l0:=R.l0
 d0:=R.d0
 ne:=R.ne
 Jl:=R.Jl
 OO:=R.OO
 Wr:=World.putObj_heap_same (pc R.Wr)
 Ws:=(World.putObj_heap_other R.ne).trans R.Ws
theorem St.later (S:St n G φ r h a w) (hl:φ.le φ') (H:HR φ' h' w'):St n G φ' r h' a w':=
 ⟨H,fun t ht=>(S.aE t ht).mono hl,S.dz,S.size,S.fy.mono hl⟩
abbrev Sd (n:Nat) (G:Gl) (φ:aJ) (r:A2) (h:Hp) (a:Act) (w:World):Prop:=St n G φ r h {a with defers:=[]} w
theorem Sd.Rr (S:Sd n G φ r h a w) {q:Operand} {x:AO} (e:cO G q=some x):VR φ (ev x r) (a.eval q):=by
 have:=St.Rr S e
 cases q<;>exact this
theorem Sd.put (S:Sd n G φ r h a w) {o:Option Tmp} {d:aF} (hd:lL G n o=some d) (hv:VR φ' v cv) (H:HR φ' h' w') (T:Step φ h w φ' h' w'):Sd n G φ' (dG d v r) h' (a.put o cv) w':=by
 have:=St.put S hd hv H T
 cases o<;>exact this
end
section
variable {P:Program} {φ φ':aJ} {h h':Hp} {w w':World} {v:AV} {r:A2} {a:Act} {cv:Value} {n:Nat} {G:Gl} [NB G] {names:List String}
variable {f g:Nat} {l0 l1 k0 kn k2 k3 ra rb l4:List GI}
set_option maxHeartbeats 2000000 in
end
variable {P:Program} {φ:aJ} {h h':Hp} {w:World} {v:AV} {r:A2} {cx cy:Value} {G:Gl} {f:Nat} {fn:Func}
theorem lZ {args:List AV} {k:AV→RV} (hs:(tk args k).gh.Safe):∃x,args=[x]∧tk args k=k x:=by
 cases args with
 | nil=>exact (RT.Safe.err hs).elim
 | cons a t=>cases t with
  | nil=>exact ⟨a,rfl,rfl⟩
  | cons b t=>exact (RT.Safe.err hs).elim
theorem Eo (hf:P.funcs[f]?=some fn) (hname:(fn.name == "runtime.NumGoroutine")=false) (hb:fn.body.isNone=true) (hn:Extern.findNext fn=none) (he:Extern.find fn=some Extern.AbiNoEscape.same):jJ P G .Eh f:=by
 intro φ h w args vals hg H hv hs
 obtain ⟨x,rfl,e⟩:=lZ (k:=fun x=>.ok x h) hs
 cases hv with
 | cons a c as cs h1 h2=>
  cases h2
  refine ⟨c,w,?_,x,h,c,φ,.ok _ _,rfl,h1,H,.refl _ _ _⟩
  rw [run_callFunc_extern hf hname hb hn he]
  rfl
theorem vl:∀(n t:Nat) (acc:Array Value),(∀x,x∈acc→x.oneCell'=true)→∀x,x∈Extern.BytealgMakeNoZero.digits n t acc→x.oneCell'=true
 | 0,_,_,ha=>ha
 | n+1,t,acc,ha=>vl n _ _ fun x hx=>by
  rcases Array.mem_push.1 hx with g|g
  ·exact ha x g
  ·rw [g];rfl
theorem Ep (w:World) (ps:Array TypeId) (t e:TypeId) (ht:P.underlying t=some (.slice e)) (n:Nat) (hn:n≤281474976710656) :
  ∃cs:Array Value,(Extern.BytealgMakeNoZero.makeNoZero ps #[t] #[.int .i64 n]).run P w=.ok (.slice (some ⟨w.heap.size,0,none⟩) n cs.size) (w.drew.drew.alloc (.cells cs e))∧n≤cs.size∧∀x,x∈cs→x.oneCell'=true:=by
 have hdef:Extern.BytealgMakeNoZero.makeNoZero ps #[t] #[.int .i64 n] =
   (do
    let .slice elem←underlying t|stuck "bytealg.MakeNoZero: slice type expected"
    if (n:Int) < 0 || (n:Int) > 2 ^ 48 then runtimePanic (.error "makeslice: len out of range")
    let cap←choose (.appendCap (n:Int).toNat 0 elem)
    askRoom cap
    let bytes←choose (.extern "internal/bytealg.MakeNoZero.bytes" 0)
    let a←newRow elem (Extern.BytealgMakeNoZero.digits cap bytes #[])
    pure (.slice (some a) (n:Int).toNat cap)):=rfl
 refine ⟨Extern.BytealgMakeNoZero.digits (grownCap w n 0 e) ((Question.extern "internal/bytealg.MakeNoZero.bytes" 0).cut (w.tape (w.drawn+1) (.extern "internal/bytealg.MakeNoZero.bytes" 0))) #[],?_,?_,vl _ _ _ (by simp)⟩
 ·rw [hdef]
  have h1:¬ (n:Int) < 0:=by omega
  have h2:¬ (281474976710656:Int) < (n:Int):=by omega
  simp [run_underlying ht,h1,h2,Question.forced,newRow,Lib.size_digits,grownCap]
 ·rw [Lib.size_digits]
  simpa using grownCap_ge w n 0 e
theorem Jm {ps:Array TypeId} {t el:TypeId} (hf:P.funcs[f]?=some fn) (hname:(fn.name == "runtime.NumGoroutine")=false) (hb:fn.body.isNone=true) (hn:Extern.findNext fn=none) (he:Extern.find fn=some (Extern.BytealgMakeNoZero.makeNoZero ps #[t])) (ht:P.underlying t=some (.slice el)):jJ P G (.Jg el) f:=by
 intro φ h w args vals hg H hv hs
 obtain ⟨x,rfl,e⟩:=lZ (k:=fun x=>yL el x h) hs
 have hp:cQ (.Jg el) [x] h=(yL el x h).gh:=rfl
 rw [hp] at hs ⊢
 obtain ⟨v,h',hr⟩:=gW hs
 rw [hr]
 obtain ⟨k,n,rfl,e1⟩:=bn hr
 obtain ⟨hk,e1⟩:=aB e1
 have hk:k=.i64:=by cases k<;>first|rfl|cases hk
 subst hk
 cases n with
 | negSucc n=>cases e1
 | ofNat n=>
  obtain ⟨hb1,e1⟩:=aB e1
  have hb1:n≤65536:=Nat.le_of_ble_eq_true hb1
  obtain ⟨hr1,hn1,e2⟩:=eE e1
  obtain ⟨rfl,rfl⟩:=RV.au e2
  cases hv with
  | cons a c as cs h1 h2=>
   cases h2
   rw [h1.aR]
   obtain ⟨cs,hrun,hcs,hone⟩:=Ep (P:=P) w ps t el ht n (by omega)
   have hlen:(dy n [AV.undef]).length=n:=by rw [eu];simp
   obtain ⟨g1,g2⟩:=H.nf (n':=h.next.succ) (w':=w.drew.drew.alloc (.cells cs el)) hn1
    (rc:=cs) (el:=el) (n:=(dy n [AV.undef]).length) (ex:=false) (fl:=.plain) (fz:=(0,0)) (c:=lW (dy n [AV.undef]))
    (by rw [hlen];exact hcs) (by simp) hr1
    (fun k hk=>by
     rw [hlen] at hk
     refine ⟨cs[k],Array.getElem?_eq_getElem (by omega),?_,hone _ (Array.getElem_mem _)⟩
     rw [dm _ hr1 k (by rw [hlen];exact hk)]
     have:(dy n [AV.undef])[k]'(by rw [hlen];exact hk)=.undef:=by rw [iP n [AV.undef] k _ (by simp [Nat.mod_one])];simp
     rw [this]
     exact .undef _) rfl rfl rfl rfl rfl
   refine ⟨.slice (some ⟨w.heap.size,0,none⟩) n cs.size,w.drew.drew.alloc (.cells cs el),?_,_,_,_,_,.ok _ _,rfl,?_,g1,g2⟩
   ·rw [run_callFunc_extern hf hname hb hn he]
    show ((Extern.BytealgMakeNoZero.makeNoZero ps #[t] #[.int .i64 (Int.ofNat n)]).run P w).andThen _=_
    rw [show (Int.ofNat n)=((n:Nat):Int) from rfl,hrun]
    rfl
   ·refine .aH _ 0 n 1 cs.size ⟨w.heap.size,0,_⟩ ⟨w.heap.size,0,none⟩ (aJ.aK _ _ _) ?_ hcs rfl rfl (fun _=>rfl) (by omega)
    simp
theorem Er {P:Program} {G:Gl} {f:Nat} {fn:Func} (hf:P.funcs[f]?=some fn) (hname:(fn.name == "runtime.NumGoroutine")=false) (hb:fn.body.isNone=true) (hn:Extern.findNext fn=none) (he:Extern.find fn=some (Extern.MathFloor.toIntegral "math.archTrunc" .zero)):jJ P G .zS f:=by
 intro φ h w args vals hg H hv hs
 obtain ⟨x,rfl,e⟩:=lZ (k:=fun x=>wm x h) hs
 have hp:cQ .zS [x] h=(wm x h).gh:=rfl
 rw [hp] at hs ⊢
 obtain ⟨v,h',hr⟩:=gW hs
 rw [hr]
 obtain ⟨k,n,rfl,e1⟩:=dC hr
 obtain ⟨hk,e1⟩:=aB e1
 have hk:k=.f64:=by cases k<;>first|rfl|cases hk
 subst hk
 have e1:(match FloatKind.f64.decode n with|.nan _ _=>RV.err 180|d=>.ok (.ji .f64 (FloatKind.f64.encode (d.integral .zero))) h)=.ok v h':=e1
 cases hv with
 | cons a c as cs h1 h2=>
  cases h2
  rw [h1.kL]
  have hdef:Extern.MathFloor.toIntegral "math.archTrunc" .zero #[Value.float .f64 n]=(match FloatKind.f64.decode n with
    | .nan s t=>
     if FloatKind.f64.format.quiet t=t then pure (.float .f64 n) else do
     let kept←choose (.extern "math.Floor,Ceil,Trunc,RoundToEven.signallingNaN kept" 2)
     pure (.float .f64 (if kept == 1 then n else FloatKind.f64.encode (.nan s (FloatKind.f64.format.quiet t))))
    | d=>pure (.float .f64 (FloatKind.f64.encode (d.integral .zero)))):=rfl
  cases hd:FloatKind.f64.decode n with
  | nan s t=>rw [hd] at e1;cases e1
  | infinity s=>
   rw [hd] at e1
   obtain ⟨rfl,rfl⟩:=RV.au e1
   refine ⟨_,w,?_,_,h,_,φ,.ok _ _,rfl,.ji _ _,H,.refl _ _ _⟩
   rw [run_callFunc_extern hf hname hb hn he]
   show ((Extern.MathFloor.toIntegral "math.archTrunc" .zero #[.float .f64 n]).run P w).andThen _=_
   rw [hdef,hd]
   rfl
  | number s m e=>
   rw [hd] at e1
   obtain ⟨rfl,rfl⟩:=RV.au e1
   refine ⟨_,w,?_,_,h,_,φ,.ok _ _,rfl,.ji _ _,H,.refl _ _ _⟩
   rw [run_callFunc_extern hf hname hb hn he]
   show ((Extern.MathFloor.toIntegral "math.archTrunc" .zero #[.float .f64 n]).run P w).andThen _=_
   rw [hdef,hd]
   rfl
open Seat
variable {P:Program} {φ:aJ} {h h':Hp} {w:World} {v:AV} {G:Gl} {f:Nat} {fn:Func}
def yM:Array Value→Sem Value:=fun args=>do
  let (x,y,c)←Extern.MathBitsCarry.three "Add64" args
  pure (Extern.MathBitsCarry.pair ((x+y+c) % Extern.MathBitsCarry.m64) ((x+y+c) / Extern.MathBitsCarry.m64))
theorem yN {args:List AV} {k:Nat→Nat→Nat→AV} (hs:(vC args k h).Safe):∃x y c,args=[.int .u64 (.ofNat x),.int .u64 (.ofNat y),.int .u64 (.ofNat c)]∧c≤1∧vC args k h=.ok (k x y c) h:=by
 unfold vC at hs ⊢
 split at hs
 ·rename_i x y c
  cases hb:Nat.ble c 1 with
  | true=>exact ⟨x,y,c,rfl,Nat.le_of_ble_eq_true hb,by rfl⟩
  | false=>rw [hb] at hs;exact (RT.Safe.err hs).elim
 ·exact (RT.Safe.err hs).elim
theorem Es (name:String) (x y c:Nat) (hc:c≤1):(Extern.MathBitsCarry.three name #[.int .u64 (.ofNat x),.int .u64 (.ofNat y),.int .u64 (.ofNat c)]).run P w=.ok (x,y,c) w:=by
 rcases (by omega:c=0∨c=1) with rfl|rfl<;>rfl
theorem Et (hf:P.funcs[f]?=some fn) (hname:(fn.name == "runtime.NumGoroutine")=false) (hb:fn.body.isNone=true) (hn:Extern.findNext fn=none) (he:Extern.find fn=some yM):jJ P G (.fn vD) f:=by
 intro φ h w args vals hg H hv hs
 obtain ⟨x,y,c,rfl,hc,e⟩:=yN (args:=args) (h:=h) hs
 have e:cQ (.fn vD) [.int .u64 (.ofNat x),.int .u64 (.ofNat y),.int .u64 (.ofNat c)] h=_:=e
 rw [e]
 cases hv with
 | cons _ v1 _ vs h1 h2=>cases h2 with
  | cons _ v2 _ vs h2 h3=>cases h3 with
   | cons _ v3 _ vs h3 h4=>
    cases h4
    rw [h1.aR,h2.aR,h3.aR]
    refine ⟨_,w,?_,_,h,_,φ,.ok _ _,rfl,.aW _ _ (.cons _ _ _ _ (.int _ _) (.cons _ _ _ _ (.int _ _) .nil)),H,.refl _ _ _⟩
    rw [run_callFunc_extern hf hname hb hn he]
    show ((yM #[.int .u64 (.ofNat x),.int .u64 (.ofNat y),.int .u64 (.ofNat c)]).run P w).andThen _=_
    unfold yM
    simp only [Sem.run_bind,Es _ x y c hc]
    rfl
open Go.ChangeShapes Go.WideShapes Go.ChangeAt Go.RowKit
theorem Jn {W W':World} {may:MemPlace→Prop} (hb:∀b,b < W.heap.size→W'.heap[b]?=W.heap[b]?) (ho:W'.os=W.os) (hu:W'.output=W.output):W.keptBut W' may:=by
 refine ⟨ho,hu,fun i hi=>?_⟩
 rw [hb i hi]
 cases W.heap[i]? with
 | none=>rfl
 | some o=>cases o<;>first|exact ⟨rfl,rfl,rfl,fun _ _=>rfl⟩|exact .inr ⟨rfl,rfl⟩|rfl
theorem BE {H:Type} {enc:TypeId×Value→H} {P:Program} {f:Func} {s:ChangeSpec} {apart fresh handsOn again:Bool} {W W':World} {v:Value}
  (hW:DataW.Whole enc P f.params.toList s.vars apart W [] [] [] [])
  (hres:∀(b:Nat) (sp:Nat→Bool) (hd:Bool),DataW.TrodAll enc P W' b sp hd f.resultTypes.toList (v.resultList f.resultTypes.size) (s.fn H []).results [])
  (hargs:∀sp:Nat→Bool,DataW.TrodAll enc P W' 0 sp true f.params.toList [] (s.fn H []).args [])
  (hvars:∀sp:Nat→Bool,DataW.TrodVars enc P W' sp s.vars (s.fn H []).vars [])
  (hk:W.keptBut W' (·∈[]))
  (hok:∀(j:Nat) (t:TypeId) (r:Value),f.resultTypes[j]?=some t→(v.resultList f.resultTypes.size)[j]?=some r→Value.okWide P W' .any 0 t r) :
  s.post enc P f apart fresh handsOn again W #[] v W':=by
 refine ⟨[],[],[],[],[],[],hW,hres _ _ _,hargs _,hvars _,World.keptBut_mono (fun p hp=>⟨hp,?_⟩) hk,fun _=>?_⟩
 ·cases hp
 ·refine ⟨hok,_,_,([] ++ []) ++ [],⟨[] ++ [],[],trodAll_append (hargs _) (hres _ _ _),hvars _,rfl,?_,?_⟩,?_⟩
  ·intro b off hp;simp at hp
  ·intro _;simp
  ·intro p hp;simp at hp
open Go.ChangeShapes Go.WideShapes Go.ChangeAt Go.RowKit
noncomputable section
def uq (p:P4):Nat:=match p with|.mk a b c d=>a.nat * 4096+b.nat * 256+c.nat * 16+d.nat
theorem tn {n:Nat} (h:n < 65536):uq (je n)=n:=by
 show (bN (n / 4096)).nat * 4096+(bN (n / 256 % 16)).nat * 256+(bN (n / 16 % 16)).nat * 16+(bN (n % 16)).nat=n
 rw [eF (by omega),eF (by omega),eF (by omega),eF (by omega)]
 omega
theorem ng (p:P4):je (uq p)=p:=by
 obtain ⟨a,b,c,d⟩:=p
 have ha:=a.gM
 have hb:=b.gM
 have hc:=c.gM
 have hd:=d.gM
 show P4.mk (bN ((a.nat * 4096+b.nat * 256+c.nat * 16+d.nat) / 4096)) (bN ((a.nat * 4096+b.nat * 256+c.nat * 16+d.nat) / 256 % 16)) (bN ((a.nat * 4096+b.nat * 256+c.nat * 16+d.nat) / 16 % 16)) (bN ((a.nat * 4096+b.nat * 256+c.nat * 16+d.nat) % 16))=_
 rw [show (a.nat * 4096+b.nat * 256+c.nat * 16+d.nat) / 4096=a.nat by omega,show (a.nat * 4096+b.nat * 256+c.nat * 16+d.nat) / 256 % 16=b.nat by omega,
  show (a.nat * 4096+b.nat * 256+c.nat * 16+d.nat) / 16 % 16=c.nat by omega,show (a.nat * 4096+b.nat * 256+c.nat * 16+d.nat) % 16=d.nat by omega,
  kM,kM,kM,kM]
theorem BF (i:P4):∀n,n≤65536→gx i (OQ n)=if uq i < n then .dead else .none:=by
 intro n
 induction n with
 | zero=>
  intro _
  rw [if_neg (by omega)]
  obtain ⟨a,b,c,d⟩:=i
  show O1.get d (O2.get c (O3.get b (O4.get a .nil)))=_
  rw [O4.get_nil,O3.get_nil,O2.get_nil,O1.get_nil]
 | succ m ih=>
  intro hm
  have e:gx i (OQ (m+1))=if i=je m then .dead else gx i (OQ m):=bj i (je m) .dead (.mk (OQ m) (je m) .off)
  rw [e,ih (by omega)]
  by_cases h:i=je m
  ·subst h
   rw [if_pos rfl,tn (by omega),if_pos (by omega)]
  ·rw [if_neg h]
   have h1:uq i≠m:=fun e=>h (by rw [←e,ng])
   by_cases h2:uq i < m
   ·rw [if_pos h2,if_pos (by omega)]
   ·rw [if_neg h2,if_neg (by omega)]
theorem tp (i:P4) (n g:Nat) (o:Obj) (hn:n≤65536):av i (Kl n g o)=if i=je g then o else if uq i < n then .dead else .none:=by
 have e:av i (Kl n g o)=if i=je g then o else gx i (OQ n):=bj i (je g) o (.mk (OQ n) (je n) .off)
 rw [e,BF i n hn]
def BG (n rm:Nat):aJ:=fun i=>if uq i < n then some ⟨uq i,0,rm⟩ else none
theorem tq {n rm g:Nat} (hg:g < n) (hn:n≤65536):BG n rm (je g)=some ⟨g,0,rm⟩:=by
 unfold BG
 rw [tn (by omega),if_pos hg]
theorem nh {i:P4} {n g:Nat} {o:Obj} (hn:n≤65536) (h:live (av i (Kl n g o))):i=je g:=by
 rw [tp i n g o hn] at h
 by_cases e:i=je g
 ·exact e
 ·rw [if_neg e] at h
  split at h
  ·exact absurd rfl h.2
  ·exact absurd rfl h.1
theorem Yn {n g el:Nat} {k:IntKind} {zs:List Int} {w:World} (hn:n≤65536) (hg:g < n) (hz:zs.length≤bM (lW (zs.map fun z=>AV.int k z))) (hs:n≤w.heap.size)
  (hw:w.heap[g]?=some (.cells (zs.map fun z=>Value.int k z).toArray el (0,0))):HR (BG n zs.length) (Kl n g (Eu el k zs)) w where
 obj i hl:=by
  obtain rfl:=nh hn hl
  refine ⟨⟨g,0,zs.length⟩,tq hg hn,?_⟩
  rw [tp _ n g _ hn,if_pos rfl]
  refine ⟨_,(0,0),hw,by simp,Nat.le_refl _,fun _=>⟨rfl,rfl⟩,hz,fun j hj=>?_,rfl⟩
  refine ⟨.int k zs[j],by simp [hj],?_,rfl⟩
  rw [dm _ (by simpa using hz) j (by simpa using hj),List.getElem_map]
  exact .int _ _
 inj i j p q hi hj ne _ _:=absurd ((nh hn hi).trans (nh hn hj).symm) ne
 fresh i hi:=by
  rw [tp i n g _ hn] at hi
  split at hi
  ·cases hi
  ·split at hi
   ·cases hi
   ·rename_i h
    unfold BG
    rw [if_neg h]
 bound i p hp:=by
  unfold BG at hp
  split at hp
  ·cases hp
   show uq i < _
   omega
  ·cases hp
theorem Jo {k:IntKind} {z:Int} {v:AV} (h:Jp k z v=true):v=.int k z:=by
 cases v with
 | int k' z'=>
  have h:(decide (k'=k)&&decide (z'=z))=true:=h
  rw [Bool.and_eq_true] at h
  rw [of_decide_eq_true h.1,of_decide_eq_true h.2]
 | _=>cases h
theorem pJ {k:IntKind}:∀{zs:List Int} {i:Nat} {c:Cl},hH k zs i c=true→∀(j:Nat) (hj:j < zs.length),dR (i+j) c=.int k zs[j]
 | [],_,_,_,j,hj=>by simp at hj
 | z::r,i,c,h,0,_=>by
  have h:(Jp k z (dR i c)&&hH k r (i+1) c)=true:=h
  rw [Bool.and_eq_true] at h
  exact Jo h.1
 | z::r,i,c,h,j+1,hj=>by
  have h:(Jp k z (dR i c)&&hH k r (i+1) c)=true:=h
  rw [Bool.and_eq_true] at h
  have:=pJ h.2 j (by simpa using hj)
  rw [show i+(j+1)=i+1+j by omega,this]
  rfl
theorem Ev {el:Nat} {k:IntKind} {zs:List Int} {o:Obj} (h:Km el k zs o=true):∃c,o=.cells el zs.length true .plain c∧∀(j:Nat) (hj:j < zs.length),dR j c=.int k zs[j]:=by
 cases o with
 | cells e n ex fl c=>
  cases ex with
  | false=>cases h
  | true=>
   cases fl with
   | plain=>
    have h:(decide (e=el)&&decide (n=zs.length)&&hH k zs 0 c)=true:=h
    rw [Bool.and_eq_true,Bool.and_eq_true] at h
    obtain ⟨⟨h1,h2⟩,h3⟩:=h
    obtain rfl:=of_decide_eq_true h1
    obtain rfl:=of_decide_eq_true h2
    refine ⟨c,rfl,fun j hj=>?_⟩
    have:=pJ h3 j hj
    rwa [Nat.zero_add] at this
   | _=>cases h
 | _=>cases h
theorem tr {P:Program} {w:World}:∀{l:List (String×DataW Unit)} {ps:List MemPlace},DataW.LaidVars P w l ps→∀n d,(n,d)∈l→
  ∃g t cs fuel p,P.globalNamed n=some g∧(P.globals[g]?).map (·.type)=some t∧w.var? P n=some cs∧DataW.trod (fun _=>()) P w 0 (fun _=>true) false fuel t cs.toList=some (d,p)
 | [],_,_,_,_,hm=>by cases hm
 | (n',d')::r,ps,h,n,d,hm=>by
  obtain ⟨g,t,cs,fuel,p,q,h1,h2,h3,h4,h5,_⟩:=h
  rcases List.mem_cons.1 hm with e|e
  ·cases e
   exact ⟨g,t,cs,fuel,p,h1,h2,h3,h4⟩
  ·exact tr h5 n d e
theorem xL {P:Program} {W:World} {name:String} {k:IntKind} {zs:List Int} {l:List (String×DataW Unit)} {g:Nat} {t e n:Nat} {zero:Array Value}
  (h:laidMet P l W) (hm:(name,Lib.tabData k zs)∈l) (hsh:W.ShapedOpen P) (hgl:g < P.globals.size)
  (hrow:(((begin P (fun _ _=>0) default).world.heap[g]?).bind Go.Obj.row?)=some (zero,t))
  (hg:P.globalNamed name=some g) (hty:(P.globals[g]?).map (·.type)=some t) (ht:P.underlying t=some (.array n e)) (he:P.underlying e=some (.int k)) (hce:P.cellsOf e=1) (hct:P.cellsOf t=n) :
  W.heap[g]?=some (.cells (zs.map fun z=>Value.int k z).toArray t (0,0)):=by
 obtain ⟨ps,hv,_⟩:=h
 obtain ⟨g',t',cs,fuel,p,h1,h2,h3,h4⟩:=tr hv _ _ hm
 obtain rfl:=Option.some.inj (hg.symm.trans h1)
 obtain rfl:=Option.some.inj (hty.symm.trans h2)
 have hcs:=Lib.cells_of_tab ht he hce hct h4
 obtain ⟨cs2,h5,_⟩:=hsh.1 g zero t hgl hrow
 unfold World.var? at h3
 rw [hg] at h3
 have h3:(match W.heap[g]? with|some (.cells cs _ _)=>some cs|_=>none)=some cs:=h3
 rw [h5] at h3
 have h3:cs2=cs:=Option.some.inj h3
 subst h3
 rw [h5]
 have:cs2=(zs.map fun z=>Value.int k z).toArray:=by
  apply Array.toList_inj.1
  rw [hcs]
 rw [this]
theorem wo {P:Program} {W:World} {l:List (String×DataW Unit)} (name:String) (k:IntKind) (zs:List Int) (g t e n:Nat)
  (h:laidMet P l W) (hm:(name,Lib.tabData k zs)∈l) (hsh:W.ShapedOpen P) (hgl:g < P.globals.size)
  (hrow:((((begin P (fun _ _=>0) default).world.heap[g]?).bind Go.Obj.row?).map (·.2))=some t)
  (hg:P.globalNamed name=some g) (hty:(P.globals[g]?).map (·.type)=some t) (ht:P.underlying t=some (.array n e)) (he:P.underlying e=some (.int k)) (hce:P.cellsOf e=1) (hct:P.cellsOf t=n) :
  W.heap[g]?=some (.cells (zs.map fun z=>Value.int k z).toArray t (0,0)):=by
 obtain ⟨⟨zero,t'⟩,hr,rfl⟩:=Option.map_eq_some_iff.1 hrow
 exact xL h hm hsh hgl hr hg hty ht he hce hct
theorem tt {P:Program} {W:World} (g n:Nat) (hsh:W.ShapedOpen P) (hn:n=g+1) (hgl:g < P.globals.size)
  (hrow:(((begin P (fun _ _=>0) default).world.heap[g]?).bind Go.Obj.row?).isSome=true):n≤W.heap.size:=by
 obtain ⟨⟨zero,t⟩,hr⟩:=Option.isSome_iff_exists.1 hrow
 obtain ⟨cs,h,_⟩:=hsh.1 g zero t hgl hr
 have:=(Array.getElem?_eq_some_iff.1 h).1
 omega
theorem Us {H:Type} {enc:TypeId×Value→H} {a:Assume} {C:Checked} {os:Os} {f:FuncId} {fn:Func} {s:ChangeSpec} {conds:List PathCond} {apart fresh handsOn again:Bool} {X:World→Array Value→Prop}
  (hX:∀(w w':World) (args:Array Value),w.heap=w'.heap→X w args→X w' args)
  (own:ownKnob C.prog.godebug=none) (started:os.Started) (noInit:C.prog.inits.idxOf? f=none) (hfn:C.prog.funcs[f]?=some fn)
  (witness:∃(w:World) (tape:Tape) (i:Input),w.os=os∧(w.forCall tape i).Shaped C.prog∧i.vars=[]∧Input.okWide C.prog (w.forCall tape i) .any w.heap.size f i∧
   ((s.pre enc C.prog fn conds apart (w.forCall tape i).memory i.args∧X (w.forCall tape i).memory i.args)∧sizedMet enc C.prog fn (OpenSpec.ofChange s) apart (w.forCall tape i).memory i.args)∧a.holds C.prog (lone (Frame.enter C.prog f i.args .normal) [] (w.forCall tape i)))
  (contract:∀(W:World) (base:Nat) (args:Array Value) (ds gs:List (DataW H)) (before:List MemPlace),
   (∀(j:Nat) t v,fn.params[j]?=some t→args[j]?=some v→Value.okWide C.prog W .any base t v)→
   DataW.Whole enc C.prog fn.params.toList s.vars apart W args.toList ds gs before→X W args→W.ShapedOpen C.prog→
   Calls C.prog f args W fun e W'=>∃v,e=.returned v∧s.post enc C.prog fn apart fresh handsOn again W args v W') :
  ReturnsInHanded a C os f .any (fun w args=>(s.pre enc C.prog fn conds apart w args∧X w args)∧sizedMet enc C.prog fn (OpenSpec.ofChange s) apart w args) (s.post enc C.prog fn apart fresh handsOn again):=by
 refine returnsInHanded_of_calls own started noInit witness ?_
 intro w tape i _ hsh _ hok hpre _
 obtain ⟨_,_,_,fn',hfn',_,_,_,_,hval⟩:=hok
 have e:fn'=fn:=Option.some.inj (hfn'.symm.trans hfn)
 subst e
 obtain ⟨⟨⟨ds,gs,before,hw,_⟩,hx⟩,_⟩:=hpre
 have hw':=DataW.Whole.of_heap (w':=w.forCall tape i) (by rfl) hw
 refine (contract (w.forCall tape i) w.heap.size i.args ds gs before hval hw' (hX _ _ _ (by rfl) hx) hsh).mono fun e W' ⟨v,he,hp⟩=>?_
 subst he
 exact ChangeSpec.post_blind hp
end
noncomputable section
variable {r r':A2} {h h':Hp}
theorem Ew {x y:Obj} (e:bp x y=true):x=y∨x=.dead:=by
 have e:(@Bool.rec (fun _=>Bool) (sJ x y) true (yO x))=true:=e
 cases hx:yO x with
 | true=>right;cases x<;>first|rfl|cases hx
 | false=>rw [hx] at e;exact .inl (xf e)
theorem A1.iQ (d:H) {x y:A1} (e:A1.le x y=true):fI (A1.get d x) (A1.get d y)=true:=by
 cases x with
 | nil=>cases y with
  | nil=>cases d<;>rfl
  | mk=>cases d<;>rfl
 | mk=>cases y with
  | nil=>
   obtain ⟨e0,e⟩:=aA e;obtain ⟨e1,e⟩:=aA e;obtain ⟨e2,e⟩:=aA e;obtain ⟨e3,e⟩:=aA e;obtain ⟨e4,e⟩:=aA e;obtain ⟨e5,e⟩:=aA e;obtain ⟨e6,e⟩:=aA e;obtain ⟨e7,e⟩:=aA e;obtain ⟨e8,e⟩:=aA e;obtain ⟨e9,e⟩:=aA e;obtain ⟨ea,e⟩:=aA e;obtain ⟨eb,e⟩:=aA e;obtain ⟨ec,e⟩:=aA e;obtain ⟨ed,e⟩:=aA e;obtain ⟨ee,e⟩:=aA e
   cases d
   ·exact e0
   ·exact e1
   ·exact e2
   ·exact e3
   ·exact e4
   ·exact e5
   ·exact e6
   ·exact e7
   ·exact e8
   ·exact e9
   ·exact ea
   ·exact eb
   ·exact ec
   ·exact ed
   ·exact ee
   ·exact e
  | mk=>
   obtain ⟨e0,e⟩:=aA e;obtain ⟨e1,e⟩:=aA e;obtain ⟨e2,e⟩:=aA e;obtain ⟨e3,e⟩:=aA e;obtain ⟨e4,e⟩:=aA e;obtain ⟨e5,e⟩:=aA e;obtain ⟨e6,e⟩:=aA e;obtain ⟨e7,e⟩:=aA e;obtain ⟨e8,e⟩:=aA e;obtain ⟨e9,e⟩:=aA e;obtain ⟨ea,e⟩:=aA e;obtain ⟨eb,e⟩:=aA e;obtain ⟨ec,e⟩:=aA e;obtain ⟨ed,e⟩:=aA e;obtain ⟨ee,e⟩:=aA e
   cases d
   ·exact e0
   ·exact e1
   ·exact e2
   ·exact e3
   ·exact e4
   ·exact e5
   ·exact e6
   ·exact e7
   ·exact e8
   ·exact e9
   ·exact ea
   ·exact eb
   ·exact ec
   ·exact ed
   ·exact ee
   ·exact e
theorem A2.iQ (d:H) {x y:A2} (e:A2.le x y=true):A1.le (A2.get d x) (A2.get d y)=true:=by
 cases x with
 | nil=>cases y with
  | nil=>cases d<;>rfl
  | mk=>
   obtain ⟨e0,e⟩:=aA e;obtain ⟨e1,e⟩:=aA e;obtain ⟨e2,e⟩:=aA e;obtain ⟨e3,e⟩:=aA e;obtain ⟨e4,e⟩:=aA e;obtain ⟨e5,e⟩:=aA e;obtain ⟨e6,e⟩:=aA e;obtain ⟨e7,e⟩:=aA e;obtain ⟨e8,e⟩:=aA e;obtain ⟨e9,e⟩:=aA e;obtain ⟨ea,e⟩:=aA e;obtain ⟨eb,e⟩:=aA e;obtain ⟨ec,e⟩:=aA e;obtain ⟨ed,e⟩:=aA e;obtain ⟨ee,e⟩:=aA e
   cases d
   ·exact e0
   ·exact e1
   ·exact e2
   ·exact e3
   ·exact e4
   ·exact e5
   ·exact e6
   ·exact e7
   ·exact e8
   ·exact e9
   ·exact ea
   ·exact eb
   ·exact ec
   ·exact ed
   ·exact ee
   ·exact e
 | mk=>cases y with
  | nil=>
   obtain ⟨e0,e⟩:=aA e;obtain ⟨e1,e⟩:=aA e;obtain ⟨e2,e⟩:=aA e;obtain ⟨e3,e⟩:=aA e;obtain ⟨e4,e⟩:=aA e;obtain ⟨e5,e⟩:=aA e;obtain ⟨e6,e⟩:=aA e;obtain ⟨e7,e⟩:=aA e;obtain ⟨e8,e⟩:=aA e;obtain ⟨e9,e⟩:=aA e;obtain ⟨ea,e⟩:=aA e;obtain ⟨eb,e⟩:=aA e;obtain ⟨ec,e⟩:=aA e;obtain ⟨ed,e⟩:=aA e;obtain ⟨ee,e⟩:=aA e
   cases d
   ·exact e0
   ·exact e1
   ·exact e2
   ·exact e3
   ·exact e4
   ·exact e5
   ·exact e6
   ·exact e7
   ·exact e8
   ·exact e9
   ·exact ea
   ·exact eb
   ·exact ec
   ·exact ed
   ·exact ee
   ·exact e
  | mk=>
   obtain ⟨e0,e⟩:=aA e;obtain ⟨e1,e⟩:=aA e;obtain ⟨e2,e⟩:=aA e;obtain ⟨e3,e⟩:=aA e;obtain ⟨e4,e⟩:=aA e;obtain ⟨e5,e⟩:=aA e;obtain ⟨e6,e⟩:=aA e;obtain ⟨e7,e⟩:=aA e;obtain ⟨e8,e⟩:=aA e;obtain ⟨e9,e⟩:=aA e;obtain ⟨ea,e⟩:=aA e;obtain ⟨eb,e⟩:=aA e;obtain ⟨ec,e⟩:=aA e;obtain ⟨ed,e⟩:=aA e;obtain ⟨ee,e⟩:=aA e
   cases d
   ·exact e0
   ·exact e1
   ·exact e2
   ·exact e3
   ·exact e4
   ·exact e5
   ·exact e6
   ·exact e7
   ·exact e8
   ·exact e9
   ·exact ea
   ·exact eb
   ·exact ec
   ·exact ed
   ·exact ee
   ·exact e
theorem O1.iQ (d:H) {x y:O1} (e:O1.le x y=true):bp (O1.get d x) (O1.get d y)=true:=by
 cases x with
 | nil=>cases y with
  | nil=>cases d<;>rfl
  | mk=>
   obtain ⟨e0,e⟩:=aA e;obtain ⟨e1,e⟩:=aA e;obtain ⟨e2,e⟩:=aA e;obtain ⟨e3,e⟩:=aA e;obtain ⟨e4,e⟩:=aA e;obtain ⟨e5,e⟩:=aA e;obtain ⟨e6,e⟩:=aA e;obtain ⟨e7,e⟩:=aA e;obtain ⟨e8,e⟩:=aA e;obtain ⟨e9,e⟩:=aA e;obtain ⟨ea,e⟩:=aA e;obtain ⟨eb,e⟩:=aA e;obtain ⟨ec,e⟩:=aA e;obtain ⟨ed,e⟩:=aA e;obtain ⟨ee,e⟩:=aA e
   cases d
   ·exact e0
   ·exact e1
   ·exact e2
   ·exact e3
   ·exact e4
   ·exact e5
   ·exact e6
   ·exact e7
   ·exact e8
   ·exact e9
   ·exact ea
   ·exact eb
   ·exact ec
   ·exact ed
   ·exact ee
   ·exact e
 | mk=>cases y with
  | nil=>
   obtain ⟨e0,e⟩:=aA e;obtain ⟨e1,e⟩:=aA e;obtain ⟨e2,e⟩:=aA e;obtain ⟨e3,e⟩:=aA e;obtain ⟨e4,e⟩:=aA e;obtain ⟨e5,e⟩:=aA e;obtain ⟨e6,e⟩:=aA e;obtain ⟨e7,e⟩:=aA e;obtain ⟨e8,e⟩:=aA e;obtain ⟨e9,e⟩:=aA e;obtain ⟨ea,e⟩:=aA e;obtain ⟨eb,e⟩:=aA e;obtain ⟨ec,e⟩:=aA e;obtain ⟨ed,e⟩:=aA e;obtain ⟨ee,e⟩:=aA e
   cases d
   ·exact e0
   ·exact e1
   ·exact e2
   ·exact e3
   ·exact e4
   ·exact e5
   ·exact e6
   ·exact e7
   ·exact e8
   ·exact e9
   ·exact ea
   ·exact eb
   ·exact ec
   ·exact ed
   ·exact ee
   ·exact e
  | mk=>
   obtain ⟨e0,e⟩:=aA e;obtain ⟨e1,e⟩:=aA e;obtain ⟨e2,e⟩:=aA e;obtain ⟨e3,e⟩:=aA e;obtain ⟨e4,e⟩:=aA e;obtain ⟨e5,e⟩:=aA e;obtain ⟨e6,e⟩:=aA e;obtain ⟨e7,e⟩:=aA e;obtain ⟨e8,e⟩:=aA e;obtain ⟨e9,e⟩:=aA e;obtain ⟨ea,e⟩:=aA e;obtain ⟨eb,e⟩:=aA e;obtain ⟨ec,e⟩:=aA e;obtain ⟨ed,e⟩:=aA e;obtain ⟨ee,e⟩:=aA e
   cases d
   ·exact e0
   ·exact e1
   ·exact e2
   ·exact e3
   ·exact e4
   ·exact e5
   ·exact e6
   ·exact e7
   ·exact e8
   ·exact e9
   ·exact ea
   ·exact eb
   ·exact ec
   ·exact ed
   ·exact ee
   ·exact e
theorem O2.iQ (d:H) {x y:O2} (e:O2.le x y=true):O1.le (O2.get d x) (O2.get d y)=true:=by
 cases x with
 | nil=>cases y with
  | nil=>cases d<;>rfl
  | mk=>
   obtain ⟨e0,e⟩:=aA e;obtain ⟨e1,e⟩:=aA e;obtain ⟨e2,e⟩:=aA e;obtain ⟨e3,e⟩:=aA e;obtain ⟨e4,e⟩:=aA e;obtain ⟨e5,e⟩:=aA e;obtain ⟨e6,e⟩:=aA e;obtain ⟨e7,e⟩:=aA e;obtain ⟨e8,e⟩:=aA e;obtain ⟨e9,e⟩:=aA e;obtain ⟨ea,e⟩:=aA e;obtain ⟨eb,e⟩:=aA e;obtain ⟨ec,e⟩:=aA e;obtain ⟨ed,e⟩:=aA e;obtain ⟨ee,e⟩:=aA e
   cases d
   ·exact e0
   ·exact e1
   ·exact e2
   ·exact e3
   ·exact e4
   ·exact e5
   ·exact e6
   ·exact e7
   ·exact e8
   ·exact e9
   ·exact ea
   ·exact eb
   ·exact ec
   ·exact ed
   ·exact ee
   ·exact e
 | mk=>cases y with
  | nil=>
   obtain ⟨e0,e⟩:=aA e;obtain ⟨e1,e⟩:=aA e;obtain ⟨e2,e⟩:=aA e;obtain ⟨e3,e⟩:=aA e;obtain ⟨e4,e⟩:=aA e;obtain ⟨e5,e⟩:=aA e;obtain ⟨e6,e⟩:=aA e;obtain ⟨e7,e⟩:=aA e;obtain ⟨e8,e⟩:=aA e;obtain ⟨e9,e⟩:=aA e;obtain ⟨ea,e⟩:=aA e;obtain ⟨eb,e⟩:=aA e;obtain ⟨ec,e⟩:=aA e;obtain ⟨ed,e⟩:=aA e;obtain ⟨ee,e⟩:=aA e
   cases d
   ·exact e0
   ·exact e1
   ·exact e2
   ·exact e3
   ·exact e4
   ·exact e5
   ·exact e6
   ·exact e7
   ·exact e8
   ·exact e9
   ·exact ea
   ·exact eb
   ·exact ec
   ·exact ed
   ·exact ee
   ·exact e
  | mk=>
   obtain ⟨e0,e⟩:=aA e;obtain ⟨e1,e⟩:=aA e;obtain ⟨e2,e⟩:=aA e;obtain ⟨e3,e⟩:=aA e;obtain ⟨e4,e⟩:=aA e;obtain ⟨e5,e⟩:=aA e;obtain ⟨e6,e⟩:=aA e;obtain ⟨e7,e⟩:=aA e;obtain ⟨e8,e⟩:=aA e;obtain ⟨e9,e⟩:=aA e;obtain ⟨ea,e⟩:=aA e;obtain ⟨eb,e⟩:=aA e;obtain ⟨ec,e⟩:=aA e;obtain ⟨ed,e⟩:=aA e;obtain ⟨ee,e⟩:=aA e
   cases d
   ·exact e0
   ·exact e1
   ·exact e2
   ·exact e3
   ·exact e4
   ·exact e5
   ·exact e6
   ·exact e7
   ·exact e8
   ·exact e9
   ·exact ea
   ·exact eb
   ·exact ec
   ·exact ed
   ·exact ee
   ·exact e
theorem O3.iQ (d:H) {x y:O3} (e:O3.le x y=true):O2.le (O3.get d x) (O3.get d y)=true:=by
 cases x with
 | nil=>cases y with
  | nil=>cases d<;>rfl
  | mk=>
   obtain ⟨e0,e⟩:=aA e;obtain ⟨e1,e⟩:=aA e;obtain ⟨e2,e⟩:=aA e;obtain ⟨e3,e⟩:=aA e;obtain ⟨e4,e⟩:=aA e;obtain ⟨e5,e⟩:=aA e;obtain ⟨e6,e⟩:=aA e;obtain ⟨e7,e⟩:=aA e;obtain ⟨e8,e⟩:=aA e;obtain ⟨e9,e⟩:=aA e;obtain ⟨ea,e⟩:=aA e;obtain ⟨eb,e⟩:=aA e;obtain ⟨ec,e⟩:=aA e;obtain ⟨ed,e⟩:=aA e;obtain ⟨ee,e⟩:=aA e
   cases d
   ·exact e0
   ·exact e1
   ·exact e2
   ·exact e3
   ·exact e4
   ·exact e5
   ·exact e6
   ·exact e7
   ·exact e8
   ·exact e9
   ·exact ea
   ·exact eb
   ·exact ec
   ·exact ed
   ·exact ee
   ·exact e
 | mk=>cases y with
  | nil=>
   obtain ⟨e0,e⟩:=aA e;obtain ⟨e1,e⟩:=aA e;obtain ⟨e2,e⟩:=aA e;obtain ⟨e3,e⟩:=aA e;obtain ⟨e4,e⟩:=aA e;obtain ⟨e5,e⟩:=aA e;obtain ⟨e6,e⟩:=aA e;obtain ⟨e7,e⟩:=aA e;obtain ⟨e8,e⟩:=aA e;obtain ⟨e9,e⟩:=aA e;obtain ⟨ea,e⟩:=aA e;obtain ⟨eb,e⟩:=aA e;obtain ⟨ec,e⟩:=aA e;obtain ⟨ed,e⟩:=aA e;obtain ⟨ee,e⟩:=aA e
   cases d
   ·exact e0
   ·exact e1
   ·exact e2
   ·exact e3
   ·exact e4
   ·exact e5
   ·exact e6
   ·exact e7
   ·exact e8
   ·exact e9
   ·exact ea
   ·exact eb
   ·exact ec
   ·exact ed
   ·exact ee
   ·exact e
  | mk=>
   obtain ⟨e0,e⟩:=aA e;obtain ⟨e1,e⟩:=aA e;obtain ⟨e2,e⟩:=aA e;obtain ⟨e3,e⟩:=aA e;obtain ⟨e4,e⟩:=aA e;obtain ⟨e5,e⟩:=aA e;obtain ⟨e6,e⟩:=aA e;obtain ⟨e7,e⟩:=aA e;obtain ⟨e8,e⟩:=aA e;obtain ⟨e9,e⟩:=aA e;obtain ⟨ea,e⟩:=aA e;obtain ⟨eb,e⟩:=aA e;obtain ⟨ec,e⟩:=aA e;obtain ⟨ed,e⟩:=aA e;obtain ⟨ee,e⟩:=aA e
   cases d
   ·exact e0
   ·exact e1
   ·exact e2
   ·exact e3
   ·exact e4
   ·exact e5
   ·exact e6
   ·exact e7
   ·exact e8
   ·exact e9
   ·exact ea
   ·exact eb
   ·exact ec
   ·exact ed
   ·exact ee
   ·exact e
theorem O4.iQ (d:H) {x y:O4} (e:O4.le x y=true):O3.le (O4.get d x) (O4.get d y)=true:=by
 cases x with
 | nil=>cases y with
  | nil=>cases d<;>rfl
  | mk=>
   obtain ⟨e0,e⟩:=aA e;obtain ⟨e1,e⟩:=aA e;obtain ⟨e2,e⟩:=aA e;obtain ⟨e3,e⟩:=aA e;obtain ⟨e4,e⟩:=aA e;obtain ⟨e5,e⟩:=aA e;obtain ⟨e6,e⟩:=aA e;obtain ⟨e7,e⟩:=aA e;obtain ⟨e8,e⟩:=aA e;obtain ⟨e9,e⟩:=aA e;obtain ⟨ea,e⟩:=aA e;obtain ⟨eb,e⟩:=aA e;obtain ⟨ec,e⟩:=aA e;obtain ⟨ed,e⟩:=aA e;obtain ⟨ee,e⟩:=aA e
   cases d
   ·exact e0
   ·exact e1
   ·exact e2
   ·exact e3
   ·exact e4
   ·exact e5
   ·exact e6
   ·exact e7
   ·exact e8
   ·exact e9
   ·exact ea
   ·exact eb
   ·exact ec
   ·exact ed
   ·exact ee
   ·exact e
 | mk=>cases y with
  | nil=>
   obtain ⟨e0,e⟩:=aA e;obtain ⟨e1,e⟩:=aA e;obtain ⟨e2,e⟩:=aA e;obtain ⟨e3,e⟩:=aA e;obtain ⟨e4,e⟩:=aA e;obtain ⟨e5,e⟩:=aA e;obtain ⟨e6,e⟩:=aA e;obtain ⟨e7,e⟩:=aA e;obtain ⟨e8,e⟩:=aA e;obtain ⟨e9,e⟩:=aA e;obtain ⟨ea,e⟩:=aA e;obtain ⟨eb,e⟩:=aA e;obtain ⟨ec,e⟩:=aA e;obtain ⟨ed,e⟩:=aA e;obtain ⟨ee,e⟩:=aA e
   cases d
   ·exact e0
   ·exact e1
   ·exact e2
   ·exact e3
   ·exact e4
   ·exact e5
   ·exact e6
   ·exact e7
   ·exact e8
   ·exact e9
   ·exact ea
   ·exact eb
   ·exact ec
   ·exact ed
   ·exact ee
   ·exact e
  | mk=>
   obtain ⟨e0,e⟩:=aA e;obtain ⟨e1,e⟩:=aA e;obtain ⟨e2,e⟩:=aA e;obtain ⟨e3,e⟩:=aA e;obtain ⟨e4,e⟩:=aA e;obtain ⟨e5,e⟩:=aA e;obtain ⟨e6,e⟩:=aA e;obtain ⟨e7,e⟩:=aA e;obtain ⟨e8,e⟩:=aA e;obtain ⟨e9,e⟩:=aA e;obtain ⟨ea,e⟩:=aA e;obtain ⟨eb,e⟩:=aA e;obtain ⟨ec,e⟩:=aA e;obtain ⟨ed,e⟩:=aA e;obtain ⟨ee,e⟩:=aA e
   cases d
   ·exact e0
   ·exact e1
   ·exact e2
   ·exact e3
   ·exact e4
   ·exact e5
   ·exact e6
   ·exact e7
   ·exact e8
   ·exact e9
   ·exact ea
   ·exact eb
   ·exact ec
   ·exact ed
   ·exact ee
   ·exact e
theorem Jq {x y:Hp} (e:OT x y=true):fP x y:=by
 intro i
 obtain ⟨t,k⟩:=x
 obtain ⟨u,l⟩:=y
 obtain ⟨a,b,c,d⟩:=i
 have e:O4.le t u=true:=e
 exact Ew (O1.iQ d (O2.iQ c (O3.iQ b (O4.iQ a e))))
end
theorem dJ {f:Nat→Bool}:∀{m:Nat},pV m f=true→∀i,i < m→f i=true
 | 0,_,i,hi=>by omega
 | m+1,e,i,hi=>by
  have e:(@Bool.rec (fun _=>Bool) false (pV m f) (f m))=true:=e
  cases hm:f m with
  | false=>rw [hm] at e;cases e
  | true=>
   rw [hm] at e
   rcases Nat.lt_or_ge i m with h|h
   ·exact dJ e i h
   ·have:i=m:=by omega
    subst this;exact hm
theorem tu {n:Nat} {k:Nat→RS}:∀(x:RS),¬ x.aO (.ch n k)
 | .nm ..,h=>by cases h
 | .ex ..,h=>by cases h
 | .go ..,h=>by cases h
 | .ret ..,h=>by cases h
 | .err ..,h=>by cases h
 | .ch _ k',h=>by
  cases h with
  | ch _ _ c _ hc hl=>exact tu (k' c) hl
open Go.ChangeShapes Go.WideShapes Go.ChangeAt Go.RowKit
noncomputable section
variable {P:Program} {G:Gl} {names:List String} {p:Pg} {n m K:Nat} {φ φ' φ1:aJ} {h h' h2 g1:Hp} {w w' w0 w1:World} {r r' r1:A2} {a:Act} {t u:A4}
theorem qp (p:P4):gN p=uq p:=by cases p;rfl
def pW (K:Nat) (t:A4) (φ:aJ):aJ:=fun i=>if gN i < K then (match eV i t with|.map j=>φ j|_=>none) else none
theorem Ut {i j:P4} (e:rP K t i j=true):gN i < K∧eV i t=.map j:=by
 obtain ⟨h1,h2⟩:=aA e
 refine ⟨by have:=Nat.le_of_ble_eq_true h1;omega,?_⟩
 have h2:(@OM.rec (fun _=>Bool) false false (fun k=>lO k j) (eV i t).dX)=true:=h2
 cases hx:eV i t with
 | map k=>rw [hx] at h2;exact congrArg _ (eB.1 h2)
 | _=>rw [hx] at h2;cases h2
theorem pd {i j:P4} (e:rP K t i j=true):pW K t φ i=φ j:=by
 obtain ⟨h1,h2⟩:=Ut e
 unfold pW
 rw [if_pos h1,h2]
theorem Ey {x y:AV} {v:Value} (e:Uu K t x y=true) (hv:VR φ y v):VR (pW K t φ) x v:=by
 cases x with
 | undef=>exact .undef v
 | bool b=>cases dj (show dk _ _=true from e);cases hv;exact .bool _
 | int k n=>cases dj (show dk _ _=true from e);cases hv;exact .int _ _
 | str l=>cases dj (show dk _ _=true from e);cases hv;rename_i s h;exact .str _ _ h
 | ji k n=>cases dj (show dk _ _=true from e);cases hv;exact .ji _ _
 | cG k a b=>cases dj (show dk _ _=true from e);cases hv;exact .cG _ _ _
 | ptr i o=>
  cases y<;>(try (cases e;done))
  obtain ⟨h1,h2⟩:=aA e
  obtain rfl:=ew h1
  cases hv with
  | ptr _ _ q hq=>exact .ptr _ _ q ((pd h2).trans hq)
 | dS=>cases dj (show dk _ _=true from e);cases hv;exact .dS
 | slice i a b c=>
  cases y<;>(try (cases e;done))
  obtain ⟨h1,h2⟩:=aA e
  obtain ⟨h2,h3⟩:=aA h2
  obtain ⟨h3,h4⟩:=aA h3
  obtain rfl:=ew h1
  obtain rfl:=ew h2
  obtain rfl:=ew h3
  cases hv with
  | slice _ _ _ _ q hq=>exact .slice _ _ _ _ q ((pd h4).trans hq)
 | aH i a b c=>
  cases y<;>(try (cases e;done))
  obtain ⟨h1,h2⟩:=aA e
  obtain ⟨h2,h3⟩:=aA h2
  obtain ⟨h3,h4⟩:=aA h3
  obtain rfl:=ew h1
  obtain rfl:=ew h2
  obtain rfl:=ew h3
  cases hv with
  | aH _ _ _ _ c q ad hq g1 g2 g3 g4 g5 g6=>exact .aH _ _ _ _ c q ad ((pd h4).trans hq) g1 g2 g3 g4 g5 g6
 | ah=>cases dj (show dk _ _=true from e);cases hv;exact .ah
 | map i=>
  cases y<;>(try (cases e;done))
  have e:rP K t i _=true:=e
  cases hv with
  | map _ q hq=>exact .map _ q ((pd e).trans hq)
 | tv=>cases dj (show dk _ _=true from e);cases hv;exact .tv
 | wq=>cases dj (show dk _ _=true from e);cases hv;exact .wq
 | kQ=>cases dj (show dk _ _=true from e);cases hv;exact .kQ
 | _=>cases e
theorem yP:∀{x y:List AV} {v:List Value},Rw K t x y=true→bX φ y v→bX (pW K t φ) x v
 | [],[],_,_,hv=>by cases hv;exact .nil
 | [],_::_,_,e,_=>by cases e
 | _::_,[],_,e,_=>by cases e
 | x::a,y::b,_,e,hv=>by
  obtain ⟨h1,h2⟩:=aA (show (@Bool.rec (fun _=>Bool) false (Rw K t a b) (Uu K t x y))=true from e)
  cases hv with
  | cons _ _ _ _ g1 g2=>exact .cons _ _ _ _ (Ey h1 g1) (yP h2 g2)
theorem Ez {x y:AV} {v:Value} (e:OU K t x y=true) (hv:VR φ y v):VR (pW K t φ) x v:=by
 by_cases hx:∃l,x=.agg l
 ·obtain ⟨l,rfl⟩:=hx
  cases y<;>(try (cases e;done))
  rename_i b
  have e:Rw K t l b=true:=e
  cases hv with
  | agg _ vs g1 g2=>exact .agg _ vs (yP e g1) g2
 ·have:OU K t x y=Uu K t x y:=by cases x<;>first|rfl|exact absurd ⟨_,rfl⟩ hx
  exact Ey (this▸e) hv
theorem EA {x y:AV} {v:Value} (e:Rx K t x y=true) (hv:VR φ y v):VR (pW K t φ) x v:=by
 by_cases hx:∃f l,x=.fn f l
 ·obtain ⟨f,l,rfl⟩:=hx
  cases y<;>(try (cases e;done))
  rename_i g b
  obtain ⟨h1,h2⟩:=aA (show (@Bool.rec (fun _=>Bool) false (Rw K t l b) (Nat.beq f g))=true from e)
  obtain rfl:=ew h1
  cases hv with
  | fn _ _ vs g1=>exact .fn _ _ vs (yP h2 g1)
 ·by_cases hi:∃u z,x=.iface u z
  ·obtain ⟨u,z,rfl⟩:=hi
   cases y<;>(try (cases e;done))
   rename_i u' z'
   obtain ⟨h1,h2⟩:=aA (show (@Bool.rec (fun _=>Bool) false (OU K t z z') (Nat.beq u u'))=true from e)
   obtain rfl:=ew h1
   cases hv with
   | iface _ _ x g1=>exact .iface _ _ x (Ez h2 g1)
  ·have:Rx K t x y=OU K t x y:=by cases x<;>first|rfl|exact absurd ⟨_,_,rfl⟩ hx|exact absurd ⟨_,_,rfl⟩ hi
   exact Ez (this▸e) hv
theorem EC:∀{x y:List AV} {v:List Value},Wt K t x y=true→bX φ y v→bX (pW K t φ) x v
 | [],[],_,_,hv=>by cases hv;exact .nil
 | [],_::_,_,e,_=>by cases e
 | _::_,[],_,e,_=>by cases e
 | x::a,y::b,_,e,hv=>by
  obtain ⟨h1,h2⟩:=aA (show (@Bool.rec (fun _=>Bool) false (Wt K t a b) (Rx K t x y))=true from e)
  cases hv with
  | cons _ _ _ _ g1 g2=>exact .cons _ _ _ _ (EA h1 g1) (EC h2 g2)
theorem tw {x y:AV} {v:Value} (e:Jr K t x y=true) (hv:VR φ y v):VR (pW K t φ) x v:=by
 by_cases hx:∃l,x=.aW l
 ·obtain ⟨l,rfl⟩:=hx
  cases y<;>(try (cases e;done))
  rename_i b
  have e:Wt K t l b=true:=e
  cases hv with
  | aW _ vs g1=>exact .aW _ vs (EC e g1)
 ·have:Jr K t x y=Rx K t x y:=by cases x<;>first|rfl|exact absurd ⟨_,rfl⟩ hx
  exact EA (this▸e) hv
theorem zX:∀{x y:List KV} {es:List MapEntry},OV K t x y=true→cm φ y es→cm (pW K t φ) x es
 | [],[],_,_,hv=>by cases hv;exact .nil
 | [],_::_,_,e,_=>by cases e
 | ⟨_,_,_⟩::_,[],_,e,_=>by cases e
 | ⟨k,v,c⟩::a,⟨k',v',c'⟩::b,_,e,hv=>by
  obtain ⟨h1,h2⟩:=aA (show (@Bool.rec (fun _=>Bool) false (@Bool.rec (fun _=>Bool) false (@Bool.rec (fun _=>Bool) false (OV K t a b) (Jr K t v v')) (Jr K t k k')) (Nat.beq c c'))=true from e)
  obtain ⟨h2,h3⟩:=aA h2
  obtain ⟨h3,h4⟩:=aA h3
  obtain rfl:=ew h1
  cases hv with
  | cons _ _ _ NJ _ es g1 g2 g3 g4=>exact .cons _ _ _ NJ _ es (tw h2 g1) (tw h3 g2) g3 (zX h4 g4)
theorem nj {x y:Obj} (e:Js K t x y=true) (hl:live x):live y:=by
 cases x with
 | none=>exact absurd rfl hl.1
 | dead=>exact absurd rfl hl.2
 | cells=>cases y<;>first|exact aI|cases e
 | map=>cases y<;>first|exact nd|cases e
 | _=>cases e
theorem ED {x y:Obj} {q:Place} {z:Option Go.Obj} (e:Js K t x y=true) (hv:OR φ y q z):OR (pW K t φ) x q z:=by
 cases x with
 | none=>cases e
 | dead=>exact trivial
 | cells el n ex fl c=>
  cases y<;>(try (cases e;done))
  rename_i el' n' ex' fl' c'
  obtain ⟨h1,h2⟩:=aA e
  obtain ⟨h2,h3⟩:=aA h2
  obtain ⟨h3,h4⟩:=aA h3
  obtain ⟨h4,h5⟩:=aA h4
  obtain ⟨h5,h6⟩:=aA h5
  obtain rfl:=ew h1
  obtain rfl:=ew h2
  obtain rfl:=sE h3
  obtain rfl:=Fl.eq_eq h4
  obtain ⟨rc,fz,k1,k2,k3,k4,k5,k6,k7⟩:=hv
  refine ⟨rc,fz,k1,k2,k3,k4,Nat.le_of_ble_eq_true h5,fun k hk=>?_,k7⟩
  obtain ⟨cv,q1,q2,q3⟩:=k6 k hk
  exact ⟨cv,q1,tw (dJ h6 k hk) q2,q3⟩
 | map l ck=>
  cases y<;>(try (cases e;done))
  rename_i l' ck'
  obtain ⟨h1,h2⟩:=aA e
  obtain rfl:=ew h1
  obtain ⟨es,k1,k2⟩:=hv
  exact ⟨es,k1,zX h2 k2⟩
 | _=>cases e
theorem St.Ry (S:St n G φ r h a w) (hs:G.sy=[]) (hK:K≤65536) (hn:∀i,K≤gN i→av i h'=.none) (e:EE G.n K t u r' h' r h=true) :
  St n G (pW K t φ) r' h' a w∧∀i p,live (av i h')→pW K t φ i=some p→∃j,live (av j h)∧φ j=some p:=by
 obtain ⟨e1,e⟩:=aA e
 obtain ⟨e2,e3⟩:=aA e
 have hk:∀i,gN i < K→∃j,eV i t=.map j∧eV j u=.map i∧Js K t (av i h') (av j h)=true:=by
  intro i hi
  have q:=dJ e3 (gN i) hi
  rw [qp,ng] at q
  have q:(@OM.rec (fun _=>Bool) false false (fun j=>@OM.rec (fun _=>Bool) false false (fun i'=>@Bool.rec (fun _=>Bool) false (Js K t (av i h') (av j h)) (lO i' i)) (eV j u).dX) (eV i t).dX)=true:=q
  cases hx:eV i t with
  | map j=>
   rw [hx] at q
   have q:(@OM.rec (fun _=>Bool) false false (fun i'=>@Bool.rec (fun _=>Bool) false (Js K t (av i h') (av j h)) (lO i' i)) (eV j u).dX)=true:=q
   cases hy:eV j u with
   | map i'=>
    rw [hy] at q
    obtain ⟨q1,q2⟩:=aA q
    obtain rfl:=eB.1 q1
    exact ⟨j,rfl,hy,q2⟩
   | _=>rw [hy] at q;cases q
  | _=>rw [hx] at q;cases q
 have hlt:∀i,live (av i h')→gN i < K:=fun i hl=>by
  rcases Nat.lt_or_ge (gN i) K with g|g
  ·exact g
  ·exact absurd (hn i g) hl.1
 have hph:∀i j,gN i < K→eV i t=.map j→pW K t φ i=φ j:=fun i j hi hj=>by
  unfold pW;rw [if_pos hi,hj]
 have hlv:∀i p,live (av i h')→pW K t φ i=some p→∃j,eV j u=.map i∧live (av j h)∧φ j=some p:=fun i p hl hp=>by
  obtain ⟨j,k1,k2,k3⟩:=hk i (hlt i hl)
  rw [hph i j (hlt i hl) k1] at hp
  exact ⟨j,k2,nj k3 hl,hp⟩
 refine ⟨⟨⟨fun i hl=>?_,fun i j p q hi hj ne hp hq=>?_,fun i hi=>?_,fun i p hp=>?_⟩,fun x hx=>?_,S.dz,S.size,⟨fun g hg=>?_,fun x hx=>by rw [hs] at hx;cases hx⟩⟩,fun i p hl hp=>?_⟩
 ·obtain ⟨j,k1,k2,k3⟩:=hk i (hlt i hl)
  obtain ⟨p,q1,q2⟩:=S.hr.obj j (nj k3 hl)
  exact ⟨p,(hph i j (hlt i hl) k1).trans q1,ED k3 q2⟩
 ·obtain ⟨i',k1,k2,k3⟩:=hlv i p hi hp
  obtain ⟨j',l1,l2,l3⟩:=hlv j q hj hq
  refine S.hr.inj i' j' p q k2 l2 (fun e=>ne ?_) k3 l3
  rw [e,l1] at k1
  cases k1;rfl
 ·unfold pW
  split
  ·rename_i hlt'
   obtain ⟨j,_,_,k3⟩:=hk i hlt'
   rw [hi] at k3
   cases k3
  ·rfl
 ·unfold pW at hp
  split at hp
  ·split at hp
   ·exact S.hr.bound _ _ hp
   ·cases hp
  ·cases hp
 ·have q:=dJ (dJ e2 (x / 16) (by omega)) (x % 16) (by omega)
  exact tw q (S.aE x hx)
 ·obtain ⟨room,hr⟩:=S.fy.1 g hg
  have q:=dJ e1 g hg
  exact ⟨room,(pd (φ:=φ) q).trans hr⟩
 ·obtain ⟨j,_,k2,k3⟩:=hlv i p hl hp
  exact ⟨j,k2,k3⟩
theorem xM:∀(l:List Obj) (k:Nat) (t:O4) (i:P4),k+l.length≤65536→k+l.length≤gN i→gx i (Uv l k t)=gx i t
 | [],_,_,_,_,_=>rfl
 | o::l,k,t,i,hk,hi=>by
  have hk:k+(l.length+1)≤65536:=hk
  have hi:k+(l.length+1)≤gN i:=hi
  have e:Uv (o::l) k t=Uv l (k+1) (cU (je k) o t):=rfl
  rw [e,xM l (k+1) _ i (by omega) (by omega),dD,if_neg]
  intro e
  rw [e,qp,tn (by omega)] at hi
  omega
theorem tx {l:List Obj} (hl:l.length≤65536) (i:P4) (hi:l.length≤gN i):av i (aY l)=.none:=by
 have e:=xM l 0 .nil i (by omega) (by omega)
 have e2:av i (aY l)=gx i (Uv l 0 .nil):=rfl
 rw [e2,e]
 obtain ⟨a,b,c,d⟩:=i
 show O1.get d (O2.get c (O3.get b (O4.get a .nil)))=_
 rw [O4.get_nil,O3.get_nil,O2.get_nil,O1.get_nil]
structure EF (q:Nat→Prop) (w0:World) (φ:aJ) (h:Hp) (w:World):Prop where
 size:w0.heap.size≤w.heap.size
 rest:∀b,b < w0.heap.size→¬ q b→w.heap[b]?=w0.heap[b]?
 os:w.os=w0.os
 output:w.output=w0.output
 old:∀i p,live (av i h)→φ i=some p→p.bZ < w0.heap.size→q p.bZ
theorem EF.step {q:Nat→Prop} (B:EF q w0 φ h w) (T:Step φ h w φ' h' w'):EF q w0 φ' h' w' where
 size:=Nat.le_trans B.size T.keeps.size
 rest b hb hq:=by
  rw [T.keeps.rest b (Nat.lt_of_lt_of_le hb B.size) fun i p hl hp he=>hq ?_,B.rest b hb hq]
  subst he
  exact B.old i p hl hp hb
 os:=T.keeps.os.trans B.os
 output:=T.keeps.output.trans B.output
 old i p hl hp hb:=by
  rcases T.new i p hl hp with ⟨g1,g2⟩|g1|⟨j,s,g1,g2,g3⟩
  ·exact B.old i p g1 g2 hb
  ·exact absurd (Nat.le_trans B.size g1) (by omega)
  ·rw [←g3] at hb ⊢;exact B.old j s g1 g2 hb
def xN (n:Nat) (G:Gl) (q:Nat→Prop) (w0:World) (r:A2) (h:Hp) (a:Act) (w:World):Prop:=∃φ,St n G φ r h a w∧EF q w0 φ h w
def Kn (n:Nat) (G:Gl) (q:Nat→Prop) (w0:World) (g:Tg):Exit→Act→World→Prop:=fun e a' w'=>∃r' h',Ends g.rs e r' h'∧xN n G q w0 r' h' a' w'
def CR (P:Program) (G:Gl) (q:Nat→Prop) (n:Nat) (c:Code) (r:A2) (h:Hp) (g:Tg):Prop:=∀w0 a w,xN n G q w0 r h a w→c.wp P (Kn n G q w0 g) a w
def CL (P:Program) (G:Gl) (q:Nat→Prop) (n:Nat) (c:Code) (r:A2) (h:Hp) (g:Tg):Prop:=∀w0 a w,xN n G q w0 r h a w→mJ P c (Kn n G q w0 g) a w
variable {c c1 c2:Code} {x:AC} {q:Nat→Prop} {g:Tg} {l:List Obj}
theorem xN.Ry (hs:G.sy=[]) (hl:l.length≤65536) (e:wt G.n l.length r' (aY l) r h=true) (I:xN n G q w0 r h a w):xN n G q w0 r' (aY l) a w:=by
 obtain ⟨φ,S,B⟩:=I
 have e:(@TK.rec (fun _=>Bool) (fun t u=>EE G.n l.length t u r' (aY l) r h) (Uw G.n l.length r' (aY l) r h))=true:=e
 cases hu:Uw G.n l.length r' (aY l) r h with
 | mk t u=>
  rw [hu] at e
  obtain ⟨S',hlv⟩:=S.Ry hs hl (tx hl) e
  exact ⟨_,S',⟨B.size,B.rest,B.os,B.output,fun i p hi hp hb=>by
   obtain ⟨j,k1,k2⟩:=hlv i p hi hp
   exact B.old j p k1 k2 hb⟩⟩
def Tg.len (g:Tg):Nat:=Tg.casesOn g (fun _ l=>l.length) (fun _ _ l=>l.length) (fun _ l=>l.length)
theorem zY (hs:G.sy=[]) (hl:g.len≤65536) {x:RS} (e:cD G.n g x=true):x.Safe∧∀y t r h,x.aO y→Ends y t r h→∃r' l,l.length≤65536∧Ends g.rs t r' (aY l)∧wt G.n l.length r' (aY l) r h=true:=by
 have leaf:∀{x:RS},cD G.n g x=true→∀y,x.aO y→cD G.n g y=true:=by
  intro x
  induction x with
  | ch n k ih=>
   intro e y hy
   have e:pV n (fun i=>cD G.n g (k i))=true:=e
   cases hy with
   | ch _ _ c _ hc hl=>exact ih c (dJ e c hc) y hl
  | _=>intro e y hy;cases hy;exact e
 refine ⟨fun k hk=>?_,fun y t r h hy he=>?_⟩
 ·have:cD G.n g (.err k)=true:=leaf e _ hk
  cases this
 ·have hc:=leaf e y hy
  cases he with
  | nm=>
   cases g with
   | nm r' l=>exact ⟨r',l,hl,.nm _ _,hc⟩
   | _=>cases hc
  | ex i=>
   cases g with
   | ex j r' l=>
    obtain ⟨h1,h2⟩:=aA hc
    obtain rfl:=ew h1
    exact ⟨r',l,hl,.ex _ _ _,h2⟩
   | _=>cases hc
  | go i=>cases hc
  | ret=>
   cases g with
   | ret r' l=>exact ⟨r',l,hl,.ret _ _,hc⟩
   | _=>cases hc
theorem CR.run [NB G] (hs:G.sy=[]) (C:bP P G names p m) (hI:Impl (cC P G n names c) x) (hl:g.len≤65536) (e:cD G.n g (exec p m x r h)=true):CR P G q n c r h g:=fun w0 a w ⟨φ,S,B⟩=>by
 obtain ⟨k1,k2⟩:=zY hs hl e
 refine wp_mono (C.code n c x r h φ a w hI S k1) ?_
 rintro t a' w' ⟨y,r',h',φ',hy,he,S',T⟩
 obtain ⟨r2,l,q1,q2,q3⟩:=k2 y t r' h' hy he
 exact ⟨r2,_,q2,xN.Ry hs q1 q3 ⟨φ',S',B.step T⟩⟩
theorem CR.seq (k1:CR P G q n c1 r h (.nm r1 l)) (k2:CR P G q n c2 r1 (aY l) g):CR P G q n (.seq c1 c2) r h g:=fun w0 a w I=>by
 refine wp_seq (wp_mono (k1 w0 a w I) ?_)
 rintro e a' w' ⟨r',h',he,I'⟩
 cases he
 exact k2 w0 a' w' I'
theorem CR.loop (k:CL P G q n c r h g):CR P G q n (.loop c) r h g:=fun w0 a w I=>pB (k w0 a w I)
theorem CL.step (k1:CR P G q n c r h (.nm r1 l)) (k2:CL P G q n c r1 (aY l) g):CL P G q n c r h g:=fun w0 a w I=>by
 refine mK (wp_mono (k1 w0 a w I) ?_)
 rintro e a' w' ⟨r',h',he,I'⟩
 cases he
 exact k2 w0 a' w' I'
theorem CL.done {i:Nat} (k:CR P G q n c r h (.ex i r1 l)):CL P G q n c r h (.ex i r1 l):=fun w0 a w I=>by
 refine mK (wp_mono (k w0 a w I) ?_)
 rintro e a' w' ⟨r',h',he,I'⟩
 cases he
 exact ⟨r1,_,.ex _ _ _,I'⟩
theorem CL.Ux [NB G] (hs:G.sy=[]) (hl:l.length≤65536) (C:bP P G names p m) (hI:Impl (cC P G n names c) x) (k:CL P G q n c r1 (aY l) g):∀(j:Nat) (r:A2) (h:Hp),(rounds j (exec p m x) r h).Safe→
  (∀y,(rounds j (exec p m x) r h).aO y→∃r' h',y=.nm r' h'∧wt G.n l.length r1 (aY l) r' h'=true)→CL P G q n c r h g
 | 0,r,h,_,hlf=>fun w0 a w I=>by
  obtain ⟨r',h',e,k1⟩:=hlf (.nm r h) (.nm _ _)
  cases e
  exact k w0 a w (xN.Ry hs hl k1 I)
 | j+1,r,h,hsf,hlf=>fun w0 a w ⟨φ,S,B⟩=>by
  have hsf:(RS.bind (exec p m x r h) (Go.Am.rounds j (exec p m x)) (fun i r h=>.ex i r h) (fun l r h=>.go l r h)).Safe:=hsf
  have hlf:∀y,(RS.bind (exec p m x r h) (Go.Am.rounds j (exec p m x)) (fun i r h=>.ex i r h) (fun l r h=>.go l r h)).aO y→∃r' h',y=.nm r' h'∧wt G.n l.length r1 (aY l) r' h'=true:=hlf
  refine mK (wp_mono (C.code n c x r h φ a w hI S (fK hsf)) (aZ.cases ?_ ?_ ?_ ?_))
  ·intro r' h' φ' a' w' hy S' T
   exact CL.Ux hs hl C hI k j r' h' (iE hsf hy) (fun y hy2=>hlf y (cN hy rfl hy2)) w0 a' w' ⟨φ',S',B.step T⟩
  ·intro i r' h' φ' a' w' hy S' T
   obtain ⟨_,_,e,_⟩:=hlf _ (dg hy rfl (.ex _ _ _))
   cases e
  ·intro i r' h' φ' a' w' hy S' T
   obtain ⟨_,_,e,_⟩:=hlf _ (cP hy rfl (.go _ _ _))
   cases e
  ·intro r' h' φ' a' w' hy S' T
   obtain ⟨_,_,e,_⟩:=hlf _ (dp hy rfl)
   cases e
theorem CL.many [NB G] (hs:G.sy=[]) (hl:l.length≤65536) (C:bP P G names p m) (hI:Impl (cC P G n names c) x) (j:Nat) (e:cD G.n (.nm r1 l) (Go.Am.rounds j (exec p m x) r h)=true) (k:CL P G q n c r1 (aY l) g):CL P G q n c r h g:=by
 have ok:=zY (g:=.nm r1 l) hs hl e
 refine CL.Ux hs hl C hI k j r h ok.1 fun y hy=>?_
 have key:∀t r' h',Ends y t r' h'→∃r2 l2,Ends (Tg.rs (.nm r1 l)) t r2 (aY l2)∧wt G.n l2.length r2 (aY l2) r' h'=true:=fun t r' h' he=>by
  obtain ⟨r2,l2,_,k2,k3⟩:=ok.2 y t r' h' hy he
  exact ⟨r2,l2,k2,k3⟩
 have leafc:cD G.n (.nm r1 l) y=true:=by
  have leaf:∀{x:RS},cD G.n (.nm r1 l) x=true→∀y,x.aO y→cD G.n (.nm r1 l) y=true:=by
   intro x
   induction x with
   | ch n k ih=>
    intro e y hy
    have e:pV n (fun i=>cD G.n (.nm r1 l) (k i))=true:=e
    cases hy with
    | ch _ _ c _ hc hl=>exact ih c (dJ e c hc) y hl
   | _=>intro e y hy;cases hy;exact e
  exact leaf e y hy
 cases y with
 | nm r' h'=>exact ⟨r',h',rfl,leafc⟩
 | ex=>cases leafc
 | go=>cases leafc
 | ret=>cases leafc
 | err=>cases leafc
 | ch=>exact absurd hy (tu _)
theorem CR.EG {i:Nat} (k:CR P G q n c r h (.ex i r1 l)):CR P G q n (.block i c) r h (.nm r1 l):=fun w0 a w I=>by
 refine wp_block (wp_mono (k w0 a w I) ?_)
 rintro e a' w' ⟨r',h',he,I'⟩
 cases he
 show if i=i then _ else _
 rw [if_pos rfl]
 exact ⟨r1,_,.nm _ _,I'⟩
theorem Jt {f:Nat} {fn:Func} {rs:List Rs} {g2:Hp} {gl el:Nat} {k:IntKind} {zs:List Int} (hf:P.funcs[f]?=some fn) (hb:fn.body=some c) (hr:fn.results.toList.mapM (NC P fn.ntmps)=some rs)
  (hg:gl < m) (hn:m≤65536) (hz:zs.length≤bM (lW (zs.map fun z=>AV.int k z)))
  (kk:CR P ⟨m,[],none⟩ (·=gl) fn.ntmps c .nil (Kl m gl (Eu el k zs)) (.ret r1 l)) (e:Bq rs r1 (aY l)=.ok (.bool true) g2) (ho:Km el k zs (av (je gl) (aY l))=true) (w:World) (hs:m≤w.heap.size)
  (hw:w.heap[gl]?=some (.cells (zs.map fun z=>Value.int k z).toArray el (0,0))) :
  Calls P f #[] w fun e w'=>e=.returned (.bool true)∧w.heap.size≤w'.heap.size∧(∀b,b < w.heap.size→w'.heap[b]?=w.heap[b]?)∧w'.os=w.os∧w'.output=w.output:=by
 have S:=St.start (args:=[]) (vals:=[]) (Yn hn hg hz hs hw) .nil (G:=⟨m,[],none⟩) ⟨fun i hi=>⟨zs.length,tq hi hn⟩,fun x hx=>by cases hx⟩ (by simp) fn.ntmps
 have B:EF (·=gl) w (BG m zs.length) (Kl m gl (Eu el k zs)) w:=⟨Nat.le_refl _,fun _ _ _=>rfl,rfl,rfl,fun i p hl hp _=>by
  obtain rfl:=nh hn hl
  rw [tq hg hn] at hp
  cases hp
  rfl⟩
 refine calls_of_wp hf hb (wp_mono (kk w _ w ⟨_,S,B⟩) ?_)
 rintro t a' w' ⟨r',h',he,φ',S',B'⟩
 cases he
 obtain ⟨e1,cv,e2,e3⟩:=lQ S' hr e
 subst e1
 refine ⟨S'.dz,cv,e2,?_⟩
 cases e3
 refine ⟨rfl,B'.size,fun b hb=>?_,B'.os,B'.output⟩
 by_cases hbg:b=gl
 ·subst hbg
  obtain ⟨c,hc,hcs⟩:=Ev ho
  have hlv:live (av (je b) (aY l)):=by rw [hc];exact aI
  obtain ⟨p,hq1,hq2⟩:=S'.hr.obj (je b) hlv
  obtain ⟨room,hφ⟩:=S'.fy.1 b hg
  have hφ:φ' (je b)=some ⟨b,0,room⟩:=hφ
  obtain rfl:=Option.some.inj (hq1.symm.trans hφ)
  rw [hc] at hq2
  obtain ⟨rc,fz,h1,h2,h3,h4,h5,h6,h7⟩:=hq2
  have h7:fz=(0,0):=h7
  subst h7
  have h1:w'.heap[b]?=some (.cells rc el (0,0)):=h1
  have h2:0+room=rc.size:=h2
  have h4:zs.length=room:=(h4 rfl).2
  have hrc:rc=(zs.map fun z=>Value.int k z).toArray:=by
   apply Array.ext
   ·simp
    omega
   ·intro j hj1 hj2
    have hj:j < zs.length:=by simpa using hj2
    obtain ⟨cv,h8,h9,_⟩:=h6 j hj
    rw [hcs j hj] at h9
    cases h9
    have h8:rc[0+j]?=some (.int k zs[j]):=h8
    rw [Nat.zero_add,Array.getElem?_eq_getElem hj1] at h8
    rw [Option.some.inj h8]
    simp
  rw [h1,hw,hrc]
 ·exact B'.rest b hb hbg
def Rz (c:Code):Code:=match c with|.seq a _=>a|.block _ a=>a|.loop a=>a|c=>c
def XV (c:Code):Code:=match c with|.seq _ b=>b|c=>c
def WZ (f:Func):Code:=f.body.getD .skip
theorem CR.yQ (k1:CR P G q n (Rz c) r h (.nm r1 l)) (k2:CR P G q n (XV c) r1 (aY l) g) (e:c=.seq (Rz c) (XV c):=by kernel_rfl):CR P G q n c r h g:=Eq.mpr (congrArg (fun d=>CR P G q n d r h g) e) (.seq k1 k2)
theorem CR.Uy {i:Nat} (k:CL P G q n (Rz (Rz c)) r h (.ex i r1 l)) (e:c=.block i (.loop (Rz (Rz c))):=by kernel_rfl):CR P G q n c r h (.nm r1 l):=Eq.mpr (congrArg (fun d=>CR P G q n d r h (.nm r1 l)) e) (.EG (.loop k))
theorem CR.xO [NB G] {y:AC} (C:bP P G names p m) (hI:Impl y x) (e:cD G.n g (exec p m x r h)=true) (hs:G.sy=[]:=by rfl) (hl:Nat.ble g.len 65536=true:=by kernel_rfl) (hc:cC P G n names c=y:=by kernel_rfl):CR P G q n c r h g:=.run hs C (hc▸hI) (Nat.le_of_ble_eq_true hl) e
theorem CL.dn [NB G] {y:AC} (C:bP P G names p m) (hI:Impl y x) (j:Nat) (e:cD G.n (.nm r1 l) (Go.Am.rounds j (exec p m x) r h)=true) (k:CL P G q n c r1 (aY l) g) (hs:G.sy=[]:=by rfl) (hl:Nat.ble l.length 65536=true:=by kernel_rfl) (hc:cC P G n names c=y:=by kernel_rfl):CL P G q n c r h g:=
 .many hs (Nat.le_of_ble_eq_true hl) C (hc▸hI) j e k
end
noncomputable section
variable {P:Program} {G:Gl} [NB G] {names:List String} {p:Pg} {n K:Nat} {φ φ':aJ} {h h' h0 hr:Hp} {w w':World} {v v':AV} {args0 args:List AV} {t u:A4} {r r':A2} {l0 l':List Obj}
omit [NB G] in
theorem HR.Ry (H:HR φ h w) (hn:∀i,K≤gN i→av i h'=.none) (e:EE n K t u r' h' r h=true) :
  HR (pW K t φ) h' w∧(∀i p,live (av i h')→pW K t φ i=some p→∃j,live (av j h)∧φ j=some p)∧(∀g,g < n→rP K t (je g) (je g)=true)∧
  Jr K t (aq .h0 .h0 r') (aq .h0 .h0 r)=true:=by
 obtain ⟨e1,e⟩:=aA e
 obtain ⟨e2,e3⟩:=aA e
 have hk:∀i,gN i < K→∃j,eV i t=.map j∧eV j u=.map i∧Js K t (av i h') (av j h)=true:=by
  intro i hi
  have q:=dJ e3 (gN i) hi
  rw [qp,ng] at q
  have q:(@OM.rec (fun _=>Bool) false false (fun j=>@OM.rec (fun _=>Bool) false false (fun i'=>@Bool.rec (fun _=>Bool) false (Js K t (av i h') (av j h)) (lO i' i)) (eV j u).dX) (eV i t).dX)=true:=q
  cases hx:eV i t with
  | map j=>
   rw [hx] at q
   have q:(@OM.rec (fun _=>Bool) false false (fun i'=>@Bool.rec (fun _=>Bool) false (Js K t (av i h') (av j h)) (lO i' i)) (eV j u).dX)=true:=q
   cases hy:eV j u with
   | map i'=>
    rw [hy] at q
    obtain ⟨q1,q2⟩:=aA q
    obtain rfl:=eB.1 q1
    exact ⟨j,rfl,hy,q2⟩
   | _=>rw [hy] at q;cases q
  | _=>rw [hx] at q;cases q
 have hlt:∀i,live (av i h')→gN i < K:=fun i hl=>by
  rcases Nat.lt_or_ge (gN i) K with g|g
  ·exact g
  ·exact absurd (hn i g) hl.1
 have hph:∀i j,gN i < K→eV i t=.map j→pW K t φ i=φ j:=fun i j hi hj=>by
  unfold pW;rw [if_pos hi,hj]
 have hlv:∀i p,live (av i h')→pW K t φ i=some p→∃j,eV j u=.map i∧live (av j h)∧φ j=some p:=fun i p hl hp=>by
  obtain ⟨j,k1,k2,k3⟩:=hk i (hlt i hl)
  rw [hph i j (hlt i hl) k1] at hp
  exact ⟨j,k2,nj k3 hl,hp⟩
 refine ⟨⟨fun i hl=>?_,fun i j p q hi hj ne hp hq=>?_,fun i hi=>?_,fun i p hp=>?_⟩,fun i p hl hp=>?_,fun g hg=>dJ e1 g hg,dJ (dJ e2 0 (by omega)) 0 (by omega)⟩
 ·obtain ⟨j,k1,k2,k3⟩:=hk i (hlt i hl)
  obtain ⟨p,q1,q2⟩:=H.obj j (nj k3 hl)
  exact ⟨p,(hph i j (hlt i hl) k1).trans q1,ED k3 q2⟩
 ·obtain ⟨i',k1,k2,k3⟩:=hlv i p hi hp
  obtain ⟨j',l1,l2,l3⟩:=hlv j q hj hq
  refine H.inj i' j' p q k2 l2 (fun e=>ne ?_) k3 l3
  rw [e,l1] at k1
  cases k1;rfl
 ·unfold pW
  split
  ·rename_i hlt'
   obtain ⟨j,_,_,k3⟩:=hk i hlt'
   rw [hi] at k3
   cases k3
  ·rfl
 ·unfold pW at hp
  split at hp
  ·split at hp
   ·exact H.bound _ _ hp
   ·cases hp
  ·cases hp
 ·obtain ⟨j,_,k2,k3⟩:=hlv i p hl hp
  exact ⟨j,k2,k3⟩
omit [NB G] in
theorem Ju {x:RT} (e:aM n v' l' x=true):x.Safe∧∀v h,x.aO (.ok v h)→Uz n v' l' v h=true:=by
 have leaf:∀{x:RT},aM n v' l' x=true→∀y,x.aO y→aM n v' l' y=true:=by
  intro x
  induction x with
  | ch n k ih=>
   intro e y hy
   have e:pV n (fun i=>aM _ v' l' (k i))=true:=e
   cases hy with
   | ch _ _ c _ hc hl=>exact ih c (dJ e c hc) y hl
  | _=>intro e y hy;cases hy;exact e
 refine ⟨fun k hk=>?_,fun v h hy=>leaf e _ hy⟩
 have:aM n v' l' (.err k)=true:=leaf e _ hk
 cases this
theorem Jv (E:Env P G names p) (m f:Nat) (hb:∀k,cH f p.fs≠.ext k) (k1:l0.length≤65536) (k2:l'.length≤65536) (e:aM l0.length v' l' (aj p (exec p m) f args0 (aY l0))=true):fB P G (.fn (aD args0 l0 v' l')) f:=by
 intro φ h w args vals hg H hv hs
 have e1:cQ (.fn (aD args0 l0 v' l')) args h=aD args0 l0 v' l' args h:=rfl
 rw [e1] at hs ⊢
 unfold aD at hs ⊢
 cases hc:xd args0 args with
 | false=>rw [hc] at hs;exact (RT.Safe.err hs).elim
 | true=>
  cases hc2:UA h.log with
  | false=>rw [hc,hc2] at hs;exact (RT.Safe.err hs).elim
  | true=>
   cases hc3:OT (aY l0) h with
   | false=>rw [hc,hc2,hc3] at hs;exact (RT.Safe.err hs).elim
   | true=>
    obtain rfl:=sI hc
    have L:=Jq hc3
    have H0:=H.less L
    have hoff:h.log=.off:=by
     cases hl:h.log with
     | off=>rfl
     | on=>rw [hl] at hc2;cases hc2
    obtain ⟨sf,lf⟩:=Ju e
    have C:=Jw E m f args0 vals hg H0 hv sf hb
    refine C.mono ?_
    rintro x w' ⟨v1,h1,cv,φ',hl,a,b,c,d⟩
    have q:(@TK.rec (fun _=>Bool) (fun t u=>EE l0.length l'.length t u (eQ .h0 .h0 v' .nil) (aY l') (eQ .h0 .h0 v1 .nil) h1) (Uw l0.length l'.length (eQ .h0 .h0 v' .nil) (aY l') (eQ .h0 .h0 v1 .nil) h1))=true:=lf _ _ hl
    cases hu:Uw l0.length l'.length (eQ .h0 .h0 v' .nil) (aY l') (eQ .h0 .h0 v1 .nil) h1 with
    | mk t u=>
     rw [hu] at q
     obtain ⟨R1,R2,R3,R4⟩:=c.Ry (tx k2) q
     rw [dH,dH,if_pos ⟨rfl,rfl⟩,if_pos ⟨rfl,rfl⟩] at R4
     refine ⟨v',aY l',cv,pW l'.length t φ',.ok _ _,a,tw R4 b,R1,⟨fun i p hp=>?_,⟨d.keeps.size,fun x hx hn=>d.keeps.rest x hx fun i p hi hp=>?_,d.keeps.tape,d.keeps.os,d.keeps.output⟩,fun i p hi hp=>?_,⟨fun _=>rfl,fun l g=>?_⟩⟩⟩
     ·have hlt:gN i < l0.length:=by
       rcases Nat.lt_or_ge (gN i) l0.length with g|g
       ·exact g
       ·have:=H0.fresh i (tx k1 i g)
        rw [this] at hp;cases hp
      have q2:=R3 _ hlt
      rw [qp,ng] at q2
      exact (pd q2).trans (d.le i p hp)
     ·rcases L i with g|g
      ·exact hn i p (g▸hi) hp
      ·exact absurd g hi.2
     ·obtain ⟨j,g1,g2⟩:=R2 i p hi hp
      have lv:∀j,live (av j (aY l0))→live (av j h):=fun j hj=>by
       rcases L j with g|g
       ·exact g▸hj
       ·exact absurd g hj.2
      rcases d.new j p g1 g2 with ⟨s1,s2⟩|s|⟨j',q,s1,s2,s3⟩
      ·exact .inr (.inr ⟨j,p,lv j s1,s2,rfl⟩)
      ·exact .inr (.inl s)
      ·exact .inr (.inr ⟨j',q,lv j' s1,s2,s3⟩)
     ·rw [hoff] at g;cases g
theorem F1.jV (d:H) (v:AF) (x:F1):F1.get d (F1.set d v x)=v:=by cases d<;>cases x<;>rfl
theorem F2.jV (d:H) (v:F1) (x:F2):F2.get d (F2.set d v x)=v:=by cases d<;>cases x<;>rfl
theorem F3.jV (d:H) (v:F2) (x:F3):F3.get d (F3.set d v x)=v:=by cases d<;>cases x<;>rfl
theorem F1.hM {d e:H} (v:AF) (x:F1) (h:e≠d):F1.get e (F1.set d v x)=F1.get e x:=by cases d<;>cases e<;>first|(exact absurd rfl h)|(cases x<;>rfl)
theorem F2.hM {d e:H} (v:F1) (x:F2) (h:e≠d):F2.get e (F2.set d v x)=F2.get e x:=by cases d<;>cases e<;>first|(exact absurd rfl h)|(cases x<;>rfl)
theorem F3.hM {d e:H} (v:F2) (x:F3) (h:e≠d):F3.get e (F3.set d v x)=F3.get e x:=by cases d<;>cases e<;>first|(exact absurd rfl h)|(cases x<;>rfl)
theorem OW (n:Nat):bN (n+15)=.hf:=rfl
theorem BH {n m:Nat} (hm:m < 15) (e:bN n=bN m):n=m:=by
 by_cases hn:n < 15
 ·have key:∀a,a < 15→∀b,b < 15→bN a=bN b→a=b:=by decide
  exact key n hn m hm e
 ·obtain ⟨k,rfl⟩:∃k,n=k+15:=⟨n - 15,by omega⟩
  rw [OW] at e
  have key:∀b,b < 15→bN b≠.hf:=by decide
  exact absurd e.symm (key m hm)
theorem vm {n m:Nat} (hn:n < 16) (hm:m < 16) (e:bN n=bN m):n=m:=by
 have key:∀a,a < 16→∀b,b < 16→bN a=bN b→a=b:=by decide
 exact key n hn m hm e
theorem EH (f g:Nat) (a:AF) (p:F3) (hf:f < 3840):cH g (Jx f a p)=a∧g=f∨cH g (Jx f a p)=cH g p:=by
 unfold cH Jx
 by_cases h3:bN (Nat.div g 256)=bN (Nat.div f 256)
 ·rw [h3,F3.jV]
  by_cases h2:bN (Nat.mod (Nat.div g 16) 16)=bN (Nat.mod (Nat.div f 16) 16)
  ·rw [h2,F2.jV]
   by_cases h1:bN (Nat.mod g 16)=bN (Nat.mod f 16)
   ·left
    rw [h1,F1.jV]
    refine ⟨rfl,?_⟩
    have a1:g % 16=f % 16:=vm (Nat.mod_lt _ (by omega)) (Nat.mod_lt _ (by omega)) h1
    have a2:g / 16 % 16=f / 16 % 16:=vm (Nat.mod_lt _ (by omega)) (Nat.mod_lt _ (by omega)) h2
    have a3:g / 256=f / 256:=BH (by show f / 256 < 15;omega) h3
    omega
   ·right;rw [F1.hM _ _ h1]
  ·right;rw [F2.hM _ _ h2]
 ·right;rw [F3.hM _ _ h3]
omit [NB G] in
theorem Env.Xa {fs:F3} {ms:List MR} (E:Env P G names (.mk fs ms)) (f:Nat) (hf:f < 3840) (k:PK) (hk:fB P G k f):Env P G names (.mk (xP f k fs) ms) where
 mixed:=E.mixed
 ms:=E.ms
 fs g:=by
  show match cH g (xP f k fs) with|.none=>True|.mk body res=>mN P G names g body res|.oO k body res=>mN P G names g body res∧fB P G k g|.Dy body res=>mN P G names g body res|.ext k=>jJ P G k g
  have E0:=E.fs
  rcases EH f g (UB k (cH f fs)) fs hf with ⟨e,rfl⟩|e
  ·have e:cH g (xP g k fs)=_:=e
   rw [e]
   have:=E0 g
   have e2:cH g (Pg.mk fs ms).fs=cH g fs:=rfl
   rw [e2] at this
   cases ha:cH g fs with
   | none=>trivial
   | mk b r=>rw [ha] at this;exact ⟨this,hk⟩
   | oO k2 b r=>rw [ha] at this;exact ⟨this.1,hk⟩
   | Dy b r=>rw [ha] at this;exact ⟨this,hk⟩
   | ext k2=>rw [ha] at this;exact this
  ·have e:cH g (xP f k fs)=_:=e
   rw [e];exact E0 g
omit [NB G] in
theorem Env.cB {p:Pg} (E:Env P G names p) (f:Nat) (hf:Nat.ble 3840 f=false) (k:PK) (hk:fB P G k f):Env P G names (fG f k p):=by
 obtain ⟨fs,ms⟩:=p
 refine E.Xa f ?_ k hk
 rcases Nat.lt_or_ge f 3840 with g|g
 ·exact g
 ·rw [Nat.ble_eq_true_of_le g] at hf;cases hf
omit [NB G] in
theorem bt {g1 g2:List AV→Hp→RT} {f:Nat} (a:fB P G (.fn g1) f) (b:fB P G (.fn g2) f):fB P G (.fn (fx g1 g2)) f:=by
 intro φ h w args vals hg H hv hs
 have e1:cQ (.fn (fx g1 g2)) args h=fx g1 g2 args h:=rfl
 have e2:cQ (.fn g1) args h=g1 args h:=rfl
 have e3:cQ (.fn g2) args h=g2 args h:=rfl
 rw [e1] at hs ⊢
 unfold fx at hs ⊢
 have A:=a φ h w args vals hg H hv
 have B:=b φ h w args vals hg H hv
 rw [e2] at A
 rw [e3] at B
 cases hx:g1 args h with
 | ok v h'=>rw [hx] at hs A;exact A hs
 | err n=>rw [hx] at hs;exact B hs
 | ch n k=>rw [hx] at hs A;exact A hs
theorem aP (E:Env P G names p) (m f:Nat) (e:aM l0.length v' l' (aj p (exec p m) f args0 (aY l0))=true) (hb:(match cH f p.fs with|.ext _=>false|_=>true)=true:=by kernel_rfl) (k1:Nat.ble l0.length 65536=true:=by kernel_rfl) (k2:Nat.ble l'.length 65536=true:=by kernel_rfl) :
  fB P G (.fn (aD args0 l0 v' l')) f:=Jv E m f (fun k g=>by rw [g] at hb;cases hb) (Nat.le_of_ble_eq_true k1) (Nat.le_of_ble_eq_true k2) e
end
variable {P:Program} {φ:aJ} {h h':Hp} {w:World} {v:AV} {G:Gl}
theorem yR {args:List AV} {k:AV→AV→AV→RV} (hs:(xQ args k).gh.Safe):∃x y z,args=[x,y,z]∧xQ args k=k x y z:=by
 match args,hs with
 | [],hs=>exact (RT.Safe.err hs).elim
 | [_],hs=>exact (RT.Safe.err hs).elim
 | [_,_],hs=>exact (RT.Safe.err hs).elim
 | [x,y,z],_=>exact ⟨x,y,z,rfl,rfl⟩
 | _::_::_::_::_,hs=>exact (RT.Safe.err hs).elim
structure yS (P:Program) (f:Nat) (e:TypeId) (es:Nat):Prop where
 room:∀(w:World) (B o n c q V vo m vc:Nat) (rc rv:Array Value) (eb ev:TypeId) (fz:Nat×Nat) (cs vs:List Value),w.heap[B]?=some (.cells rc eb fz)→w.heap[V]?=some (.cells rv ev (0,0))→V≠B→q < n→0 < m→n+m≤c→n+m≤65536→o+c * es≤rc.size→
  (∀j,j < rc.size→¬ (fz.1≤j∧j < fz.2))→cs.length=n * es→vs.length=m * es→(∀k (hk:k < cs.length),rc[o+k]?=some cs[k])→(∀k (hk:k < vs.length),rv[vo+k]?=some vs[k])→(∀v,v∈cs→v.oneCell'=true)→(∀v,v∈vs→v.oneCell'=true)→
  Calls P f #[.slice (some ⟨B,o,none⟩) n c,.int .i64 q,.slice (some ⟨V,vo,none⟩) m vc] w fun x w'=>x=.returned (.slice (some ⟨B,o,none⟩) (n+m) c)∧
   w'.heap[B]?=some (.cells (pX (pX rc (o+(q+m) * es) (cs.drop (q * es))) (o+q * es) vs) eb fz)∧w'.heap.size=w.heap.size∧(∀d,d≠B→w'.heap[d]?=w.heap[d]?)∧w'.tape=w.tape∧w'.os=w.os∧w'.output=w.output
 grow:∀(w:World) (B o n c q V vo m vc:Nat) (rc rv:Array Value) (eb ev:TypeId) (fz:Nat×Nat) (cs vs:List Value),w.heap[B]?=some (.cells rc eb fz)→w.heap[V]?=some (.cells rv ev (0,0))→V≠B→q < n→0 < m→n≤c→c < n+m→n+m≤65536→
  cs.length=n * es→vs.length=m * es→(∀k (hk:k < cs.length),rc[o+k]?=some cs[k])→(∀k (hk:k < vs.length),rv[vo+k]?=some vs[k])→(∀v,v∈cs→v.oneCell'=true)→(∀v,v∈vs→v.oneCell'=true)→
  Calls P f #[.slice (some ⟨B,o,none⟩) n c,.int .i64 q,.slice (some ⟨V,vo,none⟩) m vc] w fun x w'=>∃(g:Nat) (row:Array Value),x=.returned (.slice (some ⟨w.heap.size,0,none⟩) (n+m) g)∧n+m≤g∧w'.heap[w.heap.size]?=some (.cells row e (0,0))∧row.size=g * es∧
   (∀k (hk:k < (cs.take (q * es) ++ (vs ++ cs.drop (q * es))).length),row[k]?=some (cs.take (q * es) ++ (vs ++ cs.drop (q * es)))[k])∧w'.heap.size=w.heap.size+1∧(∀d,d < w.heap.size→w'.heap[d]?=w.heap[d]?)∧w'.tape=w.tape∧w'.os=w.os∧w'.output=w.output
theorem Xb {rc:Array Value} {b:Nat} {l l':List Value} {k:Nat} (hk:k≤l.length) (hr:b+(l.length+l'.length)≤rc.size) (hl:∀x (hx:x < l.length),rc[b+x]?=some l[x]) (x:Nat) (hx:x < (l.take k ++ (l' ++ l.drop k)).length) :
  (pX (pX rc (b+(k+l'.length)) (l.drop k)) (b+k) l')[b+x]?=some (l.take k ++ (l' ++ l.drop k))[x]:=by
 have hd:(l.drop k).length=l.length - k:=List.length_drop
 have ht:(l.take k).length=k:=by rw [List.length_take];omega
 have hx':=hx
 simp only [List.length_append,hd,ht] at hx'
 rw [fo _ _ _ _ (by rw [bS];omega)]
 by_cases h1:x < k
 ·rw [dif_neg (by omega),fo _ _ _ _ (by rw [hd];omega),dif_neg (by omega),hl x (by omega),List.getElem_append_left (by omega),List.getElem_take]
 ·by_cases h2:x < k+l'.length
  ·rw [dif_pos (by omega),List.getElem_append_right (by omega),List.getElem_append_left (by omega)]
   congr 2
   omega
  ·rw [dif_neg (by omega),fo _ _ _ _ (by rw [hd];omega),dif_pos (by rw [hd];omega),List.getElem_append_right (by omega),List.getElem_append_right (by omega)]
   congr 2
   omega
theorem OX {f e es:Nat} (R:yS P f e es) (hes:0 < es):fB P G (.ins e es) f:=by
 intro φ h w args vals hg H hv hs
 obtain ⟨s,x,y,rfl,e0⟩:=yR (k:=fun s x y=>zZ e es s x y h) hs
 have hp:cQ (.ins e es) [s,x,y] h=(zZ e es s x y h).gh:=rfl
 rw [hp] at hs ⊢
 obtain ⟨r,h',hr⟩:=gW hs
 rw [hr]
 cases hv with
 | cons _ c1 _ _ v1 hv=>cases hv with
 | cons _ c2 _ _ v2 hv=>cases hv with
 | cons _ c3 _ _ v3 hv=>
 cases hv
 unfold zZ at hr
 rcases cX hr with ⟨i,o,l,c,rfl,hr⟩|⟨i,o,n,es',rfl,hr⟩|⟨rfl,hr⟩
 ·cases hr
 ·obtain ⟨kd,z,rfl,hr⟩:=bn hr
  obtain ⟨hkd,hr⟩:=aB hr
  have hkd:kd=.i64:=by cases kd<;>first|rfl|cases hkd
  subst hkd
  cases z with
  | negSucc z=>cases hr
  | ofNat q=>
  have hr:AV.jg y (fun j o2 m _=>wu e es i o n es' q j o2 m h) (fun _ _ _ _=>.err 240) (.err 240) (.err 240)=.ok r h':=hr
  rcases cX hr with ⟨j,o2,m,vc,rfl,hr⟩|⟨_,_,_,_,rfl,hr⟩|⟨rfl,hr⟩
  ·have hr:wu e es i o n es' q j o2 m h=.ok r h':=hr
   unfold wu at hr
   obtain ⟨b1,hr⟩:=aB hr
   obtain ⟨b2,hr⟩:=aB hr
   obtain ⟨b3,hr⟩:=aB hr
   obtain ⟨b4,hr⟩:=aB hr
   obtain ⟨b5,hr⟩:=aB hr
   obtain ⟨ev,k2,ex2,fl2,cl2,hj,hr⟩:=aQ hr
   obtain ⟨b6,hr⟩:=aB hr
   obtain ⟨b7,hr⟩:=aB hr
   have hr:yT e es i n q m (bw (m * es) cl2 o2) h=.ok r h':=hr
   unfold yT at hr
   obtain ⟨eb,k,ex,fl,cl,hi,hr⟩:=aQ hr
   obtain ⟨b8,hr⟩:=aB hr
   obtain ⟨b9,hr⟩:=aB hr
   obtain ⟨b10,hr⟩:=aB hr
   obtain ⟨b11,hz⟩:=aB hr
   have b1:es=es':=Nat.eq_of_beq_eq_true b1
   have b2:o=0:=Nat.eq_of_beq_eq_true b2
   have b3:q < n:=Nat.le_of_ble_eq_true b3
   have b4:0 < m:=Nat.le_of_ble_eq_true b4
   have b7:o2+m * es≤k2:=Nat.le_of_ble_eq_true b7
   have b9:ex=false:=by cases ex<;>first|rfl|cases b9
   have b10:e=eb:=Nat.eq_of_beq_eq_true b10
   have b11:n * es=k:=Nat.eq_of_beq_eq_true b11
   have hij:i≠j:=fun hij=>by
    rw [eB.2 hij] at b5;cases b5
   have hfl2:fl2=.plain:=by cases fl2<;>first|rfl|cases b6
   subst b1 b2 b9 b10 b11 hfl2
   obtain ⟨hcr,hn,hz⟩:=eE hz
   obtain ⟨rfl,rfl⟩:=RV.au hz
   cases v1 with
   | aH _ _ _ _ cap p a hp1 h1 h2 h3 h4 h5 h6=>
   cases v3 with
   | slice _ _ _ _ p2 hp2=>
   have hl:live (av i h):=hi▸aI
   have hl2:live (av j h):=hj▸aI
   obtain ⟨_,hq,hor⟩:=H.obj i hl
   rw [hp1] at hq;cases hq
   rw [hi] at hor
   obtain ⟨rc,fz,g1,g2,g3,g4,g5,g6,g7⟩:=hor
   obtain ⟨_,hq,hor⟩:=H.obj j hl2
   rw [hp2] at hq;cases hq
   rw [hj] at hor
   obtain ⟨rv,fz2,k1,k3,k4,k5,k6,k7,k8⟩:=hor
   cases k8
   have hne:p2.bZ≠p.bZ:=fun e'=>H.inj i j p p2 hl hl2 hij hp1 hp2 e'.symm
   have ha:a=p.addr 0:=fp h3 h4 h5 (by omega)
   obtain ⟨cs,c1,c2,c3,c4⟩:=H.values hi hp1 (n * es) 0 (by omega)
   obtain ⟨vs,u1,u2,u3,u4⟩:=H.values hj hp2 (m * es) o2 b7
   have c5:∀k (hk:k < cs.length),rc[p.base+k]?=some cs[k]:=fun k hk=>by
    have:=c4 k hk
    rw [bV,kN g1,Nat.zero_add] at this
    exact this
   have u5:∀k (hk:k < vs.length),rv[p2.base+o2+k]?=some vs[k]:=fun k hk=>by
    have:=u4 k hk
    rw [bV,kN k1,←Nat.add_assoc] at this
    exact this
   have hroom:=jT (lW (List.append (List.take (Nat.mul q es) (bw (Nat.mul n es) cl 0)) (List.append (bw (m * es) cl2 o2) (List.drop (Nat.mul q es) (bw (Nat.mul n es) cl 0)))))
   have hnm:n+m≤65536:=by
    have h1:(n+m) * 1≤(n+m) * es:=Nat.mul_le_mul_left _ hes
    have h2:(n+m) * es≤_:=hcr
    omega
   have hrel:bX φ (List.append (List.take (Nat.mul q es) (bw (Nat.mul n es) cl 0)) (List.append (bw (m * es) cl2 o2) (List.drop (Nat.mul q es) (bw (Nat.mul n es) cl 0)))) (cs.take (q * es) ++ (vs ++ cs.drop (q * es))):=
    (c2.take _).append (u2.append (c2.drop _))
   have hqn:q * es≤n * es:=Nat.mul_le_mul_right _ (by omega)
   have hsum:=Nat.add_mul n m es
   have hsum2:=Nat.add_mul q m es
   have hlen:(cs.take (q * es) ++ (vs ++ cs.drop (q * es))).length=(n+m) * es:=by
    simp only [List.length_append,List.length_take,List.length_drop]
    omega
   have hone:∀c,c∈cs.take (q * es) ++ (vs ++ cs.drop (q * es))→c.oneCell'=true:=fun c hc=>by
    rcases List.mem_append.1 hc with g|g
    ·exact c3 c (List.mem_of_mem_take g)
    ·rcases List.mem_append.1 g with g|g
     ·exact u3 c g
     ·exact c3 c (List.mem_of_mem_drop g)
   change av h.next (cE i .dead h)=.none at hn
   have hnx:av h.next h=.none:=by
    rw [bj] at hn
    by_cases e':h.next=i
    ·rw [if_pos e'] at hn;cases hn
    ·rwa [if_neg e'] at hn
   have hφ:=H.fresh _ hnx
   have hcell:∀x (hx:x < (cs.take (q * es) ++ (vs ++ cs.drop (q * es))).length) (ψ:aJ),φ.le ψ→VR ψ (dR x (lW (List.append (List.take (Nat.mul q es) (bw (Nat.mul n es) cl 0)) (List.append (bw (m * es) cl2 o2) (List.drop (Nat.mul q es) (bw (Nat.mul n es) cl 0)))))) (cs.take (q * es) ++ (vs ++ cs.drop (q * es)))[x]:=fun x hx ψ hψ=>by
    have hx2:=hx
    rw [←hrel.length] at hx2
    rw [dm _ (by rw [hrel.length,hlen];exact hcr) x hx2]
    exact (hrel.get x hx2 hx).mono hψ
   rw [v2.aR]
   have e1:(some (p2.addr o2):Option Addr)=some ⟨p2.bZ,p2.base+o2,none⟩:=rfl
   rw [ha,show (some (p.addr 0):Option Addr)=some ⟨p.bZ,p.base,none⟩ from rfl,e1]
   by_cases hin:n+m≤cap
   ·have hcap:(n+m) * es≤cap * es:=Nat.mul_le_mul_right _ hin
    refine (R.room w p.bZ p.base n cap q p2.bZ (p2.base+o2) m vc rc rv _ _ fz cs vs g1 k1 hne b3 b4 hin hnm (by omega) (kY b8 g7) c1 u1 c5 u5 c3 u3).mono ?_
    rintro x w' ⟨rfl,r2,r3,r4,r5,r6,r7⟩
    obtain ⟨s1,s2⟩:=H.nk (n':=h.next.succ) hp1 hl hn (q:=⟨p.bZ,p.base,p.room⟩) (w':=w') (.inl rfl)
     (o:=.cells e ((n+m) * es) false fl (lW (List.append (List.take (Nat.mul q es) (bw (Nat.mul n es) cl 0)) (List.append (bw (m * es) cl2 o2) (List.drop (Nat.mul q es) (bw (Nat.mul n es) cl 0)))))) aI (by omega) (by rw [r3];exact H.bound i p hp1) (fun b _ hb=>r4 b hb)
     (by
      refine ⟨_,fz,r2,by rw [bS,bS];exact g2,by simp only;omega,by simp,hcr,fun x hx=>?_,by rw [bS,bS];exact g7⟩
      have hx':x < (cs.take (q * es) ++ (vs ++ cs.drop (q * es))).length:=by rw [hlen];exact hx
      refine ⟨_,?_,hcell x hx' _ (aJ.fC _ hφ),hone _ (List.getElem_mem hx')⟩
      have:=Xb (rc:=rc) (b:=p.base) (l:=cs) (l':=vs) (k:=q * es) (by omega) (by omega) c5 x hx'
      rw [u1,←hsum2] at this
      exact this) r5 r6 r7
    refine ⟨_,_,_,_,.ok _ _,rfl,?_,s1,s2⟩
    refine .aH _ 0 (n+m) es cap ⟨p.bZ,p.base,p.room⟩ ⟨p.bZ,p.base,none⟩ (aJ.aK _ _ _) (by simp only;omega) hin rfl rfl (fun _=>by simp) hes
   ·refine (R.grow w p.bZ p.base n cap q p2.bZ (p2.base+o2) m vc rc rv _ _ fz cs vs g1 k1 hne b3 b4 (by omega) (by omega) hnm c1 u1 c5 u5 c3 u3).mono ?_
    rintro x w' ⟨g,row,rfl,r1,r2,r3,r4,r5,r6,r7,r8,r9⟩
    obtain ⟨s1,s2⟩:=H.nk (n':=h.next.succ) hp1 hl hn (q:=⟨w.heap.size,0,g * es⟩) (w':=w') (.inr rfl)
     (o:=.cells e ((n+m) * es) false fl (lW (List.append (List.take (Nat.mul q es) (bw (Nat.mul n es) cl 0)) (List.append (bw (m * es) cl2 o2) (List.drop (Nat.mul q es) (bw (Nat.mul n es) cl 0)))))) aI (by omega) (by simp only;omega) (fun b hb _=>r6 b hb)
     (by
      refine ⟨row,(0,0),r2,by simp only;omega,Nat.mul_le_mul_right _ r1,by simp,hcr,fun x hx=>?_,vn⟩
      have hx':x < (cs.take (q * es) ++ (vs ++ cs.drop (q * es))).length:=by rw [hlen];exact hx
      refine ⟨_,?_,hcell x hx' _ (aJ.fC _ hφ),hone _ (List.getElem_mem hx')⟩
      simp only [Nat.zero_add]
      exact r4 x hx') r7 r8 r9
    refine ⟨_,_,_,_,.ok _ _,rfl,?_,s1,s2⟩
    exact .aH _ 0 (n+m) es g ⟨w.heap.size,0,_⟩ ⟨w.heap.size,0,none⟩ (aJ.aK _ _ _) (by simp) r1 rfl rfl (fun _=>rfl) hes
  ·cases hr
  ·cases hr
 ·cases hr
end Go.Am
