/- Closed runs, whole and in pieces. Conditions: the table of functions is the program's (Env). -/
import Derived.Test.YtfikinbodiohiaaGreatDoorS2
import Derived.Test.YtfikinbodiohiaaGreatDoorH
import Derived.Test.YtfikinbodiohiaaGreatDoorG0
import Derived.KernelRfl
import Derived.RangeFuncRecord
import Derived.LoopNIn
import Derived.Lib.MakeNoZero
import Derived.Laws.Externs
import Derived.WalkKit
import Derived.MapKept
import Derived.ProofKit
import Derived.OpenShut
import Derived.Lib.LaidTab
import Derived.Handed
set_option linter.all false
namespace Go.Am.Crc
open Go.Am.Seat
set_option maxRecDepth 20000
noncomputable section
def T0 (v0 v3:AV):A2:=.mk (.mk v0 .undef .undef v3 .undef .undef .undef .undef .undef .undef .undef .undef .undef .undef .undef .undef) .nil .nil .nil .nil .nil .nil .nil .nil .nil .nil .nil .nil .nil .nil .nil
def T1 (v2:AV):A2:=.mk (.mk .undef .undef v2 .undef .undef .undef .undef .undef .undef .undef .undef .undef .undef .undef .undef .undef) .nil .nil .nil .nil .nil .nil .nil .nil .nil .nil .nil .nil .nil .nil .nil
def T2 (v3:AV):A2:=.mk (.mk .undef .undef .undef v3 .undef .undef .undef .undef .undef .undef .undef .undef .undef .undef .undef .undef) .nil .nil .nil .nil .nil .nil .nil .nil .nil .nil .nil .nil .nil .nil .nil
def T3 (v3 v7 v8 v9:AV):A2:=.mk (.mk .undef .undef .undef v3 .undef .undef .undef v7 v8 v9 .undef .undef .undef .undef .undef .undef) .nil .nil .nil .nil .nil .nil .nil .nil .nil .nil .nil .nil .nil .nil .nil
def T4 (v3 v7 v8 v9 v17:AV):A2:=.mk (.mk .undef .undef .undef v3 .undef .undef .undef v7 v8 v9 .undef .undef .undef .undef .undef .undef) (.mk .undef v17 .undef .undef .undef .undef .undef .undef .undef .undef .undef .undef .undef .undef .undef .undef) .nil .nil .nil .nil .nil .nil .nil .nil .nil .nil .nil .nil .nil .nil
def Gf:Cf→Iv→(A2→Hp→RS)→A2→Hp→RS:=fun cf iv rx r h=>(fun (x23 x24 x25 x26 x27:AV)=>
 tR (ym x27 (pi 8) h) fun v28 h29=>
 QF v28 (tR (pQ x23 (.int .u32 (.ofNat 1)) h29) fun v30 h31=>
 tR (bK .shr x23 (.int .u64 (.ofNat 1)) h31) fun v32 h33=>
 tR (zW v30 (.int .u32 (.ofNat 1)) h33) fun v34 h35=>
 QF v34 (tR (pR v32 (.int .u32 (.ofNat 3988292384)) h35) fun v36 h37=>
 tR (ko x27 (pi 1) h37) fun v38 h39=>
 .nm (T4 v36 x24 x25 x26 v38) h39) (tR (ko x27 (pi 1) h35) fun v40 h41=>
 .nm (T4 v32 x24 x25 x26 v40) h41)) (.ex 2 (T4 x23 x24 x25 x26 x27) h29)) (ar .h0 .h3 r) (ar .h0 .h7 r) (ar .h0 .h8 r) (ar .h0 .h9 r) (ar .h1 .h1 r)
def kC_3:Cf→Iv→(A2→Hp→RS)→A2→Hp→RS:=fun cf iv rx r h=>(fun (x11 x12 x13 x14:AV)=>
 tR (ix 1 x12 x14 h) fun v15 h16=>
 tR (ld v15 h16) fun v17 h18=>
 tR (cK (.toInt .u32) v17 h18) fun v19 h20=>
 tR (pR x11 v19 h20) fun v21 h22=>
 rx (T4 v21 x12 x13 x14 (pi 0)) h22) (ar .h0 .h3 r) (ar .h0 .h7 r) (ar .h0 .h8 r) (ar .h0 .h9 r)
def wm:Cf→Iv→(A2→Hp→RS)→A2→Hp→RS:=fun cf iv rx r h=>(fun (x42 x43 x44 x45:AV)=>
 tR (ko x45 (pi 1) h) fun v46 h47=>
 .nm (T3 x42 x43 x44 v46) h47) (ar .h0 .h3 r) (ar .h0 .h7 r) (ar .h0 .h8 r) (ar .h0 .h9 r)
def zZ:Cf→Iv→(A2→Hp→RS)→A2→Hp→RS:=fun cf iv rx r h=>(fun (x5 x6 x7 x8:AV)=>
 tR (ym x8 x7 h) fun v9 h10=>
 QF v9 (rx (T3 x5 x6 x7 x8) h10) (.ex 0 (T2 x5) h10)) (ar .h0 .h3 r) (ar .h0 .h7 r) (ar .h0 .h8 r) (ar .h0 .h9 r)
def kC_1:Cf→Iv→(A2→Hp→RS)→A2→Hp→RS:=fun cf iv rx r h=>(fun (x1 x2:AV)=>
 tR (len x1 h) fun v3 h4=>
 rx (T3 x2 x1 v3 (pi 0)) h4) (ar .h0 .h0 r) (ar .h0 .h3 r)
def kC_6:Cf→Iv→(A2→Hp→RS)→A2→Hp→RS:=fun cf iv rx r h=>(fun (x48:AV)=>
 tR (uR x48 h) fun v49 h50=>
 .ret (T1 v49) h50) (ar .h0 .h3 r)
def kC_0:Cf→Iv→(A2→Hp→RS)→A2→Hp→RS:=fun cf iv rx r h=>(fun (x0:AV)=>
 rx (T0 x0 (.int .u32 (.ofNat 4294967295))) h) (ar .h0 .h0 r)
def xC:AC:=(.ah kC_0 (.seq (.ah kC_1 (.block 0 (.loop (.ah zZ (.seq (.block 1 (.ah kC_3 (.block 2 (.loop (.ah Gf .skip))))) (.ah wm .skip)))))) (.ah kC_6 .skip)))
def zC:List Rs:=[.t .h0 .h2]
end
section
variable {cf:Cf} {iv:Iv} {rx:A2→Hp→RS} {h:Hp}
theorem La (x23 x24 x25 x26 x27:AV):Gf cf iv rx (T4 x23 x24 x25 x26 x27) h =
 tR (ym x27 (pi 8) h) fun v28 h29=>
 QF v28 (tR (pQ x23 (.int .u32 (.ofNat 1)) h29) fun v30 h31=>
 tR (bK .shr x23 (.int .u64 (.ofNat 1)) h31) fun v32 h33=>
 tR (zW v30 (.int .u32 (.ofNat 1)) h33) fun v34 h35=>
 QF v34 (tR (pR v32 (.int .u32 (.ofNat 3988292384)) h35) fun v36 h37=>
 tR (ko x27 (pi 1) h37) fun v38 h39=>
 .nm (T4 v36 x24 x25 x26 v38) h39) (tR (ko x27 (pi 1) h35) fun v40 h41=>
 .nm (T4 v32 x24 x25 x26 v40) h41)) (.ex 2 (T4 x23 x24 x25 x26 x27) h29):=rfl
theorem Lb (x11 x12 x13 x14:AV):kC_3 cf iv rx (T3 x11 x12 x13 x14) h =
 tR (ix 1 x12 x14 h) fun v15 h16=>
 tR (ld v15 h16) fun v17 h18=>
 tR (cK (.toInt .u32) v17 h18) fun v19 h20=>
 tR (pR x11 v19 h20) fun v21 h22=>
 rx (T4 v21 x12 x13 x14 (pi 0)) h22:=rfl
theorem BB (x5 x6 x7 x8:AV):zZ cf iv rx (T3 x5 x6 x7 x8) h =
 tR (ym x8 x7 h) fun v9 h10=>
 QF v9 (rx (T3 x5 x6 x7 x8) h10) (.ex 0 (T2 x5) h10):=rfl
theorem Lc (x48:AV):kC_6 cf iv rx (T2 x48) h =
 tR (uR x48 h) fun v49 h50=>
 .ret (T1 v49) h50:=rfl
end
section
variable {cf:Cf} {iv:Iv} {rx:A2→Hp→RS} {h:Hp} {x y z:AV} {p:Pg}
def u32 (n:Nat):AV:=.int .u32 (.ofNat n)
theorem gi (v:AV) (h:Hp) (k:AV→Hp→RS):tR (.ok v h) k=k v h:=rfl
theorem BC (t:Bool) (a b:RS):QF (.bool t) a b=(@Bool.rec (fun _=>RS) b a t):=rfl
theorem Gg (a b:Nat):ym (pi a) (pi b) h=.ok (.bool (Nat.ble (a+1) b)) h:=rfl
theorem kB {c d:Nat} (hc:c < 4294967296) (hd:d < 4294967296):pQ (u32 c) (u32 d) h=.ok (u32 (Nat.land c d)) h:=by
 show RV.ok (.int .u32 (.ofNat (Nat.land (c % 4294967296) (d % 4294967296) % 4294967296))) h=_
 rw [Nat.mod_eq_of_lt hc,Nat.mod_eq_of_lt hd,Nat.mod_eq_of_lt (a:=Nat.land c d) (Nat.lt_of_le_of_lt (show Nat.land c d≤c from Nat.and_le_left) hc)];rfl
theorem oY {c d:Nat} (hc:c < 4294967296) (hd:d < 4294967296):Nat.xor c d < 4294967296:=Nat.xor_lt_two_pow (n:=32) hc hd
theorem Gh {c d:Nat} (hc:c < 4294967296) (hd:d < 4294967296):pR (u32 c) (u32 d) h=.ok (u32 (Nat.xor c d)) h:=by
 show RV.ok (.int .u32 (.ofNat (Nat.xor (c % 4294967296) (d % 4294967296) % 4294967296))) h=_
 rw [Nat.mod_eq_of_lt hc,Nat.mod_eq_of_lt hd,Nat.mod_eq_of_lt (oY hc hd)];rfl
theorem Rc {c:Nat}:bK .shr (u32 c) (.int .u64 (.ofNat 1)) h=.ok (u32 (c / 2)) h:=rfl
theorem Vn {c d:Nat}:zW (u32 c) (u32 d) h=.ok (.bool (Nat.beq c d)) h:=rfl
theorem Aa {a:Nat} (ha:a+1≤9223372036854775807):ko (pi a) (pi 1) h=.ok (pi (a+1)) h:=by
 show RV.ok (.int .i64 (@Bool.rec (fun _=>Int) (IntKind.wrap .i64 (.ofNat (a+1))) (.ofNat (a+1)) (Nat.ble (a+1) 9223372036854775807))) h=_
 rw [Nat.ble_eq_true_of_le ha];rfl
theorem sr {c:Nat} (hc:c < 4294967296):(Nat.land c 1=1∧mz c=Nat.xor (c / 2) 3988292384)∨(Nat.land c 1=0∧mz c=c / 2):=by
 have e:Nat.shiftRight c 1=c / 2:=rfl
 have l:Nat.land c 1=c % 2:=Nat.and_one_is_mod c
 unfold mz
 rw [e,l]
 rcases Nat.mod_two_eq_zero_or_one c with g|g
 ·right;rw [g];exact ⟨rfl,Nat.xor_zero _⟩
 ·left;rw [g];exact ⟨rfl,rfl⟩
theorem BD {c:Nat} (hc:c < 4294967296):mz c < 4294967296:=by
 rcases sr hc with ⟨_,e⟩|⟨_,e⟩<;>rw [e]
 ·exact oY (by omega) (by omega)
 ·omega
theorem k5 (a b c d e:AV):wm cf iv rx (T4 a b c d e) h=tR (ko d (pi 1) h) fun v h=>.nm (T3 a b c v) h:=rfl
theorem Vo {c k:Nat} (hc:c < 4294967296) (hk:k < 8):Gf cf iv rx (T4 (u32 c) x y z (pi k)) h=.nm (T4 (u32 (mz c)) x y z (pi (k+1))) h:=by
 rw [La,Gg,gi,BC,Nat.ble_eq_true_of_le (by omega:k+1≤8)]
 show tR (pQ (u32 c) (u32 1) h) (fun _ _=>_)=_
 rw [kB hc (by omega),gi,Rc,gi]
 show tR (zW (u32 (Nat.land c 1)) (u32 1) h) (fun _ _=>_)=_
 rw [Vn,gi,BC]
 rcases sr hc with ⟨e1,e2⟩|⟨e1,e2⟩
 ·rw [e1,e2]
  show tR (pR (u32 (c / 2)) (u32 3988292384) h) (fun _ _=>_)=_
  rw [Gh (by omega) (by omega),gi,Aa (by omega),gi]
 ·rw [e1,e2]
  show tR (ko (pi k) (pi 1) h) (fun _ _=>_)=_
  rw [Aa (by omega),gi]
def Ld:Nat→Nat→Nat
 | 0,c=>c
 | j+1,c=>Ld j (mz c)
theorem Gi (c:Nat):Ld 8 c=Ab c:=rfl
theorem wo:∀(j c:Nat),c < 4294967296→Ld j c < 4294967296
 | 0,_,h=>h
 | j+1,_,h=>wo j _ (BD h)
noncomputable abbrev L4:AC:=.loop (.ah Gf .skip)
theorem Nc (m:Nat):∀(j c:Nat),c < 4294967296→j≤8→exec p (m+3+j) L4 (T4 (u32 c) x y z (pi (8 - j))) h=.ex 2 (T4 (u32 (Ld j c)) x y z (pi 8)) h
 | 0,c,hc,_=>rfl
 | j+1,c,hc,hj=>by
  rw [show m+3+(j+1)=m+2+j+1+1 by omega]
  show RS.bind (Gf (aD p (exec p (m+2+j))) (aI p (exec p (m+2+j))) (fun r h=>exec p (m+2+j) .skip r h) (T4 (u32 c) x y z (pi (8 - (j+1)))) h) (fun r h=>exec p (m+2+j+1) L4 r h) (fun _ _ _=>_) (fun _ _ _=>_)=_
  rw [Vo hc (by omega),show m+2+j+1=m+3+j by omega]
  show exec p (m+3+j) L4 (T4 (u32 (mz c)) x y z (pi (8 - (j+1)+1))) h=_
  rw [show 8 - (j+1)+1=8 - j by omega]
  exact Nc m j _ (BD hc) (by omega)
noncomputable abbrev B3:AC:=.ah kC_3 (.block 2 L4)
noncomputable abbrev L2:AC:=.loop (.ah zZ (.seq (.block 1 B3) (.ah wm .skip)))
def Rd (x:AV) (h:Hp) (i b:Nat):Prop:=∃q,ix 1 x (pi i) h=.ok q h∧ld q h=.ok (.int .u8 (.ofNat b)) h
theorem Vp (m:Nat) {c i b:Nat} (hc:c < 4294967296) (hr:Rd x h i b) (hb:b≤255):exec p (m+14) B3 (T3 (u32 c) x y (pi i)) h=.nm (T4 (u32 (Ab (Nat.xor c b))) x y (pi i) (pi 8)) h:=by
 obtain ⟨q,e1,e2⟩:=hr
 show kC_3 (aD p (exec p (m+13))) (aI p (exec p (m+13))) (fun r h=>exec p (m+13) (.block 2 L4) r h) (T3 (u32 c) x y (pi i)) h=_
 rw [Lb,e1,gi,e2,gi]
 have e3:cK (.toInt .u32) (.int .u8 (.ofNat b)) h=.ok (u32 b) h:=by
  show RV.ok (.int .u32 (.ofNat (b % 4294967296))) h=_
  rw [Nat.mod_eq_of_lt (by omega)];rfl
 rw [e3,gi]
 rw [Gh hc (by omega),gi]
 show RS.bind (exec p (m+12) L4 (T4 (u32 (Nat.xor c b)) x y (pi i) (pi 0)) h) (fun _ _=>_) (fun _ _ _=>_) (fun _ _ _=>_)=_
 have:=Nc (p:=p) (h:=h) (x:=x) (y:=y) (z:=pi i) (m+1) 8 (Nat.xor c b) (oY hc (by omega)) (Nat.le_refl _)
 rw [Gi] at this
 have e4:exec p (m+12) L4 (T4 (u32 (Nat.xor c b)) x y (pi i) (pi 0)) h=.ex 2 (T4 (u32 (Ab (Nat.xor c b))) x y (pi i) (pi 8)) h:=this
 rw [e4]
 rfl
theorem Nd (m n:Nat) (hn:n < 9223372036854775807):∀(t:List Nat) (i c:Nat),c < 4294967296→i+t.length=n→(∀(j:Nat) (hj:j < t.length),Rd x h (i+j) t[j]∧t[j]≤255)→
  exec p (m+20+t.length) L2 (T3 (u32 c) x (pi n) (pi i)) h=.ex 0 (T2 (u32 (Gj t c))) h
 | [],i,c,hc,hi,_=>by
  have hi:i=n:=by simpa using hi
  subst hi
  have:zZ (aD p (exec p (m+18))) (aI p (exec p (m+18))) (fun r h=>exec p (m+18) (.seq (.block 1 B3) (.ah wm .skip)) r h) (T3 (u32 c) x (pi i) (pi i)) h=.ex 0 (T2 (u32 c)) h:=by
   rw [BB,Gg,gi,BC]
   have:Nat.ble (i+1) i=false:=by rw [Bool.eq_false_iff];intro e;have:=Nat.le_of_ble_eq_true e;omega
   rw [this]
  show RS.bind (zZ (aD p (exec p (m+18))) (aI p (exec p (m+18))) (fun r h=>exec p (m+18) (.seq (.block 1 B3) (.ah wm .skip)) r h) (T3 (u32 c) x (pi i) (pi i)) h) (fun _ _=>_) (fun _ _ _=>_) (fun _ _ _=>_)=_
  rw [this];rfl
 | b::t,i,c,hc,hi,hr=>by
  have hl:i+1+t.length=n:=by simp only [List.length_cons] at hi;omega
  obtain ⟨r0,hb⟩:=hr 0 (by simp)
  have r0:Rd x h i b:=r0
  have hb:b≤255:=hb
  have ih:=Nd m n hn t (i+1) (Ab (Nat.xor c b)) (by rw [←Gi];exact wo 8 _ (oY hc (by omega))) hl (fun j hj=>by
   have:=hr (j+1) (by simpa using hj)
   rw [show i+1+j=i+(j+1) by omega];simpa using this)
  have:zZ (aD p (exec p (m+19+t.length))) (aI p (exec p (m+19+t.length))) (fun r h=>exec p (m+19+t.length) (.seq (.block 1 B3) (.ah wm .skip)) r h) (T3 (u32 c) x (pi n) (pi i)) h=.nm (T3 (u32 (Ab (Nat.xor c b))) x (pi n) (pi (i+1))) h:=by
   rw [BB,Gg,gi,BC,Nat.ble_eq_true_of_le (by omega:i+1≤n)]
   show exec p (m+19+t.length) (.seq (.block 1 B3) (.ah wm .skip)) (T3 (u32 c) x (pi n) (pi i)) h=_
   rw [show m+19+t.length=(m+3+t.length)+14+1+1 by omega]
   show RS.bind (RS.bind (exec p ((m+3+t.length)+14) B3 (T3 (u32 c) x (pi n) (pi i)) h) (fun _ _=>_) (fun _ _ _=>_) (fun _ _ _=>_)) (fun _ _=>_) (fun _ _ _=>_) (fun _ _ _=>_)=_
   rw [Vp _ hc r0 hb]
   show wm (aD p (exec p (m+3+t.length+14))) (aI p (exec p (m+3+t.length+14))) (fun r h=>exec p (m+3+t.length+14) .skip r h) (T4 (u32 (Ab (Nat.xor c b))) x (pi n) (pi i) (pi 8)) h=_
   rw [k5,Aa (by omega),gi]
  rw [show m+20+(b::t).length=m+19+t.length+1+1 by simp only [List.length_cons];omega]
  show RS.bind (zZ (aD p (exec p (m+19+t.length))) (aI p (exec p (m+19+t.length))) (fun r h=>exec p (m+19+t.length) (.seq (.block 1 B3) (.ah wm .skip)) r h) (T3 (u32 c) x (pi n) (pi i)) h) (fun r h=>exec p (m+19+t.length+1) L2 r h) (fun _ _ _=>_) (fun _ _ _=>_)=_
  rw [this,show m+19+t.length+1=m+20+t.length by omega]
  exact ih
theorem Re {c:Nat} (hc:c < 4294967296):uR (u32 c) h=.ok (u32 (Nat.xor 4294967295 c)) h:=by
 show RV.ok (.int .u32 (IntKind.wrap .u32 (BitVec.ofInt 32 4294967295 ^^^ BitVec.ofInt 32 (.ofNat c)).toNat)) h=_
 have e:(BitVec.ofInt 32 4294967295 ^^^ BitVec.ofInt 32 (.ofNat c)).toNat=Nat.xor 4294967295 c:=by
  rw [BitVec.toNat_xor]
  have e1:(BitVec.ofInt 32 4294967295).toNat=4294967295:=rfl
  have e2:(BitVec.ofInt 32 (.ofNat c)).toNat=c:=by
   rw [BitVec.toNat_ofInt]
   show ((Int.ofNat c) % ((2 ^ 32:Nat):Int)).toNat=c
   have:(Int.ofNat c)=(c:Int):=rfl
   rw [this];omega
  rw [e1,e2];rfl
 rw [e]
 have e2:IntKind.wrap .u32 (Int.ofNat (Nat.xor 4294967295 c))=Int.ofNat (Nat.xor 4294967295 c):=by
  rw [←eB]
  show Int.ofNat (Nat.xor 4294967295 c % 4294967296)=_
  rw [Nat.mod_eq_of_lt (oY (by omega) hc)]
 rw [show ((Nat.xor 4294967295 c:Nat):Int)=Int.ofNat (Nat.xor 4294967295 c) from rfl,e2];rfl
theorem BE:∀(t:List Nat) (c:Nat),c < 4294967296→(∀b∈t,b≤255)→Gj t c < 4294967296
 | [],_,hc,_=>hc
 | b :: t, c, hc, hb => BE t _ (by
   have:=hb b (by simp)
   rw [←Gi];exact wo 8 _ (oY hc (by omega))) (fun a ha=>hb a (by simp [ha]))
theorem run (s:List Nat) (hn:s.length < 9223372036854775807) (hl:len x h=.ok (hH s.length) h) (hr:∀(j:Nat) (hj:j < s.length),Rd x h j s[j]∧s[j]≤255) :
  eC zC (exec p (s.length+30) xC (dI [x] 0 .nil) h)=.ok (u32 (Rf s)) h:=by
 have hb:∀b∈s,b≤255:=fun b hb=>by
  obtain ⟨j,hj,rfl⟩:=List.mem_iff_getElem.1 hb
  exact (hr j hj).2
 have hc:Gj s 4294967295 < 4294967296:=BE s _ (by omega) hb
 have e2:=Nd (p:=p) (x:=x) (h:=h) 6 s.length hn s 0 4294967295 (by omega) (by omega) (fun j hj=>by rw [Nat.zero_add];exact hr j hj)
 have e1:exec p (s.length+30) xC (dI [x] 0 .nil) h=.ret (T1 (u32 (Rf s))) h:=by
  show RS.bind (tR (len x h) fun v3 h4=>exec p (s.length+27) (.block 0 L2) (T3 (u32 4294967295) x v3 (pi 0)) h4) (fun r h=>exec p (s.length+28) (.ah kC_6 .skip) r h) (fun _ _ _=>_) (fun _ _ _=>_)=_
  rw [hl,gi]
  show RS.bind (RS.bind (exec p (s.length+26) L2 (T3 (u32 4294967295) x (pi s.length) (pi 0)) h) (fun _ _=>_) (fun _ _ _=>_) (fun _ _ _=>_)) (fun _ _=>_) (fun _ _ _=>_) (fun _ _ _=>_)=_
  rw [show s.length+26=6+20+s.length by omega,e2]
  show kC_6 (aD p (exec p (s.length+27))) (aI p (exec p (s.length+27))) (fun r h=>exec p (s.length+27) .skip r h) (T2 (u32 (Gj s 4294967295))) h=_
  rw [Lc,Re hc,gi];rfl
 rw [e1];rfl
end
section
variable {h h':Hp} {x v:AV} {P:Program} {G:Gl} [NB G] {names:List String} {φ:aJ} {w:World}
theorem fx:∀{l:List AV} {k:List Nat→RV} {q:Nat},hM l k (.err q)=.ok v h'→∃s:List Nat,l=byteCells s∧(∀b∈s,b≤255)∧k s=.ok v h'
 | [],k,q,e=>⟨[],rfl,by simp,e⟩
 | a::l,k,q,e=>by
  obtain ⟨kd,n,rfl,e⟩:=bu e
  obtain ⟨g,e⟩:=aC e
  have gk:kd=.u8:=by cases kd<;>first|rfl|cases g
  subst gk
  cases n with
  | ofNat m=>
   obtain ⟨g,e⟩:=aC e
   obtain ⟨s,rfl,h1,h2⟩:=fx e
   exact ⟨m::s,rfl,by
    intro b hb
    rcases List.mem_cons.1 hb with rfl|hb
    ·exact Nat.le_of_ble_eq_true g
    ·exact h1 b hb,h2⟩
  | negSucc m=>cases e
end
end Go.Am.Crc
namespace Go.Am
section
variable {P:Program} {φ φ':aJ} {h h':Hp} {w w':World} {v:AV} {r:A2} {a:Act} {cv:Value} {n:Nat} {G:Gl} [NB G] {names:List String}
def Le (φ:aJ) (h:Hp) (b:Nat):Prop:=∀i p,live (au i h)→φ i=some p→p.bJ≠b
theorem Le.new (H:HR φ h w) {b:Nat} (hb:w.heap.size≤b):Le φ h b:=fun i p _ hp=>by have:=H.bound i p hp;omega
theorem Le.step {b:Nat} (O:Le φ h b) (hb:b < w.heap.size) (S:Step φ h w φ' h' w'):Le φ' h' b∧w'.heap[b]?=w.heap[b]?:=by
 refine ⟨fun i p hl hp=>?_,S.keeps.rest b hb O⟩
 rcases S.new i p hl hp with ⟨h1,h2⟩|h1|⟨j,q,h1,h2,h3⟩
 ·exact O i p h1 h2
 ·omega
 ·rw [←h3];exact O j q h1 h2
theorem HR.off (H:HR φ h w) (hs:w.heap.size≤w'.heap.size) (hk:∀b,(∃i p,live (au i h)∧φ i=some p∧p.bJ=b)→w'.heap[b]?=w.heap[b]?):HR φ h w' where
 obj i hl:=let ⟨p,h1,h2⟩:=H.obj i hl;⟨p,h1,by rw [hk _ ⟨i,p,hl,h1,rfl⟩];exact h2⟩
 inj:=H.inj
 fresh:=H.fresh
 bound i p hp:=Nat.lt_of_lt_of_le (H.bound i p hp) hs
structure Kp (φ₀:aJ) (h₀:Hp) (w₀:World) (l D:Nat) (rc:Loop) (φ:aJ) (h:Hp) (w:World):Prop where
 hr:HR φ h w
 step:Step φ₀ h₀ w₀ φ h w
 l0:w₀.heap.size≤l
 d0:w₀.heap.size≤D
 ne:D≠l
 Gk:Le φ h l
 Gm:Le φ h D
 Lf:w.heap[l]?=some (.loop rc)
 Uc:w.heap[D]?=some (.deferred (some []))
variable {φ₀:aJ} {h₀:Hp} {w₀:World} {l D:Nat} {rc:Loop}
theorem oZ {b:Nat} {o:Go.Obj} (h:w.heap[b]?=some o):b < w.heap.size:=(Array.getElem?_eq_some_iff.1 h).1
theorem Kp.go (R:Kp φ₀ h₀ w₀ l D rc φ h w) (H:HR φ' h' w') (S:Step φ h w φ' h' w'):Kp φ₀ h₀ w₀ l D rc φ' h' w':=by
 obtain ⟨a1,a2⟩:=R.Gk.step (oZ R.Lf) S
 obtain ⟨b1,b2⟩:=R.Gm.step (oZ R.Uc) S
 exact ⟨H,R.step.trans S,R.l0,R.d0,R.ne,a1,b1,a2.trans R.Lf,b2.trans R.Uc⟩
theorem ss (S:Step φ₀ h₀ w₀ φ h w) (hs:w.heap.size≤w'.heap.size) (hk:∀b,b < w₀.heap.size→w'.heap[b]?=w.heap[b]?) (ht:w'.tape=w.tape) (ho:w'.os=w.os) (hu:w'.output=w.output):Step φ₀ h₀ w₀ φ h w':=
 ⟨S.le,⟨Nat.le_trans S.keeps.size hs,fun b hb hn=>(hk b hb).trans (S.keeps.rest b hb hn),ht.trans S.keeps.tape,ho.trans S.keeps.os,hu.trans S.keeps.output⟩,S.new,S.fr⟩
theorem Kp.put (R:Kp φ₀ h₀ w₀ l D rc φ h w) (rc':Loop):Kp φ₀ h₀ w₀ l D rc' φ h (w.putObj l (.loop rc')) where
 hr:=R.hr.off (by simp) fun b ⟨i,p,hl,hp,e⟩=>World.putObj_heap_other (by rw [←e];exact R.Gk i p hl hp)
 step:=ss R.step (by simp) (fun b hb=>World.putObj_heap_other (by have:=R.l0;omega)) rfl rfl rfl
 l0:=R.l0
 d0:=R.d0
 ne:=R.ne
 Gk:=R.Gk
 Gm:=R.Gm
 Lf:=World.putObj_heap_same (oZ R.Lf)
 Uc:=(World.putObj_heap_other R.ne).trans R.Uc
theorem St.later (S:St n G φ r h a w) (hl:φ.le φ') (H:HR φ' h' w'):St n G φ' r h' a w':=
 ⟨H,fun t ht=>(S.aF t ht).mono hl,S.dJ,S.size,S.fy.mono hl⟩
theorem uS {o:Oper} {i:AI} (hop:cq P G names o=some i):∀c,o.op≠.defer c:=by
 intro c e
 simp only [cq,e] at hop
 cases hop
theorem mA {f:AV→Hp→RT} {y:RT}:∀{x z:RT},x.aG z→z=.ok v h→(f v h).aG y→(RT.elim f (fun n=>.err n) (fun n g=>.ch n g) x).aG y
 | _,_,.ok _ _,e,g=>by cases e;exact g
 | _,_,.err _,e,_=>by cases e
 | _,_,.ch n k c _ hc hl,e,g=>.ch n _ c _ hc (mA hl e g)
theorem su {f:AV→Hp→RT} {q:Nat}:∀{x z:RT},x.aG z→z=.err q→(RT.elim f (fun n=>.err n) (fun n g=>.ch n g) x).aG (.err q)
 | _,_,.ok _ _,e=>by cases e
 | _,_,.err _,e=>by cases e;exact .err _
 | _,_,.ch n k c _ hc hl,e=>.ch n _ c _ hc (su hl e)
theorem Ac {f:AV→Hp→RT} {x:RT} (hs:(RT.elim f (fun n=>.err n) (fun n g=>.ch n g) x).Safe):x.Safe∧∀v h,x.aG (.ok v h)→(f v h).Safe:=
 ⟨fun _ hn=>hs _ (su hn rfl),fun _ _ hl _ hn=>hs _ (mA hl rfl hn)⟩
theorem CX {k:A2→Hp→RT} {i:GI} {l:List GI} (he:(eP k (i::l) r h).Safe) :
  ∃d,(∃y v1 h1,i=.o d (.op y)∧y.run r h=.ok v1 h1∧eP k (i::l) r h=eP k l (bL d v1 r) h1)∨
   (∃s x,i=.o d (.uM s x)∧(hE s (ev x r) h).Safe∧∀v1 h1,(hE s (ev x r) h).aG (.ok v1 h1)→(eP k l (bL d v1 r) h1).Safe∧∀z,(eP k l (bL d v1 r) h1).aG z→(eP k (i::l) r h).aG z):=by
 cases i with
 | o d i=>
  cases i with
  | op y=>
   have e:eP k (.o d (.op y)::l) r h=(RV.rec (fun v h=>eP k l (bL d v r) h) (fun n=>.err n) (y.run r h):RT):=rfl
   cases hy:y.run r h with
   | ok v1 h1=>rw [hy] at e;exact ⟨d,.inl ⟨y,v1,h1,rfl,hy,e⟩⟩
   | err q=>rw [e,hy] at he;exact (RT.Safe.err he).elim
  | uM s x=>
   have e:eP k (.o d (.uM s x)::l) r h=RT.elim (fun v h=>eP k l (bL d v r) h) (fun n=>.err n) (fun n f=>.ch n f) (hE s (ev x r) h):=rfl
   rw [e] at he
   obtain ⟨s1,s2⟩:=Ac he
   refine ⟨d,.inr ⟨s,x,rfl,s1,fun v1 h1 hl=>⟨s2 v1 h1 hl,fun z hz=>?_⟩⟩⟩
   rw [e]
   exact mA hl rfl hz
  | call f xs=>exact (RT.Safe.err he).elim
  | jK x xs=>exact (RT.Safe.err he).elim
  | inv k x xs=>exact (RT.Safe.err he).elim
 | g a b w d i=>exact (RT.Safe.err he).elim
theorem Nf {ops:Array Oper} {o:Oper} {d:aH} {i:AI} (e:fJ P G n names ops o=.o d i) (hi:i≠.op (.bad 400)):o.guard=none∧gA G n o.dst=some d∧cq P G names o=some i:=by
 unfold fJ at e
 split at e
 ·rename_i d' x hd hx
  split at e
  ·rename_i hg
   cases e;exact ⟨hg,hd,hx⟩
  ·split at e
   ·split at e
    ·cases e
    ·cases e;exact absurd rfl hi
   ·cases e;exact absurd rfl hi
 ·cases e;exact absurd rfl hi
abbrev Sd (n:Nat) (G:Gl) (φ:aJ) (r:A2) (h:Hp) (a:Act) (w:World):Prop:=St n G φ r h {a with defers:=[]} w
theorem Sd.Ng (S:Sd n G φ r h a w) {q:Operand} {x:AO} (e:cO G q=some x):VR φ (ev x r) (a.eval q):=by
 have:=St.Ng S e
 cases q<;>exact this
theorem Sd.put (S:Sd n G φ r h a w) {o:Option Tmp} {d:aH} (hd:gA G n o=some d) (hv:VR φ' v cv) (H:HR φ' h' w') (T:Step φ h w φ' h' w'):Sd n G φ' (bL d v r) h' (a.put o cv) w':=by
 have:=St.put S hd hv H T
 cases o<;>exact this
def Vq (os:List Oper) (a a1:Act):Prop:=a1.defers=a.defers∧∀t,(∀o∈os,o.dst≠some t)→a1.tmps.getD t undef=a.tmps.getD t undef
theorem ll {d:Option Tmp} {t:Nat} (hd:d≠some t) (x:Value):(a.put d x).tmps.getD t undef=a.tmps.getD t undef:=by
 cases d with
 | none=>rfl
 | some s=>
  have:s≠t:=fun e=>hd (by rw [e])
  simp [Act.put,Array.getD_eq_getD_getElem?,Array.getElem?_setIfInBounds_ne this]
theorem pa {t:Nat} (ht:t < a.tmps.size) (x:Value):(a.put (some t) x).tmps.getD t undef=x:=by
 simp [Act.put,Array.getD_eq_getD_getElem?,ht]
theorem wq {F:Fence} {m:Nat} (hF:∀f,F.fn f) {ops:Array Oper} {k:A2→Hp→RT} (rest:List Nat):∀(os pre:List Oper) (post:List Oper) (r:A2) (h:Hp) (φ:aJ) (a:Act) (w:World),ops.toList=pre ++ (os ++ post)→Sd n G φ r h a w→
  (eP k (os.map fun o=>fJ P G n names ops o) r h).Safe→
  ∀{Q:Exit→Act→World→Prop},
  (∀r1 h1 φ1 a1 w1,(k r1 h1).Safe→(∀z,(k r1 h1).aG z→(eP k (os.map fun o=>fJ P G n names ops o) r h).aG z)→Sd n G φ1 r1 h1 a1 w1→Step φ h w φ1 h1 w1→Vq os a a1→wpOpsIn F m P ops Q rest a1 w1)→
  wpOpsIn F m P ops Q (List.range' pre.length os.length ++ rest) a w
 | [],pre,post,r,h,φ,a,w,e,S,he,Q,hQ=>hQ r h φ a w he (fun _ hz=>hz) S (.refl _ _ _) ⟨rfl,fun _ _=>rfl⟩
 | o::os,pre,post,r,h,φ,a,w,e,S,he,Q,hQ=>by
  have hoi:ops[pre.length]?=some o:=by rw [←Array.getElem?_toList,e];simp
  rw [List.length_cons,List.range'_succ]
  have hρ:∀q x,cO G q=some x→VR φ (ev x r) (a.eval q):=fun q x e=>Sd.Ng S e
  have next:∀(d:aH) (v1:AV) (h1:Hp) (φ1:aJ) (cv:Value) (w1:World),gA G n o.dst=some d→VR φ1 v1 cv→HR φ1 h1 w1→Step φ h w φ1 h1 w1→(eP k (os.map fun o=>fJ P G n names ops o) (bL d v1 r) h1).Safe→
    (∀z,(eP k (os.map fun o=>fJ P G n names ops o) (bL d v1 r) h1).aG z→(eP k ((o::os).map fun o=>fJ P G n names ops o) r h).aG z)→
    wpOpsIn F m P ops Q (List.range' (pre.length+1) os.length ++ rest) (a.put o.dst cv) w1:=by
   intro d v1 h1 φ1 cv w1 hd hv H1 T1 he1 hl1
   have:=wq (k:=k) hF rest os (pre ++ [o]) post (bL d v1 r) h1 φ1 (a.put o.dst cv) w1 (by rw [e];simp) (Sd.put S hd hv H1 T1) he1 (Q:=Q)
    (fun r2 h2 φ2 a2 w2 hk hl2 S2 T2 ht=>hQ r2 h2 φ2 a2 w2 hk (fun z hz=>hl1 z (hl2 z hz)) S2 (T1.trans T2) ⟨ht.1.trans (by cases o.dst<;>rfl),fun t hn=>(ht.2 t fun o ho=>hn o (by simp [ho])).trans (ll (hn o (by simp)) cv)⟩)
   simpa using this
  show (match ops[pre.length]? with
   | none=>_
   | some o=>_)
  rw [hoi]
  obtain ⟨d,⟨y,v1,h1,hi,hy,he1⟩|⟨s,x,hi,hsn,hl⟩⟩:=CX he
  ·obtain ⟨hg,hd,hop⟩:=Nf hi (fun e=>by cases e;cases hy)
   show if Region.wanted o (yielded ops a.tmps)=true then _ else _
   rw [if_pos (by simp [Region.wanted,hg])]
   refine ⟨fun f _=>hF f,?_⟩
   rw [Oper.semAt_eq _ _ _ (uS hop)]
   obtain ⟨nx,w1,φ1,e1,e2,e3,e4⟩:=BF hρ (fun c=>rfl) hop (show HR φ h w from S.hr) hy
   rw [e1]
   have he2:(eP k (os.map fun o=>fJ P G n names ops o) (bL d v1 r) h1).Safe:=by rw [←he1];exact he
   have hl2:∀z,(eP k (os.map fun o=>fJ P G n names ops o) (bL d v1 r) h1).aG z→(eP k ((o::os).map fun o=>fJ P G n names ops o) r h).aG z:=fun z hz=>by rw [←he1] at hz;exact hz
   rcases e2 with ⟨cv,rfl,hv⟩|⟨rfl,rfl⟩
   ·exact next d v1 h1 φ1 cv w1 hd hv e3 e4 he2 hl2
   ·exact next d .undef h1 φ1 undef w1 hd (.undef _) e3 e4 he2 hl2
  ·obtain ⟨hg,hd,hop⟩:=Nf hi (fun e=>by cases e)
   show if Region.wanted o (yielded ops a.tmps)=true then _ else _
   rw [if_pos (by simp [Region.wanted,hg])]
   refine ⟨fun f _=>hF f,?_⟩
   rw [Oper.semAt_eq _ _ _ (uS hop)]
   obtain ⟨cv,w1,φ1,v2,h2,hlf,e1,hv,e3,e4⟩:=yr hρ hop (show HR φ h w from S.hr) hsn
   rw [e1]
   obtain ⟨q1,q2⟩:=hl v2 h2 hlf
   exact next d _ _ φ1 cv w1 hd hv e3 e4 q1 q2
theorem dZ {F:Fence} {m id:Nat} (hF:∀f,F.fn f) {ops:Array Oper} {l:List GI} (hl:l=ops.toList.map fun o=>fJ P G n names ops o) {k:A2→Hp→RT} (S:Sd n G φ r h a w) (he:(eP k l r h).Safe) {X:RT} (hX:∀z,(eP k l r h).aG z→X.aG z) {Q:Exit→Act→World→Prop}
  (hQ:∀r1 h1 φ1 a1 w1,(k r1 h1).Safe→(∀z,(k r1 h1).aG z→X.aG z)→Sd n G φ1 r1 h1 a1 w1→Step φ h w φ1 h1 w1→Vq ops.toList a a1→Q .normal a1 w1):(Code.region id ops false).wpIn F m P Q a w:=by
 subst hl
 have:=wq (F:=F) (m:=m) hF (ops:=ops) (Q:=Q) [] ops.toList [] [] r h φ a w (by simp) S he (fun r1 h1 φ1 a1 w1 b1 b2 b3 b4 b5=>hQ r1 h1 φ1 a1 w1 b1 (fun z hz=>hX z (b2 z hz)) b3 b4 b5)
 refine wpIn_region ?_
 rw [List.range_eq_range',←Array.length_toList]
 simpa using this
structure yt (P:Program) (G:Gl) (names:List String) (f g:Nat) (l0 l1 k0 kn k2 k3 ra rb l4:List GI) where
 fn:Func
 gn:Func
 i0:Nat
 i1:Nat
 i2:Nat
 i3:Nat
 i4:Nat
 j0:Nat
 j1:Nat
 j2:Nat
 j3:Nat
 o0:Array Oper
 o1:Array Oper
 oa:Array Oper
 ob:Array Oper
 o4:Array Oper
 p0:Array Oper
 p1:Array Oper
 p2:Array Oper
 p3:Array Oper
 om:Oper
 q3:List Oper
 oc:Oper
 on:Oper
 cl:Call
 ty:TypeId
 hf:P.funcs[f]?=some fn
 fb:fn.body=some (.seq (.region i0 o0 false) (.seq (.seq (.region i1 o1 false) (.block 0 (.rangeFunc (.tmp 6) #[7] (.region i2 oa false) (.block 1 (.region i3 ob false))))) (.seq (.region i4 o4 false) .ret)))
 ZC:fn.ntmps=13
 fr:fn.results.toList.mapM (KY P 13)=some [.t .h0 .h4]
 hg:P.funcs[g]?=some gn
 Nh:gn.name≠ "runtime.NumGoroutine"
 gb:gn.body=some (.seq (.region j0 p0 false) (.block 0 (.loop (.seq (.region j1 p1 false) (.seq (.cond (.tmp 7) .skip (.exit 0)) (.block 1 (.seq (.region j2 p2 false) (.seq (.region j3 p3 false) (.cond (.tmp 13) .ret .skip)))))))))
 ZD:gn.ntmps=14
 gr:gn.results.toList.mapM (KY P 14)=some []
 e0:l0=o0.toList.map fun o=>fJ P G 13 names o0 o
 e1:l1=o1.toList.map fun o=>fJ P G 13 names o1 o
 ea:ra=oa.toList.map fun o=>fJ P G 13 names oa o
 eb:rb=ob.toList.map fun o=>fJ P G 13 names ob o
 e4:l4=o4.toList.map fun o=>fJ P G 13 names o4 o
 a0:k0=p0.toList.map fun o=>fJ P G 14 names p0 o
 a1:kn=p1.toList.map fun o=>fJ P G 14 names p1 o
 a2:k2=p2.toList.map fun o=>fJ P G 14 names p2 o
 a3:k3=q3.map fun o=>fJ P G 14 names p3 o
 s3:p3.toList=om::(q3 ++ [oc,on])
 mo:om.op=.move (.tmp 0)∧om.dst=some 10∧om.guard=none
 co:oc.op=.call cl∧cl.callee=.value (.tmp 10)∧cl.args=#[.tmp 11]∧oc.dst=some 12∧oc.guard=none
 no:on.op=.unOp .not ty (.tmp 12)∧on.dst=some 13∧on.guard=none
 b0:∀o∈p0.toList ++ (p1.toList ++ p2.toList),o.dst≠some 0
 b3:∀o∈q3,o.dst≠some 10∧o.dst≠some 0
end
section
variable {P:Program} {φ φ':aJ} {h h':Hp} {w w':World} {v:AV} {r:A2} {a:Act} {cv:Value} {n:Nat} {G:Gl} [NB G] {names:List String}
theorem Gn {x:AV} {k:Nat→List AV→RT} {q:Nat} (e:(Gp x k (.err q)).Safe):∃f cs,x=.fn f cs∧Gp x k (.err q)=k f cs:=by
 cases x<;>first|exact ⟨_,_,rfl,rfl⟩|exact (RT.Safe.err e).elim
theorem Ad {x:AV} {k:Bool→RT} {q:Nat} (e:(qw x k (.err q)).Safe):∃b,x=.bool b∧qw x k (.err q)=k b:=by
 cases x<;>first|exact ⟨_,rfl,rfl⟩|exact (RT.Safe.err e).elim
theorem alloc_old (o:Go.Obj) {b:Nat} (hb:b < w.heap.size):(w.alloc o).heap[b]?=w.heap[b]?:=by
 show (w.heap.push o)[b]?=_
 rw [Array.getElem?_push_lt hb,Array.getElem?_eq_getElem hb]
theorem Rg (S:Sd n G φ r h a w) {t:Nat} (ht:t < 256) {f:Nat} {c:AV} (e:ar (hi t) (lo t) r=.fn f [c]):∃cv,a.tmps.getD t undef=.func (.func f) #[] #[cv]∧VR φ c cv:=by
 have:=S.Lh t ht
 rw [e] at this
 have:VR φ (.fn f [c]) (a.tmps.getD t undef):=this
 generalize a.tmps.getD t undef=z at this
 cases this with
 | fn _ _ vs hvs=>
  cases hvs with
  | cons _ cv _ _ h1 h2=>cases h2;exact ⟨cv,rfl,h1⟩
theorem Gq (S:Sd n G φ r h a w) {t:Nat} (ht:t < 256) {b:Bool} (e:ar (hi t) (lo t) r=.bool b):a.tmps.getD t undef=.bool b:=by
 have:=S.Lh t ht
 rw [e] at this
 exact this.cQ
variable {f g:Nat} {l0 l1 k0 kn k2 k3 ra rb l4:List GI}
theorem Gr (q:Nat):List.range (q+3)=0::(List.range' 1 q ++ [q+1,q+2]):=by
 rw [List.range_eq_range',show q+3=(q+2)+1 by omega,List.range'_succ]
 congr 1
 rw [show q+2=q+2 by rfl,←List.range'_append_1]
 simp [List.range'_succ]
 omega
set_option maxHeartbeats 2000000 in
theorem Li (C:yt P G names f g l0 l1 k0 kn k2 k3 ra rb l4):gh P G (.NU g l0 l1 k0 kn k2 k3 ra rb l4) f:=by
 intro φ h w args vals hg H hv hs
 obtain ⟨X,hX⟩:∃X,dg (.NU g l0 l1 k0 kn k2 k3 ra rb l4) args h=X:=⟨_,rfl⟩
 rw [hX] at hs ⊢
 obtain ⟨s,x,rfl,eX⟩:∃s x,args=[s,x]∧wt g l0 l1 k0 kn k2 k3 ra rb l4 s x h=X:=by
  match args with
  | []=>have:X=.err 154:=hX.symm;rw [this] at hs;exact (RT.Safe.err hs).elim
  | [_]=>have:X=.err 154:=hX.symm;rw [this] at hs;exact (RT.Safe.err hs).elim
  | [s,x]=>exact ⟨s,x,rfl,hX⟩
  | _::_::_::_=>have:X=.err 154:=hX.symm;rw [this] at hs;exact (RT.Safe.err hs).elim
 have e:(wt g l0 l1 k0 kn k2 k3 ra rb l4 s x h).Safe:=by rw [eX];exact hs
 have L:∀z,(wt g l0 l1 k0 kn k2 k3 ra rb l4 s x h).aG z→X.aG z:=fun z hz=>by rw [eX] at hz;exact hz
 have hF:∀f,Fence.wide.fn f:=fun _=>trivial
 have S0:=St.start H hv hg (by simp:[s,x].length≤256) 13
 refine (callsIn_wide (n:=2)).1 (callsIn_of_wp_marks C.hf C.fb trivial ?_)
 rw [C.ZC]
 refine wpIn_seq (dZ hF C.e0 S0 e L ?_)
 intro r1 h1 φ1 a1 w1 e1 L1 S1 T1 K1
 refine wpIn_seq (wpIn_seq (dZ hF C.e1 S1 e1 L1 ?_))
 intro r2 h2 φ2 a2 w2 e2 L2 S2 T2 K2
 have T:=T1.trans T2
 have hd:a2.defers=[]:=K2.1.trans K1.1
 obtain ⟨g',cs,hx,ex⟩:=Gn e2
 have ex:Ni g k0 kn k2 k3 ra rb l4 r2 h2=_:=ex
 rw [ex] at e2 L2
 obtain ⟨hgg,ey⟩:g=g'∧∃c,cs=[c]∧(Ae k0 kn k2 k3 ra rb l4 r2 c h2).Safe∧∀z,(Ae k0 kn k2 k3 ra rb l4 r2 c h2).aG z→X.aG z:=by
  cases hb:Nat.beq g g' with
  | false=>rw [hb] at e2;exact (RT.Safe.err e2).elim
  | true=>
   rw [hb] at e2 L2
   refine ⟨Nat.eq_of_beq_eq_true hb,?_⟩
   match cs with
   | []=>exact (RT.Safe.err e2).elim
   | [c]=>exact ⟨c,rfl,e2,L2⟩
   | _::_::_=>exact (RT.Safe.err e2).elim
 subst hgg
 obtain ⟨c,rfl,ez,Lz⟩:=ey
 clear e2 L2 ex
 obtain ⟨cv,h6,hc⟩:=Rg S2 (t:=6) (by omega) hx
 refine wpIn_block (wpIn_rangeFunc fun fn' _=>?_)
 obtain ⟨D,hD⟩:∃D,D=w2.heap.size:=⟨_,rfl⟩
 obtain ⟨l,hl⟩:∃l,l=w2.heap.size+1:=⟨_,rfl⟩
 obtain ⟨rc,hrc⟩:∃rc:LoopState→Loop,rc=fun st=>{state:=st,pending:=none,fn:=fn',tmps:=a2.tmps,params:=#[7],assign:=.region C.i2 C.oa false,body:=.block 1 (.region C.i3 C.ob false),defers:=D}:=⟨_,rfl⟩
 obtain ⟨W0,hW0⟩:∃W0,W0=(w2.alloc (.deferred (some []))).alloc (.loop (rc .ready)):=⟨_,rfl⟩
 have hsz:W0.heap.size=w2.heap.size+2:=by rw [hW0];simp
 have hold:∀b,b < w2.heap.size→W0.heap[b]?=w2.heap[b]?:=fun b hb=>by
  rw [hW0,alloc_old _ (by simp;omega),alloc_old _ hb]
 have H2:HR φ2 h2 w2:=S2.hr
 have R0:Kp φ h w l D (rc .ready) φ2 h2 W0:={
  hr:=H2.ext (by omega) hold
  step:=ss T (by omega) (fun b hb=>hold b (Nat.lt_of_lt_of_le hb T.keeps.size)) (by rw [hW0];rfl) (by rw [hW0];rfl) (by rw [hW0];rfl)
  l0:=by have:=T.keeps.size;omega
  d0:=by have:=T.keeps.size;omega
  ne:=by omega
  Gk:=Le.new H2 (by omega)
  Gm:=Le.new H2 (by omega)
  Lf:=by
   rw [hW0,hl]
   have:=World.alloc_heap_new (w2.alloc (.deferred (some []))) (.loop (rc .ready))
   simpa using this
  Uc:=by
   rw [hW0,hD,alloc_old _ (by simp)]
   exact World.alloc_heap_new w2 _}
 -- what comes behind the range
 have fin:∀(φ3:aJ) (h3:Hp) (w3:World),Kp φ h w l D (rc .ready) φ3 h3 w3→φ2.le φ3→(uU l4 r2 h3).Safe→(∀z,(uU l4 r2 h3).aG z→X.aG z)→∃w4,(Instr.endLoop l).run P w3=.ok none w4∧
   (Code.seq (.region C.i4 C.o4 false) .ret).wpIn Fence.wide 2 P (bodyPostM Fence.wide 2 P C.fn (dz φ h w X)) {a2 with defers:={target:=.collected D,args:=#[]}::a2.defers} w4:=by
  intro φ3 h3 w3 R le e L
  refine ⟨w3.putObj l (.loop {rc .ready with state:=.exhausted}),by
   have:=run_endLoop (P:=P) R.Lf (by rw [hrc];simp)
   rw [this,hrc],?_⟩
  have R4:=R.put {rc .ready with state:=.exhausted}
  have S4:Sd 13 G φ3 r2 h3 {a2 with defers:={target:=.collected D,args:=#[]}::a2.defers} (w3.putObj l (.loop {rc .ready with state:=.exhausted})):=St.later S2 le R4.hr
  refine wpIn_seq (dZ hF C.e4 S4 e L ?_)
  intro r5 h5 φ5 a5 w5 e L S5 T5 K5
  have R5:=R4.go S5.hr T5
  refine wpIn_ret ?_
  show LeavesInM Fence.wide 2 P C.fn a5.tmps _ a5.defers .returning w5
  rw [K5.1]
  refine ⟨by simp,.inl ⟨D,_,rfl,run_takeDeferred R5.Uc,?_⟩⟩
  rw [hd]
  have H6:HR φ5 h5 (w5.putObj D (.deferred none)):=R5.hr.off (by simp) fun b ⟨i,p,hl,hp,e⟩=>World.putObj_heap_other (by rw [←e];exact R5.Gm i p hl hp)
  have S6:=St.later S5 (aJ.le_refl _) H6
  obtain ⟨_,cv5,hres,hv5⟩:=gB (fn:=C.fn) (v:=ar .h0 .h4 r5) (h':=h5) S6 C.fr rfl
  exact ⟨cv5,hres,ar .h0 .h4 r5,h5,cv5,φ5,L _ (.ok _ _),rfl,hv5,H6,ss R5.step (by simp) (fun b hb=>World.putObj_heap_other (by have:=R5.d0;omega)) rfl rfl rfl⟩
 have eg:∀args w,(callFunc g args).run P w=.ok (.enter g args) w:=fun args w=>eQ C.hg C.Nh C.gb
 refine ⟨l,[{target:=.collected D,args:=#[]}],W0,{target:=.fn (.func g) #[cv],args:=#[.func (.yield l) #[] #[]]},W0,g,#[.func (.yield l) #[] #[],cv],W0,?_,?_,fun _ _=>trivial,?_,fun _=>by omega,?_⟩
 ·rw [hW0,hrc,hl,hD]
  exact run_enterLoop_outer _ _ _ _ _
 ·have h6s:a2.tmps[6]?.getD undef=.func (.func g) #[] #[cv]:=by rw [←Array.getD_eq_getD_getElem?];exact h6
  simp [resolve,go_sem,h6s]
 ·simp [invoke,go_sem,eg]
 refine callsIn_of_wp C.hg C.gb trivial ?_
 rw [C.ZD]
 have Sg:=St.start (vals:=[.func (.yield l) #[] #[],cv]) R0.hr (.cons _ _ _ _ (.undef _) (.cons _ _ _ _ hc .nil)) S2.fy (by simp:[AV.undef,c].length≤256) 14
 refine wpIn_seq (dZ hF C.a0 Sg ez Lz ?_)
 intro q1 h3 φ3 b1 w3 e3 L3 Sq1 T3 K3
 have y1:b1.tmps.getD 0 undef=.func (.yield l) #[] #[]:=K3.2 0 fun o ho=>C.b0 o (by simp [ho])
 refine wpIn_block (wpIn_loop_rounds 13 ?_)
 rw [roundsIn_succ]
 have over:∀(q:A2) (h3:Hp) (φ3:aJ) (b:Act) (w3:World),Sd 14 G φ3 q h3 b w3→b.defers=[]→Kp φ h w l D (rc .ready) φ3 h3 w3→φ2.le φ3→(uU l4 r2 h3).Safe→(∀z,(uU l4 r2 h3).aG z→X.aG z)→
   b.defers=[]∧∃x,(results C.gn b.tmps).run P w3=.ok x w3∧∃w4,(Instr.endLoop l).run P w3=.ok none w4∧
   (Code.seq (.region C.i4 C.o4 false) .ret).wpIn Fence.wide 2 P (bodyPostM Fence.wide 2 P C.fn (dz φ h w X)) {a2 with defers:={target:=.collected D,args:=#[]}::a2.defers} w4:=by
  intro q h3 φ3 b w3 S hb R le e L
  obtain ⟨_,x,hres,_⟩:=gB (fn:=C.gn) (v:=cA) (h':=h3) S C.gr rfl
  exact ⟨hb,x,hres,fin φ3 h3 w3 R le e L⟩
 -- the rounds
 refine wpIn_seq (dZ hF C.a1 Sq1 e3 L3 ?_)
 intro q2 h4 φ4 b2 w4 e4 L4 Sq2 T4 K4
 have y2:b2.tmps.getD 0 undef=.func (.yield l) #[] #[]:=(K4.2 0 fun o ho=>C.b0 o (by simp [ho])).trans y1
 have R1:=R0.go Sq1.hr T3
 have R2:=R1.go Sq2.hr T4
 have le4:φ2.le φ4:=aJ.le_trans T3.le T4.le
 have d2:b2.defers=[]:=K4.1.trans K3.1
 clear e3 L3 K3 K4 y1 Sq1 T3 T4 R1
 generalize (12:Nat)=fuel at e4 L4 ⊢
 induction fuel generalizing q2 h4 φ4 b2 w4 with
 | zero=>exact (RT.Safe.err e4).elim
 | succ fuel ih=>
 obtain ⟨t,ht,e5⟩:=Ad (show (qw (ar .h0 .h7 q2) (fun t=>(@Bool.rec (fun _=>RT) (uU l4 r2 h4) (BG (Af kn k2 k3 ra rb l4 r2 fuel) kn k2 k3 ra rb r2 q2 h4) t:RT)) (.err 156)).Safe from e4)
 have e5:Af kn k2 k3 ra rb l4 r2 (fuel+1) q2 h4=_:=e5
 rw [e5] at e4 L4
 have h7:b2.eval (.tmp 7)=.bool t:=Gq Sq2 (t:=7) (by omega) ht
 cases t with
 | false=>
  obtain ⟨c1,x,c2,w5,c3,c4⟩:=over q2 h4 φ4 b2 w4 Sq2 d2 R2 le4 e4 L4
  exact wpIn_seq (wpIn_cond_false h7 (wpIn_exit ⟨c1,x,c2,none,w5,c3,c4⟩))
 | true=>
  refine wpIn_seq (wpIn_cond_true h7 (wpIn_skip ?_))
  refine wpIn_block (wpIn_seq (dZ hF C.a2 Sq2 e4 L4 ?_))
  intro q3 h5 φ5 b3 w5 e6 L6 Sq3 T5 K5
  have y3:b3.eval (.tmp 0)=.func (.yield l) #[] #[]:=(K5.2 0 fun o ho=>C.b0 o (by simp [ho])).trans y2
  refine wpIn_seq (wpIn_region ?_)
  have hsz3:C.p3.size=C.q3.length+3:=by rw [←Array.length_toList,C.s3];simp
  rw [hsz3,Gr]
  show (match C.p3[0]? with
   | none=>_
   | some o=>_)
  rw [show C.p3[0]?=some C.om by rw [←Array.getElem?_toList,C.s3];rfl]
  show if Region.wanted C.om (yielded C.p3 b3.tmps)=true then _ else _
  rw [if_pos (by simp [Region.wanted,C.mo.2.2])]
  refine ⟨fun f _=>trivial,?_⟩
  rw [Oper.semAt_eq _ _ _ (fun c e=>by rw [C.mo.1] at e;cases e)]
  have hm:(execOp b3.eval C.om).run P w5=.ok (.value (b3.eval (.tmp 0))) w5:=by simp [execOp,C.mo.1,go_sem]
  rw [hm]
  show wpOpsIn _ _ _ _ _ _ (b3.put C.om.dst (b3.eval (.tmp 0))) w5
  have Sq4:Sd 14 G φ5 (dj .h0 .ha .undef q3) h5 (b3.put C.om.dst (b3.eval (.tmp 0))) w5:=Sd.put Sq3 (d:=.t .h0 .ha) (by rw [C.mo.2.1];exact qx (by omega) (by omega)) (.undef _) Sq3.hr (.refl _ _ _)
  have le5:φ2.le φ5:=aJ.le_trans le4 T5.le
  have R3:=R2.go Sq3.hr T5
  have s0:(b3.put C.om.dst (b3.eval (.tmp 0))).tmps.getD 0 undef=.func (.yield l) #[] #[]:=by rw [ll (by rw [C.mo.2.1];simp)];exact y3
  refine wq hF [C.q3.length+1,C.q3.length+2] C.q3 [C.om] [C.oc,C.on] (dj .h0 .ha .undef q3) h5 φ5 (b3.put C.om.dst (b3.eval (.tmp 0))) w5 C.s3 Sq4 (by rw [←C.a3];exact e6) ?_
  intro q5 h6 φ6 b5 w6 e7 L7 Sq5 T6 K6
  rw [←C.a3] at L7
  have L7:=fun z hz=>L6 z (L7 z hz)
  have y5:b5.tmps.getD 10 undef=.func (.yield l) #[] #[]:=by
   rw [K6.2 10 (fun o ho=>(C.b3 o ho).1),C.mo.2.1,pa (a:=b3) (Nat.lt_of_lt_of_le (by omega) Sq3.size),y3]
  have y50:b5.tmps.getD 0 undef=.func (.yield l) #[] #[]:=(K6.2 0 (fun o ho=>(C.b3 o ho).2)).trans s0
  have le6:φ2.le φ6:=aJ.le_trans le5 T6.le
  have R4:=R3.go Sq5.hr T6
  have d5:b5.defers=[]:=K6.1.trans ((show (b3.put C.om.dst (b3.eval (.tmp 0))).defers=b3.defers by cases C.om.dst<;>rfl).trans (K5.1.trans d2))
  show (match C.p3[C.q3.length+1]? with
   | none=>_
   | some o=>_)
  rw [show C.p3[C.q3.length+1]?=some C.oc by rw [←Array.getElem?_toList,C.s3];simp]
  show if Region.wanted C.oc (yielded C.p3 b5.tmps)=true then _ else _
  rw [if_pos (by simp [Region.wanted,C.co.2.2.2.2])]
  refine ⟨fun f _=>trivial,?_⟩
  rw [Oper.semAt_eq _ _ _ (fun c e=>by rw [C.co.1] at e;cases e)]
  have hcall:(execOp b5.eval C.oc).run P w6=.ok (.round l fn' (a2.tmps.setIfInBounds 7 (b5.eval (.tmp 11))) (.region C.i2 C.oa false) (.block 1 (.region C.i3 C.ob false))) w6:=by
   have y5s:b5.tmps[10]?.getD undef=.func (.yield l) #[] #[]:=by rw [←Array.getD_eq_getD_getElem?];exact y5
   have hy:=run_yield (P:=P) (args:=#[b5.eval (.tmp 11)]) R4.Lf (by rw [hrc];rfl)
   have:(execOp b5.eval C.oc).run P w6=(Instr.yield l #[b5.eval (.tmp 11)]).run P w6:=by
    simp [execOp,C.co.1,resolve,C.co.2.1,C.co.2.2.1,invoke,go_sem,y5s]
   rw [this]
   simpa [hrc] using hy
  rw [hcall]
  refine ⟨fun _=>by omega,roundIn_of_wpIn trivial ?_⟩
  have Sr:Sd 13 G φ6 (dj .h0 .h7 (ar .h0 .hb q5) r2) h6 {tmps:=a2.tmps.setIfInBounds 7 (b5.eval (.tmp 11)),defers:=[]} w6:=
   St.put (St.later S2 le6 Sq5.hr) (o:=some 7) (d:=.t .h0 .h7) (qx (by omega) (by omega)) (Sd.Ng (q:=.tmp 11) (x:=.t .h0 .hb) Sq5 (Vr (by omega))) Sq5.hr (.refl _ _ _)
  refine dZ (fun _=>trivial) C.ea Sr e7 L7 ?_
  intro r6 h7' φ7 a6 w7 e8 L8 Sr6 T7 K7
  have R5:=R4.go Sr6.hr T7
  refine ⟨_,run_beginRound R5.Lf (by rw [hrc]),?_⟩
  have R6:=R5.put {rc .ready with state:=.busy}
  refine wpIn_block (dZ (fun _=>trivial) C.eb (St.later Sr6 (aJ.le_refl _) R6.hr) e8 L8 ?_)
  intro _ h8 φ8 a7 w8 e9 L9 Sr7 T8 K8
  have R7:=R6.go Sr7.hr T8
  refine ⟨_,_,run_endRound none R7.Lf,?_⟩
  have R8:Kp φ h w l D (rc .ready) φ8 h8 (w8.putObj l (.loop {{rc .ready with state:=.busy} with state:=if (none:Option Code).isNone then .ready else .done,pending:=none})):=by
   have:=R7.put (rc .ready)
   rw [hrc] at this ⊢
   exact this
  obtain ⟨w9,hw9⟩:∃w9,w9=w8.putObj l (.loop {{rc .ready with state:=.busy} with state:=if (none:Option Code).isNone then .ready else .done,pending:=none}):=⟨_,rfl⟩
  rw [←hw9] at R8 ⊢
  show wpOpsIn _ _ _ _ _ [C.q3.length+2] (b5.put C.oc.dst (.bool true)) w9
  have le8:φ6.le φ8:=aJ.le_trans T7.le T8.le
  have Sq6:Sd 14 G φ8 (dj .h0 .hc .undef q5) h8 (b5.put C.oc.dst (.bool true)) w9:=Sd.put (St.later Sq5 le8 R8.hr) (d:=.t .h0 .hc) (by rw [C.co.2.2.2.1];exact qx (by omega) (by omega)) (.undef _) R8.hr (.refl _ _ _)
  have y12:(b5.put C.oc.dst (.bool true)).tmps.getD 12 undef=.bool true:=by
   rw [C.co.2.2.2.1,pa (a:=b5) (Nat.lt_of_lt_of_le (by omega) Sq5.size)]
  show (match C.p3[C.q3.length+2]? with
   | none=>_
   | some o=>_)
  rw [show C.p3[C.q3.length+2]?=some C.on by rw [←Array.getElem?_toList,C.s3];simp]
  show if Region.wanted C.on (yielded C.p3 (b5.put C.oc.dst (.bool true)).tmps)=true then _ else _
  rw [if_pos (by simp [Region.wanted,C.no.2.2])]
  refine ⟨fun f _=>trivial,?_⟩
  rw [Oper.semAt_eq _ _ _ (fun c e=>by rw [C.no.1] at e;cases e)]
  have hnot:(execOp (b5.put C.oc.dst (.bool true)).eval C.on).run P w9=.ok (.value (.bool false)) w9:=by
   have y12s:(b5.put C.oc.dst (.bool true)).tmps[12]?.getD undef=.bool true:=by rw [←Array.getD_eq_getD_getElem?];exact y12
   generalize b5.put C.oc.dst (.bool true)=b at y12s ⊢
   simp [execOp,C.no.1,go_sem,y12s,Op.unary]
  rw [hnot]
  obtain ⟨b6,hb6⟩:∃b6,b6=(b5.put C.oc.dst (.bool true)).put C.on.dst (.bool false):=⟨_,rfl⟩
  have Sq7:Sd 14 G φ8 (dj .h0 .hd .undef (dj .h0 .hc .undef q5)) h8 b6 w9:=by
   rw [hb6];exact Sd.put Sq6 (d:=.t .h0 .hd) (by rw [C.no.2.1];exact qx (by omega) (by omega)) (.undef _) Sq6.hr (.refl _ _ _)
  have d6:b6.defers=[]:=by
   rw [hb6]
   have:∀(b:Act) (d:Option Tmp) (x:Value),(b.put d x).defers=b.defers:=fun b d x=>by cases d<;>rfl
   rw [this,this,d5]
  have y13:b6.eval (.tmp 13)=.bool false:=by
   rw [hb6,C.no.2.1]
   exact pa (a:=b5.put C.oc.dst (.bool true)) (Nat.lt_of_lt_of_le (by omega) Sq6.size) _
  have y60:b6.tmps.getD 0 undef=.func (.yield l) #[] #[]:=by
   rw [hb6,ll (by rw [C.no.2.1];simp),ll (by rw [C.co.2.2.2.1];simp)];exact y50
  show Code.wpIn _ _ _ (Code.cond (.tmp 13) .ret .skip) _ ((b5.put C.oc.dst (.bool true)).put C.on.dst (.bool false)) w9
  rw [←hb6]
  refine wpIn_cond_false y13 (wpIn_skip ?_)
  show Code.roundsIn _ _ _ _ _ (fuel+1) b6 w9
  rw [roundsIn_succ]
  refine wpIn_seq (dZ hF C.a1 Sq7 e9 L9 ?_)
  intro q7 h9 φ9 b7 w10 e10 L10 Sq8 T9 K9
  exact ih q7 h9 φ9 b7 w10 Sq8 ((K9.2 0 fun o ho=>C.b0 o (by simp [ho])).trans y60) (R8.go Sq8.hr T9) (aJ.le_trans le6 (aJ.le_trans le8 T9.le)) (K9.1.trans d6) e10 L10
end
variable {P:Program} {φ:aJ} {h h':Hp} {w:World} {v:AV} {r:A2} {cx cy:Value} {G:Gl} {f:Nat} {fn:Func}
theorem mB {args:List AV} {k:AV→RV} (hs:(sv args k).kr.Safe):∃x,args=[x]∧sv args k=k x:=by
 cases args with
 | nil=>exact (RT.Safe.err hs).elim
 | cons a t=>cases t with
  | nil=>exact ⟨a,rfl,rfl⟩
  | cons b t=>exact (RT.Safe.err hs).elim
theorem Gs (hf:P.funcs[f]?=some fn) (hname:(fn.name == "runtime.NumGoroutine")=false) (hb:fn.body.isNone=true) (hn:Extern.findNext fn=none) (he:Extern.find fn=some Extern.AbiNoEscape.same):iH P G .Gt f:=by
 intro φ h w args vals hg H hv hs
 obtain ⟨x,rfl,e⟩:=mB (k:=fun x=>.ok x h) hs
 cases hv with
 | cons a c as cs h1 h2=>
  cases h2
  refine ⟨c,w,?_,x,h,c,φ,.ok _ _,rfl,h1,H,.refl _ _ _⟩
  rw [run_callFunc_extern hf hname hb hn he]
  rfl
theorem uW:∀(n t:Nat) (acc:Array Value),(∀x,x∈acc→x.oneCell'=true)→∀x,x∈Extern.BytealgMakeNoZero.digits n t acc→x.oneCell'=true
 | 0,_,_,ha=>ha
 | n+1,t,acc,ha=>uW n _ _ fun x hx=>by
  rcases Array.mem_push.1 hx with g|g
  ·exact ha x g
  ·rw [g];rfl
theorem Gu (w:World) (ps:Array TypeId) (t e:TypeId) (ht:P.underlying t=some (.slice e)) (n:Nat) (hn:n≤281474976710656) :
  ∃cs:Array Value,(Extern.BytealgMakeNoZero.makeNoZero ps #[t] #[.int .i64 n]).run P w=.ok (.slice (some ⟨w.heap.size,0,none⟩) n cs.size) (w.drew.drew.alloc (.cells cs e))∧n≤cs.size∧∀x,x∈cs→x.oneCell'=true:=by
 have hdef:Extern.BytealgMakeNoZero.makeNoZero ps #[t] #[.int .i64 n] =
   (do
    let .slice elem←underlying t|stuck "bytealg.MakeNoZero: slice type expected"
    if (n:Int) < 0 || (n:Int) > 2 ^ 48 then runtimePanic (.error "makeslice: len out of range")
    let cap←choose (.appendCap (n:Int).toNat 0 elem)
    askRoom cap
    let bytes←choose (.extern "internal/bytealg.MakeNoZero.bytes" 0)
    let a←newRow elem (Extern.BytealgMakeNoZero.digits cap bytes #[])
    pure (.slice (some a) (n:Int).toNat cap)):=rfl
 refine ⟨Extern.BytealgMakeNoZero.digits (grownCap w n 0 e) ((Question.extern "internal/bytealg.MakeNoZero.bytes" 0).cut (w.tape (w.drawn+1) (.extern "internal/bytealg.MakeNoZero.bytes" 0))) #[],?_,?_,uW _ _ _ (by simp)⟩
 ·rw [hdef]
  have h1:¬ (n:Int) < 0:=by omega
  have h2:¬ (281474976710656:Int) < (n:Int):=by omega
  simp [run_underlying ht,h1,h2,Question.forced,newRow,Lib.size_digits,grownCap]
 ·rw [Lib.size_digits]
  simpa using grownCap_ge w n 0 e
theorem Lj {ps:Array TypeId} {t el:TypeId} (hf:P.funcs[f]?=some fn) (hname:(fn.name == "runtime.NumGoroutine")=false) (hb:fn.body.isNone=true) (hn:Extern.findNext fn=none) (he:Extern.find fn=some (Extern.BytealgMakeNoZero.makeNoZero ps #[t])) (ht:P.underlying t=some (.slice el)):iH P G (.Lk el) f:=by
 intro φ h w args vals hg H hv hs
 obtain ⟨x,rfl,e⟩:=mB (k:=fun x=>Ag el x h) hs
 have hp:dg (.Lk el) [x] h=(Ag el x h).kr:=rfl
 rw [hp] at hs ⊢
 obtain ⟨v,h',hr⟩:=gC hs
 rw [hr]
 obtain ⟨k,n,rfl,e1⟩:=bu hr
 obtain ⟨hk,e1⟩:=aC e1
 have hk:k=.i64:=by cases k<;>first|rfl|cases hk
 subst hk
 cases n with
 | negSucc n=>cases e1
 | ofNat n=>
  obtain ⟨hb1,e1⟩:=aC e1
  have hb1:n≤65536:=Nat.le_of_ble_eq_true hb1
  obtain ⟨hr1,hn1,e2⟩:=eR e1
  obtain ⟨rfl,rfl⟩:=RV.av e2
  cases hv with
  | cons a c as cs h1 h2=>
   cases h2
   rw [h1.aU]
   obtain ⟨cs,hrun,hcs,hone⟩:=Gu (P:=P) w ps t el ht n (by omega)
   have hlen:(dP n [AV.undef]).length=n:=by rw [eM];simp
   obtain ⟨g1,g2⟩:=H.nB (n':=h.next.succ) (w':=w.drew.drew.alloc (.cells cs el)) hn1
    (rc:=cs) (el:=el) (n:=(dP n [AV.undef]).length) (ex:=false) (fl:=.plain) (fz:=(0,0)) (c:=mu (dP n [AV.undef]))
    (by rw [hlen];exact hcs) (by simp) hr1
    (fun k hk=>by
     rw [hlen] at hk
     refine ⟨cs[k],Array.getElem?_eq_getElem (by omega),?_,hone _ (Array.getElem_mem _)⟩
     rw [dA _ hr1 k (by rw [hlen];exact hk)]
     have:(dP n [AV.undef])[k]'(by rw [hlen];exact hk)=.undef:=by rw [js n [AV.undef] k _ (by simp [Nat.mod_one])];simp
     rw [this]
     exact .undef _) rfl rfl rfl rfl rfl
   refine ⟨.slice (some ⟨w.heap.size,0,none⟩) n cs.size,w.drew.drew.alloc (.cells cs el),?_,_,_,_,_,.ok _ _,rfl,?_,g1,g2⟩
   ·rw [run_callFunc_extern hf hname hb hn he]
    show ((Extern.BytealgMakeNoZero.makeNoZero ps #[t] #[.int .i64 (Int.ofNat n)]).run P w).andThen _=_
    rw [show (Int.ofNat n)=((n:Nat):Int) from rfl,hrun]
    rfl
   ·refine .fX _ 0 n 1 cs.size ⟨w.heap.size,0,_⟩ ⟨w.heap.size,0,none⟩ (aJ.aL _ _ _) ?_ hcs rfl rfl (fun _=>rfl) (by omega)
    simp
theorem Gv {P:Program} {G:Gl} {f:Nat} {fn:Func} (hf:P.funcs[f]?=some fn) (hname:(fn.name == "runtime.NumGoroutine")=false) (hb:fn.body.isNone=true) (hn:Extern.findNext fn=none) (he:Extern.find fn=some (Extern.MathFloor.toIntegral "math.archTrunc" .zero)):iH P G .BH f:=by
 intro φ h w args vals hg H hv hs
 obtain ⟨x,rfl,e⟩:=mB (k:=fun x=>wu x h) hs
 have hp:dg .BH [x] h=(wu x h).kr:=rfl
 rw [hp] at hs ⊢
 obtain ⟨v,h',hr⟩:=gC hs
 rw [hr]
 obtain ⟨k,n,rfl,e1⟩:=dQ hr
 obtain ⟨hk,e1⟩:=aC e1
 have hk:k=.f64:=by cases k<;>first|rfl|cases hk
 subst hk
 have e1:(match FloatKind.f64.decode n with|.nan _ _=>RV.err 180|d=>.ok (.fi .f64 (FloatKind.f64.encode (d.integral .zero))) h)=.ok v h':=e1
 cases hv with
 | cons a c as cs h1 h2=>
  cases h2
  rw [h1.ln]
  have hdef:Extern.MathFloor.toIntegral "math.archTrunc" .zero #[Value.float .f64 n]=(match FloatKind.f64.decode n with
    | .nan s t=>
     if FloatKind.f64.format.quiet t=t then pure (.float .f64 n) else do
     let kept←choose (.extern "math.Floor,Ceil,Trunc,RoundToEven.signallingNaN kept" 2)
     pure (.float .f64 (if kept == 1 then n else FloatKind.f64.encode (.nan s (FloatKind.f64.format.quiet t))))
    | d=>pure (.float .f64 (FloatKind.f64.encode (d.integral .zero)))):=rfl
  cases hd:FloatKind.f64.decode n with
  | nan s t=>rw [hd] at e1;cases e1
  | infinity s=>
   rw [hd] at e1
   obtain ⟨rfl,rfl⟩:=RV.av e1
   refine ⟨_,w,?_,_,h,_,φ,.ok _ _,rfl,.fi _ _,H,.refl _ _ _⟩
   rw [run_callFunc_extern hf hname hb hn he]
   show ((Extern.MathFloor.toIntegral "math.archTrunc" .zero #[.float .f64 n]).run P w).andThen _=_
   rw [hdef,hd]
   rfl
  | number s m e=>
   rw [hd] at e1
   obtain ⟨rfl,rfl⟩:=RV.av e1
   refine ⟨_,w,?_,_,h,_,φ,.ok _ _,rfl,.fi _ _,H,.refl _ _ _⟩
   rw [run_callFunc_extern hf hname hb hn he]
   show ((Extern.MathFloor.toIntegral "math.archTrunc" .zero #[.float .f64 n]).run P w).andThen _=_
   rw [hdef,hd]
   rfl
open Seat
variable {P:Program} {φ:aJ} {h h':Hp} {w:World} {v:AV} {G:Gl} {f:Nat} {fn:Func}
def Ah:Array Value→Sem Value:=fun args=>do
  let (x,y,c)←Extern.MathBitsCarry.three "Add64" args
  pure (Extern.MathBitsCarry.pair ((x+y+c) % Extern.MathBitsCarry.m64) ((x+y+c) / Extern.MathBitsCarry.m64))
theorem Ai {args:List AV} {k:Nat→Nat→Nat→AV} (hs:(wc args k h).Safe):∃x y c,args=[.int .u64 (.ofNat x),.int .u64 (.ofNat y),.int .u64 (.ofNat c)]∧c≤1∧wc args k h=.ok (k x y c) h:=by
 unfold wc at hs ⊢
 split at hs
 ·rename_i x y c
  cases hb:Nat.ble c 1 with
  | true=>exact ⟨x,y,c,rfl,Nat.le_of_ble_eq_true hb,by rfl⟩
  | false=>rw [hb] at hs;exact (RT.Safe.err hs).elim
 ·exact (RT.Safe.err hs).elim
theorem Gw (name:String) (x y c:Nat) (hc:c≤1):(Extern.MathBitsCarry.three name #[.int .u64 (.ofNat x),.int .u64 (.ofNat y),.int .u64 (.ofNat c)]).run P w=.ok (x,y,c) w:=by
 rcases (by omega:c=0∨c=1) with rfl|rfl<;>rfl
theorem Gx (hf:P.funcs[f]?=some fn) (hname:(fn.name == "runtime.NumGoroutine")=false) (hb:fn.body.isNone=true) (hn:Extern.findNext fn=none) (he:Extern.find fn=some Ah):iH P G (.fn we) f:=by
 intro φ h w args vals hg H hv hs
 obtain ⟨x,y,c,rfl,hc,e⟩:=Ai (args:=args) (h:=h) hs
 have e:dg (.fn we) [.int .u64 (.ofNat x),.int .u64 (.ofNat y),.int .u64 (.ofNat c)] h=_:=e
 rw [e]
 cases hv with
 | cons _ v1 _ vs h1 h2=>cases h2 with
  | cons _ v2 _ vs h2 h3=>cases h3 with
   | cons _ v3 _ vs h3 h4=>
    cases h4
    rw [h1.aU,h2.aU,h3.aU]
    refine ⟨_,w,?_,_,h,_,φ,.ok _ _,rfl,.bU _ _ (.cons _ _ _ _ (.int _ _) (.cons _ _ _ _ (.int _ _) .nil)),H,.refl _ _ _⟩
    rw [run_callFunc_extern hf hname hb hn he]
    show ((Ah #[.int .u64 (.ofNat x),.int .u64 (.ofNat y),.int .u64 (.ofNat c)]).run P w).andThen _=_
    unfold Ah
    simp only [Sem.run_bind,Gw _ x y c hc]
    rfl
open Seat
variable {P:Program} {φ:aJ} {h h':Hp} {w:World} {v:AV} {G:Gl} {f:Nat} {fn:Func}
theorem CY (t i n:Nat) {es:Array MapEntry} (hb:w.heap[i]?=some (.map es n)):(Extern.MapsClone.clone #[.iface t (.map (some i))]).run P w=.ok (.iface t (.map (some w.heap.size))) (w.alloc (.map es n)):=by
 have e : Extern.MapsClone.clone #[.iface t (.map (some i))] = (getObj i >>= fun o => match o with
   | .map entries clock=>(newObj (.map entries clock) >>= fun n=>pure (.iface t (.map (some n))))
   | _=>stuck "maps.clone: a map expected"):=rfl
 rw [e]
 simp [MapKept.run_getObj_map hb,Result.andThen,go_sem]
theorem Gy (hf:P.funcs[f]?=some fn) (hname:(fn.name == "runtime.NumGoroutine")=false) (hb:fn.body.isNone=true) (hn:Extern.findNext fn=none) (he:Extern.find fn=some Extern.MapsClone.clone):iH P G (.fn oW) f:=by
 intro φ h w args vals hg H hv hs
 have hs:(oW args h).Safe:=hs
 show ∃cv w',_∧dz φ h w (oW args h) _ w'
 unfold oW at hs ⊢
 split at hs
 ·rename_i t i _
  obtain ⟨v,h',hr⟩:=gC hs
  rw [hr]
  have hr':Obj.dN (au i h) (fun l n=>iu (.map l n) h fun j h=>.ok (.iface t (.map j)) h) (.err 401)=.ok v h':=hr
  cases ho:au i h with
  | map l n=>
   rw [ho] at hr'
   have hr':iu (.map l n) h (fun j h=>.ok (.iface t (.map j)) h)=.ok v h':=hr'
   obtain ⟨hi,he'⟩:=gv hr'
   obtain ⟨rfl,rfl⟩:=RV.av he'
   cases hv with
   | cons _ v1 _ vs h1 h2=>
    cases h2
    cases h1 with
    | iface _ _ x e1=>
     cases e1 with
     | map _ p e2=>
      obtain ⟨q,hq,o⟩:=H.obj i (by rw [ho];exact ⟨by simp,by simp⟩)
      rw [ho] at o
      obtain ⟨es,cw,l0,ob,hpm,m,hS⟩:=o
      rw [e2] at hq
      cases hq
      have hw:(w.alloc (.map es cw)).heap=w.heap.push (.map es cw):=rfl
      have hle:=aJ.fB (φ:=φ) (i:=h.next) ⟨w.heap.size,0,p.room⟩ (H.fresh _ hi)
      have g1:=H.new (w':=w.alloc (.map es cw)) (n':=h.next.succ) (room:=p.room) hi hw (o:=.map l n) (by simp) ⟨es,cw,l0,rfl,hpm,m.mono hle,hS⟩
      refine ⟨_,w.alloc (.map es cw),?_,_,_,_,_,.ok _ _,rfl,.iface t _ _ (.map _ _ (aJ.aL _ _ _)),g1,hle,.new hw rfl rfl rfl,fun j q hj hq=>?_,.put _ _ _ _⟩
      ·rw [run_callFunc_extern hf hname hb hn he]
       show ((Extern.MapsClone.clone #[.iface t (.map (some p.bJ))]).run P w).andThen _=_
       rw [CY _ _ _ ob]
       rfl
      ·rw [iI] at hj
       by_cases e:j=h.next
       ·subst e
        rw [aJ.aL] at hq;cases hq
        exact .inr (.inl (Nat.le_refl _))
       ·rw [if_neg e] at hj
        exact .inl ⟨hj,by simpa [aJ.put,e] using hq⟩
  | _=>rw [ho] at hr';cases hr'
 ·exact (RT.Safe.err hs).elim
open Go.ChangeShapes Go.WideShapes Go.ChangeAt Go.RowKit
theorem Ll {W W':World} {may:MemPlace→Prop} (hb:∀b,b < W.heap.size→W'.heap[b]?=W.heap[b]?) (ho:W'.os=W.os) (hu:W'.output=W.output):W.keptBut W' may:=by
 refine ⟨ho,hu,fun i hi=>?_⟩
 rw [hb i hi]
 cases W.heap[i]? with
 | none=>rfl
 | some o=>cases o<;>first|exact ⟨rfl,rfl,rfl,fun _ _=>rfl⟩|exact .inr ⟨rfl,rfl⟩|rfl
theorem CZ {H:Type} {enc:TypeId×Value→H} {P:Program} {f:Func} {s:ChangeSpec} {apart fresh handsOn again:Bool} {W W':World} {v:Value}
  (hW:DataW.Whole enc P f.params.toList s.vars apart W [] [] [] [])
  (hres:∀(b:Nat) (sp:Nat→Bool) (hd:Bool),DataW.TrodAll enc P W' b sp hd f.resultTypes.toList (v.resultList f.resultTypes.size) (s.fn H []).results [])
  (hargs:∀sp:Nat→Bool,DataW.TrodAll enc P W' 0 sp true f.params.toList [] (s.fn H []).args [])
  (hvars:∀sp:Nat→Bool,DataW.TrodVars enc P W' sp s.vars (s.fn H []).vars [])
  (hk:W.keptBut W' (·∈[]))
  (hok:∀(j:Nat) (t:TypeId) (r:Value),f.resultTypes[j]?=some t→(v.resultList f.resultTypes.size)[j]?=some r→Value.okWide P W' .any 0 t r) :
  s.post enc P f apart fresh handsOn again W #[] v W':=by
 refine ⟨[],[],[],[],[],[],hW,hres _ _ _,hargs _,hvars _,World.keptBut_mono (fun p hp=>⟨hp,?_⟩) hk,fun _=>?_⟩
 ·cases hp
 ·refine ⟨hok,_,_,([] ++ []) ++ [],⟨[] ++ [],[],trodAll_append (hargs _) (hres _ _ _),hvars _,rfl,?_,?_⟩,?_⟩
  ·intro b off hp;simp at hp
  ·intro _;simp
  ·intro p hp;simp at hp
open Go.ChangeShapes Go.WideShapes Go.ChangeAt Go.RowKit
noncomputable section
def iJ (p:P4):Nat:=match p with|.mk a b c d=>a.nat * 4096+b.nat * 256+c.nat * 16+d.nat
theorem kC {n:Nat} (h:n < 65536):iJ (iK n)=n:=by
 show (bR (n / 4096)).nat * 4096+(bR (n / 256 % 16)).nat * 256+(bR (n / 16 % 16)).nat * 16+(bR (n % 16)).nat=n
 rw [eS (by omega),eS (by omega),eS (by omega),eS (by omega)]
 omega
theorem sw (p:P4):iK (iJ p)=p:=by
 obtain ⟨a,b,c,d⟩:=p
 have ha:=a.iz
 have hb:=b.iz
 have hc:=c.iz
 have hd:=d.iz
 show P4.mk (bR ((a.nat * 4096+b.nat * 256+c.nat * 16+d.nat) / 4096)) (bR ((a.nat * 4096+b.nat * 256+c.nat * 16+d.nat) / 256 % 16)) (bR ((a.nat * 4096+b.nat * 256+c.nat * 16+d.nat) / 16 % 16)) (bR ((a.nat * 4096+b.nat * 256+c.nat * 16+d.nat) % 16))=_
 rw [show (a.nat * 4096+b.nat * 256+c.nat * 16+d.nat) / 4096=a.nat by omega,show (a.nat * 4096+b.nat * 256+c.nat * 16+d.nat) / 256 % 16=b.nat by omega,
  show (a.nat * 4096+b.nat * 256+c.nat * 16+d.nat) / 16 % 16=c.nat by omega,show (a.nat * 4096+b.nat * 256+c.nat * 16+d.nat) % 16=d.nat by omega,
  lp,lp,lp,lp]
theorem Da (i:P4):∀n,n≤65536→hR i (Rh n)=if iJ i < n then .dead else .none:=by
 intro n
 induction n with
 | zero=>
  intro _
  rw [if_neg (by omega)]
  obtain ⟨a,b,c,d⟩:=i
  show O1.get d (O2.get c (O3.get b (O4.get a .nil)))=_
  rw [O4.get_nil,O3.get_nil,O2.get_nil,O1.get_nil]
 | succ m ih=>
  intro hm
  have e:hR i (Rh (m+1))=if i=iK m then .dead else hR i (Rh m):=bj i (iK m) .dead (.mk (Rh m) (iK m) .off)
  rw [e,ih (by omega)]
  by_cases h:i=iK m
  ·subst h
   rw [if_pos rfl,kC (by omega),if_pos (by omega)]
  ·rw [if_neg h]
   have h1:iJ i≠m:=fun e=>h (by rw [←e,sw])
   by_cases h2:iJ i < m
   ·rw [if_pos h2,if_pos (by omega)]
   ·rw [if_neg h2,if_neg (by omega)]
theorem nD (i:P4) (n g:Nat) (o:Obj) (hn:n≤65536):au i (Db n g o)=if i=iK g then o else if iJ i < n then .dead else .none:=by
 have e:au i (Db n g o)=if i=iK g then o else hR i (Rh n):=bj i (iK g) o (.mk (Rh n) (iK n) .off)
 rw [e,Da i n hn]
def Dc (n rm:Nat):aJ:=fun i=>if iJ i < n then some ⟨iJ i,0,rm⟩ else none
theorem sx {n rm g:Nat} (hg:g < n) (hn:n≤65536):Dc n rm (iK g)=some ⟨g,0,rm⟩:=by
 unfold Dc
 rw [kC (by omega),if_pos hg]
theorem nE {i:P4} {n g:Nat} {o:Obj} (hn:n≤65536) (h:live (au i (Db n g o))):i=iK g:=by
 rw [nD i n g o hn] at h
 by_cases e:i=iK g
 ·exact e
 ·rw [if_neg e] at h
  split at h
  ·exact absurd rfl h.2
  ·exact absurd rfl h.1
theorem ZR {n g el:Nat} {k:IntKind} {zs:List Int} {w:World} (hn:n≤65536) (hg:g < n) (hz:zs.length≤bW (mu (zs.map fun z=>AV.int k z))) (hs:n≤w.heap.size)
  (hw:w.heap[g]?=some (.cells (zs.map fun z=>Value.int k z).toArray el (0,0))):HR (Dc n zs.length) (Db n g (Gz el k zs)) w where
 obj i hl:=by
  obtain rfl:=nE hn hl
  refine ⟨⟨g,0,zs.length⟩,sx hg hn,?_⟩
  rw [nD _ n g _ hn,if_pos rfl]
  refine ⟨_,(0,0),hw,by simp,Nat.le_refl _,fun _=>⟨rfl,rfl⟩,hz,fun j hj=>?_,rfl⟩
  refine ⟨.int k zs[j],by simp [hj],?_,rfl⟩
  rw [dA _ (by simpa using hz) j (by simpa using hj),List.getElem_map]
  exact .int _ _
 inj i j p q hi hj ne _ _:=absurd ((nE hn hi).trans (nE hn hj).symm) ne
 fresh i hi:=by
  rw [nD i n g _ hn] at hi
  split at hi
  ·cases hi
  ·split at hi
   ·cases hi
   ·rename_i h
    unfold Dc
    rw [if_neg h]
 bound i p hp:=by
  unfold Dc at hp
  split at hp
  ·cases hp
   show iJ i < _
   omega
  ·cases hp
theorem Lm {k:IntKind} {z:Int} {v:AV} (h:Ln k z v=true):v=.int k z:=by
 cases v with
 | int k' z'=>
  have h:(decide (k'=k)&&decide (z'=z))=true:=h
  rw [Bool.and_eq_true] at h
  rw [of_decide_eq_true h.1,of_decide_eq_true h.2]
 | _=>cases h
theorem pS {k:IntKind}:∀{zs:List Int} {i:Nat} {c:Cl},iL k zs i c=true→∀(j:Nat) (hj:j < zs.length),eA (i+j) c=.int k zs[j]
 | [],_,_,_,j,hj=>by simp at hj
 | z::r,i,c,h,0,_=>by
  have h:(Ln k z (eA i c)&&iL k r (i+1) c)=true:=h
  rw [Bool.and_eq_true] at h
  exact Lm h.1
 | z::r,i,c,h,j+1,hj=>by
  have h:(Ln k z (eA i c)&&iL k r (i+1) c)=true:=h
  rw [Bool.and_eq_true] at h
  have:=pS h.2 j (by simpa using hj)
  rw [show i+(j+1)=i+1+j by omega,this]
  rfl
theorem GA {el:Nat} {k:IntKind} {zs:List Int} {o:Obj} (h:Nj el k zs o=true):∃c,o=.cells el zs.length true .plain c∧∀(j:Nat) (hj:j < zs.length),eA j c=.int k zs[j]:=by
 cases o with
 | cells e n ex fl c=>
  cases ex with
  | false=>cases h
  | true=>
   cases fl with
   | plain=>
    have h:(decide (e=el)&&decide (n=zs.length)&&iL k zs 0 c)=true:=h
    rw [Bool.and_eq_true,Bool.and_eq_true] at h
    obtain ⟨⟨h1,h2⟩,h3⟩:=h
    obtain rfl:=of_decide_eq_true h1
    obtain rfl:=of_decide_eq_true h2
    refine ⟨c,rfl,fun j hj=>?_⟩
    have:=pS h3 j hj
    rwa [Nat.zero_add] at this
   | _=>cases h
 | _=>cases h
theorem sA {P:Program} {w:World}:∀{l:List (String×DataW Unit)} {ps:List MemPlace},DataW.LaidVars P w l ps→∀n d,(n,d)∈l→
  ∃g t cs fuel p,P.globalNamed n=some g∧(P.globals[g]?).map (·.type)=some t∧w.var? P n=some cs∧DataW.trod (fun _=>()) P w 0 (fun _=>true) false fuel t cs.toList=some (d,p)
 | [],_,_,_,_,hm=>by cases hm
 | (n',d')::r,ps,h,n,d,hm=>by
  obtain ⟨g,t,cs,fuel,p,q,h1,h2,h3,h4,h5,_⟩:=h
  rcases List.mem_cons.1 hm with e|e
  ·cases e
   exact ⟨g,t,cs,fuel,p,h1,h2,h3,h4⟩
  ·exact sA h5 n d e
theorem yu {P:Program} {W:World} {name:String} {k:IntKind} {zs:List Int} {l:List (String×DataW Unit)} {g:Nat} {t e n:Nat} {zero:Array Value}
  (h:laidMet P l W) (hm:(name,Lib.tabData k zs)∈l) (hsh:W.ShapedOpen P) (hgl:g < P.globals.size)
  (hrow:(((begin P (fun _ _=>0) default).world.heap[g]?).bind Go.Obj.row?)=some (zero,t))
  (hg:P.globalNamed name=some g) (hty:(P.globals[g]?).map (·.type)=some t) (ht:P.underlying t=some (.array n e)) (he:P.underlying e=some (.int k)) (hce:P.cellsOf e=1) (hct:P.cellsOf t=n) :
  W.heap[g]?=some (.cells (zs.map fun z=>Value.int k z).toArray t (0,0)):=by
 obtain ⟨ps,hv,_⟩:=h
 obtain ⟨g',t',cs,fuel,p,h1,h2,h3,h4⟩:=sA hv _ _ hm
 obtain rfl:=Option.some.inj (hg.symm.trans h1)
 obtain rfl:=Option.some.inj (hty.symm.trans h2)
 have hcs:=Lib.cells_of_tab ht he hce hct h4
 obtain ⟨cs2,h5,_⟩:=hsh.1 g zero t hgl hrow
 unfold World.var? at h3
 rw [hg] at h3
 have h3:(match W.heap[g]? with|some (.cells cs _ _)=>some cs|_=>none)=some cs:=h3
 rw [h5] at h3
 have h3:cs2=cs:=Option.some.inj h3
 subst h3
 rw [h5]
 have:cs2=(zs.map fun z=>Value.int k z).toArray:=by
  apply Array.toList_inj.1
  rw [hcs]
 rw [this]
theorem wv {P:Program} {W:World} {l:List (String×DataW Unit)} (name:String) (k:IntKind) (zs:List Int) (g t e n:Nat)
  (h:laidMet P l W) (hm:(name,Lib.tabData k zs)∈l) (hsh:W.ShapedOpen P) (hgl:g < P.globals.size)
  (hrow:((((begin P (fun _ _=>0) default).world.heap[g]?).bind Go.Obj.row?).map (·.2))=some t)
  (hg:P.globalNamed name=some g) (hty:(P.globals[g]?).map (·.type)=some t) (ht:P.underlying t=some (.array n e)) (he:P.underlying e=some (.int k)) (hce:P.cellsOf e=1) (hct:P.cellsOf t=n) :
  W.heap[g]?=some (.cells (zs.map fun z=>Value.int k z).toArray t (0,0)):=by
 obtain ⟨⟨zero,t'⟩,hr,rfl⟩:=Option.map_eq_some_iff.1 hrow
 exact yu h hm hsh hgl hr hg hty ht he hce hct
theorem sB {P:Program} {W:World} (g n:Nat) (hsh:W.ShapedOpen P) (hn:n=g+1) (hgl:g < P.globals.size)
  (hrow:(((begin P (fun _ _=>0) default).world.heap[g]?).bind Go.Obj.row?).isSome=true):n≤W.heap.size:=by
 obtain ⟨⟨zero,t⟩,hr⟩:=Option.isSome_iff_exists.1 hrow
 obtain ⟨cs,h,_⟩:=hsh.1 g zero t hgl hr
 have:=(Array.getElem?_eq_some_iff.1 h).1
 omega
theorem Vs {H:Type} {enc:TypeId×Value→H} {a:Assume} {C:Checked} {os:Os} {f:FuncId} {fn:Func} {s:ChangeSpec} {conds:List PathCond} {apart fresh handsOn again:Bool} {X:World→Array Value→Prop}
  (hX:∀(w w':World) (args:Array Value),w.heap=w'.heap→X w args→X w' args)
  (own:ownKnob C.prog.godebug=none) (started:os.Started) (noInit:C.prog.inits.idxOf? f=none) (hfn:C.prog.funcs[f]?=some fn)
  (witness:∃(w:World) (tape:Tape) (i:Input),w.os=os∧(w.forCall tape i).Shaped C.prog∧i.vars=[]∧Input.okWide C.prog (w.forCall tape i) .any w.heap.size f i∧
   ((s.pre enc C.prog fn conds apart (w.forCall tape i).memory i.args∧X (w.forCall tape i).memory i.args)∧sizedMet enc C.prog fn (OpenSpec.ofChange s) apart (w.forCall tape i).memory i.args)∧a.holds C.prog (lone (Frame.enter C.prog f i.args .normal) [] (w.forCall tape i)))
  (contract:∀(W:World) (base:Nat) (args:Array Value) (ds gs:List (DataW H)) (before:List MemPlace),
   (∀(j:Nat) t v,fn.params[j]?=some t→args[j]?=some v→Value.okWide C.prog W .any base t v)→
   DataW.Whole enc C.prog fn.params.toList s.vars apart W args.toList ds gs before→X W args→W.ShapedOpen C.prog→
   Calls C.prog f args W fun e W'=>∃v,e=.returned v∧s.post enc C.prog fn apart fresh handsOn again W args v W') :
  ReturnsInHanded a C os f .any (fun w args=>(s.pre enc C.prog fn conds apart w args∧X w args)∧sizedMet enc C.prog fn (OpenSpec.ofChange s) apart w args) (s.post enc C.prog fn apart fresh handsOn again):=by
 refine returnsInHanded_of_calls own started noInit witness ?_
 intro w tape i _ hsh _ hok hpre _
 obtain ⟨_,_,_,fn',hfn',_,_,_,_,hval⟩:=hok
 have e:fn'=fn:=Option.some.inj (hfn'.symm.trans hfn)
 subst e
 obtain ⟨⟨⟨ds,gs,before,hw,_⟩,hx⟩,_⟩:=hpre
 have hw':=DataW.Whole.of_heap (w':=w.forCall tape i) (by rfl) hw
 refine (contract (w.forCall tape i) w.heap.size i.args ds gs before hval hw' (hX _ _ _ (by rfl) hx) hsh).mono fun e W' ⟨v,he,hp⟩=>?_
 subst he
 exact ChangeSpec.post_blind hp
end
noncomputable section
variable {r r':A2} {h h':Hp}
theorem GB {x y:Obj} (e:bw x y=true):x=y∨x=.dead:=by
 have e:(@Bool.rec (fun _=>Bool) (sD x y) true (Aj x))=true:=e
 cases hx:Aj x with
 | true=>right;cases x<;>first|rfl|cases hx
 | false=>rw [hx] at e;exact .inl (yv e)
theorem A1.jt (d:H) {x y:A1} (e:A1.le x y=true):gm (A1.get d x) (A1.get d y)=true:=by
 cases x with
 | nil=>cases y with
  | nil=>cases d<;>rfl
  | mk=>cases d<;>rfl
 | mk=>cases y with
  | nil=>
   obtain ⟨e0,e⟩:=az e;obtain ⟨e1,e⟩:=az e;obtain ⟨e2,e⟩:=az e;obtain ⟨e3,e⟩:=az e;obtain ⟨e4,e⟩:=az e;obtain ⟨e5,e⟩:=az e;obtain ⟨e6,e⟩:=az e;obtain ⟨e7,e⟩:=az e;obtain ⟨e8,e⟩:=az e;obtain ⟨e9,e⟩:=az e;obtain ⟨ea,e⟩:=az e;obtain ⟨eb,e⟩:=az e;obtain ⟨ec,e⟩:=az e;obtain ⟨ed,e⟩:=az e;obtain ⟨ee,e⟩:=az e
   cases d
   ·exact e0
   ·exact e1
   ·exact e2
   ·exact e3
   ·exact e4
   ·exact e5
   ·exact e6
   ·exact e7
   ·exact e8
   ·exact e9
   ·exact ea
   ·exact eb
   ·exact ec
   ·exact ed
   ·exact ee
   ·exact e
  | mk=>
   obtain ⟨e0,e⟩:=az e;obtain ⟨e1,e⟩:=az e;obtain ⟨e2,e⟩:=az e;obtain ⟨e3,e⟩:=az e;obtain ⟨e4,e⟩:=az e;obtain ⟨e5,e⟩:=az e;obtain ⟨e6,e⟩:=az e;obtain ⟨e7,e⟩:=az e;obtain ⟨e8,e⟩:=az e;obtain ⟨e9,e⟩:=az e;obtain ⟨ea,e⟩:=az e;obtain ⟨eb,e⟩:=az e;obtain ⟨ec,e⟩:=az e;obtain ⟨ed,e⟩:=az e;obtain ⟨ee,e⟩:=az e
   cases d
   ·exact e0
   ·exact e1
   ·exact e2
   ·exact e3
   ·exact e4
   ·exact e5
   ·exact e6
   ·exact e7
   ·exact e8
   ·exact e9
   ·exact ea
   ·exact eb
   ·exact ec
   ·exact ed
   ·exact ee
   ·exact e
theorem A2.jt (d:H) {x y:A2} (e:A2.le x y=true):A1.le (A2.get d x) (A2.get d y)=true:=by
 cases x with
 | nil=>cases y with
  | nil=>cases d<;>rfl
  | mk=>
   obtain ⟨e0,e⟩:=az e;obtain ⟨e1,e⟩:=az e;obtain ⟨e2,e⟩:=az e;obtain ⟨e3,e⟩:=az e;obtain ⟨e4,e⟩:=az e;obtain ⟨e5,e⟩:=az e;obtain ⟨e6,e⟩:=az e;obtain ⟨e7,e⟩:=az e;obtain ⟨e8,e⟩:=az e;obtain ⟨e9,e⟩:=az e;obtain ⟨ea,e⟩:=az e;obtain ⟨eb,e⟩:=az e;obtain ⟨ec,e⟩:=az e;obtain ⟨ed,e⟩:=az e;obtain ⟨ee,e⟩:=az e
   cases d
   ·exact e0
   ·exact e1
   ·exact e2
   ·exact e3
   ·exact e4
   ·exact e5
   ·exact e6
   ·exact e7
   ·exact e8
   ·exact e9
   ·exact ea
   ·exact eb
   ·exact ec
   ·exact ed
   ·exact ee
   ·exact e
 | mk=>cases y with
  | nil=>
   obtain ⟨e0,e⟩:=az e;obtain ⟨e1,e⟩:=az e;obtain ⟨e2,e⟩:=az e;obtain ⟨e3,e⟩:=az e;obtain ⟨e4,e⟩:=az e;obtain ⟨e5,e⟩:=az e;obtain ⟨e6,e⟩:=az e;obtain ⟨e7,e⟩:=az e;obtain ⟨e8,e⟩:=az e;obtain ⟨e9,e⟩:=az e;obtain ⟨ea,e⟩:=az e;obtain ⟨eb,e⟩:=az e;obtain ⟨ec,e⟩:=az e;obtain ⟨ed,e⟩:=az e;obtain ⟨ee,e⟩:=az e
   cases d
   ·exact e0
   ·exact e1
   ·exact e2
   ·exact e3
   ·exact e4
   ·exact e5
   ·exact e6
   ·exact e7
   ·exact e8
   ·exact e9
   ·exact ea
   ·exact eb
   ·exact ec
   ·exact ed
   ·exact ee
   ·exact e
  | mk=>
   obtain ⟨e0,e⟩:=az e;obtain ⟨e1,e⟩:=az e;obtain ⟨e2,e⟩:=az e;obtain ⟨e3,e⟩:=az e;obtain ⟨e4,e⟩:=az e;obtain ⟨e5,e⟩:=az e;obtain ⟨e6,e⟩:=az e;obtain ⟨e7,e⟩:=az e;obtain ⟨e8,e⟩:=az e;obtain ⟨e9,e⟩:=az e;obtain ⟨ea,e⟩:=az e;obtain ⟨eb,e⟩:=az e;obtain ⟨ec,e⟩:=az e;obtain ⟨ed,e⟩:=az e;obtain ⟨ee,e⟩:=az e
   cases d
   ·exact e0
   ·exact e1
   ·exact e2
   ·exact e3
   ·exact e4
   ·exact e5
   ·exact e6
   ·exact e7
   ·exact e8
   ·exact e9
   ·exact ea
   ·exact eb
   ·exact ec
   ·exact ed
   ·exact ee
   ·exact e
theorem O1.jt (d:H) {x y:O1} (e:O1.le x y=true):bw (O1.get d x) (O1.get d y)=true:=by
 cases x with
 | nil=>cases y with
  | nil=>cases d<;>rfl
  | mk=>
   obtain ⟨e0,e⟩:=az e;obtain ⟨e1,e⟩:=az e;obtain ⟨e2,e⟩:=az e;obtain ⟨e3,e⟩:=az e;obtain ⟨e4,e⟩:=az e;obtain ⟨e5,e⟩:=az e;obtain ⟨e6,e⟩:=az e;obtain ⟨e7,e⟩:=az e;obtain ⟨e8,e⟩:=az e;obtain ⟨e9,e⟩:=az e;obtain ⟨ea,e⟩:=az e;obtain ⟨eb,e⟩:=az e;obtain ⟨ec,e⟩:=az e;obtain ⟨ed,e⟩:=az e;obtain ⟨ee,e⟩:=az e
   cases d
   ·exact e0
   ·exact e1
   ·exact e2
   ·exact e3
   ·exact e4
   ·exact e5
   ·exact e6
   ·exact e7
   ·exact e8
   ·exact e9
   ·exact ea
   ·exact eb
   ·exact ec
   ·exact ed
   ·exact ee
   ·exact e
 | mk=>cases y with
  | nil=>
   obtain ⟨e0,e⟩:=az e;obtain ⟨e1,e⟩:=az e;obtain ⟨e2,e⟩:=az e;obtain ⟨e3,e⟩:=az e;obtain ⟨e4,e⟩:=az e;obtain ⟨e5,e⟩:=az e;obtain ⟨e6,e⟩:=az e;obtain ⟨e7,e⟩:=az e;obtain ⟨e8,e⟩:=az e;obtain ⟨e9,e⟩:=az e;obtain ⟨ea,e⟩:=az e;obtain ⟨eb,e⟩:=az e;obtain ⟨ec,e⟩:=az e;obtain ⟨ed,e⟩:=az e;obtain ⟨ee,e⟩:=az e
   cases d
   ·exact e0
   ·exact e1
   ·exact e2
   ·exact e3
   ·exact e4
   ·exact e5
   ·exact e6
   ·exact e7
   ·exact e8
   ·exact e9
   ·exact ea
   ·exact eb
   ·exact ec
   ·exact ed
   ·exact ee
   ·exact e
  | mk=>
   obtain ⟨e0,e⟩:=az e;obtain ⟨e1,e⟩:=az e;obtain ⟨e2,e⟩:=az e;obtain ⟨e3,e⟩:=az e;obtain ⟨e4,e⟩:=az e;obtain ⟨e5,e⟩:=az e;obtain ⟨e6,e⟩:=az e;obtain ⟨e7,e⟩:=az e;obtain ⟨e8,e⟩:=az e;obtain ⟨e9,e⟩:=az e;obtain ⟨ea,e⟩:=az e;obtain ⟨eb,e⟩:=az e;obtain ⟨ec,e⟩:=az e;obtain ⟨ed,e⟩:=az e;obtain ⟨ee,e⟩:=az e
   cases d
   ·exact e0
   ·exact e1
   ·exact e2
   ·exact e3
   ·exact e4
   ·exact e5
   ·exact e6
   ·exact e7
   ·exact e8
   ·exact e9
   ·exact ea
   ·exact eb
   ·exact ec
   ·exact ed
   ·exact ee
   ·exact e
theorem O2.jt (d:H) {x y:O2} (e:O2.le x y=true):O1.le (O2.get d x) (O2.get d y)=true:=by
 cases x with
 | nil=>cases y with
  | nil=>cases d<;>rfl
  | mk=>
   obtain ⟨e0,e⟩:=az e;obtain ⟨e1,e⟩:=az e;obtain ⟨e2,e⟩:=az e;obtain ⟨e3,e⟩:=az e;obtain ⟨e4,e⟩:=az e;obtain ⟨e5,e⟩:=az e;obtain ⟨e6,e⟩:=az e;obtain ⟨e7,e⟩:=az e;obtain ⟨e8,e⟩:=az e;obtain ⟨e9,e⟩:=az e;obtain ⟨ea,e⟩:=az e;obtain ⟨eb,e⟩:=az e;obtain ⟨ec,e⟩:=az e;obtain ⟨ed,e⟩:=az e;obtain ⟨ee,e⟩:=az e
   cases d
   ·exact e0
   ·exact e1
   ·exact e2
   ·exact e3
   ·exact e4
   ·exact e5
   ·exact e6
   ·exact e7
   ·exact e8
   ·exact e9
   ·exact ea
   ·exact eb
   ·exact ec
   ·exact ed
   ·exact ee
   ·exact e
 | mk=>cases y with
  | nil=>
   obtain ⟨e0,e⟩:=az e;obtain ⟨e1,e⟩:=az e;obtain ⟨e2,e⟩:=az e;obtain ⟨e3,e⟩:=az e;obtain ⟨e4,e⟩:=az e;obtain ⟨e5,e⟩:=az e;obtain ⟨e6,e⟩:=az e;obtain ⟨e7,e⟩:=az e;obtain ⟨e8,e⟩:=az e;obtain ⟨e9,e⟩:=az e;obtain ⟨ea,e⟩:=az e;obtain ⟨eb,e⟩:=az e;obtain ⟨ec,e⟩:=az e;obtain ⟨ed,e⟩:=az e;obtain ⟨ee,e⟩:=az e
   cases d
   ·exact e0
   ·exact e1
   ·exact e2
   ·exact e3
   ·exact e4
   ·exact e5
   ·exact e6
   ·exact e7
   ·exact e8
   ·exact e9
   ·exact ea
   ·exact eb
   ·exact ec
   ·exact ed
   ·exact ee
   ·exact e
  | mk=>
   obtain ⟨e0,e⟩:=az e;obtain ⟨e1,e⟩:=az e;obtain ⟨e2,e⟩:=az e;obtain ⟨e3,e⟩:=az e;obtain ⟨e4,e⟩:=az e;obtain ⟨e5,e⟩:=az e;obtain ⟨e6,e⟩:=az e;obtain ⟨e7,e⟩:=az e;obtain ⟨e8,e⟩:=az e;obtain ⟨e9,e⟩:=az e;obtain ⟨ea,e⟩:=az e;obtain ⟨eb,e⟩:=az e;obtain ⟨ec,e⟩:=az e;obtain ⟨ed,e⟩:=az e;obtain ⟨ee,e⟩:=az e
   cases d
   ·exact e0
   ·exact e1
   ·exact e2
   ·exact e3
   ·exact e4
   ·exact e5
   ·exact e6
   ·exact e7
   ·exact e8
   ·exact e9
   ·exact ea
   ·exact eb
   ·exact ec
   ·exact ed
   ·exact ee
   ·exact e
theorem O3.jt (d:H) {x y:O3} (e:O3.le x y=true):O2.le (O3.get d x) (O3.get d y)=true:=by
 cases x with
 | nil=>cases y with
  | nil=>cases d<;>rfl
  | mk=>
   obtain ⟨e0,e⟩:=az e;obtain ⟨e1,e⟩:=az e;obtain ⟨e2,e⟩:=az e;obtain ⟨e3,e⟩:=az e;obtain ⟨e4,e⟩:=az e;obtain ⟨e5,e⟩:=az e;obtain ⟨e6,e⟩:=az e;obtain ⟨e7,e⟩:=az e;obtain ⟨e8,e⟩:=az e;obtain ⟨e9,e⟩:=az e;obtain ⟨ea,e⟩:=az e;obtain ⟨eb,e⟩:=az e;obtain ⟨ec,e⟩:=az e;obtain ⟨ed,e⟩:=az e;obtain ⟨ee,e⟩:=az e
   cases d
   ·exact e0
   ·exact e1
   ·exact e2
   ·exact e3
   ·exact e4
   ·exact e5
   ·exact e6
   ·exact e7
   ·exact e8
   ·exact e9
   ·exact ea
   ·exact eb
   ·exact ec
   ·exact ed
   ·exact ee
   ·exact e
 | mk=>cases y with
  | nil=>
   obtain ⟨e0,e⟩:=az e;obtain ⟨e1,e⟩:=az e;obtain ⟨e2,e⟩:=az e;obtain ⟨e3,e⟩:=az e;obtain ⟨e4,e⟩:=az e;obtain ⟨e5,e⟩:=az e;obtain ⟨e6,e⟩:=az e;obtain ⟨e7,e⟩:=az e;obtain ⟨e8,e⟩:=az e;obtain ⟨e9,e⟩:=az e;obtain ⟨ea,e⟩:=az e;obtain ⟨eb,e⟩:=az e;obtain ⟨ec,e⟩:=az e;obtain ⟨ed,e⟩:=az e;obtain ⟨ee,e⟩:=az e
   cases d
   ·exact e0
   ·exact e1
   ·exact e2
   ·exact e3
   ·exact e4
   ·exact e5
   ·exact e6
   ·exact e7
   ·exact e8
   ·exact e9
   ·exact ea
   ·exact eb
   ·exact ec
   ·exact ed
   ·exact ee
   ·exact e
  | mk=>
   obtain ⟨e0,e⟩:=az e;obtain ⟨e1,e⟩:=az e;obtain ⟨e2,e⟩:=az e;obtain ⟨e3,e⟩:=az e;obtain ⟨e4,e⟩:=az e;obtain ⟨e5,e⟩:=az e;obtain ⟨e6,e⟩:=az e;obtain ⟨e7,e⟩:=az e;obtain ⟨e8,e⟩:=az e;obtain ⟨e9,e⟩:=az e;obtain ⟨ea,e⟩:=az e;obtain ⟨eb,e⟩:=az e;obtain ⟨ec,e⟩:=az e;obtain ⟨ed,e⟩:=az e;obtain ⟨ee,e⟩:=az e
   cases d
   ·exact e0
   ·exact e1
   ·exact e2
   ·exact e3
   ·exact e4
   ·exact e5
   ·exact e6
   ·exact e7
   ·exact e8
   ·exact e9
   ·exact ea
   ·exact eb
   ·exact ec
   ·exact ed
   ·exact ee
   ·exact e
theorem O4.jt (d:H) {x y:O4} (e:O4.le x y=true):O3.le (O4.get d x) (O4.get d y)=true:=by
 cases x with
 | nil=>cases y with
  | nil=>cases d<;>rfl
  | mk=>
   obtain ⟨e0,e⟩:=az e;obtain ⟨e1,e⟩:=az e;obtain ⟨e2,e⟩:=az e;obtain ⟨e3,e⟩:=az e;obtain ⟨e4,e⟩:=az e;obtain ⟨e5,e⟩:=az e;obtain ⟨e6,e⟩:=az e;obtain ⟨e7,e⟩:=az e;obtain ⟨e8,e⟩:=az e;obtain ⟨e9,e⟩:=az e;obtain ⟨ea,e⟩:=az e;obtain ⟨eb,e⟩:=az e;obtain ⟨ec,e⟩:=az e;obtain ⟨ed,e⟩:=az e;obtain ⟨ee,e⟩:=az e
   cases d
   ·exact e0
   ·exact e1
   ·exact e2
   ·exact e3
   ·exact e4
   ·exact e5
   ·exact e6
   ·exact e7
   ·exact e8
   ·exact e9
   ·exact ea
   ·exact eb
   ·exact ec
   ·exact ed
   ·exact ee
   ·exact e
 | mk=>cases y with
  | nil=>
   obtain ⟨e0,e⟩:=az e;obtain ⟨e1,e⟩:=az e;obtain ⟨e2,e⟩:=az e;obtain ⟨e3,e⟩:=az e;obtain ⟨e4,e⟩:=az e;obtain ⟨e5,e⟩:=az e;obtain ⟨e6,e⟩:=az e;obtain ⟨e7,e⟩:=az e;obtain ⟨e8,e⟩:=az e;obtain ⟨e9,e⟩:=az e;obtain ⟨ea,e⟩:=az e;obtain ⟨eb,e⟩:=az e;obtain ⟨ec,e⟩:=az e;obtain ⟨ed,e⟩:=az e;obtain ⟨ee,e⟩:=az e
   cases d
   ·exact e0
   ·exact e1
   ·exact e2
   ·exact e3
   ·exact e4
   ·exact e5
   ·exact e6
   ·exact e7
   ·exact e8
   ·exact e9
   ·exact ea
   ·exact eb
   ·exact ec
   ·exact ed
   ·exact ee
   ·exact e
  | mk=>
   obtain ⟨e0,e⟩:=az e;obtain ⟨e1,e⟩:=az e;obtain ⟨e2,e⟩:=az e;obtain ⟨e3,e⟩:=az e;obtain ⟨e4,e⟩:=az e;obtain ⟨e5,e⟩:=az e;obtain ⟨e6,e⟩:=az e;obtain ⟨e7,e⟩:=az e;obtain ⟨e8,e⟩:=az e;obtain ⟨e9,e⟩:=az e;obtain ⟨ea,e⟩:=az e;obtain ⟨eb,e⟩:=az e;obtain ⟨ec,e⟩:=az e;obtain ⟨ed,e⟩:=az e;obtain ⟨ee,e⟩:=az e
   cases d
   ·exact e0
   ·exact e1
   ·exact e2
   ·exact e3
   ·exact e4
   ·exact e5
   ·exact e6
   ·exact e7
   ·exact e8
   ·exact e9
   ·exact ea
   ·exact eb
   ·exact ec
   ·exact ed
   ·exact ee
   ·exact e
theorem Lo {x y:Hp} (e:Ri x y=true):gE x y:=by
 intro i
 obtain ⟨t,k⟩:=x
 obtain ⟨u,l⟩:=y
 obtain ⟨a,b,c,d⟩:=i
 have e:O4.le t u=true:=e
 exact GB (O1.jt d (O2.jt c (O3.jt b (O4.jt a e))))
end
theorem fK {f:Nat→Bool}:∀{m:Nat},nF m f=true→∀i,i < m→f i=true
 | 0,_,i,hi=>by omega
 | m+1,e,i,hi=>by
  have e:(@Bool.rec (fun _=>Bool) false (nF m f) (f m))=true:=e
  cases hm:f m with
  | false=>rw [hm] at e;cases e
  | true=>
   rw [hm] at e
   rcases Nat.lt_or_ge i m with h|h
   ·exact fK e i h
   ·have:i=m:=by omega
    subst this;exact hm
theorem sE {n:Nat} {k:Nat→RS}:∀(x:RS),¬ x.aG (.ch n k)
 | .nm ..,h=>by cases h
 | .ex ..,h=>by cases h
 | .go ..,h=>by cases h
 | .ret ..,h=>by cases h
 | .err ..,h=>by cases h
 | .ch _ k',h=>by
  cases h with
  | ch _ _ c _ hc hl=>exact sE (k' c) hl
open Go.ChangeShapes Go.WideShapes Go.ChangeAt Go.RowKit
noncomputable section
variable {P:Program} {G:Gl} {names:List String} {p:Pg} {n m K:Nat} {φ φ' φ1:aJ} {h h' h2 g1:Hp} {w w' w0 w1:World} {r r' r1:A2} {a:Act} {t u:A4}
theorem wx (p:P4):iM p=iJ p:=by cases p;rfl
def Dd (l:List AV) (p:Place):Place:=match l with|_::.str c::_=>⟨p.bJ,p.base,fp (c.map (cg p.room))⟩|_=>p
theorem yw (l:List AV) (p:Place):(Dd l p).bJ=p.bJ:=by unfold Dd;split<;>rfl
def pc (K:Nat) (t:A4) (φ:aJ):aJ:=fun i=>if iM i < K then (match gp i t with|.map j=>φ j|.agg (.map j::l)=>(φ j).map (Dd (.map j::l))|_=>none) else none
theorem Vt {i j:P4} (e:rP K t i j=true):iM i < K∧gp i t=.map j:=by
 obtain ⟨h1,h2⟩:=az e
 refine ⟨by have:=Nat.le_of_ble_eq_true h1;omega,?_⟩
 have h2:(@OM.rec (fun _=>Bool) false false (fun k=>lk k j) (gp i t).dR)=true:=h2
 cases hx:gp i t with
 | map k=>rw [hx] at h2;exact congrArg _ (eT.1 h2)
 | _=>rw [hx] at h2;cases h2
theorem sF {i j:P4} (e:rP K t i j=true):pc K t φ i=φ j:=by
 obtain ⟨h1,h2⟩:=Vt e
 unfold pc
 rw [if_pos h1,h2]
theorem BI {i j:P4} (h1:iM i < K) (hx:gp i t=.map j):pc K t φ i=φ j:=by unfold pc;rw [if_pos h1,hx]
theorem BJ {i j:P4} {l:List AV} (h1:iM i < K) (hx:gp i t=.agg (.map j::l)):pc K t φ i=(φ j).map (Dd (.map j::l)):=by unfold pc;rw [if_pos h1,hx]
theorem GC {x:AV} {k:P4} (e:Rj x=.yes k):x=.map k∨∃l,x=.agg (.map k::l):=by
 cases x with
 | map i=>cases e;exact .inl rfl
 | agg l=>
  cases l with
  | nil=>cases e
  | cons y l=>
   have e:y.dR=.yes k:=e
   cases y<;>(try (cases e;done))
   cases e
   exact .inr ⟨l,rfl⟩
 | _=>cases e
theorem Vu {i j:P4} {q:Place} (e:rM K t i j=true) (hq:φ j=some q):∃q',pc K t φ i=some q'∧q'.bJ=q.bJ:=by
 obtain ⟨h1,h2⟩:=az e
 have h1:iM i < K:=by have:=Nat.le_of_ble_eq_true h1;omega
 have h2:(@OM.rec (fun _=>Bool) false false (fun k=>lk k j) (Rj (gp i t)))=true:=h2
 cases hx:Rj (gp i t) with
 | yes k=>
  rw [hx] at h2
  obtain rfl:=eT.1 (show lk k j=true from h2)
  rcases GC hx with g|⟨l,g⟩
  ·exact ⟨q,(BI h1 g).trans hq,rfl⟩
  ·exact ⟨Dd (.map k::l) q,by rw [BJ h1 g,hq];rfl,yw _ _⟩
 | _=>rw [hx] at h2;cases h2
theorem GD {x y:AV} {v:Value} (e:Vv K t x y=true) (hv:VR φ y v):VR (pc K t φ) x v:=by
 cases x with
 | undef=>exact .undef v
 | bool b=>cases dB (show dk _ _=true from e);cases hv;exact .bool _
 | int k n=>cases dB (show dk _ _=true from e);cases hv;exact .int _ _
 | str l=>cases dB (show dk _ _=true from e);cases hv;rename_i s h;exact .str _ _ h
 | fi k n=>cases dB (show dk _ _=true from e);cases hv;exact .fi _ _
 | aj k a b=>cases dB (show dk _ _=true from e);cases hv;exact .aj _ _ _
 | ptr i o=>
  cases y<;>(try (cases e;done))
  obtain ⟨h1,h2⟩:=az e
  obtain rfl:=dS h1
  cases hv with
  | ptr _ _ q hq=>exact .ptr _ _ q ((sF h2).trans hq)
 | di=>cases dB (show dk _ _=true from e);cases hv;exact .di
 | slice i a b c=>
  cases y<;>(try (cases e;done))
  obtain ⟨h1,h2⟩:=az e
  obtain ⟨h2,h3⟩:=az h2
  obtain ⟨h3,h4⟩:=az h3
  obtain rfl:=dS h1
  obtain rfl:=dS h2
  obtain rfl:=dS h3
  cases hv with
  | slice _ _ _ _ q hq=>exact .slice _ _ _ _ q ((sF h4).trans hq)
 | fX i a b c=>
  cases y<;>(try (cases e;done))
  obtain ⟨h1,h2⟩:=az e
  obtain ⟨h2,h3⟩:=az h2
  obtain ⟨h3,h4⟩:=az h3
  obtain rfl:=dS h1
  obtain rfl:=dS h2
  obtain rfl:=dS h3
  cases hv with
  | fX _ _ _ _ c q ad hq g1 g2 g3 g4 g5 g6=>exact .fX _ _ _ _ c q ad ((sF h4).trans hq) g1 g2 g3 g4 g5 g6
 | ai=>cases dB (show dk _ _=true from e);cases hv;exact .ai
 | map i=>
  cases y<;>(try (cases e;done))
  have e:rM K t i _=true:=e
  cases hv with
  | map _ q hq=>
   obtain ⟨q',g1,g2⟩:=Vu e hq
   rw [←g2]
   exact .map _ q' g1
 | gg=>cases dB (show dk _ _=true from e);cases hv;exact .gg
 | qi=>cases dB (show dk _ _=true from e);cases hv;exact .qi
 | sj=>cases dB (show dk _ _=true from e);cases hv;exact .sj
 | _=>cases e
theorem Ak:∀{x y:List AV} {v:List Value},Ud K t x y=true→bX φ y v→bX (pc K t φ) x v
 | [],[],_,_,hv=>by cases hv;exact .nil
 | [],_::_,_,e,_=>by cases e
 | _::_,[],_,e,_=>by cases e
 | x::a,y::b,_,e,hv=>by
  obtain ⟨h1,h2⟩:=az (show (@Bool.rec (fun _=>Bool) false (Ud K t a b) (Vv K t x y))=true from e)
  cases hv with
  | cons _ _ _ _ g1 g2=>exact .cons _ _ _ _ (GD h1 g1) (Ak h2 g2)
theorem GF {x y:AV} {v:Value} (e:Rk K t x y=true) (hv:VR φ y v):VR (pc K t φ) x v:=by
 by_cases hx:∃l,x=.agg l
 ·obtain ⟨l,rfl⟩:=hx
  cases y<;>(try (cases e;done))
  rename_i b
  have e:Ud K t l b=true:=e
  cases hv with
  | agg _ vs g1 g2=>exact .agg _ vs (Ak e g1) g2
 ·have:Rk K t x y=Vv K t x y:=by cases x<;>first|rfl|exact absurd ⟨_,rfl⟩ hx
  exact GD (this▸e) hv
theorem GG {x y:AV} {v:Value} (e:Ue K t x y=true) (hv:VR φ y v):VR (pc K t φ) x v:=by
 by_cases hx:∃f l,x=.fn f l
 ·obtain ⟨f,l,rfl⟩:=hx
  cases y<;>(try (cases e;done))
  rename_i g b
  obtain ⟨h1,h2⟩:=az (show (@Bool.rec (fun _=>Bool) false (Ud K t l b) (Nat.beq f g))=true from e)
  obtain rfl:=dS h1
  cases hv with
  | fn _ _ vs g1=>exact .fn _ _ vs (Ak h2 g1)
 ·by_cases hi:∃u z,x=.iface u z
  ·obtain ⟨u,z,rfl⟩:=hi
   cases y<;>(try (cases e;done))
   rename_i u' z'
   obtain ⟨h1,h2⟩:=az (show (@Bool.rec (fun _=>Bool) false (Rk K t z z') (Nat.beq u u'))=true from e)
   obtain rfl:=dS h1
   cases hv with
   | iface _ _ x g1=>exact .iface _ _ x (GF h2 g1)
  ·have:Ue K t x y=Rk K t x y:=by cases x<;>first|rfl|exact absurd ⟨_,_,rfl⟩ hx|exact absurd ⟨_,_,rfl⟩ hi
   exact GF (this▸e) hv
theorem GH:∀{x y:List AV} {v:List Value},XV K t x y=true→bX φ y v→bX (pc K t φ) x v
 | [],[],_,_,hv=>by cases hv;exact .nil
 | [],_::_,_,e,_=>by cases e
 | _::_,[],_,e,_=>by cases e
 | x::a,y::b,_,e,hv=>by
  obtain ⟨h1,h2⟩:=az (show (@Bool.rec (fun _=>Bool) false (XV K t a b) (Ue K t x y))=true from e)
  cases hv with
  | cons _ _ _ _ g1 g2=>exact .cons _ _ _ _ (GG h1 g1) (GH h2 g2)
theorem mC {x y:AV} {v:Value} (e:uY K t x y=true) (hv:VR φ y v):VR (pc K t φ) x v:=by
 by_cases hx:∃l,x=.bU l
 ·obtain ⟨l,rfl⟩:=hx
  cases y<;>(try (cases e;done))
  rename_i b
  have e:XV K t l b=true:=e
  cases hv with
  | bU _ vs g1=>exact .bU _ vs (GH e g1)
 ·have:uY K t x y=Ue K t x y:=by cases x<;>first|rfl|exact absurd ⟨_,rfl⟩ hx
  exact GG (this▸e) hv
theorem BL {st:Nat→Nat}:∀{x y:List KV} {es:List MapEntry},nG K t x y=true→bP st φ y es→bP st (pc K t φ) x es
 | [],[],_,_,hv=>by cases hv;exact .nil
 | [],_::_,_,e,_=>by cases e
 | ⟨_,_,_⟩::_,[],_,e,_=>by cases e
 | ⟨k,v,c⟩::a,⟨k',v',c'⟩::b,_,e,hv=>by
  obtain ⟨h1,h2⟩:=az (show (@Bool.rec (fun _=>Bool) false (@Bool.rec (fun _=>Bool) false (@Bool.rec (fun _=>Bool) false (nG K t a b) (uY K t v v')) (uY K t k k')) (Nat.beq c c'))=true from e)
  obtain ⟨h2,h3⟩:=az h2
  obtain ⟨h3,h4⟩:=az h3
  obtain rfl:=dS h1
  cases hv with
  | cons _ _ _ ML _ es g1 g2 g3 g4=>exact .cons _ _ _ ML _ es (mC h2 g1) (mC h3 g2) g3 (BL h4 g4)
theorem lq {k v k' v':AV} {c c':Nat} {a b:List KV}:nG K t (.mk k v c::a) (.mk k' v' c'::b)=(@Bool.rec (fun _=>Bool) false (@Bool.rec (fun _=>Bool) false (@Bool.rec (fun _=>Bool) false (nG K t a b) (uY K t v v')) (uY K t k k')) (Nat.beq c c')):=rfl
theorem sG:∀{x y:List KV},nG K t x y=true→x=[]∧y=[]∨∃a x' b y',x=a::x'∧y=b::y'∧nG K t [a] [b]=true∧nG K t x' y'=true
 | [],[],_=>.inl ⟨rfl,rfl⟩
 | [],_::_,e=>by cases e
 | ⟨_,_,_⟩::_,[],e=>by cases e
 | ⟨k,v,c⟩::a,⟨k',v',c'⟩::b,e=>by
  rw [lq] at e
  obtain ⟨h1,h2⟩:=az e
  obtain ⟨h2,h3⟩:=az h2
  obtain ⟨h3,h4⟩:=az h3
  refine .inr ⟨_,_,_,_,rfl,rfl,?_,h4⟩
  rw [lq,h1,h2,h3];rfl
theorem wy {a b:KV} {x y:List KV} (h1:nG K t [a] [b]=true) (h2:nG K t x y=true):nG K t (a::x) (b::y)=true:=by
 obtain ⟨k,v,c⟩:=a
 obtain ⟨k',v',c'⟩:=b
 rw [lq] at h1 ⊢
 obtain ⟨g1,g2⟩:=az h1
 obtain ⟨g2,g3⟩:=az g2
 obtain ⟨g3,_⟩:=az g3
 rw [g1,g2,g3];exact h2
theorem De {y y0:List KV} (hp:y.Perm y0):∀{x:List KV},nG K t x y=true→∃x0,x.Perm x0∧nG K t x0 y0=true:=by
 induction hp with
 | nil=>intro x e;exact ⟨x,.refl _,e⟩
 | cons a _ ih=>
  intro x e
  rcases sG e with ⟨_,g⟩|⟨b,x',_,_,rfl,g,e1,e2⟩
  ·cases g
  ·cases g
   obtain ⟨x0,h1,h2⟩:=ih e2
   exact ⟨b::x0,h1.cons _,wy e1 h2⟩
 | swap a b l=>
  intro x e
  rcases sG e with ⟨_,g⟩|⟨c,x',_,_,rfl,g,e1,e2⟩
  ·cases g
  ·cases g
   rcases sG e2 with ⟨_,g⟩|⟨d,x2,_,_,rfl,g,e3,e4⟩
   ·cases g
   ·cases g
    exact ⟨d::c::x2,.swap _ _ _,wy e3 (wy e1 e4)⟩
 | trans _ _ ih1 ih2=>
  intro x e
  obtain ⟨x1,h1,h2⟩:=ih1 e
  obtain ⟨x2,h3,h4⟩:=ih2 h2
  exact ⟨x2,h1.trans h3,h4⟩
theorem yx:∀{x y:List KV},nG K t x y=true→x.map KV.ji=y.map KV.ji
 | [],[],_=>rfl
 | [],_::_,e=>by cases e
 | ⟨_,_,_⟩::_,[],e=>by cases e
 | ⟨k,v,c⟩::a,⟨k',v',c'⟩::b,e=>by
  rw [lq] at e
  obtain ⟨h1,h2⟩:=az e
  obtain ⟨h2,h3⟩:=az h2
  obtain ⟨h3,h4⟩:=az h3
  obtain rfl:=dS h1
  exact congrArg (List.cons c) (yx h4)
theorem GJ {x y:Obj} (e:Uf K t x y=true) (hl:live x):live y:=by
 cases x with
 | none=>exact absurd rfl hl.1
 | dead=>exact absurd rfl hl.2
 | cells=>cases y<;>first|exact aK|cases e
 | map=>cases y<;>first|exact fQ|cases e
 | _=>cases e
theorem Rl {x y:Obj} {q:Place} {z:Option Go.Obj} (e:Uf K t x y=true) (hv:OR φ y q z):OR (pc K t φ) x q z:=by
 cases x with
 | none=>cases e
 | dead=>exact trivial
 | cells el n ex fl c=>
  cases y<;>(try (cases e;done))
  rename_i el' n' ex' fl' c'
  obtain ⟨h1,h2⟩:=az e
  obtain ⟨h2,h3⟩:=az h2
  obtain ⟨h3,h4⟩:=az h3
  obtain ⟨h4,h5⟩:=az h4
  obtain ⟨h5,h6⟩:=az h5
  obtain rfl:=dS h1
  obtain rfl:=dS h2
  obtain rfl:=sH h3
  obtain rfl:=Fl.eq_eq h4
  obtain ⟨rc,fz,k1,k2,k3,k4,k5,k6,k7⟩:=hv
  refine ⟨rc,fz,k1,k2,k3,k4,Nat.le_of_ble_eq_true h5,fun k hk=>?_,k7⟩
  obtain ⟨cv,q1,q2,q3⟩:=k6 k hk
  exact ⟨cv,q1,mC (fK h6 k hk) q2,q3⟩
 | map l ck=>
  cases y<;>(try (cases e;done))
  rename_i l' ck'
  obtain ⟨h1,h2⟩:=az e
  obtain rfl:=dS h1
  obtain ⟨es,cw,l0,k1,k2,k3,k4⟩:=hv
  obtain ⟨l1,q1,q2⟩:=De k2 h2
  exact ⟨es,cw,l1,k1,q1,BL q2 k3,by rw [yx h2];exact k4⟩
 | _=>cases e
inductive PR (K:Nat) (t:A4):List KV→List KV→Prop
 | nil:PR K t [] []
 | cons (k v k' v':AV) (c c':Nat) (l l':List KV):uY K t k k'=true→uY K t v v'=true→PR K t l l'→PR K t (.mk k v c::l) (.mk k' v' c'::l')
theorem yy {b:Nat} {k:AV→AV→List KV→Bool}:∀{l:List KV} {acc:List KV},bQ (β:=List KV→Bool) (fun _=>false) (fun y t ih acc=>@KV.rec (fun _=>Bool) (fun a v c=>@Bool.rec (fun _=>Bool) (ih (.cons y acc)) (k a v (List.append acc t)) (Nat.beq b c)) y) l acc=true→∃a v rest,(l ++ acc).Perm (.mk a v b::rest)∧k a v rest=true
 | [],_,e=>by cases e
 | .mk a v c::l,acc,e=>by
  have e:(@Bool.rec (fun _=>Bool) (bQ (β:=List KV→Bool) (fun _=>false) (fun y t ih acc=>@KV.rec (fun _=>Bool) (fun a v c=>@Bool.rec (fun _=>Bool) (ih (.cons y acc)) (k a v (List.append acc t)) (Nat.beq b c)) y) l (.cons (.mk a v c) acc)) (k a v (acc ++ l)) (Nat.beq b c))=true:=e
  cases hb:Nat.beq b c with
  | true=>
   rw [hb] at e
   obtain rfl:=dS hb
   exact ⟨a,v,acc ++ l,(List.perm_append_comm (l₁:=l) (l₂:=acc)).cons _,e⟩
  | false=>
   rw [hb] at e
   obtain ⟨a',v',rest,h1,h2⟩:=yy e
   refine ⟨a',v',rest,?_,h2⟩
   exact (List.perm_middle (l₁:=l) (a:=KV.mk a v c) (l₂:=acc)).symm.trans h1
theorem BM:∀{l:List KV} {labs:List Nat} {l':List KV},Lp K t l labs l'=true→∃l'',l'.Perm l''∧PR K t l l''∧l''.map KV.ji=labs
 | [],labs,l',e=>by
  have e:(@Bool.rec (fun _=>Bool) false (fq l') (fq labs))=true:=e
  cases labs with
  | cons=>cases e
  | nil=>
   cases l' with
   | cons=>cases e
   | nil=>exact ⟨[],.refl _,.nil,rfl⟩
 | .mk k v c::l,[],l',e=>by cases e
 | .mk k v c::l,b::bs,l',e=>by
  obtain ⟨a,v',rest,h1,h2⟩:=yy (l:=l') (acc:=[]) (k:=fun k' v' rest=>@Bool.rec (fun _=>Bool) false (@Bool.rec (fun _=>Bool) false (Lp K t l bs rest) (uY K t v v')) (uY K t k k')) e
  obtain ⟨g1,g2⟩:=az h2
  obtain ⟨g2,g3⟩:=az g2
  obtain ⟨l'',q1,q2,q3⟩:=BM g3
  rw [List.append_nil] at h1
  exact ⟨.mk a v' b::l'',h1.trans (q1.cons _),.cons _ _ _ _ _ _ _ _ g1 g2 q2,congrArg (List.cons b) q3⟩
theorem PR.length:∀{l l':List KV},PR K t l l'→l.length=l'.length
 | _,_,.nil=>rfl
 | _,_,.cons _ _ _ _ _ _ _ _ _ _ r=>congrArg (·+1) r.length
theorem uZ:∀{l:List KV} {i:Nat},wz l i=true→l.map KV.ji=List.range' i l.length
 | [],_,_=>rfl
 | .mk k v c::l,i,e=>by
  obtain ⟨h1,h2⟩:=az (show (@Bool.rec (fun _=>Bool) false (wz l (i+1)) (Nat.beq c i))=true from e)
  obtain rfl:=dS h1
  exact congrArg (List.cons c) (uZ h2)
theorem xz.Vw {st:Nat→Nat} {labs:List Nat} {ck cw:Nat} (S:xz st labs ck cw):xz (cg (fp (st ck::labs.map st))) (List.range' dH labs.length) (dH+labs.length) cw:=by
 have e:cg (fp (st ck::labs.map st))=Vx (cw::labs.map st):=by funext b;rw [vb,S.at]
 have ev:∀i (hi:i < labs.length),Vx (cw::labs.map st) (dH+i)=st labs[i]:=fun i hi=>by
  show (if dH+i < dH then dH+i else if dH+i - dH < (labs.map st).length then (labs.map st).getD (dH+i - dH) 0 else _)=_
  rw [if_neg (by omega),Nat.add_sub_cancel_left,if_pos (by simpa using hi)]
  simp [List.getD_eq_getElem?_getD,hi]
 have ev2:∀k,Vx (cw::labs.map st) (dH+labs.length+k)=cw+k:=fun k=>by
  show (if dH+labs.length+k < dH then _ else if dH+labs.length+k - dH < (labs.map st).length then _ else cw+(dH+labs.length+k - dH - (labs.map st).length))=_
  rw [if_neg (by omega),if_neg (by simp;omega)]
  simp;omega
 have hlt:wA (dH+labs.length)=dH:=if_neg (by omega)
 rw [e]
 have lt:∀i (hi:i < labs.length),st labs[i] < cw:=fun i hi=>by
  have:=S.Kq _ (List.getElem_mem hi)
  exact S.mono _ this.1 this.2
 refine ⟨fun g=>absurd g (by omega),ev2,fun b h1 h2=>?_,fun b b' h1 h2 g=>?_,fun b hb=>?_,List.nodup_range'⟩
 ·rw [hlt] at h1
  obtain ⟨i,rfl⟩:∃i,b=dH+i:=⟨b - dH,by omega⟩
  rw [ev i (by omega)];exact lt i _
 ·rw [hlt] at h1 h2
  obtain ⟨i,rfl⟩:∃i,b=dH+i:=⟨b - dH,by omega⟩
  obtain ⟨j,rfl⟩:∃j,b'=dH+j:=⟨b' - dH,by omega⟩
  rcases Nat.lt_or_ge i labs.length with hi|hi<;>rcases Nat.lt_or_ge j labs.length with hj|hj
  ·rw [ev i hi,ev j hj] at g
   have:=S.inj _ _ (S.Kq _ (List.getElem_mem hi)).1 (S.Kq _ (List.getElem_mem hj)).1 g
   rcases Nat.lt_trichotomy i j with q|q|q
   ·exact absurd this (List.pairwise_iff_getElem.1 S.Nk i j hi hj q)
   ·omega
   ·exact absurd this.symm (List.pairwise_iff_getElem.1 S.Nk j i hj hi q)
  ·obtain ⟨k,rfl⟩:∃k,j=labs.length+k:=⟨j - labs.length,by omega⟩
   rw [ev i hi,←Nat.add_assoc,ev2] at g
   have:=lt i hi
   omega
  ·obtain ⟨k,rfl⟩:∃k,i=labs.length+k:=⟨i - labs.length,by omega⟩
   rw [ev j hj,←Nat.add_assoc,ev2] at g
   have:=lt j hj
   omega
  ·obtain ⟨k,rfl⟩:∃k,i=labs.length+k:=⟨i - labs.length,by omega⟩
   obtain ⟨m,rfl⟩:∃m,j=labs.length+m:=⟨j - labs.length,by omega⟩
   rw [←Nat.add_assoc,←Nat.add_assoc,ev2,ev2] at g
   omega
 ·rw [hlt]
  have:=List.mem_range'_1.1 hb
  omega
theorem Rm {st:Nat→Nat} {labs:List Nat} {x:Nat} (i:Nat) (hi:i < labs.length):cg (fp (x::labs.map st)) (dH+i)=st labs[i]:=by
 rw [vb]
 show (if dH+i < dH then dH+i else if dH+i - dH < (labs.map st).length then (labs.map st).getD (dH+i - dH) 0 else _)=_
 rw [if_neg (by omega),Nat.add_sub_cancel_left,if_pos (by simpa using hi)]
 simp [List.getD_eq_getElem?_getD,hi]
inductive PS (K:Nat) (t:A4) (s2 s1:Nat→Nat):List KV→List KV→Prop
 | nil:PS K t s2 s1 [] []
 | cons (k v k' v':AV) (c c':Nat) (l l':List KV):uY K t k k'=true→uY K t v v'=true→s2 c=s1 c'→PS K t s2 s1 l l'→PS K t s2 s1 (.mk k v c::l) (.mk k' v' c'::l')
theorem PS.of {s2 s1:Nat→Nat}:∀{l l':List KV},PR K t l l'→(∀i (h1:i < l.length) (h2:i < l'.length),s2 (l[i]).ji=s1 (l'[i]).ji)→PS K t s2 s1 l l'
 | _,_,.nil,_=>.nil
 | _,_,.cons k v k' v' c c' l l' g1 g2 r,hs=>.cons _ _ _ _ _ _ _ _ g1 g2 (hs 0 (by simp) (by simp)) (PS.of r fun i h1 h2=>hs (i+1) (by simpa using h1) (by simpa using h2))
theorem PS.perm {s2 s1:Nat→Nat} {y y0:List KV} (hp:y.Perm y0):∀{x:List KV},PS K t s2 s1 x y→∃x0,x.Perm x0∧PS K t s2 s1 x0 y0:=by
 induction hp with
 | nil=>intro x e;exact ⟨x,.refl _,e⟩
 | cons a _ ih=>
  intro x e
  cases e with
  | cons k v k' v' c c' l l' g1 g2 g3 r=>
   obtain ⟨x0,h1,h2⟩:=ih r
   exact ⟨_,h1.cons _,.cons _ _ _ _ _ _ _ _ g1 g2 g3 h2⟩
 | swap a b l=>
  intro x e
  cases e with
  | cons k v k' v' c c' _ _ g1 g2 g3 r=>
   cases r with
   | cons k2 v2 k2' v2' c2 c2' _ _ f1 f2 f3 r=>
    exact ⟨_,.swap _ _ _,.cons _ _ _ _ _ _ _ _ f1 f2 f3 (.cons _ _ _ _ _ _ _ _ g1 g2 g3 r)⟩
 | trans _ _ ih1 ih2=>
  intro x e
  obtain ⟨x1,h1,h2⟩:=ih1 e
  obtain ⟨x2,h3,h4⟩:=ih2 h2
  exact ⟨x2,h1.trans h3,h4⟩
theorem PS.Vy {s2 s1:Nat→Nat}:∀{x y:List KV} {es:List MapEntry},PS K t s2 s1 x y→bP s1 φ y es→bP s2 (pc K t φ) x es
 | _,_,_,.nil,.nil=>.nil
 | _,_,_,.cons k v k' v' c c' l l' g1 g2 g3 r,.cons _ _ _ e _ es h1 h2 h3 hr=>.cons _ _ _ _ _ _ (mC g1 h1) (mC g2 h2) (h3.trans g3.symm) (r.Vy hr)
theorem Rn {c:List Nat} {x y:Obj} {q:Place} {z:Option Go.Obj} (e:Yq K t c x y=true) (hv:OR φ y q z):OR (pc K t φ) x ⟨q.bJ,q.base,fp (c.map (cg q.room))⟩ z∧live x∧live y:=by
 cases x<;>(try (cases e;done))
 rename_i l ck
 cases y<;>(try (cases e;done))
 rename_i l' ck'
 cases c with
 | nil=>cases e
 | cons c0 labs=>
  obtain ⟨h1,h2⟩:=az (show (@Bool.rec (fun _=>Bool) false (@Bool.rec (fun _=>Bool) false (@Bool.rec (fun _=>Bool) false (Lp K t l labs l') (wz l dH)) (Nat.beq ck (Nat.add dH l.length))) (Nat.beq c0 ck'))=true from e)
  obtain ⟨h2,h30⟩:=az h2
  obtain ⟨hlb,hpm⟩:=az h30
  obtain rfl:=dS h1
  have hck:ck=dH+l.length:=dS h2
  have hlab:=uZ hlb
  obtain ⟨l'',q1,q2,rfl⟩:=BM hpm
  obtain ⟨es,cw,l0,k1,k2,k3,k4⟩:=hv
  have hlen:l.length=(l''.map KV.ji).length:=by rw [List.length_map];exact q2.length
  have S2:xz (cg q.room) (l''.map KV.ji) c0 cw:=⟨k4.low,k4.up,k4.mono,k4.inj,fun b hb=>k4.Kq b ((q1.map _).mem_iff.2 hb),((q1.map KV.ji).nodup_iff).1 k4.Nk⟩
  have S3:=S2.Vw
  have P0:PS K t (cg (fp (cg q.room c0::(l''.map KV.ji).map (cg q.room)))) (cg q.room) l l'':=PS.of q2 fun i h1 h2=>by
   have:(l[i]).ji=dH+i:=by
    have e1:(l.map KV.ji)[i]'(by simpa using h1)=(l[i]).ji:=by simp
    rw [←e1]
    simp [hlab]
   rw [this,Rm i (by simpa using h2)]
   simp
  obtain ⟨x0,p1,p2⟩:=P0.perm (q1.symm.trans k2)
  refine ⟨⟨es,cw,x0,k1,p1,p2.Vy k3,?_⟩,fQ,fQ⟩
  show xz (cg (fp (cg q.room c0::(l''.map KV.ji).map (cg q.room)))) (l.map KV.ji) ck cw
  rw [hlab,hck,hlen]
  exact S3
theorem HR.Ro (H:HR φ h w) (hn:∀i,K≤iM i→au i h'=.none) (e:GK n K t u r' h' r h=true) :
  HR (pc K t φ) h' w∧(∀i p,live (au i h')→pc K t φ i=some p→∃j q,live (au j h)∧φ j=some q∧q.bJ=p.bJ)∧(∀g,g < n→rP K t (iK g) (iK g)=true)∧
  ∀x,x < 256→uY K t (ar (bR (x / 16)) (bR (x % 16)) r') (ar (bR (x / 16)) (bR (x % 16)) r)=true:=by
 obtain ⟨e1,e⟩:=az e
 obtain ⟨e2,e3⟩:=az e
 have hk:∀i,iM i < K→∃j f,gp j u=.map i∧pc K t φ i=(φ j).map f∧(∀p,(f p).bJ=p.bJ)∧(∀q z,OR φ (au j h) q z→OR (pc K t φ) (au i h') (f q) z)∧(live (au i h')→live (au j h))∧au i h'≠.none:=by
  intro i hi
  have q:=fK e3 (iM i) hi
  rw [wx,sw] at q
  have q:(@OM.rec (fun _=>Bool) false false (fun j=>@OM.rec (fun _=>Bool) false false (fun i'=>@Bool.rec (fun _=>Bool) false (@OL.rec (fun _=>Bool) (Uf K t (au i h') (au j h)) (fun l=>@Bool.rec (fun _=>Bool) false (Lq K t l (au i h') (au j h)) (Nat.ble n (iJ i))) (gp i t).asAgg) (lk i' i)) (gp j u).dR) (Rj (gp i t)))=true:=q
  cases hx:Rj (gp i t) with
  | yes j=>
   rw [hx] at q
   have q:(@OM.rec (fun _=>Bool) false false (fun i'=>@Bool.rec (fun _=>Bool) false (@OL.rec (fun _=>Bool) (Uf K t (au i h') (au j h)) (fun l=>@Bool.rec (fun _=>Bool) false (Lq K t l (au i h') (au j h)) (Nat.ble n (iJ i))) (gp i t).asAgg) (lk i' i)) (gp j u).dR)=true:=q
   cases hy:gp j u with
   | map i'=>
    rw [hy] at q
    obtain ⟨q1,q2⟩:=az q
    obtain rfl:=eT.1 q1
    rcases GC hx with g|⟨l,g⟩
    ·rw [g] at q2
     have q2:Uf K t (au i' h') (au j h)=true:=q2
     exact ⟨j,id,hy,by rw [BI hi g];cases φ j<;>rfl,fun _=>rfl,fun _ _ o=>Rl q2 o,GJ q2,fun g=>by rw [g] at q2;cases q2⟩
    ·rw [g] at q2
     obtain ⟨_,q3⟩:=az (show (@Bool.rec (fun _=>Bool) false (Lq K t (.map j::l) (au i' h') (au j h)) (Nat.ble n (iJ i')))=true from q2)
     cases l with
     | nil=>cases q3
     | cons s l=>
      cases s<;>(try (cases q3;done))
      rename_i c
      have q3:Yq K t c (au i' h') (au j h)=true:=q3
      have lv:live (au i' h')∧live (au j h):=by
       cases hx1:au i' h'<;>rw [hx1] at q3<;>(try (cases q3;done))
       cases hx2:au j h<;>rw [hx2] at q3<;>(try (cases q3;done))
       exact ⟨fQ,fQ⟩
      exact ⟨j,Dd (.map j::.str c::l),hy,BJ hi g,fun p=>yw _ p,fun _ _ o=>(Rn q3 o).1,fun _=>lv.2,lv.1.1⟩
   | _=>rw [hy] at q;cases q
  | _=>rw [hx] at q;cases q
 have hlt:∀i,live (au i h')→iM i < K:=fun i hl=>by
  rcases Nat.lt_or_ge (iM i) K with g|g
  ·exact g
  ·exact absurd (hn i g) hl.1
 have hlv:∀i p,live (au i h')→pc K t φ i=some p→∃j q,gp j u=.map i∧live (au j h)∧φ j=some q∧q.bJ=p.bJ:=fun i p hl hp=>by
  obtain ⟨j,f,k1,k2,k3,_,k5,_⟩:=hk i (hlt i hl)
  rw [k2] at hp
  cases hq:φ j with
  | none=>rw [hq] at hp;cases hp
  | some q=>
   rw [hq] at hp
   obtain rfl:=Option.some.inj hp
   exact ⟨j,q,k1,k5 hl,hq,(k3 q).symm⟩
 refine ⟨⟨fun i hl=>?_,fun i j p q hi hj ne hp hq=>?_,fun i hi=>?_,fun i p hp=>?_⟩,fun i p hl hp=>?_,fun g hg=>fK e1 g hg,fun x hx=>fK (fK e2 (x / 16) (by omega)) (x % 16) (by omega)⟩
 ·obtain ⟨j,f,k1,k2,k3,k4,k5,_⟩:=hk i (hlt i hl)
  obtain ⟨p,q1,q2⟩:=H.obj j (k5 hl)
  refine ⟨f p,by rw [k2,q1];rfl,?_⟩
  rw [k3]
  exact k4 p _ q2
 ·obtain ⟨i',a,k1,k2,k3,k4⟩:=hlv i p hi hp
  obtain ⟨j',b,l1,l2,l3,l4⟩:=hlv j q hj hq
  rw [←k4,←l4]
  refine H.inj i' j' a b k2 l2 (fun e=>ne ?_) k3 l3
  rw [e,l1] at k1
  cases k1;rfl
 ·unfold pc
  split
  ·rename_i hlt'
   obtain ⟨_,_,_,_,_,_,_,k⟩:=hk i hlt'
   exact absurd hi k
  ·rfl
 ·rcases Nat.lt_or_ge (iM i) K with g|g
  ·obtain ⟨j,f,k1,k2,k3,_⟩:=hk i g
   rw [k2] at hp
   cases hq:φ j with
   | none=>rw [hq] at hp;cases hp
   | some q=>
    rw [hq] at hp
    obtain rfl:=Option.some.inj hp
    rw [k3]
    exact H.bound j q hq
  ·unfold pc at hp
   rw [if_neg (by omega)] at hp;cases hp
 ·obtain ⟨j,q,_,k2,k3,k4⟩:=hlv i p hl hp
  exact ⟨j,q,k2,k3,k4⟩
theorem St.Ro (S:St n G φ r h a w) (hs:G.sy=[]) (hn:∀i,K≤iM i→au i h'=.none) (e:GK G.n K t u r' h' r h=true) :
  St n G (pc K t φ) r' h' a w∧∀i p,live (au i h')→pc K t φ i=some p→∃j q,live (au j h)∧φ j=some q∧q.bJ=p.bJ:=by
 obtain ⟨R1,R2,R3,R4⟩:=S.hr.Ro hn e
 refine ⟨⟨R1,fun x hx=>?_,S.dJ,S.size,⟨fun g hg=>?_,fun x hx=>by rw [hs] at hx;cases hx⟩⟩,R2⟩
 ·exact mC (R4 x (by omega)) (S.aF x hx)
 ·obtain ⟨room,hr⟩:=S.fy.1 g hg
  exact ⟨room,(sF (φ:=φ) (R3 g hg)).trans hr⟩
theorem yz:∀(l:List Obj) (k:Nat) (t:O4) (i:P4),k+l.length≤65536→k+l.length≤iM i→hR i (Vz l k t)=hR i t
 | [],_,_,_,_,_=>rfl
 | o::l,k,t,i,hk,hi=>by
  have hk:k+(l.length+1)≤65536:=hk
  have hi:k+(l.length+1)≤iM i:=hi
  have e:Vz (o::l) k t=Vz l (k+1) (de (iK k) o t):=rfl
  rw [e,yz l (k+1) _ i (by omega) (by omega),dT,if_neg]
  intro e
  rw [e,wx,kC (by omega)] at hi
  omega
theorem sI {l:List Obj} (hl:l.length≤65536) (i:P4) (hi:l.length≤iM i):au i (aN l)=.none:=by
 have e:=yz l 0 .nil i (by omega) (by omega)
 have e2:au i (aN l)=hR i (Vz l 0 .nil):=rfl
 rw [e2,e]
 obtain ⟨a,b,c,d⟩:=i
 show O1.get d (O2.get c (O3.get b (O4.get a .nil)))=_
 rw [O4.get_nil,O3.get_nil,O2.get_nil,O1.get_nil]
structure GL (q:Nat→Prop) (w0:World) (φ:aJ) (h:Hp) (w:World):Prop where
 size:w0.heap.size≤w.heap.size
 rest:∀b,b < w0.heap.size→¬ q b→w.heap[b]?=w0.heap[b]?
 os:w.os=w0.os
 output:w.output=w0.output
 old:∀i p,live (au i h)→φ i=some p→p.bJ < w0.heap.size→q p.bJ
theorem GL.step {q:Nat→Prop} (B:GL q w0 φ h w) (T:Step φ h w φ' h' w'):GL q w0 φ' h' w' where
 size:=Nat.le_trans B.size T.keeps.size
 rest b hb hq:=by
  rw [T.keeps.rest b (Nat.lt_of_lt_of_le hb B.size) fun i p hl hp he=>hq ?_,B.rest b hb hq]
  subst he
  exact B.old i p hl hp hb
 os:=T.keeps.os.trans B.os
 output:=T.keeps.output.trans B.output
 old i p hl hp hb:=by
  rcases T.new i p hl hp with ⟨g1,g2⟩|g1|⟨j,s,g1,g2,g3⟩
  ·exact B.old i p g1 g2 hb
  ·exact absurd (Nat.le_trans B.size g1) (by omega)
  ·rw [←g3] at hb ⊢;exact B.old j s g1 g2 hb
def yA (n:Nat) (G:Gl) (q:Nat→Prop) (w0:World) (r:A2) (h:Hp) (a:Act) (w:World):Prop:=∃φ,St n G φ r h a w∧GL q w0 φ h w
def Nl (n:Nat) (G:Gl) (q:Nat→Prop) (w0:World) (g:Tg):Exit→Act→World→Prop:=fun e a' w'=>∃r' h',Ends g.rs e r' h'∧yA n G q w0 r' h' a' w'
def CR (P:Program) (G:Gl) (q:Nat→Prop) (n:Nat) (c:Code) (r:A2) (h:Hp) (g:Tg):Prop:=∀w0 a w,yA n G q w0 r h a w→c.wp P (Nl n G q w0 g) a w
def CL (P:Program) (G:Gl) (q:Nat→Prop) (n:Nat) (c:Code) (r:A2) (h:Hp) (g:Tg):Prop:=∀w0 a w,yA n G q w0 r h a w→nH P c (Nl n G q w0 g) a w
variable {c c1 c2:Code} {x:AC} {q:Nat→Prop} {g:Tg} {l:List Obj}
theorem yA.Ro (hs:G.sy=[]) (hl:l.length≤65536) (e:wB G.n l.length r' (aN l) r h=true) (I:yA n G q w0 r h a w):yA n G q w0 r' (aN l) a w:=by
 obtain ⟨φ,S,B⟩:=I
 have e:(@TK.rec (fun _=>Bool) (fun t u=>GK G.n l.length t u r' (aN l) r h) (VA G.n l.length r' (aN l) r h))=true:=e
 cases hu:VA G.n l.length r' (aN l) r h with
 | mk t u=>
  rw [hu] at e
  obtain ⟨S',hlv⟩:=S.Ro hs (sI hl) e
  exact ⟨_,S',⟨B.size,B.rest,B.os,B.output,fun i p hi hp hb=>by
   obtain ⟨j,q,k1,k2,k3⟩:=hlv i p hi hp
   rw [←k3] at hb ⊢
   exact B.old j q k1 k2 hb⟩⟩
def Tg.len (g:Tg):Nat:=Tg.casesOn g (fun _ l=>l.length) (fun _ _ l=>l.length) (fun _ l=>l.length)
theorem BN (hs:G.sy=[]) (hl:g.len≤65536) {x:RS} (e:aB G.n g x=true):x.Safe∧∀y t r h,x.aG y→Ends y t r h→∃r' l,l.length≤65536∧Ends g.rs t r' (aN l)∧wB G.n l.length r' (aN l) r h=true:=by
 have leaf:∀{x:RS},aB G.n g x=true→∀y,x.aG y→aB G.n g y=true:=by
  intro x
  induction x with
  | ch n k ih=>
   intro e y hy
   have e:nF n (fun i=>aB G.n g (k i))=true:=e
   cases hy with
   | ch _ _ c _ hc hl=>exact ih c (fK e c hc) y hl
  | _=>intro e y hy;cases hy;exact e
 refine ⟨fun k hk=>?_,fun y t r h hy he=>?_⟩
 ·have:aB G.n g (.err k)=true:=leaf e _ hk
  cases this
 ·have hc:=leaf e y hy
  cases he with
  | nm=>
   cases g with
   | nm r' l=>exact ⟨r',l,hl,.nm _ _,hc⟩
   | _=>cases hc
  | ex i=>
   cases g with
   | ex j r' l=>
    obtain ⟨h1,h2⟩:=az hc
    obtain rfl:=dS h1
    exact ⟨r',l,hl,.ex _ _ _,h2⟩
   | _=>cases hc
  | go i=>cases hc
  | ret=>
   cases g with
   | ret r' l=>exact ⟨r',l,hl,.ret _ _,hc⟩
   | _=>cases hc
theorem CR.run [NB G] (hs:G.sy=[]) (C:cI P G names p m) (hI:Impl (cC P G n names c) x) (hl:g.len≤65536) (e:aB G.n g (exec p m x r h)=true):CR P G q n c r h g:=fun w0 a w ⟨φ,S,B⟩=>by
 obtain ⟨k1,k2⟩:=BN hs hl e
 refine wp_mono (C.code n c x r h φ a w hI S k1) ?_
 rintro t a' w' ⟨y,r',h',φ',hy,he,S',T⟩
 obtain ⟨r2,l,q1,q2,q3⟩:=k2 y t r' h' hy he
 exact ⟨r2,_,q2,yA.Ro hs q1 q3 ⟨φ',S',B.step T⟩⟩
theorem CR.seq (k1:CR P G q n c1 r h (.nm r1 l)) (k2:CR P G q n c2 r1 (aN l) g):CR P G q n (.seq c1 c2) r h g:=fun w0 a w I=>by
 refine wp_seq (wp_mono (k1 w0 a w I) ?_)
 rintro e a' w' ⟨r',h',he,I'⟩
 cases he
 exact k2 w0 a' w' I'
theorem CR.loop (k:CL P G q n c r h g):CR P G q n (.loop c) r h g:=fun w0 a w I=>pT (k w0 a w I)
theorem CL.step (k1:CR P G q n c r h (.nm r1 l)) (k2:CL P G q n c r1 (aN l) g):CL P G q n c r h g:=fun w0 a w I=>by
 refine nJ (wp_mono (k1 w0 a w I) ?_)
 rintro e a' w' ⟨r',h',he,I'⟩
 cases he
 exact k2 w0 a' w' I'
theorem CL.done {i:Nat} (k:CR P G q n c r h (.ex i r1 l)):CL P G q n c r h (.ex i r1 l):=fun w0 a w I=>by
 refine nJ (wp_mono (k w0 a w I) ?_)
 rintro e a' w' ⟨r',h',he,I'⟩
 cases he
 exact ⟨r1,_,.ex _ _ _,I'⟩
theorem CL.VB [NB G] (hs:G.sy=[]) (hl:l.length≤65536) (C:cI P G names p m) (hI:Impl (cC P G n names c) x) (k:CL P G q n c r1 (aN l) g):∀(j:Nat) (r:A2) (h:Hp),(rounds j (exec p m x) r h).Safe→
  (∀y,(rounds j (exec p m x) r h).aG y→∃r' h',y=.nm r' h'∧wB G.n l.length r1 (aN l) r' h'=true)→CL P G q n c r h g
 | 0,r,h,_,hlf=>fun w0 a w I=>by
  obtain ⟨r',h',e,k1⟩:=hlf (.nm r h) (.nm _ _)
  cases e
  exact k w0 a w (yA.Ro hs hl k1 I)
 | j+1,r,h,hsf,hlf=>fun w0 a w ⟨φ,S,B⟩=>by
  have hsf:(RS.bind (exec p m x r h) (Go.Am.rounds j (exec p m x)) (fun i r h=>.ex i r h) (fun l r h=>.go l r h)).Safe:=hsf
  have hlf:∀y,(RS.bind (exec p m x r h) (Go.Am.rounds j (exec p m x)) (fun i r h=>.ex i r h) (fun l r h=>.go l r h)).aG y→∃r' h',y=.nm r' h'∧wB G.n l.length r1 (aN l) r' h'=true:=hlf
  refine nJ (wp_mono (C.code n c x r h φ a w hI S (gw hsf)) (aZ.cases ?_ ?_ ?_ ?_))
  ·intro r' h' φ' a' w' hy S' T
   exact CL.VB hs hl C hI k j r' h' (jv hsf hy) (fun y hy2=>hlf y (cT hy rfl hy2)) w0 a' w' ⟨φ',S',B.step T⟩
  ·intro i r' h' φ' a' w' hy S' T
   obtain ⟨_,_,e,_⟩:=hlf _ (du hy rfl (.ex _ _ _))
   cases e
  ·intro i r' h' φ' a' w' hy S' T
   obtain ⟨_,_,e,_⟩:=hlf _ (cU hy rfl (.go _ _ _))
   cases e
  ·intro r' h' φ' a' w' hy S' T
   obtain ⟨_,_,e,_⟩:=hlf _ (dD hy rfl)
   cases e
theorem CL.many [NB G] (hs:G.sy=[]) (hl:l.length≤65536) (C:cI P G names p m) (hI:Impl (cC P G n names c) x) (j:Nat) (e:aB G.n (.nm r1 l) (Go.Am.rounds j (exec p m x) r h)=true) (k:CL P G q n c r1 (aN l) g):CL P G q n c r h g:=by
 have ok:=BN (g:=.nm r1 l) hs hl e
 refine CL.VB hs hl C hI k j r h ok.1 fun y hy=>?_
 have key:∀t r' h',Ends y t r' h'→∃r2 l2,Ends (Tg.rs (.nm r1 l)) t r2 (aN l2)∧wB G.n l2.length r2 (aN l2) r' h'=true:=fun t r' h' he=>by
  obtain ⟨r2,l2,_,k2,k3⟩:=ok.2 y t r' h' hy he
  exact ⟨r2,l2,k2,k3⟩
 have leafc:aB G.n (.nm r1 l) y=true:=by
  have leaf:∀{x:RS},aB G.n (.nm r1 l) x=true→∀y,x.aG y→aB G.n (.nm r1 l) y=true:=by
   intro x
   induction x with
   | ch n k ih=>
    intro e y hy
    have e:nF n (fun i=>aB G.n (.nm r1 l) (k i))=true:=e
    cases hy with
    | ch _ _ c _ hc hl=>exact ih c (fK e c hc) y hl
   | _=>intro e y hy;cases hy;exact e
  exact leaf e y hy
 cases y with
 | nm r' h'=>exact ⟨r',h',rfl,leafc⟩
 | ex=>cases leafc
 | go=>cases leafc
 | ret=>cases leafc
 | err=>cases leafc
 | ch=>exact absurd hy (sE _)
theorem CR.GM {i:Nat} (k:CR P G q n c r h (.ex i r1 l)):CR P G q n (.block i c) r h (.nm r1 l):=fun w0 a w I=>by
 refine wp_block (wp_mono (k w0 a w I) ?_)
 rintro e a' w' ⟨r',h',he,I'⟩
 cases he
 show if i=i then _ else _
 rw [if_pos rfl]
 exact ⟨r1,_,.nm _ _,I'⟩
theorem CR.GN {i:Nat} (k:CR P G q n c r h (.nm r1 l)):CR P G q n (.block i c) r h (.nm r1 l):=fun w0 a w I=>by
 refine wp_block (wp_mono (k w0 a w I) ?_)
 rintro e a' w' ⟨r',h',he,I'⟩
 cases he
 exact ⟨r1,_,.nm _ _,I'⟩
theorem Ls {f:Nat} {fn:Func} {rs:List Rs} {g2:Hp} {gl el:Nat} {k:IntKind} {zs:List Int} (hf:P.funcs[f]?=some fn) (hb:fn.body=some c) (hr:fn.results.toList.mapM (KY P fn.ntmps)=some rs)
  (hg:gl < m) (hn:m≤65536) (hz:zs.length≤bW (mu (zs.map fun z=>AV.int k z)))
  (kk:CR P ⟨m,[],none⟩ (·=gl) fn.ntmps c .nil (Db m gl (Gz el k zs)) (.ret r1 l)) (e:Df rs r1 (aN l)=.ok (.bool true) g2) (ho:Nj el k zs (au (iK gl) (aN l))=true) (w:World) (hs:m≤w.heap.size)
  (hw:w.heap[gl]?=some (.cells (zs.map fun z=>Value.int k z).toArray el (0,0))) :
  Calls P f #[] w fun e w'=>e=.returned (.bool true)∧w.heap.size≤w'.heap.size∧(∀b,b < w.heap.size→w'.heap[b]?=w.heap[b]?)∧w'.os=w.os∧w'.output=w.output:=by
 have S:=St.start (args:=[]) (vals:=[]) (ZR hn hg hz hs hw) .nil (G:=⟨m,[],none⟩) ⟨fun i hi=>⟨zs.length,sx hi hn⟩,fun x hx=>by cases hx⟩ (by simp) fn.ntmps
 have B:GL (·=gl) w (Dc m zs.length) (Db m gl (Gz el k zs)) w:=⟨Nat.le_refl _,fun _ _ _=>rfl,rfl,rfl,fun i p hl hp _=>by
  obtain rfl:=nE hn hl
  rw [sx hg hn] at hp
  cases hp
  rfl⟩
 refine calls_of_wp hf hb (wp_mono (kk w _ w ⟨_,S,B⟩) ?_)
 rintro t a' w' ⟨r',h',he,φ',S',B'⟩
 cases he
 obtain ⟨e1,cv,e2,e3⟩:=gB S' hr e
 subst e1
 refine ⟨S'.dJ,cv,e2,?_⟩
 cases e3
 refine ⟨rfl,B'.size,fun b hb=>?_,B'.os,B'.output⟩
 by_cases hbg:b=gl
 ·subst hbg
  obtain ⟨c,hc,hcs⟩:=GA ho
  have hlv:live (au (iK b) (aN l)):=by rw [hc];exact aK
  obtain ⟨p,hq1,hq2⟩:=S'.hr.obj (iK b) hlv
  obtain ⟨room,hφ⟩:=S'.fy.1 b hg
  have hφ:φ' (iK b)=some ⟨b,0,room⟩:=hφ
  obtain rfl:=Option.some.inj (hq1.symm.trans hφ)
  rw [hc] at hq2
  obtain ⟨rc,fz,h1,h2,h3,h4,h5,h6,h7⟩:=hq2
  have h7:fz=(0,0):=h7
  subst h7
  have h1:w'.heap[b]?=some (.cells rc el (0,0)):=h1
  have h2:0+room=rc.size:=h2
  have h4:zs.length=room:=(h4 rfl).2
  have hrc:rc=(zs.map fun z=>Value.int k z).toArray:=by
   apply Array.ext
   ·simp
    omega
   ·intro j hj1 hj2
    have hj:j < zs.length:=by simpa using hj2
    obtain ⟨cv,h8,h9,_⟩:=h6 j hj
    rw [hcs j hj] at h9
    cases h9
    have h8:rc[0+j]?=some (.int k zs[j]):=h8
    rw [Nat.zero_add,Array.getElem?_eq_getElem hj1] at h8
    rw [Option.some.inj h8]
    simp
  rw [h1,hw,hrc]
 ·exact B'.rest b hb hbg
def Nm (c:Code):Code:=match c with|.seq a _=>a|.block _ a=>a|.loop a=>a|c=>c
def ZE (c:Code):Code:=match c with|.seq _ b=>b|c=>c
def Yr (f:Func):Code:=f.body.getD .skip
theorem CR.aQ (k1:CR P G q n (Nm c) r h (.nm r1 l)) (k2:CR P G q n (ZE c) r1 (aN l) g) (e:c=.seq (Nm c) (ZE c):=by kernel_rfl):CR P G q n c r h g:=Eq.mpr (congrArg (fun d=>CR P G q n d r h g) e) (.seq k1 k2)
theorem CR.gj {i:Nat} (k:CL P G q n (Nm (Nm c)) r h (.ex i r1 l)) (e:c=.block i (.loop (Nm (Nm c))):=by kernel_rfl):CR P G q n c r h (.nm r1 l):=Eq.mpr (congrArg (fun d=>CR P G q n d r h (.nm r1 l)) e) (.GM (.loop k))
theorem CR.eI {i:Nat} (k:CR P G q n (Nm c) r h (.nm r1 l)) (e:c=.block i (Nm c):=by kernel_rfl):CR P G q n c r h (.nm r1 l):=Eq.mpr (congrArg (fun d=>CR P G q n d r h (.nm r1 l)) e) (.GN k)
theorem CR.aM [NB G] {y:AC} (C:cI P G names p m) (hI:Impl y x) (e:aB G.n g (exec p m x r h)=true) (hs:G.sy=[]:=by rfl) (hl:Nat.ble g.len 65536=true:=by kernel_rfl) (hc:cC P G n names c=y:=by kernel_rfl):CR P G q n c r h g:=.run hs C (hc▸hI) (Nat.le_of_ble_eq_true hl) e
theorem CL.bk [NB G] {y:AC} (C:cI P G names p m) (hI:Impl y x) (j:Nat) (e:aB G.n (.nm r1 l) (Go.Am.rounds j (exec p m x) r h)=true) (k:CL P G q n c r1 (aN l) g) (hs:G.sy=[]:=by rfl) (hl:Nat.ble l.length 65536=true:=by kernel_rfl) (hc:cC P G n names c=y:=by kernel_rfl):CL P G q n c r h g:=
 .many hs (Nat.le_of_ble_eq_true hl) C (hc▸hI) j e k
end
noncomputable section
variable {P:Program} {G:Gl} [NB G] {names:List String} {p:Pg} {n K:Nat} {φ φ':aJ} {h h' h0 hr:Hp} {w w':World} {v v':AV} {args0 args:List AV} {t u:A4} {r r':A2} {l0 l':List Obj}
omit [NB G] in
theorem Lt {x:RT} (e:lM n v' l' x=true):x.Safe∧∀v h,x.aG (.ok v h)→VC n v' l' v h=true:=by
 have leaf:∀{x:RT},lM n v' l' x=true→∀y,x.aG y→lM n v' l' y=true:=by
  intro x
  induction x with
  | ch n k ih=>
   intro e y hy
   have e:nF n (fun i=>lM _ v' l' (k i))=true:=e
   cases hy with
   | ch _ _ c _ hc hl=>exact ih c (fK e c hc) y hl
  | _=>intro e y hy;cases hy;exact e
 refine ⟨fun k hk=>?_,fun v h hy=>leaf e _ hy⟩
 have:lM n v' l' (.err k)=true:=leaf e _ hk
 cases this
theorem Lu (E:Env P G names p) (m f:Nat) (hb:∀k,cM f p.fs≠.ext k) (k1:l0.length≤65536) (k2:l'.length≤65536) (e:lM l0.length v' l' (aD p (exec p m) f args0 (aN l0))=true):gh P G (.fn (gY args0 l0 v' l')) f:=by
 intro φ h w args vals hg H hv hs
 have e1:dg (.fn (gY args0 l0 v' l')) args h=gY args0 l0 v' l' args h:=rfl
 rw [e1] at hs ⊢
 unfold gY at hs ⊢
 cases hc:pU args0 args with
 | false=>rw [hc] at hs;exact (RT.Safe.err hs).elim
 | true=>
  cases hc2:VD h.log with
  | false=>rw [hc,hc2] at hs;exact (RT.Safe.err hs).elim
  | true=>
   cases hc3:Ri (aN l0) h with
   | false=>rw [hc,hc2,hc3] at hs;exact (RT.Safe.err hs).elim
   | true=>
    obtain rfl:=nK hc
    have L:=Lo hc3
    have H0:=H.less L
    have hoff:h.log=.off:=by
     cases hl:h.log with
     | off=>rfl
     | on=>rw [hl] at hc2;cases hc2
    obtain ⟨sf,lf⟩:=Lt e
    have C:=BO E m f args0 vals hg H0 hv sf hb
    refine C.mono ?_
    rintro x w' ⟨v1,h1,cv,φ',hl,a,b,c,d⟩
    have q:(@TK.rec (fun _=>Bool) (fun t u=>GK l0.length l'.length t u (dj .h0 .h0 v' .nil) (aN l') (dj .h0 .h0 v1 .nil) h1) (VA l0.length l'.length (dj .h0 .h0 v' .nil) (aN l') (dj .h0 .h0 v1 .nil) h1))=true:=lf _ _ hl
    cases hu:VA l0.length l'.length (dj .h0 .h0 v' .nil) (aN l') (dj .h0 .h0 v1 .nil) h1 with
    | mk t u=>
     rw [hu] at q
     obtain ⟨R1,R2,R3,R4⟩:=c.Ro (sI k2) q
     have R4:=R4 0 (by omega)
     have R4:uY _ t (ar .h0 .h0 (dj .h0 .h0 v' .nil)) (ar .h0 .h0 (dj .h0 .h0 v1 .nil))=true:=R4
     rw [dE,dE,if_pos ⟨rfl,rfl⟩,if_pos ⟨rfl,rfl⟩] at R4
     refine ⟨v',aN l',cv,pc l'.length t φ',.ok _ _,a,mC R4 b,R1,⟨fun i p hp=>?_,⟨d.keeps.size,fun x hx hn=>d.keeps.rest x hx fun i p hi hp=>?_,d.keeps.tape,d.keeps.os,d.keeps.output⟩,fun i p hi hp=>?_,⟨fun _=>rfl,fun l g=>?_⟩⟩⟩
     ·have hlt:iM i < l0.length:=by
       rcases Nat.lt_or_ge (iM i) l0.length with g|g
       ·exact g
       ·have:=H0.fresh i (sI k1 i g)
        rw [this] at hp;cases hp
      have q2:=R3 _ hlt
      rw [wx,sw] at q2
      exact (sF q2).trans (d.le i p hp)
     ·rcases L i with g|g
      ·exact hn i p (g▸hi) hp
      ·exact absurd g hi.2
     ·obtain ⟨j,pj,g1,g2,gb⟩:=R2 i p hi hp
      have lv:∀j,live (au j (aN l0))→live (au j h):=fun j hj=>by
       rcases L j with g|g
       ·exact g▸hj
       ·exact absurd g hj.2
      rcases d.new j pj g1 g2 with ⟨s1,s2⟩|s|⟨j',q,s1,s2,s3⟩
      ·exact .inr (.inr ⟨j,pj,lv j s1,s2,gb⟩)
      ·exact .inr (.inl (gb▸s))
      ·exact .inr (.inr ⟨j',q,lv j' s1,s2,s3.trans gb⟩)
     ·rw [hoff] at g;cases g
theorem F1.kD (d:H) (v:AF) (x:F1):F1.get d (F1.set d v x)=v:=by cases d<;>cases x<;>rfl
theorem F2.kD (d:H) (v:F1) (x:F2):F2.get d (F2.set d v x)=v:=by cases d<;>cases x<;>rfl
theorem F3.kD (d:H) (v:F2) (x:F3):F3.get d (F3.set d v x)=v:=by cases d<;>cases x<;>rfl
theorem F1.iO {d e:H} (v:AF) (x:F1) (h:e≠d):F1.get e (F1.set d v x)=F1.get e x:=by cases d<;>cases e<;>first|(exact absurd rfl h)|(cases x<;>rfl)
theorem F2.iO {d e:H} (v:F1) (x:F2) (h:e≠d):F2.get e (F2.set d v x)=F2.get e x:=by cases d<;>cases e<;>first|(exact absurd rfl h)|(cases x<;>rfl)
theorem F3.iO {d e:H} (v:F2) (x:F3) (h:e≠d):F3.get e (F3.set d v x)=F3.get e x:=by cases d<;>cases e<;>first|(exact absurd rfl h)|(cases x<;>rfl)
theorem Rp (n:Nat):bR (n+15)=.hf:=rfl
theorem Dg {n m:Nat} (hm:m < 15) (e:bR n=bR m):n=m:=by
 by_cases hn:n < 15
 ·have key:∀a,a < 15→∀b,b < 15→bR a=bR b→a=b:=by decide
  exact key n hn m hm e
 ·obtain ⟨k,rfl⟩:∃k,n=k+15:=⟨n - 15,by omega⟩
  rw [Rp] at e
  have key:∀b,b < 15→bR b≠.hf:=by decide
  exact absurd e.symm (key m hm)
theorem vd {n m:Nat} (hn:n < 16) (hm:m < 16) (e:bR n=bR m):n=m:=by
 have key:∀a,a < 16→∀b,b < 16→bR a=bR b→a=b:=by decide
 exact key n hn m hm e
theorem GO (f g:Nat) (a:AF) (p:F3) (hf:f < 3840):cM g (Lv f a p)=a∧g=f∨cM g (Lv f a p)=cM g p:=by
 unfold cM Lv
 by_cases h3:bR (Nat.div g 256)=bR (Nat.div f 256)
 ·rw [h3,F3.kD]
  by_cases h2:bR (Nat.mod (Nat.div g 16) 16)=bR (Nat.mod (Nat.div f 16) 16)
  ·rw [h2,F2.kD]
   by_cases h1:bR (Nat.mod g 16)=bR (Nat.mod f 16)
   ·left
    rw [h1,F1.kD]
    refine ⟨rfl,?_⟩
    have a1:g % 16=f % 16:=vd (Nat.mod_lt _ (by omega)) (Nat.mod_lt _ (by omega)) h1
    have a2:g / 16 % 16=f / 16 % 16:=vd (Nat.mod_lt _ (by omega)) (Nat.mod_lt _ (by omega)) h2
    have a3:g / 256=f / 256:=Dg (by show f / 256 < 15;omega) h3
    omega
   ·right;rw [F1.iO _ _ h1]
  ·right;rw [F2.iO _ _ h2]
 ·right;rw [F3.iO _ _ h3]
omit [NB G] in
theorem Env.Ys {fs:F3} {ms:List MR} (E:Env P G names (.mk fs ms)) (f:Nat) (hf:f < 3840) (k:PK) (hk:gh P G k f):Env P G names (.mk (yB f k fs) ms) where
 mixed:=E.mixed
 ms:=E.ms
 fs g:=by
  show match cM g (yB f k fs) with|.none=>True|.mk body res=>nr P G names g body res|.oU k body res=>nr P G names g body res∧gh P G k g|.Ek body res=>nr P G names g body res|.ext k=>iH P G k g
  have E0:=E.fs
  rcases GO f g (fC k (cM f fs)) fs hf with ⟨e,rfl⟩|e
  ·have e:cM g (yB g k fs)=_:=e
   rw [e]
   have:=E0 g
   have e2:cM g (Pg.mk fs ms).fs=cM g fs:=rfl
   rw [e2] at this
   cases ha:cM g fs with
   | none=>trivial
   | mk b r=>rw [ha] at this;exact ⟨this,hk⟩
   | oU k2 b r=>rw [ha] at this;exact ⟨this.1,hk⟩
   | Ek b r=>rw [ha] at this;exact ⟨this,hk⟩
   | ext k2=>rw [ha] at this;exact this
  ·have e:cM g (yB f k fs)=_:=e
   rw [e];exact E0 g
omit [NB G] in
theorem Env.ef {p:Pg} (E:Env P G names p) (f:Nat) (hf:Nat.ble 3840 f=false) (k:PK) (hk:gh P G k f):Env P G names (kj f k p):=by
 obtain ⟨fs,ms⟩:=p
 refine E.Ys f ?_ k hk
 rcases Nat.lt_or_ge f 3840 with g|g
 ·exact g
 ·rw [Nat.ble_eq_true_of_le g] at hf;cases hf
theorem wC (E:Env P G names p) (m f:Nat) (e:lM l0.length v' l' (aD p (exec p m) f args0 (aN l0))=true) (hb:(match cM f p.fs with|.ext _=>false|_=>true)=true:=by kernel_rfl) (k1:Nat.ble l0.length 65536=true:=by kernel_rfl) (k2:Nat.ble l'.length 65536=true:=by kernel_rfl) :
  gh P G (.fn (gY args0 l0 v' l')) f:=Lu E m f (fun k g=>by rw [g] at hb;cases hb) (Nat.le_of_ble_eq_true k1) (Nat.le_of_ble_eq_true k2) e
end
noncomputable section
variable {P:Program} {G:Gl} [NB G] {names:List String} {p:Pg} {φ ψ:aJ} {h h':Hp} {w w':World} {v v':AV} {cv:Value}
mutual
theorem VR.pure {φ ψ:aJ}:∀{v:AV} {cv:Value},VR φ v cv→hY v=true→VR ψ v cv
 | _,_,.bool b,h=>.bool b
 | _,_,.int k n,h=>.int k n
 | _,_,.str s l e,h=>.str s l e
 | _,_,.fi k n,h=>.fi k n
 | _,_,.aj k a b,h=>.aj k a b
 | _,_,.di,h=>.di
 | _,_,.ai,h=>.ai
 | _,_,.gg,h=>.gg
 | _,_,.qi,h=>.qi
 | _,_,.sj,h=>.sj
 | _,_,.agg cs vs e f,h=>.agg cs vs (bX.pure e (show jw cs=true by simpa [hY] using h)) f
 | _,_,.bU cs vs e,h=>.bU cs vs (bX.pure e (show jw cs=true by simpa [hY] using h))
 | _,_,.sym i p e,h=>by simp [hY] at h
 | _,_,.undef v,h=>by simp [hY] at h
 | _,_,.ptr ..,h=>by simp [hY] at h
 | _,_,.slice ..,h=>by simp [hY] at h
 | _,_,.fX ..,h=>by simp [hY] at h
 | _,_,.map ..,h=>by simp [hY] at h
 | _,_,.fn ..,h=>by simp [hY] at h
 | _,_,.iface ..,h=>by simp [hY] at h
theorem bX.pure {φ ψ:aJ}:∀{as:List AV} {vs:List Value},bX φ as vs→jw as=true→bX ψ as vs
 | _,_,.nil,_=>.nil
 | _,_,.cons a v as vs e es,h=>by
  simp only [jw,Bool.and_eq_true] at h
  exact .cons a v as vs (VR.pure e h.1) (bX.pure es h.2)
end
omit [NB G] in
theorem Lw {x:RT} (e:Al v x=true):x.Safe∧∀v' h,x.aG (.ok v' h)→v'=v:=by
 have leaf:∀{x:RT},Al v x=true→∀y,x.aG y→Al v y=true:=by
  intro x
  induction x with
  | ch n k ih=>
   intro e y hy
   have e:nF n (fun i=>Al v (k i))=true:=e
   cases hy with
   | ch _ _ c _ hc hl=>exact ih c (fK e c hc) y hl
  | _=>intro e y hy;cases hy;exact e
 refine ⟨fun k hk=>?_,fun v' h hy=>(nL (show same v v'=true from leaf e _ hy)).symm⟩
 have:Al v (.err k)=true:=leaf e _ hk
 cases this
theorem Ly (E:Env P G names p) (m f n:Nat) {tab:List (List AV×AV)} (hb:∀k,cM f p.fs≠.ext k) (hn:n≤65536) (hn0:0 < n) (hG:G.n≤n) (hS:G.sy=[]) (e:cV p m f n tab=true):gh P G (.fn (bg tab)) f:=by
 intro φ h w args vals hg H hv hs
 have e1:dg (.fn (bg tab)) args h=bg tab args h:=rfl
 rw [e1] at hs ⊢
 induction tab with
 | nil=>exact (RT.Safe.err (n:=245) hs).elim
 | cons y tab ih=>
  obtain ⟨a,v⟩:=y
  have hc:bg ((a,v)::tab) args h=@Bool.rec (fun _=>RT) (bg tab args h) (.ok v h) (pU a args):=rfl
  have e:(jw a&&hY v&&Al v (aD p (exec p m) f a (Db n 0 .dead))&&cV p m f n tab)=true:=by
   unfold cV at e ⊢
   simpa [List.all_cons] using e
  simp only [Bool.and_eq_true] at e
  obtain ⟨⟨⟨p1,p2⟩,p3⟩,p4⟩:=e
  rw [hc] at hs ⊢
  cases hq:pU a args with
  | false=>
   rw [hq] at hs
   exact ih p4 hs rfl
  | true=>
   obtain rfl:=nK hq
   obtain ⟨sf,lf⟩:=Lw p3
   have hgq:∀i,au i (Db n 0 .dead)=if iJ i < n then .dead else .none:=fun i=>by
    rw [nD i n 0 .dead hn]
    split
    ·rename_i g
     have:iJ i < n:=by rw [g,kC (by omega)];exact hn0
     rw [if_pos this]
    ·rfl
   have hnl:∀i,¬ live (au i (Db n 0 .dead)):=fun i hl=>by
    rw [hgq] at hl
    split at hl
    ·exact hl.2 rfl
    ·exact hl.1 rfl
   let φ0:aJ:=fun i=>if iJ i < n then φ i else none
   have H0:HR φ0 (Db n 0 .dead) w:=by
    refine ⟨fun i hl=>absurd hl (hnl i),fun i _ _ _ hl=>absurd hl (hnl i),fun i hi=>?_,fun i q hq=>?_⟩
    ·rw [hgq] at hi
     show (if iJ i < n then φ i else none)=none
     split
     ·rename_i g;rw [if_pos g] at hi;cases hi
     ·rfl
    ·have hq:(if iJ i < n then φ i else none)=some q:=hq
     split at hq
     ·exact H.bound i q hq
     ·cases hq
   have hg0:mD G φ0:=by
    refine ⟨fun g hgl=>?_,fun x hx=>by rw [hS] at hx;cases hx⟩
    obtain ⟨room,hr⟩:=hg.1 g hgl
    refine ⟨room,?_⟩
    show (if iJ (P4.of g) < n then φ (P4.of g) else none)=_
    have:iJ (P4.of g)=g:=kC (by omega)
    rw [this,if_pos (by omega)];exact hr
   have C:=BO E m f a vals hg0 H0 (bX.pure hv p1) sf hb
   refine C.mono ?_
   rintro x w' ⟨v1,h1,cv,φ',hl,a1,b,c,d⟩
   have hv1:=lf _ _ hl
   subst hv1
   have hk:∀b,b < w.heap.size→w'.heap[b]?=w.heap[b]?:=fun b hb=>d.keeps.rest b hb fun i q hi _=>absurd hi (hnl i)
   exact ⟨v1,h,cv,φ,.ok _ _,a1,VR.pure b p2,H.ext d.keeps.size hk,Step.ext d.keeps.size hk d.keeps.tape d.keeps.os d.keeps.output⟩
theorem dC (E:Env P G names p) (m f n:Nat) {tab:List (List AV×AV)} (e:cV p m f n tab=true) (hb:(match cM f p.fs with|.ext _=>false|_=>true)=true:=by kernel_rfl) (k:(Nat.ble n 65536&&Nat.ble 1 n&&Nat.ble G.n n&&G.sy.isEmpty)=true:=by kernel_rfl):gh P G (.fn (bg tab)) f:=by
 simp only [Bool.and_eq_true] at k
 obtain ⟨⟨⟨k1,k2⟩,k3⟩,k4⟩:=k
 exact Ly E m f n (fun k g=>by rw [g] at hb;cases hb) (Nat.le_of_ble_eq_true k1) (Nat.le_of_ble_eq_true k2) (Nat.le_of_ble_eq_true k3) (List.isEmpty_iff.1 k4) e
end
variable {P:Program} {φ:aJ} {h h':Hp} {w:World} {v:AV} {G:Gl}
theorem args3_safe {args:List AV} {k:AV→AV→AV→RV} (hs:(yC args k).kr.Safe):∃x y z,args=[x,y,z]∧yC args k=k x y z:=by
 match args,hs with
 | [],hs=>exact (RT.Safe.err hs).elim
 | [_],hs=>exact (RT.Safe.err hs).elim
 | [_,_],hs=>exact (RT.Safe.err hs).elim
 | [x,y,z],_=>exact ⟨x,y,z,rfl,rfl⟩
 | _::_::_::_::_,hs=>exact (RT.Safe.err hs).elim
structure InsRun (P:Program) (f:Nat) (e:TypeId) (es:Nat):Prop where
 room:∀(w:World) (B o n c q V vo m vc:Nat) (rc rv:Array Value) (eb ev:TypeId) (fz:Nat×Nat) (cs vs:List Value),w.heap[B]?=some (.cells rc eb fz)→w.heap[V]?=some (.cells rv ev (0,0))→V≠B→q < n→0 < m→n+m≤c→n+m≤65536→o+c * es≤rc.size→
  (∀j,j < rc.size→¬ (fz.1≤j∧j < fz.2))→cs.length=n * es→vs.length=m * es→(∀k (hk:k < cs.length),rc[o+k]?=some cs[k])→(∀k (hk:k < vs.length),rv[vo+k]?=some vs[k])→(∀v,v∈cs→v.oneCell'=true)→(∀v,v∈vs→v.oneCell'=true)→
  Calls P f #[.slice (some ⟨B,o,none⟩) n c,.int .i64 q,.slice (some ⟨V,vo,none⟩) m vc] w fun x w'=>x=.returned (.slice (some ⟨B,o,none⟩) (n+m) c)∧
   w'.heap[B]?=some (.cells (sJ (sJ rc (o+(q+m) * es) (cs.drop (q * es))) (o+q * es) vs) eb fz)∧w'.heap.size=w.heap.size∧(∀d,d≠B→w'.heap[d]?=w.heap[d]?)∧w'.tape=w.tape∧w'.os=w.os∧w'.output=w.output
 grow:∀(w:World) (B o n c q V vo m vc:Nat) (rc rv:Array Value) (eb ev:TypeId) (fz:Nat×Nat) (cs vs:List Value),w.heap[B]?=some (.cells rc eb fz)→w.heap[V]?=some (.cells rv ev (0,0))→V≠B→q < n→0 < m→n≤c→c < n+m→n+m≤65536→
  cs.length=n * es→vs.length=m * es→(∀k (hk:k < cs.length),rc[o+k]?=some cs[k])→(∀k (hk:k < vs.length),rv[vo+k]?=some vs[k])→(∀v,v∈cs→v.oneCell'=true)→(∀v,v∈vs→v.oneCell'=true)→
  Calls P f #[.slice (some ⟨B,o,none⟩) n c,.int .i64 q,.slice (some ⟨V,vo,none⟩) m vc] w fun x w'=>∃(g:Nat) (row:Array Value),x=.returned (.slice (some ⟨w.heap.size,0,none⟩) (n+m) g)∧n+m≤g∧w'.heap[w.heap.size]?=some (.cells row e (0,0))∧row.size=g * es∧
   (∀k (hk:k < (cs.take (q * es) ++ (vs ++ cs.drop (q * es))).length),row[k]?=some (cs.take (q * es) ++ (vs ++ cs.drop (q * es)))[k])∧w'.heap.size=w.heap.size+1∧(∀d,d < w.heap.size→w'.heap[d]?=w.heap[d]?)∧w'.tape=w.tape∧w'.os=w.os∧w'.output=w.output
theorem insA {rc:Array Value} {b:Nat} {l l':List Value} {k:Nat} (hk:k≤l.length) (hr:b+(l.length+l'.length)≤rc.size) (hl:∀x (hx:x < l.length),rc[b+x]?=some l[x]) (x:Nat) (hx:x < (l.take k ++ (l' ++ l.drop k)).length) :
  (sJ (sJ rc (b+(k+l'.length)) (l.drop k)) (b+k) l')[b+x]?=some (l.take k ++ (l' ++ l.drop k))[x]:=by
 have hd:(l.drop k).length=l.length - k:=List.length_drop
 have ht:(l.take k).length=k:=by rw [List.length_take];omega
 have hx':=hx
 simp only [List.length_append,hd,ht] at hx'
 rw [kE _ _ _ _ (by rw [eN];omega)]
 by_cases h1:x < k
 ·rw [dif_neg (by omega),kE _ _ _ _ (by rw [hd];omega),dif_neg (by omega),hl x (by omega),List.getElem_append_left (by omega),List.getElem_take]
 ·by_cases h2:x < k+l'.length
  ·rw [dif_pos (by omega),List.getElem_append_right (by omega),List.getElem_append_left (by omega)]
   congr 2
   omega
  ·rw [dif_neg (by omega),kE _ _ _ _ (by rw [hd];omega),dif_pos (by rw [hd];omega),List.getElem_append_right (by omega),List.getElem_append_right (by omega)]
   congr 2
   omega
theorem ins_ok {f e es:Nat} (R:InsRun P f e es) (hes:0 < es):gh P G (.ins e es) f:=by
 intro φ h w args vals hg H hv hs
 obtain ⟨s,x,y,rfl,e0⟩:=args3_safe (k:=fun s x y=>BP e es s x y h) hs
 have hp:dg (.ins e es) [s,x,y] h=(BP e es s x y h).kr:=rfl
 rw [hp] at hs ⊢
 obtain ⟨r,h',hr⟩:=gC hs
 rw [hr]
 cases hv with
 | cons _ c1 _ _ v1 hv=>cases hv with
 | cons _ c2 _ _ v2 hv=>cases hv with
 | cons _ c3 _ _ v3 hv=>
 cases hv
 unfold BP at hr
 rcases cW hr with ⟨i,o,l,c,rfl,hr⟩|⟨i,o,n,es',rfl,hr⟩|⟨rfl,hr⟩
 ·cases hr
 ·obtain ⟨kd,z,rfl,hr⟩:=bu hr
  obtain ⟨hkd,hr⟩:=aC hr
  have hkd:kd=.i64:=by cases kd<;>first|rfl|cases hkd
  subst hkd
  cases z with
  | negSucc z=>cases hr
  | ofNat q=>
  have hr:AV.jl y (fun j o2 m _=>wD e es i o n es' q j o2 m h) (fun _ _ _ _=>.err 240) (.err 240) (.err 240)=.ok r h':=hr
  rcases cW hr with ⟨j,o2,m,vc,rfl,hr⟩|⟨_,_,_,_,rfl,hr⟩|⟨rfl,hr⟩
  ·have hr:wD e es i o n es' q j o2 m h=.ok r h':=hr
   unfold wD at hr
   obtain ⟨b1,hr⟩:=aC hr
   obtain ⟨b2,hr⟩:=aC hr
   obtain ⟨b3,hr⟩:=aC hr
   obtain ⟨b4,hr⟩:=aC hr
   obtain ⟨b5,hr⟩:=aC hr
   obtain ⟨ev,k2,ex2,fl2,cl2,hj,hr⟩:=aO hr
   obtain ⟨b6,hr⟩:=aC hr
   obtain ⟨b7,hr⟩:=aC hr
   have hr:An e es i n q m (bB (m * es) cl2 o2) h=.ok r h':=hr
   unfold An at hr
   obtain ⟨eb,k,ex,fl,cl,hi,hr⟩:=aO hr
   obtain ⟨b8,hr⟩:=aC hr
   obtain ⟨b9,hr⟩:=aC hr
   obtain ⟨b10,hr⟩:=aC hr
   obtain ⟨b11,hz⟩:=aC hr
   have b1:es=es':=Nat.eq_of_beq_eq_true b1
   have b2:o=0:=Nat.eq_of_beq_eq_true b2
   have b3:q < n:=Nat.le_of_ble_eq_true b3
   have b4:0 < m:=Nat.le_of_ble_eq_true b4
   have b7:o2+m * es≤k2:=Nat.le_of_ble_eq_true b7
   have b9:ex=false:=by cases ex<;>first|rfl|cases b9
   have b10:e=eb:=Nat.eq_of_beq_eq_true b10
   have b11:n * es=k:=Nat.eq_of_beq_eq_true b11
   have hij:i≠j:=fun hij=>by
    rw [eT.2 hij] at b5;cases b5
   have hfl2:fl2=.plain:=by cases fl2<;>first|rfl|cases b6
   subst b1 b2 b9 b10 b11 hfl2
   obtain ⟨hcr,hn,hz⟩:=eR hz
   obtain ⟨rfl,rfl⟩:=RV.av hz
   cases v1 with
   | fX _ _ _ _ cap p a hp1 h1 h2 h3 h4 h5 h6=>
   cases v3 with
   | slice _ _ _ _ p2 hp2=>
   have hl:live (au i h):=hi▸aK
   have hl2:live (au j h):=hj▸aK
   obtain ⟨_,hq,hor⟩:=H.obj i hl
   rw [hp1] at hq;cases hq
   rw [hi] at hor
   obtain ⟨rc,fz,g1,g2,g3,g4,g5,g6,g7⟩:=hor
   obtain ⟨_,hq,hor⟩:=H.obj j hl2
   rw [hp2] at hq;cases hq
   rw [hj] at hor
   obtain ⟨rv,fz2,k1,k3,k4,k5,k6,k7,k8⟩:=hor
   cases k8
   have hne:p2.bJ≠p.bJ:=fun e'=>H.inj i j p p2 hl hl2 hij hp1 hp2 e'.symm
   have ha:a=p.addr 0:=fR h3 h4 h5 (by omega)
   obtain ⟨cs,c1,c2,c3,c4⟩:=H.values hi hp1 (n * es) 0 (by omega)
   obtain ⟨vs,u1,u2,u3,u4⟩:=H.values hj hp2 (m * es) o2 b7
   have c5:∀k (hk:k < cs.length),rc[p.base+k]?=some cs[k]:=fun k hk=>by
    have:=c4 k hk
    rw [ct,lr g1,Nat.zero_add] at this
    exact this
   have u5:∀k (hk:k < vs.length),rv[p2.base+o2+k]?=some vs[k]:=fun k hk=>by
    have:=u4 k hk
    rw [ct,lr k1,←Nat.add_assoc] at this
    exact this
   have hroom:=kF (mu (List.append (List.take (Nat.mul q es) (bB (Nat.mul n es) cl 0)) (List.append (bB (m * es) cl2 o2) (List.drop (Nat.mul q es) (bB (Nat.mul n es) cl 0)))))
   have hnm:n+m≤65536:=by
    have h1:(n+m) * 1≤(n+m) * es:=Nat.mul_le_mul_left _ hes
    have h2:(n+m) * es≤_:=hcr
    omega
   have hrel:bX φ (List.append (List.take (Nat.mul q es) (bB (Nat.mul n es) cl 0)) (List.append (bB (m * es) cl2 o2) (List.drop (Nat.mul q es) (bB (Nat.mul n es) cl 0)))) (cs.take (q * es) ++ (vs ++ cs.drop (q * es))):=
    (c2.take _).append (u2.append (c2.drop _))
   have hqn:q * es≤n * es:=Nat.mul_le_mul_right _ (by omega)
   have hsum:=Nat.add_mul n m es
   have hsum2:=Nat.add_mul q m es
   have hlen:(cs.take (q * es) ++ (vs ++ cs.drop (q * es))).length=(n+m) * es:=by
    simp only [List.length_append,List.length_take,List.length_drop]
    omega
   have hone:∀c,c∈cs.take (q * es) ++ (vs ++ cs.drop (q * es))→c.oneCell'=true:=fun c hc=>by
    rcases List.mem_append.1 hc with g|g
    ·exact c3 c (List.mem_of_mem_take g)
    ·rcases List.mem_append.1 g with g|g
     ·exact u3 c g
     ·exact c3 c (List.mem_of_mem_drop g)
   change au h.next (cN i .dead h)=.none at hn
   have hnx:au h.next h=.none:=by
    rw [bj] at hn
    by_cases e':h.next=i
    ·rw [if_pos e'] at hn;cases hn
    ·rwa [if_neg e'] at hn
   have hφ:=H.fresh _ hnx
   have hcell:∀x (hx:x < (cs.take (q * es) ++ (vs ++ cs.drop (q * es))).length) (ψ:aJ),φ.le ψ→VR ψ (eA x (mu (List.append (List.take (Nat.mul q es) (bB (Nat.mul n es) cl 0)) (List.append (bB (m * es) cl2 o2) (List.drop (Nat.mul q es) (bB (Nat.mul n es) cl 0)))))) (cs.take (q * es) ++ (vs ++ cs.drop (q * es)))[x]:=fun x hx ψ hψ=>by
    have hx2:=hx
    rw [←hrel.length] at hx2
    rw [dA _ (by rw [hrel.length,hlen];exact hcr) x hx2]
    exact (hrel.get x hx2 hx).mono hψ
   rw [v2.aU]
   have e1:(some (p2.addr o2):Option Addr)=some ⟨p2.bJ,p2.base+o2,none⟩:=rfl
   rw [ha,show (some (p.addr 0):Option Addr)=some ⟨p.bJ,p.base,none⟩ from rfl,e1]
   by_cases hin:n+m≤cap
   ·have hcap:(n+m) * es≤cap * es:=Nat.mul_le_mul_right _ hin
    refine (R.room w p.bJ p.base n cap q p2.bJ (p2.base+o2) m vc rc rv _ _ fz cs vs g1 k1 hne b3 b4 hin hnm (by omega) (lV b8 g7) c1 u1 c5 u5 c3 u3).mono ?_
    rintro x w' ⟨rfl,r2,r3,r4,r5,r6,r7⟩
    obtain ⟨s1,s2⟩:=H.nM (n':=h.next.succ) hp1 hl hn (q:=⟨p.bJ,p.base,p.room⟩) (w':=w') (.inl rfl)
     (o:=.cells e ((n+m) * es) false fl (mu (List.append (List.take (Nat.mul q es) (bB (Nat.mul n es) cl 0)) (List.append (bB (m * es) cl2 o2) (List.drop (Nat.mul q es) (bB (Nat.mul n es) cl 0)))))) aK (by omega) (by rw [r3];exact H.bound i p hp1) (fun b _ hb=>r4 b hb)
     (by
      refine ⟨_,fz,r2,by rw [eN,eN];exact g2,by simp only;omega,by simp,hcr,fun x hx=>?_,by rw [eN,eN];exact g7⟩
      have hx':x < (cs.take (q * es) ++ (vs ++ cs.drop (q * es))).length:=by rw [hlen];exact hx
      refine ⟨_,?_,hcell x hx' _ (aJ.fB _ hφ),hone _ (List.getElem_mem hx')⟩
      have:=insA (rc:=rc) (b:=p.base) (l:=cs) (l':=vs) (k:=q * es) (by omega) (by omega) c5 x hx'
      rw [u1,←hsum2] at this
      exact this) r5 r6 r7
    refine ⟨_,_,_,_,.ok _ _,rfl,?_,s1,s2⟩
    refine .fX _ 0 (n+m) es cap ⟨p.bJ,p.base,p.room⟩ ⟨p.bJ,p.base,none⟩ (aJ.aL _ _ _) (by simp only;omega) hin rfl rfl (fun _=>by simp) hes
   ·refine (R.grow w p.bJ p.base n cap q p2.bJ (p2.base+o2) m vc rc rv _ _ fz cs vs g1 k1 hne b3 b4 (by omega) (by omega) hnm c1 u1 c5 u5 c3 u3).mono ?_
    rintro x w' ⟨g,row,rfl,r1,r2,r3,r4,r5,r6,r7,r8,r9⟩
    obtain ⟨s1,s2⟩:=H.nM (n':=h.next.succ) hp1 hl hn (q:=⟨w.heap.size,0,g * es⟩) (w':=w') (.inr rfl)
     (o:=.cells e ((n+m) * es) false fl (mu (List.append (List.take (Nat.mul q es) (bB (Nat.mul n es) cl 0)) (List.append (bB (m * es) cl2 o2) (List.drop (Nat.mul q es) (bB (Nat.mul n es) cl 0)))))) aK (by omega) (by simp only;omega) (fun b hb _=>r6 b hb)
     (by
      refine ⟨row,(0,0),r2,by simp only;omega,Nat.mul_le_mul_right _ r1,by simp,hcr,fun x hx=>?_,ve⟩
      have hx':x < (cs.take (q * es) ++ (vs ++ cs.drop (q * es))).length:=by rw [hlen];exact hx
      refine ⟨_,?_,hcell x hx' _ (aJ.fB _ hφ),hone _ (List.getElem_mem hx')⟩
      simp only [Nat.zero_add]
      exact r4 x hx') r7 r8 r9
    refine ⟨_,_,_,_,.ok _ _,rfl,?_,s1,s2⟩
    exact .fX _ 0 (n+m) es g ⟨w.heap.size,0,_⟩ ⟨w.heap.size,0,none⟩ (aJ.aL _ _ _) (by simp) r1 rfl rfl (fun _=>rfl) hes
  ·cases hr
  ·cases hr
 ·cases hr
end Go.Am
