/- Closed runs, whole and in pieces. Conditions: the table of functions is the program's (Env). -/
import Derived.Test.YtphjcbegmaekbaaGreatDoorS2
import Derived.Test.YtphjcbegmaekbaaGreatDoorH
import Derived.Test.YtphjcbegmaekbaaGreatDoorG0
import Derived.KernelRfl
import Derived.RangeFuncRecord
import Derived.LoopNIn
import Derived.Lib.MakeNoZero
import Derived.Laws.Externs
import Derived.WalkKit
import Derived.MapKept
import Derived.ProofKit
import Derived.OpenShut
import Derived.Lib.LaidTab
import Derived.Handed
set_option linter.all false
namespace Go.Am.Crc
open Go.Am.Seat
set_option maxRecDepth 20000
noncomputable section
def T0 (v0 v3:AV):A2:=.mk (.mk v0 .undef .undef v3 .undef .undef .undef .undef .undef .undef .undef .undef .undef .undef .undef .undef) .nil .nil .nil .nil .nil .nil .nil .nil .nil .nil .nil .nil .nil .nil .nil
def T1 (v2:AV):A2:=.mk (.mk .undef .undef v2 .undef .undef .undef .undef .undef .undef .undef .undef .undef .undef .undef .undef .undef) .nil .nil .nil .nil .nil .nil .nil .nil .nil .nil .nil .nil .nil .nil .nil
def T2 (v3:AV):A2:=.mk (.mk .undef .undef .undef v3 .undef .undef .undef .undef .undef .undef .undef .undef .undef .undef .undef .undef) .nil .nil .nil .nil .nil .nil .nil .nil .nil .nil .nil .nil .nil .nil .nil
def T3 (v3 v7 v8 v9:AV):A2:=.mk (.mk .undef .undef .undef v3 .undef .undef .undef v7 v8 v9 .undef .undef .undef .undef .undef .undef) .nil .nil .nil .nil .nil .nil .nil .nil .nil .nil .nil .nil .nil .nil .nil
def T4 (v3 v7 v8 v9 v17:AV):A2:=.mk (.mk .undef .undef .undef v3 .undef .undef .undef v7 v8 v9 .undef .undef .undef .undef .undef .undef) (.mk .undef v17 .undef .undef .undef .undef .undef .undef .undef .undef .undef .undef .undef .undef .undef .undef) .nil .nil .nil .nil .nil .nil .nil .nil .nil .nil .nil .nil .nil .nil
def Jg:Cf→Iv→(A2→Hp→RS)→A2→Hp→RS:=fun cf iv rx r h=>(fun (x23 x24 x25 x26 x27:AV)=>
 tR (xW x27 (pi 8) h) fun v28 h29=>
 ifR v28 (tR (vi x23 (.int .u32 (.ofNat 1)) h29) fun v30 h31=>
 tR (bK .shr x23 (.int .u64 (.ofNat 1)) h31) fun v32 h33=>
 tR (zI v30 (.int .u32 (.ofNat 1)) h33) fun v34 h35=>
 ifR v34 (tR (pT v32 (.int .u32 (.ofNat 3988292384)) h35) fun v36 h37=>
 tR (jS x27 (pi 1) h37) fun v38 h39=>
 .nm (T4 v36 x24 x25 x26 v38) h39) (tR (jS x27 (pi 1) h35) fun v40 h41=>
 .nm (T4 v32 x24 x25 x26 v40) h41)) (.ex 2 (T4 x23 x24 x25 x26 x27) h29)) (aw .h0 .h3 r) (aw .h0 .h7 r) (aw .h0 .h8 r) (aw .h0 .h9 r) (aw .h1 .h1 r)
def kC_3:Cf→Iv→(A2→Hp→RS)→A2→Hp→RS:=fun cf iv rx r h=>(fun (x11 x12 x13 x14:AV)=>
 tR (ix 1 x12 x14 h) fun v15 h16=>
 tR (ld v15 h16) fun v17 h18=>
 tR (cK (.toInt .u32) v17 h18) fun v19 h20=>
 tR (pT x11 v19 h20) fun v21 h22=>
 rx (T4 v21 x12 x13 x14 (pi 0)) h22) (aw .h0 .h3 r) (aw .h0 .h7 r) (aw .h0 .h8 r) (aw .h0 .h9 r)
def xp:Cf→Iv→(A2→Hp→RS)→A2→Hp→RS:=fun cf iv rx r h=>(fun (x42 x43 x44 x45:AV)=>
 tR (jS x45 (pi 1) h) fun v46 h47=>
 .nm (T3 x42 x43 x44 v46) h47) (aw .h0 .h3 r) (aw .h0 .h7 r) (aw .h0 .h8 r) (aw .h0 .h9 r)
def Ax:Cf→Iv→(A2→Hp→RS)→A2→Hp→RS:=fun cf iv rx r h=>(fun (x5 x6 x7 x8:AV)=>
 tR (xW x8 x7 h) fun v9 h10=>
 ifR v9 (rx (T3 x5 x6 x7 x8) h10) (.ex 0 (T2 x5) h10)) (aw .h0 .h3 r) (aw .h0 .h7 r) (aw .h0 .h8 r) (aw .h0 .h9 r)
def kC_1:Cf→Iv→(A2→Hp→RS)→A2→Hp→RS:=fun cf iv rx r h=>(fun (x1 x2:AV)=>
 tR (len x1 h) fun v3 h4=>
 rx (T3 x2 x1 v3 (pi 0)) h4) (aw .h0 .h0 r) (aw .h0 .h3 r)
def kC_6:Cf→Iv→(A2→Hp→RS)→A2→Hp→RS:=fun cf iv rx r h=>(fun (x48:AV)=>
 tR (vj x48 h) fun v49 h50=>
 .ret (T1 v49) h50) (aw .h0 .h3 r)
def kC_0:Cf→Iv→(A2→Hp→RS)→A2→Hp→RS:=fun cf iv rx r h=>(fun (x0:AV)=>
 rx (T0 x0 (.int .u32 (.ofNat 4294967295))) h) (aw .h0 .h0 r)
def xC:AC:=(.ah kC_0 (.seq (.ah kC_1 (.block 0 (.loop (.ah Ax (.seq (.block 1 (.ah kC_3 (.block 2 (.loop (.ah Jg .skip))))) (.ah xp .skip)))))) (.ah kC_6 .skip)))
def zC:List Rs:=[.t .h0 .h2]
end
section
variable {cf:Cf} {iv:Iv} {rx:A2→Hp→RS} {h:Hp}
theorem QW (x23 x24 x25 x26 x27:AV):Jg cf iv rx (T4 x23 x24 x25 x26 x27) h =
 tR (xW x27 (pi 8) h) fun v28 h29=>
 ifR v28 (tR (vi x23 (.int .u32 (.ofNat 1)) h29) fun v30 h31=>
 tR (bK .shr x23 (.int .u64 (.ofNat 1)) h31) fun v32 h33=>
 tR (zI v30 (.int .u32 (.ofNat 1)) h33) fun v34 h35=>
 ifR v34 (tR (pT v32 (.int .u32 (.ofNat 3988292384)) h35) fun v36 h37=>
 tR (jS x27 (pi 1) h37) fun v38 h39=>
 .nm (T4 v36 x24 x25 x26 v38) h39) (tR (jS x27 (pi 1) h35) fun v40 h41=>
 .nm (T4 v32 x24 x25 x26 v40) h41)) (.ex 2 (T4 x23 x24 x25 x26 x27) h29):=rfl
theorem QX (x11 x12 x13 x14:AV):kC_3 cf iv rx (T3 x11 x12 x13 x14) h =
 tR (ix 1 x12 x14 h) fun v15 h16=>
 tR (ld v15 h16) fun v17 h18=>
 tR (cK (.toInt .u32) v17 h18) fun v19 h20=>
 tR (pT x11 v19 h20) fun v21 h22=>
 rx (T4 v21 x12 x13 x14 (pi 0)) h22:=rfl
theorem BZ (x5 x6 x7 x8:AV):Ax cf iv rx (T3 x5 x6 x7 x8) h =
 tR (xW x8 x7 h) fun v9 h10=>
 ifR v9 (rx (T3 x5 x6 x7 x8) h10) (.ex 0 (T2 x5) h10):=rfl
theorem QY (x48:AV):kC_6 cf iv rx (T2 x48) h =
 tR (vj x48 h) fun v49 h50=>
 .ret (T1 v49) h50:=rfl
end
section
variable {cf:Cf} {iv:Iv} {rx:A2→Hp→RS} {h:Hp} {x y z:AV} {p:Pg}
def u32 (n:Nat):AV:=.int .u32 (.ofNat n)
theorem gm (v:AV) (h:Hp) (k:AV→Hp→RS):tR (.ok v h) k=k v h:=rfl
theorem Ca (t:Bool) (a b:RS):ifR (.bool t) a b=(@Bool.rec (fun _=>RS) b a t):=rfl
theorem Jh (a b:Nat):xW (pi a) (pi b) h=.ok (.bool (Nat.ble (a+1) b)) h:=rfl
theorem kE {c d:Nat} (hc:c < 4294967296) (hd:d < 4294967296):vi (u32 c) (u32 d) h=.ok (u32 (Nat.land c d)) h:=by
 show RV.ok (.int .u32 (.ofNat (Nat.land (c % 4294967296) (d % 4294967296) % 4294967296))) h=_
 rw [Nat.mod_eq_of_lt hc,Nat.mod_eq_of_lt hd,Nat.mod_eq_of_lt (a:=Nat.land c d) (Nat.lt_of_le_of_lt (show Nat.land c d≤c from Nat.and_le_left) hc)];rfl
theorem pC {c d:Nat} (hc:c < 4294967296) (hd:d < 4294967296):Nat.xor c d < 4294967296:=Nat.xor_lt_two_pow (n:=32) hc hd
theorem Ji {c d:Nat} (hc:c < 4294967296) (hd:d < 4294967296):pT (u32 c) (u32 d) h=.ok (u32 (Nat.xor c d)) h:=by
 show RV.ok (.int .u32 (.ofNat (Nat.xor (c % 4294967296) (d % 4294967296) % 4294967296))) h=_
 rw [Nat.mod_eq_of_lt hc,Nat.mod_eq_of_lt hd,Nat.mod_eq_of_lt (pC hc hd)];rfl
theorem alb {c:Nat}:bK .shr (u32 c) (.int .u64 (.ofNat 1)) h=.ok (u32 (c / 2)) h:=rfl
theorem apV {c d:Nat}:zI (u32 c) (u32 d) h=.ok (.bool (Nat.beq c d)) h:=rfl
theorem Ay {a:Nat} (ha:a+1≤9223372036854775807):jS (pi a) (pi 1) h=.ok (pi (a+1)) h:=by
 show RV.ok (.int .i64 (@Bool.rec (fun _=>Int) (IntKind.wrap .i64 (.ofNat (a+1))) (.ofNat (a+1)) (Nat.ble (a+1) 9223372036854775807))) h=_
 rw [Nat.ble_eq_true_of_le ha];rfl
theorem tI {c:Nat} (hc:c < 4294967296):(Nat.land c 1=1∧mc c=Nat.xor (c / 2) 3988292384)∨(Nat.land c 1=0∧mc c=c / 2):=by
 have e:Nat.shiftRight c 1=c / 2:=rfl
 have l:Nat.land c 1=c % 2:=Nat.and_one_is_mod c
 unfold mc
 rw [e,l]
 rcases Nat.mod_two_eq_zero_or_one c with g|g
 ·right;rw [g];exact ⟨rfl,Nat.xor_zero _⟩
 ·left;rw [g];exact ⟨rfl,rfl⟩
theorem Cb {c:Nat} (hc:c < 4294967296):mc c < 4294967296:=by
 rcases tI hc with ⟨_,e⟩|⟨_,e⟩<;>rw [e]
 ·exact pC (by omega) (by omega)
 ·omega
theorem k5 (a b c d e:AV):xp cf iv rx (T4 a b c d e) h=tR (jS d (pi 1) h) fun v h=>.nm (T3 a b c v) h:=rfl
theorem apW {c k:Nat} (hc:c < 4294967296) (hk:k < 8):Jg cf iv rx (T4 (u32 c) x y z (pi k)) h=.nm (T4 (u32 (mc c)) x y z (pi (k+1))) h:=by
 rw [QW,Jh,gm,Ca,Nat.ble_eq_true_of_le (by omega:k+1≤8)]
 show tR (vi (u32 c) (u32 1) h) (fun _ _=>_)=_
 rw [kE hc (by omega),gm,alb,gm]
 show tR (zI (u32 (Nat.land c 1)) (u32 1) h) (fun _ _=>_)=_
 rw [apV,gm,Ca]
 rcases tI hc with ⟨e1,e2⟩|⟨e1,e2⟩
 ·rw [e1,e2]
  show tR (pT (u32 (c / 2)) (u32 3988292384) h) (fun _ _=>_)=_
  rw [Ji (by omega) (by omega),gm,Ay (by omega),gm]
 ·rw [e1,e2]
  show tR (jS (pi k) (pi 1) h) (fun _ _=>_)=_
  rw [Ay (by omega),gm]
def QZ:Nat→Nat→Nat
 | 0,c=>c
 | j+1,c=>QZ j (mc c)
theorem Jj (c:Nat):QZ 8 c=zO c:=rfl
theorem xq:∀(j c:Nat),c < 4294967296→QZ j c < 4294967296
 | 0,_,h=>h
 | j+1,_,h=>xq j _ (Cb h)
noncomputable abbrev L4:AC:=.loop (.ah Jg .skip)
theorem Wk (m:Nat):∀(j c:Nat),c < 4294967296→j≤8→exec p (m+3+j) L4 (T4 (u32 c) x y z (pi (8 - j))) h=.ex 2 (T4 (u32 (QZ j c)) x y z (pi 8)) h
 | 0,c,hc,_=>rfl
 | j+1,c,hc,hj=>by
  rw [show m+3+(j+1)=m+2+j+1+1 by omega]
  show RS.bind (Jg (aD p (exec p (m+2+j))) (aH p (exec p (m+2+j))) (fun r h=>exec p (m+2+j) .skip r h) (T4 (u32 c) x y z (pi (8 - (j+1)))) h) (fun r h=>exec p (m+2+j+1) L4 r h) (fun _ _ _=>_) (fun _ _ _=>_)=_
  rw [apW hc (by omega),show m+2+j+1=m+3+j by omega]
  show exec p (m+3+j) L4 (T4 (u32 (mc c)) x y z (pi (8 - (j+1)+1))) h=_
  rw [show 8 - (j+1)+1=8 - j by omega]
  exact Wk m j _ (Cb hc) (by omega)
noncomputable abbrev B3:AC:=.ah kC_3 (.block 2 L4)
noncomputable abbrev L2:AC:=.loop (.ah Ax (.seq (.block 1 B3) (.ah xp .skip)))
def Rd (x:AV) (h:Hp) (i b:Nat):Prop:=∃q,ix 1 x (pi i) h=.ok q h∧ld q h=.ok (.int .u8 (.ofNat b)) h
theorem apX (m:Nat) {c i b:Nat} (hc:c < 4294967296) (hr:Rd x h i b) (hb:b≤255):exec p (m+14) B3 (T3 (u32 c) x y (pi i)) h=.nm (T4 (u32 (zO (Nat.xor c b))) x y (pi i) (pi 8)) h:=by
 obtain ⟨q,e1,e2⟩:=hr
 show kC_3 (aD p (exec p (m+13))) (aH p (exec p (m+13))) (fun r h=>exec p (m+13) (.block 2 L4) r h) (T3 (u32 c) x y (pi i)) h=_
 rw [QX,e1,gm,e2,gm]
 have e3:cK (.toInt .u32) (.int .u8 (.ofNat b)) h=.ok (u32 b) h:=by
  show RV.ok (.int .u32 (.ofNat (b % 4294967296))) h=_
  rw [Nat.mod_eq_of_lt (by omega)];rfl
 rw [e3,gm]
 rw [Ji hc (by omega),gm]
 show RS.bind (exec p (m+12) L4 (T4 (u32 (Nat.xor c b)) x y (pi i) (pi 0)) h) (fun _ _=>_) (fun _ _ _=>_) (fun _ _ _=>_)=_
 have:=Wk (p:=p) (h:=h) (x:=x) (y:=y) (z:=pi i) (m+1) 8 (Nat.xor c b) (pC hc (by omega)) (Nat.le_refl _)
 rw [Jj] at this
 have e4:exec p (m+12) L4 (T4 (u32 (Nat.xor c b)) x y (pi i) (pi 0)) h=.ex 2 (T4 (u32 (zO (Nat.xor c b))) x y (pi i) (pi 8)) h:=this
 rw [e4]
 rfl
theorem Wl (m n:Nat) (hn:n < 9223372036854775807):∀(t:List Nat) (i c:Nat),c < 4294967296→i+t.length=n→(∀(j:Nat) (hj:j < t.length),Rd x h (i+j) t[j]∧t[j]≤255)→
  exec p (m+20+t.length) L2 (T3 (u32 c) x (pi n) (pi i)) h=.ex 0 (T2 (u32 (Gi t c))) h
 | [],i,c,hc,hi,_=>by
  have hi:i=n:=by simpa using hi
  subst hi
  have:Ax (aD p (exec p (m+18))) (aH p (exec p (m+18))) (fun r h=>exec p (m+18) (.seq (.block 1 B3) (.ah xp .skip)) r h) (T3 (u32 c) x (pi i) (pi i)) h=.ex 0 (T2 (u32 c)) h:=by
   rw [BZ,Jh,gm,Ca]
   have:Nat.ble (i+1) i=false:=by rw [Bool.eq_false_iff];intro e;have:=Nat.le_of_ble_eq_true e;omega
   rw [this]
  show RS.bind (Ax (aD p (exec p (m+18))) (aH p (exec p (m+18))) (fun r h=>exec p (m+18) (.seq (.block 1 B3) (.ah xp .skip)) r h) (T3 (u32 c) x (pi i) (pi i)) h) (fun _ _=>_) (fun _ _ _=>_) (fun _ _ _=>_)=_
  rw [this];rfl
 | b::t,i,c,hc,hi,hr=>by
  have hl:i+1+t.length=n:=by simp only [List.length_cons] at hi;omega
  obtain ⟨r0,hb⟩:=hr 0 (by simp)
  have r0:Rd x h i b:=r0
  have hb:b≤255:=hb
  have ih:=Wl m n hn t (i+1) (zO (Nat.xor c b)) (by rw [←Jj];exact xq 8 _ (pC hc (by omega))) hl (fun j hj=>by
   have:=hr (j+1) (by simpa using hj)
   rw [show i+1+j=i+(j+1) by omega];simpa using this)
  have:Ax (aD p (exec p (m+19+t.length))) (aH p (exec p (m+19+t.length))) (fun r h=>exec p (m+19+t.length) (.seq (.block 1 B3) (.ah xp .skip)) r h) (T3 (u32 c) x (pi n) (pi i)) h=.nm (T3 (u32 (zO (Nat.xor c b))) x (pi n) (pi (i+1))) h:=by
   rw [BZ,Jh,gm,Ca,Nat.ble_eq_true_of_le (by omega:i+1≤n)]
   show exec p (m+19+t.length) (.seq (.block 1 B3) (.ah xp .skip)) (T3 (u32 c) x (pi n) (pi i)) h=_
   rw [show m+19+t.length=(m+3+t.length)+14+1+1 by omega]
   show RS.bind (RS.bind (exec p ((m+3+t.length)+14) B3 (T3 (u32 c) x (pi n) (pi i)) h) (fun _ _=>_) (fun _ _ _=>_) (fun _ _ _=>_)) (fun _ _=>_) (fun _ _ _=>_) (fun _ _ _=>_)=_
   rw [apX _ hc r0 hb]
   show xp (aD p (exec p (m+3+t.length+14))) (aH p (exec p (m+3+t.length+14))) (fun r h=>exec p (m+3+t.length+14) .skip r h) (T4 (u32 (zO (Nat.xor c b))) x (pi n) (pi i) (pi 8)) h=_
   rw [k5,Ay (by omega),gm]
  rw [show m+20+(b::t).length=m+19+t.length+1+1 by simp only [List.length_cons];omega]
  show RS.bind (Ax (aD p (exec p (m+19+t.length))) (aH p (exec p (m+19+t.length))) (fun r h=>exec p (m+19+t.length) (.seq (.block 1 B3) (.ah xp .skip)) r h) (T3 (u32 c) x (pi n) (pi i)) h) (fun r h=>exec p (m+19+t.length+1) L2 r h) (fun _ _ _=>_) (fun _ _ _=>_)=_
  rw [this,show m+19+t.length+1=m+20+t.length by omega]
  exact ih
theorem alc {c:Nat} (hc:c < 4294967296):vj (u32 c) h=.ok (u32 (Nat.xor 4294967295 c)) h:=by
 show RV.ok (.int .u32 (IntKind.wrap .u32 (BitVec.ofInt 32 4294967295 ^^^ BitVec.ofInt 32 (.ofNat c)).toNat)) h=_
 have e:(BitVec.ofInt 32 4294967295 ^^^ BitVec.ofInt 32 (.ofNat c)).toNat=Nat.xor 4294967295 c:=by
  rw [BitVec.toNat_xor]
  have e1:(BitVec.ofInt 32 4294967295).toNat=4294967295:=rfl
  have e2:(BitVec.ofInt 32 (.ofNat c)).toNat=c:=by
   rw [BitVec.toNat_ofInt]
   show ((Int.ofNat c) % ((2 ^ 32:Nat):Int)).toNat=c
   have:(Int.ofNat c)=(c:Int):=rfl
   rw [this];omega
  rw [e1,e2];rfl
 rw [e]
 have e2:IntKind.wrap .u32 (Int.ofNat (Nat.xor 4294967295 c))=Int.ofNat (Nat.xor 4294967295 c):=by
  rw [←eF]
  show Int.ofNat (Nat.xor 4294967295 c % 4294967296)=_
  rw [Nat.mod_eq_of_lt (pC (by omega) hc)]
 rw [show ((Nat.xor 4294967295 c:Nat):Int)=Int.ofNat (Nat.xor 4294967295 c) from rfl,e2];rfl
theorem Cc:∀(t:List Nat) (c:Nat),c < 4294967296→(∀b∈t,b≤255)→Gi t c < 4294967296
 | [],_,hc,_=>hc
 | b :: t, c, hc, hb => Cc t _ (by
   have:=hb b (by simp)
   rw [←Jj];exact xq 8 _ (pC hc (by omega))) (fun a ha=>hb a (by simp [ha]))
theorem run (s:List Nat) (hn:s.length < 9223372036854775807) (hl:len x h=.ok (gZ s.length) h) (hr:∀(j:Nat) (hj:j < s.length),Rd x h j s[j]∧s[j]≤255) :
  eD zC (exec p (s.length+30) xC (dK [x] 0 .nil) h)=.ok (u32 (ahR s)) h:=by
 have hb:∀b∈s,b≤255:=fun b hb=>by
  obtain ⟨j,hj,rfl⟩:=List.mem_iff_getElem.1 hb
  exact (hr j hj).2
 have hc:Gi s 4294967295 < 4294967296:=Cc s _ (by omega) hb
 have e2:=Wl (p:=p) (x:=x) (h:=h) 6 s.length hn s 0 4294967295 (by omega) (by omega) (fun j hj=>by rw [Nat.zero_add];exact hr j hj)
 have e1:exec p (s.length+30) xC (dK [x] 0 .nil) h=.ret (T1 (u32 (ahR s))) h:=by
  show RS.bind (tR (len x h) fun v3 h4=>exec p (s.length+27) (.block 0 L2) (T3 (u32 4294967295) x v3 (pi 0)) h4) (fun r h=>exec p (s.length+28) (.ah kC_6 .skip) r h) (fun _ _ _=>_) (fun _ _ _=>_)=_
  rw [hl,gm]
  show RS.bind (RS.bind (exec p (s.length+26) L2 (T3 (u32 4294967295) x (pi s.length) (pi 0)) h) (fun _ _=>_) (fun _ _ _=>_) (fun _ _ _=>_)) (fun _ _=>_) (fun _ _ _=>_) (fun _ _ _=>_)=_
  rw [show s.length+26=6+20+s.length by omega,e2]
  show kC_6 (aD p (exec p (s.length+27))) (aH p (exec p (s.length+27))) (fun r h=>exec p (s.length+27) .skip r h) (T2 (u32 (Gi s 4294967295))) h=_
  rw [QY,alc hc,gm];rfl
 rw [e1];rfl
end
section
variable {h h':Hp} {x v:AV} {P:Program} {G:Gl} [NB G] {names:List String} {φ:aJ} {w:World}
theorem fB:∀{l:List AV} {k:List Nat→RV} {q:Nat},gY l k (.err q)=.ok v h'→∃s:List Nat,l=byteCells s∧(∀b∈s,b≤255)∧k s=.ok v h'
 | [],k,q,e=>⟨[],rfl,by simp,e⟩
 | a::l,k,q,e=>by
  obtain ⟨kd,n,rfl,e⟩:=bn e
  obtain ⟨g,e⟩:=aC e
  have gk:kd=.u8:=by cases kd<;>first|rfl|cases g
  subst gk
  cases n with
  | ofNat m=>
   obtain ⟨g,e⟩:=aC e
   obtain ⟨s,rfl,h1,h2⟩:=fB e
   exact ⟨m::s,rfl,by
    intro b hb
    rcases List.mem_cons.1 hb with rfl|hb
    ·exact Nat.le_of_ble_eq_true g
    ·exact h1 b hb,h2⟩
  | negSucc m=>cases e
end
end Go.Am.Crc
namespace Go.Am
section
variable {P:Program} {φ φ':aJ} {h h':Hp} {w w':World} {v:AV} {r:A2} {a:Act} {cv:Value} {n:Nat} {G:Gl} [NB G] {names:List String}
def Ra (φ:aJ) (h:Hp) (b:Nat):Prop:=∀i p,live (aq i h)→φ i=some p→p.bA≠b
theorem Ra.new (H:HR φ h w) {b:Nat} (hb:w.heap.size≤b):Ra φ h b:=fun i p _ hp=>by have:=H.bound i p hp;omega
theorem Ra.step {b:Nat} (O:Ra φ h b) (hb:b < w.heap.size) (S:Step φ h w φ' h' w'):Ra φ' h' b∧w'.heap[b]?=w.heap[b]?:=by
 refine ⟨fun i p hl hp=>?_,S.keeps.rest b hb O⟩
 rcases S.new i p hl hp with ⟨h1,h2⟩|h1|⟨j,q,h1,h2,h3⟩
 ·exact O i p h1 h2
 ·omega
 ·rw [←h3];exact O j q h1 h2
theorem HR.off (H:HR φ h w) (hs:w.heap.size≤w'.heap.size) (hk:∀b,(∃i p,live (aq i h)∧φ i=some p∧p.bA=b)→w'.heap[b]?=w.heap[b]?):HR φ h w' where
 obj i hl:=let ⟨p,h1,h2⟩:=H.obj i hl;⟨p,h1,by rw [hk _ ⟨i,p,hl,h1,rfl⟩];exact h2⟩
 inj:=H.inj
 fresh:=H.fresh
 bound i p hp:=Nat.lt_of_lt_of_le (H.bound i p hp) hs
structure Kq (φ₀:aJ) (h₀:Hp) (w₀:World) (l D:Nat) (rc:Loop) (φ:aJ) (h:Hp) (w:World):Prop where
 hr:HR φ h w
 step:Step φ₀ h₀ w₀ φ h w
 l0:w₀.heap.size≤l
 d0:w₀.heap.size≤D
 ne:D≠l
 Jk:Ra φ h l
 Jl:Ra φ h D
 Rb:w.heap[l]?=some (.loop rc)
 dfr:w.heap[D]?=some (.deferred (some []))
variable {φ₀:aJ} {h₀:Hp} {w₀:World} {l D:Nat} {rc:Loop}
theorem pD {b:Nat} {o:Go.Obj} (h:w.heap[b]?=some o):b < w.heap.size:=(Array.getElem?_eq_some_iff.1 h).1
theorem Kq.go (R:Kq φ₀ h₀ w₀ l D rc φ h w) (H:HR φ' h' w') (S:Step φ h w φ' h' w'):Kq φ₀ h₀ w₀ l D rc φ' h' w':=by
 obtain ⟨a1,a2⟩:=R.Jk.step (pD R.Rb) S
 obtain ⟨b1,b2⟩:=R.Jl.step (pD R.dfr) S
 exact ⟨H,R.step.trans S,R.l0,R.d0,R.ne,a1,b1,a2.trans R.Rb,b2.trans R.dfr⟩
theorem tJ (S:Step φ₀ h₀ w₀ φ h w) (hs:w.heap.size≤w'.heap.size) (hk:∀b,b < w₀.heap.size→w'.heap[b]?=w.heap[b]?) (ht:w'.tape=w.tape) (ho:w'.os=w.os) (hu:w'.output=w.output):Step φ₀ h₀ w₀ φ h w':=
 ⟨S.le,⟨Nat.le_trans S.keeps.size hs,fun b hb hn=>(hk b hb).trans (S.keeps.rest b hb hn),ht.trans S.keeps.tape,ho.trans S.keeps.os,hu.trans S.keeps.output⟩,S.new,S.fr⟩
theorem Kq.put (R:Kq φ₀ h₀ w₀ l D rc φ h w) (rc':Loop):Kq φ₀ h₀ w₀ l D rc' φ h (w.putObj l (.loop rc')) where
 hr:=R.hr.off (by simp) fun b ⟨i,p,hl,hp,e⟩=>World.putObj_heap_other (by rw [←e];exact R.Jk i p hl hp)
 step:=tJ R.step (by simp) (fun b hb=>World.putObj_heap_other (by have:=R.l0;omega)) rfl rfl rfl
 l0:=R.l0
 d0:=R.d0
 ne:=R.ne
 Jk:=R.Jk
 Jl:=R.Jl
 Rb:=World.putObj_heap_same (pD R.Rb)
 dfr:=(World.putObj_heap_other R.ne).trans R.dfr
theorem St.later (S:St n G φ r h a w) (hl:φ.le φ') (H:HR φ' h' w'):St n G φ' r h' a w':=
 ⟨H,fun t ht=>(S.aF t ht).mono hl,S.dM,S.size,S.fD.mono hl⟩
theorem vW {o:Oper} {i:AI} (hop:bX P G names o=some i):∀c,o.op≠.defer c:=by
 intro c e
 simp only [bX,e] at hop
 cases hop
theorem mJ {f:AV→Hp→RT} {y:RT}:∀{x z:RT},x.aG z→z=.ok v h→(f v h).aG y→(RT.elim f (fun n=>.err n) (fun n g=>.ch n g) x).aG y
 | _,_,.ok _ _,e,g=>by cases e;exact g
 | _,_,.err _,e,_=>by cases e
 | _,_,.ch n k c _ hc hl,e,g=>.ch n _ c _ hc (mJ hl e g)
theorem tL {f:AV→Hp→RT} {q:Nat}:∀{x z:RT},x.aG z→z=.err q→(RT.elim f (fun n=>.err n) (fun n g=>.ch n g) x).aG (.err q)
 | _,_,.ok _ _,e=>by cases e
 | _,_,.err _,e=>by cases e;exact .err _
 | _,_,.ch n k c _ hc hl,e=>.ch n _ c _ hc (tL hl e)
theorem Az {f:AV→Hp→RT} {x:RT} (hs:(RT.elim f (fun n=>.err n) (fun n g=>.ch n g) x).Safe):x.Safe∧∀v h,x.aG (.ok v h)→(f v h).Safe:=
 ⟨fun _ hn=>hs _ (tL hn rfl),fun _ _ hl _ hn=>hs _ (mJ hl rfl hn)⟩
theorem DP {k:A2→Hp→RT} {i:GI} {l:List GI} (he:(eR k (i::l) r h).Safe) :
  ∃d,(∃y v1 h1,i=.o d (.op y)∧y.run r h=.ok v1 h1∧eR k (i::l) r h=eR k l (bI d v1 r) h1)∨
   (∃s x,i=.o d (.xO s x)∧(hE s (ev x r) h).Safe∧∀v1 h1,(hE s (ev x r) h).aG (.ok v1 h1)→(eR k l (bI d v1 r) h1).Safe∧∀z,(eR k l (bI d v1 r) h1).aG z→(eR k (i::l) r h).aG z):=by
 cases i with
 | o d i=>
  cases i with
  | op y=>
   have e:eR k (.o d (.op y)::l) r h=(RV.rec (fun v h=>eR k l (bI d v r) h) (fun n=>.err n) (y.run r h):RT):=rfl
   cases hy:y.run r h with
   | ok v1 h1=>rw [hy] at e;exact ⟨d,.inl ⟨y,v1,h1,rfl,hy,e⟩⟩
   | err q=>rw [e,hy] at he;exact (RT.Safe.err he).elim
  | xO s x=>
   have e:eR k (.o d (.xO s x)::l) r h=RT.elim (fun v h=>eR k l (bI d v r) h) (fun n=>.err n) (fun n f=>.ch n f) (hE s (ev x r) h):=rfl
   rw [e] at he
   obtain ⟨s1,s2⟩:=Az he
   refine ⟨d,.inr ⟨s,x,rfl,s1,fun v1 h1 hl=>⟨s2 v1 h1 hl,fun z hz=>?_⟩⟩⟩
   rw [e]
   exact mJ hl rfl hz
  | call f xs=>exact (RT.Safe.err he).elim
  | jI x xs=>exact (RT.Safe.err he).elim
  | inv k x xs=>exact (RT.Safe.err he).elim
 | g a b w d i=>exact (RT.Safe.err he).elim
theorem Wm {ops:Array Oper} {o:Oper} {d:aL} {i:AI} (e:fL P G n names ops o=.o d i) (hi:i≠.op (.bad 400)):o.guard=none∧gG G n o.dst=some d∧bX P G names o=some i:=by
 unfold fL at e
 split at e
 ·rename_i d' x hd hx
  split at e
  ·rename_i hg
   cases e;exact ⟨hg,hd,hx⟩
  ·split at e
   ·split at e
    ·cases e
    ·cases e;exact absurd rfl hi
   ·cases e;exact absurd rfl hi
 ·cases e;exact absurd rfl hi
abbrev Sd (n:Nat) (G:Gl) (φ:aJ) (r:A2) (h:Hp) (a:Act) (w:World):Prop:=St n G φ r h {a with defers:=[]} w
theorem Sd.Wb (S:Sd n G φ r h a w) {q:Operand} {x:AO} (e:cO G q=some x):VR φ (ev x r) (a.eval q):=by
 have:=St.Wb S e
 cases q<;>exact this
theorem Sd.put (S:Sd n G φ r h a w) {o:Option Tmp} {d:aL} (hd:gG G n o=some d) (hv:VR φ' v cv) (H:HR φ' h' w') (T:Step φ h w φ' h' w'):Sd n G φ' (bI d v r) h' (a.put o cv) w':=by
 have:=St.put S hd hv H T
 cases o<;>exact this
def apY (os:List Oper) (a a1:Act):Prop:=a1.defers=a.defers∧∀t,(∀o∈os,o.dst≠some t)→a1.tmps.getD t undef=a.tmps.getD t undef
theorem lB {d:Option Tmp} {t:Nat} (hd:d≠some t) (x:Value):(a.put d x).tmps.getD t undef=a.tmps.getD t undef:=by
 cases d with
 | none=>rfl
 | some s=>
  have:s≠t:=fun e=>hd (by rw [e])
  simp [Act.put,Array.getD_eq_getD_getElem?,Array.getElem?_setIfInBounds_ne this]
theorem pE {t:Nat} (ht:t < a.tmps.size) (x:Value):(a.put (some t) x).tmps.getD t undef=x:=by
 simp [Act.put,Array.getD_eq_getD_getElem?,ht]
theorem xr {F:Fence} {m:Nat} (hF:∀f,F.fn f) {ops:Array Oper} {k:A2→Hp→RT} (rest:List Nat):∀(os pre:List Oper) (post:List Oper) (r:A2) (h:Hp) (φ:aJ) (a:Act) (w:World),ops.toList=pre ++ (os ++ post)→Sd n G φ r h a w→
  (eR k (os.map fun o=>fL P G n names ops o) r h).Safe→
  ∀{Q:Exit→Act→World→Prop},
  (∀r1 h1 φ1 a1 w1,(k r1 h1).Safe→(∀z,(k r1 h1).aG z→(eR k (os.map fun o=>fL P G n names ops o) r h).aG z)→Sd n G φ1 r1 h1 a1 w1→Step φ h w φ1 h1 w1→apY os a a1→wpOpsIn F m P ops Q rest a1 w1)→
  wpOpsIn F m P ops Q (List.range' pre.length os.length ++ rest) a w
 | [],pre,post,r,h,φ,a,w,e,S,he,Q,hQ=>hQ r h φ a w he (fun _ hz=>hz) S (.refl _ _ _) ⟨rfl,fun _ _=>rfl⟩
 | o::os,pre,post,r,h,φ,a,w,e,S,he,Q,hQ=>by
  have hoi:ops[pre.length]?=some o:=by rw [←Array.getElem?_toList,e];simp
  rw [List.length_cons,List.range'_succ]
  have hρ:∀q x,cO G q=some x→VR φ (ev x r) (a.eval q):=fun q x e=>Sd.Wb S e
  have next:∀(d:aL) (v1:AV) (h1:Hp) (φ1:aJ) (cv:Value) (w1:World),gG G n o.dst=some d→VR φ1 v1 cv→HR φ1 h1 w1→Step φ h w φ1 h1 w1→(eR k (os.map fun o=>fL P G n names ops o) (bI d v1 r) h1).Safe→
    (∀z,(eR k (os.map fun o=>fL P G n names ops o) (bI d v1 r) h1).aG z→(eR k ((o::os).map fun o=>fL P G n names ops o) r h).aG z)→
    wpOpsIn F m P ops Q (List.range' (pre.length+1) os.length ++ rest) (a.put o.dst cv) w1:=by
   intro d v1 h1 φ1 cv w1 hd hv H1 T1 he1 hl1
   have:=xr (k:=k) hF rest os (pre ++ [o]) post (bI d v1 r) h1 φ1 (a.put o.dst cv) w1 (by rw [e];simp) (Sd.put S hd hv H1 T1) he1 (Q:=Q)
    (fun r2 h2 φ2 a2 w2 hk hl2 S2 T2 ht=>hQ r2 h2 φ2 a2 w2 hk (fun z hz=>hl1 z (hl2 z hz)) S2 (T1.trans T2) ⟨ht.1.trans (by cases o.dst<;>rfl),fun t hn=>(ht.2 t fun o ho=>hn o (by simp [ho])).trans (lB (hn o (by simp)) cv)⟩)
   simpa using this
  show (match ops[pre.length]? with
   | none=>_
   | some o=>_)
  rw [hoi]
  obtain ⟨d,⟨y,v1,h1,hi,hy,he1⟩|⟨s,x,hi,hsn,hl⟩⟩:=DP he
  ·obtain ⟨hg,hd,hop⟩:=Wm hi (fun e=>by cases e;cases hy)
   show if Region.wanted o (yielded ops a.tmps)=true then _ else _
   rw [if_pos (by simp [Region.wanted,hg])]
   refine ⟨fun f _=>hF f,?_⟩
   rw [Oper.semAt_eq _ _ _ (vW hop)]
   obtain ⟨nx,w1,φ1,e1,e2,e3,e4⟩:=BI hρ (fun c=>rfl) hop (show HR φ h w from S.hr) hy
   rw [e1]
   have he2:(eR k (os.map fun o=>fL P G n names ops o) (bI d v1 r) h1).Safe:=by rw [←he1];exact he
   have hl2:∀z,(eR k (os.map fun o=>fL P G n names ops o) (bI d v1 r) h1).aG z→(eR k ((o::os).map fun o=>fL P G n names ops o) r h).aG z:=fun z hz=>by rw [←he1] at hz;exact hz
   rcases e2 with ⟨cv,rfl,hv⟩|⟨rfl,rfl⟩
   ·exact next d v1 h1 φ1 cv w1 hd hv e3 e4 he2 hl2
   ·exact next d .undef h1 φ1 undef w1 hd (.undef _) e3 e4 he2 hl2
  ·obtain ⟨hg,hd,hop⟩:=Wm hi (fun e=>by cases e)
   show if Region.wanted o (yielded ops a.tmps)=true then _ else _
   rw [if_pos (by simp [Region.wanted,hg])]
   refine ⟨fun f _=>hF f,?_⟩
   rw [Oper.semAt_eq _ _ _ (vW hop)]
   obtain ⟨cv,w1,φ1,v2,h2,hlf,e1,hv,e3,e4⟩:=yz hρ hop (show HR φ h w from S.hr) hsn
   rw [e1]
   obtain ⟨q1,q2⟩:=hl v2 h2 hlf
   exact next d _ _ φ1 cv w1 hd hv e3 e4 q1 q2
theorem eh {F:Fence} {m id:Nat} (hF:∀f,F.fn f) {ops:Array Oper} {l:List GI} (hl:l=ops.toList.map fun o=>fL P G n names ops o) {k:A2→Hp→RT} (S:Sd n G φ r h a w) (he:(eR k l r h).Safe) {X:RT} (hX:∀z,(eR k l r h).aG z→X.aG z) {Q:Exit→Act→World→Prop}
  (hQ:∀r1 h1 φ1 a1 w1,(k r1 h1).Safe→(∀z,(k r1 h1).aG z→X.aG z)→Sd n G φ1 r1 h1 a1 w1→Step φ h w φ1 h1 w1→apY ops.toList a a1→Q .normal a1 w1):(Code.region id ops false).wpIn F m P Q a w:=by
 subst hl
 have:=xr (F:=F) (m:=m) hF (ops:=ops) (Q:=Q) [] ops.toList [] [] r h φ a w (by simp) S he (fun r1 h1 φ1 a1 w1 b1 b2 b3 b4 b5=>hQ r1 h1 φ1 a1 w1 b1 (fun z hz=>hX z (b2 z hz)) b3 b4 b5)
 refine wpIn_region ?_
 rw [List.range_eq_range',←Array.length_toList]
 simpa using this
structure yY (P:Program) (G:Gl) (names:List String) (f g:Nat) (l0 l1 k0 kn k2 k3 ra rb l4:List GI) where
 fn:Func
 gn:Func
 i0:Nat
 i1:Nat
 i2:Nat
 i3:Nat
 i4:Nat
 j0:Nat
 j1:Nat
 j2:Nat
 j3:Nat
 o0:Array Oper
 o1:Array Oper
 oa:Array Oper
 ob:Array Oper
 o4:Array Oper
 p0:Array Oper
 p1:Array Oper
 p2:Array Oper
 p3:Array Oper
 om:Oper
 q3:List Oper
 oc:Oper
 on:Oper
 cl:Call
 ty:TypeId
 hf:P.funcs[f]?=some fn
 fb:fn.body=some (.seq (.region i0 o0 false) (.seq (.seq (.region i1 o1 false) (.block 0 (.rangeFunc (.tmp 6) #[7] (.region i2 oa false) (.block 1 (.region i3 ob false))))) (.seq (.region i4 o4 false) .ret)))
 fnt:fn.ntmps=13
 fr:fn.results.toList.mapM (Qz P 13)=some [.t .h0 .h4]
 hg:P.funcs[g]?=some gn
 Wn:gn.name≠ "runtime.NumGoroutine"
 gb:gn.body=some (.seq (.region j0 p0 false) (.block 0 (.loop (.seq (.region j1 p1 false) (.seq (.cond (.tmp 7) .skip (.exit 0)) (.block 1 (.seq (.region j2 p2 false) (.seq (.region j3 p3 false) (.cond (.tmp 13) .ret .skip)))))))))
 gnt:gn.ntmps=14
 gr:gn.results.toList.mapM (Qz P 14)=some []
 e0:l0=o0.toList.map fun o=>fL P G 13 names o0 o
 e1:l1=o1.toList.map fun o=>fL P G 13 names o1 o
 ea:ra=oa.toList.map fun o=>fL P G 13 names oa o
 eb:rb=ob.toList.map fun o=>fL P G 13 names ob o
 e4:l4=o4.toList.map fun o=>fL P G 13 names o4 o
 a0:k0=p0.toList.map fun o=>fL P G 14 names p0 o
 a1:kn=p1.toList.map fun o=>fL P G 14 names p1 o
 a2:k2=p2.toList.map fun o=>fL P G 14 names p2 o
 a3:k3=q3.map fun o=>fL P G 14 names p3 o
 s3:p3.toList=om::(q3 ++ [oc,on])
 mo:om.op=.move (.tmp 0)∧om.dst=some 10∧om.guard=none
 co:oc.op=.call cl∧cl.callee=.value (.tmp 10)∧cl.args=#[.tmp 11]∧oc.dst=some 12∧oc.guard=none
 no:on.op=.unOp .not ty (.tmp 12)∧on.dst=some 13∧on.guard=none
 b0:∀o∈p0.toList ++ (p1.toList ++ p2.toList),o.dst≠some 0
 b3:∀o∈q3,o.dst≠some 10∧o.dst≠some 0
end
section
variable {P:Program} {φ φ':aJ} {h h':Hp} {w w':World} {v:AV} {r:A2} {a:Act} {cv:Value} {n:Nat} {G:Gl} [NB G] {names:List String}
theorem Jm {x:AV} {k:Nat→List AV→RT} {q:Nat} (e:(Gj x k (.err q)).Safe):∃f cs,x=.fn f cs∧Gj x k (.err q)=k f cs:=by
 cases x<;>first|exact ⟨_,_,rfl,rfl⟩|exact (RT.Safe.err e).elim
theorem AA {x:AV} {k:Bool→RT} {q:Nat} (e:(qz x k (.err q)).Safe):∃b,x=.bool b∧qz x k (.err q)=k b:=by
 cases x<;>first|exact ⟨_,rfl,rfl⟩|exact (RT.Safe.err e).elim
theorem alloc_old (o:Go.Obj) {b:Nat} (hb:b < w.heap.size):(w.alloc o).heap[b]?=w.heap[b]?:=by
 show (w.heap.push o)[b]?=_
 rw [Array.getElem?_push_lt hb,Array.getElem?_eq_getElem hb]
theorem ald (S:Sd n G φ r h a w) {t:Nat} (ht:t < 256) {f:Nat} {c:AV} (e:aw (hi t) (lo t) r=.fn f [c]):∃cv,a.tmps.getD t undef=.func (.func f) #[] #[cv]∧VR φ c cv:=by
 have:=S.Qr t ht
 rw [e] at this
 have:VR φ (.fn f [c]) (a.tmps.getD t undef):=this
 generalize a.tmps.getD t undef=z at this
 cases this with
 | fn _ _ vs hvs=>
  cases hvs with
  | cons _ cv _ _ h1 h2=>cases h2;exact ⟨cv,rfl,h1⟩
theorem Jn (S:Sd n G φ r h a w) {t:Nat} (ht:t < 256) {b:Bool} (e:aw (hi t) (lo t) r=.bool b):a.tmps.getD t undef=.bool b:=by
 have:=S.Qr t ht
 rw [e] at this
 exact this.cJ
variable {f g:Nat} {l0 l1 k0 kn k2 k3 ra rb l4:List GI}
theorem Jo (q:Nat):List.range (q+3)=0::(List.range' 1 q ++ [q+1,q+2]):=by
 rw [List.range_eq_range',show q+3=(q+2)+1 by omega,List.range'_succ]
 congr 1
 rw [show q+2=q+2 by rfl,←List.range'_append_1]
 simp [List.range'_succ]
 omega
set_option maxHeartbeats 2000000 in
theorem Rc (C:yY P G names f g l0 l1 k0 kn k2 k3 ra rb l4):eA P G (.agT g l0 l1 k0 kn k2 k3 ra rb l4) f:=by
 intro φ h w args vals hg H hv hs
 obtain ⟨X,hX⟩:∃X,cA (.agT g l0 l1 k0 kn k2 k3 ra rb l4) args h=X:=⟨_,rfl⟩
 rw [hX] at hs ⊢
 obtain ⟨s,x,rfl,eX⟩:∃s x,args=[s,x]∧wH g l0 l1 k0 kn k2 k3 ra rb l4 s x h=X:=by
  match args with
  | []=>have:X=.err 154:=hX.symm;rw [this] at hs;exact (RT.Safe.err hs).elim
  | [_]=>have:X=.err 154:=hX.symm;rw [this] at hs;exact (RT.Safe.err hs).elim
  | [s,x]=>exact ⟨s,x,rfl,hX⟩
  | _::_::_::_=>have:X=.err 154:=hX.symm;rw [this] at hs;exact (RT.Safe.err hs).elim
 have e:(wH g l0 l1 k0 kn k2 k3 ra rb l4 s x h).Safe:=by rw [eX];exact hs
 have L:∀z,(wH g l0 l1 k0 kn k2 k3 ra rb l4 s x h).aG z→X.aG z:=fun z hz=>by rw [eX] at hz;exact hz
 have hF:∀f,Fence.wide.fn f:=fun _=>trivial
 have S0:=St.start H hv hg (by simp:[s,x].length≤256) 13
 refine (callsIn_wide (n:=2)).1 (callsIn_of_wp_marks C.hf C.fb trivial ?_)
 rw [C.fnt]
 refine wpIn_seq (eh hF C.e0 S0 e L ?_)
 intro r1 h1 φ1 a1 w1 e1 L1 S1 T1 K1
 refine wpIn_seq (wpIn_seq (eh hF C.e1 S1 e1 L1 ?_))
 intro r2 h2 φ2 a2 w2 e2 L2 S2 T2 K2
 have T:=T1.trans T2
 have hd:a2.defers=[]:=K2.1.trans K1.1
 obtain ⟨g',cs,hx,ex⟩:=Jm e2
 have ex:TQ g k0 kn k2 k3 ra rb l4 r2 h2=_:=ex
 rw [ex] at e2 L2
 obtain ⟨hgg,ey⟩:g=g'∧∃c,cs=[c]∧(zQ k0 kn k2 k3 ra rb l4 r2 c h2).Safe∧∀z,(zQ k0 kn k2 k3 ra rb l4 r2 c h2).aG z→X.aG z:=by
  cases hb:Nat.beq g g' with
  | false=>rw [hb] at e2;exact (RT.Safe.err e2).elim
  | true=>
   rw [hb] at e2 L2
   refine ⟨Nat.eq_of_beq_eq_true hb,?_⟩
   match cs with
   | []=>exact (RT.Safe.err e2).elim
   | [c]=>exact ⟨c,rfl,e2,L2⟩
   | _::_::_=>exact (RT.Safe.err e2).elim
 subst hgg
 obtain ⟨c,rfl,ez,Lz⟩:=ey
 clear e2 L2 ex
 obtain ⟨cv,h6,hc⟩:=ald S2 (t:=6) (by omega) hx
 refine wpIn_block (wpIn_rangeFunc fun fn' _=>?_)
 obtain ⟨D,hD⟩:∃D,D=w2.heap.size:=⟨_,rfl⟩
 obtain ⟨l,hl⟩:∃l,l=w2.heap.size+1:=⟨_,rfl⟩
 obtain ⟨rc,hrc⟩:∃rc:LoopState→Loop,rc=fun st=>{state:=st,pending:=none,fn:=fn',tmps:=a2.tmps,params:=#[7],assign:=.region C.i2 C.oa false,body:=.block 1 (.region C.i3 C.ob false),defers:=D}:=⟨_,rfl⟩
 obtain ⟨W0,hW0⟩:∃W0,W0=(w2.alloc (.deferred (some []))).alloc (.loop (rc .ready)):=⟨_,rfl⟩
 have hsz:W0.heap.size=w2.heap.size+2:=by rw [hW0];simp
 have hold:∀b,b < w2.heap.size→W0.heap[b]?=w2.heap[b]?:=fun b hb=>by
  rw [hW0,alloc_old _ (by simp;omega),alloc_old _ hb]
 have H2:HR φ2 h2 w2:=S2.hr
 have R0:Kq φ h w l D (rc .ready) φ2 h2 W0:={
  hr:=H2.ext (by omega) hold
  step:=tJ T (by omega) (fun b hb=>hold b (Nat.lt_of_lt_of_le hb T.keeps.size)) (by rw [hW0];rfl) (by rw [hW0];rfl) (by rw [hW0];rfl)
  l0:=by have:=T.keeps.size;omega
  d0:=by have:=T.keeps.size;omega
  ne:=by omega
  Jk:=Ra.new H2 (by omega)
  Jl:=Ra.new H2 (by omega)
  Rb:=by
   rw [hW0,hl]
   have:=World.alloc_heap_new (w2.alloc (.deferred (some []))) (.loop (rc .ready))
   simpa using this
  dfr:=by
   rw [hW0,hD,alloc_old _ (by simp)]
   exact World.alloc_heap_new w2 _}
 -- what comes behind the range
 have fin:∀(φ3:aJ) (h3:Hp) (w3:World),Kq φ h w l D (rc .ready) φ3 h3 w3→φ2.le φ3→(vt l4 r2 h3).Safe→(∀z,(vt l4 r2 h3).aG z→X.aG z)→∃w4,(Instr.endLoop l).run P w3=.ok none w4∧
   (Code.seq (.region C.i4 C.o4 false) .ret).wpIn Fence.wide 2 P (bodyPostM Fence.wide 2 P C.fn (dB φ h w X)) {a2 with defers:={target:=.collected D,args:=#[]}::a2.defers} w4:=by
  intro φ3 h3 w3 R le e L
  refine ⟨w3.putObj l (.loop {rc .ready with state:=.exhausted}),by
   have:=run_endLoop (P:=P) R.Rb (by rw [hrc];simp)
   rw [this,hrc],?_⟩
  have R4:=R.put {rc .ready with state:=.exhausted}
  have S4:Sd 13 G φ3 r2 h3 {a2 with defers:={target:=.collected D,args:=#[]}::a2.defers} (w3.putObj l (.loop {rc .ready with state:=.exhausted})):=St.later S2 le R4.hr
  refine wpIn_seq (eh hF C.e4 S4 e L ?_)
  intro r5 h5 φ5 a5 w5 e L S5 T5 K5
  have R5:=R4.go S5.hr T5
  refine wpIn_ret ?_
  show LeavesInM Fence.wide 2 P C.fn a5.tmps _ a5.defers .returning w5
  rw [K5.1]
  refine ⟨by simp,.inl ⟨D,_,rfl,run_takeDeferred R5.dfr,?_⟩⟩
  rw [hd]
  have H6:HR φ5 h5 (w5.putObj D (.deferred none)):=R5.hr.off (by simp) fun b ⟨i,p,hl,hp,e⟩=>World.putObj_heap_other (by rw [←e];exact R5.Jl i p hl hp)
  have S6:=St.later S5 (aJ.le_refl _) H6
  obtain ⟨_,cv5,hres,hv5⟩:=gJ (fn:=C.fn) (v:=aw .h0 .h4 r5) (h':=h5) S6 C.fr rfl
  exact ⟨cv5,hres,aw .h0 .h4 r5,h5,cv5,φ5,L _ (.ok _ _),rfl,hv5,H6,tJ R5.step (by simp) (fun b hb=>World.putObj_heap_other (by have:=R5.d0;omega)) rfl rfl rfl⟩
 have eg:∀args w,(callFunc g args).run P w=.ok (.enter g args) w:=fun args w=>fe C.hg C.Wn C.gb
 refine ⟨l,[{target:=.collected D,args:=#[]}],W0,{target:=.fn (.func g) #[cv],args:=#[.func (.yield l) #[] #[]]},W0,g,#[.func (.yield l) #[] #[],cv],W0,?_,?_,fun _ _=>trivial,?_,fun _=>by omega,?_⟩
 ·rw [hW0,hrc,hl,hD]
  exact run_enterLoop_outer _ _ _ _ _
 ·have h6s:a2.tmps[6]?.getD undef=.func (.func g) #[] #[cv]:=by rw [←Array.getD_eq_getD_getElem?];exact h6
  simp [resolve,go_sem,h6s]
 ·simp [invoke,go_sem,eg]
 refine callsIn_of_wp C.hg C.gb trivial ?_
 rw [C.gnt]
 have Sg:=St.start (vals:=[.func (.yield l) #[] #[],cv]) R0.hr (.cons _ _ _ _ (.undef _) (.cons _ _ _ _ hc .nil)) S2.fD (by simp:[AV.undef,c].length≤256) 14
 refine wpIn_seq (eh hF C.a0 Sg ez Lz ?_)
 intro q1 h3 φ3 b1 w3 e3 L3 Sq1 T3 K3
 have y1:b1.tmps.getD 0 undef=.func (.yield l) #[] #[]:=K3.2 0 fun o ho=>C.b0 o (by simp [ho])
 refine wpIn_block (wpIn_loop_rounds 13 ?_)
 rw [roundsIn_succ]
 have over:∀(q:A2) (h3:Hp) (φ3:aJ) (b:Act) (w3:World),Sd 14 G φ3 q h3 b w3→b.defers=[]→Kq φ h w l D (rc .ready) φ3 h3 w3→φ2.le φ3→(vt l4 r2 h3).Safe→(∀z,(vt l4 r2 h3).aG z→X.aG z)→
   b.defers=[]∧∃x,(results C.gn b.tmps).run P w3=.ok x w3∧∃w4,(Instr.endLoop l).run P w3=.ok none w4∧
   (Code.seq (.region C.i4 C.o4 false) .ret).wpIn Fence.wide 2 P (bodyPostM Fence.wide 2 P C.fn (dB φ h w X)) {a2 with defers:={target:=.collected D,args:=#[]}::a2.defers} w4:=by
  intro q h3 φ3 b w3 S hb R le e L
  obtain ⟨_,x,hres,_⟩:=gJ (fn:=C.gn) (v:=cm) (h':=h3) S C.gr rfl
  exact ⟨hb,x,hres,fin φ3 h3 w3 R le e L⟩
 -- the rounds
 refine wpIn_seq (eh hF C.a1 Sq1 e3 L3 ?_)
 intro q2 h4 φ4 b2 w4 e4 L4 Sq2 T4 K4
 have y2:b2.tmps.getD 0 undef=.func (.yield l) #[] #[]:=(K4.2 0 fun o ho=>C.b0 o (by simp [ho])).trans y1
 have R1:=R0.go Sq1.hr T3
 have R2:=R1.go Sq2.hr T4
 have le4:φ2.le φ4:=aJ.le_trans T3.le T4.le
 have d2:b2.defers=[]:=K4.1.trans K3.1
 clear e3 L3 K3 K4 y1 Sq1 T3 T4 R1
 generalize (12:Nat)=fuel at e4 L4 ⊢
 induction fuel generalizing q2 h4 φ4 b2 w4 with
 | zero=>exact (RT.Safe.err e4).elim
 | succ fuel ih=>
 obtain ⟨t,ht,e5⟩:=AA (show (qz (aw .h0 .h7 q2) (fun t=>(@Bool.rec (fun _=>RT) (vt l4 r2 h4) (BB (zP kn k2 k3 ra rb l4 r2 fuel) kn k2 k3 ra rb r2 q2 h4) t:RT)) (.err 156)).Safe from e4)
 have e5:zP kn k2 k3 ra rb l4 r2 (fuel+1) q2 h4=_:=e5
 rw [e5] at e4 L4
 have h7:b2.eval (.tmp 7)=.bool t:=Jn Sq2 (t:=7) (by omega) ht
 cases t with
 | false=>
  obtain ⟨c1,x,c2,w5,c3,c4⟩:=over q2 h4 φ4 b2 w4 Sq2 d2 R2 le4 e4 L4
  exact wpIn_seq (wpIn_cond_false h7 (wpIn_exit ⟨c1,x,c2,none,w5,c3,c4⟩))
 | true=>
  refine wpIn_seq (wpIn_cond_true h7 (wpIn_skip ?_))
  refine wpIn_block (wpIn_seq (eh hF C.a2 Sq2 e4 L4 ?_))
  intro q3 h5 φ5 b3 w5 e6 L6 Sq3 T5 K5
  have y3:b3.eval (.tmp 0)=.func (.yield l) #[] #[]:=(K5.2 0 fun o ho=>C.b0 o (by simp [ho])).trans y2
  refine wpIn_seq (wpIn_region ?_)
  have hsz3:C.p3.size=C.q3.length+3:=by rw [←Array.length_toList,C.s3];simp
  rw [hsz3,Jo]
  show (match C.p3[0]? with
   | none=>_
   | some o=>_)
  rw [show C.p3[0]?=some C.om by rw [←Array.getElem?_toList,C.s3];rfl]
  show if Region.wanted C.om (yielded C.p3 b3.tmps)=true then _ else _
  rw [if_pos (by simp [Region.wanted,C.mo.2.2])]
  refine ⟨fun f _=>trivial,?_⟩
  rw [Oper.semAt_eq _ _ _ (fun c e=>by rw [C.mo.1] at e;cases e)]
  have hm:(execOp b3.eval C.om).run P w5=.ok (.value (b3.eval (.tmp 0))) w5:=by simp [execOp,C.mo.1,go_sem]
  rw [hm]
  show wpOpsIn _ _ _ _ _ _ (b3.put C.om.dst (b3.eval (.tmp 0))) w5
  have Sq4:Sd 14 G φ5 (eL .h0 .ha .undef q3) h5 (b3.put C.om.dst (b3.eval (.tmp 0))) w5:=Sd.put Sq3 (d:=.t .h0 .ha) (by rw [C.mo.2.1];exact qB (by omega) (by omega)) (.undef _) Sq3.hr (.refl _ _ _)
  have le5:φ2.le φ5:=aJ.le_trans le4 T5.le
  have R3:=R2.go Sq3.hr T5
  have s0:(b3.put C.om.dst (b3.eval (.tmp 0))).tmps.getD 0 undef=.func (.yield l) #[] #[]:=by rw [lB (by rw [C.mo.2.1];simp)];exact y3
  refine xr hF [C.q3.length+1,C.q3.length+2] C.q3 [C.om] [C.oc,C.on] (eL .h0 .ha .undef q3) h5 φ5 (b3.put C.om.dst (b3.eval (.tmp 0))) w5 C.s3 Sq4 (by rw [←C.a3];exact e6) ?_
  intro q5 h6 φ6 b5 w6 e7 L7 Sq5 T6 K6
  rw [←C.a3] at L7
  have L7:=fun z hz=>L6 z (L7 z hz)
  have y5:b5.tmps.getD 10 undef=.func (.yield l) #[] #[]:=by
   rw [K6.2 10 (fun o ho=>(C.b3 o ho).1),C.mo.2.1,pE (a:=b3) (Nat.lt_of_lt_of_le (by omega) Sq3.size),y3]
  have y50:b5.tmps.getD 0 undef=.func (.yield l) #[] #[]:=(K6.2 0 (fun o ho=>(C.b3 o ho).2)).trans s0
  have le6:φ2.le φ6:=aJ.le_trans le5 T6.le
  have R4:=R3.go Sq5.hr T6
  have d5:b5.defers=[]:=K6.1.trans ((show (b3.put C.om.dst (b3.eval (.tmp 0))).defers=b3.defers by cases C.om.dst<;>rfl).trans (K5.1.trans d2))
  show (match C.p3[C.q3.length+1]? with
   | none=>_
   | some o=>_)
  rw [show C.p3[C.q3.length+1]?=some C.oc by rw [←Array.getElem?_toList,C.s3];simp]
  show if Region.wanted C.oc (yielded C.p3 b5.tmps)=true then _ else _
  rw [if_pos (by simp [Region.wanted,C.co.2.2.2.2])]
  refine ⟨fun f _=>trivial,?_⟩
  rw [Oper.semAt_eq _ _ _ (fun c e=>by rw [C.co.1] at e;cases e)]
  have hcall:(execOp b5.eval C.oc).run P w6=.ok (.round l fn' (a2.tmps.setIfInBounds 7 (b5.eval (.tmp 11))) (.region C.i2 C.oa false) (.block 1 (.region C.i3 C.ob false))) w6:=by
   have y5s:b5.tmps[10]?.getD undef=.func (.yield l) #[] #[]:=by rw [←Array.getD_eq_getD_getElem?];exact y5
   have hy:=run_yield (P:=P) (args:=#[b5.eval (.tmp 11)]) R4.Rb (by rw [hrc];rfl)
   have:(execOp b5.eval C.oc).run P w6=(Instr.yield l #[b5.eval (.tmp 11)]).run P w6:=by
    simp [execOp,C.co.1,resolve,C.co.2.1,C.co.2.2.1,invoke,go_sem,y5s]
   rw [this]
   simpa [hrc] using hy
  rw [hcall]
  refine ⟨fun _=>by omega,roundIn_of_wpIn trivial ?_⟩
  have Sr:Sd 13 G φ6 (eL .h0 .h7 (aw .h0 .hb q5) r2) h6 {tmps:=a2.tmps.setIfInBounds 7 (b5.eval (.tmp 11)),defers:=[]} w6:=
   St.put (St.later S2 le6 Sq5.hr) (o:=some 7) (d:=.t .h0 .h7) (qB (by omega) (by omega)) (Sd.Wb (q:=.tmp 11) (x:=.t .h0 .hb) Sq5 (apx (by omega))) Sq5.hr (.refl _ _ _)
  refine eh (fun _=>trivial) C.ea Sr e7 L7 ?_
  intro r6 h7' φ7 a6 w7 e8 L8 Sr6 T7 K7
  have R5:=R4.go Sr6.hr T7
  refine ⟨_,run_beginRound R5.Rb (by rw [hrc]),?_⟩
  have R6:=R5.put {rc .ready with state:=.busy}
  refine wpIn_block (eh (fun _=>trivial) C.eb (St.later Sr6 (aJ.le_refl _) R6.hr) e8 L8 ?_)
  intro _ h8 φ8 a7 w8 e9 L9 Sr7 T8 K8
  have R7:=R6.go Sr7.hr T8
  refine ⟨_,_,run_endRound none R7.Rb,?_⟩
  have R8:Kq φ h w l D (rc .ready) φ8 h8 (w8.putObj l (.loop {{rc .ready with state:=.busy} with state:=if (none:Option Code).isNone then .ready else .done,pending:=none})):=by
   have:=R7.put (rc .ready)
   rw [hrc] at this ⊢
   exact this
  obtain ⟨w9,hw9⟩:∃w9,w9=w8.putObj l (.loop {{rc .ready with state:=.busy} with state:=if (none:Option Code).isNone then .ready else .done,pending:=none}):=⟨_,rfl⟩
  rw [←hw9] at R8 ⊢
  show wpOpsIn _ _ _ _ _ [C.q3.length+2] (b5.put C.oc.dst (.bool true)) w9
  have le8:φ6.le φ8:=aJ.le_trans T7.le T8.le
  have Sq6:Sd 14 G φ8 (eL .h0 .hc .undef q5) h8 (b5.put C.oc.dst (.bool true)) w9:=Sd.put (St.later Sq5 le8 R8.hr) (d:=.t .h0 .hc) (by rw [C.co.2.2.2.1];exact qB (by omega) (by omega)) (.undef _) R8.hr (.refl _ _ _)
  have y12:(b5.put C.oc.dst (.bool true)).tmps.getD 12 undef=.bool true:=by
   rw [C.co.2.2.2.1,pE (a:=b5) (Nat.lt_of_lt_of_le (by omega) Sq5.size)]
  show (match C.p3[C.q3.length+2]? with
   | none=>_
   | some o=>_)
  rw [show C.p3[C.q3.length+2]?=some C.on by rw [←Array.getElem?_toList,C.s3];simp]
  show if Region.wanted C.on (yielded C.p3 (b5.put C.oc.dst (.bool true)).tmps)=true then _ else _
  rw [if_pos (by simp [Region.wanted,C.no.2.2])]
  refine ⟨fun f _=>trivial,?_⟩
  rw [Oper.semAt_eq _ _ _ (fun c e=>by rw [C.no.1] at e;cases e)]
  have hnot:(execOp (b5.put C.oc.dst (.bool true)).eval C.on).run P w9=.ok (.value (.bool false)) w9:=by
   have y12s:(b5.put C.oc.dst (.bool true)).tmps[12]?.getD undef=.bool true:=by rw [←Array.getD_eq_getD_getElem?];exact y12
   generalize b5.put C.oc.dst (.bool true)=b at y12s ⊢
   simp [execOp,C.no.1,go_sem,y12s,Op.unary]
  rw [hnot]
  obtain ⟨b6,hb6⟩:∃b6,b6=(b5.put C.oc.dst (.bool true)).put C.on.dst (.bool false):=⟨_,rfl⟩
  have Sq7:Sd 14 G φ8 (eL .h0 .hd .undef (eL .h0 .hc .undef q5)) h8 b6 w9:=by
   rw [hb6];exact Sd.put Sq6 (d:=.t .h0 .hd) (by rw [C.no.2.1];exact qB (by omega) (by omega)) (.undef _) Sq6.hr (.refl _ _ _)
  have d6:b6.defers=[]:=by
   rw [hb6]
   have:∀(b:Act) (d:Option Tmp) (x:Value),(b.put d x).defers=b.defers:=fun b d x=>by cases d<;>rfl
   rw [this,this,d5]
  have y13:b6.eval (.tmp 13)=.bool false:=by
   rw [hb6,C.no.2.1]
   exact pE (a:=b5.put C.oc.dst (.bool true)) (Nat.lt_of_lt_of_le (by omega) Sq6.size) _
  have y60:b6.tmps.getD 0 undef=.func (.yield l) #[] #[]:=by
   rw [hb6,lB (by rw [C.no.2.1];simp),lB (by rw [C.co.2.2.2.1];simp)];exact y50
  show Code.wpIn _ _ _ (Code.cond (.tmp 13) .ret .skip) _ ((b5.put C.oc.dst (.bool true)).put C.on.dst (.bool false)) w9
  rw [←hb6]
  refine wpIn_cond_false y13 (wpIn_skip ?_)
  show Code.roundsIn _ _ _ _ _ (fuel+1) b6 w9
  rw [roundsIn_succ]
  refine wpIn_seq (eh hF C.a1 Sq7 e9 L9 ?_)
  intro q7 h9 φ9 b7 w10 e10 L10 Sq8 T9 K9
  exact ih q7 h9 φ9 b7 w10 Sq8 ((K9.2 0 fun o ho=>C.b0 o (by simp [ho])).trans y60) (R8.go Sq8.hr T9) (aJ.le_trans le6 (aJ.le_trans le8 T9.le)) (K9.1.trans d6) e10 L10
end
variable {P:Program} {φ:aJ} {h h':Hp} {w:World} {v:AV} {r:A2} {cx cy:Value} {G:Gl} {f:Nat} {fn:Func}
theorem mK {args:List AV} {k:AV→RV} (hs:(rj args k).jT.Safe):∃x,args=[x]∧rj args k=k x:=by
 cases args with
 | nil=>exact (RT.Safe.err hs).elim
 | cons a t=>cases t with
  | nil=>exact ⟨a,rfl,rfl⟩
  | cons b t=>exact (RT.Safe.err hs).elim
theorem Jp (hf:P.funcs[f]?=some fn) (hname:(fn.name == "runtime.NumGoroutine")=false) (hb:fn.body.isNone=true) (hn:Extern.findNext fn=none) (he:Extern.find fn=some Extern.AbiNoEscape.same):iP P G .Gh f:=by
 intro φ h w args vals hg H hv hs
 obtain ⟨x,rfl,e⟩:=mK (k:=fun x=>.ok x h) hs
 cases hv with
 | cons a c as cs h1 h2=>
  cases h2
  refine ⟨c,w,?_,x,h,c,φ,.ok _ _,rfl,h1,H,.refl _ _ _⟩
  rw [run_callFunc_extern hf hname hb hn he]
  rfl
theorem vX:∀(n t:Nat) (acc:Array Value),(∀x,x∈acc→x.oneCell'=true)→∀x,x∈Extern.BytealgMakeNoZero.digits n t acc→x.oneCell'=true
 | 0,_,_,ha=>ha
 | n+1,t,acc,ha=>vX n _ _ fun x hx=>by
  rcases Array.mem_push.1 hx with g|g
  ·exact ha x g
  ·rw [g];rfl
theorem Jq (w:World) (ps:Array TypeId) (t e:TypeId) (ht:P.underlying t=some (.slice e)) (n:Nat) (hn:n≤281474976710656) :
  ∃cs:Array Value,(Extern.BytealgMakeNoZero.makeNoZero ps #[t] #[.int .i64 n]).run P w=.ok (.slice (some ⟨w.heap.size,0,none⟩) n cs.size) (w.drew.drew.alloc (.cells cs e))∧n≤cs.size∧∀x,x∈cs→x.oneCell'=true:=by
 have hdef:Extern.BytealgMakeNoZero.makeNoZero ps #[t] #[.int .i64 n] =
   (do
    let .slice elem←underlying t|stuck "bytealg.MakeNoZero: slice type expected"
    if (n:Int) < 0 || (n:Int) > 2 ^ 48 then runtimePanic (.error "makeslice: len out of range")
    let cap←choose (.appendCap (n:Int).toNat 0 elem)
    askRoom cap
    let bytes←choose (.extern "internal/bytealg.MakeNoZero.bytes" 0)
    let a←newRow elem (Extern.BytealgMakeNoZero.digits cap bytes #[])
    pure (.slice (some a) (n:Int).toNat cap)):=rfl
 refine ⟨Extern.BytealgMakeNoZero.digits (grownCap w n 0 e) ((Question.extern "internal/bytealg.MakeNoZero.bytes" 0).cut (w.tape (w.drawn+1) (.extern "internal/bytealg.MakeNoZero.bytes" 0))) #[],?_,?_,vX _ _ _ (by simp)⟩
 ·rw [hdef]
  have h1:¬ (n:Int) < 0:=by omega
  have h2:¬ (281474976710656:Int) < (n:Int):=by omega
  simp [run_underlying ht,h1,h2,Question.forced,newRow,Lib.size_digits,grownCap]
 ·rw [Lib.size_digits]
  simpa using grownCap_ge w n 0 e
theorem Re {ps:Array TypeId} {t el:TypeId} (hf:P.funcs[f]?=some fn) (hname:(fn.name == "runtime.NumGoroutine")=false) (hb:fn.body.isNone=true) (hn:Extern.findNext fn=none) (he:Extern.find fn=some (Extern.BytealgMakeNoZero.makeNoZero ps #[t])) (ht:P.underlying t=some (.slice el)):iP P G (.LL el) f:=by
 intro φ h w args vals hg H hv hs
 obtain ⟨x,rfl,e⟩:=mK (k:=fun x=>zR el x h) hs
 have hp:cA (.LL el) [x] h=(zR el x h).jT:=rfl
 rw [hp] at hs ⊢
 obtain ⟨v,h',hr⟩:=gF hs
 rw [hr]
 obtain ⟨k,n,rfl,e1⟩:=bn hr
 obtain ⟨hk,e1⟩:=aC e1
 have hk:k=.i64:=by cases k<;>first|rfl|cases hk
 subst hk
 cases n with
 | negSucc n=>cases e1
 | ofNat n=>
  obtain ⟨hb1,e1⟩:=aC e1
  have hb1:n≤65536:=Nat.le_of_ble_eq_true hb1
  obtain ⟨hr1,hn1,e2⟩:=fg e1
  obtain ⟨rfl,rfl⟩:=RV.av e2
  cases hv with
  | cons a c as cs h1 h2=>
   cases h2
   rw [h1.aW]
   obtain ⟨cs,hrun,hcs,hone⟩:=Jq (P:=P) w ps t el ht n (by omega)
   have hlen:(dS n [AV.undef]).length=n:=by rw [eQ];simp
   obtain ⟨g1,g2⟩:=H.nV (n':=h.next.succ) (w':=w.drew.drew.alloc (.cells cs el)) hn1
    (rc:=cs) (el:=el) (n:=(dS n [AV.undef]).length) (ex:=false) (fl:=.plain) (fz:=(0,0)) (c:=lP (dS n [AV.undef]))
    (by rw [hlen];exact hcs) (by simp) hr1
    (fun k hk=>by
     rw [hlen] at hk
     refine ⟨cs[k],Array.getElem?_eq_getElem (by omega),?_,hone _ (Array.getElem_mem _)⟩
     rw [dD _ hr1 k (by rw [hlen];exact hk)]
     have:(dS n [AV.undef])[k]'(by rw [hlen];exact hk)=.undef:=by rw [jB n [AV.undef] k _ (by simp [Nat.mod_one])];simp
     rw [this]
     exact .undef _) rfl rfl rfl rfl rfl
   refine ⟨.slice (some ⟨w.heap.size,0,none⟩) n cs.size,w.drew.drew.alloc (.cells cs el),?_,_,_,_,_,.ok _ _,rfl,?_,g1,g2⟩
   ·rw [run_callFunc_extern hf hname hb hn he]
    show ((Extern.BytealgMakeNoZero.makeNoZero ps #[t] #[.int .i64 (Int.ofNat n)]).run P w).andThen _=_
    rw [show (Int.ofNat n)=((n:Nat):Int) from rfl,hrun]
    rfl
   ·refine .bZ _ 0 n 1 cs.size ⟨w.heap.size,0,_⟩ ⟨w.heap.size,0,none⟩ (aJ.aO _ _ _) ?_ hcs rfl rfl (fun _=>rfl) (by omega)
    simp
theorem Jr {P:Program} {G:Gl} {f:Nat} {fn:Func} (hf:P.funcs[f]?=some fn) (hname:(fn.name == "runtime.NumGoroutine")=false) (hb:fn.body.isNone=true) (hn:Extern.findNext fn=none) (he:Extern.find fn=some (Extern.MathFloor.toIntegral "math.archTrunc" .zero)):iP P G .BA f:=by
 intro φ h w args vals hg H hv hs
 obtain ⟨x,rfl,e⟩:=mK (k:=fun x=>wI x h) hs
 have hp:cA .BA [x] h=(wI x h).jT:=rfl
 rw [hp] at hs ⊢
 obtain ⟨v,h',hr⟩:=gF hs
 rw [hr]
 obtain ⟨k,n,rfl,e1⟩:=dX hr
 obtain ⟨hk,e1⟩:=aC e1
 have hk:k=.f64:=by cases k<;>first|rfl|cases hk
 subst hk
 have e1:(match FloatKind.f64.decode n with|.nan _ _=>RV.err 180|d=>.ok (.gA .f64 (FloatKind.f64.encode (d.integral .zero))) h)=.ok v h':=e1
 cases hv with
 | cons a c as cs h1 h2=>
  cases h2
  rw [h1.lC]
  have hdef:Extern.MathFloor.toIntegral "math.archTrunc" .zero #[Value.float .f64 n]=(match FloatKind.f64.decode n with
    | .nan s t=>
     if FloatKind.f64.format.quiet t=t then pure (.float .f64 n) else do
     let kept←choose (.extern "math.Floor,Ceil,Trunc,RoundToEven.signallingNaN kept" 2)
     pure (.float .f64 (if kept == 1 then n else FloatKind.f64.encode (.nan s (FloatKind.f64.format.quiet t))))
    | d=>pure (.float .f64 (FloatKind.f64.encode (d.integral .zero)))):=rfl
  cases hd:FloatKind.f64.decode n with
  | nan s t=>rw [hd] at e1;cases e1
  | infinity s=>
   rw [hd] at e1
   obtain ⟨rfl,rfl⟩:=RV.av e1
   refine ⟨_,w,?_,_,h,_,φ,.ok _ _,rfl,.gA _ _,H,.refl _ _ _⟩
   rw [run_callFunc_extern hf hname hb hn he]
   show ((Extern.MathFloor.toIntegral "math.archTrunc" .zero #[.float .f64 n]).run P w).andThen _=_
   rw [hdef,hd]
   rfl
  | number s m e=>
   rw [hd] at e1
   obtain ⟨rfl,rfl⟩:=RV.av e1
   refine ⟨_,w,?_,_,h,_,φ,.ok _ _,rfl,.gA _ _,H,.refl _ _ _⟩
   rw [run_callFunc_extern hf hname hb hn he]
   show ((Extern.MathFloor.toIntegral "math.archTrunc" .zero #[.float .f64 n]).run P w).andThen _=_
   rw [hdef,hd]
   rfl
open Seat
variable {P:Program} {φ:aJ} {h h':Hp} {w:World} {v:AV} {G:Gl} {f:Nat} {fn:Func}
def AB:Array Value→Sem Value:=fun args=>do
  let (x,y,c)←Extern.MathBitsCarry.three "Add64" args
  pure (Extern.MathBitsCarry.pair ((x+y+c) % Extern.MathBitsCarry.m64) ((x+y+c) / Extern.MathBitsCarry.m64))
theorem AD {args:List AV} {k:Nat→Nat→Nat→AV} (hs:(wu args k h).Safe):∃x y c,args=[.int .u64 (.ofNat x),.int .u64 (.ofNat y),.int .u64 (.ofNat c)]∧c≤1∧wu args k h=.ok (k x y c) h:=by
 unfold wu at hs ⊢
 split at hs
 ·rename_i x y c
  cases hb:Nat.ble c 1 with
  | true=>exact ⟨x,y,c,rfl,Nat.le_of_ble_eq_true hb,by rfl⟩
  | false=>rw [hb] at hs;exact (RT.Safe.err hs).elim
 ·exact (RT.Safe.err hs).elim
theorem Js (name:String) (x y c:Nat) (hc:c≤1):(Extern.MathBitsCarry.three name #[.int .u64 (.ofNat x),.int .u64 (.ofNat y),.int .u64 (.ofNat c)]).run P w=.ok (x,y,c) w:=by
 rcases (by omega:c=0∨c=1) with rfl|rfl<;>rfl
theorem Jt (hf:P.funcs[f]?=some fn) (hname:(fn.name == "runtime.NumGoroutine")=false) (hb:fn.body.isNone=true) (hn:Extern.findNext fn=none) (he:Extern.find fn=some AB):iP P G (.fn wv) f:=by
 intro φ h w args vals hg H hv hs
 obtain ⟨x,y,c,rfl,hc,e⟩:=AD (args:=args) (h:=h) hs
 have e:cA (.fn wv) [.int .u64 (.ofNat x),.int .u64 (.ofNat y),.int .u64 (.ofNat c)] h=_:=e
 rw [e]
 cases hv with
 | cons _ v1 _ vs h1 h2=>cases h2 with
  | cons _ v2 _ vs h2 h3=>cases h3 with
   | cons _ v3 _ vs h3 h4=>
    cases h4
    rw [h1.aW,h2.aW,h3.aW]
    refine ⟨_,w,?_,_,h,_,φ,.ok _ _,rfl,.eS _ _ (.cons _ _ _ _ (.int _ _) (.cons _ _ _ _ (.int _ _) .nil)),H,.refl _ _ _⟩
    rw [run_callFunc_extern hf hname hb hn he]
    show ((AB #[.int .u64 (.ofNat x),.int .u64 (.ofNat y),.int .u64 (.ofNat c)]).run P w).andThen _=_
    unfold AB
    simp only [Sem.run_bind,Js _ x y c hc]
    rfl
open Seat
variable {P:Program} {φ:aJ} {h h':Hp} {w:World} {v:AV} {G:Gl} {f:Nat} {fn:Func}
theorem DQ (t i n:Nat) {es:Array MapEntry} (hb:w.heap[i]?=some (.map es n)):(Extern.MapsClone.clone #[.iface t (.map (some i))]).run P w=.ok (.iface t (.map (some w.heap.size))) (w.alloc (.map es n)):=by
 have e : Extern.MapsClone.clone #[.iface t (.map (some i))] = (getObj i >>= fun o => match o with
   | .map entries clock=>(newObj (.map entries clock) >>= fun n=>pure (.iface t (.map (some n))))
   | _=>stuck "maps.clone: a map expected"):=rfl
 rw [e]
 simp [MapKept.run_getObj_map hb,Result.andThen,go_sem]
theorem Ju (hf:P.funcs[f]?=some fn) (hname:(fn.name == "runtime.NumGoroutine")=false) (hb:fn.body.isNone=true) (hn:Extern.findNext fn=none) (he:Extern.find fn=some Extern.MapsClone.clone):iP P G (.fn oC) f:=by
 intro φ h w args vals hg H hv hs
 have hs:(oC args h).Safe:=hs
 show ∃cv w',_∧dB φ h w (oC args h) _ w'
 unfold oC at hs ⊢
 split at hs
 ·rename_i t i _
  obtain ⟨v,h',hr⟩:=gF hs
  rw [hr]
  have hr':Obj.dR (aq i h) (fun l n=>iq (.map l n) h fun j h=>.ok (.iface t (.map j)) h) (.err 401)=.ok v h':=hr
  cases ho:aq i h with
  | map l n=>
   rw [ho] at hr'
   have hr':iq (.map l n) h (fun j h=>.ok (.iface t (.map j)) h)=.ok v h':=hr'
   obtain ⟨hi,he'⟩:=gz hr'
   obtain ⟨rfl,rfl⟩:=RV.av he'
   cases hv with
   | cons _ v1 _ vs h1 h2=>
    cases h2
    cases h1 with
    | iface _ _ x e1=>
     cases e1 with
     | map _ p e2=>
      obtain ⟨q,hq,o⟩:=H.obj i (by rw [ho];exact ⟨by simp,by simp⟩)
      rw [ho] at o
      obtain ⟨es,cw,l0,ob,hpm,m,hS⟩:=o
      rw [e2] at hq
      cases hq
      have hw:(w.alloc (.map es cw)).heap=w.heap.push (.map es cw):=rfl
      have hle:=aJ.fI (φ:=φ) (i:=h.next) ⟨w.heap.size,0,p.room⟩ (H.fresh _ hi)
      have g1:=H.new (w':=w.alloc (.map es cw)) (n':=h.next.succ) (room:=p.room) hi hw (o:=.map l n) (by simp) ⟨es,cw,l0,rfl,hpm,m.mono hle,hS⟩
      refine ⟨_,w.alloc (.map es cw),?_,_,_,_,_,.ok _ _,rfl,.iface t _ _ (.map _ _ (aJ.aO _ _ _)),g1,hle,.new hw rfl rfl rfl,fun j q hj hq=>?_,.put _ _ _ _⟩
      ·rw [run_callFunc_extern hf hname hb hn he]
       show ((Extern.MapsClone.clone #[.iface t (.map (some p.bA))]).run P w).andThen _=_
       rw [DQ _ _ _ ob]
       rfl
      ·rw [iT] at hj
       by_cases e:j=h.next
       ·subst e
        rw [aJ.aO] at hq;cases hq
        exact .inr (.inl (Nat.le_refl _))
       ·rw [if_neg e] at hj
        exact .inl ⟨hj,by simpa [aJ.put,e] using hq⟩
  | _=>rw [ho] at hr';cases hr'
 ·exact (RT.Safe.err hs).elim
open Go.ChangeShapes Go.WideShapes Go.ChangeAt Go.RowKit
theorem QV {W W':World} {may:MemPlace→Prop} (hb:∀b,b < W.heap.size→W'.heap[b]?=W.heap[b]?) (ho:W'.os=W.os) (hu:W'.output=W.output):W.keptBut W' may:=by
 refine ⟨ho,hu,fun i hi=>?_⟩
 rw [hb i hi]
 cases W.heap[i]? with
 | none=>rfl
 | some o=>cases o<;>first|exact ⟨rfl,rfl,rfl,fun _ _=>rfl⟩|exact .inr ⟨rfl,rfl⟩|rfl
theorem DN {H:Type} {enc:TypeId×Value→H} {P:Program} {f:Func} {s:ChangeSpec} {apart fresh handsOn again:Bool} {W W':World} {v:Value}
  (hW:DataW.Whole enc P f.params.toList s.vars apart W [] [] [] [])
  (hres:∀(b:Nat) (sp:Nat→Bool) (hd:Bool),DataW.TrodAll enc P W' b sp hd f.resultTypes.toList (v.resultList f.resultTypes.size) (s.fn H []).results [])
  (hargs:∀sp:Nat→Bool,DataW.TrodAll enc P W' 0 sp true f.params.toList [] (s.fn H []).args [])
  (hvars:∀sp:Nat→Bool,DataW.TrodVars enc P W' sp s.vars (s.fn H []).vars [])
  (hk:W.keptBut W' (·∈[]))
  (hok:∀(j:Nat) (t:TypeId) (r:Value),f.resultTypes[j]?=some t→(v.resultList f.resultTypes.size)[j]?=some r→Value.okWide P W' .any 0 t r) :
  s.post enc P f apart fresh handsOn again W #[] v W':=by
 refine ⟨[],[],[],[],[],[],hW,hres _ _ _,hargs _,hvars _,World.keptBut_mono (fun p hp=>⟨hp,?_⟩) hk,fun _=>?_⟩
 ·cases hp
 ·refine ⟨hok,_,_,([] ++ []) ++ [],⟨[] ++ [],[],trodAll_append (hargs _) (hres _ _ _),hvars _,rfl,?_,?_⟩,?_⟩
  ·intro b off hp;simp at hp
  ·intro _;simp
  ·intro p hp;simp at hp
open Go.ChangeShapes Go.WideShapes Go.ChangeAt Go.RowKit
noncomputable section
def iU (p:P4):Nat:=match p with|.mk a b c d=>a.nat * 4096+b.nat * 256+c.nat * 16+d.nat
theorem iV {n:Nat} (h:n < 65536):iU (fV n)=n:=by
 show (bO (n / 4096)).nat * 4096+(bO (n / 256 % 16)).nat * 256+(bO (n / 16 % 16)).nat * 16+(bO (n % 16)).nat=n
 rw [fh (by omega),fh (by omega),fh (by omega),fh (by omega)]
 omega
theorem yZ (p:P4):fV (iU p)=p:=by
 obtain ⟨a,b,c,d⟩:=p
 have ha:=a.iA
 have hb:=b.iA
 have hc:=c.iA
 have hd:=d.iA
 show P4.mk (bO ((a.nat * 4096+b.nat * 256+c.nat * 16+d.nat) / 4096)) (bO ((a.nat * 4096+b.nat * 256+c.nat * 16+d.nat) / 256 % 16)) (bO ((a.nat * 4096+b.nat * 256+c.nat * 16+d.nat) / 16 % 16)) (bO ((a.nat * 4096+b.nat * 256+c.nat * 16+d.nat) % 16))=_
 rw [show (a.nat * 4096+b.nat * 256+c.nat * 16+d.nat) / 4096=a.nat by omega,show (a.nat * 4096+b.nat * 256+c.nat * 16+d.nat) / 256 % 16=b.nat by omega,
  show (a.nat * 4096+b.nat * 256+c.nat * 16+d.nat) / 16 % 16=c.nat by omega,show (a.nat * 4096+b.nat * 256+c.nat * 16+d.nat) % 16=d.nat by omega,
  lE,lE,lE,lE]
theorem DR (i:P4):∀n,n≤65536→di i (trD n)=if iU i < n then .dead else .none:=by
 intro n
 induction n with
 | zero=>
  intro _
  rw [if_neg (by omega)]
  obtain ⟨a,b,c,d⟩:=i
  show O1.get d (O2.get c (O3.get b (O4.get a .nil)))=_
  rw [O4.get_nil,O3.get_nil,O2.get_nil,O1.get_nil]
 | succ m ih=>
  intro hm
  have e:di i (trD (m+1))=if i=fV m then .dead else di i (trD m):=bg i (fV m) .dead (.mk (trD m) (fV m) .off)
  rw [e,ih (by omega)]
  by_cases h:i=fV m
  ·subst h
   rw [if_pos rfl,iV (by omega),if_pos (by omega)]
  ·rw [if_neg h]
   have h1:iU i≠m:=fun e=>h (by rw [←e,yZ])
   by_cases h2:iU i < m
   ·rw [if_pos h2,if_pos (by omega)]
   ·rw [if_neg h2,if_neg (by omega)]
theorem nW (i:P4) (n g:Nat) (o:Obj) (hn:n≤65536):aq i (CU n g o)=if i=fV g then o else if iU i < n then .dead else .none:=by
 have e:aq i (CU n g o)=if i=fV g then o else di i (trD n):=bg i (fV g) o (.mk (trD n) (fV n) .off)
 rw [e,DR i n hn]
def DT (n rm:Nat):aJ:=fun i=>if iU i < n then some ⟨iU i,0,rm⟩ else none
theorem tM {n rm g:Nat} (hg:g < n) (hn:n≤65536):DT n rm (fV g)=some ⟨g,0,rm⟩:=by
 unfold DT
 rw [iV (by omega),if_pos hg]
theorem nX {i:P4} {n g:Nat} {o:Obj} (hn:n≤65536) (h:live (aq i (CU n g o))):i=fV g:=by
 rw [nW i n g o hn] at h
 by_cases e:i=fV g
 ·exact e
 ·rw [if_neg e] at h
  split at h
  ·exact absurd rfl h.2
  ·exact absurd rfl h.1
theorem HRG {n g el:Nat} {k:IntKind} {zs:List Int} {w:World} (hn:n≤65536) (hg:g < n) (hz:zs.length≤bQ (lP (zs.map fun z=>AV.int k z))) (hs:n≤w.heap.size)
  (hw:w.heap[g]?=some (.cells (zs.map fun z=>Value.int k z).toArray el (0,0))):HR (DT n zs.length) (CU n g (Gu el k zs)) w where
 obj i hl:=by
  obtain rfl:=nX hn hl
  refine ⟨⟨g,0,zs.length⟩,tM hg hn,?_⟩
  rw [nW _ n g _ hn,if_pos rfl]
  refine ⟨_,(0,0),hw,by simp,Nat.le_refl _,fun _=>⟨rfl,rfl⟩,hz,fun j hj=>?_,rfl⟩
  refine ⟨.int k zs[j],by simp [hj],?_,rfl⟩
  rw [dD _ (by simpa using hz) j (by simpa using hj),List.getElem_map]
  exact .int _ _
 inj i j p q hi hj ne _ _:=absurd ((nX hn hi).trans (nX hn hj).symm) ne
 fresh i hi:=by
  rw [nW i n g _ hn] at hi
  split at hi
  ·cases hi
  ·split at hi
   ·cases hi
   ·rename_i h
    unfold DT
    rw [if_neg h]
 bound i p hp:=by
  unfold DT at hp
  split at hp
  ·cases hp
   show iU i < _
   omega
  ·cases hp
theorem Rf {k:IntKind} {z:Int} {v:AV} (h:QO k z v=true):v=.int k z:=by
 cases v with
 | int k' z'=>
  have h:(decide (k'=k)&&decide (z'=z))=true:=h
  rw [Bool.and_eq_true] at h
  rw [of_decide_eq_true h.1,of_decide_eq_true h.2]
 | _=>cases h
theorem qb {k:IntKind}:∀{zs:List Int} {i:Nat} {c:Cl},iR k zs i c=true→∀(j:Nat) (hj:j < zs.length),eC (i+j) c=.int k zs[j]
 | [],_,_,_,j,hj=>by simp at hj
 | z::r,i,c,h,0,_=>by
  have h:(QO k z (eC i c)&&iR k r (i+1) c)=true:=h
  rw [Bool.and_eq_true] at h
  exact Rf h.1
 | z::r,i,c,h,j+1,hj=>by
  have h:(QO k z (eC i c)&&iR k r (i+1) c)=true:=h
  rw [Bool.and_eq_true] at h
  have:=qb h.2 j (by simpa using hj)
  rw [show i+(j+1)=i+1+j by omega,this]
  rfl
theorem Jv {el:Nat} {k:IntKind} {zs:List Int} {o:Obj} (h:Wj el k zs o=true):∃c,o=.cells el zs.length true .plain c∧∀(j:Nat) (hj:j < zs.length),eC j c=.int k zs[j]:=by
 cases o with
 | cells e n ex fl c=>
  cases ex with
  | false=>cases h
  | true=>
   cases fl with
   | plain=>
    have h:(decide (e=el)&&decide (n=zs.length)&&iR k zs 0 c)=true:=h
    rw [Bool.and_eq_true,Bool.and_eq_true] at h
    obtain ⟨⟨h1,h2⟩,h3⟩:=h
    obtain rfl:=of_decide_eq_true h1
    obtain rfl:=of_decide_eq_true h2
    refine ⟨c,rfl,fun j hj=>?_⟩
    have:=qb h3 j hj
    rwa [Nat.zero_add] at this
   | _=>cases h
 | _=>cases h
theorem tN {P:Program} {w:World}:∀{l:List (String×DataW Unit)} {ps:List MemPlace},DataW.LaidVars P w l ps→∀n d,(n,d)∈l→
  ∃g t cs fuel p,P.globalNamed n=some g∧(P.globals[g]?).map (·.type)=some t∧w.var? P n=some cs∧DataW.trod (fun _=>()) P w 0 (fun _=>true) false fuel t cs.toList=some (d,p)
 | [],_,_,_,_,hm=>by cases hm
 | (n',d')::r,ps,h,n,d,hm=>by
  obtain ⟨g,t,cs,fuel,p,q,h1,h2,h3,h4,h5,_⟩:=h
  rcases List.mem_cons.1 hm with e|e
  ·cases e
   exact ⟨g,t,cs,fuel,p,h1,h2,h3,h4⟩
  ·exact tN h5 n d e
theorem za {P:Program} {W:World} {name:String} {k:IntKind} {zs:List Int} {l:List (String×DataW Unit)} {g:Nat} {t e n:Nat} {zero:Array Value}
  (h:laidMet P l W) (hm:(name,Lib.tabData k zs)∈l) (hsh:W.ShapedOpen P) (hgl:g < P.globals.size)
  (hrow:(((begin P (fun _ _=>0) default).world.heap[g]?).bind Go.Obj.row?)=some (zero,t))
  (hg:P.globalNamed name=some g) (hty:(P.globals[g]?).map (·.type)=some t) (ht:P.underlying t=some (.array n e)) (he:P.underlying e=some (.int k)) (hce:P.cellsOf e=1) (hct:P.cellsOf t=n) :
  W.heap[g]?=some (.cells (zs.map fun z=>Value.int k z).toArray t (0,0)):=by
 obtain ⟨ps,hv,_⟩:=h
 obtain ⟨g',t',cs,fuel,p,h1,h2,h3,h4⟩:=tN hv _ _ hm
 obtain rfl:=Option.some.inj (hg.symm.trans h1)
 obtain rfl:=Option.some.inj (hty.symm.trans h2)
 have hcs:=Lib.cells_of_tab ht he hce hct h4
 obtain ⟨cs2,h5,_⟩:=hsh.1 g zero t hgl hrow
 unfold World.var? at h3
 rw [hg] at h3
 have h3:(match W.heap[g]? with|some (.cells cs _ _)=>some cs|_=>none)=some cs:=h3
 rw [h5] at h3
 have h3:cs2=cs:=Option.some.inj h3
 subst h3
 rw [h5]
 have:cs2=(zs.map fun z=>Value.int k z).toArray:=by
  apply Array.toList_inj.1
  rw [hcs]
 rw [this]
theorem xo {P:Program} {W:World} {l:List (String×DataW Unit)} (name:String) (k:IntKind) (zs:List Int) (g t e n:Nat)
  (h:laidMet P l W) (hm:(name,Lib.tabData k zs)∈l) (hsh:W.ShapedOpen P) (hgl:g < P.globals.size)
  (hrow:((((begin P (fun _ _=>0) default).world.heap[g]?).bind Go.Obj.row?).map (·.2))=some t)
  (hg:P.globalNamed name=some g) (hty:(P.globals[g]?).map (·.type)=some t) (ht:P.underlying t=some (.array n e)) (he:P.underlying e=some (.int k)) (hce:P.cellsOf e=1) (hct:P.cellsOf t=n) :
  W.heap[g]?=some (.cells (zs.map fun z=>Value.int k z).toArray t (0,0)):=by
 obtain ⟨⟨zero,t'⟩,hr,rfl⟩:=Option.map_eq_some_iff.1 hrow
 exact za h hm hsh hgl hr hg hty ht he hce hct
theorem tH {P:Program} {W:World} (g n:Nat) (hsh:W.ShapedOpen P) (hn:n=g+1) (hgl:g < P.globals.size)
  (hrow:(((begin P (fun _ _=>0) default).world.heap[g]?).bind Go.Obj.row?).isSome=true):n≤W.heap.size:=by
 obtain ⟨⟨zero,t⟩,hr⟩:=Option.isSome_iff_exists.1 hrow
 obtain ⟨cs,h,_⟩:=hsh.1 g zero t hgl hr
 have:=(Array.getElem?_eq_some_iff.1 h).1
 omega
theorem apU {H:Type} {enc:TypeId×Value→H} {a:Assume} {C:Checked} {os:Os} {f:FuncId} {fn:Func} {s:ChangeSpec} {conds:List PathCond} {apart fresh handsOn again:Bool} {X:World→Array Value→Prop}
  (hX:∀(w w':World) (args:Array Value),w.heap=w'.heap→X w args→X w' args)
  (own:ownKnob C.prog.godebug=none) (started:os.Started) (noInit:C.prog.inits.idxOf? f=none) (hfn:C.prog.funcs[f]?=some fn)
  (witness:∃(w:World) (tape:Tape) (i:Input),w.os=os∧(w.forCall tape i).Shaped C.prog∧i.vars=[]∧Input.okWide C.prog (w.forCall tape i) .any w.heap.size f i∧
   ((s.pre enc C.prog fn conds apart (w.forCall tape i).memory i.args∧X (w.forCall tape i).memory i.args)∧sizedMet enc C.prog fn (OpenSpec.ofChange s) apart (w.forCall tape i).memory i.args)∧a.holds C.prog (lone (Frame.enter C.prog f i.args .normal) [] (w.forCall tape i)))
  (contract:∀(W:World) (base:Nat) (args:Array Value) (ds gs:List (DataW H)) (before:List MemPlace),
   (∀(j:Nat) t v,fn.params[j]?=some t→args[j]?=some v→Value.okWide C.prog W .any base t v)→
   DataW.Whole enc C.prog fn.params.toList s.vars apart W args.toList ds gs before→X W args→W.ShapedOpen C.prog→
   Calls C.prog f args W fun e W'=>∃v,e=.returned v∧s.post enc C.prog fn apart fresh handsOn again W args v W') :
  ReturnsInHanded a C os f .any (fun w args=>(s.pre enc C.prog fn conds apart w args∧X w args)∧sizedMet enc C.prog fn (OpenSpec.ofChange s) apart w args) (s.post enc C.prog fn apart fresh handsOn again):=by
 refine returnsInHanded_of_calls own started noInit witness ?_
 intro w tape i _ hsh _ hok hpre _
 obtain ⟨_,_,_,fn',hfn',_,_,_,_,hval⟩:=hok
 have e:fn'=fn:=Option.some.inj (hfn'.symm.trans hfn)
 subst e
 obtain ⟨⟨⟨ds,gs,before,hw,_⟩,hx⟩,_⟩:=hpre
 have hw':=DataW.Whole.of_heap (w':=w.forCall tape i) (by rfl) hw
 refine (contract (w.forCall tape i) w.heap.size i.args ds gs before hval hw' (hX _ _ _ (by rfl) hx) hsh).mono fun e W' ⟨v,he,hp⟩=>?_
 subst he
 exact ChangeSpec.post_blind hp
end
noncomputable section
variable {r r':A2} {h h':Hp}
theorem Jw {x y:Obj} (e:bp x y=true):x=y∨x=.dead:=by
 have e:(@Bool.rec (fun _=>Bool) (rl x y) true (zT x))=true:=e
 cases hx:zT x with
 | true=>right;cases x<;>first|rfl|cases hx
 | false=>rw [hx] at e;exact .inl (yE e)
theorem A1.jC (d:H) {x y:A1} (e:A1.le x y=true):gp (A1.get d x) (A1.get d y)=true:=by
 cases x with
 | nil=>cases y with
  | nil=>cases d<;>rfl
  | mk=>cases d<;>rfl
 | mk=>cases y with
  | nil=>
   obtain ⟨e0,e⟩:=az e;obtain ⟨e1,e⟩:=az e;obtain ⟨e2,e⟩:=az e;obtain ⟨e3,e⟩:=az e;obtain ⟨e4,e⟩:=az e;obtain ⟨e5,e⟩:=az e;obtain ⟨e6,e⟩:=az e;obtain ⟨e7,e⟩:=az e;obtain ⟨e8,e⟩:=az e;obtain ⟨e9,e⟩:=az e;obtain ⟨ea,e⟩:=az e;obtain ⟨eb,e⟩:=az e;obtain ⟨ec,e⟩:=az e;obtain ⟨ed,e⟩:=az e;obtain ⟨ee,e⟩:=az e
   cases d
   ·exact e0
   ·exact e1
   ·exact e2
   ·exact e3
   ·exact e4
   ·exact e5
   ·exact e6
   ·exact e7
   ·exact e8
   ·exact e9
   ·exact ea
   ·exact eb
   ·exact ec
   ·exact ed
   ·exact ee
   ·exact e
  | mk=>
   obtain ⟨e0,e⟩:=az e;obtain ⟨e1,e⟩:=az e;obtain ⟨e2,e⟩:=az e;obtain ⟨e3,e⟩:=az e;obtain ⟨e4,e⟩:=az e;obtain ⟨e5,e⟩:=az e;obtain ⟨e6,e⟩:=az e;obtain ⟨e7,e⟩:=az e;obtain ⟨e8,e⟩:=az e;obtain ⟨e9,e⟩:=az e;obtain ⟨ea,e⟩:=az e;obtain ⟨eb,e⟩:=az e;obtain ⟨ec,e⟩:=az e;obtain ⟨ed,e⟩:=az e;obtain ⟨ee,e⟩:=az e
   cases d
   ·exact e0
   ·exact e1
   ·exact e2
   ·exact e3
   ·exact e4
   ·exact e5
   ·exact e6
   ·exact e7
   ·exact e8
   ·exact e9
   ·exact ea
   ·exact eb
   ·exact ec
   ·exact ed
   ·exact ee
   ·exact e
theorem A2.jC (d:H) {x y:A2} (e:A2.le x y=true):A1.le (A2.get d x) (A2.get d y)=true:=by
 cases x with
 | nil=>cases y with
  | nil=>cases d<;>rfl
  | mk=>
   obtain ⟨e0,e⟩:=az e;obtain ⟨e1,e⟩:=az e;obtain ⟨e2,e⟩:=az e;obtain ⟨e3,e⟩:=az e;obtain ⟨e4,e⟩:=az e;obtain ⟨e5,e⟩:=az e;obtain ⟨e6,e⟩:=az e;obtain ⟨e7,e⟩:=az e;obtain ⟨e8,e⟩:=az e;obtain ⟨e9,e⟩:=az e;obtain ⟨ea,e⟩:=az e;obtain ⟨eb,e⟩:=az e;obtain ⟨ec,e⟩:=az e;obtain ⟨ed,e⟩:=az e;obtain ⟨ee,e⟩:=az e
   cases d
   ·exact e0
   ·exact e1
   ·exact e2
   ·exact e3
   ·exact e4
   ·exact e5
   ·exact e6
   ·exact e7
   ·exact e8
   ·exact e9
   ·exact ea
   ·exact eb
   ·exact ec
   ·exact ed
   ·exact ee
   ·exact e
 | mk=>cases y with
  | nil=>
   obtain ⟨e0,e⟩:=az e;obtain ⟨e1,e⟩:=az e;obtain ⟨e2,e⟩:=az e;obtain ⟨e3,e⟩:=az e;obtain ⟨e4,e⟩:=az e;obtain ⟨e5,e⟩:=az e;obtain ⟨e6,e⟩:=az e;obtain ⟨e7,e⟩:=az e;obtain ⟨e8,e⟩:=az e;obtain ⟨e9,e⟩:=az e;obtain ⟨ea,e⟩:=az e;obtain ⟨eb,e⟩:=az e;obtain ⟨ec,e⟩:=az e;obtain ⟨ed,e⟩:=az e;obtain ⟨ee,e⟩:=az e
   cases d
   ·exact e0
   ·exact e1
   ·exact e2
   ·exact e3
   ·exact e4
   ·exact e5
   ·exact e6
   ·exact e7
   ·exact e8
   ·exact e9
   ·exact ea
   ·exact eb
   ·exact ec
   ·exact ed
   ·exact ee
   ·exact e
  | mk=>
   obtain ⟨e0,e⟩:=az e;obtain ⟨e1,e⟩:=az e;obtain ⟨e2,e⟩:=az e;obtain ⟨e3,e⟩:=az e;obtain ⟨e4,e⟩:=az e;obtain ⟨e5,e⟩:=az e;obtain ⟨e6,e⟩:=az e;obtain ⟨e7,e⟩:=az e;obtain ⟨e8,e⟩:=az e;obtain ⟨e9,e⟩:=az e;obtain ⟨ea,e⟩:=az e;obtain ⟨eb,e⟩:=az e;obtain ⟨ec,e⟩:=az e;obtain ⟨ed,e⟩:=az e;obtain ⟨ee,e⟩:=az e
   cases d
   ·exact e0
   ·exact e1
   ·exact e2
   ·exact e3
   ·exact e4
   ·exact e5
   ·exact e6
   ·exact e7
   ·exact e8
   ·exact e9
   ·exact ea
   ·exact eb
   ·exact ec
   ·exact ed
   ·exact ee
   ·exact e
theorem O1.jC (d:H) {x y:O1} (e:O1.le x y=true):bp (O1.get d x) (O1.get d y)=true:=by
 cases x with
 | nil=>cases y with
  | nil=>cases d<;>rfl
  | mk=>
   obtain ⟨e0,e⟩:=az e;obtain ⟨e1,e⟩:=az e;obtain ⟨e2,e⟩:=az e;obtain ⟨e3,e⟩:=az e;obtain ⟨e4,e⟩:=az e;obtain ⟨e5,e⟩:=az e;obtain ⟨e6,e⟩:=az e;obtain ⟨e7,e⟩:=az e;obtain ⟨e8,e⟩:=az e;obtain ⟨e9,e⟩:=az e;obtain ⟨ea,e⟩:=az e;obtain ⟨eb,e⟩:=az e;obtain ⟨ec,e⟩:=az e;obtain ⟨ed,e⟩:=az e;obtain ⟨ee,e⟩:=az e
   cases d
   ·exact e0
   ·exact e1
   ·exact e2
   ·exact e3
   ·exact e4
   ·exact e5
   ·exact e6
   ·exact e7
   ·exact e8
   ·exact e9
   ·exact ea
   ·exact eb
   ·exact ec
   ·exact ed
   ·exact ee
   ·exact e
 | mk=>cases y with
  | nil=>
   obtain ⟨e0,e⟩:=az e;obtain ⟨e1,e⟩:=az e;obtain ⟨e2,e⟩:=az e;obtain ⟨e3,e⟩:=az e;obtain ⟨e4,e⟩:=az e;obtain ⟨e5,e⟩:=az e;obtain ⟨e6,e⟩:=az e;obtain ⟨e7,e⟩:=az e;obtain ⟨e8,e⟩:=az e;obtain ⟨e9,e⟩:=az e;obtain ⟨ea,e⟩:=az e;obtain ⟨eb,e⟩:=az e;obtain ⟨ec,e⟩:=az e;obtain ⟨ed,e⟩:=az e;obtain ⟨ee,e⟩:=az e
   cases d
   ·exact e0
   ·exact e1
   ·exact e2
   ·exact e3
   ·exact e4
   ·exact e5
   ·exact e6
   ·exact e7
   ·exact e8
   ·exact e9
   ·exact ea
   ·exact eb
   ·exact ec
   ·exact ed
   ·exact ee
   ·exact e
  | mk=>
   obtain ⟨e0,e⟩:=az e;obtain ⟨e1,e⟩:=az e;obtain ⟨e2,e⟩:=az e;obtain ⟨e3,e⟩:=az e;obtain ⟨e4,e⟩:=az e;obtain ⟨e5,e⟩:=az e;obtain ⟨e6,e⟩:=az e;obtain ⟨e7,e⟩:=az e;obtain ⟨e8,e⟩:=az e;obtain ⟨e9,e⟩:=az e;obtain ⟨ea,e⟩:=az e;obtain ⟨eb,e⟩:=az e;obtain ⟨ec,e⟩:=az e;obtain ⟨ed,e⟩:=az e;obtain ⟨ee,e⟩:=az e
   cases d
   ·exact e0
   ·exact e1
   ·exact e2
   ·exact e3
   ·exact e4
   ·exact e5
   ·exact e6
   ·exact e7
   ·exact e8
   ·exact e9
   ·exact ea
   ·exact eb
   ·exact ec
   ·exact ed
   ·exact ee
   ·exact e
theorem O2.jC (d:H) {x y:O2} (e:O2.le x y=true):O1.le (O2.get d x) (O2.get d y)=true:=by
 cases x with
 | nil=>cases y with
  | nil=>cases d<;>rfl
  | mk=>
   obtain ⟨e0,e⟩:=az e;obtain ⟨e1,e⟩:=az e;obtain ⟨e2,e⟩:=az e;obtain ⟨e3,e⟩:=az e;obtain ⟨e4,e⟩:=az e;obtain ⟨e5,e⟩:=az e;obtain ⟨e6,e⟩:=az e;obtain ⟨e7,e⟩:=az e;obtain ⟨e8,e⟩:=az e;obtain ⟨e9,e⟩:=az e;obtain ⟨ea,e⟩:=az e;obtain ⟨eb,e⟩:=az e;obtain ⟨ec,e⟩:=az e;obtain ⟨ed,e⟩:=az e;obtain ⟨ee,e⟩:=az e
   cases d
   ·exact e0
   ·exact e1
   ·exact e2
   ·exact e3
   ·exact e4
   ·exact e5
   ·exact e6
   ·exact e7
   ·exact e8
   ·exact e9
   ·exact ea
   ·exact eb
   ·exact ec
   ·exact ed
   ·exact ee
   ·exact e
 | mk=>cases y with
  | nil=>
   obtain ⟨e0,e⟩:=az e;obtain ⟨e1,e⟩:=az e;obtain ⟨e2,e⟩:=az e;obtain ⟨e3,e⟩:=az e;obtain ⟨e4,e⟩:=az e;obtain ⟨e5,e⟩:=az e;obtain ⟨e6,e⟩:=az e;obtain ⟨e7,e⟩:=az e;obtain ⟨e8,e⟩:=az e;obtain ⟨e9,e⟩:=az e;obtain ⟨ea,e⟩:=az e;obtain ⟨eb,e⟩:=az e;obtain ⟨ec,e⟩:=az e;obtain ⟨ed,e⟩:=az e;obtain ⟨ee,e⟩:=az e
   cases d
   ·exact e0
   ·exact e1
   ·exact e2
   ·exact e3
   ·exact e4
   ·exact e5
   ·exact e6
   ·exact e7
   ·exact e8
   ·exact e9
   ·exact ea
   ·exact eb
   ·exact ec
   ·exact ed
   ·exact ee
   ·exact e
  | mk=>
   obtain ⟨e0,e⟩:=az e;obtain ⟨e1,e⟩:=az e;obtain ⟨e2,e⟩:=az e;obtain ⟨e3,e⟩:=az e;obtain ⟨e4,e⟩:=az e;obtain ⟨e5,e⟩:=az e;obtain ⟨e6,e⟩:=az e;obtain ⟨e7,e⟩:=az e;obtain ⟨e8,e⟩:=az e;obtain ⟨e9,e⟩:=az e;obtain ⟨ea,e⟩:=az e;obtain ⟨eb,e⟩:=az e;obtain ⟨ec,e⟩:=az e;obtain ⟨ed,e⟩:=az e;obtain ⟨ee,e⟩:=az e
   cases d
   ·exact e0
   ·exact e1
   ·exact e2
   ·exact e3
   ·exact e4
   ·exact e5
   ·exact e6
   ·exact e7
   ·exact e8
   ·exact e9
   ·exact ea
   ·exact eb
   ·exact ec
   ·exact ed
   ·exact ee
   ·exact e
theorem O3.jC (d:H) {x y:O3} (e:O3.le x y=true):O2.le (O3.get d x) (O3.get d y)=true:=by
 cases x with
 | nil=>cases y with
  | nil=>cases d<;>rfl
  | mk=>
   obtain ⟨e0,e⟩:=az e;obtain ⟨e1,e⟩:=az e;obtain ⟨e2,e⟩:=az e;obtain ⟨e3,e⟩:=az e;obtain ⟨e4,e⟩:=az e;obtain ⟨e5,e⟩:=az e;obtain ⟨e6,e⟩:=az e;obtain ⟨e7,e⟩:=az e;obtain ⟨e8,e⟩:=az e;obtain ⟨e9,e⟩:=az e;obtain ⟨ea,e⟩:=az e;obtain ⟨eb,e⟩:=az e;obtain ⟨ec,e⟩:=az e;obtain ⟨ed,e⟩:=az e;obtain ⟨ee,e⟩:=az e
   cases d
   ·exact e0
   ·exact e1
   ·exact e2
   ·exact e3
   ·exact e4
   ·exact e5
   ·exact e6
   ·exact e7
   ·exact e8
   ·exact e9
   ·exact ea
   ·exact eb
   ·exact ec
   ·exact ed
   ·exact ee
   ·exact e
 | mk=>cases y with
  | nil=>
   obtain ⟨e0,e⟩:=az e;obtain ⟨e1,e⟩:=az e;obtain ⟨e2,e⟩:=az e;obtain ⟨e3,e⟩:=az e;obtain ⟨e4,e⟩:=az e;obtain ⟨e5,e⟩:=az e;obtain ⟨e6,e⟩:=az e;obtain ⟨e7,e⟩:=az e;obtain ⟨e8,e⟩:=az e;obtain ⟨e9,e⟩:=az e;obtain ⟨ea,e⟩:=az e;obtain ⟨eb,e⟩:=az e;obtain ⟨ec,e⟩:=az e;obtain ⟨ed,e⟩:=az e;obtain ⟨ee,e⟩:=az e
   cases d
   ·exact e0
   ·exact e1
   ·exact e2
   ·exact e3
   ·exact e4
   ·exact e5
   ·exact e6
   ·exact e7
   ·exact e8
   ·exact e9
   ·exact ea
   ·exact eb
   ·exact ec
   ·exact ed
   ·exact ee
   ·exact e
  | mk=>
   obtain ⟨e0,e⟩:=az e;obtain ⟨e1,e⟩:=az e;obtain ⟨e2,e⟩:=az e;obtain ⟨e3,e⟩:=az e;obtain ⟨e4,e⟩:=az e;obtain ⟨e5,e⟩:=az e;obtain ⟨e6,e⟩:=az e;obtain ⟨e7,e⟩:=az e;obtain ⟨e8,e⟩:=az e;obtain ⟨e9,e⟩:=az e;obtain ⟨ea,e⟩:=az e;obtain ⟨eb,e⟩:=az e;obtain ⟨ec,e⟩:=az e;obtain ⟨ed,e⟩:=az e;obtain ⟨ee,e⟩:=az e
   cases d
   ·exact e0
   ·exact e1
   ·exact e2
   ·exact e3
   ·exact e4
   ·exact e5
   ·exact e6
   ·exact e7
   ·exact e8
   ·exact e9
   ·exact ea
   ·exact eb
   ·exact ec
   ·exact ed
   ·exact ee
   ·exact e
theorem O4.jC (d:H) {x y:O4} (e:O4.le x y=true):O3.le (O4.get d x) (O4.get d y)=true:=by
 cases x with
 | nil=>cases y with
  | nil=>cases d<;>rfl
  | mk=>
   obtain ⟨e0,e⟩:=az e;obtain ⟨e1,e⟩:=az e;obtain ⟨e2,e⟩:=az e;obtain ⟨e3,e⟩:=az e;obtain ⟨e4,e⟩:=az e;obtain ⟨e5,e⟩:=az e;obtain ⟨e6,e⟩:=az e;obtain ⟨e7,e⟩:=az e;obtain ⟨e8,e⟩:=az e;obtain ⟨e9,e⟩:=az e;obtain ⟨ea,e⟩:=az e;obtain ⟨eb,e⟩:=az e;obtain ⟨ec,e⟩:=az e;obtain ⟨ed,e⟩:=az e;obtain ⟨ee,e⟩:=az e
   cases d
   ·exact e0
   ·exact e1
   ·exact e2
   ·exact e3
   ·exact e4
   ·exact e5
   ·exact e6
   ·exact e7
   ·exact e8
   ·exact e9
   ·exact ea
   ·exact eb
   ·exact ec
   ·exact ed
   ·exact ee
   ·exact e
 | mk=>cases y with
  | nil=>
   obtain ⟨e0,e⟩:=az e;obtain ⟨e1,e⟩:=az e;obtain ⟨e2,e⟩:=az e;obtain ⟨e3,e⟩:=az e;obtain ⟨e4,e⟩:=az e;obtain ⟨e5,e⟩:=az e;obtain ⟨e6,e⟩:=az e;obtain ⟨e7,e⟩:=az e;obtain ⟨e8,e⟩:=az e;obtain ⟨e9,e⟩:=az e;obtain ⟨ea,e⟩:=az e;obtain ⟨eb,e⟩:=az e;obtain ⟨ec,e⟩:=az e;obtain ⟨ed,e⟩:=az e;obtain ⟨ee,e⟩:=az e
   cases d
   ·exact e0
   ·exact e1
   ·exact e2
   ·exact e3
   ·exact e4
   ·exact e5
   ·exact e6
   ·exact e7
   ·exact e8
   ·exact e9
   ·exact ea
   ·exact eb
   ·exact ec
   ·exact ed
   ·exact ee
   ·exact e
  | mk=>
   obtain ⟨e0,e⟩:=az e;obtain ⟨e1,e⟩:=az e;obtain ⟨e2,e⟩:=az e;obtain ⟨e3,e⟩:=az e;obtain ⟨e4,e⟩:=az e;obtain ⟨e5,e⟩:=az e;obtain ⟨e6,e⟩:=az e;obtain ⟨e7,e⟩:=az e;obtain ⟨e8,e⟩:=az e;obtain ⟨e9,e⟩:=az e;obtain ⟨ea,e⟩:=az e;obtain ⟨eb,e⟩:=az e;obtain ⟨ec,e⟩:=az e;obtain ⟨ed,e⟩:=az e;obtain ⟨ee,e⟩:=az e
   cases d
   ·exact e0
   ·exact e1
   ·exact e2
   ·exact e3
   ·exact e4
   ·exact e5
   ·exact e6
   ·exact e7
   ·exact e8
   ·exact e9
   ·exact ea
   ·exact eb
   ·exact ec
   ·exact ed
   ·exact ee
   ·exact e
theorem Rg {x y:Hp} (e:aia x y=true):gI x y:=by
 intro i
 obtain ⟨t,k⟩:=x
 obtain ⟨u,l⟩:=y
 obtain ⟨a,b,c,d⟩:=i
 have e:O4.le t u=true:=e
 exact Jw (O1.jC d (O2.jC c (O3.jC b (O4.jC a e))))
end
theorem fM {f:Nat→Bool}:∀{m:Nat},nj m f=true→∀i,i < m→f i=true
 | 0,_,i,hi=>by omega
 | m+1,e,i,hi=>by
  have e:(@Bool.rec (fun _=>Bool) false (nj m f) (f m))=true:=e
  cases hm:f m with
  | false=>rw [hm] at e;cases e
  | true=>
   rw [hm] at e
   rcases Nat.lt_or_ge i m with h|h
   ·exact fM e i h
   ·have:i=m:=by omega
    subst this;exact hm
theorem tP {n:Nat} {k:Nat→RS}:∀(x:RS),¬ x.aG (.ch n k)
 | .nm ..,h=>by cases h
 | .ex ..,h=>by cases h
 | .go ..,h=>by cases h
 | .ret ..,h=>by cases h
 | .err ..,h=>by cases h
 | .ch _ k',h=>by
  cases h with
  | ch _ _ c _ hc hl=>exact tP (k' c) hl
open Go.ChangeShapes Go.WideShapes Go.ChangeAt Go.RowKit
noncomputable section
variable {P:Program} {G:Gl} {names:List String} {p:Pg} {n m K:Nat} {φ φ' φ1:aJ} {h h' h2 g1:Hp} {w w' w0 w1:World} {r r' r1:A2} {a:Act} {t u:A4}
theorem xu (p:P4):bt p=iU p:=by cases p;rfl
def AE (l:List AV) (p:Place):Place:=match l with|_::.str c::_=>⟨p.bA,p.base,fy (c.map (bV p.room))⟩|_=>p
theorem nY (l:List AV) (p:Place):(AE l p).bA=p.bA:=by unfold AE;split<;>rfl
def kN (K:Nat) (t:A4) (φ:aJ):aJ:=fun i=>if bt i < K then (match cD i t with|.map j=>φ j|.agg (.map j::l)=>(φ j).map (AE (.map j::l))|_=>none) else none
theorem apZ {i j:P4} (e:rP K t i j=true):bt i < K∧cD i t=.map j:=by
 obtain ⟨h1,h2⟩:=az e
 refine ⟨by have:=Nat.le_of_ble_eq_true h1;omega,?_⟩
 have h2:(@OM.rec (fun _=>Bool) false false (fun k=>jM k j) (cD i t).de)=true:=h2
 cases hx:cD i t with
 | map k=>rw [hx] at h2;exact congrArg _ (ef.1 h2)
 | _=>rw [hx] at h2;cases h2
theorem xv {i j:P4} (e:rP K t i j=true):kN K t φ i=φ j:=by
 obtain ⟨h1,h2⟩:=apZ e
 unfold kN
 rw [if_pos h1,h2]
theorem nZ {i j:P4} (h1:bt i < K) (hx:cD i t=.map j):kN K t φ i=φ j:=by unfold kN;rw [if_pos h1,hx]
theorem xw {i j:P4} {l:List AV} (h1:bt i < K) (hx:cD i t=.agg (.map j::l)):kN K t φ i=(φ j).map (AE (.map j::l)):=by unfold kN;rw [if_pos h1,hx]
theorem AG {x:AV} {k:P4} (e:Je x=.yes k):x=.map k∨∃l,x=.agg (.map k::l):=by
 cases x with
 | map i=>cases e;exact .inl rfl
 | agg l=>
  cases l with
  | nil=>cases e
  | cons y l=>
   have e:y.de=.yes k:=e
   cases y<;>(try (cases e;done))
   cases e
   exact .inr ⟨l,rfl⟩
 | _=>cases e
theorem aqa {i j:P4} {q:Place} (e:rM K t i j=true) (hq:φ j=some q):∃q',kN K t φ i=some q'∧q'.bA=q.bA:=by
 obtain ⟨h1,h2⟩:=az e
 have h1:bt i < K:=by have:=Nat.le_of_ble_eq_true h1;omega
 have h2:(@OM.rec (fun _=>Bool) false false (fun k=>jM k j) (Je (cD i t)))=true:=h2
 cases hx:Je (cD i t) with
 | yes k=>
  rw [hx] at h2
  obtain rfl:=ef.1 (show jM k j=true from h2)
  rcases AG hx with g|⟨l,g⟩
  ·exact ⟨q,(nZ h1 g).trans hq,rfl⟩
  ·exact ⟨AE (.map k::l) q,by rw [xw h1 g,hq];rfl,nY _ _⟩
 | _=>rw [hx] at h2;cases h2
theorem Jx {x y:AV} {v:Value} (e:rn1 K t x y=true) (hv:VR φ y v):VR (kN K t φ) x v:=by
 cases x with
 | undef=>exact .undef v
 | bool b=>cases dC (show dj _ _=true from e);cases hv;exact .bool _
 | int k n=>cases dC (show dj _ _=true from e);cases hv;exact .int _ _
 | str l=>cases dC (show dj _ _=true from e);cases hv;rename_i s h;exact .str _ _ h
 | gA k n=>cases dC (show dj _ _=true from e);cases hv;exact .gA _ _
 | aM k a b=>cases dC (show dj _ _=true from e);cases hv;exact .aM _ _ _
 | ptr i o=>
  cases y<;>(try (cases e;done))
  obtain ⟨h1,h2⟩:=az e
  obtain rfl:=dU h1
  cases hv with
  | ptr _ _ q hq=>exact .ptr _ _ q ((xv h2).trans hq)
 | dP=>cases dC (show dj _ _=true from e);cases hv;exact .dP
 | slice i a b c=>
  cases y<;>(try (cases e;done))
  obtain ⟨h1,h2⟩:=az e
  obtain ⟨h2,h3⟩:=az h2
  obtain ⟨h3,h4⟩:=az h3
  obtain rfl:=dU h1
  obtain rfl:=dU h2
  obtain rfl:=dU h3
  cases hv with
  | slice _ _ _ _ q hq=>exact .slice _ _ _ _ q ((xv h4).trans hq)
 | bZ i a b c=>
  cases y<;>(try (cases e;done))
  obtain ⟨h1,h2⟩:=az e
  obtain ⟨h2,h3⟩:=az h2
  obtain ⟨h3,h4⟩:=az h3
  obtain rfl:=dU h1
  obtain rfl:=dU h2
  obtain rfl:=dU h3
  cases hv with
  | bZ _ _ _ _ c q ad hq g1 g2 g3 g4 g5 g6=>exact .bZ _ _ _ _ c q ad ((xv h4).trans hq) g1 g2 g3 g4 g5 g6
 | aj=>cases dC (show dj _ _=true from e);cases hv;exact .aj
 | map i=>
  cases y<;>(try (cases e;done))
  have e:rM K t i _=true:=e
  cases hv with
  | map _ q hq=>
   obtain ⟨q',g1,g2⟩:=aqa e hq
   rw [←g2]
   exact .map _ q' g1
 | mX=>cases dC (show dj _ _=true from e);cases hv;exact .mX
 | qn=>cases dC (show dj _ _=true from e);cases hv;exact .qn
 | qQ=>cases dC (show dj _ _=true from e);cases hv;exact .qQ
 | _=>cases e
theorem AH:∀{x y:List AV} {v:List Value},rnL K t x y=true→bS φ y v→bS (kN K t φ) x v
 | [],[],_,_,hv=>by cases hv;exact .nil
 | [],_::_,_,e,_=>by cases e
 | _::_,[],_,e,_=>by cases e
 | x::a,y::b,_,e,hv=>by
  obtain ⟨h1,h2⟩:=az (show (@Bool.rec (fun _=>Bool) false (rnL K t a b) (rn1 K t x y))=true from e)
  cases hv with
  | cons _ _ _ _ g1 g2=>exact .cons _ _ _ _ (Jx h1 g1) (AH h2 g2)
theorem Jy {x y:AV} {v:Value} (e:rnA K t x y=true) (hv:VR φ y v):VR (kN K t φ) x v:=by
 by_cases hx:∃l,x=.agg l
 ·obtain ⟨l,rfl⟩:=hx
  cases y<;>(try (cases e;done))
  rename_i b
  have e:rnL K t l b=true:=e
  cases hv with
  | agg _ vs g1 g2=>exact .agg _ vs (AH e g1) g2
 ·have:rnA K t x y=rn1 K t x y:=by cases x<;>first|rfl|exact absurd ⟨_,rfl⟩ hx
  exact Jx (this▸e) hv
theorem Jz {x y:AV} {v:Value} (e:rn2 K t x y=true) (hv:VR φ y v):VR (kN K t φ) x v:=by
 by_cases hx:∃f l,x=.fn f l
 ·obtain ⟨f,l,rfl⟩:=hx
  cases y<;>(try (cases e;done))
  rename_i g b
  obtain ⟨h1,h2⟩:=az (show (@Bool.rec (fun _=>Bool) false (rnL K t l b) (Nat.beq f g))=true from e)
  obtain rfl:=dU h1
  cases hv with
  | fn _ _ vs g1=>exact .fn _ _ vs (AH h2 g1)
 ·by_cases hi:∃u z,x=.iface u z
  ·obtain ⟨u,z,rfl⟩:=hi
   cases y<;>(try (cases e;done))
   rename_i u' z'
   obtain ⟨h1,h2⟩:=az (show (@Bool.rec (fun _=>Bool) false (rnA K t z z') (Nat.beq u u'))=true from e)
   obtain rfl:=dU h1
   cases hv with
   | iface _ _ x g1=>exact .iface _ _ x (Jy h2 g1)
  ·have:rn2 K t x y=rnA K t x y:=by cases x<;>first|rfl|exact absurd ⟨_,_,rfl⟩ hx|exact absurd ⟨_,_,rfl⟩ hi
   exact Jy (this▸e) hv
theorem JA:∀{x y:List AV} {v:List Value},rnT K t x y=true→bS φ y v→bS (kN K t φ) x v
 | [],[],_,_,hv=>by cases hv;exact .nil
 | [],_::_,_,e,_=>by cases e
 | _::_,[],_,e,_=>by cases e
 | x::a,y::b,_,e,hv=>by
  obtain ⟨h1,h2⟩:=az (show (@Bool.rec (fun _=>Bool) false (rnT K t a b) (rn2 K t x y))=true from e)
  cases hv with
  | cons _ _ _ _ g1 g2=>exact .cons _ _ _ _ (Jz h1 g1) (JA h2 g2)
theorem mL {x y:AV} {v:Value} (e:uR K t x y=true) (hv:VR φ y v):VR (kN K t φ) x v:=by
 by_cases hx:∃l,x=.eS l
 ·obtain ⟨l,rfl⟩:=hx
  cases y<;>(try (cases e;done))
  rename_i b
  have e:rnT K t l b=true:=e
  cases hv with
  | eS _ vs g1=>exact .eS _ vs (JA e g1)
 ·have:uR K t x y=rn2 K t x y:=by cases x<;>first|rfl|exact absurd ⟨_,rfl⟩ hx
  exact Jz (this▸e) hv
theorem Cd {st:Nat→Nat}:∀{x y:List KV} {es:List MapEntry},nU K t x y=true→bM st φ y es→bM st (kN K t φ) x es
 | [],[],_,_,hv=>by cases hv;exact .nil
 | [],_::_,_,e,_=>by cases e
 | ⟨_,_,_⟩::_,[],_,e,_=>by cases e
 | ⟨k,v,c⟩::a,⟨k',v',c'⟩::b,_,e,hv=>by
  obtain ⟨h1,h2⟩:=az (show (@Bool.rec (fun _=>Bool) false (@Bool.rec (fun _=>Bool) false (@Bool.rec (fun _=>Bool) false (nU K t a b) (uR K t v v')) (uR K t k k')) (Nat.beq c c'))=true from e)
  obtain ⟨h2,h3⟩:=az h2
  obtain ⟨h3,h4⟩:=az h3
  obtain rfl:=dU h1
  cases hv with
  | cons _ _ _ RX _ es g1 g2 g3 g4=>exact .cons _ _ _ RX _ es (mL h2 g1) (mL h3 g2) g3 (Cd h4 g4)
theorem lF {k v k' v':AV} {c c':Nat} {a b:List KV}:nU K t (.mk k v c::a) (.mk k' v' c'::b)=(@Bool.rec (fun _=>Bool) false (@Bool.rec (fun _=>Bool) false (@Bool.rec (fun _=>Bool) false (nU K t a b) (uR K t v v')) (uR K t k k')) (Nat.beq c c')):=rfl
theorem tS:∀{x y:List KV},nU K t x y=true→x=[]∧y=[]∨∃a x' b y',x=a::x'∧y=b::y'∧nU K t [a] [b]=true∧nU K t x' y'=true
 | [],[],_=>.inl ⟨rfl,rfl⟩
 | [],_::_,e=>by cases e
 | ⟨_,_,_⟩::_,[],e=>by cases e
 | ⟨k,v,c⟩::a,⟨k',v',c'⟩::b,e=>by
  rw [lF] at e
  obtain ⟨h1,h2⟩:=az e
  obtain ⟨h2,h3⟩:=az h2
  obtain ⟨h3,h4⟩:=az h3
  refine .inr ⟨_,_,_,_,rfl,rfl,?_,h4⟩
  rw [lF,h1,h2,h3];rfl
theorem xy {a b:KV} {x y:List KV} (h1:nU K t [a] [b]=true) (h2:nU K t x y=true):nU K t (a::x) (b::y)=true:=by
 obtain ⟨k,v,c⟩:=a
 obtain ⟨k',v',c'⟩:=b
 rw [lF] at h1 ⊢
 obtain ⟨g1,g2⟩:=az h1
 obtain ⟨g2,g3⟩:=az g2
 obtain ⟨g3,_⟩:=az g3
 rw [g1,g2,g3];exact h2
theorem DU {y y0:List KV} (hp:y.Perm y0):∀{x:List KV},nU K t x y=true→∃x0,x.Perm x0∧nU K t x0 y0=true:=by
 induction hp with
 | nil=>intro x e;exact ⟨x,.refl _,e⟩
 | cons a _ ih=>
  intro x e
  rcases tS e with ⟨_,g⟩|⟨b,x',_,_,rfl,g,e1,e2⟩
  ·cases g
  ·cases g
   obtain ⟨x0,h1,h2⟩:=ih e2
   exact ⟨b::x0,h1.cons _,xy e1 h2⟩
 | swap a b l=>
  intro x e
  rcases tS e with ⟨_,g⟩|⟨c,x',_,_,rfl,g,e1,e2⟩
  ·cases g
  ·cases g
   rcases tS e2 with ⟨_,g⟩|⟨d,x2,_,_,rfl,g,e3,e4⟩
   ·cases g
   ·cases g
    exact ⟨d::c::x2,.swap _ _ _,xy e3 (xy e1 e4)⟩
 | trans _ _ ih1 ih2=>
  intro x e
  obtain ⟨x1,h1,h2⟩:=ih1 e
  obtain ⟨x2,h3,h4⟩:=ih2 h2
  exact ⟨x2,h1.trans h3,h4⟩
theorem zb:∀{x y:List KV},nU K t x y=true→x.map KV.jf=y.map KV.jf
 | [],[],_=>rfl
 | [],_::_,e=>by cases e
 | ⟨_,_,_⟩::_,[],e=>by cases e
 | ⟨k,v,c⟩::a,⟨k',v',c'⟩::b,e=>by
  rw [lF] at e
  obtain ⟨h1,h2⟩:=az e
  obtain ⟨h2,h3⟩:=az h2
  obtain ⟨h3,h4⟩:=az h3
  obtain rfl:=dU h1
  exact congrArg (List.cons c) (zb h4)
theorem tU {x y:Obj} (e:Eu K t x y=true) (hl:live x):live y:=by
 cases x with
 | none=>exact absurd rfl hl.1
 | dead=>exact absurd rfl hl.2
 | cells=>cases y<;>first|exact aN|cases e
 | map=>cases y<;>first|exact fi|cases e
 | _=>cases e
theorem AJ {x y:Obj} {q:Place} {z:Option Go.Obj} (e:Eu K t x y=true) (hv:OR φ y q z):OR (kN K t φ) x q z:=by
 cases x with
 | none=>cases e
 | dead=>exact trivial
 | cells el n ex fl c=>
  cases y<;>(try (cases e;done))
  rename_i el' n' ex' fl' c'
  obtain ⟨h1,h2⟩:=az e
  obtain ⟨h2,h3⟩:=az h2
  obtain ⟨h3,h4⟩:=az h3
  obtain ⟨h4,h5⟩:=az h4
  obtain ⟨h5,h6⟩:=az h5
  obtain rfl:=dU h1
  obtain rfl:=dU h2
  obtain rfl:=te h3
  obtain rfl:=Fl.eq_eq h4
  obtain ⟨rc,fz,k1,k2,k3,k4,k5,k6,k7⟩:=hv
  refine ⟨rc,fz,k1,k2,k3,k4,Nat.le_of_ble_eq_true h5,fun k hk=>?_,k7⟩
  obtain ⟨cv,q1,q2,q3⟩:=k6 k hk
  exact ⟨cv,q1,mL (fM h6 k hk) q2,q3⟩
 | map l ck=>
  cases y<;>(try (cases e;done))
  rename_i l' ck'
  obtain ⟨h1,h2⟩:=az e
  obtain rfl:=dU h1
  obtain ⟨es,cw,l0,k1,k2,k3,k4⟩:=hv
  obtain ⟨l1,q1,q2⟩:=DU k2 h2
  exact ⟨es,cw,l1,k1,q1,Cd q2 k3,by rw [zb h2];exact k4⟩
 | _=>cases e
inductive PR (K:Nat) (t:A4):List KV→List KV→Prop
 | nil:PR K t [] []
 | cons (k v k' v':AV) (c c':Nat) (l l':List KV):uR K t k k'=true→uR K t v v'=true→PR K t l l'→PR K t (.mk k v c::l) (.mk k' v' c'::l')
theorem zd {b:Nat} {k:AV→AV→List KV→Bool}:∀{l:List KV} {acc:List KV},bF (β:=List KV→Bool) (fun _=>false) (fun y t ih acc=>@KV.rec (fun _=>Bool) (fun a v c=>@Bool.rec (fun _=>Bool) (ih (.cons y acc)) (k a v (List.append acc t)) (Nat.beq b c)) y) l acc=true→∃a v rest,(l ++ acc).Perm (.mk a v b::rest)∧k a v rest=true
 | [],_,e=>by cases e
 | .mk a v c::l,acc,e=>by
  have e:(@Bool.rec (fun _=>Bool) (bF (β:=List KV→Bool) (fun _=>false) (fun y t ih acc=>@KV.rec (fun _=>Bool) (fun a v c=>@Bool.rec (fun _=>Bool) (ih (.cons y acc)) (k a v (List.append acc t)) (Nat.beq b c)) y) l (.cons (.mk a v c) acc)) (k a v (acc ++ l)) (Nat.beq b c))=true:=e
  cases hb:Nat.beq b c with
  | true=>
   rw [hb] at e
   obtain rfl:=dU hb
   exact ⟨a,v,acc ++ l,(List.perm_append_comm (l₁:=l) (l₂:=acc)).cons _,e⟩
  | false=>
   rw [hb] at e
   obtain ⟨a',v',rest,h1,h2⟩:=zd e
   refine ⟨a',v',rest,?_,h2⟩
   exact (List.perm_middle (l₁:=l) (a:=KV.mk a v c) (l₂:=acc)).symm.trans h1
theorem Ce:∀{l:List KV} {labs:List Nat} {l':List KV},QP K t l labs l'=true→∃l'',l'.Perm l''∧PR K t l l''∧l''.map KV.jf=labs
 | [],labs,l',e=>by
  have e:(@Bool.rec (fun _=>Bool) false (fw l') (fw labs))=true:=e
  cases labs with
  | cons=>cases e
  | nil=>
   cases l' with
   | cons=>cases e
   | nil=>exact ⟨[],.refl _,.nil,rfl⟩
 | .mk k v c::l,[],l',e=>by cases e
 | .mk k v c::l,b::bs,l',e=>by
  obtain ⟨a,v',rest,h1,h2⟩:=zd (l:=l') (acc:=[]) (k:=fun k' v' rest=>@Bool.rec (fun _=>Bool) false (@Bool.rec (fun _=>Bool) false (QP K t l bs rest) (uR K t v v')) (uR K t k k')) e
  obtain ⟨g1,g2⟩:=az h2
  obtain ⟨g2,g3⟩:=az g2
  obtain ⟨l'',q1,q2,q3⟩:=Ce g3
  rw [List.append_nil] at h1
  exact ⟨.mk a v' b::l'',h1.trans (q1.cons _),.cons _ _ _ _ _ _ _ _ g1 g2 q2,congrArg (List.cons b) q3⟩
theorem PR.length:∀{l l':List KV},PR K t l l'→l.length=l'.length
 | _,_,.nil=>rfl
 | _,_,.cons _ _ _ _ _ _ _ _ _ _ r=>congrArg (·+1) r.length
theorem vY:∀{l:List KV} {i:Nat},xj l i=true→l.map KV.jf=List.range' i l.length
 | [],_,_=>rfl
 | .mk k v c::l,i,e=>by
  obtain ⟨h1,h2⟩:=az (show (@Bool.rec (fun _=>Bool) false (xj l (i+1)) (Nat.beq c i))=true from e)
  obtain rfl:=dU h1
  exact congrArg (List.cons c) (vY h2)
theorem xT.aqb {st:Nat→Nat} {labs:List Nat} {ck cw:Nat} (S:xT st labs ck cw):xT (bV (fy (st ck::labs.map st))) (List.range' dI labs.length) (dI+labs.length) cw:=by
 have e:bV (fy (st ck::labs.map st))=stL (cw::labs.map st):=by funext b;rw [vZ,S.at]
 have ev:∀i (hi:i < labs.length),stL (cw::labs.map st) (dI+i)=st labs[i]:=fun i hi=>by
  show (if dI+i < dI then dI+i else if dI+i - dI < (labs.map st).length then (labs.map st).getD (dI+i - dI) 0 else _)=_
  rw [if_neg (by omega),Nat.add_sub_cancel_left,if_pos (by simpa using hi)]
  simp [List.getD_eq_getElem?_getD,hi]
 have ev2:∀k,stL (cw::labs.map st) (dI+labs.length+k)=cw+k:=fun k=>by
  show (if dI+labs.length+k < dI then _ else if dI+labs.length+k - dI < (labs.map st).length then _ else cw+(dI+labs.length+k - dI - (labs.map st).length))=_
  rw [if_neg (by omega),if_neg (by simp;omega)]
  simp;omega
 have hlt:xz (dI+labs.length)=dI:=if_neg (by omega)
 rw [e]
 have lt:∀i (hi:i < labs.length),st labs[i] < cw:=fun i hi=>by
  have:=S.Kr _ (List.getElem_mem hi)
  exact S.mono _ this.1 this.2
 refine ⟨fun g=>absurd g (by omega),ev2,fun b h1 h2=>?_,fun b b' h1 h2 g=>?_,fun b hb=>?_,List.nodup_range'⟩
 ·rw [hlt] at h1
  obtain ⟨i,rfl⟩:∃i,b=dI+i:=⟨b - dI,by omega⟩
  rw [ev i (by omega)];exact lt i _
 ·rw [hlt] at h1 h2
  obtain ⟨i,rfl⟩:∃i,b=dI+i:=⟨b - dI,by omega⟩
  obtain ⟨j,rfl⟩:∃j,b'=dI+j:=⟨b' - dI,by omega⟩
  rcases Nat.lt_or_ge i labs.length with hi|hi<;>rcases Nat.lt_or_ge j labs.length with hj|hj
  ·rw [ev i hi,ev j hj] at g
   have:=S.inj _ _ (S.Kr _ (List.getElem_mem hi)).1 (S.Kr _ (List.getElem_mem hj)).1 g
   rcases Nat.lt_trichotomy i j with q|q|q
   ·exact absurd this (List.pairwise_iff_getElem.1 S.VZ i j hi hj q)
   ·omega
   ·exact absurd this.symm (List.pairwise_iff_getElem.1 S.VZ j i hj hi q)
  ·obtain ⟨k,rfl⟩:∃k,j=labs.length+k:=⟨j - labs.length,by omega⟩
   rw [ev i hi,←Nat.add_assoc,ev2] at g
   have:=lt i hi
   omega
  ·obtain ⟨k,rfl⟩:∃k,i=labs.length+k:=⟨i - labs.length,by omega⟩
   rw [ev j hj,←Nat.add_assoc,ev2] at g
   have:=lt j hj
   omega
  ·obtain ⟨k,rfl⟩:∃k,i=labs.length+k:=⟨i - labs.length,by omega⟩
   obtain ⟨m,rfl⟩:∃m,j=labs.length+m:=⟨j - labs.length,by omega⟩
   rw [←Nat.add_assoc,←Nat.add_assoc,ev2,ev2] at g
   omega
 ·rw [hlt]
  have:=List.mem_range'_1.1 hb
  omega
theorem ale {st:Nat→Nat} {labs:List Nat} {x:Nat} (i:Nat) (hi:i < labs.length):bV (fy (x::labs.map st)) (dI+i)=st labs[i]:=by
 rw [vZ]
 show (if dI+i < dI then dI+i else if dI+i - dI < (labs.map st).length then (labs.map st).getD (dI+i - dI) 0 else _)=_
 rw [if_neg (by omega),Nat.add_sub_cancel_left,if_pos (by simpa using hi)]
 simp [List.getD_eq_getElem?_getD,hi]
inductive PS (K:Nat) (t:A4) (s2 s1:Nat→Nat):List KV→List KV→Prop
 | nil:PS K t s2 s1 [] []
 | cons (k v k' v':AV) (c c':Nat) (l l':List KV):uR K t k k'=true→uR K t v v'=true→s2 c=s1 c'→PS K t s2 s1 l l'→PS K t s2 s1 (.mk k v c::l) (.mk k' v' c'::l')
theorem PS.of {s2 s1:Nat→Nat}:∀{l l':List KV},PR K t l l'→(∀i (h1:i < l.length) (h2:i < l'.length),s2 (l[i]).jf=s1 (l'[i]).jf)→PS K t s2 s1 l l'
 | _,_,.nil,_=>.nil
 | _,_,.cons k v k' v' c c' l l' g1 g2 r,hs=>.cons _ _ _ _ _ _ _ _ g1 g2 (hs 0 (by simp) (by simp)) (PS.of r fun i h1 h2=>hs (i+1) (by simpa using h1) (by simpa using h2))
theorem PS.perm {s2 s1:Nat→Nat} {y y0:List KV} (hp:y.Perm y0):∀{x:List KV},PS K t s2 s1 x y→∃x0,x.Perm x0∧PS K t s2 s1 x0 y0:=by
 induction hp with
 | nil=>intro x e;exact ⟨x,.refl _,e⟩
 | cons a _ ih=>
  intro x e
  cases e with
  | cons k v k' v' c c' l l' g1 g2 g3 r=>
   obtain ⟨x0,h1,h2⟩:=ih r
   exact ⟨_,h1.cons _,.cons _ _ _ _ _ _ _ _ g1 g2 g3 h2⟩
 | swap a b l=>
  intro x e
  cases e with
  | cons k v k' v' c c' _ _ g1 g2 g3 r=>
   cases r with
   | cons k2 v2 k2' v2' c2 c2' _ _ f1 f2 f3 r=>
    exact ⟨_,.swap _ _ _,.cons _ _ _ _ _ _ _ _ f1 f2 f3 (.cons _ _ _ _ _ _ _ _ g1 g2 g3 r)⟩
 | trans _ _ ih1 ih2=>
  intro x e
  obtain ⟨x1,h1,h2⟩:=ih1 e
  obtain ⟨x2,h3,h4⟩:=ih2 h2
  exact ⟨x2,h1.trans h3,h4⟩
theorem PS.aqd {s2 s1:Nat→Nat}:∀{x y:List KV} {es:List MapEntry},PS K t s2 s1 x y→bM s1 φ y es→bM s2 (kN K t φ) x es
 | _,_,_,.nil,.nil=>.nil
 | _,_,_,.cons k v k' v' c c' l l' g1 g2 g3 r,.cons _ _ _ e _ es h1 h2 h3 hr=>.cons _ _ _ _ _ _ (mL g1 h1) (mL g2 h2) (h3.trans g3.symm) (r.aqd hr)
theorem JB {c:List Nat} {x y:Obj} {q:Place} {z:Option Go.Obj} (e:rnP K t c x y=true) (hv:OR φ y q z):OR (kN K t φ) x ⟨q.bA,q.base,fy (c.map (bV q.room))⟩ z∧live x∧live y:=by
 cases x<;>(try (cases e;done))
 rename_i l ck
 cases y<;>(try (cases e;done))
 rename_i l' ck'
 cases c with
 | nil=>cases e
 | cons c0 labs=>
  obtain ⟨h1,h2⟩:=az (show (@Bool.rec (fun _=>Bool) false (@Bool.rec (fun _=>Bool) false (@Bool.rec (fun _=>Bool) false (QP K t l labs l') (xj l dI)) (Nat.beq ck (Nat.add dI l.length))) (Nat.beq c0 ck'))=true from e)
  obtain ⟨h2,h30⟩:=az h2
  obtain ⟨hlb,hpm⟩:=az h30
  obtain rfl:=dU h1
  have hck:ck=dI+l.length:=dU h2
  have hlab:=vY hlb
  obtain ⟨l'',q1,q2,rfl⟩:=Ce hpm
  obtain ⟨es,cw,l0,k1,k2,k3,k4⟩:=hv
  have hlen:l.length=(l''.map KV.jf).length:=by rw [List.length_map];exact q2.length
  have S2:xT (bV q.room) (l''.map KV.jf) c0 cw:=⟨k4.low,k4.up,k4.mono,k4.inj,fun b hb=>k4.Kr b ((q1.map _).mem_iff.2 hb),((q1.map KV.jf).nodup_iff).1 k4.VZ⟩
  have S3:=S2.aqb
  have P0:PS K t (bV (fy (bV q.room c0::(l''.map KV.jf).map (bV q.room)))) (bV q.room) l l'':=PS.of q2 fun i h1 h2=>by
   have:(l[i]).jf=dI+i:=by
    have e1:(l.map KV.jf)[i]'(by simpa using h1)=(l[i]).jf:=by simp
    rw [←e1]
    simp [hlab]
   rw [this,ale i (by simpa using h2)]
   simp
  obtain ⟨x0,p1,p2⟩:=P0.perm (q1.symm.trans k2)
  refine ⟨⟨es,cw,x0,k1,p1,p2.aqd k3,?_⟩,fi,fi⟩
  show xT (bV (fy (bV q.room c0::(l''.map KV.jf).map (bV q.room)))) (l.map KV.jf) ck cw
  rw [hlab,hck,hlen]
  exact S3
theorem HR.ren (H:HR φ h w) (hn:∀i,K≤bt i→aq i h'=.none) (e:QQ n K t u r' h' r h=true) :
  HR (kN K t φ) h' w∧(∀i p,live (aq i h')→kN K t φ i=some p→∃j q,live (aq j h)∧φ j=some q∧q.bA=p.bA)∧(∀g,g < n→rP K t (fV g) (fV g)=true)∧
  ∀x,x < 256→uR K t (aw (bO (x / 16)) (bO (x % 16)) r') (aw (bO (x / 16)) (bO (x % 16)) r)=true:=by
 obtain ⟨e1,e⟩:=az e
 obtain ⟨e2,e3⟩:=az e
 have hk:∀i,bt i < K→∃j f,cD j u=.map i∧kN K t φ i=(φ j).map f∧(∀p,(f p).bA=p.bA)∧(∀q z,OR φ (aq j h) q z→OR (kN K t φ) (aq i h') (f q) z)∧(live (aq i h')→live (aq j h))∧aq i h'≠.none:=by
  intro i hi
  have q:=fM e3 (bt i) hi
  rw [xu,yZ] at q
  have q:(@OM.rec (fun _=>Bool) false false (fun j=>@OM.rec (fun _=>Bool) false false (fun i'=>@Bool.rec (fun _=>Bool) false (@OL.rec (fun _=>Bool) (Eu K t (aq i h') (aq j h)) (fun l=>@Bool.rec (fun _=>Bool) false (yT K t l (aq i h') (aq j h)) (Nat.ble n (iU i))) (cD i t).asAgg) (jM i' i)) (cD j u).de) (Je (cD i t)))=true:=q
  cases hx:Je (cD i t) with
  | yes j=>
   rw [hx] at q
   have q:(@OM.rec (fun _=>Bool) false false (fun i'=>@Bool.rec (fun _=>Bool) false (@OL.rec (fun _=>Bool) (Eu K t (aq i h') (aq j h)) (fun l=>@Bool.rec (fun _=>Bool) false (yT K t l (aq i h') (aq j h)) (Nat.ble n (iU i))) (cD i t).asAgg) (jM i' i)) (cD j u).de)=true:=q
   cases hy:cD j u with
   | map i'=>
    rw [hy] at q
    obtain ⟨q1,q2⟩:=az q
    obtain rfl:=ef.1 q1
    rcases AG hx with g|⟨l,g⟩
    ·rw [g] at q2
     have q2:Eu K t (aq i' h') (aq j h)=true:=q2
     exact ⟨j,id,hy,by rw [nZ hi g];cases φ j<;>rfl,fun _=>rfl,fun _ _ o=>AJ q2 o,tU q2,fun g=>by rw [g] at q2;cases q2⟩
    ·rw [g] at q2
     obtain ⟨_,q3⟩:=az (show (@Bool.rec (fun _=>Bool) false (yT K t (.map j::l) (aq i' h') (aq j h)) (Nat.ble n (iU i')))=true from q2)
     cases l with
     | nil=>cases q3
     | cons s l=>
      cases s<;>(try (cases q3;done))
      rename_i c
      have q3:rnP K t c (aq i' h') (aq j h)=true:=q3
      have lv:live (aq i' h')∧live (aq j h):=by
       cases hx1:aq i' h'<;>rw [hx1] at q3<;>(try (cases q3;done))
       cases hx2:aq j h<;>rw [hx2] at q3<;>(try (cases q3;done))
       exact ⟨fi,fi⟩
      exact ⟨j,AE (.map j::.str c::l),hy,xw hi g,fun p=>nY _ p,fun _ _ o=>(JB q3 o).1,fun _=>lv.2,lv.1.1⟩
   | _=>rw [hy] at q;cases q
  | _=>rw [hx] at q;cases q
 have hlt:∀i,live (aq i h')→bt i < K:=fun i hl=>by
  rcases Nat.lt_or_ge (bt i) K with g|g
  ·exact g
  ·exact absurd (hn i g) hl.1
 have hlv:∀i p,live (aq i h')→kN K t φ i=some p→∃j q,cD j u=.map i∧live (aq j h)∧φ j=some q∧q.bA=p.bA:=fun i p hl hp=>by
  obtain ⟨j,f,k1,k2,k3,_,k5,_⟩:=hk i (hlt i hl)
  rw [k2] at hp
  cases hq:φ j with
  | none=>rw [hq] at hp;cases hp
  | some q=>
   rw [hq] at hp
   obtain rfl:=Option.some.inj hp
   exact ⟨j,q,k1,k5 hl,hq,(k3 q).symm⟩
 refine ⟨⟨fun i hl=>?_,fun i j p q hi hj ne hp hq=>?_,fun i hi=>?_,fun i p hp=>?_⟩,fun i p hl hp=>?_,fun g hg=>fM e1 g hg,fun x hx=>fM (fM e2 (x / 16) (by omega)) (x % 16) (by omega)⟩
 ·obtain ⟨j,f,k1,k2,k3,k4,k5,_⟩:=hk i (hlt i hl)
  obtain ⟨p,q1,q2⟩:=H.obj j (k5 hl)
  refine ⟨f p,by rw [k2,q1];rfl,?_⟩
  rw [k3]
  exact k4 p _ q2
 ·obtain ⟨i',a,k1,k2,k3,k4⟩:=hlv i p hi hp
  obtain ⟨j',b,l1,l2,l3,l4⟩:=hlv j q hj hq
  rw [←k4,←l4]
  refine H.inj i' j' a b k2 l2 (fun e=>ne ?_) k3 l3
  rw [e,l1] at k1
  cases k1;rfl
 ·unfold kN
  split
  ·rename_i hlt'
   obtain ⟨_,_,_,_,_,_,_,k⟩:=hk i hlt'
   exact absurd hi k
  ·rfl
 ·rcases Nat.lt_or_ge (bt i) K with g|g
  ·obtain ⟨j,f,k1,k2,k3,_⟩:=hk i g
   rw [k2] at hp
   cases hq:φ j with
   | none=>rw [hq] at hp;cases hp
   | some q=>
    rw [hq] at hp
    obtain rfl:=Option.some.inj hp
    rw [k3]
    exact H.bound j q hq
  ·unfold kN at hp
   rw [if_neg (by omega)] at hp;cases hp
 ·obtain ⟨j,q,_,k2,k3,k4⟩:=hlv i p hl hp
  exact ⟨j,q,k2,k3,k4⟩
theorem St.ren (S:St n G φ r h a w) (hs:G.sy=[]) (hn:∀i,K≤bt i→aq i h'=.none) (e:QQ G.n K t u r' h' r h=true) :
  St n G (kN K t φ) r' h' a w∧∀i p,live (aq i h')→kN K t φ i=some p→∃j q,live (aq j h)∧φ j=some q∧q.bA=p.bA:=by
 obtain ⟨R1,R2,R3,R4⟩:=S.hr.ren hn e
 refine ⟨⟨R1,fun x hx=>?_,S.dM,S.size,⟨fun g hg=>?_,fun x hx=>by rw [hs] at hx;cases hx⟩⟩,R2⟩
 ·exact mL (R4 x (by omega)) (S.aF x hx)
 ·obtain ⟨room,hr⟩:=S.fD.1 g hg
  exact ⟨room,(xv (φ:=φ) (R3 g hg)).trans hr⟩
theorem ze:∀(l:List Obj) (k:Nat) (t:O4) (i:P4),k+l.length≤65536→k+l.length≤bt i→di i (mkT l k t)=di i t
 | [],_,_,_,_,_=>rfl
 | o::l,k,t,i,hk,hi=>by
  have hk:k+(l.length+1)≤65536:=hk
  have hi:k+(l.length+1)≤bt i:=hi
  have e:mkT (o::l) k t=mkT l (k+1) (cH (fV k) o t):=rfl
  rw [e,ze l (k+1) _ i (by omega) (by omega),cW,if_neg]
  intro e
  rw [e,xu,iV (by omega)] at hi
  omega
theorem JC {l:List Obj} (hl:l.length≤65536) (i:P4) (hi:l.length≤bt i):aq i (fK l)=.none:=by
 have e:=ze l 0 .nil i (by omega) (by omega)
 have e2:aq i (fK l)=di i (mkT l 0 .nil):=rfl
 rw [e2,e]
 obtain ⟨a,b,c,d⟩:=i
 show O1.get d (O2.get c (O3.get b (O4.get a .nil)))=_
 rw [O4.get_nil,O3.get_nil,O2.get_nil,O1.get_nil]
structure JD (q:Nat→Prop) (w0:World) (φ:aJ) (h:Hp) (w:World):Prop where
 size:w0.heap.size≤w.heap.size
 rest:∀b,b < w0.heap.size→¬ q b→w.heap[b]?=w0.heap[b]?
 os:w.os=w0.os
 output:w.output=w0.output
 old:∀i p,live (aq i h)→φ i=some p→p.bA < w0.heap.size→q p.bA
theorem JD.step {q:Nat→Prop} (B:JD q w0 φ h w) (T:Step φ h w φ' h' w'):JD q w0 φ' h' w' where
 size:=Nat.le_trans B.size T.keeps.size
 rest b hb hq:=by
  rw [T.keeps.rest b (Nat.lt_of_lt_of_le hb B.size) fun i p hl hp he=>hq ?_,B.rest b hb hq]
  subst he
  exact B.old i p hl hp hb
 os:=T.keeps.os.trans B.os
 output:=T.keeps.output.trans B.output
 old i p hl hp hb:=by
  rcases T.new i p hl hp with ⟨g1,g2⟩|g1|⟨j,s,g1,g2,g3⟩
  ·exact B.old i p g1 g2 hb
  ·exact absurd (Nat.le_trans B.size g1) (by omega)
  ·rw [←g3] at hb ⊢;exact B.old j s g1 g2 hb
def zf (n:Nat) (G:Gl) (q:Nat→Prop) (w0:World) (r:A2) (h:Hp) (a:Act) (w:World):Prop:=∃φ,St n G φ r h a w∧JD q w0 φ h w
def Wo (n:Nat) (G:Gl) (q:Nat→Prop) (w0:World) (g:Tg):Exit→Act→World→Prop:=fun e a' w'=>∃r' h',Ends g.rs e r' h'∧zf n G q w0 r' h' a' w'
def CR (P:Program) (G:Gl) (q:Nat→Prop) (n:Nat) (c:Code) (r:A2) (h:Hp) (g:Tg):Prop:=∀w0 a w,zf n G q w0 r h a w→c.wp P (Wo n G q w0 g) a w
def CL (P:Program) (G:Gl) (q:Nat→Prop) (n:Nat) (c:Code) (r:A2) (h:Hp) (g:Tg):Prop:=∀w0 a w,zf n G q w0 r h a w→nG P c (Wo n G q w0 g) a w
variable {c c1 c2:Code} {x:AC} {q:Nat→Prop} {g:Tg} {l:List Obj}
theorem zf.ren (hs:G.sy=[]) (hl:l.length≤65536) (e:yU G.n l.length r' (fK l) r h=true) (I:zf n G q w0 r h a w):zf n G q w0 r' (fK l) a w:=by
 obtain ⟨φ,S,B⟩:=I
 have e:(@TK.rec (fun _=>Bool) (fun t u=>QQ G.n l.length t u r' (fK l) r h) (uni G.n l.length r' (fK l) r h))=true:=e
 cases hu:uni G.n l.length r' (fK l) r h with
 | mk t u=>
  rw [hu] at e
  obtain ⟨S',hlv⟩:=S.ren hs (JC hl) e
  exact ⟨_,S',⟨B.size,B.rest,B.os,B.output,fun i p hi hp hb=>by
   obtain ⟨j,q,k1,k2,k3⟩:=hlv i p hi hp
   rw [←k3] at hb ⊢
   exact B.old j q k1 k2 hb⟩⟩
def Tg.len (g:Tg):Nat:=Tg.casesOn g (fun _ l=>l.length) (fun _ _ l=>l.length) (fun _ l=>l.length)
theorem Cg (hs:G.sy=[]) (hl:g.len≤65536) {x:RS} (e:dt G.n g x=true):x.Safe∧∀y t r h,x.aG y→Ends y t r h→∃r' l,l.length≤65536∧Ends g.rs t r' (fK l)∧yU G.n l.length r' (fK l) r h=true:=by
 have leaf:∀{x:RS},dt G.n g x=true→∀y,x.aG y→dt G.n g y=true:=by
  intro x
  induction x with
  | ch n k ih=>
   intro e y hy
   have e:nj n (fun i=>dt G.n g (k i))=true:=e
   cases hy with
   | ch _ _ c _ hc hl=>exact ih c (fM e c hc) y hl
  | _=>intro e y hy;cases hy;exact e
 refine ⟨fun k hk=>?_,fun y t r h hy he=>?_⟩
 ·have:dt G.n g (.err k)=true:=leaf e _ hk
  cases this
 ·have hc:=leaf e y hy
  cases he with
  | nm=>
   cases g with
   | nm r' l=>exact ⟨r',l,hl,.nm _ _,hc⟩
   | _=>cases hc
  | ex i=>
   cases g with
   | ex j r' l=>
    obtain ⟨h1,h2⟩:=az hc
    obtain rfl:=dU h1
    exact ⟨r',l,hl,.ex _ _ _,h2⟩
   | _=>cases hc
  | go i=>cases hc
  | ret=>
   cases g with
   | ret r' l=>exact ⟨r',l,hl,.ret _ _,hc⟩
   | _=>cases hc
theorem CR.run [NB G] (hs:G.sy=[]) (C:bL P G names p m) (hI:Impl (cC P G n names c) x) (hl:g.len≤65536) (e:dt G.n g (exec p m x r h)=true):CR P G q n c r h g:=fun w0 a w ⟨φ,S,B⟩=>by
 obtain ⟨k1,k2⟩:=Cg hs hl e
 refine wp_mono (C.code n c x r h φ a w hI S k1) ?_
 rintro t a' w' ⟨y,r',h',φ',hy,he,S',T⟩
 obtain ⟨r2,l,q1,q2,q3⟩:=k2 y t r' h' hy he
 exact ⟨r2,_,q2,zf.ren hs q1 q3 ⟨φ',S',B.step T⟩⟩
theorem CR.seq (k1:CR P G q n c1 r h (.nm r1 l)) (k2:CR P G q n c2 r1 (fK l) g):CR P G q n (.seq c1 c2) r h g:=fun w0 a w I=>by
 refine wp_seq (wp_mono (k1 w0 a w I) ?_)
 rintro e a' w' ⟨r',h',he,I'⟩
 cases he
 exact k2 w0 a' w' I'
theorem CR.loop (k:CL P G q n c r h g):CR P G q n (.loop c) r h g:=fun w0 a w I=>pX (k w0 a w I)
theorem CL.step (k1:CR P G q n c r h (.nm r1 l)) (k2:CL P G q n c r1 (fK l) g):CL P G q n c r h g:=fun w0 a w I=>by
 refine nH (wp_mono (k1 w0 a w I) ?_)
 rintro e a' w' ⟨r',h',he,I'⟩
 cases he
 exact k2 w0 a' w' I'
theorem CL.done {i:Nat} (k:CR P G q n c r h (.ex i r1 l)):CL P G q n c r h (.ex i r1 l):=fun w0 a w I=>by
 refine nH (wp_mono (k w0 a w I) ?_)
 rintro e a' w' ⟨r',h',he,I'⟩
 cases he
 exact ⟨r1,_,.ex _ _ _,I'⟩
theorem CL.aqe [NB G] (hs:G.sy=[]) (hl:l.length≤65536) (C:bL P G names p m) (hI:Impl (cC P G n names c) x) (k:CL P G q n c r1 (fK l) g):∀(j:Nat) (r:A2) (h:Hp),(rounds j (exec p m x) r h).Safe→
  (∀y,(rounds j (exec p m x) r h).aG y→∃r' h',y=.nm r' h'∧yU G.n l.length r1 (fK l) r' h'=true)→CL P G q n c r h g
 | 0,r,h,_,hlf=>fun w0 a w I=>by
  obtain ⟨r',h',e,k1⟩:=hlf (.nm r h) (.nm _ _)
  cases e
  exact k w0 a w (zf.ren hs hl k1 I)
 | j+1,r,h,hsf,hlf=>fun w0 a w ⟨φ,S,B⟩=>by
  have hsf:(RS.bind (exec p m x r h) (Go.Am.rounds j (exec p m x)) (fun i r h=>.ex i r h) (fun l r h=>.go l r h)).Safe:=hsf
  have hlf:∀y,(RS.bind (exec p m x r h) (Go.Am.rounds j (exec p m x)) (fun i r h=>.ex i r h) (fun l r h=>.go l r h)).aG y→∃r' h',y=.nm r' h'∧yU G.n l.length r1 (fK l) r' h'=true:=hlf
  refine nH (wp_mono (C.code n c x r h φ a w hI S (gv hsf)) (aZ.cases ?_ ?_ ?_ ?_))
  ·intro r' h' φ' a' w' hy S' T
   exact CL.aqe hs hl C hI k j r' h' (jt hsf hy) (fun y hy2=>hlf y (cT hy rfl hy2)) w0 a' w' ⟨φ',S',B.step T⟩
  ·intro i r' h' φ' a' w' hy S' T
   obtain ⟨_,_,e,_⟩:=hlf _ (dv hy rfl (.ex _ _ _))
   cases e
  ·intro i r' h' φ' a' w' hy S' T
   obtain ⟨_,_,e,_⟩:=hlf _ (cU hy rfl (.go _ _ _))
   cases e
  ·intro r' h' φ' a' w' hy S' T
   obtain ⟨_,_,e,_⟩:=hlf _ (dF hy rfl)
   cases e
theorem CL.many [NB G] (hs:G.sy=[]) (hl:l.length≤65536) (C:bL P G names p m) (hI:Impl (cC P G n names c) x) (j:Nat) (e:dt G.n (.nm r1 l) (Go.Am.rounds j (exec p m x) r h)=true) (k:CL P G q n c r1 (fK l) g):CL P G q n c r h g:=by
 have ok:=Cg (g:=.nm r1 l) hs hl e
 refine CL.aqe hs hl C hI k j r h ok.1 fun y hy=>?_
 have key:∀t r' h',Ends y t r' h'→∃r2 l2,Ends (Tg.rs (.nm r1 l)) t r2 (fK l2)∧yU G.n l2.length r2 (fK l2) r' h'=true:=fun t r' h' he=>by
  obtain ⟨r2,l2,_,k2,k3⟩:=ok.2 y t r' h' hy he
  exact ⟨r2,l2,k2,k3⟩
 have leafc:dt G.n (.nm r1 l) y=true:=by
  have leaf:∀{x:RS},dt G.n (.nm r1 l) x=true→∀y,x.aG y→dt G.n (.nm r1 l) y=true:=by
   intro x
   induction x with
   | ch n k ih=>
    intro e y hy
    have e:nj n (fun i=>dt G.n (.nm r1 l) (k i))=true:=e
    cases hy with
    | ch _ _ c _ hc hl=>exact ih c (fM e c hc) y hl
   | _=>intro e y hy;cases hy;exact e
  exact leaf e y hy
 cases y with
 | nm r' h'=>exact ⟨r',h',rfl,leafc⟩
 | ex=>cases leafc
 | go=>cases leafc
 | ret=>cases leafc
 | err=>cases leafc
 | ch=>exact absurd hy (tP _)
theorem CR.JE {i:Nat} (k:CR P G q n c r h (.ex i r1 l)):CR P G q n (.block i c) r h (.nm r1 l):=fun w0 a w I=>by
 refine wp_block (wp_mono (k w0 a w I) ?_)
 rintro e a' w' ⟨r',h',he,I'⟩
 cases he
 show if i=i then _ else _
 rw [if_pos rfl]
 exact ⟨r1,_,.nm _ _,I'⟩
theorem QU {f:Nat} {fn:Func} {rs:List Rs} {g2:Hp} {gl el:Nat} {k:IntKind} {zs:List Int} (hf:P.funcs[f]?=some fn) (hb:fn.body=some c) (hr:fn.results.toList.mapM (Qz P fn.ntmps)=some rs)
  (hg:gl < m) (hn:m≤65536) (hz:zs.length≤bQ (lP (zs.map fun z=>AV.int k z)))
  (kk:CR P ⟨m,[],none⟩ (·=gl) fn.ntmps c .nil (CU m gl (Gu el k zs)) (.ret r1 l)) (e:CT rs r1 (fK l)=.ok (.bool true) g2) (ho:Wj el k zs (aq (fV gl) (fK l))=true) (w:World) (hs:m≤w.heap.size)
  (hw:w.heap[gl]?=some (.cells (zs.map fun z=>Value.int k z).toArray el (0,0))) :
  Calls P f #[] w fun e w'=>e=.returned (.bool true)∧w.heap.size≤w'.heap.size∧(∀b,b < w.heap.size→w'.heap[b]?=w.heap[b]?)∧w'.os=w.os∧w'.output=w.output:=by
 have S:=St.start (args:=[]) (vals:=[]) (HRG hn hg hz hs hw) .nil (G:=⟨m,[],none⟩) ⟨fun i hi=>⟨zs.length,tM hi hn⟩,fun x hx=>by cases hx⟩ (by simp) fn.ntmps
 have B:JD (·=gl) w (DT m zs.length) (CU m gl (Gu el k zs)) w:=⟨Nat.le_refl _,fun _ _ _=>rfl,rfl,rfl,fun i p hl hp _=>by
  obtain rfl:=nX hn hl
  rw [tM hg hn] at hp
  cases hp
  rfl⟩
 refine calls_of_wp hf hb (wp_mono (kk w _ w ⟨_,S,B⟩) ?_)
 rintro t a' w' ⟨r',h',he,φ',S',B'⟩
 cases he
 obtain ⟨e1,cv,e2,e3⟩:=gJ S' hr e
 subst e1
 refine ⟨S'.dM,cv,e2,?_⟩
 cases e3
 refine ⟨rfl,B'.size,fun b hb=>?_,B'.os,B'.output⟩
 by_cases hbg:b=gl
 ·subst hbg
  obtain ⟨c,hc,hcs⟩:=Jv ho
  have hlv:live (aq (fV b) (fK l)):=by rw [hc];exact aN
  obtain ⟨p,hq1,hq2⟩:=S'.hr.obj (fV b) hlv
  obtain ⟨room,hφ⟩:=S'.fD.1 b hg
  have hφ:φ' (fV b)=some ⟨b,0,room⟩:=hφ
  obtain rfl:=Option.some.inj (hq1.symm.trans hφ)
  rw [hc] at hq2
  obtain ⟨rc,fz,h1,h2,h3,h4,h5,h6,h7⟩:=hq2
  have h7:fz=(0,0):=h7
  subst h7
  have h1:w'.heap[b]?=some (.cells rc el (0,0)):=h1
  have h2:0+room=rc.size:=h2
  have h4:zs.length=room:=(h4 rfl).2
  have hrc:rc=(zs.map fun z=>Value.int k z).toArray:=by
   apply Array.ext
   ·simp
    omega
   ·intro j hj1 hj2
    have hj:j < zs.length:=by simpa using hj2
    obtain ⟨cv,h8,h9,_⟩:=h6 j hj
    rw [hcs j hj] at h9
    cases h9
    have h8:rc[0+j]?=some (.int k zs[j]):=h8
    rw [Nat.zero_add,Array.getElem?_eq_getElem hj1] at h8
    rw [Option.some.inj h8]
    simp
  rw [h1,hw,hrc]
 ·exact B'.rest b hb hbg
def cdL (c:Code):Code:=match c with|.seq a _=>a|.block _ a=>a|.loop a=>a|c=>c
def cdR (c:Code):Code:=match c with|.seq _ b=>b|c=>c
def auz (f:Func):Code:=f.body.getD .skip
theorem CR.uN (k1:CR P G q n (cdL c) r h (.nm r1 l)) (k2:CR P G q n (cdR c) r1 (fK l) g) (e:c=.seq (cdL c) (cdR c):=by kernel_rfl):CR P G q n c r h g:=Eq.mpr (congrArg (fun d=>CR P G q n d r h g) e) (.seq k1 k2)
theorem CR.Uy {i:Nat} (k:CL P G q n (cdL (cdL c)) r h (.ex i r1 l)) (e:c=.block i (.loop (cdL (cdL c))):=by kernel_rfl):CR P G q n c r h (.nm r1 l):=Eq.mpr (congrArg (fun d=>CR P G q n d r h (.nm r1 l)) e) (.JE (.loop k))
theorem CR.ry [NB G] {y:AC} (C:bL P G names p m) (hI:Impl y x) (e:dt G.n g (exec p m x r h)=true) (hs:G.sy=[]:=by rfl) (hl:Nat.ble g.len 65536=true:=by kernel_rfl) (hc:cC P G n names c=y:=by kernel_rfl):CR P G q n c r h g:=.run hs C (hc▸hI) (Nat.le_of_ble_eq_true hl) e
theorem CL.gC [NB G] {y:AC} (C:bL P G names p m) (hI:Impl y x) (j:Nat) (e:dt G.n (.nm r1 l) (Go.Am.rounds j (exec p m x) r h)=true) (k:CL P G q n c r1 (fK l) g) (hs:G.sy=[]:=by rfl) (hl:Nat.ble l.length 65536=true:=by kernel_rfl) (hc:cC P G n names c=y:=by kernel_rfl):CL P G q n c r h g:=
 .many hs (Nat.le_of_ble_eq_true hl) C (hc▸hI) j e k
end
noncomputable section
variable {P:Program} {G:Gl} [NB G] {names:List String} {p:Pg} {n K:Nat} {φ φ':aJ} {h h' h0 hr:Hp} {w w':World} {v v':AV} {args0 args:List AV} {t u:A4} {r r':A2} {l0 l':List Obj}
theorem zg {k:Nat} (hk:k < 65536):bt (fV k)=k:=by rw [xu,iV hk]
theorem JF {p:P4} (hi:n≤bt p):uS n p=.none:=by
 unfold uS
 have:Nat.ble (Nat.succ (bt p)) n=false:=by
  cases h:Nat.ble (Nat.succ (bt p)) n with
  | false=>rfl
  | true=>have:=Nat.le_of_ble_eq_true h;omega
 rw [this]
theorem Rh (i:P4) (hi:n≤bt i):di i (dT n)=.none:=by
 obtain ⟨a,b,c,d⟩:=i
 show O1.get d (O2.get c (O3.get b (O4.get a (dT n))))=_
 have e1:O4.get a (dT n)=tF n a:=by cases a<;>rfl
 rw [e1]
 have e2:O3.get b (tF n a)=.nil∨O3.get b (tF n a)=tE n a b:=by
  unfold tF
  cases Nat.ble (Nat.succ (bt (.mk a .h0 .h0 .h0))) n with
  | false=>left;exact O3.get_nil b
  | true=>right;cases b<;>rfl
 rcases e2 with e2|e2
 ·rw [e2,O2.get_nil,O1.get_nil]
 ·rw [e2]
  have e3:O2.get c (tE n a b)=.nil∨O2.get c (tE n a b)=tD n a b c:=by
   unfold tE
   cases Nat.ble (Nat.succ (bt (.mk a b .h0 .h0))) n with
   | false=>left;exact O2.get_nil c
   | true=>right;cases c<;>rfl
  rcases e3 with e3|e3
  ·rw [e3,O1.get_nil]
  ·rw [e3]
   have e4:O1.get d (tD n a b c)=.none∨O1.get d (tD n a b c)=uS n (.mk a b c d):=by
    unfold tD
    cases Nat.ble (Nat.succ (bt (.mk a b c .h0))) n with
    | false=>left;exact O1.get_nil d
    | true=>right;cases d<;>rfl
   rcases e4 with e4|e4
   ·exact e4
   ·rw [e4];exact JF hi
theorem DV {N:Nat} (hN:n≤N) (hp:∀k,k < N→bt (fV k)=k) (l:LN) (k:Nat) (t:O4) (i:P4) (hi:n≤bt i) (hk:k+QT l≤n):di i (yW k l t)=di i t:=by
 induction l generalizing k t with
 | nil=>rfl
 | cons s l ih=>
  have hk:k+(QT l+1)≤n:=hk
  have e:yW k (s::l) t=yW (k+1) l (cH (fV k) (oK k s) t):=rfl
  rw [e,ih (k+1) _ (Nat.le_trans (by rw [Nat.add_assoc,Nat.add_comm 1];exact Nat.le_refl _) hk),cW,if_neg]
  have hk:k < n:=Nat.lt_of_lt_of_le (Nat.lt_add_of_pos_right (Nat.succ_pos _)) hk
  intro e
  rw [e,hp k (Nat.lt_of_lt_of_le hk hN)] at hi
  exact absurd hk (Nat.not_lt.2 hi)
theorem AK {N:Nat} (hN:n≤N) (hp:∀k,k < N→bt (fV k)=k) (d:LD) (t:O4) (i:P4) (hi:n≤bt i):Jf n d=true→di i (tG d t)=di i t:=by
 induction d with
 | nil=>intro _;rfl
 | cons x d ih=>
  intro hk
  obtain ⟨k,l⟩:=x
  have hk:(@Bool.rec (fun _=>Bool) false (Jf n d) (Nat.ble (Nat.add k (QT l)) n))=true:=hk
  obtain ⟨h1,h2⟩:=az hk
  have e:tG ((k,l)::d) t=yW k l (tG d t):=rfl
  rw [e,DV hN hp l k _ i hi (Nat.le_of_ble_eq_true h1),ih h2]
theorem Ch {d:LD} (k:chK n d=true) (i:P4) (hi:n≤bt i):aq i (SK n d)=.none:=by
 obtain ⟨h1,h3⟩:=az k
 have h1:=Nat.le_of_ble_eq_true h1
 show di i (tG d (dT n))=_
 rw [AK h1 (fun k hk=>zg hk) d _ i hi h3]
 exact Rh i hi
theorem qI {f:H→Bool} (e:xn f=true) (d:H):f d=true:=by
 obtain ⟨e0,e⟩:=az e;obtain ⟨e1,e⟩:=az e;obtain ⟨e2,e⟩:=az e;obtain ⟨e3,e⟩:=az e;obtain ⟨e4,e⟩:=az e;obtain ⟨e5,e⟩:=az e;obtain ⟨e6,e⟩:=az e;obtain ⟨e7,e⟩:=az e;obtain ⟨e8,e⟩:=az e;obtain ⟨e9,e⟩:=az e;obtain ⟨ea,e⟩:=az e;obtain ⟨eb,e⟩:=az e;obtain ⟨ec,e⟩:=az e;obtain ⟨ed,e⟩:=az e;obtain ⟨ee,e⟩:=az e
 cases d<;>assumption
theorem alf {f:P4→Obj→Obj→Bool} (hf:∀i y,f i .none y=true) {x y:O4} (e:wk4 f x y=true) (i:P4):f i (di i x) (di i y)=true:=by
 have k4:∀{x y:O4},wk4 f x y=true→x=.nil∨wq4 f x y=true:=fun {x y} e=>by cases x<;>first|exact .inl rfl|exact .inr e
 have k3:∀{a} {x y:O3},wk3 f a x y=true→x=.nil∨wq3 f a x y=true:=fun {a x y} e=>by cases x<;>first|exact .inl rfl|exact .inr e
 have k2:∀{a b} {x y:O2},wk2 f a b x y=true→x=.nil∨wq2 f a b x y=true:=fun {a b x y} e=>by cases x<;>first|exact .inl rfl|exact .inr e
 have k1:∀{a b c} {x y:O1},wk1 f a b c x y=true→x=.nil∨wq1 f a b c x y=true:=fun {a b c x y} e=>by cases x<;>first|exact .inl rfl|exact .inr e
 obtain ⟨a,b,c,d⟩:=i
 show f _ (O1.get d (O2.get c (O3.get b (O4.get a x)))) (O1.get d (O2.get c (O3.get b (O4.get a y))))=true
 rcases k4 e with rfl|e
 ·rw [O4.get_nil,O3.get_nil,O2.get_nil,O1.get_nil];exact hf _ _
 have e:xn (fun a=>wk3 f a (O4.get a x) (O4.get a y))=true:=e
 rcases k3 (qI e a) with h|e
 ·rw [h,O3.get_nil,O2.get_nil,O1.get_nil];exact hf _ _
 have e:xn (fun b=>wk2 f a b (O3.get b (O4.get a x)) (O3.get b (O4.get a y)))=true:=e
 rcases k2 (qI e b) with h|e
 ·rw [h,O2.get_nil,O1.get_nil];exact hf _ _
 have e:xn (fun c=>wk1 f a b c (O2.get c (O3.get b (O4.get a x))) (O2.get c (O3.get b (O4.get a y))))=true:=e
 rcases k1 (qI e c) with h|e
 ·rw [h,O1.get_nil];exact hf _ _
 have e:xn (fun d=>f (.mk a b c d) (O1.get d (O2.get c (O3.get b (O4.get a x)))) (O1.get d (O2.get c (O3.get b (O4.get a y)))))=true:=e
 exact qI e d
theorem ij (a b c d:H):bt (.mk a b c d)=a.nat * 4096+b.nat * 256+c.nat * 16+d.nat:=rfl
theorem pF:H.nat .h0=0:=rfl
theorem pG {m n:Nat} (h:m < n):Nat.ble (Nat.succ m) n=true:=Nat.ble_eq_true_of_le h
theorem Wp {a b:Nat} (h:a≤b):Nat.ble a b=true:=Nat.ble_eq_true_of_le h
theorem Ri {p:P4} (h:bt p < n):cD p (Kp n)=.map p:=by
 obtain ⟨a,b,c,d⟩:=p
 have q:=h;rw [ij] at q
 have h1:Nat.ble (Nat.succ (bt (.mk a .h0 .h0 .h0))) n=true:=pG (by have z:=pF;have y:=ij a .h0 .h0 .h0;omega)
 have h2:Nat.ble (Nat.succ (bt (.mk a b .h0 .h0))) n=true:=pG (by have z:=pF;have y:=ij a b .h0 .h0;omega)
 have h3:Nat.ble (Nat.succ (bt (.mk a b c .h0))) n=true:=pG (by have z:=pF;have y:=ij a b c .h0;omega)
 have h4:Nat.ble (Nat.succ (bt (.mk a b c d))) n=true:=Wp h
 show A1.get d (A2.get c (A3.get b (A4.get a (Kp n))))=_
 have e1:A4.get a (Kp n)=xm n a:=by cases a<;>rfl
 have e2:A3.get b (xm n a)=xl n a b:=by unfold xm;rw [h1];cases b<;>rfl
 have e3:A2.get c (xl n a b)=xk n a b c:=by unfold xl;rw [h2];cases c<;>rfl
 have e4:A1.get d (xk n a b c)=xS n (.mk a b c d):=by unfold xk;rw [h3];cases d<;>rfl
 rw [e1,e2,e3,e4]
 unfold xS;rw [h4]
theorem DW (i j:P4) (v:AV) (t:A4) (h:i≠j):cD i (yS j v t)=cD i t:=by
 obtain ⟨a,b,c,d⟩:=i
 obtain ⟨a',b',c',d'⟩:=j
 show A1.get d (A2.get c (A3.get b (A4.get a (A4.set a' (A3.set b' (A2.set c' (A1.set d' v (A2.get c' (A3.get b' (A4.get a' t)))) (A3.get b' (A4.get a' t))) (A4.get a' t)) t))))=A1.get d (A2.get c (A3.get b (A4.get a t)))
 by_cases h1:a=a'
 ·subst h1
  rw [A4.cL]
  by_cases h2:b=b'
  ·subst h2
   rw [A3.cL]
   by_cases h3:c=c'
   ·subst h3
    rw [A2.cL]
    by_cases h4:d=d'
    ·subst h4;exact absurd rfl h
    ·rw [A1.bk h4]
   ·rw [A2.bk h3]
  ·rw [A3.bk h2]
 ·rw [A4.bk h1]
theorem Rj {N:Nat} (hp:∀k,k < N→bt (fV k)=k) {p:P4} (h:bt p < n) (t:A4):∀(m k:Nat) (a:A4),n≤k→k+m≤N→cD p a=.map p→cD p (jO (β:=Nat→A4→A4) (fun _ a=>a) (fun _ ih k a=>ih (Nat.succ k) (yS (fV k) (cD (fV k) t) a)) m k a)=.map p:=by
 intro m
 induction m with
 | zero=>intro _ _ _ _ e;exact e
 | succ m ih=>
  intro k a hk hN e
  refine ih (k+1) _ (Nat.le_succ_of_le hk) (by omega) ?_
  rw [DW _ _ _ _ fun g=>?_]
  ·exact e
  ·rw [g,hp k (by omega)] at h;omega
theorem HR.DM (H:HR φ h w) (hN:K≤65536) (hn:∀i,K≤bt i→aq i h'=.none) (hs:∀i,bt i < K→aq i h'≠.none) (hid:∀i,bt i < n→cD i t=.map i) (hnK:n≤K) (e:DM n K t u v' h' v h=true) :
  HR (kN K t φ) h' w∧(∀i p,live (aq i h')→kN K t φ i=some p→∃j q,live (aq j h)∧φ j=some q∧q.bA=p.bA)∧(∀i,bt i < n→kN K t φ i=φ i)∧uR K t v' v=true:=by
 obtain ⟨e1,e2⟩:=az e
 have hk:∀i,live (aq i h')→∃j f,cD j u=.map i∧kN K t φ i=(φ j).map f∧(∀p,(f p).bA=p.bA)∧(∀q z,OR φ (aq j h) q z→OR (kN K t φ) (aq i h') (f q) z)∧live (aq j h):=by
  intro i hl
  have hi:bt i < K:=by
   rcases Nat.lt_or_ge (bt i) K with g|g
   ·exact g
   ·exact absurd (hn i g) hl.1
  have q:=alf (f:=lfW n K t u h) (fun _ _=>rfl) e2 i
  have q:lfW n K t u h i (aq i h') (aq i h)=true:=q
  have q:(@Bool.rec (fun _=>Bool) (lfN K t u h i (aq i h')) (lfO K t u i (aq i h') (aq i h)) (Nat.ble (Nat.succ (bt i)) n))=true:=by
   cases hx:aq i h' with
   | none=>exact absurd hx hl.1
   | dead=>exact absurd hx hl.2
   | cells=>rw [hx] at q;exact q
   | map=>rw [hx] at q;exact q
   | xX=>rw [hx] at q;cases q
   | qR=>rw [hx] at q;cases q
   | xY=>rw [hx] at q;cases q
  cases hb:Nat.ble (Nat.succ (bt i)) n with
  | true=>
   rw [hb] at q
   have q:(@OM.rec (fun _=>Bool) false false (fun i'=>@Bool.rec (fun _=>Bool) false (Eu K t (aq i h') (aq i h)) (jM i' i)) (cD i u).de)=true:=q
   cases hy:cD i u with
   | map i'=>
    rw [hy] at q
    obtain ⟨q1,q2⟩:=az q
    obtain rfl:=ef.1 q1
    exact ⟨i',id,hy,by rw [nZ hi (hid _ (Nat.le_of_ble_eq_true hb))];cases φ i'<;>rfl,fun _=>rfl,fun _ _ o=>AJ q2 o,tU q2 hl⟩
   | _=>rw [hy] at q;cases q
  | false=>
   rw [hb] at q
   have q:(@OM.rec (fun _=>Bool) false false (fun j=>@OM.rec (fun _=>Bool) false false (fun i'=>@Bool.rec (fun _=>Bool) false (@OL.rec (fun _=>Bool) (Eu K t (aq i h') (aq j h)) (fun l=>yT K t l (aq i h') (aq j h)) (cD i t).asAgg) (jM i' i)) (cD j u).de) (Je (cD i t)))=true:=q
   cases hx:Je (cD i t) with
   | yes j=>
    rw [hx] at q
    have q:(@OM.rec (fun _=>Bool) false false (fun i'=>@Bool.rec (fun _=>Bool) false (@OL.rec (fun _=>Bool) (Eu K t (aq i h') (aq j h)) (fun l=>yT K t l (aq i h') (aq j h)) (cD i t).asAgg) (jM i' i)) (cD j u).de)=true:=q
    cases hy:cD j u with
    | map i'=>
     rw [hy] at q
     obtain ⟨q1,q2⟩:=az q
     obtain rfl:=ef.1 q1
     rcases AG hx with g|⟨l,g⟩
     ·rw [g] at q2
      have q2:Eu K t (aq i' h') (aq j h)=true:=q2
      exact ⟨j,id,hy,by rw [nZ hi g];cases φ j<;>rfl,fun _=>rfl,fun _ _ o=>AJ q2 o,tU q2 hl⟩
     ·rw [g] at q2
      have q3:yT K t (.map j::l) (aq i' h') (aq j h)=true:=q2
      cases l with
      | nil=>cases q3
      | cons s l=>
       cases s<;>(try (cases q3;done))
       rename_i c
       have q3:rnP K t c (aq i' h') (aq j h)=true:=q3
       have lv:live (aq j h):=by
        cases hx1:aq i' h'<;>rw [hx1] at q3<;>(try (cases q3;done))
        cases hx2:aq j h<;>rw [hx2] at q3<;>(try (cases q3;done))
        exact fi
       exact ⟨j,AE (.map j::.str c::l),hy,xw hi g,fun p=>nY _ p,fun _ _ o=>(JB q3 o).1,lv⟩
    | _=>rw [hy] at q;cases q
   | _=>rw [hx] at q;cases q
 have hlv:∀i p,live (aq i h')→kN K t φ i=some p→∃j q,cD j u=.map i∧live (aq j h)∧φ j=some q∧q.bA=p.bA:=fun i p hl hp=>by
  obtain ⟨j,f,k1,k2,k3,_,k5⟩:=hk i hl
  rw [k2] at hp
  cases hq:φ j with
  | none=>rw [hq] at hp;cases hp
  | some q=>
   rw [hq] at hp
   obtain rfl:=Option.some.inj hp
   exact ⟨j,q,k1,k5,hq,(k3 q).symm⟩
 refine ⟨⟨fun i hl=>?_,fun i j p q hi hj ne hp hq=>?_,fun i hi=>?_,fun i p hp=>?_⟩,fun i p hl hp=>?_,fun i hi=>nZ (Nat.lt_of_lt_of_le hi hnK) (hid i hi),e1⟩
 ·obtain ⟨j,f,k1,k2,k3,k4,k5⟩:=hk i hl
  obtain ⟨p,q1,q2⟩:=H.obj j k5
  refine ⟨f p,by rw [k2,q1];rfl,?_⟩
  rw [k3]
  exact k4 p _ q2
 ·obtain ⟨i',a,k1,k2,k3,k4⟩:=hlv i p hi hp
  obtain ⟨j',b,l1,l2,l3,l4⟩:=hlv j q hj hq
  rw [←k4,←l4]
  refine H.inj i' j' a b k2 l2 (fun e=>ne ?_) k3 l3
  rw [e,l1] at k1
  cases k1;rfl
 ·unfold kN
  split
  ·rename_i hlt'
   exact absurd hi (hs i hlt')
  ·rfl
 ·unfold kN at hp
  split at hp
  ·split at hp
   ·exact H.bound _ _ hp
   ·rename_i j l _
    cases hq:φ j with
    | none=>rw [hq] at hp;cases hp
    | some q=>
     rw [hq] at hp
     obtain rfl:=Option.some.inj hp
     rw [nY]
     exact H.bound j q hq
   ·cases hp
  ·cases hp
 ·obtain ⟨j,q,_,k2,k3,k4⟩:=hlv i p hl hp
  exact ⟨j,q,k2,k3,k4⟩
theorem qc {β:Type} {Q:β→Prop} {s:Nat} {k:Nat→Nat→β} (h:∀a b,Q (k a b)):Q (rd s k):=by
 have key:∀(f s:Nat) (k:Nat→Nat→β),(∀a b,Q (k a b))→Q (nI f s k):=by
  intro f
  induction f with
  | zero=>intro s k h;exact h _ _
  | succ f ih=>
   intro s k h
   show Q (@Bool.rec (fun _=>β) (k (Nat.mod s 16) (Nat.div s 16)) (nI f (Nat.div s 16) (fun n s'=>k (Nat.add (Nat.sub (Nat.mod s 16) 8) (Nat.mul 8 n)) s')) (Nat.ble 8 (Nat.mod s 16)))
   cases Nat.ble 8 (Nat.mod s 16) with
   | false=>exact h _ _
   | true=>exact ih _ _ fun _ _=>h _ _
 exact key 64 s k h
theorem aqf (q s:Nat):oK q s≠.none:=by
 unfold oK
 refine qc (Q:=fun o=>o≠Obj.none) fun c s=>?_
 cases c with
 | zero=>exact fun h=>by cases h
 | succ c=>
  show (@Bool.rec (fun _=>Obj) (@Bool.rec (fun _=>Obj) (rd s (fun el s=>rd s (fun n s=>.cells el n (Nat.ble c 2) (apQ (Nat.mod c 3)) (lP (vsK q n s))))) (mpK q s) (Nat.ble 6 c)) (apS q s) (Nat.ble 7 c))≠.none
  cases Nat.ble 7 c with
  | false=>
   cases Nat.ble 6 c with
   | false=>exact qc (Q:=fun o=>o≠Obj.none) fun _ _=>qc (Q:=fun o=>o≠Obj.none) fun _ _=>fun h=>by cases h
   | true=>exact qc (Q:=fun o=>o≠Obj.none) fun _ _=>qc (Q:=fun o=>o≠Obj.none) fun _ _=>fun h=>by cases h
  | true=>exact qc (Q:=fun o=>o≠Obj.none) fun _ _=>qc (Q:=fun o=>o≠Obj.none) fun _ _=>qc (Q:=fun o=>o≠Obj.none) fun _ _=>fun h=>by cases h
theorem Rk (l:LN) (k:Nat) (t:O4) (i:P4) (h:di i t≠.none):di i (yW k l t)≠.none:=by
 induction l generalizing k t with
 | nil=>exact h
 | cons s l ih=>
  have e:yW k (s::l) t=yW (k+1) l (cH (fV k) (oK k s) t):=rfl
  rw [e]
  refine ih _ _ ?_
  rw [cW]
  split
  ·exact aqf _ _
  ·exact h
theorem aqg (i:P4) (hi:bt i < n):di i (dT n)≠.none:=by
 obtain ⟨a,b,c,d⟩:=i
 have q:=hi;rw [ij] at q
 have h1:Nat.ble (Nat.succ (bt (.mk a .h0 .h0 .h0))) n=true:=pG (by have z:=pF;have y:=ij a .h0 .h0 .h0;omega)
 have h2:Nat.ble (Nat.succ (bt (.mk a b .h0 .h0))) n=true:=pG (by have z:=pF;have y:=ij a b .h0 .h0;omega)
 have h3:Nat.ble (Nat.succ (bt (.mk a b c .h0))) n=true:=pG (by have z:=pF;have y:=ij a b c .h0;omega)
 have h4:Nat.ble (Nat.succ (bt (.mk a b c d))) n=true:=Wp hi
 show O1.get d (O2.get c (O3.get b (O4.get a (dT n))))≠_
 have e1:O4.get a (dT n)=tF n a:=by cases a<;>rfl
 have e2:O3.get b (tF n a)=tE n a b:=by unfold tF;rw [h1];cases b<;>rfl
 have e3:O2.get c (tE n a b)=tD n a b c:=by unfold tE;rw [h2];cases c<;>rfl
 have e4:O1.get d (tD n a b c)=uS n (.mk a b c d):=by unfold tD;rw [h3];cases d<;>rfl
 rw [e1,e2,e3,e4]
 unfold uS;rw [h4]
 exact fun h=>by cases h
theorem Rl (d:LD) (i:P4) (hi:bt i < n):aq i (SK n d)≠.none:=by
 show di i (tG d (dT n))≠_
 induction d with
 | nil=>exact aqg i hi
 | cons x d ih=>
  obtain ⟨k,l⟩:=x
  exact Rk l k _ i ih
omit [NB G] in
theorem Rm {dd:LD} {x:RT} (e:Av n K v' h' dd x=true):x.Safe∧∀v h,x.aG (.ok v h)→apT n K v' h' dd v h=true:=by
 have leaf:∀{x:RT},Av n K v' h' dd x=true→∀y,x.aG y→Av n K v' h' dd y=true:=by
  intro x
  induction x with
  | ch n k ih=>
   intro e y hy
   have e:nj n (fun i=>Av _ _ v' h' _ (k i))=true:=e
   cases hy with
   | ch _ _ c _ hc hl=>exact ih c (fM e c hc) y hl
  | _=>intro e y hy;cases hy;exact e
 refine ⟨fun k hk=>?_,fun v h hy=>leaf e _ hy⟩
 have:Av n K v' h' dd (.err k)=true:=leaf e _ hk
 cases this
theorem Rn {dd:LD} (E:Env P G names p) (m f:Nat) (hb:∀k,cn f p.fs≠.ext k) (k1:∀i,n≤bt i→aq i h0=.none) (k2:∀i,K≤bt i→aq i h'=.none) (k3:h'.log=.off) (k4:K≤65536) (k5:∀i,bt i < K→aq i h'≠.none) (e:Av n K v' h' dd (aD p (exec p m) f args0 h0)=true):eA P G (.fn (yX args0 h0 v' h')) f:=by
 intro φ h w args vals hg H hv hs
 have e1:cA (.fn (yX args0 h0 v' h')) args h=yX args0 h0 v' h' args h:=rfl
 rw [e1] at hs ⊢
 unfold yX at hs ⊢
 cases hc:pW args0 args with
 | false=>rw [hc] at hs;exact (RT.Safe.err hs).elim
 | true=>
  cases hc2:apR h.log with
  | false=>rw [hc,hc2] at hs;exact (RT.Safe.err hs).elim
  | true=>
   cases hc3:aia (h0) h with
   | false=>rw [hc,hc2,hc3] at hs;exact (RT.Safe.err hs).elim
   | true=>
    obtain rfl:=nJ hc
    have L:=Rg hc3
    have H0:=H.less L
    have hoff:h.log=.off:=by
     cases hl:h.log with
     | off=>rfl
     | on=>rw [hl] at hc2;cases hc2
    obtain ⟨sf,lf⟩:=Rm e
    have C:=Ci E m f args0 vals hg H0 hv sf hb
    refine C.mono ?_
    rintro x w' ⟨v1,h1,cv,φ',hl,a,b,c,d⟩
    obtain ⟨q0,q⟩:=az (lf _ _ hl)
    have q0:=Nat.le_of_ble_eq_true q0
    have q:(@TK.rec (fun _=>Bool) (fun t u=>DM n K (cpT n (Nat.sub K n) t) u v' h' v1 h1) (uE n h' h1 dd (uV v' v1 (.mk (Kp n) (Kp n)))))=true:=q
    cases hu:uE n h' h1 dd (uV v' v1 (.mk (Kp n) (Kp n))) with
    | mk t0 u=>
     rw [hu] at q
     have q:DM n K (cpT n (Nat.sub K n) t0) u v' h' v1 h1=true:=q
     generalize ht:cpT n (Nat.sub K n) t0=t at q
     have hid:∀i,bt i < n→cD i t=.map i:=fun i hi=>by
      rw [←ht]
      exact Rj (N:=65536) (fun k hk=>zg hk) hi t0 _ n _ (Nat.le_refl _) (by have:Nat.sub K n=K - n:=rfl;omega) (Ri hi)
     obtain ⟨R1,R2,R3,R4⟩:=c.DM k4 k2 k5 hid q0 q
     refine ⟨v',h',cv,kN K t φ',.ok _ _,a,mL R4 b,R1,⟨fun i p hp=>?_,⟨d.keeps.size,fun x hx hn=>d.keeps.rest x hx fun i p hi hp=>?_,d.keeps.tape,d.keeps.os,d.keeps.output⟩,fun i p hi hp=>?_,⟨fun _=>k3,fun l g=>?_⟩⟩⟩
     ·have hlt:bt i < n:=by
       rcases Nat.lt_or_ge (bt i) n with g|g
       ·exact g
       ·have:=H0.fresh i (k1 i g)
        rw [this] at hp;cases hp
      exact (R3 i hlt).trans (d.le i p hp)
     ·rcases L i with g|g
      ·exact hn i p (g▸hi) hp
      ·exact absurd g hi.2
     ·obtain ⟨j,pj,g1,g2,gb⟩:=R2 i p hi hp
      have lv:∀j,live (aq j (h0))→live (aq j h):=fun j hj=>by
       rcases L j with g|g
       ·exact g▸hj
       ·exact absurd g hj.2
      rcases d.new j pj g1 g2 with ⟨s1,s2⟩|s|⟨j',q,s1,s2,s3⟩
      ·exact .inr (.inr ⟨j,pj,lv j s1,s2,gb⟩)
      ·exact .inr (.inl (gb▸s))
      ·exact .inr (.inr ⟨j',q,lv j' s1,s2,s3.trans gb⟩)
     ·rw [hoff] at g;cases g
theorem F1.kO (d:H) (v:AF) (x:F1):F1.get d (F1.set d v x)=v:=by cases d<;>cases x<;>rfl
theorem F2.kO (d:H) (v:F1) (x:F2):F2.get d (F2.set d v x)=v:=by cases d<;>cases x<;>rfl
theorem F3.kO (d:H) (v:F2) (x:F3):F3.get d (F3.set d v x)=v:=by cases d<;>cases x<;>rfl
theorem F1.iW {d e:H} (v:AF) (x:F1) (h:e≠d):F1.get e (F1.set d v x)=F1.get e x:=by cases d<;>cases e<;>first|(exact absurd rfl h)|(cases x<;>rfl)
theorem F2.iW {d e:H} (v:F1) (x:F2) (h:e≠d):F2.get e (F2.set d v x)=F2.get e x:=by cases d<;>cases e<;>first|(exact absurd rfl h)|(cases x<;>rfl)
theorem F3.iW {d e:H} (v:F2) (x:F3) (h:e≠d):F3.get e (F3.set d v x)=F3.get e x:=by cases d<;>cases e<;>first|(exact absurd rfl h)|(cases x<;>rfl)
theorem alg (n:Nat):bO (n+15)=.hf:=rfl
theorem DX {n m:Nat} (hm:m < 15) (e:bO n=bO m):n=m:=by
 by_cases hn:n < 15
 ·have key:∀a,a < 15→∀b,b < 15→bO a=bO b→a=b:=by decide
  exact key n hn m hm e
 ·obtain ⟨k,rfl⟩:∃k,n=k+15:=⟨n - 15,by omega⟩
  rw [alg] at e
  have key:∀b,b < 15→bO b≠.hf:=by decide
  exact absurd e.symm (key m hm)
theorem wa {n m:Nat} (hn:n < 16) (hm:m < 16) (e:bO n=bO m):n=m:=by
 have key:∀a,a < 16→∀b,b < 16→bO a=bO b→a=b:=by decide
 exact key n hn m hm e
theorem JG (f g:Nat) (a:AF) (p:F3) (hf:f < 3840):cn g (QS f a p)=a∧g=f∨cn g (QS f a p)=cn g p:=by
 unfold cn QS
 by_cases h3:bO (Nat.div g 256)=bO (Nat.div f 256)
 ·rw [h3,F3.kO]
  by_cases h2:bO (Nat.mod (Nat.div g 16) 16)=bO (Nat.mod (Nat.div f 16) 16)
  ·rw [h2,F2.kO]
   by_cases h1:bO (Nat.mod g 16)=bO (Nat.mod f 16)
   ·left
    rw [h1,F1.kO]
    refine ⟨rfl,?_⟩
    have a1:g % 16=f % 16:=wa (Nat.mod_lt _ (by omega)) (Nat.mod_lt _ (by omega)) h1
    have a2:g / 16 % 16=f / 16 % 16:=wa (Nat.mod_lt _ (by omega)) (Nat.mod_lt _ (by omega)) h2
    have a3:g / 256=f / 256:=DX (by show f / 256 < 15;omega) h3
    omega
   ·right;rw [F1.iW _ _ h1]
  ·right;rw [F2.iW _ _ h2]
 ·right;rw [F3.iW _ _ h3]
omit [NB G] in
theorem Env.avt {fs:F3} {ms:List MR} (E:Env P G names (.mk fs ms)) (f:Nat) (hf:f < 3840) (k:PK) (hk:eA P G k f):Env P G names (.mk (yV f k fs) ms) where
 mixed:=E.mixed
 ms:=E.ms
 fs g:=by
  show match cn g (yV f k fs) with|.none=>True|.mk body res=>mT P G names g body res|.mW k body res=>mT P G names g body res∧eA P G k g|.Es body res=>mT P G names g body res|.ext k=>iP P G k g
  have E0:=E.fs
  rcases JG f g (eW k (cn f fs)) fs hf with ⟨e,rfl⟩|e
  ·have e:cn g (yV g k fs)=_:=e
   rw [e]
   have:=E0 g
   have e2:cn g (Pg.mk fs ms).fs=cn g fs:=rfl
   rw [e2] at this
   cases ha:cn g fs with
   | none=>trivial
   | mk b r=>rw [ha] at this;exact ⟨this,hk⟩
   | mW k2 b r=>rw [ha] at this;exact ⟨this.1,hk⟩
   | Es b r=>rw [ha] at this;exact ⟨this,hk⟩
   | ext k2=>rw [ha] at this;exact this
  ·have e:cn g (yV f k fs)=_:=e
   rw [e];exact E0 g
omit [NB G] in
theorem Env.aE {p:Pg} (E:Env P G names p) (f:Nat) (hf:Nat.ble 3840 f=false) (k:PK) (hk:eA P G k f):Env P G names (bq f k p):=by
 obtain ⟨fs,ms⟩:=p
 refine E.avt f ?_ k hk
 rcases Nat.lt_or_ge f 3840 with g|g
 ·exact g
 ·rw [Nat.ble_eq_true_of_le g] at hf;cases hf
omit [NB G] in
theorem al {g1 g2:List AV→Hp→RT} {f:Nat} (a:eA P G (.fn g1) f) (b:eA P G (.fn g2) f):eA P G (.fn (aQ g1 g2)) f:=by
 intro φ h w args vals hg H hv hs
 have e1:cA (.fn (aQ g1 g2)) args h=aQ g1 g2 args h:=rfl
 have e2:cA (.fn g1) args h=g1 args h:=rfl
 have e3:cA (.fn g2) args h=g2 args h:=rfl
 rw [e1] at hs ⊢
 unfold aQ at hs ⊢
 have A:=a φ h w args vals hg H hv
 have B:=b φ h w args vals hg H hv
 rw [e2] at A
 rw [e3] at B
 cases hx:g1 args h with
 | ok v h'=>rw [hx] at hs A;exact A hs
 | err n=>rw [hx] at hs;exact B hs
 | ch n k=>rw [hx] at hs A;exact A hs
theorem ak (E:Env P G names p) (f:Nat) {r:FR} (e:fC p r=true) (hb:chR p f r=true:=by kernel_rfl):eA P G (.fn (gK r)) f:=by
 obtain ⟨g,n,K,a,d,v,d'⟩:=r
 obtain ⟨h1,q1⟩:=az hb
 obtain ⟨h2,q2⟩:=az q1
 obtain ⟨h3,q3⟩:=az q2
 obtain rfl:=Nat.eq_of_beq_eq_true h1
 have q4:(@AF.rec (fun _=>Bool) true (fun _ _=>true) (fun _ _ _=>true) (fun _ _=>true) (fun _=>false) (cn f p.fs))=true:=q3
 exact Rn E 1000000 f (fun k g=>by rw [g] at q4;cases q4) (Ch h2) (Ch h3) rfl (Nat.le_of_ble_eq_true (az h3).1) (Rl _) e
end
noncomputable section
variable {P:Program} {G:Gl} [NB G] {names:List String} {p:Pg} {φ ψ:aJ} {h h':Hp} {w w':World} {v v':AV} {cv:Value}
mutual
theorem VR.pure {φ ψ:aJ}:∀{v:AV} {cv:Value},VR φ v cv→ig v=true→VR ψ v cv
 | _,_,.bool b,h=>.bool b
 | _,_,.int k n,h=>.int k n
 | _,_,.str s l e,h=>.str s l e
 | _,_,.gA k n,h=>.gA k n
 | _,_,.aM k a b,h=>.aM k a b
 | _,_,.dP,h=>.dP
 | _,_,.aj,h=>.aj
 | _,_,.mX,h=>.mX
 | _,_,.qn,h=>.qn
 | _,_,.qQ,h=>.qQ
 | _,_,.agg cs vs e f,h=>.agg cs vs (bS.pure e (show jA cs=true by simpa [ig] using h)) f
 | _,_,.eS cs vs e,h=>.eS cs vs (bS.pure e (show jA cs=true by simpa [ig] using h))
 | _,_,.sym i p e,h=>by simp [ig] at h
 | _,_,.undef v,h=>by simp [ig] at h
 | _,_,.ptr ..,h=>by simp [ig] at h
 | _,_,.slice ..,h=>by simp [ig] at h
 | _,_,.bZ ..,h=>by simp [ig] at h
 | _,_,.map ..,h=>by simp [ig] at h
 | _,_,.fn ..,h=>by simp [ig] at h
 | _,_,.iface ..,h=>by simp [ig] at h
theorem bS.pure {φ ψ:aJ}:∀{as:List AV} {vs:List Value},bS φ as vs→jA as=true→bS ψ as vs
 | _,_,.nil,_=>.nil
 | _,_,.cons a v as vs e es,h=>by
  simp only [jA,Bool.and_eq_true] at h
  exact .cons a v as vs (VR.pure e h.1) (bS.pure es h.2)
end
omit [NB G] in
theorem Ro {x:RT} (e:Aw v x=true):x.Safe∧∀v' h,x.aG (.ok v' h)→v'=v:=by
 have leaf:∀{x:RT},Aw v x=true→∀y,x.aG y→Aw v y=true:=by
  intro x
  induction x with
  | ch n k ih=>
   intro e y hy
   have e:nj n (fun i=>Aw v (k i))=true:=e
   cases hy with
   | ch _ _ c _ hc hl=>exact ih c (fM e c hc) y hl
  | _=>intro e y hy;cases hy;exact e
 refine ⟨fun k hk=>?_,fun v' h hy=>(nK (show same v v'=true from leaf e _ hy)).symm⟩
 have:Aw v (.err k)=true:=leaf e _ hk
 cases this
theorem Rp (E:Env P G names p) (m f n:Nat) {tab:List (List AV×AV)} (hb:∀k,cn f p.fs≠.ext k) (hn:n≤65536) (hn0:0 < n) (hG:G.n≤n) (hS:G.sy=[]) (e:cI p m f n tab=true):eA P G (.fn (aX tab)) f:=by
 intro φ h w args vals hg H hv hs
 have e1:cA (.fn (aX tab)) args h=aX tab args h:=rfl
 rw [e1] at hs ⊢
 induction tab with
 | nil=>exact (RT.Safe.err (n:=245) hs).elim
 | cons y tab ih=>
  obtain ⟨a,v⟩:=y
  have hc:aX ((a,v)::tab) args h=@Bool.rec (fun _=>RT) (aX tab args h) (.ok v h) (pW a args):=rfl
  have e:(jA a&&ig v&&Aw v (aD p (exec p m) f a (CU n 0 .dead))&&cI p m f n tab)=true:=by
   unfold cI at e ⊢
   simpa [List.all_cons] using e
  simp only [Bool.and_eq_true] at e
  obtain ⟨⟨⟨p1,p2⟩,p3⟩,p4⟩:=e
  rw [hc] at hs ⊢
  cases hq:pW a args with
  | false=>
   rw [hq] at hs
   exact ih p4 hs rfl
  | true=>
   obtain rfl:=nJ hq
   obtain ⟨sf,lf⟩:=Ro p3
   have hgq:∀i,aq i (CU n 0 .dead)=if iU i < n then .dead else .none:=fun i=>by
    rw [nW i n 0 .dead hn]
    split
    ·rename_i g
     have:iU i < n:=by rw [g,iV (by omega)];exact hn0
     rw [if_pos this]
    ·rfl
   have hnl:∀i,¬ live (aq i (CU n 0 .dead)):=fun i hl=>by
    rw [hgq] at hl
    split at hl
    ·exact hl.2 rfl
    ·exact hl.1 rfl
   let φ0:aJ:=fun i=>if iU i < n then φ i else none
   have H0:HR φ0 (CU n 0 .dead) w:=by
    refine ⟨fun i hl=>absurd hl (hnl i),fun i _ _ _ hl=>absurd hl (hnl i),fun i hi=>?_,fun i q hq=>?_⟩
    ·rw [hgq] at hi
     show (if iU i < n then φ i else none)=none
     split
     ·rename_i g;rw [if_pos g] at hi;cases hi
     ·rfl
    ·have hq:(if iU i < n then φ i else none)=some q:=hq
     split at hq
     ·exact H.bound i q hq
     ·cases hq
   have hg0:mz G φ0:=by
    refine ⟨fun g hgl=>?_,fun x hx=>by rw [hS] at hx;cases hx⟩
    obtain ⟨room,hr⟩:=hg.1 g hgl
    refine ⟨room,?_⟩
    show (if iU (P4.of g) < n then φ (P4.of g) else none)=_
    have:iU (P4.of g)=g:=iV (by omega)
    rw [this,if_pos (by omega)];exact hr
   have C:=Ci E m f a vals hg0 H0 (bS.pure hv p1) sf hb
   refine C.mono ?_
   rintro x w' ⟨v1,h1,cv,φ',hl,a1,b,c,d⟩
   have hv1:=lf _ _ hl
   subst hv1
   have hk:∀b,b < w.heap.size→w'.heap[b]?=w.heap[b]?:=fun b hb=>d.keeps.rest b hb fun i q hi _=>absurd hi (hnl i)
   exact ⟨v1,h,cv,φ,.ok _ _,a1,VR.pure b p2,H.ext d.keeps.size hk,Step.ext d.keeps.size hk d.keeps.tape d.keeps.os d.keeps.output⟩
theorem dm (E:Env P G names p) (m f n:Nat) {tab:List (List AV×AV)} (e:cI p m f n tab=true) (hb:(match cn f p.fs with|.ext _=>false|_=>true)=true:=by kernel_rfl) (k:(Nat.ble n 65536&&Nat.ble 1 n&&Nat.ble G.n n&&G.sy.isEmpty)=true:=by kernel_rfl):eA P G (.fn (aX tab)) f:=by
 simp only [Bool.and_eq_true] at k
 obtain ⟨⟨⟨k1,k2⟩,k3⟩,k4⟩:=k
 exact Rp E m f n (fun k g=>by rw [g] at hb;cases hb) (Nat.le_of_ble_eq_true k1) (Nat.le_of_ble_eq_true k2) (Nat.le_of_ble_eq_true k3) (List.isEmpty_iff.1 k4) e
end
variable {P:Program} {φ:aJ} {h h':Hp} {w:World} {v:AV} {G:Gl}
theorem AL {args:List AV} {k:AV→AV→AV→RV} (hs:(yn args k).jT.Safe):∃x y z,args=[x,y,z]∧yn args k=k x y z:=by
 match args,hs with
 | [],hs=>exact (RT.Safe.err hs).elim
 | [_],hs=>exact (RT.Safe.err hs).elim
 | [_,_],hs=>exact (RT.Safe.err hs).elim
 | [x,y,z],_=>exact ⟨x,y,z,rfl,rfl⟩
 | _::_::_::_::_,hs=>exact (RT.Safe.err hs).elim
structure AM (P:Program) (f:Nat) (e:TypeId) (es:Nat):Prop where
 room:∀(w:World) (B o n c q V vo m vc:Nat) (rc rv:Array Value) (eb ev:TypeId) (fz:Nat×Nat) (cs vs:List Value),w.heap[B]?=some (.cells rc eb fz)→w.heap[V]?=some (.cells rv ev (0,0))→V≠B→q < n→0 < m→n+m≤c→n+m≤65536→o+c * es≤rc.size→
  (∀j,j < rc.size→¬ (fz.1≤j∧j < fz.2))→cs.length=n * es→vs.length=m * es→(∀k (hk:k < cs.length),rc[o+k]?=some cs[k])→(∀k (hk:k < vs.length),rv[vo+k]?=some vs[k])→(∀v,v∈cs→v.oneCell'=true)→(∀v,v∈vs→v.oneCell'=true)→
  Calls P f #[.slice (some ⟨B,o,none⟩) n c,.int .i64 q,.slice (some ⟨V,vo,none⟩) m vc] w fun x w'=>x=.returned (.slice (some ⟨B,o,none⟩) (n+m) c)∧
   w'.heap[B]?=some (.cells (qt (qt rc (o+(q+m) * es) (cs.drop (q * es))) (o+q * es) vs) eb fz)∧w'.heap.size=w.heap.size∧(∀d,d≠B→w'.heap[d]?=w.heap[d]?)∧w'.tape=w.tape∧w'.os=w.os∧w'.output=w.output
 grow:∀(w:World) (B o n c q V vo m vc:Nat) (rc rv:Array Value) (eb ev:TypeId) (fz:Nat×Nat) (cs vs:List Value),w.heap[B]?=some (.cells rc eb fz)→w.heap[V]?=some (.cells rv ev (0,0))→V≠B→q < n→0 < m→n≤c→c < n+m→n+m≤65536→
  cs.length=n * es→vs.length=m * es→(∀k (hk:k < cs.length),rc[o+k]?=some cs[k])→(∀k (hk:k < vs.length),rv[vo+k]?=some vs[k])→(∀v,v∈cs→v.oneCell'=true)→(∀v,v∈vs→v.oneCell'=true)→
  Calls P f #[.slice (some ⟨B,o,none⟩) n c,.int .i64 q,.slice (some ⟨V,vo,none⟩) m vc] w fun x w'=>∃(g:Nat) (row:Array Value),x=.returned (.slice (some ⟨w.heap.size,0,none⟩) (n+m) g)∧n+m≤g∧w'.heap[w.heap.size]?=some (.cells row e (0,0))∧row.size=g * es∧
   (∀k (hk:k < (cs.take (q * es) ++ (vs ++ cs.drop (q * es))).length),row[k]?=some (cs.take (q * es) ++ (vs ++ cs.drop (q * es)))[k])∧w'.heap.size=w.heap.size+1∧(∀d,d < w.heap.size→w'.heap[d]?=w.heap[d]?)∧w'.tape=w.tape∧w'.os=w.os∧w'.output=w.output
theorem avu {rc:Array Value} {b:Nat} {l l':List Value} {k:Nat} (hk:k≤l.length) (hr:b+(l.length+l'.length)≤rc.size) (hl:∀x (hx:x < l.length),rc[b+x]?=some l[x]) (x:Nat) (hx:x < (l.take k ++ (l' ++ l.drop k)).length) :
  (qt (qt rc (b+(k+l'.length)) (l.drop k)) (b+k) l')[b+x]?=some (l.take k ++ (l' ++ l.drop k))[x]:=by
 have hd:(l.drop k).length=l.length - k:=List.length_drop
 have ht:(l.take k).length=k:=by rw [List.length_take];omega
 have hx':=hx
 simp only [List.length_append,hd,ht] at hx'
 rw [fW _ _ _ _ (by rw [bW];omega)]
 by_cases h1:x < k
 ·rw [dif_neg (by omega),fW _ _ _ _ (by rw [hd];omega),dif_neg (by omega),hl x (by omega),List.getElem_append_left (by omega),List.getElem_take]
 ·by_cases h2:x < k+l'.length
  ·rw [dif_pos (by omega),List.getElem_append_right (by omega),List.getElem_append_left (by omega)]
   congr 2
   omega
  ·rw [dif_neg (by omega),fW _ _ _ _ (by rw [hd];omega),dif_pos (by rw [hd];omega),List.getElem_append_right (by omega),List.getElem_append_right (by omega)]
   congr 2
   omega
theorem alh {f e es:Nat} (R:AM P f e es) (hes:0 < es):eA P G (.ins e es) f:=by
 intro φ h w args vals hg H hv hs
 obtain ⟨s,x,y,rfl,e0⟩:=AL (k:=fun s x y=>BC e es s x y h) hs
 have hp:cA (.ins e es) [s,x,y] h=(BC e es s x y h).jT:=rfl
 rw [hp] at hs ⊢
 obtain ⟨r,h',hr⟩:=gF hs
 rw [hr]
 cases hv with
 | cons _ c1 _ _ v1 hv=>cases hv with
 | cons _ c2 _ _ v2 hv=>cases hv with
 | cons _ c3 _ _ v3 hv=>
 cases hv
 unfold BC at hr
 rcases cQ hr with ⟨i,o,l,c,rfl,hr⟩|⟨i,o,n,es',rfl,hr⟩|⟨rfl,hr⟩
 ·cases hr
 ·obtain ⟨kd,z,rfl,hr⟩:=bn hr
  obtain ⟨hkd,hr⟩:=aC hr
  have hkd:kd=.i64:=by cases kd<;>first|rfl|cases hkd
  subst hkd
  cases z with
  | negSucc z=>cases hr
  | ofNat q=>
  have hr:AV.jj y (fun j o2 m _=>wJ e es i o n es' q j o2 m h) (fun _ _ _ _=>.err 240) (.err 240) (.err 240)=.ok r h':=hr
  rcases cQ hr with ⟨j,o2,m,vc,rfl,hr⟩|⟨_,_,_,_,rfl,hr⟩|⟨rfl,hr⟩
  ·have hr:wJ e es i o n es' q j o2 m h=.ok r h':=hr
   unfold wJ at hr
   obtain ⟨b1,hr⟩:=aC hr
   obtain ⟨b2,hr⟩:=aC hr
   obtain ⟨b3,hr⟩:=aC hr
   obtain ⟨b4,hr⟩:=aC hr
   obtain ⟨b5,hr⟩:=aC hr
   obtain ⟨ev,k2,ex2,fl2,cl2,hj,hr⟩:=aR hr
   obtain ⟨b6,hr⟩:=aC hr
   obtain ⟨b7,hr⟩:=aC hr
   have hr:zS e es i n q m (bu (m * es) cl2 o2) h=.ok r h':=hr
   unfold zS at hr
   obtain ⟨eb,k,ex,fl,cl,hi,hr⟩:=aR hr
   obtain ⟨b8,hr⟩:=aC hr
   obtain ⟨b9,hr⟩:=aC hr
   obtain ⟨b10,hr⟩:=aC hr
   obtain ⟨b11,hz⟩:=aC hr
   have b1:es=es':=Nat.eq_of_beq_eq_true b1
   have b2:o=0:=Nat.eq_of_beq_eq_true b2
   have b3:q < n:=Nat.le_of_ble_eq_true b3
   have b4:0 < m:=Nat.le_of_ble_eq_true b4
   have b7:o2+m * es≤k2:=Nat.le_of_ble_eq_true b7
   have b9:ex=false:=by cases ex<;>first|rfl|cases b9
   have b10:e=eb:=Nat.eq_of_beq_eq_true b10
   have b11:n * es=k:=Nat.eq_of_beq_eq_true b11
   have hij:i≠j:=fun hij=>by
    rw [ef.2 hij] at b5;cases b5
   have hfl2:fl2=.plain:=by cases fl2<;>first|rfl|cases b6
   subst b1 b2 b9 b10 b11 hfl2
   obtain ⟨hcr,hn,hz⟩:=fg hz
   obtain ⟨rfl,rfl⟩:=RV.av hz
   cases v1 with
   | bZ _ _ _ _ cap p a hp1 h1 h2 h3 h4 h5 h6=>
   cases v3 with
   | slice _ _ _ _ p2 hp2=>
   have hl:live (aq i h):=hi▸aN
   have hl2:live (aq j h):=hj▸aN
   obtain ⟨_,hq,hor⟩:=H.obj i hl
   rw [hp1] at hq;cases hq
   rw [hi] at hor
   obtain ⟨rc,fz,g1,g2,g3,g4,g5,g6,g7⟩:=hor
   obtain ⟨_,hq,hor⟩:=H.obj j hl2
   rw [hp2] at hq;cases hq
   rw [hj] at hor
   obtain ⟨rv,fz2,k1,k3,k4,k5,k6,k7,k8⟩:=hor
   cases k8
   have hne:p2.bA≠p.bA:=fun e'=>H.inj i j p p2 hl hl2 hij hp1 hp2 e'.symm
   have ha:a=p.addr 0:=fX h3 h4 h5 (by omega)
   obtain ⟨cs,c1,c2,c3,c4⟩:=H.values hi hp1 (n * es) 0 (by omega)
   obtain ⟨vs,u1,u2,u3,u4⟩:=H.values hj hp2 (m * es) o2 b7
   have c5:∀k (hk:k < cs.length),rc[p.base+k]?=some cs[k]:=fun k hk=>by
    have:=c4 k hk
    rw [cg,lG g1,Nat.zero_add] at this
    exact this
   have u5:∀k (hk:k < vs.length),rv[p2.base+o2+k]?=some vs[k]:=fun k hk=>by
    have:=u4 k hk
    rw [cg,lG k1,←Nat.add_assoc] at this
    exact this
   have hroom:=kP (lP (List.append (List.take (Nat.mul q es) (bu (Nat.mul n es) cl 0)) (List.append (bu (m * es) cl2 o2) (List.drop (Nat.mul q es) (bu (Nat.mul n es) cl 0)))))
   have hnm:n+m≤65536:=by
    have h1:(n+m) * 1≤(n+m) * es:=Nat.mul_le_mul_left _ hes
    have h2:(n+m) * es≤_:=hcr
    omega
   have hrel:bS φ (List.append (List.take (Nat.mul q es) (bu (Nat.mul n es) cl 0)) (List.append (bu (m * es) cl2 o2) (List.drop (Nat.mul q es) (bu (Nat.mul n es) cl 0)))) (cs.take (q * es) ++ (vs ++ cs.drop (q * es))):=
    (c2.take _).append (u2.append (c2.drop _))
   have hqn:q * es≤n * es:=Nat.mul_le_mul_right _ (by omega)
   have hsum:=Nat.add_mul n m es
   have hsum2:=Nat.add_mul q m es
   have hlen:(cs.take (q * es) ++ (vs ++ cs.drop (q * es))).length=(n+m) * es:=by
    simp only [List.length_append,List.length_take,List.length_drop]
    omega
   have hone:∀c,c∈cs.take (q * es) ++ (vs ++ cs.drop (q * es))→c.oneCell'=true:=fun c hc=>by
    rcases List.mem_append.1 hc with g|g
    ·exact c3 c (List.mem_of_mem_take g)
    ·rcases List.mem_append.1 g with g|g
     ·exact u3 c g
     ·exact c3 c (List.mem_of_mem_drop g)
   change aq h.next (cG i .dead h)=.none at hn
   have hnx:aq h.next h=.none:=by
    rw [bg] at hn
    by_cases e':h.next=i
    ·rw [if_pos e'] at hn;cases hn
    ·rwa [if_neg e'] at hn
   have hφ:=H.fresh _ hnx
   have hcell:∀x (hx:x < (cs.take (q * es) ++ (vs ++ cs.drop (q * es))).length) (ψ:aJ),φ.le ψ→VR ψ (eC x (lP (List.append (List.take (Nat.mul q es) (bu (Nat.mul n es) cl 0)) (List.append (bu (m * es) cl2 o2) (List.drop (Nat.mul q es) (bu (Nat.mul n es) cl 0)))))) (cs.take (q * es) ++ (vs ++ cs.drop (q * es)))[x]:=fun x hx ψ hψ=>by
    have hx2:=hx
    rw [←hrel.length] at hx2
    rw [dD _ (by rw [hrel.length,hlen];exact hcr) x hx2]
    exact (hrel.get x hx2 hx).mono hψ
   rw [v2.aW]
   have e1:(some (p2.addr o2):Option Addr)=some ⟨p2.bA,p2.base+o2,none⟩:=rfl
   rw [ha,show (some (p.addr 0):Option Addr)=some ⟨p.bA,p.base,none⟩ from rfl,e1]
   by_cases hin:n+m≤cap
   ·have hcap:(n+m) * es≤cap * es:=Nat.mul_le_mul_right _ hin
    refine (R.room w p.bA p.base n cap q p2.bA (p2.base+o2) m vc rc rv _ _ fz cs vs g1 k1 hne b3 b4 hin hnm (by omega) (lV b8 g7) c1 u1 c5 u5 c3 u3).mono ?_
    rintro x w' ⟨rfl,r2,r3,r4,r5,r6,r7⟩
    obtain ⟨s1,s2⟩:=H.nc (n':=h.next.succ) hp1 hl hn (q:=⟨p.bA,p.base,p.room⟩) (w':=w') (.inl rfl)
     (o:=.cells e ((n+m) * es) false fl (lP (List.append (List.take (Nat.mul q es) (bu (Nat.mul n es) cl 0)) (List.append (bu (m * es) cl2 o2) (List.drop (Nat.mul q es) (bu (Nat.mul n es) cl 0)))))) aN (by omega) (by rw [r3];exact H.bound i p hp1) (fun b _ hb=>r4 b hb)
     (by
      refine ⟨_,fz,r2,by rw [bW,bW];exact g2,by simp only;omega,by simp,hcr,fun x hx=>?_,by rw [bW,bW];exact g7⟩
      have hx':x < (cs.take (q * es) ++ (vs ++ cs.drop (q * es))).length:=by rw [hlen];exact hx
      refine ⟨_,?_,hcell x hx' _ (aJ.fI _ hφ),hone _ (List.getElem_mem hx')⟩
      have:=avu (rc:=rc) (b:=p.base) (l:=cs) (l':=vs) (k:=q * es) (by omega) (by omega) c5 x hx'
      rw [u1,←hsum2] at this
      exact this) r5 r6 r7
    refine ⟨_,_,_,_,.ok _ _,rfl,?_,s1,s2⟩
    refine .bZ _ 0 (n+m) es cap ⟨p.bA,p.base,p.room⟩ ⟨p.bA,p.base,none⟩ (aJ.aO _ _ _) (by simp only;omega) hin rfl rfl (fun _=>by simp) hes
   ·refine (R.grow w p.bA p.base n cap q p2.bA (p2.base+o2) m vc rc rv _ _ fz cs vs g1 k1 hne b3 b4 (by omega) (by omega) hnm c1 u1 c5 u5 c3 u3).mono ?_
    rintro x w' ⟨g,row,rfl,r1,r2,r3,r4,r5,r6,r7,r8,r9⟩
    obtain ⟨s1,s2⟩:=H.nc (n':=h.next.succ) hp1 hl hn (q:=⟨w.heap.size,0,g * es⟩) (w':=w') (.inr rfl)
     (o:=.cells e ((n+m) * es) false fl (lP (List.append (List.take (Nat.mul q es) (bu (Nat.mul n es) cl 0)) (List.append (bu (m * es) cl2 o2) (List.drop (Nat.mul q es) (bu (Nat.mul n es) cl 0)))))) aN (by omega) (by simp only;omega) (fun b hb _=>r6 b hb)
     (by
      refine ⟨row,(0,0),r2,by simp only;omega,Nat.mul_le_mul_right _ r1,by simp,hcr,fun x hx=>?_,wb⟩
      have hx':x < (cs.take (q * es) ++ (vs ++ cs.drop (q * es))).length:=by rw [hlen];exact hx
      refine ⟨_,?_,hcell x hx' _ (aJ.fI _ hφ),hone _ (List.getElem_mem hx')⟩
      simp only [Nat.zero_add]
      exact r4 x hx') r7 r8 r9
    refine ⟨_,_,_,_,.ok _ _,rfl,?_,s1,s2⟩
    exact .bZ _ 0 (n+m) es g ⟨w.heap.size,0,_⟩ ⟨w.heap.size,0,none⟩ (aJ.aO _ _ _) (by simp) r1 rfl rfl (fun _=>rfl) hes
  ·cases hr
  ·cases hr
 ·cases hr
end Go.Am
