/- The abstract machine is sound: what its run says holds of the Go program. Conditions: the table of functions is the program's (Env). -/
import Derived.Test.YtphjcbegmaekbaaGreatDoorB
import Derived.Laws.Sem
import Derived.Calls
import Derived.Laws.World
import Derived.Laws.Strings
import Derived.Laws.Strings2
import Derived.Laws.Concat
import Derived.Laws.StructEq
import Derived.Laws.Append
import Derived.Laws.IdiomStrings
import Derived.Laws.NewFold
import Derived.Laws.Cover2
import Derived.Laws.Cover3
import Derived.Laws.ComplexArith
set_option linter.all false
namespace Go.Am
theorem A1.cL (d:H) (v:AV) (x:A1):A1.get d (A1.set d v x)=v:=by cases d<;>cases x<;>rfl
theorem A1.bk {d e:H} (h:d≠e) (v:AV) (x:A1):A1.get d (A1.set e v x)=A1.get d x:=by
 cases d<;>cases e<;>first|exact absurd rfl h|(cases x<;>rfl)
theorem A1.get_nil (d:H):A1.get d .nil=.undef:=by cases d<;>rfl
theorem A2.cL (d:H) (v:A1) (x:A2):A2.get d (A2.set d v x)=v:=by cases d<;>cases x<;>rfl
theorem A2.bk {d e:H} (h:d≠e) (v:A1) (x:A2):A2.get d (A2.set e v x)=A2.get d x:=by
 cases d<;>cases e<;>first|exact absurd rfl h|(cases x<;>rfl)
theorem A2.get_nil (d:H):A2.get d .nil=.nil:=by cases d<;>rfl
theorem A3.cL (d:H) (v:A2) (x:A3):A3.get d (A3.set d v x)=v:=by cases d<;>cases x<;>rfl
theorem A3.bk {d e:H} (h:d≠e) (v:A2) (x:A3):A3.get d (A3.set e v x)=A3.get d x:=by
 cases d<;>cases e<;>first|exact absurd rfl h|(cases x<;>rfl)
theorem A3.get_nil (d:H):A3.get d .nil=.nil:=by cases d<;>rfl
theorem A4.cL (d:H) (v:A3) (x:A4):A4.get d (A4.set d v x)=v:=by cases d<;>cases x<;>rfl
theorem A4.bk {d e:H} (h:d≠e) (v:A3) (x:A4):A4.get d (A4.set e v x)=A4.get d x:=by
 cases d<;>cases e<;>first|exact absurd rfl h|(cases x<;>rfl)
theorem A4.get_nil (d:H):A4.get d .nil=.nil:=by cases d<;>rfl
theorem O1.cL (d:H) (v:Obj) (x:O1):O1.get d (O1.set d v x)=v:=by cases d<;>cases x<;>rfl
theorem O1.bk {d e:H} (h:d≠e) (v:Obj) (x:O1):O1.get d (O1.set e v x)=O1.get d x:=by
 cases d<;>cases e<;>first|exact absurd rfl h|(cases x<;>rfl)
theorem O1.get_nil (d:H):O1.get d .nil=.none:=by cases d<;>rfl
theorem O2.cL (d:H) (v:O1) (x:O2):O2.get d (O2.set d v x)=v:=by cases d<;>cases x<;>rfl
theorem O2.bk {d e:H} (h:d≠e) (v:O1) (x:O2):O2.get d (O2.set e v x)=O2.get d x:=by
 cases d<;>cases e<;>first|exact absurd rfl h|(cases x<;>rfl)
theorem O2.get_nil (d:H):O2.get d .nil=.nil:=by cases d<;>rfl
theorem O3.cL (d:H) (v:O2) (x:O3):O3.get d (O3.set d v x)=v:=by cases d<;>cases x<;>rfl
theorem O3.bk {d e:H} (h:d≠e) (v:O2) (x:O3):O3.get d (O3.set e v x)=O3.get d x:=by
 cases d<;>cases e<;>first|exact absurd rfl h|(cases x<;>rfl)
theorem O3.get_nil (d:H):O3.get d .nil=.nil:=by cases d<;>rfl
theorem O4.cL (d:H) (v:O3) (x:O4):O4.get d (O4.set d v x)=v:=by cases d<;>cases x<;>rfl
theorem O4.bk {d e:H} (h:d≠e) (v:O3) (x:O4):O4.get d (O4.set e v x)=O4.get d x:=by
 cases d<;>cases e<;>first|exact absurd rfl h|(cases x<;>rfl)
theorem O4.get_nil (d:H):O4.get d .nil=.nil:=by cases d<;>rfl
theorem zm:∀n,n < 16→(bO n).nat=n:=by decide
theorem fh {n:Nat} (h:n < 16):(bO n).nat=n:=zm n h
theorem lu {m n:Nat} (hm:m < 16) (hn:n < 16) (h:bO m=bO n):m=n:=by
 rw [←fh hm,←fh hn,h]
noncomputable instance:DecidableEq H:=fun a b=>if h:a.nat=b.nat then .isTrue (by cases a<;>cases b<;>first|rfl|(exact absurd h (by decide))) else .isFalse (fun e=>h (by rw [e]))
theorem A1.bG (d e:H) (v:AV) (x:A1):A1.get d (A1.set e v x)=if d=e then v else A1.get d x:=by
 by_cases h:d=e
 ·rw [if_pos h,h,A1.cL]
 ·rw [if_neg h,A1.bk h]
theorem A2.bG (d e:H) (v:A1) (x:A2):A2.get d (A2.set e v x)=if d=e then v else A2.get d x:=by
 by_cases h:d=e
 ·rw [if_pos h,h,A2.cL]
 ·rw [if_neg h,A2.bk h]
theorem A3.bG (d e:H) (v:A2) (x:A3):A3.get d (A3.set e v x)=if d=e then v else A3.get d x:=by
 by_cases h:d=e
 ·rw [if_pos h,h,A3.cL]
 ·rw [if_neg h,A3.bk h]
theorem A4.bG (d e:H) (v:A3) (x:A4):A4.get d (A4.set e v x)=if d=e then v else A4.get d x:=by
 by_cases h:d=e
 ·rw [if_pos h,h,A4.cL]
 ·rw [if_neg h,A4.bk h]
theorem eO (a b c d:H) (v:AV) (r:A2):aw a b (eL c d v r)=if a=c∧b=d then v else aw a b r:=by
 simp only [aw,eL,A2.bG]
 by_cases h:a=c
 ·subst h
  simp only [if_true,A1.bG,true_and]
 ·simp [h]
theorem alv (a b:Nat):Nat.div a b=a / b:=rfl
theorem alw (a b:Nat):Nat.mod a b=a % b:=rfl
theorem WY {i j:Nat} (hi:i < 16) (hj:j < 16) (v:AV) (x:A1):g1 i (t1 j v x)=if i=j then v else g1 i x:=by
 simp only [g1,t1,A1.bG]
 by_cases h:i=j
 ·simp [h]
 ·rw [if_neg h,if_neg (fun e=>h (lu hi hj e))]
theorem WZ {i j:Nat} (hi:i < 256) (hj:j < 256) (v:AV) (x:A2):g2 i (t2 j v x)=if i=j then v else g2 i x:=by
 have hi':i / 16 < 16:=by omega
 have hj':j / 16 < 16:=by omega
 have hi2:i % 16 < 16:=by omega
 have hj2:j % 16 < 16:=by omega
 simp only [g2,t2,t2d,A2.bG,alv,alw]
 by_cases h:i / 16=j / 16
 ·rw [if_pos (congrArg bO h)]
  have:=WY hi2 hj2 v (A2.get (bO (j / 16)) x)
  simp only [g1] at this
  rw [this]
  by_cases e:i=j
  ·simp [e]
  ·rw [if_neg e,if_neg (by omega),h]
 ·rw [if_neg (fun e=>h (lu hi' hj' e)),if_neg (fun e=>h (by rw [e]))]
theorem Xa {i j:Nat} (hi:i < 4096) (hj:j < 4096) (v:AV) (x:A3):g3 i (t3 j v x)=if i=j then v else g3 i x:=by
 have hi':i / 256 < 16:=by omega
 have hj':j / 256 < 16:=by omega
 simp only [g3,t3,t3d,A3.bG,alv,alw]
 by_cases h:i / 256=j / 256
 ·rw [if_pos (congrArg bO h)]
  rw [WZ (show i % 256 < 256 by omega) (show j % 256 < 256 by omega)]
  by_cases e:i=j
  ·simp [e]
  ·rw [if_neg e,if_neg (show ¬ (i % 256=j % 256) by omega),h]
 ·rw [if_neg (fun e=>h (lu hi' hj' e)),if_neg (fun e=>h (by rw [e]))]
theorem aqk {i j:Nat} (hi:i < 65536) (hj:j < 65536) (v:AV) (x:A4):g4 i (t4 j v x)=if i=j then v else g4 i x:=by
 have hi':i / 4096 < 16:=by omega
 have hj':j / 4096 < 16:=by omega
 simp only [g4,t4,t4d,A4.bG,alv,alw]
 by_cases h:i / 4096=j / 4096
 ·rw [if_pos (congrArg bO h)]
  rw [Xa (show i % 4096 < 4096 by omega) (show j % 4096 < 4096 by omega)]
  by_cases e:i=j
  ·simp [e]
  ·rw [if_neg e,if_neg (show ¬ (i % 4096=j % 4096) by omega),h]
 ·rw [if_neg (fun e=>h (lu hi' hj' e)),if_neg (fun e=>h (by rw [e]))]
theorem wc {i j:Nat} (c:Cl) (hi:i < bQ c) (hj:j < bQ c) (v:AV):eC i (uH j v c)=if i=j then v else eC i c:=by
 cases c with
 | k1 x=>exact WY hi hj v x
 | k2 x=>exact WZ hi hj v x
 | k3 x=>exact Xa hi hj v x
 | k4 x=>exact aqk hi hj v x
theorem jD (j:Nat) (v:AV) (c:Cl):bQ (uH j v c)=bQ c:=by cases c<;>rfl
theorem Ee (i:Nat) (c:Cl):fq [] i c=c:=rfl
theorem mM (v:AV) (l:List AV) (i:Nat) (c:Cl):fq (v::l) i c=fq l (i+1) (uH i v c):=rfl
theorem qe (l:List AV):∀(i:Nat) (c:Cl),bQ (fq l i c)=bQ c:=by
 induction l with
 | nil=>intro i c;rfl
 | cons v l ih=>intro i c;rw [mM,ih,jD]
theorem ub (l:List AV):∀(i:Nat) (c:Cl) (k:Nat),k < bQ c→i+l.length≤bQ c→
  eC k (fq l i c)=if h:i≤k∧k < i+l.length then l[k - i]'(by omega) else eC k c:=by
 induction l with
 | nil=>intro i c k hk hl;rw [Ee,dif_neg (by simp only [List.length_nil];omega)]
 | cons v l ih=>
  intro i c k hk hl
  simp only [List.length_cons] at hl
  rw [mM,ih (i+1) _ k (by rw [jD];exact hk) (by rw [jD];omega),wc c hk (by omega)]
  by_cases h1:k=i
  ·subst h1
   rw [dif_neg (by omega),dif_pos (by simp),if_pos rfl]
   simp
  ·rw [if_neg h1]
   by_cases h2:i≤k∧k < i+(l.length+1)
   ·rw [dif_pos (by omega),dif_pos (by simpa using h2)]
    have:k - i=(k - (i+1))+1:=by omega
    simp only [this,List.getElem_cons_succ]
   ·rw [dif_neg (by omega),dif_neg (by simpa using h2)]
theorem kP (c:Cl):bQ c≤65536:=by cases c<;>simp [bQ]
theorem fJ (c:Cl) (k:Nat) (hk:k < bQ c):eC k (eu c)=eC k c:=by
 cases c with
 | k1 x=>
  have:k < 16:=hk
  show A1.get (bO (k % 16)) (A2.get (bO (k / 16)) (A2.s0 x .nil))=A1.get (bO k) x
  rw [show k / 16=0 by omega,show k % 16=k by omega];rfl
 | k2 x=>
  have:k < 256:=hk
  show g2 (k % 256) (A3.get (bO (k / 256)) (A3.s0 x .nil))=g2 k x
  rw [show k / 256=0 by omega,show k % 256=k by omega];rfl
 | k3 x=>
  have:k < 4096:=hk
  show g3 (k % 4096) (A4.get (bO (k / 4096)) (A4.s0 x .nil))=g3 k x
  rw [show k / 4096=0 by omega,show k % 4096=k by omega];rfl
 | k4 x=>rfl
theorem qg (c:Cl):bQ c≤bQ (eu c):=by cases c<;>simp [bQ,eu]
theorem AU (n:Nat) (c:Cl):qS n c=c∨qS n c=eu c∨qS n c=eu (eu c)∨qS n c=eu (eu (eu c)):=by
 unfold qS
 cases Nat.ble n (bQ c)
 ·cases Nat.ble n (bQ (eu c))
  ·cases Nat.ble n (bQ (eu (eu c)))
   ·exact .inr (.inr (.inr rfl))
   ·exact .inr (.inr (.inl rfl))
  ·exact .inr (.inl rfl)
 ·exact .inl rfl
theorem Ef (n:Nat) (c:Cl) (k:Nat) (hk:k < bQ c):eC k (qS n c)=eC k c:=by
 have a1:=qg c
 have a2:=qg (eu c)
 rcases AU n c with h|h|h|h<;>rw [h]
 ·exact fJ c k hk
 ·rw [fJ _ k (by omega),fJ c k hk]
 ·rw [fJ _ k (by omega),fJ _ k (by omega),fJ c k hk]
theorem dD (l:List AV) (hr:l.length≤bQ (lP l)) (k:Nat) (hk:k < l.length):eC k (lP l)=l[k]:=by
 unfold lP at hr ⊢
 rw [qe] at hr
 rw [ub l 0 _ k (by omega) (by omega),dif_pos (by omega)]
 simp
theorem AW (c:Cl) (i:Nat):bu 0 c i=[]:=rfl
theorem mN (n:Nat) (c:Cl) (i:Nat):bu (n+1) c i=eC i c::bu n c (i+1):=rfl
theorem jE (n:Nat):∀(c:Cl) (i:Nat),(bu n c i).length=n:=by
 induction n with
 | zero=>intro c i;rfl
 | succ n ih=>intro c i;rw [mN,List.length_cons,ih]
theorem uY (n:Nat):∀(c:Cl) (i k:Nat) (hk:k < (bu n c i).length),(bu n c i)[k]=eC (i+k) c:=by
 induction n with
 | zero=>intro c i k hk;simp [AW] at hk
 | succ n ih=>
  intro c i k hk
  match k with
  | 0=>rfl
  | k+1=>
   have:=ih c (i+1) k (by simpa [mN] using hk)
   simp only [mN,List.getElem_cons_succ,this]
   congr 1;omega
noncomputable instance:DecidableEq P4:=fun a b=>match a,b with
 | .mk a b c d,.mk a' b' c' d'=>if h:a=a'∧b=b'∧c=c'∧d=d' then .isTrue (by obtain ⟨rfl,rfl,rfl,rfl⟩:=h;rfl) else .isFalse (fun e=>h (by cases e;exact ⟨rfl,rfl,rfl,rfl⟩))
theorem O1.bG (d e:H) (v:Obj) (x:O1):O1.get d (O1.set e v x)=if d=e then v else O1.get d x:=by
 by_cases h:d=e
 ·rw [if_pos h,h,O1.cL]
 ·rw [if_neg h,O1.bk h]
theorem O2.bG (d e:H) (v:O1) (x:O2):O2.get d (O2.set e v x)=if d=e then v else O2.get d x:=by
 by_cases h:d=e
 ·rw [if_pos h,h,O2.cL]
 ·rw [if_neg h,O2.bk h]
theorem O3.bG (d e:H) (v:O2) (x:O3):O3.get d (O3.set e v x)=if d=e then v else O3.get d x:=by
 by_cases h:d=e
 ·rw [if_pos h,h,O3.cL]
 ·rw [if_neg h,O3.bk h]
theorem O4.bG (d e:H) (v:O3) (x:O4):O4.get d (O4.set e v x)=if d=e then v else O4.get d x:=by
 by_cases h:d=e
 ·rw [if_pos h,h,O4.cL]
 ·rw [if_neg h,O4.bk h]
theorem cW (i j:P4) (o:Obj) (t:O4):di i (cH j o t)=if i=j then o else di i t:=by
 obtain ⟨a,b,c,d⟩:=i
 obtain ⟨a',b',c',d'⟩:=j
 show O1.get d (O2.get c (O3.get b (O4.get a (O4.set a' (O3.set b' (O2.set c' (O1.set d' o (O2.get c' (O3.get b' (O4.get a' t)))) (O3.get b' (O4.get a' t))) (O4.get a' t)) t))))=_
 rw [O4.bG]
 by_cases h1:a=a'
 ·subst h1
  rw [if_pos rfl,O3.bG]
  by_cases h2:b=b'
  ·subst h2
   rw [if_pos rfl,O2.bG]
   by_cases h3:c=c'
   ·subst h3
    rw [if_pos rfl,O1.bG]
    by_cases h4:d=d'
    ·subst h4;simp
    ·rw [if_neg h4,if_neg (by simp [h4])];rfl
   ·rw [if_neg h3,if_neg (by simp [h3])];rfl
  ·rw [if_neg h2,if_neg (by simp [h2])];rfl
 ·rw [if_neg h1,if_neg (by simp [h1])];rfl
theorem bg (i j:P4) (o:Obj) (h:Hp):aq i (cG j o h)=if i=j then o else aq i h:=by
 cases h with
 | mk t n lg=>exact cW i j o t
structure Place where
 bA:Nat
 base:Nat
 room:Nat
abbrev aJ:=P4→Option Place
def aJ.le (φ ψ:aJ):Prop:=∀i p,φ i=some p→ψ i=some p
theorem aJ.le_refl (φ:aJ):φ.le φ:=fun _ _ h=>h
theorem aJ.le_trans {φ ψ χ:aJ} (h:φ.le ψ) (h':ψ.le χ):φ.le χ:=fun i p e=>h' i p (h i p e)
def Place.addr (p:Place) (o:Nat):Addr:=⟨p.bA,p.base+o,none⟩
def avD (n:Nat):Int:=if n % 2=0 then (n / 2:Nat) else -((n / 2:Nat):Int) - 1
mutual
inductive VR (φ:aJ):AV→Value→Prop
 | sym (i:P4) (p:Place):φ i=some p→VR φ (.sym i) (.int .i64 (avD p.room))
 | undef (v:Value):VR φ .undef v
 | bool (b:Bool):VR φ (.bool b) (.bool b)
 | int (k:IntKind) (n:Int):VR φ (.int k n) (.int k n)
 | str (s:ByteArray) (l:List Nat):l=s.data.toList.map UInt8.toNat→VR φ (.str l) (.string s)
 | gA (k:FloatKind) (n:Nat):VR φ (.gA k n) (.float k n)
 | aM (k:FloatKind) (a b:Nat):VR φ (.aM k a b) (.complex k a b)
 | ptr (i:P4) (o:Nat) (p:Place):φ i=some p→VR φ (.ptr i o) (.pointer (some (p.addr o)))
 | dP:VR φ .dP (.pointer none)
 | slice (i:P4) (o n c:Nat) (p:Place):φ i=some p→VR φ (.slice i o n c) (.slice (some (p.addr o)) n c)
 | bZ (i:P4) (o n es c:Nat) (p:Place) (a:Addr):φ i=some p→o+c * es=p.room→n≤c→a.block=p.bA→a.spot=none→(c≠0→a.off=p.base+o)→0 < es→
   VR φ (.bZ i o n es) (.slice (some a) n c)
 | aj:VR φ .aj (.slice none 0 0)
 | map (i:P4) (p:Place):φ i=some p→VR φ (.map i) (.map (some p.bA))
 | mX:VR φ .mX (.map none)
 | fn (f:Nat) (cs:List AV) (vs:List Value):bS φ cs vs→VR φ (.fn f cs) (.func (.func f) #[] vs.toArray)
 | qn:VR φ .qn .nilFunc
 | iface (t:Nat) (v:AV) (x:Value):VR φ v x→VR φ (.iface t v) (.iface t x)
 | qQ:VR φ .qQ .nilIface
 | agg (cs:List AV) (vs:List Value):bS φ cs vs→(∀v,v∈vs→v.oneCell'=true)→VR φ (.agg cs) (.agg vs.toArray)
 | eS (cs:List AV) (vs:List Value):bS φ cs vs→VR φ (.eS cs) (.tuple vs.toArray)
inductive bS (φ:aJ):List AV→List Value→Prop
 | nil:bS φ [] []
 | cons (a:AV) (v:Value) (as:List AV) (vs:List Value):VR φ a v→bS φ as vs→bS φ (a::as) (v::vs)
end
mutual
theorem VR.mono {φ ψ:aJ} (h:φ.le ψ):∀{a:AV} {v:Value},VR φ a v→VR ψ a v
 | _,_,.undef v=>.undef v
 | _,_,.sym i p e=>.sym i p (h _ _ e)
 | _,_,.bool b=>.bool b
 | _,_,.int k n=>.int k n
 | _,_,.str s l e=>.str s l e
 | _,_,.gA k n=>.gA k n
 | _,_,.aM k a b=>.aM k a b
 | _,_,.ptr i o p e=>.ptr i o p (h _ _ e)
 | _,_,.dP=>.dP
 | _,_,.slice i o n c p e=>.slice i o n c p (h _ _ e)
 | _,_,.bZ i o n es c p a e h1 h2 h3 h4 h5 h6=>.bZ i o n es c p a (h _ _ e) h1 h2 h3 h4 h5 h6
 | _,_,.aj=>.aj
 | _,_,.map i p e=>.map i p (h _ _ e)
 | _,_,.mX=>.mX
 | _,_,.fn f cs vs e=>.fn f cs vs (bS.mono h e)
 | _,_,.qn=>.qn
 | _,_,.iface t v x e=>.iface t v x (VR.mono h e)
 | _,_,.qQ=>.qQ
 | _,_,.agg cs vs e f=>.agg cs vs (bS.mono h e) f
 | _,_,.eS cs vs e=>.eS cs vs (bS.mono h e)
theorem bS.mono {φ ψ:aJ} (h:φ.le ψ):∀{as:List AV} {vs:List Value},bS φ as vs→bS ψ as vs
 | _,_,.nil=>.nil
 | _,_,.cons a v as vs e es=>.cons a v as vs (VR.mono h e) (bS.mono h es)
end
theorem bS.length {φ:aJ}:∀{as:List AV} {vs:List Value},bS φ as vs→as.length=vs.length
 | _,_,.nil=>rfl
 | _,_,.cons _ _ _ _ _ es=>by simp [bS.length es]
theorem bS.get {φ:aJ}:∀{as:List AV} {vs:List Value},bS φ as vs→∀(k:Nat) (h:k < as.length) (h':k < vs.length),VR φ as[k] vs[k]
 | _,_,.cons _ _ _ _ e _,0,_,_=>e
 | _,_,.cons _ _ _ _ _ es,k+1,h,h'=>bS.get es k (by simpa using h) (by simpa using h')
theorem bS.JP {φ:aJ}:∀{as:List AV} {vs:List Value},as.length=vs.length→(∀(k:Nat) (h:k < as.length) (h':k < vs.length),VR φ as[k] vs[k])→bS φ as vs
 | [],[],_,_=>.nil
 | a::as,v::vs,hl,h=>.cons a v as vs (h 0 (by simp) (by simp)) (bS.JP (by simpa using hl) fun k h1 h2=>h (k+1) (by simpa using h1) (by simpa using h2))
 | [],_::_,hl,_=>by simp at hl
 | _::_,[],hl,_=>by simp at hl
theorem bS.append {φ:aJ}:∀{as bs:List AV} {vs ws:List Value},bS φ as vs→bS φ bs ws→bS φ (as ++ bs) (vs ++ ws)
 | _,_,_,_,.nil,h=>h
 | _,_,_,_,.cons a v as vs e es,h=>.cons a v _ _ e (bS.append es h)
def Eg (fl:Fl) (fz:Nat×Nat) (size:Nat):Prop:=match fl with
 | .plain=>fz=(0,0)
 | .mark=>∀k,k < size→¬ (fz.1≤k∧k < fz.2)
 | .wx=>True
def fy:List Nat→Nat
 | []=>0
 | a::l=>2 ^ a * (2 * fy l+1)
theorem Cu:∀{a b k m:Nat},2 ^ a * (2 * k+1)=2 ^ b * (2 * m+1)→a=b∧k=m
 | 0,0,k,m,h=>by simp at h;exact ⟨rfl,by omega⟩
 | 0,b+1,k,m,h=>by
  rw [Nat.pow_succ,Nat.pow_zero,Nat.mul_comm (2 ^ b) 2,Nat.mul_assoc,Nat.one_mul] at h
  omega
 | a+1,0,k,m,h=>by
  rw [Nat.pow_succ,Nat.pow_zero,Nat.mul_comm (2 ^ a) 2,Nat.mul_assoc,Nat.one_mul] at h
  omega
 | a+1,b+1,k,m,h=>by
  rw [Nat.pow_succ,Nat.pow_succ,Nat.mul_comm (2 ^ a) 2,Nat.mul_comm (2 ^ b) 2,Nat.mul_assoc,Nat.mul_assoc] at h
  obtain ⟨e1,e2⟩:=Cu (a:=a) (b:=b) (k:=k) (m:=m) (Nat.eq_of_mul_eq_mul_left (by omega) h)
  exact ⟨by omega,e2⟩
theorem we (a:Nat) (l:List Nat):0 < fy (a::l):=Nat.mul_pos (Nat.two_pow_pos a) (by omega)
theorem wg:∀{l m:List Nat},fy l=fy m→l=m
 | [],[],_=>rfl
 | [],b::m,h=>by have:=we b m;rw [←h] at this;exact absurd this (Nat.lt_irrefl 0)
 | a::l,[],h=>by have:=we a l;rw [h] at this;exact absurd this (Nat.lt_irrefl 0)
 | a::l,b::m,h=>by
  obtain ⟨e1,e2⟩:=Cu (show 2 ^ a * (2 * fy l+1)=2 ^ b * (2 * fy m+1) from h)
  rw [e1,wg e2]
open Classical in
noncomputable def Rz (n:Nat):List Nat:=if h:∃l,fy l=n then h.choose else []
theorem wh (l:List Nat):Rz (fy l)=l:=by
 unfold Rz
 have h:∃m,fy m=fy l:=⟨l,rfl⟩
 rw [dif_pos h]
 exact wg h.choose_spec
def stL (c:List Nat) (b:Nat):Nat:=match c with
 | []=>b
 | cw::l=>if b < dI then b else if b - dI < l.length then l.getD (b - dI) 0 else cw+(b - dI - l.length)
noncomputable def bV (r:Nat) (b:Nat):Nat:=stL (Rz r) b
theorem lH (b:Nat):bV 0 b=b:=by
 unfold bV
 have:Rz 0=[]:=wh []
 rw [this];rfl
theorem vZ (c:List Nat) (b:Nat):bV (fy c) b=stL c b:=by unfold bV;rw [wh]
def xz (ck:Nat):Nat:=if ck < dI then 0 else dI
def KV.jf (y:KV):Nat:=match y with|.mk _ _ b=>b
structure xT (st:Nat→Nat) (ls:List Nat) (ck cw:Nat):Prop where
 low:ck < dI→∀b,st b=b
 up:∀k,st (ck+k)=cw+k
 mono:∀b,xz ck≤b→b < ck→st b < cw
 inj:∀b b',xz ck≤b→xz ck≤b'→st b=st b'→b=b'
 Kr:∀b,b∈ls→xz ck≤b∧b < ck
 VZ:ls.Nodup
theorem xT.start:xT (bV 0) [] 0 0 where
 low _ b:=lH b
 up k:=by rw [lH]
 mono b _ h:=absurd h (Nat.not_lt_zero b)
 inj b b' _ _ h:=by rw [lH,lH] at h;exact h
 Kr b h:=by cases h
 VZ:=List.nodup_nil
theorem xT.at {st:Nat→Nat} {ls:List Nat} {ck cw:Nat} (S:xT st ls ck cw):st ck=cw:=S.up 0
theorem xT.add {st:Nat→Nat} {ls:List Nat} {ck cw:Nat} (S:xT st ls ck cw) (h:ck+1≠dI):xT st (ls ++ [ck]) (ck+1) (cw+1):=by
 have hl:xz (ck+1)=xz ck:=by
  unfold xz
  by_cases g:ck < dI
  ·rw [if_pos g,if_pos (by omega)]
  ·rw [if_neg g,if_neg (by omega)]
 have hlo:xz ck≤ck:=by unfold xz;split<;>omega
 refine ⟨fun g=>S.low (by omega),fun k=>by have:=S.up (1+k);rw [←Nat.add_assoc] at this;rw [this];omega,fun b h1 h2=>?_,fun b b' h1 h2=>S.inj b b' (hl▸h1) (hl▸h2),fun b hb=>?_,?_⟩
 ·rw [hl] at h1
  rcases Nat.lt_or_ge b ck with g|g
  ·exact Nat.lt_succ_of_lt (S.mono b h1 g)
  ·obtain rfl:b=ck:=by omega
   rw [S.at];omega
 ·rw [hl]
  rcases List.mem_append.1 hb with g|g
  ·have:=S.Kr b g;exact ⟨this.1,by omega⟩
  ·obtain rfl:b=ck:=by simpa using g
   exact ⟨hlo,by omega⟩
 ·rw [List.nodup_append]
  refine ⟨S.VZ,by simp,fun a ha b hb e=>?_⟩
  obtain rfl:b=ck:=by simpa using hb
  subst e
  exact absurd (S.Kr a ha).2 (Nat.lt_irrefl _)
theorem xT.sub {st:Nat→Nat} {ls ls':List Nat} {ck cw:Nat} (S:xT st ls ck cw) (h:ls'.Sublist ls):xT st ls' ck cw:=⟨S.low,S.up,S.mono,S.inj,fun b hb=>S.Kr b (h.subset hb),h.nodup S.VZ⟩
def aql (st:Nat→Nat) (since:Nat) (seen:List Nat) (last:Nat):Prop:=
 (∀b,xz since≤b→b < since→st b < st since)∧xz last=xz since∧(∀b,xz since≤b→b < last→st b < st last)∧∀b,b∈seen→xz since≤b
inductive bM (st:Nat→Nat) (φ:aJ):List KV→List MapEntry→Prop
 | nil:bM st φ [] []
 | cons (k v:AV) (b:Nat) (e:MapEntry) (l:List KV) (es:List MapEntry):VR φ k e.key→VR φ v e.val→e.born=st b→bM st φ l es→bM st φ (.mk k v b::l) (e::es)
theorem bM.mono {st:Nat→Nat} {φ ψ:aJ} (h:φ.le ψ):∀{l:List KV} {es:List MapEntry},bM st φ l es→bM st ψ l es
 | _,_,.nil=>.nil
 | _,_,.cons k v b e l es a c d r=>.cons k v b e l es (a.mono h) (c.mono h) d (bM.mono h r)
def OR (φ:aJ) (o:Obj) (p:Place) (x:Option Go.Obj):Prop:=match o with
 | .none=>True
 | .dead=>True
 | .cells el n ex fl c=>∃(rc:Array Value) (fz:Nat×Nat),x=some (.cells rc el fz)∧p.base+p.room=rc.size∧n≤p.room∧(ex=true→p.base=0∧n=p.room)∧n≤bQ c∧
   (∀k,k < n→∃cv,rc[p.base+k]?=some cv∧VR φ (eC k c) cv∧cv.oneCell'=true)∧Eg fl fz rc.size
 | .map l ck=>∃es cw l0,x=some (.map es cw)∧l.Perm l0∧bM (bV p.room) φ l0 es.toList∧xT (bV p.room) (l.map KV.jf) ck cw
 | .xX s pos=>p.base=0∧∃b:ByteArray,x=some (.stringIter b pos)∧s=b.data.toList.map UInt8.toNat
 | .qR m since seen last=>p.base=0∧∃q,φ m=some q∧x=some (.mapIter (some q.bA) (bV q.room since) (seen.map (bV q.room)).toArray (bV q.room last))∧aql (bV q.room) since seen last
 | .xY=>p.base=0∧x=some (.mapIter none 0 #[] 0)
def live (o:Obj):Prop:=o≠.none∧o≠.dead
structure HR (φ:aJ) (h:Hp) (w:World):Prop where
 obj:∀i,live (aq i h)→∃p,φ i=some p∧OR φ (aq i h) p w.heap[p.bA]?
 inj:∀i j p q,live (aq i h)→live (aq j h)→i≠j→φ i=some p→φ j=some q→p.bA≠q.bA
 fresh:∀i,aq i h=.none→φ i=none
 bound:∀i p,φ i=some p→p.bA < w.heap.size
structure fx (φ:aJ) (h:Hp) (w w':World):Prop where
 size:w.heap.size≤w'.heap.size
 rest:∀b,b < w.heap.size→(∀i p,live (aq i h)→φ i=some p→p.bA≠b)→w'.heap[b]?=w.heap[b]?
 tape:w'.tape=w.tape
 os:w'.os=w.os
 output:w'.output=w.output
theorem fx.refl (φ:aJ) (h:Hp) (w:World):fx φ h w w:=⟨Nat.le_refl _,fun _ _ _=>rfl,rfl,rfl,rfl⟩
theorem fx.trans {φ ψ:aJ} {h h':Hp} {w w' w'':World} (a:fx φ h w w') (b:fx ψ h' w' w'')
  (new:∀i p,live (aq i h')→ψ i=some p→(live (aq i h)∧φ i=some p)∨w.heap.size≤p.bA∨∃j q,live (aq j h)∧φ j=some q∧q.bA=p.bA):fx φ h w w'':=by
 refine ⟨Nat.le_trans a.size b.size,fun x hx hn=>?_,b.tape.trans a.tape,b.os.trans a.os,b.output.trans a.output⟩
 rw [b.rest x (Nat.lt_of_lt_of_le hx a.size) ?_,a.rest x hx hn]
 intro i p hl hp
 rcases new i p hl hp with ⟨h1,h2⟩|h1|⟨j,q,h1,h2,h3⟩
 ·exact hn i p h1 h2
 ·omega
 ·rw [←h3];exact hn j q h1 h2
theorem VR.one {φ:aJ} {a:AV} {v:Value} (h:VR φ a v) (ha:a.one=true):v.oneCell'=true:=by
 cases h<;>first|rfl|(cases ha)
theorem aN {el n:Nat} {ex:Bool} {fl:Fl} {c:Cl}:live (.cells el n ex fl c):=⟨by simp,by simp⟩
theorem fi {l:List KV} {c:Nat}:live (.map l c):=⟨by simp,by simp⟩
theorem OR.mono {φ ψ:aJ} (hφ:φ.le ψ) {o:Obj} {p:Place} {x:Option Go.Obj} (h:OR φ o p x):OR ψ o p x:=by
 cases o with
 | none=>trivial
 | dead=>trivial
 | cells el n ex fl c=>
  obtain ⟨rc,fz,h1,h2,h3,h4,h5,h6,h7⟩:=h
  exact ⟨rc,fz,h1,h2,h3,h4,h5,fun k hk=>let ⟨cv,a,b,d⟩:=h6 k hk;⟨cv,a,b.mono hφ,d⟩,h7⟩
 | map l ck=>obtain ⟨es,cw,l0,h1,h2,h3,h4⟩:=h;exact ⟨es,cw,l0,h1,h2,h3.mono hφ,h4⟩
 | xX s pos=>exact h
 | qR m since seen last=>obtain ⟨h0,q,h1,h2,h3⟩:=h;exact ⟨h0,q,hφ _ _ h1,h2,h3⟩
 | xY=>exact h
theorem HR.set {φ:aJ} {h:Hp} {w w':World} (H:HR φ h w) {i:P4} {p:Place} {o':Obj} (hl:live (aq i h)) (hp:φ i=some p)
  (hsz:w'.heap.size=w.heap.size) (hne:∀b,b≠p.bA→w'.heap[b]?=w.heap[b]?) (hOR:OR φ o' p w'.heap[p.bA]?) (ho:o'≠.none):HR φ (cG i o' h) w' where
 obj j hj:=by
  rw [bg] at hj ⊢
  by_cases e:j=i
  ·subst e
   rw [if_pos rfl] at hj ⊢
   exact ⟨p,hp,hOR⟩
  ·rw [if_neg e] at hj ⊢
   obtain ⟨q,hq,hr⟩:=H.obj j hj
   refine ⟨q,hq,?_⟩
   rw [hne _ (H.inj j i q p hj hl e hq hp)]
   exact hr
 inj j k q r hj hk hjk hq hr:=by
  rw [bg] at hj hk
  have hj':live (aq j h):=by
   by_cases e:j=i
   ·subst e;exact hl
   ·rwa [if_neg e] at hj
  have hk':live (aq k h):=by
   by_cases e:k=i
   ·subst e;exact hl
   ·rwa [if_neg e] at hk
  exact H.inj j k q r hj' hk' hjk hq hr
 fresh j hj:=by
  rw [bg] at hj
  by_cases e:j=i
  ·rw [if_pos e] at hj;exact absurd hj ho
  ·rw [if_neg e] at hj;exact H.fresh j hj
 bound j q hq:=by rw [hsz];exact H.bound j q hq
theorem fx.set {φ:aJ} {h:Hp} {w w':World} {i:P4} {p:Place} (hl:live (aq i h)) (hp:φ i=some p)
  (hsz:w'.heap.size=w.heap.size) (hne:∀b,b≠p.bA→w'.heap[b]?=w.heap[b]?) (ht:w'.tape=w.tape) (ho:w'.os=w.os) (hu:w'.output=w.output):fx φ h w w':=
 ⟨Nat.le_of_eq hsz.symm,fun b _ hb=>hne b (fun e=>hb i p hl hp e.symm),ht,ho,hu⟩
noncomputable def aJ.put (φ:aJ) (i:P4) (p:Place):aJ:=fun j=>if j=i then some p else φ j
theorem aJ.aO (φ:aJ) (i:P4) (p:Place):φ.put i p i=some p:=by simp [aJ.put]
theorem aJ.fI {φ:aJ} {i:P4} (p:Place) (h:φ i=none):φ.le (φ.put i p):=by
 intro j q hq
 unfold aJ.put
 by_cases e:j=i
 ·subst e;rw [h] at hq;cases hq
 ·rw [if_neg e];exact hq
theorem HR.new {φ:aJ} {h:Hp} {w w':World} (H:HR φ h w) {o:Obj} {x:Go.Obj} {room:Nat} {i:P4} {n':P4} (hi:aq i h=.none)
  (hw:w'.heap=w.heap.push x) (ho:o≠.none) (hOR:OR (φ.put i ⟨w.heap.size,0,room⟩) o ⟨w.heap.size,0,room⟩ (some x)) :
  HR (φ.put i ⟨w.heap.size,0,room⟩) (.mk (cH i o h.tree) n' (Lg.add i h.log)) w':=by
 have hφ:=H.fresh i hi
 have hle:=aJ.fI (φ:=φ) (i:=i) ⟨w.heap.size,0,room⟩ hφ
 have hg:∀j,aq j (.mk (cH i o h.tree) n' (Lg.add i h.log))=if j=i then o else aq j h:=by
  intro j
  cases h with
  | mk t n lg=>exact cW j i o t
 have hold:∀b,b < w.heap.size→w'.heap[b]?=w.heap[b]?:=by
  intro b hb
  rw [hw,Array.getElem?_push,if_neg (by omega)]
 have hb:∀j q,j≠i→(φ.put i ⟨w.heap.size,0,room⟩) j=some q→φ j=some q:=by
  intro j q hj hq
  simpa [aJ.put,hj] using hq
 refine ⟨fun j hj=>?_,fun j k q r hj hk hjk hq hr=>?_,fun j hj=>?_,fun j q hq=>?_⟩
 ·rw [hg] at hj ⊢
  by_cases e:j=i
  ·subst e
   refine ⟨_,aJ.aO _ _ _,?_⟩
   rw [if_pos rfl]
   have:w'.heap[w.heap.size]?=some x:=by rw [hw];simp
   simpa [this] using hOR
  ·rw [if_neg e] at hj ⊢
   obtain ⟨q,hq,hr⟩:=H.obj j hj
   refine ⟨q,hle _ _ hq,?_⟩
   rw [hold _ (H.bound j q hq)]
   exact hr.mono hle
 ·rw [hg] at hj hk
  by_cases e1:j=i
  ·by_cases e2:k=i
   ·exact absurd (e1.trans e2.symm) hjk
   ·have hr':=hb k r e2 hr
    have hq':q=⟨w.heap.size,0,room⟩:=by rw [e1,aJ.aO] at hq;exact (Option.some.inj hq).symm
    have:=H.bound k r hr'
    rw [hq'];show w.heap.size≠r.bA;omega
  ·have hq':=hb j q e1 hq
   by_cases e2:k=i
   ·have hr':r=⟨w.heap.size,0,room⟩:=by rw [e2,aJ.aO] at hr;exact (Option.some.inj hr).symm
    have:=H.bound j q hq'
    rw [hr'];show q.bA≠w.heap.size;omega
   ·rw [if_neg e1] at hj
    rw [if_neg e2] at hk
    exact H.inj j k q r hj hk hjk hq' (hb k r e2 hr)
 ·rw [hg] at hj
  by_cases e:j=i
  ·rw [if_pos e] at hj;exact absurd hj ho
  ·rw [if_neg e] at hj
   show (if j=i then some _ else φ j)=none
   rw [if_neg e];exact H.fresh j hj
 ·by_cases e:j=i
  ·have hq':q=⟨w.heap.size,0,room⟩:=by rw [e,aJ.aO] at hq;exact (Option.some.inj hq).symm
   rw [hq',hw];simp
  ·have:=H.bound j q (hb j q e hq)
   rw [hw];simp;omega
theorem fx.new {φ:aJ} {h:Hp} {w w':World} {x:Go.Obj} (hw:w'.heap=w.heap.push x) (ht:w'.tape=w.tape) (ho:w'.os=w.os) (hu:w'.output=w.output):fx φ h w w':=
 ⟨by rw [hw];simp,fun b hb _=>by rw [hw,Array.getElem?_push,if_neg (by omega)],ht,ho,hu⟩
theorem gz {o:Obj} {h:Hp} {k:P4→Hp→RV} {v:AV} {h':Hp} (e:iq o h k=.ok v h') :
  aq h.next h=.none∧k h.next (.mk (cH h.next o h.tree) h.next.succ (Lg.add h.next h.log))=.ok v h':=by
 cases h with
 | mk t nx lg=>
  have e':(Bool.rec (RV.err 1) (k nx (.mk (cH nx o t) nx.succ (Lg.add nx lg))) (isNone (di nx t)):RV)=.ok v h':=e
  show di nx t=.none∧k nx (.mk (cH nx o t) nx.succ (Lg.add nx lg))=.ok v h'
  cases hg:di nx t<;>simp [hg,isNone] at e'<;>exact ⟨rfl,e'⟩
def Fr (h h':Hp):Prop:=(h.log=.off→h'.log=.off)∧∀l,h.log=.on l→∃l',h'.log=.on (l' ++ l)∧∀q,q ∉ l'→aq q h'=aq q h
theorem Fr.refl (h:Hp):Fr h h:=⟨id,fun l e=>⟨[],e,fun _ _=>rfl⟩⟩
theorem Fr.trans {h h1 h2:Hp} (a:Fr h h1) (b:Fr h1 h2):Fr h h2:=⟨fun e=>b.1 (a.1 e),fun l e=>by
 obtain ⟨l1,e1,f1⟩:=a.2 l e
 obtain ⟨l2,e2,f2⟩:=b.2 _ e1
 exact ⟨l2 ++ l1,by rw [e2,List.append_assoc],fun q hq=>(f2 q (fun g=>hq (List.mem_append_left _ g))).trans (f1 q (fun g=>hq (List.mem_append_right _ g)))⟩⟩
theorem Fr.put (h:Hp) (i:P4) (o:Obj) (n':P4):Fr h (.mk (cH i o h.tree) n' (Lg.add i h.log)):=by
 obtain ⟨t,n,lg⟩:=h
 refine ⟨fun e=>?_,fun l e=>?_⟩
 ·have e:lg=.off:=e
  subst e;rfl
 ·have e:lg=.on l:=e
  subst e
  exact ⟨[i],rfl,fun q hq=>(cW q i o t).trans (if_neg (by simpa using hq))⟩
theorem Fr.set (h:Hp) (i:P4) (o:Obj):Fr h (cG i o h):=Fr.put h i o h.next
structure Step (φ:aJ) (h:Hp) (w:World) (φ':aJ) (h':Hp) (w':World):Prop where
 le:φ.le φ'
 keeps:fx φ h w w'
 new:∀i p,live (aq i h')→φ' i=some p→(live (aq i h)∧φ i=some p)∨w.heap.size≤p.bA∨∃j q,live (aq j h)∧φ j=some q∧q.bA=p.bA
 fr:Fr h h'
theorem Step.refl (φ:aJ) (h:Hp) (w:World):Step φ h w φ h w:=⟨φ.le_refl,.refl _ _ _,fun _ _ a b=>.inl ⟨a,b⟩,.refl _⟩
theorem Step.trans {φ ψ χ:aJ} {h h' h'':Hp} {w w' w'':World} (a:Step φ h w ψ h' w') (b:Step ψ h' w' χ h'' w''):Step φ h w χ h'' w'':=by
 refine ⟨aJ.le_trans a.le b.le,a.keeps.trans b.keeps a.new,fun i p hl hp=>?_,a.fr.trans b.fr⟩
 rcases b.new i p hl hp with ⟨h1,h2⟩|h1|⟨j,q,h1,h2,h3⟩
 ·exact a.new i p h1 h2
 ·exact .inr (.inl (Nat.le_trans a.keeps.size h1))
 ·rcases a.new j q h1 h2 with ⟨g1,g2⟩|g1|⟨l,s,g1,g2,g3⟩
  ·exact .inr (.inr ⟨j,q,g1,g2,h3⟩)
  ·exact .inr (.inl (h3▸g1))
  ·exact .inr (.inr ⟨l,s,g1,g2,g3.trans h3⟩)
def Good (φ:aJ) (h:Hp) (w:World) (v:AV) (h':Hp) (r:Result Value):Prop:=
 ∃cv w' φ',r=.ok cv w'∧VR φ' v cv∧HR φ' h' w'∧Step φ h w φ' h' w'
def vB (φ:aJ) (h:Hp) (w:World) (h':Hp) (r:Result Unit):Prop:=
 ∃w' φ',r=.ok () w'∧HR φ' h' w'∧Step φ h w φ' h' w'
theorem Good.same {φ:aJ} {h:Hp} {w:World} {v:AV} {cv:Value} {r:Result Value} (H:HR φ h w) (hv:VR φ v cv) (hr:r=.ok cv w):Good φ h w v h r:=
 ⟨cv,w,φ,hr,hv,H,.refl _ _ _⟩
theorem RV.av {v v':AV} {h h':Hp} (e:RV.ok v h=RV.ok v' h'):v=v'∧h=h':=by cases e;exact ⟨rfl,rfl⟩
section
variable {n:Nat} {v:AV} {h:Hp} {x:AV}
theorem bn {k:IntKind→Int→RV} (e:AV.dp x k (.err n)=.ok v h):∃kd m,x=.int kd m∧k kd m=.ok v h:=by
 cases x<;>first|exact ⟨_,_,rfl,e⟩|cases e
theorem lz {k:Bool→RV} (e:AV.bE x k (.err n)=.ok v h):∃b,x=.bool b∧k b=.ok v h:=by
 cases x<;>first|exact ⟨_,rfl,e⟩|cases e
theorem cq {k:List Nat→RV} (e:AV.iG x k (.err n)=.ok v h):∃l,x=.str l∧k l=.ok v h:=by
 cases x<;>first|exact ⟨_,rfl,e⟩|cases e
theorem ct {k:P4→Nat→RV} (e:AV.eN x k (.err n)=.ok v h):∃i o,x=.ptr i o∧k i o=.ok v h:=by
 cases x<;>first|exact ⟨_,_,rfl,e⟩|cases e
theorem dk {k:List AV→RV} (e:AV.lO x k (.err n)=.ok v h):∃l,x=.agg l∧k l=.ok v h:=by
 cases x<;>first|exact ⟨_,rfl,e⟩|cases e
theorem yM {k:List AV→RV} (e:AV.Bm x k (.err n)=.ok v h):∃l,x=.eS l∧k l=.ok v h:=by
 cases x<;>first|exact ⟨_,rfl,e⟩|cases e
theorem dX {k:FloatKind→Nat→RV} (e:AV.pQ x k (.err n)=.ok v h):∃a b,x=.gA a b∧k a b=.ok v h:=by
 cases x<;>first|exact ⟨_,_,rfl,e⟩|cases e
theorem fG {k:FloatKind→Nat→Nat→RV} (e:AV.qU x k (.err n)=.ok v h):∃a b c,x=.aM a b c∧k a b c=.ok v h:=by
 cases x<;>first|exact ⟨_,_,_,rfl,e⟩|cases e
theorem eY {k:P4→RV} {d:RV} (e:AV.dR x k d (.err n)=.ok v h):(∃i,x=.map i∧k i=.ok v h)∨(x=.mX∧d=.ok v h):=by
 cases x<;>first|exact .inl ⟨_,rfl,e⟩|exact .inr ⟨rfl,e⟩|cases e
theorem cQ {k k':P4→Nat→Nat→Nat→RV} {d:RV} (e:AV.jj x k k' d (.err n)=.ok v h) :
  (∃i o l c,x=.slice i o l c∧k i o l c=.ok v h)∨(∃i o l c,x=.bZ i o l c∧k' i o l c=.ok v h)∨(x=.aj∧d=.ok v h):=by
 cases x<;>first|exact .inl ⟨_,_,_,_,rfl,e⟩|exact .inr (.inl ⟨_,_,_,_,rfl,e⟩)|exact .inr (.inr ⟨rfl,e⟩)|cases e
theorem aR {o:Obj} {k:Nat→Nat→Bool→Fl→Cl→RV} (e:Obj.br o k (.err n)=.ok v h):∃el m ex fl c,o=.cells el m ex fl c∧k el m ex fl c=.ok v h:=by
 cases o<;>first|exact ⟨_,_,_,_,_,rfl,e⟩|cases e
theorem dE {o:Obj} {k:List KV→Nat→RV} (e:Obj.dR o k (.err n)=.ok v h):∃l c,o=.map l c∧k l c=.ok v h:=by
 cases o<;>first|exact ⟨_,_,rfl,e⟩|cases e
theorem aC {b:Bool} {t:RV} (e:(Bool.rec (.err n) t b:RV)=.ok v h):b=true∧t=.ok v h:=by
 cases b
 ·cases e
 ·exact ⟨rfl,e⟩
theorem cP {k:Nat→RV} (e:eo x k (.err n)=.ok v h):∃kd m,x=.int kd (.ofNat m)∧k m=.ok v h:=by
 obtain ⟨kd,m,rfl,e'⟩:=bn e
 cases m with
 | ofNat m=>exact ⟨kd,m,rfl,e'⟩
 | negSucc m=>cases e'
end
theorem lG {w:World} {p:Place} {o:Nat} {rc:Array Value} {el:TypeId} {fz:Nat×Nat} (h:w.heap[p.bA]?=some (.cells rc el fz)):w.cell? (p.addr o)=rc[p.base+o]?:=by
 simp [World.cell?,Place.addr,h]
theorem HR.cell {φ:aJ} {h:Hp} {w:World} (H:HR φ h w) {i:P4} {p:Place} {el n:Nat} {ex:Bool} {fl:Fl} {c:Cl} {o:Nat}
  (hi:aq i h=.cells el n ex fl c) (hp:φ i=some p) (ho:o < n):∃cv,w.cell? (p.addr o)=some cv∧VR φ (eC o c) cv∧cv.oneCell'=true:=by
 obtain ⟨q,hq,hr⟩:=H.obj i (hi▸aN)
 rw [hp] at hq;cases hq
 rw [hi] at hr
 obtain ⟨rc,fz,h1,h2,h3,h4,h5,h6,h7⟩:=hr
 obtain ⟨cv,a,b,d⟩:=h6 o ho
 exact ⟨cv,by rw [lG h1];exact a,b,d⟩
theorem jF (w:World) (a:Addr) (v:Value):(w.setCell a v).heap.size=w.heap.size:=by simp [World.setCell]
theorem uc (w:World) (a:Addr) (v:Value) {b:Nat} (hb:b≠a.block):(w.setCell a v).heap[b]?=w.heap[b]?:=by
 simp only [World.setCell,Array.getElem?_modify]
 rw [if_neg (fun e=>hb e.symm)]
theorem AX {w:World} {p:Place} {o:Nat} {rc:Array Value} {el:TypeId} {fz:Nat×Nat} (v:Value) (h:w.heap[p.bA]?=some (.cells rc el fz)) :
  (w.setCell (p.addr o) v).heap[p.bA]?=some (.cells (rc.setIfInBounds (p.base+o) v) el fz):=by
 simp only [World.setCell,Array.getElem?_modify,Place.addr]
 simp [h]
theorem HR.store {φ:aJ} {h:Hp} {w:World} (H:HR φ h w) {i:P4} {p:Place} {el n:Nat} {ex:Bool} {fl:Fl} {c:Cl} {o:Nat} {v:AV} {cv:Value}
  (hi:aq i h=.cells el n ex fl c) (hp:φ i=some p) (ho:o < n) (hv:VR φ v cv) (h1:cv.oneCell'=true) :
  HR φ (cG i (.cells el n ex fl (uH o v c)) h) (w.setCell (p.addr o) cv)∧fx φ h w (w.setCell (p.addr o) cv):=by
 have hl:live (aq i h):=hi▸aN
 have hne:∀b,b≠p.bA→(w.setCell (p.addr o) cv).heap[b]?=w.heap[b]?:=fun b hb=>uc w _ cv hb
 refine ⟨H.set hl hp (jF _ _ _) hne ?_ (by simp),fx.set hl hp (jF _ _ _) hne rfl rfl rfl⟩
 obtain ⟨q,hq,hr⟩:=H.obj i hl
 rw [hp] at hq;cases hq
 rw [hi] at hr
 obtain ⟨rc,fz,g1,g2,g3,g4,g5,g6,g7⟩:=hr
 refine ⟨rc.setIfInBounds (p.base+o) cv,fz,AX cv g1,by simpa using g2,g3,g4,by rw [jD];exact g5,fun k hk=>?_,by simpa using g7⟩
 rw [wc c (by omega) (by omega),Array.getElem?_setIfInBounds]
 by_cases e:k=o
 ·subst e
  exact ⟨cv,by rw [if_pos rfl,if_pos (by omega)],by rw [if_pos rfl];exact hv,h1⟩
 ·rw [if_neg (by omega),if_neg e]
  exact g6 k hk
theorem ud {φ:aJ} {h:Hp} {w:World} (H:HR φ h w) {i:P4} {p:Place} {el n:Nat} {ex:Bool} {fl:Fl} {c:Cl} {o:Nat}
  (hi:aq i h=.cells el n ex fl c) (hp:φ i=some p) (ho:o < n) (hf:wr fl=true):w.frozen? (p.addr o)=false:=by
 obtain ⟨q,hq,hr⟩:=H.obj i (hi▸aN)
 rw [hp] at hq;cases hq
 rw [hi] at hr
 obtain ⟨rc,fz,g1,g2,g3,g4,g5,g6,g7⟩:=hr
 simp only [World.frozen?,Place.addr,g1]
 cases fl with
 | plain=>cases g7;simp
 | mark=>
  have:=g7 (p.base+o) (by omega)
  rw [Bool.eq_false_iff]
  intro hh
  have hh':=Bool.and_eq_true_iff.1 hh
  exact this ⟨of_decide_eq_true hh'.1,of_decide_eq_true hh'.2⟩
 | wx=>cases hf
theorem uZ {P:Program} {w:World} {a:Addr} {v:Value} (h:w.cell? a=some v):(load a).run P w=.ok v w:=by
 rw [run_load,h]
theorem gW {P:Program} {w:World} {a:Addr} {v u:Value} (hv:v.oneCell'=true) (h:w.cell? a=some u) (hf:w.frozen? a=false):(store a v).run P w=.ok () (w.setCell a v):=by
 rw [run_store P w a v _ hv,h];simp [hf]
theorem cg (p:Place) (o k:Nat):(p.addr o).add k=p.addr (o+k):=by
 unfold Addr.add Place.addr
 split
 ·rename_i h;subst h;rfl
 ·simp [Nat.add_assoc]
variable {P:Program} {φ:aJ} {h h':Hp} {w:World} {v:AV} {x y z:AO} {r:A2}
theorem kF {i n:Nat} (e:Km i n=true):i < n:=Nat.le_of_ble_eq_true e
theorem ar {t:TypeId} {d:TypeDesc} (hd:P.underlying t=some d) (w:World):(underlying t).run P w=.ok d w:=by
 simp [underlying,hd]
theorem bw {t:TypeId} {d:TypeInfo} (hd:P.info? t=some d) (w:World):(typeInfo t).run P w=.ok d w:=by
 simp [typeInfo,hd]
theorem aU {t:TypeId} {d:TypeInfo} (hd:P.info? t=some d) (w:World):(sizeOf t).run P w=.ok d.size w:=by
 simp [sizeOf,bw hd]
theorem gw {t:TypeId} {d:TypeDesc} (hd:P.underlying t=some d) (w:World):(isAgg t).run P w=.ok (qE P t) w:=by
 simp only [isAgg,Sem.run_bind,ar hd,Result.andThen_ok,qE,jg,hd,Option.getD_some]
 cases d<;>rfl
theorem hR {t:TypeId} {d:TypeDesc} (hd:P.underlying t=some d):∃i,P.info? t=some i:=by
 unfold Program.underlying at hd
 cases hi:P.info? t with
 | some i=>exact ⟨i,rfl⟩
 | none=>rw [hi] at hd;cases hd
theorem cB {t:TypeId} {i:TypeInfo} (hi:P.info? t=some i):bj P t=i.size:=by simp [bj,Program.cellsOf,hi]
theorem HW {cx:Value} (H:HR φ h w) (hx:VR φ (ev x r) cx) {t:TypeId} {d:TypeDesc} (hd:P.underlying t=some d) (ha:qE P t=false)
  (e:iD x r h=.ok v h'):Good φ h w v h' ((Instr.loadAt t cx).run P w):=by
 obtain ⟨i,o,ex,e⟩:=ct e
 rw [ex] at hx
 obtain ⟨el,n,ex,fl,c,hi,e⟩:=aR e
 obtain ⟨hb,e⟩:=aC e
 obtain ⟨rfl,rfl⟩:=RV.av e
 cases hx with
 | ptr _ _ p hp=>
  obtain ⟨cv,h1,h2,h3⟩:=H.cell hi hp (kF hb)
  refine .same H h2 ?_
  simp [Instr.loadAt,Instr.sureAddr,loadVar,gw hd,ha,h1]
theorem mO {a:Addr} {cv u:Value} (h1:cv.oneCell'=true) (hc:w.cell? a=some u) (hf:w.frozen? a=false) :
  (storeCells a [cv]).run P w=.ok () (w.setCell a cv):=by
 have:a.add 0=a:=by simp [Addr.add]
 simp [storeCells,this,gW h1 hc hf]
theorem wi {cv:Value} (h1:cv.oneCell'=true):cv.cells=#[cv]:=by cases cv<;>first|rfl|cases h1
theorem HZ {cx cy:Value} (H:HR φ h w) (hx:VR φ (ev x r) cx) (hy:VR φ (ev y r) cy) {t:TypeId} {i:TypeInfo} (hi:P.info? t=some i) (hs:i.size=1)
  (e:qX x y r h=.ok v h') :
  v=.undef∧vB φ h w h' ((Instr.storeAt t cx cy).run P w):=by
 obtain ⟨i,o,ex,e⟩:=ct e
 rw [ex] at hx
 obtain ⟨el,n,ex,fl,c,hi',e⟩:=aR e
 obtain ⟨hw,e⟩:=aC e
 obtain ⟨hb,e⟩:=aC e
 obtain ⟨rfl,rfl⟩:=RV.av e
 refine ⟨rfl,?_⟩
 obtain ⟨hb,h1⟩:=Bool.and_eq_true_iff.1 hb
 have ho:o < n:=kF hb
 cases hx with
 | ptr _ _ p hp=>
  obtain ⟨u,c1,c2,c3⟩:=H.cell hi' hp ho
  obtain ⟨g1,g2⟩:=H.store hi' hp ho hy (hy.one h1)
  refine ⟨_,φ,?_,g1,φ.le_refl,g2,fun j q hj hq=>?_,.set _ _ _⟩
  ·simp [Instr.storeAt,Instr.sureAddr,storeVar,wi (hy.one h1),aU hi,hs,mO (hy.one h1) c1 (ud H hi' hp ho hw)]
  ·rw [bg] at hj
   by_cases ej:j=i
   ·subst ej;exact .inl ⟨hi'▸aN,hq⟩
   ·rw [if_neg ej] at hj;exact .inl ⟨hj,hq⟩
theorem run_loadCellsFrom {a:Addr}:∀(n i:Nat) (acc:Array Value) (l:List Value),l.length=n→(∀k (hk:k < l.length),w.cell? (a.add (i+k))=some l[k])→
  (loadCellsFrom a i n acc).run P w=.ok (acc ++ l.toArray) w:=by
 intro n
 induction n with
 | zero=>intro i acc l hl _;rw [List.length_eq_zero_iff.1 hl];simp [loadCellsFrom]
 | succ n ih=>
  intro i acc l hl hc
  match l,hl with
  | x::l,hl=>
   have h0:=hc 0 (by simp)
   simp only [Nat.add_zero,List.getElem_cons_zero] at h0
   simp only [loadCellsFrom,Sem.run_bind,uZ h0,Result.andThen_ok]
   rw [ih (i+1) (acc.push x) l (by simpa using hl) ?_]
   ·simp
   ·intro k hk
    have:=hc (k+1) (by simp;omega)
    simpa [Nat.add_assoc,Nat.add_comm 1 k] using this
theorem run_loadCells {a:Addr} {n:Nat} {l:List Value} (hl:l.length=n) (hc:∀k (hk:k < l.length),w.cell? (a.add k)=some l[k]):(loadCells a n).run P w=.ok l.toArray w:=by
 unfold loadCells
 rw [run_loadCellsFrom n 0 #[] l hl (by simpa using hc)]
 simp
theorem HR.values (H:HR φ h w) {i:P4} {p:Place} {el n:Nat} {ex:Bool} {fl:Fl} {c:Cl} (hi:aq i h=.cells el n ex fl c) (hp:φ i=some p) :
  ∀(m o:Nat),o+m≤n→∃l:List Value,l.length=m∧bS φ (bu m c o) l∧(∀x,x∈l→x.oneCell'=true)∧(∀k (hk:k < l.length),w.cell? ((p.addr o).add k)=some l[k]):=by
 intro m
 induction m with
 | zero=>intro o _;exact ⟨[],rfl,.nil,by simp,by simp⟩
 | succ m ih=>
  intro o ho
  obtain ⟨l,h1,h2,h3,h4⟩:=ih (o+1) (by omega)
  obtain ⟨cv,c1,c2,c3⟩:=H.cell hi hp (show o < n by omega)
  refine ⟨cv::l,by simp [h1],.cons _ _ _ _ c2 h2,?_,?_⟩
  ·intro x hx
   cases List.mem_cons.1 hx with
   | inl e=>exact e▸c3
   | inr e=>exact h3 x e
  ·intro k hk
   match k with
   | 0=>simpa [cg] using c1
   | k+1=>
    have:=h4 k (by simpa using hk)
    rw [cg] at this ⊢
    simpa [show o+1+k=o+(k+1) by omega] using this
theorem HV {cx:Value} (H:HR φ h w) (hx:VR φ (ev x r) cx) {t:TypeId} {d:TypeDesc} (hd:P.underlying t=some d) (ha:qE P t=true) {m:Nat} (hm:bj P t=m)
  (e:pU m x r h=.ok v h') :
  Good φ h w v h' ((Instr.loadAt t cx).run P w):=by
 obtain ⟨i,o,ex,e⟩:=ct e
 rw [ex] at hx
 obtain ⟨el,n,ex,fl,c,hi,e⟩:=aR e
 obtain ⟨hb,e⟩:=aC e
 obtain ⟨rfl,rfl⟩:=RV.av e
 obtain ⟨inf,hinf⟩:=hR hd
 cases hx with
 | ptr _ _ p hp=>
  obtain ⟨l,h1,h2,h3,h4⟩:=H.values hi hp m o (by simpa using hb)
  refine .same H (.agg _ l h2 h3) ?_
  have hsz:inf.size=m:=by rw [←cB hinf,hm]
  simp [Instr.loadAt,Instr.sureAddr,loadVar,gw hd,ha,aU hinf,hsz,run_loadCells h1 h4]
theorem kS {i:P4} {p:Place} (hp:φ i=some p) {el n:Nat} {ex:Bool} {fl:Fl} (hf:wr fl=true):∀(l:List AV) (vs:List Value) (h:Hp) (w:World) (c:Cl) (o k:Nat),HR φ h w→aq i h=.cells el n ex fl c→bS φ l vs→(∀x,x∈vs→x.oneCell'=true)→o+k+l.length≤n→
  ∃w',(storeCells (p.addr o) vs k).run P w=.ok () w'∧HR φ (cG i (.cells el n ex fl (fq l (o+k) c)) h) w'∧fx φ h w w':=by
 intro l
 induction l with
 | nil=>
  intro vs h w c o k H hi hl _ _
  cases hl
  refine ⟨w,rfl,?_,.refl _ _ _⟩
  have hl:live (aq i h):=hi▸aN
  obtain ⟨q,hq,hr⟩:=H.obj i hl
  rw [hp] at hq;cases hq
  rw [hi] at hr
  exact H.set hl hp rfl (fun _ _=>rfl) hr (by simp)
 | cons a l ih=>
  intro vs h w c o k H hi hl h1 hn
  cases hl with
  | cons _ x _ xs hx hxs=>
   simp only [List.length_cons] at hn
   have ho:o+k < n:=by omega
   have hx1:=h1 x (by simp)
   obtain ⟨u,c1,c2,c3⟩:=H.cell hi hp ho
   obtain ⟨g1,g2⟩:=H.store hi hp ho hx hx1
   have hi2:aq i (cG i (.cells el n ex fl (uH (o+k) a c)) h)=.cells el n ex fl (uH (o+k) a c):=by rw [bg,if_pos rfl]
   obtain ⟨w',r1,r2,r3⟩:=ih xs _ _ (uH (o+k) a c) o (k+1) g1 hi2 hxs (fun y hy=>h1 y (by simp [hy])) (by omega)
   refine ⟨w',?_,?_,?_⟩
   ·simp only [storeCells,Sem.run_bind,cg,gW hx1 c1 (ud H hi hp ho hf),Result.andThen_ok]
    exact r1
   ·rw [mM]
    have H':=r2
    refine ⟨fun j hj=>?_,fun j m q s hj hm=>?_,fun j hj=>?_,H'.bound⟩
    ·have:=H'.obj j
     simp only [bg] at this hj ⊢
     by_cases e:j=i
     ·simp only [e,if_true] at this hj ⊢;exact this hj
     ·simp only [e,if_false] at this hj ⊢;exact this hj
    ·have:=H'.inj j m q s
     simp only [bg] at this hj hm
     by_cases e:j=i<;>by_cases e':m=i<;>simp only [e,e',if_true,if_false] at this hj hm ⊢<;>exact this hj hm
    ·have:=H'.fresh j
     simp only [bg] at this hj
     by_cases e:j=i<;>simp only [e,if_true,if_false] at this hj ⊢<;>exact this hj
   ·refine g2.trans r3 fun j q hj hq=>?_
    rw [bg] at hj
    by_cases e:j=i
    ·subst e;exact .inl ⟨hi▸aN,hq⟩
    ·rw [if_neg e] at hj;exact .inl ⟨hj,hq⟩
variable {P:Program} {φ:aJ} {h h':Hp} {w:World} {v:AV} {x y z:AO} {r:A2}
theorem xD {c:Value} {a:AV} (e:AN c=some a) (φ:aJ):VR φ a c∧c.oneCell'=true:=by
 unfold AN at e
 split at e<;>cases e<;>refine ⟨?_,rfl⟩
 ·exact .bool _
 ·exact .int _ _
 ·exact .gA _ _
 ·exact .aM _ _ _
 ·exact .str _ _ rfl
 ·exact .dP
 ·exact .aj
 ·exact .mX
 ·exact .fn _ _ [] .nil
 ·exact .qn
 ·exact .qQ
theorem lI (φ:aJ):∀{cs:List Value} {l:List AV},cs.mapM AN=some l→bS φ l cs∧∀c,c∈cs→c.oneCell'=true
 | [],l,e=>by
  simp at e;subst e;exact ⟨.nil,by simp⟩
 | c::cs,l,e=>by
  simp only [List.mapM_cons,Option.pure_def,Option.bind_eq_bind,Option.bind_eq_some_iff,Option.some.injEq] at e
  obtain ⟨a,ha,as,has,rfl⟩:=e
  obtain ⟨h1,h2⟩:=xD ha φ
  obtain ⟨h3,h4⟩:=lI φ has
  refine ⟨.cons _ _ _ _ h1 h3,?_⟩
  intro d hd
  cases List.mem_cons.1 hd with
  | inl e=>exact e▸h2
  | inr e=>exact h4 d e
theorem ny {c:Value} {a:AV} (e:Cj c=some a) (φ:aJ):VR φ a c:=by
 unfold Cj at e
 split at e
 ·rename_i cs
  simp only [Option.map_eq_some_iff] at e
  obtain ⟨l,hl,rfl⟩:=e
  obtain ⟨h1,h2⟩:=lI φ hl
  have:=VR.agg (φ:=φ) l cs.toList h1 h2
  simpa using this
 ·simp only [Option.map_eq_some_iff] at e
  obtain ⟨l,hl,rfl⟩:=e
  exact .iface _ _ _ (xD hl φ).1
 ·exact (xD e φ).1
theorem fg {el n:Nat} {ex:Bool} {fl:Fl} {c:Cl} {k:P4→Hp→RV} (e:oB el ex fl n c h k=.ok v h') :
  n≤bQ c∧aq h.next h=.none∧k h.next (.mk (cH h.next (.cells el n ex fl c) h.tree) h.next.succ (Lg.add h.next h.log))=.ok v h':=by
 obtain ⟨hb,e⟩:=aC e
 exact ⟨Nat.le_of_ble_eq_true hb,gz e⟩
theorem HR.nV (H:HR φ h w) {i n':P4} (hi:aq i h=.none) {rc:Array Value} {el n:Nat} {ex:Bool} {fl:Fl} {fz:Nat×Nat} {c:Cl} (hn:n≤rc.size) (hex:ex=true→n=rc.size)
  (hr:n≤bQ c) (hc:∀k,k < n→∃cv,rc[k]?=some cv∧VR φ (eC k c) cv∧cv.oneCell'=true) (hf:Eg fl fz rc.size) {w':World} (hw:w'.heap=w.heap.push (.cells rc el fz))
  (ht:w'.tape=w.tape) (ho:w'.os=w.os) (hu:w'.output=w.output) :
  HR (φ.put i ⟨w.heap.size,0,rc.size⟩) (.mk (cH i (.cells el n ex fl c) h.tree) n' (Lg.add i h.log)) w'∧Step φ h w (φ.put i ⟨w.heap.size,0,rc.size⟩) (.mk (cH i (.cells el n ex fl c) h.tree) n' (Lg.add i h.log)) w':=by
 have hle:=aJ.fI (φ:=φ) (i:=i) ⟨w.heap.size,0,rc.size⟩ (H.fresh i hi)
 refine ⟨H.new hi hw (by simp) ⟨rc,fz,rfl,by simp,hn,fun e=>⟨rfl,hex e⟩,hr,fun k hk=>?_,hf⟩,hle,.new hw ht ho hu,fun j q hj hq=>?_,.put _ _ _ _⟩
 ·obtain ⟨cv,a,b,d⟩:=hc k hk
  exact ⟨cv,by simpa using a,b.mono hle,d⟩
 ·by_cases e:j=i
  ·subst e
   rw [aJ.aO] at hq;cases hq
   exact .inr (.inl (Nat.le_refl _))
  ·have hg:aq j (.mk (cH i (.cells el n ex fl c) h.tree) n' (Lg.add i h.log))=aq j h:=by
    cases h with
    | mk t m lg=>exact (cW j i _ t).trans (if_neg e)
   rw [hg] at hj
   exact .inl ⟨hj,by simpa [aJ.put,e] using hq⟩
theorem dY (el:TypeId) (cs:Array Value):(newRow el cs).run P w=.ok ⟨w.heap.size,0,none⟩ {w with heap:=w.heap.push (.cells cs el)}:=by
 simp [newRow]
theorem HR.Cv (H:HR φ h w) {i n':P4} (hi:aq i h=.none) {l:List AV} {vs:List Value} (hl:bS φ l vs) (h1:∀c,c∈vs→c.oneCell'=true) {el:Nat} {c:Cl} (hr:l.length≤bQ c)
  (hc:∀k (hk:k < l.length),eC k c=l[k]) :
  HR (φ.put i ⟨w.heap.size,0,vs.length⟩) (.mk (cH i (.cells el l.length true .plain c) h.tree) n' (Lg.add i h.log)) {w with heap:=w.heap.push (.cells vs.toArray el)}∧
   Step φ h w (φ.put i ⟨w.heap.size,0,vs.length⟩) (.mk (cH i (.cells el l.length true .plain c) h.tree) n' (Lg.add i h.log)) {w with heap:=w.heap.push (.cells vs.toArray el)}:=by
 have hlen:=hl.length
 have:=H.nV (n':=n') hi (rc:=vs.toArray) (el:=el) (n:=l.length) (ex:=true) (fl:=.plain) (fz:=(0,0)) (c:=c) (by simp [hlen]) (fun _=>by simp [hlen]) hr
  (fun k hk=>⟨vs[k]'(by omega),by simp,by rw [hc k hk];exact hl.get k hk (by omega),h1 _ (List.getElem_mem _)⟩) rfl (w':={w with heap:=w.heap.push (.cells vs.toArray el)}) rfl rfl rfl rfl
 simpa using this
theorem qJ {i:P4} (e:wt i h=.ok v h'):v=.ptr i 0∧h'=h:=by cases e;exact ⟨rfl,rfl⟩
theorem kT (H:HR φ h w) {l:List AV} {vs:List Value} (hl:bS φ l vs) (h1:∀c,c∈vs→c.oneCell'=true) {el:Nat} {c:Cl}
  (hc:l.length≤bQ c→∀k (hk:k < l.length),eC k c=l[k]) (e:oB el true .plain l.length c h wt=.ok v h') :
  Good φ h w v h' (.ok (.pointer (some ⟨w.heap.size,0,none⟩)) {w with heap:=w.heap.push (.cells vs.toArray el)}):=by
 obtain ⟨hr,hi,e⟩:=fg e
 obtain ⟨rfl,rfl⟩:=qJ e
 obtain ⟨g1,g2⟩:=H.Cv (n':=h.next.succ) hi hl h1 (el:=el) hr (hc hr)
 refine ⟨_,_,_,rfl,?_,g1,g2⟩
 have:=VR.ptr (φ:=φ.put h.next ⟨w.heap.size,0,vs.length⟩) h.next 0 _ (aJ.aO _ _ _)
 simpa [Place.addr] using this
theorem Aa (H:HR φ h w) {t:TypeId} {zs:List AV} (hz:fS P t=some zs) (e:Br t zs.length (lP zs) r h=.ok v h') :
  Good φ h w v h' ((Instr.alloc t true (.tuple #[])).run P w):=by
 unfold fS at hz
 simp only [Option.bind_eq_some_iff] at hz
 obtain ⟨zv,⟨inf,hinf,hzv⟩,hl⟩:=hz
 obtain ⟨g1,g2⟩:=lI φ hl
 have:=kT H g1 g2 (fun hr k hk=>dD zs hr k hk) e
 have hrun:(Instr.alloc t true (.tuple #[])).run P w=.ok (.pointer (some ⟨w.heap.size,0,none⟩)) {w with heap:=w.heap.push (.cells zv.cells t)}:=by
  simp [Instr.alloc,zeroValue,bw hinf,hzv,newVar,dY]
 rw [hrun]
 simpa using this
theorem VR.il {a:AV} {c:Value} (hv:VR φ a c) {l:List AV} (hl:(a=.agg l)∨(a.one=true∧l=[a])):bS φ l c.cells.toList∧∀d,d∈c.cells.toList→d.oneCell'=true:=by
 rcases hl with rfl|⟨h1,rfl⟩
 ·cases hv with
  | agg _ vs hvs ho=>exact ⟨by simpa [Value.cells] using hvs,by simpa [Value.cells] using ho⟩
 ·have:=hv.one h1
  rw [wi this]
  exact ⟨.cons _ _ _ _ hv .nil,by simpa using this⟩
theorem alx {a:AV} {f:List AV→RV} {g:RV} {e:RV} (he:(OL.rec g f a.asAgg:RV)=e):(∃l,a=.agg l∧f l=e)∨((∀l,a≠.agg l)∧g=e):=by
 cases a<;>first|exact .inl ⟨_,rfl,he⟩|exact .inr ⟨fun l=>by simp,he⟩
theorem HT {cx:Value} (H:HR φ h w) (hx:VR φ (ev x r) cx) {t:TypeId} (e:yc t x r h=.ok v h'):Good φ h w v h' ((Instr.box t cx).run P w):=by
 have hrun:(Instr.box t cx).run P w=.ok (.pointer (some ⟨w.heap.size,0,none⟩)) {w with heap:=w.heap.push (.cells cx.cells t)}:=by
  simp [Instr.box,newVar,dY]
 rw [hrun]
 rcases alx e with ⟨l,hl,e⟩|⟨_,e⟩
 ·obtain ⟨g1,g2⟩:=hx.il (.inl hl)
  simpa using kT H g1 g2 (fun hr k hk=>dD l hr k hk) e
 ·obtain ⟨h1,e⟩:=aC e
  obtain ⟨g1,g2⟩:=hx.il (.inr ⟨h1,rfl⟩)
  simpa using kT H g1 g2 (fun hr k hk=>dD _ hr k hk) e
theorem HY {cx cy:Value} (H:HR φ h w) (hx:VR φ (ev x r) cx) (hy:VR φ (ev y r) cy) {t:TypeId} {i:TypeInfo} (hi:P.info? t=some i) {m:Nat} (hm:bj P t=m)
  (e:yd m x y r h=.ok v h'):v=.undef∧vB φ h w h' ((Instr.storeAt t cx cy).run P w):=by
 obtain ⟨j,o,ex,e⟩:=ct e
 rw [ex] at hx
 obtain ⟨el,n,ex,fl,c,hj,e⟩:=aR e
 obtain ⟨hw,e⟩:=aC e
 obtain ⟨hb,e⟩:=aC e
 obtain ⟨l,ey,e⟩:=dk e
 rw [ey] at hy
 obtain ⟨hlen,e⟩:=aC e
 obtain ⟨rfl,rfl⟩:=RV.av e
 refine ⟨rfl,?_⟩
 have hle:o+m≤n:=Nat.le_of_ble_eq_true hb
 have hlm:l.length=m:=Nat.eq_of_beq_eq_true hlen
 cases hx with
 | ptr _ _ p hp=>
  cases hy with
  | agg _ vs hvs ho=>
   obtain ⟨w',r1,r2,r3⟩:=kS (P:=P) hp hw l vs h w c o 0 H hj hvs ho (by omega)
   refine ⟨w',φ,?_,r2,φ.le_refl,r3,fun k q hk hq=>?_,.set _ _ _⟩
   ·have hsz:i.size=vs.length:=by rw [←cB hi,hm,←hlm,hvs.length]
    simp only [Instr.storeAt,Instr.sureAddr,storeVar,Value.cells]
    simp [aU hi,hsz,r1]
   ·rw [bg] at hk
    by_cases ek:k=j
    ·subst ek;exact .inl ⟨hj▸aN,hq⟩
    ·rw [if_neg ek] at hk;exact .inl ⟨hk,hq⟩
variable {P:Program} {φ:aJ} {h h':Hp} {w:World} {v:AV} {x y z:AO} {r:A2}
theorem Cw (a b:Int):ahE a b=a+b:=by cases a<;>cases b<;>rfl
theorem Cx (a:Int):ahF a = -a:=by
 cases a with
 | ofNat m=>cases m<;>rfl
 | negSucc m=>rfl
theorem Cy (a b:Int):Lo a b=a * b:=by cases a<;>cases b<;>rfl
theorem RA (a b:Int):ahG a b=a.tdiv b:=by cases a<;>cases b<;>rfl
theorem RB (a b:Int):ahH a b=a.tmod b:=by cases a<;>cases b<;>rfl
theorem JQ (a b:Int):ile a b=decide (a≤b):=by
 cases a with
 | ofNat m=>cases b with
  | ofNat n=>show Nat.ble m n=_;rw [Bool.eq_iff_iff,Nat.ble_eq];simp
  | negSucc n=>show false=_;symm;simp;omega
 | negSucc m=>cases b with
  | ofNat n=>show true=_;symm;simp;omega
  | negSucc n=>show Nat.ble n m=_;rw [Bool.eq_iff_iff,Nat.ble_eq];simp;omega
theorem xE (a b:Int):Lp a b=decide (a < b):=by
 cases a with
 | ofNat m=>cases b with
  | ofNat n=>show Nat.ble (m+1) n=_;rw [Bool.eq_iff_iff,Nat.ble_eq];simp;omega
  | negSucc n=>show false=_;symm;simp;omega
 | negSucc m=>cases b with
  | ofNat n=>show true=_;symm;simp;omega
  | negSucc n=>show Nat.ble (n+1) m=_;rw [Bool.eq_iff_iff,Nat.ble_eq];simp;omega
theorem kJ (a b:Int):uI a b=decide (a=b):=by
 cases a with
 | ofNat m=>cases b with
  | ofNat n=>show Nat.beq m n=_;rw [Bool.eq_iff_iff,Nat.beq_eq];simp;omega
  | negSucc n=>show false=_;symm;simp
 | negSucc m=>cases b with
  | ofNat n=>show false=_;symm;simp
  | negSucc n=>show Nat.beq m n=_;rw [Bool.eq_iff_iff,Nat.beq_eq];simp
theorem Cz (k:IntKind) (top:Nat) (n:Int) (hk:∀m:Int,-(top:Int) - 1≤m→m≤top→k.wrap m=m):wS k top n=k.wrap n:=by
 cases n with
 | ofNat m=>
  show (Bool.rec _ _ (Nat.ble m top):Int)=_
  cases hb:Nat.ble m top
  ·rfl
  ·have:m≤top:=Nat.le_of_ble_eq_true hb
   show Int.ofNat m=k.wrap (Int.ofNat m)
   exact (hk _ (by simp;omega) (by simp;omega)).symm
 | negSucc m=>
  show (Bool.rec _ _ (Nat.ble m top):Int)=_
  cases hb:Nat.ble m top
  ·rfl
  ·have:m≤top:=Nat.le_of_ble_eq_true hb
   show Int.negSucc m=k.wrap (Int.negSucc m)
   exact (hk _ (by omega) (by omega)).symm
theorem CB (k:IntKind) (size:Nat) (n:Int) (hk:∀m:Nat,k.wrap (m:Int)=((m % size:Nat):Int)):wU k size n=k.wrap n:=by
 cases n with
 | ofNat m=>exact (hk m).symm
 | negSucc m=>rfl
theorem eF (k:IntKind) (n:Int):iE k n=k.wrap n:=by
 cases k
 ·exact Cz _ _ _ (fun m h1 h2=>by simp only [IntKind.wrap,IntKind.bits,IntKind.signed];simp;split<;>omega)
 ·exact Cz _ _ _ (fun m h1 h2=>by simp only [IntKind.wrap,IntKind.bits,IntKind.signed];simp;split<;>omega)
 ·exact Cz _ _ _ (fun m h1 h2=>by simp only [IntKind.wrap,IntKind.bits,IntKind.signed];simp;split<;>omega)
 ·exact Cz _ _ _ (fun m h1 h2=>by simp only [IntKind.wrap,IntKind.bits,IntKind.signed];simp;split<;>omega)
 ·exact CB _ _ _ (fun m=>by simp only [IntKind.wrap,IntKind.bits,IntKind.signed];simp)
 ·exact CB _ _ _ (fun m=>by simp only [IntKind.wrap,IntKind.bits,IntKind.signed];simp)
 ·exact CB _ _ _ (fun m=>by simp only [IntKind.wrap,IntKind.bits,IntKind.signed];simp)
 ·exact CB _ _ _ (fun m=>by simp only [IntKind.wrap,IntKind.bits,IntKind.signed];simp)
theorem gH {a b:IntKind} (h:mY a b=true):a=b:=by cases a<;>cases b<;>first|rfl|cases h
theorem IQ {f:IntKind→Int→Int→AV} {a b:AV} (e:Bo f a b h=.ok v h'):∃k m n,a=.int k m∧b=.int k n∧v=f k m n∧h'=h:=by
 obtain ⟨k,m,ea,e1⟩:=bn e
 obtain ⟨k',n,eb,e2⟩:=bn e1
 obtain ⟨hk,e3⟩:=aC e2
 subst ea eb
 obtain ⟨rfl,rfl⟩:=RV.av e3
 obtain rfl:=gH hk
 exact ⟨k,m,n,rfl,rfl,rfl,rfl⟩
theorem CC {a:AV} (e:ahM a h=.ok v h'):a=v∧h'=h∧a≠.undef:=by
 cases a<;>first|(cases e;exact ⟨rfl,rfl,by simp⟩)|cases e
theorem IU {f:IntKind→Int→Int→AV} {a b:AV} (e:Ls f a b h=.ok v h'):∃k m n,a=.int k m∧b=.int k n∧v=f k m n∧h'=h∧v≠.undef:=by
 obtain ⟨k,m,ea,e1⟩:=bn e
 obtain ⟨k',n,eb,e2⟩:=bn e1
 obtain ⟨hk,e3⟩:=aC e2
 subst ea eb
 obtain ⟨g1,g2,g3⟩:=CC e3
 obtain rfl:=gH hk
 exact ⟨k,m,n,rfl,rfl,g1.symm,g2,g1▸g3⟩
theorem VR.aW {k:IntKind} {n:Int} {c:Value} (hv:VR φ (.int k n) c):c=.int k n:=by cases hv;rfl
theorem VR.cJ {b:Bool} {c:Value} (hv:VR φ (.bool b) c):c=.bool b:=by cases hv;rfl
theorem VR.cR {l:List Nat} {c:Value} (hv:VR φ (.str l) c):∃s:ByteArray,c=.string s∧l=s.data.toList.map UInt8.toNat:=by cases hv;exact ⟨_,rfl,by assumption⟩
theorem eH {op:BinOp} {t:TypeId} {p q:Operand} {k k':IntKind} {m n:Int}:(eqGuard op t p q (.int k m) (.int k' n)).run P w=.ok () w:=by
 unfold eqGuard
 cases op<;>simp
section
variable {t:TypeId} {p q:Operand} {cx cy:Value}
theorem kU {f:IntKind→Int→Int→AV} {op:BinOp} (H:HR φ h w) {a b:AV} (hx:VR φ a cx) (hy:VR φ b cy) (e:Bo f a b h=.ok v h')
  (hf:∀k m n,∃c,(binOp op t (.int k m) (.int k n)).run P w=.ok c w∧VR φ (f k m n) c):Good φ h w v h' ((do eqGuard op t p q cx cy;binOp op t cx cy:Sem Value).run P w):=by
 obtain ⟨k,m,n,rfl,rfl,rfl,rfl⟩:=IQ e
 rw [hx.aW,hy.aW]
 obtain ⟨c,h1,h2⟩:=hf k m n
 refine .same H h2 ?_
 simp [eH,h1]
theorem pL {f:IntKind→Int→Int→AV} {op:BinOp} (H:HR φ h w) {a b:AV} (hx:VR φ a cx) (hy:VR φ b cy) (e:Ls f a b h=.ok v h')
  (hf:∀k m n,f k m n≠.undef→∃c,(binOp op t (.int k m) (.int k n)).run P w=.ok c w∧VR φ (f k m n) c):Good φ h w v h' ((do eqGuard op t p q cx cy;binOp op t cx cy:Sem Value).run P w):=by
 obtain ⟨k,m,n,rfl,rfl,rfl,rfl,hu⟩:=IU e
 rw [hx.aW,hy.aW]
 obtain ⟨c,h1,h2⟩:=hf k m n hu
 refine .same H h2 ?_
 simp [eH,h1]
theorem Hf (H:HR φ h w) {a b:AV} (hx:VR φ a cx) (hy:VR φ b cy) (e:jS a b h=.ok v h'):Good φ h w v h' ((do eqGuard .add t p q cx cy;binOp .add t cx cy:Sem Value).run P w):=
 kU H hx hy e fun k m n=>⟨.int k (k.wrap (m+n)),by simp [binOp,Op.intArith],by rw [eF,Cw];exact .int _ _⟩
theorem Hg (H:HR φ h w) {a b:AV} (hx:VR φ a cx) (hy:VR φ b cy) (e:EL a b h=.ok v h'):Good φ h w v h' ((do eqGuard .sub t p q cx cy;binOp .sub t cx cy:Sem Value).run P w):=
 kU H hx hy e fun k m n=>⟨.int k (k.wrap (m - n)),by simp [binOp,Op.intArith],by rw [eF,Cw,Cx,←Int.sub_eq_add_neg];exact .int _ _⟩
theorem Hh (H:HR φ h w) {a b:AV} (hx:VR φ a cx) (hy:VR φ b cy) (e:vf a b h=.ok v h'):Good φ h w v h' ((do eqGuard .mul t p q cx cy;binOp .mul t cx cy:Sem Value).run P w):=
 kU H hx hy e fun k m n=>⟨.int k (k.wrap (m * n)),by simp [binOp,Op.intArith],by rw [eF,Cy];exact .int _ _⟩
theorem Hi (H:HR φ h w) {a b:AV} (hx:VR φ a cx) (hy:VR φ b cy) (e:TC a b h=.ok v h'):Good φ h w v h' ((do eqGuard .quo t p q cx cy;binOp .quo t cx cy:Sem Value).run P w):=by
 refine pL H hx hy e fun k m n hu=>?_
 rw [kJ] at hu ⊢
 by_cases hz:n=0
 ·subst hz;exact absurd rfl hu
 ·have:decide (n=Int.ofNat 0)=false:=by simpa using hz
  rw [this]
  exact ⟨.int k (k.wrap (m.tdiv n)),by simp [binOp,Op.intDiv,hz],by show VR φ (.int k (iE k (ahG m n))) _;rw [eF,RA];exact .int _ _⟩
theorem Hj (H:HR φ h w) {a b:AV} (hx:VR φ a cx) (hy:VR φ b cy) (e:Ey a b h=.ok v h'):Good φ h w v h' ((do eqGuard .rem t p q cx cy;binOp .rem t cx cy:Sem Value).run P w):=by
 refine pL H hx hy e fun k m n hu=>?_
 rw [kJ] at hu ⊢
 by_cases hz:n=0
 ·subst hz;exact absurd rfl hu
 ·have:decide (n=Int.ofNat 0)=false:=by simpa using hz
  rw [this]
  exact ⟨.int k (m.tmod n),by simp [binOp,Op.intDiv,hz],by show VR φ (.int k (ahH m n)) _;rw [RB];exact .int _ _⟩
theorem JR (b:Nat) (m:Nat):(BitVec.ofInt b (Int.ofNat m)).toNat=m % 2 ^ b:=by
 simp only [BitVec.toNat_ofInt,Int.ofNat_eq_natCast]
 rw [show ((2 ^ b:Nat):Int)=(2 ^ b:Nat) from rfl,←Int.natCast_emod,Int.toNat_natCast]
theorem qM (k:IntKind):jU k=k.bits:=by cases k<;>rfl
theorem pM {f:Nat→Nat→Nat} {op:BinOp} {g:∀b,BitVec b→BitVec b→BitVec b} (hg:∀b (m n:BitVec b),(g b m n).toNat=f m.toNat n.toNat)
  (hop:∀k m n,(binOp op t (.int k m) (.int k n)).run P w=.ok (.int k (k.wrap (g k.bits (BitVec.ofInt k.bits m) (BitVec.ofInt k.bits n)).toNat)) w)
  (H:HR φ h w) {a b:AV} (hx:VR φ a cx) (hy:VR φ b cy) (e:Ls (Bn f) a b h=.ok v h'):Good φ h w v h' ((do eqGuard op t p q cx cy;binOp op t cx cy:Sem Value).run P w):=by
 refine pL H hx hy e fun k m n hu=>⟨_,hop k m n,?_⟩
 cases m with
 | negSucc m=>exact absurd rfl hu
 | ofNat m=>cases n with
  | negSucc n=>exact absurd rfl hu
  | ofNat n=>
   show VR φ (.int k (iE k (.ofNat (f (m % 2 ^ jU k) (n % 2 ^ jU k))))) _
   rw [eF,hg,JR,JR,qM]
   exact .int _ _
theorem Hk (H:HR φ h w) {a b:AV} (hx:VR φ a cx) (hy:VR φ b cy) (e:vi a b h=.ok v h'):Good φ h w v h' ((do eqGuard .and t p q cx cy;binOp .and t cx cy:Sem Value).run P w):=
 pM (g:=fun _ m n=>m &&& n) (fun b m n=>by simp) (fun k m n=>by simp [binOp,Op.intBits]) H hx hy e
theorem Qc (H:HR φ h w) {a b:AV} (hx:VR φ a cx) (hy:VR φ b cy) (e:anG a b h=.ok v h'):Good φ h w v h' ((do eqGuard .or t p q cx cy;binOp .or t cx cy:Sem Value).run P w):=
 pM (g:=fun _ m n=>m ||| n) (fun b m n=>by simp) (fun k m n=>by simp [binOp,Op.intBits]) H hx hy e
theorem Hl (H:HR φ h w) {a b:AV} (hx:VR φ a cx) (hy:VR φ b cy) (e:pT a b h=.ok v h'):Good φ h w v h' ((do eqGuard .xor t p q cx cy;binOp .xor t cx cy:Sem Value).run P w):=
 pM (g:=fun _ m n=>m ^^^ n) (fun b m n=>by simp) (fun k m n=>by simp [binOp,Op.intBits]) H hx hy e
theorem CY (H:HR φ h w) {a b:AV} (hx:VR φ a cx) (hy:VR φ b cy) (e:FN a b h=.ok v h'):Good φ h w v h' ((do eqGuard .andNot t p q cx cy;binOp .andNot t cx cy:Sem Value).run P w):=
 kU H hx hy e fun k m n=>⟨_,by simp [binOp,Op.intBits],.int _ _⟩
theorem ja {op:BinOp} {f:Int→Int→Bool} (hop:∀m n:Int,(Op.intCmp op m n).run P w=.ok (.bool (f m n)) w) (hb:∀k (m n:Int),binOp op t (.int k m) (.int k n)=Op.intCmp op m n)
  (H:HR φ h w) {a b:AV} (hx:VR φ a cx) (hy:VR φ b cy) (e:Bo (fun _ m n=>.bool (f m n)) a b h=.ok v h'):Good φ h w v h' ((do eqGuard op t p q cx cy;binOp op t cx cy:Sem Value).run P w):=
 kU H hx hy e fun k m n=>⟨_,by rw [hb];exact hop m n,.bool _⟩
theorem Qd (H:HR φ h w) {a b:AV} (hx:VR φ a cx) (hy:VR φ b cy) (e:zI a b h=.ok v h'):Good φ h w v h' ((do eqGuard .eql t p q cx cy;binOp .eql t cx cy:Sem Value).run P w):=
 ja (f:=uI) (fun m n=>by rw [kJ];rfl) (fun k m n=>by simp [binOp]) H hx hy e
theorem Qe (H:HR φ h w) {a b:AV} (hx:VR φ a cx) (hy:VR φ b cy) (e:dH a b h=.ok v h'):Good φ h w v h' ((do eqGuard .neq t p q cx cy;binOp .neq t cx cy:Sem Value).run P w):=
 ja (f:=fun m n=>Bool.not (uI m n)) (fun m n=>by rw [kJ];rfl) (fun k m n=>by simp [binOp]) H hx hy e
theorem Qf (H:HR φ h w) {a b:AV} (hx:VR φ a cx) (hy:VR φ b cy) (e:xW a b h=.ok v h'):Good φ h w v h' ((do eqGuard .lss t p q cx cy;binOp .lss t cx cy:Sem Value).run P w):=
 ja (f:=Lp) (fun m n=>by rw [xE];rfl) (fun k m n=>by simp [binOp]) H hx hy e
theorem Qg (H:HR φ h w) {a b:AV} (hx:VR φ a cx) (hy:VR φ b cy) (e:Ev a b h=.ok v h'):Good φ h w v h' ((do eqGuard .leq t p q cx cy;binOp .leq t cx cy:Sem Value).run P w):=
 ja (f:=ile) (fun m n=>by rw [JQ];rfl) (fun k m n=>by simp [binOp]) H hx hy e
theorem Qh (H:HR φ h w) {a b:AV} (hx:VR φ a cx) (hy:VR φ b cy) (e:lK a b h=.ok v h'):Good φ h w v h' ((do eqGuard .gtr t p q cx cy;binOp .gtr t cx cy:Sem Value).run P w):=
 ja (f:=fun m n=>Lp n m) (fun m n=>by rw [xE];rfl) (fun k m n=>by simp [binOp]) H hx hy e
theorem Qi (H:HR φ h w) {a b:AV} (hx:VR φ a cx) (hy:VR φ b cy) (e:qW a b h=.ok v h'):Good φ h w v h' ((do eqGuard .geq t p q cx cy;binOp .geq t cx cy:Sem Value).run P w):=
 ja (f:=fun m n=>ile n m) (fun m n=>by rw [JQ];rfl) (fun k m n=>by simp [binOp]) H hx hy e
end
variable {P:Program} {φ:aJ} {h h':Hp} {w:World} {v:AV} {x y z:AO} {r:A2}
theorem tf:∀(a b:List Nat),jV a b=decide (a=b)
 | [],[]=>rfl
 | [],_::_=>rfl
 | _::_,[]=>rfl
 | x::a,y::b=>by
  show (Bool.rec false (jV a b) (Nat.beq x y):Bool)=_
  rw [tf a b,show Nat.beq x y=decide (x=y) by rw [Bool.eq_iff_iff,Nat.beq_eq];simp]
  by_cases hxy:x=y
  ·subst hxy;simp
  ·simp [hxy]
theorem kV:∀(a b:List UInt8),vh (a.map UInt8.toNat) (b.map UInt8.toNat)=Op.bytesLess a b
 | [],[]=>rfl
 | [],_::_=>rfl
 | _::_,[]=>rfl
 | x::a,y::b=>by
  show (Bool.rec (Nat.ble x.toNat y.toNat) (vh (a.map UInt8.toNat) (b.map UInt8.toNat)) (Nat.beq x.toNat y.toNat):Bool)=(decide (x < y) || (x == y&&Op.bytesLess a b))
  rw [kV a b,show Nat.beq x.toNat y.toNat=decide (x.toNat=y.toNat) by rw [Bool.eq_iff_iff,Nat.beq_eq];simp]
  by_cases hxy:x=y
  ·subst hxy;simp
  ·have h1:x.toNat≠y.toNat:=fun e=>hxy (UInt8.toNat_inj.1 e)
   have h2:(x == y)=false:=by simpa using hxy
   rw [h2]
   simp only [h1,decide_false,Bool.false_and,Bool.or_false]
   rw [Bool.eq_iff_iff,Nat.ble_eq]
   simp only [decide_eq_true_eq,UInt8.lt_iff_toNat_lt]
   omega
theorem vd {a b:List UInt8}:a.map UInt8.toNat=b.map UInt8.toNat↔a=b:=by
 constructor
 ·intro e
  exact (List.map_inj_right (fun _ _ h=>UInt8.toNat_inj.1 h)).1 e
 ·rintro rfl;rfl
theorem fZ (a b:ByteArray):jV (a.data.toList.map UInt8.toNat) (b.data.toList.map UInt8.toNat)=(a.toList == b.toList):=by
 rw [tf,ByteArray.toList_eq,ByteArray.toList_eq,Bool.eq_iff_iff,decide_eq_true_eq,beq_iff_eq,vd]
theorem eM:∀(a b:List UInt8),(!Op.bytesLess b a)=(Op.bytesLess a b || a == b)
 | [],[]=>rfl
 | [],_::_=>rfl
 | _::_,[]=>rfl
 | x::a,y::b=>by
  show (!(decide (y < x) || (y == x&&Op.bytesLess b a)))=((decide (x < y) || (x == y&&Op.bytesLess a b)) || (x::a == y::b))
  have ih:=eM a b
  by_cases hxy:x=y
  ·subst hxy
   have:¬ x < x:=by simp
   simpa [this] using ih
  ·have h2:(x == y)=false:=by simpa using hxy
   have h3:(y == x)=false:=by simpa using fun e=>hxy e.symm
   have h4:(x::a == y::b)=false:=by simp [hxy]
   rw [h2,h3,h4]
   simp only [Bool.false_and,Bool.or_false]
   rw [Bool.eq_iff_iff]
   have:x.toNat≠y.toNat:=fun e=>hxy (UInt8.toNat_inj.1 e)
   simp only [Bool.not_eq_true',decide_eq_false_iff_not,decide_eq_true_eq,UInt8.lt_iff_toNat_lt]
   omega
theorem IV {f:List Nat→List Nat→AV} {a b:AV} (e:Lt f a b h=.ok v h'):∃k m,a=.str k∧b=.str m∧v=f k m∧h'=h:=by
 obtain ⟨k,rfl,e1⟩:=cq e
 obtain ⟨m,rfl,e2⟩:=cq e1
 obtain ⟨rfl,rfl⟩:=RV.av e2
 exact ⟨k,m,rfl,rfl,rfl,rfl⟩
theorem jL {op:BinOp} {t:TypeId} {p q:Operand} {a b:ByteArray}:(eqGuard op t p q (.string a) (.string b)).run P w=.ok () w:=by
 unfold eqGuard
 cases op<;>simp
section
variable {t:TypeId} {p q:Operand} {cx cy:Value}
theorem jb {f:List Nat→List Nat→AV} {op:BinOp} (H:HR φ h w) {a b:AV} (hx:VR φ a cx) (hy:VR φ b cy) (e:Lt f a b h=.ok v h')
  (hf:∀s u:ByteArray,∃c,(binOp op t (.string s) (.string u)).run P w=.ok c w∧VR φ (f (s.data.toList.map UInt8.toNat) (u.data.toList.map UInt8.toNat)) c):Good φ h w v h' ((do eqGuard op t p q cx cy;binOp op t cx cy:Sem Value).run P w):=by
 obtain ⟨k,m,rfl,rfl,rfl,rfl⟩:=IV e
 obtain ⟨s,rfl,rfl⟩:=hx.cR
 obtain ⟨u,rfl,rfl⟩:=hy.cR
 obtain ⟨c,h1,h2⟩:=hf s u
 refine .same H h2 ?_
 simp [jL,h1]
theorem Ho (H:HR φ h w) {a b:AV} (hx:VR φ a cx) (hy:VR φ b cy) (e:bN a b h=.ok v h'):Good φ h w v h' ((do eqGuard .eql t p q cx cy;binOp .eql t cx cy:Sem Value).run P w):=
 jb H hx hy e fun s u=>⟨.bool (s.toList == u.toList),by simp [binOp,Op.stringOp],by rw [fZ];exact .bool _⟩
theorem Hq (H:HR φ h w) {a b:AV} (hx:VR φ a cx) (hy:VR φ b cy) (e:Bq a b h=.ok v h'):Good φ h w v h' ((do eqGuard .neq t p q cx cy;binOp .neq t cx cy:Sem Value).run P w):=
 jb H hx hy e fun s u=>⟨.bool (!(s.toList == u.toList)),by simp [binOp,Op.stringOp],by rw [fZ];exact .bool _⟩
theorem Hr (H:HR φ h w) {a b:AV} (hx:VR φ a cx) (hy:VR φ b cy) (e:Ew a b h=.ok v h'):Good φ h w v h' ((do eqGuard .lss t p q cx cy;binOp .lss t cx cy:Sem Value).run P w):=
 jb H hx hy e fun s u=>⟨.bool (Op.bytesLess s.toList u.toList),by simp [binOp,Op.stringOp],by rw [kV,ByteArray.toList_eq,ByteArray.toList_eq];exact .bool _⟩
theorem Ht (H:HR φ h w) {a b:AV} (hx:VR φ a cx) (hy:VR φ b cy) (e:TE a b h=.ok v h'):Good φ h w v h' ((do eqGuard .gtr t p q cx cy;binOp .gtr t cx cy:Sem Value).run P w):=
 jb H hx hy e fun s u=>⟨.bool (!(Op.bytesLess s.toList u.toList || s.toList == u.toList)),by simp [binOp,Op.stringOp],by
  rw [kV,ByteArray.toList_eq,ByteArray.toList_eq,←eM,Bool.not_not];exact .bool _⟩
theorem Hs (H:HR φ h w) {a b:AV} (hx:VR φ a cx) (hy:VR φ b cy) (e:TD a b h=.ok v h'):Good φ h w v h' ((do eqGuard .leq t p q cx cy;binOp .leq t cx cy:Sem Value).run P w):=
 jb H hx hy e fun s u=>⟨.bool (Op.bytesLess s.toList u.toList || s.toList == u.toList),by simp [binOp,Op.stringOp],by
  rw [kV,ByteArray.toList_eq,ByteArray.toList_eq,←eM];exact .bool _⟩
theorem Hu (H:HR φ h w) {a b:AV} (hx:VR φ a cx) (hy:VR φ b cy) (e:TF a b h=.ok v h'):Good φ h w v h' ((do eqGuard .geq t p q cx cy;binOp .geq t cx cy:Sem Value).run P w):=
 jb H hx hy e fun s u=>⟨.bool (!Op.bytesLess s.toList u.toList),by simp [binOp,Op.stringOp],by
  rw [kV,ByteArray.toList_eq,ByteArray.toList_eq];exact .bool _⟩
theorem Hv (H:HR φ h w) {a b:AV} (hx:VR φ a cx) (hy:VR φ b cy) (e:db a b h=.ok v h'):Good φ h w v h' ((do eqGuard .add t p q cx cy;binOp .add t cx cy:Sem Value).run P w):=by
 obtain ⟨k,rfl,e1⟩:=cq e
 obtain ⟨m,rfl,e2⟩:=cq e1
 obtain ⟨hb,e3⟩:=aC e2
 obtain ⟨rfl,rfl⟩:=RV.av e3
 obtain ⟨s,rfl,rfl⟩:=hx.cR
 obtain ⟨u,rfl,rfl⟩:=hy.cR
 have hle:=Nat.le_of_ble_eq_true hb
 simp only [List.length_map,Array.length_toList,Nat.add_eq] at hle
 refine .same H (.str (s ++ u) _ ?_) (cv:=.string (s ++ u)) ?_
 ·simp
 ·have:(binOp .add t (.string s) (.string u)).run P w=.ok (.string (s ++ u)) w:=by
   rw [binOp_string_add]
   exact run_string_add_sum w s u (by have h1:s.size=s.data.size:=rfl;have h2:u.size=u.data.size:=rfl;omega)
  simp [jL,this]
end
theorem IP {neg:Bool} {b:EB} (e:EB.rv neg h b=.ok v h'):h'=h∧((b=.yes∧v=.bool (!neg))∨(b=.no∧v=.bool neg)):=by
 cases b
 ·cases e;exact ⟨rfl,.inl ⟨rfl,rfl⟩⟩
 ·cases e;exact ⟨rfl,.inr ⟨rfl,rfl⟩⟩
 ·cases e
theorem od {a b:H}:mZ a b=true↔a=b:=by cases a<;>cases b<;>simp [mZ,H.nat]
theorem ef {a b:P4}:jM a b=true↔a=b:=by
 obtain ⟨a1,a2,a3,a4⟩:=a
 obtain ⟨b1,b2,b3,b4⟩:=b
 show (Bool.rec false (Bool.rec false (Bool.rec false (mZ a1 b1) (mZ a2 b2)) (mZ a3 b3)) (mZ a4 b4):Bool)=true↔_
 rw [P4.mk.injEq,←od,←od,←od,←od]
 cases mZ a1 b1<;>cases mZ a2 b2<;>cases mZ a3 b3<;>cases mZ a4 b4<;>simp
variable {P:Program} {φ:aJ} {h h':Hp} {w:World} {v:AV} {x y z:AO} {r:A2}
theorem VR.jc {c:Value} (hv:VR φ .dP c):c=.pointer none:=by cases hv;rfl
theorem VR.fj {i:P4} {o:Nat} {c:Value} (hv:VR φ (.ptr i o) c):∃p,φ i=some p∧c=.pointer (some (p.addr o)):=by cases hv;exact ⟨_,by assumption,rfl⟩
theorem qh {o:Obj} (e:eT o=true):∃el n ex c,o=.cells el n ex .plain c:=by
 cases o with
 | cells el n ex fl c=>cases fl with
  | plain=>exact ⟨_,_,_,_,rfl⟩
  | mark=>cases e
  | wx=>cases e
 | _=>cases e
theorem HR.plain (H:HR φ h w) {i:P4} {p:Place} {el n:Nat} {ex:Bool} {c:Cl} (hi:aq i h=.cells el n ex .plain c) (hp:φ i=some p):∃rc,w.heap[p.bA]?=some (.cells rc el (0,0)):=by
 obtain ⟨q,hq,hr⟩:=H.obj i (hi▸aN)
 rw [hp] at hq;cases hq
 rw [hi] at hr
 obtain ⟨rc,fz,g1,g2,g3,g4,g5,g6,g7⟩:=hr
 exact ⟨rc,by rw [g1];simp only [Eg] at g7;rw [g7]⟩
theorem mP {a b:Addr} {ra rb:Array Value} {ea eb:TypeId} (ha:w.heap[a.block]?=some (.cells ra ea (0,0))) (hb:w.heap[b.block]?=some (.cells rb eb (0,0))) (hne:a.block≠b.block) :
  (sameAddr a b).run P w=.ok false w:=by
 have h1:(a.block == b.block)=false:=by simpa using hne
 have fa:∀o s,w.frozen? ⟨a.block,o,s⟩=false:=fun o s=>by simp [World.frozen?,ha]
 have fb:∀o s,w.frozen? ⟨b.block,o,s⟩=false:=fun o s=>by simp [World.frozen?,hb]
 have fa':w.frozen? a=false:=by obtain ⟨x,y,z⟩:=a;exact fa y z
 have fb':w.frozen? b=false:=by obtain ⟨x,y,z⟩:=b;exact fb y z
 have sa:w.shape? a.block=some (ea,ra.size):=by simp [World.shape?,ha]
 have sb:w.shape? b.block=some (eb,rb.size):=by simp [World.shape?,hb]
 simp [sameAddr,h1,fa',fb',noView,viewAt,sa,sb,mayBeOne,stringish,fa,fb]
theorem qu (d:Nat) {t e:TypeId} {x y:AV} {cx cy:Value} (H:HR φ h w) (hx:VR φ x cx) (hy:VR φ y cy) (ht:P.underlying t=some (.pointer e)) {ie:TypeInfo} (hi:P.info? e=some ie) (hs:ie.size≠0) {b:Bool}
  (hb:eqP h x y=EB.of b):(Op.equalIn (d+1) t cx cy).run P w=.ok b w:=by
 cases x with
 | dP=>
  rw [hx.jc]
  cases y with
  | dP=>rw [hy.jc];cases b<;>cases hb;simp [Op.equalIn,ar ht]
  | ptr j q=>obtain ⟨p,h1,rfl⟩:=hy.fj;cases b<;>cases hb;simp [Op.equalIn,ar ht]
  | _=>cases b<;>cases hb
 | ptr i o=>
  obtain ⟨p,h1,rfl⟩:=hx.fj
  cases y with
  | dP=>rw [hy.jc];cases b<;>cases hb;simp [Op.equalIn,ar ht]
  | ptr j q=>
   obtain ⟨p',h2,rfl⟩:=hy.fj
   change (Bool.rec (Bool.rec EB.bad (Bool.rec EB.bad EB.no (eT (aq j h))) (eT (aq i h))) (EB.of (Nat.beq o q)) (jM i j):EB)=EB.of b at hb
   cases hij:jM i j with
   | true=>
    rw [hij] at hb
    obtain rfl:=ef.1 hij
    rw [h1] at h2;cases h2
    have hb':b=decide (o=q):=by
     have:Nat.beq o q=decide (o=q):=by rw [Bool.eq_iff_iff,Nat.beq_eq];simp
     rw [←this]
     cases b<;>cases hq:Nat.beq o q<;>rw [hq] at hb<;>first|rfl|cases hb
    subst hb'
    simp only [Op.equalIn,Sem.run_bind,ar ht,Result.andThen_ok,aU hi,Place.addr,sameAddr]
    simp [hs]
    by_cases e:o=q<;>simp [e]
   | false=>
    rw [hij] at hb
    cases hp1:eT (aq i h) with
    | false=>rw [hp1] at hb;cases b<;>cases hb
    | true=>
     cases hp2:eT (aq j h) with
     | false=>rw [hp1,hp2] at hb;cases b<;>cases hb
     | true=>
      rw [hp1,hp2] at hb
      obtain ⟨el,n,ex,c,g1⟩:=qh hp1
      obtain ⟨el',n',ex',c',g2⟩:=qh hp2
      obtain ⟨ra,ha⟩:=H.plain g1 h1
      obtain ⟨rb,hb'⟩:=H.plain g2 h2
      have hne:p.bA≠p'.bA:=H.inj i j p p' (g1▸aN) (g2▸aN) (fun e=>by rw [ef.2 e] at hij;cases hij) h1 h2
      have hbf:b=false:=by cases b;rfl;cases hb
      subst hbf
      simp only [Op.equalIn,Sem.run_bind,ar ht,Result.andThen_ok,aU hi]
      simp [hs,mP (P:=P) (a:=p.addr o) (b:=p'.addr q) ha hb' hne]
  | _=>cases b<;>cases hb
 | _=>cases b<;>cases hb
def KOK (P:Program) (k:KK) (t:TypeId):Prop:=match k with
 | .b=>P.underlying t=some .bool
 | .i=>∃k,P.underlying t=some (.int k)
 | .s=>P.underlying t=some .string
 | .p=>∃e ie,P.underlying t=some (.pointer e)∧P.info? e=some ie∧ie.size≠0
theorem ei {a b:Bool} (e:EB.of a=EB.of b):a=b:=by cases a<;>cases b<;>first|rfl|cases e
theorem jG (d:Nat) {k:KK} {t:TypeId} {a c:AV} {ca cc:Value} (H:HR φ h w) (hx:VR φ a ca) (hy:VR φ c cc) (hk:KOK P k t) {b:Bool} (hb:Kn k h a c=EB.of b) :
  (Op.equalIn (d+1) t ca cc).run P w=.ok b w:=by
 cases k with
 | b=>
  cases a<;>(try (cases b<;>cases hb;done))
  rename_i m
  cases c<;>(try (cases b<;>cases hb;done))
  rename_i n
  rw [hx.cJ,hy.cJ,run_equalIn_bool' _ _ _ _ _ hk]
  have:=ei (show EB.of (eK m n)=EB.of b from hb)
  subst this
  cases m<;>cases n<;>rfl
 | i=>
  obtain ⟨kk,hk⟩:=hk
  cases a<;>(try (cases b<;>cases hb;done))
  rename_i k1 m
  cases c<;>(try (cases b<;>cases hb;done))
  rename_i k2 n
  change (Bool.rec EB.bad (EB.of (uI m n)) (mY k1 k2):EB)=_ at hb
  cases hq:mY k1 k2 with
  | false=>rw [hq] at hb;cases b<;>cases hb
  | true=>
   rw [hq] at hb
   obtain rfl:=gH hq
   rw [hx.aW,hy.aW,run_equalIn_int _ _ _ _ _ _ _ hk]
   have:=ei (show EB.of (uI m n)=EB.of b from hb)
   subst this
   rw [kJ];rfl
 | s=>
  cases a<;>(try (cases b<;>cases hb;done))
  rename_i m
  cases c<;>(try (cases b<;>cases hb;done))
  rename_i n
  obtain ⟨s,rfl,rfl⟩:=hx.cR
  obtain ⟨u,rfl,rfl⟩:=hy.cR
  rw [run_equalIn_string _ _ _ _ _ hk]
  have:=ei (show EB.of (jV _ _)=EB.of b from hb)
  subst this
  rw [fZ]
 | p=>
  obtain ⟨e,ie,h1,h2,h3⟩:=hk
  exact qu d H hx hy h1 h2 h3 hb
variable {P:Program} {φ:aJ} {h h':Hp} {w:World} {v:AV} {x y z:AO} {r:A2}
theorem zn {t:TypeId} {k:KK} (e:Ck P t=some k):KOK P k t:=by
 unfold Ck at e
 split at e
 ·cases e;assumption
 ·cases e;exact ⟨_,by assumption⟩
 ·cases e;assumption
 ·rename_i e' he
  split at e
  ·rename_i ie hie
   split at e
   ·cases e
   ·cases e;exact ⟨_,ie,he,hie,by assumption⟩
  ·cases e
 ·cases e
theorem KOK.jg {k:KK} {t:TypeId} (hk:KOK P k t):∃d,P.underlying t=some d∧qE P t=false:=by
 cases k with
 | b=>exact ⟨_,hk,by simp [qE,Am.jg,(show P.underlying t=some .bool from hk)]⟩
 | i=>obtain ⟨kk,hk⟩:=hk;exact ⟨_,hk,by simp [qE,Am.jg,hk]⟩
 | s=>exact ⟨_,hk,by simp [qE,Am.jg,(show P.underlying t=some .string from hk)]⟩
 | p=>obtain ⟨e,ie,hk,_⟩:=hk;exact ⟨_,hk,by simp [qE,Am.jg,hk]⟩
theorem gu {t:TypeId} {d:TypeDesc} (hd:P.underlying t=some d) (ha:qE P t=false) {cs:Array Value} {o:Nat} {c:Value} (hc:cs[o]?=some c):(part t cs o).run P w=.ok c w:=by
 simp [part,gw hd,ha,hc]
theorem xF (d:Nat) (H:HR φ h w) {xs ys:Array Value}:∀(fs:List Field) (i:Nat) (ks:List KK) (as bs:List AV) (vs ws:List Value),lW P fs i=some ks→bS φ as vs→bS φ bs ws→
  (∀k (hk:k < vs.length),xs[i+k]?=some vs[k])→(∀k (hk:k < ws.length),ys[i+k]?=some ws[k])→∀b,ya ks h as bs=EB.of b→(Op.eqFields (d+1) xs ys fs).run P w=.ok b w:=by
 intro fs
 induction fs with
 | nil=>
  intro i ks as bs vs ws hf ha hb _ _ b he
  cases hf
  cases ha with
  | nil=>cases hb with
   | nil=>cases b<;>cases he;rfl
   | cons=>cases b<;>cases he
  | cons=>cases b<;>cases he
 | cons f fs ih=>
  intro i ks as bs vs ws hf ha hb hxs hys b he
  unfold lW at hf
  split at hf
  ·cases hf
  ·rename_i hn
   split at hf
   ·rename_i k ks' hk hks
    cases hf
    have hname:f.name≠ "_" :=fun e=>hn (.inl e)
    have hoff:f.offset=i:=by
     rcases Nat.decEq f.offset i with e|e
     ·exact absurd (.inr e) hn
     ·exact e
    cases ha with
    | nil=>cases b<;>cases he
    | cons a va as vs hva hvs=>
     cases hb with
     | nil=>cases b<;>cases he
     | cons c vc bs ws hvc hws=>
      have hK:=zn hk
      obtain ⟨dd,hd,hag⟩:=hK.jg
      have p1:=gu (w:=w) hd hag (show xs[f.offset]?=some va by rw [hoff];exact hxs 0 (by simp))
      have p2:=gu (w:=w) hd hag (show ys[f.offset]?=some vc by rw [hoff];exact hys 0 (by simp))
      change (EB.rec (ya ks' h as bs) (EB.rec .no .no .bad (ya ks' h as bs)) .bad (Kn k h a c):EB)=EB.of b at he
      have ih':=ih (i+1) ks' as bs vs ws hks hvs hws (fun k hk=>by have:=hxs (k+1) (by simp;omega);simpa [Nat.add_assoc,Nat.add_comm 1 k] using this) (fun k hk=>by have:=hys (k+1) (by simp;omega);simpa [Nat.add_assoc,Nat.add_comm 1 k] using this)
      cases hq:Kn k h a c with
      | yes=>
       rw [hq] at he
       have e1:=jG (P:=P) d H hva hvc hK (b:=true) hq
       simp [Op.eqFields,hname,p1,p2,e1,ih' b he]
      | no=>
       rw [hq] at he
       have e1:=jG (P:=P) d H hva hvc hK (b:=false) hq
       have:b=false:=by cases hz:ya ks' h as bs<;>rw [hz] at he<;>cases b<;>first|rfl|cases he
       subst this
       simp [Op.eqFields,hname,p1,p2,e1]
      | bad=>rw [hq] at he;cases b<;>cases he
   ·cases hf
theorem jd (d:Nat) (H:HR φ h w) {t:TypeId} {ks:List KK} (hk:tV P t=some ks) {as bs:List AV} {vs ws:List Value} (ha:bS φ as vs) (hb:bS φ bs ws) {b:Bool} (he:ya ks h as bs=EB.of b) :
  (Op.equalIn (d+2) t (.agg vs.toArray) (.agg ws.toArray)).run P w=.ok b w:=by
 unfold tV at hk
 split at hk
 ·rename_i fs hfs
  split at hk
  ·cases hk
  ·rename_i hst
   have hF:P.fieldsOf t=fs:=by simp [Program.fieldsOf,hfs]
   rw [run_equalIn_struct w (d+1) t _ _ (by rw [hF];exact hfs) (by simpa using hst),hF]
   exact xF d H fs.toList 0 ks as bs vs ws hk ha hb (by simp) (by simp) b he
 ·cases hk
theorem og {neg:Bool} {b:EB} (e:EB.rv neg h b=.ok v h'):∃c,b=EB.of c∧v=.bool (c != neg)∧h'=h:=by
 cases b
 ·cases e;exact ⟨true,rfl,by cases neg<;>rfl,rfl⟩
 ·cases e;exact ⟨false,rfl,by cases neg<;>rfl,rfl⟩
 ·cases e
section
variable {t:TypeId} {p q:Operand} {cx cy:Value}
theorem fk {op:BinOp} (hx:∀cs,cx≠.agg cs) (hy:cx≠.nilIface):(eqGuard op t p q cx cy).run P w=.ok () w:=by
 unfold eqGuard
 cases op<;>simp<;>cases cx<;>first|rfl|simp_all
theorem eG {b:Bool} (hs:(Op.equalIn 10000 t cx cy).run P w=.ok b w) (hx:∀k n,cx≠.int k n) (hf:∀k n,cx≠.float k n) (hc:∀k m n,cx≠.complex k m n) (hu:∀s,cx≠.string s) :
  (binOp .eql t cx cy).run P w=.ok (.bool b) w∧(binOp .neq t cx cy).run P w=.ok (.bool (!b)) w:=by
 have e1:binOp .eql t cx cy=(do pure (.bool (←Op.equal t cx cy)):Sem Value):=by
  cases cx<;>first|exact absurd rfl (hx _ _)|exact absurd rfl (hf _ _)|exact absurd rfl (hc _ _ _)|exact absurd rfl (hu _)|(cases cy<;>rfl)
 have e2:binOp .neq t cx cy=(do pure (.bool (!(←Op.equal t cx cy))):Sem Value):=by
  cases cx<;>first|exact absurd rfl (hx _ _)|exact absurd rfl (hf _ _)|exact absurd rfl (hc _ _ _)|exact absurd rfl (hu _)|(cases cy<;>rfl)
 rw [e1,e2]
 simp [Op.equal,Op.maxDepth,hs]
theorem yt (neg:Bool) (H:HR φ h w) {a b:AV} (hx:VR φ a cx) (hy:VR φ b cy) (ht:P.underlying t=some .bool) (e:EB.rv neg h (eqB a b)=.ok v h') :
  Good φ h w v h' ((do eqGuard (if neg then .neq else .eql) t p q cx cy;binOp (if neg then .neq else .eql) t cx cy:Sem Value).run P w):=by
 obtain ⟨c,hc,rfl,rfl⟩:=og e
 have hr:=jG (P:=P) (t:=t) 9999 (k:=.b) H hx hy ht hc
 have hb:∃m,cx=.bool m:=by
  cases a<;>(try (cases c<;>cases hc;done))
  exact ⟨_,hx.cJ⟩
 obtain ⟨m,rfl⟩:=hb
 obtain ⟨g1,g2⟩:=eG hr (by simp) (by simp) (by simp) (by simp)
 refine .same H (.bool _) ?_
 cases neg
 ·simp [fk,g1]
 ·simp [fk,g2]
theorem yu (neg:Bool) (H:HR φ h w) {a b:AV} (hx:VR φ a cx) (hy:VR φ b cy) (ht:KOK P .p t) (e:EB.rv neg h (eqP h a b)=.ok v h') :
  Good φ h w v h' ((do eqGuard (if neg then .neq else .eql) t p q cx cy;binOp (if neg then .neq else .eql) t cx cy:Sem Value).run P w):=by
 obtain ⟨c,hc,rfl,rfl⟩:=og e
 have hr:=jG (P:=P) (t:=t) 9999 (k:=.p) H hx hy ht hc
 have hb:∃m,cx=.pointer m:=by
  cases a<;>(try (cases c<;>cases hc;done))
  ·obtain ⟨_,_,e⟩:=hx.fj;exact ⟨_,e⟩
  ·exact ⟨_,hx.jc⟩
 obtain ⟨m,rfl⟩:=hb
 obtain ⟨g1,g2⟩:=eG hr (by simp) (by simp) (by simp) (by simp)
 refine .same H (.bool _) ?_
 cases neg
 ·simp [fk,g1]
 ·simp [fk,g2]
theorem VR.fO {l:List AV} {c:Value} (hv:VR φ (.agg l) c):∃vs:List Value,c=.agg vs.toArray∧bS φ l vs∧∀d,d∈vs→d.oneCell'=true:=by cases hv;exact ⟨_,rfl,by assumption,by assumption⟩
theorem yv (neg:Bool) (H:HR φ h w) {a b:AV} (hx:VR φ a cx) (hy:VR φ b cy) {ks:List KK} (ht:tV P t=some ks) (hg:P.eqGuardType P.depth t=false) (e:yb neg ks a b h=.ok v h') :
  Good φ h w v h' ((do eqGuard (if neg then .neq else .eql) t p q cx cy;binOp (if neg then .neq else .eql) t cx cy:Sem Value).run P w):=by
 obtain ⟨as,rfl,e1⟩:=dk e
 obtain ⟨bs,rfl,e2⟩:=dk e1
 obtain ⟨c,hc,rfl,rfl⟩:=og e2
 obtain ⟨vs,rfl,hvs,_⟩:=hx.fO
 obtain ⟨ws,rfl,hws,_⟩:=hy.fO
 have hr:=jd (P:=P) 9998 H ht hvs hws hc
 obtain ⟨g1,g2⟩:=eG hr (by simp) (by simp) (by simp) (by simp)
 refine .same H (.bool _) ?_
 cases neg
 ·simp [run_eqGuard_agg _ _ _ _ _ _ _ hg,g1]
 ·simp [run_eqGuard_agg _ _ _ _ _ _ _ hg,g2]
end
variable {t0:TypeId} {P:Program} {φ:aJ} {h h':Hp} {w:World} {v:AV} {x y z:AO} {r:A2} {cx cy:Value}
theorem VR.RC {l:List AV} {c:Value} (hv:VR φ (.eS l) c):∃vs:List Value,c=.tuple vs.toArray∧bS φ l vs:=by cases hv;exact ⟨_,rfl,by assumption⟩
theorem Ib (H:HR φ h w) {a:AV} (hx:VR φ a cx) (e:cZ a h=.ok v h'):Good φ h w v h' ((Op.unary .not cx).run P w):=by
 obtain ⟨b,rfl,e1⟩:=lz e
 obtain ⟨rfl,rfl⟩:=RV.av e1
 rw [hx.cJ]
 exact .same H (.bool _) rfl
theorem Ia (H:HR φ h w) {a:AV} (hx:VR φ a cx) (e:Bl a h=.ok v h'):Good φ h w v h' ((Op.unary .neg cx).run P w):=by
 obtain ⟨k,n,rfl,e1⟩:=bn e
 obtain ⟨rfl,rfl⟩:=RV.av e1
 rw [hx.aW]
 refine .same H (cv:=.int k (k.wrap (-n))) (by rw [eF,Cx];exact .int _ _) ?_
 simp [Op.unary,Op.intArith]
theorem Ic (H:HR φ h w) {a:AV} (hx:VR φ a cx) (e:vj a h=.ok v h'):Good φ h w v h' ((Op.unary .xor cx).run P w):=by
 obtain ⟨k,n,rfl,e1⟩:=bn e
 obtain ⟨rfl,rfl⟩:=RV.av e1
 rw [hx.aW]
 exact .same H (.int _ _) (by simp [Op.unary,Op.intBits])
theorem Dl {cc ca cb:Value} (H:HR φ h w) {c a b:AO} (hc:VR φ (ev c r) cc) (ha:VR φ (ev a r) ca) (hb:VR φ (ev b r) cb) (e:eJ c a b r h=.ok v h') :
  Good φ h w v h' ((do pure (if←asBool cc then ca else cb):Sem Value).run P w):=by
 obtain ⟨t,et,e1⟩:=lz e
 obtain ⟨rfl,rfl⟩:=RV.av e1
 rw [et] at hc
 rw [hc.cJ]
 cases t
 ·exact .same H hb (by simp [asBool])
 ·exact .same H ha (by simp [asBool])
theorem drop_cons {α:Type} {l t:List α} {i:Nat} {a:α} (e:l.drop i=a::t):∃hi:i < l.length,l[i]=a:=by
 have hi:i < l.length:=by
  rcases Nat.lt_or_ge i l.length with g|g
  ·exact g
  ·rw [List.drop_of_length_le g] at e;cases e
 refine ⟨hi,?_⟩
 rw [List.drop_eq_getElem_cons hi] at e
 exact (List.cons.inj e).1
theorem xG {α:Type} {l:List α} {n:Nat} {k:α→RV} (e:(List.rec (.err n) (fun a _ _=>k a) l:RV)=.ok v h):∃a t,l=a::t∧k a=.ok v h:=by
 cases l with
 | nil=>cases e
 | cons a t=>exact ⟨a,t,rfl,e⟩
theorem Iw (H:HR φ h w) {i:Nat} (hx:VR φ (ev x r) cx) (e:vl i x r h=.ok v h'):Good φ h w v h' ((Instr.extract cx i).run P w):=by
 obtain ⟨l,el,e1⟩:=yM e
 obtain ⟨a,t,ed,e2⟩:=xG (k:=fun v=>.ok v h) e1
 obtain ⟨rfl,rfl⟩:=RV.av e2
 rw [el] at hx
 obtain ⟨vs,rfl,hvs⟩:=hx.RC
 obtain ⟨hi,ha⟩:=drop_cons ed
 have hi':i < vs.length:=by rw [←hvs.length];exact hi
 refine .same H (cv:=vs[i]) (by rw [←ha];exact hvs.get i hi hi') ?_
 simp [Instr.extract,hi']
theorem Dn (H:HR φ h w) (hx:VR φ (ev x r) cx) (e:oD x r h=.ok v h'):v=ev x r∧h'=h∧(cx≠.pointer none∧cx≠.nilIface∧cx≠.nilFunc):=by
 change (OP.rec (qm (ev x r) h) (fun i o=>.ok (.ptr i o) h) (ev x r).ft:RV)=_ at e
 generalize ev x r=a at hx e
 cases hx<;>first
  | (cases e;exact ⟨rfl,rfl,by simp,by simp,by simp⟩)
  | (cases e;done)
theorem Ik (H:HR φ h w) (hx:VR φ (ev x r) cx) {t:TypeId} {fs:Array Field} {f:Nat} {fd:Field} {ie:TypeInfo} (ht:P.underlying t=some (.struct fs)) (hf:fs[f]?=some fd) (hi:P.info? fd.type=some ie) (hs:ie.size≠0)
  (e:qO fd.offset x r h=.ok v h'):Good φ h w v h' ((Instr.fieldAt t cx f).run P w):=by
 obtain ⟨i,o,ep,e1⟩:=ct e
 obtain ⟨rfl,rfl⟩:=RV.av e1
 rw [ep] at hx
 obtain ⟨p,hp,rfl⟩:=hx.fj
 refine .same H (.ptr i (o+fd.offset) p hp) ?_
 simp [Instr.fieldAt,ar ht,hf,Instr.sureAddr,fieldPlace,aU hi,hs,cg]
theorem wj {k:IntKind} {m:Nat} {n:Nat} (hm:m < n):(0:Int)≤(Int.ofNat m)∧(Int.ofNat m) < (n:Int):=⟨by simp,by simp;omega⟩
theorem Im (H:HR φ h w) (hx:VR φ (ev x r) cx) (hy:VR φ (ev y r) cy) {t e:TypeId} {n:Nat} {ie:TypeInfo} (ht:P.underlying t=some (.array n e)) (hi:P.info? e=some ie)
  (he:vk n ie.size x y r h=.ok v h'):Good φ h w v h' ((Instr.indexAt t cx cy).run P w):=by
 obtain ⟨kd,m,em,e1⟩:=cP he
 obtain ⟨i,o,ep,e2⟩:=ct e1
 obtain ⟨hb,e3⟩:=aC e2
 obtain ⟨rfl,rfl⟩:=RV.av e3
 rw [ep] at hx
 rw [em] at hy
 obtain ⟨p,hp,rfl⟩:=hx.fj
 rw [hy.aW]
 have hm:=kF hb
 refine .same H (.ptr i (o+m * ie.size) p hp) ?_
 have:(0:Int)≤Int.ofNat m∧Int.ofNat m < (n:Int):=wj (k:=kd) hm
 simp only [Instr.indexAt,asIntOf,Sem.run_bind,Sem.run_pure,Result.andThen_ok,ar ht,Instr.sureAddr]
 simp [this.2,aU hi,cg,hm]
theorem Io (H:HR φ h w) (hx:VR φ (ev x r) cx) (hy:VR φ (ev y r) cy) {t e:TypeId} {ie:TypeInfo} (ht:P.underlying t=some (.slice e)) (hi:P.info? e=some ie)
  (he:qP ie.size x y r h=.ok v h'):Good φ h w v h' ((Instr.indexAt t cx cy).run P w):=by
 obtain ⟨kd,m,em,e1⟩:=cP he
 rw [em] at hy
 rw [hy.aW]
 rcases cQ e1 with ⟨i,o,n,c,es,e2⟩|⟨i,o,n,c,es,e2⟩|⟨es,e2⟩
 ·obtain ⟨hb,e3⟩:=aC e2
  obtain ⟨rfl,rfl⟩:=RV.av e3
  rw [es] at hx
  have hm:=kF hb
  cases hx with
  | slice _ _ _ _ p hp=>
   refine .same H (.ptr i (o+m * ie.size) p hp) ?_
   simp only [Instr.indexAt,asIntOf,Sem.run_bind,Sem.run_pure,Result.andThen_ok,ar ht]
   simp [aU hi,cg,hm]
 ·obtain ⟨hb,e3⟩:=aC e2
  obtain ⟨rfl,rfl⟩:=RV.av e3
  rw [es] at hx
  have hm:=kF hb
  cases hx with
  | bZ _ _ _ _ cc p a hp h1 h2 h3 h4 h5 h6=>
   have ha:a=p.addr o:=by
    obtain ⟨ab,ao,as⟩:=a
    simp only at h3 h4 h5
    have:=h5 (by omega)
    subst h3 h4 this
    rfl
   subst ha
   refine .same H (.ptr i (o+m * ie.size) p hp) ?_
   simp only [Instr.indexAt,asIntOf,Sem.run_bind,Sem.run_pure,Result.andThen_ok,ar ht]
   simp [aU hi,cg,hm]
 ·cases e2
theorem Dt (H:HR φ h w) (hx:VR φ (ev x r) cx) (hy:VR φ (ev y r) cy) {t:TypeId} (ht:P.underlying t=some .string) (he:gj x y r h=.ok v h'):Good φ h w v h' ((Instr.index t cx cy).run P w):=by
 obtain ⟨kd,m,em,e1⟩:=cP he
 obtain ⟨l,el,e2⟩:=cq e1
 obtain ⟨b,tl,ed,e3⟩:=xG (k:=fun b=>.ok (.int .u8 (.ofNat b)) h) e2
 obtain ⟨rfl,rfl⟩:=RV.av e3
 rw [el] at hx
 rw [em] at hy
 rw [hy.aW]
 obtain ⟨s,rfl,rfl⟩:=hx.cR
 obtain ⟨hi,hb⟩:=drop_cons ed
 have hm:m < s.size:=by simpa using hi
 refine .same H (cv:=.int .u8 (s[m]).toNat) ?_ ?_
 ·have:b=(s[m]).toNat:=by rw [←hb];simp;rfl
  rw [this];exact .int _ _
 ·simp only [Instr.index,asIntOf,Sem.run_bind,Sem.run_pure,Result.andThen_ok,ar ht]
  simp [ByteArray.getElem?_lt' s m hm]
theorem HK {ts:Array TypeId} (hts:ts[0]?=some t0) (H:HR φ h w) {a:AV} (hx:VR φ a cx) {ty:TypeId} (ht:∃e,P.underlying t0=some (.slice e)) (e:len a h=.ok v h'):Good φ h w v h' ((Builtin.len_ ts ty #[cx]).run P w):=by
 obtain ⟨e',ht'⟩:=ht
 rcases cQ e with ⟨i,o,n,c,rfl,e1⟩|⟨i,o,n,c,rfl,e1⟩|⟨rfl,e1⟩
 ·obtain ⟨rfl,rfl⟩:=RV.av e1
  cases hx
  exact .same H (cv:=goInt n) (.int _ _) (by simp [Builtin.len_,hts,ar ht'])
 ·obtain ⟨rfl,rfl⟩:=RV.av e1
  cases hx
  exact .same H (cv:=goInt n) (.int _ _) (by simp [Builtin.len_,hts,ar ht'])
 ·obtain ⟨rfl,rfl⟩:=RV.av e1
  cases hx
  exact .same H (cv:=goInt 0) (.int _ _) (by simp [Builtin.len_,hts,ar ht'])
theorem Df {ts:Array TypeId} (hts:ts[0]?=some t0) (H:HR φ h w) {a:AV} (hx:VR φ a cx) {ty:TypeId} (ht:P.underlying t0=some .string) (e:gi a h=.ok v h'):Good φ h w v h' ((Builtin.len_ ts ty #[cx]).run P w):=by
 obtain ⟨l,rfl,e1⟩:=cq e
 obtain ⟨rfl,rfl⟩:=RV.av e1
 obtain ⟨s,rfl,rfl⟩:=hx.cR
 refine .same H (cv:=goInt s.size) ?_ ?_
 ·simp only [gZ,goInt,List.length_map,Array.length_toList];exact .int _ _
 ·simp [Builtin.len_,hts,ar ht]
theorem zY (H:HR φ h w) {a:AV} (hx:VR φ a cx) {s d:TypeId} {k k':IntKind} (hs:P.underlying s=some (.int k')) (hd:P.underlying d=some (.int k)) (e:wB k a h=.ok v h'):Good φ h w v h' ((convert s d cx).run P w):=by
 obtain ⟨k1,n,rfl,e1⟩:=bn e
 obtain ⟨rfl,rfl⟩:=RV.av e1
 rw [hx.aW]
 refine .same H (cv:=.int k (k.wrap n)) (by rw [eF];exact .int _ _) ?_
 simp [convert,ar hs,ar hd,Conv.intToInt]
variable {P:Program} {φ:aJ} {h h':Hp} {w:World} {v:AV} {x y z:AO} {r:A2} {cx cy:Value}
theorem xH:∀(l:List AV) (i:Nat) (a:AV),Ly l i a=l.set i a
 | [],i,a=>by cases i<;>rfl
 | x::l,0,a=>rfl
 | x::l,i+1,a=>by
  show x::Ly l i a=_
  rw [xH l i a];rfl
theorem ue (a:AV) (as:List AV) (i:Nat) (l:List AV):na (a::as) i l=na as (i+1) (Ly l i a):=rfl
theorem bS.set {φ:aJ}:∀{as:List AV} {vs:List Value} (i:Nat) {a:AV} {c:Value},bS φ as vs→VR φ a c→bS φ (as.set i a) (vs.set i c)
 | _,_,_,_,_,.nil,_=>.nil
 | _,_,0,_,_,.cons _ _ _ _ _ es,h=>.cons _ _ _ _ h es
 | _,_,i+1,_,_,.cons _ _ _ _ e es,h=>.cons _ _ _ _ e (bS.set i es h)
def qv:List Value→Nat→List Value→List Value
 | [],_,l=>l
 | c::cs,i,l=>qv cs (i+1) (l.set i c)
theorem uf:∀(cs:List Value) (k off:Nat) (acc:Array Value),(cs.zipIdx k).foldl (fun a (p:Value×Nat)=>a.setIfInBounds (off+p.2) p.1) acc=(qv cs (off+k) acc.toList).toArray
 | [],_,_,acc=>by simp [qv]
 | c::cs,k,off,acc=>by
  simp only [List.zipIdx_cons,List.foldl_cons,qv]
  rw [uf cs (k+1) off]
  simp [Nat.add_assoc]
theorem bS.qv {φ:aJ}:∀{as:List AV} {cs:List Value} (i:Nat) {bs:List AV} {ds:List Value},bS φ as cs→bS φ bs ds→bS φ (na as i bs) (Am.qv cs i ds)
 | _,_,_,_,_,.nil,h=>h
 | _,_,i,_,_,.cons a c as cs e es,h=>by
  rw [ue,xH]
  exact bS.qv (i+1) es (h.set i e)
theorem qi:∀(cs:List Value) (i:Nat) (l:List Value),(qv cs i l).length=l.length
 | [],_,_=>rfl
 | c::cs,i,l=>by rw [qv,qi];simp
theorem zo:∀(cs:List Value) (i:Nat) (l:List Value),(∀c,c∈cs→c.oneCell'=true)→(∀c,c∈l→c.oneCell'=true)→∀c,c∈qv cs i l→c.oneCell'=true
 | [],_,_,_,hl=>hl
 | c::cs,i,l,hc,hl=>by
  refine zo cs (i+1) (l.set i c) (fun d hd=>hc d (by simp [hd])) fun d hd=>?_
  rcases List.mem_or_eq_of_mem_set hd with g|g
  ·exact hl d g
  ·exact g▸hc c (by simp)
def tW (φ:aJ) (r:A2) (place:Nat→Option (Nat×Nat)) (p:Part) (q:Nat×Value):Prop:=match p with
 | .mk off sz x=>place q.1=some (off,sz)∧VR φ (ev x r) q.2
theorem Eh {p:Part} {ps:List Part} (e:fits (p::ps) r=true):(∃off sz x,p=.mk off sz x∧((∃l,ev x r=.agg l∧l.length=sz)∨((ev x r).one=true∧sz=1)))∧fits ps r=true:=by
  obtain ⟨off,sz,x⟩:=p
  change (OL.rec (Bool.rec false (fits ps r) (Bool.and (ev x r).one (Nat.beq sz 1))) (fun l=>Bool.rec false (fits ps r) (Nat.beq l.length sz)) (ev x r).asAgg:Bool)=true at e
  cases hx:ev x r<;>rw [hx] at e
  case agg l=>
    cases hb:Nat.beq l.length sz
    · simp [AV.asAgg,hb] at e
    · simp [AV.asAgg,hb] at e
      exact ⟨⟨off,sz,x,rfl,.inl ⟨l,hx,Nat.eq_of_beq_eq_true hb⟩⟩,e⟩
  all_goals
    simp only [AV.asAgg,AV.one] at e
    first
      | (simp at e;done)
      | (cases hb : Nat.beq sz 1
         · simp [hb] at e
         · simp [hb] at e
           exact ⟨⟨off,sz,x,rfl,.inr ⟨by rw [hx];rfl,Nat.eq_of_beq_eq_true hb⟩⟩,e⟩)
theorem wk (p:Part) (ps:List Part) (r:A2) (l:List AV):fill (p::ps) r l=match p with|.mk off _ x=>fill ps r (na (AV.cs (ev x r)) off l):=by
 obtain ⟨off,sz,x⟩:=p;rfl
theorem tY {place:Nat→Option (Nat×Nat)}:∀(ps:List Part) (qs:List (Nat×Value)) (l:List AV) (ds:List Value),ps.length=qs.length→(∀k (h1:k < ps.length) (h2:k < qs.length),tW φ r place ps[k] qs[k])→fits ps r=true→
  (∀p,p∈ps→match p with|.mk off sz _=>off+sz≤ds.length)→bS φ l ds→(∀c,c∈ds→c.oneCell'=true)→
  ∃es:List Value,Instr.fill place ds.toArray qs=some es.toArray∧bS φ (fill ps r l) es∧∀c,c∈es→c.oneCell'=true:=by
 intro ps
 induction ps with
 | nil=>
  intro qs l ds hl _ _ _ hv h1
  match qs,hl with
  | [],_=>exact ⟨ds,rfl,hv,h1⟩
 | cons p ps ih=>
  intro qs l ds hl hp hf hb hv h1
  match qs,hl with
  | (i,c)::qs,hl=>
   obtain ⟨⟨off,sz,x,rfl,hx⟩,hf'⟩:=Eh hf
   obtain ⟨hpl,hvr⟩:=hp 0 (by simp) (by simp)
   have hcs:bS φ (AV.cs (ev x r)) c.cells.toList∧(∀d,d∈c.cells.toList→d.oneCell'=true)∧c.cells.size=sz:=by
    rcases hx with ⟨as,hx,hs⟩|⟨h2,hs⟩
    ·obtain ⟨g1,g2⟩:=hvr.il (l:=as) (.inl hx)
     have:AV.cs (ev x r)=as:=by rw [hx];rfl
     exact ⟨this▸g1,g2,by rw [←hs,g1.length];simp⟩
    ·obtain ⟨g1,g2⟩:=hvr.il (l:=[ev x r]) (.inr ⟨h2,rfl⟩)
     have:AV.cs (ev x r)=[ev x r]:=by
      revert h2;cases ev x r<;>intro h2<;>first|rfl|cases h2
     exact ⟨this▸g1,g2,by have:=g1.length;simp at this;omega⟩
   obtain ⟨g1,g2,g3⟩:=hcs
   have hoff:=hb (.mk off sz x) (by simp)
   simp only at hoff
   have step:=uf c.cells.toList 0 off ds.toArray
   obtain ⟨es,r1,r2,r3⟩:=ih qs (na (AV.cs (ev x r)) off l) (qv c.cells.toList off ds) (by simpa using hl) (fun k h1 h2=>hp (k+1) (by simpa using h1) (by simpa using h2)) hf'
    (fun q hq=>by have:=hb q (by simp [hq]);revert this;obtain ⟨o',s',x'⟩:=q;simp only;rw [qi];exact id)
    (bS.qv off g1 hv) (zo _ _ _ g2 h1)
   refine ⟨es,?_,?_,r3⟩
   ·have hpl':place i=some (off,sz):=hpl
    simp only [Instr.fill,hpl',g3]
    rw [if_neg (by simp;omega)]
    rw [←r1]
    congr 1
    rw [←Array.foldl_toList,Array.toList_zipIdx]
    simpa using step
   ·rw [wk];exact r2
variable {P:Program} {φ:aJ} {h h':Hp} {w:World} {v:AV} {x y z:AO} {r:A2} {cx cy:Value}
def qt (rc:Array Value) (o:Nat):List Value→Array Value
 | []=>rc
 | c::cs=>qt (rc.setIfInBounds o c) (o+1) cs
theorem bW:∀(cs:List Value) (rc:Array Value) (o:Nat),(qt rc o cs).size=rc.size
 | [],_,_=>rfl
 | c::cs,rc,o=>by rw [qt,bW];simp
theorem fW:∀(cs:List Value) (rc:Array Value) (o k:Nat),o+cs.length≤rc.size→(qt rc o cs)[k]?=if h:o≤k∧k < o+cs.length then some (cs[k - o]'(by omega)) else rc[k]?
 | [],rc,o,k,_=>by rw [qt,dif_neg (by simp only [List.length_nil];omega)]
 | c::cs,rc,o,k,hb=>by
  simp only [List.length_cons] at hb
  rw [qt,fW cs _ (o+1) k (by simp;omega),Array.getElem?_setIfInBounds]
  by_cases h1:k=o
  ·subst h1
   rw [dif_neg (by omega),if_pos rfl,if_pos (by omega),dif_pos (by simp)]
   simp
  ·by_cases h2:o≤k∧k < o+(cs.length+1)
   ·rw [dif_pos (by omega),dif_pos (by simpa using h2)]
    have:k - o=(k - (o+1))+1:=by omega
    simp only [this,List.getElem_cons_succ]
   ·rw [dif_neg (by omega),dif_neg (by simpa using h2),if_neg (by omega)]
theorem gU {b base:Nat}:∀(vs:List Value) (w:World) (rc:Array Value) (el:TypeId) (fz:Nat×Nat) (k:Nat),w.heap[b]?=some (.cells rc el fz)→base+k+vs.length≤rc.size→
  (∀j,j < rc.size→¬ (fz.1≤j∧j < fz.2))→(∀c,c∈vs→c.oneCell'=true)→
  ∃w',(storeCells ⟨b,base,none⟩ vs k).run P w=.ok () w'∧w'.heap[b]?=some (.cells (qt rc (base+k) vs) el fz)∧w'.heap.size=w.heap.size∧(∀d,d≠b→w'.heap[d]?=w.heap[d]?)∧w'.tape=w.tape∧w'.os=w.os∧w'.output=w.output:=by
 intro vs
 induction vs with
 | nil=>intro w rc el fz k hb _ _ _;exact ⟨w,rfl,hb,rfl,fun _ _=>rfl,rfl,rfl,rfl⟩
 | cons c cs ih=>
  intro w rc el fz k hb hl hf h1
  simp only [List.length_cons] at hl
  have ha:(⟨b,base,none⟩:Addr).add k=⟨b,base+k,none⟩:=by
   unfold Addr.add;split
   ·rename_i e;subst e;rfl
   ·rfl
  have hc:w.cell? ⟨b,base+k,none⟩=some rc[base+k]:=by simp [World.cell?,hb]
  have hz:w.frozen? ⟨b,base+k,none⟩=false:=by
   simp only [World.frozen?,hb]
   rw [Bool.eq_false_iff]
   intro hh
   have hh':=Bool.and_eq_true_iff.1 hh
   exact hf (base+k) (by omega) ⟨of_decide_eq_true hh'.1,of_decide_eq_true hh'.2⟩
  have hs:(w.setCell ⟨b,base+k,none⟩ c).heap[b]?=some (.cells (rc.setIfInBounds (base+k) c) el fz):=by
   simp only [World.setCell,Array.getElem?_modify]
   simp [hb]
  obtain ⟨w',r1,r2,r3,r4,r5,r6,r7⟩:=ih (w.setCell ⟨b,base+k,none⟩ c) _ el fz (k+1) hs (by simp;omega) (by simpa using hf) (fun d hd=>h1 d (by simp [hd]))
  refine ⟨w',?_,r2,r3.trans (jF _ _ _),fun d hd=>(r4 d hd).trans (uc _ _ _ (by exact hd)),r5,r6,r7⟩
  simp only [storeCells,Sem.run_bind,ha,gW (h1 c (by simp)) hc hz,Result.andThen_ok]
  exact r1
structure Ei (P:Program) (φ:aJ) (w:World) (u:TypeId) (es m:Nat) (new:List AV) (cy:Value) (ns:List Value):Prop where
 JS:∃d,P.underlying u=some d∧∀k,d≠.int k
 len:(Builtin.lenOf cy).run P w=.ok m w
 size:ns.length=m * es
 rel:bS φ new ns
 one:∀c,c∈ns→c.oneCell'=true
 cells:∀w':World,w'.heap=w.heap→(Builtin.firstCells es m cy).run P w'=.ok ns.toArray w'
def grown (w:World) (cs:Array Value) (e:TypeId):World:=w.drew.alloc (.cells cs e)
def dL (w:World) (need old:Nat) (e:TypeId):Nat:=(Question.appendCap need old e).cut (w.tape w.drawn (.appendCap need old e))
theorem zp (w:World) (need old:Nat) (e:TypeId):need≤dL w need old e:=by simp [dL,Question.cut]
theorem ug {t u ty e:TypeId} {i:TypeInfo} (ht:P.underlying t=some (.slice e)) (hi:P.info? e=some i) {m:Nat} {new:List AV} {ns:List Value} (S:Ei P φ w u i.size m new cy ns)
  {base:Option Addr} {n c:Nat} (hc:n+m≤c) {w':World} (hs:∀a,base=some a→(storeCells (a.add (n * i.size)) ns).run P w=.ok () w') (hn:base=none→w'=w) :
  (Builtin.append_ #[t,u] ty #[.slice base n c,cy]).run P w=.ok (.slice base (n+m) c) w':=by
 obtain ⟨d,hu,hd⟩:=S.JS
 have hz:(d matches TypeDesc.int _)=false:=by cases d<;>first|rfl|exact absurd rfl (hd _)
 cases base with
 | none=>
  rw [hn rfl]
  simp [Builtin.append_,ar ht,ar hu,aU hi,hz,S.len,hc,S.cells w rfl]
 | some a=>
  simp [Builtin.append_,ar ht,ar hu,aU hi,hz,S.len,hc,S.cells w rfl,hs a rfl]
theorem qw {t u ty e:TypeId} {i:TypeInfo} {z:Value} (ht:P.underlying t=some (.slice e)) (hi:P.info? e=some i) (hz:i.zero=some z) {m:Nat} {new:List AV} {ns:List Value} (S:Ei P φ w u i.size m new cy ns)
  {base:Option Addr} {n c:Nat} (hc:¬ n+m≤c) {os:List Value} (ho:∀w':World,w'.heap=w.heap→(Builtin.firstCells i.size n (.slice base n c)).run P w'=.ok os.toArray w')
  (hb:(n+m) * i.bytes≤140737488355328) (h63:n+m≤9223372036854775807) :
  (Builtin.append_ #[t,u] ty #[.slice base n c,cy]).run P w =
   .ok (.slice (some ⟨w.heap.size,0,none⟩) (n+m) (dL w (n+m) c e)) (grown w (os.toArray ++ ns.toArray ++ Builtin.zeroCells z.cells (dL w (n+m) c e - (n+m))) e):=by
 obtain ⟨d,hu,hd⟩:=S.JS
 have hzz:(d matches TypeDesc.int _)=false:=by cases d<;>first|rfl|exact absurd rfl (hd _)
 have h63':¬ (9223372036854775807 < ((n:Int)+(m:Int))):=by omega
 have h48:=growslice_fits (old:=c) (show c < n+m by omega) hb
 have h48':¬ (281474976710656 < Builtin.nextslicecap (n+m) c * i.bytes):=by omega
 have hcell:=S.cells w.drew rfl
 have hold:=ho w.drew rfl
 simp only [grown,Array.append_assoc]
 simp [Builtin.append_,ar ht,ar hu,aU hi,bw hi,zeroValue,hz,hzz,S.len,hc,h63',h48',Question.forced,hcell,hold,newRow,dL]
structure Src (P:Program) (φ:aJ) (w:World) (e u:TypeId) (es m:Nat) (new:List AV) (cy:Value) (ns:List Value):Prop where
 inn:∀(t ty:TypeId) (i:TypeInfo),P.underlying t=some (.slice e)→P.info? e=some i→i.size=es→∀(base:Option Addr) (n c:Nat),n+m≤c→∀w':World,(∀a,base=some a→(storeCells (a.add (n * es)) ns).run P w=.ok () w')→(base=none→w'=w)→
  (Builtin.append_ #[t,u] ty #[.slice base n c,cy]).run P w=.ok (.slice base (n+m) c) w'
 gro:∀(t ty:TypeId) (i:TypeInfo) (z:Value),P.underlying t=some (.slice e)→P.info? e=some i→i.size=es→i.zero=some z→∀(base:Option Addr) (n c:Nat),¬ n+m≤c→∀os:List Value,(∀w':World,w'.heap=w.heap→(Builtin.firstCells es n (.slice base n c)).run P w'=.ok os.toArray w')→
  (n+m) * i.bytes≤140737488355328→n+m≤9223372036854775807→
  (Builtin.append_ #[t,u] ty #[.slice base n c,cy]).run P w =
   .ok (.slice (some ⟨w.heap.size,0,none⟩) (n+m) (dL w (n+m) c e)) (grown w (os.toArray ++ ns.toArray ++ Builtin.zeroCells z.cells (dL w (n+m) c e - (n+m))) e)
 size:ns.length=m * es
 rel:bS φ new ns
 one:∀c,c∈ns→c.oneCell'=true
theorem Ei.src {e u:TypeId} {es m:Nat} {new:List AV} {ns:List Value} (S:Ei P φ w u es m new cy ns):Src P φ w e u es m new cy ns where
 inn t ty i ht hi hs base n c hc w' h1 h2:=by subst hs;exact ug ht hi S hc h1 h2
 gro t ty i z ht hi hs hz base n c hc os ho hb h63:=by subst hs;exact qw ht hi hz S hc ho hb h63
 size:=S.size
 rel:=S.rel
 one:=S.one
theorem dG {t u ty e:TypeId} {i:TypeInfo} (ht:P.underlying t=some (.slice e)) (hi:P.info? e=some i) {m:Nat} {new:List AV} {ns:List Value} (S:Src P φ w e u i.size m new cy ns)
  {base:Option Addr} {n c:Nat} (hc:n+m≤c) {w':World} (hs:∀a,base=some a→(storeCells (a.add (n * i.size)) ns).run P w=.ok () w') (hn:base=none→w'=w) :
  (Builtin.append_ #[t,u] ty #[.slice base n c,cy]).run P w=.ok (.slice base (n+m) c) w':=S.inn t ty i ht hi rfl base n c hc w' hs hn
theorem kW {t u ty e:TypeId} {i:TypeInfo} {z:Value} (ht:P.underlying t=some (.slice e)) (hi:P.info? e=some i) (hz:i.zero=some z) {m:Nat} {new:List AV} {ns:List Value} (S:Src P φ w e u i.size m new cy ns)
  {base:Option Addr} {n c:Nat} (hc:¬ n+m≤c) {os:List Value} (ho:∀w':World,w'.heap=w.heap→(Builtin.firstCells i.size n (.slice base n c)).run P w'=.ok os.toArray w')
  (hb:(n+m) * i.bytes≤140737488355328) (h63:n+m≤9223372036854775807) :
  (Builtin.append_ #[t,u] ty #[.slice base n c,cy]).run P w =
   .ok (.slice (some ⟨w.heap.size,0,none⟩) (n+m) (dL w (n+m) c e)) (grown w (os.toArray ++ ns.toArray ++ Builtin.zeroCells z.cells (dL w (n+m) c e - (n+m))) e):=S.gro t ty i z ht hi rfl hz base n c hc os ho hb h63
variable {P:Program} {φ:aJ} {h h':Hp} {w:World} {v:AV} {x y z:AO} {r:A2} {cx cy:Value}
theorem gy {n:Nat} {a:RV} {f:Nat→RV} {b:RV} (e:(Nat.rec a (fun m _=>f m) n:RV)=b):(n=0∧a=b)∨∃m,n=m+1∧f m=b:=by
 cases n with
 | zero=>exact .inl ⟨rfl,e⟩
 | succ m=>exact .inr ⟨m,rfl,e⟩
theorem ff {b:Bool} {s t u:RV} (e:(Bool.rec s t b:RV)=u):(b=false∧s=u)∨(b=true∧t=u):=by
 cases b
 ·exact .inl ⟨rfl,e⟩
 ·exact .inr ⟨rfl,e⟩
theorem oh {k:Nat→RV} {n:Nat} {a:AV} (hx:VR φ a cx) (e:rh a k (.err n)=.ok v h):∃m base c,cx=.slice base m c∧k m=.ok v h:=by
 rcases cQ e with ⟨i,o,l,c,rfl,e⟩|⟨i,o,l,c,rfl,e⟩|⟨rfl,e⟩<;>cases hx<;>exact ⟨_,_,_,rfl,e⟩
theorem uh {w w':World} (hw:w'.heap=w.heap) (a:Addr):w'.cell? a=w.cell? a:=by simp [World.cell?,hw]
structure CD (P:Program) (φ:aJ) (w:World) (es m:Nat) (new:List AV) (cy:Value) (ns:List Value):Prop where
 size:ns.length=m * es
 rel:bS φ new ns
 one:∀c,c∈ns→c.oneCell'=true
 cells:∀w':World,w'.heap=w.heap→(Builtin.firstCells es m cy).run P w'=.ok ns.toArray w'
 pre:∀k,k≤m→(Builtin.firstCells es k cy).run P w=.ok (ns.take (k * es)).toArray w
theorem gX {a:Addr} {l:List Value} (hc:∀k (hk:k < l.length),w.cell? (a.add k)=some l[k]) {n:Nat} (hn:n≤l.length):(loadCells a n).run P w=.ok (l.take n).toArray w:=
 run_loadCells (by simp;omega) fun k hk=>by
  rw [List.getElem_take]
  exact hc k (by simp at hk;omega)
theorem CD.none (es:Nat) {a:Option Addr} {n c:Nat}:CD P φ w es 0 [] (.slice a n c) [] where
 size:=by simp
 rel:=.nil
 one:=by simp
 cells w' _:=by cases a<;>simp [Builtin.firstCells,loadCells,loadCellsFrom]
 pre k hk:=by
  have:k=0:=by omega
  subst this
  cases a<;>simp [Builtin.firstCells,loadCells,loadCellsFrom]
theorem mQ (H:HR φ h w) {i:P4} {p:Place} (hp:φ i=some p) {es o n nn c:Nat} {k:List AV→RV} {q:Nat} {a:Addr} (ha:0 < n→a=p.addr o) (e:kZ es i o n h k (.err q)=.ok v h') :
  ∃new ns,k new=.ok v h'∧CD P φ w es n new (.slice (some a) nn c) ns∧(n=0∨∃el m ex fl cl,aq i h=.cells el m ex fl cl∧o+n * es≤m∧new=bu (n * es) cl o):=by
 unfold kZ at e
 rcases gy e with ⟨rfl,e⟩|⟨n,rfl,e⟩
 ·exact ⟨[],[],e,CD.none es,.inl rfl⟩
 ·obtain ⟨el,m,ex,fl,cl,hi,e⟩:=aR e
  obtain ⟨hb,e⟩:=aC e
  have hb:o+(n+1) * es≤m:=Nat.le_of_ble_eq_true hb
  obtain ⟨l,h1,h2,h3,h4⟩:=H.values hi hp _ o hb
  rw [ha (by omega)]
  refine ⟨_,l,e,⟨h1,h2,h3,fun w' hw=>?_,fun k hk=>?_⟩,.inr ⟨_,_,_,_,_,hi,hb,rfl⟩⟩
  ·simp only [Builtin.firstCells]
   exact run_loadCells h1 fun k hk=>by rw [uh hw];exact h4 k hk
  ·simp only [Builtin.firstCells]
   exact gX h4 (by rw [h1];exact Nat.mul_le_mul_right _ hk)
theorem fX {p:Place} {a:Addr} {o c:Nat} (h3:a.block=p.bA) (h4:a.spot=none) (h5:c≠0→a.off=p.base+o) (hc:0 < c):a=p.addr o:=by
 obtain ⟨ab,ao,as⟩:=a
 simp only at h3 h4 h5
 have:=h5 (by omega)
 subst h3 h4 this
 rfl
theorem ui (H:HR φ h w) {es:Nat} {a:AV} (hy:VR φ a cy) {k:List AV→RV} {q:Nat} (e:elems es a h k (.err q)=.ok v h') :
  ∃b n c new ns,cy=.slice b n c∧k new=.ok v h'∧CD P φ w es n new cy ns:=by
 rcases cQ e with ⟨i,o,l,c,rfl,e⟩|⟨i,o,l,c,rfl,e⟩|⟨rfl,e⟩
 ·cases hy with
  | slice _ _ _ _ p hp=>
   obtain ⟨new,ns,h1,h2,_⟩:=mQ (P:=P) (nn:=l) (c:=c) H hp (a:=p.addr o) (fun _=>rfl) e
   exact ⟨_,_,_,new,ns,rfl,h1,h2⟩
 ·obtain ⟨_,e⟩:=aC e
  cases hy with
  | bZ _ _ _ _ cc p a hp h1 h2 h3 h4 h5 h6=>
   obtain ⟨new,ns,h1,h2,_⟩:=mQ (P:=P) (nn:=l) (c:=cc) H hp (a:=a) (fun hl=>fX h3 h4 h5 (by omega)) e
   exact ⟨_,_,_,new,ns,rfl,h1,h2⟩
 ·cases hy
  exact ⟨_,_,_,[],[],rfl,e,CD.none es⟩
theorem CD.avE {es m c:Nat} {b:Option Addr} {new:List AV} {ns:List Value} (E:CD P φ w es m new (.slice b m c) ns) {u f:TypeId} (hu:P.underlying u=some (.slice f)):Ei P φ w u es m new (.slice b m c) ns where
 JS:=⟨_,hu,by simp⟩
 len:=rfl
 size:=E.size
 rel:=E.rel
 one:=E.one
 cells:=E.cells
theorem CD.src {es m c:Nat} {b:Option Addr} {new:List AV} {ns:List Value} (E:CD P φ w es m new (.slice b m c) ns) {e u f:TypeId} (hu:P.underlying u=some (.slice f)):Src P φ w e u es m new (.slice b m c) ns:=(E.avE hu).src
theorem mR {i:P4} {o:Nat} {l:List AV} {k:Hp→RV} (e:lh i o l h k=.ok v h'):∃el n ex fl c,aq i h=.cells el n ex fl c∧wr fl=true∧o+l.length≤n∧k (cG i (.cells el n ex fl (fq l o c)) h)=.ok v h':=by
 obtain ⟨el,n,ex,fl,c,hi,e⟩:=aR e
 obtain ⟨hw,e⟩:=aC e
 obtain ⟨hb,e⟩:=aC e
 exact ⟨el,n,ex,fl,c,hi,hw,Nat.le_of_ble_eq_true hb,e⟩
theorem jH (H:HR φ h w) {i:P4} {p:Place} (hp:φ i=some p) {el n:Nat} {ex:Bool} {fl:Fl} {c:Cl} (hi:aq i h=.cells el n ex fl c) (hf:wr fl=true) {l:List AV} {vs:List Value} (hl:bS φ l vs) (h1:∀x,x∈vs→x.oneCell'=true)
  {o:Nat} (hn:o+l.length≤n):∃w',(storeCells (p.addr o) vs).run P w=.ok () w'∧HR φ (cG i (.cells el n ex fl (fq l o c)) h) w'∧Step φ h w φ (cG i (.cells el n ex fl (fq l o c)) h) w':=by
 obtain ⟨w',r1,r2,r3⟩:=kS (P:=P) hp hf l vs h w c o 0 H hi hl h1 (by omega)
 refine ⟨w',r1,r2,φ.le_refl,r3,fun k q hk hq=>?_,.set _ _ _⟩
 rw [bg] at hk
 by_cases ek:k=i
 ·subst ek;exact .inl ⟨hi▸aN,hq⟩
 ·rw [if_neg ek] at hk;exact .inl ⟨hk,hq⟩
theorem gV (z:Array Value) (n:Nat):(Builtin.zeroCells z n).size=n * z.size:=by simp [Builtin.zeroCells]
theorem oo {t u ty e:TypeId} {i:TypeInfo} {zv:Value} (H:HR φ h w) (ht:P.underlying t=some (.slice e)) (hi:P.info? e=some i) (hz:i.zero=some zv) (hzs:zv.cells.size=i.size) (hby:i.bytes≤1048576) (hes:0 < i.size)
  {m:Nat} {new:List AV} {ns:List Value} (S:Src P φ w e u i.size m new cy ns) {base:Option Addr} {n c:Nat} (hc:¬ n+m≤c) {old:List AV} {os:List Value} (E:CD P φ w i.size n old (.slice base n c) os)
  (he:zN e i.size n m old new h=.ok v h'):Good φ h w v h' ((Builtin.append_ #[t,u] ty #[.slice base n c,cy]).run P w):=by
 obtain ⟨hr,hn,he⟩:=fg he
 obtain ⟨rfl,rfl⟩:=RV.av he
 have hl1:=E.rel.length
 have hl2:=S.rel.length
 have hlen:(List.append old new).length=(n+m) * i.size:=by
  show (old ++ new).length=_
  rw [List.length_append,hl1,hl2,E.size,S.size,Nat.add_mul]
 have hroom:=kP (lP (List.append old new))
 have hnm:n+m≤65536:=by
  have:(n+m) * 1≤(n+m) * i.size:=Nat.mul_le_mul_left _ hes
  omega
 have hbb:(n+m) * i.bytes≤140737488355328:=by
  have:(n+m) * i.bytes≤65536 * 1048576:=Nat.mul_le_mul hnm hby
  omega
 have hrun:=kW (P:=P) (ty:=ty) ht hi hz S hc E.cells hbb (by omega)
 rw [hrun]
 have hcap:=zp w (n+m) c e
 have hsz:(os.toArray ++ ns.toArray ++ Builtin.zeroCells zv.cells (dL w (n+m) c e - (n+m))).size=dL w (n+m) c e * i.size:=by
  rw [Array.size_append,Array.size_append,gV,hzs]
  simp only [List.size_toArray]
  rw [E.size,S.size,←Nat.add_mul,←Nat.add_mul]
  congr 1;omega
 have hrel:bS φ (List.append old new) (os ++ ns):=E.rel.append S.rel
 obtain ⟨g1,g2⟩:=H.nV (n':=h.next.succ) (w':=grown w (os.toArray ++ ns.toArray ++ Builtin.zeroCells zv.cells (dL w (n+m) c e - (n+m))) e) hn
  (rc:=os.toArray ++ ns.toArray ++ Builtin.zeroCells zv.cells (dL w (n+m) c e - (n+m))) (el:=e) (n:=(List.append old new).length) (ex:=false) (fl:=.plain) (fz:=(0,0)) (c:=lP (List.append old new))
  (by rw [hsz,hlen];exact Nat.mul_le_mul_right _ hcap) (by simp) hr
  (fun k hk=>by
   have hk':k < (os ++ ns).length:=by rw [←hrel.length];exact hk
   refine ⟨(os ++ ns)[k],?_,?_,?_⟩
   ·rw [Array.getElem?_append_left (by simpa using hk'),List.append_toArray]
    simp only [List.getElem?_toArray]
    exact List.getElem?_eq_getElem hk'
   ·rw [dD _ hr k hk];exact hrel.get k hk hk'
   ·rcases List.mem_append.1 (List.getElem_mem hk') with g|g
    ·exact E.one _ g
    ·exact S.one _ g) rfl rfl rfl rfl rfl
 refine ⟨_,_,_,rfl,?_,g1,g2⟩
 refine .bZ _ 0 (n+m) i.size (dL w (n+m) c e) ⟨w.heap.size,0,_⟩ ⟨w.heap.size,0,none⟩ (aJ.aO _ _ _) ?_ hcap rfl rfl (fun _=>rfl) hes
 rw [hsz];simp
theorem lV {fl:Fl} {fz:Nat×Nat} {size:Nat} (hf:wr fl=true) (hk:Eg fl fz size):∀j,j < size→¬ (fz.1≤j∧j < fz.2):=by
 cases fl with
 | plain=>cases hk;intro j _;simp
 | mark=>exact hk
 | wx=>cases hf
theorem wb {fl:Fl} {size:Nat}:Eg fl (0,0) size:=by
 cases fl with
 | plain=>rfl
 | mark=>intro k _;simp
 | wx=>trivial
theorem iT {h:Hp} {o:Obj} {n':P4} (j:P4):aq j (.mk (cH h.next o h.tree) n' (Lg.add h.next h.log))=if j=h.next then o else aq j h:=by
 cases h with
 | mk t n lg=>exact cW j n o t
theorem HR.nc (H:HR φ h w) {i:P4} {p:Place} (hp:φ i=some p) (hi:live (aq i h)) (hn:aq h.next (cG i .dead h)=.none) {q:Place} {w':World} (hb:q.bA=p.bA∨q.bA=w.heap.size)
  {o:Obj} (hlo:live o) (hsz:w.heap.size≤w'.heap.size) (hq:q.bA < w'.heap.size) (hne:∀b,b < w.heap.size→b≠p.bA→w'.heap[b]?=w.heap[b]?) (ho:OR (φ.put h.next q) o q w'.heap[q.bA]?)
  (ht:w'.tape=w.tape) (hos:w'.os=w.os) (hu:w'.output=w.output) {n':P4} :
  HR (φ.put h.next q) (.mk (cH h.next o (cG i .dead h).tree) n' (Lg.add h.next (cG i .dead h).log)) w'∧Step φ h w (φ.put h.next q) (.mk (cH h.next o (cG i .dead h).tree) n' (Lg.add h.next (cG i .dead h).log)) w':=by
 have hni:h.next≠i:=by
  intro e;rw [bg,if_pos e] at hn;cases hn
 rw [bg,if_neg hni] at hn
 have hφ:=H.fresh _ hn
 have hle:=aJ.fI (φ:=φ) (i:=h.next) q hφ
 have hg:∀j,aq j (.mk (cH h.next o (cG i .dead h).tree) n' (Lg.add h.next (cG i .dead h).log))=if j=h.next then o else if j=i then .dead else aq j h:=by
  intro j
  have:=iT (h:=cG i .dead h) (o:=o) (n':=n') j
  have hnx:(cG i .dead h).next=h.next:=rfl
  rw [hnx] at this
  rw [this,bg]
 have hold:∀j r,j≠h.next→(φ.put h.next q) j=some r→φ j=some r:=by
  intro j r hj hr;simpa [aJ.put,hj] using hr
 have hlv:∀j,live (aq j (.mk (cH h.next o (cG i .dead h).tree) n' (Lg.add h.next (cG i .dead h).log)))→j=h.next∨(j≠h.next∧j≠i∧live (aq j h)):=by
  intro j hj
  rw [hg] at hj
  by_cases e:j=h.next
  ·exact .inl e
  ·rw [if_neg e] at hj
   by_cases e':j=i
   ·rw [if_pos e'] at hj;exact absurd rfl hj.2
   ·rw [if_neg e'] at hj;exact .inr ⟨e,e',hj⟩
 refine ⟨⟨fun j hj=>?_,fun j k s t hj hk hjk hs ht=>?_,fun j hj=>?_,fun j s hs=>?_⟩,hle,⟨hsz,fun b hb' hnb=>hne b hb' ?_,ht,hos,hu⟩,fun j s hj hs=>?_,(Fr.set _ _ _).trans (.put _ _ _ _)⟩
 ·rcases hlv j hj with rfl|⟨e1,e2,e3⟩
  ·rw [hg,if_pos rfl]
   exact ⟨q,aJ.aO _ _ _,ho⟩
  ·rw [hg,if_neg e1,if_neg e2]
   obtain ⟨s,hs,hr⟩:=H.obj j e3
   refine ⟨s,hle _ _ hs,?_⟩
   rw [hne _ (H.bound _ _ hs) (H.inj j i s p e3 hi e2 hs hp)]
   exact hr.mono hle
 ·rcases hlv j hj with rfl|⟨e1,e2,e3⟩<;>rcases hlv k hk with rfl|⟨f1,f2,f3⟩
  ·exact absurd rfl hjk
  ·rw [aJ.aO] at hs;cases hs
   have ht':=hold k t f1 ht
   have h1:=H.inj k i t p f3 hi f2 ht' hp
   have h2:=H.bound k t ht'
   rcases hb with g|g<;>rw [g]<;>first|exact fun e=>h1 e.symm|omega
  ·rw [aJ.aO] at ht;cases ht
   have hs':=hold j s e1 hs
   have h1:=H.inj j i s p e3 hi e2 hs' hp
   have h2:=H.bound j s hs'
   rcases hb with g|g<;>rw [g]<;>first|exact h1|omega
  ·exact H.inj j k s t e3 f3 hjk (hold j s e1 hs) (hold k t f1 ht)
 ·rw [hg] at hj
  by_cases e:j=h.next
  ·rw [if_pos e] at hj;exact absurd hj hlo.1
  ·rw [if_neg e] at hj
   show (if j=h.next then some _ else φ j)=none
   rw [if_neg e]
   by_cases e':j=i
   ·rw [if_pos e'] at hj;cases hj
   ·rw [if_neg e'] at hj;exact H.fresh j hj
 ·by_cases e:j=h.next
  ·rw [e,aJ.aO] at hs;cases hs;exact hq
  ·exact Nat.lt_of_lt_of_le (H.bound j s (hold j s e hs)) hsz
 ·exact fun e=>hnb i p hi hp e.symm
 ·rcases hlv j hj with rfl|⟨e1,e2,e3⟩
  ·rw [aJ.aO] at hs;cases hs
   rcases hb with g|g
   ·exact .inr (.inr ⟨i,p,hi,hp,g.symm⟩)
   ·exact .inr (.inl (by omega))
  ·exact .inl ⟨e3,hold j s e1 hs⟩
variable {P:Program} {φ:aJ} {h h':Hp} {w:World} {v:AV} {x y z:AO} {r:A2} {cx cy:Value}
theorem aly (H:HR φ h w) {i:P4} {p:Place} (hp:φ i=some p) {el k:Nat} {ex:Bool} {fl:Fl} {c:Cl} (hi:aq i h=.cells el k ex fl c) {es o n nn cc:Nat} {a:Addr} (ha:0 < n→a=p.addr o) (hb:o+n * es≤k) :
  ∃os,CD P φ w es n (bu (n * es) c o) (.slice (some a) nn cc) os:=by
 rcases Nat.eq_zero_or_pos n with rfl|hn
 ·refine ⟨[],?_⟩
  rw [Nat.zero_mul]
  exact CD.none es
 ·obtain ⟨l,h1,h2,h3,h4⟩:=H.values hi hp _ o hb
  rw [ha hn]
  refine ⟨l,h1,h2,h3,fun w' hw=>?_,fun k hk=>?_⟩
  ·simp only [Builtin.firstCells]
   exact run_loadCells h1 fun k hk=>by rw [uh hw];exact h4 k hk
  ·simp only [Builtin.firstCells]
   exact gX h4 (by rw [h1];exact Nat.mul_le_mul_right _ hk)
theorem uj {t u ty e:TypeId} {i:TypeInfo} {zv:Value} (H:HR φ h w) (ht:P.underlying t=some (.slice e)) (hi:P.info? e=some i) (hz:i.zero=some zv) (hzs:zv.cells.size=i.size) (hby:i.bytes≤1048576) (hes:0 < i.size)
  {m:Nat} {new:List AV} {ns:List Value} (S:Src P φ w e u i.size m new cy ns) (hm:0 < m) {j:P4} {o n:Nat} {cs:Value} (hs:VR φ (.bZ j o n i.size) cs) {k:Nat} {fl:Fl} {c c':Cl} (hj:aq j h=.cells e k false fl c) (hf:wr fl=true)
  (hb:o+n * i.size≤k) (hc':(n+m) * i.size≤bQ c'→∀x (hx:x < (bu (n * i.size) c o ++ new).length),eC x c'=(bu (n * i.size) c o ++ new)[x])
  (he:nc j e ((n+m) * i.size) fl c' (n+m) i.size h=.ok v h'):Good φ h w v h' ((Builtin.append_ #[t,u] ty #[cs,cy]).run P w):=by
 obtain ⟨hr,hn,he⟩:=fg he
 obtain ⟨rfl,rfl⟩:=RV.av he
 have hcg:=hc' hr
 cases hs with
 | bZ _ _ _ _ cap p a hp h1 h2 h3 h4 h5 h6=>
 have hl:live (aq j h):=hj▸aN
 obtain ⟨q,hq,hor⟩:=H.obj j hl
 rw [hp] at hq;cases hq
 rw [hj] at hor
 obtain ⟨rc,fz,g1,g2,g3,g4,g5,g6,g7⟩:=hor
 have ha:0 < n→a=p.addr o:=fun hn=>fX h3 h4 h5 (by omega)
 obtain ⟨os,E⟩:=aly (P:=P) H hp hj (nn:=n) (cc:=cap) ha hb
 have hrel:bS φ (bu (n * i.size) c o ++ new) (os ++ ns):=E.rel.append S.rel
 have hone:∀c,c∈os ++ ns→c.oneCell'=true:=fun c hc=>(List.mem_append.1 hc).elim (E.one c) (S.one c)
 have hlen:(os ++ ns).length=(n+m) * i.size:=by rw [List.length_append,E.size,S.size,Nat.add_mul]
 change aq h.next (cG j .dead h)=.none at hn
 have hnx:aq h.next h=.none:=by
  rw [bg] at hn
  by_cases e':h.next=j
  ·rw [if_pos e'] at hn;cases hn
  ·rwa [if_neg e'] at hn
 have hφ:=H.fresh _ hnx
 by_cases hin:n+m≤cap
 ·have ha':a=p.addr o:=fX h3 h4 h5 (by omega)
  have hcap:(n+m) * i.size≤cap * i.size:=Nat.mul_le_mul_right _ hin
  have hsum:=Nat.add_mul n m i.size
  have hnsl:=S.size
  obtain ⟨w',r1,r2,r3,r4,r5,r6,r7⟩:=gU (P:=P) (b:=p.bA) (base:=p.base+(o+n * i.size)) ns w rc e fz 0 g1 (by omega) (lV hf g7) S.one
  have hst:(storeCells (a.add (n * i.size)) ns).run P w=.ok () w':=by rw [ha',cg];exact r1
  rw [dG (P:=P) (ty:=ty) ht hi S hin (w':=w') (fun b hb=>by cases hb;exact hst) (by simp)]
  obtain ⟨k1,k2⟩:=H.nc (n':=h.next.succ) hp hl hn (q:=⟨p.bA,p.base+o,p.room - o⟩) (w':=w') (.inl rfl) (o:=.cells e ((n+m) * i.size) false fl c') aN (by omega) (by rw [r3];exact H.bound j p hp) (fun b _ hb=>r4 b hb)
   (by
    refine ⟨_,fz,r2,by rw [bW];simp only;omega,by simp only;omega,by simp,hr,fun x hx=>?_,by rw [bW];exact g7⟩
    have hx':x < (os ++ ns).length:=by rw [hlen];exact hx
    refine ⟨(os ++ ns)[x],?_,?_,hone _ (List.getElem_mem _)⟩
    ·rw [fW _ _ _ _ (by omega)]
     have hosl:=E.size
     by_cases hxo:x < os.length
     ·rw [dif_neg (by simp only;omega),List.getElem_append_left hxo]
      have:=E.cells w rfl
      rw [ha'] at this
      obtain ⟨l,v1,v2,v3,v4⟩:=H.values hj hp _ o hb
      have hrun:=run_loadCells (P:=P) v1 v4
      simp only [Builtin.firstCells] at this
      rw [hrun] at this
      have hol:l=os:=by simpa using this
      subst hol
      have:=v4 x hxo
      rw [cg,lG g1] at this
      rw [←Nat.add_assoc] at this
      exact this
     ·simp only
      rw [dif_pos (by omega),List.getElem_append_right (by omega)]
      congr 2
      omega
    ·rw [hcg x (by rw [hrel.length];exact hx')]
     exact (hrel.get x (by rw [hrel.length];exact hx') hx').mono (aJ.fI _ hφ)) r5 r6 r7
  refine ⟨_,w',_,rfl,?_,k1,k2⟩
  refine .bZ _ 0 (n+m) i.size cap ⟨p.bA,p.base+o,p.room - o⟩ a (aJ.aO _ _ _) (by simp only;omega) hin h3 h4 (fun hc=>?_) hes
  have:=h5 hc
  simpa using this
 ·have hroom:=kP c'
  have hnm:n+m≤65536:=by
   have:(n+m) * 1≤(n+m) * i.size:=Nat.mul_le_mul_left _ hes
   omega
  have hbb:(n+m) * i.bytes≤140737488355328:=by
   have:(n+m) * i.bytes≤65536 * 1048576:=Nat.mul_le_mul hnm hby
   omega
  rw [kW (P:=P) (ty:=ty) ht hi hz S hin E.cells hbb (by omega)]
  have hcap:=zp w (n+m) cap e
  have hsz:(os.toArray ++ ns.toArray ++ Builtin.zeroCells zv.cells (dL w (n+m) cap e - (n+m))).size=dL w (n+m) cap e * i.size:=by
   rw [Array.size_append,Array.size_append,gV,hzs]
   simp only [List.size_toArray]
   rw [E.size,S.size,←Nat.add_mul,←Nat.add_mul]
   congr 1;omega
  have hheap:(grown w (os.toArray ++ ns.toArray ++ Builtin.zeroCells zv.cells (dL w (n+m) cap e - (n+m))) e).heap=w.heap.push (.cells (os.toArray ++ ns.toArray ++ Builtin.zeroCells zv.cells (dL w (n+m) cap e - (n+m))) e):=rfl
  obtain ⟨k1,k2⟩:=H.nc (n':=h.next.succ) hp hl hn (q:=⟨w.heap.size,0,dL w (n+m) cap e * i.size⟩) (w':=grown w (os.toArray ++ ns.toArray ++ Builtin.zeroCells zv.cells (dL w (n+m) cap e - (n+m))) e) (.inr rfl)
   (o:=.cells e ((n+m) * i.size) false fl c') aN (by rw [hheap];simp) (by rw [hheap];simp) (fun b hb _=>by rw [hheap,Array.getElem?_push,if_neg (by omega)])
   (by
    refine ⟨os.toArray ++ ns.toArray ++ Builtin.zeroCells zv.cells (dL w (n+m) cap e - (n+m)),(0,0),by rw [hheap];simp,by simp only [Nat.zero_add];exact hsz.symm,Nat.mul_le_mul_right _ hcap,by simp,hr,fun x hx=>?_,wb⟩
    have hx':x < (os ++ ns).length:=by rw [hlen];exact hx
    refine ⟨(os ++ ns)[x],?_,?_,hone _ (List.getElem_mem _)⟩
    ·simp only [Nat.zero_add]
     rw [Array.getElem?_append_left (by simpa using hx'),List.append_toArray]
     simp only [List.getElem?_toArray]
     exact List.getElem?_eq_getElem hx'
    ·rw [hcg x (by rw [hrel.length];exact hx')]
     exact (hrel.get x (by rw [hrel.length];exact hx') hx').mono (aJ.fI _ hφ)) rfl rfl rfl
  refine ⟨_,_,_,rfl,?_,k1,k2⟩
  exact .bZ _ 0 (n+m) i.size (dL w (n+m) cap e) ⟨w.heap.size,0,_⟩ ⟨w.heap.size,0,none⟩ (aJ.aO _ _ _) (by simp) hcap rfl rfl (fun _=>rfl) hes
variable {P:Program} {φ:aJ} {h h':Hp} {w:World} {v:AV} {x y z:AO} {r:A2} {cx cy:Value}
theorem JT (l new:List AV) {c:Cl} (hl:l.length+new.length≤bQ (fq new l.length (qS (l.length+new.length) c))) (hr:l.length≤bQ c) (hc:∀k (hk:k < l.length),eC k c=l[k]) (x:Nat) (hx:x < (l ++ new).length) :
  eC x (fq new l.length (qS (l.length+new.length) c))=(l ++ new)[x]:=by
 rw [qe] at hl
 have hx':x < l.length+new.length:=by simpa using hx
 rw [ub _ _ _ _ (by omega) hl]
 by_cases h1:x < l.length
 ·rw [dif_neg (by omega),Ef _ _ _ (by omega),hc x h1,List.getElem_append_left h1]
 ·rw [dif_pos (by omega),List.getElem_append_right (by omega)]
theorem AY {t u ty e:TypeId} {i:TypeInfo} {zv:Value} (H:HR φ h w) (ht:P.underlying t=some (.slice e)) (hi:P.info? e=some i) (hz:i.zero=some zv) (hzs:zv.cells.size=i.size) (hby:i.bytes≤1048576) (hes:0 < i.size)
  {m:Nat} {new:List AV} {ns:List Value} (S:Src P φ w e u i.size m new cy ns) (hm:0 < m) {j:P4} {o n:Nat} {cs:Value} (hs:VR φ (.bZ j o n i.size) cs) (he:TN e i.size m new j o n h=.ok v h') :
  Good φ h w v h' ((Builtin.append_ #[t,u] ty #[cs,cy]).run P w):=by
 obtain ⟨el,k,ex,fl,c,hj,he⟩:=aR he
 obtain ⟨hf,he⟩:=aC he
 have hl:live (aq j h):=hj▸aN
 rcases ff he with ⟨hb,he⟩|⟨hb,he⟩
 ·obtain ⟨hb1,he⟩:=aC he
  have hb1:o+n * i.size≤k:=Nat.le_of_ble_eq_true hb1
  have hlen:(bu (n * i.size) c o ++ new).length=(n+m) * i.size:=by
   rw [List.length_append,jE,S.rel.length,S.size,Nat.add_mul]
  have hkr:k≤bQ c:=by
   obtain ⟨q,hq,hor⟩:=H.obj j hl
   rw [hj] at hor
   obtain ⟨rc,fz,g1,g2,g3,g4,g5,g6,g7⟩:=hor
   exact g5
  rcases ff he with ⟨hx,he2⟩|⟨_,he2⟩
  ·have hx:(ex || !Nat.beq e el)=false:=hx
   have hex:ex=false:=by cases ex<;>simp_all
   have hel:e=el:=by
    cases hbe:Nat.beq e el
    ·simp [hbe] at hx
    ·exact Nat.eq_of_beq_eq_true hbe
   subst hex hel
   rcases ff he2 with ⟨_,he3⟩|⟨h0,he3⟩
   ·refine uj H ht hi hz hzs hby hes S hm hs hj hf hb1 (fun hr x hx=>?_) he3
    refine dD _ ?_ x hx
    show (bu (n * i.size) c o ++ new).length≤_
    rw [hlen];exact hr
   ·obtain ⟨h1,h2⟩:=Bool.and_eq_true_iff.1 h0
    have h1:o=0:=Nat.eq_of_beq_eq_true h1
    have h2:n * i.size=k:=Nat.eq_of_beq_eq_true h2
    subst h1 h2
    refine uj H ht hi hz hzs hby hes S hm hs hj hf hb1 (fun hr x hx=>?_) he3
    have hsz:(n+m) * i.size=(bu (n * i.size) c 0).length+new.length:=by rw [jE,S.rel.length,S.size,Nat.add_mul]
    have hlc:n * i.size=(bu (n * i.size) c 0).length:=(jE _ _ _).symm
    have hr':(bu (n * i.size) c 0).length+new.length≤bQ (fq new (bu (n * i.size) c 0).length (qS ((bu (n * i.size) c 0).length+new.length) c)):=by
     rw [←hsz,←hlc];exact hr
    have:=JT (bu (n * i.size) c 0) new (c:=c) hr' (by rw [←hlc];exact hkr) (fun k hk=>by rw [uY,Nat.zero_add]) x hx
    rw [←this,←hsz,←hlc]
    rfl
  ·cases he2
 ·have hb:o+(n+m) * i.size≤k:=Nat.le_of_ble_eq_true hb
  obtain ⟨rfl,rfl⟩:=RV.av he
  cases hs with
  | bZ _ _ _ _ cap p a hp h1 h2 h3 h4 h5 h6=>
  have hkr:k≤p.room:=by
   obtain ⟨q,hq,hor⟩:=H.obj j hl
   rw [hp] at hq;cases hq
   rw [hj] at hor
   obtain ⟨rc,fz,g1,g2,g3,g4,g5,g6,g7⟩:=hor
   exact g3
  have hin:n+m≤cap:=by
   have:(n+m) * i.size≤cap * i.size:=by omega
   exact Nat.le_of_mul_le_mul_right this hes
  have ha:a=p.addr o:=fX h3 h4 h5 (by omega)
  have hsum:=Nat.add_mul n m i.size
  obtain ⟨w',r1,r2,r3⟩:=jH (P:=P) H hp hj hf S.rel S.one (o:=o+n * i.size) (by rw [S.rel.length,S.size];omega)
  rw [dG (P:=P) (ty:=ty) ht hi S hin (w':=w') (fun b hb=>by cases hb;rw [ha,cg];exact r1) (by simp)]
  exact ⟨_,w',φ,rfl,.bZ _ _ _ _ cap p a hp h1 hin h3 h4 h5 h6,r2,r3⟩
theorem px {t u ty e:TypeId} {i:TypeInfo} {zv:Value} (H:HR φ h w) (ht:P.underlying t=some (.slice e)) (hi:P.info? e=some i) (hz:i.zero=some zv) (hzs:zv.cells.size=i.size) (hby:i.bytes≤1048576) (hes:0 < i.size)
  {m:Nat} {new:List AV} {ns:List Value} (S:Src P φ w e u i.size m new cy ns) {s:AV} {cs:Value} (hs:VR φ s cs) (he:FY e i.size m new s h=.ok v h') :
  Good φ h w v h' ((Builtin.append_ #[t,u] ty #[cs,cy]).run P w):=by
 have hns0:m=0→ns=[]:=fun hm=>by have:=S.size;rw [hm,Nat.zero_mul] at this;exact List.length_eq_zero_iff.1 this
 rcases cQ he with ⟨j,o,n,cap,rfl,he⟩|⟨j,o,n,es',rfl,he⟩|⟨rfl,he⟩
 ·rcases ff he with ⟨hb,he⟩|⟨hb,he⟩
  ·have hin:¬ n+m≤cap:=fun hle=>by have:=Nat.ble_eq_true_of_le hle;rw [show (n+m).ble cap=(n.add m).ble cap from rfl,hb] at this;cases this
   cases hs with
   | slice _ _ _ _ p hp=>
   obtain ⟨old,os,he,E,_⟩:=mQ (P:=P) (nn:=n) (c:=cap) H hp (a:=p.addr o) (fun _=>rfl) he
   exact oo H ht hi hz hzs hby hes S hin E he
  ·have hin:n+m≤cap:=Nat.le_of_ble_eq_true hb
   cases hs with
   | slice _ _ _ _ p hp=>
   rcases gy he with ⟨rfl,he⟩|⟨m,rfl,he⟩
   ·obtain ⟨rfl,rfl⟩:=RV.av he
    rw [dG (P:=P) (ty:=ty) ht hi S hin (w':=w) (fun b _=>by rw [hns0 rfl];rfl) (fun _=>rfl)]
    exact .same H (.slice _ _ _ _ p hp) rfl
   ·obtain ⟨el,k,ex,fl,c,hj,hf,hb,he⟩:=mR he
    obtain ⟨rfl,rfl⟩:=RV.av he
    obtain ⟨w',r1,r2,r3⟩:=jH (P:=P) H hp hj hf S.rel S.one (o:=o+n * i.size) hb
    rw [dG (P:=P) (ty:=ty) ht hi S hin (w':=w') (fun b hb=>by cases hb;rw [cg];exact r1) (by simp)]
    exact ⟨_,w',φ,rfl,.slice _ _ _ _ p hp,r2,r3⟩
 ·obtain ⟨hes',he2⟩:=aC he
  have hes':i.size=es':=Nat.eq_of_beq_eq_true hes'
  subst hes'
  rcases gy he2 with ⟨h0,he3⟩|⟨m,h0,he3⟩
  ·obtain ⟨rfl,rfl⟩:=RV.av he3
   cases hs with
   | bZ _ _ _ _ cap p a hp h1 h2 h3 h4 h5 h6=>
   subst h0
   rw [dG (P:=P) (ty:=ty) ht hi S h2 (w':=w) (fun b _=>by rw [hns0 rfl];rfl) (fun _=>rfl)]
   exact .same H (.bZ _ _ _ _ cap p a hp h1 h2 h3 h4 h5 h6) rfl
  ·subst h0
   exact AY H ht hi hz hzs hby hes S (by omega) hs he3
 ·cases hs
  rcases gy he with ⟨rfl,he⟩|⟨m,rfl,he⟩
  ·obtain ⟨rfl,rfl⟩:=RV.av he
   rw [dG (P:=P) (ty:=ty) ht hi S (Nat.le_refl 0) (w':=w) (by simp) (fun _=>rfl)]
   exact .same H .aj rfl
  ·exact oo H ht hi hz hzs hby hes S (n:=0) (c:=0) (by omega) (CD.none i.size) he
theorem lp {e:TypeId} (hg:iy P e=true):∃i zv,P.info? e=some i∧i.zero=some zv∧zv.cells.size=i.size∧i.bytes≤1048576:=by
 unfold iy at hg
 split at hg
 ·rename_i i hi
  simp only [Bool.and_eq_true] at hg
  obtain ⟨h1,h2⟩:=hg
  split at h1
  ·rename_i zv hz
   exact ⟨i,zv,hi,hz,by simpa using h1,Nat.le_of_ble_eq_true h2⟩
  ·cases h1
 ·cases hg
theorem HM {t u ty e f:TypeId} (H:HR φ h w) (hx:VR φ (ev x r) cx) (hy:VR φ (ev y r) cy) (ht:P.underlying t=some (.slice e)) (hu:P.underlying u=some (.slice f)) (hg:iy P e=true) (hes:bj P e≠0)
  (he:vm e (bj P e) x y r h=.ok v h'):Good φ h w v h' ((Builtin.append_ #[t,u] ty #[cx,cy]).run P w):=by
 obtain ⟨i,zv,hi,hz,hzs,hby⟩:=lp hg
 rw [cB hi] at hes he
 unfold vm eI at he
 obtain ⟨m,base,c,rfl,he⟩:=oh hy he
 obtain ⟨hm,he⟩:=aC he
 obtain ⟨b,n,c,new,ns,hcy,he,E⟩:=ui (P:=P) H hy he
 cases hcy
 exact px H ht hi hz hzs hby (by omega) (E.src hu) hx he
theorem fP (φ:aJ):∀(s:List UInt8),bS φ (byteCells (s.map UInt8.toNat)) (s.map fun b=>Value.int .u8 b.toNat)∧∀c,c∈(s.map fun b=>Value.int .u8 b.toNat)→c.oneCell'=true
 | []=>⟨.nil,by simp⟩
 | b::s=>by
  obtain ⟨h1,h2⟩:=fP φ s
  refine ⟨.cons _ _ _ _ (.int _ _) h1,?_⟩
  intro c hc
  simp only [List.map_cons,List.mem_cons] at hc
  rcases hc with rfl|hc
  ·rfl
  ·exact h2 c hc
theorem Dh {t u ty e:TypeId} (H:HR φ h w) (hx:VR φ (ev x r) cx) (hy:VR φ (ev y r) cy) (ht:P.underlying t=some (.slice e)) (hu:P.underlying u=some .string) (hg:iy P e=true) (hes:bj P e=1)
  (he:ri e x y r h=.ok v h'):Good φ h w v h' ((Builtin.append_ #[t,u] ty #[cx,cy]).run P w):=by
 obtain ⟨i,zv,hi,hz,hzs,hby⟩:=lp hg
 rw [cB hi] at hes
 obtain ⟨l,el,he⟩:=cq he
 rw [el] at hy
 obtain ⟨s,rfl,rfl⟩:=hy.cR
 obtain ⟨g1,g2⟩:=fP φ s.data.toList
 have S:Ei P φ w u i.size s.size (byteCells (s.data.toList.map UInt8.toNat)) (.string s) (s.data.toList.map fun b=>Value.int .u8 b.toNat):=by
  refine ⟨⟨_,hu,by simp⟩,rfl,by rw [hes];simp,g1,g2,fun w' _=>?_⟩
  simp only [Builtin.firstCells]
  have:s.extract 0 s.size=s:=by simp
  rw [this]
  simp only [Sem.run_pure]
  congr 1
  apply Array.ext'
  simp
 have hl:(List.map UInt8.toNat s.data.toList).length=s.size:=by simp
 rw [hl,←hes] at he
 exact px H ht hi hz hzs hby (by omega) S.src hx he
variable {P:Program} {φ:aJ} {h h':Hp} {w:World} {v:AV} {x y z:AO} {r:A2} {cx cy:Value}
def HQ (φ:aJ) (r:A2) (x:OA) (c:Option Value):Prop:=match x,c with
 | .none,none=>True
 | .some x,some c=>VR φ (ev x r) c
 | _,_=>False
def Bnd (c:Option Value) (d b:Nat):Prop:=(c=none∧b=d)∨∃k,c=some (.int k b)
theorem cX {x:OA} {d:Nat} {k:Nat→RV} {q:Nat} {c:Option Value} (hx:HQ φ r x c) (e:fu x d r k (.err q)=.ok v h):∃b,Bnd c d b∧k b=.ok v h:=by
 cases x with
 | none=>
  cases c with
  | none=>exact ⟨d,.inl ⟨rfl,rfl⟩,e⟩
  | some c=>exact hx.elim
 | some x=>
  cases c with
  | none=>exact hx.elim
  | some c=>
   obtain ⟨kd,m,em,e⟩:=cP (show eo (ev x r) k (.err q)=.ok v h from e)
   have hx:VR φ (ev x r) c:=hx
   rw [em] at hx
   rw [hx.aW]
   exact ⟨m,.inr ⟨kd,rfl⟩,e⟩
theorem bm {k:IntKind} {b y:Nat} {code:BoundsCode} (h:b≤y):(Instr.sliceBound (.int k b) y code).run P w=.ok b w:=by
 simp only [Instr.sliceBound,asIntOf,Sem.run_bind,Sem.run_pure,Result.andThen_ok]
 rw [if_pos ⟨by omega,by omega⟩]
 simp
theorem cN {s:Bool} {len cap:Nat} {lo hi mx:Option Value} {a b m:Nat} (hm:Bnd mx cap m) (hb:Bnd hi len b) (ha:Bnd lo 0 a) (hmh:mx.isSome=true→hi.isSome=true) (h1:a≤b) (h2:hi.isSome=true→b≤m) (h3:m≤cap) :
  (Instr.sliceBounds s len cap lo hi mx).run P w=.ok (a,b,m) w:=by
 unfold Instr.sliceBounds
 rcases hm with ⟨rfl,rfl⟩|⟨km,rfl⟩
 ·rcases hb with ⟨rfl,rfl⟩|⟨kb,rfl⟩
  ·rcases ha with ⟨rfl,rfl⟩|⟨ka,rfl⟩
   ·simp
   ·simp [bm h1]
  ·have hbm:=h2 rfl
   rcases ha with ⟨rfl,rfl⟩|⟨ka,rfl⟩
   ·simp [bm hbm]
   ·simp [bm hbm,bm h1]
 ·rcases hb with ⟨rfl,rfl⟩|⟨kb,rfl⟩
  ·simp at hmh
  ·have hbm:=h2 rfl
   rcases ha with ⟨rfl,rfl⟩|⟨ka,rfl⟩
   ·simp [bm h3,bm hbm]
   ·simp [bm h3,bm hbm,bm h1]
theorem run_slice_any {t e:TypeId} {i:TypeInfo} (ht:P.underlying t=some (.slice e)) (hi:P.info? e=some i) {base:Option Addr} {len cap:Nat} {lo hh mx:Option Value} {a b m:Nat}
  (hb:(Instr.sliceBounds true len cap lo hh mx).run P w=.ok (a,b,m) w) :
  (Instr.sliceAt t (.slice base len cap) lo hh mx).run P w=.ok (.slice (if m=a then base else base.map (·.add (a * i.size))) (b - a) (m - a)) w:=by
 simp [Instr.sliceAt,Instr.slice,ar ht,aU hi,hb]
theorem Bnd.int {c:Option Value} {d b:Nat} (hb:Bnd c d b) (hc:c.isSome=true):∃k,c=some (.int k b):=by
 rcases hb with ⟨rfl,_⟩|h
 ·cases hc
 ·exact h
theorem dZ {a b:Nat} (e:Nat.ble a b=true):a≤b:=Nat.le_of_ble_eq_true e
theorem AZ {x:OA} {c:Option Value} (hx:HQ φ r x c):isSome x=c.isSome:=by
 cases x<;>cases c<;>first|rfl|exact hx.elim
theorem HR.room (H:HR φ h w) {i:P4} {p:Place} (hp:φ i=some p) {el n:Nat} {ex:Bool} {fl:Fl} {c:Cl} (hi:aq i h=.cells el n ex fl c):n≤p.room:=by
 obtain ⟨q,hq,hor⟩:=H.obj i (hi▸aN)
 rw [hp] at hq;cases hq
 rw [hi] at hor
 obtain ⟨rc,fz,g1,g2,g3,g4,g5,g6,g7⟩:=hor
 exact g3
theorem Ij {t e:TypeId} {i:TypeInfo} (H:HR φ h w) (hx:VR φ (ev x r) cx) {lo hi mx:OA} {clo chi cmx:Option Value} (hlo:HQ φ r lo clo) (hhi:HQ φ r hi chi) (hmx:HQ φ r mx cmx) (ht:P.underlying t=some (.slice e)) (hie:P.info? e=some i) (hes:0 < i.size)
  (hmh:cmx.isSome=true→chi.isSome=true) (he:da i.size x lo hi mx r h=.ok v h'):Good φ h w v h' ((Instr.sliceAt t cx clo chi cmx).run P w):=by
 rcases cQ he with ⟨j,o,n,cap,es,he⟩|⟨j,o,n,es',es,he⟩|⟨es,he⟩
 ·obtain ⟨m,hm,he⟩:=cX hmx he
  obtain ⟨b,hb,he⟩:=cX hhi he
  obtain ⟨a,ha,he⟩:=cX hlo he
  obtain ⟨h1,he⟩:=aC he
  obtain ⟨h2,he⟩:=aC he
  obtain ⟨h3,he⟩:=aC he
  obtain ⟨rfl,rfl⟩:=RV.av he
  rw [es] at hx
  cases hx with
  | slice _ _ _ _ p hp=>
  rw [run_slice_any ht hie (cN hm hb ha hmh (dZ h1) (fun _=>dZ h2) (dZ h3))]
  by_cases hma:m=a
  ·subst hma
   refine .same H ?_ (by rw [if_pos rfl])
   have:Nat.beq m m=true:=Nat.beq_refl m
   rw [this]
   exact .slice _ _ _ _ p hp
  ·refine .same H ?_ (by rw [if_neg hma])
   have:Nat.beq m a=false:=by
    cases hb:Nat.beq m a
    ·rfl
    ·exact absurd (Nat.eq_of_beq_eq_true hb) hma
   rw [this]
   show VR φ (.slice j (o+a * i.size) (b - a) (m - a)) _
   simp only [Option.map_some,cg]
   exact .slice _ _ _ _ p hp
 ·obtain ⟨hes',he2⟩:=aC he
  have hes':i.size=es':=Nat.eq_of_beq_eq_true hes'
  clear he
  subst hes'
  obtain ⟨b,hb,he3⟩:=cX hhi he2
  obtain ⟨a,ha,he4⟩:=cX hlo he3
  rw [es] at hx
  cases hx with
  | bZ _ _ _ _ cap p ad hp h1 h2 h3 h4 h5 h6=>
  have hs:=AZ hmx
  rcases ff he4 with ⟨hn,he5⟩|⟨hn,he5⟩
  ·obtain ⟨hab,he6⟩:=aC he5
   obtain ⟨el,k,ex,fl,c,hj,he7⟩:=aR he6
   obtain ⟨hbk,he8⟩:=aC he7
   obtain ⟨rfl,rfl⟩:=RV.av he8
   have hab:=dZ hab
   have hbk:o+b * i.size≤k:=dZ hbk
   have hroom:=H.room hp hj
   have hcap:b≤cap:=Nat.le_of_mul_le_mul_right (show b * i.size≤cap * i.size by omega) hes
   have hnone:cmx=none:=by
    rw [hn] at hs;cases cmx
    ·rfl
    ·cases hs
   subst hnone
   rw [run_slice_any ht hie (cN (.inl ⟨rfl,rfl⟩) hb ha (by simp) hab (fun _=>hcap) (Nat.le_refl _))]
   refine .same H ?_ rfl
   have hsub:(cap - a) * i.size=cap * i.size - a * i.size:=Nat.sub_mul _ _ _
   have hle:a * i.size≤cap * i.size:=Nat.mul_le_mul_right _ (by omega)
   by_cases hca:cap=a
   ·rw [if_pos hca]
    exact .bZ j (o+a * i.size) (b - a) i.size (cap - a) p ad hp (by omega) (by omega) h3 h4 (fun hc=>absurd (by omega:cap - a=0) hc) h6
   ·rw [if_neg hca,fX h3 h4 h5 (by omega)]
    simp only [Option.map_some,cg]
    exact .bZ j (o+a * i.size) (b - a) i.size (cap - a) p (p.addr (o+a * i.size)) hp (by omega) (by omega) rfl rfl (fun _=>rfl) h6
  ·obtain ⟨m,hm,he6⟩:=cX hmx he5
   obtain ⟨hab,he7⟩:=aC he6
   obtain ⟨hbm,he8⟩:=aC he7
   obtain ⟨el,k,ex,fl,c,hj,he9⟩:=aR he8
   obtain ⟨hbk,he10⟩:=aC he9
   obtain ⟨rfl,rfl⟩:=RV.av he10
   have hab:=dZ hab
   obtain ⟨hm1,hbm⟩:=Bool.and_eq_true_iff.1 hbm
   have hbm:=dZ hbm
   have hm1:=dZ hm1
   have hbk:o+m * i.size≤k:=dZ hbk
   have hroom:=H.room hp hj
   have hcap:m≤cap:=Nat.le_of_mul_le_mul_right (show m * i.size≤cap * i.size by omega) hes
   have hsome:cmx.isSome=true:=by rw [←hs];exact hn
   obtain ⟨km,rfl⟩:=hm.int hsome
   rw [run_slice_any ht hie (cN (.inr ⟨km,rfl⟩) hb ha hmh hab (fun _=>hbm) hcap)]
   have had:=fX h3 h4 h5 (by omega)
   subst had
   by_cases hma:m=a
   ·subst hma
    refine .same H ?_ (by rw [if_pos rfl])
    have:Nat.beq m m=true:=Nat.beq_refl m
    rw [this]
    exact .slice _ _ _ _ p hp
   ·refine .same H ?_ (by rw [if_neg hma])
    have:Nat.beq m a=false:=by
     cases hb:Nat.beq m a
     ·rfl
     ·exact absurd (Nat.eq_of_beq_eq_true hb) hma
    rw [this]
    show VR φ (.slice j (o+a * i.size) (b - a) (m - a)) _
    simp only [Option.map_some,cg]
    exact .slice _ _ _ _ p hp
 ·obtain ⟨m,hm,he⟩:=cX hmx he
  obtain ⟨b,hb,he⟩:=cX hhi he
  obtain ⟨a,ha,he⟩:=cX hlo he
  obtain ⟨h1,he⟩:=aC he
  obtain ⟨rfl,rfl⟩:=RV.av he
  rw [es] at hx
  cases hx
  have h0:m+(a+b)=0:=Nat.eq_of_beq_eq_true h1
  have hm0:m=0:=by omega
  have ha0:a=0:=by omega
  have hb0:b=0:=by omega
  subst hm0 ha0 hb0
  rw [run_slice_any ht hie (cN hm hb ha hmh (Nat.le_refl _) (fun _=>Nat.le_refl _) (Nat.le_refl _))]
  exact .same H .aj (by simp)
theorem Dq {t e:TypeId} {i:TypeInfo} {n:Nat} (H:HR φ h w) (hx:VR φ (ev x r) cx) {lo hi mx:OA} {clo chi cmx:Option Value} (hlo:HQ φ r lo clo) (hhi:HQ φ r hi chi) (hmx:HQ φ r mx cmx) (ht:P.underlying t=some (.array n e)) (hie:P.info? e=some i)
  (hmh:cmx.isSome=true→chi.isSome=true) (he:oE n i.size x lo hi mx r h=.ok v h'):Good φ h w v h' ((Instr.sliceAt t cx clo chi cmx).run P w):=by
 obtain ⟨j,o,es,he⟩:=ct he
 obtain ⟨m,hm,he⟩:=cX hmx he
 obtain ⟨b,hb,he⟩:=cX hhi he
 obtain ⟨a,ha,he⟩:=cX hlo he
 obtain ⟨h1,he⟩:=aC he
 obtain ⟨h2,he⟩:=aC he
 obtain ⟨h3,he⟩:=aC he
 obtain ⟨rfl,rfl⟩:=RV.av he
 rw [es] at hx
 obtain ⟨p,hp,rfl⟩:=hx.fj
 have hbd:=cN (P:=P) (w:=w) (s:=false) hm hb ha hmh (dZ h1) (fun _=>dZ h2) (dZ h3)
 have hrun:(Instr.sliceAt t (.pointer (some (p.addr o))) clo chi cmx).run P w=.ok (.slice (some (if m=a then p.addr o else (p.addr o).add (a * i.size))) (b - a) (m - a)) w:=by
  simp [Instr.sliceAt,ar ht,aU hie,Instr.sureAddr,hbd]
 rw [hrun]
 by_cases hma:m=a
 ·subst hma
  refine .same H ?_ (by rw [if_pos rfl])
  have:Nat.beq m m=true:=Nat.beq_refl m
  rw [this]
  exact .slice _ _ _ _ p hp
 ·refine .same H ?_ (by rw [if_neg hma])
  have:Nat.beq m a=false:=by
   cases hb:Nat.beq m a
   ·rfl
   ·exact absurd (Nat.eq_of_beq_eq_true hb) hma
  rw [this]
  show VR φ (.slice j (o+a * i.size) (b - a) (m - a)) _
  rw [cg]
  exact .slice _ _ _ _ p hp
theorem Dp {t:TypeId} (H:HR φ h w) (hx:VR φ (ev x r) cx) {lo hi:OA} {clo chi:Option Value} (hlo:HQ φ r lo clo) (hhi:HQ φ r hi chi) (ht:P.underlying t=some .string)
  (he:ma x lo hi r h=.ok v h'):Good φ h w v h' ((Instr.sliceAt t cx clo chi none).run P w):=by
 obtain ⟨s,es,he⟩:=cq he
 obtain ⟨b,hb,he⟩:=cX hhi he
 obtain ⟨a,ha,he⟩:=cX hlo he
 obtain ⟨h1,he⟩:=aC he
 obtain ⟨h2,he⟩:=aC he
 obtain ⟨rfl,rfl⟩:=RV.av he
 rw [es] at hx
 obtain ⟨s,rfl,rfl⟩:=hx.cR
 have hl:(List.map UInt8.toNat s.data.toList).length=s.size:=by simp
 rw [hl] at hb h2
 have hbd:=cN (P:=P) (w:=w) (s:=false) (mx:=none) (.inl ⟨rfl,rfl⟩) hb ha (by simp) (dZ h1) (fun _=>dZ h2) (Nat.le_refl _)
 refine .same H (cv:=.string (s.extract a b)) (.str _ _ ?_) ?_
 ·show List.take (b - a) (List.drop a (List.map UInt8.toNat s.data.toList))=_
  rw [ByteArray.data_extract,Array.toList_extract,List.extract_eq_take_drop,List.map_take,List.map_drop]
 ·simp [Instr.sliceAt,Instr.slice,ar ht,hbd]
variable {P:Program} {φ:aJ} {h h':Hp} {w:World} {v:AV} {x y z:AO} {r:A2} {cx cy:Value}
theorem xI (a:AV) (l:List AV) (k:List Nat→RV) (e:RV):gY (a::l) k e=AV.dp a (fun kd n=>@Bool.rec (fun _=>RV) e (@Int.rec (fun _=>RV) (fun m=>@Bool.rec (fun _=>RV) e (gY l (fun s=>k (m::s)) e) (Nat.ble m 255)) (fun _=>e) n) (anH kd)) e:=rfl
theorem fB:∀{l:List AV} {k:List Nat→RV} {q:Nat},gY l k (.err q)=.ok v h→∃bs:List UInt8,l=byteCells (bs.map UInt8.toNat)∧k (bs.map UInt8.toNat)=.ok v h
 | [],k,q,e=>⟨[],rfl,e⟩
 | a::l,k,q,e=>by
  rw [xI] at e
  obtain ⟨kd,n,rfl,e⟩:=bn e
  obtain ⟨hk,e⟩:=aC e
  have hk:kd=.u8:=by cases kd<;>first|rfl|cases hk
  subst hk
  cases n with
  | negSucc m=>cases e
  | ofNat m=>
   obtain ⟨hm,e⟩:=aC e
   have hm:=dZ hm
   obtain ⟨bs,rfl,e2⟩:=fB (l:=l) (k:=fun s=>k (m::s)) (q:=q) e
   have hmm:(UInt8.ofNat m).toNat=m:=by simp;omega
   refine ⟨UInt8.ofNat m::bs,?_,?_⟩
   ·simp only [List.map_cons,hmm];rfl
   ·simp only [List.map_cons,hmm];exact e2
theorem lQ {bs:List UInt8} {ns:List Value} (hv:bS φ (byteCells (bs.map UInt8.toNat)) ns):ns=bs.map fun b=>Value.int .u8 b.toNat:=by
 induction bs generalizing ns with
 | nil=>cases hv;rfl
 | cons b bs ih=>
  cases hv with
  | cons _ c _ cs h1 h2=>rw [h1.aW,ih h2];rfl
theorem HE {a:AV} (H:HR φ h w) (hx:VR φ a cx) {s d e:TypeId} (hs:P.underlying s=some (.slice e)) (he:P.underlying e=some (.int .u8)) (hd:P.underlying d=some .string) (ho:FQ a h=.ok v h') :
  Good φ h w v h' ((convert s d cx).run P w):=by
 obtain ⟨b,n,c,new,ns,rfl,ho,E⟩:=ui (P:=P) H hx ho
 obtain ⟨bs,rfl,ho2⟩:=fB ho
 obtain ⟨rfl,rfl⟩:=RV.av ho2
 have hns:=lQ E.rel
 subst hns
 have hn:bs.length=n:=by simpa using E.size
 refine .same H (cv:=.string ⟨bs.toArray⟩) (.str _ _ (by simp)) ?_
 rw [run_convert_bytes_string w s d e b n c hs he hd]
 have hc:=E.cells w rfl
 cases b with
 | none=>
  simp only [Builtin.firstCells,Sem.run_pure] at hc
  have:bs=[]:=by
   have:=(Result.ok.inj hc).1
   cases bs
   ·rfl
   ·simp at this
  subst this
  rfl
 | some a=>
  simp only [Builtin.firstCells,Nat.mul_one] at hc
  have hc':(loadCells a n).run P w=.ok ((bs.map fun b=>(b.toNat:Int)).map (Value.int .u8)).toArray w:=by
   rw [hc,List.map_map];rfl
  rw [run_bytesToString w a n c _ hc',foldl_push_byteCells]
  simp
theorem HD {a:AV} (H:HR φ h w) (hx:VR φ a cx) {s d e:TypeId} (hs:P.underlying s=some .string) (he:P.underlying e=some (.int .u8)) (hd:P.underlying d=some (.slice e)) (ho:TH e a h=.ok v h') :
  Good φ h w v h' ((convert s d cx).run P w):=by
 obtain ⟨l,rfl,ho⟩:=cq ho
 obtain ⟨b,rfl,rfl⟩:=hx.cR
 obtain ⟨hr,hn,ho⟩:=fg ho
 obtain ⟨rfl,rfl⟩:=RV.av ho
 rw [run_bytes_of_string w s d e b hs hd he]
 obtain ⟨g1,g2⟩:=fP φ b.data.toList
 have hl:(byteCells (b.data.toList.map UInt8.toNat)).length=b.size:=by rw [g1.length];simp
 have hcap:b.size≤grownCap w b.size 0 e:=by simp [grownCap,Question.cut]
 have hsz:(bytesRow b (grownCap w b.size 0 e)).size=grownCap w b.size 0 e:=by simp [bytesRow];omega
 generalize hrow:bytesRow b (grownCap w b.size 0 e)=row at hsz ⊢
 generalize hcp:grownCap w b.size 0 e=cp at *
 have hfl:Eg .mark (row.size,row.size+1) row.size:=by intro k hk;simp;omega
 obtain ⟨k1,k2⟩:=H.nV (n':=h.next.succ) (w':=w.drew.alloc (.cells row e (row.size,row.size+1))) hn (rc:=row) (el:=e) (n:=(byteCells (b.data.toList.map UInt8.toNat)).length) (ex:=false) (fl:=.mark) (fz:=(row.size,row.size+1))
  (c:=lP (byteCells (b.data.toList.map UInt8.toNat))) (by rw [hl,hsz];exact hcap) (by simp) hr (fun k hk=>by
   have hk':k < (b.data.toList.map fun b=>Value.int .u8 b.toNat).length:=by rw [←g1.length];exact hk
   refine ⟨(b.data.toList.map fun b=>Value.int .u8 b.toNat)[k],?_,?_,g2 _ (List.getElem_mem _)⟩
   ·rw [←hrow,bytesRow,Array.getElem?_append_left (by simpa using hk')]
    simp only [List.length_map,Array.length_toList] at hk'
    rw [Array.getElem?_map,Array.getElem?_eq_getElem hk']
    simp
   ·rw [dD _ hr k hk];exact g1.get k hk hk') hfl rfl rfl rfl rfl
 refine ⟨_,_,_,rfl,?_,k1,k2⟩
 have hll:(List.map UInt8.toNat b.data.toList).length=b.size:=by simp
 rw [hll]
 exact .bZ _ 0 b.size 1 cp ⟨w.heap.size,0,_⟩ ⟨w.heap.size,0,none⟩ (aJ.aO _ _ _) (by simp only;omega) hcap rfl rfl (fun _=>rfl) (by omega)
theorem uk (H:HR φ h w) {s:AV} {base:Option Addr} {n c:Nat} (hs:VR φ s (.slice base n c)) {l:List AV} {vs:List Value} (hl:bS φ l vs) (h1:∀c,c∈vs→c.oneCell'=true) (hn:n=0→l=[]) {k:Hp→RV} (e:ym l s h k=.ok v h') :
  ∃w' h2,k h2=.ok v h'∧(∀a,base=some a→(storeCells a vs).run P w=.ok () w')∧(base=none→w'=w)∧HR φ h2 w'∧Step φ h w φ h2 w':=by
 cases hl with
 | nil=>exact ⟨w,h,e,fun a _=>rfl,fun _=>rfl,H,.refl _ _ _⟩
 | cons a cv as cvs ha has=>
  have hn0:n≠0:=fun h0=>by cases hn h0
  have e:AV.jj s (fun i o _ _=>lh i o (a::as) h k) (fun i o _ _=>lh i o (a::as) h k) (RV.err 93) (RV.err 93)=RV.ok v h':=e
  rcases cQ e with ⟨i,o,l,c,rfl,e2⟩|⟨i,o,l,c,rfl,e2⟩|⟨rfl,e2⟩
  ·obtain ⟨el,k',ex,fl,c,hj,hf,hb,e3⟩:=mR e2
   cases hs with
   | slice _ _ _ _ p hp=>
   obtain ⟨w',r1,r2,r3⟩:=jH (P:=P) H hp hj hf (.cons a cv as cvs ha has) h1 (o:=o) hb
   exact ⟨w',_,e3,fun b hb=>by cases hb;exact r1,by simp,r2,r3⟩
  ·obtain ⟨el,k',ex,fl,c,hj,hf,hb,e3⟩:=mR e2
   cases hs with
   | bZ _ _ _ _ cap p ad hp g1 g2 g3 g4 g5 g6=>
   obtain ⟨w',r1,r2,r3⟩:=jH (P:=P) H hp hj hf (.cons a cv as cvs ha has) h1 (o:=o) hb
   exact ⟨w',_,e3,fun b hb=>by cases hb;rw [fX g3 g4 g5 (by omega)];exact r1,by simp,r2,r3⟩
  ·cases e2
theorem bS.take:∀{as:List AV} {vs:List Value} (n:Nat),bS φ as vs→bS φ (as.take n) (vs.take n)
 | _,_,0,_=>by simpa using bS.nil
 | _,_,n+1,.nil=>.nil
 | _,_,n+1,.cons _ _ _ _ e es=>.cons _ _ _ _ e (bS.take n es)
theorem HN {ts:Array TypeId} {ty t e:TypeId} {i:TypeInfo} (hts:ts[0]?=some t) (H:HR φ h w) (hx:VR φ (ev x r) cx) (hy:VR φ (ev y r) cy) (ht:P.underlying t=some (.slice e)) (hi:P.info? e=some i) (hes:0 < i.size)
  (he:vp i.size x y r h=.ok v h'):Good φ h w v h' ((Builtin.copy_ ts ty #[cx,cy]).run P w):=by
 unfold vp FZ at he
 obtain ⟨n,base,c,rfl,he⟩:=oh hx he
 have hrun:∀{m:Nat} {arr:List Value} {w':World},(Builtin.lenOf cy).run P w=.ok m w→(Builtin.firstCells i.size (Nat.min m n) cy).run P w=.ok arr.toArray w→(∀a,base=some a→(storeCells a arr).run P w=.ok () w')→(base=none→w'=w)→
   (Builtin.copy_ ts ty #[.slice base n c,cy]).run P w=.ok (goInt (Nat.min m n)) w':=by
  intro m arr w' h1 h2 h3 h4
  cases base with
  | none=>
   rw [h4 rfl]
   simp [Builtin.copy_,hts,ar ht,h1,aU hi,h2]
  | some a=>
   simp [Builtin.copy_,hts,ar ht,h1,aU hi,h2,h3 a rfl]
 have hcase:(∃s,ev y r=.str s)∨(∀s,ev y r≠.str s):=by
  cases ev y r<;>first|exact .inl ⟨_,rfl⟩|exact .inr fun s=>by simp
 rcases hcase with ⟨s,es⟩|hns
 ·rw [es] at he hy
  obtain ⟨b,rfl,rfl⟩:=hy.cR
  obtain ⟨g1,g2⟩:=fP φ (b.data.toList.take n)
  rw [List.map_take] at g1
  obtain ⟨hsz,he⟩:=aC he
  have hsz:=Nat.eq_of_beq_eq_true hsz
  obtain ⟨w',h2,he2,r1,r2,r3,r4⟩:=uk (P:=P) H hx g1 g2 (fun h0=>by rw [h0];rfl) he
  obtain ⟨rfl,rfl⟩:=RV.av he2
  rw [hrun (m:=b.size) rfl (by
   simp only [Builtin.firstCells,Sem.run_pure]
   congr 1
   apply Array.ext'
   rw [Array.toList_map,ByteArray.data_extract,Array.toList_extract,List.extract_eq_take_drop]
   simp only [List.drop_zero,Nat.sub_zero]
   congr 1
   show List.take (min b.size n) b.data.toList=_
   rw [List.take_eq_take_iff]
   simp
   have:b.size=b.data.size:=rfl
   omega) r1 r2]
  refine ⟨_,w',φ,rfl,?_,r3,r4⟩
  have hll:(List.map UInt8.toNat b.data.toList).length=b.size:=by simp
  rw [hll]
  exact .int _ _
 ·have he2:rh (ev y r) (fun m=>elems i.size (ev y r) h (fun l=>ym (List.take (Nat.mul n i.size) l) (ev x r) h (fun h=>.ok (gZ (Nat.min m n)) h)) (.err 94)) (.err 94)=.ok v h':=by
   revert he hns
   cases ev y r<;>intro he hns<;>first|exact he|exact absurd rfl (hns _)
  obtain ⟨m,b2,c2,rfl,he3⟩:=oh hy he2
  obtain ⟨b,m',c3,new,ns,hcy,he4,E⟩:=ui (P:=P) H hy he3
  cases hcy
  have hrel:=E.rel.take (Nat.mul n i.size)
  obtain ⟨w',h2,he5,r1,r2,r3,r4⟩:=uk (P:=P) H hx hrel (fun c hc=>E.one c (List.mem_of_mem_take hc)) (fun h0=>by rw [h0];simp) he4
  obtain ⟨rfl,rfl⟩:=RV.av he5
  have hpre:=E.pre (Nat.min m n) (Nat.min_le_left _ _)
  have htk:List.take (Nat.min m n * i.size) ns=List.take (Nat.mul n i.size) ns:=by
   rw [List.take_eq_take_iff,E.size]
   show min (min m n * i.size) (m * i.size)=min (n * i.size) (m * i.size)
   rcases Nat.le_total m n with g|g
   ·rw [Nat.min_eq_left g,Nat.min_self,Nat.min_eq_right (Nat.mul_le_mul_right _ g)]
   ·rw [Nat.min_eq_right g]
  rw [htk] at hpre
  rw [hrun (m:=m) rfl hpre r1 r2]
  exact ⟨_,w',φ,rfl,.int _ _,r3,r4⟩
variable {P:Program} {φ:aJ} {h h':Hp} {w:World} {v:AV} {x y z:AO} {r:A2} {cx cy:Value}
theorem pN (z:List AV):dS 0 z=[]:=rfl
theorem wm (n:Nat) (z:List AV):dS (n+1) z=z ++ dS n z:=rfl
theorem eQ:∀(n:Nat) (z:List AV),(dS n z).length=n * z.length
 | 0,z=>by rw [pN];simp
 | n+1,z=>by rw [wm,List.length_append,eQ n z,Nat.add_mul];omega
theorem jB:∀(n:Nat) (z:List AV) (k:Nat) (hk:k < (dS n z).length) (hz:k % z.length < z.length),(dS n z)[k]=z[k % z.length]
 | 0,z,k,hk,_=>by rw [pN] at hk;simp at hk
 | n+1,z,k,hk,hz=>by
  by_cases h1:k < z.length
  ·have:(dS (n+1) z)[k]=z[k]:=List.getElem_append_left h1
   rw [this]
   congr 1
   exact (Nat.mod_eq_of_lt h1).symm
  ·have h2:k - z.length < (dS n z).length:=by
    rw [wm,List.length_append] at hk;omega
   have:(dS (n+1) z)[k]=(dS n z)[k - z.length]:=List.getElem_append_right (by omega)
   have hmod:(k - z.length) % z.length=k % z.length:=(Nat.mod_eq_sub_mod (by omega)).symm
   rw [this,jB n z _ h2 (by rw [hmod];exact hz)]
   congr 1
theorem eE {z:List AV} {zc:Array Value} (hz:bS φ z zc.toList) (h1:∀c,c∈zc.toList→c.oneCell'=true) (n m:Nat) (hm:m=n * zc.size) :
  bS φ (dS n z) ((Array.range m).map (zc[· % zc.size]!)).toList∧∀c,c∈((Array.range m).map (zc[· % zc.size]!)).toList→c.oneCell'=true:=by
 have hl:z.length=zc.size:=by rw [hz.length];simp
 have hpos:∀k,k < m→k % zc.size < zc.size:=fun k hk=>Nat.mod_lt _ (by
  rcases Nat.eq_zero_or_pos zc.size with g|g
  ·rw [g,Nat.mul_zero] at hm;omega
  ·exact g)
 refine ⟨bS.JP (by rw [eQ,hl];simp [hm]) fun k hk hk'=>?_,fun c hc=>?_⟩
 ·have hkm:k < m:=by rw [eQ,hl] at hk;omega
  have hp:=hpos k hkm
  rw [jB n z k hk (by rw [hl];exact hp)]
  have hp':k % z.length < zc.toList.length:=by rw [hl];simpa using hp
  have:=hz.get (k % z.length) (by rw [hl];exact hp) hp'
  have he:((Array.range m).map (zc[· % zc.size]!)).toList[k]=zc.toList[k % z.length]:=by
   simp only [Array.getElem_toList,Array.getElem_map,Array.getElem_range]
   rw [getElem!_pos zc (k % zc.size) hp]
   congr 1
   rw [hl]
  rw [he]
  exact this
 ·rw [Array.toList_map] at hc
  simp only [List.mem_map,Array.mem_toList_iff,Array.mem_range] at hc
  obtain ⟨k,hk,rfl⟩:=hc
  have hp:=hpos k hk
  rw [getElem!_pos zc (k % zc.size) hp]
  exact h1 _ (by simp)
theorem fT {t:TypeId} {z:List AV} (hz:fS P t=some z) (φ:aJ):∃i zv,P.info? t=some i∧i.zero=some zv∧bS φ z zv.cells.toList∧∀c,c∈zv.cells.toList→c.oneCell'=true:=by
 unfold fS at hz
 simp only [Option.bind_eq_some_iff] at hz
 obtain ⟨zv,⟨inf,hinf,hzv⟩,hl⟩:=hz
 obtain ⟨g1,g2⟩:=lI φ hl
 exact ⟨inf,zv,hinf,hzv,g1,g2⟩
theorem HO {ts:Array TypeId} {ty t e:TypeId} (hts:ts[0]?=some t) (H:HR φ h w) (hx:VR φ (ev x r) cx) (ht:P.underlying t=some (.slice e)) {zs:List AV} (hz:fS P e=some zs)
  (he:vq zs x r h=.ok v h'):Good φ h w v h' ((Builtin.clear_ ts ty #[cx]).run P w):=by
 unfold vq anJ at he
 obtain ⟨n,base,c,rfl,he2⟩:=oh hx he
 obtain ⟨i,zv,hi,hzv,g1,g2⟩:=fT hz φ
 obtain ⟨k1,k2⟩:=eE g1 g2 n _ rfl
 obtain ⟨w',h2,he3,r1,r2,r3,r4⟩:=uk (P:=P) H hx k1 k2 (fun h0=>by rw [h0,pN]) he2
 obtain ⟨rfl,rfl⟩:=RV.av he3
 have hv:VR φ cm (.tuple #[]):=.eS [] [] .nil
 have hrun:(Builtin.clear_ ts ty #[.slice base n c]).run P w=.ok (.tuple #[]) w':=by
  cases base with
  | none=>
   rw [r2 rfl]
   simp [Builtin.clear_,hts,ar ht]
  | some a=>
   have hr1:=r1 a rfl
   cases n with
   | zero=>
    have hw:w'=w:=by
     have:((Array.range (0 * zv.cells.size)).map (zv.cells[· % zv.cells.size]!)).toList=[]:=by simp
     rw [this] at hr1
     simp [storeCells] at hr1
     exact hr1.symm
    rw [hw]
    simp [Builtin.clear_,hts,ar ht]
   | succ n=>
    have hr2:(storeCells a (Builtin.zeroCells zv.cells (n+1)).toList).run P w=.ok () w':=hr1
    simp [Builtin.clear_,hts,ar ht,zeroValue,bw hi,hzv,hr2]
 rw [hrun]
 exact ⟨_,w',φ,rfl,hv,r3,r4⟩
theorem lX (H:HR φ h w) {l:List AV} {vs:List Value} (hl:bS φ l vs) (h1:∀c,c∈vs→c.oneCell'=true) {el n c:Nat} (e:oB el true .plain l.length (lP l) h (fun i h=>.ok (.slice i 0 n c) h)=.ok v h') :
  Good φ h w v h' (.ok (.slice (some ⟨w.heap.size,0,none⟩) n c) {w with heap:=w.heap.push (.cells vs.toArray el)}):=by
 obtain ⟨hr,hi,e⟩:=fg e
 obtain ⟨rfl,rfl⟩:=RV.av e
 obtain ⟨g1,g2⟩:=H.Cv (n':=h.next.succ) hi hl h1 (el:=el) hr (fun k hk=>dD l hr k hk)
 refine ⟨_,_,_,rfl,?_,g1,g2⟩
 have:=VR.slice (φ:=φ.put h.next ⟨w.heap.size,0,vs.length⟩) h.next 0 n c _ (aJ.aO _ _ _)
 simpa [Place.addr] using this
theorem iL {G:Gl} {n:Nat} {place:Nat→Option (Nat×Nat)} {ρ:Operand→Value}:∀{qs:List (Nat×Operand)} {ps:List Part},pH G n place qs=some ps→(∀q,q∈qs→∀a,cO G q.2=some a→VR φ (ev a r) (ρ q.2))→
  ps.length=qs.length∧(∀k (h1:k < ps.length) (h2:k < (qs.map fun q=>(q.1,ρ q.2)).length),tW φ r place ps[k] (qs.map fun q=>(q.1,ρ q.2))[k])∧∀p,p∈ps→match p with|.mk off sz _=>off+sz≤n
 | [],ps,e,_=>by
  simp [pH] at e;subst e;simp
 | (i,o)::qs,ps,e,hv=>by
  unfold pH at e
  simp only [List.mapM_cons,Option.pure_def,Option.bind_eq_bind,Option.bind_eq_some_iff,Option.some.injEq] at e
  obtain ⟨p,⟨⟨off,sz⟩,hpl,hp⟩,ps',hps,rfl⟩:=e
  obtain ⟨g1,g2,g3⟩:=iL (qs:=qs) hps (fun q hq=>hv q (by simp [hq]))
  simp only at hp
  split at hp
  ·rename_i hle
   simp only [Option.bind_eq_some_iff,Option.some.injEq] at hp
   obtain ⟨a,ha,rfl⟩:=hp
   refine ⟨by simp [g1],fun k h1 h2=>?_,fun p hp=>?_⟩
   ·match k with
    | 0=>exact ⟨hpl,hv (i,o) (by simp) a ha⟩
    | k+1=>exact g2 k (by simpa using h1) (by simpa using h2)
   ·rcases List.mem_cons.1 hp with rfl|hp
    ·exact hle
    ·exact g3 p hp
  ·cases hp
theorem sZ {t:TypeId} {zs:List AV} (H:HR φ h w) (hz:fS P t=some zs) {place:Nat→Option (Nat×Nat)} {ps:List Part} {qs:List (Nat×Value)} (hl:ps.length=qs.length) (hp:∀k (h1:k < ps.length) (h2:k < qs.length),tW φ r place ps[k] qs[k])
  (hb:∀p,p∈ps→match p with|.mk off sz _=>off+sz≤zs.length) (ht:(∃fs,P.underlying t=some (.struct fs)∧(∀f,f∈fs→(P.info? f.type).isSome=true)∧place=(fun i=>(fs[i]?).map fun f=>(f.offset,bj P f.type)))∨
   (∃n e,P.underlying t=some (.array n e)∧(P.info? e).isSome=true∧place=fun i=>some (i * bj P e,bj P e)))
  (he:jk zs ps r h=.ok v h'):Good φ h w v h' ((Instr.build t qs.toArray).run P w):=by
 obtain ⟨hf,he⟩:=aC he
 obtain ⟨rfl,rfl⟩:=RV.av he
 obtain ⟨i,zv,hi,hzv,g1,g2⟩:=fT hz φ
 obtain ⟨es,f1,f2,f3⟩:=tY ps qs zs zv.cells.toList hl hp hf (fun p hp'=>by have:=hb p hp';rw [g1.length] at this;exact this) g1 g2
 refine .same H (cv:=.agg es.toArray) (.agg _ _ f2 f3) ?_
 rcases ht with ⟨fs,ht,hfs,rfl⟩|⟨n,e,ht,hei,rfl⟩
 ·have hm:∀(l:List Field),(∀f,f∈l→(P.info? f.type).isSome=true)→(l.mapM fun f=>Prod.mk f.offset <$> sizeOf f.type).run P w=.ok (l.map fun f=>(f.offset,bj P f.type)) w:=by
   intro l
   induction l with
   | nil=>intro _;rfl
   | cons f l ih=>
    intro hl
    obtain ⟨inf,hinf⟩:=Option.isSome_iff_exists.1 (hl f (by simp))
    simp [List.mapM_cons,aU hinf,ih (fun g hg=>hl g (by simp [hg])),cB hinf]
  have hma:=hm fs.toList (fun f hf=>hfs f (by simpa using hf))
  have hplace:(fun (i:Nat)=>(fs.toList.map fun (f:Field)=>(f.offset,bj P f.type)).toArray[i]?)=fun (i:Nat)=>(fs[i]?).map fun (f:Field)=>(f.offset,bj P f.type):=by
   funext i;simp
  have f1':Instr.fill (fun (i:Nat)=>(fs.toList.map fun (f:Field)=>(f.offset,bj P f.type)).toArray[i]?) zv.cells qs=some es.toArray:=by rw [hplace];simpa using f1
  simp [Instr.build,zeroValue,bw hi,hzv,ar ht,Array.mapM_eq_mapM_toList,hma]
  simp at f1'
  simp [f1']
 ·obtain ⟨inf,hinf⟩:=Option.isSome_iff_exists.1 hei
  rw [cB hinf] at f1
  have f1':Instr.fill (fun i=>some (i * inf.size,inf.size)) zv.cells qs=some es.toArray:=by simpa using f1
  simp [Instr.build,zeroValue,bw hi,hzv,ar ht,aU hinf,f1']
theorem kQ:∀(ps:List Part) (l:List AV),(fill ps r l).length=l.length
 | [],_=>rfl
 | .mk off sz x::ps,l=>by
  rw [wk]
  simp only
  rw [kQ ps]
  have:∀(as:List AV) (i:Nat) (l:List AV),(na as i l).length=l.length:=by
   intro as
   induction as with
   | nil=>intro i l;rfl
   | cons a as ih=>intro i l;rw [ue,ih,xH];simp
  exact this _ _ _
theorem yx {t e:TypeId} {zs:List AV} (H:HR φ h w) (ht:P.underlying t=some (.slice e)) (hz:fS P e=some zs) (hzl:zs.length=bj P e) (hes:bj P e≠0) {n:Nat} {ps:List Part} {qs:List (Nat×Value)} (hl:ps.length=qs.length)
  (hp:∀k (h1:k < ps.length) (h2:k < qs.length),tW φ r (fun i=>some (i * bj P e,bj P e)) ps[k] qs[k])
  (hb:∀p,p∈ps→match p with|.mk off sz _=>off+sz≤n * bj P e) (he:fQ e (bj P e) n (dS n zs) ps r h=.ok v h') :
  Good φ h w v h' ((Instr.buildSlice t n qs.toArray).run P w):=by
 obtain ⟨hf,he⟩:=aC he
 obtain ⟨i,zv,hi,hzv,g1,g2⟩:=fT hz φ
 rw [cB hi] at hzl hes hp hb
 have hzs:zv.cells.size=i.size:=by rw [←hzl,g1.length];simp
 obtain ⟨k1,k2⟩:=eE g1 g2 n (n * i.size) (by rw [hzs])
 have hlen:((Array.range (n * i.size)).map (zv.cells[· % zv.cells.size]!)).toList.length=n * i.size:=by simp
 obtain ⟨es,f1,f2,f3⟩:=tY ps qs (dS n zs) ((Array.range (n * i.size)).map (zv.cells[· % zv.cells.size]!)).toList hl hp hf (fun p hp'=>by have:=hb p hp';rw [hlen];exact this) k1 k2
 have hr:=(fg he).1
 rw [kQ,eQ,hzl] at hr
 have hcr:=kP (lP (fill ps r (dS n zs)))
 have:=lX H f2 f3 he
 have hrun:(Instr.buildSlice t n qs.toArray).run P w=.ok (.slice (some ⟨w.heap.size,0,none⟩) n n) {w with heap:=w.heap.push (.cells es.toArray e)}:=by
  have hbig:¬ (16777216 < n * i.size):=by omega
  by_cases h0:n * i.size=0
  ·have hn0:n=0:=by
    rcases Nat.mul_eq_zero.1 h0 with g|g
    ·exact g
    ·exact absurd g hes
   subst hn0
   have hh:((Array.range (0 * i.size)).map (zv.cells[· % zv.cells.size]!)).toList.toArray=#[]:=by simp
   rw [hh] at f1
   have hh2:∀g:Nat→Value,(Array.range 0).map g=#[]:=by intro g;simp
   simp only [Instr.buildSlice,Sem.run_bind,ar ht,Result.andThen_ok,aU hi]
   simp only [Nat.zero_mul,hh2,f1]
   simp [dY]
  ·have f1':Instr.fill (fun i_1=>some (i_1 * i.size,i.size)) ((Array.range (n * i.size)).map (zv.cells[· % zv.cells.size]!)) qs=some es.toArray:=f1
   simp only [Instr.buildSlice,Sem.run_bind,ar ht,Result.andThen_ok,aU hi]
   rw [if_neg hbig]
   simp only [h0,if_false,zeroValue,Sem.run_bind,bw hi,hzv,Result.andThen_ok,Sem.run_pure,f1',dY]
 rw [hrun]
 exact this
variable {P:Program} {φ:aJ} {h h':Hp} {w:World} {v:AV} {x y z:AO} {r:A2} {cx cy:Value}
theorem bT {b:Nat} {o:Go.Obj} {es:Array MapEntry} {ck:Nat} (h1:w.heap[b]?=some o) (ho:o=.map es ck):(getObj b).run P w=.ok (.map es ck) w:=by
 subst ho
 show (Sem.getObj b .pure).run P w=_
 simp [Sem.run,h1]
theorem HR.map (H:HR φ h w) {i:P4} {p:Place} {l:List KV} {ck:Nat} (hi:aq i h=.map l ck) (hp:φ i=some p):∃es cw l0,w.heap[p.bA]?=some (.map es cw)∧l.Perm l0∧bM (bV p.room) φ l0 es.toList∧xT (bV p.room) (l.map KV.jf) ck cw:=by
 obtain ⟨q,hq,hor⟩:=H.obj i (hi▸fi)
 rw [hp] at hq;cases hq
 rw [hi] at hor
 exact hor
theorem VR.jo {i:P4} {c:Value} (hv:VR φ (.map i) c):∃p,φ i=some p∧c=.map (some p.bA):=by cases hv;exact ⟨_,by assumption,rfl⟩
theorem VR.oq {c:Value} (hv:VR φ .mX c):c=.map none:=by cases hv;rfl
theorem bM.length {st:Nat→Nat}:∀{l:List KV} {es:List MapEntry},bM st φ l es→l.length=es.length
 | _,_,.nil=>rfl
 | _,_,.cons _ _ _ _ _ _ _ _ _ r=>by simp [bM.length r]
theorem Dg {ts:Array TypeId} {ty t k e:TypeId} (hts:ts[0]?=some t) (H:HR φ h w) (hx:VR φ (ev x r) cx) (ht:P.underlying t=some (.map k e)) (he:oL x r h=.ok v h') :
  Good φ h w v h' ((Builtin.len_ ts ty #[cx]).run P w):=by
 rcases eY he with ⟨i,es,he⟩|⟨es,he⟩
 ·obtain ⟨l,c,hi,he⟩:=dE he
  obtain ⟨rfl,rfl⟩:=RV.av he
  rw [es] at hx
  obtain ⟨p,hp,rfl⟩:=hx.jo
  obtain ⟨es,cw,l0,h1,hpm,h2,_⟩:=H.map hi hp
  refine .same H (cv:=goInt es.size) ?_ (by simp [Builtin.len_,hts,ar ht,bT h1 rfl])
  have:l.length=es.size:=by rw [hpm.length_eq,h2.length];simp
  rw [this]
  exact .int _ _
 ·obtain ⟨rfl,rfl⟩:=RV.av he
  rw [es] at hx
  rw [hx.oq]
  exact .same H (cv:=goInt 0) (.int _ _) (by simp [Builtin.len_,hts,ar ht])
theorem ta {t:TypeId} (H:HR φ h w) (he:qy r h=.ok v h'):Good φ h w v h' ((Instr.makeMap t none).run P w):=by
 obtain ⟨hi,he⟩:=gz he
 obtain ⟨rfl,rfl⟩:=RV.av he
 have hw:({w with heap:=w.heap.push (.map #[] 0)}:World).heap=w.heap.push (.map #[] 0):=rfl
 have hle:=aJ.fI (φ:=φ) (i:=h.next) ⟨w.heap.size,0,0⟩ (H.fresh _ hi)
 have g1:=H.new (w':={w with heap:=w.heap.push (.map #[] 0)}) (n':=h.next.succ) (room:=0) hi hw (o:=.map [] 0) (by simp) ⟨#[],0,[],rfl,.refl _,.nil,.start⟩
 refine ⟨.map (some w.heap.size),_,_,rfl,.map _ _ (aJ.aO _ _ _),g1,hle,.new hw rfl rfl rfl,fun j q hj hq=>?_,.put _ _ _ _⟩
 rw [iT] at hj
 by_cases e:j=h.next
 ·subst e
  rw [aJ.aO] at hq;cases hq
  exact .inr (.inl (Nat.le_refl _))
 ·rw [if_neg e] at hj
  exact .inl ⟨hj,by simpa [aJ.put,e] using hq⟩
theorem HL {ts:Array TypeId} {ty t e:TypeId} (hts:ts[0]?=some t) (H:HR φ h w) (hx:VR φ (ev x r) cx) (ht:P.underlying t=some (.slice e)) (he:mV x r h=.ok v h'):Good φ h w v h' ((Builtin.cap_ ts ty #[cx]).run P w):=by
 rcases cQ he with ⟨i,o,l,c,es,he⟩|⟨i,o,l,c,es,he⟩|⟨es,he⟩
 ·obtain ⟨rfl,rfl⟩:=RV.av he
  rw [es] at hx
  cases hx
  exact .same H (cv:=goInt c) (.int _ _) (by simp [Builtin.cap_,hts,ar ht])
 ·cases he
 ·obtain ⟨rfl,rfl⟩:=RV.av he
  rw [es] at hx
  cases hx
  exact .same H (cv:=goInt 0) (.int _ _) (by simp [Builtin.cap_,hts,ar ht])
theorem iO {a b:FloatKind} (e:wz a b=true):a=b:=by cases a<;>cases b<;>first|rfl|cases e
theorem VR.lC {k:FloatKind} {n:Nat} {c:Value} (hv:VR φ (.gA k n) c):c=.float k n:=by cases hv;rfl
theorem VR.ot {k:FloatKind} {m n:Nat} {c:Value} (hv:VR φ (.aM k m n) c):c=.complex k m n:=by cases hv;rfl
theorem Dk {ts:Array TypeId} {ty:TypeId} {k:FloatKind} (H:HR φ h w) (hx:VR φ (ev x r) cx) (hy:VR φ (ev y r) cy) (he:oO k x y r h=.ok v h'):Good φ h w v h' ((Builtin.complex_ ts ty #[cx,cy]).run P w):=by
 obtain ⟨k1,a,ea,he⟩:=dX he
 obtain ⟨k2,b,eb,he⟩:=dX he
 obtain ⟨hk,he⟩:=aC he
 obtain ⟨rfl,rfl⟩:=RV.av he
 obtain ⟨h1,h2⟩:=Bool.and_eq_true_iff.1 hk
 have h1:=iO h1
 have h2:=iO h2
 subst h1 h2
 rw [ea] at hx
 rw [eb] at hy
 rw [hx.lC,hy.lC]
 refine .same H (.aM _ _ _) ?_
 show ((if k=k then pure (.complex k a b) else stuck "complex: parts of different kinds" : Sem Value)).run P w=_
 rw [if_pos rfl];rfl
variable {P:Program} {φ:aJ} {h h':Hp} {w:World} {v:AV} {x y z:AO} {r:A2} {cx cy:Value}
theorem um:∀{ks:List KK} {a b:List AV},ya ks h a b≠.bad→a.length=ks.length
 | [],[],_,_=>rfl
 | [],_::_,_,e=>absurd rfl e
 | k::ks,[],_,e=>absurd rfl e
 | k::ks,x::a,[],e=>absurd rfl e
 | k::ks,x::a,y::b,e=>by
  have he:ya (k::ks) h (x::a) (y::b)=@EB.rec (fun _=>EB) (ya ks h a b) (@EB.rec (fun _=>EB) .no .no .bad (ya ks h a b)) .bad (Kn k h x y):=rfl
  have:ya ks h a b≠.bad:=by
   intro hb
   rw [he,hb] at e
   cases hk:Kn k h x y<;>rw [hk] at e<;>exact e rfl
  simp [um this]
theorem uo {f:Field} {fs:List Field} {i:Nat} {ks:List KK} (e:lW P (f::fs) i=some ks):f.name≠ "_" ∧f.offset=i∧∃k ks',Ck P f.type=some k∧lW P fs (i+1)=some ks'∧ks=k::ks':=by
 unfold lW at e
 split at e
 ·cases e
 ·rename_i hn
  split at e
  ·rename_i k ks' h1 h2
   cases e
   refine ⟨fun hh=>hn (.inl hh),?_,k,ks',h1,h2,rfl⟩
   by_cases g:f.offset=i
   ·exact g
   ·exact absurd (.inr g) hn
  ·cases e
theorem en {t:TypeId} {k:KK} (hk:KOK P k t) (em:Bool) (n:Nat) (c:Value):(Instr.checkKey em (n+1) t c).run P w=.ok () w:=by
 cases k with
 | b=>simp [Instr.checkKey,ar (show P.underlying t=some .bool from hk)]
 | i=>obtain ⟨kk,hk⟩:=hk;simp [Instr.checkKey,ar hk]
 | s=>simp [Instr.checkKey,ar (show P.underlying t=some .string from hk)]
 | p=>obtain ⟨e,ie,hk,_⟩:=hk;simp [Instr.checkKey,ar hk]
theorem lN (em:Bool) (n:Nat) (vs:Array Value):∀(fs:List Field) (i:Nat) (ks:List KK),lW P fs i=some ks→i+fs.length≤vs.size→
  (forIn fs PUnit.unit fun f _=>if f.name≠ "_" then (do let c←part f.type vs f.offset;Instr.checkKey em (n+1) f.type c;pure (ForInStep.yield PUnit.unit):Sem (ForInStep PUnit)) else pure (ForInStep.yield PUnit.unit)).run P w=.ok PUnit.unit w:=by
 intro fs
 induction fs with
 | nil=>intro i ks _ _;rfl
 | cons f fs ih=>
  intro i ks e hl
  obtain ⟨h1,h2,k,ks',h3,h4,rfl⟩:=uo e
  have hk:=zn h3
  obtain ⟨d,hd,ha⟩:=hk.jg
  simp only [List.length_cons] at hl
  have hp:=gu (w:=w) hd ha (cs:=vs) (o:=f.offset) (c:=vs[i]) (by rw [h2];simp)
  have:=ih (i+1) ks' h4 (by omega)
  simp only [List.forIn_cons,Sem.run_bind]
  simp [h1,hp,en hk]
  simpa using this
theorem JU {kt:KT} {a:AV} (e:rf kt a h=true):uJ kt a a h≠.bad:=by
 intro hb
 unfold rf at e
 rw [hb] at e
 cases e
theorem run_checkKey {t:TypeId} {kt:KT} (hk:my P t=some kt) {a:AV} {c:Value} (hx:VR φ a c) (ho:rf kt a h=true) (em:Bool):(Instr.checkKey em 10000 t c).run P w=.ok () w:=by
 unfold my at hk
 split at hk
 ·rename_i hd;cases hk;exact en (k:=.b) hd em 9999 c
 ·rename_i hd;cases hk;exact en (k:=.i) ⟨_,hd⟩ em 9999 c
 ·rename_i hd;cases hk;exact en (k:=.s) hd em 9999 c
 ·rename_i fs hd
  simp only [Option.map_eq_some_iff] at hk
  obtain ⟨ks,hks,rfl⟩:=hk
  have hne:=JU ho
  have ⟨l,hl⟩:∃l,a=.agg l:=by
   cases a<;>first|exact ⟨_,rfl⟩|exact absurd rfl hne
  subst hl
  obtain ⟨vs,rfl,hvs,h1⟩:=hx.fO
  have hlen:=um (show ya ks h l l≠.bad from hne)
  unfold tV at hks
  rw [hd] at hks
  simp only at hks
  split at hks
  ·cases hks
  ·have hF:∀(fs:List Field) (i:Nat) (ks:List KK),lW P fs i=some ks→fs.length=ks.length:=by
    intro fs
    induction fs with
    | nil=>intro i ks e;simp [lW] at e;subst e;rfl
    | cons f fs ih=>
     intro i ks e
     obtain ⟨_,_,k,ks',_,h4,rfl⟩:=uo e
     simp [ih _ _ h4]
   have hfl:=hF _ _ _ hks
   have:=lN (w:=w) em 9998 vs.toArray fs.toList 0 ks hks (by
    have:=hvs.length
    simp only [Array.length_toList,List.size_toArray] at *;omega)
   show (Instr.checkKey em (9999+1) t (.agg vs.toArray)).run P w=_
   rw [Instr.checkKey]
   simp only [Sem.run_bind,ar hd,Result.andThen_ok]
   rw [←Array.forIn_toList]
   rw [this]
   rfl
 ·cases hk
variable {P:Program} {φ:aJ} {h h':Hp} {w:World} {v:AV} {x y z:AO} {r:A2} {cx cy:Value}
theorem xJ {t:TypeId} {kt:KT} (H:HR φ h w) (hk:my P t=some kt) {a c:AV} {ca cc:Value} (hx:VR φ a ca) (hy:VR φ c cc) {b:Bool} (hb:uJ kt a c h=EB.of b):(Op.equal t ca cc).run P w=.ok b w:=by
 show (Op.equalIn 10000 t ca cc).run P w=.ok b w
 unfold my at hk
 split at hk
 ·rename_i hd;cases hk;exact jG 9999 (k:=.b) H hx hy hd hb
 ·rename_i hd;cases hk;exact jG 9999 (k:=.i) H hx hy ⟨_,hd⟩ hb
 ·rename_i hd;cases hk;exact jG 9999 (k:=.s) H hx hy hd hb
 ·rename_i fs hd
  simp only [Option.map_eq_some_iff] at hk
  obtain ⟨ks,hks,rfl⟩:=hk
  have ⟨l,hl⟩:∃l,a=.agg l:=by
   cases a<;>first|exact ⟨_,rfl⟩|(cases b<;>cases hb)
  subst hl
  have ⟨m,hm⟩:∃m,c=.agg m:=by
   cases c<;>first|exact ⟨_,rfl⟩|(cases b<;>cases hb)
  subst hm
  obtain ⟨vs,rfl,hvs,_⟩:=hx.fO
  obtain ⟨ws,rfl,hws,_⟩:=hy.fO
  exact jd 9998 H hks hvs hws hb
 ·cases hk
theorem kX {t:TypeId} {kt:KT} {d:TypeDesc} (hd:P.underlying t=some d) (hk:my P t=some kt) {a c:AV} {ca cc:Value} (hx:VR φ a ca) (hy:VR φ c cc) {b:Bool} (hb:uJ kt a c h=EB.of b) :
  Instr.sameNow d ca cc=none∨Instr.sameNow d ca cc=some b:=by
 unfold my at hk
 rw [hd] at hk
 cases d<;>try (cases hk;done)
 case bool=>
  cases hk
  cases a<;>(try (cases b<;>cases hb;done))
  rename_i m
  cases c<;>(try (cases b<;>cases hb;done))
  rename_i n
  have:=ei (show EB.of (eK m n)=EB.of b from hb)
  subst this
  rw [hx.cJ,hy.cJ]
  right
  cases m<;>cases n<;>rfl
 case int kk=>
  cases hk
  cases a<;>(try (cases b<;>cases hb;done))
  rename_i k1 m
  cases c<;>(try (cases b<;>cases hb;done))
  rename_i k2 n
  change (Bool.rec EB.bad (EB.of (uI m n)) (mY k1 k2):EB)=_ at hb
  cases hq:mY k1 k2 with
  | false=>rw [hq] at hb;cases b<;>cases hb
  | true=>
   rw [hq] at hb
   obtain rfl:=gH hq
   rw [hx.aW,hy.aW]
   have:=ei (show EB.of (uI m n)=EB.of b from hb)
   subst this
   right
   simp [Instr.sameNow,kJ]
   rfl
 case string=>
  cases hk
  cases a<;>(try (cases b<;>cases hb;done))
  rename_i m
  cases c<;>(try (cases b<;>cases hb;done))
  rename_i n
  obtain ⟨s,rfl,rfl⟩:=hx.cR
  obtain ⟨u,rfl,rfl⟩:=hy.cR
  have:=ei (show EB.of (jV _ _)=EB.of b from hb)
  subst this
  right
  simp only [Instr.sameNow]
  rw [fZ,beq_toListBytes]
 case struct fs=>left;cases ca<;>rfl
theorem bM.cons_inv {st:Nat→Nat} {k val:AV} {b:Nat} {l:List KV} {es:List MapEntry} (hm:bM st φ (.mk k val b::l) es):∃e es',es=e::es'∧VR φ k e.key∧VR φ val e.val∧e.born=st b∧bM st φ l es':=by
 cases hm;exact ⟨_,_,rfl,by assumption,by assumption,by assumption,by assumption⟩
inductive KF (kt:KT) (h:Hp) (a:AV):List KV→Option (Nat×KV)→Prop
 | nil:KF kt h a [] none
 | here (k v:AV) (b:Nat) (l:List KV):uJ kt a k h=.yes→KF kt h a l none→KF kt h a (.mk k v b::l) (some (0,.mk k v b))
 | there (k v:AV) (b:Nat) (l:List KV) (j:Nat) (y:KV):uJ kt a k h=.no→KF kt h a l (some (j,y))→KF kt h a (.mk k v b::l) (some (j+1,y))
 | JV (k v:AV) (b:Nat) (l:List KV):uJ kt a k h=.no→KF kt h a l none→KF kt h a (.mk k v b::l) none
noncomputable def Ba (kt:KT) (a:AV) (l:List KV) (h:Hp) (k:Nat→AV→Nat→RV) (n e:RV) (i:Nat):RV:=bF (β:=Nat→RV) (fun _=>n)
 (fun y t ih i=>@KV.rec (fun _=>RV) (fun c v born=>@EB.rec (fun _=>RV) (@Bool.rec (fun _=>RV) e (k i v born) (qZ kt a t h)) (ih (Nat.succ i)) e (uJ kt a c h)) y) l i
theorem zq {kt:KT} {a:AV}:∀{l:List KV},qZ kt a l h=true→KF kt h a l none
 | [],_=>.nil
 | .mk kk val b::l,e=>by
  have e:@EB.rec (fun _=>Bool) false (qZ kt a l h) false (uJ kt a kk h)=true:=e
  cases hq:uJ kt a kk h with
  | yes=>rw [hq] at e;cases e
  | bad=>rw [hq] at e;cases e
  | no=>rw [hq] at e;exact .JV _ _ _ _ hq (zq e)
theorem iI {kt:KT} {a:AV} {k:Nat→AV→Nat→RV} {n:RV} {q:Nat}:∀{l:List KV} {i:Nat},Ba kt a l h k n (.err q) i=.ok v h'→
  (KF kt h a l none∧n=.ok v h')∨∃j kk val b,KF kt h a l (some (j,.mk kk val b))∧k (i+j) val b=.ok v h'
 | [],i,e=>.inl ⟨.nil,e⟩
 | .mk kk val b::l,i,e=>by
  have e2:@EB.rec (fun _=>RV) (@Bool.rec (fun _=>RV) (.err q) (k i val b) (qZ kt a l h)) (Ba kt a l h k n (.err q) (i+1)) (.err q) (uJ kt a kk h)=.ok v h':=e
  cases hq:uJ kt a kk h with
  | yes=>
   rw [hq] at e2
   have e2:@Bool.rec (fun _=>RV) (.err q) (k i val b) (qZ kt a l h)=.ok v h':=e2
   cases hn:qZ kt a l h with
   | false=>rw [hn] at e2;cases e2
   | true=>rw [hn] at e2;exact .inr ⟨0,kk,val,b,.here _ _ _ _ hq (zq hn),e2⟩
  | no=>
   rw [hq] at e2
   rcases iI (l:=l) (i:=i+1) e2 with ⟨h1,h2⟩|⟨j,k2,v2,b2,h1,h2⟩
   ·exact .inl ⟨.JV _ _ _ _ hq h1,h2⟩
   ·refine .inr ⟨j+1,k2,v2,b2,.there _ _ _ _ _ _ hq h1,?_⟩
    have:i+(j+1)=i+1+j:=by omega
    rw [this];exact h2
  | bad=>rw [hq] at e2;cases e2
theorem kC (kt:KT) (a:AV) (l:List KV) (h:Hp) (k:Nat→AV→Nat→RV) (n e:RV):yg kt a l h k n e=Ba kt a l h k n e 0:=rfl
theorem KF.find {kt:KT} (H:HR φ h w) {t:TypeId} {d:TypeDesc} (hd:P.underlying t=some d) (hk:my P t=some kt) {a:AV} {ca:Value} (hx:VR φ a ca):∀{st:Nat→Nat} {l:List KV} {res:Option (Nat×KV)},KF kt h a l res→∀{es:List MapEntry} (i:Nat),bM st φ l es→
  ∃cr:Option (Nat×Value),(Instr.findAsking t ca es i).run P w=.ok cr w∧(∀q,Instr.findNow d ca es i=some q→q=cr)∧
   (match res,cr with
    | none,none=>True
    | some (j,.mk kk val b),some (j',cv)=>j'=i+j∧VR φ val cv∧∃e,es[j]?=some e∧e.val=cv∧VR φ kk e.key∧uJ kt a kk h=.yes∧e.born=st b
    | _,_=>False)
 | _,_,_,.nil,es,i,hm=>by
  cases hm
  exact ⟨none,rfl,fun q hq=>by cases hq;rfl,trivial⟩
 | _,_,_,.here k v b l hq _,es,i,hm=>by
  obtain ⟨e,es',rfl,h1,h2,h3,h4⟩:=hm.cons_inv
  have hr:=xJ (b:=true) H hk hx h1 hq
  refine ⟨some (i,e.val),by simp [Instr.findAsking,hr],fun q hq'=>?_,rfl,h2,e,rfl,rfl,h1,hq,h3⟩
  rcases kX (h:=h) (b:=true) hd hk hx h1 hq with g|g<;>simp only [Instr.findNow,g] at hq'
  ·cases hq'
  ·cases hq';rfl
 | _,_,_,.there k v b l j y hq hr,es,i,hm=>by
  obtain ⟨e,es',rfl,h1,h2,h3,h4⟩:=hm.cons_inv
  have hrn:=xJ (b:=false) H hk hx h1 hq
  obtain ⟨cr,r1,r2,r3⟩:=KF.find H hd hk hx hr (i+1) h4
  refine ⟨cr,by simp [Instr.findAsking,hrn,r1],fun q hq'=>?_,?_⟩
  ·rcases kX (h:=h) (b:=false) hd hk hx h1 hq with g|g<;>simp only [Instr.findNow,g] at hq'
   ·cases hq'
   ·exact r2 q hq'
  ·obtain ⟨kk,val,bb⟩:=y
   cases cr with
   | none=>exact r3.elim
   | some p=>
    obtain ⟨j',cv⟩:=p
    simp only at r3 ⊢
    obtain ⟨g1,g2,e',g3,g4⟩:=r3
    exact ⟨by omega,g2,e',by simpa using g3,g4⟩
 | _,_,_,.JV k v b l hq hr,es,i,hm=>by
  obtain ⟨e,es',rfl,h1,h2,h3,h4⟩:=hm.cons_inv
  have hrn:=xJ (b:=false) H hk hx h1 hq
  obtain ⟨cr,r1,r2,r3⟩:=KF.find H hd hk hx hr (i+1) h4
  refine ⟨cr,by simp [Instr.findAsking,hrn,r1],fun q hq'=>?_,by cases cr<;>exact r3⟩
  rcases kX (h:=h) (b:=false) hd hk hx h1 hq with g|g<;>simp only [Instr.findNow,g] at hq'
  ·cases hq'
  ·exact r2 q hq'
def KV.ky (y:KV):AV:=match y with|.mk k _ _=>k
theorem KF.je {kt:KT} {a:AV}:∀{l:List KV},KF kt h a l none↔∀y,y∈l→uJ kt a y.ky h=.no
 | []=>⟨fun _ y hy=>(List.not_mem_nil hy).elim,fun _=>.nil⟩
 | .mk k v b::l=>by
  constructor
  ·intro g
   cases g with
   | JV _ _ _ _ h1 h2=>
    intro y hy
    rcases List.mem_cons.1 hy with rfl|hy
    ·exact h1
    ·exact KF.je.1 h2 y hy
  ·intro g
   exact .JV _ _ _ _ (g _ (List.mem_cons_self ..)) (KF.je.2 fun y hy=>g y (List.mem_cons_of_mem _ hy))
theorem KF.parts {kt:KT} {a:AV}:∀{l:List KV} {j:Nat} {y:KV},KF kt h a l (some (j,y))→∃l1 l2,l=l1 ++ y::l2∧l1.length=j∧uJ kt a y.ky h=.yes∧∀z,z∈l1 ++ l2→uJ kt a z.ky h=.no
 | _,_,_,.here k v b l h1 h2=>⟨[],l,rfl,rfl,h1,fun z hz=>KF.je.1 h2 z hz⟩
 | _,_,_,.there k v b l j y h1 h2=>by
  obtain ⟨l1,l2,rfl,rfl,g1,g2⟩:=KF.parts h2
  refine ⟨.mk k v b::l1,l2,rfl,rfl,g1,fun z hz=>?_⟩
  rcases List.mem_cons.1 (show z∈KV.mk k v b::(l1 ++ l2) from hz) with rfl|hz
  ·exact h1
  ·exact g2 z hz
theorem KF.zr {kt:KT} {a:AV} {y:KV} {l2:List KV} (h1:uJ kt a y.ky h=.yes):∀{l1:List KV},(∀z,z∈l1 ++ l2→uJ kt a z.ky h=.no)→KF kt h a (l1 ++ y::l2) (some (l1.length,y))
 | [],g=>by obtain ⟨k,v,b⟩:=y;exact .here _ _ _ _ h1 (KF.je.2 fun z hz=>g z hz)
 | .mk k v b::l1,g=>.there _ _ _ _ _ _ (g _ (List.mem_cons_self ..)) (KF.zr h1 fun z hz=>g z (List.mem_cons_of_mem _ hz))
theorem kD (k v k0 v0:AV) (b:Nat) (l2:List KV):∀l1:List KV,lM l1.length k v (l1 ++ .mk k0 v0 b::l2)=l1 ++ .mk k v b::l2
 | []=>rfl
 | y::l1=>congrArg (List.cons y) (kD k v k0 v0 b l2 l1)
theorem uq (y:KV) (l2:List KV):∀l1:List KV,yh l1.length (l1 ++ y::l2)=l1 ++ l2
 | []=>rfl
 | x::l1=>congrArg (List.cons x) (uq y l2 l1)
theorem KF.BH {kt:KT} {a:AV} {l l0:List KV} (hp:l.Perm l0) (g:KF kt h a l none):KF kt h a l0 none:=KF.je.2 fun y hy=>KF.je.1 g y (hp.mem_iff.2 hy)
theorem sY {y:KV} {l1 l2 l0:List KV} (hp:(l1 ++ y::l2).Perm l0):∃m1 m2,l0=m1 ++ y::m2∧(l1 ++ l2).Perm (m1 ++ m2):=by
 obtain ⟨m1,m2,rfl⟩:=List.append_of_mem (hp.mem_iff.1 (List.mem_append_right l1 (List.mem_cons_self ..)))
 exact ⟨m1,m2,rfl,List.Perm.cons_inv (((List.perm_middle).symm.trans hp).trans List.perm_middle)⟩
theorem KF.perm {kt:KT} {a:AV} {l l0:List KV} {j:Nat} {y:KV} (hp:l.Perm l0) (g:KF kt h a l (some (j,y))) :
  ∃j0,KF kt h a l0 (some (j0,y))∧(∀k v,(lM j k v l).Perm (lM j0 k v l0))∧(yh j l).Perm (yh j0 l0):=by
 obtain ⟨l1,l2,rfl,rfl,g1,g2⟩:=g.parts
 obtain ⟨m1,m2,rfl,hm⟩:=sY hp
 refine ⟨m1.length,KF.zr g1 fun z hz=>g2 z (hm.mem_iff.2 hz),fun k v=>?_,?_⟩
 ·obtain ⟨k0,v0,b⟩:=y
  rw [kD,kD]
  exact (List.perm_middle.trans (hm.cons _)).trans List.perm_middle.symm
 ·rw [uq,uq];exact hm
theorem nA:∀(j:Nat) (k v:AV) (l:List KV),(lM j k v l).map KV.jf=l.map KV.jf
 | 0,k,v,[]=>rfl
 | _+1,k,v,[]=>rfl
 | 0,k,v,.mk _ _ _::l=>rfl
 | j+1,k,v,y::l=>congrArg (List.cons y.jf) (nA j k v l)
theorem zt:∀(j:Nat) (l:List KV),((yh j l).map KV.jf).Sublist (l.map KV.jf)
 | 0,[]=>.slnil
 | _+1,[]=>.slnil
 | 0,y::l=>.cons _ (List.Sublist.refl _)
 | j+1,y::l=>.cons₂ _ (zt j l)
theorem ou (y:KV):∀l:List KV,Am.snoc l y=l ++ [y]
 | []=>rfl
 | x::l=>congrArg (List.cons x) (ou y l)
theorem vA {l l0:List KV} (hp:l.Perm l0) (y:KV):(Am.snoc l y).Perm (Am.snoc l0 y):=by rw [ou,ou];exact hp.append_right _
theorem yr (l:List KV) (k v:AV) (b:Nat):(Am.snoc l (.mk k v b)).map KV.jf=l.map KV.jf ++ [b]:=by rw [ou,List.map_append];rfl
theorem vz {b:Bool} {t:RV} {n:Nat} (e:(@Bool.rec (fun _=>RV) t (.err n) b)=.ok v h):b=false∧t=.ok v h:=by
 cases b
 ·exact ⟨rfl,e⟩
 ·cases e
theorem alz {a b:Nat} (e:Nat.beq a b=false):a≠b:=fun g=>by subst g;rw [Nat.beq_refl] at e;cases e
theorem run_findKey {t:TypeId} {d:TypeDesc} {ca:Value} {es:List MapEntry} (hd:P.underlying t=some d) {cr:Option (Nat×Value)} (h1:(Instr.findAsking t ca es 0).run P w=.ok cr w) (h2:∀q,Instr.findNow d ca es 0=some q→q=cr) :
  (Instr.findKey t ca es).run P w=.ok cr w:=by
 simp only [Instr.findKey,Sem.run_bind,ar hd,Result.andThen_ok]
 cases hf:Instr.findNow d ca es 0 with
 | none=>exact h1
 | some q=>rw [h2 q hf];rfl
variable {P:Program} {φ:aJ} {h h':Hp} {w:World} {v:AV} {x y z:AO} {r:A2} {cx cy:Value}
theorem nv {t:TypeId} {kt:KT} (hk:my P t=some kt):∃d,P.underlying t=some d:=by
 unfold my at hk
 split at hk<;>first|exact ⟨_,by assumption⟩|cases hk
theorem pO {ok found:Bool} {a:AV} {c:Value} (hv:VR φ a c) (e:Bt ok found a h=.ok v h'):VR φ v (if ok then .tuple #[c,.bool found] else c)∧h'=h:=by
 obtain ⟨rfl,rfl⟩:=RV.av e
 cases ok
 ·exact ⟨hv,rfl⟩
 ·exact ⟨.eS [_,_] [_,_] (.cons _ _ _ _ hv (.cons _ _ _ _ (.bool _) .nil)),rfl⟩
theorem Iq {t k e:TypeId} {kt:KT} {zv:AV} {ok:Bool} (H:HR φ h w) {a b:AV} (hx:VR φ a cx) (hy:VR φ b cy) (ht:P.underlying t=some (.map k e)) (hk:my P k=some kt) (hz:jm P e=some zv)
  (he:zH kt zv ok a b h=.ok v h'):Good φ h w v h' ((Instr.lookup t cx cy ok).run P w):=by
 obtain ⟨hok,he⟩:=aC he
 obtain ⟨d,hd⟩:=nv hk
 unfold jm at hz
 simp only [Option.bind_eq_some_iff] at hz
 obtain ⟨cz,⟨inf,hinf,hcz⟩,hz⟩:=hz
 have hvz:=ny hz φ
 rcases eY he with ⟨i,rfl,he2⟩|⟨rfl,he2⟩
 ·obtain ⟨l,c,hi,he3⟩:=dE he2
  obtain ⟨p,hp,rfl⟩:=hx.jo
  obtain ⟨es,cw,l0,h1,hpm,h2,hS⟩:=H.map hi hp
  rw [kC] at he3
  have hck:=fun em=>run_checkKey (w:=w) hk hy hok em
  rcases iI he3 with ⟨g1,g2⟩|⟨j,kk,val,bb,g1,g2⟩
  ·obtain ⟨cr,f1,f2,f3⟩:=(g1.BH hpm).find H hd hk hy 0 h2
   cases cr with
   | some q=>exact f3.elim
   | none=>
    obtain ⟨u1,u2⟩:=pO (φ:=φ) hvz g2
    subst u2
    refine .same H u1 ?_
    simp [Instr.lookup,ar ht,bT h1 rfl,hck,run_findKey hd f1 f2,zeroValue,bw hinf,hcz]
  ·obtain ⟨j0,g1,pset,pdel⟩:=g1.perm hpm
   obtain ⟨cr,f1,f2,f3⟩:=g1.find H hd hk hy 0 h2
   cases cr with
   | none=>exact f3.elim
   | some q=>
    obtain ⟨j',cv⟩:=q
    obtain ⟨_,u0,_⟩:=f3
    obtain ⟨u1,u2⟩:=pO (φ:=φ) u0 g2
    subst u2
    refine .same H u1 ?_
    simp [Instr.lookup,ar ht,bT h1 rfl,hck,run_findKey hd f1 f2]
 ·rw [hx.oq]
  have hck:=run_checkKey (w:=w) hk hy hok true
  obtain ⟨u1,u2⟩:=pO (φ:=φ) hvz he2
  subst u2
  refine .same H u1 ?_
  have hf:(Instr.findKey k cy []).run P w=.ok none w:=run_findKey hd rfl (fun q hq=>by cases hq;rfl)
  simp [Instr.lookup,ar ht,hck,hf,zeroValue,bw hinf,hcz]
theorem HR.pw (H:HR φ h w) {i:P4} {p:Place} {l l':List KV} {ck ck':Nat} (hi:aq i h=.map l ck) (hp:φ i=some p) {es:Array MapEntry} {cw':Nat} {l0':List KV} (hpm:l'.Perm l0') (hm:bM (bV p.room) φ l0' es.toList) (hS:xT (bV p.room) (l'.map KV.jf) ck' cw') {es0:Array MapEntry} {ck0:Nat} (ho:w.heap[p.bA]?=some (.map es0 ck0)) :
  (setObj p.bA (.map es cw')).run P w=.ok () {w with heap:=w.heap.setIfInBounds p.bA (.map es cw')}∧HR φ (cG i (.map l' ck') h) {w with heap:=w.heap.setIfInBounds p.bA (.map es cw')}∧
   Step φ h w φ (cG i (.map l' ck') h) {w with heap:=w.heap.setIfInBounds p.bA (.map es cw')}:=by
 have hl:live (aq i h):=hi▸fi
 have hb:p.bA < w.heap.size:=H.bound i p hp
 have hne:∀b,b≠p.bA→(w.heap.setIfInBounds p.bA (.map es cw'))[b]?=w.heap[b]?:=fun b hb=>by
  rw [Array.getElem?_setIfInBounds,if_neg (fun e=>hb e.symm)]
 refine ⟨?_,H.set hl hp (by simp) hne ⟨es,cw',l0',by simp [hb],hpm,hm,hS⟩ (by simp),φ.le_refl,fx.set hl hp (by simp) hne rfl rfl rfl,fun j q hj hq=>?_,.set _ _ _⟩
 ·show (Sem.setObj p.bA (.map es cw') (.pure ())).run P w=_
  simp [Sem.run,ho]
 ·rw [bg] at hj
  by_cases e:j=i
  ·subst e;exact .inl ⟨hl,hq⟩
  ·rw [if_neg e] at hj;exact .inl ⟨hj,hq⟩
theorem bM.snoc {st:Nat→Nat}:∀{l:List KV} {es:List MapEntry} {k val:AV} {b:Nat} {e:MapEntry},bM st φ l es→VR φ k e.key→VR φ val e.val→e.born=st b→bM st φ (Am.snoc l (.mk k val b)) (es ++ [e])
 | _,_,_,_,_,_,.nil,h1,h2,h3=>.cons _ _ _ _ _ _ h1 h2 h3 .nil
 | _,_,_,_,_,_,.cons k v b e l es a c d r,h1,h2,h3=>.cons k v b e _ _ a c d (bM.snoc r h1 h2 h3)
theorem bM.del {st:Nat→Nat}:∀{l:List KV} {es:List MapEntry} (j:Nat),bM st φ l es→bM st φ (yh j l) (es.eraseIdx j)
 | _,_,j,.nil=>by cases j<;>exact .nil
 | _,_,0,.cons k v b e l es a c d r=>r
 | _,_,j+1,.cons k v b e l es a c d r=>.cons k v b e _ _ a c d (bM.del j r)
theorem HP {ts:Array TypeId} {ty t k e:TypeId} {kt:KT} (hts:ts[0]?=some t) (H:HR φ h w) {a b:AV} (hx:VR φ a cx) (hy:VR φ b cy) (ht:P.underlying t=some (.map k e)) (hk:my P k=some kt)
  (he:del kt a b h=.ok v h'):Good φ h w v h' ((Builtin.delete_ ts ty #[cx,cy]).run P w):=by
 obtain ⟨hok,he⟩:=aC he
 obtain ⟨d,hd⟩:=nv hk
 have hv:VR φ cm (.tuple #[]):=.eS [] [] .nil
 rcases eY he with ⟨i,rfl,he2⟩|⟨rfl,he2⟩
 ·obtain ⟨l,c,hi,he3⟩:=dE he2
  obtain ⟨p,hp,rfl⟩:=hx.jo
  obtain ⟨es,cw,l0,h1,hpm,h2,hS⟩:=H.map hi hp
  rw [kC] at he3
  have hck:=fun em=>run_checkKey (w:=w) hk hy hok em
  rcases iI he3 with ⟨g1,g2⟩|⟨j,kk,val,bb,g1,g2⟩
  ·obtain ⟨cr,f1,f2,f3⟩:=(g1.BH hpm).find H hd hk hy 0 h2
   cases cr with
   | some q=>exact f3.elim
   | none=>
    obtain ⟨rfl,rfl⟩:=RV.av g2
    have cG:w={w with heap:=w.heap.setIfInBounds p.bA (.map es cw)}:=by
     have:w.heap.setIfInBounds p.bA (.map es cw)=w.heap:=by
      apply Array.ext_getElem?
      intro q
      rw [Array.getElem?_setIfInBounds]
      by_cases e:p.bA=q
      ·subst e
       have hb:=H.bound i p hp
       rw [if_pos rfl,if_pos hb,h1]
      ·rw [if_neg e]
     rw [this]
    refine .same H hv ?_
    have hso:(setObj p.bA (.map es cw)).run P w=.ok () w:=by
     have:(setObj p.bA (.map es cw)).run P w=.ok () {w with heap:=w.heap.setIfInBounds p.bA (.map es cw)}:=by
      show (Sem.setObj p.bA (.map es cw) (.pure ())).run P w=_
      simp [Sem.run,h1]
     rw [this,←cG]
    simp [Builtin.delete_,hts,ar ht,bT h1 rfl,hck,run_findKey hd f1 f2,hso]
  ·obtain ⟨j0,g1,pset,pdel⟩:=g1.perm hpm
   obtain ⟨cr,f1,f2,f3⟩:=g1.find H hd hk hy 0 h2
   cases cr with
   | none=>exact f3.elim
   | some q=>
    obtain ⟨j',cv⟩:=q
    obtain ⟨rfl,_⟩:=f3
    obtain ⟨rfl,rfl⟩:=RV.av g2
    have hes:(es.eraseIdxIfInBounds (0+j0)).toList=es.toList.eraseIdx (0+j0):=by simp
    obtain ⟨s1,s2,s3⟩:=HR.pw (P:=P) (ck':=c) (cw':=cw) H hi hp (es:=es.eraseIdxIfInBounds (0+j0)) (l':=yh (0+j) l) (l0':=yh (0+j0) l0) (by rw [Nat.zero_add,Nat.zero_add];exact pdel) (by rw [hes];exact h2.del _) (hS.sub (zt _ _)) h1
    exact ⟨.tuple #[],_,φ,by simp [Builtin.delete_,hts,ar ht,bT h1 rfl,hck,run_findKey hd f1 f2] at s1 ⊢;simp [s1],hv,s2,s3⟩
 ·obtain ⟨rfl,rfl⟩:=RV.av he2
  rw [hx.oq]
  have hck:=run_checkKey (w:=w) hk hy hok true
  exact .same H hv (by simp [Builtin.delete_,hts,ar ht,hck])
variable {P:Program} {φ:aJ} {h h':Hp} {w:World} {v:AV} {x y z:AO} {r:A2} {cx cy:Value}
theorem Bb (a:AV):(∃i o,a=.ptr i o)∨a.ft=.no:=by cases a<;>first|exact .inl ⟨_,_,rfl⟩|exact .inr rfl
theorem ur {a:AV} (e:eU a=true):a=.dP:=by cases a<;>first|rfl|cases e
theorem ov {k:KK} {a c:AV} {ca cc:Value} (hx:VR φ a ca) (hy:VR φ c cc) (he:Kn k h a c=.yes) (n:Nat):Instr.sameBits n cc ca=true:=by
 cases k with
 | b=>
  cases a<;>(try (cases he;done))
  rename_i m
  cases c<;>(try (cases he;done))
  rename_i q
  rw [hx.cJ,hy.cJ]
  cases m<;>cases q<;>first|(cases he;done)|(cases n<;>simp [Instr.sameBits])
 | i=>
  cases a<;>(try (cases he;done))
  rename_i k1 m
  cases c<;>(try (cases he;done))
  rename_i k2 q
  change (Bool.rec EB.bad (EB.of (uI m q)) (mY k1 k2):EB)=_ at he
  cases hq:mY k1 k2 with
  | false=>rw [hq] at he;cases he
  | true=>
   rw [hq] at he
   obtain rfl:=gH hq
   have:=ei (b:=true) (show EB.of (uI m q)=EB.of true from he)
   rw [kJ,decide_eq_true_eq] at this
   subst this
   rw [hx.aW,hy.aW]
   cases n<;>simp [Instr.sameBits]
 | s=>
  cases a<;>(try (cases he;done))
  rename_i m
  cases c<;>(try (cases he;done))
  rename_i q
  obtain ⟨s,rfl,rfl⟩:=hx.cR
  obtain ⟨u,rfl,rfl⟩:=hy.cR
  have:=ei (b:=true) (show EB.of (jV _ _)=EB.of true from he)
  rw [fZ,beq_iff_eq] at this
  cases n<;>simp [Instr.sameBits,beq_toListBytes,this]
 | p=>
  have he:eqP h a c=.yes:=he
  unfold eqP at he
  rcases Bb a with ⟨i,o,rfl⟩|ha
  ·rcases Bb c with ⟨j,q,rfl⟩|hc
   ·change (Bool.rec (Bool.rec EB.bad (Bool.rec EB.bad .no (eT (aq j h))) (eT (aq i h))) (EB.of (Nat.beq o q)) (jM i j):EB)=_ at he
    cases hp:jM i j with
    | false=>
     rw [hp] at he
     cases h1:eT (aq i h)<;>cases h2:eT (aq j h)<;>simp [h1,h2] at he
    | true=>
     rw [hp] at he
     obtain rfl:=ef.1 hp
     have:=ei (b:=true) (show EB.of (Nat.beq o q)=EB.of true from he)
     have:=Nat.eq_of_beq_eq_true this
     subst this
     obtain ⟨p,hp1,rfl⟩:=hx.fj
     obtain ⟨p',hp2,rfl⟩:=hy.fj
     rw [hp1] at hp2;cases hp2
     cases n<;>simp [Instr.sameBits]
   ·rw [hc] at he
    change (Bool.rec EB.bad .no (eU c):EB)=_ at he
    cases hn:eU c<;>rw [hn] at he<;>cases he
  ·rw [ha] at he
   change (Bool.rec EB.bad (OP.rec (Bool.rec EB.bad .yes (eU c)) (fun _ _=>.no) c.ft) (eU a):EB)=_ at he
   cases hn:eU a with
   | false=>rw [hn] at he;cases he
   | true=>
    rw [hn] at he
    have:=ur hn
    have he3:=he
    clear he
    subst this
    rcases Bb c with ⟨j,q,hc⟩|hc
    ·rw [hc] at he3;cases he3
    ·rw [hc] at he3
     change (Bool.rec EB.bad .yes (eU c):EB)=_ at he3
     cases hn2:eU c with
     | false=>rw [hn2] at he3;cases he3
     | true=>
      have:=ur hn2
      subst this
      rw [hx.jc,hy.jc]
      cases n<;>simp [Instr.sameBits]
theorem ow (n:Nat):∀{ks:List KK} {a c:List AV} {vs ws:List Value},bS φ a vs→bS φ c ws→ya ks h a c=.yes→ws.length=vs.length∧(ws.zip vs).all (fun (x,y)=>Instr.sameBits n x y)=true
 | [],[],[],_,_,.nil,.nil,_=>⟨rfl,rfl⟩
 | [],[],_::_,_,_,_,_,e=>by cases e
 | [],_::_,_,_,_,_,_,e=>by cases e
 | k::ks,[],_,_,_,_,_,e=>by cases e
 | k::ks,_::_,[],_,_,_,_,e=>by cases e
 | k::ks,x::a,y::c,_,_,.cons _ cx _ vs h1 h2,.cons _ cy _ ws h3 h4,e=>by
  have he:@EB.rec (fun _=>EB) (ya ks h a c) (@EB.rec (fun _=>EB) .no .no .bad (ya ks h a c)) .bad (Kn k h x y)=.yes:=e
  cases hk:Kn k h x y with
  | yes=>
   rw [hk] at he
   obtain ⟨g1,g2⟩:=ow n h2 h4 he
   exact ⟨by simp [g1],by simp [ov h1 h3 hk n];simpa using g2⟩
  | no=>rw [hk] at he;cases hr:ya ks h a c<;>rw [hr] at he<;>cases he
  | bad=>rw [hk] at he;cases he
theorem nz {kt:KT} {a c:AV} {ca cc:Value} (hx:VR φ a ca) (hy:VR φ c cc) (he:uJ kt a c h=.yes):Instr.sameBits 10000 cc ca=true:=by
 cases kt with
 | one k=>exact ov hx hy he _
 | agg ks=>
  have ⟨l,hl⟩:∃l,a=.agg l:=by
   cases a<;>first|exact ⟨_,rfl⟩|cases he
  subst hl
  have ⟨m,hm⟩:∃m,c=.agg m:=by
   cases c<;>first|exact ⟨_,rfl⟩|cases he
  subst hm
  obtain ⟨vs,rfl,hvs,_⟩:=hx.fO
  obtain ⟨ws,rfl,hws,_⟩:=hy.fO
  obtain ⟨g1,g2⟩:=ow (h:=h) 9999 hvs hws he
  show Instr.sameBits (9999+1) _ _=true
  simp [Instr.sameBits,g1]
  simpa using g2
theorem bM.set {st:Nat→Nat}:∀{l:List KV} {es:List MapEntry} (j:Nat) {k val:AV} {ck cv:Value},bM st φ l es→VR φ k ck→VR φ val cv→bM st φ (lM j k val l) (es.modify j fun e=>{e with key:=ck,val:=cv})
 | _,_,j,_,_,_,_,.nil,_,_=>by cases j<;>exact .nil
 | _,_,0,k,val,ck,cv,.cons k0 v0 b e l es a c d r,h1,h2=>.cons _ _ _ _ _ _ h1 h2 d r
 | _,_,j+1,k,val,ck,cv,.cons k0 v0 b e l es a c d r,h1,h2=>.cons k0 v0 b e _ _ a c d (bM.set j r h1 h2)
theorem yy {t k e:TypeId} {kt:KT} {cz:Value} (H:HR φ h w) {a b c:AV} (hx:VR φ a cx) (hy:VR φ b cy) (hz:VR φ c cz) (ht:P.underlying t=some (.map k e)) (hk:my P k=some kt)
  (he:Bj kt a b c h=.ok v h'):v=.undef∧vB φ h w h' ((Instr.mapUpdate t cx cy cz).run P w):=by
 obtain ⟨hok,he⟩:=aC he
 obtain ⟨d,hd⟩:=nv hk
 rcases eY he with ⟨i,rfl,he2⟩|⟨rfl,he2⟩
 ·obtain ⟨l,ck,hi,he3⟩:=dE he2
  obtain ⟨p,hp,rfl⟩:=hx.jo
  obtain ⟨es,cw,l0,h1,hpm,h2,hS⟩:=H.map hi hp
  rw [kC] at he3
  have hck:=fun em=>run_checkKey (w:=w) hk hy hok em
  rcases iI he3 with ⟨g1,g2⟩|⟨j,kk,val,bb,g1,g2⟩
  ·obtain ⟨cr,f1,f2,f3⟩:=(g1.BH hpm).find H hd hk hy 0 h2
   cases cr with
   | some q=>exact f3.elim
   | none=>
    have g2:@Bool.rec (fun _=>RV) (.ok .undef (cG i (.map (snoc l (.mk b c ck)) (Nat.succ ck)) h)) (.err 241) (Nat.beq (Nat.succ ck) dI)=.ok v h':=g2
    cases hT:Nat.beq (Nat.succ ck) dI with
    | true=>rw [hT] at g2;cases g2
    | false=>
    rw [hT] at g2
    obtain ⟨rfl,rfl⟩:=RV.av g2
    obtain ⟨s1,s2,s3⟩:=HR.pw (P:=P) (ck':=ck+1) (cw':=cw+1) H hi hp (es:=es.push {key:=cy,val:=cz,born:=cw}) (l':=snoc l (.mk b c ck)) (l0':=snoc l0 (.mk b c ck)) (vA hpm _) (by rw [Array.toList_push];exact h2.snoc hy hz hS.at.symm) (by rw [yr];exact hS.add (alz hT)) h1
    refine ⟨rfl,_,φ,?_,s2,s3⟩
    simp [Instr.mapUpdate,ar ht,bT h1 rfl,hck,run_findKey hd f1 f2,s1]
  ·obtain ⟨j0,g1,pset,_⟩:=g1.perm hpm
   obtain ⟨cr,f1,f2,f3⟩:=g1.find H hd hk hy 0 h2
   cases cr with
   | none=>exact f3.elim
   | some q=>
    obtain ⟨j',cv⟩:=q
    obtain ⟨rfl,u0,e0,u1,u2,u3,u4,u5⟩:=f3
    obtain ⟨rfl,rfl⟩:=RV.av g2
    have hsb:=nz (h:=h) hy u3 u4
    have hes:(es.modify (0+j0) fun e=>{e with key:=cy,val:=cz}).toList=es.toList.modify (0+j0) fun e=>{e with key:=cy,val:=cz}:=by simp
    obtain ⟨s1,s2,s3⟩:=HR.pw (P:=P) (ck':=ck) (cw':=cw) H hi hp (es:=es.modify (0+j0) fun e=>{e with key:=cy,val:=cz}) (l':=lM (0+j) b c l) (l0':=lM (0+j0) b c l0) (by rw [Nat.zero_add,Nat.zero_add];exact pset _ _) (by rw [hes];exact h2.set _ hy hz) (by rw [nA];exact hS) h1
    have hge:es[0+j0]?=some e0:=by rw [Nat.zero_add];simpa using u1
    have hks:(Instr.keyThatStays (((es[0+j0]?).map (·.key)).getD cy) cy).run P w=.ok cy w:=by
     rw [hge]
     simp [Instr.keyThatStays,hsb]
    refine ⟨rfl,_,φ,?_,s2,s3⟩
    simp only [Instr.mapUpdate,Sem.run_bind,ar ht,Result.andThen_ok,bT h1 rfl,hck,run_findKey hd f1 f2,hks,s1]
 ·cases he2
variable {P:Program} {φ:aJ} {h h':Hp} {w:World} {v:AV} {x y z:AO} {r:A2} {cx cy:Value}
theorem Ie {t:TypeId} {d:TypeDesc} (H:HR φ h w) (hx:VR φ (ev x r) cx) (hd:P.underlying t=some d) (hn:∀m,d≠.interface m) (he:ye t x r h=.ok v h'):Good φ h w v h' ((Instr.makeInterface t cx).run P w):=by
 obtain ⟨rfl,rfl⟩:=RV.av he
 refine .same H (.iface t _ _ hx) ?_
 simp only [Instr.makeInterface,Sem.run_bind,ar hd,Result.andThen_ok]
 cases d<;>first|rfl|exact absurd rfl (hn _)
theorem JW (x:AO) (xs:List AO) (r:A2):gg (x::xs) r=ev x r::gg xs r:=rfl
theorem lr {G:Gl} {ρ:Operand→Value}:∀{os:List Operand} {xs:List AO},os.mapM (cO G)=some xs→(∀o,o∈os→∀a,cO G o=some a→VR φ (ev a r) (ρ o))→bS φ (gg xs r) (os.map ρ)
 | [],xs,e,_=>by simp at e;subst e;exact .nil
 | o::os,xs,e,hv=>by
  simp only [List.mapM_cons,Option.pure_def,Option.bind_eq_bind,Option.bind_eq_some_iff,Option.some.injEq] at e
  obtain ⟨a,ha,as,has,rfl⟩:=e
  rw [JW]
  exact .cons _ _ _ _ (hv o (by simp) a ha) (lr has fun o ho=>hv o (by simp [ho]))
theorem Ig {f:Nat} {xs:List AO} {vs:List Value} (H:HR φ h w) (hx:bS φ (gg xs r) vs) (he:yf f xs r h=.ok v h'):Good φ h w v h' ((Instr.makeFunc (.func f) #[] vs.toArray).run P w):=by
 obtain ⟨rfl,rfl⟩:=RV.av he
 exact .same H (.fn f _ _ hx) rfl
theorem Iu {t xt:TypeId} {zv:AV} {ok:Bool} {a:AV} {d:TypeDesc} (H:HR φ h w) (hx:VR φ a cx) (hd:P.underlying t=some d) (hn:∀m,d≠.interface m) (hz:jm P t=some zv) (he:TP t zv ok a h=.ok v h') :
  Good φ h w v h' ((Instr.typeAssert cx xt t ok).run P w):=by
 unfold jm at hz
 simp only [Option.bind_eq_some_iff] at hz
 obtain ⟨cz,⟨inf,hinf,hcz⟩,hz⟩:=hz
 have hvz:=ny hz φ
 cases a<;>(try (cases he;done))
 ·rename_i u b
  cases hx with
  | iface _ _ c hc=>
  have he2:(@Bool.rec (fun _=>RV) (@Bool.rec (fun _=>RV) (.err 109) (Bt true false zv h) ok) (Bt ok true b h) (Nat.beq t u))=.ok v h':=he
  cases htu:Nat.beq t u with
  | true=>
   rw [htu] at he2
   have:=Nat.eq_of_beq_eq_true htu
   subst this
   obtain ⟨u1,u2⟩:=pO hc he2
   subst u2
   refine .same H u1 ?_
   simp only [Instr.typeAssert,Sem.run_bind,ar hd,Result.andThen_ok]
   cases d<;>first|(simp;done)|exact absurd rfl (hn _)
  | false=>
   rw [htu] at he2
   have hne:u≠t:=fun e=>by subst e;rw [Nat.beq_refl] at htu;cases htu
   cases ok with
   | false=>cases he2
   | true=>
    obtain ⟨u1,u2⟩:=pO (ok:=true) hvz he2
    subst u2
    refine .same H u1 ?_
    simp only [Instr.typeAssert,Sem.run_bind,ar hd,Result.andThen_ok]
    cases d<;>first|(simp [hne,zeroValue,bw hinf,hcz];done)|exact absurd rfl (hn _)
 ·cases hx
  cases ok with
  | false=>cases he
  | true=>
   obtain ⟨u1,u2⟩:=pO (ok:=true) hvz (show Bt true false zv h=.ok v h' from he)
   subst u2
   refine .same H u1 ?_
   simp only [Instr.typeAssert,Sem.run_bind,ar hd,Result.andThen_ok]
   cases d<;>first|(simp [zeroValue,bw hinf,hcz];done)|exact absurd rfl (hn _)
variable {P:Program} {φ:aJ} {h h':Hp} {w:World} {v:AV} {x y z:AO} {r:A2} {cx cy:Value}
theorem wrap64 {m:Nat} (hm:m≤1048576):IntKind.i64.wrap (m:Int)=(m:Int):=by
 have:iE .i64 (Int.ofNat m)=Int.ofNat m:=by
  have hb:Nat.ble m 9223372036854775807=true:=Nat.ble_eq_true_of_le (by omega)
  show (@Bool.rec (fun _=>Int) _ (Int.ofNat m) (Nat.ble m 9223372036854775807))=_
  rw [hb]
 rw [eF] at this
 exact this
theorem wP {t e:TypeId} {zs:List AV} (H:HR φ h w) (hx:VR φ (ev x r) cx) (hy:VR φ (ev y r) cy) (ht:P.underlying t=some (.slice e)) (hz:fS P e=some zs) (hzl:zs.length=bj P e) (hes:bj P e≠0) (hg:iy P e=true)
  (he:iH e zs x y r h=.ok v h'):Good φ h w v h' ((Instr.makeSlice t cx cy).run P w):=by
 obtain ⟨k1,l,e1,he1⟩:=cP he
 obtain ⟨k2,c,e2,he2⟩:=cP he1
 obtain ⟨h1,he3⟩:=aC he2
 obtain ⟨h2,he4⟩:=aC he3
 have h1:=dZ h1
 have h2:=dZ h2
 rw [e1] at hx
 rw [e2] at hy
 rw [hx.aW,hy.aW]
 obtain ⟨i,zv,hi,hzv,hzs,hby⟩:=lp hg
 obtain ⟨i',zv',hi',hzv',g1,g2⟩:=fT hz φ
 rw [hi] at hi';cases hi'
 rw [hzv] at hzv';cases hzv'
 obtain ⟨k1',k2'⟩:=eE g1 g2 c (c * i.size) (by rw [hzs])
 have hN:=lX H k1' k2' he4
 rw [cB hi] at hes
 have hes':i.size≠0:=hes
 have hw1:=wrap64 (m:=l) (by omega)
 have hw2:=wrap64 (m:=c) (by omega)
 have hb:i.bytes * c≤281474976710656:=by
  have:i.bytes * c≤1048576 * 1048576:=Nat.mul_le_mul hby h2
  omega
 have hbi:((i.bytes:Int) * (c:Int))≤281474976710656:=by
  have:=Int.ofNat_le.2 hb
  simpa using this
 have hrun:(Instr.makeSlice t (.int k1 (Int.ofNat l)) (.int k2 (Int.ofNat c))).run P w=.ok (.slice (some ⟨w.heap.size,0,none⟩) l c) {w with heap:=w.heap.push (.cells ((Array.range (c * i.size)).map (zv.cells[· % zv.cells.size]!)) e)}:=by
  have ha:∀(k:IntKind) (m:Nat),(asIntOf (.int k (m:Int))).run P w=.ok (k,(m:Int)) w:=fun _ _=>rfl
  have hcond:¬ (((((c:Int) < 0∨281474976710656 < (i.bytes:Int) * (c:Int))∨(l:Int) < 0)∨c < l)):=by omega
  simp only [Instr.makeSlice]
  simp [aU hi,dY,ha,hw1,hw2,ar ht,bw hi,asInt,zeroValue,hzv]
  rw [if_neg hcond]
  by_cases h0:c * i.size=0
  ·rw [if_pos h0,h0]
   have:∀g:Nat→Value,(Array.range 0).map g=#[]:=by intro g;simp
   rw [this,this]
  ·rw [if_neg h0]
 rw [hrun]
 exact hN
variable {P:Program} {φ:aJ} {h h':Hp} {w:World} {v:AV} {x y z:AO} {r:A2} {cx cy:Value}
theorem bS.drop:∀{as:List AV} {vs:List Value} (n:Nat),bS φ as vs→bS φ (as.drop n) (vs.drop n)
 | _,_,0,h=>by simpa using h
 | _,_,n+1,.nil=>by simpa using bS.nil
 | _,_,n+1,.cons _ _ _ _ e es=>bS.drop n es
theorem xK {t:TypeId} {d:TypeDesc} {i:TypeInfo} (hd:P.underlying t=some d) (ha:qE P t=true) (hi:P.info? t=some i) {vs:List Value} {o:Nat}:(part t vs.toArray o).run P w=.ok (.agg ((vs.drop o).take i.size).toArray) w:=by
 have:vs.toArray.extract o (o+i.size)=((vs.drop o).take i.size).toArray:=by
  apply Array.ext'
  rw [Array.toList_extract,List.extract_eq_take_drop]
  simp
 simp [part,gw hd,ha,aU hi]
theorem uu {l:List AV} {vs:List Value} (H:HR φ h w) (hv:bS φ l vs) {t:TypeId} {d:TypeDesc} (hd:P.underlying t=some d) (ha:qE P t=false) {o n:Nat} (he:(List.rec (.err n) (fun v _ _=>.ok v h) (List.drop o l):RV)=.ok v h') :
  Good φ h w v h' ((part t vs.toArray o).run P w):=by
 obtain ⟨a,tl,ed,e2⟩:=xG (k:=fun v=>.ok v h) he
 obtain ⟨rfl,rfl⟩:=RV.av e2
 obtain ⟨hi,hb⟩:=drop_cons ed
 have hi':o < vs.length:=by rw [←hv.length];exact hi
 exact .same H (cv:=vs[o]) (by rw [←hb];exact hv.get o hi hi') (gu hd ha (by simp [hi']))
theorem uv {l:List AV} {vs:List Value} (H:HR φ h w) (hv:bS φ l vs) (h1:∀c,c∈vs→c.oneCell'=true) {t:TypeId} {d:TypeDesc} {i:TypeInfo} (hd:P.underlying t=some d) (ha:qE P t=true) (hi:P.info? t=some i) {o n:Nat}
  (he:(Bool.rec (.err n) (.ok (.agg (List.take i.size (List.drop o l))) h) (Nat.ble (o+i.size) l.length):RV)=.ok v h'):Good φ h w v h' ((part t vs.toArray o).run P w):=by
 obtain ⟨hb,e2⟩:=aC he
 obtain ⟨rfl,rfl⟩:=RV.av e2
 exact .same H (.agg _ _ ((hv.drop o).take i.size) (fun c hc=>h1 c (List.mem_of_mem_drop (List.mem_of_mem_take hc)))) (xK hd ha hi)
theorem Ds {t:TypeId} {fs:Array Field} {f:Nat} {fd:Field} {d:TypeDesc} (H:HR φ h w) (hx:VR φ (ev x r) cx) (ht:P.underlying t=some (.struct fs)) (hf:fs[f]?=some fd) (hd:P.underlying fd.type=some d) (ha:qE P fd.type=false)
  (he:oG fd.offset x r h=.ok v h'):Good φ h w v h' ((Instr.field t cx f).run P w):=by
 obtain ⟨l,el,he2⟩:=dk he
 rw [el] at hx
 obtain ⟨vs,rfl,hvs,_⟩:=hx.fO
 have:=uu (P:=P) H hvs hd ha he2
 simp [Instr.field,ar ht,hf,asAgg]
 exact this
theorem Dr {t:TypeId} {fs:Array Field} {f:Nat} {fd:Field} {d:TypeDesc} {i:TypeInfo} (H:HR φ h w) (hx:VR φ (ev x r) cx) (ht:P.underlying t=some (.struct fs)) (hf:fs[f]?=some fd) (hd:P.underlying fd.type=some d) (ha:qE P fd.type=true) (hi:P.info? fd.type=some i)
  (he:oH fd.offset i.size x r h=.ok v h'):Good φ h w v h' ((Instr.field t cx f).run P w):=by
 obtain ⟨l,el,he2⟩:=dk he
 rw [el] at hx
 obtain ⟨vs,rfl,hvs,h1⟩:=hx.fO
 have:=uv (P:=P) H hvs h1 hd ha hi he2
 simp [Instr.field,ar ht,hf,asAgg]
 exact this
theorem Du {t e:TypeId} {n:Nat} {d:TypeDesc} {i:TypeInfo} (H:HR φ h w) (hx:VR φ (ev x r) cx) (hy:VR φ (ev y r) cy) (ht:P.underlying t=some (.array n e)) (hd:P.underlying e=some d) (hi:P.info? e=some i)
  (he:oJ n i.size (qE P e) x y r h=.ok v h'):Good φ h w v h' ((Instr.index t cx cy).run P w):=by
 obtain ⟨kd,m,em,e1⟩:=cP he
 obtain ⟨l,el,e2⟩:=dk e1
 obtain ⟨hb,e3⟩:=aC e2
 rw [el] at hx
 rw [em] at hy
 obtain ⟨vs,rfl,hvs,h1⟩:=hx.fO
 rw [hy.aW]
 have hm:=kF hb
 have hrun:(Instr.index t (.agg vs.toArray) (.int kd (Int.ofNat m))).run P w=(part e vs.toArray (m * i.size)).run P w:=by
  have hr:(0:Int)≤Int.ofNat m∧Int.ofNat m < (n:Int):=wj (k:=kd) hm
  simp only [Instr.index,asIntOf,Sem.run_bind,Sem.run_pure,Result.andThen_ok,ar ht]
  rw [if_pos hr]
  simp [aU hi]
 rw [hrun]
 rcases ff e3 with ⟨ha,e4⟩|⟨ha,e4⟩
 ·exact uu H hvs hd ha e4
 ·exact uv H hvs h1 hd ha hi e4
variable {P:Program} {φ:aJ} {h h':Hp} {w:World} {v:AV} {x y z:AO} {r:A2} {cx cy:Value}
theorem JX (mn:Bool) (k:IntKind) (h:Hp) (a:Int):yk mn k h [] a=.ok (.int k a) h:=rfl
theorem vS (mn:Bool) (k:IntKind) (h:Hp) (y:AV) (l:List AV) (a:Int):yk mn k h (y::l) a=AV.dp y (fun k' b=>@Bool.rec (fun _=>RV) (.err 76) (yk mn k h l (zM mn a b)) (mY k k')) (.err 76):=rfl
theorem JY (k:IntKind) (a b:Int):(Builtin.max2 (.int k a) (.int k b)).run P w=.ok (.int k (zM false a b)) w:=by
 have:zM false a b=if b > a then b else a:=by
  show (@Bool.rec (fun _=>Int) a b (Lp a b))=_
  rw [xE]
  by_cases g:a < b
  ·rw [decide_eq_true g,if_pos g]
  ·rw [decide_eq_false g,if_neg g]
 rw [this];rfl
theorem JZ (k:IntKind) (a b:Int):(Builtin.min2 (.int k a) (.int k b)).run P w=.ok (.int k (zM true a b)) w:=by
 have:zM true a b=if b < a then b else a:=by
  show (@Bool.rec (fun _=>Int) a b (Lp b a))=_
  rw [xE]
  by_cases g:b < a
  ·rw [decide_eq_true g,if_pos g]
  ·rw [decide_eq_false g,if_neg g]
 rw [this];rfl
theorem xL {mn:Bool} {k:IntKind} {f:Value→Value→Sem Value} (hf:∀a b w,(f (.int k a) (.int k b)).run P w=.ok (.int k (zM mn a b)) w):∀{l:List AV} {vs:List Value} {a:Int},bS φ l vs→yk mn k h l a=.ok v h'→
  ∃n,v=.int k n∧h'=h∧(vs.foldlM f (.int k a)).run P w=.ok (.int k n) w
 | [],_,a,.nil,e=>by
  rw [JX] at e
  obtain ⟨rfl,rfl⟩:=RV.av e
  exact ⟨a,rfl,rfl,rfl⟩
 | y::l,_,a,.cons _ c _ cs h1 h2,e=>by
  rw [vS] at e
  obtain ⟨k',b,rfl,e2⟩:=bn e
  obtain ⟨hk,e3⟩:=aC e2
  have:=gH hk
  subst this
  obtain ⟨n,r1,r2,r3⟩:=xL hf h2 e3
  refine ⟨n,r1,r2,?_⟩
  rw [h1.aW]
  simp only [List.foldlM_cons,Sem.run_bind,hf,Result.andThen_ok]
  exact r3
theorem yw {ts:Array TypeId} {ty:TypeId} {mn:Bool} {xs:List AO} {vs:List Value} (H:HR φ h w) (hx:bS φ (gg xs r) vs) (he:yl mn xs r h=.ok v h') :
  Good φ h w v h' ((if mn then Builtin.min_ ts ty vs.toArray else Builtin.max_ ts ty vs.toArray).run P w):=by
 change LB mn (gg xs r) h=_ at he
 generalize gg xs r=l at hx he
 cases hx with
 | nil=>cases he
 | cons a c as cs h1 h2=>
  have he:AV.dp a (fun k b=>yk mn k h as b) (.err 76)=.ok v h':=he
  obtain ⟨k,b,rfl,e2⟩:=bn he
  rw [h1.aW]
  cases mn with
  | false=>
   obtain ⟨n,r1,r2,r3⟩:=xL (P:=P) (w:=w) (f:=Builtin.max2) (fun a b w=>JY k a b) h2 e2
   subst r1 r2
   exact .same H (.int k n) (by simpa [Builtin.max_] using r3)
  | true=>
   obtain ⟨n,r1,r2,r3⟩:=xL (P:=P) (w:=w) (f:=Builtin.min2) (fun a b w=>JZ k a b) h2 e2
   subst r1 r2
   exact .same H (.int k n) (by simpa [Builtin.min_] using r3)
variable {P:Program} {φ:aJ} {h h':Hp} {w:World} {v:AV} {x y z:AO} {r:A2} {cx cy:Value} {t:TypeId} {p q:Operand}
theorem Ar {f:IntKind→Int→Int→AV} {a b:AV} (e:bSH f a b h=.ok v h'):∃k k' m n,a=.int k m∧b=.int k' n∧v=f k m n∧h'=h∧v≠.undef:=by
 obtain ⟨k,m,rfl,e4⟩:=bn e
 obtain ⟨k',n,rfl,e5⟩:=bn e4
 obtain ⟨e1,e2,e3⟩:=CC e5
 exact ⟨k,k',m,n,rfl,rfl,e1.symm,e2,fun e=>e3 (e1.trans e)⟩
theorem Hm (H:HR φ h w) {a b:AV} (hx:VR φ a cx) (hy:VR φ b cy) (e:bSH ahN a b h=.ok v h'):Good φ h w v h' ((do eqGuard .shl t p q cx cy;binOp .shl t cx cy:Sem Value).run P w):=by
 obtain ⟨k,k',m,n,rfl,rfl,rfl,rfl,hn⟩:=Ar e
 rw [hx.aW,hy.aW]
 cases n with
 | negSucc n=>exact absurd rfl hn
 | ofNat n=>
  have hv:ahN k m (.ofNat n)=.int k (k.wrap (m * 2 ^ (min n k.bits))):=by
   show AV.int k (iE k (Lo m (.ofNat (Nat.pow 2 (Nat.min n (jU k))))))=_
   rw [eF,Cy,qM]
   congr 3
  rw [hv]
  refine .same H (.int _ _) ?_
  have h0:¬ ((n:Int) < 0):=by omega
  simp [eH,binOp,Op.shift,h0]
theorem Hn (H:HR φ h w) {a b:AV} (hx:VR φ a cx) (hy:VR φ b cy) (e:bSH ahO a b h=.ok v h'):Good φ h w v h' ((do eqGuard .shr t p q cx cy;binOp .shr t cx cy:Sem Value).run P w):=by
 obtain ⟨k,k',m,n,rfl,rfl,rfl,rfl,hn⟩:=Ar e
 rw [hx.aW,hy.aW]
 cases n with
 | negSucc n=>exact absurd rfl hn
 | ofNat n=>
  have hv:ahO k m (.ofNat n)=.int k (m.fdiv (2 ^ (min n k.bits))):=by
   cases m with
   | ofNat m=>
    show AV.int k (.ofNat (Nat.div m (Nat.pow 2 (Nat.min n (jU k)))))=_
    rw [qM]
    congr 1
    have:(2:Int) ^ (min n k.bits)=((2 ^ (min n k.bits):Nat):Int):=by simp
    rw [this,Int.fdiv_eq_ediv_of_nonneg _ (Int.natCast_nonneg _)]
    rfl
   | negSucc m=>
    show AV.int k (Int.fdiv (.negSucc m) (2 ^ (Nat.min n (jU k))))=_
    rw [qM]
  rw [hv]
  refine .same H (.int _ _) ?_
  have h0:¬ ((n:Int) < 0):=by omega
  simp [eH,binOp,Op.shift,h0]
def NKT (P:Program) (k:NK) (t:TypeId):Prop:=match k with
 | .s=>∃e,P.underlying t=some (.slice e)
 | .m=>∃a b,P.underlying t=some (.map a b)
 | .f=>∃a b c,P.underlying t=some (.func a b c)
 | .i=>∃a,P.underlying t=some (.interface a)
def uw (k:NK):Value:=match k with
 | .s=>.slice none 0 0
 | .m=>.map none
 | .f=>.nilFunc
 | .i=>.nilIface
theorem eZ {k:NK} {y:Operand} (e:uU k y=true):y=.const (uw k):=by
 unfold uU at e
 split at e<;>first|rfl|cases e
theorem zu (d:Nat) {k:NK} (hk:NKT P k t) {a:AV} (hx:VR φ a cx) {c:Bool} (hc:qV k a=EB.of c) :
  (Op.equalIn (d+1) t cx (uw k)).run P w=.ok c w∧(Op.equalIn (d+1) t (uw k) cx).run P w=.ok c w:=by
 unfold Op.equalIn
 cases k with
 | s=>
  obtain ⟨e,ht⟩:=hk
  simp only [Sem.run_bind,ar ht,Result.andThen_ok,uw]
  cases a<;>(try (cases c<;>cases hc;done))<;>cases hx<;>cases c<;>(try (cases hc;done))<;>exact ⟨rfl,rfl⟩
 | m=>
  obtain ⟨e,f,ht⟩:=hk
  simp only [Sem.run_bind,ar ht,Result.andThen_ok,uw]
  cases a<;>(try (cases c<;>cases hc;done))<;>cases hx<;>cases c<;>(try (cases hc;done))<;>exact ⟨rfl,rfl⟩
 | f=>
  obtain ⟨e,f,g,ht⟩:=hk
  simp only [Sem.run_bind,ar ht,Result.andThen_ok,uw]
  cases a<;>(try (cases c<;>cases hc;done))<;>cases hx<;>cases c<;>(try (cases hc;done))<;>exact ⟨rfl,rfl⟩
 | i=>
  obtain ⟨e,ht⟩:=hk
  simp only [Sem.run_bind,ar ht,Result.andThen_ok,uw]
  cases a<;>(try (cases c<;>cases hc;done))<;>cases hx<;>cases c<;>(try (cases hc;done))<;>exact ⟨rfl,rfl⟩
theorem zw {op:BinOp} {k:NK} {a:AV} (hx:VR φ a cx) {c:Bool} (hc:qV k a=EB.of c) (p:Operand):(eqGuard op t p (.const (uw k)) cx (uw k)).run P w=.ok () w∧(eqGuard op t (.const (uw k)) p (uw k) cx).run P w=.ok () w:=by
 unfold eqGuard
 cases k<;>cases a<;>(try (cases c<;>cases hc;done))<;>cases hx<;>cases op<;>simp [uw]
theorem Bc (k:NK):(∀j n,uw k≠.int j n)∧(∀j n,uw k≠.float j n)∧(∀j m n,uw k≠.complex j m n)∧(∀s,uw k≠.string s):=by
 cases k<;>simp [uw]
theorem xM {k:NK} {a:AV} (hx:VR φ a cx) {c:Bool} (hc:qV k a=EB.of c):(∀j n,cx≠.int j n)∧(∀j n,cx≠.float j n)∧(∀j m n,cx≠.complex j m n)∧(∀s,cx≠.string s):=by
 cases k<;>cases a<;>(try (cases c<;>cases hc;done))<;>cases hx<;>simp
theorem bz (neg:Bool) {k:NK} (hk:NKT P k t) (H:HR φ h w) {a:AV} (hx:VR φ a cx) (p:Operand) (e:EB.rv neg h (qV k a)=.ok v h') :
  Good φ h w v h' ((do eqGuard (if neg then .neq else .eql) t p (.const (uw k)) cx (uw k);binOp (if neg then .neq else .eql) t cx (uw k):Sem Value).run P w)∧
  Good φ h w v h' ((do eqGuard (if neg then .neq else .eql) t (.const (uw k)) p (uw k) cx;binOp (if neg then .neq else .eql) t (uw k) cx:Sem Value).run P w):=by
 obtain ⟨c,hc,rfl,rfl⟩:=og e
 obtain ⟨r1,r2⟩:=zu (P:=P) (w:=w) 9999 hk hx hc
 obtain ⟨a1,a2,a3,a4⟩:=xM hx hc
 obtain ⟨b1,b2,b3,b4⟩:=Bc k
 obtain ⟨g1,g2⟩:=eG r1 a1 a2 a3 a4
 obtain ⟨g3,g4⟩:=eG r2 b1 b2 b3 b4
 have hg:=fun op=>zw (P:=P) (w:=w) (op:=op) (t:=t) hx hc p
 constructor
 ·refine .same H (.bool _) ?_
  cases neg
  ·simp [(hg _).1,g1]
  ·simp [(hg _).1,g2]
 ·refine .same H (.bool _) ?_
  cases neg
  ·simp [(hg _).2,g3]
  ·simp [(hg _).2,g4]
inductive RT.aG:RT→RT→Prop
 | ok (v:AV) (h:Hp):aG (.ok v h) (.ok v h)
 | err (n:Nat):aG (.err n) (.err n)
 | ch (n:Nat) (k:Nat→RT) (c:Nat) (y:RT):c < n→aG (k c) y→aG (.ch n k) y
def RT.Safe (x:RT):Prop:=∀n,¬ x.aG (.err n)
theorem RT.Safe.err {n:Nat} (h:(RT.err n).Safe):False:=h n (.err n)
theorem RT.Safe.ch {n c:Nat} {k:Nat→RT} (h:(RT.ch n k).Safe) (hc:c < n):(k c).Safe:=fun m hm=>h m (.ch n k c _ hc hm)
variable {P:Program} {φ:aJ} {h h':Hp} {w:World} {v:AV} {x y z:AO} {r:A2} {cx cy:Value} {t:TypeId}
def wo (φ:aJ) (h:Hp) (w:World) (x:RT) (r:Result Value):Prop:=∃v h',x.aG (.ok v h')∧Good φ h w v h' r
theorem Good.jT {x:RT} {r:Result Value} (g:Good φ h w v h' r) (e:x=.ok v h'):wo φ h w x r:=⟨v,h',e▸.ok v h',g⟩
theorem HR.heap {w':World} (H:HR φ h w) (e:w'.heap=w.heap):HR φ h w':=⟨by rw [e];exact H.obj,H.inj,H.fresh,by rw [e];exact H.bound⟩
theorem Step.heap {w':World} (e:w'.heap=w.heap) (ht:w'.tape=w.tape) (ho:w'.os=w.os) (hu:w'.output=w.output):Step φ h w φ h w':=
 ⟨φ.le_refl,⟨by rw [e];exact Nat.le_refl _,fun b _ _=>by rw [e],ht,ho,hu⟩,fun _ _ a b=>.inl ⟨a,b⟩,.refl _⟩
theorem HR.newObj (H:HR φ h w) {o:Obj} {ob:Go.Obj} (hi:aq h.next h=.none) (ho:o≠.none) (hOR:OR (φ.put h.next ⟨w.heap.size,0,0⟩) o ⟨w.heap.size,0,0⟩ (some ob)) :
  Good φ h w (.ptr h.next 0) (.mk (cH h.next o h.tree) h.next.succ (Lg.add h.next h.log)) (.ok (.pointer (some ⟨w.heap.size,0,none⟩)) {w with heap:=w.heap.push ob}):=by
 have hw:({w with heap:=w.heap.push ob}:World).heap=w.heap.push ob:=rfl
 have hle:=aJ.fI (φ:=φ) (i:=h.next) ⟨w.heap.size,0,0⟩ (H.fresh _ hi)
 have g1:=H.new (w':={w with heap:=w.heap.push ob}) (n':=h.next.succ) (room:=0) hi hw ho hOR
 refine ⟨_,_,_,rfl,?_,g1,hle,.new hw rfl rfl rfl,fun j q hj hq=>?_,.put _ _ _ _⟩
 ·have:=VR.ptr (φ:=φ.put h.next ⟨w.heap.size,0,0⟩) h.next 0 _ (aJ.aO _ _ _)
  simpa [Place.addr] using this
 ·rw [iT] at hj
  by_cases e:j=h.next
  ·subst e
   rw [aJ.aO] at hq;cases hq
   exact .inr (.inl (Nat.le_refl _))
  ·rw [if_neg e] at hj
   exact .inl ⟨hj,by simpa [aJ.put,e] using hq⟩
theorem run_newObj (o:Go.Obj):(newObj o).run P w=.ok w.heap.size {w with heap:=w.heap.push o}:=by
 show (Sem.new o .pure).run P w=_
 simp [Sem.run]
theorem Dv {k e:TypeId} (H:HR φ h w) (hx:VR φ (ev x r) cx) (ht:P.underlying t=some (.map k e)) (he:jh x r h=.ok v h'):Good φ h w v h' ((Instr.range t cx).run P w):=by
 rcases eY he with ⟨m,em,he2⟩|⟨em,he2⟩
 ·obtain ⟨l,c,hm,he3⟩:=dE he2
  rw [em] at hx
  obtain ⟨q,hq,rfl⟩:=hx.jo
  obtain ⟨es,cw,l0,h1,hpm,h2,hS⟩:=H.map hm hq
  obtain ⟨hi,he4⟩:=gz he3
  obtain ⟨rfl,rfl⟩:=qJ he4
  have hle:=aJ.fI (φ:=φ) (i:=h.next) ⟨w.heap.size,0,0⟩ (H.fresh _ hi)
  have hI:aql (bV q.room) c [] c:=⟨fun b g1 g2=>by rw [hS.at];exact hS.mono b g1 g2,rfl,fun b g1 g2=>by rw [hS.at];exact hS.mono b g1 g2,fun b hb=>by cases hb⟩
  have:=H.newObj (o:=.qR m c [] c) (ob:=.mapIter (some q.bA) cw #[] cw) hi (by simp) ⟨rfl,q,hle _ _ hq,by rw [hS.at];rfl,hI⟩
  simp [Instr.range,ar ht,bT h1 rfl,run_newObj]
  exact this
 ·obtain ⟨hi,he4⟩:=gz he2
  obtain ⟨rfl,rfl⟩:=qJ he4
  rw [em] at hx
  rw [hx.oq]
  have:=H.newObj (o:=.xY) (ob:=.mapIter none 0 #[] 0) hi (by simp) ⟨rfl,rfl⟩
  simp [Instr.range,ar ht,run_newObj]
  exact this
variable {P:Program} {φ:aJ} {h h':Hp} {w:World} {v:AV} {x y z:AO} {r:A2} {cx cy:Value} {t:TypeId}
theorem xN (x:Nat):∀l:List Nat,Ga x l=l.contains x
 | []=>rfl
 | y::l=>by
  show (@Bool.rec (fun _=>Bool) (Ga x l) true (Nat.beq x y))=_
  rw [xN x l,List.contains_cons]
  by_cases e:x=y
  ·subst e;rw [Nat.beq_refl];simp
  ·have:Nat.beq x y=false:=by rw [←Bool.not_eq_true];intro g;exact e (Nat.eq_of_beq_eq_true g)
   have e2:(x == y)=false:=by simp [e]
   rw [this,e2];simp
theorem lJ (seen:List Nat):∀l:List KV,du seen l=l.filter fun y=>!seen.contains y.jf
 | []=>rfl
 | .mk k v b::l=>by
  show (@Bool.rec (fun _=>List KV) (.cons (.mk k v b) (du seen l)) (du seen l) (Ga b seen))=_
  rw [List.filter_cons,xN,lJ seen l]
  show _=if (!seen.contains b)=true then _ else _
  cases seen.contains b<;>rfl
theorem qk (seen:List Nat) {l l0:List KV} (hp:l.Perm l0):(du seen l).Perm (du seen l0):=by rw [lJ,lJ];exact hp.filter _
theorem contains_map {st:Nat→Nat} {b:Nat} {seen:List Nat} (hi:∀s,s∈seen→st b=st s→b=s):(seen.map st).contains (st b)=seen.contains b:=by
 rw [Bool.eq_iff_iff]
 simp only [List.contains_iff_mem,List.mem_map]
 exact ⟨fun ⟨s,h1,h2⟩=>by rw [hi s h1 h2.symm];exact h1,fun g=>⟨b,g,rfl⟩⟩
theorem ux {st:Nat→Nat} (seen:List Nat):∀{l:List KV} {es:List MapEntry},bM st φ l es→(∀y,y∈l→∀s,s∈seen→st y.jf=st s→y.jf=s)→bM st φ (du seen l) (es.filter fun e=>!(seen.map st).contains e.born)
 | _,_,.nil,_=>.nil
 | _,_,.cons k v b e l es h1 h2 h3 hr,hi=>by
  have ih:=ux seen hr fun y hy=>hi y (List.mem_cons_of_mem _ hy)
  show bM st φ (@Bool.rec (fun _=>List KV) (.cons (.mk k v b) (du seen l)) (du seen l) (Ga b seen)) _
  rw [List.filter_cons,xN,h3,contains_map (b:=b) (fun s hs=>hi (.mk k v b) (List.mem_cons_self ..) s hs)]
  cases hb:seen.contains b
  ·simp only [Bool.not_false,if_true];exact .cons k v b e _ _ h1 h2 h3 ih
  ·simp only [Bool.not_true,Bool.false_eq_true,if_false];exact ih
theorem uy (since:Nat):∀{l:List KV},oM since l=false→∀y,y∈l→y.jf < since
 | [],_,y,hy=>by cases hy
 | .mk k v b::l,hf,y,hy=>by
  have hf:(@Bool.rec (fun _=>Bool) (oM since l) true (Nat.ble since b))=false:=hf
  cases hb:Nat.ble since b with
  | true=>rw [hb] at hf;cases hf
  | false=>
   rw [hb] at hf
   rcases List.mem_cons.1 hy with rfl|hy
   ·rcases Nat.lt_or_ge b since with g|g
    ·exact g
    ·rw [Nat.ble_eq_true_of_le g] at hb;cases hb
   ·exact uy since hf y hy
theorem uz (last:Nat):∀{l:List KV},jW last l=false→∃y,y∈l∧y.jf < last
 | [],h=>by cases h
 | .mk k v b::l,hf=>by
  have hf:(@Bool.rec (fun _=>Bool) false (jW last l) (Nat.ble last b))=false:=hf
  cases hb:Nat.ble last b with
  | true=>
   rw [hb] at hf
   obtain ⟨y,h1,h2⟩:=uz last hf
   exact ⟨y,List.mem_cons_of_mem _ h1,h2⟩
  | false=>
   refine ⟨_,List.mem_cons_self ..,?_⟩
   rcases Nat.lt_or_ge b last with g|g
   ·exact g
   ·rw [Nat.ble_eq_true_of_le g] at hb;cases hb
theorem bM.mem {st:Nat→Nat}:∀{l:List KV} {es:List MapEntry},bM st φ l es→∀e,e∈es→∃y,y∈l∧e.born=st y.jf
 | _,_,.nil,e,he=>by cases he
 | _,_,.cons k v b e l es h1 h2 h3 hr,e',he=>by
  rcases List.mem_cons.1 he with rfl|he
  ·exact ⟨_,List.mem_cons_self ..,h3⟩
  ·obtain ⟨y,g1,g2⟩:=hr.mem e' he
   exact ⟨y,List.mem_cons_of_mem _ g1,g2⟩
theorem bM.aqm {st:Nat→Nat}:∀{l:List KV} {es:List MapEntry},bM st φ l es→∀y,y∈l→∃e,e∈es∧e.born=st y.jf
 | _,_,.nil,e,he=>by cases he
 | _,_,.cons k v b e l es h1 h2 h3 hr,y,hy=>by
  rcases List.mem_cons.1 hy with rfl|hy
  ·exact ⟨_,List.mem_cons_self ..,h3⟩
  ·obtain ⟨e',g1,g2⟩:=hr.aqm y hy
   exact ⟨e',List.mem_cons_of_mem _ g1,g2⟩
theorem alA {a b:Nat} (e:Nat.ble dI a=Nat.ble dI b):xz a=xz b:=by
 have k:∀x,(x < dI)=(Nat.ble dI x=false):=fun x=>by
  apply propext
  constructor
  ·intro g
   rw [←Bool.not_eq_true]
   intro h2
   exact absurd (Nat.le_of_ble_eq_true h2) (Nat.not_le_of_lt g)
  ·intro g
   rcases Nat.lt_or_ge x dI with h2|h2
   ·exact h2
   ·rw [Nat.ble_eq_true_of_le h2] at g;cases g
 unfold xz
 simp only [k,e]
theorem bM.isEmpty {st:Nat→Nat}:∀{l:List KV} {es:List MapEntry},bM st φ l es→l.isEmpty=es.isEmpty
 | _,_,.nil=>rfl
 | _,_,.cons ..=>rfl
theorem Ka {α β:Type} (k:α→β) (e:β):∀(l:List α) (i:Nat) (hi:i < l.length),nth l k e i=k l[i]
 | [],i,hi=>by simp at hi
 | a::l,0,_=>rfl
 | a::l,i+1,hi=>by
  show nth l k e i=_
  rw [Ka k e l i (by simpa using hi)];rfl
theorem bM.get {st:Nat→Nat}:∀{l:List KV} {es:List MapEntry},bM st φ l es→∀(i:Nat) (h1:i < l.length) (h2:i < es.length),∃k v b,l[i]=.mk k v b∧es[i].born=st b∧VR φ k es[i].key∧VR φ v es[i].val
 | _,_,.cons k v b e l es h1 h2 h3 hr,0,_,_=>⟨k,v,b,rfl,h3,h1,h2⟩
 | _,_,.cons k v b e l es h1 h2 h3 hr,i+1,g1,g2=>bM.get hr i (by simpa using g1) (by simpa using g2)
theorem zx (n:Nat) (hn:0 < n):∃c w1,(choose (.mapNext n)).run P w=.ok c w1∧c < n∧w1.heap=w.heap∧w1.tape=w.tape∧w1.os=w.os∧w1.output=w.output:=by
 by_cases h1:n≤1
 ·refine ⟨0,w,?_,by omega,rfl,rfl,rfl,rfl⟩
  rw [run_choose_drew,if_pos (by simp [Question.forced,h1])]
 ·refine ⟨(Question.mapNext n).cut (w.tape w.drawn (.mapNext n)),w.drew,?_,?_,rfl,rfl,rfl,rfl⟩
  ·rw [run_choose_drew,if_neg (by simp [Question.forced,h1])]
  ·exact Nat.mod_lt _ hn
theorem mS {b:Nat} {o:Go.Obj} (h1:w.heap[b]?=some o) (hp:∀a c d,o≠.cells a c d):(getObj b).run P w=.ok o w:=by
 show (Sem.getObj b .pure).run P w=_
 cases o<;>first|exact absurd rfl (hp _ _ _)|simp only [Sem.run,h1]
theorem Kb {f:KV→RT} (hf:∀y,∃v h',f y=.ok v h') (h:Hp):∀(U:List KV) (c:Nat) (hc:c < U.length),(nxL f h U).aG (f U[c])
 | [],c,hc=>by simp at hc
 | [y],c,hc=>by
  have:c=0:=by simp at hc;omega
  subst this
  show (f y).aG (f y)
  obtain ⟨v,h',e⟩:=hf y
  rw [e];exact .ok _ _
 | y::y2::t,c,hc=>by
  refine .ch _ _ c _ hc ?_
  rw [Ka _ _ _ c hc]
  obtain ⟨v,h',e⟩:=hf (y::y2::t)[c]
  rw [e];exact .ok _ _
theorem HR.setIter (H:HR φ h w) {i:P4} {p:Place} {o':Obj} {ob:Go.Obj} (hl:live (aq i h)) (hp:φ i=some p) (hO:OR φ o' p (some ob)) (ho:o'≠.none) (hl':live o') {o0:Go.Obj} (h0:w.heap[p.bA]?=some o0) (hp0:∀a c d,o0≠.cells a c d) :
  (setObj p.bA ob).run P w=.ok () {w with heap:=w.heap.setIfInBounds p.bA ob}∧HR φ (cG i o' h) {w with heap:=w.heap.setIfInBounds p.bA ob}∧Step φ h w φ (cG i o' h) {w with heap:=w.heap.setIfInBounds p.bA ob}:=by
 have hb:p.bA < w.heap.size:=H.bound i p hp
 have hne:∀b,b≠p.bA→(w.heap.setIfInBounds p.bA ob)[b]?=w.heap[b]?:=fun b hb=>by
  rw [Array.getElem?_setIfInBounds,if_neg (fun e=>hb e.symm)]
 refine ⟨?_,H.set hl hp (by simp) hne (by simpa [hb] using hO) ho,φ.le_refl,fx.set hl hp (by simp) hne rfl rfl rfl,fun j q hj hq=>?_,.set _ _ _⟩
 ·show (Sem.setObj p.bA ob (.pure ())).run P w=_
  cases o0<;>first|exact absurd rfl (hp0 _ _ _)|simp only [Sem.run,h0]
 ·rw [bg] at hj
  by_cases e:j=i
  ·subst e;exact .inl ⟨hl,hq⟩
  ·rw [if_neg e] at hj;exact .inl ⟨hj,hq⟩
theorem Ac {ty:TypeId} {a:AV} (H:HR φ h w) (hx:VR φ a cx) (hs:(Gb a h).Safe):wo φ h w (Gb a h) ((Instr.next cx false ty).run P w):=by
 cases a<;>(try exact (RT.Safe.err hs).elim)
 rename_i i o
 obtain ⟨p,hp,rfl⟩:=hx.fj
 cases o with
 | succ o=>exact (RT.Safe.err hs).elim
 | zero=>
  change RT.Safe (Obj.rec (.err 98) (.err 98) (fun _ _ _ _ _=>.err 98) (fun _ _=>.err 98) (fun _ _=>.err 98) (fun m since seen last=>nxM i m since seen last h) (over h).jT (aq i h)) at hs
  show wo φ h w (Obj.rec (.err 98) (.err 98) (fun _ _ _ _ _=>.err 98) (fun _ _=>.err 98) (fun _ _=>.err 98) (fun m since seen last=>nxM i m since seen last h) (over h).jT (aq i h)) _
  cases hi:aq i h<;>rw [hi] at hs<;>(try exact (RT.Safe.err hs).elim)
  ·rename_i m since seen last
   have hl:live (aq i h):=by rw [hi];exact ⟨by simp,by simp⟩
   obtain ⟨p',hp',hor⟩:=H.obj i hl
   rw [hp] at hp';cases hp'
   rw [hi] at hor
   obtain ⟨hb0,q,hq,hw,hI⟩:=hor
   have hs:(nxM i m since seen last h).Safe:=hs
   show wo φ h w (nxM i m since seen last h) _
   unfold nxM at hs ⊢
   cases hm:aq m h<;>rw [hm] at hs<;>(try exact (RT.Safe.err hs).elim)
   rename_i l clock
   have hs:RT.Safe (@Bool.rec (fun _=>RT) (.err 243) (@Bool.rec (fun _=>RT) (@Bool.rec (fun _=>RT) (nxL (vr i m since seen clock h) h (du seen l)) (.err 100) (Bool.and (Bool.not (fw seen)) (Bool.and (Bool.not (fw l)) (jW last l)))) (.err 103) (oM since l)) (eK (Nat.ble dI since) (Nat.ble dI clock))):=hs
   show wo φ h w (@Bool.rec (fun _=>RT) (.err 243) (@Bool.rec (fun _=>RT) (@Bool.rec (fun _=>RT) (nxL (vr i m since seen clock h) h (du seen l)) (.err 100) (Bool.and (Bool.not (fw seen)) (Bool.and (Bool.not (fw l)) (jW last l)))) (.err 103) (oM since l)) (eK (Nat.ble dI since) (Nat.ble dI clock))) _
   cases hT:eK (Nat.ble dI since) (Nat.ble dI clock) with
   | false=>rw [hT] at hs;exact (RT.Safe.err hs).elim
   | true=>
   have hlo:=alA (show Nat.ble dI since=Nat.ble dI clock by
    cases h1:Nat.ble dI since<;>cases h2:Nat.ble dI clock<;>first|rfl|(rw [h1,h2] at hT;cases hT))
   cases hA:oM since l with
   | true=>rw [hT,hA] at hs;exact (RT.Safe.err hs).elim
   | false=>
    cases hB:Bool.and (Bool.not (fw seen)) (Bool.and (Bool.not (fw l)) (jW last l)) with
    | true=>rw [hT,hA,hB] at hs;exact (RT.Safe.err hs).elim
    | false=>
     rw [hT,hA,hB] at hs
     have hs:(nxL (vr i m since seen clock h) h (du seen l)).Safe:=hs
     show wo φ h w (nxL (vr i m since seen clock h) h (du seen l)) _
     obtain ⟨es,cw,l0,g1,hpm,g2,hS⟩:=H.map hm hq
     have hrg:∀y,y∈l→xz since≤y.jf∧y.jf < clock:=fun y hy=>by rw [hlo];exact hS.Kr _ (List.mem_map.2 ⟨y,hy,rfl⟩)
     have hB':(!((seen.map (bV q.room)).toArray.isEmpty)&&!es.isEmpty&&es.all fun e=>decide (e.born≥bV q.room last))=false:=by
      rw [Bool.eq_false_iff]
      intro hh
      simp only [Bool.and_eq_true] at hh
      obtain ⟨⟨a1,a2⟩,a3⟩:=hh
      have b1:fw seen=false:=by
       cases seen with
       | nil=>simp at a1
       | cons=>rfl
      have b2:fw l=false:=by
       cases l with
       | nil=>
        have:=hpm.length_eq
        rw [g2.length] at this
        have:es=#[]:=by apply Array.eq_empty_of_size_eq_zero;simpa using this.symm
        rw [this] at a2;simp at a2
       | cons=>rfl
      have hB:Bool.and (Bool.not (fw seen)) (Bool.and (Bool.not (fw l)) (jW last l))=false:=hB
      rw [b1,b2] at hB
      have hB:jW last l=false:=hB
      obtain ⟨y,hy,hlt⟩:=uz last hB
      obtain ⟨e,he,hbn⟩:=g2.aqm y (hpm.mem_iff.1 hy)
      have:=(Array.all_eq_true'.1 a3) e (by simpa using he)
      rw [decide_eq_true_eq,hbn] at this
      exact absurd (hI.2.2.1 _ (hrg y hy).1 hlt) (Nat.not_lt_of_le this)
     have hold:∀e,e∈es.toList→e.born < bV q.room since:=fun e he=>by
      obtain ⟨y,hy,hbn⟩:=g2.mem e he
      have hy:=hpm.mem_iff.2 hy
      rw [hbn]
      exact hI.1 _ (hrg y hy).1 (uy since hA y hy)
     have hu:=ux seen g2 fun y hy s hs g=>hS.inj _ _ (hlo▸(hrg y (hpm.mem_iff.2 hy)).1) (hlo▸hI.2.2.2 s hs) g
     generalize hL:(es.toList.filter fun e=>!(seen.map (bV q.room)).contains e.born)=L at hu
     have hleft:(es.filter fun e=>!(seen.map (bV q.room)).toArray.contains e.born)=L.toArray:=by
      rw [←hL];apply Array.ext';simp
     have hLb:∀e,e∈L→e.born < bV q.room since:=fun e he=>hold e (by rw [←hL] at he;exact (List.mem_filter.1 he).1)
     have ho1:Array.filter (fun e=>decide (e.born < bV q.room since)) L.toArray 0 L.length=L.toArray:=by
      show L.toArray.filter (fun e=>decide (e.born < bV q.room since))=_
      rw [Array.filter_eq_self];intro e he;simpa using hLb e (by simpa using he)
     have ho2:Array.filter (fun e=>decide (e.born≥bV q.room since)) L.toArray 0 L.length=#[]:=by
      show L.toArray.filter (fun e=>decide (e.born≥bV q.room since))=_
      rw [Array.filter_eq_empty_iff];intro e he;have:=hLb e (by simpa using he);simp;exact this
     have haddr:p.addr 0=⟨p.bA,0,none⟩:=by simp [Place.addr,hb0]
     have hobj:(getObj p.bA).run P w=.ok (.mapIter (some q.bA) (bV q.room since) (seen.map (bV q.room)).toArray (bV q.room last)) w:=mS hw (by simp)
     have hmap:∀w1:World,(getObj q.bA).run P w=.ok (.map es cw) w:=fun _=>bT g1 rfl
     -- the run,up to the choice
     have hcand:((if L.toArray.isEmpty then #[(none:Option MapEntry)] else #[]) ++ (L.toArray ++ #[]).map some)=(if L.isEmpty then [none] else L.map some).toArray:=by
      cases L<;>simp
     have hrun:∀c w1 o,(choose (.mapNext (if L.isEmpty then [none] else L.map some).length)).run P w=.ok c w1→(if L.isEmpty then [none] else L.map some)[c]?=some o→
       (Instr.next (.pointer (some (p.addr 0))) false ty).run P w=(match o with
        | some e=>((do setObj p.bA (.mapIter (some q.bA) (bV q.room since) ((seen.map (bV q.room)).toArray.push e.born) cw);pure (.tuple #[.bool true,e.key,e.val])):Sem Value).run P w1
        | none=>(.ok (.tuple #[.bool false]) w1:Result Value)):=by
      intro c w1 o hc ho
      rw [haddr]
      simp only [Instr.next,Sem.run_bind,hobj,Result.andThen_ok,hmap w,hB',Bool.false_eq_true,if_false,hleft,ho1,ho2,hcand,List.size_toArray,hc]
      simp only [List.getElem?_toArray,ho]
      cases o<;>simp
     obtain ⟨c,w1,hc,hcn,e1,e2,e3,e4⟩:=zx (P:=P) (w:=w) (if L.isEmpty then [none] else L.map some).length (by cases L<;>simp)
     have H1:HR φ h w1:=H.heap e1
     have S1:Step φ h w φ h w1:=Step.heap e1 e2 e3 e4
     cases hL2:L with
     | nil=>
      rw [hL2] at hu hrun hc hcn
      have hz:c=0:=by simpa using hcn
      rw [hrun c w1 none hc (by subst hz;rfl)]
      have hun0:du seen l0=[]:=by cases hu2:du seen l0 with|nil=>rfl|cons y t=>rw [hu2] at hu;cases hu
      cases hun:du seen l with
      | cons y t=>
       have:=(qk seen hpm).length_eq
       rw [hun,hun0] at this;simp at this
      | nil=>exact ⟨_,_,.ok _ _,_,_,φ,rfl,.eS [_] [_] (.cons _ _ _ _ (.bool _) .nil),H1,S1⟩
     | cons e0 L'=>
      rw [hL2] at hu hrun hc hcn
      have hlen:=hu.length
      have hcn':c < (e0::L').length:=by simpa using hcn
      obtain ⟨k,u,bb,hk,hbn,hv1,hv2⟩:=hu.get c (by omega) hcn'
      obtain ⟨c2,hc2,hk2⟩:=List.getElem_of_mem ((qk seen hpm).mem_iff.2 (List.getElem_mem (l:=du seen l0) (n:=c) (by omega)))
      rw [hk] at hk2
      have hyl:KV.mk k u bb∈l:=by
       have:KV.mk k u bb∈du seen l:=hk2▸List.getElem_mem hc2
       rw [lJ] at this
       exact (List.mem_filter.1 this).1
      rw [hrun c w1 (some (e0::L')[c]) hc (by simp only [List.isEmpty_cons,Bool.false_eq_true,if_false,List.getElem?_map,List.getElem?_eq_getElem hcn',Option.map_some])]
      have hw1:w1.heap[p.bA]?=some (.mapIter (some q.bA) (bV q.room since) (seen.map (bV q.room)).toArray (bV q.room last)):=by rw [e1];exact hw
      obtain ⟨s1,s2,s3⟩:=HR.setIter (P:=P) H1 (o':=.qR m since (seen ++ [bb]) clock) (ob:=.mapIter (some q.bA) (bV q.room since) ((seen.map (bV q.room)).toArray.push (e0::L')[c].born) cw) hl hp ⟨hb0,q,hq,by rw [hbn,hS.at];simp,hI.1,hlo.symm,fun b h1 h2=>by rw [hS.at];exact hS.mono b (hlo▸h1) h2,fun b hb=>by
       rcases List.mem_append.1 hb with g|g
       ·exact hI.2.2.2 b g
       ·obtain rfl:b=bb:=by simpa using g
        exact (hrg _ hyl).1⟩ (by simp) ⟨by simp,by simp⟩ hw1 (by simp)
      have hlf:=Kb (f:=vr i m since seen clock h) (fun y=>by cases y;exact ⟨_,_,rfl⟩) h (du seen l) c2 hc2
      rw [hk2] at hlf
      refine ⟨_,_,hlf,.tuple #[.bool true,(e0::L')[c].key,(e0::L')[c].val],_,φ,?_,?_,s2,S1.trans s3⟩
      ·simp only [Sem.run_bind,s1,Result.andThen_ok,Sem.run_pure]
      ·exact .eS [_,_,_] [_,_,_] (.cons _ _ _ _ (.bool _) (.cons _ _ _ _ hv1 (.cons _ _ _ _ hv2 .nil)))
  ·have hl:live (aq i h):=by rw [hi];exact ⟨by simp,by simp⟩
   obtain ⟨p',hp',hor⟩:=H.obj i hl
   rw [hp] at hp';cases hp'
   rw [hi] at hor
   obtain ⟨hb0,hw⟩:=hor
   have haddr:p.addr 0=⟨p.bA,0,none⟩:=by simp [Place.addr,hb0]
   have hobj:(getObj p.bA).run P w=.ok (.mapIter none 0 #[] 0) w:=mS hw (by simp)
   refine ⟨_,_,.ok _ _,.same H (cv:=.tuple #[.bool false]) (.eS [_] [_] (.cons _ _ _ _ (.bool _) .nil)) ?_⟩
   rw [haddr]
   simp only [Instr.next,Sem.run_bind,hobj,Result.andThen_ok,Sem.run_pure]
variable {P:Program} {φ:aJ} {h h':Hp} {w:World} {v:AV} {x y z:AO} {r:A2} {cx cy:Value} {t:TypeId}
theorem zy:∀{l:List Nat} {k:Nat→RV} {n:Nat},Gd l k (.err n)=.ok v h→∃b,l.getLast?=some b∧k b=.ok v h
 | [],_,_,e=>by cases e
 | [a],_,_,e=>⟨a,rfl,e⟩
 | a::b::l,k,n,e=>by
  obtain ⟨c,h1,h2⟩:=zy (l:=b::l) (show Gd (b::l) k (.err n)=_ from e)
  exact ⟨c,by rw [List.getLast?_cons_cons];exact h1,h2⟩
theorem zz {b n:Nat} {k:AV→AV→RV}:∀{l:List KV},Gc b l k (.err n)=.ok v h→∃l1 a c l2,l=l1 ++ KV.mk a c b::l2∧k a c=.ok v h
 | [],e=>by cases e
 | .mk a c b'::l,he0=>by
  have he1:(@Bool.rec (fun _=>RV) (Gc b l k (.err n)) (k a c) (Nat.beq b b'))=.ok v h:=he0
  cases hb:Nat.beq b b' with
  | true=>
   rw [hb] at he1
   obtain rfl:=Nat.eq_of_beq_eq_true hb
   exact ⟨[],a,c,l,rfl,he1⟩
  | false=>
   rw [hb] at he1
   obtain ⟨l1,a',c',l2,rfl,q⟩:=zz he1
   exact ⟨.mk a c b'::l1,a',c',l2,rfl,q⟩
theorem bM.Xb {st:Nat→Nat} {b:Nat} {a c:AV} {m2:List KV}:∀{m1:List KV} {es:List MapEntry},bM st φ (m1 ++ KV.mk a c b::m2) es→(∀y,y∈m1→st y.jf≠st b)→∃e,es.find? (fun e=>e.born == st b)=some e∧VR φ a e.key∧VR φ c e.val
 | [],_,.cons _ _ _ e _ es h1 h2 h3 _,_=>by
  refine ⟨e,?_,h1,h2⟩
  rw [List.find?_cons]
  have h4:(e.born == st b)=true:=by rw [h3];exact beq_self_eq_true _
  rw [h4]
 | .mk k0 v0 b0::m1,_,.cons _ _ _ e _ es _ _ h3 hr,hne=>by
  rw [List.find?_cons]
  have h4:(e.born == st b)=false:=by
   rw [beq_eq_false_iff_ne,h3]
   exact hne _ (List.mem_cons_self ..)
  rw [h4]
  exact bM.Xb hr fun y hy=>hne y (List.mem_cons_of_mem _ hy)
theorem It (H:HR φ h w) (hx:VR φ (ev x r) cx) (he:mU x r h=.ok v h'):Good φ h w v h' ((Instr.entry cx).run P w):=by
 obtain ⟨i,o,ep,he⟩:=ct he
 rw [ep] at hx
 obtain ⟨p,hp,rfl⟩:=hx.fj
 cases o with
 | succ o=>cases he
 | zero=>
  change (Obj.rec (.err 104) (.err 104) (fun _ _ _ _ _=>.err 104) (fun _ _=>.err 104) (fun _ _=>.err 104) (fun m _ seen stepped=>ahP m seen stepped h) (.err 104) (aq i h):RV)=_ at he
  cases hi:aq i h<;>rw [hi] at he<;>(try (cases he;done))
  rename_i m since seen stepped
  have hl:live (aq i h):=by rw [hi];exact ⟨by simp,by simp⟩
  obtain ⟨p',hp',hor⟩:=H.obj i hl
  rw [hp] at hp';cases hp'
  rw [hi] at hor
  obtain ⟨hb0,q,hq,hw,hI⟩:=hor
  obtain ⟨b,hb,he⟩:=zy (show ahP m seen stepped h=_ from he)
  obtain ⟨l,clock,hm,he⟩:=dE he
  obtain ⟨hc,he⟩:=aC he
  have hc:=Nat.eq_of_beq_eq_true hc
  obtain ⟨es,cw,l0,g1,hpm,g2,hS⟩:=H.map hm hq
  obtain ⟨l1,a,c,l2,rfl,he9⟩:=zz he
  obtain ⟨rfl,rfl⟩:=RV.av he9
  obtain ⟨m1,m2,rfl,hmm⟩:=sY hpm
  have hnd:=hS.VZ
  have hrg:=hS.Kr
  rw [List.map_append,List.map_cons] at hrg hnd
  rw [List.nodup_append,List.nodup_cons] at hnd
  obtain ⟨e,f1,f2,f3⟩:=g2.Xb fun y hy g=>by
   have hyl:=hmm.mem_iff.2 (List.mem_append_left m2 hy)
   have hy2:y.jf∈l1.map KV.jf ++ KV.jf (KV.mk a c b)::l2.map KV.jf:=by
    rcases List.mem_append.1 hyl with k|k
    ·exact List.mem_append_left _ (List.mem_map.2 ⟨y,k,rfl⟩)
    ·exact List.mem_append_right _ (List.mem_cons_of_mem _ (List.mem_map.2 ⟨y,k,rfl⟩))
   have g:=hS.inj _ _ (hrg _ hy2).1 (hrg _ (List.mem_append_right _ (List.mem_cons_self ..))).1 g
   rcases List.mem_append.1 hyl with k|k
   ·exact hnd.2.2 _ (List.mem_map.2 ⟨y,k,rfl⟩) _ (List.mem_cons_self ..) g
   ·exact hnd.2.1.1 (g▸List.mem_map.2 ⟨y,k,rfl⟩)
  have haddr:p.addr 0=⟨p.bA,0,none⟩:=by simp [Place.addr,hb0]
  have hobj:(getObj p.bA).run P w=.ok (.mapIter (some q.bA) (bV q.room since) (seen.map (bV q.room)).toArray (bV q.room stepped)) w:=mS hw (by simp)
  refine .same H (cv:=.tuple #[e.key,e.val]) (.eS [_,_] [_,_] (.cons _ _ _ _ f2 (.cons _ _ _ _ f3 .nil))) ?_
  rw [haddr]
  have hback:(seen.map (bV q.room)).toArray.back?=some (bV q.room b):=by simp [hb]
  have hfind:es.find? (fun e=>e.born == bV q.room b)=some e:=by rw [←Array.find?_toList];exact f1
  subst hc
  have hcw:=hS.at
  simp [Instr.entry,hobj,hback,bT g1 rfl,hfind,hcw]
variable {P:Program} {φ:aJ} {h h':Hp} {w:World} {v:AV} {r:A2} {cx cy:Value}
section
variable {t:TypeId} {p q:Operand}
theorem qx {op:BinOp} {k k':FloatKind} {m n:Nat}:(eqGuard op t p q (.float k m) (.float k' n)).run P w=.ok () w:=by
 unfold eqGuard
 cases op<;>simp
theorem pP {op:BinOp} {k k':FloatKind} {a b c d:Nat}:(eqGuard op t p q (.complex k a b) (.complex k' c d)).run P w=.ok () w:=by
 unfold eqGuard
 cases op<;>simp
theorem RD {k:FloatKind} {op:BinOp} {a b:Nat} (e:Lu k op a b h=.ok v h'):h'=h∧∃c,(binOp op t (.float k a) (.float k b)).run P w=.ok c w∧VR φ v c:=by
 cases op<;>first|(cases e;done)|skip
 case add=>
  have e:(match k.format.add a b with|some r=>RV.ok (.gA k r) h|none=>.err 7)=.ok v h':=e
  cases hr:k.format.add a b with
  | none=>rw [hr] at e;cases e
  | some r=>
   rw [hr] at e
   obtain ⟨rfl,rfl⟩:=RV.av e
   exact ⟨rfl,_,by simp [binOp,Op.floatArith,hr],.gA _ _⟩
 case sub=>
  have e:(match k.format.sub a b with|some r=>RV.ok (.gA k r) h|none=>.err 7)=.ok v h':=e
  cases hr:k.format.sub a b with
  | none=>rw [hr] at e;cases e
  | some r=>
   rw [hr] at e
   obtain ⟨rfl,rfl⟩:=RV.av e
   exact ⟨rfl,_,by simp [binOp,Op.floatArith,hr],.gA _ _⟩
 case mul=>
  have e:(match k.format.mul a b with|some r=>RV.ok (.gA k r) h|none=>.err 7)=.ok v h':=e
  cases hr:k.format.mul a b with
  | none=>rw [hr] at e;cases e
  | some r=>
   rw [hr] at e
   obtain ⟨rfl,rfl⟩:=RV.av e
   exact ⟨rfl,_,by simp [binOp,Op.floatArith,hr],.gA _ _⟩
 case quo=>
  have e:(match k.format.div a b with|some r=>RV.ok (.gA k r) h|none=>.err 7)=.ok v h':=e
  cases hr:k.format.div a b with
  | none=>rw [hr] at e;cases e
  | some r=>
   rw [hr] at e
   obtain ⟨rfl,rfl⟩:=RV.av e
   exact ⟨rfl,_,by simp [binOp,Op.floatArith,hr],.gA _ _⟩
 all_goals
  obtain ⟨rfl,rfl⟩:=RV.av e
  exact ⟨rfl,_,by simp [binOp,Op.floatCmp],.bool _⟩
theorem Hw {op:BinOp} (H:HR φ h w) {a b:AV} (hx:VR φ a cx) (hy:VR φ b cy) (e:FO op a b h=.ok v h'):Good φ h w v h' ((do eqGuard op t p q cx cy;binOp op t cx cy:Sem Value).run P w):=by
 obtain ⟨k,m,ea,e1⟩:=dX e
 obtain ⟨k',n,eb,e2⟩:=dX e1
 obtain ⟨hk,e3⟩:=aC e2
 clear e e1 e2
 obtain rfl:=iO hk
 subst ea eb
 rw [hx.lC,hy.lC]
 obtain ⟨rfl,c,h1,h2⟩:=RD (P:=P) (w:=w) (t:=t) (φ:=φ) e3
 refine .same H h2 ?_
 simp [qx,h1]
theorem Kc {k:FloatKind} {op:BinOp} {a b c d:Nat} (e:Bp k op a b c d h=.ok v h'):h'=h∧∃x,(binOp op t (.complex k a b) (.complex k c d)).run P w=.ok x w∧VR φ v x:=by
 cases op<;>first|(cases e;done)|skip
 case add=>
  have e:(match k.format.add a c,k.format.add b d with|some r,some s=>RV.ok (.aM k r s) h|_,_=>.err 8)=.ok v h':=e
  cases hr:k.format.add a c with
  | none=>rw [hr] at e;cases e
  | some r=>
   cases hs:k.format.add b d with
   | none=>rw [hr,hs] at e;cases e
   | some s=>
    rw [hr,hs] at e
    obtain ⟨rfl,rfl⟩:=RV.av e
    exact ⟨rfl,_,run_complex_sum w .add (.inl rfl) t k a b c d r s (by simp [cSumBits,floatBits,hr,hs]),.aM _ _ _⟩
 case sub=>
  have e:(match k.format.sub a c,k.format.sub b d with|some r,some s=>RV.ok (.aM k r s) h|_,_=>.err 8)=.ok v h':=e
  cases hr:k.format.sub a c with
  | none=>rw [hr] at e;cases e
  | some r=>
   cases hs:k.format.sub b d with
   | none=>rw [hr,hs] at e;cases e
   | some s=>
    rw [hr,hs] at e
    obtain ⟨rfl,rfl⟩:=RV.av e
    exact ⟨rfl,_,run_complex_sum w .sub (.inr rfl) t k a b c d r s (by simp [cSumBits,floatBits,hr,hs]),.aM _ _ _⟩
 all_goals
  obtain ⟨rfl,rfl⟩:=RV.av e
 ·exact ⟨rfl,_,run_eql_complex w t k a b c d,.bool _⟩
 ·exact ⟨rfl,_,run_neq_complex w t k a b c d,.bool _⟩
theorem Hy {op:BinOp} (H:HR φ h w) {a b:AV} (hx:VR φ a cx) (hy:VR φ b cy) (e:FP op a b h=.ok v h'):Good φ h w v h' ((do eqGuard op t p q cx cy;binOp op t cx cy:Sem Value).run P w):=by
 obtain ⟨k,m,n,ea,e1⟩:=fG e
 obtain ⟨k',m',n',eb,e2⟩:=fG e1
 obtain ⟨hk,e3⟩:=aC e2
 clear e e1 e2
 obtain rfl:=iO hk
 subst ea eb
 rw [hx.ot,hy.ot]
 obtain ⟨rfl,c,h1,h2⟩:=Kc (P:=P) (w:=w) (t:=t) (φ:=φ) e3
 refine .same H h2 ?_
 simp [pP,h1]
end
theorem HF {a:AV} {s d:TypeId} {kd:IntKind} {k:FloatKind} (H:HR φ h w) (hx:VR φ a cx) (hs:P.underlying s=some (.int kd)) (hd:P.underlying d=some (.float k)) (e:FT k a h=.ok v h'):Good φ h w v h' ((convert s d cx).run P w):=by
 obtain ⟨ki,n,rfl,e1⟩:=bn e
 obtain ⟨rfl,rfl⟩:=RV.av e1
 rw [hx.aW]
 exact .same H (.gA _ _) (by simp [convert,ar hs,ar hd,Conv.intToFloat])
theorem HG {a:AV} {s d:TypeId} {kd:IntKind} {k:FloatKind} (H:HR φ h w) (hx:VR φ a cx) (hs:P.underlying s=some (.float k)) (hd:P.underlying d=some (.int kd)) (e:FU kd a h=.ok v h'):Good φ h w v h' ((convert s d cx).run P w):=by
 obtain ⟨kf,n,rfl,e1⟩:=dX e
 clear e
 rw [hx.lC]
 have e:(match (kf.decode n).toInt .zero with|some n=>if kd.min≤n∧n≤kd.max then RV.ok (.int kd n) h else .err 37|none=>.err 37)=.ok v h':=e1
 cases hr:(kf.decode n).toInt .zero with
 | none=>rw [hr] at e;cases e
 | some m=>
  rw [hr] at e
  have e2:(if kd.min≤m∧m≤kd.max then RV.ok (.int kd m) h else .err 37)=.ok v h':=e
  by_cases hb:kd.min≤m∧m≤kd.max
  ·rw [if_pos hb] at e2
   obtain ⟨rfl,rfl⟩:=RV.av e2
   refine .same H (.int _ _) ?_
   simp [convert,ar hs,ar hd,Conv.floatToInt,hr,hb]
  ·rw [if_neg hb] at e2;cases e2
theorem Di {x:AO} {ts:Array TypeId} {ty:TypeId} (H:HR φ h w) (hx:VR φ (ev x r) cx) (he:ji false x r h=.ok v h'):Good φ h w v h' ((Builtin.real_ ts ty #[cx]).run P w):=by
 obtain ⟨k,a,b,ea,he⟩:=fG he
 obtain ⟨rfl,rfl⟩:=RV.av he
 rw [ea] at hx
 rw [hx.ot]
 exact .same H (.gA _ _) (run_real w ts ty k a b)
theorem Dj {x:AO} {ts:Array TypeId} {ty:TypeId} (H:HR φ h w) (hx:VR φ (ev x r) cx) (he:ji true x r h=.ok v h'):Good φ h w v h' ((Builtin.imag_ ts ty #[cx]).run P w):=by
 obtain ⟨k,a,b,ea,he⟩:=fG he
 obtain ⟨rfl,rfl⟩:=RV.av he
 rw [ea] at hx
 rw [hx.ot]
 exact .same H (.gA _ _) (run_imag w ts ty k a b)
end Go.Am
