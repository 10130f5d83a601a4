/- The abstract machine is sound: what its run says holds of the Go program. Conditions: the table of functions is the program's (Env). -/
import Derived.Test.YtfikinbodiohiaaGreatDoorB
import Derived.Laws.Sem
import Derived.Calls
import Derived.Laws.World
import Derived.Laws.Strings
import Derived.Laws.Strings2
import Derived.Laws.Concat
import Derived.Laws.StructEq
import Derived.Laws.Append
import Derived.Laws.IdiomStrings
import Derived.Laws.NewFold
import Derived.Laws.Cover2
import Derived.Laws.Cover3
import Derived.Laws.ComplexArith
set_option linter.all false
namespace Go.Am
theorem A1.dw (d:H) (v:AV) (x:A1):A1.get d (A1.set d v x)=v:=by cases d<;>cases x<;>rfl
theorem A1.bM {d e:H} (h:d≠e) (v:AV) (x:A1):A1.get d (A1.set e v x)=A1.get d x:=by
 cases d<;>cases e<;>first|exact absurd rfl h|(cases x<;>rfl)
theorem A1.get_nil (d:H):A1.get d .nil=.undef:=by cases d<;>rfl
theorem A2.dw (d:H) (v:A1) (x:A2):A2.get d (A2.set d v x)=v:=by cases d<;>cases x<;>rfl
theorem A2.bM {d e:H} (h:d≠e) (v:A1) (x:A2):A2.get d (A2.set e v x)=A2.get d x:=by
 cases d<;>cases e<;>first|exact absurd rfl h|(cases x<;>rfl)
theorem A2.get_nil (d:H):A2.get d .nil=.nil:=by cases d<;>rfl
theorem A3.dw (d:H) (v:A2) (x:A3):A3.get d (A3.set d v x)=v:=by cases d<;>cases x<;>rfl
theorem A3.bM {d e:H} (h:d≠e) (v:A2) (x:A3):A3.get d (A3.set e v x)=A3.get d x:=by
 cases d<;>cases e<;>first|exact absurd rfl h|(cases x<;>rfl)
theorem A3.get_nil (d:H):A3.get d .nil=.nil:=by cases d<;>rfl
theorem A4.dw (d:H) (v:A3) (x:A4):A4.get d (A4.set d v x)=v:=by cases d<;>cases x<;>rfl
theorem A4.bM {d e:H} (h:d≠e) (v:A3) (x:A4):A4.get d (A4.set e v x)=A4.get d x:=by
 cases d<;>cases e<;>first|exact absurd rfl h|(cases x<;>rfl)
theorem A4.get_nil (d:H):A4.get d .nil=.nil:=by cases d<;>rfl
theorem O1.dw (d:H) (v:Obj) (x:O1):O1.get d (O1.set d v x)=v:=by cases d<;>cases x<;>rfl
theorem O1.bM {d e:H} (h:d≠e) (v:Obj) (x:O1):O1.get d (O1.set e v x)=O1.get d x:=by
 cases d<;>cases e<;>first|exact absurd rfl h|(cases x<;>rfl)
theorem O1.get_nil (d:H):O1.get d .nil=.none:=by cases d<;>rfl
theorem O2.dw (d:H) (v:O1) (x:O2):O2.get d (O2.set d v x)=v:=by cases d<;>cases x<;>rfl
theorem O2.bM {d e:H} (h:d≠e) (v:O1) (x:O2):O2.get d (O2.set e v x)=O2.get d x:=by
 cases d<;>cases e<;>first|exact absurd rfl h|(cases x<;>rfl)
theorem O2.get_nil (d:H):O2.get d .nil=.nil:=by cases d<;>rfl
theorem O3.dw (d:H) (v:O2) (x:O3):O3.get d (O3.set d v x)=v:=by cases d<;>cases x<;>rfl
theorem O3.bM {d e:H} (h:d≠e) (v:O2) (x:O3):O3.get d (O3.set e v x)=O3.get d x:=by
 cases d<;>cases e<;>first|exact absurd rfl h|(cases x<;>rfl)
theorem O3.get_nil (d:H):O3.get d .nil=.nil:=by cases d<;>rfl
theorem O4.dw (d:H) (v:O3) (x:O4):O4.get d (O4.set d v x)=v:=by cases d<;>cases x<;>rfl
theorem O4.bM {d e:H} (h:d≠e) (v:O3) (x:O4):O4.get d (O4.set e v x)=O4.get d x:=by
 cases d<;>cases e<;>first|exact absurd rfl h|(cases x<;>rfl)
theorem O4.get_nil (d:H):O4.get d .nil=.nil:=by cases d<;>rfl
theorem yT:∀n,n < 16→(bR n).nat=n:=by decide
theorem eS {n:Nat} (h:n < 16):(bR n).nat=n:=yT n h
theorem ly {m n:Nat} (hm:m < 16) (hn:n < 16) (h:bR m=bR n):m=n:=by
 rw [←eS hm,←eS hn,h]
noncomputable instance:DecidableEq H:=fun a b=>if h:a.nat=b.nat then .isTrue (by cases a<;>cases b<;>first|rfl|(exact absurd h (by decide))) else .isFalse (fun e=>h (by rw [e]))
theorem A1.bI (d e:H) (v:AV) (x:A1):A1.get d (A1.set e v x)=if d=e then v else A1.get d x:=by
 by_cases h:d=e
 ·rw [if_pos h,h,A1.dw]
 ·rw [if_neg h,A1.bM h]
theorem A2.bI (d e:H) (v:A1) (x:A2):A2.get d (A2.set e v x)=if d=e then v else A2.get d x:=by
 by_cases h:d=e
 ·rw [if_pos h,h,A2.dw]
 ·rw [if_neg h,A2.bM h]
theorem A3.bI (d e:H) (v:A2) (x:A3):A3.get d (A3.set e v x)=if d=e then v else A3.get d x:=by
 by_cases h:d=e
 ·rw [if_pos h,h,A3.dw]
 ·rw [if_neg h,A3.bM h]
theorem A4.bI (d e:H) (v:A3) (x:A4):A4.get d (A4.set e v x)=if d=e then v else A4.get d x:=by
 by_cases h:d=e
 ·rw [if_pos h,h,A4.dw]
 ·rw [if_neg h,A4.bM h]
theorem dE (a b c d:H) (v:AV) (r:A2):ar a b (dj c d v r)=if a=c∧b=d then v else ar a b r:=by
 simp only [ar,dj,A2.bI]
 by_cases h:a=c
 ·subst h
  simp only [if_true,A1.bI,true_and]
 ·simp [h]
theorem Tr (a b:Nat):Nat.div a b=a / b:=rfl
theorem Ts (a b:Nat):Nat.mod a b=a % b:=rfl
theorem ND {i j:Nat} (hi:i < 16) (hj:j < 16) (v:AV) (x:A1):g1 i (t1 j v x)=if i=j then v else g1 i x:=by
 simp only [g1,t1,A1.bI]
 by_cases h:i=j
 ·simp [h]
 ·rw [if_neg h,if_neg (fun e=>h (ly hi hj e))]
theorem NF {i j:Nat} (hi:i < 256) (hj:j < 256) (v:AV) (x:A2):g2 i (t2 j v x)=if i=j then v else g2 i x:=by
 have hi':i / 16 < 16:=by omega
 have hj':j / 16 < 16:=by omega
 have hi2:i % 16 < 16:=by omega
 have hj2:j % 16 < 16:=by omega
 simp only [g2,t2,ZF,A2.bI,Tr,Ts]
 by_cases h:i / 16=j / 16
 ·rw [if_pos (congrArg bR h)]
  have:=ND hi2 hj2 v (A2.get (bR (j / 16)) x)
  simp only [g1] at this
  rw [this]
  by_cases e:i=j
  ·simp [e]
  ·rw [if_neg e,if_neg (by omega),h]
 ·rw [if_neg (fun e=>h (ly hi' hj' e)),if_neg (fun e=>h (by rw [e]))]
theorem NG {i j:Nat} (hi:i < 4096) (hj:j < 4096) (v:AV) (x:A3):g3 i (t3 j v x)=if i=j then v else g3 i x:=by
 have hi':i / 256 < 16:=by omega
 have hj':j / 256 < 16:=by omega
 simp only [g3,t3,ZG,A3.bI,Tr,Ts]
 by_cases h:i / 256=j / 256
 ·rw [if_pos (congrArg bR h)]
  rw [NF (show i % 256 < 256 by omega) (show j % 256 < 256 by omega)]
  by_cases e:i=j
  ·simp [e]
  ·rw [if_neg e,if_neg (show ¬ (i % 256=j % 256) by omega),h]
 ·rw [if_neg (fun e=>h (ly hi' hj' e)),if_neg (fun e=>h (by rw [e]))]
theorem Xj {i j:Nat} (hi:i < 65536) (hj:j < 65536) (v:AV) (x:A4):g4 i (t4 j v x)=if i=j then v else g4 i x:=by
 have hi':i / 4096 < 16:=by omega
 have hj':j / 4096 < 16:=by omega
 simp only [g4,t4,ZH,A4.bI,Tr,Ts]
 by_cases h:i / 4096=j / 4096
 ·rw [if_pos (congrArg bR h)]
  rw [NG (show i % 4096 < 4096 by omega) (show j % 4096 < 4096 by omega)]
  by_cases e:i=j
  ·simp [e]
  ·rw [if_neg e,if_neg (show ¬ (i % 4096=j % 4096) by omega),h]
 ·rw [if_neg (fun e=>h (ly hi' hj' e)),if_neg (fun e=>h (by rw [e]))]
theorem vt {i j:Nat} (c:Cl) (hi:i < bW c) (hj:j < bW c) (v:AV):eA i (ui j v c)=if i=j then v else eA i c:=by
 cases c with
 | k1 x=>exact ND hi hj v x
 | k2 x=>exact NF hi hj v x
 | k3 x=>exact NG hi hj v x
 | k4 x=>exact Xj hi hj v x
theorem jy (j:Nat) (v:AV) (c:Cl):bW (ui j v c)=bW c:=by cases c<;>rfl
theorem Dk (i:Nat) (c:Cl):fm [] i c=c:=rfl
theorem mO (v:AV) (l:List AV) (i:Nat) (c:Cl):fm (v::l) i c=fm l (i+1) (ui i v c):=rfl
theorem pZ (l:List AV):∀(i:Nat) (c:Cl),bW (fm l i c)=bW c:=by
 induction l with
 | nil=>intro i c;rfl
 | cons v l ih=>intro i c;rw [mO,ih,jy]
theorem ta (l:List AV):∀(i:Nat) (c:Cl) (k:Nat),k < bW c→i+l.length≤bW c→
  eA k (fm l i c)=if h:i≤k∧k < i+l.length then l[k - i]'(by omega) else eA k c:=by
 induction l with
 | nil=>intro i c k hk hl;rw [Dk,dif_neg (by simp only [List.length_nil];omega)]
 | cons v l ih=>
  intro i c k hk hl
  simp only [List.length_cons] at hl
  rw [mO,ih (i+1) _ k (by rw [jy];exact hk) (by rw [jy];omega),vt c hk (by omega)]
  by_cases h1:k=i
  ·subst h1
   rw [dif_neg (by omega),dif_pos (by simp),if_pos rfl]
   simp
  ·rw [if_neg h1]
   by_cases h2:i≤k∧k < i+(l.length+1)
   ·rw [dif_pos (by omega),dif_pos (by simpa using h2)]
    have:k - i=(k - (i+1))+1:=by omega
    simp only [this,List.getElem_cons_succ]
   ·rw [dif_neg (by omega),dif_neg (by simpa using h2)]
theorem kF (c:Cl):bW c≤65536:=by cases c<;>simp [bW]
theorem fF (c:Cl) (k:Nat) (hk:k < bW c):eA k (eu c)=eA k c:=by
 cases c with
 | k1 x=>
  have:k < 16:=hk
  show A1.get (bR (k % 16)) (A2.get (bR (k / 16)) (A2.s0 x .nil))=A1.get (bR k) x
  rw [show k / 16=0 by omega,show k % 16=k by omega];rfl
 | k2 x=>
  have:k < 256:=hk
  show g2 (k % 256) (A3.get (bR (k / 256)) (A3.s0 x .nil))=g2 k x
  rw [show k / 256=0 by omega,show k % 256=k by omega];rfl
 | k3 x=>
  have:k < 4096:=hk
  show g3 (k % 4096) (A4.get (bR (k / 4096)) (A4.s0 x .nil))=g3 k x
  rw [show k / 4096=0 by omega,show k % 4096=k by omega];rfl
 | k4 x=>rfl
theorem qa (c:Cl):bW c≤bW (eu c):=by cases c<;>simp [bW,eu]
theorem AA (n:Nat) (c:Cl):sK n c=c∨sK n c=eu c∨sK n c=eu (eu c)∨sK n c=eu (eu (eu c)):=by
 unfold sK
 cases Nat.ble n (bW c)
 ·cases Nat.ble n (bW (eu c))
  ·cases Nat.ble n (bW (eu (eu c)))
   ·exact .inr (.inr (.inr rfl))
   ·exact .inr (.inr (.inl rfl))
  ·exact .inr (.inl rfl)
 ·exact .inl rfl
theorem Dl (n:Nat) (c:Cl) (k:Nat) (hk:k < bW c):eA k (sK n c)=eA k c:=by
 have a1:=qa c
 have a2:=qa (eu c)
 rcases AA n c with h|h|h|h<;>rw [h]
 ·exact fF c k hk
 ·rw [fF _ k (by omega),fF c k hk]
 ·rw [fF _ k (by omega),fF _ k (by omega),fF c k hk]
theorem dA (l:List AV) (hr:l.length≤bW (mu l)) (k:Nat) (hk:k < l.length):eA k (mu l)=l[k]:=by
 unfold mu at hr ⊢
 rw [pZ] at hr
 rw [ta l 0 _ k (by omega) (by omega),dif_pos (by omega)]
 simp
theorem AB (c:Cl) (i:Nat):bB 0 c i=[]:=rfl
theorem mP (n:Nat) (c:Cl) (i:Nat):bB (n+1) c i=eA i c::bB n c (i+1):=rfl
theorem jz (n:Nat):∀(c:Cl) (i:Nat),(bB n c i).length=n:=by
 induction n with
 | zero=>intro c i;rfl
 | succ n ih=>intro c i;rw [mP,List.length_cons,ih]
theorem ur (n:Nat):∀(c:Cl) (i k:Nat) (hk:k < (bB n c i).length),(bB n c i)[k]=eA (i+k) c:=by
 induction n with
 | zero=>intro c i k hk;simp [AB] at hk
 | succ n ih=>
  intro c i k hk
  match k with
  | 0=>rfl
  | k+1=>
   have:=ih c (i+1) k (by simpa [mP] using hk)
   simp only [mP,List.getElem_cons_succ,this]
   congr 1;omega
noncomputable instance:DecidableEq P4:=fun a b=>match a,b with
 | .mk a b c d,.mk a' b' c' d'=>if h:a=a'∧b=b'∧c=c'∧d=d' then .isTrue (by obtain ⟨rfl,rfl,rfl,rfl⟩:=h;rfl) else .isFalse (fun e=>h (by cases e;exact ⟨rfl,rfl,rfl,rfl⟩))
theorem O1.bI (d e:H) (v:Obj) (x:O1):O1.get d (O1.set e v x)=if d=e then v else O1.get d x:=by
 by_cases h:d=e
 ·rw [if_pos h,h,O1.dw]
 ·rw [if_neg h,O1.bM h]
theorem O2.bI (d e:H) (v:O1) (x:O2):O2.get d (O2.set e v x)=if d=e then v else O2.get d x:=by
 by_cases h:d=e
 ·rw [if_pos h,h,O2.dw]
 ·rw [if_neg h,O2.bM h]
theorem O3.bI (d e:H) (v:O2) (x:O3):O3.get d (O3.set e v x)=if d=e then v else O3.get d x:=by
 by_cases h:d=e
 ·rw [if_pos h,h,O3.dw]
 ·rw [if_neg h,O3.bM h]
theorem O4.bI (d e:H) (v:O3) (x:O4):O4.get d (O4.set e v x)=if d=e then v else O4.get d x:=by
 by_cases h:d=e
 ·rw [if_pos h,h,O4.dw]
 ·rw [if_neg h,O4.bM h]
theorem dT (i j:P4) (o:Obj) (t:O4):hR i (de j o t)=if i=j then o else hR i t:=by
 obtain ⟨a,b,c,d⟩:=i
 obtain ⟨a',b',c',d'⟩:=j
 show O1.get d (O2.get c (O3.get b (O4.get a (O4.set a' (O3.set b' (O2.set c' (O1.set d' o (O2.get c' (O3.get b' (O4.get a' t)))) (O3.get b' (O4.get a' t))) (O4.get a' t)) t))))=_
 rw [O4.bI]
 by_cases h1:a=a'
 ·subst h1
  rw [if_pos rfl,O3.bI]
  by_cases h2:b=b'
  ·subst h2
   rw [if_pos rfl,O2.bI]
   by_cases h3:c=c'
   ·subst h3
    rw [if_pos rfl,O1.bI]
    by_cases h4:d=d'
    ·subst h4;simp
    ·rw [if_neg h4,if_neg (by simp [h4])];rfl
   ·rw [if_neg h3,if_neg (by simp [h3])];rfl
  ·rw [if_neg h2,if_neg (by simp [h2])];rfl
 ·rw [if_neg h1,if_neg (by simp [h1])];rfl
theorem bj (i j:P4) (o:Obj) (h:Hp):au i (cN j o h)=if i=j then o else au i h:=by
 cases h with
 | mk t n lg=>exact dT i j o t
structure Place where
 bJ:Nat
 base:Nat
 room:Nat
abbrev aJ:=P4→Option Place
def aJ.le (φ ψ:aJ):Prop:=∀i p,φ i=some p→ψ i=some p
theorem aJ.le_refl (φ:aJ):φ.le φ:=fun _ _ h=>h
theorem aJ.le_trans {φ ψ χ:aJ} (h:φ.le ψ) (h':ψ.le χ):φ.le χ:=fun i p e=>h' i p (h i p e)
def Place.addr (p:Place) (o:Nat):Addr:=⟨p.bJ,p.base+o,none⟩
def YN (n:Nat):Int:=if n % 2=0 then (n / 2:Nat) else -((n / 2:Nat):Int) - 1
mutual
inductive VR (φ:aJ):AV→Value→Prop
 | sym (i:P4) (p:Place):φ i=some p→VR φ (.sym i) (.int .i64 (YN p.room))
 | undef (v:Value):VR φ .undef v
 | bool (b:Bool):VR φ (.bool b) (.bool b)
 | int (k:IntKind) (n:Int):VR φ (.int k n) (.int k n)
 | str (s:ByteArray) (l:List Nat):l=s.data.toList.map UInt8.toNat→VR φ (.str l) (.string s)
 | fi (k:FloatKind) (n:Nat):VR φ (.fi k n) (.float k n)
 | aj (k:FloatKind) (a b:Nat):VR φ (.aj k a b) (.complex k a b)
 | ptr (i:P4) (o:Nat) (p:Place):φ i=some p→VR φ (.ptr i o) (.pointer (some (p.addr o)))
 | di:VR φ .di (.pointer none)
 | slice (i:P4) (o n c:Nat) (p:Place):φ i=some p→VR φ (.slice i o n c) (.slice (some (p.addr o)) n c)
 | fX (i:P4) (o n es c:Nat) (p:Place) (a:Addr):φ i=some p→o+c * es=p.room→n≤c→a.block=p.bJ→a.spot=none→(c≠0→a.off=p.base+o)→0 < es→
   VR φ (.fX i o n es) (.slice (some a) n c)
 | ai:VR φ .ai (.slice none 0 0)
 | map (i:P4) (p:Place):φ i=some p→VR φ (.map i) (.map (some p.bJ))
 | gg:VR φ .gg (.map none)
 | fn (f:Nat) (cs:List AV) (vs:List Value):bX φ cs vs→VR φ (.fn f cs) (.func (.func f) #[] vs.toArray)
 | qi:VR φ .qi .nilFunc
 | iface (t:Nat) (v:AV) (x:Value):VR φ v x→VR φ (.iface t v) (.iface t x)
 | sj:VR φ .sj .nilIface
 | agg (cs:List AV) (vs:List Value):bX φ cs vs→(∀v,v∈vs→v.oneCell'=true)→VR φ (.agg cs) (.agg vs.toArray)
 | bU (cs:List AV) (vs:List Value):bX φ cs vs→VR φ (.bU cs) (.tuple vs.toArray)
inductive bX (φ:aJ):List AV→List Value→Prop
 | nil:bX φ [] []
 | cons (a:AV) (v:Value) (as:List AV) (vs:List Value):VR φ a v→bX φ as vs→bX φ (a::as) (v::vs)
end
mutual
theorem VR.mono {φ ψ:aJ} (h:φ.le ψ):∀{a:AV} {v:Value},VR φ a v→VR ψ a v
 | _,_,.undef v=>.undef v
 | _,_,.sym i p e=>.sym i p (h _ _ e)
 | _,_,.bool b=>.bool b
 | _,_,.int k n=>.int k n
 | _,_,.str s l e=>.str s l e
 | _,_,.fi k n=>.fi k n
 | _,_,.aj k a b=>.aj k a b
 | _,_,.ptr i o p e=>.ptr i o p (h _ _ e)
 | _,_,.di=>.di
 | _,_,.slice i o n c p e=>.slice i o n c p (h _ _ e)
 | _,_,.fX i o n es c p a e h1 h2 h3 h4 h5 h6=>.fX i o n es c p a (h _ _ e) h1 h2 h3 h4 h5 h6
 | _,_,.ai=>.ai
 | _,_,.map i p e=>.map i p (h _ _ e)
 | _,_,.gg=>.gg
 | _,_,.fn f cs vs e=>.fn f cs vs (bX.mono h e)
 | _,_,.qi=>.qi
 | _,_,.iface t v x e=>.iface t v x (VR.mono h e)
 | _,_,.sj=>.sj
 | _,_,.agg cs vs e f=>.agg cs vs (bX.mono h e) f
 | _,_,.bU cs vs e=>.bU cs vs (bX.mono h e)
theorem bX.mono {φ ψ:aJ} (h:φ.le ψ):∀{as:List AV} {vs:List Value},bX φ as vs→bX ψ as vs
 | _,_,.nil=>.nil
 | _,_,.cons a v as vs e es=>.cons a v as vs (VR.mono h e) (bX.mono h es)
end
theorem bX.length {φ:aJ}:∀{as:List AV} {vs:List Value},bX φ as vs→as.length=vs.length
 | _,_,.nil=>rfl
 | _,_,.cons _ _ _ _ _ es=>by simp [bX.length es]
theorem bX.get {φ:aJ}:∀{as:List AV} {vs:List Value},bX φ as vs→∀(k:Nat) (h:k < as.length) (h':k < vs.length),VR φ as[k] vs[k]
 | _,_,.cons _ _ _ _ e _,0,_,_=>e
 | _,_,.cons _ _ _ _ _ es,k+1,h,h'=>bX.get es k (by simpa using h) (by simpa using h')
theorem bX.HU {φ:aJ}:∀{as:List AV} {vs:List Value},as.length=vs.length→(∀(k:Nat) (h:k < as.length) (h':k < vs.length),VR φ as[k] vs[k])→bX φ as vs
 | [],[],_,_=>.nil
 | a::as,v::vs,hl,h=>.cons a v as vs (h 0 (by simp) (by simp)) (bX.HU (by simpa using hl) fun k h1 h2=>h (k+1) (by simpa using h1) (by simpa using h2))
 | [],_::_,hl,_=>by simp at hl
 | _::_,[],hl,_=>by simp at hl
theorem bX.append {φ:aJ}:∀{as bs:List AV} {vs ws:List Value},bX φ as vs→bX φ bs ws→bX φ (as ++ bs) (vs ++ ws)
 | _,_,_,_,.nil,h=>h
 | _,_,_,_,.cons a v as vs e es,h=>.cons a v _ _ e (bX.append es h)
def Dm (fl:Fl) (fz:Nat×Nat) (size:Nat):Prop:=match fl with
 | .plain=>fz=(0,0)
 | .mark=>∀k,k < size→¬ (fz.1≤k∧k < fz.2)
 | .wE=>True
def fp:List Nat→Nat
 | []=>0
 | a::l=>2 ^ a * (2 * fp l+1)
theorem Cm:∀{a b k m:Nat},2 ^ a * (2 * k+1)=2 ^ b * (2 * m+1)→a=b∧k=m
 | 0,0,k,m,h=>by simp at h;exact ⟨rfl,by omega⟩
 | 0,b+1,k,m,h=>by
  rw [Nat.pow_succ,Nat.pow_zero,Nat.mul_comm (2 ^ b) 2,Nat.mul_assoc,Nat.one_mul] at h
  omega
 | a+1,0,k,m,h=>by
  rw [Nat.pow_succ,Nat.pow_zero,Nat.mul_comm (2 ^ a) 2,Nat.mul_assoc,Nat.one_mul] at h
  omega
 | a+1,b+1,k,m,h=>by
  rw [Nat.pow_succ,Nat.pow_succ,Nat.mul_comm (2 ^ a) 2,Nat.mul_comm (2 ^ b) 2,Nat.mul_assoc,Nat.mul_assoc] at h
  obtain ⟨e1,e2⟩:=Cm (a:=a) (b:=b) (k:=k) (m:=m) (Nat.eq_of_mul_eq_mul_left (by omega) h)
  exact ⟨by omega,e2⟩
theorem vu (a:Nat) (l:List Nat):0 < fp (a::l):=Nat.mul_pos (Nat.two_pow_pos a) (by omega)
theorem vw:∀{l m:List Nat},fp l=fp m→l=m
 | [],[],_=>rfl
 | [],b::m,h=>by have:=vu b m;rw [←h] at this;exact absurd this (Nat.lt_irrefl 0)
 | a::l,[],h=>by have:=vu a l;rw [h] at this;exact absurd this (Nat.lt_irrefl 0)
 | a::l,b::m,h=>by
  obtain ⟨e1,e2⟩:=Cm (show 2 ^ a * (2 * fp l+1)=2 ^ b * (2 * fp m+1) from h)
  rw [e1,vw e2]
open Classical in
noncomputable def LO (n:Nat):List Nat:=if h:∃l,fp l=n then h.choose else []
theorem vz (l:List Nat):LO (fp l)=l:=by
 unfold LO
 have h:∃m,fp m=fp l:=⟨l,rfl⟩
 rw [dif_pos h]
 exact vw h.choose_spec
def Vx (c:List Nat) (b:Nat):Nat:=match c with
 | []=>b
 | cw::l=>if b < dH then b else if b - dH < l.length then l.getD (b - dH) 0 else cw+(b - dH - l.length)
noncomputable def cg (r:Nat) (b:Nat):Nat:=Vx (LO r) b
theorem lz (b:Nat):cg 0 b=b:=by
 unfold cg
 have:LO 0=[]:=vz []
 rw [this];rfl
theorem vb (c:List Nat) (b:Nat):cg (fp c) b=Vx c b:=by unfold cg;rw [vz]
def wA (ck:Nat):Nat:=if ck < dH then 0 else dH
def KV.ji (y:KV):Nat:=match y with|.mk _ _ b=>b
structure xz (st:Nat→Nat) (ls:List Nat) (ck cw:Nat):Prop where
 low:ck < dH→∀b,st b=b
 up:∀k,st (ck+k)=cw+k
 mono:∀b,wA ck≤b→b < ck→st b < cw
 inj:∀b b',wA ck≤b→wA ck≤b'→st b=st b'→b=b'
 Kq:∀b,b∈ls→wA ck≤b∧b < ck
 Nk:ls.Nodup
theorem xz.start:xz (cg 0) [] 0 0 where
 low _ b:=lz b
 up k:=by rw [lz]
 mono b _ h:=absurd h (Nat.not_lt_zero b)
 inj b b' _ _ h:=by rw [lz,lz] at h;exact h
 Kq b h:=by cases h
 Nk:=List.nodup_nil
theorem xz.at {st:Nat→Nat} {ls:List Nat} {ck cw:Nat} (S:xz st ls ck cw):st ck=cw:=S.up 0
theorem xz.add {st:Nat→Nat} {ls:List Nat} {ck cw:Nat} (S:xz st ls ck cw) (h:ck+1≠dH):xz st (ls ++ [ck]) (ck+1) (cw+1):=by
 have hl:wA (ck+1)=wA ck:=by
  unfold wA
  by_cases g:ck < dH
  ·rw [if_pos g,if_pos (by omega)]
  ·rw [if_neg g,if_neg (by omega)]
 have hlo:wA ck≤ck:=by unfold wA;split<;>omega
 refine ⟨fun g=>S.low (by omega),fun k=>by have:=S.up (1+k);rw [←Nat.add_assoc] at this;rw [this];omega,fun b h1 h2=>?_,fun b b' h1 h2=>S.inj b b' (hl▸h1) (hl▸h2),fun b hb=>?_,?_⟩
 ·rw [hl] at h1
  rcases Nat.lt_or_ge b ck with g|g
  ·exact Nat.lt_succ_of_lt (S.mono b h1 g)
  ·obtain rfl:b=ck:=by omega
   rw [S.at];omega
 ·rw [hl]
  rcases List.mem_append.1 hb with g|g
  ·have:=S.Kq b g;exact ⟨this.1,by omega⟩
  ·obtain rfl:b=ck:=by simpa using g
   exact ⟨hlo,by omega⟩
 ·rw [List.nodup_append]
  refine ⟨S.Nk,by simp,fun a ha b hb e=>?_⟩
  obtain rfl:b=ck:=by simpa using hb
  subst e
  exact absurd (S.Kq a ha).2 (Nat.lt_irrefl _)
theorem xz.sub {st:Nat→Nat} {ls ls':List Nat} {ck cw:Nat} (S:xz st ls ck cw) (h:ls'.Sublist ls):xz st ls' ck cw:=⟨S.low,S.up,S.mono,S.inj,fun b hb=>S.Kq b (h.subset hb),h.nodup S.Nk⟩
def Xk (st:Nat→Nat) (since:Nat) (seen:List Nat) (last:Nat):Prop:=
 (∀b,wA since≤b→b < since→st b < st since)∧wA last=wA since∧(∀b,wA since≤b→b < last→st b < st last)∧∀b,b∈seen→wA since≤b
inductive bP (st:Nat→Nat) (φ:aJ):List KV→List MapEntry→Prop
 | nil:bP st φ [] []
 | cons (k v:AV) (b:Nat) (e:MapEntry) (l:List KV) (es:List MapEntry):VR φ k e.key→VR φ v e.val→e.born=st b→bP st φ l es→bP st φ (.mk k v b::l) (e::es)
theorem bP.mono {st:Nat→Nat} {φ ψ:aJ} (h:φ.le ψ):∀{l:List KV} {es:List MapEntry},bP st φ l es→bP st ψ l es
 | _,_,.nil=>.nil
 | _,_,.cons k v b e l es a c d r=>.cons k v b e l es (a.mono h) (c.mono h) d (bP.mono h r)
def OR (φ:aJ) (o:Obj) (p:Place) (x:Option Go.Obj):Prop:=match o with
 | .none=>True
 | .dead=>True
 | .cells el n ex fl c=>∃(rc:Array Value) (fz:Nat×Nat),x=some (.cells rc el fz)∧p.base+p.room=rc.size∧n≤p.room∧(ex=true→p.base=0∧n=p.room)∧n≤bW c∧
   (∀k,k < n→∃cv,rc[p.base+k]?=some cv∧VR φ (eA k c) cv∧cv.oneCell'=true)∧Dm fl fz rc.size
 | .map l ck=>∃es cw l0,x=some (.map es cw)∧l.Perm l0∧bP (cg p.room) φ l0 es.toList∧xz (cg p.room) (l.map KV.ji) ck cw
 | .BR s pos=>p.base=0∧∃b:ByteArray,x=some (.stringIter b pos)∧s=b.data.toList.map UInt8.toNat
 | .vg m since seen last=>p.base=0∧∃q,φ m=some q∧x=some (.mapIter (some q.bJ) (cg q.room since) (seen.map (cg q.room)).toArray (cg q.room last))∧Xk (cg q.room) since seen last
 | .BS=>p.base=0∧x=some (.mapIter none 0 #[] 0)
def live (o:Obj):Prop:=o≠.none∧o≠.dead
structure HR (φ:aJ) (h:Hp) (w:World):Prop where
 obj:∀i,live (au i h)→∃p,φ i=some p∧OR φ (au i h) p w.heap[p.bJ]?
 inj:∀i j p q,live (au i h)→live (au j h)→i≠j→φ i=some p→φ j=some q→p.bJ≠q.bJ
 fresh:∀i,au i h=.none→φ i=none
 bound:∀i p,φ i=some p→p.bJ < w.heap.size
structure fu (φ:aJ) (h:Hp) (w w':World):Prop where
 size:w.heap.size≤w'.heap.size
 rest:∀b,b < w.heap.size→(∀i p,live (au i h)→φ i=some p→p.bJ≠b)→w'.heap[b]?=w.heap[b]?
 tape:w'.tape=w.tape
 os:w'.os=w.os
 output:w'.output=w.output
theorem fu.refl (φ:aJ) (h:Hp) (w:World):fu φ h w w:=⟨Nat.le_refl _,fun _ _ _=>rfl,rfl,rfl,rfl⟩
theorem fu.trans {φ ψ:aJ} {h h':Hp} {w w' w'':World} (a:fu φ h w w') (b:fu ψ h' w' w'')
  (new:∀i p,live (au i h')→ψ i=some p→(live (au i h)∧φ i=some p)∨w.heap.size≤p.bJ∨∃j q,live (au j h)∧φ j=some q∧q.bJ=p.bJ):fu φ h w w'':=by
 refine ⟨Nat.le_trans a.size b.size,fun x hx hn=>?_,b.tape.trans a.tape,b.os.trans a.os,b.output.trans a.output⟩
 rw [b.rest x (Nat.lt_of_lt_of_le hx a.size) ?_,a.rest x hx hn]
 intro i p hl hp
 rcases new i p hl hp with ⟨h1,h2⟩|h1|⟨j,q,h1,h2,h3⟩
 ·exact hn i p h1 h2
 ·omega
 ·rw [←h3];exact hn j q h1 h2
theorem VR.one {φ:aJ} {a:AV} {v:Value} (h:VR φ a v) (ha:a.one=true):v.oneCell'=true:=by
 cases h<;>first|rfl|(cases ha)
theorem aK {el n:Nat} {ex:Bool} {fl:Fl} {c:Cl}:live (.cells el n ex fl c):=⟨by simp,by simp⟩
theorem fQ {l:List KV} {c:Nat}:live (.map l c):=⟨by simp,by simp⟩
theorem OR.mono {φ ψ:aJ} (hφ:φ.le ψ) {o:Obj} {p:Place} {x:Option Go.Obj} (h:OR φ o p x):OR ψ o p x:=by
 cases o with
 | none=>trivial
 | dead=>trivial
 | cells el n ex fl c=>
  obtain ⟨rc,fz,h1,h2,h3,h4,h5,h6,h7⟩:=h
  exact ⟨rc,fz,h1,h2,h3,h4,h5,fun k hk=>let ⟨cv,a,b,d⟩:=h6 k hk;⟨cv,a,b.mono hφ,d⟩,h7⟩
 | map l ck=>obtain ⟨es,cw,l0,h1,h2,h3,h4⟩:=h;exact ⟨es,cw,l0,h1,h2,h3.mono hφ,h4⟩
 | BR s pos=>exact h
 | vg m since seen last=>obtain ⟨h0,q,h1,h2,h3⟩:=h;exact ⟨h0,q,hφ _ _ h1,h2,h3⟩
 | BS=>exact h
theorem HR.set {φ:aJ} {h:Hp} {w w':World} (H:HR φ h w) {i:P4} {p:Place} {o':Obj} (hl:live (au i h)) (hp:φ i=some p)
  (hsz:w'.heap.size=w.heap.size) (hne:∀b,b≠p.bJ→w'.heap[b]?=w.heap[b]?) (hOR:OR φ o' p w'.heap[p.bJ]?) (ho:o'≠.none):HR φ (cN i o' h) w' where
 obj j hj:=by
  rw [bj] at hj ⊢
  by_cases e:j=i
  ·subst e
   rw [if_pos rfl] at hj ⊢
   exact ⟨p,hp,hOR⟩
  ·rw [if_neg e] at hj ⊢
   obtain ⟨q,hq,hr⟩:=H.obj j hj
   refine ⟨q,hq,?_⟩
   rw [hne _ (H.inj j i q p hj hl e hq hp)]
   exact hr
 inj j k q r hj hk hjk hq hr:=by
  rw [bj] at hj hk
  have hj':live (au j h):=by
   by_cases e:j=i
   ·subst e;exact hl
   ·rwa [if_neg e] at hj
  have hk':live (au k h):=by
   by_cases e:k=i
   ·subst e;exact hl
   ·rwa [if_neg e] at hk
  exact H.inj j k q r hj' hk' hjk hq hr
 fresh j hj:=by
  rw [bj] at hj
  by_cases e:j=i
  ·rw [if_pos e] at hj;exact absurd hj ho
  ·rw [if_neg e] at hj;exact H.fresh j hj
 bound j q hq:=by rw [hsz];exact H.bound j q hq
theorem fu.set {φ:aJ} {h:Hp} {w w':World} {i:P4} {p:Place} (hl:live (au i h)) (hp:φ i=some p)
  (hsz:w'.heap.size=w.heap.size) (hne:∀b,b≠p.bJ→w'.heap[b]?=w.heap[b]?) (ht:w'.tape=w.tape) (ho:w'.os=w.os) (hu:w'.output=w.output):fu φ h w w':=
 ⟨Nat.le_of_eq hsz.symm,fun b _ hb=>hne b (fun e=>hb i p hl hp e.symm),ht,ho,hu⟩
noncomputable def aJ.put (φ:aJ) (i:P4) (p:Place):aJ:=fun j=>if j=i then some p else φ j
theorem aJ.aL (φ:aJ) (i:P4) (p:Place):φ.put i p i=some p:=by simp [aJ.put]
theorem aJ.fB {φ:aJ} {i:P4} (p:Place) (h:φ i=none):φ.le (φ.put i p):=by
 intro j q hq
 unfold aJ.put
 by_cases e:j=i
 ·subst e;rw [h] at hq;cases hq
 ·rw [if_neg e];exact hq
theorem HR.new {φ:aJ} {h:Hp} {w w':World} (H:HR φ h w) {o:Obj} {x:Go.Obj} {room:Nat} {i:P4} {n':P4} (hi:au i h=.none)
  (hw:w'.heap=w.heap.push x) (ho:o≠.none) (hOR:OR (φ.put i ⟨w.heap.size,0,room⟩) o ⟨w.heap.size,0,room⟩ (some x)) :
  HR (φ.put i ⟨w.heap.size,0,room⟩) (.mk (de i o h.tree) n' (Lg.add i h.log)) w':=by
 have hφ:=H.fresh i hi
 have hle:=aJ.fB (φ:=φ) (i:=i) ⟨w.heap.size,0,room⟩ hφ
 have hg:∀j,au j (.mk (de i o h.tree) n' (Lg.add i h.log))=if j=i then o else au j h:=by
  intro j
  cases h with
  | mk t n lg=>exact dT j i o t
 have hold:∀b,b < w.heap.size→w'.heap[b]?=w.heap[b]?:=by
  intro b hb
  rw [hw,Array.getElem?_push,if_neg (by omega)]
 have hb:∀j q,j≠i→(φ.put i ⟨w.heap.size,0,room⟩) j=some q→φ j=some q:=by
  intro j q hj hq
  simpa [aJ.put,hj] using hq
 refine ⟨fun j hj=>?_,fun j k q r hj hk hjk hq hr=>?_,fun j hj=>?_,fun j q hq=>?_⟩
 ·rw [hg] at hj ⊢
  by_cases e:j=i
  ·subst e
   refine ⟨_,aJ.aL _ _ _,?_⟩
   rw [if_pos rfl]
   have:w'.heap[w.heap.size]?=some x:=by rw [hw];simp
   simpa [this] using hOR
  ·rw [if_neg e] at hj ⊢
   obtain ⟨q,hq,hr⟩:=H.obj j hj
   refine ⟨q,hle _ _ hq,?_⟩
   rw [hold _ (H.bound j q hq)]
   exact hr.mono hle
 ·rw [hg] at hj hk
  by_cases e1:j=i
  ·by_cases e2:k=i
   ·exact absurd (e1.trans e2.symm) hjk
   ·have hr':=hb k r e2 hr
    have hq':q=⟨w.heap.size,0,room⟩:=by rw [e1,aJ.aL] at hq;exact (Option.some.inj hq).symm
    have:=H.bound k r hr'
    rw [hq'];show w.heap.size≠r.bJ;omega
  ·have hq':=hb j q e1 hq
   by_cases e2:k=i
   ·have hr':r=⟨w.heap.size,0,room⟩:=by rw [e2,aJ.aL] at hr;exact (Option.some.inj hr).symm
    have:=H.bound j q hq'
    rw [hr'];show q.bJ≠w.heap.size;omega
   ·rw [if_neg e1] at hj
    rw [if_neg e2] at hk
    exact H.inj j k q r hj hk hjk hq' (hb k r e2 hr)
 ·rw [hg] at hj
  by_cases e:j=i
  ·rw [if_pos e] at hj;exact absurd hj ho
  ·rw [if_neg e] at hj
   show (if j=i then some _ else φ j)=none
   rw [if_neg e];exact H.fresh j hj
 ·by_cases e:j=i
  ·have hq':q=⟨w.heap.size,0,room⟩:=by rw [e,aJ.aL] at hq;exact (Option.some.inj hq).symm
   rw [hq',hw];simp
  ·have:=H.bound j q (hb j q e hq)
   rw [hw];simp;omega
theorem fu.new {φ:aJ} {h:Hp} {w w':World} {x:Go.Obj} (hw:w'.heap=w.heap.push x) (ht:w'.tape=w.tape) (ho:w'.os=w.os) (hu:w'.output=w.output):fu φ h w w':=
 ⟨by rw [hw];simp,fun b hb _=>by rw [hw,Array.getElem?_push,if_neg (by omega)],ht,ho,hu⟩
theorem gv {o:Obj} {h:Hp} {k:P4→Hp→RV} {v:AV} {h':Hp} (e:iu o h k=.ok v h') :
  au h.next h=.none∧k h.next (.mk (de h.next o h.tree) h.next.succ (Lg.add h.next h.log))=.ok v h':=by
 cases h with
 | mk t nx lg=>
  have e':(Bool.rec (RV.err 1) (k nx (.mk (de nx o t) nx.succ (Lg.add nx lg))) (isNone (hR nx t)):RV)=.ok v h':=e
  show hR nx t=.none∧k nx (.mk (de nx o t) nx.succ (Lg.add nx lg))=.ok v h'
  cases hg:hR nx t<;>simp [hg,isNone] at e'<;>exact ⟨rfl,e'⟩
def Fr (h h':Hp):Prop:=(h.log=.off→h'.log=.off)∧∀l,h.log=.on l→∃l',h'.log=.on (l' ++ l)∧∀q,q ∉ l'→au q h'=au q h
theorem Fr.refl (h:Hp):Fr h h:=⟨id,fun l e=>⟨[],e,fun _ _=>rfl⟩⟩
theorem Fr.trans {h h1 h2:Hp} (a:Fr h h1) (b:Fr h1 h2):Fr h h2:=⟨fun e=>b.1 (a.1 e),fun l e=>by
 obtain ⟨l1,e1,f1⟩:=a.2 l e
 obtain ⟨l2,e2,f2⟩:=b.2 _ e1
 exact ⟨l2 ++ l1,by rw [e2,List.append_assoc],fun q hq=>(f2 q (fun g=>hq (List.mem_append_left _ g))).trans (f1 q (fun g=>hq (List.mem_append_right _ g)))⟩⟩
theorem Fr.put (h:Hp) (i:P4) (o:Obj) (n':P4):Fr h (.mk (de i o h.tree) n' (Lg.add i h.log)):=by
 obtain ⟨t,n,lg⟩:=h
 refine ⟨fun e=>?_,fun l e=>?_⟩
 ·have e:lg=.off:=e
  subst e;rfl
 ·have e:lg=.on l:=e
  subst e
  exact ⟨[i],rfl,fun q hq=>(dT q i o t).trans (if_neg (by simpa using hq))⟩
theorem Fr.set (h:Hp) (i:P4) (o:Obj):Fr h (cN i o h):=Fr.put h i o h.next
structure Step (φ:aJ) (h:Hp) (w:World) (φ':aJ) (h':Hp) (w':World):Prop where
 le:φ.le φ'
 keeps:fu φ h w w'
 new:∀i p,live (au i h')→φ' i=some p→(live (au i h)∧φ i=some p)∨w.heap.size≤p.bJ∨∃j q,live (au j h)∧φ j=some q∧q.bJ=p.bJ
 fr:Fr h h'
theorem Step.refl (φ:aJ) (h:Hp) (w:World):Step φ h w φ h w:=⟨φ.le_refl,.refl _ _ _,fun _ _ a b=>.inl ⟨a,b⟩,.refl _⟩
theorem Step.trans {φ ψ χ:aJ} {h h' h'':Hp} {w w' w'':World} (a:Step φ h w ψ h' w') (b:Step ψ h' w' χ h'' w''):Step φ h w χ h'' w'':=by
 refine ⟨aJ.le_trans a.le b.le,a.keeps.trans b.keeps a.new,fun i p hl hp=>?_,a.fr.trans b.fr⟩
 rcases b.new i p hl hp with ⟨h1,h2⟩|h1|⟨j,q,h1,h2,h3⟩
 ·exact a.new i p h1 h2
 ·exact .inr (.inl (Nat.le_trans a.keeps.size h1))
 ·rcases a.new j q h1 h2 with ⟨g1,g2⟩|g1|⟨l,s,g1,g2,g3⟩
  ·exact .inr (.inr ⟨j,q,g1,g2,h3⟩)
  ·exact .inr (.inl (h3▸g1))
  ·exact .inr (.inr ⟨l,s,g1,g2,g3.trans h3⟩)
def Good (φ:aJ) (h:Hp) (w:World) (v:AV) (h':Hp) (r:Result Value):Prop:=
 ∃cv w' φ',r=.ok cv w'∧VR φ' v cv∧HR φ' h' w'∧Step φ h w φ' h' w'
def vA (φ:aJ) (h:Hp) (w:World) (h':Hp) (r:Result Unit):Prop:=
 ∃w' φ',r=.ok () w'∧HR φ' h' w'∧Step φ h w φ' h' w'
theorem Good.same {φ:aJ} {h:Hp} {w:World} {v:AV} {cv:Value} {r:Result Value} (H:HR φ h w) (hv:VR φ v cv) (hr:r=.ok cv w):Good φ h w v h r:=
 ⟨cv,w,φ,hr,hv,H,.refl _ _ _⟩
theorem RV.av {v v':AV} {h h':Hp} (e:RV.ok v h=RV.ok v' h'):v=v'∧h=h':=by cases e;exact ⟨rfl,rfl⟩
section
variable {n:Nat} {v:AV} {h:Hp} {x:AV}
theorem bu {k:IntKind→Int→RV} (e:AV.dp x k (.err n)=.ok v h):∃kd m,x=.int kd m∧k kd m=.ok v h:=by
 cases x<;>first|exact ⟨_,_,rfl,e⟩|cases e
theorem lA {k:Bool→RV} (e:AV.bH x k (.err n)=.ok v h):∃b,x=.bool b∧k b=.ok v h:=by
 cases x<;>first|exact ⟨_,rfl,e⟩|cases e
theorem cB {k:List Nat→RV} (e:AV.iQ x k (.err n)=.ok v h):∃l,x=.str l∧k l=.ok v h:=by
 cases x<;>first|exact ⟨_,rfl,e⟩|cases e
theorem cD {k:P4→Nat→RV} (e:AV.eK x k (.err n)=.ok v h):∃i o,x=.ptr i o∧k i o=.ok v h:=by
 cases x<;>first|exact ⟨_,_,rfl,e⟩|cases e
theorem dn {k:List AV→RV} (e:AV.lT x k (.err n)=.ok v h):∃l,x=.agg l∧k l=.ok v h:=by
 cases x<;>first|exact ⟨_,rfl,e⟩|cases e
theorem yU {k:List AV→RV} (e:AV.Bw x k (.err n)=.ok v h):∃l,x=.bU l∧k l=.ok v h:=by
 cases x<;>first|exact ⟨_,rfl,e⟩|cases e
theorem dQ {k:FloatKind→Nat→RV} (e:AV.pW x k (.err n)=.ok v h):∃a b,x=.fi a b∧k a b=.ok v h:=by
 cases x<;>first|exact ⟨_,_,rfl,e⟩|cases e
theorem fG {k:FloatKind→Nat→Nat→RV} (e:AV.sM x k (.err n)=.ok v h):∃a b c,x=.aj a b c∧k a b c=.ok v h:=by
 cases x<;>first|exact ⟨_,_,_,rfl,e⟩|cases e
theorem eZ {k:P4→RV} {d:RV} (e:AV.dN x k d (.err n)=.ok v h):(∃i,x=.map i∧k i=.ok v h)∨(x=.gg∧d=.ok v h):=by
 cases x<;>first|exact .inl ⟨_,rfl,e⟩|exact .inr ⟨rfl,e⟩|cases e
theorem cW {k k':P4→Nat→Nat→Nat→RV} {d:RV} (e:AV.jl x k k' d (.err n)=.ok v h) :
  (∃i o l c,x=.slice i o l c∧k i o l c=.ok v h)∨(∃i o l c,x=.fX i o l c∧k' i o l c=.ok v h)∨(x=.ai∧d=.ok v h):=by
 cases x<;>first|exact .inl ⟨_,_,_,_,rfl,e⟩|exact .inr (.inl ⟨_,_,_,_,rfl,e⟩)|exact .inr (.inr ⟨rfl,e⟩)|cases e
theorem aO {o:Obj} {k:Nat→Nat→Bool→Fl→Cl→RV} (e:Obj.bz o k (.err n)=.ok v h):∃el m ex fl c,o=.cells el m ex fl c∧k el m ex fl c=.ok v h:=by
 cases o<;>first|exact ⟨_,_,_,_,_,rfl,e⟩|cases e
theorem dF {o:Obj} {k:List KV→Nat→RV} (e:Obj.dN o k (.err n)=.ok v h):∃l c,o=.map l c∧k l c=.ok v h:=by
 cases o<;>first|exact ⟨_,_,rfl,e⟩|cases e
theorem aC {b:Bool} {t:RV} (e:(Bool.rec (.err n) t b:RV)=.ok v h):b=true∧t=.ok v h:=by
 cases b
 ·cases e
 ·exact ⟨rfl,e⟩
theorem cY {k:Nat→RV} (e:en x k (.err n)=.ok v h):∃kd m,x=.int kd (.ofNat m)∧k m=.ok v h:=by
 obtain ⟨kd,m,rfl,e'⟩:=bu e
 cases m with
 | ofNat m=>exact ⟨kd,m,rfl,e'⟩
 | negSucc m=>cases e'
end
theorem lr {w:World} {p:Place} {o:Nat} {rc:Array Value} {el:TypeId} {fz:Nat×Nat} (h:w.heap[p.bJ]?=some (.cells rc el fz)):w.cell? (p.addr o)=rc[p.base+o]?:=by
 simp [World.cell?,Place.addr,h]
theorem HR.cell {φ:aJ} {h:Hp} {w:World} (H:HR φ h w) {i:P4} {p:Place} {el n:Nat} {ex:Bool} {fl:Fl} {c:Cl} {o:Nat}
  (hi:au i h=.cells el n ex fl c) (hp:φ i=some p) (ho:o < n):∃cv,w.cell? (p.addr o)=some cv∧VR φ (eA o c) cv∧cv.oneCell'=true:=by
 obtain ⟨q,hq,hr⟩:=H.obj i (hi▸aK)
 rw [hp] at hq;cases hq
 rw [hi] at hr
 obtain ⟨rc,fz,h1,h2,h3,h4,h5,h6,h7⟩:=hr
 obtain ⟨cv,a,b,d⟩:=h6 o ho
 exact ⟨cv,by rw [lr h1];exact a,b,d⟩
theorem jA (w:World) (a:Addr) (v:Value):(w.setCell a v).heap.size=w.heap.size:=by simp [World.setCell]
theorem tc (w:World) (a:Addr) (v:Value) {b:Nat} (hb:b≠a.block):(w.setCell a v).heap[b]?=w.heap[b]?:=by
 simp only [World.setCell,Array.getElem?_modify]
 rw [if_neg (fun e=>hb e.symm)]
theorem AD {w:World} {p:Place} {o:Nat} {rc:Array Value} {el:TypeId} {fz:Nat×Nat} (v:Value) (h:w.heap[p.bJ]?=some (.cells rc el fz)) :
  (w.setCell (p.addr o) v).heap[p.bJ]?=some (.cells (rc.setIfInBounds (p.base+o) v) el fz):=by
 simp only [World.setCell,Array.getElem?_modify,Place.addr]
 simp [h]
theorem HR.store {φ:aJ} {h:Hp} {w:World} (H:HR φ h w) {i:P4} {p:Place} {el n:Nat} {ex:Bool} {fl:Fl} {c:Cl} {o:Nat} {v:AV} {cv:Value}
  (hi:au i h=.cells el n ex fl c) (hp:φ i=some p) (ho:o < n) (hv:VR φ v cv) (h1:cv.oneCell'=true) :
  HR φ (cN i (.cells el n ex fl (ui o v c)) h) (w.setCell (p.addr o) cv)∧fu φ h w (w.setCell (p.addr o) cv):=by
 have hl:live (au i h):=hi▸aK
 have hne:∀b,b≠p.bJ→(w.setCell (p.addr o) cv).heap[b]?=w.heap[b]?:=fun b hb=>tc w _ cv hb
 refine ⟨H.set hl hp (jA _ _ _) hne ?_ (by simp),fu.set hl hp (jA _ _ _) hne rfl rfl rfl⟩
 obtain ⟨q,hq,hr⟩:=H.obj i hl
 rw [hp] at hq;cases hq
 rw [hi] at hr
 obtain ⟨rc,fz,g1,g2,g3,g4,g5,g6,g7⟩:=hr
 refine ⟨rc.setIfInBounds (p.base+o) cv,fz,AD cv g1,by simpa using g2,g3,g4,by rw [jy];exact g5,fun k hk=>?_,by simpa using g7⟩
 rw [vt c (by omega) (by omega),Array.getElem?_setIfInBounds]
 by_cases e:k=o
 ·subst e
  exact ⟨cv,by rw [if_pos rfl,if_pos (by omega)],by rw [if_pos rfl];exact hv,h1⟩
 ·rw [if_neg (by omega),if_neg e]
  exact g6 k hk
theorem td {φ:aJ} {h:Hp} {w:World} (H:HR φ h w) {i:P4} {p:Place} {el n:Nat} {ex:Bool} {fl:Fl} {c:Cl} {o:Nat}
  (hi:au i h=.cells el n ex fl c) (hp:φ i=some p) (ho:o < n) (hf:wr fl=true):w.frozen? (p.addr o)=false:=by
 obtain ⟨q,hq,hr⟩:=H.obj i (hi▸aK)
 rw [hp] at hq;cases hq
 rw [hi] at hr
 obtain ⟨rc,fz,g1,g2,g3,g4,g5,g6,g7⟩:=hr
 simp only [World.frozen?,Place.addr,g1]
 cases fl with
 | plain=>cases g7;simp
 | mark=>
  have:=g7 (p.base+o) (by omega)
  rw [Bool.eq_false_iff]
  intro hh
  have hh':=Bool.and_eq_true_iff.1 hh
  exact this ⟨of_decide_eq_true hh'.1,of_decide_eq_true hh'.2⟩
 | wE=>cases hf
theorem uu {P:Program} {w:World} {a:Addr} {v:Value} (h:w.cell? a=some v):(load a).run P w=.ok v w:=by
 rw [run_load,h]
theorem gK {P:Program} {w:World} {a:Addr} {v u:Value} (hv:v.oneCell'=true) (h:w.cell? a=some u) (hf:w.frozen? a=false):(store a v).run P w=.ok () (w.setCell a v):=by
 rw [run_store P w a v _ hv,h];simp [hf]
theorem ct (p:Place) (o k:Nat):(p.addr o).add k=p.addr (o+k):=by
 unfold Addr.add Place.addr
 split
 ·rename_i h;subst h;rfl
 ·simp [Nat.add_assoc]
variable {P:Program} {φ:aJ} {h h':Hp} {w:World} {v:AV} {x y z:AO} {r:A2}
theorem kM {i n:Nat} (e:Kn i n=true):i < n:=Nat.le_of_ble_eq_true e
theorem ak {t:TypeId} {d:TypeDesc} (hd:P.underlying t=some d) (w:World):(underlying t).run P w=.ok d w:=by
 simp [underlying,hd]
theorem bD {t:TypeId} {d:TypeInfo} (hd:P.info? t=some d) (w:World):(typeInfo t).run P w=.ok d w:=by
 simp [typeInfo,hd]
theorem aP {t:TypeId} {d:TypeInfo} (hd:P.info? t=some d) (w:World):(sizeOf t).run P w=.ok d.size w:=by
 simp [sizeOf,bD hd]
theorem gx {t:TypeId} {d:TypeDesc} (hd:P.underlying t=some d) (w:World):(isAgg t).run P w=.ok (qv P t) w:=by
 simp only [isAgg,Sem.run_bind,ak hd,Result.andThen_ok,qv,jh,hd,Option.getD_some]
 cases d<;>rfl
theorem ic {t:TypeId} {d:TypeDesc} (hd:P.underlying t=some d):∃i,P.info? t=some i:=by
 unfold Program.underlying at hd
 cases hi:P.info? t with
 | some i=>exact ⟨i,rfl⟩
 | none=>rw [hi] at hd;cases hd
theorem cJ {t:TypeId} {i:TypeInfo} (hi:P.info? t=some i):bp P t=i.size:=by simp [bp,Program.cellsOf,hi]
theorem HV {cx:Value} (H:HR φ h w) (hx:VR φ (ev x r) cx) {t:TypeId} {d:TypeDesc} (hd:P.underlying t=some d) (ha:qv P t=false)
  (e:iE x r h=.ok v h'):Good φ h w v h' ((Instr.loadAt t cx).run P w):=by
 obtain ⟨i,o,ex,e⟩:=cD e
 rw [ex] at hx
 obtain ⟨el,n,ex,fl,c,hi,e⟩:=aO e
 obtain ⟨hb,e⟩:=aC e
 obtain ⟨rfl,rfl⟩:=RV.av e
 cases hx with
 | ptr _ _ p hp=>
  obtain ⟨cv,h1,h2,h3⟩:=H.cell hi hp (kM hb)
  refine .same H h2 ?_
  simp [Instr.loadAt,Instr.sureAddr,loadVar,gx hd,ha,h1]
theorem mQ {a:Addr} {cv u:Value} (h1:cv.oneCell'=true) (hc:w.cell? a=some u) (hf:w.frozen? a=false) :
  (storeCells a [cv]).run P w=.ok () (w.setCell a cv):=by
 have:a.add 0=a:=by simp [Addr.add]
 simp [storeCells,this,gK h1 hc hf]
theorem vB {cv:Value} (h1:cv.oneCell'=true):cv.cells=#[cv]:=by cases cv<;>first|rfl|cases h1
theorem HW {cx cy:Value} (H:HR φ h w) (hx:VR φ (ev x r) cx) (hy:VR φ (ev y r) cy) {t:TypeId} {i:TypeInfo} (hi:P.info? t=some i) (hs:i.size=1)
  (e:sO x y r h=.ok v h') :
  v=.undef∧vA φ h w h' ((Instr.storeAt t cx cy).run P w):=by
 obtain ⟨i,o,ex,e⟩:=cD e
 rw [ex] at hx
 obtain ⟨el,n,ex,fl,c,hi',e⟩:=aO e
 obtain ⟨hw,e⟩:=aC e
 obtain ⟨hb,e⟩:=aC e
 obtain ⟨rfl,rfl⟩:=RV.av e
 refine ⟨rfl,?_⟩
 obtain ⟨hb,h1⟩:=Bool.and_eq_true_iff.1 hb
 have ho:o < n:=kM hb
 cases hx with
 | ptr _ _ p hp=>
  obtain ⟨u,c1,c2,c3⟩:=H.cell hi' hp ho
  obtain ⟨g1,g2⟩:=H.store hi' hp ho hy (hy.one h1)
  refine ⟨_,φ,?_,g1,φ.le_refl,g2,fun j q hj hq=>?_,.set _ _ _⟩
  ·simp [Instr.storeAt,Instr.sureAddr,storeVar,vB (hy.one h1),aP hi,hs,mQ (hy.one h1) c1 (td H hi' hp ho hw)]
  ·rw [bj] at hj
   by_cases ej:j=i
   ·subst ej;exact .inl ⟨hi'▸aK,hq⟩
   ·rw [if_neg ej] at hj;exact .inl ⟨hj,hq⟩
theorem run_loadCellsFrom {a:Addr}:∀(n i:Nat) (acc:Array Value) (l:List Value),l.length=n→(∀k (hk:k < l.length),w.cell? (a.add (i+k))=some l[k])→
  (loadCellsFrom a i n acc).run P w=.ok (acc ++ l.toArray) w:=by
 intro n
 induction n with
 | zero=>intro i acc l hl _;rw [List.length_eq_zero_iff.1 hl];simp [loadCellsFrom]
 | succ n ih=>
  intro i acc l hl hc
  match l,hl with
  | x::l,hl=>
   have h0:=hc 0 (by simp)
   simp only [Nat.add_zero,List.getElem_cons_zero] at h0
   simp only [loadCellsFrom,Sem.run_bind,uu h0,Result.andThen_ok]
   rw [ih (i+1) (acc.push x) l (by simpa using hl) ?_]
   ·simp
   ·intro k hk
    have:=hc (k+1) (by simp;omega)
    simpa [Nat.add_assoc,Nat.add_comm 1 k] using this
theorem run_loadCells {a:Addr} {n:Nat} {l:List Value} (hl:l.length=n) (hc:∀k (hk:k < l.length),w.cell? (a.add k)=some l[k]):(loadCells a n).run P w=.ok l.toArray w:=by
 unfold loadCells
 rw [run_loadCellsFrom n 0 #[] l hl (by simpa using hc)]
 simp
theorem HR.values (H:HR φ h w) {i:P4} {p:Place} {el n:Nat} {ex:Bool} {fl:Fl} {c:Cl} (hi:au i h=.cells el n ex fl c) (hp:φ i=some p) :
  ∀(m o:Nat),o+m≤n→∃l:List Value,l.length=m∧bX φ (bB m c o) l∧(∀x,x∈l→x.oneCell'=true)∧(∀k (hk:k < l.length),w.cell? ((p.addr o).add k)=some l[k]):=by
 intro m
 induction m with
 | zero=>intro o _;exact ⟨[],rfl,.nil,by simp,by simp⟩
 | succ m ih=>
  intro o ho
  obtain ⟨l,h1,h2,h3,h4⟩:=ih (o+1) (by omega)
  obtain ⟨cv,c1,c2,c3⟩:=H.cell hi hp (show o < n by omega)
  refine ⟨cv::l,by simp [h1],.cons _ _ _ _ c2 h2,?_,?_⟩
  ·intro x hx
   cases List.mem_cons.1 hx with
   | inl e=>exact e▸c3
   | inr e=>exact h3 x e
  ·intro k hk
   match k with
   | 0=>simpa [ct] using c1
   | k+1=>
    have:=h4 k (by simpa using hk)
    rw [ct] at this ⊢
    simpa [show o+1+k=o+(k+1) by omega] using this
theorem HX {cx:Value} (H:HR φ h w) (hx:VR φ (ev x r) cx) {t:TypeId} {d:TypeDesc} (hd:P.underlying t=some d) (ha:qv P t=true) {m:Nat} (hm:bp P t=m)
  (e:pX m x r h=.ok v h') :
  Good φ h w v h' ((Instr.loadAt t cx).run P w):=by
 obtain ⟨i,o,ex,e⟩:=cD e
 rw [ex] at hx
 obtain ⟨el,n,ex,fl,c,hi,e⟩:=aO e
 obtain ⟨hb,e⟩:=aC e
 obtain ⟨rfl,rfl⟩:=RV.av e
 obtain ⟨inf,hinf⟩:=ic hd
 cases hx with
 | ptr _ _ p hp=>
  obtain ⟨l,h1,h2,h3,h4⟩:=H.values hi hp m o (by simpa using hb)
  refine .same H (.agg _ l h2 h3) ?_
  have hsz:inf.size=m:=by rw [←cJ hinf,hm]
  simp [Instr.loadAt,Instr.sureAddr,loadVar,gx hd,ha,aP hinf,hsz,run_loadCells h1 h4]
theorem kN {i:P4} {p:Place} (hp:φ i=some p) {el n:Nat} {ex:Bool} {fl:Fl} (hf:wr fl=true):∀(l:List AV) (vs:List Value) (h:Hp) (w:World) (c:Cl) (o k:Nat),HR φ h w→au i h=.cells el n ex fl c→bX φ l vs→(∀x,x∈vs→x.oneCell'=true)→o+k+l.length≤n→
  ∃w',(storeCells (p.addr o) vs k).run P w=.ok () w'∧HR φ (cN i (.cells el n ex fl (fm l (o+k) c)) h) w'∧fu φ h w w':=by
 intro l
 induction l with
 | nil=>
  intro vs h w c o k H hi hl _ _
  cases hl
  refine ⟨w,rfl,?_,.refl _ _ _⟩
  have hl:live (au i h):=hi▸aK
  obtain ⟨q,hq,hr⟩:=H.obj i hl
  rw [hp] at hq;cases hq
  rw [hi] at hr
  exact H.set hl hp rfl (fun _ _=>rfl) hr (by simp)
 | cons a l ih=>
  intro vs h w c o k H hi hl h1 hn
  cases hl with
  | cons _ x _ xs hx hxs=>
   simp only [List.length_cons] at hn
   have ho:o+k < n:=by omega
   have hx1:=h1 x (by simp)
   obtain ⟨u,c1,c2,c3⟩:=H.cell hi hp ho
   obtain ⟨g1,g2⟩:=H.store hi hp ho hx hx1
   have hi2:au i (cN i (.cells el n ex fl (ui (o+k) a c)) h)=.cells el n ex fl (ui (o+k) a c):=by rw [bj,if_pos rfl]
   obtain ⟨w',r1,r2,r3⟩:=ih xs _ _ (ui (o+k) a c) o (k+1) g1 hi2 hxs (fun y hy=>h1 y (by simp [hy])) (by omega)
   refine ⟨w',?_,?_,?_⟩
   ·simp only [storeCells,Sem.run_bind,ct,gK hx1 c1 (td H hi hp ho hf),Result.andThen_ok]
    exact r1
   ·rw [mO]
    have H':=r2
    refine ⟨fun j hj=>?_,fun j m q s hj hm=>?_,fun j hj=>?_,H'.bound⟩
    ·have:=H'.obj j
     simp only [bj] at this hj ⊢
     by_cases e:j=i
     ·simp only [e,if_true] at this hj ⊢;exact this hj
     ·simp only [e,if_false] at this hj ⊢;exact this hj
    ·have:=H'.inj j m q s
     simp only [bj] at this hj hm
     by_cases e:j=i<;>by_cases e':m=i<;>simp only [e,e',if_true,if_false] at this hj hm ⊢<;>exact this hj hm
    ·have:=H'.fresh j
     simp only [bj] at this hj
     by_cases e:j=i<;>simp only [e,if_true,if_false] at this hj ⊢<;>exact this hj
   ·refine g2.trans r3 fun j q hj hq=>?_
    rw [bj] at hj
    by_cases e:j=i
    ·subst e;exact .inl ⟨hi▸aK,hq⟩
    ·rw [if_neg e] at hj;exact .inl ⟨hj,hq⟩
variable {P:Program} {φ:aJ} {h h':Hp} {w:World} {v:AV} {x y z:AO} {r:A2}
theorem wR {c:Value} {a:AV} (e:zX c=some a) (φ:aJ):VR φ a c∧c.oneCell'=true:=by
 unfold zX at e
 split at e<;>cases e<;>refine ⟨?_,rfl⟩
 ·exact .bool _
 ·exact .int _ _
 ·exact .fi _ _
 ·exact .aj _ _ _
 ·exact .str _ _ rfl
 ·exact .di
 ·exact .ai
 ·exact .gg
 ·exact .fn _ _ [] .nil
 ·exact .qi
 ·exact .sj
theorem lB (φ:aJ):∀{cs:List Value} {l:List AV},cs.mapM zX=some l→bX φ l cs∧∀c,c∈cs→c.oneCell'=true
 | [],l,e=>by
  simp at e;subst e;exact ⟨.nil,by simp⟩
 | c::cs,l,e=>by
  simp only [List.mapM_cons,Option.pure_def,Option.bind_eq_bind,Option.bind_eq_some_iff,Option.some.injEq] at e
  obtain ⟨a,ha,as,has,rfl⟩:=e
  obtain ⟨h1,h2⟩:=wR ha φ
  obtain ⟨h3,h4⟩:=lB φ has
  refine ⟨.cons _ _ _ _ h1 h3,?_⟩
  intro d hd
  cases List.mem_cons.1 hd with
  | inl e=>exact e▸h2
  | inr e=>exact h4 d e
theorem nT {c:Value} {a:AV} (e:Bx c=some a) (φ:aJ):VR φ a c:=by
 unfold Bx at e
 split at e
 ·rename_i cs
  simp only [Option.map_eq_some_iff] at e
  obtain ⟨l,hl,rfl⟩:=e
  obtain ⟨h1,h2⟩:=lB φ hl
  have:=VR.agg (φ:=φ) l cs.toList h1 h2
  simpa using this
 ·simp only [Option.map_eq_some_iff] at e
  obtain ⟨l,hl,rfl⟩:=e
  exact .iface _ _ _ (wR hl φ).1
 ·exact (wR e φ).1
theorem eR {el n:Nat} {ex:Bool} {fl:Fl} {c:Cl} {k:P4→Hp→RV} (e:oV el ex fl n c h k=.ok v h') :
  n≤bW c∧au h.next h=.none∧k h.next (.mk (de h.next (.cells el n ex fl c) h.tree) h.next.succ (Lg.add h.next h.log))=.ok v h':=by
 obtain ⟨hb,e⟩:=aC e
 exact ⟨Nat.le_of_ble_eq_true hb,gv e⟩
theorem HR.nB (H:HR φ h w) {i n':P4} (hi:au i h=.none) {rc:Array Value} {el n:Nat} {ex:Bool} {fl:Fl} {fz:Nat×Nat} {c:Cl} (hn:n≤rc.size) (hex:ex=true→n=rc.size)
  (hr:n≤bW c) (hc:∀k,k < n→∃cv,rc[k]?=some cv∧VR φ (eA k c) cv∧cv.oneCell'=true) (hf:Dm fl fz rc.size) {w':World} (hw:w'.heap=w.heap.push (.cells rc el fz))
  (ht:w'.tape=w.tape) (ho:w'.os=w.os) (hu:w'.output=w.output) :
  HR (φ.put i ⟨w.heap.size,0,rc.size⟩) (.mk (de i (.cells el n ex fl c) h.tree) n' (Lg.add i h.log)) w'∧Step φ h w (φ.put i ⟨w.heap.size,0,rc.size⟩) (.mk (de i (.cells el n ex fl c) h.tree) n' (Lg.add i h.log)) w':=by
 have hle:=aJ.fB (φ:=φ) (i:=i) ⟨w.heap.size,0,rc.size⟩ (H.fresh i hi)
 refine ⟨H.new hi hw (by simp) ⟨rc,fz,rfl,by simp,hn,fun e=>⟨rfl,hex e⟩,hr,fun k hk=>?_,hf⟩,hle,.new hw ht ho hu,fun j q hj hq=>?_,.put _ _ _ _⟩
 ·obtain ⟨cv,a,b,d⟩:=hc k hk
  exact ⟨cv,by simpa using a,b.mono hle,d⟩
 ·by_cases e:j=i
  ·subst e
   rw [aJ.aL] at hq;cases hq
   exact .inr (.inl (Nat.le_refl _))
  ·have hg:au j (.mk (de i (.cells el n ex fl c) h.tree) n' (Lg.add i h.log))=au j h:=by
    cases h with
    | mk t m lg=>exact (dT j i _ t).trans (if_neg e)
   rw [hg] at hj
   exact .inl ⟨hj,by simpa [aJ.put,e] using hq⟩
theorem dU (el:TypeId) (cs:Array Value):(newRow el cs).run P w=.ok ⟨w.heap.size,0,none⟩ {w with heap:=w.heap.push (.cells cs el)}:=by
 simp [newRow]
theorem HR.Cn (H:HR φ h w) {i n':P4} (hi:au i h=.none) {l:List AV} {vs:List Value} (hl:bX φ l vs) (h1:∀c,c∈vs→c.oneCell'=true) {el:Nat} {c:Cl} (hr:l.length≤bW c)
  (hc:∀k (hk:k < l.length),eA k c=l[k]) :
  HR (φ.put i ⟨w.heap.size,0,vs.length⟩) (.mk (de i (.cells el l.length true .plain c) h.tree) n' (Lg.add i h.log)) {w with heap:=w.heap.push (.cells vs.toArray el)}∧
   Step φ h w (φ.put i ⟨w.heap.size,0,vs.length⟩) (.mk (de i (.cells el l.length true .plain c) h.tree) n' (Lg.add i h.log)) {w with heap:=w.heap.push (.cells vs.toArray el)}:=by
 have hlen:=hl.length
 have:=H.nB (n':=n') hi (rc:=vs.toArray) (el:=el) (n:=l.length) (ex:=true) (fl:=.plain) (fz:=(0,0)) (c:=c) (by simp [hlen]) (fun _=>by simp [hlen]) hr
  (fun k hk=>⟨vs[k]'(by omega),by simp,by rw [hc k hk];exact hl.get k hk (by omega),h1 _ (List.getElem_mem _)⟩) rfl (w':={w with heap:=w.heap.push (.cells vs.toArray el)}) rfl rfl rfl rfl
 simpa using this
theorem qz {i:P4} (e:wb i h=.ok v h'):v=.ptr i 0∧h'=h:=by cases e;exact ⟨rfl,rfl⟩
theorem kO (H:HR φ h w) {l:List AV} {vs:List Value} (hl:bX φ l vs) (h1:∀c,c∈vs→c.oneCell'=true) {el:Nat} {c:Cl}
  (hc:l.length≤bW c→∀k (hk:k < l.length),eA k c=l[k]) (e:oV el true .plain l.length c h wb=.ok v h') :
  Good φ h w v h' (.ok (.pointer (some ⟨w.heap.size,0,none⟩)) {w with heap:=w.heap.push (.cells vs.toArray el)}):=by
 obtain ⟨hr,hi,e⟩:=eR e
 obtain ⟨rfl,rfl⟩:=qz e
 obtain ⟨g1,g2⟩:=H.Cn (n':=h.next.succ) hi hl h1 (el:=el) hr (hc hr)
 refine ⟨_,_,_,rfl,?_,g1,g2⟩
 have:=VR.ptr (φ:=φ.put h.next ⟨w.heap.size,0,vs.length⟩) h.next 0 _ (aJ.aL _ _ _)
 simpa [Place.addr] using this
theorem AE (H:HR φ h w) {t:TypeId} {zs:List AV} (hz:fO P t=some zs) (e:BX t zs.length (mu zs) r h=.ok v h') :
  Good φ h w v h' ((Instr.alloc t true (.tuple #[])).run P w):=by
 unfold fO at hz
 simp only [Option.bind_eq_some_iff] at hz
 obtain ⟨zv,⟨inf,hinf,hzv⟩,hl⟩:=hz
 obtain ⟨g1,g2⟩:=lB φ hl
 have:=kO H g1 g2 (fun hr k hk=>dA zs hr k hk) e
 have hrun:(Instr.alloc t true (.tuple #[])).run P w=.ok (.pointer (some ⟨w.heap.size,0,none⟩)) {w with heap:=w.heap.push (.cells zv.cells t)}:=by
  simp [Instr.alloc,zeroValue,bD hinf,hzv,newVar,dU]
 rw [hrun]
 simpa using this
theorem VR.ig {a:AV} {c:Value} (hv:VR φ a c) {l:List AV} (hl:(a=.agg l)∨(a.one=true∧l=[a])):bX φ l c.cells.toList∧∀d,d∈c.cells.toList→d.oneCell'=true:=by
 rcases hl with rfl|⟨h1,rfl⟩
 ·cases hv with
  | agg _ vs hvs ho=>exact ⟨by simpa [Value.cells] using hvs,by simpa [Value.cells] using ho⟩
 ·have:=hv.one h1
  rw [vB this]
  exact ⟨.cons _ _ _ _ hv .nil,by simpa using this⟩
theorem Tt {a:AV} {f:List AV→RV} {g:RV} {e:RV} (he:(OL.rec g f a.asAgg:RV)=e):(∃l,a=.agg l∧f l=e)∨((∀l,a≠.agg l)∧g=e):=by
 cases a<;>first|exact .inl ⟨_,rfl,he⟩|exact .inr ⟨fun l=>by simp,he⟩
theorem HY {cx:Value} (H:HR φ h w) (hx:VR φ (ev x r) cx) {t:TypeId} (e:yI t x r h=.ok v h'):Good φ h w v h' ((Instr.box t cx).run P w):=by
 have hrun:(Instr.box t cx).run P w=.ok (.pointer (some ⟨w.heap.size,0,none⟩)) {w with heap:=w.heap.push (.cells cx.cells t)}:=by
  simp [Instr.box,newVar,dU]
 rw [hrun]
 rcases Tt e with ⟨l,hl,e⟩|⟨_,e⟩
 ·obtain ⟨g1,g2⟩:=hx.ig (.inl hl)
  simpa using kO H g1 g2 (fun hr k hk=>dA l hr k hk) e
 ·obtain ⟨h1,e⟩:=aC e
  obtain ⟨g1,g2⟩:=hx.ig (.inr ⟨h1,rfl⟩)
  simpa using kO H g1 g2 (fun hr k hk=>dA _ hr k hk) e
theorem HZ {cx cy:Value} (H:HR φ h w) (hx:VR φ (ev x r) cx) (hy:VR φ (ev y r) cy) {t:TypeId} {i:TypeInfo} (hi:P.info? t=some i) {m:Nat} (hm:bp P t=m)
  (e:yJ m x y r h=.ok v h'):v=.undef∧vA φ h w h' ((Instr.storeAt t cx cy).run P w):=by
 obtain ⟨j,o,ex,e⟩:=cD e
 rw [ex] at hx
 obtain ⟨el,n,ex,fl,c,hj,e⟩:=aO e
 obtain ⟨hw,e⟩:=aC e
 obtain ⟨hb,e⟩:=aC e
 obtain ⟨l,ey,e⟩:=dn e
 rw [ey] at hy
 obtain ⟨hlen,e⟩:=aC e
 obtain ⟨rfl,rfl⟩:=RV.av e
 refine ⟨rfl,?_⟩
 have hle:o+m≤n:=Nat.le_of_ble_eq_true hb
 have hlm:l.length=m:=Nat.eq_of_beq_eq_true hlen
 cases hx with
 | ptr _ _ p hp=>
  cases hy with
  | agg _ vs hvs ho=>
   obtain ⟨w',r1,r2,r3⟩:=kN (P:=P) hp hw l vs h w c o 0 H hj hvs ho (by omega)
   refine ⟨w',φ,?_,r2,φ.le_refl,r3,fun k q hk hq=>?_,.set _ _ _⟩
   ·have hsz:i.size=vs.length:=by rw [←cJ hi,hm,←hlm,hvs.length]
    simp only [Instr.storeAt,Instr.sureAddr,storeVar,Value.cells]
    simp [aP hi,hsz,r1]
   ·rw [bj] at hk
    by_cases ek:k=j
    ·subst ek;exact .inl ⟨hj▸aK,hq⟩
    ·rw [if_neg ek] at hk;exact .inl ⟨hk,hq⟩
variable {P:Program} {φ:aJ} {h h':Hp} {w:World} {v:AV} {x y z:AO} {r:A2}
theorem Co (a b:Int):Sy a b=a+b:=by cases a<;>cases b<;>rfl
theorem Cp (a:Int):Sz a = -a:=by
 cases a with
 | ofNat m=>cases m<;>rfl
 | negSucc m=>rfl
theorem Cq (a b:Int):LA a b=a * b:=by cases a<;>cases b<;>rfl
theorem LP (a b:Int):SA a b=a.tdiv b:=by cases a<;>cases b<;>rfl
theorem LQ (a b:Int):SB a b=a.tmod b:=by cases a<;>cases b<;>rfl
theorem Ia (a b:Int):WO a b=decide (a≤b):=by
 cases a with
 | ofNat m=>cases b with
  | ofNat n=>show Nat.ble m n=_;rw [Bool.eq_iff_iff,Nat.ble_eq];simp
  | negSucc n=>show false=_;symm;simp;omega
 | negSucc m=>cases b with
  | ofNat n=>show true=_;symm;simp;omega
  | negSucc n=>show Nat.ble n m=_;rw [Bool.eq_iff_iff,Nat.ble_eq];simp;omega
theorem wT (a b:Int):LB a b=decide (a < b):=by
 cases a with
 | ofNat m=>cases b with
  | ofNat n=>show Nat.ble (m+1) n=_;rw [Bool.eq_iff_iff,Nat.ble_eq];simp;omega
  | negSucc n=>show false=_;symm;simp;omega
 | negSucc m=>cases b with
  | ofNat n=>show true=_;symm;simp;omega
  | negSucc n=>show Nat.ble (n+1) m=_;rw [Bool.eq_iff_iff,Nat.ble_eq];simp;omega
theorem kP (a b:Int):uk a b=decide (a=b):=by
 cases a with
 | ofNat m=>cases b with
  | ofNat n=>show Nat.beq m n=_;rw [Bool.eq_iff_iff,Nat.beq_eq];simp;omega
  | negSucc n=>show false=_;symm;simp
 | negSucc m=>cases b with
  | ofNat n=>show false=_;symm;simp
  | negSucc n=>show Nat.beq m n=_;rw [Bool.eq_iff_iff,Nat.beq_eq];simp
theorem Cr (k:IntKind) (top:Nat) (n:Int) (hk:∀m:Int,-(top:Int) - 1≤m→m≤top→k.wrap m=m):wS k top n=k.wrap n:=by
 cases n with
 | ofNat m=>
  show (Bool.rec _ _ (Nat.ble m top):Int)=_
  cases hb:Nat.ble m top
  ·rfl
  ·have:m≤top:=Nat.le_of_ble_eq_true hb
   show Int.ofNat m=k.wrap (Int.ofNat m)
   exact (hk _ (by simp;omega) (by simp;omega)).symm
 | negSucc m=>
  show (Bool.rec _ _ (Nat.ble m top):Int)=_
  cases hb:Nat.ble m top
  ·rfl
  ·have:m≤top:=Nat.le_of_ble_eq_true hb
   show Int.negSucc m=k.wrap (Int.negSucc m)
   exact (hk _ (by omega) (by omega)).symm
theorem Cs (k:IntKind) (size:Nat) (n:Int) (hk:∀m:Nat,k.wrap (m:Int)=((m % size:Nat):Int)):wU k size n=k.wrap n:=by
 cases n with
 | ofNat m=>exact (hk m).symm
 | negSucc m=>rfl
theorem eB (k:IntKind) (n:Int):iP k n=k.wrap n:=by
 cases k
 ·exact Cr _ _ _ (fun m h1 h2=>by simp only [IntKind.wrap,IntKind.bits,IntKind.signed];simp;split<;>omega)
 ·exact Cr _ _ _ (fun m h1 h2=>by simp only [IntKind.wrap,IntKind.bits,IntKind.signed];simp;split<;>omega)
 ·exact Cr _ _ _ (fun m h1 h2=>by simp only [IntKind.wrap,IntKind.bits,IntKind.signed];simp;split<;>omega)
 ·exact Cr _ _ _ (fun m h1 h2=>by simp only [IntKind.wrap,IntKind.bits,IntKind.signed];simp;split<;>omega)
 ·exact Cs _ _ _ (fun m=>by simp only [IntKind.wrap,IntKind.bits,IntKind.signed];simp)
 ·exact Cs _ _ _ (fun m=>by simp only [IntKind.wrap,IntKind.bits,IntKind.signed];simp)
 ·exact Cs _ _ _ (fun m=>by simp only [IntKind.wrap,IntKind.bits,IntKind.signed];simp)
 ·exact Cs _ _ _ (fun m=>by simp only [IntKind.wrap,IntKind.bits,IntKind.signed];simp)
theorem gM {a b:IntKind} (h:nP a b=true):a=b:=by cases a<;>cases b<;>first|rfl|cases h
theorem Ib {f:IntKind→Int→Int→AV} {a b:AV} (e:BV f a b h=.ok v h'):∃k m n,a=.int k m∧b=.int k n∧v=f k m n∧h'=h:=by
 obtain ⟨k,m,ea,e1⟩:=bu e
 obtain ⟨k',n,eb,e2⟩:=bu e1
 obtain ⟨hk,e3⟩:=aC e2
 subst ea eb
 obtain ⟨rfl,rfl⟩:=RV.av e3
 obtain rfl:=gM hk
 exact ⟨k,m,n,rfl,rfl,rfl,rfl⟩
theorem Ct {a:AV} (e:SG a h=.ok v h'):a=v∧h'=h∧a≠.undef:=by
 cases a<;>first|(cases e;exact ⟨rfl,rfl,by simp⟩)|cases e
theorem Ic {f:IntKind→Int→Int→AV} {a b:AV} (e:LD f a b h=.ok v h'):∃k m n,a=.int k m∧b=.int k n∧v=f k m n∧h'=h∧v≠.undef:=by
 obtain ⟨k,m,ea,e1⟩:=bu e
 obtain ⟨k',n,eb,e2⟩:=bu e1
 obtain ⟨hk,e3⟩:=aC e2
 subst ea eb
 obtain ⟨g1,g2,g3⟩:=Ct e3
 obtain rfl:=gM hk
 exact ⟨k,m,n,rfl,rfl,g1.symm,g2,g1▸g3⟩
theorem VR.aU {k:IntKind} {n:Int} {c:Value} (hv:VR φ (.int k n) c):c=.int k n:=by cases hv;rfl
theorem VR.cQ {b:Bool} {c:Value} (hv:VR φ (.bool b) c):c=.bool b:=by cases hv;rfl
theorem VR.cZ {l:List Nat} {c:Value} (hv:VR φ (.str l) c):∃s:ByteArray,c=.string s∧l=s.data.toList.map UInt8.toNat:=by cases hv;exact ⟨_,rfl,by assumption⟩
theorem eF {op:BinOp} {t:TypeId} {p q:Operand} {k k':IntKind} {m n:Int}:(eqGuard op t p q (.int k m) (.int k' n)).run P w=.ok () w:=by
 unfold eqGuard
 cases op<;>simp
section
variable {t:TypeId} {p q:Operand} {cx cy:Value}
theorem kQ {f:IntKind→Int→Int→AV} {op:BinOp} (H:HR φ h w) {a b:AV} (hx:VR φ a cx) (hy:VR φ b cy) (e:BV f a b h=.ok v h')
  (hf:∀k m n,∃c,(binOp op t (.int k m) (.int k n)).run P w=.ok c w∧VR φ (f k m n) c):Good φ h w v h' ((do eqGuard op t p q cx cy;binOp op t cx cy:Sem Value).run P w):=by
 obtain ⟨k,m,n,rfl,rfl,rfl,rfl⟩:=Ib e
 rw [hx.aU,hy.aU]
 obtain ⟨c,h1,h2⟩:=hf k m n
 refine .same H h2 ?_
 simp [eF,h1]
theorem pw {f:IntKind→Int→Int→AV} {op:BinOp} (H:HR φ h w) {a b:AV} (hx:VR φ a cx) (hy:VR φ b cy) (e:LD f a b h=.ok v h')
  (hf:∀k m n,f k m n≠.undef→∃c,(binOp op t (.int k m) (.int k n)).run P w=.ok c w∧VR φ (f k m n) c):Good φ h w v h' ((do eqGuard op t p q cx cy;binOp op t cx cy:Sem Value).run P w):=by
 obtain ⟨k,m,n,rfl,rfl,rfl,rfl,hu⟩:=Ic e
 rw [hx.aU,hy.aU]
 obtain ⟨c,h1,h2⟩:=hf k m n hu
 refine .same H h2 ?_
 simp [eF,h1]
theorem Ie (H:HR φ h w) {a b:AV} (hx:VR φ a cx) (hy:VR φ b cy) (e:ko a b h=.ok v h'):Good φ h w v h' ((do eqGuard .add t p q cx cy;binOp .add t cx cy:Sem Value).run P w):=
 kQ H hx hy e fun k m n=>⟨.int k (k.wrap (m+n)),by simp [binOp,Op.intArith],by rw [eB,Co];exact .int _ _⟩
theorem Ig (H:HR φ h w) {a b:AV} (hx:VR φ a cx) (hy:VR φ b cy) (e:FW a b h=.ok v h'):Good φ h w v h' ((do eqGuard .sub t p q cx cy;binOp .sub t cx cy:Sem Value).run P w):=
 kQ H hx hy e fun k m n=>⟨.int k (k.wrap (m - n)),by simp [binOp,Op.intArith],by rw [eB,Co,Cp,←Int.sub_eq_add_neg];exact .int _ _⟩
theorem Ih (H:HR φ h w) {a b:AV} (hx:VR φ a cx) (hy:VR φ b cy) (e:vf a b h=.ok v h'):Good φ h w v h' ((do eqGuard .mul t p q cx cy;binOp .mul t cx cy:Sem Value).run P w):=
 kQ H hx hy e fun k m n=>⟨.int k (k.wrap (m * n)),by simp [binOp,Op.intArith],by rw [eB,Cq];exact .int _ _⟩
theorem Ii (H:HR φ h w) {a b:AV} (hx:VR φ a cx) (hy:VR φ b cy) (e:GU a b h=.ok v h'):Good φ h w v h' ((do eqGuard .quo t p q cx cy;binOp .quo t cx cy:Sem Value).run P w):=by
 refine pw H hx hy e fun k m n hu=>?_
 rw [kP] at hu ⊢
 by_cases hz:n=0
 ·subst hz;exact absurd rfl hu
 ·have:decide (n=Int.ofNat 0)=false:=by simpa using hz
  rw [this]
  exact ⟨.int k (k.wrap (m.tdiv n)),by simp [binOp,Op.intDiv,hz],by show VR φ (.int k (iP k (SA m n))) _;rw [eB,LP];exact .int _ _⟩
theorem Ij (H:HR φ h w) {a b:AV} (hx:VR φ a cx) (hy:VR φ b cy) (e:Nq a b h=.ok v h'):Good φ h w v h' ((do eqGuard .rem t p q cx cy;binOp .rem t cx cy:Sem Value).run P w):=by
 refine pw H hx hy e fun k m n hu=>?_
 rw [kP] at hu ⊢
 by_cases hz:n=0
 ·subst hz;exact absurd rfl hu
 ·have:decide (n=Int.ofNat 0)=false:=by simpa using hz
  rw [this]
  exact ⟨.int k (m.tmod n),by simp [binOp,Op.intDiv,hz],by show VR φ (.int k (SB m n)) _;rw [LQ];exact .int _ _⟩
theorem Ik (b:Nat) (m:Nat):(BitVec.ofInt b (Int.ofNat m)).toNat=m % 2 ^ b:=by
 simp only [BitVec.toNat_ofInt,Int.ofNat_eq_natCast]
 rw [show ((2 ^ b:Nat):Int)=(2 ^ b:Nat) from rfl,←Int.natCast_emod,Int.toNat_natCast]
theorem qA (k:IntKind):kH k=k.bits:=by cases k<;>rfl
theorem px {f:Nat→Nat→Nat} {op:BinOp} {g:∀b,BitVec b→BitVec b→BitVec b} (hg:∀b (m n:BitVec b),(g b m n).toNat=f m.toNat n.toNat)
  (hop:∀k m n,(binOp op t (.int k m) (.int k n)).run P w=.ok (.int k (k.wrap (g k.bits (BitVec.ofInt k.bits m) (BitVec.ofInt k.bits n)).toNat)) w)
  (H:HR φ h w) {a b:AV} (hx:VR φ a cx) (hy:VR φ b cy) (e:LD (BU f) a b h=.ok v h'):Good φ h w v h' ((do eqGuard op t p q cx cy;binOp op t cx cy:Sem Value).run P w):=by
 refine pw H hx hy e fun k m n hu=>⟨_,hop k m n,?_⟩
 cases m with
 | negSucc m=>exact absurd rfl hu
 | ofNat m=>cases n with
  | negSucc n=>exact absurd rfl hu
  | ofNat n=>
   show VR φ (.int k (iP k (.ofNat (f (m % 2 ^ kH k) (n % 2 ^ kH k))))) _
   rw [eB,hg,Ik,Ik,qA]
   exact .int _ _
theorem Il (H:HR φ h w) {a b:AV} (hx:VR φ a cx) (hy:VR φ b cy) (e:pQ a b h=.ok v h'):Good φ h w v h' ((do eqGuard .and t p q cx cy;binOp .and t cx cy:Sem Value).run P w):=
 px (g:=fun _ m n=>m &&& n) (fun b m n=>by simp) (fun k m n=>by simp [binOp,Op.intBits]) H hx hy e
theorem LR (H:HR φ h w) {a b:AV} (hx:VR φ a cx) (hy:VR φ b cy) (e:Rq a b h=.ok v h'):Good φ h w v h' ((do eqGuard .or t p q cx cy;binOp .or t cx cy:Sem Value).run P w):=
 px (g:=fun _ m n=>m ||| n) (fun b m n=>by simp) (fun k m n=>by simp [binOp,Op.intBits]) H hx hy e
theorem Im (H:HR φ h w) {a b:AV} (hx:VR φ a cx) (hy:VR φ b cy) (e:pR a b h=.ok v h'):Good φ h w v h' ((do eqGuard .xor t p q cx cy;binOp .xor t cx cy:Sem Value).run P w):=
 px (g:=fun _ m n=>m ^^^ n) (fun b m n=>by simp) (fun k m n=>by simp [binOp,Op.intBits]) H hx hy e
theorem Dn (H:HR φ h w) {a b:AV} (hx:VR φ a cx) (hy:VR φ b cy) (e:GV a b h=.ok v h'):Good φ h w v h' ((do eqGuard .andNot t p q cx cy;binOp .andNot t cx cy:Sem Value).run P w):=
 kQ H hx hy e fun k m n=>⟨_,by simp [binOp,Op.intBits],.int _ _⟩
theorem iT {op:BinOp} {f:Int→Int→Bool} (hop:∀m n:Int,(Op.intCmp op m n).run P w=.ok (.bool (f m n)) w) (hb:∀k (m n:Int),binOp op t (.int k m) (.int k n)=Op.intCmp op m n)
  (H:HR φ h w) {a b:AV} (hx:VR φ a cx) (hy:VR φ b cy) (e:BV (fun _ m n=>.bool (f m n)) a b h=.ok v h'):Good φ h w v h' ((do eqGuard op t p q cx cy;binOp op t cx cy:Sem Value).run P w):=
 kQ H hx hy e fun k m n=>⟨_,by rw [hb];exact hop m n,.bool _⟩
theorem LS (H:HR φ h w) {a b:AV} (hx:VR φ a cx) (hy:VR φ b cy) (e:zW a b h=.ok v h'):Good φ h w v h' ((do eqGuard .eql t p q cx cy;binOp .eql t cx cy:Sem Value).run P w):=
 iT (f:=uk) (fun m n=>by rw [kP];rfl) (fun k m n=>by simp [binOp]) H hx hy e
theorem LU (H:HR φ h w) {a b:AV} (hx:VR φ a cx) (hy:VR φ b cy) (e:cP a b h=.ok v h'):Good φ h w v h' ((do eqGuard .neq t p q cx cy;binOp .neq t cx cy:Sem Value).run P w):=
 iT (f:=fun m n=>Bool.not (uk m n)) (fun m n=>by rw [kP];rfl) (fun k m n=>by simp [binOp]) H hx hy e
theorem LV (H:HR φ h w) {a b:AV} (hx:VR φ a cx) (hy:VR φ b cy) (e:ym a b h=.ok v h'):Good φ h w v h' ((do eqGuard .lss t p q cx cy;binOp .lss t cx cy:Sem Value).run P w):=
 iT (f:=LB) (fun m n=>by rw [wT];rfl) (fun k m n=>by simp [binOp]) H hx hy e
theorem LW (H:HR φ h w) {a b:AV} (hx:VR φ a cx) (hy:VR φ b cy) (e:Ao a b h=.ok v h'):Good φ h w v h' ((do eqGuard .leq t p q cx cy;binOp .leq t cx cy:Sem Value).run P w):=
 iT (f:=WO) (fun m n=>by rw [Ia];rfl) (fun k m n=>by simp [binOp]) H hx hy e
theorem LX (H:HR φ h w) {a b:AV} (hx:VR φ a cx) (hy:VR φ b cy) (e:mE a b h=.ok v h'):Good φ h w v h' ((do eqGuard .gtr t p q cx cy;binOp .gtr t cx cy:Sem Value).run P w):=
 iT (f:=fun m n=>LB n m) (fun m n=>by rw [wT];rfl) (fun k m n=>by simp [binOp]) H hx hy e
theorem LY (H:HR φ h w) {a b:AV} (hx:VR φ a cx) (hy:VR φ b cy) (e:nN a b h=.ok v h'):Good φ h w v h' ((do eqGuard .geq t p q cx cy;binOp .geq t cx cy:Sem Value).run P w):=
 iT (f:=fun m n=>WO n m) (fun m n=>by rw [Ia];rfl) (fun k m n=>by simp [binOp]) H hx hy e
end
variable {P:Program} {φ:aJ} {h h':Hp} {w:World} {v:AV} {x y z:AO} {r:A2}
theorem te:∀(a b:List Nat),kI a b=decide (a=b)
 | [],[]=>rfl
 | [],_::_=>rfl
 | _::_,[]=>rfl
 | x::a,y::b=>by
  show (Bool.rec false (kI a b) (Nat.beq x y):Bool)=_
  rw [te a b,show Nat.beq x y=decide (x=y) by rw [Bool.eq_iff_iff,Nat.beq_eq];simp]
  by_cases hxy:x=y
  ·subst hxy;simp
  ·simp [hxy]
theorem kR:∀(a b:List UInt8),vh (a.map UInt8.toNat) (b.map UInt8.toNat)=Op.bytesLess a b
 | [],[]=>rfl
 | [],_::_=>rfl
 | _::_,[]=>rfl
 | x::a,y::b=>by
  show (Bool.rec (Nat.ble x.toNat y.toNat) (vh (a.map UInt8.toNat) (b.map UInt8.toNat)) (Nat.beq x.toNat y.toNat):Bool)=(decide (x < y) || (x == y&&Op.bytesLess a b))
  rw [kR a b,show Nat.beq x.toNat y.toNat=decide (x.toNat=y.toNat) by rw [Bool.eq_iff_iff,Nat.beq_eq];simp]
  by_cases hxy:x=y
  ·subst hxy;simp
  ·have h1:x.toNat≠y.toNat:=fun e=>hxy (UInt8.toNat_inj.1 e)
   have h2:(x == y)=false:=by simpa using hxy
   rw [h2]
   simp only [h1,decide_false,Bool.false_and,Bool.or_false]
   rw [Bool.eq_iff_iff,Nat.ble_eq]
   simp only [decide_eq_true_eq,UInt8.lt_iff_toNat_lt]
   omega
theorem uv {a b:List UInt8}:a.map UInt8.toNat=b.map UInt8.toNat↔a=b:=by
 constructor
 ·intro e
  exact (List.map_inj_right (fun _ _ h=>UInt8.toNat_inj.1 h)).1 e
 ·rintro rfl;rfl
theorem fU (a b:ByteArray):kI (a.data.toList.map UInt8.toNat) (b.data.toList.map UInt8.toNat)=(a.toList == b.toList):=by
 rw [te,ByteArray.toList_eq,ByteArray.toList_eq,Bool.eq_iff_iff,decide_eq_true_eq,beq_iff_eq,uv]
theorem eJ:∀(a b:List UInt8),(!Op.bytesLess b a)=(Op.bytesLess a b || a == b)
 | [],[]=>rfl
 | [],_::_=>rfl
 | _::_,[]=>rfl
 | x::a,y::b=>by
  show (!(decide (y < x) || (y == x&&Op.bytesLess b a)))=((decide (x < y) || (x == y&&Op.bytesLess a b)) || (x::a == y::b))
  have ih:=eJ a b
  by_cases hxy:x=y
  ·subst hxy
   have:¬ x < x:=by simp
   simpa [this] using ih
  ·have h2:(x == y)=false:=by simpa using hxy
   have h3:(y == x)=false:=by simpa using fun e=>hxy e.symm
   have h4:(x::a == y::b)=false:=by simp [hxy]
   rw [h2,h3,h4]
   simp only [Bool.false_and,Bool.or_false]
   rw [Bool.eq_iff_iff]
   have:x.toNat≠y.toNat:=fun e=>hxy (UInt8.toNat_inj.1 e)
   simp only [Bool.not_eq_true',decide_eq_false_iff_not,decide_eq_true_eq,UInt8.lt_iff_toNat_lt]
   omega
theorem Io {f:List Nat→List Nat→AV} {a b:AV} (e:LF f a b h=.ok v h'):∃k m,a=.str k∧b=.str m∧v=f k m∧h'=h:=by
 obtain ⟨k,rfl,e1⟩:=cB e
 obtain ⟨m,rfl,e2⟩:=cB e1
 obtain ⟨rfl,rfl⟩:=RV.av e2
 exact ⟨k,m,rfl,rfl,rfl,rfl⟩
theorem jN {op:BinOp} {t:TypeId} {p q:Operand} {a b:ByteArray}:(eqGuard op t p q (.string a) (.string b)).run P w=.ok () w:=by
 unfold eqGuard
 cases op<;>simp
section
variable {t:TypeId} {p q:Operand} {cx cy:Value}
theorem iU {f:List Nat→List Nat→AV} {op:BinOp} (H:HR φ h w) {a b:AV} (hx:VR φ a cx) (hy:VR φ b cy) (e:LF f a b h=.ok v h')
  (hf:∀s u:ByteArray,∃c,(binOp op t (.string s) (.string u)).run P w=.ok c w∧VR φ (f (s.data.toList.map UInt8.toNat) (u.data.toList.map UInt8.toNat)) c):Good φ h w v h' ((do eqGuard op t p q cx cy;binOp op t cx cy:Sem Value).run P w):=by
 obtain ⟨k,m,rfl,rfl,rfl,rfl⟩:=Io e
 obtain ⟨s,rfl,rfl⟩:=hx.cZ
 obtain ⟨u,rfl,rfl⟩:=hy.cZ
 obtain ⟨c,h1,h2⟩:=hf s u
 refine .same H h2 ?_
 simp [jN,h1]
theorem Ip (H:HR φ h w) {a b:AV} (hx:VR φ a cx) (hy:VR φ b cy) (e:aW a b h=.ok v h'):Good φ h w v h' ((do eqGuard .eql t p q cx cy;binOp .eql t cx cy:Sem Value).run P w):=
 iU H hx hy e fun s u=>⟨.bool (s.toList == u.toList),by simp [binOp,Op.stringOp],by rw [fU];exact .bool _⟩
theorem Iq (H:HR φ h w) {a b:AV} (hx:VR φ a cx) (hy:VR φ b cy) (e:yD a b h=.ok v h'):Good φ h w v h' ((do eqGuard .neq t p q cx cy;binOp .neq t cx cy:Sem Value).run P w):=
 iU H hx hy e fun s u=>⟨.bool (!(s.toList == u.toList)),by simp [binOp,Op.stringOp],by rw [fU];exact .bool _⟩
theorem Ir (H:HR φ h w) {a b:AV} (hx:VR φ a cx) (hy:VR φ b cy) (e:BQ a b h=.ok v h'):Good φ h w v h' ((do eqGuard .lss t p q cx cy;binOp .lss t cx cy:Sem Value).run P w):=
 iU H hx hy e fun s u=>⟨.bool (Op.bytesLess s.toList u.toList),by simp [binOp,Op.stringOp],by rw [kR,ByteArray.toList_eq,ByteArray.toList_eq];exact .bool _⟩
theorem It (H:HR φ h w) {a b:AV} (hx:VR φ a cx) (hy:VR φ b cy) (e:Ns a b h=.ok v h'):Good φ h w v h' ((do eqGuard .gtr t p q cx cy;binOp .gtr t cx cy:Sem Value).run P w):=
 iU H hx hy e fun s u=>⟨.bool (!(Op.bytesLess s.toList u.toList || s.toList == u.toList)),by simp [binOp,Op.stringOp],by
  rw [kR,ByteArray.toList_eq,ByteArray.toList_eq,←eJ,Bool.not_not];exact .bool _⟩
theorem Iu (H:HR φ h w) {a b:AV} (hx:VR φ a cx) (hy:VR φ b cy) (e:Nr a b h=.ok v h'):Good φ h w v h' ((do eqGuard .leq t p q cx cy;binOp .leq t cx cy:Sem Value).run P w):=
 iU H hx hy e fun s u=>⟨.bool (Op.bytesLess s.toList u.toList || s.toList == u.toList),by simp [binOp,Op.stringOp],by
  rw [kR,ByteArray.toList_eq,ByteArray.toList_eq,←eJ];exact .bool _⟩
theorem Iw (H:HR φ h w) {a b:AV} (hx:VR φ a cx) (hy:VR φ b cy) (e:Nt a b h=.ok v h'):Good φ h w v h' ((do eqGuard .geq t p q cx cy;binOp .geq t cx cy:Sem Value).run P w):=
 iU H hx hy e fun s u=>⟨.bool (!Op.bytesLess s.toList u.toList),by simp [binOp,Op.stringOp],by
  rw [kR,ByteArray.toList_eq,ByteArray.toList_eq];exact .bool _⟩
theorem Ix (H:HR φ h w) {a b:AV} (hx:VR φ a cx) (hy:VR φ b cy) (e:df a b h=.ok v h'):Good φ h w v h' ((do eqGuard .add t p q cx cy;binOp .add t cx cy:Sem Value).run P w):=by
 obtain ⟨k,rfl,e1⟩:=cB e
 obtain ⟨m,rfl,e2⟩:=cB e1
 obtain ⟨hb,e3⟩:=aC e2
 obtain ⟨rfl,rfl⟩:=RV.av e3
 obtain ⟨s,rfl,rfl⟩:=hx.cZ
 obtain ⟨u,rfl,rfl⟩:=hy.cZ
 have hle:=Nat.le_of_ble_eq_true hb
 simp only [List.length_map,Array.length_toList,Nat.add_eq] at hle
 refine .same H (.str (s ++ u) _ ?_) (cv:=.string (s ++ u)) ?_
 ·simp
 ·have:(binOp .add t (.string s) (.string u)).run P w=.ok (.string (s ++ u)) w:=by
   rw [binOp_string_add]
   exact run_string_add_sum w s u (by have h1:s.size=s.data.size:=rfl;have h2:u.size=u.data.size:=rfl;omega)
  simp [jN,this]
end
theorem Iy {neg:Bool} {b:EB} (e:EB.rv neg h b=.ok v h'):h'=h∧((b=.yes∧v=.bool (!neg))∨(b=.no∧v=.bool neg)):=by
 cases b
 ·cases e;exact ⟨rfl,.inl ⟨rfl,rfl⟩⟩
 ·cases e;exact ⟨rfl,.inr ⟨rfl,rfl⟩⟩
 ·cases e
theorem nU {a b:H}:nQ a b=true↔a=b:=by cases a<;>cases b<;>simp [nQ,H.nat]
theorem eT {a b:P4}:lk a b=true↔a=b:=by
 obtain ⟨a1,a2,a3,a4⟩:=a
 obtain ⟨b1,b2,b3,b4⟩:=b
 show (Bool.rec false (Bool.rec false (Bool.rec false (nQ a1 b1) (nQ a2 b2)) (nQ a3 b3)) (nQ a4 b4):Bool)=true↔_
 rw [P4.mk.injEq,←nU,←nU,←nU,←nU]
 cases nQ a1 b1<;>cases nQ a2 b2<;>cases nQ a3 b3<;>cases nQ a4 b4<;>simp
variable {P:Program} {φ:aJ} {h h':Hp} {w:World} {v:AV} {x y z:AO} {r:A2}
theorem VR.iV {c:Value} (hv:VR φ .di c):c=.pointer none:=by cases hv;rfl
theorem VR.fc {i:P4} {o:Nat} {c:Value} (hv:VR φ (.ptr i o) c):∃p,φ i=some p∧c=.pointer (some (p.addr o)):=by cases hv;exact ⟨_,by assumption,rfl⟩
theorem qb {o:Obj} (e:eV o=true):∃el n ex c,o=.cells el n ex .plain c:=by
 cases o with
 | cells el n ex fl c=>cases fl with
  | plain=>exact ⟨_,_,_,_,rfl⟩
  | mark=>cases e
  | wE=>cases e
 | _=>cases e
theorem HR.plain (H:HR φ h w) {i:P4} {p:Place} {el n:Nat} {ex:Bool} {c:Cl} (hi:au i h=.cells el n ex .plain c) (hp:φ i=some p):∃rc,w.heap[p.bJ]?=some (.cells rc el (0,0)):=by
 obtain ⟨q,hq,hr⟩:=H.obj i (hi▸aK)
 rw [hp] at hq;cases hq
 rw [hi] at hr
 obtain ⟨rc,fz,g1,g2,g3,g4,g5,g6,g7⟩:=hr
 exact ⟨rc,by rw [g1];simp only [Dm] at g7;rw [g7]⟩
theorem mR {a b:Addr} {ra rb:Array Value} {ea eb:TypeId} (ha:w.heap[a.block]?=some (.cells ra ea (0,0))) (hb:w.heap[b.block]?=some (.cells rb eb (0,0))) (hne:a.block≠b.block) :
  (sameAddr a b).run P w=.ok false w:=by
 have h1:(a.block == b.block)=false:=by simpa using hne
 have fa:∀o s,w.frozen? ⟨a.block,o,s⟩=false:=fun o s=>by simp [World.frozen?,ha]
 have fb:∀o s,w.frozen? ⟨b.block,o,s⟩=false:=fun o s=>by simp [World.frozen?,hb]
 have fa':w.frozen? a=false:=by obtain ⟨x,y,z⟩:=a;exact fa y z
 have fb':w.frozen? b=false:=by obtain ⟨x,y,z⟩:=b;exact fb y z
 have sa:w.shape? a.block=some (ea,ra.size):=by simp [World.shape?,ha]
 have sb:w.shape? b.block=some (eb,rb.size):=by simp [World.shape?,hb]
 simp [sameAddr,h1,fa',fb',noView,viewAt,sa,sb,mayBeOne,stringish,fa,fb]
theorem qn (d:Nat) {t e:TypeId} {x y:AV} {cx cy:Value} (H:HR φ h w) (hx:VR φ x cx) (hy:VR φ y cy) (ht:P.underlying t=some (.pointer e)) {ie:TypeInfo} (hi:P.info? e=some ie) (hs:ie.size≠0) {b:Bool}
  (hb:SE h x y=EB.of b):(Op.equalIn (d+1) t cx cy).run P w=.ok b w:=by
 cases x with
 | di=>
  rw [hx.iV]
  cases y with
  | di=>rw [hy.iV];cases b<;>cases hb;simp [Op.equalIn,ak ht]
  | ptr j q=>obtain ⟨p,h1,rfl⟩:=hy.fc;cases b<;>cases hb;simp [Op.equalIn,ak ht]
  | _=>cases b<;>cases hb
 | ptr i o=>
  obtain ⟨p,h1,rfl⟩:=hx.fc
  cases y with
  | di=>rw [hy.iV];cases b<;>cases hb;simp [Op.equalIn,ak ht]
  | ptr j q=>
   obtain ⟨p',h2,rfl⟩:=hy.fc
   change (Bool.rec (Bool.rec EB.bad (Bool.rec EB.bad EB.no (eV (au j h))) (eV (au i h))) (EB.of (Nat.beq o q)) (lk i j):EB)=EB.of b at hb
   cases hij:lk i j with
   | true=>
    rw [hij] at hb
    obtain rfl:=eT.1 hij
    rw [h1] at h2;cases h2
    have hb':b=decide (o=q):=by
     have:Nat.beq o q=decide (o=q):=by rw [Bool.eq_iff_iff,Nat.beq_eq];simp
     rw [←this]
     cases b<;>cases hq:Nat.beq o q<;>rw [hq] at hb<;>first|rfl|cases hb
    subst hb'
    simp only [Op.equalIn,Sem.run_bind,ak ht,Result.andThen_ok,aP hi,Place.addr,sameAddr]
    simp [hs]
    by_cases e:o=q<;>simp [e]
   | false=>
    rw [hij] at hb
    cases hp1:eV (au i h) with
    | false=>rw [hp1] at hb;cases b<;>cases hb
    | true=>
     cases hp2:eV (au j h) with
     | false=>rw [hp1,hp2] at hb;cases b<;>cases hb
     | true=>
      rw [hp1,hp2] at hb
      obtain ⟨el,n,ex,c,g1⟩:=qb hp1
      obtain ⟨el',n',ex',c',g2⟩:=qb hp2
      obtain ⟨ra,ha⟩:=H.plain g1 h1
      obtain ⟨rb,hb'⟩:=H.plain g2 h2
      have hne:p.bJ≠p'.bJ:=H.inj i j p p' (g1▸aK) (g2▸aK) (fun e=>by rw [eT.2 e] at hij;cases hij) h1 h2
      have hbf:b=false:=by cases b;rfl;cases hb
      subst hbf
      simp only [Op.equalIn,Sem.run_bind,ak ht,Result.andThen_ok,aP hi]
      simp [hs,mR (P:=P) (a:=p.addr o) (b:=p'.addr q) ha hb' hne]
  | _=>cases b<;>cases hb
 | _=>cases b<;>cases hb
def Tu (P:Program) (k:KK) (t:TypeId):Prop:=match k with
 | .b=>P.underlying t=some .bool
 | .i=>∃k,P.underlying t=some (.int k)
 | .s=>P.underlying t=some .string
 | .p=>∃e ie,P.underlying t=some (.pointer e)∧P.info? e=some ie∧ie.size≠0
theorem eh {a b:Bool} (e:EB.of a=EB.of b):a=b:=by cases a<;>cases b<;>first|rfl|cases e
theorem jB (d:Nat) {k:KK} {t:TypeId} {a c:AV} {ca cc:Value} (H:HR φ h w) (hx:VR φ a ca) (hy:VR φ c cc) (hk:Tu P k t) {b:Bool} (hb:Kr k h a c=EB.of b) :
  (Op.equalIn (d+1) t ca cc).run P w=.ok b w:=by
 cases k with
 | b=>
  cases a<;>(try (cases b<;>cases hb;done))
  rename_i m
  cases c<;>(try (cases b<;>cases hb;done))
  rename_i n
  rw [hx.cQ,hy.cQ,run_equalIn_bool' _ _ _ _ _ hk]
  have:=eh (show EB.of (eH m n)=EB.of b from hb)
  subst this
  cases m<;>cases n<;>rfl
 | i=>
  obtain ⟨kk,hk⟩:=hk
  cases a<;>(try (cases b<;>cases hb;done))
  rename_i k1 m
  cases c<;>(try (cases b<;>cases hb;done))
  rename_i k2 n
  change (Bool.rec EB.bad (EB.of (uk m n)) (nP k1 k2):EB)=_ at hb
  cases hq:nP k1 k2 with
  | false=>rw [hq] at hb;cases b<;>cases hb
  | true=>
   rw [hq] at hb
   obtain rfl:=gM hq
   rw [hx.aU,hy.aU,run_equalIn_int _ _ _ _ _ _ _ hk]
   have:=eh (show EB.of (uk m n)=EB.of b from hb)
   subst this
   rw [kP];rfl
 | s=>
  cases a<;>(try (cases b<;>cases hb;done))
  rename_i m
  cases c<;>(try (cases b<;>cases hb;done))
  rename_i n
  obtain ⟨s,rfl,rfl⟩:=hx.cZ
  obtain ⟨u,rfl,rfl⟩:=hy.cZ
  rw [run_equalIn_string _ _ _ _ _ hk]
  have:=eh (show EB.of (kI _ _)=EB.of b from hb)
  subst this
  rw [fU]
 | p=>
  obtain ⟨e,ie,h1,h2,h3⟩:=hk
  exact qn d H hx hy h1 h2 h3 hb
variable {P:Program} {φ:aJ} {h h':Hp} {w:World} {v:AV} {x y z:AO} {r:A2}
theorem yV {t:TypeId} {k:KK} (e:Bz P t=some k):Tu P k t:=by
 unfold Bz at e
 split at e
 ·cases e;assumption
 ·cases e;exact ⟨_,by assumption⟩
 ·cases e;assumption
 ·rename_i e' he
  split at e
  ·rename_i ie hie
   split at e
   ·cases e
   ·cases e;exact ⟨_,ie,he,hie,by assumption⟩
  ·cases e
 ·cases e
theorem Tu.jh {k:KK} {t:TypeId} (hk:Tu P k t):∃d,P.underlying t=some d∧qv P t=false:=by
 cases k with
 | b=>exact ⟨_,hk,by simp [qv,Am.jh,(show P.underlying t=some .bool from hk)]⟩
 | i=>obtain ⟨kk,hk⟩:=hk;exact ⟨_,hk,by simp [qv,Am.jh,hk]⟩
 | s=>exact ⟨_,hk,by simp [qv,Am.jh,(show P.underlying t=some .string from hk)]⟩
 | p=>obtain ⟨e,ie,hk,_⟩:=hk;exact ⟨_,hk,by simp [qv,Am.jh,hk]⟩
theorem gq {t:TypeId} {d:TypeDesc} (hd:P.underlying t=some d) (ha:qv P t=false) {cs:Array Value} {o:Nat} {c:Value} (hc:cs[o]?=some c):(part t cs o).run P w=.ok c w:=by
 simp [part,gx hd,ha,hc]
theorem wV (d:Nat) (H:HR φ h w) {xs ys:Array Value}:∀(fs:List Field) (i:Nat) (ks:List KK) (as bs:List AV) (vs ws:List Value),lU P fs i=some ks→bX φ as vs→bX φ bs ws→
  (∀k (hk:k < vs.length),xs[i+k]?=some vs[k])→(∀k (hk:k < ws.length),ys[i+k]?=some ws[k])→∀b,yG ks h as bs=EB.of b→(Op.eqFields (d+1) xs ys fs).run P w=.ok b w:=by
 intro fs
 induction fs with
 | nil=>
  intro i ks as bs vs ws hf ha hb _ _ b he
  cases hf
  cases ha with
  | nil=>cases hb with
   | nil=>cases b<;>cases he;rfl
   | cons=>cases b<;>cases he
  | cons=>cases b<;>cases he
 | cons f fs ih=>
  intro i ks as bs vs ws hf ha hb hxs hys b he
  unfold lU at hf
  split at hf
  ·cases hf
  ·rename_i hn
   split at hf
   ·rename_i k ks' hk hks
    cases hf
    have hname:f.name≠ "_" :=fun e=>hn (.inl e)
    have hoff:f.offset=i:=by
     rcases Nat.decEq f.offset i with e|e
     ·exact absurd (.inr e) hn
     ·exact e
    cases ha with
    | nil=>cases b<;>cases he
    | cons a va as vs hva hvs=>
     cases hb with
     | nil=>cases b<;>cases he
     | cons c vc bs ws hvc hws=>
      have hK:=yV hk
      obtain ⟨dd,hd,hag⟩:=hK.jh
      have p1:=gq (w:=w) hd hag (show xs[f.offset]?=some va by rw [hoff];exact hxs 0 (by simp))
      have p2:=gq (w:=w) hd hag (show ys[f.offset]?=some vc by rw [hoff];exact hys 0 (by simp))
      change (EB.rec (yG ks' h as bs) (EB.rec .no .no .bad (yG ks' h as bs)) .bad (Kr k h a c):EB)=EB.of b at he
      have ih':=ih (i+1) ks' as bs vs ws hks hvs hws (fun k hk=>by have:=hxs (k+1) (by simp;omega);simpa [Nat.add_assoc,Nat.add_comm 1 k] using this) (fun k hk=>by have:=hys (k+1) (by simp;omega);simpa [Nat.add_assoc,Nat.add_comm 1 k] using this)
      cases hq:Kr k h a c with
      | yes=>
       rw [hq] at he
       have e1:=jB (P:=P) d H hva hvc hK (b:=true) hq
       simp [Op.eqFields,hname,p1,p2,e1,ih' b he]
      | no=>
       rw [hq] at he
       have e1:=jB (P:=P) d H hva hvc hK (b:=false) hq
       have:b=false:=by cases hz:yG ks' h as bs<;>rw [hz] at he<;>cases b<;>first|rfl|cases he
       subst this
       simp [Op.eqFields,hname,p1,p2,e1]
      | bad=>rw [hq] at he;cases b<;>cases he
   ·cases hf
theorem iW (d:Nat) (H:HR φ h w) {t:TypeId} {ks:List KK} (hk:sk P t=some ks) {as bs:List AV} {vs ws:List Value} (ha:bX φ as vs) (hb:bX φ bs ws) {b:Bool} (he:yG ks h as bs=EB.of b) :
  (Op.equalIn (d+2) t (.agg vs.toArray) (.agg ws.toArray)).run P w=.ok b w:=by
 unfold sk at hk
 split at hk
 ·rename_i fs hfs
  split at hk
  ·cases hk
  ·rename_i hst
   have hF:P.fieldsOf t=fs:=by simp [Program.fieldsOf,hfs]
   rw [run_equalIn_struct w (d+1) t _ _ (by rw [hF];exact hfs) (by simpa using hst),hF]
   exact wV d H fs.toList 0 ks as bs vs ws hk ha hb (by simp) (by simp) b he
 ·cases hk
theorem nV {neg:Bool} {b:EB} (e:EB.rv neg h b=.ok v h'):∃c,b=EB.of c∧v=.bool (c != neg)∧h'=h:=by
 cases b
 ·cases e;exact ⟨true,rfl,by cases neg<;>rfl,rfl⟩
 ·cases e;exact ⟨false,rfl,by cases neg<;>rfl,rfl⟩
 ·cases e
section
variable {t:TypeId} {p q:Operand} {cx cy:Value}
theorem fe {op:BinOp} (hx:∀cs,cx≠.agg cs) (hy:cx≠.nilIface):(eqGuard op t p q cx cy).run P w=.ok () w:=by
 unfold eqGuard
 cases op<;>simp<;>cases cx<;>first|rfl|simp_all
theorem eD {b:Bool} (hs:(Op.equalIn 10000 t cx cy).run P w=.ok b w) (hx:∀k n,cx≠.int k n) (hf:∀k n,cx≠.float k n) (hc:∀k m n,cx≠.complex k m n) (hu:∀s,cx≠.string s) :
  (binOp .eql t cx cy).run P w=.ok (.bool b) w∧(binOp .neq t cx cy).run P w=.ok (.bool (!b)) w:=by
 have e1:binOp .eql t cx cy=(do pure (.bool (←Op.equal t cx cy)):Sem Value):=by
  cases cx<;>first|exact absurd rfl (hx _ _)|exact absurd rfl (hf _ _)|exact absurd rfl (hc _ _ _)|exact absurd rfl (hu _)|(cases cy<;>rfl)
 have e2:binOp .neq t cx cy=(do pure (.bool (!(←Op.equal t cx cy))):Sem Value):=by
  cases cx<;>first|exact absurd rfl (hx _ _)|exact absurd rfl (hf _ _)|exact absurd rfl (hc _ _ _)|exact absurd rfl (hu _)|(cases cy<;>rfl)
 rw [e1,e2]
 simp [Op.equal,Op.maxDepth,hs]
theorem yW (neg:Bool) (H:HR φ h w) {a b:AV} (hx:VR φ a cx) (hy:VR φ b cy) (ht:P.underlying t=some .bool) (e:EB.rv neg h (XX a b)=.ok v h') :
  Good φ h w v h' ((do eqGuard (if neg then .neq else .eql) t p q cx cy;binOp (if neg then .neq else .eql) t cx cy:Sem Value).run P w):=by
 obtain ⟨c,hc,rfl,rfl⟩:=nV e
 have hr:=jB (P:=P) (t:=t) 9999 (k:=.b) H hx hy ht hc
 have hb:∃m,cx=.bool m:=by
  cases a<;>(try (cases c<;>cases hc;done))
  exact ⟨_,hx.cQ⟩
 obtain ⟨m,rfl⟩:=hb
 obtain ⟨g1,g2⟩:=eD hr (by simp) (by simp) (by simp) (by simp)
 refine .same H (.bool _) ?_
 cases neg
 ·simp [fe,g1]
 ·simp [fe,g2]
theorem yX (neg:Bool) (H:HR φ h w) {a b:AV} (hx:VR φ a cx) (hy:VR φ b cy) (ht:Tu P .p t) (e:EB.rv neg h (SE h a b)=.ok v h') :
  Good φ h w v h' ((do eqGuard (if neg then .neq else .eql) t p q cx cy;binOp (if neg then .neq else .eql) t cx cy:Sem Value).run P w):=by
 obtain ⟨c,hc,rfl,rfl⟩:=nV e
 have hr:=jB (P:=P) (t:=t) 9999 (k:=.p) H hx hy ht hc
 have hb:∃m,cx=.pointer m:=by
  cases a<;>(try (cases c<;>cases hc;done))
  ·obtain ⟨_,_,e⟩:=hx.fc;exact ⟨_,e⟩
  ·exact ⟨_,hx.iV⟩
 obtain ⟨m,rfl⟩:=hb
 obtain ⟨g1,g2⟩:=eD hr (by simp) (by simp) (by simp) (by simp)
 refine .same H (.bool _) ?_
 cases neg
 ·simp [fe,g1]
 ·simp [fe,g2]
theorem VR.fL {l:List AV} {c:Value} (hv:VR φ (.agg l) c):∃vs:List Value,c=.agg vs.toArray∧bX φ l vs∧∀d,d∈vs→d.oneCell'=true:=by cases hv;exact ⟨_,rfl,by assumption,by assumption⟩
theorem yY (neg:Bool) (H:HR φ h w) {a b:AV} (hx:VR φ a cx) (hy:VR φ b cy) {ks:List KK} (ht:sk P t=some ks) (hg:P.eqGuardType P.depth t=false) (e:yH neg ks a b h=.ok v h') :
  Good φ h w v h' ((do eqGuard (if neg then .neq else .eql) t p q cx cy;binOp (if neg then .neq else .eql) t cx cy:Sem Value).run P w):=by
 obtain ⟨as,rfl,e1⟩:=dn e
 obtain ⟨bs,rfl,e2⟩:=dn e1
 obtain ⟨c,hc,rfl,rfl⟩:=nV e2
 obtain ⟨vs,rfl,hvs,_⟩:=hx.fL
 obtain ⟨ws,rfl,hws,_⟩:=hy.fL
 have hr:=iW (P:=P) 9998 H ht hvs hws hc
 obtain ⟨g1,g2⟩:=eD hr (by simp) (by simp) (by simp) (by simp)
 refine .same H (.bool _) ?_
 cases neg
 ·simp [run_eqGuard_agg _ _ _ _ _ _ _ hg,g1]
 ·simp [run_eqGuard_agg _ _ _ _ _ _ _ hg,g2]
end
variable {t0:TypeId} {P:Program} {φ:aJ} {h h':Hp} {w:World} {v:AV} {x y z:AO} {r:A2} {cx cy:Value}
theorem VR.LZ {l:List AV} {c:Value} (hv:VR φ (.bU l) c):∃vs:List Value,c=.tuple vs.toArray∧bX φ l vs:=by cases hv;exact ⟨_,rfl,by assumption⟩
theorem Iz (H:HR φ h w) {a:AV} (hx:VR φ a cx) (e:bG a h=.ok v h'):Good φ h w v h' ((Op.unary .not cx).run P w):=by
 obtain ⟨b,rfl,e1⟩:=lA e
 obtain ⟨rfl,rfl⟩:=RV.av e1
 rw [hx.cQ]
 exact .same H (.bool _) rfl
theorem IA (H:HR φ h w) {a:AV} (hx:VR φ a cx) (e:yE a h=.ok v h'):Good φ h w v h' ((Op.unary .neg cx).run P w):=by
 obtain ⟨k,n,rfl,e1⟩:=bu e
 obtain ⟨rfl,rfl⟩:=RV.av e1
 rw [hx.aU]
 refine .same H (cv:=.int k (k.wrap (-n))) (by rw [eB,Cp];exact .int _ _) ?_
 simp [Op.unary,Op.intArith]
theorem IB (H:HR φ h w) {a:AV} (hx:VR φ a cx) (e:uR a h=.ok v h'):Good φ h w v h' ((Op.unary .xor cx).run P w):=by
 obtain ⟨k,n,rfl,e1⟩:=bu e
 obtain ⟨rfl,rfl⟩:=RV.av e1
 rw [hx.aU]
 exact .same H (.int _ _) (by simp [Op.unary,Op.intBits])
theorem Dp {cc ca cb:Value} (H:HR φ h w) {c a b:AO} (hc:VR φ (ev c r) cc) (ha:VR φ (ev a r) ca) (hb:VR φ (ev b r) cb) (e:dm c a b r h=.ok v h') :
  Good φ h w v h' ((do pure (if←asBool cc then ca else cb):Sem Value).run P w):=by
 obtain ⟨t,et,e1⟩:=lA e
 obtain ⟨rfl,rfl⟩:=RV.av e1
 rw [et] at hc
 rw [hc.cQ]
 cases t
 ·exact .same H hb (by simp [asBool])
 ·exact .same H ha (by simp [asBool])
theorem drop_cons {α:Type} {l t:List α} {i:Nat} {a:α} (e:l.drop i=a::t):∃hi:i < l.length,l[i]=a:=by
 have hi:i < l.length:=by
  rcases Nat.lt_or_ge i l.length with g|g
  ·exact g
  ·rw [List.drop_of_length_le g] at e;cases e
 refine ⟨hi,?_⟩
 rw [List.drop_eq_getElem_cons hi] at e
 exact (List.cons.inj e).1
theorem wW {α:Type} {l:List α} {n:Nat} {k:α→RV} (e:(List.rec (.err n) (fun a _ _=>k a) l:RV)=.ok v h):∃a t,l=a::t∧k a=.ok v h:=by
 cases l with
 | nil=>cases e
 | cons a t=>exact ⟨a,t,rfl,e⟩
theorem IC (H:HR φ h w) {i:Nat} (hx:VR φ (ev x r) cx) (e:vj i x r h=.ok v h'):Good φ h w v h' ((Instr.extract cx i).run P w):=by
 obtain ⟨l,el,e1⟩:=yU e
 obtain ⟨a,t,ed,e2⟩:=wW (k:=fun v=>.ok v h) e1
 obtain ⟨rfl,rfl⟩:=RV.av e2
 rw [el] at hx
 obtain ⟨vs,rfl,hvs⟩:=hx.LZ
 obtain ⟨hi,ha⟩:=drop_cons ed
 have hi':i < vs.length:=by rw [←hvs.length];exact hi
 refine .same H (cv:=vs[i]) (by rw [←ha];exact hvs.get i hi hi') ?_
 simp [Instr.extract,hi']
theorem Dq (H:HR φ h w) (hx:VR φ (ev x r) cx) (e:pd x r h=.ok v h'):v=ev x r∧h'=h∧(cx≠.pointer none∧cx≠.nilIface∧cx≠.nilFunc):=by
 change (OP.rec (nq (ev x r) h) (fun i o=>.ok (.ptr i o) h) (ev x r).fo:RV)=_ at e
 generalize ev x r=a at hx e
 cases hx<;>first
  | (cases e;exact ⟨rfl,rfl,by simp,by simp,by simp⟩)
  | (cases e;done)
theorem ID (H:HR φ h w) (hx:VR φ (ev x r) cx) {t:TypeId} {fs:Array Field} {f:Nat} {fd:Field} {ie:TypeInfo} (ht:P.underlying t=some (.struct fs)) (hf:fs[f]?=some fd) (hi:P.info? fd.type=some ie) (hs:ie.size≠0)
  (e:rZ fd.offset x r h=.ok v h'):Good φ h w v h' ((Instr.fieldAt t cx f).run P w):=by
 obtain ⟨i,o,ep,e1⟩:=cD e
 obtain ⟨rfl,rfl⟩:=RV.av e1
 rw [ep] at hx
 obtain ⟨p,hp,rfl⟩:=hx.fc
 refine .same H (.ptr i (o+fd.offset) p hp) ?_
 simp [Instr.fieldAt,ak ht,hf,Instr.sureAddr,fieldPlace,aP hi,hs,ct]
theorem vC {k:IntKind} {m:Nat} {n:Nat} (hm:m < n):(0:Int)≤(Int.ofNat m)∧(Int.ofNat m) < (n:Int):=⟨by simp,by simp;omega⟩
theorem IE (H:HR φ h w) (hx:VR φ (ev x r) cx) (hy:VR φ (ev y r) cy) {t e:TypeId} {n:Nat} {ie:TypeInfo} (ht:P.underlying t=some (.array n e)) (hi:P.info? e=some ie)
  (he:vi n ie.size x y r h=.ok v h'):Good φ h w v h' ((Instr.indexAt t cx cy).run P w):=by
 obtain ⟨kd,m,em,e1⟩:=cY he
 obtain ⟨i,o,ep,e2⟩:=cD e1
 obtain ⟨hb,e3⟩:=aC e2
 obtain ⟨rfl,rfl⟩:=RV.av e3
 rw [ep] at hx
 rw [em] at hy
 obtain ⟨p,hp,rfl⟩:=hx.fc
 rw [hy.aU]
 have hm:=kM hb
 refine .same H (.ptr i (o+m * ie.size) p hp) ?_
 have:(0:Int)≤Int.ofNat m∧Int.ofNat m < (n:Int):=vC (k:=kd) hm
 simp only [Instr.indexAt,asIntOf,Sem.run_bind,Sem.run_pure,Result.andThen_ok,ak ht,Instr.sureAddr]
 simp [this.2,aP hi,ct,hm]
theorem IG (H:HR φ h w) (hx:VR φ (ev x r) cx) (hy:VR φ (ev y r) cy) {t e:TypeId} {ie:TypeInfo} (ht:P.underlying t=some (.slice e)) (hi:P.info? e=some ie)
  (he:sg ie.size x y r h=.ok v h'):Good φ h w v h' ((Instr.indexAt t cx cy).run P w):=by
 obtain ⟨kd,m,em,e1⟩:=cY he
 rw [em] at hy
 rw [hy.aU]
 rcases cW e1 with ⟨i,o,n,c,es,e2⟩|⟨i,o,n,c,es,e2⟩|⟨es,e2⟩
 ·obtain ⟨hb,e3⟩:=aC e2
  obtain ⟨rfl,rfl⟩:=RV.av e3
  rw [es] at hx
  have hm:=kM hb
  cases hx with
  | slice _ _ _ _ p hp=>
   refine .same H (.ptr i (o+m * ie.size) p hp) ?_
   simp only [Instr.indexAt,asIntOf,Sem.run_bind,Sem.run_pure,Result.andThen_ok,ak ht]
   simp [aP hi,ct,hm]
 ·obtain ⟨hb,e3⟩:=aC e2
  obtain ⟨rfl,rfl⟩:=RV.av e3
  rw [es] at hx
  have hm:=kM hb
  cases hx with
  | fX _ _ _ _ cc p a hp h1 h2 h3 h4 h5 h6=>
   have ha:a=p.addr o:=by
    obtain ⟨ab,ao,as⟩:=a
    simp only at h3 h4 h5
    have:=h5 (by omega)
    subst h3 h4 this
    rfl
   subst ha
   refine .same H (.ptr i (o+m * ie.size) p hp) ?_
   simp only [Instr.indexAt,asIntOf,Sem.run_bind,Sem.run_pure,Result.andThen_ok,ak ht]
   simp [aP hi,ct,hm]
 ·cases e2
theorem Dr (H:HR φ h w) (hx:VR φ (ev x r) cx) (hy:VR φ (ev y r) cy) {t:TypeId} (ht:P.underlying t=some .string) (he:gG x y r h=.ok v h'):Good φ h w v h' ((Instr.index t cx cy).run P w):=by
 obtain ⟨kd,m,em,e1⟩:=cY he
 obtain ⟨l,el,e2⟩:=cB e1
 obtain ⟨b,tl,ed,e3⟩:=wW (k:=fun b=>.ok (.int .u8 (.ofNat b)) h) e2
 obtain ⟨rfl,rfl⟩:=RV.av e3
 rw [el] at hx
 rw [em] at hy
 rw [hy.aU]
 obtain ⟨s,rfl,rfl⟩:=hx.cZ
 obtain ⟨hi,hb⟩:=drop_cons ed
 have hm:m < s.size:=by simpa using hi
 refine .same H (cv:=.int .u8 (s[m]).toNat) ?_ ?_
 ·have:b=(s[m]).toNat:=by rw [←hb];simp;rfl
  rw [this];exact .int _ _
 ·simp only [Instr.index,asIntOf,Sem.run_bind,Sem.run_pure,Result.andThen_ok,ak ht]
  simp [ByteArray.getElem?_lt' s m hm]
theorem IH {ts:Array TypeId} (hts:ts[0]?=some t0) (H:HR φ h w) {a:AV} (hx:VR φ a cx) {ty:TypeId} (ht:∃e,P.underlying t0=some (.slice e)) (e:len a h=.ok v h'):Good φ h w v h' ((Builtin.len_ ts ty #[cx]).run P w):=by
 obtain ⟨e',ht'⟩:=ht
 rcases cW e with ⟨i,o,n,c,rfl,e1⟩|⟨i,o,n,c,rfl,e1⟩|⟨rfl,e1⟩
 ·obtain ⟨rfl,rfl⟩:=RV.av e1
  cases hx
  exact .same H (cv:=goInt n) (.int _ _) (by simp [Builtin.len_,hts,ak ht'])
 ·obtain ⟨rfl,rfl⟩:=RV.av e1
  cases hx
  exact .same H (cv:=goInt n) (.int _ _) (by simp [Builtin.len_,hts,ak ht'])
 ·obtain ⟨rfl,rfl⟩:=RV.av e1
  cases hx
  exact .same H (cv:=goInt 0) (.int _ _) (by simp [Builtin.len_,hts,ak ht'])
theorem Ds {ts:Array TypeId} (hts:ts[0]?=some t0) (H:HR φ h w) {a:AV} (hx:VR φ a cx) {ty:TypeId} (ht:P.underlying t0=some .string) (e:iw a h=.ok v h'):Good φ h w v h' ((Builtin.len_ ts ty #[cx]).run P w):=by
 obtain ⟨l,rfl,e1⟩:=cB e
 obtain ⟨rfl,rfl⟩:=RV.av e1
 obtain ⟨s,rfl,rfl⟩:=hx.cZ
 refine .same H (cv:=goInt s.size) ?_ ?_
 ·simp only [hH,goInt,List.length_map,Array.length_toList];exact .int _ _
 ·simp [Builtin.len_,hts,ak ht]
theorem AG (H:HR φ h w) {a:AV} (hx:VR φ a cx) {s d:TypeId} {k k':IntKind} (hs:P.underlying s=some (.int k')) (hd:P.underlying d=some (.int k)) (e:wI k a h=.ok v h'):Good φ h w v h' ((convert s d cx).run P w):=by
 obtain ⟨k1,n,rfl,e1⟩:=bu e
 obtain ⟨rfl,rfl⟩:=RV.av e1
 rw [hx.aU]
 refine .same H (cv:=.int k (k.wrap n)) (by rw [eB];exact .int _ _) ?_
 simp [convert,ak hs,ak hd,Conv.intToInt]
variable {P:Program} {φ:aJ} {h h':Hp} {w:World} {v:AV} {x y z:AO} {r:A2} {cx cy:Value}
theorem wX:∀(l:List AV) (i:Nat) (a:AV),LJ l i a=l.set i a
 | [],i,a=>by cases i<;>rfl
 | x::l,0,a=>rfl
 | x::l,i+1,a=>by
  show x::LJ l i a=_
  rw [wX l i a];rfl
theorem tf (a:AV) (as:List AV) (i:Nat) (l:List AV):nR (a::as) i l=nR as (i+1) (LJ l i a):=rfl
theorem bX.set {φ:aJ}:∀{as:List AV} {vs:List Value} (i:Nat) {a:AV} {c:Value},bX φ as vs→VR φ a c→bX φ (as.set i a) (vs.set i c)
 | _,_,_,_,_,.nil,_=>.nil
 | _,_,0,_,_,.cons _ _ _ _ _ es,h=>.cons _ _ _ _ h es
 | _,_,i+1,_,_,.cons _ _ _ _ e es,h=>.cons _ _ _ _ e (bX.set i es h)
def qo:List Value→Nat→List Value→List Value
 | [],_,l=>l
 | c::cs,i,l=>qo cs (i+1) (l.set i c)
theorem tg:∀(cs:List Value) (k off:Nat) (acc:Array Value),(cs.zipIdx k).foldl (fun a (p:Value×Nat)=>a.setIfInBounds (off+p.2) p.1) acc=(qo cs (off+k) acc.toList).toArray
 | [],_,_,acc=>by simp [qo]
 | c::cs,k,off,acc=>by
  simp only [List.zipIdx_cons,List.foldl_cons,qo]
  rw [tg cs (k+1) off]
  simp [Nat.add_assoc]
theorem bX.qo {φ:aJ}:∀{as:List AV} {cs:List Value} (i:Nat) {bs:List AV} {ds:List Value},bX φ as cs→bX φ bs ds→bX φ (nR as i bs) (Am.qo cs i ds)
 | _,_,_,_,_,.nil,h=>h
 | _,_,i,_,_,.cons a c as cs e es,h=>by
  rw [tf,wX]
  exact bX.qo (i+1) es (h.set i e)
theorem qc:∀(cs:List Value) (i:Nat) (l:List Value),(qo cs i l).length=l.length
 | [],_,_=>rfl
 | c::cs,i,l=>by rw [qo,qc];simp
theorem yZ:∀(cs:List Value) (i:Nat) (l:List Value),(∀c,c∈cs→c.oneCell'=true)→(∀c,c∈l→c.oneCell'=true)→∀c,c∈qo cs i l→c.oneCell'=true
 | [],_,_,_,hl=>hl
 | c::cs,i,l,hc,hl=>by
  refine yZ cs (i+1) (l.set i c) (fun d hd=>hc d (by simp [hd])) fun d hd=>?_
  rcases List.mem_or_eq_of_mem_set hd with g|g
  ·exact hl d g
  ·exact g▸hc c (by simp)
def th (φ:aJ) (r:A2) (place:Nat→Option (Nat×Nat)) (p:Part) (q:Nat×Value):Prop:=match p with
 | .mk off sz x=>place q.1=some (off,sz)∧VR φ (ev x r) q.2
theorem Dt {p:Part} {ps:List Part} (e:fits (p::ps) r=true):(∃off sz x,p=.mk off sz x∧((∃l,ev x r=.agg l∧l.length=sz)∨((ev x r).one=true∧sz=1)))∧fits ps r=true:=by
  obtain ⟨off,sz,x⟩:=p
  change (OL.rec (Bool.rec false (fits ps r) (Bool.and (ev x r).one (Nat.beq sz 1))) (fun l=>Bool.rec false (fits ps r) (Nat.beq l.length sz)) (ev x r).asAgg:Bool)=true at e
  cases hx:ev x r<;>rw [hx] at e
  case agg l=>
    cases hb:Nat.beq l.length sz
    · simp [AV.asAgg,hb] at e
    · simp [AV.asAgg,hb] at e
      exact ⟨⟨off,sz,x,rfl,.inl ⟨l,hx,Nat.eq_of_beq_eq_true hb⟩⟩,e⟩
  all_goals
    simp only [AV.asAgg,AV.one] at e
    first
      | (simp at e;done)
      | (cases hb : Nat.beq sz 1
         · simp [hb] at e
         · simp [hb] at e
           exact ⟨⟨off,sz,x,rfl,.inr ⟨by rw [hx];rfl,Nat.eq_of_beq_eq_true hb⟩⟩,e⟩)
theorem vD (p:Part) (ps:List Part) (r:A2) (l:List AV):fill (p::ps) r l=match p with|.mk off _ x=>fill ps r (nR (AV.cs (ev x r)) off l):=by
 obtain ⟨off,sz,x⟩:=p;rfl
theorem tk {place:Nat→Option (Nat×Nat)}:∀(ps:List Part) (qs:List (Nat×Value)) (l:List AV) (ds:List Value),ps.length=qs.length→(∀k (h1:k < ps.length) (h2:k < qs.length),th φ r place ps[k] qs[k])→fits ps r=true→
  (∀p,p∈ps→match p with|.mk off sz _=>off+sz≤ds.length)→bX φ l ds→(∀c,c∈ds→c.oneCell'=true)→
  ∃es:List Value,Instr.fill place ds.toArray qs=some es.toArray∧bX φ (fill ps r l) es∧∀c,c∈es→c.oneCell'=true:=by
 intro ps
 induction ps with
 | nil=>
  intro qs l ds hl _ _ _ hv h1
  match qs,hl with
  | [],_=>exact ⟨ds,rfl,hv,h1⟩
 | cons p ps ih=>
  intro qs l ds hl hp hf hb hv h1
  match qs,hl with
  | (i,c)::qs,hl=>
   obtain ⟨⟨off,sz,x,rfl,hx⟩,hf'⟩:=Dt hf
   obtain ⟨hpl,hvr⟩:=hp 0 (by simp) (by simp)
   have hcs:bX φ (AV.cs (ev x r)) c.cells.toList∧(∀d,d∈c.cells.toList→d.oneCell'=true)∧c.cells.size=sz:=by
    rcases hx with ⟨as,hx,hs⟩|⟨h2,hs⟩
    ·obtain ⟨g1,g2⟩:=hvr.ig (l:=as) (.inl hx)
     have:AV.cs (ev x r)=as:=by rw [hx];rfl
     exact ⟨this▸g1,g2,by rw [←hs,g1.length];simp⟩
    ·obtain ⟨g1,g2⟩:=hvr.ig (l:=[ev x r]) (.inr ⟨h2,rfl⟩)
     have:AV.cs (ev x r)=[ev x r]:=by
      revert h2;cases ev x r<;>intro h2<;>first|rfl|cases h2
     exact ⟨this▸g1,g2,by have:=g1.length;simp at this;omega⟩
   obtain ⟨g1,g2,g3⟩:=hcs
   have hoff:=hb (.mk off sz x) (by simp)
   simp only at hoff
   have step:=tg c.cells.toList 0 off ds.toArray
   obtain ⟨es,r1,r2,r3⟩:=ih qs (nR (AV.cs (ev x r)) off l) (qo c.cells.toList off ds) (by simpa using hl) (fun k h1 h2=>hp (k+1) (by simpa using h1) (by simpa using h2)) hf'
    (fun q hq=>by have:=hb q (by simp [hq]);revert this;obtain ⟨o',s',x'⟩:=q;simp only;rw [qc];exact id)
    (bX.qo off g1 hv) (yZ _ _ _ g2 h1)
   refine ⟨es,?_,?_,r3⟩
   ·have hpl':place i=some (off,sz):=hpl
    simp only [Instr.fill,hpl',g3]
    rw [if_neg (by simp;omega)]
    rw [←r1]
    congr 1
    rw [←Array.foldl_toList,Array.toList_zipIdx]
    simpa using step
   ·rw [vD];exact r2
variable {P:Program} {φ:aJ} {h h':Hp} {w:World} {v:AV} {x y z:AO} {r:A2} {cx cy:Value}
def sJ (rc:Array Value) (o:Nat):List Value→Array Value
 | []=>rc
 | c::cs=>sJ (rc.setIfInBounds o c) (o+1) cs
theorem eN:∀(cs:List Value) (rc:Array Value) (o:Nat),(sJ rc o cs).size=rc.size
 | [],_,_=>rfl
 | c::cs,rc,o=>by rw [sJ,eN];simp
theorem kE:∀(cs:List Value) (rc:Array Value) (o k:Nat),o+cs.length≤rc.size→(sJ rc o cs)[k]?=if h:o≤k∧k < o+cs.length then some (cs[k - o]'(by omega)) else rc[k]?
 | [],rc,o,k,_=>by rw [sJ,dif_neg (by simp only [List.length_nil];omega)]
 | c::cs,rc,o,k,hb=>by
  simp only [List.length_cons] at hb
  rw [sJ,kE cs _ (o+1) k (by simp;omega),Array.getElem?_setIfInBounds]
  by_cases h1:k=o
  ·subst h1
   rw [dif_neg (by omega),if_pos rfl,if_pos (by omega),dif_pos (by simp)]
   simp
  ·by_cases h2:o≤k∧k < o+(cs.length+1)
   ·rw [dif_pos (by omega),dif_pos (by simpa using h2)]
    have:k - o=(k - (o+1))+1:=by omega
    simp only [this,List.getElem_cons_succ]
   ·rw [dif_neg (by omega),dif_neg (by simpa using h2),if_neg (by omega)]
theorem mS {b base:Nat}:∀(vs:List Value) (w:World) (rc:Array Value) (el:TypeId) (fz:Nat×Nat) (k:Nat),w.heap[b]?=some (.cells rc el fz)→base+k+vs.length≤rc.size→
  (∀j,j < rc.size→¬ (fz.1≤j∧j < fz.2))→(∀c,c∈vs→c.oneCell'=true)→
  ∃w',(storeCells ⟨b,base,none⟩ vs k).run P w=.ok () w'∧w'.heap[b]?=some (.cells (sJ rc (base+k) vs) el fz)∧w'.heap.size=w.heap.size∧(∀d,d≠b→w'.heap[d]?=w.heap[d]?)∧w'.tape=w.tape∧w'.os=w.os∧w'.output=w.output:=by
 intro vs
 induction vs with
 | nil=>intro w rc el fz k hb _ _ _;exact ⟨w,rfl,hb,rfl,fun _ _=>rfl,rfl,rfl,rfl⟩
 | cons c cs ih=>
  intro w rc el fz k hb hl hf h1
  simp only [List.length_cons] at hl
  have ha:(⟨b,base,none⟩:Addr).add k=⟨b,base+k,none⟩:=by
   unfold Addr.add;split
   ·rename_i e;subst e;rfl
   ·rfl
  have hc:w.cell? ⟨b,base+k,none⟩=some rc[base+k]:=by simp [World.cell?,hb]
  have hz:w.frozen? ⟨b,base+k,none⟩=false:=by
   simp only [World.frozen?,hb]
   rw [Bool.eq_false_iff]
   intro hh
   have hh':=Bool.and_eq_true_iff.1 hh
   exact hf (base+k) (by omega) ⟨of_decide_eq_true hh'.1,of_decide_eq_true hh'.2⟩
  have hs:(w.setCell ⟨b,base+k,none⟩ c).heap[b]?=some (.cells (rc.setIfInBounds (base+k) c) el fz):=by
   simp only [World.setCell,Array.getElem?_modify]
   simp [hb]
  obtain ⟨w',r1,r2,r3,r4,r5,r6,r7⟩:=ih (w.setCell ⟨b,base+k,none⟩ c) _ el fz (k+1) hs (by simp;omega) (by simpa using hf) (fun d hd=>h1 d (by simp [hd]))
  refine ⟨w',?_,r2,r3.trans (jA _ _ _),fun d hd=>(r4 d hd).trans (tc _ _ _ (by exact hd)),r5,r6,r7⟩
  simp only [storeCells,Sem.run_bind,ha,gK (h1 c (by simp)) hc hz,Result.andThen_ok]
  exact r1
structure Du (P:Program) (φ:aJ) (w:World) (u:TypeId) (es m:Nat) (new:List AV) (cy:Value) (ns:List Value):Prop where
 II:∃d,P.underlying u=some d∧∀k,d≠.int k
 len:(Builtin.lenOf cy).run P w=.ok m w
 size:ns.length=m * es
 rel:bX φ new ns
 one:∀c,c∈ns→c.oneCell'=true
 cells:∀w':World,w'.heap=w.heap→(Builtin.firstCells es m cy).run P w'=.ok ns.toArray w'
def grown (w:World) (cs:Array Value) (e:TypeId):World:=w.drew.alloc (.cells cs e)
def dK (w:World) (need old:Nat) (e:TypeId):Nat:=(Question.appendCap need old e).cut (w.tape w.drawn (.appendCap need old e))
theorem za (w:World) (need old:Nat) (e:TypeId):need≤dK w need old e:=by simp [dK,Question.cut]
theorem tn {t u ty e:TypeId} {i:TypeInfo} (ht:P.underlying t=some (.slice e)) (hi:P.info? e=some i) {m:Nat} {new:List AV} {ns:List Value} (S:Du P φ w u i.size m new cy ns)
  {base:Option Addr} {n c:Nat} (hc:n+m≤c) {w':World} (hs:∀a,base=some a→(storeCells (a.add (n * i.size)) ns).run P w=.ok () w') (hn:base=none→w'=w) :
  (Builtin.append_ #[t,u] ty #[.slice base n c,cy]).run P w=.ok (.slice base (n+m) c) w':=by
 obtain ⟨d,hu,hd⟩:=S.II
 have hz:(d matches TypeDesc.int _)=false:=by cases d<;>first|rfl|exact absurd rfl (hd _)
 cases base with
 | none=>
  rw [hn rfl]
  simp [Builtin.append_,ak ht,ak hu,aP hi,hz,S.len,hc,S.cells w rfl]
 | some a=>
  simp [Builtin.append_,ak ht,ak hu,aP hi,hz,S.len,hc,S.cells w rfl,hs a rfl]
theorem qp {t u ty e:TypeId} {i:TypeInfo} {z:Value} (ht:P.underlying t=some (.slice e)) (hi:P.info? e=some i) (hz:i.zero=some z) {m:Nat} {new:List AV} {ns:List Value} (S:Du P φ w u i.size m new cy ns)
  {base:Option Addr} {n c:Nat} (hc:¬ n+m≤c) {os:List Value} (ho:∀w':World,w'.heap=w.heap→(Builtin.firstCells i.size n (.slice base n c)).run P w'=.ok os.toArray w')
  (hb:(n+m) * i.bytes≤140737488355328) (h63:n+m≤9223372036854775807) :
  (Builtin.append_ #[t,u] ty #[.slice base n c,cy]).run P w =
   .ok (.slice (some ⟨w.heap.size,0,none⟩) (n+m) (dK w (n+m) c e)) (grown w (os.toArray ++ ns.toArray ++ Builtin.zeroCells z.cells (dK w (n+m) c e - (n+m))) e):=by
 obtain ⟨d,hu,hd⟩:=S.II
 have hzz:(d matches TypeDesc.int _)=false:=by cases d<;>first|rfl|exact absurd rfl (hd _)
 have h63':¬ (9223372036854775807 < ((n:Int)+(m:Int))):=by omega
 have h48:=growslice_fits (old:=c) (show c < n+m by omega) hb
 have h48':¬ (281474976710656 < Builtin.nextslicecap (n+m) c * i.bytes):=by omega
 have hcell:=S.cells w.drew rfl
 have hold:=ho w.drew rfl
 simp only [grown,Array.append_assoc]
 simp [Builtin.append_,ak ht,ak hu,aP hi,bD hi,zeroValue,hz,hzz,S.len,hc,h63',h48',Question.forced,hcell,hold,newRow,dK]
structure Src (P:Program) (φ:aJ) (w:World) (e u:TypeId) (es m:Nat) (new:List AV) (cy:Value) (ns:List Value):Prop where
 ZL:∀(t ty:TypeId) (i:TypeInfo),P.underlying t=some (.slice e)→P.info? e=some i→i.size=es→∀(base:Option Addr) (n c:Nat),n+m≤c→∀w':World,(∀a,base=some a→(storeCells (a.add (n * es)) ns).run P w=.ok () w')→(base=none→w'=w)→
  (Builtin.append_ #[t,u] ty #[.slice base n c,cy]).run P w=.ok (.slice base (n+m) c) w'
 ZM:∀(t ty:TypeId) (i:TypeInfo) (z:Value),P.underlying t=some (.slice e)→P.info? e=some i→i.size=es→i.zero=some z→∀(base:Option Addr) (n c:Nat),¬ n+m≤c→∀os:List Value,(∀w':World,w'.heap=w.heap→(Builtin.firstCells es n (.slice base n c)).run P w'=.ok os.toArray w')→
  (n+m) * i.bytes≤140737488355328→n+m≤9223372036854775807→
  (Builtin.append_ #[t,u] ty #[.slice base n c,cy]).run P w =
   .ok (.slice (some ⟨w.heap.size,0,none⟩) (n+m) (dK w (n+m) c e)) (grown w (os.toArray ++ ns.toArray ++ Builtin.zeroCells z.cells (dK w (n+m) c e - (n+m))) e)
 size:ns.length=m * es
 rel:bX φ new ns
 one:∀c,c∈ns→c.oneCell'=true
theorem Du.src {e u:TypeId} {es m:Nat} {new:List AV} {ns:List Value} (S:Du P φ w u es m new cy ns):Src P φ w e u es m new cy ns where
 ZL t ty i ht hi hs base n c hc w' h1 h2:=by subst hs;exact tn ht hi S hc h1 h2
 ZM t ty i z ht hi hs hz base n c hc os ho hb h63:=by subst hs;exact qp ht hi hz S hc ho hb h63
 size:=S.size
 rel:=S.rel
 one:=S.one
theorem dG {t u ty e:TypeId} {i:TypeInfo} (ht:P.underlying t=some (.slice e)) (hi:P.info? e=some i) {m:Nat} {new:List AV} {ns:List Value} (S:Src P φ w e u i.size m new cy ns)
  {base:Option Addr} {n c:Nat} (hc:n+m≤c) {w':World} (hs:∀a,base=some a→(storeCells (a.add (n * i.size)) ns).run P w=.ok () w') (hn:base=none→w'=w) :
  (Builtin.append_ #[t,u] ty #[.slice base n c,cy]).run P w=.ok (.slice base (n+m) c) w':=S.ZL t ty i ht hi rfl base n c hc w' hs hn
theorem kS {t u ty e:TypeId} {i:TypeInfo} {z:Value} (ht:P.underlying t=some (.slice e)) (hi:P.info? e=some i) (hz:i.zero=some z) {m:Nat} {new:List AV} {ns:List Value} (S:Src P φ w e u i.size m new cy ns)
  {base:Option Addr} {n c:Nat} (hc:¬ n+m≤c) {os:List Value} (ho:∀w':World,w'.heap=w.heap→(Builtin.firstCells i.size n (.slice base n c)).run P w'=.ok os.toArray w')
  (hb:(n+m) * i.bytes≤140737488355328) (h63:n+m≤9223372036854775807) :
  (Builtin.append_ #[t,u] ty #[.slice base n c,cy]).run P w =
   .ok (.slice (some ⟨w.heap.size,0,none⟩) (n+m) (dK w (n+m) c e)) (grown w (os.toArray ++ ns.toArray ++ Builtin.zeroCells z.cells (dK w (n+m) c e - (n+m))) e):=S.ZM t ty i z ht hi rfl hz base n c hc os ho hb h63
variable {P:Program} {φ:aJ} {h h':Hp} {w:World} {v:AV} {x y z:AO} {r:A2} {cx cy:Value}
theorem gy {n:Nat} {a:RV} {f:Nat→RV} {b:RV} (e:(Nat.rec a (fun m _=>f m) n:RV)=b):(n=0∧a=b)∨∃m,n=m+1∧f m=b:=by
 cases n with
 | zero=>exact .inl ⟨rfl,e⟩
 | succ m=>exact .inr ⟨m,rfl,e⟩
theorem ff {b:Bool} {s t u:RV} (e:(Bool.rec s t b:RV)=u):(b=false∧s=u)∨(b=true∧t=u):=by
 cases b
 ·exact .inl ⟨rfl,e⟩
 ·exact .inr ⟨rfl,e⟩
theorem nW {k:Nat→RV} {n:Nat} {a:AV} (hx:VR φ a cx) (e:sS a k (.err n)=.ok v h):∃m base c,cx=.slice base m c∧k m=.ok v h:=by
 rcases cW e with ⟨i,o,l,c,rfl,e⟩|⟨i,o,l,c,rfl,e⟩|⟨rfl,e⟩<;>cases hx<;>exact ⟨_,_,_,rfl,e⟩
theorem tp {w w':World} (hw:w'.heap=w.heap) (a:Addr):w'.cell? a=w.cell? a:=by simp [World.cell?,hw]
structure Cu (P:Program) (φ:aJ) (w:World) (es m:Nat) (new:List AV) (cy:Value) (ns:List Value):Prop where
 size:ns.length=m * es
 rel:bX φ new ns
 one:∀c,c∈ns→c.oneCell'=true
 cells:∀w':World,w'.heap=w.heap→(Builtin.firstCells es m cy).run P w'=.ok ns.toArray w'
 pre:∀k,k≤m→(Builtin.firstCells es k cy).run P w=.ok (ns.take (k * es)).toArray w
theorem gN {a:Addr} {l:List Value} (hc:∀k (hk:k < l.length),w.cell? (a.add k)=some l[k]) {n:Nat} (hn:n≤l.length):(loadCells a n).run P w=.ok (l.take n).toArray w:=
 run_loadCells (by simp;omega) fun k hk=>by
  rw [List.getElem_take]
  exact hc k (by simp at hk;omega)
theorem Cu.none (es:Nat) {a:Option Addr} {n c:Nat}:Cu P φ w es 0 [] (.slice a n c) [] where
 size:=by simp
 rel:=.nil
 one:=by simp
 cells w' _:=by cases a<;>simp [Builtin.firstCells,loadCells,loadCellsFrom]
 pre k hk:=by
  have:k=0:=by omega
  subst this
  cases a<;>simp [Builtin.firstCells,loadCells,loadCellsFrom]
theorem mT (H:HR φ h w) {i:P4} {p:Place} (hp:φ i=some p) {es o n nn c:Nat} {k:List AV→RV} {q:Nat} {a:Addr} (ha:0 < n→a=p.addr o) (e:lu es i o n h k (.err q)=.ok v h') :
  ∃new ns,k new=.ok v h'∧Cu P φ w es n new (.slice (some a) nn c) ns∧(n=0∨∃el m ex fl cl,au i h=.cells el m ex fl cl∧o+n * es≤m∧new=bB (n * es) cl o):=by
 unfold lu at e
 rcases gy e with ⟨rfl,e⟩|⟨n,rfl,e⟩
 ·exact ⟨[],[],e,Cu.none es,.inl rfl⟩
 ·obtain ⟨el,m,ex,fl,cl,hi,e⟩:=aO e
  obtain ⟨hb,e⟩:=aC e
  have hb:o+(n+1) * es≤m:=Nat.le_of_ble_eq_true hb
  obtain ⟨l,h1,h2,h3,h4⟩:=H.values hi hp _ o hb
  rw [ha (by omega)]
  refine ⟨_,l,e,⟨h1,h2,h3,fun w' hw=>?_,fun k hk=>?_⟩,.inr ⟨_,_,_,_,_,hi,hb,rfl⟩⟩
  ·simp only [Builtin.firstCells]
   exact run_loadCells h1 fun k hk=>by rw [tp hw];exact h4 k hk
  ·simp only [Builtin.firstCells]
   exact gN h4 (by rw [h1];exact Nat.mul_le_mul_right _ hk)
theorem fR {p:Place} {a:Addr} {o c:Nat} (h3:a.block=p.bJ) (h4:a.spot=none) (h5:c≠0→a.off=p.base+o) (hc:0 < c):a=p.addr o:=by
 obtain ⟨ab,ao,as⟩:=a
 simp only at h3 h4 h5
 have:=h5 (by omega)
 subst h3 h4 this
 rfl
theorem tq (H:HR φ h w) {es:Nat} {a:AV} (hy:VR φ a cy) {k:List AV→RV} {q:Nat} (e:elems es a h k (.err q)=.ok v h') :
  ∃b n c new ns,cy=.slice b n c∧k new=.ok v h'∧Cu P φ w es n new cy ns:=by
 rcases cW e with ⟨i,o,l,c,rfl,e⟩|⟨i,o,l,c,rfl,e⟩|⟨rfl,e⟩
 ·cases hy with
  | slice _ _ _ _ p hp=>
   obtain ⟨new,ns,h1,h2,_⟩:=mT (P:=P) (nn:=l) (c:=c) H hp (a:=p.addr o) (fun _=>rfl) e
   exact ⟨_,_,_,new,ns,rfl,h1,h2⟩
 ·obtain ⟨_,e⟩:=aC e
  cases hy with
  | fX _ _ _ _ cc p a hp h1 h2 h3 h4 h5 h6=>
   obtain ⟨new,ns,h1,h2,_⟩:=mT (P:=P) (nn:=l) (c:=cc) H hp (a:=a) (fun hl=>fR h3 h4 h5 (by omega)) e
   exact ⟨_,_,_,new,ns,rfl,h1,h2⟩
 ·cases hy
  exact ⟨_,_,_,[],[],rfl,e,Cu.none es⟩
theorem Cu.YO {es m c:Nat} {b:Option Addr} {new:List AV} {ns:List Value} (E:Cu P φ w es m new (.slice b m c) ns) {u f:TypeId} (hu:P.underlying u=some (.slice f)):Du P φ w u es m new (.slice b m c) ns where
 II:=⟨_,hu,by simp⟩
 len:=rfl
 size:=E.size
 rel:=E.rel
 one:=E.one
 cells:=E.cells
theorem Cu.src {es m c:Nat} {b:Option Addr} {new:List AV} {ns:List Value} (E:Cu P φ w es m new (.slice b m c) ns) {e u f:TypeId} (hu:P.underlying u=some (.slice f)):Src P φ w e u es m new (.slice b m c) ns:=(E.YO hu).src
theorem mU {i:P4} {o:Nat} {l:List AV} {k:Hp→RV} (e:lx i o l h k=.ok v h'):∃el n ex fl c,au i h=.cells el n ex fl c∧wr fl=true∧o+l.length≤n∧k (cN i (.cells el n ex fl (fm l o c)) h)=.ok v h':=by
 obtain ⟨el,n,ex,fl,c,hi,e⟩:=aO e
 obtain ⟨hw,e⟩:=aC e
 obtain ⟨hb,e⟩:=aC e
 exact ⟨el,n,ex,fl,c,hi,hw,Nat.le_of_ble_eq_true hb,e⟩
theorem jC (H:HR φ h w) {i:P4} {p:Place} (hp:φ i=some p) {el n:Nat} {ex:Bool} {fl:Fl} {c:Cl} (hi:au i h=.cells el n ex fl c) (hf:wr fl=true) {l:List AV} {vs:List Value} (hl:bX φ l vs) (h1:∀x,x∈vs→x.oneCell'=true)
  {o:Nat} (hn:o+l.length≤n):∃w',(storeCells (p.addr o) vs).run P w=.ok () w'∧HR φ (cN i (.cells el n ex fl (fm l o c)) h) w'∧Step φ h w φ (cN i (.cells el n ex fl (fm l o c)) h) w':=by
 obtain ⟨w',r1,r2,r3⟩:=kN (P:=P) hp hf l vs h w c o 0 H hi hl h1 (by omega)
 refine ⟨w',r1,r2,φ.le_refl,r3,fun k q hk hq=>?_,.set _ _ _⟩
 rw [bj] at hk
 by_cases ek:k=i
 ·subst ek;exact .inl ⟨hi▸aK,hq⟩
 ·rw [if_neg ek] at hk;exact .inl ⟨hk,hq⟩
theorem kT (z:Array Value) (n:Nat):(Builtin.zeroCells z n).size=n * z.size:=by simp [Builtin.zeroCells]
theorem nX {t u ty e:TypeId} {i:TypeInfo} {zv:Value} (H:HR φ h w) (ht:P.underlying t=some (.slice e)) (hi:P.info? e=some i) (hz:i.zero=some zv) (hzs:zv.cells.size=i.size) (hby:i.bytes≤1048576) (hes:0 < i.size)
  {m:Nat} {new:List AV} {ns:List Value} (S:Src P φ w e u i.size m new cy ns) {base:Option Addr} {n c:Nat} (hc:¬ n+m≤c) {old:List AV} {os:List Value} (E:Cu P φ w i.size n old (.slice base n c) os)
  (he:Av e i.size n m old new h=.ok v h'):Good φ h w v h' ((Builtin.append_ #[t,u] ty #[.slice base n c,cy]).run P w):=by
 obtain ⟨hr,hn,he⟩:=eR he
 obtain ⟨rfl,rfl⟩:=RV.av he
 have hl1:=E.rel.length
 have hl2:=S.rel.length
 have hlen:(List.append old new).length=(n+m) * i.size:=by
  show (old ++ new).length=_
  rw [List.length_append,hl1,hl2,E.size,S.size,Nat.add_mul]
 have hroom:=kF (mu (List.append old new))
 have hnm:n+m≤65536:=by
  have:(n+m) * 1≤(n+m) * i.size:=Nat.mul_le_mul_left _ hes
  omega
 have hbb:(n+m) * i.bytes≤140737488355328:=by
  have:(n+m) * i.bytes≤65536 * 1048576:=Nat.mul_le_mul hnm hby
  omega
 have hrun:=kS (P:=P) (ty:=ty) ht hi hz S hc E.cells hbb (by omega)
 rw [hrun]
 have hcap:=za w (n+m) c e
 have hsz:(os.toArray ++ ns.toArray ++ Builtin.zeroCells zv.cells (dK w (n+m) c e - (n+m))).size=dK w (n+m) c e * i.size:=by
  rw [Array.size_append,Array.size_append,kT,hzs]
  simp only [List.size_toArray]
  rw [E.size,S.size,←Nat.add_mul,←Nat.add_mul]
  congr 1;omega
 have hrel:bX φ (List.append old new) (os ++ ns):=E.rel.append S.rel
 obtain ⟨g1,g2⟩:=H.nB (n':=h.next.succ) (w':=grown w (os.toArray ++ ns.toArray ++ Builtin.zeroCells zv.cells (dK w (n+m) c e - (n+m))) e) hn
  (rc:=os.toArray ++ ns.toArray ++ Builtin.zeroCells zv.cells (dK w (n+m) c e - (n+m))) (el:=e) (n:=(List.append old new).length) (ex:=false) (fl:=.plain) (fz:=(0,0)) (c:=mu (List.append old new))
  (by rw [hsz,hlen];exact Nat.mul_le_mul_right _ hcap) (by simp) hr
  (fun k hk=>by
   have hk':k < (os ++ ns).length:=by rw [←hrel.length];exact hk
   refine ⟨(os ++ ns)[k],?_,?_,?_⟩
   ·rw [Array.getElem?_append_left (by simpa using hk'),List.append_toArray]
    simp only [List.getElem?_toArray]
    exact List.getElem?_eq_getElem hk'
   ·rw [dA _ hr k hk];exact hrel.get k hk hk'
   ·rcases List.mem_append.1 (List.getElem_mem hk') with g|g
    ·exact E.one _ g
    ·exact S.one _ g) rfl rfl rfl rfl rfl
 refine ⟨_,_,_,rfl,?_,g1,g2⟩
 refine .fX _ 0 (n+m) i.size (dK w (n+m) c e) ⟨w.heap.size,0,_⟩ ⟨w.heap.size,0,none⟩ (aJ.aL _ _ _) ?_ hcap rfl rfl (fun _=>rfl) hes
 rw [hsz];simp
theorem lV {fl:Fl} {fz:Nat×Nat} {size:Nat} (hf:wr fl=true) (hk:Dm fl fz size):∀j,j < size→¬ (fz.1≤j∧j < fz.2):=by
 cases fl with
 | plain=>cases hk;intro j _;simp
 | mark=>exact hk
 | wE=>cases hf
theorem ve {fl:Fl} {size:Nat}:Dm fl (0,0) size:=by
 cases fl with
 | plain=>rfl
 | mark=>intro k _;simp
 | wE=>trivial
theorem iI {h:Hp} {o:Obj} {n':P4} (j:P4):au j (.mk (de h.next o h.tree) n' (Lg.add h.next h.log))=if j=h.next then o else au j h:=by
 cases h with
 | mk t n lg=>exact dT j n o t
theorem HR.nM (H:HR φ h w) {i:P4} {p:Place} (hp:φ i=some p) (hi:live (au i h)) (hn:au h.next (cN i .dead h)=.none) {q:Place} {w':World} (hb:q.bJ=p.bJ∨q.bJ=w.heap.size)
  {o:Obj} (hlo:live o) (hsz:w.heap.size≤w'.heap.size) (hq:q.bJ < w'.heap.size) (hne:∀b,b < w.heap.size→b≠p.bJ→w'.heap[b]?=w.heap[b]?) (ho:OR (φ.put h.next q) o q w'.heap[q.bJ]?)
  (ht:w'.tape=w.tape) (hos:w'.os=w.os) (hu:w'.output=w.output) {n':P4} :
  HR (φ.put h.next q) (.mk (de h.next o (cN i .dead h).tree) n' (Lg.add h.next (cN i .dead h).log)) w'∧Step φ h w (φ.put h.next q) (.mk (de h.next o (cN i .dead h).tree) n' (Lg.add h.next (cN i .dead h).log)) w':=by
 have hni:h.next≠i:=by
  intro e;rw [bj,if_pos e] at hn;cases hn
 rw [bj,if_neg hni] at hn
 have hφ:=H.fresh _ hn
 have hle:=aJ.fB (φ:=φ) (i:=h.next) q hφ
 have hg:∀j,au j (.mk (de h.next o (cN i .dead h).tree) n' (Lg.add h.next (cN i .dead h).log))=if j=h.next then o else if j=i then .dead else au j h:=by
  intro j
  have:=iI (h:=cN i .dead h) (o:=o) (n':=n') j
  have hnx:(cN i .dead h).next=h.next:=rfl
  rw [hnx] at this
  rw [this,bj]
 have hold:∀j r,j≠h.next→(φ.put h.next q) j=some r→φ j=some r:=by
  intro j r hj hr;simpa [aJ.put,hj] using hr
 have hlv:∀j,live (au j (.mk (de h.next o (cN i .dead h).tree) n' (Lg.add h.next (cN i .dead h).log)))→j=h.next∨(j≠h.next∧j≠i∧live (au j h)):=by
  intro j hj
  rw [hg] at hj
  by_cases e:j=h.next
  ·exact .inl e
  ·rw [if_neg e] at hj
   by_cases e':j=i
   ·rw [if_pos e'] at hj;exact absurd rfl hj.2
   ·rw [if_neg e'] at hj;exact .inr ⟨e,e',hj⟩
 refine ⟨⟨fun j hj=>?_,fun j k s t hj hk hjk hs ht=>?_,fun j hj=>?_,fun j s hs=>?_⟩,hle,⟨hsz,fun b hb' hnb=>hne b hb' ?_,ht,hos,hu⟩,fun j s hj hs=>?_,(Fr.set _ _ _).trans (.put _ _ _ _)⟩
 ·rcases hlv j hj with rfl|⟨e1,e2,e3⟩
  ·rw [hg,if_pos rfl]
   exact ⟨q,aJ.aL _ _ _,ho⟩
  ·rw [hg,if_neg e1,if_neg e2]
   obtain ⟨s,hs,hr⟩:=H.obj j e3
   refine ⟨s,hle _ _ hs,?_⟩
   rw [hne _ (H.bound _ _ hs) (H.inj j i s p e3 hi e2 hs hp)]
   exact hr.mono hle
 ·rcases hlv j hj with rfl|⟨e1,e2,e3⟩<;>rcases hlv k hk with rfl|⟨f1,f2,f3⟩
  ·exact absurd rfl hjk
  ·rw [aJ.aL] at hs;cases hs
   have ht':=hold k t f1 ht
   have h1:=H.inj k i t p f3 hi f2 ht' hp
   have h2:=H.bound k t ht'
   rcases hb with g|g<;>rw [g]<;>first|exact fun e=>h1 e.symm|omega
  ·rw [aJ.aL] at ht;cases ht
   have hs':=hold j s e1 hs
   have h1:=H.inj j i s p e3 hi e2 hs' hp
   have h2:=H.bound j s hs'
   rcases hb with g|g<;>rw [g]<;>first|exact h1|omega
  ·exact H.inj j k s t e3 f3 hjk (hold j s e1 hs) (hold k t f1 ht)
 ·rw [hg] at hj
  by_cases e:j=h.next
  ·rw [if_pos e] at hj;exact absurd hj hlo.1
  ·rw [if_neg e] at hj
   show (if j=h.next then some _ else φ j)=none
   rw [if_neg e]
   by_cases e':j=i
   ·rw [if_pos e'] at hj;cases hj
   ·rw [if_neg e'] at hj;exact H.fresh j hj
 ·by_cases e:j=h.next
  ·rw [e,aJ.aL] at hs;cases hs;exact hq
  ·exact Nat.lt_of_lt_of_le (H.bound j s (hold j s e hs)) hsz
 ·exact fun e=>hnb i p hi hp e.symm
 ·rcases hlv j hj with rfl|⟨e1,e2,e3⟩
  ·rw [aJ.aL] at hs;cases hs
   rcases hb with g|g
   ·exact .inr (.inr ⟨i,p,hi,hp,g.symm⟩)
   ·exact .inr (.inl (by omega))
  ·exact .inl ⟨e3,hold j s e1 hs⟩
variable {P:Program} {φ:aJ} {h h':Hp} {w:World} {v:AV} {x y z:AO} {r:A2} {cx cy:Value}
theorem Tv (H:HR φ h w) {i:P4} {p:Place} (hp:φ i=some p) {el k:Nat} {ex:Bool} {fl:Fl} {c:Cl} (hi:au i h=.cells el k ex fl c) {es o n nn cc:Nat} {a:Addr} (ha:0 < n→a=p.addr o) (hb:o+n * es≤k) :
  ∃os,Cu P φ w es n (bB (n * es) c o) (.slice (some a) nn cc) os:=by
 rcases Nat.eq_zero_or_pos n with rfl|hn
 ·refine ⟨[],?_⟩
  rw [Nat.zero_mul]
  exact Cu.none es
 ·obtain ⟨l,h1,h2,h3,h4⟩:=H.values hi hp _ o hb
  rw [ha hn]
  refine ⟨l,h1,h2,h3,fun w' hw=>?_,fun k hk=>?_⟩
  ·simp only [Builtin.firstCells]
   exact run_loadCells h1 fun k hk=>by rw [tp hw];exact h4 k hk
  ·simp only [Builtin.firstCells]
   exact gN h4 (by rw [h1];exact Nat.mul_le_mul_right _ hk)
theorem tr {t u ty e:TypeId} {i:TypeInfo} {zv:Value} (H:HR φ h w) (ht:P.underlying t=some (.slice e)) (hi:P.info? e=some i) (hz:i.zero=some zv) (hzs:zv.cells.size=i.size) (hby:i.bytes≤1048576) (hes:0 < i.size)
  {m:Nat} {new:List AV} {ns:List Value} (S:Src P φ w e u i.size m new cy ns) (hm:0 < m) {j:P4} {o n:Nat} {cs:Value} (hs:VR φ (.fX j o n i.size) cs) {k:Nat} {fl:Fl} {c c':Cl} (hj:au j h=.cells e k false fl c) (hf:wr fl=true)
  (hb:o+n * i.size≤k) (hc':(n+m) * i.size≤bW c'→∀x (hx:x < (bB (n * i.size) c o ++ new).length),eA x c'=(bB (n * i.size) c o ++ new)[x])
  (he:nM j e ((n+m) * i.size) fl c' (n+m) i.size h=.ok v h'):Good φ h w v h' ((Builtin.append_ #[t,u] ty #[cs,cy]).run P w):=by
 obtain ⟨hr,hn,he⟩:=eR he
 obtain ⟨rfl,rfl⟩:=RV.av he
 have hcg:=hc' hr
 cases hs with
 | fX _ _ _ _ cap p a hp h1 h2 h3 h4 h5 h6=>
 have hl:live (au j h):=hj▸aK
 obtain ⟨q,hq,hor⟩:=H.obj j hl
 rw [hp] at hq;cases hq
 rw [hj] at hor
 obtain ⟨rc,fz,g1,g2,g3,g4,g5,g6,g7⟩:=hor
 have ha:0 < n→a=p.addr o:=fun hn=>fR h3 h4 h5 (by omega)
 obtain ⟨os,E⟩:=Tv (P:=P) H hp hj (nn:=n) (cc:=cap) ha hb
 have hrel:bX φ (bB (n * i.size) c o ++ new) (os ++ ns):=E.rel.append S.rel
 have hone:∀c,c∈os ++ ns→c.oneCell'=true:=fun c hc=>(List.mem_append.1 hc).elim (E.one c) (S.one c)
 have hlen:(os ++ ns).length=(n+m) * i.size:=by rw [List.length_append,E.size,S.size,Nat.add_mul]
 change au h.next (cN j .dead h)=.none at hn
 have hnx:au h.next h=.none:=by
  rw [bj] at hn
  by_cases e':h.next=j
  ·rw [if_pos e'] at hn;cases hn
  ·rwa [if_neg e'] at hn
 have hφ:=H.fresh _ hnx
 by_cases hin:n+m≤cap
 ·have ha':a=p.addr o:=fR h3 h4 h5 (by omega)
  have hcap:(n+m) * i.size≤cap * i.size:=Nat.mul_le_mul_right _ hin
  have hsum:=Nat.add_mul n m i.size
  have hnsl:=S.size
  obtain ⟨w',r1,r2,r3,r4,r5,r6,r7⟩:=mS (P:=P) (b:=p.bJ) (base:=p.base+(o+n * i.size)) ns w rc e fz 0 g1 (by omega) (lV hf g7) S.one
  have hst:(storeCells (a.add (n * i.size)) ns).run P w=.ok () w':=by rw [ha',ct];exact r1
  rw [dG (P:=P) (ty:=ty) ht hi S hin (w':=w') (fun b hb=>by cases hb;exact hst) (by simp)]
  obtain ⟨k1,k2⟩:=H.nM (n':=h.next.succ) hp hl hn (q:=⟨p.bJ,p.base+o,p.room - o⟩) (w':=w') (.inl rfl) (o:=.cells e ((n+m) * i.size) false fl c') aK (by omega) (by rw [r3];exact H.bound j p hp) (fun b _ hb=>r4 b hb)
   (by
    refine ⟨_,fz,r2,by rw [eN];simp only;omega,by simp only;omega,by simp,hr,fun x hx=>?_,by rw [eN];exact g7⟩
    have hx':x < (os ++ ns).length:=by rw [hlen];exact hx
    refine ⟨(os ++ ns)[x],?_,?_,hone _ (List.getElem_mem _)⟩
    ·rw [kE _ _ _ _ (by omega)]
     have hosl:=E.size
     by_cases hxo:x < os.length
     ·rw [dif_neg (by simp only;omega),List.getElem_append_left hxo]
      have:=E.cells w rfl
      rw [ha'] at this
      obtain ⟨l,v1,v2,v3,v4⟩:=H.values hj hp _ o hb
      have hrun:=run_loadCells (P:=P) v1 v4
      simp only [Builtin.firstCells] at this
      rw [hrun] at this
      have hol:l=os:=by simpa using this
      subst hol
      have:=v4 x hxo
      rw [ct,lr g1] at this
      rw [←Nat.add_assoc] at this
      exact this
     ·simp only
      rw [dif_pos (by omega),List.getElem_append_right (by omega)]
      congr 2
      omega
    ·rw [hcg x (by rw [hrel.length];exact hx')]
     exact (hrel.get x (by rw [hrel.length];exact hx') hx').mono (aJ.fB _ hφ)) r5 r6 r7
  refine ⟨_,w',_,rfl,?_,k1,k2⟩
  refine .fX _ 0 (n+m) i.size cap ⟨p.bJ,p.base+o,p.room - o⟩ a (aJ.aL _ _ _) (by simp only;omega) hin h3 h4 (fun hc=>?_) hes
  have:=h5 hc
  simpa using this
 ·have hroom:=kF c'
  have hnm:n+m≤65536:=by
   have:(n+m) * 1≤(n+m) * i.size:=Nat.mul_le_mul_left _ hes
   omega
  have hbb:(n+m) * i.bytes≤140737488355328:=by
   have:(n+m) * i.bytes≤65536 * 1048576:=Nat.mul_le_mul hnm hby
   omega
  rw [kS (P:=P) (ty:=ty) ht hi hz S hin E.cells hbb (by omega)]
  have hcap:=za w (n+m) cap e
  have hsz:(os.toArray ++ ns.toArray ++ Builtin.zeroCells zv.cells (dK w (n+m) cap e - (n+m))).size=dK w (n+m) cap e * i.size:=by
   rw [Array.size_append,Array.size_append,kT,hzs]
   simp only [List.size_toArray]
   rw [E.size,S.size,←Nat.add_mul,←Nat.add_mul]
   congr 1;omega
  have hheap:(grown w (os.toArray ++ ns.toArray ++ Builtin.zeroCells zv.cells (dK w (n+m) cap e - (n+m))) e).heap=w.heap.push (.cells (os.toArray ++ ns.toArray ++ Builtin.zeroCells zv.cells (dK w (n+m) cap e - (n+m))) e):=rfl
  obtain ⟨k1,k2⟩:=H.nM (n':=h.next.succ) hp hl hn (q:=⟨w.heap.size,0,dK w (n+m) cap e * i.size⟩) (w':=grown w (os.toArray ++ ns.toArray ++ Builtin.zeroCells zv.cells (dK w (n+m) cap e - (n+m))) e) (.inr rfl)
   (o:=.cells e ((n+m) * i.size) false fl c') aK (by rw [hheap];simp) (by rw [hheap];simp) (fun b hb _=>by rw [hheap,Array.getElem?_push,if_neg (by omega)])
   (by
    refine ⟨os.toArray ++ ns.toArray ++ Builtin.zeroCells zv.cells (dK w (n+m) cap e - (n+m)),(0,0),by rw [hheap];simp,by simp only [Nat.zero_add];exact hsz.symm,Nat.mul_le_mul_right _ hcap,by simp,hr,fun x hx=>?_,ve⟩
    have hx':x < (os ++ ns).length:=by rw [hlen];exact hx
    refine ⟨(os ++ ns)[x],?_,?_,hone _ (List.getElem_mem _)⟩
    ·simp only [Nat.zero_add]
     rw [Array.getElem?_append_left (by simpa using hx'),List.append_toArray]
     simp only [List.getElem?_toArray]
     exact List.getElem?_eq_getElem hx'
    ·rw [hcg x (by rw [hrel.length];exact hx')]
     exact (hrel.get x (by rw [hrel.length];exact hx') hx').mono (aJ.fB _ hφ)) rfl rfl rfl
  refine ⟨_,_,_,rfl,?_,k1,k2⟩
  exact .fX _ 0 (n+m) i.size (dK w (n+m) cap e) ⟨w.heap.size,0,_⟩ ⟨w.heap.size,0,none⟩ (aJ.aL _ _ _) (by simp) hcap rfl rfl (fun _=>rfl) hes
variable {P:Program} {φ:aJ} {h h':Hp} {w:World} {v:AV} {x y z:AO} {r:A2} {cx cy:Value}
theorem IJ (l new:List AV) {c:Cl} (hl:l.length+new.length≤bW (fm new l.length (sK (l.length+new.length) c))) (hr:l.length≤bW c) (hc:∀k (hk:k < l.length),eA k c=l[k]) (x:Nat) (hx:x < (l ++ new).length) :
  eA x (fm new l.length (sK (l.length+new.length) c))=(l ++ new)[x]:=by
 rw [pZ] at hl
 have hx':x < l.length+new.length:=by simpa using hx
 rw [ta _ _ _ _ (by omega) hl]
 by_cases h1:x < l.length
 ·rw [dif_neg (by omega),Dl _ _ _ (by omega),hc x h1,List.getElem_append_left h1]
 ·rw [dif_pos (by omega),List.getElem_append_right (by omega)]
theorem AH {t u ty e:TypeId} {i:TypeInfo} {zv:Value} (H:HR φ h w) (ht:P.underlying t=some (.slice e)) (hi:P.info? e=some i) (hz:i.zero=some zv) (hzs:zv.cells.size=i.size) (hby:i.bytes≤1048576) (hes:0 < i.size)
  {m:Nat} {new:List AV} {ns:List Value} (S:Src P φ w e u i.size m new cy ns) (hm:0 < m) {j:P4} {o n:Nat} {cs:Value} (hs:VR φ (.fX j o n i.size) cs) (he:NA e i.size m new j o n h=.ok v h') :
  Good φ h w v h' ((Builtin.append_ #[t,u] ty #[cs,cy]).run P w):=by
 obtain ⟨el,k,ex,fl,c,hj,he⟩:=aO he
 obtain ⟨hf,he⟩:=aC he
 have hl:live (au j h):=hj▸aK
 rcases ff he with ⟨hb,he⟩|⟨hb,he⟩
 ·obtain ⟨hb1,he⟩:=aC he
  have hb1:o+n * i.size≤k:=Nat.le_of_ble_eq_true hb1
  have hlen:(bB (n * i.size) c o ++ new).length=(n+m) * i.size:=by
   rw [List.length_append,jz,S.rel.length,S.size,Nat.add_mul]
  have hkr:k≤bW c:=by
   obtain ⟨q,hq,hor⟩:=H.obj j hl
   rw [hj] at hor
   obtain ⟨rc,fz,g1,g2,g3,g4,g5,g6,g7⟩:=hor
   exact g5
  rcases ff he with ⟨hx,he2⟩|⟨_,he2⟩
  ·have hx:(ex || !Nat.beq e el)=false:=hx
   have hex:ex=false:=by cases ex<;>simp_all
   have hel:e=el:=by
    cases hbe:Nat.beq e el
    ·simp [hbe] at hx
    ·exact Nat.eq_of_beq_eq_true hbe
   subst hex hel
   rcases ff he2 with ⟨_,he3⟩|⟨h0,he3⟩
   ·refine tr H ht hi hz hzs hby hes S hm hs hj hf hb1 (fun hr x hx=>?_) he3
    refine dA _ ?_ x hx
    show (bB (n * i.size) c o ++ new).length≤_
    rw [hlen];exact hr
   ·obtain ⟨h1,h2⟩:=Bool.and_eq_true_iff.1 h0
    have h1:o=0:=Nat.eq_of_beq_eq_true h1
    have h2:n * i.size=k:=Nat.eq_of_beq_eq_true h2
    subst h1 h2
    refine tr H ht hi hz hzs hby hes S hm hs hj hf hb1 (fun hr x hx=>?_) he3
    have hsz:(n+m) * i.size=(bB (n * i.size) c 0).length+new.length:=by rw [jz,S.rel.length,S.size,Nat.add_mul]
    have hlc:n * i.size=(bB (n * i.size) c 0).length:=(jz _ _ _).symm
    have hr':(bB (n * i.size) c 0).length+new.length≤bW (fm new (bB (n * i.size) c 0).length (sK ((bB (n * i.size) c 0).length+new.length) c)):=by
     rw [←hsz,←hlc];exact hr
    have:=IJ (bB (n * i.size) c 0) new (c:=c) hr' (by rw [←hlc];exact hkr) (fun k hk=>by rw [ur,Nat.zero_add]) x hx
    rw [←this,←hsz,←hlc]
    rfl
  ·cases he2
 ·have hb:o+(n+m) * i.size≤k:=Nat.le_of_ble_eq_true hb
  obtain ⟨rfl,rfl⟩:=RV.av he
  cases hs with
  | fX _ _ _ _ cap p a hp h1 h2 h3 h4 h5 h6=>
  have hkr:k≤p.room:=by
   obtain ⟨q,hq,hor⟩:=H.obj j hl
   rw [hp] at hq;cases hq
   rw [hj] at hor
   obtain ⟨rc,fz,g1,g2,g3,g4,g5,g6,g7⟩:=hor
   exact g3
  have hin:n+m≤cap:=by
   have:(n+m) * i.size≤cap * i.size:=by omega
   exact Nat.le_of_mul_le_mul_right this hes
  have ha:a=p.addr o:=fR h3 h4 h5 (by omega)
  have hsum:=Nat.add_mul n m i.size
  obtain ⟨w',r1,r2,r3⟩:=jC (P:=P) H hp hj hf S.rel S.one (o:=o+n * i.size) (by rw [S.rel.length,S.size];omega)
  rw [dG (P:=P) (ty:=ty) ht hi S hin (w':=w') (fun b hb=>by cases hb;rw [ha,ct];exact r1) (by simp)]
  exact ⟨_,w',φ,rfl,.fX _ _ _ _ cap p a hp h1 hin h3 h4 h5 h6,r2,r3⟩
theorem py {t u ty e:TypeId} {i:TypeInfo} {zv:Value} (H:HR φ h w) (ht:P.underlying t=some (.slice e)) (hi:P.info? e=some i) (hz:i.zero=some zv) (hzs:zv.cells.size=i.size) (hby:i.bytes≤1048576) (hes:0 < i.size)
  {m:Nat} {new:List AV} {ns:List Value} (S:Src P φ w e u i.size m new cy ns) {s:AV} {cs:Value} (hs:VR φ s cs) (he:He e i.size m new s h=.ok v h') :
  Good φ h w v h' ((Builtin.append_ #[t,u] ty #[cs,cy]).run P w):=by
 have hns0:m=0→ns=[]:=fun hm=>by have:=S.size;rw [hm,Nat.zero_mul] at this;exact List.length_eq_zero_iff.1 this
 rcases cW he with ⟨j,o,n,cap,rfl,he⟩|⟨j,o,n,es',rfl,he⟩|⟨rfl,he⟩
 ·rcases ff he with ⟨hb,he⟩|⟨hb,he⟩
  ·have hin:¬ n+m≤cap:=fun hle=>by have:=Nat.ble_eq_true_of_le hle;rw [show (n+m).ble cap=(n.add m).ble cap from rfl,hb] at this;cases this
   cases hs with
   | slice _ _ _ _ p hp=>
   obtain ⟨old,os,he,E,_⟩:=mT (P:=P) (nn:=n) (c:=cap) H hp (a:=p.addr o) (fun _=>rfl) he
   exact nX H ht hi hz hzs hby hes S hin E he
  ·have hin:n+m≤cap:=Nat.le_of_ble_eq_true hb
   cases hs with
   | slice _ _ _ _ p hp=>
   rcases gy he with ⟨rfl,he⟩|⟨m,rfl,he⟩
   ·obtain ⟨rfl,rfl⟩:=RV.av he
    rw [dG (P:=P) (ty:=ty) ht hi S hin (w':=w) (fun b _=>by rw [hns0 rfl];rfl) (fun _=>rfl)]
    exact .same H (.slice _ _ _ _ p hp) rfl
   ·obtain ⟨el,k,ex,fl,c,hj,hf,hb,he⟩:=mU he
    obtain ⟨rfl,rfl⟩:=RV.av he
    obtain ⟨w',r1,r2,r3⟩:=jC (P:=P) H hp hj hf S.rel S.one (o:=o+n * i.size) hb
    rw [dG (P:=P) (ty:=ty) ht hi S hin (w':=w') (fun b hb=>by cases hb;rw [ct];exact r1) (by simp)]
    exact ⟨_,w',φ,rfl,.slice _ _ _ _ p hp,r2,r3⟩
 ·obtain ⟨hes',he2⟩:=aC he
  have hes':i.size=es':=Nat.eq_of_beq_eq_true hes'
  subst hes'
  rcases gy he2 with ⟨h0,he3⟩|⟨m,h0,he3⟩
  ·obtain ⟨rfl,rfl⟩:=RV.av he3
   cases hs with
   | fX _ _ _ _ cap p a hp h1 h2 h3 h4 h5 h6=>
   subst h0
   rw [dG (P:=P) (ty:=ty) ht hi S h2 (w':=w) (fun b _=>by rw [hns0 rfl];rfl) (fun _=>rfl)]
   exact .same H (.fX _ _ _ _ cap p a hp h1 h2 h3 h4 h5 h6) rfl
  ·subst h0
   exact AH H ht hi hz hzs hby hes S (by omega) hs he3
 ·cases hs
  rcases gy he with ⟨rfl,he⟩|⟨m,rfl,he⟩
  ·obtain ⟨rfl,rfl⟩:=RV.av he
   rw [dG (P:=P) (ty:=ty) ht hi S (Nat.le_refl 0) (w':=w) (by simp) (fun _=>rfl)]
   exact .same H .ai rfl
  ·exact nX H ht hi hz hzs hby hes S (n:=0) (c:=0) (by omega) (Cu.none i.size) he
theorem lC {e:TypeId} (hg:iy P e=true):∃i zv,P.info? e=some i∧i.zero=some zv∧zv.cells.size=i.size∧i.bytes≤1048576:=by
 unfold iy at hg
 split at hg
 ·rename_i i hi
  simp only [Bool.and_eq_true] at hg
  obtain ⟨h1,h2⟩:=hg
  split at h1
  ·rename_i zv hz
   exact ⟨i,zv,hi,hz,by simpa using h1,Nat.le_of_ble_eq_true h2⟩
  ·cases h1
 ·cases hg
theorem IK {t u ty e f:TypeId} (H:HR φ h w) (hx:VR φ (ev x r) cx) (hy:VR φ (ev y r) cy) (ht:P.underlying t=some (.slice e)) (hu:P.underlying u=some (.slice f)) (hg:iy P e=true) (hes:bp P e≠0)
  (he:vk e (bp P e) x y r h=.ok v h'):Good φ h w v h' ((Builtin.append_ #[t,u] ty #[cx,cy]).run P w):=by
 obtain ⟨i,zv,hi,hz,hzs,hby⟩:=lC hg
 rw [cJ hi] at hes he
 unfold vk cX at he
 obtain ⟨m,base,c,rfl,he⟩:=nW hy he
 obtain ⟨hm,he⟩:=aC he
 obtain ⟨b,n,c,new,ns,hcy,he,E⟩:=tq (P:=P) H hy he
 cases hcy
 exact py H ht hi hz hzs hby (by omega) (E.src hu) hx he
theorem fM (φ:aJ):∀(s:List UInt8),bX φ (byteCells (s.map UInt8.toNat)) (s.map fun b=>Value.int .u8 b.toNat)∧∀c,c∈(s.map fun b=>Value.int .u8 b.toNat)→c.oneCell'=true
 | []=>⟨.nil,by simp⟩
 | b::s=>by
  obtain ⟨h1,h2⟩:=fM φ s
  refine ⟨.cons _ _ _ _ (.int _ _) h1,?_⟩
  intro c hc
  simp only [List.map_cons,List.mem_cons] at hc
  rcases hc with rfl|hc
  ·rfl
  ·exact h2 c hc
theorem Dv {t u ty e:TypeId} (H:HR φ h w) (hx:VR φ (ev x r) cx) (hy:VR φ (ev y r) cy) (ht:P.underlying t=some (.slice e)) (hu:P.underlying u=some .string) (hg:iy P e=true) (hes:bp P e=1)
  (he:sU e x y r h=.ok v h'):Good φ h w v h' ((Builtin.append_ #[t,u] ty #[cx,cy]).run P w):=by
 obtain ⟨i,zv,hi,hz,hzs,hby⟩:=lC hg
 rw [cJ hi] at hes
 obtain ⟨l,el,he⟩:=cB he
 rw [el] at hy
 obtain ⟨s,rfl,rfl⟩:=hy.cZ
 obtain ⟨g1,g2⟩:=fM φ s.data.toList
 have S:Du P φ w u i.size s.size (byteCells (s.data.toList.map UInt8.toNat)) (.string s) (s.data.toList.map fun b=>Value.int .u8 b.toNat):=by
  refine ⟨⟨_,hu,by simp⟩,rfl,by rw [hes];simp,g1,g2,fun w' _=>?_⟩
  simp only [Builtin.firstCells]
  have:s.extract 0 s.size=s:=by simp
  rw [this]
  simp only [Sem.run_pure]
  congr 1
  apply Array.ext'
  simp
 have hl:(List.map UInt8.toNat s.data.toList).length=s.size:=by simp
 rw [hl,←hes] at he
 exact py H ht hi hz hzs hby (by omega) S.src hx he
variable {P:Program} {φ:aJ} {h h':Hp} {w:World} {v:AV} {x y z:AO} {r:A2} {cx cy:Value}
def IL (φ:aJ) (r:A2) (x:OA) (c:Option Value):Prop:=match x,c with
 | .none,none=>True
 | .some x,some c=>VR φ (ev x r) c
 | _,_=>False
def Uj (c:Option Value) (d b:Nat):Prop:=(c=none∧b=d)∨∃k,c=some (.int k b)
theorem da {x:OA} {d:Nat} {k:Nat→RV} {q:Nat} {c:Option Value} (hx:IL φ r x c) (e:ft x d r k (.err q)=.ok v h):∃b,Uj c d b∧k b=.ok v h:=by
 cases x with
 | none=>
  cases c with
  | none=>exact ⟨d,.inl ⟨rfl,rfl⟩,e⟩
  | some c=>exact hx.elim
 | some x=>
  cases c with
  | none=>exact hx.elim
  | some c=>
   obtain ⟨kd,m,em,e⟩:=cY (show en (ev x r) k (.err q)=.ok v h from e)
   have hx:VR φ (ev x r) c:=hx
   rw [em] at hx
   rw [hx.aU]
   exact ⟨m,.inr ⟨kd,rfl⟩,e⟩
theorem bq {k:IntKind} {b y:Nat} {code:BoundsCode} (h:b≤y):(Instr.sliceBound (.int k b) y code).run P w=.ok b w:=by
 simp only [Instr.sliceBound,asIntOf,Sem.run_bind,Sem.run_pure,Result.andThen_ok]
 rw [if_pos ⟨by omega,by omega⟩]
 simp
theorem cS {s:Bool} {len cap:Nat} {lo hi mx:Option Value} {a b m:Nat} (hm:Uj mx cap m) (hb:Uj hi len b) (ha:Uj lo 0 a) (hmh:mx.isSome=true→hi.isSome=true) (h1:a≤b) (h2:hi.isSome=true→b≤m) (h3:m≤cap) :
  (Instr.sliceBounds s len cap lo hi mx).run P w=.ok (a,b,m) w:=by
 unfold Instr.sliceBounds
 rcases hm with ⟨rfl,rfl⟩|⟨km,rfl⟩
 ·rcases hb with ⟨rfl,rfl⟩|⟨kb,rfl⟩
  ·rcases ha with ⟨rfl,rfl⟩|⟨ka,rfl⟩
   ·simp
   ·simp [bq h1]
  ·have hbm:=h2 rfl
   rcases ha with ⟨rfl,rfl⟩|⟨ka,rfl⟩
   ·simp [bq hbm]
   ·simp [bq hbm,bq h1]
 ·rcases hb with ⟨rfl,rfl⟩|⟨kb,rfl⟩
  ·simp at hmh
  ·have hbm:=h2 rfl
   rcases ha with ⟨rfl,rfl⟩|⟨ka,rfl⟩
   ·simp [bq h3,bq hbm]
   ·simp [bq h3,bq hbm,bq h1]
theorem run_slice_any {t e:TypeId} {i:TypeInfo} (ht:P.underlying t=some (.slice e)) (hi:P.info? e=some i) {base:Option Addr} {len cap:Nat} {lo hh mx:Option Value} {a b m:Nat}
  (hb:(Instr.sliceBounds true len cap lo hh mx).run P w=.ok (a,b,m) w) :
  (Instr.sliceAt t (.slice base len cap) lo hh mx).run P w=.ok (.slice (if m=a then base else base.map (·.add (a * i.size))) (b - a) (m - a)) w:=by
 simp [Instr.sliceAt,Instr.slice,ak ht,aP hi,hb]
theorem Uj.int {c:Option Value} {d b:Nat} (hb:Uj c d b) (hc:c.isSome=true):∃k,c=some (.int k b):=by
 rcases hb with ⟨rfl,_⟩|h
 ·cases hc
 ·exact h
theorem dV {a b:Nat} (e:Nat.ble a b=true):a≤b:=Nat.le_of_ble_eq_true e
theorem AJ {x:OA} {c:Option Value} (hx:IL φ r x c):isSome x=c.isSome:=by
 cases x<;>cases c<;>first|rfl|exact hx.elim
theorem HR.room (H:HR φ h w) {i:P4} {p:Place} (hp:φ i=some p) {el n:Nat} {ex:Bool} {fl:Fl} {c:Cl} (hi:au i h=.cells el n ex fl c):n≤p.room:=by
 obtain ⟨q,hq,hor⟩:=H.obj i (hi▸aK)
 rw [hp] at hq;cases hq
 rw [hi] at hor
 obtain ⟨rc,fz,g1,g2,g3,g4,g5,g6,g7⟩:=hor
 exact g3
theorem IM {t e:TypeId} {i:TypeInfo} (H:HR φ h w) (hx:VR φ (ev x r) cx) {lo hi mx:OA} {clo chi cmx:Option Value} (hlo:IL φ r lo clo) (hhi:IL φ r hi chi) (hmx:IL φ r mx cmx) (ht:P.underlying t=some (.slice e)) (hie:P.info? e=some i) (hes:0 < i.size)
  (hmh:cmx.isSome=true→chi.isSome=true) (he:eo i.size x lo hi mx r h=.ok v h'):Good φ h w v h' ((Instr.sliceAt t cx clo chi cmx).run P w):=by
 rcases cW he with ⟨j,o,n,cap,es,he⟩|⟨j,o,n,es',es,he⟩|⟨es,he⟩
 ·obtain ⟨m,hm,he⟩:=da hmx he
  obtain ⟨b,hb,he⟩:=da hhi he
  obtain ⟨a,ha,he⟩:=da hlo he
  obtain ⟨h1,he⟩:=aC he
  obtain ⟨h2,he⟩:=aC he
  obtain ⟨h3,he⟩:=aC he
  obtain ⟨rfl,rfl⟩:=RV.av he
  rw [es] at hx
  cases hx with
  | slice _ _ _ _ p hp=>
  rw [run_slice_any ht hie (cS hm hb ha hmh (dV h1) (fun _=>dV h2) (dV h3))]
  by_cases hma:m=a
  ·subst hma
   refine .same H ?_ (by rw [if_pos rfl])
   have:Nat.beq m m=true:=Nat.beq_refl m
   rw [this]
   exact .slice _ _ _ _ p hp
  ·refine .same H ?_ (by rw [if_neg hma])
   have:Nat.beq m a=false:=by
    cases hb:Nat.beq m a
    ·rfl
    ·exact absurd (Nat.eq_of_beq_eq_true hb) hma
   rw [this]
   show VR φ (.slice j (o+a * i.size) (b - a) (m - a)) _
   simp only [Option.map_some,ct]
   exact .slice _ _ _ _ p hp
 ·obtain ⟨hes',he2⟩:=aC he
  have hes':i.size=es':=Nat.eq_of_beq_eq_true hes'
  clear he
  subst hes'
  obtain ⟨b,hb,he3⟩:=da hhi he2
  obtain ⟨a,ha,he4⟩:=da hlo he3
  rw [es] at hx
  cases hx with
  | fX _ _ _ _ cap p ad hp h1 h2 h3 h4 h5 h6=>
  have hs:=AJ hmx
  rcases ff he4 with ⟨hn,he5⟩|⟨hn,he5⟩
  ·obtain ⟨hab,he6⟩:=aC he5
   obtain ⟨el,k,ex,fl,c,hj,he7⟩:=aO he6
   obtain ⟨hbk,he8⟩:=aC he7
   obtain ⟨rfl,rfl⟩:=RV.av he8
   have hab:=dV hab
   have hbk:o+b * i.size≤k:=dV hbk
   have hroom:=H.room hp hj
   have hcap:b≤cap:=Nat.le_of_mul_le_mul_right (show b * i.size≤cap * i.size by omega) hes
   have hnone:cmx=none:=by
    rw [hn] at hs;cases cmx
    ·rfl
    ·cases hs
   subst hnone
   rw [run_slice_any ht hie (cS (.inl ⟨rfl,rfl⟩) hb ha (by simp) hab (fun _=>hcap) (Nat.le_refl _))]
   refine .same H ?_ rfl
   have hsub:(cap - a) * i.size=cap * i.size - a * i.size:=Nat.sub_mul _ _ _
   have hle:a * i.size≤cap * i.size:=Nat.mul_le_mul_right _ (by omega)
   by_cases hca:cap=a
   ·rw [if_pos hca]
    exact .fX j (o+a * i.size) (b - a) i.size (cap - a) p ad hp (by omega) (by omega) h3 h4 (fun hc=>absurd (by omega:cap - a=0) hc) h6
   ·rw [if_neg hca,fR h3 h4 h5 (by omega)]
    simp only [Option.map_some,ct]
    exact .fX j (o+a * i.size) (b - a) i.size (cap - a) p (p.addr (o+a * i.size)) hp (by omega) (by omega) rfl rfl (fun _=>rfl) h6
  ·obtain ⟨m,hm,he6⟩:=da hmx he5
   obtain ⟨hab,he7⟩:=aC he6
   obtain ⟨hbm,he8⟩:=aC he7
   obtain ⟨el,k,ex,fl,c,hj,he9⟩:=aO he8
   obtain ⟨hbk,he10⟩:=aC he9
   obtain ⟨rfl,rfl⟩:=RV.av he10
   have hab:=dV hab
   obtain ⟨hm1,hbm⟩:=Bool.and_eq_true_iff.1 hbm
   have hbm:=dV hbm
   have hm1:=dV hm1
   have hbk:o+m * i.size≤k:=dV hbk
   have hroom:=H.room hp hj
   have hcap:m≤cap:=Nat.le_of_mul_le_mul_right (show m * i.size≤cap * i.size by omega) hes
   have hsome:cmx.isSome=true:=by rw [←hs];exact hn
   obtain ⟨km,rfl⟩:=hm.int hsome
   rw [run_slice_any ht hie (cS (.inr ⟨km,rfl⟩) hb ha hmh hab (fun _=>hbm) hcap)]
   have had:=fR h3 h4 h5 (by omega)
   subst had
   by_cases hma:m=a
   ·subst hma
    refine .same H ?_ (by rw [if_pos rfl])
    have:Nat.beq m m=true:=Nat.beq_refl m
    rw [this]
    exact .slice _ _ _ _ p hp
   ·refine .same H ?_ (by rw [if_neg hma])
    have:Nat.beq m a=false:=by
     cases hb:Nat.beq m a
     ·rfl
     ·exact absurd (Nat.eq_of_beq_eq_true hb) hma
    rw [this]
    show VR φ (.slice j (o+a * i.size) (b - a) (m - a)) _
    simp only [Option.map_some,ct]
    exact .slice _ _ _ _ p hp
 ·obtain ⟨m,hm,he⟩:=da hmx he
  obtain ⟨b,hb,he⟩:=da hhi he
  obtain ⟨a,ha,he⟩:=da hlo he
  obtain ⟨h1,he⟩:=aC he
  obtain ⟨rfl,rfl⟩:=RV.av he
  rw [es] at hx
  cases hx
  have h0:m+(a+b)=0:=Nat.eq_of_beq_eq_true h1
  have hm0:m=0:=by omega
  have ha0:a=0:=by omega
  have hb0:b=0:=by omega
  subst hm0 ha0 hb0
  rw [run_slice_any ht hie (cS hm hb ha hmh (Nat.le_refl _) (fun _=>Nat.le_refl _) (Nat.le_refl _))]
  exact .same H .ai (by simp)
theorem Dw {t e:TypeId} {i:TypeInfo} {n:Nat} (H:HR φ h w) (hx:VR φ (ev x r) cx) {lo hi mx:OA} {clo chi cmx:Option Value} (hlo:IL φ r lo clo) (hhi:IL φ r hi chi) (hmx:IL φ r mx cmx) (ht:P.underlying t=some (.array n e)) (hie:P.info? e=some i)
  (hmh:cmx.isSome=true→chi.isSome=true) (he:pe n i.size x lo hi mx r h=.ok v h'):Good φ h w v h' ((Instr.sliceAt t cx clo chi cmx).run P w):=by
 obtain ⟨j,o,es,he⟩:=cD he
 obtain ⟨m,hm,he⟩:=da hmx he
 obtain ⟨b,hb,he⟩:=da hhi he
 obtain ⟨a,ha,he⟩:=da hlo he
 obtain ⟨h1,he⟩:=aC he
 obtain ⟨h2,he⟩:=aC he
 obtain ⟨h3,he⟩:=aC he
 obtain ⟨rfl,rfl⟩:=RV.av he
 rw [es] at hx
 obtain ⟨p,hp,rfl⟩:=hx.fc
 have hbd:=cS (P:=P) (w:=w) (s:=false) hm hb ha hmh (dV h1) (fun _=>dV h2) (dV h3)
 have hrun:(Instr.sliceAt t (.pointer (some (p.addr o))) clo chi cmx).run P w=.ok (.slice (some (if m=a then p.addr o else (p.addr o).add (a * i.size))) (b - a) (m - a)) w:=by
  simp [Instr.sliceAt,ak ht,aP hie,Instr.sureAddr,hbd]
 rw [hrun]
 by_cases hma:m=a
 ·subst hma
  refine .same H ?_ (by rw [if_pos rfl])
  have:Nat.beq m m=true:=Nat.beq_refl m
  rw [this]
  exact .slice _ _ _ _ p hp
 ·refine .same H ?_ (by rw [if_neg hma])
  have:Nat.beq m a=false:=by
   cases hb:Nat.beq m a
   ·rfl
   ·exact absurd (Nat.eq_of_beq_eq_true hb) hma
  rw [this]
  show VR φ (.slice j (o+a * i.size) (b - a) (m - a)) _
  rw [ct]
  exact .slice _ _ _ _ p hp
theorem Dx {t:TypeId} (H:HR φ h w) (hx:VR φ (ev x r) cx) {lo hi:OA} {clo chi:Option Value} (hlo:IL φ r lo clo) (hhi:IL φ r hi chi) (ht:P.underlying t=some .string)
  (he:mL x lo hi r h=.ok v h'):Good φ h w v h' ((Instr.sliceAt t cx clo chi none).run P w):=by
 obtain ⟨s,es,he⟩:=cB he
 obtain ⟨b,hb,he⟩:=da hhi he
 obtain ⟨a,ha,he⟩:=da hlo he
 obtain ⟨h1,he⟩:=aC he
 obtain ⟨h2,he⟩:=aC he
 obtain ⟨rfl,rfl⟩:=RV.av he
 rw [es] at hx
 obtain ⟨s,rfl,rfl⟩:=hx.cZ
 have hl:(List.map UInt8.toNat s.data.toList).length=s.size:=by simp
 rw [hl] at hb h2
 have hbd:=cS (P:=P) (w:=w) (s:=false) (mx:=none) (.inl ⟨rfl,rfl⟩) hb ha (by simp) (dV h1) (fun _=>dV h2) (Nat.le_refl _)
 refine .same H (cv:=.string (s.extract a b)) (.str _ _ ?_) ?_
 ·show List.take (b - a) (List.drop a (List.map UInt8.toNat s.data.toList))=_
  rw [ByteArray.data_extract,Array.toList_extract,List.extract_eq_take_drop,List.map_take,List.map_drop]
 ·simp [Instr.sliceAt,Instr.slice,ak ht,hbd]
variable {P:Program} {φ:aJ} {h h':Hp} {w:World} {v:AV} {x y z:AO} {r:A2} {cx cy:Value}
theorem wY (a:AV) (l:List AV) (k:List Nat→RV) (e:RV):hM (a::l) k e=AV.dp a (fun kd n=>@Bool.rec (fun _=>RV) e (@Int.rec (fun _=>RV) (fun m=>@Bool.rec (fun _=>RV) e (hM l (fun s=>k (m::s)) e) (Nat.ble m 255)) (fun _=>e) n) (WS kd)) e:=rfl
theorem fx:∀{l:List AV} {k:List Nat→RV} {q:Nat},hM l k (.err q)=.ok v h→∃bs:List UInt8,l=byteCells (bs.map UInt8.toNat)∧k (bs.map UInt8.toNat)=.ok v h
 | [],k,q,e=>⟨[],rfl,e⟩
 | a::l,k,q,e=>by
  rw [wY] at e
  obtain ⟨kd,n,rfl,e⟩:=bu e
  obtain ⟨hk,e⟩:=aC e
  have hk:kd=.u8:=by cases kd<;>first|rfl|cases hk
  subst hk
  cases n with
  | negSucc m=>cases e
  | ofNat m=>
   obtain ⟨hm,e⟩:=aC e
   have hm:=dV hm
   obtain ⟨bs,rfl,e2⟩:=fx (l:=l) (k:=fun s=>k (m::s)) (q:=q) e
   have hmm:(UInt8.ofNat m).toNat=m:=by simp;omega
   refine ⟨UInt8.ofNat m::bs,?_,?_⟩
   ·simp only [List.map_cons,hmm];rfl
   ·simp only [List.map_cons,hmm];exact e2
theorem lW {bs:List UInt8} {ns:List Value} (hv:bX φ (byteCells (bs.map UInt8.toNat)) ns):ns=bs.map fun b=>Value.int .u8 b.toNat:=by
 induction bs generalizing ns with
 | nil=>cases hv;rfl
 | cons b bs ih=>
  cases hv with
  | cons _ c _ cs h1 h2=>rw [h1.aU,ih h2];rfl
theorem IP {a:AV} (H:HR φ h w) (hx:VR φ a cx) {s d e:TypeId} (hs:P.underlying s=some (.slice e)) (he:P.underlying e=some (.int .u8)) (hd:P.underlying d=some .string) (ho:GY a h=.ok v h') :
  Good φ h w v h' ((convert s d cx).run P w):=by
 obtain ⟨b,n,c,new,ns,rfl,ho,E⟩:=tq (P:=P) H hx ho
 obtain ⟨bs,rfl,ho2⟩:=fx ho
 obtain ⟨rfl,rfl⟩:=RV.av ho2
 have hns:=lW E.rel
 subst hns
 have hn:bs.length=n:=by simpa using E.size
 refine .same H (cv:=.string ⟨bs.toArray⟩) (.str _ _ (by simp)) ?_
 rw [run_convert_bytes_string w s d e b n c hs he hd]
 have hc:=E.cells w rfl
 cases b with
 | none=>
  simp only [Builtin.firstCells,Sem.run_pure] at hc
  have:bs=[]:=by
   have:=(Result.ok.inj hc).1
   cases bs
   ·rfl
   ·simp at this
  subst this
  rfl
 | some a=>
  simp only [Builtin.firstCells,Nat.mul_one] at hc
  have hc':(loadCells a n).run P w=.ok ((bs.map fun b=>(b.toNat:Int)).map (Value.int .u8)).toArray w:=by
   rw [hc,List.map_map];rfl
  rw [run_bytesToString w a n c _ hc',foldl_push_byteCells]
  simp
theorem IQ {a:AV} (H:HR φ h w) (hx:VR φ a cx) {s d e:TypeId} (hs:P.underlying s=some .string) (he:P.underlying e=some (.int .u8)) (hd:P.underlying d=some (.slice e)) (ho:Nv e a h=.ok v h') :
  Good φ h w v h' ((convert s d cx).run P w):=by
 obtain ⟨l,rfl,ho⟩:=cB ho
 obtain ⟨b,rfl,rfl⟩:=hx.cZ
 obtain ⟨hr,hn,ho⟩:=eR ho
 obtain ⟨rfl,rfl⟩:=RV.av ho
 rw [run_bytes_of_string w s d e b hs hd he]
 obtain ⟨g1,g2⟩:=fM φ b.data.toList
 have hl:(byteCells (b.data.toList.map UInt8.toNat)).length=b.size:=by rw [g1.length];simp
 have hcap:b.size≤grownCap w b.size 0 e:=by simp [grownCap,Question.cut]
 have hsz:(bytesRow b (grownCap w b.size 0 e)).size=grownCap w b.size 0 e:=by simp [bytesRow];omega
 generalize hrow:bytesRow b (grownCap w b.size 0 e)=row at hsz ⊢
 generalize hcp:grownCap w b.size 0 e=cp at *
 have hfl:Dm .mark (row.size,row.size+1) row.size:=by intro k hk;simp;omega
 obtain ⟨k1,k2⟩:=H.nB (n':=h.next.succ) (w':=w.drew.alloc (.cells row e (row.size,row.size+1))) hn (rc:=row) (el:=e) (n:=(byteCells (b.data.toList.map UInt8.toNat)).length) (ex:=false) (fl:=.mark) (fz:=(row.size,row.size+1))
  (c:=mu (byteCells (b.data.toList.map UInt8.toNat))) (by rw [hl,hsz];exact hcap) (by simp) hr (fun k hk=>by
   have hk':k < (b.data.toList.map fun b=>Value.int .u8 b.toNat).length:=by rw [←g1.length];exact hk
   refine ⟨(b.data.toList.map fun b=>Value.int .u8 b.toNat)[k],?_,?_,g2 _ (List.getElem_mem _)⟩
   ·rw [←hrow,bytesRow,Array.getElem?_append_left (by simpa using hk')]
    simp only [List.length_map,Array.length_toList] at hk'
    rw [Array.getElem?_map,Array.getElem?_eq_getElem hk']
    simp
   ·rw [dA _ hr k hk];exact g1.get k hk hk') hfl rfl rfl rfl rfl
 refine ⟨_,_,_,rfl,?_,k1,k2⟩
 have hll:(List.map UInt8.toNat b.data.toList).length=b.size:=by simp
 rw [hll]
 exact .fX _ 0 b.size 1 cp ⟨w.heap.size,0,_⟩ ⟨w.heap.size,0,none⟩ (aJ.aL _ _ _) (by simp only;omega) hcap rfl rfl (fun _=>rfl) (by omega)
theorem tt (H:HR φ h w) {s:AV} {base:Option Addr} {n c:Nat} (hs:VR φ s (.slice base n c)) {l:List AV} {vs:List Value} (hl:bX φ l vs) (h1:∀c,c∈vs→c.oneCell'=true) (hn:n=0→l=[]) {k:Hp→RV} (e:yQ l s h k=.ok v h') :
  ∃w' h2,k h2=.ok v h'∧(∀a,base=some a→(storeCells a vs).run P w=.ok () w')∧(base=none→w'=w)∧HR φ h2 w'∧Step φ h w φ h2 w':=by
 cases hl with
 | nil=>exact ⟨w,h,e,fun a _=>rfl,fun _=>rfl,H,.refl _ _ _⟩
 | cons a cv as cvs ha has=>
  have hn0:n≠0:=fun h0=>by cases hn h0
  have e:AV.jl s (fun i o _ _=>lx i o (a::as) h k) (fun i o _ _=>lx i o (a::as) h k) (RV.err 93) (RV.err 93)=RV.ok v h':=e
  rcases cW e with ⟨i,o,l,c,rfl,e2⟩|⟨i,o,l,c,rfl,e2⟩|⟨rfl,e2⟩
  ·obtain ⟨el,k',ex,fl,c,hj,hf,hb,e3⟩:=mU e2
   cases hs with
   | slice _ _ _ _ p hp=>
   obtain ⟨w',r1,r2,r3⟩:=jC (P:=P) H hp hj hf (.cons a cv as cvs ha has) h1 (o:=o) hb
   exact ⟨w',_,e3,fun b hb=>by cases hb;exact r1,by simp,r2,r3⟩
  ·obtain ⟨el,k',ex,fl,c,hj,hf,hb,e3⟩:=mU e2
   cases hs with
   | fX _ _ _ _ cap p ad hp g1 g2 g3 g4 g5 g6=>
   obtain ⟨w',r1,r2,r3⟩:=jC (P:=P) H hp hj hf (.cons a cv as cvs ha has) h1 (o:=o) hb
   exact ⟨w',_,e3,fun b hb=>by cases hb;rw [fR g3 g4 g5 (by omega)];exact r1,by simp,r2,r3⟩
  ·cases e2
theorem bX.take:∀{as:List AV} {vs:List Value} (n:Nat),bX φ as vs→bX φ (as.take n) (vs.take n)
 | _,_,0,_=>by simpa using bX.nil
 | _,_,n+1,.nil=>.nil
 | _,_,n+1,.cons _ _ _ _ e es=>.cons _ _ _ _ e (bX.take n es)
theorem IU {ts:Array TypeId} {ty t e:TypeId} {i:TypeInfo} (hts:ts[0]?=some t) (H:HR φ h w) (hx:VR φ (ev x r) cx) (hy:VR φ (ev y r) cy) (ht:P.underlying t=some (.slice e)) (hi:P.info? e=some i) (hes:0 < i.size)
  (he:vl i.size x y r h=.ok v h'):Good φ h w v h' ((Builtin.copy_ ts ty #[cx,cy]).run P w):=by
 unfold vl WU at he
 obtain ⟨n,base,c,rfl,he⟩:=nW hx he
 have hrun:∀{m:Nat} {arr:List Value} {w':World},(Builtin.lenOf cy).run P w=.ok m w→(Builtin.firstCells i.size (Nat.min m n) cy).run P w=.ok arr.toArray w→(∀a,base=some a→(storeCells a arr).run P w=.ok () w')→(base=none→w'=w)→
   (Builtin.copy_ ts ty #[.slice base n c,cy]).run P w=.ok (goInt (Nat.min m n)) w':=by
  intro m arr w' h1 h2 h3 h4
  cases base with
  | none=>
   rw [h4 rfl]
   simp [Builtin.copy_,hts,ak ht,h1,aP hi,h2]
  | some a=>
   simp [Builtin.copy_,hts,ak ht,h1,aP hi,h2,h3 a rfl]
 have hcase:(∃s,ev y r=.str s)∨(∀s,ev y r≠.str s):=by
  cases ev y r<;>first|exact .inl ⟨_,rfl⟩|exact .inr fun s=>by simp
 rcases hcase with ⟨s,es⟩|hns
 ·rw [es] at he hy
  obtain ⟨b,rfl,rfl⟩:=hy.cZ
  obtain ⟨g1,g2⟩:=fM φ (b.data.toList.take n)
  rw [List.map_take] at g1
  obtain ⟨hsz,he⟩:=aC he
  have hsz:=Nat.eq_of_beq_eq_true hsz
  obtain ⟨w',h2,he2,r1,r2,r3,r4⟩:=tt (P:=P) H hx g1 g2 (fun h0=>by rw [h0];rfl) he
  obtain ⟨rfl,rfl⟩:=RV.av he2
  rw [hrun (m:=b.size) rfl (by
   simp only [Builtin.firstCells,Sem.run_pure]
   congr 1
   apply Array.ext'
   rw [Array.toList_map,ByteArray.data_extract,Array.toList_extract,List.extract_eq_take_drop]
   simp only [List.drop_zero,Nat.sub_zero]
   congr 1
   show List.take (min b.size n) b.data.toList=_
   rw [List.take_eq_take_iff]
   simp
   have:b.size=b.data.size:=rfl
   omega) r1 r2]
  refine ⟨_,w',φ,rfl,?_,r3,r4⟩
  have hll:(List.map UInt8.toNat b.data.toList).length=b.size:=by simp
  rw [hll]
  exact .int _ _
 ·have he2:sS (ev y r) (fun m=>elems i.size (ev y r) h (fun l=>yQ (List.take (Nat.mul n i.size) l) (ev x r) h (fun h=>.ok (hH (Nat.min m n)) h)) (.err 94)) (.err 94)=.ok v h':=by
   revert he hns
   cases ev y r<;>intro he hns<;>first|exact he|exact absurd rfl (hns _)
  obtain ⟨m,b2,c2,rfl,he3⟩:=nW hy he2
  obtain ⟨b,m',c3,new,ns,hcy,he4,E⟩:=tq (P:=P) H hy he3
  cases hcy
  have hrel:=E.rel.take (Nat.mul n i.size)
  obtain ⟨w',h2,he5,r1,r2,r3,r4⟩:=tt (P:=P) H hx hrel (fun c hc=>E.one c (List.mem_of_mem_take hc)) (fun h0=>by rw [h0];simp) he4
  obtain ⟨rfl,rfl⟩:=RV.av he5
  have hpre:=E.pre (Nat.min m n) (Nat.min_le_left _ _)
  have htk:List.take (Nat.min m n * i.size) ns=List.take (Nat.mul n i.size) ns:=by
   rw [List.take_eq_take_iff,E.size]
   show min (min m n * i.size) (m * i.size)=min (n * i.size) (m * i.size)
   rcases Nat.le_total m n with g|g
   ·rw [Nat.min_eq_left g,Nat.min_self,Nat.min_eq_right (Nat.mul_le_mul_right _ g)]
   ·rw [Nat.min_eq_right g]
  rw [htk] at hpre
  rw [hrun (m:=m) rfl hpre r1 r2]
  exact ⟨_,w',φ,rfl,.int _ _,r3,r4⟩
variable {P:Program} {φ:aJ} {h h':Hp} {w:World} {v:AV} {x y z:AO} {r:A2} {cx cy:Value}
theorem pz (z:List AV):dP 0 z=[]:=rfl
theorem vE (n:Nat) (z:List AV):dP (n+1) z=z ++ dP n z:=rfl
theorem eM:∀(n:Nat) (z:List AV),(dP n z).length=n * z.length
 | 0,z=>by rw [pz];simp
 | n+1,z=>by rw [vE,List.length_append,eM n z,Nat.add_mul];omega
theorem js:∀(n:Nat) (z:List AV) (k:Nat) (hk:k < (dP n z).length) (hz:k % z.length < z.length),(dP n z)[k]=z[k % z.length]
 | 0,z,k,hk,_=>by rw [pz] at hk;simp at hk
 | n+1,z,k,hk,hz=>by
  by_cases h1:k < z.length
  ·have:(dP (n+1) z)[k]=z[k]:=List.getElem_append_left h1
   rw [this]
   congr 1
   exact (Nat.mod_eq_of_lt h1).symm
  ·have h2:k - z.length < (dP n z).length:=by
    rw [vE,List.length_append] at hk;omega
   have:(dP (n+1) z)[k]=(dP n z)[k - z.length]:=List.getElem_append_right (by omega)
   have hmod:(k - z.length) % z.length=k % z.length:=(Nat.mod_eq_sub_mod (by omega)).symm
   rw [this,js n z _ h2 (by rw [hmod];exact hz)]
   congr 1
theorem eE {z:List AV} {zc:Array Value} (hz:bX φ z zc.toList) (h1:∀c,c∈zc.toList→c.oneCell'=true) (n m:Nat) (hm:m=n * zc.size) :
  bX φ (dP n z) ((Array.range m).map (zc[· % zc.size]!)).toList∧∀c,c∈((Array.range m).map (zc[· % zc.size]!)).toList→c.oneCell'=true:=by
 have hl:z.length=zc.size:=by rw [hz.length];simp
 have hpos:∀k,k < m→k % zc.size < zc.size:=fun k hk=>Nat.mod_lt _ (by
  rcases Nat.eq_zero_or_pos zc.size with g|g
  ·rw [g,Nat.mul_zero] at hm;omega
  ·exact g)
 refine ⟨bX.HU (by rw [eM,hl];simp [hm]) fun k hk hk'=>?_,fun c hc=>?_⟩
 ·have hkm:k < m:=by rw [eM,hl] at hk;omega
  have hp:=hpos k hkm
  rw [js n z k hk (by rw [hl];exact hp)]
  have hp':k % z.length < zc.toList.length:=by rw [hl];simpa using hp
  have:=hz.get (k % z.length) (by rw [hl];exact hp) hp'
  have he:((Array.range m).map (zc[· % zc.size]!)).toList[k]=zc.toList[k % z.length]:=by
   simp only [Array.getElem_toList,Array.getElem_map,Array.getElem_range]
   rw [getElem!_pos zc (k % zc.size) hp]
   congr 1
   rw [hl]
  rw [he]
  exact this
 ·rw [Array.toList_map] at hc
  simp only [List.mem_map,Array.mem_toList_iff,Array.mem_range] at hc
  obtain ⟨k,hk,rfl⟩:=hc
  have hp:=hpos k hk
  rw [getElem!_pos zc (k % zc.size) hp]
  exact h1 _ (by simp)
theorem fV {t:TypeId} {z:List AV} (hz:fO P t=some z) (φ:aJ):∃i zv,P.info? t=some i∧i.zero=some zv∧bX φ z zv.cells.toList∧∀c,c∈zv.cells.toList→c.oneCell'=true:=by
 unfold fO at hz
 simp only [Option.bind_eq_some_iff] at hz
 obtain ⟨zv,⟨inf,hinf,hzv⟩,hl⟩:=hz
 obtain ⟨g1,g2⟩:=lB φ hl
 exact ⟨inf,zv,hinf,hzv,g1,g2⟩
theorem IV {ts:Array TypeId} {ty t e:TypeId} (hts:ts[0]?=some t) (H:HR φ h w) (hx:VR φ (ev x r) cx) (ht:P.underlying t=some (.slice e)) {zs:List AV} (hz:fO P e=some zs)
  (he:vm zs x r h=.ok v h'):Good φ h w v h' ((Builtin.clear_ ts ty #[cx]).run P w):=by
 unfold vm WV at he
 obtain ⟨n,base,c,rfl,he2⟩:=nW hx he
 obtain ⟨i,zv,hi,hzv,g1,g2⟩:=fV hz φ
 obtain ⟨k1,k2⟩:=eE g1 g2 n _ rfl
 obtain ⟨w',h2,he3,r1,r2,r3,r4⟩:=tt (P:=P) H hx k1 k2 (fun h0=>by rw [h0,pz]) he2
 obtain ⟨rfl,rfl⟩:=RV.av he3
 have hv:VR φ cA (.tuple #[]):=.bU [] [] .nil
 have hrun:(Builtin.clear_ ts ty #[.slice base n c]).run P w=.ok (.tuple #[]) w':=by
  cases base with
  | none=>
   rw [r2 rfl]
   simp [Builtin.clear_,hts,ak ht]
  | some a=>
   have hr1:=r1 a rfl
   cases n with
   | zero=>
    have hw:w'=w:=by
     have:((Array.range (0 * zv.cells.size)).map (zv.cells[· % zv.cells.size]!)).toList=[]:=by simp
     rw [this] at hr1
     simp [storeCells] at hr1
     exact hr1.symm
    rw [hw]
    simp [Builtin.clear_,hts,ak ht]
   | succ n=>
    have hr2:(storeCells a (Builtin.zeroCells zv.cells (n+1)).toList).run P w=.ok () w':=hr1
    simp [Builtin.clear_,hts,ak ht,zeroValue,bD hi,hzv,hr2]
 rw [hrun]
 exact ⟨_,w',φ,rfl,hv,r3,r4⟩
theorem lX (H:HR φ h w) {l:List AV} {vs:List Value} (hl:bX φ l vs) (h1:∀c,c∈vs→c.oneCell'=true) {el n c:Nat} (e:oV el true .plain l.length (mu l) h (fun i h=>.ok (.slice i 0 n c) h)=.ok v h') :
  Good φ h w v h' (.ok (.slice (some ⟨w.heap.size,0,none⟩) n c) {w with heap:=w.heap.push (.cells vs.toArray el)}):=by
 obtain ⟨hr,hi,e⟩:=eR e
 obtain ⟨rfl,rfl⟩:=RV.av e
 obtain ⟨g1,g2⟩:=H.Cn (n':=h.next.succ) hi hl h1 (el:=el) hr (fun k hk=>dA l hr k hk)
 refine ⟨_,_,_,rfl,?_,g1,g2⟩
 have:=VR.slice (φ:=φ.put h.next ⟨w.heap.size,0,vs.length⟩) h.next 0 n c _ (aJ.aL _ _ _)
 simpa [Place.addr] using this
theorem iY {G:Gl} {n:Nat} {place:Nat→Option (Nat×Nat)} {ρ:Operand→Value}:∀{qs:List (Nat×Operand)} {ps:List Part},oX G n place qs=some ps→(∀q,q∈qs→∀a,cO G q.2=some a→VR φ (ev a r) (ρ q.2))→
  ps.length=qs.length∧(∀k (h1:k < ps.length) (h2:k < (qs.map fun q=>(q.1,ρ q.2)).length),th φ r place ps[k] (qs.map fun q=>(q.1,ρ q.2))[k])∧∀p,p∈ps→match p with|.mk off sz _=>off+sz≤n
 | [],ps,e,_=>by
  simp [oX] at e;subst e;simp
 | (i,o)::qs,ps,e,hv=>by
  unfold oX at e
  simp only [List.mapM_cons,Option.pure_def,Option.bind_eq_bind,Option.bind_eq_some_iff,Option.some.injEq] at e
  obtain ⟨p,⟨⟨off,sz⟩,hpl,hp⟩,ps',hps,rfl⟩:=e
  obtain ⟨g1,g2,g3⟩:=iY (qs:=qs) hps (fun q hq=>hv q (by simp [hq]))
  simp only at hp
  split at hp
  ·rename_i hle
   simp only [Option.bind_eq_some_iff,Option.some.injEq] at hp
   obtain ⟨a,ha,rfl⟩:=hp
   refine ⟨by simp [g1],fun k h1 h2=>?_,fun p hp=>?_⟩
   ·match k with
    | 0=>exact ⟨hpl,hv (i,o) (by simp) a ha⟩
    | k+1=>exact g2 k (by simpa using h1) (by simpa using h2)
   ·rcases List.mem_cons.1 hp with rfl|hp
    ·exact hle
    ·exact g3 p hp
  ·cases hp
theorem tu {t:TypeId} {zs:List AV} (H:HR φ h w) (hz:fO P t=some zs) {place:Nat→Option (Nat×Nat)} {ps:List Part} {qs:List (Nat×Value)} (hl:ps.length=qs.length) (hp:∀k (h1:k < ps.length) (h2:k < qs.length),th φ r place ps[k] qs[k])
  (hb:∀p,p∈ps→match p with|.mk off sz _=>off+sz≤zs.length) (ht:(∃fs,P.underlying t=some (.struct fs)∧(∀f,f∈fs→(P.info? f.type).isSome=true)∧place=(fun i=>(fs[i]?).map fun f=>(f.offset,bp P f.type)))∨
   (∃n e,P.underlying t=some (.array n e)∧(P.info? e).isSome=true∧place=fun i=>some (i * bp P e,bp P e)))
  (he:jm zs ps r h=.ok v h'):Good φ h w v h' ((Instr.build t qs.toArray).run P w):=by
 obtain ⟨hf,he⟩:=aC he
 obtain ⟨rfl,rfl⟩:=RV.av he
 obtain ⟨i,zv,hi,hzv,g1,g2⟩:=fV hz φ
 obtain ⟨es,f1,f2,f3⟩:=tk ps qs zs zv.cells.toList hl hp hf (fun p hp'=>by have:=hb p hp';rw [g1.length] at this;exact this) g1 g2
 refine .same H (cv:=.agg es.toArray) (.agg _ _ f2 f3) ?_
 rcases ht with ⟨fs,ht,hfs,rfl⟩|⟨n,e,ht,hei,rfl⟩
 ·have hm:∀(l:List Field),(∀f,f∈l→(P.info? f.type).isSome=true)→(l.mapM fun f=>Prod.mk f.offset <$> sizeOf f.type).run P w=.ok (l.map fun f=>(f.offset,bp P f.type)) w:=by
   intro l
   induction l with
   | nil=>intro _;rfl
   | cons f l ih=>
    intro hl
    obtain ⟨inf,hinf⟩:=Option.isSome_iff_exists.1 (hl f (by simp))
    simp [List.mapM_cons,aP hinf,ih (fun g hg=>hl g (by simp [hg])),cJ hinf]
  have hma:=hm fs.toList (fun f hf=>hfs f (by simpa using hf))
  have hplace:(fun (i:Nat)=>(fs.toList.map fun (f:Field)=>(f.offset,bp P f.type)).toArray[i]?)=fun (i:Nat)=>(fs[i]?).map fun (f:Field)=>(f.offset,bp P f.type):=by
   funext i;simp
  have f1':Instr.fill (fun (i:Nat)=>(fs.toList.map fun (f:Field)=>(f.offset,bp P f.type)).toArray[i]?) zv.cells qs=some es.toArray:=by rw [hplace];simpa using f1
  simp [Instr.build,zeroValue,bD hi,hzv,ak ht,Array.mapM_eq_mapM_toList,hma]
  simp at f1'
  simp [f1']
 ·obtain ⟨inf,hinf⟩:=Option.isSome_iff_exists.1 hei
  rw [cJ hinf] at f1
  have f1':Instr.fill (fun i=>some (i * inf.size,inf.size)) zv.cells qs=some es.toArray:=by simpa using f1
  simp [Instr.build,zeroValue,bD hi,hzv,ak ht,aP hinf,f1']
theorem kU:∀(ps:List Part) (l:List AV),(fill ps r l).length=l.length
 | [],_=>rfl
 | .mk off sz x::ps,l=>by
  rw [vD]
  simp only
  rw [kU ps]
  have:∀(as:List AV) (i:Nat) (l:List AV),(nR as i l).length=l.length:=by
   intro as
   induction as with
   | nil=>intro i l;rfl
   | cons a as ih=>intro i l;rw [tf,ih,wX];simp
  exact this _ _ _
theorem zb {t e:TypeId} {zs:List AV} (H:HR φ h w) (ht:P.underlying t=some (.slice e)) (hz:fO P e=some zs) (hzl:zs.length=bp P e) (hes:bp P e≠0) {n:Nat} {ps:List Part} {qs:List (Nat×Value)} (hl:ps.length=qs.length)
  (hp:∀k (h1:k < ps.length) (h2:k < qs.length),th φ r (fun i=>some (i * bp P e,bp P e)) ps[k] qs[k])
  (hb:∀p,p∈ps→match p with|.mk off sz _=>off+sz≤n * bp P e) (he:fN e (bp P e) n (dP n zs) ps r h=.ok v h') :
  Good φ h w v h' ((Instr.buildSlice t n qs.toArray).run P w):=by
 obtain ⟨hf,he⟩:=aC he
 obtain ⟨i,zv,hi,hzv,g1,g2⟩:=fV hz φ
 rw [cJ hi] at hzl hes hp hb
 have hzs:zv.cells.size=i.size:=by rw [←hzl,g1.length];simp
 obtain ⟨k1,k2⟩:=eE g1 g2 n (n * i.size) (by rw [hzs])
 have hlen:((Array.range (n * i.size)).map (zv.cells[· % zv.cells.size]!)).toList.length=n * i.size:=by simp
 obtain ⟨es,f1,f2,f3⟩:=tk ps qs (dP n zs) ((Array.range (n * i.size)).map (zv.cells[· % zv.cells.size]!)).toList hl hp hf (fun p hp'=>by have:=hb p hp';rw [hlen];exact this) k1 k2
 have hr:=(eR he).1
 rw [kU,eM,hzl] at hr
 have hcr:=kF (mu (fill ps r (dP n zs)))
 have:=lX H f2 f3 he
 have hrun:(Instr.buildSlice t n qs.toArray).run P w=.ok (.slice (some ⟨w.heap.size,0,none⟩) n n) {w with heap:=w.heap.push (.cells es.toArray e)}:=by
  have hbig:¬ (16777216 < n * i.size):=by omega
  by_cases h0:n * i.size=0
  ·have hn0:n=0:=by
    rcases Nat.mul_eq_zero.1 h0 with g|g
    ·exact g
    ·exact absurd g hes
   subst hn0
   have hh:((Array.range (0 * i.size)).map (zv.cells[· % zv.cells.size]!)).toList.toArray=#[]:=by simp
   rw [hh] at f1
   have hh2:∀g:Nat→Value,(Array.range 0).map g=#[]:=by intro g;simp
   simp only [Instr.buildSlice,Sem.run_bind,ak ht,Result.andThen_ok,aP hi]
   simp only [Nat.zero_mul,hh2,f1]
   simp [dU]
  ·have f1':Instr.fill (fun i_1=>some (i_1 * i.size,i.size)) ((Array.range (n * i.size)).map (zv.cells[· % zv.cells.size]!)) qs=some es.toArray:=f1
   simp only [Instr.buildSlice,Sem.run_bind,ak ht,Result.andThen_ok,aP hi]
   rw [if_neg hbig]
   simp only [h0,if_false,zeroValue,Sem.run_bind,bD hi,hzv,Result.andThen_ok,Sem.run_pure,f1',dU]
 rw [hrun]
 exact this
variable {P:Program} {φ:aJ} {h h':Hp} {w:World} {v:AV} {x y z:AO} {r:A2} {cx cy:Value}
theorem cj {b:Nat} {o:Go.Obj} {es:Array MapEntry} {ck:Nat} (h1:w.heap[b]?=some o) (ho:o=.map es ck):(getObj b).run P w=.ok (.map es ck) w:=by
 subst ho
 show (Sem.getObj b .pure).run P w=_
 simp [Sem.run,h1]
theorem HR.map (H:HR φ h w) {i:P4} {p:Place} {l:List KV} {ck:Nat} (hi:au i h=.map l ck) (hp:φ i=some p):∃es cw l0,w.heap[p.bJ]?=some (.map es cw)∧l.Perm l0∧bP (cg p.room) φ l0 es.toList∧xz (cg p.room) (l.map KV.ji) ck cw:=by
 obtain ⟨q,hq,hor⟩:=H.obj i (hi▸fQ)
 rw [hp] at hq;cases hq
 rw [hi] at hor
 exact hor
theorem VR.jD {i:P4} {c:Value} (hv:VR φ (.map i) c):∃p,φ i=some p∧c=.map (some p.bJ):=by cases hv;exact ⟨_,by assumption,rfl⟩
theorem VR.nY {c:Value} (hv:VR φ .gg c):c=.map none:=by cases hv;rfl
theorem bP.length {st:Nat→Nat}:∀{l:List KV} {es:List MapEntry},bP st φ l es→l.length=es.length
 | _,_,.nil=>rfl
 | _,_,.cons _ _ _ _ _ _ _ _ _ r=>by simp [bP.length r]
theorem Dy {ts:Array TypeId} {ty t k e:TypeId} (hts:ts[0]?=some t) (H:HR φ h w) (hx:VR φ (ev x r) cx) (ht:P.underlying t=some (.map k e)) (he:po x r h=.ok v h') :
  Good φ h w v h' ((Builtin.len_ ts ty #[cx]).run P w):=by
 rcases eZ he with ⟨i,es,he⟩|⟨es,he⟩
 ·obtain ⟨l,c,hi,he⟩:=dF he
  obtain ⟨rfl,rfl⟩:=RV.av he
  rw [es] at hx
  obtain ⟨p,hp,rfl⟩:=hx.jD
  obtain ⟨es,cw,l0,h1,hpm,h2,_⟩:=H.map hi hp
  refine .same H (cv:=goInt es.size) ?_ (by simp [Builtin.len_,hts,ak ht,cj h1 rfl])
  have:l.length=es.size:=by rw [hpm.length_eq,h2.length];simp
  rw [this]
  exact .int _ _
 ·obtain ⟨rfl,rfl⟩:=RV.av he
  rw [es] at hx
  rw [hx.nY]
  exact .same H (cv:=goInt 0) (.int _ _) (by simp [Builtin.len_,hts,ak ht])
theorem tv {t:TypeId} (H:HR φ h w) (he:qu r h=.ok v h'):Good φ h w v h' ((Instr.makeMap t none).run P w):=by
 obtain ⟨hi,he⟩:=gv he
 obtain ⟨rfl,rfl⟩:=RV.av he
 have hw:({w with heap:=w.heap.push (.map #[] 0)}:World).heap=w.heap.push (.map #[] 0):=rfl
 have hle:=aJ.fB (φ:=φ) (i:=h.next) ⟨w.heap.size,0,0⟩ (H.fresh _ hi)
 have g1:=H.new (w':={w with heap:=w.heap.push (.map #[] 0)}) (n':=h.next.succ) (room:=0) hi hw (o:=.map [] 0) (by simp) ⟨#[],0,[],rfl,.refl _,.nil,.start⟩
 refine ⟨.map (some w.heap.size),_,_,rfl,.map _ _ (aJ.aL _ _ _),g1,hle,.new hw rfl rfl rfl,fun j q hj hq=>?_,.put _ _ _ _⟩
 rw [iI] at hj
 by_cases e:j=h.next
 ·subst e
  rw [aJ.aL] at hq;cases hq
  exact .inr (.inl (Nat.le_refl _))
 ·rw [if_neg e] at hj
  exact .inl ⟨hj,by simpa [aJ.put,e] using hq⟩
theorem IW {ts:Array TypeId} {ty t e:TypeId} (hts:ts[0]?=some t) (H:HR φ h w) (hx:VR φ (ev x r) cx) (ht:P.underlying t=some (.slice e)) (he:pV x r h=.ok v h'):Good φ h w v h' ((Builtin.cap_ ts ty #[cx]).run P w):=by
 rcases cW he with ⟨i,o,l,c,es,he⟩|⟨i,o,l,c,es,he⟩|⟨es,he⟩
 ·obtain ⟨rfl,rfl⟩:=RV.av he
  rw [es] at hx
  cases hx
  exact .same H (cv:=goInt c) (.int _ _) (by simp [Builtin.cap_,hts,ak ht])
 ·cases he
 ·obtain ⟨rfl,rfl⟩:=RV.av he
  rw [es] at hx
  cases hx
  exact .same H (cv:=goInt 0) (.int _ _) (by simp [Builtin.cap_,hts,ak ht])
theorem iZ {a b:FloatKind} (e:wG a b=true):a=b:=by cases a<;>cases b<;>first|rfl|cases e
theorem VR.ln {k:FloatKind} {n:Nat} {c:Value} (hv:VR φ (.fi k n) c):c=.float k n:=by cases hv;rfl
theorem VR.nZ {k:FloatKind} {m n:Nat} {c:Value} (hv:VR φ (.aj k m n) c):c=.complex k m n:=by cases hv;rfl
theorem Dz {ts:Array TypeId} {ty:TypeId} {k:FloatKind} (H:HR φ h w) (hx:VR φ (ev x r) cx) (hy:VR φ (ev y r) cy) (he:jx k x y r h=.ok v h'):Good φ h w v h' ((Builtin.complex_ ts ty #[cx,cy]).run P w):=by
 obtain ⟨k1,a,ea,he⟩:=dQ he
 obtain ⟨k2,b,eb,he⟩:=dQ he
 obtain ⟨hk,he⟩:=aC he
 obtain ⟨rfl,rfl⟩:=RV.av he
 obtain ⟨h1,h2⟩:=Bool.and_eq_true_iff.1 hk
 have h1:=iZ h1
 have h2:=iZ h2
 subst h1 h2
 rw [ea] at hx
 rw [eb] at hy
 rw [hx.ln,hy.ln]
 refine .same H (.aj _ _ _) ?_
 show ((if k=k then pure (.complex k a b) else stuck "complex: parts of different kinds" : Sem Value)).run P w=_
 rw [if_pos rfl];rfl
variable {P:Program} {φ:aJ} {h h':Hp} {w:World} {v:AV} {x y z:AO} {r:A2} {cx cy:Value}
theorem tw:∀{ks:List KK} {a b:List AV},yG ks h a b≠.bad→a.length=ks.length
 | [],[],_,_=>rfl
 | [],_::_,_,e=>absurd rfl e
 | k::ks,[],_,e=>absurd rfl e
 | k::ks,x::a,[],e=>absurd rfl e
 | k::ks,x::a,y::b,e=>by
  have he:yG (k::ks) h (x::a) (y::b)=@EB.rec (fun _=>EB) (yG ks h a b) (@EB.rec (fun _=>EB) .no .no .bad (yG ks h a b)) .bad (Kr k h x y):=rfl
  have:yG ks h a b≠.bad:=by
   intro hb
   rw [he,hb] at e
   cases hk:Kr k h x y<;>rw [hk] at e<;>exact e rfl
  simp [tw this]
theorem tx {f:Field} {fs:List Field} {i:Nat} {ks:List KK} (e:lU P (f::fs) i=some ks):f.name≠ "_" ∧f.offset=i∧∃k ks',Bz P f.type=some k∧lU P fs (i+1)=some ks'∧ks=k::ks':=by
 unfold lU at e
 split at e
 ·cases e
 ·rename_i hn
  split at e
  ·rename_i k ks' h1 h2
   cases e
   refine ⟨fun hh=>hn (.inl hh),?_,k,ks',h1,h2,rfl⟩
   by_cases g:f.offset=i
   ·exact g
   ·exact absurd (.inr g) hn
  ·cases e
theorem ei {t:TypeId} {k:KK} (hk:Tu P k t) (em:Bool) (n:Nat) (c:Value):(Instr.checkKey em (n+1) t c).run P w=.ok () w:=by
 cases k with
 | b=>simp [Instr.checkKey,ak (show P.underlying t=some .bool from hk)]
 | i=>obtain ⟨kk,hk⟩:=hk;simp [Instr.checkKey,ak hk]
 | s=>simp [Instr.checkKey,ak (show P.underlying t=some .string from hk)]
 | p=>obtain ⟨e,ie,hk,_⟩:=hk;simp [Instr.checkKey,ak hk]
theorem lO (em:Bool) (n:Nat) (vs:Array Value):∀(fs:List Field) (i:Nat) (ks:List KK),lU P fs i=some ks→i+fs.length≤vs.size→
  (forIn fs PUnit.unit fun f _=>if f.name≠ "_" then (do let c←part f.type vs f.offset;Instr.checkKey em (n+1) f.type c;pure (ForInStep.yield PUnit.unit):Sem (ForInStep PUnit)) else pure (ForInStep.yield PUnit.unit)).run P w=.ok PUnit.unit w:=by
 intro fs
 induction fs with
 | nil=>intro i ks _ _;rfl
 | cons f fs ih=>
  intro i ks e hl
  obtain ⟨h1,h2,k,ks',h3,h4,rfl⟩:=tx e
  have hk:=yV h3
  obtain ⟨d,hd,ha⟩:=hk.jh
  simp only [List.length_cons] at hl
  have hp:=gq (w:=w) hd ha (cs:=vs) (o:=f.offset) (c:=vs[i]) (by rw [h2];simp)
  have:=ih (i+1) ks' h4 (by omega)
  simp only [List.forIn_cons,Sem.run_bind]
  simp [h1,hp,ei hk]
  simpa using this
theorem IX {kt:KT} {a:AV} (e:sR kt a h=true):um kt a a h≠.bad:=by
 intro hb
 unfold sR at e
 rw [hb] at e
 cases e
theorem run_checkKey {t:TypeId} {kt:KT} (hk:mr P t=some kt) {a:AV} {c:Value} (hx:VR φ a c) (ho:sR kt a h=true) (em:Bool):(Instr.checkKey em 10000 t c).run P w=.ok () w:=by
 unfold mr at hk
 split at hk
 ·rename_i hd;cases hk;exact ei (k:=.b) hd em 9999 c
 ·rename_i hd;cases hk;exact ei (k:=.i) ⟨_,hd⟩ em 9999 c
 ·rename_i hd;cases hk;exact ei (k:=.s) hd em 9999 c
 ·rename_i fs hd
  simp only [Option.map_eq_some_iff] at hk
  obtain ⟨ks,hks,rfl⟩:=hk
  have hne:=IX ho
  have ⟨l,hl⟩:∃l,a=.agg l:=by
   cases a<;>first|exact ⟨_,rfl⟩|exact absurd rfl hne
  subst hl
  obtain ⟨vs,rfl,hvs,h1⟩:=hx.fL
  have hlen:=tw (show yG ks h l l≠.bad from hne)
  unfold sk at hks
  rw [hd] at hks
  simp only at hks
  split at hks
  ·cases hks
  ·have hF:∀(fs:List Field) (i:Nat) (ks:List KK),lU P fs i=some ks→fs.length=ks.length:=by
    intro fs
    induction fs with
    | nil=>intro i ks e;simp [lU] at e;subst e;rfl
    | cons f fs ih=>
     intro i ks e
     obtain ⟨_,_,k,ks',_,h4,rfl⟩:=tx e
     simp [ih _ _ h4]
   have hfl:=hF _ _ _ hks
   have:=lO (w:=w) em 9998 vs.toArray fs.toList 0 ks hks (by
    have:=hvs.length
    simp only [Array.length_toList,List.size_toArray] at *;omega)
   show (Instr.checkKey em (9999+1) t (.agg vs.toArray)).run P w=_
   rw [Instr.checkKey]
   simp only [Sem.run_bind,ak hd,Result.andThen_ok]
   rw [←Array.forIn_toList]
   rw [this]
   rfl
 ·cases hk
variable {P:Program} {φ:aJ} {h h':Hp} {w:World} {v:AV} {x y z:AO} {r:A2} {cx cy:Value}
theorem wZ {t:TypeId} {kt:KT} (H:HR φ h w) (hk:mr P t=some kt) {a c:AV} {ca cc:Value} (hx:VR φ a ca) (hy:VR φ c cc) {b:Bool} (hb:um kt a c h=EB.of b):(Op.equal t ca cc).run P w=.ok b w:=by
 show (Op.equalIn 10000 t ca cc).run P w=.ok b w
 unfold mr at hk
 split at hk
 ·rename_i hd;cases hk;exact jB 9999 (k:=.b) H hx hy hd hb
 ·rename_i hd;cases hk;exact jB 9999 (k:=.i) H hx hy ⟨_,hd⟩ hb
 ·rename_i hd;cases hk;exact jB 9999 (k:=.s) H hx hy hd hb
 ·rename_i fs hd
  simp only [Option.map_eq_some_iff] at hk
  obtain ⟨ks,hks,rfl⟩:=hk
  have ⟨l,hl⟩:∃l,a=.agg l:=by
   cases a<;>first|exact ⟨_,rfl⟩|(cases b<;>cases hb)
  subst hl
  have ⟨m,hm⟩:∃m,c=.agg m:=by
   cases c<;>first|exact ⟨_,rfl⟩|(cases b<;>cases hb)
  subst hm
  obtain ⟨vs,rfl,hvs,_⟩:=hx.fL
  obtain ⟨ws,rfl,hws,_⟩:=hy.fL
  exact iW 9998 H hks hvs hws hb
 ·cases hk
theorem kV {t:TypeId} {kt:KT} {d:TypeDesc} (hd:P.underlying t=some d) (hk:mr P t=some kt) {a c:AV} {ca cc:Value} (hx:VR φ a ca) (hy:VR φ c cc) {b:Bool} (hb:um kt a c h=EB.of b) :
  Instr.sameNow d ca cc=none∨Instr.sameNow d ca cc=some b:=by
 unfold mr at hk
 rw [hd] at hk
 cases d<;>try (cases hk;done)
 case bool=>
  cases hk
  cases a<;>(try (cases b<;>cases hb;done))
  rename_i m
  cases c<;>(try (cases b<;>cases hb;done))
  rename_i n
  have:=eh (show EB.of (eH m n)=EB.of b from hb)
  subst this
  rw [hx.cQ,hy.cQ]
  right
  cases m<;>cases n<;>rfl
 case int kk=>
  cases hk
  cases a<;>(try (cases b<;>cases hb;done))
  rename_i k1 m
  cases c<;>(try (cases b<;>cases hb;done))
  rename_i k2 n
  change (Bool.rec EB.bad (EB.of (uk m n)) (nP k1 k2):EB)=_ at hb
  cases hq:nP k1 k2 with
  | false=>rw [hq] at hb;cases b<;>cases hb
  | true=>
   rw [hq] at hb
   obtain rfl:=gM hq
   rw [hx.aU,hy.aU]
   have:=eh (show EB.of (uk m n)=EB.of b from hb)
   subst this
   right
   simp [Instr.sameNow,kP]
   rfl
 case string=>
  cases hk
  cases a<;>(try (cases b<;>cases hb;done))
  rename_i m
  cases c<;>(try (cases b<;>cases hb;done))
  rename_i n
  obtain ⟨s,rfl,rfl⟩:=hx.cZ
  obtain ⟨u,rfl,rfl⟩:=hy.cZ
  have:=eh (show EB.of (kI _ _)=EB.of b from hb)
  subst this
  right
  simp only [Instr.sameNow]
  rw [fU,beq_toListBytes]
 case struct fs=>left;cases ca<;>rfl
theorem bP.cons_inv {st:Nat→Nat} {k val:AV} {b:Nat} {l:List KV} {es:List MapEntry} (hm:bP st φ (.mk k val b::l) es):∃e es',es=e::es'∧VR φ k e.key∧VR φ val e.val∧e.born=st b∧bP st φ l es':=by
 cases hm;exact ⟨_,_,rfl,by assumption,by assumption,by assumption,by assumption⟩
inductive KF (kt:KT) (h:Hp) (a:AV):List KV→Option (Nat×KV)→Prop
 | nil:KF kt h a [] none
 | here (k v:AV) (b:Nat) (l:List KV):um kt a k h=.yes→KF kt h a l none→KF kt h a (.mk k v b::l) (some (0,.mk k v b))
 | there (k v:AV) (b:Nat) (l:List KV) (j:Nat) (y:KV):um kt a k h=.no→KF kt h a l (some (j,y))→KF kt h a (.mk k v b::l) (some (j+1,y))
 | IY (k v:AV) (b:Nat) (l:List KV):um kt a k h=.no→KF kt h a l none→KF kt h a (.mk k v b::l) none
noncomputable def AK (kt:KT) (a:AV) (l:List KV) (h:Hp) (k:Nat→AV→Nat→RV) (n e:RV) (i:Nat):RV:=bQ (β:=Nat→RV) (fun _=>n)
 (fun y t ih i=>@KV.rec (fun _=>RV) (fun c v born=>@EB.rec (fun _=>RV) (@Bool.rec (fun _=>RV) e (k i v born) (sQ kt a t h)) (ih (Nat.succ i)) e (um kt a c h)) y) l i
theorem zd {kt:KT} {a:AV}:∀{l:List KV},sQ kt a l h=true→KF kt h a l none
 | [],_=>.nil
 | .mk kk val b::l,e=>by
  have e:@EB.rec (fun _=>Bool) false (sQ kt a l h) false (um kt a kk h)=true:=e
  cases hq:um kt a kk h with
  | yes=>rw [hq] at e;cases e
  | bad=>rw [hq] at e;cases e
  | no=>rw [hq] at e;exact .IY _ _ _ _ hq (zd e)
theorem ja {kt:KT} {a:AV} {k:Nat→AV→Nat→RV} {n:RV} {q:Nat}:∀{l:List KV} {i:Nat},AK kt a l h k n (.err q) i=.ok v h'→
  (KF kt h a l none∧n=.ok v h')∨∃j kk val b,KF kt h a l (some (j,.mk kk val b))∧k (i+j) val b=.ok v h'
 | [],i,e=>.inl ⟨.nil,e⟩
 | .mk kk val b::l,i,e=>by
  have e2:@EB.rec (fun _=>RV) (@Bool.rec (fun _=>RV) (.err q) (k i val b) (sQ kt a l h)) (AK kt a l h k n (.err q) (i+1)) (.err q) (um kt a kk h)=.ok v h':=e
  cases hq:um kt a kk h with
  | yes=>
   rw [hq] at e2
   have e2:@Bool.rec (fun _=>RV) (.err q) (k i val b) (sQ kt a l h)=.ok v h':=e2
   cases hn:sQ kt a l h with
   | false=>rw [hn] at e2;cases e2
   | true=>rw [hn] at e2;exact .inr ⟨0,kk,val,b,.here _ _ _ _ hq (zd hn),e2⟩
  | no=>
   rw [hq] at e2
   rcases ja (l:=l) (i:=i+1) e2 with ⟨h1,h2⟩|⟨j,k2,v2,b2,h1,h2⟩
   ·exact .inl ⟨.IY _ _ _ _ hq h1,h2⟩
   ·refine .inr ⟨j+1,k2,v2,b2,.there _ _ _ _ _ _ hq h1,?_⟩
    have:i+(j+1)=i+1+j:=by omega
    rw [this];exact h2
  | bad=>rw [hq] at e2;cases e2
theorem kW (kt:KT) (a:AV) (l:List KV) (h:Hp) (k:Nat→AV→Nat→RV) (n e:RV):yM kt a l h k n e=AK kt a l h k n e 0:=rfl
theorem KF.find {kt:KT} (H:HR φ h w) {t:TypeId} {d:TypeDesc} (hd:P.underlying t=some d) (hk:mr P t=some kt) {a:AV} {ca:Value} (hx:VR φ a ca):∀{st:Nat→Nat} {l:List KV} {res:Option (Nat×KV)},KF kt h a l res→∀{es:List MapEntry} (i:Nat),bP st φ l es→
  ∃cr:Option (Nat×Value),(Instr.findAsking t ca es i).run P w=.ok cr w∧(∀q,Instr.findNow d ca es i=some q→q=cr)∧
   (match res,cr with
    | none,none=>True
    | some (j,.mk kk val b),some (j',cv)=>j'=i+j∧VR φ val cv∧∃e,es[j]?=some e∧e.val=cv∧VR φ kk e.key∧um kt a kk h=.yes∧e.born=st b
    | _,_=>False)
 | _,_,_,.nil,es,i,hm=>by
  cases hm
  exact ⟨none,rfl,fun q hq=>by cases hq;rfl,trivial⟩
 | _,_,_,.here k v b l hq _,es,i,hm=>by
  obtain ⟨e,es',rfl,h1,h2,h3,h4⟩:=hm.cons_inv
  have hr:=wZ (b:=true) H hk hx h1 hq
  refine ⟨some (i,e.val),by simp [Instr.findAsking,hr],fun q hq'=>?_,rfl,h2,e,rfl,rfl,h1,hq,h3⟩
  rcases kV (h:=h) (b:=true) hd hk hx h1 hq with g|g<;>simp only [Instr.findNow,g] at hq'
  ·cases hq'
  ·cases hq';rfl
 | _,_,_,.there k v b l j y hq hr,es,i,hm=>by
  obtain ⟨e,es',rfl,h1,h2,h3,h4⟩:=hm.cons_inv
  have hrn:=wZ (b:=false) H hk hx h1 hq
  obtain ⟨cr,r1,r2,r3⟩:=KF.find H hd hk hx hr (i+1) h4
  refine ⟨cr,by simp [Instr.findAsking,hrn,r1],fun q hq'=>?_,?_⟩
  ·rcases kV (h:=h) (b:=false) hd hk hx h1 hq with g|g<;>simp only [Instr.findNow,g] at hq'
   ·cases hq'
   ·exact r2 q hq'
  ·obtain ⟨kk,val,bb⟩:=y
   cases cr with
   | none=>exact r3.elim
   | some p=>
    obtain ⟨j',cv⟩:=p
    simp only at r3 ⊢
    obtain ⟨g1,g2,e',g3,g4⟩:=r3
    exact ⟨by omega,g2,e',by simpa using g3,g4⟩
 | _,_,_,.IY k v b l hq hr,es,i,hm=>by
  obtain ⟨e,es',rfl,h1,h2,h3,h4⟩:=hm.cons_inv
  have hrn:=wZ (b:=false) H hk hx h1 hq
  obtain ⟨cr,r1,r2,r3⟩:=KF.find H hd hk hx hr (i+1) h4
  refine ⟨cr,by simp [Instr.findAsking,hrn,r1],fun q hq'=>?_,by cases cr<;>exact r3⟩
  rcases kV (h:=h) (b:=false) hd hk hx h1 hq with g|g<;>simp only [Instr.findNow,g] at hq'
  ·cases hq'
  ·exact r2 q hq'
def KV.ky (y:KV):AV:=match y with|.mk k _ _=>k
theorem KF.jb {kt:KT} {a:AV}:∀{l:List KV},KF kt h a l none↔∀y,y∈l→um kt a y.ky h=.no
 | []=>⟨fun _ y hy=>(List.not_mem_nil hy).elim,fun _=>.nil⟩
 | .mk k v b::l=>by
  constructor
  ·intro g
   cases g with
   | IY _ _ _ _ h1 h2=>
    intro y hy
    rcases List.mem_cons.1 hy with rfl|hy
    ·exact h1
    ·exact KF.jb.1 h2 y hy
  ·intro g
   exact .IY _ _ _ _ (g _ (List.mem_cons_self ..)) (KF.jb.2 fun y hy=>g y (List.mem_cons_of_mem _ hy))
theorem KF.parts {kt:KT} {a:AV}:∀{l:List KV} {j:Nat} {y:KV},KF kt h a l (some (j,y))→∃l1 l2,l=l1 ++ y::l2∧l1.length=j∧um kt a y.ky h=.yes∧∀z,z∈l1 ++ l2→um kt a z.ky h=.no
 | _,_,_,.here k v b l h1 h2=>⟨[],l,rfl,rfl,h1,fun z hz=>KF.jb.1 h2 z hz⟩
 | _,_,_,.there k v b l j y h1 h2=>by
  obtain ⟨l1,l2,rfl,rfl,g1,g2⟩:=KF.parts h2
  refine ⟨.mk k v b::l1,l2,rfl,rfl,g1,fun z hz=>?_⟩
  rcases List.mem_cons.1 (show z∈KV.mk k v b::(l1 ++ l2) from hz) with rfl|hz
  ·exact h1
  ·exact g2 z hz
theorem KF.ze {kt:KT} {a:AV} {y:KV} {l2:List KV} (h1:um kt a y.ky h=.yes):∀{l1:List KV},(∀z,z∈l1 ++ l2→um kt a z.ky h=.no)→KF kt h a (l1 ++ y::l2) (some (l1.length,y))
 | [],g=>by obtain ⟨k,v,b⟩:=y;exact .here _ _ _ _ h1 (KF.jb.2 fun z hz=>g z hz)
 | .mk k v b::l1,g=>.there _ _ _ _ _ _ (g _ (List.mem_cons_self ..)) (KF.ze h1 fun z hz=>g z (List.mem_cons_of_mem _ hz))
theorem kX (k v k0 v0:AV) (b:Nat) (l2:List KV):∀l1:List KV,lN l1.length k v (l1 ++ .mk k0 v0 b::l2)=l1 ++ .mk k v b::l2
 | []=>rfl
 | y::l1=>congrArg (List.cons y) (kX k v k0 v0 b l2 l1)
theorem tz (y:KV) (l2:List KV):∀l1:List KV,yN l1.length (l1 ++ y::l2)=l1 ++ l2
 | []=>rfl
 | x::l1=>congrArg (List.cons x) (tz y l2 l1)
theorem KF.Cv {kt:KT} {a:AV} {l l0:List KV} (hp:l.Perm l0) (g:KF kt h a l none):KF kt h a l0 none:=KF.jb.2 fun y hy=>KF.jb.1 g y (hp.mem_iff.2 hy)
theorem tA {y:KV} {l1 l2 l0:List KV} (hp:(l1 ++ y::l2).Perm l0):∃m1 m2,l0=m1 ++ y::m2∧(l1 ++ l2).Perm (m1 ++ m2):=by
 obtain ⟨m1,m2,rfl⟩:=List.append_of_mem (hp.mem_iff.1 (List.mem_append_right l1 (List.mem_cons_self ..)))
 exact ⟨m1,m2,rfl,List.Perm.cons_inv (((List.perm_middle).symm.trans hp).trans List.perm_middle)⟩
theorem KF.perm {kt:KT} {a:AV} {l l0:List KV} {j:Nat} {y:KV} (hp:l.Perm l0) (g:KF kt h a l (some (j,y))) :
  ∃j0,KF kt h a l0 (some (j0,y))∧(∀k v,(lN j k v l).Perm (lN j0 k v l0))∧(yN j l).Perm (yN j0 l0):=by
 obtain ⟨l1,l2,rfl,rfl,g1,g2⟩:=g.parts
 obtain ⟨m1,m2,rfl,hm⟩:=tA hp
 refine ⟨m1.length,KF.ze g1 fun z hz=>g2 z (hm.mem_iff.2 hz),fun k v=>?_,?_⟩
 ·obtain ⟨k0,v0,b⟩:=y
  rw [kX,kX]
  exact (List.perm_middle.trans (hm.cons _)).trans List.perm_middle.symm
 ·rw [tz,tz];exact hm
theorem od:∀(j:Nat) (k v:AV) (l:List KV),(lN j k v l).map KV.ji=l.map KV.ji
 | 0,k,v,[]=>rfl
 | _+1,k,v,[]=>rfl
 | 0,k,v,.mk _ _ _::l=>rfl
 | j+1,k,v,y::l=>congrArg (List.cons y.ji) (od j k v l)
theorem zf:∀(j:Nat) (l:List KV),((yN j l).map KV.ji).Sublist (l.map KV.ji)
 | 0,[]=>.slnil
 | _+1,[]=>.slnil
 | 0,y::l=>.cons _ (List.Sublist.refl _)
 | j+1,y::l=>.cons₂ _ (zf j l)
theorem og (y:KV):∀l:List KV,Am.snoc l y=l ++ [y]
 | []=>rfl
 | x::l=>congrArg (List.cons x) (og y l)
theorem vF {l l0:List KV} (hp:l.Perm l0) (y:KV):(Am.snoc l y).Perm (Am.snoc l0 y):=by rw [og,og];exact hp.append_right _
theorem zg (l:List KV) (k v:AV) (b:Nat):(Am.snoc l (.mk k v b)).map KV.ji=l.map KV.ji ++ [b]:=by rw [og,List.map_append];rfl
theorem vG {b:Bool} {t:RV} {n:Nat} (e:(@Bool.rec (fun _=>RV) t (.err n) b)=.ok v h):b=false∧t=.ok v h:=by
 cases b
 ·exact ⟨rfl,e⟩
 ·cases e
theorem Tw {a b:Nat} (e:Nat.beq a b=false):a≠b:=fun g=>by subst g;rw [Nat.beq_refl] at e;cases e
theorem run_findKey {t:TypeId} {d:TypeDesc} {ca:Value} {es:List MapEntry} (hd:P.underlying t=some d) {cr:Option (Nat×Value)} (h1:(Instr.findAsking t ca es 0).run P w=.ok cr w) (h2:∀q,Instr.findNow d ca es 0=some q→q=cr) :
  (Instr.findKey t ca es).run P w=.ok cr w:=by
 simp only [Instr.findKey,Sem.run_bind,ak hd,Result.andThen_ok]
 cases hf:Instr.findNow d ca es 0 with
 | none=>exact h1
 | some q=>rw [h2 q hf];rfl
variable {P:Program} {φ:aJ} {h h':Hp} {w:World} {v:AV} {x y z:AO} {r:A2} {cx cy:Value}
theorem oh {t:TypeId} {kt:KT} (hk:mr P t=some kt):∃d,P.underlying t=some d:=by
 unfold mr at hk
 split at hk<;>first|exact ⟨_,by assumption⟩|cases hk
theorem pA {ok found:Bool} {a:AV} {c:Value} (hv:VR φ a c) (e:Ca ok found a h=.ok v h'):VR φ v (if ok then .tuple #[c,.bool found] else c)∧h'=h:=by
 obtain ⟨rfl,rfl⟩:=RV.av e
 cases ok
 ·exact ⟨hv,rfl⟩
 ·exact ⟨.bU [_,_] [_,_] (.cons _ _ _ _ hv (.cons _ _ _ _ (.bool _) .nil)),rfl⟩
theorem IZ {t k e:TypeId} {kt:KT} {zv:AV} {ok:Bool} (H:HR φ h w) {a b:AV} (hx:VR φ a cx) (hy:VR φ b cy) (ht:P.underlying t=some (.map k e)) (hk:mr P k=some kt) (hz:jo P e=some zv)
  (he:wg kt zv ok a b h=.ok v h'):Good φ h w v h' ((Instr.lookup t cx cy ok).run P w):=by
 obtain ⟨hok,he⟩:=aC he
 obtain ⟨d,hd⟩:=oh hk
 unfold jo at hz
 simp only [Option.bind_eq_some_iff] at hz
 obtain ⟨cz,⟨inf,hinf,hcz⟩,hz⟩:=hz
 have hvz:=nT hz φ
 rcases eZ he with ⟨i,rfl,he2⟩|⟨rfl,he2⟩
 ·obtain ⟨l,c,hi,he3⟩:=dF he2
  obtain ⟨p,hp,rfl⟩:=hx.jD
  obtain ⟨es,cw,l0,h1,hpm,h2,hS⟩:=H.map hi hp
  rw [kW] at he3
  have hck:=fun em=>run_checkKey (w:=w) hk hy hok em
  rcases ja he3 with ⟨g1,g2⟩|⟨j,kk,val,bb,g1,g2⟩
  ·obtain ⟨cr,f1,f2,f3⟩:=(g1.Cv hpm).find H hd hk hy 0 h2
   cases cr with
   | some q=>exact f3.elim
   | none=>
    obtain ⟨u1,u2⟩:=pA (φ:=φ) hvz g2
    subst u2
    refine .same H u1 ?_
    simp [Instr.lookup,ak ht,cj h1 rfl,hck,run_findKey hd f1 f2,zeroValue,bD hinf,hcz]
  ·obtain ⟨j0,g1,pset,pdel⟩:=g1.perm hpm
   obtain ⟨cr,f1,f2,f3⟩:=g1.find H hd hk hy 0 h2
   cases cr with
   | none=>exact f3.elim
   | some q=>
    obtain ⟨j',cv⟩:=q
    obtain ⟨_,u0,_⟩:=f3
    obtain ⟨u1,u2⟩:=pA (φ:=φ) u0 g2
    subst u2
    refine .same H u1 ?_
    simp [Instr.lookup,ak ht,cj h1 rfl,hck,run_findKey hd f1 f2]
 ·rw [hx.nY]
  have hck:=run_checkKey (w:=w) hk hy hok true
  obtain ⟨u1,u2⟩:=pA (φ:=φ) hvz he2
  subst u2
  refine .same H u1 ?_
  have hf:(Instr.findKey k cy []).run P w=.ok none w:=run_findKey hd rfl (fun q hq=>by cases hq;rfl)
  simp [Instr.lookup,ak ht,hck,hf,zeroValue,bD hinf,hcz]
theorem HR.pB (H:HR φ h w) {i:P4} {p:Place} {l l':List KV} {ck ck':Nat} (hi:au i h=.map l ck) (hp:φ i=some p) {es:Array MapEntry} {cw':Nat} {l0':List KV} (hpm:l'.Perm l0') (hm:bP (cg p.room) φ l0' es.toList) (hS:xz (cg p.room) (l'.map KV.ji) ck' cw') {es0:Array MapEntry} {ck0:Nat} (ho:w.heap[p.bJ]?=some (.map es0 ck0)) :
  (setObj p.bJ (.map es cw')).run P w=.ok () {w with heap:=w.heap.setIfInBounds p.bJ (.map es cw')}∧HR φ (cN i (.map l' ck') h) {w with heap:=w.heap.setIfInBounds p.bJ (.map es cw')}∧
   Step φ h w φ (cN i (.map l' ck') h) {w with heap:=w.heap.setIfInBounds p.bJ (.map es cw')}:=by
 have hl:live (au i h):=hi▸fQ
 have hb:p.bJ < w.heap.size:=H.bound i p hp
 have hne:∀b,b≠p.bJ→(w.heap.setIfInBounds p.bJ (.map es cw'))[b]?=w.heap[b]?:=fun b hb=>by
  rw [Array.getElem?_setIfInBounds,if_neg (fun e=>hb e.symm)]
 refine ⟨?_,H.set hl hp (by simp) hne ⟨es,cw',l0',by simp [hb],hpm,hm,hS⟩ (by simp),φ.le_refl,fu.set hl hp (by simp) hne rfl rfl rfl,fun j q hj hq=>?_,.set _ _ _⟩
 ·show (Sem.setObj p.bJ (.map es cw') (.pure ())).run P w=_
  simp [Sem.run,ho]
 ·rw [bj] at hj
  by_cases e:j=i
  ·subst e;exact .inl ⟨hl,hq⟩
  ·rw [if_neg e] at hj;exact .inl ⟨hj,hq⟩
theorem bP.snoc {st:Nat→Nat}:∀{l:List KV} {es:List MapEntry} {k val:AV} {b:Nat} {e:MapEntry},bP st φ l es→VR φ k e.key→VR φ val e.val→e.born=st b→bP st φ (Am.snoc l (.mk k val b)) (es ++ [e])
 | _,_,_,_,_,_,.nil,h1,h2,h3=>.cons _ _ _ _ _ _ h1 h2 h3 .nil
 | _,_,_,_,_,_,.cons k v b e l es a c d r,h1,h2,h3=>.cons k v b e _ _ a c d (bP.snoc r h1 h2 h3)
theorem bP.del {st:Nat→Nat}:∀{l:List KV} {es:List MapEntry} (j:Nat),bP st φ l es→bP st φ (yN j l) (es.eraseIdx j)
 | _,_,j,.nil=>by cases j<;>exact .nil
 | _,_,0,.cons k v b e l es a c d r=>r
 | _,_,j+1,.cons k v b e l es a c d r=>.cons k v b e _ _ a c d (bP.del j r)
theorem Ja {ts:Array TypeId} {ty t k e:TypeId} {kt:KT} (hts:ts[0]?=some t) (H:HR φ h w) {a b:AV} (hx:VR φ a cx) (hy:VR φ b cy) (ht:P.underlying t=some (.map k e)) (hk:mr P k=some kt)
  (he:del kt a b h=.ok v h'):Good φ h w v h' ((Builtin.delete_ ts ty #[cx,cy]).run P w):=by
 obtain ⟨hok,he⟩:=aC he
 obtain ⟨d,hd⟩:=oh hk
 have hv:VR φ cA (.tuple #[]):=.bU [] [] .nil
 rcases eZ he with ⟨i,rfl,he2⟩|⟨rfl,he2⟩
 ·obtain ⟨l,c,hi,he3⟩:=dF he2
  obtain ⟨p,hp,rfl⟩:=hx.jD
  obtain ⟨es,cw,l0,h1,hpm,h2,hS⟩:=H.map hi hp
  rw [kW] at he3
  have hck:=fun em=>run_checkKey (w:=w) hk hy hok em
  rcases ja he3 with ⟨g1,g2⟩|⟨j,kk,val,bb,g1,g2⟩
  ·obtain ⟨cr,f1,f2,f3⟩:=(g1.Cv hpm).find H hd hk hy 0 h2
   cases cr with
   | some q=>exact f3.elim
   | none=>
    obtain ⟨rfl,rfl⟩:=RV.av g2
    have cN:w={w with heap:=w.heap.setIfInBounds p.bJ (.map es cw)}:=by
     have:w.heap.setIfInBounds p.bJ (.map es cw)=w.heap:=by
      apply Array.ext_getElem?
      intro q
      rw [Array.getElem?_setIfInBounds]
      by_cases e:p.bJ=q
      ·subst e
       have hb:=H.bound i p hp
       rw [if_pos rfl,if_pos hb,h1]
      ·rw [if_neg e]
     rw [this]
    refine .same H hv ?_
    have hso:(setObj p.bJ (.map es cw)).run P w=.ok () w:=by
     have:(setObj p.bJ (.map es cw)).run P w=.ok () {w with heap:=w.heap.setIfInBounds p.bJ (.map es cw)}:=by
      show (Sem.setObj p.bJ (.map es cw) (.pure ())).run P w=_
      simp [Sem.run,h1]
     rw [this,←cN]
    simp [Builtin.delete_,hts,ak ht,cj h1 rfl,hck,run_findKey hd f1 f2,hso]
  ·obtain ⟨j0,g1,pset,pdel⟩:=g1.perm hpm
   obtain ⟨cr,f1,f2,f3⟩:=g1.find H hd hk hy 0 h2
   cases cr with
   | none=>exact f3.elim
   | some q=>
    obtain ⟨j',cv⟩:=q
    obtain ⟨rfl,_⟩:=f3
    obtain ⟨rfl,rfl⟩:=RV.av g2
    have hes:(es.eraseIdxIfInBounds (0+j0)).toList=es.toList.eraseIdx (0+j0):=by simp
    obtain ⟨s1,s2,s3⟩:=HR.pB (P:=P) (ck':=c) (cw':=cw) H hi hp (es:=es.eraseIdxIfInBounds (0+j0)) (l':=yN (0+j) l) (l0':=yN (0+j0) l0) (by rw [Nat.zero_add,Nat.zero_add];exact pdel) (by rw [hes];exact h2.del _) (hS.sub (zf _ _)) h1
    exact ⟨.tuple #[],_,φ,by simp [Builtin.delete_,hts,ak ht,cj h1 rfl,hck,run_findKey hd f1 f2] at s1 ⊢;simp [s1],hv,s2,s3⟩
 ·obtain ⟨rfl,rfl⟩:=RV.av he2
  rw [hx.nY]
  have hck:=run_checkKey (w:=w) hk hy hok true
  exact .same H hv (by simp [Builtin.delete_,hts,ak ht,hck])
variable {P:Program} {φ:aJ} {h h':Hp} {w:World} {v:AV} {x y z:AO} {r:A2} {cx cy:Value}
theorem AL (a:AV):(∃i o,a=.ptr i o)∨a.fo=.no:=by cases a<;>first|exact .inl ⟨_,_,rfl⟩|exact .inr rfl
theorem tB {a:AV} (e:eW a=true):a=.di:=by cases a<;>first|rfl|cases e
theorem oo {k:KK} {a c:AV} {ca cc:Value} (hx:VR φ a ca) (hy:VR φ c cc) (he:Kr k h a c=.yes) (n:Nat):Instr.sameBits n cc ca=true:=by
 cases k with
 | b=>
  cases a<;>(try (cases he;done))
  rename_i m
  cases c<;>(try (cases he;done))
  rename_i q
  rw [hx.cQ,hy.cQ]
  cases m<;>cases q<;>first|(cases he;done)|(cases n<;>simp [Instr.sameBits])
 | i=>
  cases a<;>(try (cases he;done))
  rename_i k1 m
  cases c<;>(try (cases he;done))
  rename_i k2 q
  change (Bool.rec EB.bad (EB.of (uk m q)) (nP k1 k2):EB)=_ at he
  cases hq:nP k1 k2 with
  | false=>rw [hq] at he;cases he
  | true=>
   rw [hq] at he
   obtain rfl:=gM hq
   have:=eh (b:=true) (show EB.of (uk m q)=EB.of true from he)
   rw [kP,decide_eq_true_eq] at this
   subst this
   rw [hx.aU,hy.aU]
   cases n<;>simp [Instr.sameBits]
 | s=>
  cases a<;>(try (cases he;done))
  rename_i m
  cases c<;>(try (cases he;done))
  rename_i q
  obtain ⟨s,rfl,rfl⟩:=hx.cZ
  obtain ⟨u,rfl,rfl⟩:=hy.cZ
  have:=eh (b:=true) (show EB.of (kI _ _)=EB.of true from he)
  rw [fU,beq_iff_eq] at this
  cases n<;>simp [Instr.sameBits,beq_toListBytes,this]
 | p=>
  have he:SE h a c=.yes:=he
  unfold SE at he
  rcases AL a with ⟨i,o,rfl⟩|ha
  ·rcases AL c with ⟨j,q,rfl⟩|hc
   ·change (Bool.rec (Bool.rec EB.bad (Bool.rec EB.bad .no (eV (au j h))) (eV (au i h))) (EB.of (Nat.beq o q)) (lk i j):EB)=_ at he
    cases hp:lk i j with
    | false=>
     rw [hp] at he
     cases h1:eV (au i h)<;>cases h2:eV (au j h)<;>simp [h1,h2] at he
    | true=>
     rw [hp] at he
     obtain rfl:=eT.1 hp
     have:=eh (b:=true) (show EB.of (Nat.beq o q)=EB.of true from he)
     have:=Nat.eq_of_beq_eq_true this
     subst this
     obtain ⟨p,hp1,rfl⟩:=hx.fc
     obtain ⟨p',hp2,rfl⟩:=hy.fc
     rw [hp1] at hp2;cases hp2
     cases n<;>simp [Instr.sameBits]
   ·rw [hc] at he
    change (Bool.rec EB.bad .no (eW c):EB)=_ at he
    cases hn:eW c<;>rw [hn] at he<;>cases he
  ·rw [ha] at he
   change (Bool.rec EB.bad (OP.rec (Bool.rec EB.bad .yes (eW c)) (fun _ _=>.no) c.fo) (eW a):EB)=_ at he
   cases hn:eW a with
   | false=>rw [hn] at he;cases he
   | true=>
    rw [hn] at he
    have:=tB hn
    have he3:=he
    clear he
    subst this
    rcases AL c with ⟨j,q,hc⟩|hc
    ·rw [hc] at he3;cases he3
    ·rw [hc] at he3
     change (Bool.rec EB.bad .yes (eW c):EB)=_ at he3
     cases hn2:eW c with
     | false=>rw [hn2] at he3;cases he3
     | true=>
      have:=tB hn2
      subst this
      rw [hx.iV,hy.iV]
      cases n<;>simp [Instr.sameBits]
theorem oq (n:Nat):∀{ks:List KK} {a c:List AV} {vs ws:List Value},bX φ a vs→bX φ c ws→yG ks h a c=.yes→ws.length=vs.length∧(ws.zip vs).all (fun (x,y)=>Instr.sameBits n x y)=true
 | [],[],[],_,_,.nil,.nil,_=>⟨rfl,rfl⟩
 | [],[],_::_,_,_,_,_,e=>by cases e
 | [],_::_,_,_,_,_,_,e=>by cases e
 | k::ks,[],_,_,_,_,_,e=>by cases e
 | k::ks,_::_,[],_,_,_,_,e=>by cases e
 | k::ks,x::a,y::c,_,_,.cons _ cx _ vs h1 h2,.cons _ cy _ ws h3 h4,e=>by
  have he:@EB.rec (fun _=>EB) (yG ks h a c) (@EB.rec (fun _=>EB) .no .no .bad (yG ks h a c)) .bad (Kr k h x y)=.yes:=e
  cases hk:Kr k h x y with
  | yes=>
   rw [hk] at he
   obtain ⟨g1,g2⟩:=oq n h2 h4 he
   exact ⟨by simp [g1],by simp [oo h1 h3 hk n];simpa using g2⟩
  | no=>rw [hk] at he;cases hr:yG ks h a c<;>rw [hr] at he<;>cases he
  | bad=>rw [hk] at he;cases he
theorem ot {kt:KT} {a c:AV} {ca cc:Value} (hx:VR φ a ca) (hy:VR φ c cc) (he:um kt a c h=.yes):Instr.sameBits 10000 cc ca=true:=by
 cases kt with
 | one k=>exact oo hx hy he _
 | agg ks=>
  have ⟨l,hl⟩:∃l,a=.agg l:=by
   cases a<;>first|exact ⟨_,rfl⟩|cases he
  subst hl
  have ⟨m,hm⟩:∃m,c=.agg m:=by
   cases c<;>first|exact ⟨_,rfl⟩|cases he
  subst hm
  obtain ⟨vs,rfl,hvs,_⟩:=hx.fL
  obtain ⟨ws,rfl,hws,_⟩:=hy.fL
  obtain ⟨g1,g2⟩:=oq (h:=h) 9999 hvs hws he
  show Instr.sameBits (9999+1) _ _=true
  simp [Instr.sameBits,g1]
  simpa using g2
theorem bP.set {st:Nat→Nat}:∀{l:List KV} {es:List MapEntry} (j:Nat) {k val:AV} {ck cv:Value},bP st φ l es→VR φ k ck→VR φ val cv→bP st φ (lN j k val l) (es.modify j fun e=>{e with key:=ck,val:=cv})
 | _,_,j,_,_,_,_,.nil,_,_=>by cases j<;>exact .nil
 | _,_,0,k,val,ck,cv,.cons k0 v0 b e l es a c d r,h1,h2=>.cons _ _ _ _ _ _ h1 h2 d r
 | _,_,j+1,k,val,ck,cv,.cons k0 v0 b e l es a c d r,h1,h2=>.cons k0 v0 b e _ _ a c d (bP.set j r h1 h2)
theorem zh {t k e:TypeId} {kt:KT} {cz:Value} (H:HR φ h w) {a b c:AV} (hx:VR φ a cx) (hy:VR φ b cy) (hz:VR φ c cz) (ht:P.underlying t=some (.map k e)) (hk:mr P k=some kt)
  (he:yn kt a b c h=.ok v h'):v=.undef∧vA φ h w h' ((Instr.mapUpdate t cx cy cz).run P w):=by
 obtain ⟨hok,he⟩:=aC he
 obtain ⟨d,hd⟩:=oh hk
 rcases eZ he with ⟨i,rfl,he2⟩|⟨rfl,he2⟩
 ·obtain ⟨l,ck,hi,he3⟩:=dF he2
  obtain ⟨p,hp,rfl⟩:=hx.jD
  obtain ⟨es,cw,l0,h1,hpm,h2,hS⟩:=H.map hi hp
  rw [kW] at he3
  have hck:=fun em=>run_checkKey (w:=w) hk hy hok em
  rcases ja he3 with ⟨g1,g2⟩|⟨j,kk,val,bb,g1,g2⟩
  ·obtain ⟨cr,f1,f2,f3⟩:=(g1.Cv hpm).find H hd hk hy 0 h2
   cases cr with
   | some q=>exact f3.elim
   | none=>
    have g2:@Bool.rec (fun _=>RV) (.ok .undef (cN i (.map (snoc l (.mk b c ck)) (Nat.succ ck)) h)) (.err 241) (Nat.beq (Nat.succ ck) dH)=.ok v h':=g2
    cases hT:Nat.beq (Nat.succ ck) dH with
    | true=>rw [hT] at g2;cases g2
    | false=>
    rw [hT] at g2
    obtain ⟨rfl,rfl⟩:=RV.av g2
    obtain ⟨s1,s2,s3⟩:=HR.pB (P:=P) (ck':=ck+1) (cw':=cw+1) H hi hp (es:=es.push {key:=cy,val:=cz,born:=cw}) (l':=snoc l (.mk b c ck)) (l0':=snoc l0 (.mk b c ck)) (vF hpm _) (by rw [Array.toList_push];exact h2.snoc hy hz hS.at.symm) (by rw [zg];exact hS.add (Tw hT)) h1
    refine ⟨rfl,_,φ,?_,s2,s3⟩
    simp [Instr.mapUpdate,ak ht,cj h1 rfl,hck,run_findKey hd f1 f2,s1]
  ·obtain ⟨j0,g1,pset,_⟩:=g1.perm hpm
   obtain ⟨cr,f1,f2,f3⟩:=g1.find H hd hk hy 0 h2
   cases cr with
   | none=>exact f3.elim
   | some q=>
    obtain ⟨j',cv⟩:=q
    obtain ⟨rfl,u0,e0,u1,u2,u3,u4,u5⟩:=f3
    obtain ⟨rfl,rfl⟩:=RV.av g2
    have hsb:=ot (h:=h) hy u3 u4
    have hes:(es.modify (0+j0) fun e=>{e with key:=cy,val:=cz}).toList=es.toList.modify (0+j0) fun e=>{e with key:=cy,val:=cz}:=by simp
    obtain ⟨s1,s2,s3⟩:=HR.pB (P:=P) (ck':=ck) (cw':=cw) H hi hp (es:=es.modify (0+j0) fun e=>{e with key:=cy,val:=cz}) (l':=lN (0+j) b c l) (l0':=lN (0+j0) b c l0) (by rw [Nat.zero_add,Nat.zero_add];exact pset _ _) (by rw [hes];exact h2.set _ hy hz) (by rw [od];exact hS) h1
    have hge:es[0+j0]?=some e0:=by rw [Nat.zero_add];simpa using u1
    have hks:(Instr.keyThatStays (((es[0+j0]?).map (·.key)).getD cy) cy).run P w=.ok cy w:=by
     rw [hge]
     simp [Instr.keyThatStays,hsb]
    refine ⟨rfl,_,φ,?_,s2,s3⟩
    simp only [Instr.mapUpdate,Sem.run_bind,ak ht,Result.andThen_ok,cj h1 rfl,hck,run_findKey hd f1 f2,hks,s1]
 ·cases he2
variable {P:Program} {φ:aJ} {h h':Hp} {w:World} {v:AV} {x y z:AO} {r:A2} {cx cy:Value}
theorem Jb {t:TypeId} {d:TypeDesc} (H:HR φ h w) (hx:VR φ (ev x r) cx) (hd:P.underlying t=some d) (hn:∀m,d≠.interface m) (he:yK t x r h=.ok v h'):Good φ h w v h' ((Instr.makeInterface t cx).run P w):=by
 obtain ⟨rfl,rfl⟩:=RV.av he
 refine .same H (.iface t _ _ hx) ?_
 simp only [Instr.makeInterface,Sem.run_bind,ak hd,Result.andThen_ok]
 cases d<;>first|rfl|exact absurd rfl (hn _)
theorem Jc (x:AO) (xs:List AO) (r:A2):fY (x::xs) r=ev x r::fY xs r:=rfl
theorem lE {G:Gl} {ρ:Operand→Value}:∀{os:List Operand} {xs:List AO},os.mapM (cO G)=some xs→(∀o,o∈os→∀a,cO G o=some a→VR φ (ev a r) (ρ o))→bX φ (fY xs r) (os.map ρ)
 | [],xs,e,_=>by simp at e;subst e;exact .nil
 | o::os,xs,e,hv=>by
  simp only [List.mapM_cons,Option.pure_def,Option.bind_eq_bind,Option.bind_eq_some_iff,Option.some.injEq] at e
  obtain ⟨a,ha,as,has,rfl⟩:=e
  rw [Jc]
  exact .cons _ _ _ _ (hv o (by simp) a ha) (lE has fun o ho=>hv o (by simp [ho]))
theorem Jd {f:Nat} {xs:List AO} {vs:List Value} (H:HR φ h w) (hx:bX φ (fY xs r) vs) (he:yL f xs r h=.ok v h'):Good φ h w v h' ((Instr.makeFunc (.func f) #[] vs.toArray).run P w):=by
 obtain ⟨rfl,rfl⟩:=RV.av he
 exact .same H (.fn f _ _ hx) rfl
theorem Je {t xt:TypeId} {zv:AV} {ok:Bool} {a:AV} {d:TypeDesc} (H:HR φ h w) (hx:VR φ a cx) (hd:P.underlying t=some d) (hn:∀m,d≠.interface m) (hz:jo P t=some zv) (he:KU t zv ok a h=.ok v h') :
  Good φ h w v h' ((Instr.typeAssert cx xt t ok).run P w):=by
 unfold jo at hz
 simp only [Option.bind_eq_some_iff] at hz
 obtain ⟨cz,⟨inf,hinf,hcz⟩,hz⟩:=hz
 have hvz:=nT hz φ
 cases a<;>(try (cases he;done))
 ·rename_i u b
  cases hx with
  | iface _ _ c hc=>
  have he2:(@Bool.rec (fun _=>RV) (@Bool.rec (fun _=>RV) (.err 109) (Ca true false zv h) ok) (Ca ok true b h) (Nat.beq t u))=.ok v h':=he
  cases htu:Nat.beq t u with
  | true=>
   rw [htu] at he2
   have:=Nat.eq_of_beq_eq_true htu
   subst this
   obtain ⟨u1,u2⟩:=pA hc he2
   subst u2
   refine .same H u1 ?_
   simp only [Instr.typeAssert,Sem.run_bind,ak hd,Result.andThen_ok]
   cases d<;>first|(simp;done)|exact absurd rfl (hn _)
  | false=>
   rw [htu] at he2
   have hne:u≠t:=fun e=>by subst e;rw [Nat.beq_refl] at htu;cases htu
   cases ok with
   | false=>cases he2
   | true=>
    obtain ⟨u1,u2⟩:=pA (ok:=true) hvz he2
    subst u2
    refine .same H u1 ?_
    simp only [Instr.typeAssert,Sem.run_bind,ak hd,Result.andThen_ok]
    cases d<;>first|(simp [hne,zeroValue,bD hinf,hcz];done)|exact absurd rfl (hn _)
 ·cases hx
  cases ok with
  | false=>cases he
  | true=>
   obtain ⟨u1,u2⟩:=pA (ok:=true) hvz (show Ca true false zv h=.ok v h' from he)
   subst u2
   refine .same H u1 ?_
   simp only [Instr.typeAssert,Sem.run_bind,ak hd,Result.andThen_ok]
   cases d<;>first|(simp [zeroValue,bD hinf,hcz];done)|exact absurd rfl (hn _)
variable {P:Program} {φ:aJ} {h h':Hp} {w:World} {v:AV} {x y z:AO} {r:A2} {cx cy:Value}
theorem wrap64 {m:Nat} (hm:m≤1048576):IntKind.i64.wrap (m:Int)=(m:Int):=by
 have:iP .i64 (Int.ofNat m)=Int.ofNat m:=by
  have hb:Nat.ble m 9223372036854775807=true:=Nat.ble_eq_true_of_le (by omega)
  show (@Bool.rec (fun _=>Int) _ (Int.ofNat m) (Nat.ble m 9223372036854775807))=_
  rw [hb]
 rw [eB] at this
 exact this
theorem xa {t e:TypeId} {zs:List AV} (H:HR φ h w) (hx:VR φ (ev x r) cx) (hy:VR φ (ev y r) cy) (ht:P.underlying t=some (.slice e)) (hz:fO P e=some zs) (hzl:zs.length=bp P e) (hes:bp P e≠0) (hg:iy P e=true)
  (he:iR e zs x y r h=.ok v h'):Good φ h w v h' ((Instr.makeSlice t cx cy).run P w):=by
 obtain ⟨k1,l,e1,he1⟩:=cY he
 obtain ⟨k2,c,e2,he2⟩:=cY he1
 obtain ⟨h1,he3⟩:=aC he2
 obtain ⟨h2,he4⟩:=aC he3
 have h1:=dV h1
 have h2:=dV h2
 rw [e1] at hx
 rw [e2] at hy
 rw [hx.aU,hy.aU]
 obtain ⟨i,zv,hi,hzv,hzs,hby⟩:=lC hg
 obtain ⟨i',zv',hi',hzv',g1,g2⟩:=fV hz φ
 rw [hi] at hi';cases hi'
 rw [hzv] at hzv';cases hzv'
 obtain ⟨k1',k2'⟩:=eE g1 g2 c (c * i.size) (by rw [hzs])
 have hN:=lX H k1' k2' he4
 rw [cJ hi] at hes
 have hes':i.size≠0:=hes
 have hw1:=wrap64 (m:=l) (by omega)
 have hw2:=wrap64 (m:=c) (by omega)
 have hb:i.bytes * c≤281474976710656:=by
  have:i.bytes * c≤1048576 * 1048576:=Nat.mul_le_mul hby h2
  omega
 have hbi:((i.bytes:Int) * (c:Int))≤281474976710656:=by
  have:=Int.ofNat_le.2 hb
  simpa using this
 have hrun:(Instr.makeSlice t (.int k1 (Int.ofNat l)) (.int k2 (Int.ofNat c))).run P w=.ok (.slice (some ⟨w.heap.size,0,none⟩) l c) {w with heap:=w.heap.push (.cells ((Array.range (c * i.size)).map (zv.cells[· % zv.cells.size]!)) e)}:=by
  have ha:∀(k:IntKind) (m:Nat),(asIntOf (.int k (m:Int))).run P w=.ok (k,(m:Int)) w:=fun _ _=>rfl
  have hcond:¬ (((((c:Int) < 0∨281474976710656 < (i.bytes:Int) * (c:Int))∨(l:Int) < 0)∨c < l)):=by omega
  simp only [Instr.makeSlice]
  simp [aP hi,dU,ha,hw1,hw2,ak ht,bD hi,asInt,zeroValue,hzv]
  rw [if_neg hcond]
  by_cases h0:c * i.size=0
  ·rw [if_pos h0,h0]
   have:∀g:Nat→Value,(Array.range 0).map g=#[]:=by intro g;simp
   rw [this,this]
  ·rw [if_neg h0]
 rw [hrun]
 exact hN
variable {P:Program} {φ:aJ} {h h':Hp} {w:World} {v:AV} {x y z:AO} {r:A2} {cx cy:Value}
theorem bX.drop:∀{as:List AV} {vs:List Value} (n:Nat),bX φ as vs→bX φ (as.drop n) (vs.drop n)
 | _,_,0,h=>by simpa using h
 | _,_,n+1,.nil=>by simpa using bX.nil
 | _,_,n+1,.cons _ _ _ _ e es=>bX.drop n es
theorem xb {t:TypeId} {d:TypeDesc} {i:TypeInfo} (hd:P.underlying t=some d) (ha:qv P t=true) (hi:P.info? t=some i) {vs:List Value} {o:Nat}:(part t vs.toArray o).run P w=.ok (.agg ((vs.drop o).take i.size).toArray) w:=by
 have:vs.toArray.extract o (o+i.size)=((vs.drop o).take i.size).toArray:=by
  apply Array.ext'
  rw [Array.toList_extract,List.extract_eq_take_drop]
  simp
 simp [part,gx hd,ha,aP hi]
theorem tC {l:List AV} {vs:List Value} (H:HR φ h w) (hv:bX φ l vs) {t:TypeId} {d:TypeDesc} (hd:P.underlying t=some d) (ha:qv P t=false) {o n:Nat} (he:(List.rec (.err n) (fun v _ _=>.ok v h) (List.drop o l):RV)=.ok v h') :
  Good φ h w v h' ((part t vs.toArray o).run P w):=by
 obtain ⟨a,tl,ed,e2⟩:=wW (k:=fun v=>.ok v h) he
 obtain ⟨rfl,rfl⟩:=RV.av e2
 obtain ⟨hi,hb⟩:=drop_cons ed
 have hi':o < vs.length:=by rw [←hv.length];exact hi
 exact .same H (cv:=vs[o]) (by rw [←hb];exact hv.get o hi hi') (gq hd ha (by simp [hi']))
theorem tD {l:List AV} {vs:List Value} (H:HR φ h w) (hv:bX φ l vs) (h1:∀c,c∈vs→c.oneCell'=true) {t:TypeId} {d:TypeDesc} {i:TypeInfo} (hd:P.underlying t=some d) (ha:qv P t=true) (hi:P.info? t=some i) {o n:Nat}
  (he:(Bool.rec (.err n) (.ok (.agg (List.take i.size (List.drop o l))) h) (Nat.ble (o+i.size) l.length):RV)=.ok v h'):Good φ h w v h' ((part t vs.toArray o).run P w):=by
 obtain ⟨hb,e2⟩:=aC he
 obtain ⟨rfl,rfl⟩:=RV.av e2
 exact .same H (.agg _ _ ((hv.drop o).take i.size) (fun c hc=>h1 c (List.mem_of_mem_drop (List.mem_of_mem_take hc)))) (xb hd ha hi)
theorem DA {t:TypeId} {fs:Array Field} {f:Nat} {fd:Field} {d:TypeDesc} (H:HR φ h w) (hx:VR φ (ev x r) cx) (ht:P.underlying t=some (.struct fs)) (hf:fs[f]?=some fd) (hd:P.underlying fd.type=some d) (ha:qv P fd.type=false)
  (he:pf fd.offset x r h=.ok v h'):Good φ h w v h' ((Instr.field t cx f).run P w):=by
 obtain ⟨l,el,he2⟩:=dn he
 rw [el] at hx
 obtain ⟨vs,rfl,hvs,_⟩:=hx.fL
 have:=tC (P:=P) H hvs hd ha he2
 simp [Instr.field,ak ht,hf,asAgg]
 exact this
theorem DB {t:TypeId} {fs:Array Field} {f:Nat} {fd:Field} {d:TypeDesc} {i:TypeInfo} (H:HR φ h w) (hx:VR φ (ev x r) cx) (ht:P.underlying t=some (.struct fs)) (hf:fs[f]?=some fd) (hd:P.underlying fd.type=some d) (ha:qv P fd.type=true) (hi:P.info? fd.type=some i)
  (he:ph fd.offset i.size x r h=.ok v h'):Good φ h w v h' ((Instr.field t cx f).run P w):=by
 obtain ⟨l,el,he2⟩:=dn he
 rw [el] at hx
 obtain ⟨vs,rfl,hvs,h1⟩:=hx.fL
 have:=tD (P:=P) H hvs h1 hd ha hi he2
 simp [Instr.field,ak ht,hf,asAgg]
 exact this
theorem DC {t e:TypeId} {n:Nat} {d:TypeDesc} {i:TypeInfo} (H:HR φ h w) (hx:VR φ (ev x r) cx) (hy:VR φ (ev y r) cy) (ht:P.underlying t=some (.array n e)) (hd:P.underlying e=some d) (hi:P.info? e=some i)
  (he:pk n i.size (qv P e) x y r h=.ok v h'):Good φ h w v h' ((Instr.index t cx cy).run P w):=by
 obtain ⟨kd,m,em,e1⟩:=cY he
 obtain ⟨l,el,e2⟩:=dn e1
 obtain ⟨hb,e3⟩:=aC e2
 rw [el] at hx
 rw [em] at hy
 obtain ⟨vs,rfl,hvs,h1⟩:=hx.fL
 rw [hy.aU]
 have hm:=kM hb
 have hrun:(Instr.index t (.agg vs.toArray) (.int kd (Int.ofNat m))).run P w=(part e vs.toArray (m * i.size)).run P w:=by
  have hr:(0:Int)≤Int.ofNat m∧Int.ofNat m < (n:Int):=vC (k:=kd) hm
  simp only [Instr.index,asIntOf,Sem.run_bind,Sem.run_pure,Result.andThen_ok,ak ht]
  rw [if_pos hr]
  simp [aP hi]
 rw [hrun]
 rcases ff e3 with ⟨ha,e4⟩|⟨ha,e4⟩
 ·exact tC H hvs hd ha e4
 ·exact tD H hvs h1 hd ha hi e4
variable {P:Program} {φ:aJ} {h h':Hp} {w:World} {v:AV} {x y z:AO} {r:A2} {cx cy:Value}
theorem Jf (mn:Bool) (k:IntKind) (h:Hp) (a:Int):yO mn k h [] a=.ok (.int k a) h:=rfl
theorem vH (mn:Bool) (k:IntKind) (h:Hp) (y:AV) (l:List AV) (a:Int):yO mn k h (y::l) a=AV.dp y (fun k' b=>@Bool.rec (fun _=>RV) (.err 76) (yO mn k h l (Au mn a b)) (nP k k')) (.err 76):=rfl
theorem Jg (k:IntKind) (a b:Int):(Builtin.max2 (.int k a) (.int k b)).run P w=.ok (.int k (Au false a b)) w:=by
 have:Au false a b=if b > a then b else a:=by
  show (@Bool.rec (fun _=>Int) a b (LB a b))=_
  rw [wT]
  by_cases g:a < b
  ·rw [decide_eq_true g,if_pos g]
  ·rw [decide_eq_false g,if_neg g]
 rw [this];rfl
theorem Jh (k:IntKind) (a b:Int):(Builtin.min2 (.int k a) (.int k b)).run P w=.ok (.int k (Au true a b)) w:=by
 have:Au true a b=if b < a then b else a:=by
  show (@Bool.rec (fun _=>Int) a b (LB b a))=_
  rw [wT]
  by_cases g:b < a
  ·rw [decide_eq_true g,if_pos g]
  ·rw [decide_eq_false g,if_neg g]
 rw [this];rfl
theorem xc {mn:Bool} {k:IntKind} {f:Value→Value→Sem Value} (hf:∀a b w,(f (.int k a) (.int k b)).run P w=.ok (.int k (Au mn a b)) w):∀{l:List AV} {vs:List Value} {a:Int},bX φ l vs→yO mn k h l a=.ok v h'→
  ∃n,v=.int k n∧h'=h∧(vs.foldlM f (.int k a)).run P w=.ok (.int k n) w
 | [],_,a,.nil,e=>by
  rw [Jf] at e
  obtain ⟨rfl,rfl⟩:=RV.av e
  exact ⟨a,rfl,rfl,rfl⟩
 | y::l,_,a,.cons _ c _ cs h1 h2,e=>by
  rw [vH] at e
  obtain ⟨k',b,rfl,e2⟩:=bu e
  obtain ⟨hk,e3⟩:=aC e2
  have:=gM hk
  subst this
  obtain ⟨n,r1,r2,r3⟩:=xc hf h2 e3
  refine ⟨n,r1,r2,?_⟩
  rw [h1.aU]
  simp only [List.foldlM_cons,Sem.run_bind,hf,Result.andThen_ok]
  exact r3
theorem zi {ts:Array TypeId} {ty:TypeId} {mn:Bool} {xs:List AO} {vs:List Value} (H:HR φ h w) (hx:bX φ (fY xs r) vs) (he:yP mn xs r h=.ok v h') :
  Good φ h w v h' ((if mn then Builtin.min_ ts ty vs.toArray else Builtin.max_ ts ty vs.toArray).run P w):=by
 change Dh mn (fY xs r) h=_ at he
 generalize fY xs r=l at hx he
 cases hx with
 | nil=>cases he
 | cons a c as cs h1 h2=>
  have he:AV.dp a (fun k b=>yO mn k h as b) (.err 76)=.ok v h':=he
  obtain ⟨k,b,rfl,e2⟩:=bu he
  rw [h1.aU]
  cases mn with
  | false=>
   obtain ⟨n,r1,r2,r3⟩:=xc (P:=P) (w:=w) (f:=Builtin.max2) (fun a b w=>Jg k a b) h2 e2
   subst r1 r2
   exact .same H (.int k n) (by simpa [Builtin.max_] using r3)
  | true=>
   obtain ⟨n,r1,r2,r3⟩:=xc (P:=P) (w:=w) (f:=Builtin.min2) (fun a b w=>Jh k a b) h2 e2
   subst r1 r2
   exact .same H (.int k n) (by simpa [Builtin.min_] using r3)
variable {P:Program} {φ:aJ} {h h':Hp} {w:World} {v:AV} {x y z:AO} {r:A2} {cx cy:Value} {t:TypeId} {p q:Operand}
theorem AM {f:IntKind→Int→Int→AV} {a b:AV} (e:Ug f a b h=.ok v h'):∃k k' m n,a=.int k m∧b=.int k' n∧v=f k m n∧h'=h∧v≠.undef:=by
 obtain ⟨k,m,rfl,e4⟩:=bu e
 obtain ⟨k',n,rfl,e5⟩:=bu e4
 obtain ⟨e1,e2,e3⟩:=Ct e5
 exact ⟨k,k',m,n,rfl,rfl,e1.symm,e2,fun e=>e3 (e1.trans e)⟩
theorem Ji (H:HR φ h w) {a b:AV} (hx:VR φ a cx) (hy:VR φ b cy) (e:Ug SH a b h=.ok v h'):Good φ h w v h' ((do eqGuard .shl t p q cx cy;binOp .shl t cx cy:Sem Value).run P w):=by
 obtain ⟨k,k',m,n,rfl,rfl,rfl,rfl,hn⟩:=AM e
 rw [hx.aU,hy.aU]
 cases n with
 | negSucc n=>exact absurd rfl hn
 | ofNat n=>
  have hv:SH k m (.ofNat n)=.int k (k.wrap (m * 2 ^ (min n k.bits))):=by
   show AV.int k (iP k (LA m (.ofNat (Nat.pow 2 (Nat.min n (kH k))))))=_
   rw [eB,Cq,qA]
   congr 3
  rw [hv]
  refine .same H (.int _ _) ?_
  have h0:¬ ((n:Int) < 0):=by omega
  simp [eF,binOp,Op.shift,h0]
theorem Jj (H:HR φ h w) {a b:AV} (hx:VR φ a cx) (hy:VR φ b cy) (e:Ug SI a b h=.ok v h'):Good φ h w v h' ((do eqGuard .shr t p q cx cy;binOp .shr t cx cy:Sem Value).run P w):=by
 obtain ⟨k,k',m,n,rfl,rfl,rfl,rfl,hn⟩:=AM e
 rw [hx.aU,hy.aU]
 cases n with
 | negSucc n=>exact absurd rfl hn
 | ofNat n=>
  have hv:SI k m (.ofNat n)=.int k (m.fdiv (2 ^ (min n k.bits))):=by
   cases m with
   | ofNat m=>
    show AV.int k (.ofNat (Nat.div m (Nat.pow 2 (Nat.min n (kH k)))))=_
    rw [qA]
    congr 1
    have:(2:Int) ^ (min n k.bits)=((2 ^ (min n k.bits):Nat):Int):=by simp
    rw [this,Int.fdiv_eq_ediv_of_nonneg _ (Int.natCast_nonneg _)]
    rfl
   | negSucc m=>
    show AV.int k (Int.fdiv (.negSucc m) (2 ^ (Nat.min n (kH k))))=_
    rw [qA]
  rw [hv]
  refine .same H (.int _ _) ?_
  have h0:¬ ((n:Int) < 0):=by omega
  simp [eF,binOp,Op.shift,h0]
def ZN (P:Program) (k:NK) (t:TypeId):Prop:=match k with
 | .s=>∃e,P.underlying t=some (.slice e)
 | .m=>∃a b,P.underlying t=some (.map a b)
 | .f=>∃a b c,P.underlying t=some (.func a b c)
 | .i=>∃a,P.underlying t=some (.interface a)
def tE (k:NK):Value:=match k with
 | .s=>.slice none 0 0
 | .m=>.map none
 | .f=>.nilFunc
 | .i=>.nilIface
theorem fg {k:NK} {y:Operand} (e:uj k y=true):y=.const (tE k):=by
 unfold uj at e
 split at e<;>first|rfl|cases e
theorem zj (d:Nat) {k:NK} (hk:ZN P k t) {a:AV} (hx:VR φ a cx) {c:Bool} (hc:sN k a=EB.of c) :
  (Op.equalIn (d+1) t cx (tE k)).run P w=.ok c w∧(Op.equalIn (d+1) t (tE k) cx).run P w=.ok c w:=by
 unfold Op.equalIn
 cases k with
 | s=>
  obtain ⟨e,ht⟩:=hk
  simp only [Sem.run_bind,ak ht,Result.andThen_ok,tE]
  cases a<;>(try (cases c<;>cases hc;done))<;>cases hx<;>cases c<;>(try (cases hc;done))<;>exact ⟨rfl,rfl⟩
 | m=>
  obtain ⟨e,f,ht⟩:=hk
  simp only [Sem.run_bind,ak ht,Result.andThen_ok,tE]
  cases a<;>(try (cases c<;>cases hc;done))<;>cases hx<;>cases c<;>(try (cases hc;done))<;>exact ⟨rfl,rfl⟩
 | f=>
  obtain ⟨e,f,g,ht⟩:=hk
  simp only [Sem.run_bind,ak ht,Result.andThen_ok,tE]
  cases a<;>(try (cases c<;>cases hc;done))<;>cases hx<;>cases c<;>(try (cases hc;done))<;>exact ⟨rfl,rfl⟩
 | i=>
  obtain ⟨e,ht⟩:=hk
  simp only [Sem.run_bind,ak ht,Result.andThen_ok,tE]
  cases a<;>(try (cases c<;>cases hc;done))<;>cases hx<;>cases c<;>(try (cases hc;done))<;>exact ⟨rfl,rfl⟩
theorem zk {op:BinOp} {k:NK} {a:AV} (hx:VR φ a cx) {c:Bool} (hc:sN k a=EB.of c) (p:Operand):(eqGuard op t p (.const (tE k)) cx (tE k)).run P w=.ok () w∧(eqGuard op t (.const (tE k)) p (tE k) cx).run P w=.ok () w:=by
 unfold eqGuard
 cases k<;>cases a<;>(try (cases c<;>cases hc;done))<;>cases hx<;>cases op<;>simp [tE]
theorem AN (k:NK):(∀j n,tE k≠.int j n)∧(∀j n,tE k≠.float j n)∧(∀j m n,tE k≠.complex j m n)∧(∀s,tE k≠.string s):=by
 cases k<;>simp [tE]
theorem xd {k:NK} {a:AV} (hx:VR φ a cx) {c:Bool} (hc:sN k a=EB.of c):(∀j n,cx≠.int j n)∧(∀j n,cx≠.float j n)∧(∀j m n,cx≠.complex j m n)∧(∀s,cx≠.string s):=by
 cases k<;>cases a<;>(try (cases c<;>cases hc;done))<;>cases hx<;>simp
theorem bE (neg:Bool) {k:NK} (hk:ZN P k t) (H:HR φ h w) {a:AV} (hx:VR φ a cx) (p:Operand) (e:EB.rv neg h (sN k a)=.ok v h') :
  Good φ h w v h' ((do eqGuard (if neg then .neq else .eql) t p (.const (tE k)) cx (tE k);binOp (if neg then .neq else .eql) t cx (tE k):Sem Value).run P w)∧
  Good φ h w v h' ((do eqGuard (if neg then .neq else .eql) t (.const (tE k)) p (tE k) cx;binOp (if neg then .neq else .eql) t (tE k) cx:Sem Value).run P w):=by
 obtain ⟨c,hc,rfl,rfl⟩:=nV e
 obtain ⟨r1,r2⟩:=zj (P:=P) (w:=w) 9999 hk hx hc
 obtain ⟨a1,a2,a3,a4⟩:=xd hx hc
 obtain ⟨b1,b2,b3,b4⟩:=AN k
 obtain ⟨g1,g2⟩:=eD r1 a1 a2 a3 a4
 obtain ⟨g3,g4⟩:=eD r2 b1 b2 b3 b4
 have hg:=fun op=>zk (P:=P) (w:=w) (op:=op) (t:=t) hx hc p
 constructor
 ·refine .same H (.bool _) ?_
  cases neg
  ·simp [(hg _).1,g1]
  ·simp [(hg _).1,g2]
 ·refine .same H (.bool _) ?_
  cases neg
  ·simp [(hg _).2,g3]
  ·simp [(hg _).2,g4]
inductive RT.aG:RT→RT→Prop
 | ok (v:AV) (h:Hp):aG (.ok v h) (.ok v h)
 | err (n:Nat):aG (.err n) (.err n)
 | ch (n:Nat) (k:Nat→RT) (c:Nat) (y:RT):c < n→aG (k c) y→aG (.ch n k) y
def RT.Safe (x:RT):Prop:=∀n,¬ x.aG (.err n)
theorem RT.Safe.err {n:Nat} (h:(RT.err n).Safe):False:=h n (.err n)
theorem RT.Safe.ch {n c:Nat} {k:Nat→RT} (h:(RT.ch n k).Safe) (hc:c < n):(k c).Safe:=fun m hm=>h m (.ch n k c _ hc hm)
variable {P:Program} {φ:aJ} {h h':Hp} {w:World} {v:AV} {x y z:AO} {r:A2} {cx cy:Value} {t:TypeId}
def vJ (φ:aJ) (h:Hp) (w:World) (x:RT) (r:Result Value):Prop:=∃v h',x.aG (.ok v h')∧Good φ h w v h' r
theorem Good.kr {x:RT} {r:Result Value} (g:Good φ h w v h' r) (e:x=.ok v h'):vJ φ h w x r:=⟨v,h',e▸.ok v h',g⟩
theorem HR.heap {w':World} (H:HR φ h w) (e:w'.heap=w.heap):HR φ h w':=⟨by rw [e];exact H.obj,H.inj,H.fresh,by rw [e];exact H.bound⟩
theorem Step.heap {w':World} (e:w'.heap=w.heap) (ht:w'.tape=w.tape) (ho:w'.os=w.os) (hu:w'.output=w.output):Step φ h w φ h w':=
 ⟨φ.le_refl,⟨by rw [e];exact Nat.le_refl _,fun b _ _=>by rw [e],ht,ho,hu⟩,fun _ _ a b=>.inl ⟨a,b⟩,.refl _⟩
theorem HR.newObj (H:HR φ h w) {o:Obj} {ob:Go.Obj} (hi:au h.next h=.none) (ho:o≠.none) (hOR:OR (φ.put h.next ⟨w.heap.size,0,0⟩) o ⟨w.heap.size,0,0⟩ (some ob)) :
  Good φ h w (.ptr h.next 0) (.mk (de h.next o h.tree) h.next.succ (Lg.add h.next h.log)) (.ok (.pointer (some ⟨w.heap.size,0,none⟩)) {w with heap:=w.heap.push ob}):=by
 have hw:({w with heap:=w.heap.push ob}:World).heap=w.heap.push ob:=rfl
 have hle:=aJ.fB (φ:=φ) (i:=h.next) ⟨w.heap.size,0,0⟩ (H.fresh _ hi)
 have g1:=H.new (w':={w with heap:=w.heap.push ob}) (n':=h.next.succ) (room:=0) hi hw ho hOR
 refine ⟨_,_,_,rfl,?_,g1,hle,.new hw rfl rfl rfl,fun j q hj hq=>?_,.put _ _ _ _⟩
 ·have:=VR.ptr (φ:=φ.put h.next ⟨w.heap.size,0,0⟩) h.next 0 _ (aJ.aL _ _ _)
  simpa [Place.addr] using this
 ·rw [iI] at hj
  by_cases e:j=h.next
  ·subst e
   rw [aJ.aL] at hq;cases hq
   exact .inr (.inl (Nat.le_refl _))
  ·rw [if_neg e] at hj
   exact .inl ⟨hj,by simpa [aJ.put,e] using hq⟩
theorem run_newObj (o:Go.Obj):(newObj o).run P w=.ok w.heap.size {w with heap:=w.heap.push o}:=by
 show (Sem.new o .pure).run P w=_
 simp [Sem.run]
theorem DD {k e:TypeId} (H:HR φ h w) (hx:VR φ (ev x r) cx) (ht:P.underlying t=some (.map k e)) (he:gF x r h=.ok v h'):Good φ h w v h' ((Instr.range t cx).run P w):=by
 rcases eZ he with ⟨m,em,he2⟩|⟨em,he2⟩
 ·obtain ⟨l,c,hm,he3⟩:=dF he2
  rw [em] at hx
  obtain ⟨q,hq,rfl⟩:=hx.jD
  obtain ⟨es,cw,l0,h1,hpm,h2,hS⟩:=H.map hm hq
  obtain ⟨hi,he4⟩:=gv he3
  obtain ⟨rfl,rfl⟩:=qz he4
  have hle:=aJ.fB (φ:=φ) (i:=h.next) ⟨w.heap.size,0,0⟩ (H.fresh _ hi)
  have hI:Xk (cg q.room) c [] c:=⟨fun b g1 g2=>by rw [hS.at];exact hS.mono b g1 g2,rfl,fun b g1 g2=>by rw [hS.at];exact hS.mono b g1 g2,fun b hb=>by cases hb⟩
  have:=H.newObj (o:=.vg m c [] c) (ob:=.mapIter (some q.bJ) cw #[] cw) hi (by simp) ⟨rfl,q,hle _ _ hq,by rw [hS.at];rfl,hI⟩
  simp [Instr.range,ak ht,cj h1 rfl,run_newObj]
  exact this
 ·obtain ⟨hi,he4⟩:=gv he2
  obtain ⟨rfl,rfl⟩:=qz he4
  rw [em] at hx
  rw [hx.nY]
  have:=H.newObj (o:=.BS) (ob:=.mapIter none 0 #[] 0) hi (by simp) ⟨rfl,rfl⟩
  simp [Instr.range,ak ht,run_newObj]
  exact this
variable {P:Program} {φ:aJ} {h h':Hp} {w:World} {v:AV} {x y z:AO} {r:A2} {cx cy:Value} {t:TypeId}
theorem xe (x:Nat):∀l:List Nat,Hf x l=l.contains x
 | []=>rfl
 | y::l=>by
  show (@Bool.rec (fun _=>Bool) (Hf x l) true (Nat.beq x y))=_
  rw [xe x l,List.contains_cons]
  by_cases e:x=y
  ·subst e;rw [Nat.beq_refl];simp
  ·have:Nat.beq x y=false:=by rw [←Bool.not_eq_true];intro g;exact e (Nat.eq_of_beq_eq_true g)
   have e2:(x == y)=false:=by simp [e]
   rw [this,e2];simp
theorem lF (seen:List Nat):∀l:List KV,dv seen l=l.filter fun y=>!seen.contains y.ji
 | []=>rfl
 | .mk k v b::l=>by
  show (@Bool.rec (fun _=>List KV) (.cons (.mk k v b) (dv seen l)) (dv seen l) (Hf b seen))=_
  rw [List.filter_cons,xe,lF seen l]
  show _=if (!seen.contains b)=true then _ else _
  cases seen.contains b<;>rfl
theorem qd (seen:List Nat) {l l0:List KV} (hp:l.Perm l0):(dv seen l).Perm (dv seen l0):=by rw [lF,lF];exact hp.filter _
theorem contains_map {st:Nat→Nat} {b:Nat} {seen:List Nat} (hi:∀s,s∈seen→st b=st s→b=s):(seen.map st).contains (st b)=seen.contains b:=by
 rw [Bool.eq_iff_iff]
 simp only [List.contains_iff_mem,List.mem_map]
 exact ⟨fun ⟨s,h1,h2⟩=>by rw [hi s h1 h2.symm];exact h1,fun g=>⟨b,g,rfl⟩⟩
theorem tF {st:Nat→Nat} (seen:List Nat):∀{l:List KV} {es:List MapEntry},bP st φ l es→(∀y,y∈l→∀s,s∈seen→st y.ji=st s→y.ji=s)→bP st φ (dv seen l) (es.filter fun e=>!(seen.map st).contains e.born)
 | _,_,.nil,_=>.nil
 | _,_,.cons k v b e l es h1 h2 h3 hr,hi=>by
  have ih:=tF seen hr fun y hy=>hi y (List.mem_cons_of_mem _ hy)
  show bP st φ (@Bool.rec (fun _=>List KV) (.cons (.mk k v b) (dv seen l)) (dv seen l) (Hf b seen)) _
  rw [List.filter_cons,xe,h3,contains_map (b:=b) (fun s hs=>hi (.mk k v b) (List.mem_cons_self ..) s hs)]
  cases hb:seen.contains b
  ·simp only [Bool.not_false,if_true];exact .cons k v b e _ _ h1 h2 h3 ih
  ·simp only [Bool.not_true,Bool.false_eq_true,if_false];exact ih
theorem tG (since:Nat):∀{l:List KV},pq since l=false→∀y,y∈l→y.ji < since
 | [],_,y,hy=>by cases hy
 | .mk k v b::l,hf,y,hy=>by
  have hf:(@Bool.rec (fun _=>Bool) (pq since l) true (Nat.ble since b))=false:=hf
  cases hb:Nat.ble since b with
  | true=>rw [hb] at hf;cases hf
  | false=>
   rw [hb] at hf
   rcases List.mem_cons.1 hy with rfl|hy
   ·rcases Nat.lt_or_ge b since with g|g
    ·exact g
    ·rw [Nat.ble_eq_true_of_le g] at hb;cases hb
   ·exact tG since hf y hy
theorem tH (last:Nat):∀{l:List KV},kJ last l=false→∃y,y∈l∧y.ji < last
 | [],h=>by cases h
 | .mk k v b::l,hf=>by
  have hf:(@Bool.rec (fun _=>Bool) false (kJ last l) (Nat.ble last b))=false:=hf
  cases hb:Nat.ble last b with
  | true=>
   rw [hb] at hf
   obtain ⟨y,h1,h2⟩:=tH last hf
   exact ⟨y,List.mem_cons_of_mem _ h1,h2⟩
  | false=>
   refine ⟨_,List.mem_cons_self ..,?_⟩
   rcases Nat.lt_or_ge b last with g|g
   ·exact g
   ·rw [Nat.ble_eq_true_of_le g] at hb;cases hb
theorem bP.mem {st:Nat→Nat}:∀{l:List KV} {es:List MapEntry},bP st φ l es→∀e,e∈es→∃y,y∈l∧e.born=st y.ji
 | _,_,.nil,e,he=>by cases he
 | _,_,.cons k v b e l es h1 h2 h3 hr,e',he=>by
  rcases List.mem_cons.1 he with rfl|he
  ·exact ⟨_,List.mem_cons_self ..,h3⟩
  ·obtain ⟨y,g1,g2⟩:=hr.mem e' he
   exact ⟨y,List.mem_cons_of_mem _ g1,g2⟩
theorem bP.Xl {st:Nat→Nat}:∀{l:List KV} {es:List MapEntry},bP st φ l es→∀y,y∈l→∃e,e∈es∧e.born=st y.ji
 | _,_,.nil,e,he=>by cases he
 | _,_,.cons k v b e l es h1 h2 h3 hr,y,hy=>by
  rcases List.mem_cons.1 hy with rfl|hy
  ·exact ⟨_,List.mem_cons_self ..,h3⟩
  ·obtain ⟨e',g1,g2⟩:=hr.Xl y hy
   exact ⟨e',List.mem_cons_of_mem _ g1,g2⟩
theorem Tx {a b:Nat} (e:Nat.ble dH a=Nat.ble dH b):wA a=wA b:=by
 have k:∀x,(x < dH)=(Nat.ble dH x=false):=fun x=>by
  apply propext
  constructor
  ·intro g
   rw [←Bool.not_eq_true]
   intro h2
   exact absurd (Nat.le_of_ble_eq_true h2) (Nat.not_le_of_lt g)
  ·intro g
   rcases Nat.lt_or_ge x dH with h2|h2
   ·exact h2
   ·rw [Nat.ble_eq_true_of_le h2] at g;cases g
 unfold wA
 simp only [k,e]
theorem bP.isEmpty {st:Nat→Nat}:∀{l:List KV} {es:List MapEntry},bP st φ l es→l.isEmpty=es.isEmpty
 | _,_,.nil=>rfl
 | _,_,.cons ..=>rfl
theorem Jk {α β:Type} (k:α→β) (e:β):∀(l:List α) (i:Nat) (hi:i < l.length),nth l k e i=k l[i]
 | [],i,hi=>by simp at hi
 | a::l,0,_=>rfl
 | a::l,i+1,hi=>by
  show nth l k e i=_
  rw [Jk k e l i (by simpa using hi)];rfl
theorem bP.get {st:Nat→Nat}:∀{l:List KV} {es:List MapEntry},bP st φ l es→∀(i:Nat) (h1:i < l.length) (h2:i < es.length),∃k v b,l[i]=.mk k v b∧es[i].born=st b∧VR φ k es[i].key∧VR φ v es[i].val
 | _,_,.cons k v b e l es h1 h2 h3 hr,0,_,_=>⟨k,v,b,rfl,h3,h1,h2⟩
 | _,_,.cons k v b e l es h1 h2 h3 hr,i+1,g1,g2=>bP.get hr i (by simpa using g1) (by simpa using g2)
theorem zl (n:Nat) (hn:0 < n):∃c w1,(choose (.mapNext n)).run P w=.ok c w1∧c < n∧w1.heap=w.heap∧w1.tape=w.tape∧w1.os=w.os∧w1.output=w.output:=by
 by_cases h1:n≤1
 ·refine ⟨0,w,?_,by omega,rfl,rfl,rfl,rfl⟩
  rw [run_choose_drew,if_pos (by simp [Question.forced,h1])]
 ·refine ⟨(Question.mapNext n).cut (w.tape w.drawn (.mapNext n)),w.drew,?_,?_,rfl,rfl,rfl,rfl⟩
  ·rw [run_choose_drew,if_neg (by simp [Question.forced,h1])]
  ·exact Nat.mod_lt _ hn
theorem mV {b:Nat} {o:Go.Obj} (h1:w.heap[b]?=some o) (hp:∀a c d,o≠.cells a c d):(getObj b).run P w=.ok o w:=by
 show (Sem.getObj b .pure).run P w=_
 cases o<;>first|exact absurd rfl (hp _ _ _)|simp only [Sem.run,h1]
theorem Jl {f:KV→RT} (hf:∀y,∃v h',f y=.ok v h') (h:Hp):∀(U:List KV) (c:Nat) (hc:c < U.length),(Uh f h U).aG (f U[c])
 | [],c,hc=>by simp at hc
 | [y],c,hc=>by
  have:c=0:=by simp at hc;omega
  subst this
  show (f y).aG (f y)
  obtain ⟨v,h',e⟩:=hf y
  rw [e];exact .ok _ _
 | y::y2::t,c,hc=>by
  refine .ch _ _ c _ hc ?_
  rw [Jk _ _ _ c hc]
  obtain ⟨v,h',e⟩:=hf (y::y2::t)[c]
  rw [e];exact .ok _ _
theorem HR.setIter (H:HR φ h w) {i:P4} {p:Place} {o':Obj} {ob:Go.Obj} (hl:live (au i h)) (hp:φ i=some p) (hO:OR φ o' p (some ob)) (ho:o'≠.none) (hl':live o') {o0:Go.Obj} (h0:w.heap[p.bJ]?=some o0) (ZJ:∀a c d,o0≠.cells a c d) :
  (setObj p.bJ ob).run P w=.ok () {w with heap:=w.heap.setIfInBounds p.bJ ob}∧HR φ (cN i o' h) {w with heap:=w.heap.setIfInBounds p.bJ ob}∧Step φ h w φ (cN i o' h) {w with heap:=w.heap.setIfInBounds p.bJ ob}:=by
 have hb:p.bJ < w.heap.size:=H.bound i p hp
 have hne:∀b,b≠p.bJ→(w.heap.setIfInBounds p.bJ ob)[b]?=w.heap[b]?:=fun b hb=>by
  rw [Array.getElem?_setIfInBounds,if_neg (fun e=>hb e.symm)]
 refine ⟨?_,H.set hl hp (by simp) hne (by simpa [hb] using hO) ho,φ.le_refl,fu.set hl hp (by simp) hne rfl rfl rfl,fun j q hj hq=>?_,.set _ _ _⟩
 ·show (Sem.setObj p.bJ ob (.pure ())).run P w=_
  cases o0<;>first|exact absurd rfl (ZJ _ _ _)|simp only [Sem.run,h0]
 ·rw [bj] at hj
  by_cases e:j=i
  ·subst e;exact .inl ⟨hl,hq⟩
  ·rw [if_neg e] at hj;exact .inl ⟨hj,hq⟩
theorem AP {ty:TypeId} {a:AV} (H:HR φ h w) (hx:VR φ a cx) (hs:(Hg a h).Safe):vJ φ h w (Hg a h) ((Instr.next cx false ty).run P w):=by
 cases a<;>(try exact (RT.Safe.err hs).elim)
 rename_i i o
 obtain ⟨p,hp,rfl⟩:=hx.fc
 cases o with
 | succ o=>exact (RT.Safe.err hs).elim
 | zero=>
  change RT.Safe (Obj.rec (.err 98) (.err 98) (fun _ _ _ _ _=>.err 98) (fun _ _=>.err 98) (fun _ _=>.err 98) (fun m since seen last=>Ui i m since seen last h) (over h).kr (au i h)) at hs
  show vJ φ h w (Obj.rec (.err 98) (.err 98) (fun _ _ _ _ _=>.err 98) (fun _ _=>.err 98) (fun _ _=>.err 98) (fun m since seen last=>Ui i m since seen last h) (over h).kr (au i h)) _
  cases hi:au i h<;>rw [hi] at hs<;>(try exact (RT.Safe.err hs).elim)
  ·rename_i m since seen last
   have hl:live (au i h):=by rw [hi];exact ⟨by simp,by simp⟩
   obtain ⟨p',hp',hor⟩:=H.obj i hl
   rw [hp] at hp';cases hp'
   rw [hi] at hor
   obtain ⟨hb0,q,hq,hw,hI⟩:=hor
   have hs:(Ui i m since seen last h).Safe:=hs
   show vJ φ h w (Ui i m since seen last h) _
   unfold Ui at hs ⊢
   cases hm:au m h<;>rw [hm] at hs<;>(try exact (RT.Safe.err hs).elim)
   rename_i l clock
   have hs:RT.Safe (@Bool.rec (fun _=>RT) (.err 243) (@Bool.rec (fun _=>RT) (@Bool.rec (fun _=>RT) (Uh (vp i m since seen clock h) h (dv seen l)) (.err 100) (Bool.and (Bool.not (fq seen)) (Bool.and (Bool.not (fq l)) (kJ last l)))) (.err 103) (pq since l)) (eH (Nat.ble dH since) (Nat.ble dH clock))):=hs
   show vJ φ h w (@Bool.rec (fun _=>RT) (.err 243) (@Bool.rec (fun _=>RT) (@Bool.rec (fun _=>RT) (Uh (vp i m since seen clock h) h (dv seen l)) (.err 100) (Bool.and (Bool.not (fq seen)) (Bool.and (Bool.not (fq l)) (kJ last l)))) (.err 103) (pq since l)) (eH (Nat.ble dH since) (Nat.ble dH clock))) _
   cases hT:eH (Nat.ble dH since) (Nat.ble dH clock) with
   | false=>rw [hT] at hs;exact (RT.Safe.err hs).elim
   | true=>
   have hlo:=Tx (show Nat.ble dH since=Nat.ble dH clock by
    cases h1:Nat.ble dH since<;>cases h2:Nat.ble dH clock<;>first|rfl|(rw [h1,h2] at hT;cases hT))
   cases hA:pq since l with
   | true=>rw [hT,hA] at hs;exact (RT.Safe.err hs).elim
   | false=>
    cases hB:Bool.and (Bool.not (fq seen)) (Bool.and (Bool.not (fq l)) (kJ last l)) with
    | true=>rw [hT,hA,hB] at hs;exact (RT.Safe.err hs).elim
    | false=>
     rw [hT,hA,hB] at hs
     have hs:(Uh (vp i m since seen clock h) h (dv seen l)).Safe:=hs
     show vJ φ h w (Uh (vp i m since seen clock h) h (dv seen l)) _
     obtain ⟨es,cw,l0,g1,hpm,g2,hS⟩:=H.map hm hq
     have hrg:∀y,y∈l→wA since≤y.ji∧y.ji < clock:=fun y hy=>by rw [hlo];exact hS.Kq _ (List.mem_map.2 ⟨y,hy,rfl⟩)
     have hB':(!((seen.map (cg q.room)).toArray.isEmpty)&&!es.isEmpty&&es.all fun e=>decide (e.born≥cg q.room last))=false:=by
      rw [Bool.eq_false_iff]
      intro hh
      simp only [Bool.and_eq_true] at hh
      obtain ⟨⟨a1,a2⟩,a3⟩:=hh
      have b1:fq seen=false:=by
       cases seen with
       | nil=>simp at a1
       | cons=>rfl
      have b2:fq l=false:=by
       cases l with
       | nil=>
        have:=hpm.length_eq
        rw [g2.length] at this
        have:es=#[]:=by apply Array.eq_empty_of_size_eq_zero;simpa using this.symm
        rw [this] at a2;simp at a2
       | cons=>rfl
      have hB:Bool.and (Bool.not (fq seen)) (Bool.and (Bool.not (fq l)) (kJ last l))=false:=hB
      rw [b1,b2] at hB
      have hB:kJ last l=false:=hB
      obtain ⟨y,hy,hlt⟩:=tH last hB
      obtain ⟨e,he,hbn⟩:=g2.Xl y (hpm.mem_iff.1 hy)
      have:=(Array.all_eq_true'.1 a3) e (by simpa using he)
      rw [decide_eq_true_eq,hbn] at this
      exact absurd (hI.2.2.1 _ (hrg y hy).1 hlt) (Nat.not_lt_of_le this)
     have hold:∀e,e∈es.toList→e.born < cg q.room since:=fun e he=>by
      obtain ⟨y,hy,hbn⟩:=g2.mem e he
      have hy:=hpm.mem_iff.2 hy
      rw [hbn]
      exact hI.1 _ (hrg y hy).1 (tG since hA y hy)
     have hu:=tF seen g2 fun y hy s hs g=>hS.inj _ _ (hlo▸(hrg y (hpm.mem_iff.2 hy)).1) (hlo▸hI.2.2.2 s hs) g
     generalize hL:(es.toList.filter fun e=>!(seen.map (cg q.room)).contains e.born)=L at hu
     have hleft:(es.filter fun e=>!(seen.map (cg q.room)).toArray.contains e.born)=L.toArray:=by
      rw [←hL];apply Array.ext';simp
     have hLb:∀e,e∈L→e.born < cg q.room since:=fun e he=>hold e (by rw [←hL] at he;exact (List.mem_filter.1 he).1)
     have ho1:Array.filter (fun e=>decide (e.born < cg q.room since)) L.toArray 0 L.length=L.toArray:=by
      show L.toArray.filter (fun e=>decide (e.born < cg q.room since))=_
      rw [Array.filter_eq_self];intro e he;simpa using hLb e (by simpa using he)
     have ho2:Array.filter (fun e=>decide (e.born≥cg q.room since)) L.toArray 0 L.length=#[]:=by
      show L.toArray.filter (fun e=>decide (e.born≥cg q.room since))=_
      rw [Array.filter_eq_empty_iff];intro e he;have:=hLb e (by simpa using he);simp;exact this
     have haddr:p.addr 0=⟨p.bJ,0,none⟩:=by simp [Place.addr,hb0]
     have hobj:(getObj p.bJ).run P w=.ok (.mapIter (some q.bJ) (cg q.room since) (seen.map (cg q.room)).toArray (cg q.room last)) w:=mV hw (by simp)
     have hmap:∀w1:World,(getObj q.bJ).run P w=.ok (.map es cw) w:=fun _=>cj g1 rfl
     -- the run,up to the choice
     have hcand:((if L.toArray.isEmpty then #[(none:Option MapEntry)] else #[]) ++ (L.toArray ++ #[]).map some)=(if L.isEmpty then [none] else L.map some).toArray:=by
      cases L<;>simp
     have hrun:∀c w1 o,(choose (.mapNext (if L.isEmpty then [none] else L.map some).length)).run P w=.ok c w1→(if L.isEmpty then [none] else L.map some)[c]?=some o→
       (Instr.next (.pointer (some (p.addr 0))) false ty).run P w=(match o with
        | some e=>((do setObj p.bJ (.mapIter (some q.bJ) (cg q.room since) ((seen.map (cg q.room)).toArray.push e.born) cw);pure (.tuple #[.bool true,e.key,e.val])):Sem Value).run P w1
        | none=>(.ok (.tuple #[.bool false]) w1:Result Value)):=by
      intro c w1 o hc ho
      rw [haddr]
      simp only [Instr.next,Sem.run_bind,hobj,Result.andThen_ok,hmap w,hB',Bool.false_eq_true,if_false,hleft,ho1,ho2,hcand,List.size_toArray,hc]
      simp only [List.getElem?_toArray,ho]
      cases o<;>simp
     obtain ⟨c,w1,hc,hcn,e1,e2,e3,e4⟩:=zl (P:=P) (w:=w) (if L.isEmpty then [none] else L.map some).length (by cases L<;>simp)
     have H1:HR φ h w1:=H.heap e1
     have S1:Step φ h w φ h w1:=Step.heap e1 e2 e3 e4
     cases hL2:L with
     | nil=>
      rw [hL2] at hu hrun hc hcn
      have hz:c=0:=by simpa using hcn
      rw [hrun c w1 none hc (by subst hz;rfl)]
      have hun0:dv seen l0=[]:=by cases hu2:dv seen l0 with|nil=>rfl|cons y t=>rw [hu2] at hu;cases hu
      cases hun:dv seen l with
      | cons y t=>
       have:=(qd seen hpm).length_eq
       rw [hun,hun0] at this;simp at this
      | nil=>exact ⟨_,_,.ok _ _,_,_,φ,rfl,.bU [_] [_] (.cons _ _ _ _ (.bool _) .nil),H1,S1⟩
     | cons e0 L'=>
      rw [hL2] at hu hrun hc hcn
      have hlen:=hu.length
      have hcn':c < (e0::L').length:=by simpa using hcn
      obtain ⟨k,u,bb,hk,hbn,hv1,hv2⟩:=hu.get c (by omega) hcn'
      obtain ⟨c2,hc2,hk2⟩:=List.getElem_of_mem ((qd seen hpm).mem_iff.2 (List.getElem_mem (l:=dv seen l0) (n:=c) (by omega)))
      rw [hk] at hk2
      have hyl:KV.mk k u bb∈l:=by
       have:KV.mk k u bb∈dv seen l:=hk2▸List.getElem_mem hc2
       rw [lF] at this
       exact (List.mem_filter.1 this).1
      rw [hrun c w1 (some (e0::L')[c]) hc (by simp only [List.isEmpty_cons,Bool.false_eq_true,if_false,List.getElem?_map,List.getElem?_eq_getElem hcn',Option.map_some])]
      have hw1:w1.heap[p.bJ]?=some (.mapIter (some q.bJ) (cg q.room since) (seen.map (cg q.room)).toArray (cg q.room last)):=by rw [e1];exact hw
      obtain ⟨s1,s2,s3⟩:=HR.setIter (P:=P) H1 (o':=.vg m since (seen ++ [bb]) clock) (ob:=.mapIter (some q.bJ) (cg q.room since) ((seen.map (cg q.room)).toArray.push (e0::L')[c].born) cw) hl hp ⟨hb0,q,hq,by rw [hbn,hS.at];simp,hI.1,hlo.symm,fun b h1 h2=>by rw [hS.at];exact hS.mono b (hlo▸h1) h2,fun b hb=>by
       rcases List.mem_append.1 hb with g|g
       ·exact hI.2.2.2 b g
       ·obtain rfl:b=bb:=by simpa using g
        exact (hrg _ hyl).1⟩ (by simp) ⟨by simp,by simp⟩ hw1 (by simp)
      have hlf:=Jl (f:=vp i m since seen clock h) (fun y=>by cases y;exact ⟨_,_,rfl⟩) h (dv seen l) c2 hc2
      rw [hk2] at hlf
      refine ⟨_,_,hlf,.tuple #[.bool true,(e0::L')[c].key,(e0::L')[c].val],_,φ,?_,?_,s2,S1.trans s3⟩
      ·simp only [Sem.run_bind,s1,Result.andThen_ok,Sem.run_pure]
      ·exact .bU [_,_,_] [_,_,_] (.cons _ _ _ _ (.bool _) (.cons _ _ _ _ hv1 (.cons _ _ _ _ hv2 .nil)))
  ·have hl:live (au i h):=by rw [hi];exact ⟨by simp,by simp⟩
   obtain ⟨p',hp',hor⟩:=H.obj i hl
   rw [hp] at hp';cases hp'
   rw [hi] at hor
   obtain ⟨hb0,hw⟩:=hor
   have haddr:p.addr 0=⟨p.bJ,0,none⟩:=by simp [Place.addr,hb0]
   have hobj:(getObj p.bJ).run P w=.ok (.mapIter none 0 #[] 0) w:=mV hw (by simp)
   refine ⟨_,_,.ok _ _,.same H (cv:=.tuple #[.bool false]) (.bU [_] [_] (.cons _ _ _ _ (.bool _) .nil)) ?_⟩
   rw [haddr]
   simp only [Instr.next,Sem.run_bind,hobj,Result.andThen_ok,Sem.run_pure]
variable {P:Program} {φ:aJ} {h h':Hp} {w:World} {v:AV} {x y z:AO} {r:A2} {cx cy:Value} {t:TypeId}
theorem zm:∀{l:List Nat} {k:Nat→RV} {n:Nat},Hi l k (.err n)=.ok v h→∃b,l.getLast?=some b∧k b=.ok v h
 | [],_,_,e=>by cases e
 | [a],_,_,e=>⟨a,rfl,e⟩
 | a::b::l,k,n,e=>by
  obtain ⟨c,h1,h2⟩:=zm (l:=b::l) (show Hi (b::l) k (.err n)=_ from e)
  exact ⟨c,by rw [List.getLast?_cons_cons];exact h1,h2⟩
theorem zn {b n:Nat} {k:AV→AV→RV}:∀{l:List KV},Hh b l k (.err n)=.ok v h→∃l1 a c l2,l=l1 ++ KV.mk a c b::l2∧k a c=.ok v h
 | [],e=>by cases e
 | .mk a c b'::l,he0=>by
  have he1:(@Bool.rec (fun _=>RV) (Hh b l k (.err n)) (k a c) (Nat.beq b b'))=.ok v h:=he0
  cases hb:Nat.beq b b' with
  | true=>
   rw [hb] at he1
   obtain rfl:=Nat.eq_of_beq_eq_true hb
   exact ⟨[],a,c,l,rfl,he1⟩
  | false=>
   rw [hb] at he1
   obtain ⟨l1,a',c',l2,rfl,q⟩:=zn he1
   exact ⟨.mk a c b'::l1,a',c',l2,rfl,q⟩
theorem bP.NH {st:Nat→Nat} {b:Nat} {a c:AV} {m2:List KV}:∀{m1:List KV} {es:List MapEntry},bP st φ (m1 ++ KV.mk a c b::m2) es→(∀y,y∈m1→st y.ji≠st b)→∃e,es.find? (fun e=>e.born == st b)=some e∧VR φ a e.key∧VR φ c e.val
 | [],_,.cons _ _ _ e _ es h1 h2 h3 _,_=>by
  refine ⟨e,?_,h1,h2⟩
  rw [List.find?_cons]
  have h4:(e.born == st b)=true:=by rw [h3];exact beq_self_eq_true _
  rw [h4]
 | .mk k0 v0 b0::m1,_,.cons _ _ _ e _ es _ _ h3 hr,hne=>by
  rw [List.find?_cons]
  have h4:(e.born == st b)=false:=by
   rw [beq_eq_false_iff_ne,h3]
   exact hne _ (List.mem_cons_self ..)
  rw [h4]
  exact bP.NH hr fun y hy=>hne y (List.mem_cons_of_mem _ hy)
theorem Jm (H:HR φ h w) (hx:VR φ (ev x r) cx) (he:kG x r h=.ok v h'):Good φ h w v h' ((Instr.entry cx).run P w):=by
 obtain ⟨i,o,ep,he⟩:=cD he
 rw [ep] at hx
 obtain ⟨p,hp,rfl⟩:=hx.fc
 cases o with
 | succ o=>cases he
 | zero=>
  change (Obj.rec (.err 104) (.err 104) (fun _ _ _ _ _=>.err 104) (fun _ _=>.err 104) (fun _ _=>.err 104) (fun m _ seen stepped=>SJ m seen stepped h) (.err 104) (au i h):RV)=_ at he
  cases hi:au i h<;>rw [hi] at he<;>(try (cases he;done))
  rename_i m since seen stepped
  have hl:live (au i h):=by rw [hi];exact ⟨by simp,by simp⟩
  obtain ⟨p',hp',hor⟩:=H.obj i hl
  rw [hp] at hp';cases hp'
  rw [hi] at hor
  obtain ⟨hb0,q,hq,hw,hI⟩:=hor
  obtain ⟨b,hb,he⟩:=zm (show SJ m seen stepped h=_ from he)
  obtain ⟨l,clock,hm,he⟩:=dF he
  obtain ⟨hc,he⟩:=aC he
  have hc:=Nat.eq_of_beq_eq_true hc
  obtain ⟨es,cw,l0,g1,hpm,g2,hS⟩:=H.map hm hq
  obtain ⟨l1,a,c,l2,rfl,he9⟩:=zn he
  obtain ⟨rfl,rfl⟩:=RV.av he9
  obtain ⟨m1,m2,rfl,hmm⟩:=tA hpm
  have hnd:=hS.Nk
  have hrg:=hS.Kq
  rw [List.map_append,List.map_cons] at hrg hnd
  rw [List.nodup_append,List.nodup_cons] at hnd
  obtain ⟨e,f1,f2,f3⟩:=g2.NH fun y hy g=>by
   have hyl:=hmm.mem_iff.2 (List.mem_append_left m2 hy)
   have hy2:y.ji∈l1.map KV.ji ++ KV.ji (KV.mk a c b)::l2.map KV.ji:=by
    rcases List.mem_append.1 hyl with k|k
    ·exact List.mem_append_left _ (List.mem_map.2 ⟨y,k,rfl⟩)
    ·exact List.mem_append_right _ (List.mem_cons_of_mem _ (List.mem_map.2 ⟨y,k,rfl⟩))
   have g:=hS.inj _ _ (hrg _ hy2).1 (hrg _ (List.mem_append_right _ (List.mem_cons_self ..))).1 g
   rcases List.mem_append.1 hyl with k|k
   ·exact hnd.2.2 _ (List.mem_map.2 ⟨y,k,rfl⟩) _ (List.mem_cons_self ..) g
   ·exact hnd.2.1.1 (g▸List.mem_map.2 ⟨y,k,rfl⟩)
  have haddr:p.addr 0=⟨p.bJ,0,none⟩:=by simp [Place.addr,hb0]
  have hobj:(getObj p.bJ).run P w=.ok (.mapIter (some q.bJ) (cg q.room since) (seen.map (cg q.room)).toArray (cg q.room stepped)) w:=mV hw (by simp)
  refine .same H (cv:=.tuple #[e.key,e.val]) (.bU [_,_] [_,_] (.cons _ _ _ _ f2 (.cons _ _ _ _ f3 .nil))) ?_
  rw [haddr]
  have hback:(seen.map (cg q.room)).toArray.back?=some (cg q.room b):=by simp [hb]
  have hfind:es.find? (fun e=>e.born == cg q.room b)=some e:=by rw [←Array.find?_toList];exact f1
  subst hc
  have hcw:=hS.at
  simp [Instr.entry,hobj,hback,cj g1 rfl,hfind,hcw]
variable {P:Program} {φ:aJ} {h h':Hp} {w:World} {v:AV} {r:A2} {cx cy:Value}
section
variable {t:TypeId} {p q:Operand}
theorem qq {op:BinOp} {k k':FloatKind} {m n:Nat}:(eqGuard op t p q (.float k m) (.float k' n)).run P w=.ok () w:=by
 unfold eqGuard
 cases op<;>simp
theorem pC {op:BinOp} {k k':FloatKind} {a b c d:Nat}:(eqGuard op t p q (.complex k a b) (.complex k' c d)).run P w=.ok () w:=by
 unfold eqGuard
 cases op<;>simp
theorem Ma {k:FloatKind} {op:BinOp} {a b:Nat} (e:LG k op a b h=.ok v h'):h'=h∧∃c,(binOp op t (.float k a) (.float k b)).run P w=.ok c w∧VR φ v c:=by
 cases op<;>first|(cases e;done)|skip
 case add=>
  have e:(match k.format.add a b with|some r=>RV.ok (.fi k r) h|none=>.err 7)=.ok v h':=e
  cases hr:k.format.add a b with
  | none=>rw [hr] at e;cases e
  | some r=>
   rw [hr] at e
   obtain ⟨rfl,rfl⟩:=RV.av e
   exact ⟨rfl,_,by simp [binOp,Op.floatArith,hr],.fi _ _⟩
 case sub=>
  have e:(match k.format.sub a b with|some r=>RV.ok (.fi k r) h|none=>.err 7)=.ok v h':=e
  cases hr:k.format.sub a b with
  | none=>rw [hr] at e;cases e
  | some r=>
   rw [hr] at e
   obtain ⟨rfl,rfl⟩:=RV.av e
   exact ⟨rfl,_,by simp [binOp,Op.floatArith,hr],.fi _ _⟩
 case mul=>
  have e:(match k.format.mul a b with|some r=>RV.ok (.fi k r) h|none=>.err 7)=.ok v h':=e
  cases hr:k.format.mul a b with
  | none=>rw [hr] at e;cases e
  | some r=>
   rw [hr] at e
   obtain ⟨rfl,rfl⟩:=RV.av e
   exact ⟨rfl,_,by simp [binOp,Op.floatArith,hr],.fi _ _⟩
 case quo=>
  have e:(match k.format.div a b with|some r=>RV.ok (.fi k r) h|none=>.err 7)=.ok v h':=e
  cases hr:k.format.div a b with
  | none=>rw [hr] at e;cases e
  | some r=>
   rw [hr] at e
   obtain ⟨rfl,rfl⟩:=RV.av e
   exact ⟨rfl,_,by simp [binOp,Op.floatArith,hr],.fi _ _⟩
 all_goals
  obtain ⟨rfl,rfl⟩:=RV.av e
  exact ⟨rfl,_,by simp [binOp,Op.floatCmp],.bool _⟩
theorem Jn {op:BinOp} (H:HR φ h w) {a b:AV} (hx:VR φ a cx) (hy:VR φ b cy) (e:GW op a b h=.ok v h'):Good φ h w v h' ((do eqGuard op t p q cx cy;binOp op t cx cy:Sem Value).run P w):=by
 obtain ⟨k,m,ea,e1⟩:=dQ e
 obtain ⟨k',n,eb,e2⟩:=dQ e1
 obtain ⟨hk,e3⟩:=aC e2
 clear e e1 e2
 obtain rfl:=iZ hk
 subst ea eb
 rw [hx.ln,hy.ln]
 obtain ⟨rfl,c,h1,h2⟩:=Ma (P:=P) (w:=w) (t:=t) (φ:=φ) e3
 refine .same H h2 ?_
 simp [qq,h1]
theorem Jo {k:FloatKind} {op:BinOp} {a b c d:Nat} (e:BW k op a b c d h=.ok v h'):h'=h∧∃x,(binOp op t (.complex k a b) (.complex k c d)).run P w=.ok x w∧VR φ v x:=by
 cases op<;>first|(cases e;done)|skip
 case add=>
  have e:(match k.format.add a c,k.format.add b d with|some r,some s=>RV.ok (.aj k r s) h|_,_=>.err 8)=.ok v h':=e
  cases hr:k.format.add a c with
  | none=>rw [hr] at e;cases e
  | some r=>
   cases hs:k.format.add b d with
   | none=>rw [hr,hs] at e;cases e
   | some s=>
    rw [hr,hs] at e
    obtain ⟨rfl,rfl⟩:=RV.av e
    exact ⟨rfl,_,run_complex_sum w .add (.inl rfl) t k a b c d r s (by simp [cSumBits,floatBits,hr,hs]),.aj _ _ _⟩
 case sub=>
  have e:(match k.format.sub a c,k.format.sub b d with|some r,some s=>RV.ok (.aj k r s) h|_,_=>.err 8)=.ok v h':=e
  cases hr:k.format.sub a c with
  | none=>rw [hr] at e;cases e
  | some r=>
   cases hs:k.format.sub b d with
   | none=>rw [hr,hs] at e;cases e
   | some s=>
    rw [hr,hs] at e
    obtain ⟨rfl,rfl⟩:=RV.av e
    exact ⟨rfl,_,run_complex_sum w .sub (.inr rfl) t k a b c d r s (by simp [cSumBits,floatBits,hr,hs]),.aj _ _ _⟩
 all_goals
  obtain ⟨rfl,rfl⟩:=RV.av e
 ·exact ⟨rfl,_,run_eql_complex w t k a b c d,.bool _⟩
 ·exact ⟨rfl,_,run_neq_complex w t k a b c d,.bool _⟩
theorem Jp {op:BinOp} (H:HR φ h w) {a b:AV} (hx:VR φ a cx) (hy:VR φ b cy) (e:GX op a b h=.ok v h'):Good φ h w v h' ((do eqGuard op t p q cx cy;binOp op t cx cy:Sem Value).run P w):=by
 obtain ⟨k,m,n,ea,e1⟩:=fG e
 obtain ⟨k',m',n',eb,e2⟩:=fG e1
 obtain ⟨hk,e3⟩:=aC e2
 clear e e1 e2
 obtain rfl:=iZ hk
 subst ea eb
 rw [hx.nZ,hy.nZ]
 obtain ⟨rfl,c,h1,h2⟩:=Jo (P:=P) (w:=w) (t:=t) (φ:=φ) e3
 refine .same H h2 ?_
 simp [pC,h1]
end
theorem Jq {a:AV} {s d:TypeId} {kd:IntKind} {k:FloatKind} (H:HR φ h w) (hx:VR φ a cx) (hs:P.underlying s=some (.int kd)) (hd:P.underlying d=some (.float k)) (e:GZ k a h=.ok v h'):Good φ h w v h' ((convert s d cx).run P w):=by
 obtain ⟨ki,n,rfl,e1⟩:=bu e
 obtain ⟨rfl,rfl⟩:=RV.av e1
 rw [hx.aU]
 exact .same H (.fi _ _) (by simp [convert,ak hs,ak hd,Conv.intToFloat])
theorem Jr {a:AV} {s d:TypeId} {kd:IntKind} {k:FloatKind} (H:HR φ h w) (hx:VR φ a cx) (hs:P.underlying s=some (.float k)) (hd:P.underlying d=some (.int kd)) (e:Ha kd a h=.ok v h'):Good φ h w v h' ((convert s d cx).run P w):=by
 obtain ⟨kf,n,rfl,e1⟩:=dQ e
 clear e
 rw [hx.ln]
 have e:(match (kf.decode n).toInt .zero with|some n=>if kd.min≤n∧n≤kd.max then RV.ok (.int kd n) h else .err 37|none=>.err 37)=.ok v h':=e1
 cases hr:(kf.decode n).toInt .zero with
 | none=>rw [hr] at e;cases e
 | some m=>
  rw [hr] at e
  have e2:(if kd.min≤m∧m≤kd.max then RV.ok (.int kd m) h else .err 37)=.ok v h':=e
  by_cases hb:kd.min≤m∧m≤kd.max
  ·rw [if_pos hb] at e2
   obtain ⟨rfl,rfl⟩:=RV.av e2
   refine .same H (.int _ _) ?_
   simp [convert,ak hs,ak hd,Conv.floatToInt,hr,hb]
  ·rw [if_neg hb] at e2;cases e2
theorem DE {x:AO} {ts:Array TypeId} {ty:TypeId} (H:HR φ h w) (hx:VR φ (ev x r) cx) (he:fD false x r h=.ok v h'):Good φ h w v h' ((Builtin.real_ ts ty #[cx]).run P w):=by
 obtain ⟨k,a,b,ea,he⟩:=fG he
 obtain ⟨rfl,rfl⟩:=RV.av he
 rw [ea] at hx
 rw [hx.nZ]
 exact .same H (.fi _ _) (run_real w ts ty k a b)
theorem DF {x:AO} {ts:Array TypeId} {ty:TypeId} (H:HR φ h w) (hx:VR φ (ev x r) cx) (he:fD true x r h=.ok v h'):Good φ h w v h' ((Builtin.imag_ ts ty #[cx]).run P w):=by
 obtain ⟨k,a,b,ea,he⟩:=fG he
 obtain ⟨rfl,rfl⟩:=RV.av he
 rw [ea] at hx
 rw [hx.nZ]
 exact .same H (.fi _ _) (run_imag w ts ty k a b)
end Go.Am
