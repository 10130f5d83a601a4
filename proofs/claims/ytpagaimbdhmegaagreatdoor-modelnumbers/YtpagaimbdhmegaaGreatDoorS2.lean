/- The abstract machine is sound: what its run says holds of the Go program. Conditions: the table of functions is the program's (Env). -/
import Derived.Test.YtpagaimbdhmegaaGreatDoorS1
set_option linter.all false
namespace Go.Am
section
variable {P:Program} {G:Gl} [NB G] {n:Nat} {names:List String} {ops:Array Oper} {p:Pg} {run:gg} {l:List (Nat×Bk)} {T:Nat→DS} {φ₀ φ φ':aJ} {w₀ w:World} {L:Array Bool} {a:Act} {k:Nat} {pb:Nat→Nat} {r:A2}
theorem kM (a:H):bN a.nat=a:=by cases a<;>rfl
theorem H.gM (a:H):a.nat < 16:=by cases a<;>decide
theorem Pq (a b:H):hi (16 * a.nat+b.nat)=a:=by
 have h1:=a.gM;have h2:=b.gM
 show bN ((16 * a.nat+b.nat) / 16)=a
 rw [show (16 * a.nat+b.nat) / 16=a.nat by omega,kM]
theorem Pr (a b:H):lo (16 * a.nat+b.nat)=b:=by
 have h1:=a.gM;have h2:=b.gM
 show bN ((16 * a.nat+b.nat) % 16)=b
 rw [show (16 * a.nat+b.nat) % 16=b.nat by omega,kM]
theorem FG {t:Nat} (ht:t < 256):16 * (hi t).nat+(lo t).nat=t:=by
 show 16 * (bN (t / 16)).nat+(bN (t % 16)).nat=t
 rw [eF (by omega),eF (by omega)];omega
theorem fZ {t:Nat} (ht:t < 256):∀{L:List Nat},aq (hi t) (lo t) (bD r L)=if t∈L then aq (hi t) (lo t) r else .undef
 | []=>by
  show aq (hi t) (lo t) .nil=_
  rw [if_neg (by simp)]
  show A1.get (lo t) (A2.get (hi t) .nil)=_
  rw [A2.get_nil,A1.get_nil]
 | s::L=>by
  have ih:=fZ ht (L:=L)
  show aq (hi t) (lo t) (if s < 256 then eQ (hi s) (lo s) (aq (hi s) (lo s) r) (bD r L) else bD r L)=_
  split
  ·rename_i hs
   rw [dH]
   by_cases e:t=s
   ·subst e;simp
   ·rw [if_neg (fun g=>e ((Di ht hs).1 g)),ih]
    simp [e]
  ·rename_i hs
   have e:t≠s:=by omega
   rw [ih];simp [e]
theorem kp {L:List Nat}:eo r (bD r L) L:=fun a b m=>by
 have h1:=a.gM;have h2:=b.gM
 have:=fZ (r:=r) (L:=L) (t:=16 * a.nat+b.nat) (by omega)
 rw [if_pos m,Pq,Pr] at this
 exact this.symm
theorem BR (hs:L.size=ops.size) {j:Nat} (h:bg L j):j < ops.size:=by
 rcases Nat.lt_or_ge j L.size with g|g
 ·omega
 ·unfold bg at h
  rw [Array.getD_eq_getD_getElem?,Array.getElem?_eq_none g] at h;cases h
structure Wv (ops:Array Oper) (l:List (Nat×Bk)) (L:Array Bool) (q:Nat) (hq:q < l.length):Prop where
 un:¬ bg L l[q].1
 pre:∀e,e∈(bH ops l q hq).after→Region.binds .any e=true→bg L e.on
section
variable (K:Bv P G n names ops l) (hT:Trace P G n names ops p run l T) (I:Inv P G n names ops l T φ₀ w₀ L a w φ k pb) {q:Nat} (hq:q < l.length) (R:Wv ops l L q hq)
include K I R
theorem df {j:Nat}:bg (L.setIfInBounds l[q].1 true) j↔bg L j∨j=l[q].1:=yG (by rw [I.sz];exact K.Ug q hq)
theorem wH:WX ops (L.setIfInBounds l[q].1 true):=by
 intro j o hj hl e he hb
 rw [df K I hq R] at hl ⊢
 rcases hl with hl|rfl
 ·exact .inl (I.cl j o hj hl e he hb)
 ·have:=cR K hq
  rw [this] at hj
  cases hj
  exact .inl (R.pre e he hb)
theorem ij {q1:Nat} (h1:q1 < l.length) (hb:Bf ops l[q1].1 l[q].1) (hne:q1≠q):bg L l[q1].1:=by
 have:=hb _ (wH K I hq R) ((df K I hq R).2 (.inr rfl))
 rcases (df K I hq R).1 this with g|g
 ·exact g
 ·exact absurd (K.inj q1 q h1 hq g) hne
theorem UM (he:l[q].2=.dQ):k=ec l q:=by
 have h1:k≤ec l q:=by
  rcases Nat.lt_or_ge (ec l q) k with g|g
  ·exact absurd ((I.fk q hq he).2 g) R.un
  ·exact g
 rcases Nat.lt_or_ge k (ec l q) with g|g
 ·obtain ⟨q1,hq1,hlt,he1,e1⟩:=nc (by omega) g
  have:=(I.fk q1 hq1 he1).1 (ij K I hq R hq1 (NW K hq1 hq hlt he1 he) (by omega))
  omega
 ·omega
theorem UN (he:l[q].2≠.dQ):k≤ec l q:=by
 rcases Nat.lt_or_ge (ec l q) k with g|g
 ·obtain ⟨q2,hq2,_,he2,e2⟩:=nc (Nat.le_refl _) (Nat.lt_of_lt_of_le g I.Wp)
  have hlt:q < q2:=by
   rcases Nat.lt_trichotomy q q2 with g|g|g
   ·exact g
   ·subst g;exact absurd he2 he
   ·have:=xG g (by omega) he2;omega
  exact absurd (zP K hq hq2 hlt he he2 L I.cl ((I.fk q2 hq2 he2).2 (by omega))) R.un
 ·exact g
theorem Xt {m:Nat} (hb:l[q].2=.rd m):ec l q - m≤k:=by
 obtain ⟨_,g2⟩:=Ui K hq hb
 rcases Nat.lt_or_ge k (ec l q - m) with g|g
 ·obtain ⟨q1,hq1,hlt,he1,e1⟩:=nc (q':=q) (by omega) (show k < ec l q by omega)
  have:=(I.fk q1 hq1 he1).1 (ij K I hq R hq1 (g2 q1 hlt he1 (by omega)) (by omega))
  omega
 ·exact g
include hT
theorem wI {t:Nat} (ht:t < 256) (hl:t∈looks P G n names ops (bH ops l q hq)):VR φ (aq (hi t) (lo t) (T q).r) (a.tmps.getD t undef)∨
  ∃q2,∃hq2:q2 < l.length,q2 < q∧jh l L k q2 hq2∧l[q].2=.dQ∧(bH ops l q2 hq2).dst=some t∧aq (hi t) (lo t) (T q).r=aq (hi t) (lo t) (T (q2+1)).r:=by
 obtain ⟨ra,rb⟩:=Ef K hT (q:=q) (by omega) ht
 by_cases hw:∃q2,∃hq2:q2 < l.length,(bH ops l q2 hq2).dst=some t
 ·obtain ⟨q2,hq2,hd⟩:=hw
  have uniq:∀q1 (h1:q1 < l.length),(bH ops l q1 h1).dst=some t→q1=q2:=fun q1 h1 e1=>K.inj q1 q2 h1 hq2 (K.dst _ _ _ _ t (cR K h1) (cR K hq2) e1 hd)
  have hunl:¬ bg L l[q2].1→q2≥q→VR φ (aq (hi t) (lo t) (T q).r) (a.tmps.getD t undef):=by
   intro h1 h2
   rw [rb fun q1 h1 e1=>by have:=uniq q1 h1 e1;omega]
   exact I.old t ht fun q1 hq1 e1=>by
    obtain rfl:=uniq q1 hq1 e1;exact h1
  rcases K.look _ _ _ _ t (cR K hq) (cR K hq2) hl hd with g|g|g
  ·obtain rfl:=K.inj q q2 hq hq2 g
   exact .inl (hunl R.un (Nat.le_refl _))
  ·refine .inl (hunl (fun hl2=>R.un (iO g L I.cl hl2)) ?_)
   rcases K.ord q q2 hq hq2 g with g1|⟨g1,g2⟩
   ·omega
   ·obtain ⟨m,g2⟩:=g2
    have hne:q2≠q:=by rintro rfl;rw [g1] at g2;cases g2
    exact absurd (iO g L I.cl (ij K I hq R hq2 (iO (K.Uh q hq g1 t hl _ _ (cR K hq2) hd)) hne)) R.un
  ·by_cases hne:q2=q
   ·subst hne;exact .inl (hunl R.un (Nat.le_refl _))
   have hl2:=ij K I hq R hq2 (iO g) hne
   have hlt:q2 < q:=by
    rcases K.ord q2 q hq2 hq g with g1|⟨g1,m,g2⟩
    ·exact g1
    ·rcases (fU K hq2 g1).2.2 t hd q hq with g3|g3
     ·rw [g2] at g3;cases g3
     ·exact absurd hl g3
   have er:=ra q2 hq2 hd hlt
   by_cases hp:jh l L k q2 hq2
   ·refine .inr ⟨q2,hq2,hlt,hp,?_,hd,er⟩
    exact ((fU K hq2 hp.1).2.2 t hd q hq).resolve_right fun g=>g hl
   ·rw [er]
    exact .inl (I.new t ht q2 hq2 hd hl2 hp)
 ·rw [rb fun q1 h1 e1=>absurd ⟨q1,h1,e1⟩ hw]
  exact .inl (I.old t ht fun q1 h1 e1=>absurd ⟨q1,h1,e1⟩ hw)
end
end
section
variable {P:Program} {G:Gl} [NB G] {n:Nat} {names:List String} {ops:Array Oper} {p:Pg} {run:gg} {l:List (Nat×Bk)} {T:Nat→DS} {φ₀ φ φ' φ₁:aJ} {w₀ w w':World} {L:Array Bool} {a:Act} {k k':Nat} {pb:Nat→Nat} {r:A2} {cv:Value}
theorem pw {o:Option Tmp} {t:Nat} (h:o≠some t):(a.put o cv).tmps.getD t undef=a.tmps.getD t undef:=by
 cases o with
 | none=>rfl
 | some s=>
  have e:t≠s:=fun e=>h (by rw [e])
  show (a.tmps.setIfInBounds s cv).getD t undef=_
  simp only [Array.getD_eq_getD_getElem?,Array.getElem?_setIfInBounds,if_neg (Ne.symm e)]
theorem aK {t:Nat} (h:t < a.tmps.size):(a.put (some t) cv).tmps.getD t undef=cv:=by
 show (a.tmps.setIfInBounds t cv).getD t undef=cv
 simp [Array.getD,h]
theorem yh {o:Option Tmp}:(a.put o cv).tmps.size=a.tmps.size:=by cases o<;>simp [Act.put]
theorem pP {o:Option Tmp}:(a.put o cv).defers=a.defers:=by cases o<;>rfl
theorem qt {o:Option Tmp} {d:aF} {t:Nat} (hd:lL G n o=some d) (ho:o=some t):t < 256∧t < n:=by
 subst ho
 obtain ⟨h1,h2,_⟩:=sA hd
 exact ⟨h1,h2⟩
section
variable (K:Bv P G n names ops l) (hT:Trace P G n names ops p run l T) (I:Inv P G n names ops l T φ₀ w₀ L a w φ k pb) {q:Nat} (hq:q < l.length) (R:Wv ops l L q hq)
include K I R
theorem Inv.go {d:aF} (hd:lL G n (bH ops l q hq).dst=some d) (hnn:l[q].2≠.new) (hk:k≤k') (hkl:k'≤ec l l.length)
  (heffs:∀q2 (hq2:q2 < l.length),l[q2].2=.dQ→(bg (L.setIfInBounds l[q].1 true) l[q2].1↔ec l q2 < k'))
  (hr:HR φ₁ (bh l T k') w') (hstp:Step φ₀ (bh l T 0) w₀ φ₁ (bh l T k') w') (hle:φ.le φ₁)
  (hv:∀t,t < 256→(bH ops l q hq).dst=some t→VR φ₁ (aq (hi t) (lo t) (T (q+1)).r) cv)
  (hact:∀q2 (hq2:q2 < l.length),jh l L k q2 hq2→¬ k'≤ec l q2→∀t,t < 256→(bH ops l q2 hq2).dst=some t→VR φ₁ (aq (hi t) (lo t) (T (q2+1)).r) (a.tmps.getD t undef))
  (hfree:∀q2 (hq2:q2 < l.length),jh l L k q2 hq2→k'≤ec l q2→w'.heap[pb q2]?=w.heap[pb q2]?∧∀i pl,live (av i (bh l T k'))→φ₁ i=some pl→pl.bZ≠pb q2)
  (hsz:w.heap.size≤w'.heap.size):Inv P G n names ops l T φ₀ w₀ (L.setIfInBounds l[q].1 true) (a.put (bH ops l q hq).dst cv) w' φ₁ k' pb:=by
 have hln:∀{j:Nat},bg (L.setIfInBounds l[q].1 true) j↔bg L j∨j=l[q].1:=df K I hq R
 have hpend:∀q2 (hq2:q2 < l.length),jh l (L.setIfInBounds l[q].1 true) k' q2 hq2→q2≠q∧jh l L k q2 hq2∧k'≤ec l q2:=by
  rintro q2 hq2 ⟨h1,h2,h3⟩
  have hne:q2≠q:=by rintro rfl;exact hnn h1
  refine ⟨hne,⟨h1,?_,by omega⟩,h3⟩
  rcases hln.1 h2 with g|g
  ·exact g
  ·exact absurd (K.inj q2 q hq2 hq g) hne
 have huniq:∀q2 (hq2:q2 < l.length) t,(bH ops l q2 hq2).dst=some t→q2≠q→(bH ops l q hq).dst≠some t:=fun q2 hq2 t e1 hne e2=>
  hne (K.inj q2 q hq2 hq (K.dst _ _ _ _ t (cR K hq2) (cR K hq) e1 e2))
 refine ⟨by rw [Array.size_setIfInBounds];exact I.sz,wH K I hq R,hkl,heffs,hr,hstp,by rw [pP];exact I.dz,by rw [yh];exact I.size,I.fy.mono hle,?_,?_,?_,?_⟩
 ·intro q2 hq2 hp
  obtain ⟨hne,hp2,h3⟩:=hpend q2 hq2 hp
  obtain ⟨op,ob,room,val,e1,NS,b1,b2,b3,b4,b5⟩:=I.yH q2 hq2 hp2
  obtain ⟨f1,f2⟩:=hfree q2 hq2 hp2 h3
  exact ⟨op,ob,room,val,e1,NS.mono hle,b1,by omega,by rw [f1];exact b3,f2,fun t ht=>by rw [pw (huniq q2 hq2 t ht hne)];exact b5 t ht⟩
 ·intro q2 q3 hq2 hq3 hp2 hp3 hne
  exact I.NZ q2 q3 hq2 hq3 (hpend q2 hq2 hp2).2.1 (hpend q3 hq3 hp3).2.1 hne
 ·intro t ht hno
  have hne:(bH ops l q hq).dst≠some t:=fun e=>hno q hq e (hln.2 (.inr rfl))
  rw [pw hne]
  exact (I.old t ht fun q2 hq2 e hl=>hno q2 hq2 e (hln.2 (.inl hl))).mono hle
 ·intro t ht q2 hq2 e hl hnp
  by_cases hne:q2=q
  ·subst hne
   have hs:=(qt hd e).2
   rw [e,aK (Nat.lt_of_lt_of_le hs I.size)]
   exact hv t ht e
  ·rw [pw (huniq q2 hq2 t e hne)]
   have hl2:bg L l[q2].1:=by
    rcases hln.1 hl with g|g
    ·exact g
    ·exact absurd (K.inj q2 q hq2 hq g) hne
   by_cases hp:jh l L k q2 hq2
   ·exact hact q2 hq2 hp (fun g=>hnp ⟨hp.1,hl,g⟩) t ht e
   ·exact (I.new t ht q2 hq2 e hl2 hp).mono hle
theorem Inv.make {d:aF} {op:oB} {ob:Go.Obj} {room:Nat} {val:Nat→Value} (hop:cj P G names (bH ops l q hq)=some (.op op)) (hd:lL G n (bH ops l q hq).dst=some d) (hb:l[q].2=.new) (NS:uo φ (T q).r op ob room val) :
  Inv P G n names ops l T φ₀ w₀ (L.setIfInBounds l[q].1 true) (a.put (bH ops l q hq).dst (val w.heap.size)) {w with heap:=w.heap.push ob} φ k (fun x=>if x=q then w.heap.size else pb x):=by
 have hln:∀{j:Nat},bg (L.setIfInBounds l[q].1 true) j↔bg L j∨j=l[q].1:=df K I hq R
 have hpend:∀q2 (hq2:q2 < l.length),jh l (L.setIfInBounds l[q].1 true) k q2 hq2→q2≠q→jh l L k q2 hq2:=by
  rintro q2 hq2 ⟨h1,h2,h3⟩ hne
  refine ⟨h1,?_,h3⟩
  rcases hln.1 h2 with g|g
  ·exact g
  ·exact absurd (K.inj q2 q hq2 hq g) hne
 have huniq:∀q2 (hq2:q2 < l.length) t,(bH ops l q2 hq2).dst=some t→q2≠q→(bH ops l q hq).dst≠some t:=fun q2 hq2 t e1 hne e2=>
  hne (K.inj q2 q hq2 hq (K.dst _ _ _ _ t (cR K hq2) (cR K hq) e1 e2))
 have hsz:w.heap.size≤(w.heap.push ob).size:=by simp
 have hkp:∀b,b < w.heap.size→(w.heap.push ob)[b]?=w.heap[b]?:=fun b hb=>by
  rw [Array.getElem?_push,if_neg (by omega)]
 have hpq:∀q2 (hq2:q2 < l.length),jh l L k q2 hq2→pb q2 < w.heap.size:=fun q2 hq2 hp=>by
  obtain ⟨_,_,_,_,_,_,_,b2,_⟩:=I.yH q2 hq2 hp;exact b2
 refine ⟨by rw [Array.size_setIfInBounds];exact I.sz,wH K I hq R,I.Wp,fun q2 hq2 he=>?_,I.hr.ext hsz hkp,I.Bw.trans (.ext hsz hkp rfl rfl rfl),by rw [pP];exact I.dz,by rw [yh];exact I.size,I.fy,?_,?_,?_,?_⟩
 ·rw [hln,←I.fk q2 hq2 he]
  refine ⟨fun h=>h.resolve_right fun g=>?_,.inl⟩
  have:=K.inj q2 q hq2 hq g
  subst this
  rw [he] at hb;cases hb
 ·intro q2 hq2 hp
  by_cases hne:q2=q
  ·subst hne
   simp only [if_pos]
   refine ⟨op,ob,room,val,hop,NS,I.Bw.keeps.size,by simp,by simp,fun i pl _ hpl=>?_,fun t ht=>?_⟩
   ·have:=I.hr.bound i pl hpl;omega
   ·rw [ht,aK (Nat.lt_of_lt_of_le (qt hd ht).2 I.size)]
  ·obtain ⟨op',ob',room',val',e1,NS',b1,b2,b3,b4,b5⟩:=I.yH q2 hq2 (hpend q2 hq2 hp hne)
   simp only [if_neg hne]
   exact ⟨op',ob',room',val',e1,NS',b1,by simp;omega,by rw [hkp _ b2];exact b3,b4,fun t ht=>by rw [pw (huniq q2 hq2 t ht hne)];exact b5 t ht⟩
 ·intro q2 q3 hq2 hq3 hp2 hp3 hne
  by_cases h2:q2=q
  ·by_cases h3:q3=q
   ·omega
   ·have:=hpq q3 hq3 (hpend q3 hq3 hp3 h3)
    simp only [if_pos h2,if_neg h3];omega
  ·have g2:=hpq q2 hq2 (hpend q2 hq2 hp2 h2)
   by_cases h3:q3=q
   ·simp only [if_neg h2,if_pos h3];omega
   ·simp only [if_neg h2,if_neg h3]
    exact I.NZ q2 q3 hq2 hq3 (hpend q2 hq2 hp2 h2) (hpend q3 hq3 hp3 h3) hne
 ·intro t ht hno
  have hne:(bH ops l q hq).dst≠some t:=fun e=>hno q hq e (hln.2 (.inr rfl))
  rw [pw hne]
  exact I.old t ht fun q2 hq2 e hl=>hno q2 hq2 e (hln.2 (.inl hl))
 ·intro t ht q2 hq2 e hl hnp
  have hne:q2≠q:=by
   rintro rfl
   exact hnp ⟨hb,hl,UN K I hq R (by rw [hb];simp)⟩
  rw [pw (huniq q2 hq2 t e hne)]
  have hl2:bg L l[q2].1:=by
   rcases hln.1 hl with g|g
   ·exact g
   ·exact absurd (K.inj q2 q hq2 hq g) hne
  exact I.new t ht q2 hq2 e hl2 fun hp=>hnp ⟨hp.1,hl,hp.2.2⟩
end
end
section
variable {P:Program} {G:Gl} [NB G] {n:Nat} {names:List String} {ops:Array Oper} {p:Pg} {run:gg} {l:List (Nat×Bk)} {T:Nat→DS} {φ₀ φ φ' φ₁:aJ} {w₀ w w':World} {L:Array Bool} {a:Act} {k k':Nat} {pb:Nat→Nat} {r:A2} {h:Hp} {cv:Value}
theorem Ar {v:AV}:∀{x z:RT},x.aO z→x=.ok v h→z=.ok v h
 | _,_,.ok v h,e=>e
 | _,_,.err n,e=>by cases e
 | _,_,.ch n kk c y hc hl,e=>by cases e
theorem Au {v:AV} {x:RT} (e:x=.ok v h):x.Safe:=fun n hn=>by
 have:=Ar hn e
 cases this
theorem yi {v:AV} {x:RT} (e:x=.ok v h) {v':AV} {h':Hp} (hl:x.aO (.ok v' h')):v'=v∧h'=h:=by
 have:=Ar hl e
 cases this;exact ⟨rfl,rfl⟩
theorem px {o:Oper} {wnt:Bool} (D:Ki ops o r wnt) {d:aF} {x:AI} (hd:lL G n o.dst=some d) (hx:cj P G names o=some x)
  (hl:∀t,t < 256→t∈looks P G n names ops o→VR φ (aq (hi t) (lo t) r) (a.tmps.getD t undef)):Region.wanted o (yielded ops a.tmps)=wnt∧∀t,t∈x.aE→t∈looks P G n names ops o:=by
 unfold Ki at D
 unfold looks oH at hl ⊢
 simp only [hd,hx] at hl ⊢
 cases hg:o.guard with
 | none=>
  rw [hg] at D
  have D:wnt=true:=D
  exact ⟨by simp [Region.wanted,hg,D],fun t ht=>ht⟩
 | some g=>
  obtain ⟨j,w⟩:=g
  rw [hg] at D
  obtain ⟨t,b,h1,h2,h3,h4⟩:=D
  have h2':=Il (G:=G) h2
  simp only [hg,h1,h2'] at hl ⊢
  refine ⟨?_,fun t ht=>List.mem_cons_of_mem _ ht⟩
  have hm:t∈(GI.g (hi t) (lo t) w d x).aE:=by
   show t∈(16 * (hi t).nat+(lo t).nat)::x.aE
   rw [FG h2];simp
  have hv:=hl t h2 hm
  rw [h4]
  rcases vK h3 with h5|⟨h5,rfl⟩
  ·rw [h5] at hv
   have hy:=lM h1 hv.cM
   simp only [Region.wanted,hg,hy]
   cases b<;>cases w<;>rfl
  ·rw [h5] at hv
   have hy:=iD (a:=a) h1 (vL hv)
   simp only [Region.wanted,hg,hy]
   cases w<;>rfl
section
variable (K:Bv P G n names ops l) (hT:Trace P G n names ops p run l T) (I:Inv P G n names ops l T φ₀ w₀ L a w φ k pb) {q:Nat} (hq:q < l.length) (R:Wv ops l L q hq)
include K hT I R
theorem FH (M:mH P names p.ms) (CO:du P G p run) (h0:(T 0).hs=[]) (hg0:(T 0).g=(T 0).h) {Kt:Act→World→Prop} {Q:Exit→Act→World→Prop}
  (hn:∀cv w' φ₁ k' pb',Inv P G n names ops l T φ₀ w₀ (L.setIfInBounds l[q].1 true) (a.put (bH ops l q hq).dst cv) w' φ₁ k' pb'→Kt (a.put (bH ops l q hq).dst cv) w'):wpOp P ops Q l[q].1 Kt a w:=by
 unfold wpOp
 simp only [cR K hq]
 obtain ⟨d,x,wnt,v,D⟩:=hT q hq
 have hstp:=D.Bw.2
 have hreg:∀t,t < 256→(bH ops l q hq).dst=some t→aq (hi t) (lo t) (T (q+1)).r=v:=fun t _ e=>by rw [D.Bw.1,oY D.dst e]
 have hregR:∀t,t < 256→(bH ops l q hq).dst=some t→∀r',aq (hi t) (lo t) (dG d v r')=v:=fun t _ e r'=>oY D.dst e
 cases hb:l[q].2 with
 | new=>
  obtain ⟨hg,⟨y,hy,hny⟩,_⟩:=fU K hq hb
  rw [hb] at hstp
  have hw1:wnt=true:=by have:=D.want;simpa [Ki,hg] using this
  subst hw1
  obtain ⟨op,rfl,hrun,_,_⟩:=hstp
  have hlk:∀t,t < 256→t∈looks P G n names ops (bH ops l q hq)→VR φ (aq (hi t) (lo t) (T q).r) (a.tmps.getD t undef):=fun t ht hl=>
   (wI K hT I hq R ht hl).resolve_right fun ⟨_,_,_,_,g,_⟩=>by rw [hb] at g;cases g
  obtain ⟨_,hsub⟩:=px (a:=a) D.want D.dst D.op hlk
  have hag:eo (T q).r (bD (T q).r (looks P G n names ops (bH ops l q hq))) (AI.op op).aE:=fun x y m=>kp x y (hsub _ m)
  have S:St n G φ (bD (T q).r (looks P G n names ops (bH ops l q hq))) (bh l T k) a w:=St.mk' I.hr (fun t ht=>by
   rw [fZ ht]
   split
   ·rename_i hm;exact hlk t ht hm
   ·exact .undef _) I.dz I.size I.fy
  have hy2:y=.op op:=Option.some.inj (hy.symm.trans D.op)
  subst hy2
  obtain ⟨ob,room,val,NS1,NR⟩:=Eg (P:=P) (ρ:=a.eval) hy hny (fun _ _ hx=>S.Rr hx) (fun _=>rfl) (show op.run (bD (T q).r (looks P G n names ops (bH ops l q hq))) (T q).h=.ok v (T (q+1)).h by rw [←sY hag];exact hrun)
  have NS:uo φ (T q).r op ob room val:=⟨fun h v h' e=>NS1.am h v h' (by rw [←sY hag];exact e)⟩
  have hw:Region.wanted (bH ops l q hq) (yielded ops a.tmps)=true:=by simp [Region.wanted,hg]
  rw [if_pos hw]
  refine .inl ?_
  unfold Oper.wp
  rw [NR w]
  exact hn _ _ _ _ _ (Inv.make K I hq R hy D.dst hb NS)
 | rd m=>
  rw [hb] at hstp
  have hk1:=UN K I hq R (by rw [hb];simp)
  have hk2:=Xt K I hq R hb
  have hlk:∀t,t < 256→t∈looks P G n names ops (bH ops l q hq)→VR φ (aq (hi t) (lo t) (T q).r) (a.tmps.getD t undef):=fun t ht hl=>
   (wI K hT I hq R ht hl).resolve_right fun ⟨_,_,_,_,g,_⟩=>by rw [hb] at g;cases g
  obtain ⟨hwt,hsub⟩:=px (a:=a) D.want D.dst D.op hlk
  have heffs:∀q2 (hq2:q2 < l.length),l[q2].2=.dQ→(bg (L.setIfInBounds l[q].1 true) l[q2].1↔ec l q2 < k):=fun q2 hq2 he=>by
   rw [df K I hq R,←I.fk q2 hq2 he]
   refine ⟨fun h=>h.resolve_right fun g=>?_,.inl⟩
   have:=K.inj q2 q hq2 hq g
   subst this
   rw [he] at hb;cases hb
  have fin:∀cv w' φ₁,HR φ₁ (bh l T k) w'→Step φ (bh l T k) w φ₁ (bh l T k) w'→(∀t,t < 256→(bH ops l q hq).dst=some t→VR φ₁ v cv)→Kt (a.put (bH ops l q hq).dst cv) w':=fun cv w' φ₁ h1 h2 h3=>
   hn cv w' φ₁ k pb (Inv.go K I hq R D.dst (by rw [hb];simp) (Nat.le_refl _) I.Wp heffs h1 (I.Bw.trans h2) h2.le (fun t ht e=>by rw [hreg t ht e];exact h3 t ht e)
    (fun q2 hq2 hp hno=>absurd hp.2.2 hno) (fun q2 hq2 hp _=>by
     obtain ⟨_,_,_,_,_,_,_,b2,_,b4,_⟩:=I.yH q2 hq2 hp
     refine ⟨h2.keeps.rest _ b2 b4,fun i pl hl hpl=>?_⟩
     rcases h2.new i pl hl hpl with ⟨g1,g2⟩|g|⟨j,s,g1,g2,g3⟩
     ·exact b4 i pl g1 g2
     ·omega
     ·rw [←g3];exact b4 j s g1 g2) h2.keeps.size)
  cases wnt with
  | false=>
   rw [if_neg (by rw [hwt];simp)]
   refine fin undef w φ I.hr (.refl _ _ _) fun t _ _=>?_
   rw [hstp.1];exact qe
  | true=>
   rw [if_pos hwt]
   obtain ⟨op,rfl,⟨h1,hrun⟩,hre,_⟩:=hstp
   have hrunk:∃h',op.run (T q).r (bh l T k)=.ok v h':=by
    rcases Nat.lt_or_ge k (ec l q) with g|g
    ·obtain ⟨hj,g1,h',g2⟩:=vj hre (ec l q - 1 - k) (by omega)
     rw [Uj hT h0 (by omega) (by omega),show ec l q - 1 - (ec l q - 1 - k)=k by omega] at g1
     cases g1
     exact ⟨h',g2⟩
    ·have:k=ec l q:=by omega
     rw [this,Jd hT h0 (by omega)];exact ⟨h1,hrun⟩
   obtain ⟨h2,hrun2⟩:=hrunk
   have hfl:oW (.op op)=true:=by
    have:=K.kind q hq
    rw [hb] at this
    have e:cj P G names (ops.getD l[q].1 default)=some (.op op):=D.op
    simp only [te,e] at this
    exact this
   have:=xB hfl hrun2
   subst this
   have hag:eo (T q).r (bD (T q).r (looks P G n names ops (bH ops l q hq))) (AI.op op).aE:=fun x y m=>kp x y (hsub _ m)
   have hres:(AI.op op).res p run (bD (T q).r (looks P G n names ops (bH ops l q hq))) (bh l T k)=.ok v (bh l T k):=by
    rw [←vd hag]
    show (op.run _ _).gh=_
    rw [hrun2];rfl
   have S:St n G φ (bD (T q).r (looks P G n names ops (bH ops l q hq))) (bh l T k) a w:=St.mk' I.hr (fun t ht=>by
    rw [fZ ht]
    split
    ·rename_i hm;exact hlk t ht hm
    ·exact .undef _) I.dz I.size I.fy
   refine .inl (qd M CO S D.op D.dst (Au hres) fun v' h' φ₁ cv w' hl S' T'=>?_)
   obtain ⟨rfl,rfl⟩:=yi hres hl
   exact fin cv w' φ₁ S'.hr T' fun t ht e=>by
    have:=S'.Nw t ht
    rw [hregR t ht e,e,aK (Nat.lt_of_lt_of_le (qt D.dst e).2 I.size)] at this
    exact this
 | dQ=>
  rw [hb] at hstp
  have hk:=UM K I hq R hb
  have hall:∀q2 (hq2:q2 < l.length),q2 < q→l[q2].2=.new→ec l q2=k→bg L l[q2].1:=fun q2 hq2 hlt hnw _=>
   ij K I hq R hq2 (zP K hq2 hq hlt (by rw [hnw];simp) hb) (by omega)
  obtain ⟨φ',a1,a2,a3,a4,a5⟩:=xK K hT h0 hg0 I (q₁:=q) (by omega) hk.symm hall
  have hlk:∀t,t < 256→t∈looks P G n names ops (bH ops l q hq)→VR φ' (aq (hi t) (lo t) (T q).r) (a.tmps.getD t undef):=fun t ht hl=>by
   rcases wI K hT I hq R ht hl with g|⟨q2,hq2,hlt,hp,_,hd,er⟩
   ·exact g.mono a1
   ·rw [er]
    have h1:=gq (l:=l) (show q2≤q by omega) (by omega)
    have h2:=hp.2.2
    exact a4 q2 hq2 hlt hp.1 (by omega) t ht hd
  obtain ⟨hwt,hsub⟩:=px (a:=a) D.want D.dst D.op hlk
  have hec:ec l (q+1)=k+1:=by rw [lV hq hb,hk]
  have hbh:bh l T (k+1)=(T (q+1)).h:=by
   rw [←hec,Jd hT h0 (by omega)]
   cases wnt with
   | true=>exact hstp.2.1
   | false=>rw [hstp.2.1,hstp.2.2.1]
  have heffs:∀q2 (hq2:q2 < l.length),l[q2].2=.dQ→(bg (L.setIfInBounds l[q].1 true) l[q2].1↔ec l q2 < k+1):=fun q2 hq2 he=>by
   rw [df K I hq R,I.fk q2 hq2 he]
   constructor
   ·rintro (g|g)
    ·omega
    ·have:=K.inj q2 q hq2 hq g
     subst this;omega
   ·intro g
    rcases Nat.lt_trichotomy q2 q with h|h|h
    ·have:=xG h (by omega) he;left;omega
    ·subst h;exact .inr rfl
    ·have:=xG h (by omega) hb;omega
  have fin:∀cv w' φ₁,HR φ₁ (T (q+1)).h w'→Step φ' (T q).h w φ₁ (T (q+1)).h w'→(∀t,t < 256→(bH ops l q hq).dst=some t→VR φ₁ v cv)→Kt (a.put (bH ops l q hq).dst cv) w':=fun cv w' φ₁ h1 h2 h3=>by
   have hec2:=gq (l:=l) (show q+1≤l.length by omega) (Nat.le_refl _)
   refine hn cv w' φ₁ (k+1) pb (Inv.go K I hq R D.dst (by rw [hb];simp) (by omega) (by omega) heffs (by rw [hbh];exact h1) (by rw [hbh];exact a3.trans h2) (aJ.le_trans a1 h2.le) (fun t ht e=>by rw [hreg t ht e];exact h3 t ht e)
    (fun q2 hq2 hp hno t ht e=>?_) (fun q2 hq2 hp hge=>?_) h2.keeps.size)
   ·have e2:ec l q2=k:=by have:=hp.2.2;omega
    have hlt:q2 < q:=by
     rcases Nat.lt_or_ge q2 q with g|g
     ·exact g
     ·have h5:q2≠q:=by rintro rfl;have:=hp.1;rw [hb] at this;cases this
      have:=xG (l:=l) (show q < q2 by omega) (by omega) hb
      omega
    exact (a4 q2 hq2 hlt hp.1 e2 t ht e).mono h2.le
   ·have hgt:q≤q2:=by
     rcases Nat.lt_or_ge q2 q with g|g
     ·have:=gq (l:=l) (show q2≤q by omega) (by omega);omega
     ·exact g
    have b4:=a5 q2 hq2 hp hgt
    obtain ⟨_,_,_,_,_,_,_,b2,_⟩:=I.yH q2 hq2 hp
    refine ⟨h2.keeps.rest _ b2 b4,fun i pl hl hpl=>?_⟩
    rw [hbh] at hl
    rcases h2.new i pl hl hpl with ⟨g1,g2⟩|g|⟨j,s,g1,g2,g3⟩
    ·exact b4 i pl g1 g2
    ·omega
    ·rw [←g3];exact b4 j s g1 g2
  cases wnt with
  | false=>
   rw [if_neg (by rw [hwt];simp)]
   have hh:(T (q+1)).h=(T q).h:=hstp.2.1
   refine fin undef w φ' (by rw [hh];exact a2) (by rw [hh];exact .refl _ _ _) fun t _ _=>?_
   rw [hstp.1];exact qe
  | true=>
   rw [if_pos hwt]
   have hag:eo (T q).r (bD (T q).r (looks P G n names ops (bH ops l q hq))) x.aE:=fun c y m=>kp c y (hsub _ m)
   have hres:x.res p run (bD (T q).r (looks P G n names ops (bH ops l q hq))) (T q).h=.ok v (T (q+1)).h:=by
    rw [←vd hag];exact hstp.1
   have S:St n G φ' (bD (T q).r (looks P G n names ops (bH ops l q hq))) (T q).h a w:=St.mk' a2 (fun t ht=>by
    rw [fZ ht]
    split
    ·rename_i hm;exact hlk t ht hm
    ·exact .undef _) I.dz I.size (I.fy.mono a1)
   refine .inl (qd M CO S D.op D.dst (Au hres) fun v' h' φ₁ cv w' hl S' T'=>?_)
   obtain ⟨rfl,rfl⟩:=yi hres hl
   exact fin cv w' φ₁ S'.hr T' fun t ht e=>by
    have:=S'.Nw t ht
    rw [hregR t ht e,e,aK (Nat.lt_of_lt_of_le (qt D.dst e).2 I.size)] at this
    exact this
end
end
section
variable {P:Program} {G:Gl} [NB G] {n:Nat} {names:List String} {ops:Array Oper} {p:Pg} {run:gg} {l:List (Nat×Bk)} {T:Nat→DS} {φ₀ φ φ' φ₁:aJ} {w₀ w w':World} {L:Array Bool} {a:Act} {k k':Nat} {pb:Nat→Nat} {r:A2} {h:Hp} {cv:Value}
theorem py (hs:L.size=ops.size) {j:Nat}:j∈Region.ready .any ops L↔¬ bg L j∧∃o,ops[j]?=some o∧∀e,e∈o.after→Region.binds .any e=true→bg L e.on:=by
 rw [mem_ready]
 constructor
 ·rintro ⟨h1,o,h2,h3⟩
  refine ⟨fun g=>?_,o,h2,h3⟩
  have hj:=BR hs g
  unfold bg at g
  simp only [Array.getD_eq_getD_getElem?] at g h1
  rw [Array.getElem?_eq_getElem (by omega)] at g h1
  rw [Option.getD_some] at g h1
  rw [g] at h1;cases h1
 ·rintro ⟨h1,o,h2,h3⟩
  refine ⟨?_,o,h2,h3⟩
  have hj:j < L.size:=by rw [hs];exact (Array.getElem?_eq_some_iff.1 h2).1
  unfold bg at h1
  simp only [Array.getD_eq_getD_getElem?] at h1 ⊢
  rw [Array.getElem?_eq_getElem hj] at h1 ⊢
  rw [Option.getD_some] at h1 ⊢
  simpa using h1
theorem zi (K:Bv P G n names ops l) (hs:L.size=ops.size) (hr:Region.ready .any ops L=[]):∀j,j < ops.size→bg L j:=by
 have go:∀m j,(mX ops.toList).getD j 0=m→j < ops.size→bg L j:=by
  intro m
  induction m using Nat.strongRecOn with
  | _ m ih=>
   intro j hm hj
   apply Classical.byContradiction
   intro hn
   have:j∈Region.ready .any ops L:=(py hs).2 ⟨hn,ops[j],by simp [hj],fun e he hb=>by
    have:=K.lt j ops[j] (by simp [hj]) e he hb
    exact ih _ (by omega) e.on rfl this.1⟩
   rw [hr] at this;cases this
 exact fun j hj=>go _ j rfl hj
section
variable (K:Bv P G n names ops l) (hT:Trace P G n names ops p run l T) (h0:(T 0).hs=[]) (hg0:(T 0).g=(T 0).h)
include K hT h0 hg0
theorem Av (I:Inv P G n names ops l T φ₀ w₀ L a w φ k pb) (hall:∀j,j < ops.size→bg L j):∃φ',St n G φ' (T l.length).r (T l.length).h a w∧Step φ₀ (bh l T 0) w₀ φ' (T l.length).h w:=by
 have hk:ec l l.length=k:=by
  rcases Nat.lt_or_ge k (ec l l.length) with g|g
  ·obtain ⟨q,hq,_,he,e⟩:=nc (Nat.le_refl _) g
   have:=(I.fk q hq he).1 (hall _ (K.Ug q hq))
   omega
  ·have:=I.Wp;omega
 obtain ⟨φ',a1,a2,a3,a4,_⟩:=xK K hT h0 hg0 I (q₁:=l.length) (Nat.le_refl _) hk fun q hq _ _ _=>hall _ (K.Ug q hq)
 refine ⟨φ',St.mk' a2 (fun t ht=>?_) I.dz I.size (I.fy.mono a1),a3⟩
 obtain ⟨ra,rb⟩:=Ef K hT (q:=l.length) (Nat.le_refl _) ht
 by_cases hw:∃q2,∃hq2:q2 < l.length,(bH ops l q2 hq2).dst=some t
 ·obtain ⟨q2,hq2,hd⟩:=hw
  rw [ra q2 hq2 hd hq2]
  have hl2:=hall _ (K.Ug q2 hq2)
  by_cases hp:jh l L k q2 hq2
  ·have h1:=gq (l:=l) (show q2≤l.length by omega) (Nat.le_refl _)
   have h2:=hp.2.2
   exact a4 q2 hq2 hq2 hp.1 (by omega) t ht hd
  ·exact (I.new t ht q2 hq2 hd hl2 hp).mono a1
 ·rw [rb fun q1 h1 e1=>absurd ⟨q1,h1,e1⟩ hw]
  exact (I.old t ht fun q1 h1 e1=>absurd ⟨q1,h1,e1⟩ hw).mono a1
theorem Aw (M:mH P names p.ms) (CO:du P G p run) {Q:Exit→Act→World→Prop} (hQ:∀φ' a w,St n G φ' (T l.length).r (T l.length).h a w→Step φ₀ (bh l T 0) w₀ φ' (T l.length).h w→Q .normal a w) :
  ∀(fuel:Nat) (L:Array Bool) (a:Act) (w:World) (φ:aJ) (k:Nat) (pb:Nat→Nat) (U:List Nat),Inv P G n names ops l T φ₀ w₀ L a w φ k pb→U.length≤fuel→(∀j,j < ops.size→¬ bg L j→j∈U)→
   wpAny P .any ops Q fuel L a w
 | 0,L,a,w,φ,k,pb,U,I,hl,hU=>by
  have hall:∀j,j < ops.size→bg L j:=fun j hj=>Classical.byContradiction fun hn=>by
   have:=hU j hj hn
   have e:U=[]:=List.eq_nil_of_length_eq_zero (by omega)
   rw [e] at this;cases this
  obtain ⟨φ',S,T'⟩:=Av K hT h0 hg0 I hall
  refine ⟨List.eq_nil_iff_forall_not_mem.2 fun j hj=>?_,hQ φ' a w S T'⟩
  obtain ⟨h1,o,h2,_⟩:=(py I.sz).1 hj
  exact h1 (hall j (Array.getElem?_eq_some_iff.1 h2).1)
 | fuel+1,L,a,w,φ,k,pb,U,I,hl,hU=>by
  refine ⟨fun hr=>?_,fun i hi=>?_⟩
  ·obtain ⟨φ',S,T'⟩:=Av K hT h0 hg0 I (zi K I.sz hr)
   exact hQ φ' a w S T'
  ·obtain ⟨h1,o,h2,h3⟩:=(py I.sz).1 hi
   have hi':i < ops.size:=(Array.getElem?_eq_some_iff.1 h2).1
   obtain ⟨q,hq,rfl⟩:=K.cover i hi'
   have R:Wv ops l L q hq:=⟨h1,by
    have:=cR K hq
    rw [this] at h2
    cases h2;exact h3⟩
   refine FH K hT I hq R M CO h0 hg0 fun cv w' φ₁ k' pb' I'=>?_
   have hm:=hU _ hi' h1
   refine Aw M CO hQ fuel _ _ _ _ _ _ (U.erase l[q].1) I' (by rw [List.length_erase_of_mem hm];omega) fun j hj hn=>?_
   have hn':=fun g=>hn ((df K I hq R).2 g)
   exact (List.mem_erase_of_ne fun e=>hn' (.inr e)).2 (hU j hj fun g=>hn' (.inl g))
end
theorem eL (E:Env P G names p):vT P G names p:=by
 intro n run CO ops l kf r h φ a w Q hd S hs hQ
 have K:=NT hd
 obtain ⟨T,t1,t2,t3⟩:=xF l ⟨r,h,h,[]⟩ (fun q hq=>by
  cases hb:l[q].2 with
  | dQ=>exact .inl rfl
  | rd m=>
   have:=K.kind q hq
   rw [hb] at this
   simp only [te] at this
   right
   split at this
   ·rename_i x hx
    refine ⟨?_,?_⟩
    ·cases x with
     | op o=>exact o
     | _=>cases this
    ·cases x with
     | op o=>exact hx
     | _=>cases this
   ·cases this
  | new=>
   obtain ⟨_,⟨x,hx,hn⟩,_⟩:=fU K hq hb
   right
   cases x with
   | op o=>exact ⟨o,hx⟩
   | _=>cases hn) hs
 have hT:Trace P G n names ops p run l T:=t2
 have h0:(T 0).hs=[]:=by rw [t1]
 have hg0:(T 0).g=(T 0).h:=by rw [t1]
 have hb0:bh l T 0=h:=by
  have:=Jd hT h0 (q:=0) (by omega)
  rw [zO] at this
  rw [this,t1]
 have hnl:∀j,¬ bg (Array.replicate ops.size false) j:=fun j hj=>by
  unfold bg at hj
  simp only [Array.getD_eq_getD_getElem?,Array.getElem?_replicate] at hj
  split at hj<;>cases hj
 have S1:Step φ h w φ h {w with drawn:=w.drawn+1}:=Step.heap rfl rfl rfl rfl
 have I:Inv P G n names ops l T φ w (Array.replicate ops.size false) a {w with drawn:=w.drawn+1} φ 0 (fun _=>0):=by
  refine ⟨by simp,fun j o _ hl=>absurd hl (hnl j),by omega,fun q hq _=>⟨fun hl=>absurd hl (hnl _),fun g=>by omega⟩,?_,?_,S.dz,S.size,S.fy,fun q hq hp=>absurd hp.2.1 (hnl _),fun q q' hq hq' hp=>absurd hp.2.1 (hnl _),fun t ht _=>?_,fun t ht q hq _ hl=>absurd hl (hnl _)⟩
  ·rw [hb0];exact S.hr.ext (Nat.le_refl _) fun _ _=>rfl
  ·rw [hb0];exact S1
  ·rw [t1];exact S.Nw t ht
 refine (Aw K hT h0 hg0 E.ms CO (fun φ' a' w' S' T'=>?_) ops.size _ _ _ _ _ _ (List.range ops.size) I (by simp) fun j hj _=>List.mem_range.2 hj)
 rw [hb0] at T'
 exact hQ _ _ φ' _ _ t3 S' T'
theorem Jw (E:Env P G names p) (m f:Nat) (args:List AV) (vals:List Value) (hg:mF G φ) (H:HR φ h w) (hv:bX φ args vals) (hs:(aj p (exec p m) f args h).Safe) (hb:∀k,cH f p.fs≠.ext k) :
  Calls P f vals.toArray w (eA φ h w (aj p (exec p m) f args h)):=IB E (eL E) m f args vals hg H hv hs hb
end
section
variable {P:Program} {G:Gl} {names:List String}
def FI (P:Program) (G:Gl) (names:List String) (f:Nat) (x:AF):Prop:=match x with
 | .none=>True
 | .mk body res=>mN P G names f body res
 | .oO k body res=>mN P G names f body res∧fB P G k f
 | .Dy body res=>mN P G names f body res
 | .ext k=>jJ P G k f
theorem JP {n:Nat} (h:15≤n):bN n=.hf:=by
 obtain ⟨m,rfl⟩:∃m,n=m+15:=⟨n - 15,by omega⟩
 rfl
theorem F1.get_nil (d:H):F1.get d .nil=.none:=by cases d<;>rfl
theorem F2.get_nil (d:H):F2.get d .nil=.nil:=by cases d<;>rfl
def Row (P:Program) (G:Gl) (names:List String) (b:Nat) (x:F1):Prop:=∀c:H,FI P G names (16 * b+c.nat) (F1.get c x)
def zj (P:Program) (G:Gl) (names:List String) (a:Nat) (x:F2):Prop:=∀b:H,Row P G names (16 * a+b.nat) (F2.get b x)
theorem Ax (b:Nat):Row P G names b .nil:=fun c=>by rw [F1.get_nil];trivial
theorem FJ (a:Nat):zj P G names a .nil:=fun b=>by rw [F2.get_nil];exact Ax _
theorem FK {fs:F3} (h:∀a:H,zj P G names a.nat (F3.get a fs)) (ht:F3.get .hf fs=.nil) (f:Nat):FI P G names f (cH f fs):=by
 show FI P G names f (F1.get (bN (f % 16)) (F2.get (bN (f / 16 % 16)) (F3.get (bN (f / 256)) fs)))
 rcases Nat.lt_or_ge (f / 256) 16 with g|g
 ·have:=h (bN (f / 256)) (bN (f / 16 % 16)) (bN (f % 16))
  rw [eF g,eF (by omega),eF (by omega)] at this
  rw [show 16 * (16 * (f / 256)+f / 16 % 16)+f % 16=f by omega] at this
  exact this
 ·rw [JP (by omega:15≤f / 256),ht,F2.get_nil,F1.get_nil];trivial
theorem Ps {p:Pg} (mixed:P.follows .mixedOrders=true) (ms:mH P names p.ms) (h:∀a:H,zj P G names a.nat (F3.get a p.fs)) (ht:F3.get .hf p.fs=.nil):Env P G names p:=
 ⟨mixed,ms,fun f=>FK h ht f⟩
end
section
variable {P:Program} {G:Gl} {names:List String}
def Xu (P:Program) (names:List String) (t k f:Nat):Bool:=match names[k]?,P.info? t,P.underlying t with
 | some name,some info,some (.pointer _)=>match info.methods.find? (·.name == name) with
  | some m=>m.path.isEmpty&&(match m.func with|some (g,true)=>g == f|_=>false)
  | none=>false
 | _,_,_=>false
def Xv (P:Program) (names:List String):List MR→Bool
 | []=>true
 | .mk t k f::l=>Xu P names t k f&&Xv P names l
theorem Pt {t k f:Nat} (h:Xu P names t k f=true):∃name info m e,names[k]?=some name∧P.info? t=some info∧info.methods.find? (·.name == name)=some m∧m.path=#[]∧m.func=some (f,true)∧P.underlying t=some (.pointer e):=by
 unfold Xu at h
 split at h
 ·rename_i name info e h1 h2 h3
  split at h
  ·rename_i m h4
   simp only [Bool.and_eq_true] at h
   obtain ⟨h5,h6⟩:=h
   split at h6
   ·rename_i g h7
    refine ⟨name,info,m,e,h1,h2,h4,by simpa using h5,?_,h3⟩
    rw [h7,(by simpa using h6:g=f)]
   ·cases h6
  ·cases h
 ·cases h
theorem FL:∀{l:List MR},Xv P names l=true→mH P names l
 | [],_=>fun t k f hm=>by cases hm
 | .mk t k f::l,h=>by
  simp only [Xv,Bool.and_eq_true] at h
  intro t' k' f' hm
  rcases List.mem_cons.1 hm with e|hm
  ·cases e;exact Pt h.1
  ·exact FL h.2 t' k' f' hm
end
end Go.Am
