/- The abstract machine is sound: what its run says holds of the Go program. Conditions: the table of functions is the program's (Env). -/
import Derived.Test.YtphjcbegmaekbaaGreatDoorS1
set_option linter.all false
namespace Go.Am
section
variable {P:Program} {φ φ':aJ} {h h':Hp} {w w':World} {v:AV} {n:Nat} {G:Gl} {names:List String}
theorem HR.aqh (H:HR φ h w) {o:Obj} {b room:Nat} {i n':P4} (hi:aq i h=.none) (ho:o≠.none) (hb:b < w.heap.size) (hfree:∀j q,live (aq j h)→φ j=some q→q.bA≠b)
  (hOR:OR (φ.put i ⟨b,0,room⟩) o ⟨b,0,room⟩ w.heap[b]?):HR (φ.put i ⟨b,0,room⟩) (.mk (cH i o h.tree) n' (Lg.add i h.log)) w:=by
 have hφ:=H.fresh i hi
 have hle:=aJ.fI (φ:=φ) (i:=i) ⟨b,0,room⟩ hφ
 have hg:∀j,aq j (.mk (cH i o h.tree) n' (Lg.add i h.log))=if j=i then o else aq j h:=by
  intro j
  cases h with
  | mk t n lg=>exact cW j i o t
 have hbk:∀j q,j≠i→(φ.put i ⟨b,0,room⟩) j=some q→φ j=some q:=by
  intro j q hj hq
  simpa [aJ.put,hj] using hq
 refine ⟨fun j hj=>?_,fun j k q r hj hk hjk hq hr=>?_,fun j hj=>?_,fun j q hq=>?_⟩
 ·rw [hg] at hj ⊢
  by_cases e:j=i
  ·subst e
   refine ⟨_,aJ.aO _ _ _,?_⟩
   rw [if_pos rfl];exact hOR
  ·rw [if_neg e] at hj ⊢
   obtain ⟨q,hq,hr⟩:=H.obj j hj
   exact ⟨q,hle _ _ hq,hr.mono hle⟩
 ·rw [hg] at hj hk
  by_cases e1:j=i
  ·by_cases e2:k=i
   ·exact absurd (e1.trans e2.symm) hjk
   ·rw [if_neg e2] at hk
    have hr':=hbk k r e2 hr
    have hq':q=⟨b,0,room⟩:=by rw [e1,aJ.aO] at hq;exact (Option.some.inj hq).symm
    rw [hq'];exact fun e=>hfree k r hk hr' e.symm
  ·rw [if_neg e1] at hj
   have hq':=hbk j q e1 hq
   by_cases e2:k=i
   ·have hr':r=⟨b,0,room⟩:=by rw [e2,aJ.aO] at hr;exact (Option.some.inj hr).symm
    rw [hr'];exact hfree j q hj hq'
   ·rw [if_neg e2] at hk
    exact H.inj j k q r hj hk hjk hq' (hbk k r e2 hr)
 ·rw [hg] at hj
  by_cases e:j=i
  ·rw [if_pos e] at hj;exact absurd hj ho
  ·rw [if_neg e] at hj
   show (if j=i then some _ else φ j)=none
   rw [if_neg e];exact H.fresh j hj
 ·by_cases e:j=i
  ·have hq':q=⟨b,0,room⟩:=by rw [e,aJ.aO] at hq;exact (Option.some.inj hq).symm
   rw [hq'];exact hb
  ·exact H.bound j q (hbk j q e hq)
theorem HR.ext (H:HR φ h w) (hs:w.heap.size≤w'.heap.size) (hk:∀b,b < w.heap.size→w'.heap[b]?=w.heap[b]?):HR φ h w' where
 obj i hl:=let ⟨p,h1,h2⟩:=H.obj i hl;⟨p,h1,by rw [hk _ (H.bound i p h1)];exact h2⟩
 inj:=H.inj
 fresh:=H.fresh
 bound i p hp:=Nat.lt_of_lt_of_le (H.bound i p hp) hs
theorem Step.ext (hs:w.heap.size≤w'.heap.size) (hk:∀b,b < w.heap.size→w'.heap[b]?=w.heap[b]?) (ht:w'.tape=w.tape) (ho:w'.os=w.os) (hu:w'.output=w.output):Step φ h w φ h w':=
 ⟨φ.le_refl,⟨hs,fun b hb _=>hk b hb,ht,ho,hu⟩,fun _ _ a b=>.inl ⟨a,b⟩,.refl _⟩
structure uW (φ:aJ) (r:A2) (op:ox) (ob:Go.Obj) (room:Nat) (val:Nat→Value):Prop where
 am:∀h v h',op.run r h=.ok v h'→∃obj,h'=.mk (cH h.next obj h.tree) h.next.succ (Lg.add h.next h.log)∧aq h.next h=.none∧live obj∧(∀ψ b,φ.le ψ→OR ψ obj ⟨b,0,room⟩ (some ob))∧∀ψ b,ψ h.next=some ⟨b,0,room⟩→VR ψ v (val b)
theorem uW.mono {φ ψ:aJ} {r:A2} {op:ox} {ob:Go.Obj} {room:Nat} {val:Nat→Value} (N:uW φ r op ob room val) (g:φ.le ψ):uW ψ r op ob room val:=
 ⟨fun h v h' e=>let ⟨obj,a,b,c,d,f⟩:=N.am h v h' e;⟨obj,a,b,c,fun χ bb k=>d χ bb (aJ.le_trans g k),f⟩⟩
def Rq (P:Program) (ρ:Operand→Value) (o:Oper) (ob:Go.Obj) (val:Nat→Value):Prop:=∀w:World,(execOp ρ o).run P w=.ok (.value (val w.heap.size)) {w with heap:=w.heap.push ob}
variable {r:A2} {ρ:Operand→Value}
theorem DY {o:Oper} {e m:Nat} {c:Cl} (hop:bX P G names o=some (.op (.alloc e m c))):∃ob room val,uW φ r (.alloc e m c) ob room val∧Rq P ρ o ob val:=by
 have hin:∃z,o.op=.alloc e∧fS P e=some z∧m=z.length∧c=lP z:=by
  obtain ⟨dst,y,type,pos,after,guard⟩:=o
  simp only [bX] at hop
  split at hop
  case h_4=>
   simp only [bind,Option.bind_eq_some_iff,Option.some.injEq,AI.op.injEq,ox.alloc.injEq] at hop
   obtain ⟨z,hz,rfl,rfl,rfl⟩:=hop
   exact ⟨z,rfl,hz,rfl,rfl⟩
  case h_21=>
   split at hop
   ·simp only [bind,Option.bind_eq_some_iff] at hop
    obtain ⟨fd,_,hop⟩:=hop
    split at hop
    ·simp at hop
    ·split at hop<;>simp [Option.bind_eq_some_iff] at hop
   ·cases hop
  case h_32 c'=>
   simp only [bind,Option.bind_eq_some_iff] at hop
   obtain ⟨ys,hys,hop⟩:=hop
   split at hop
   ·simp only [Option.map_eq_some_iff,AI.op.injEq] at hop
    obtain ⟨op,ho,rfl⟩:=hop
    unfold iJ at ho
    split at ho<;>(repeat' split at ho)<;>simp [Option.bind_eq_some_iff] at ho
   ·cases hop
   ·simp [Option.bind_eq_some_iff] at hop
   ·simp [Option.bind_eq_some_iff] at hop
  all_goals (repeat' split at hop)<;>simp [Option.bind_eq_some_iff,Option.map_eq_some_iff] at hop
 obtain ⟨z,ho,hz,rfl,rfl⟩:=hin
 obtain ⟨inf,zv,h1,h2,_,_⟩:=fT hz (fun _=>none)
 refine ⟨.cells zv.cells e,z.length,fun b=>.pointer (some ⟨b,0,none⟩),⟨fun h v h' he=>?_⟩,fun w=>?_⟩
 case refine_2=>simp [execOp,ho,Instr.alloc,newVar,dY,zeroValue,bw h1,h2]
 ·obtain ⟨hr,hi,he⟩:=fg (show oB e true .plain z.length (lP z) h wt=.ok v h' from he)
  obtain ⟨rfl,rfl⟩:=qJ he
  refine ⟨_,rfl,hi,aN,fun ψ b _=>?_,fun ψ b hb=>?_⟩
  ·obtain ⟨inf',zv',h1',h2',g1,g2⟩:=fT hz ψ
   rw [h1] at h1';cases h1'
   rw [h2] at h2';cases h2'
   have hl:=g1.length
   simp only [Array.length_toList] at hl
   refine ⟨zv.cells,(0,0),rfl,by simp [hl],Nat.le_refl _,fun _=>⟨rfl,rfl⟩,hr,fun k hk=>?_,rfl⟩
   have hk':k < zv.cells.size:=by omega
   refine ⟨zv.cells[k],by simp [hk'],?_,g2 _ (by simp)⟩
   rw [dD z hr k hk]
   have:=g1.get k hk (by simpa using hk')
   simpa using this
  ·have:=VR.ptr (φ:=ψ) h.next 0 _ hb
   simpa [Place.addr] using this
theorem Rr {o:Oper} (hop:bX P G names o=some (.op .nd)) (hc:∀c,ρ (.const c)=c):∃ob room val,uW φ r .nd ob room val∧Rq P ρ o ob val:=by
 have hin:∃t re,o.op=.makeMap t re∧(re=none∨∃k m a b,re=some (.const (.int k m))∧P.underlying t=some (.map a b)):=by
  obtain ⟨dst,y,type,pos,after,guard⟩:=o
  simp only [bX] at hop
  split at hop
  case h_16=>exact ⟨_,_,rfl,.inl rfl⟩
  case h_17=>
   split at hop
   ·rename_i hu
    exact ⟨_,_,rfl,.inr ⟨_,_,_,_,rfl,aA hu (by simp)⟩⟩
   ·cases hop
  case h_21=>
   split at hop
   ·simp only [bind,Option.bind_eq_some_iff] at hop
    obtain ⟨fd,_,hop⟩:=hop
    split at hop
    ·simp at hop
    ·split at hop<;>simp [Option.bind_eq_some_iff] at hop
   ·cases hop
  case h_32 c'=>
   simp only [bind,Option.bind_eq_some_iff] at hop
   obtain ⟨ys,hys,hop⟩:=hop
   split at hop
   ·simp only [Option.map_eq_some_iff,AI.op.injEq] at hop
    obtain ⟨op,ho,rfl⟩:=hop
    unfold iJ at ho
    split at ho<;>(repeat' split at ho)<;>simp [Option.bind_eq_some_iff] at ho
   ·cases hop
   ·simp [Option.bind_eq_some_iff] at hop
   ·simp [Option.bind_eq_some_iff] at hop
  all_goals (repeat' split at hop)<;>simp [Option.bind_eq_some_iff,Option.map_eq_some_iff] at hop
 obtain ⟨t,re,ho,hre⟩:=hin
 have hno:∀w:World,(newObj (.map #[] 0)).run P w=.ok w.heap.size {w with heap:=w.heap.push (.map #[] 0)}:=fun w=>run_newObj _
 refine ⟨.map #[] 0,0,fun b=>.map (some b),⟨fun h v h' he=>?_⟩,fun w=>?_⟩
 case refine_2=>
  rcases hre with rfl|⟨k,m,a,b,rfl,hu⟩
  ·simp [execOp,ho,Instr.makeMap,hno]
  ·have ha:(asInt (.int k m)).run P w=.ok m w:=rfl
   simp [execOp,ho,Instr.makeMap,hno,hc,ar hu,ha]
 ·obtain ⟨hi,he⟩:=gz (show iq (.map .nil 0) h (fun i h=>.ok (.map i) h)=.ok v h' from he)
  obtain ⟨rfl,rfl⟩:=RV.av he
  exact ⟨_,rfl,hi,fi,fun ψ b _=>⟨#[],0,[],rfl,.refl _,.nil,.start⟩,fun ψ b hb=>.map _ _ hb⟩
theorem AP {o:Oper} {e es m:Nat} {z:List AV} {ps:List Part} (hop:bX P G names o=some (.op (.bD e es m z ps))):∃t k qs,o.op=.buildSlice t k qs:=by
 obtain ⟨dst,y,type,pos,after,guard⟩:=o
 simp only [bX] at hop
 split at hop
 case h_7=>exact ⟨_,_,_,rfl⟩
 case h_21=>
  split at hop
  ·simp only [bind,Option.bind_eq_some_iff] at hop
   obtain ⟨fd,_,hop⟩:=hop
   split at hop
   ·simp at hop
   ·split at hop<;>simp [Option.bind_eq_some_iff] at hop
  ·cases hop
 case h_32 c'=>
  simp only [bind,Option.bind_eq_some_iff] at hop
  obtain ⟨ys,hys,hop⟩:=hop
  split at hop
  ·simp only [Option.map_eq_some_iff,AI.op.injEq] at hop
   obtain ⟨op,ho,rfl⟩:=hop
   unfold iJ at ho
   split at ho<;>(repeat' split at ho)<;>simp [Option.bind_eq_some_iff] at ho
  ·cases hop
  ·simp [Option.bind_eq_some_iff] at hop
  ·simp [Option.bind_eq_some_iff] at hop
 all_goals (repeat' split at hop)<;>simp [Option.bind_eq_some_iff,Option.map_eq_some_iff] at hop
theorem alm {t e:TypeId} {zs:List AV} (ht:P.underlying t=some (.slice e)) (hz:fS P e=some zs) (hzl:zs.length=bj P e) (hes:bj P e≠0) {n:Nat} {ps:List Part} {qs:List (Nat×Value)} (hl:ps.length=qs.length)
  (hp:∀k (h1:k < ps.length) (h2:k < qs.length),tW φ r (fun i=>some (i * bj P e,bj P e)) ps[k] qs[k])
  (hb:∀p,p∈ps→match p with|.mk off sz _=>off+sz≤n * bj P e) (hf:fits ps r=true) (hr:(fill ps r (dS n zs)).length≤bQ (lP (fill ps r (dS n zs)))) :
  ∃es:List Value,bS φ (fill ps r (dS n zs)) es∧(∀c,c∈es→c.oneCell'=true)∧∀w:World,(Instr.buildSlice t n qs.toArray).run P w=.ok (.slice (some ⟨w.heap.size,0,none⟩) n n) {w with heap:=w.heap.push (.cells es.toArray e)}:=by
 obtain ⟨i,zv,hi,hzv,g1,g2⟩:=fT hz φ
 rw [cB hi] at hzl hes hp hb
 have hzs:zv.cells.size=i.size:=by rw [←hzl,g1.length];simp
 obtain ⟨k1,k2⟩:=eE g1 g2 n (n * i.size) (by rw [hzs])
 have hlen:((Array.range (n * i.size)).map (zv.cells[· % zv.cells.size]!)).toList.length=n * i.size:=by simp
 obtain ⟨es,f1,f2,f3⟩:=tY ps qs (dS n zs) ((Array.range (n * i.size)).map (zv.cells[· % zv.cells.size]!)).toList hl hp hf (fun p hp'=>by have:=hb p hp';rw [hlen];exact this) k1 k2
 rw [kQ,eQ,hzl] at hr
 have hcr:=kP (lP (fill ps r (dS n zs)))
 refine ⟨es,f2,f3,fun w=>?_⟩
 have hbig:¬ (16777216 < n * i.size):=by omega
 by_cases h0:n * i.size=0
 ·have hn0:n=0:=by
   rcases Nat.mul_eq_zero.1 h0 with g|g
   ·exact g
   ·exact absurd g hes
  subst hn0
  have hh:((Array.range (0 * i.size)).map (zv.cells[· % zv.cells.size]!)).toList.toArray=#[]:=by simp
  rw [hh] at f1
  have hh2:∀g:Nat→Value,(Array.range 0).map g=#[]:=by intro g;simp
  simp only [Instr.buildSlice,Sem.run_bind,ar ht,Result.andThen_ok,aU hi]
  simp only [Nat.zero_mul,hh2,f1]
  simp [dY]
 ·have f1':Instr.fill (fun i_1=>some (i_1 * i.size,i.size)) ((Array.range (n * i.size)).map (zv.cells[· % zv.cells.size]!)) qs=some es.toArray:=f1
  simp only [Instr.buildSlice,Sem.run_bind,ar ht,Result.andThen_ok,aU hi]
  rw [if_neg hbig]
  simp only [h0,if_false,zeroValue,Sem.run_bind,bw hi,hzv,Result.andThen_ok,Sem.run_pure,f1',dY]
theorem AQ {o:Oper} {e es m:Nat} {z:List AV} {ps:List Part} (hop:bX P G names o=some (.op (.bD e es m z ps))) (hρ:∀q x,cO G q=some x→VR φ (ev x r) (ρ q)) {h1 h2:Hp} {v1:AV} (he:(ox.bD e es m z ps).run r h1=.ok v1 h2) :
  ∃ob room val,uW φ r (.bD e es m z ps) ob room val∧Rq P ρ o ob val:=by
 obtain ⟨t,k,qs,ho⟩:=AP hop
 obtain ⟨dst,y,type,pos,after,guard⟩:=o
 have ho:y=.buildSlice t k qs:=ho
 subst ho
 simp only [bX] at hop
 split at hop
 ·rename_i e' hu
  simp only [bind,Option.bind_eq_some_iff] at hop
  obtain ⟨zs,hz,hop⟩:=hop
  split at hop
  ·simp at hop
  ·rename_i hs
   simp only [not_or,Decidable.not_not] at hs
   simp only [bind,pure,Option.bind_some,Option.bind_eq_some_iff,Option.some.injEq,AI.op.injEq,ox.bD.injEq] at hop
   obtain ⟨l,hl,rfl,rfl,rfl,rfl,rfl⟩:=hop
   obtain ⟨g1,g2,g3⟩:=iL (φ:=φ) (r:=r) (ρ:=ρ) hl (fun q _ a ha=>hρ _ _ ha)
   have he:fQ e' (bj P e') k (dS k zs) l r h1=.ok v1 h2:=he
   obtain ⟨hf,he1⟩:=aC he
   have hr:=(fg (show oB e' true .plain (fill l r (dS k zs)).length (lP (fill l r (dS k zs))) h1 (fun i h=>.ok (.slice i 0 k k) h)=.ok v1 h2 from he1)).1
   obtain ⟨cs,f2,f3,f4⟩:=alm (aA hu (by simp)) hz hs.2 hs.1 (by simpa using g1) g2 g3 hf hr
   have hlen:=f2.length
   refine ⟨.cells cs.toArray e',cs.length,fun b=>.slice (some ⟨b,0,none⟩) k k,⟨fun h v h' hx=>?_⟩,fun w=>?_⟩
   ·have hx:fQ e' (bj P e') k (dS k zs) l r h=.ok v h':=hx
    obtain ⟨_,hx1⟩:=aC hx
    obtain ⟨hr2,hi2,hx2⟩:=fg (show oB e' true .plain (fill l r (dS k zs)).length (lP (fill l r (dS k zs))) h (fun i h=>.ok (.slice i 0 k k) h)=.ok v h' from hx1)
    obtain ⟨rfl,rfl⟩:=RV.av hx2
    refine ⟨_,rfl,hi2,aN,fun ψ b hle=>?_,fun ψ b hb=>?_⟩
    ·refine ⟨cs.toArray,(0,0),rfl,by simp,Nat.le_of_eq hlen,fun _=>⟨rfl,hlen⟩,hr2,fun j hj=>?_,rfl⟩
     have hj':j < cs.length:=by omega
     refine ⟨cs[j],by simp [hj'],?_,f3 _ (List.getElem_mem _)⟩
     rw [dD _ hr2 j hj]
     exact (f2.get j hj hj').mono hle
    ·have:=VR.slice (φ:=ψ) h.next 0 k k _ hb
     simpa [Place.addr] using this
   ·show ((do pure (.value (←Instr.buildSlice t k (qs.map fun (i,x)=>(i,ρ x)))):Sem Next).run P w)=_
    rw [py hρ qs]
    simp only [Sem.run_bind,f4 w,Result.andThen_ok,Sem.run_pure]
 ·cases hop
theorem JH {o:Oper} {op:ox} (hop:bX P G names o=some (.op op)) (hx:Cm (.op op)=true) (hρ:∀q x,cO G q=some x→VR φ (ev x r) (ρ q)) (hc:∀c,ρ (.const c)=c) {h1 h2:Hp} {v1:AV} (he:op.run r h1=.ok v1 h2) :
  ∃ob room val,uW φ r op ob room val∧Rq P ρ o ob val:=by
 cases op<;>(try (cases hx;done))
 ·exact DY hop
 ·exact AQ hop hρ he
 ·exact Rr hop hc
end
section
variable {P:Program} {G:Gl} [NB G] {n:Nat} {names:List String} {ops:Array Oper} {p:Pg} {run:gB} {l:List (Nat×Bk)} {T:Nat→DS} {φ₀:aJ} {w₀:World}
theorem pI {d:aL} {v:AV} {r:A2} {o:Option Tmp} {t:Nat} (hd:gG G n o=some d) (ho:o=some t):aw (hi t) (lo t) (bI d v r)=v:=by
 subst ho
 obtain ⟨_,_,rfl⟩:=iM hd
 show aw (hi t) (lo t) (eL (hi t) (lo t) v r)=v
 rw [eO,if_pos ⟨rfl,rfl⟩]
theorem tZ {L:Array Bool} {i j:Nat} (hi:i < L.size):aV (L.setIfInBounds i true) j↔aV L j∨j=i:=by
 unfold aV
 by_cases e:j=i
 ·subst e
  simp [hi]
 ·rw [Array.getD_eq_getD_getElem?,Array.getElem?_setIfInBounds,if_neg (fun g=>e g.symm),←Array.getD_eq_getD_getElem?]
  simp [e]
def jP (l:List (Nat×Bk)) (L:Array Bool) (k q:Nat) (hq:q < l.length):Prop:=l[q].2=.new∧aV L l[q].1∧k≤ec l q
structure Inv (P:Program) (G:Gl) (n:Nat) (names:List String) (ops:Array Oper) (l:List (Nat×Bk)) (T:Nat→DS) (φ₀:aJ) (w₀:World) (L:Array Bool) (a:Act) (w:World) (φ:aJ) (k:Nat) (pb:Nat→Nat):Prop where
 sz:L.size=ops.size
 cl:ClL ops L
 kle:k≤ec l l.length
 fY:∀q (hq:q < l.length),l[q].2=.dQ→(aV L l[q].1↔ec l q < k)
 hr:HR φ (bh l T k) w
 DF:Step φ₀ (bh l T 0) w₀ φ (bh l T k) w
 dM:a.defers=[]
 size:n≤a.tmps.size
 fD:mz G φ
 AR:∀q (hq:q < l.length),jP l L k q hq→∃op ob room val,bX P G names (bJ ops l q hq)=some (.op op)∧uW φ (T q).r op ob room val∧w₀.heap.size≤pb q∧pb q < w.heap.size∧w.heap[pb q]?=some ob∧
  (∀i pl,live (aq i (bh l T k))→φ i=some pl→pl.bA≠pb q)∧∀t,(bJ ops l q hq).dst=some t→a.tmps.getD t undef=val (pb q)
 aln:∀q q' (hq:q < l.length) (hq':q' < l.length),jP l L k q hq→jP l L k q' hq'→q≠q'→pb q≠pb q'
 old:∀t,t < 256→(∀q (hq:q < l.length),(bJ ops l q hq).dst=some t→¬ aV L l[q].1)→VR φ (aw (hi t) (lo t) (T 0).r) (a.tmps.getD t undef)
 new:∀t,t < 256→∀q (hq:q < l.length),(bJ ops l q hq).dst=some t→aV L l[q].1→¬ jP l L k q hq→VR φ (aw (hi t) (lo t) (T (q+1)).r) (a.tmps.getD t undef)
variable {L:Array Bool} {a:Act} {w:World} {φ:aJ} {k:Nat} {pb:Nat→Nat}
theorem gS (K:Au P G n names ops l) {q:Nat} (hq:q < l.length) (hb:l[q].2=.new):(bJ ops l q hq).guard=none∧(∃x,bX P G names (bJ ops l q hq)=some x∧Cm x=true)∧
  ∀t,(bJ ops l q hq).dst=some t→∀q2 (hq2:q2 < l.length),l[q2].2=.dQ∨t ∉ looks P G n names ops (bJ ops l q2 hq2):=by
 have h:=K.kind q hq
 rw [hb] at h
 simp only [tC,Bool.and_eq_true] at h
 obtain ⟨⟨h1,h2⟩,h3⟩:=h
 refine ⟨Option.isNone_iff_eq_none.1 h1,?_,fun t ht q2 hq2=>?_⟩
 ·split at h2
  ·rename_i x hx;exact ⟨x,hx,h2⟩
  ·cases h2
 ·have ht':(ops.getD l[q].1 default).dst=some t:=ht
  rw [ht'] at h3
  simp only [Option.all_some,List.all_eq_true] at h3
  have:=h3 _ (List.getElem_mem hq2)
  simp only [Bool.or_eq_true,Bool.not_eq_true'] at this
  rcases this with g|g
  ·left;revert g;cases l[q2].2<;>simp [Wg]
  ·right;intro hm
   have:(looks P G n names ops (ops.getD l[q2].1 default)).contains t=true:=List.contains_iff_mem.2 hm
   rw [this] at g;cases g
theorem zh (K:Au P G n names ops l) (hT:Trace P G n names ops p run l T) (h0:(T 0).hs=[]) (hg0:(T 0).g=(T 0).h) (I:Inv P G n names ops l T φ₀ w₀ L a w φ k pb) {q₁:Nat} (hq₁:q₁≤l.length) (hk:ec l q₁=k)
  (hall:∀q (hq:q < l.length),q < q₁→l[q].2=.new→ec l q=k→aV L l[q].1) :
  ∃φ',φ.le φ'∧HR φ' (T q₁).h w∧Step φ₀ (bh l T 0) w₀ φ' (T q₁).h w∧(∀q (hq:q < l.length),q < q₁→l[q].2=.new→ec l q=k→∀t,t < 256→(bJ ops l q hq).dst=some t→VR φ' (aw (hi t) (lo t) (T (q+1)).r) (a.tmps.getD t undef))∧
   ∀q (hq:q < l.length),jP l L k q hq→q₁≤q→∀i pl,live (aq i (T q₁).h)→φ' i=some pl→pl.bA≠pb q:=by
 obtain ⟨s,hs1,hs2,hs3,hs4,hs5⟩:=yQ hT hg0 q₁ hq₁
 have hbase:(T s).h=bh l T k:=by rw [hs3,←QN hT h0 (by omega),hs2,hk]
 have hec:∀q,s≤q→q≤q₁→ec l q=k:=fun q h1 h2=>by
  have a1:=ic (l:=l) h1 (by omega)
  have a2:=ic (l:=l) h2 hq₁
  omega
 have key:∀q,s≤q→q≤q₁→∃φ',φ.le φ'∧HR φ' (T q).h w∧Step φ₀ (bh l T 0) w₀ φ' (T q).h w∧(∀q2 (hq2:q2 < l.length),s≤q2→q2 < q→l[q2].2=.new→∀t,t < 256→(bJ ops l q2 hq2).dst=some t→VR φ' (aw (hi t) (lo t) (T (q2+1)).r) (a.tmps.getD t undef))∧
   ∀q2 (hq2:q2 < l.length),jP l L k q2 hq2→q≤q2→∀i pl,live (aq i (T q).h)→φ' i=some pl→pl.bA≠pb q2:=by
  intro q hsq
  induction hsq with
  | refl=>
   intro _
   refine ⟨φ,φ.le_refl,by rw [hbase];exact I.hr,by rw [hbase];exact I.DF,fun q2 _ h1 h2=>by omega,fun q2 hq2 hp _ i pl hl hpl=>?_⟩
   obtain ⟨_,_,_,_,_,_,_,_,_,g,_⟩:=I.AR q2 hq2 hp
   rw [hbase] at hl
   exact g i pl hl hpl
  | @step q hsq ih=>
   intro hle
   obtain ⟨φ',i1,i2,i3,i4,i5⟩:=ih (by omega)
   have hql:q < l.length:=by omega
   obtain ⟨d,x,wnt,v,D⟩:=hT q hql
   have hstp:=D.DF.2
   have hne:=hs4 q hsq (by omega) hql
   cases hb:l[q].2 with
   | dQ=>exact absurd hb hne
   | rd m=>
    rw [hb] at hstp
    have hh:(T (q+1)).h=(T q).h:=by
     cases wnt with
     | true=>obtain ⟨_,_,_,_,e,_⟩:=hstp;exact e
     | false=>exact hstp.2.1
    refine ⟨φ',i1,by rw [hh];exact i2,by rw [hh];exact i3,fun q2 hq2 h1 h2 hn t ht hd=>?_,fun q2 hq2 hp h1 i pl hl hpl=>?_⟩
    ·rcases Nat.lt_or_ge q2 q with g|g
     ·exact i4 q2 hq2 h1 g hn t ht hd
     ·obtain rfl:q2=q:=by omega
      rw [hb] at hn;cases hn
    ·rw [hh] at hl;exact i5 q2 hq2 hp (by omega) i pl hl hpl
   | new=>
    rw [hb] at hstp
    obtain ⟨hgd,_,_⟩:=gS K hql hb
    have hw:wnt=true:=by have:=D.want;simpa [Wh,hgd] using this
    subst hw
    obtain ⟨op,rfl,hrun,_,_⟩:=hstp
    have hp:jP l L k q hql:=⟨hb,hall q hql (by omega) hb (hec q hsq (by omega)),Nat.le_of_eq (hec q hsq (by omega)).symm⟩
    obtain ⟨op',ob,room,val,e1,NS,b1,b2,b3,b4,b5⟩:=I.AR q hql hp
    rw [D.op] at e1
    cases e1
    obtain ⟨obj,f1,f2,f3,f4,f5⟩:=NS.am _ _ _ hrun
    have hle':=aJ.fI (φ:=φ') (i:=(T q).h.next) ⟨pb q,0,room⟩ (i2.fresh _ f2)
    have HA:=i2.aqh (n':=(T q).h.next.succ) f2 f3.1 b2 (i5 q hql hp (Nat.le_refl _)) (o:=obj) (room:=room) (by rw [b3];exact f4 _ _ (aJ.le_trans i1 hle'))
    refine ⟨φ'.put (T q).h.next ⟨pb q,0,room⟩,aJ.le_trans i1 hle',by rw [f1];exact HA,?_,fun q2 hq2 h1 h2 hn t ht hd=>?_,fun q2 hq2 hp2 h1 i pl hl hpl=>?_⟩
    ·refine ⟨aJ.le_trans i3.le hle',i3.keeps,fun i pl hl hpl=>?_,i3.fr.trans (by rw [f1];exact .put _ _ _ _)⟩
     rw [f1,iT] at hl
     by_cases e:i=(T q).h.next
     ·subst e
      rw [aJ.aO] at hpl;cases hpl
      exact .inr (.inl b1)
     ·rw [if_neg e] at hl
      exact i3.new i pl hl (by simpa [aJ.put,e] using hpl)
    ·rcases Nat.lt_or_ge q2 q with g|g
     ·exact (i4 q2 hq2 h1 g hn t ht hd).mono hle'
     ·obtain rfl:q2=q:=by omega
      rw [b5 t hd,D.DF.1,pI D.dst hd]
      exact f5 _ _ (aJ.aO _ _ _)
    ·rw [f1,iT] at hl
     by_cases e:i=(T q).h.next
     ·subst e
      rw [aJ.aO] at hpl;cases hpl
      exact I.aln q q2 hql hq2 hp hp2 (by omega)
     ·rw [if_neg e] at hl
      exact i5 q2 hq2 hp2 (by omega) i pl hl (by simpa [aJ.put,e] using hpl)
 obtain ⟨φ',i1,i2,i3,i4,i5⟩:=key q₁ hs1 (Nat.le_refl _)
 refine ⟨φ',i1,i2,i3,fun q hq h1 h2 h3 t ht hd=>?_,i5⟩
 rcases Nat.lt_or_ge q s with g|g
 ·have:=hs5 q g;omega
 ·exact i4 q hq g h1 h2 t ht hd
end
section
variable {P:Program} {G:Gl} [NB G] {n:Nat} {names:List String} {ops:Array Oper} {p:Pg} {run:gB} {l:List (Nat×Bk)} {T:Nat→DS} {φ₀ φ φ':aJ} {w₀ w:World} {L:Array Bool} {a:Act} {k:Nat} {pb:Nat→Nat} {r:A2}
theorem lE (a:H):bO a.nat=a:=by cases a<;>rfl
theorem H.iA (a:H):a.nat < 16:=by cases a<;>decide
theorem alp (a b:H):hi (16 * a.nat+b.nat)=a:=by
 have h1:=a.iA;have h2:=b.iA
 show bO ((16 * a.nat+b.nat) / 16)=a
 rw [show (16 * a.nat+b.nat) / 16=a.nat by omega,lE]
theorem alq (a b:H):lo (16 * a.nat+b.nat)=b:=by
 have h1:=a.iA;have h2:=b.iA
 show bO ((16 * a.nat+b.nat) % 16)=b
 rw [show (16 * a.nat+b.nat) % 16=b.nat by omega,lE]
theorem zi {t:Nat} (ht:t < 256):16 * (hi t).nat+(lo t).nat=t:=by
 show 16 * (bO (t / 16)).nat+(bO (t % 16)).nat=t
 rw [fh (by omega),fh (by omega)];omega
theorem gT {t:Nat} (ht:t < 256):∀{L:List Nat},aw (hi t) (lo t) (bB r L)=if t∈L then aw (hi t) (lo t) r else .undef
 | []=>by
  show aw (hi t) (lo t) .nil=_
  rw [if_neg (by simp)]
  show A1.get (lo t) (A2.get (hi t) .nil)=_
  rw [A2.get_nil,A1.get_nil]
 | s::L=>by
  have ih:=gT ht (L:=L)
  show aw (hi t) (lo t) (if s < 256 then eL (hi s) (lo s) (aw (hi s) (lo s) r) (bB r L) else bB r L)=_
  split
  ·rename_i hs
   rw [eO]
   by_cases e:t=s
   ·subst e;simp
   ·rw [if_neg (fun g=>e ((Dw ht hs).1 g)),ih]
    simp [e]
  ·rename_i hs
   have e:t≠s:=by omega
   rw [ih];simp [e]
theorem kR {L:List Nat}:cV r (bB r L) L:=fun a b m=>by
 have h1:=a.iA;have h2:=b.iA
 have:=gT (r:=r) (L:=L) (t:=16 * a.nat+b.nat) (by omega)
 rw [if_pos m,alp,alq] at this
 exact this.symm
theorem DZ (hs:L.size=ops.size) {j:Nat} (h:aV L j):j < ops.size:=by
 rcases Nat.lt_or_ge j L.size with g|g
 ·omega
 ·unfold aV at h
  rw [Array.getD_eq_getD_getElem?,Array.getElem?_eq_none g] at h;cases h
structure Rdy (ops:Array Oper) (l:List (Nat×Bk)) (L:Array Bool) (q:Nat) (hq:q < l.length):Prop where
 un:¬ aV L l[q].1
 pre:∀e,e∈(bJ ops l q hq).after→Region.binds .any e=true→aV L e.on
section
variable (K:Au P G n names ops l) (hT:Trace P G n names ops p run l T) (I:Inv P G n names ops l T φ₀ w₀ L a w φ k pb) {q:Nat} (hq:q < l.length) (R:Rdy ops l L q hq)
include K I R
theorem dr {j:Nat}:aV (L.setIfInBounds l[q].1 true) j↔aV L j∨j=l[q].1:=tZ (by rw [I.sz];exact K.bnd q hq)
theorem xA:ClL ops (L.setIfInBounds l[q].1 true):=by
 intro j o hj hl e he hb
 rw [dr K I hq R] at hl ⊢
 rcases hl with hl|rfl
 ·exact .inl (I.cl j o hj hl e he hb)
 ·have:=cu K hq
  rw [this] at hj
  cases hj
  exact .inl (R.pre e he hb)
theorem iY {q1:Nat} (h1:q1 < l.length) (hb:Bf ops l[q1].1 l[q].1) (hne:q1≠q):aV L l[q1].1:=by
 have:=hb _ (xA K I hq R) ((dr K I hq R).2 (.inr rfl))
 rcases (dr K I hq R).1 this with g|g
 ·exact g
 ·exact absurd (K.inj q1 q h1 hq g) hne
theorem aqi (he:l[q].2=.dQ):k=ec l q:=by
 have h1:k≤ec l q:=by
  rcases Nat.lt_or_ge (ec l q) k with g|g
  ·exact absurd ((I.fY q hq he).2 g) R.un
  ·exact g
 rcases Nat.lt_or_ge k (ec l q) with g|g
 ·obtain ⟨q1,hq1,hlt,he1,e1⟩:=nT (by omega) g
  have:=(I.fY q1 hq1 he1).1 (iY K I hq R hq1 (Ja K hq1 hq hlt he1 he) (by omega))
  omega
 ·omega
theorem aqj (he:l[q].2≠.dQ):k≤ec l q:=by
 rcases Nat.lt_or_ge (ec l q) k with g|g
 ·obtain ⟨q2,hq2,_,he2,e2⟩:=nT (Nat.le_refl _) (Nat.lt_of_lt_of_le g I.kle)
  have hlt:q < q2:=by
   rcases Nat.lt_trichotomy q q2 with g|g|g
   ·exact g
   ·subst g;exact absurd he2 he
   ·have:=vU g (by omega) he2;omega
  exact absurd (xi K hq hq2 hlt he he2 L I.cl ((I.fY q2 hq2 he2).2 (by omega))) R.un
 ·exact g
theorem avx {m:Nat} (hb:l[q].2=.rd m):ec l q - m≤k:=by
 obtain ⟨_,g2⟩:=Wi K hq hb
 rcases Nat.lt_or_ge k (ec l q - m) with g|g
 ·obtain ⟨q1,hq1,hlt,he1,e1⟩:=nT (q':=q) (by omega) (show k < ec l q by omega)
  have:=(I.fY q1 hq1 he1).1 (iY K I hq R hq1 (g2 q1 hlt he1 (by omega)) (by omega))
  omega
 ·exact g
include hT
theorem xB {t:Nat} (ht:t < 256) (hl:t∈looks P G n names ops (bJ ops l q hq)):VR φ (aw (hi t) (lo t) (T q).r) (a.tmps.getD t undef)∨
  ∃q2,∃hq2:q2 < l.length,q2 < q∧jP l L k q2 hq2∧l[q].2=.dQ∧(bJ ops l q2 hq2).dst=some t∧aw (hi t) (lo t) (T q).r=aw (hi t) (lo t) (T (q2+1)).r:=by
 obtain ⟨ra,rb⟩:=Jd K hT (q:=q) (by omega) ht
 by_cases hw:∃q2,∃hq2:q2 < l.length,(bJ ops l q2 hq2).dst=some t
 ·obtain ⟨q2,hq2,hd⟩:=hw
  have uniq:∀q1 (h1:q1 < l.length),(bJ ops l q1 h1).dst=some t→q1=q2:=fun q1 h1 e1=>K.inj q1 q2 h1 hq2 (K.dst _ _ _ _ t (cu K h1) (cu K hq2) e1 hd)
  have hunl:¬ aV L l[q2].1→q2≥q→VR φ (aw (hi t) (lo t) (T q).r) (a.tmps.getD t undef):=by
   intro h1 h2
   rw [rb fun q1 h1 e1=>by have:=uniq q1 h1 e1;omega]
   exact I.old t ht fun q1 hq1 e1=>by
    obtain rfl:=uniq q1 hq1 e1;exact h1
  rcases K.look _ _ _ _ t (cu K hq) (cu K hq2) hl hd with g|g|g
  ·obtain rfl:=K.inj q q2 hq hq2 g
   exact .inl (hunl R.un (Nat.le_refl _))
  ·refine .inl (hunl (fun hl2=>R.un (gQ g L I.cl hl2)) ?_)
   rcases K.ord q q2 hq hq2 g with g1|⟨g1,g2⟩
   ·omega
   ·obtain ⟨m,g2⟩:=g2
    have hne:q2≠q:=by rintro rfl;rw [g1] at g2;cases g2
    exact absurd (gQ g L I.cl (iY K I hq R hq2 (gQ (K.apK q hq g1 t hl _ _ (cu K hq2) hd)) hne)) R.un
  ·by_cases hne:q2=q
   ·subst hne;exact .inl (hunl R.un (Nat.le_refl _))
   have hl2:=iY K I hq R hq2 (gQ g) hne
   have hlt:q2 < q:=by
    rcases K.ord q2 q hq2 hq g with g1|⟨g1,m,g2⟩
    ·exact g1
    ·rcases (gS K hq2 g1).2.2 t hd q hq with g3|g3
     ·rw [g2] at g3;cases g3
     ·exact absurd hl g3
   have er:=ra q2 hq2 hd hlt
   by_cases hp:jP l L k q2 hq2
   ·refine .inr ⟨q2,hq2,hlt,hp,?_,hd,er⟩
    exact ((gS K hq2 hp.1).2.2 t hd q hq).resolve_right fun g=>g hl
   ·rw [er]
    exact .inl (I.new t ht q2 hq2 hd hl2 hp)
 ·rw [rb fun q1 h1 e1=>absurd ⟨q1,h1,e1⟩ hw]
  exact .inl (I.old t ht fun q1 h1 e1=>absurd ⟨q1,h1,e1⟩ hw)
end
end
section
variable {P:Program} {G:Gl} [NB G] {n:Nat} {names:List String} {ops:Array Oper} {p:Pg} {run:gB} {l:List (Nat×Bk)} {T:Nat→DS} {φ₀ φ φ' φ₁:aJ} {w₀ w w':World} {L:Array Bool} {a:Act} {k k':Nat} {pb:Nat→Nat} {r:A2} {cv:Value}
theorem pJ {o:Option Tmp} {t:Nat} (h:o≠some t):(a.put o cv).tmps.getD t undef=a.tmps.getD t undef:=by
 cases o with
 | none=>rfl
 | some s=>
  have e:t≠s:=fun e=>h (by rw [e])
  show (a.tmps.setIfInBounds s cv).getD t undef=_
  simp only [Array.getD_eq_getD_getElem?,Array.getElem?_setIfInBounds,if_neg (Ne.symm e)]
theorem aO {t:Nat} (h:t < a.tmps.size):(a.put (some t) cv).tmps.getD t undef=cv:=by
 show (a.tmps.setIfInBounds t cv).getD t undef=cv
 simp [Array.getD,h]
theorem zj {o:Option Tmp}:(a.put o cv).tmps.size=a.tmps.size:=by cases o<;>simp [Act.put]
theorem qd {o:Option Tmp}:(a.put o cv).defers=a.defers:=by cases o<;>rfl
theorem qK {o:Option Tmp} {d:aL} {t:Nat} (hd:gG G n o=some d) (ho:o=some t):t < 256∧t < n:=by
 subst ho
 obtain ⟨h1,h2,_⟩:=iM hd
 exact ⟨h1,h2⟩
section
variable (K:Au P G n names ops l) (hT:Trace P G n names ops p run l T) (I:Inv P G n names ops l T φ₀ w₀ L a w φ k pb) {q:Nat} (hq:q < l.length) (R:Rdy ops l L q hq)
include K I R
theorem Inv.go {d:aL} (hd:gG G n (bJ ops l q hq).dst=some d) (hnn:l[q].2≠.new) (hk:k≤k') (hkl:k'≤ec l l.length)
  (heffs:∀q2 (hq2:q2 < l.length),l[q2].2=.dQ→(aV (L.setIfInBounds l[q].1 true) l[q2].1↔ec l q2 < k'))
  (hr:HR φ₁ (bh l T k') w') (hstp:Step φ₀ (bh l T 0) w₀ φ₁ (bh l T k') w') (hle:φ.le φ₁)
  (hv:∀t,t < 256→(bJ ops l q hq).dst=some t→VR φ₁ (aw (hi t) (lo t) (T (q+1)).r) cv)
  (hact:∀q2 (hq2:q2 < l.length),jP l L k q2 hq2→¬ k'≤ec l q2→∀t,t < 256→(bJ ops l q2 hq2).dst=some t→VR φ₁ (aw (hi t) (lo t) (T (q2+1)).r) (a.tmps.getD t undef))
  (hfree:∀q2 (hq2:q2 < l.length),jP l L k q2 hq2→k'≤ec l q2→w'.heap[pb q2]?=w.heap[pb q2]?∧∀i pl,live (aq i (bh l T k'))→φ₁ i=some pl→pl.bA≠pb q2)
  (hsz:w.heap.size≤w'.heap.size):Inv P G n names ops l T φ₀ w₀ (L.setIfInBounds l[q].1 true) (a.put (bJ ops l q hq).dst cv) w' φ₁ k' pb:=by
 have hln:∀{j:Nat},aV (L.setIfInBounds l[q].1 true) j↔aV L j∨j=l[q].1:=dr K I hq R
 have hpend:∀q2 (hq2:q2 < l.length),jP l (L.setIfInBounds l[q].1 true) k' q2 hq2→q2≠q∧jP l L k q2 hq2∧k'≤ec l q2:=by
  rintro q2 hq2 ⟨h1,h2,h3⟩
  have hne:q2≠q:=by rintro rfl;exact hnn h1
  refine ⟨hne,⟨h1,?_,by omega⟩,h3⟩
  rcases hln.1 h2 with g|g
  ·exact g
  ·exact absurd (K.inj q2 q hq2 hq g) hne
 have huniq:∀q2 (hq2:q2 < l.length) t,(bJ ops l q2 hq2).dst=some t→q2≠q→(bJ ops l q hq).dst≠some t:=fun q2 hq2 t e1 hne e2=>
  hne (K.inj q2 q hq2 hq (K.dst _ _ _ _ t (cu K hq2) (cu K hq) e1 e2))
 refine ⟨by rw [Array.size_setIfInBounds];exact I.sz,xA K I hq R,hkl,heffs,hr,hstp,by rw [qd];exact I.dM,by rw [zj];exact I.size,I.fD.mono hle,?_,?_,?_,?_⟩
 ·intro q2 hq2 hp
  obtain ⟨hne,hp2,h3⟩:=hpend q2 hq2 hp
  obtain ⟨op,ob,room,val,e1,NS,b1,b2,b3,b4,b5⟩:=I.AR q2 hq2 hp2
  obtain ⟨f1,f2⟩:=hfree q2 hq2 hp2 h3
  exact ⟨op,ob,room,val,e1,NS.mono hle,b1,by omega,by rw [f1];exact b3,f2,fun t ht=>by rw [pJ (huniq q2 hq2 t ht hne)];exact b5 t ht⟩
 ·intro q2 q3 hq2 hq3 hp2 hp3 hne
  exact I.aln q2 q3 hq2 hq3 (hpend q2 hq2 hp2).2.1 (hpend q3 hq3 hp3).2.1 hne
 ·intro t ht hno
  have hne:(bJ ops l q hq).dst≠some t:=fun e=>hno q hq e (hln.2 (.inr rfl))
  rw [pJ hne]
  exact (I.old t ht fun q2 hq2 e hl=>hno q2 hq2 e (hln.2 (.inl hl))).mono hle
 ·intro t ht q2 hq2 e hl hnp
  by_cases hne:q2=q
  ·subst hne
   have hs:=(qK hd e).2
   rw [e,aO (Nat.lt_of_lt_of_le hs I.size)]
   exact hv t ht e
  ·rw [pJ (huniq q2 hq2 t e hne)]
   have hl2:aV L l[q2].1:=by
    rcases hln.1 hl with g|g
    ·exact g
    ·exact absurd (K.inj q2 q hq2 hq g) hne
   by_cases hp:jP l L k q2 hq2
   ·exact hact q2 hq2 hp (fun g=>hnp ⟨hp.1,hl,g⟩) t ht e
   ·exact (I.new t ht q2 hq2 e hl2 hp).mono hle
theorem Inv.make {d:aL} {op:ox} {ob:Go.Obj} {room:Nat} {val:Nat→Value} (hop:bX P G names (bJ ops l q hq)=some (.op op)) (hd:gG G n (bJ ops l q hq).dst=some d) (hb:l[q].2=.new) (NS:uW φ (T q).r op ob room val) :
  Inv P G n names ops l T φ₀ w₀ (L.setIfInBounds l[q].1 true) (a.put (bJ ops l q hq).dst (val w.heap.size)) {w with heap:=w.heap.push ob} φ k (fun x=>if x=q then w.heap.size else pb x):=by
 have hln:∀{j:Nat},aV (L.setIfInBounds l[q].1 true) j↔aV L j∨j=l[q].1:=dr K I hq R
 have hpend:∀q2 (hq2:q2 < l.length),jP l (L.setIfInBounds l[q].1 true) k q2 hq2→q2≠q→jP l L k q2 hq2:=by
  rintro q2 hq2 ⟨h1,h2,h3⟩ hne
  refine ⟨h1,?_,h3⟩
  rcases hln.1 h2 with g|g
  ·exact g
  ·exact absurd (K.inj q2 q hq2 hq g) hne
 have huniq:∀q2 (hq2:q2 < l.length) t,(bJ ops l q2 hq2).dst=some t→q2≠q→(bJ ops l q hq).dst≠some t:=fun q2 hq2 t e1 hne e2=>
  hne (K.inj q2 q hq2 hq (K.dst _ _ _ _ t (cu K hq2) (cu K hq) e1 e2))
 have hsz:w.heap.size≤(w.heap.push ob).size:=by simp
 have hkp:∀b,b < w.heap.size→(w.heap.push ob)[b]?=w.heap[b]?:=fun b hb=>by
  rw [Array.getElem?_push,if_neg (by omega)]
 have hpq:∀q2 (hq2:q2 < l.length),jP l L k q2 hq2→pb q2 < w.heap.size:=fun q2 hq2 hp=>by
  obtain ⟨_,_,_,_,_,_,_,b2,_⟩:=I.AR q2 hq2 hp;exact b2
 refine ⟨by rw [Array.size_setIfInBounds];exact I.sz,xA K I hq R,I.kle,fun q2 hq2 he=>?_,I.hr.ext hsz hkp,I.DF.trans (.ext hsz hkp rfl rfl rfl),by rw [qd];exact I.dM,by rw [zj];exact I.size,I.fD,?_,?_,?_,?_⟩
 ·rw [hln,←I.fY q2 hq2 he]
  refine ⟨fun h=>h.resolve_right fun g=>?_,.inl⟩
  have:=K.inj q2 q hq2 hq g
  subst this
  rw [he] at hb;cases hb
 ·intro q2 hq2 hp
  by_cases hne:q2=q
  ·subst hne
   simp only [if_pos]
   refine ⟨op,ob,room,val,hop,NS,I.DF.keeps.size,by simp,by simp,fun i pl _ hpl=>?_,fun t ht=>?_⟩
   ·have:=I.hr.bound i pl hpl;omega
   ·rw [ht,aO (Nat.lt_of_lt_of_le (qK hd ht).2 I.size)]
  ·obtain ⟨op',ob',room',val',e1,NS',b1,b2,b3,b4,b5⟩:=I.AR q2 hq2 (hpend q2 hq2 hp hne)
   simp only [if_neg hne]
   exact ⟨op',ob',room',val',e1,NS',b1,by simp;omega,by rw [hkp _ b2];exact b3,b4,fun t ht=>by rw [pJ (huniq q2 hq2 t ht hne)];exact b5 t ht⟩
 ·intro q2 q3 hq2 hq3 hp2 hp3 hne
  by_cases h2:q2=q
  ·by_cases h3:q3=q
   ·omega
   ·have:=hpq q3 hq3 (hpend q3 hq3 hp3 h3)
    simp only [if_pos h2,if_neg h3];omega
  ·have g2:=hpq q2 hq2 (hpend q2 hq2 hp2 h2)
   by_cases h3:q3=q
   ·simp only [if_neg h2,if_pos h3];omega
   ·simp only [if_neg h2,if_neg h3]
    exact I.aln q2 q3 hq2 hq3 (hpend q2 hq2 hp2 h2) (hpend q3 hq3 hp3 h3) hne
 ·intro t ht hno
  have hne:(bJ ops l q hq).dst≠some t:=fun e=>hno q hq e (hln.2 (.inr rfl))
  rw [pJ hne]
  exact I.old t ht fun q2 hq2 e hl=>hno q2 hq2 e (hln.2 (.inl hl))
 ·intro t ht q2 hq2 e hl hnp
  have hne:q2≠q:=by
   rintro rfl
   exact hnp ⟨hb,hl,aqj K I hq R (by rw [hb];simp)⟩
  rw [pJ (huniq q2 hq2 t e hne)]
  have hl2:aV L l[q2].1:=by
   rcases hln.1 hl with g|g
   ·exact g
   ·exact absurd (K.inj q2 q hq2 hq g) hne
  exact I.new t ht q2 hq2 e hl2 fun hp=>hnp ⟨hp.1,hl,hp.2.2⟩
end
end
section
variable {P:Program} {G:Gl} [NB G] {n:Nat} {names:List String} {ops:Array Oper} {p:Pg} {run:gB} {l:List (Nat×Bk)} {T:Nat→DS} {φ₀ φ φ' φ₁:aJ} {w₀ w w':World} {L:Array Bool} {a:Act} {k k':Nat} {pb:Nat→Nat} {r:A2} {h:Hp} {cv:Value}
theorem Cn {v:AV}:∀{x z:RT},x.aG z→x=.ok v h→z=.ok v h
 | _,_,.ok v h,e=>e
 | _,_,.err n,e=>by cases e
 | _,_,.ch n kk c y hc hl,e=>by cases e
theorem Co {v:AV} {x:RT} (e:x=.ok v h):x.Safe:=fun n hn=>by
 have:=Cn hn e
 cases this
theorem zk {v:AV} {x:RT} (e:x=.ok v h) {v':AV} {h':Hp} (hl:x.aG (.ok v' h')):v'=v∧h'=h:=by
 have:=Cn hl e
 cases this;exact ⟨rfl,rfl⟩
theorem pK {o:Oper} {wnt:Bool} (D:Wh ops o r wnt) {d:aL} {x:AI} (hd:gG G n o.dst=some d) (hx:bX P G names o=some x)
  (hl:∀t,t < 256→t∈looks P G n names ops o→VR φ (aw (hi t) (lo t) r) (a.tmps.getD t undef)):Region.wanted o (yielded ops a.tmps)=wnt∧∀t,t∈x.aF→t∈looks P G n names ops o:=by
 unfold Wh at D
 unfold looks fL at hl ⊢
 simp only [hd,hx] at hl ⊢
 cases hg:o.guard with
 | none=>
  rw [hg] at D
  have D:wnt=true:=D
  exact ⟨by simp [Region.wanted,hg,D],fun t ht=>ht⟩
 | some g=>
  obtain ⟨j,w⟩:=g
  rw [hg] at D
  obtain ⟨t,b,h1,h2,h3,h4⟩:=D
  have h2':=wQ (G:=G) h2
  simp only [hg,h1,h2'] at hl ⊢
  refine ⟨?_,fun t ht=>List.mem_cons_of_mem _ ht⟩
  have hm:t∈(GI.g (hi t) (lo t) w d x).aF:=by
   show t∈(16 * (hi t).nat+(lo t).nat)::x.aF
   rw [zi h2];simp
  have hv:=hl t h2 hm
  rw [h4]
  rcases wT h3 with h5|⟨h5,rfl⟩
  ·rw [h5] at hv
   have hy:=mB h1 hv.cJ
   simp only [Region.wanted,hg,hy]
   cases b<;>cases w<;>rfl
  ·rw [h5] at hv
   have hy:=js (a:=a) h1 (wV hv)
   simp only [Region.wanted,hg,hy]
   cases w<;>rfl
section
variable (K:Au P G n names ops l) (hT:Trace P G n names ops p run l T) (I:Inv P G n names ops l T φ₀ w₀ L a w φ k pb) {q:Nat} (hq:q < l.length) (R:Rdy ops l L q hq)
include K hT I R
theorem JI (M:mA P names p.ms) (CO:cS P G p run) (h0:(T 0).hs=[]) (hg0:(T 0).g=(T 0).h) {Kt:Act→World→Prop} {Q:Exit→Act→World→Prop}
  (hn:∀cv w' φ₁ k' pb',Inv P G n names ops l T φ₀ w₀ (L.setIfInBounds l[q].1 true) (a.put (bJ ops l q hq).dst cv) w' φ₁ k' pb'→Kt (a.put (bJ ops l q hq).dst cv) w'):wpOp P ops Q l[q].1 Kt a w:=by
 unfold wpOp
 simp only [cu K hq]
 obtain ⟨d,x,wnt,v,D⟩:=hT q hq
 have hstp:=D.DF.2
 have hreg:∀t,t < 256→(bJ ops l q hq).dst=some t→aw (hi t) (lo t) (T (q+1)).r=v:=fun t _ e=>by rw [D.DF.1,pI D.dst e]
 have hregR:∀t,t < 256→(bJ ops l q hq).dst=some t→∀r',aw (hi t) (lo t) (bI d v r')=v:=fun t _ e r'=>pI D.dst e
 cases hb:l[q].2 with
 | new=>
  obtain ⟨hg,⟨y,hy,hny⟩,_⟩:=gS K hq hb
  rw [hb] at hstp
  have hw1:wnt=true:=by have:=D.want;simpa [Wh,hg] using this
  subst hw1
  obtain ⟨op,rfl,hrun,_,_⟩:=hstp
  have hlk:∀t,t < 256→t∈looks P G n names ops (bJ ops l q hq)→VR φ (aw (hi t) (lo t) (T q).r) (a.tmps.getD t undef):=fun t ht hl=>
   (xB K hT I hq R ht hl).resolve_right fun ⟨_,_,_,_,g,_⟩=>by rw [hb] at g;cases g
  obtain ⟨_,hsub⟩:=pK (a:=a) D.want D.dst D.op hlk
  have hag:cV (T q).r (bB (T q).r (looks P G n names ops (bJ ops l q hq))) (AI.op op).aF:=fun x y m=>kR x y (hsub _ m)
  have S:St n G φ (bB (T q).r (looks P G n names ops (bJ ops l q hq))) (bh l T k) a w:=St.mk' I.hr (fun t ht=>by
   rw [gT ht]
   split
   ·rename_i hm;exact hlk t ht hm
   ·exact .undef _) I.dM I.size I.fD
  have hy2:y=.op op:=Option.some.inj (hy.symm.trans D.op)
  subst hy2
  obtain ⟨ob,room,val,NS1,NR⟩:=JH (P:=P) (ρ:=a.eval) hy hny (fun _ _ hx=>S.Wb hx) (fun _=>rfl) (show op.run (bB (T q).r (looks P G n names ops (bJ ops l q hq))) (T q).h=.ok v (T (q+1)).h by rw [←nO hag];exact hrun)
  have NS:uW φ (T q).r op ob room val:=⟨fun h v h' e=>NS1.am h v h' (by rw [←nO hag];exact e)⟩
  have hw:Region.wanted (bJ ops l q hq) (yielded ops a.tmps)=true:=by simp [Region.wanted,hg]
  rw [if_pos hw]
  refine .inl ?_
  unfold Oper.wp
  rw [NR w]
  exact hn _ _ _ _ _ (Inv.make K I hq R hy D.dst hb NS)
 | rd m=>
  rw [hb] at hstp
  have hk1:=aqj K I hq R (by rw [hb];simp)
  have hk2:=avx K I hq R hb
  have hlk:∀t,t < 256→t∈looks P G n names ops (bJ ops l q hq)→VR φ (aw (hi t) (lo t) (T q).r) (a.tmps.getD t undef):=fun t ht hl=>
   (xB K hT I hq R ht hl).resolve_right fun ⟨_,_,_,_,g,_⟩=>by rw [hb] at g;cases g
  obtain ⟨hwt,hsub⟩:=pK (a:=a) D.want D.dst D.op hlk
  have heffs:∀q2 (hq2:q2 < l.length),l[q2].2=.dQ→(aV (L.setIfInBounds l[q].1 true) l[q2].1↔ec l q2 < k):=fun q2 hq2 he=>by
   rw [dr K I hq R,←I.fY q2 hq2 he]
   refine ⟨fun h=>h.resolve_right fun g=>?_,.inl⟩
   have:=K.inj q2 q hq2 hq g
   subst this
   rw [he] at hb;cases hb
  have fin:∀cv w' φ₁,HR φ₁ (bh l T k) w'→Step φ (bh l T k) w φ₁ (bh l T k) w'→(∀t,t < 256→(bJ ops l q hq).dst=some t→VR φ₁ v cv)→Kt (a.put (bJ ops l q hq).dst cv) w':=fun cv w' φ₁ h1 h2 h3=>
   hn cv w' φ₁ k pb (Inv.go K I hq R D.dst (by rw [hb];simp) (Nat.le_refl _) I.kle heffs h1 (I.DF.trans h2) h2.le (fun t ht e=>by rw [hreg t ht e];exact h3 t ht e)
    (fun q2 hq2 hp hno=>absurd hp.2.2 hno) (fun q2 hq2 hp _=>by
     obtain ⟨_,_,_,_,_,_,_,b2,_,b4,_⟩:=I.AR q2 hq2 hp
     refine ⟨h2.keeps.rest _ b2 b4,fun i pl hl hpl=>?_⟩
     rcases h2.new i pl hl hpl with ⟨g1,g2⟩|g|⟨j,s,g1,g2,g3⟩
     ·exact b4 i pl g1 g2
     ·omega
     ·rw [←g3];exact b4 j s g1 g2) h2.keeps.size)
  cases wnt with
  | false=>
   rw [if_neg (by rw [hwt];simp)]
   refine fin undef w φ I.hr (.refl _ _ _) fun t _ _=>?_
   rw [hstp.1];exact qD
  | true=>
   rw [if_pos hwt]
   obtain ⟨op,rfl,⟨h1,hrun⟩,hre,_⟩:=hstp
   have hrunk:∃h',op.run (T q).r (bh l T k)=.ok v h':=by
    rcases Nat.lt_or_ge k (ec l q) with g|g
    ·obtain ⟨hj,g1,h',g2⟩:=vV hre (ec l q - 1 - k) (by omega)
     rw [apL hT h0 (by omega) (by omega),show ec l q - 1 - (ec l q - 1 - k)=k by omega] at g1
     cases g1
     exact ⟨h',g2⟩
    ·have:k=ec l q:=by omega
     rw [this,QN hT h0 (by omega)];exact ⟨h1,hrun⟩
   obtain ⟨h2,hrun2⟩:=hrunk
   have hfl:jz (.op op)=true:=by
    have:=K.kind q hq
    rw [hb] at this
    have e:bX P G names (ops.getD l[q].1 default)=some (.op op):=D.op
    simp only [tC,e] at this
    exact this
   have:=pZ hfl hrun2
   subst this
   have hag:cV (T q).r (bB (T q).r (looks P G n names ops (bJ ops l q hq))) (AI.op op).aF:=fun x y m=>kR x y (hsub _ m)
   have hres:(AI.op op).res p run (bB (T q).r (looks P G n names ops (bJ ops l q hq))) (bh l T k)=.ok v (bh l T k):=by
    rw [←vP hag]
    show (op.run _ _).jT=_
    rw [hrun2];rfl
   have S:St n G φ (bB (T q).r (looks P G n names ops (bJ ops l q hq))) (bh l T k) a w:=St.mk' I.hr (fun t ht=>by
    rw [gT ht]
    split
    ·rename_i hm;exact hlk t ht hm
    ·exact .undef _) I.dM I.size I.fD
   refine .inl (qC M CO S D.op D.dst (Co hres) fun v' h' φ₁ cv w' hl S' T'=>?_)
   obtain ⟨rfl,rfl⟩:=zk hres hl
   exact fin cv w' φ₁ S'.hr T' fun t ht e=>by
    have:=S'.Qr t ht
    rw [hregR t ht e,e,aO (Nat.lt_of_lt_of_le (qK D.dst e).2 I.size)] at this
    exact this
 | dQ=>
  rw [hb] at hstp
  have hk:=aqi K I hq R hb
  have hall:∀q2 (hq2:q2 < l.length),q2 < q→l[q2].2=.new→ec l q2=k→aV L l[q2].1:=fun q2 hq2 hlt hnw _=>
   iY K I hq R hq2 (xi K hq2 hq hlt (by rw [hnw];simp) hb) (by omega)
  obtain ⟨φ',a1,a2,a3,a4,a5⟩:=zh K hT h0 hg0 I (q₁:=q) (by omega) hk.symm hall
  have hlk:∀t,t < 256→t∈looks P G n names ops (bJ ops l q hq)→VR φ' (aw (hi t) (lo t) (T q).r) (a.tmps.getD t undef):=fun t ht hl=>by
   rcases xB K hT I hq R ht hl with g|⟨q2,hq2,hlt,hp,_,hd,er⟩
   ·exact g.mono a1
   ·rw [er]
    have h1:=ic (l:=l) (show q2≤q by omega) (by omega)
    have h2:=hp.2.2
    exact a4 q2 hq2 hlt hp.1 (by omega) t ht hd
  obtain ⟨hwt,hsub⟩:=pK (a:=a) D.want D.dst D.op hlk
  have hec:ec l (q+1)=k+1:=by rw [mI hq hb,hk]
  have hbh:bh l T (k+1)=(T (q+1)).h:=by
   rw [←hec,QN hT h0 (by omega)]
   cases wnt with
   | true=>exact hstp.2.1
   | false=>rw [hstp.2.1,hstp.2.2.1]
  have heffs:∀q2 (hq2:q2 < l.length),l[q2].2=.dQ→(aV (L.setIfInBounds l[q].1 true) l[q2].1↔ec l q2 < k+1):=fun q2 hq2 he=>by
   rw [dr K I hq R,I.fY q2 hq2 he]
   constructor
   ·rintro (g|g)
    ·omega
    ·have:=K.inj q2 q hq2 hq g
     subst this;omega
   ·intro g
    rcases Nat.lt_trichotomy q2 q with h|h|h
    ·have:=vU h (by omega) he;left;omega
    ·subst h;exact .inr rfl
    ·have:=vU h (by omega) hb;omega
  have fin:∀cv w' φ₁,HR φ₁ (T (q+1)).h w'→Step φ' (T q).h w φ₁ (T (q+1)).h w'→(∀t,t < 256→(bJ ops l q hq).dst=some t→VR φ₁ v cv)→Kt (a.put (bJ ops l q hq).dst cv) w':=fun cv w' φ₁ h1 h2 h3=>by
   have hec2:=ic (l:=l) (show q+1≤l.length by omega) (Nat.le_refl _)
   refine hn cv w' φ₁ (k+1) pb (Inv.go K I hq R D.dst (by rw [hb];simp) (by omega) (by omega) heffs (by rw [hbh];exact h1) (by rw [hbh];exact a3.trans h2) (aJ.le_trans a1 h2.le) (fun t ht e=>by rw [hreg t ht e];exact h3 t ht e)
    (fun q2 hq2 hp hno t ht e=>?_) (fun q2 hq2 hp hge=>?_) h2.keeps.size)
   ·have e2:ec l q2=k:=by have:=hp.2.2;omega
    have hlt:q2 < q:=by
     rcases Nat.lt_or_ge q2 q with g|g
     ·exact g
     ·have h5:q2≠q:=by rintro rfl;have:=hp.1;rw [hb] at this;cases this
      have:=vU (l:=l) (show q < q2 by omega) (by omega) hb
      omega
    exact (a4 q2 hq2 hlt hp.1 e2 t ht e).mono h2.le
   ·have hgt:q≤q2:=by
     rcases Nat.lt_or_ge q2 q with g|g
     ·have:=ic (l:=l) (show q2≤q by omega) (by omega);omega
     ·exact g
    have b4:=a5 q2 hq2 hp hgt
    obtain ⟨_,_,_,_,_,_,_,b2,_⟩:=I.AR q2 hq2 hp
    refine ⟨h2.keeps.rest _ b2 b4,fun i pl hl hpl=>?_⟩
    rw [hbh] at hl
    rcases h2.new i pl hl hpl with ⟨g1,g2⟩|g|⟨j,s,g1,g2,g3⟩
    ·exact b4 i pl g1 g2
    ·omega
    ·rw [←g3];exact b4 j s g1 g2
  cases wnt with
  | false=>
   rw [if_neg (by rw [hwt];simp)]
   have hh:(T (q+1)).h=(T q).h:=hstp.2.1
   refine fin undef w φ' (by rw [hh];exact a2) (by rw [hh];exact .refl _ _ _) fun t _ _=>?_
   rw [hstp.1];exact qD
  | true=>
   rw [if_pos hwt]
   have hag:cV (T q).r (bB (T q).r (looks P G n names ops (bJ ops l q hq))) x.aF:=fun c y m=>kR c y (hsub _ m)
   have hres:x.res p run (bB (T q).r (looks P G n names ops (bJ ops l q hq))) (T q).h=.ok v (T (q+1)).h:=by
    rw [←vP hag];exact hstp.1
   have S:St n G φ' (bB (T q).r (looks P G n names ops (bJ ops l q hq))) (T q).h a w:=St.mk' a2 (fun t ht=>by
    rw [gT ht]
    split
    ·rename_i hm;exact hlk t ht hm
    ·exact .undef _) I.dM I.size (I.fD.mono a1)
   refine .inl (qC M CO S D.op D.dst (Co hres) fun v' h' φ₁ cv w' hl S' T'=>?_)
   obtain ⟨rfl,rfl⟩:=zk hres hl
   exact fin cv w' φ₁ S'.hr T' fun t ht e=>by
    have:=S'.Qr t ht
    rw [hregR t ht e,e,aO (Nat.lt_of_lt_of_le (qK D.dst e).2 I.size)] at this
    exact this
end
end
section
variable {P:Program} {G:Gl} [NB G] {n:Nat} {names:List String} {ops:Array Oper} {p:Pg} {run:gB} {l:List (Nat×Bk)} {T:Nat→DS} {φ₀ φ φ' φ₁:aJ} {w₀ w w':World} {L:Array Bool} {a:Act} {k k':Nat} {pb:Nat→Nat} {r:A2} {h:Hp} {cv:Value}
theorem iZ (hs:L.size=ops.size) {j:Nat}:j∈Region.ready .any ops L↔¬ aV L j∧∃o,ops[j]?=some o∧∀e,e∈o.after→Region.binds .any e=true→aV L e.on:=by
 rw [mem_ready]
 constructor
 ·rintro ⟨h1,o,h2,h3⟩
  refine ⟨fun g=>?_,o,h2,h3⟩
  have hj:=DZ hs g
  unfold aV at g
  simp only [Array.getD_eq_getD_getElem?] at g h1
  rw [Array.getElem?_eq_getElem (by omega)] at g h1
  rw [Option.getD_some] at g h1
  rw [g] at h1;cases h1
 ·rintro ⟨h1,o,h2,h3⟩
  refine ⟨?_,o,h2,h3⟩
  have hj:j < L.size:=by rw [hs];exact (Array.getElem?_eq_some_iff.1 h2).1
  unfold aV at h1
  simp only [Array.getD_eq_getD_getElem?] at h1 ⊢
  rw [Array.getElem?_eq_getElem hj] at h1 ⊢
  rw [Option.getD_some] at h1 ⊢
  simpa using h1
theorem ua (K:Au P G n names ops l) (hs:L.size=ops.size) (hr:Region.ready .any ops L=[]):∀j,j < ops.size→aV L j:=by
 have go:∀m j,(nQ ops.toList).getD j 0=m→j < ops.size→aV L j:=by
  intro m
  induction m using Nat.strongRecOn with
  | _ m ih=>
   intro j hm hj
   apply Classical.byContradiction
   intro hn
   have:j∈Region.ready .any ops L:=(iZ hs).2 ⟨hn,ops[j],by simp [hj],fun e he hb=>by
    have:=K.lt j ops[j] (by simp [hj]) e he hb
    exact ih _ (by omega) e.on rfl this.1⟩
   rw [hr] at this;cases this
 exact fun j hj=>go _ j rfl hj
section
variable (K:Au P G n names ops l) (hT:Trace P G n names ops p run l T) (h0:(T 0).hs=[]) (hg0:(T 0).g=(T 0).h)
include K hT h0 hg0
theorem Cp (I:Inv P G n names ops l T φ₀ w₀ L a w φ k pb) (hall:∀j,j < ops.size→aV L j):∃φ',St n G φ' (T l.length).r (T l.length).h a w∧Step φ₀ (bh l T 0) w₀ φ' (T l.length).h w:=by
 have hk:ec l l.length=k:=by
  rcases Nat.lt_or_ge k (ec l l.length) with g|g
  ·obtain ⟨q,hq,_,he,e⟩:=nT (Nat.le_refl _) g
   have:=(I.fY q hq he).1 (hall _ (K.bnd q hq))
   omega
  ·have:=I.kle;omega
 obtain ⟨φ',a1,a2,a3,a4,_⟩:=zh K hT h0 hg0 I (q₁:=l.length) (Nat.le_refl _) hk fun q hq _ _ _=>hall _ (K.bnd q hq)
 refine ⟨φ',St.mk' a2 (fun t ht=>?_) I.dM I.size (I.fD.mono a1),a3⟩
 obtain ⟨ra,rb⟩:=Jd K hT (q:=l.length) (Nat.le_refl _) ht
 by_cases hw:∃q2,∃hq2:q2 < l.length,(bJ ops l q2 hq2).dst=some t
 ·obtain ⟨q2,hq2,hd⟩:=hw
  rw [ra q2 hq2 hd hq2]
  have hl2:=hall _ (K.bnd q2 hq2)
  by_cases hp:jP l L k q2 hq2
  ·have h1:=ic (l:=l) (show q2≤l.length by omega) (Nat.le_refl _)
   have h2:=hp.2.2
   exact a4 q2 hq2 hq2 hp.1 (by omega) t ht hd
  ·exact (I.new t ht q2 hq2 hd hl2 hp).mono a1
 ·rw [rb fun q1 h1 e1=>absurd ⟨q1,h1,e1⟩ hw]
  exact (I.old t ht fun q1 h1 e1=>absurd ⟨q1,h1,e1⟩ hw).mono a1
theorem Cq (M:mA P names p.ms) (CO:cS P G p run) {Q:Exit→Act→World→Prop} (hQ:∀φ' a w,St n G φ' (T l.length).r (T l.length).h a w→Step φ₀ (bh l T 0) w₀ φ' (T l.length).h w→Q .normal a w) :
  ∀(fuel:Nat) (L:Array Bool) (a:Act) (w:World) (φ:aJ) (k:Nat) (pb:Nat→Nat) (U:List Nat),Inv P G n names ops l T φ₀ w₀ L a w φ k pb→U.length≤fuel→(∀j,j < ops.size→¬ aV L j→j∈U)→
   wpAny P .any ops Q fuel L a w
 | 0,L,a,w,φ,k,pb,U,I,hl,hU=>by
  have hall:∀j,j < ops.size→aV L j:=fun j hj=>Classical.byContradiction fun hn=>by
   have:=hU j hj hn
   have e:U=[]:=List.eq_nil_of_length_eq_zero (by omega)
   rw [e] at this;cases this
  obtain ⟨φ',S,T'⟩:=Cp K hT h0 hg0 I hall
  refine ⟨List.eq_nil_iff_forall_not_mem.2 fun j hj=>?_,hQ φ' a w S T'⟩
  obtain ⟨h1,o,h2,_⟩:=(iZ I.sz).1 hj
  exact h1 (hall j (Array.getElem?_eq_some_iff.1 h2).1)
 | fuel+1,L,a,w,φ,k,pb,U,I,hl,hU=>by
  refine ⟨fun hr=>?_,fun i hi=>?_⟩
  ·obtain ⟨φ',S,T'⟩:=Cp K hT h0 hg0 I (ua K I.sz hr)
   exact hQ φ' a w S T'
  ·obtain ⟨h1,o,h2,h3⟩:=(iZ I.sz).1 hi
   have hi':i < ops.size:=(Array.getElem?_eq_some_iff.1 h2).1
   obtain ⟨q,hq,rfl⟩:=K.cover i hi'
   have R:Rdy ops l L q hq:=⟨h1,by
    have:=cu K hq
    rw [this] at h2
    cases h2;exact h3⟩
   refine JI K hT I hq R M CO h0 hg0 fun cv w' φ₁ k' pb' I'=>?_
   have hm:=hU _ hi' h1
   refine Cq M CO hQ fuel _ _ _ _ _ _ (U.erase l[q].1) I' (by rw [List.length_erase_of_mem hm];omega) fun j hj hn=>?_
   have hn':=fun g=>hn ((dr K I hq R).2 g)
   exact (List.mem_erase_of_ne fun e=>hn' (.inr e)).2 (hU j hj fun g=>hn' (.inl g))
end
theorem Rt (E:Env P G names p):We P G names p:=by
 intro n run CO ops l kf r h φ a w Q hd S hs hQ
 have K:=IZ hd
 obtain ⟨T,t1,t2,t3⟩:=yO l ⟨r,h,h,[]⟩ (fun q hq=>by
  cases hb:l[q].2 with
  | dQ=>exact .inl rfl
  | rd m=>
   have:=K.kind q hq
   rw [hb] at this
   simp only [tC] at this
   right
   split at this
   ·rename_i x hx
    refine ⟨?_,?_⟩
    ·cases x with
     | op o=>exact o
     | _=>cases this
    ·cases x with
     | op o=>exact hx
     | _=>cases this
   ·cases this
  | new=>
   obtain ⟨_,⟨x,hx,hn⟩,_⟩:=gS K hq hb
   right
   cases x with
   | op o=>exact ⟨o,hx⟩
   | _=>cases hn) hs
 have hT:Trace P G n names ops p run l T:=t2
 have h0:(T 0).hs=[]:=by rw [t1]
 have hg0:(T 0).g=(T 0).h:=by rw [t1]
 have hb0:bh l T 0=h:=by
  have:=QN hT h0 (q:=0) (by omega)
  rw [BW] at this
  rw [this,t1]
 have hnl:∀j,¬ aV (Array.replicate ops.size false) j:=fun j hj=>by
  unfold aV at hj
  simp only [Array.getD_eq_getD_getElem?,Array.getElem?_replicate] at hj
  split at hj<;>cases hj
 have S1:Step φ h w φ h {w with drawn:=w.drawn+1}:=Step.heap rfl rfl rfl rfl
 have I:Inv P G n names ops l T φ w (Array.replicate ops.size false) a {w with drawn:=w.drawn+1} φ 0 (fun _=>0):=by
  refine ⟨by simp,fun j o _ hl=>absurd hl (hnl j),by omega,fun q hq _=>⟨fun hl=>absurd hl (hnl _),fun g=>by omega⟩,?_,?_,S.dM,S.size,S.fD,fun q hq hp=>absurd hp.2.1 (hnl _),fun q q' hq hq' hp=>absurd hp.2.1 (hnl _),fun t ht _=>?_,fun t ht q hq _ hl=>absurd hl (hnl _)⟩
  ·rw [hb0];exact S.hr.ext (Nat.le_refl _) fun _ _=>rfl
  ·rw [hb0];exact S1
  ·rw [t1];exact S.Qr t ht
 refine (Cq K hT h0 hg0 E.ms CO (fun φ' a' w' S' T'=>?_) ops.size _ _ _ _ _ _ (List.range ops.size) I (by simp) fun j hj _=>List.mem_range.2 hj)
 rw [hb0] at T'
 exact hQ _ _ φ' _ _ t3 S' T'
theorem A1.set_comm {i j:H} (h:i≠j) (u v:AV) (x:A1):A1.set i u (A1.set j v x)=A1.set j v (A1.set i u x):=by
 cases i<;>cases j<;>first|exact absurd rfl h|(cases x<;>rfl)
theorem A2.set_comm {i j:H} (h:i≠j) (u v:A1) (x:A2):A2.set i u (A2.set j v x)=A2.set j v (A2.set i u x):=by
 cases i<;>cases j<;>first|exact absurd rfl h|(cases x<;>rfl)
theorem A2.set_set (i:H) (u v:A1) (x:A2):A2.set i u (A2.set i v x)=A2.set i u x:=by
 cases i<;>cases x<;>rfl
theorem Ea {a b c d:H} (h:¬ (a=c∧b=d)) (u v:AV) (r:A2):eL a b u (eL c d v r)=eL c d v (eL a b u r):=by
 unfold eL
 by_cases e:a=c
 ·subst e
  have hb:b≠d:=fun g=>h ⟨rfl,g⟩
  rw [A2.set_set,A2.set_set,A2.bG,A2.bG,if_pos rfl,if_pos rfl,A1.set_comm hb]
 ·rw [A2.bG,A2.bG,if_neg e,if_neg (fun g=>e g.symm),A2.set_comm e]
def aL.ne (d e:aL):Prop:=match d,e with
 | .t a b,.t c d=>¬ (a=c∧b=d)
 | _,_=>True
theorem Eb {d e:aL} (h:d.ne e) (u v:AV) (r:A2):bI d u (bI e v r)=bI e v (bI d u r):=by
 cases d with
 | no=>rfl
 | t a b=>
  cases e with
  | no=>rfl
  | t c f=>exact Ea h u v r
def Rds (cf:Cf) (iv:Iv) (g:GI) (d:aL):Prop:=∀(k:A2→Hp→RS) (r:A2) (h:Hp),(g.cE cf iv k r h).Safe→∃v,∀(k':A2→Hp→RS) (r':A2),cV r r' g.aF→g.cE cf iv k' r' h=k' (bI d v r') h
def Wx (G:Gl) (n:Nat) (o:Oper):aL:=(gG G n o.dst).getD .no
theorem JJ {cf:Cf} {iv:Iv} {d:aL} {op:ox} (hf:jz (.op op)=true) {k:A2→Hp→RS} {r:A2} {h:Hp} (hs:((AI.op op).cE cf iv d k r h).Safe) :
  ∃v,∀(k':A2→Hp→RS) (r':A2),cV r r' op.aF→(AI.op op).cE cf iv d k' r' h=k' (bI d v r') h:=by
 have hs:(yp d k r (op.run r h)).Safe:=hs
 cases hr:op.run r h with
 | err m=>rw [hr] at hs;exact (RS.Safe.err hs).elim
 | ok v h1=>
  have:=pZ hf hr
  subst this
  refine ⟨v,fun k' r' ag=>?_⟩
  show yp d k' r' (op.run r' h1)=_
  rw [←nO ag,hr];rfl
theorem JK {cf:Cf} {iv:Iv} {o:Oper} (hf:(match bX P G names o with|some x=>jz x|none=>false)=true):Rds cf iv (fL P G n names ops o) (Wx G n o):=by
 intro k r h hs
 have hbad:¬ (nF.cE cf iv k r h).Safe:=fun hh=>RS.Safe.err (n:=400) hh
 unfold fL at hs ⊢
 split at hs
 ·rename_i d x hd hx
  have hd2:Wx G n o=d:=by unfold Wx;rw [hd];rfl
  rw [hx] at hf
  have hx2:∃op,x=.op op:=by
   cases x with
   | op op=>exact ⟨op,rfl⟩
   | _=>cases hf
  obtain ⟨op,rfl⟩:=hx2
  rw [hd2]
  split at hs
  ·exact JJ (cf:=cf) (iv:=iv) (op:=op) hf hs
  ·rename_i j w hg
   split at hs
   ·rename_i t ht
    split at hs
    ·rename_i s hsl
     try simp only [hsl]
     have hs:(AV.bE (gb w (aw (hi s) (lo s) r)) (fun t=>@Bool.rec (fun _=>RS) (k (bI d cm r) h) ((AI.op op).cE cf iv d k r h) (eK t w)) (.err 210)).Safe:=hs
     obtain ⟨c,hc,e⟩:=eP hs
     rw [e] at hs
     have hreg:∀r',cV r r' (GI.g (hi s) (lo s) w d (.op op)).aF→aw (hi s) (lo s) r'=aw (hi s) (lo s) r:=fun r' ag=>(ag (hi s) (lo s) (List.mem_cons_self ..)).symm
     have hsub:∀r',cV r r' (GI.g (hi s) (lo s) w d (.op op)).aF→cV r r' op.aF:=fun r' ag x y m=>ag x y (List.mem_cons_of_mem _ m)
     have hs:(@Bool.rec (fun _=>RS) (k (bI d cm r) h) ((AI.op op).cE cf iv d k r h) (eK c w)).Safe:=hs
     cases hcw:eK c w with
     | false=>
      refine ⟨cm,fun k' r' ag=>?_⟩
      show AV.bE (gb w (aw (hi s) (lo s) r')) (fun t=>@Bool.rec (fun _=>RS) (k' (bI d cm r') h) ((AI.op op).cE cf iv d k' r' h) (eK t w)) (.err 210)=_
      rw [hreg r' ag,hc]
      show (@Bool.rec (fun _=>RS) (k' (bI d cm r') h) ((AI.op op).cE cf iv d k' r' h) (eK c w))=_
      rw [hcw]
     | true=>
      rw [hcw] at hs
      obtain ⟨v,hv⟩:=JJ (cf:=cf) (iv:=iv) (op:=op) hf (show ((AI.op op).cE cf iv d k r h).Safe from hs)
      refine ⟨v,fun k' r' ag=>?_⟩
      show AV.bE (gb w (aw (hi s) (lo s) r')) (fun t=>@Bool.rec (fun _=>RS) (k' (bI d cm r') h) ((AI.op op).cE cf iv d k' r' h) (eK t w)) (.err 210)=_
      rw [hreg r' ag,hc]
      show (@Bool.rec (fun _=>RS) (k' (bI d cm r') h) ((AI.op op).cE cf iv d k' r' h) (eK c w))=_
      rw [hcw]
      exact hv k' r' (hsub r' ag)
    ·exact absurd hs hbad
   ·exact absurd hs hbad
 ·exact absurd hs hbad
theorem Cr {cf:Cf} {iv:Iv} {kf:A2→Hp→RS} {x:GI} {dx:aL} (hx:Rds cf iv x dx) {B:List GI}:∀(A:List GI) (r:A2) (h:Hp),
  (∀y,y∈A→∃dy,Rds cf iv y dy∧dy.ne dx∧(∀r v,cV r (bI dy v r) x.aF)∧∀r v,cV r (bI dx v r) y.aF)→
  (eB cf iv kf (A ++ x::B) r h).Safe→eB cf iv kf (A ++ x::B) r h=eB cf iv kf (x::(A ++ B)) r h
 | [],r,h,_,_=>rfl
 | y::A,r,h,hA,hs=>by
  obtain ⟨dy,hy,hne,h1,h2⟩:=hA y (by simp)
  have hs':(y.cE cf iv (eB cf iv kf (A ++ x::B)) r h).Safe:=hs
  obtain ⟨vy,ey⟩:=hy _ _ _ hs'
  have e1:=ey (eB cf iv kf (A ++ x::B)) r (fun _ _ _=>rfl)
  show y.cE cf iv (eB cf iv kf (A ++ x::B)) r h=x.cE cf iv (y.cE cf iv (eB cf iv kf (A ++ B))) r h
  rw [e1] at hs' ⊢
  have ih:=Cr hx A (bI dy vy r) h (fun z hz=>hA z (by simp [hz])) hs'
  rw [ih] at hs' ⊢
  have hs2:(x.cE cf iv (eB cf iv kf (A ++ B)) (bI dy vy r) h).Safe:=hs'
  obtain ⟨vx,ex⟩:=hx _ _ _ hs2
  have e2:=ex (eB cf iv kf (A ++ B)) _ (fun _ _ _=>rfl)
  have e3:=ex (y.cE cf iv (eB cf iv kf (A ++ B))) r (fun a b m=>(h1 r vy a b m).symm)
  show x.cE cf iv (eB cf iv kf (A ++ B)) (bI dy vy r) h=_
  rw [e2,e3,ey _ _ (h2 r vx),Eb hne]
structure Ahd (ops:Array Oper) (x y:Nat×Bk):Prop where
 a:x.2=.dQ→Bf ops x.1 y.1
 b:y.2=.dQ→Bf ops x.1 y.1
 c:IY ops y.1 x.1≠true
 d:x.1≠y.1
theorem qL (A0:xc l=true) {x:Nat×Bk} (hx:x∈l):x.2=.dQ∨x.2=.rd 0:=by
 have:=List.all_eq_true.1 A0 x hx
 obtain ⟨i,b⟩:=x
 cases b with
 | dQ=>exact .inl rfl
 | rd m=>
  cases m with
  | zero=>exact .inr rfl
  | succ m=>cases this
 | new=>cases this
theorem Ru (K:Au P G n names ops l) (A0:xc l=true):l.Pairwise (Ahd ops):=by
 rw [List.pairwise_iff_getElem]
 intro p q hp hq hpq
 have kq:=qL A0 (List.getElem_mem hq)
 have kp:=qL A0 (List.getElem_mem hp)
 have h1:l[p].2=.dQ→Bf ops l[p].1 l[q].1:=fun he=>by
  rcases kq with g|g
  ·exact Ja K hp hq hpq he g
  ·exact (Wi K hq g).2 p hpq he (by have:=vU (l:=l) hpq (by omega) he;omega)
 refine ⟨h1,fun he=>?_,fun g=>?_,fun g=>?_⟩
 ·rcases kp with g|g
  ·exact h1 g
  ·exact xi K hp hq hpq (by rw [g];simp) he
 ·rcases K.ord q p hq hp g with g1|⟨g1,_⟩
  ·omega
  ·rcases kq with g2|g2<;>rw [g2] at g1<;>cases g1
 ·have:=K.inj p q hp hq g
  omega
section
variable (K:Au P G n names ops l) (A0:xc l=true)
include K A0
theorem avz (M:mA P names p.ms) (CO:cS P G p run) {kf:A2→Hp→RS} {Q:Exit→Act→World→Prop} :
  ∀(fuel:Nat) (U:List (Nat×Bk)) (L:Array Bool) (r:A2) (h:Hp) (φ:aJ) (a:Act) (w:World),U.Sublist l→L.size=ops.size→ClL ops L→(∀x,x∈l→(aV L x.1↔x ∉ U))→U.length≤fuel→
   St n G φ r h a w→(eB (aD p run) (aH p run) kf (gM P G n names ops U) r h).Safe→
   (∀r' h' φ' a' w',(∀z,(kf r' h').aG z→(eB (aD p run) (aH p run) kf (gM P G n names ops U) r h).aG z)→St n G φ' r' h' a' w'→Step φ h w φ' h' w'→Q .normal a' w')→wpAny P .any ops Q fuel L a w:=by
 intro fuel
 induction fuel with
 | zero=>
  intro U L r h φ a w hU hs hC hL hl S hsafe hQ
  have e:U=[]:=List.eq_nil_of_length_eq_zero (by omega)
  subst e
  refine ⟨List.eq_nil_iff_forall_not_mem.2 fun j hj=>?_,hQ r h φ a w (fun _ hz=>hz) S (.refl _ _ _)⟩
  obtain ⟨h1,o,h2,_⟩:=(iZ hs).1 hj
  obtain ⟨q,hq,rfl⟩:=K.cover j (Array.getElem?_eq_some_iff.1 h2).1
  exact h1 ((hL _ (List.getElem_mem hq)).2 (by simp))
 | succ fuel ih=>
  intro U L r h φ a w hU hs hC hL hl S hsafe hQ
  refine ⟨fun hr=>?_,fun i hi0=>?_⟩
  ·have e:U=[]:=List.eq_nil_iff_forall_not_mem.2 fun x hx=>by
    have hxl:=hU.subset hx
    obtain ⟨q,hq,rfl⟩:=List.getElem_of_mem hxl
    exact (hL _ hxl).1 (ua K hs hr _ (K.bnd q hq)) hx
   subst e
   exact hQ r h φ a w (fun _ hz=>hz) S (.refl _ _ _)
  ·obtain ⟨h1,o,h2,h3⟩:=(iZ hs).1 hi0
   have hi':i < ops.size:=(Array.getElem?_eq_some_iff.1 h2).1
   obtain ⟨q,hq,rfl⟩:=K.cover i hi'
   have hxl:l[q]∈l:=List.getElem_mem hq
   generalize hx:l[q]=x at h1 h2 h3 hxl hi'
   have hxU:x∈U:=Classical.byContradiction fun g=>h1 ((hL x hxl).2 g)
   obtain ⟨A,B,rfl⟩:=List.append_of_mem hxU
   have hlm:∀j,aV (L.setIfInBounds x.1 true) j↔aV L j∨j=x.1:=fun j=>tZ (by rw [hs];exact hi')
   have hC':ClL ops (L.setIfInBounds x.1 true):=by
    intro j oj hj hlj e he hb
    rw [hlm] at hlj ⊢
    rcases hlj with hlj|rfl
    ·exact .inl (hC j oj hj hlj e he hb)
    ·rw [h2] at hj;cases hj
     exact .inl (h3 e he hb)
   have hpw:=(Ru K A0).sublist hU
   obtain ⟨_,hpB,hAB⟩:=List.pairwise_append.1 hpw
   have hAx:∀y,y∈A→Ahd ops y x:=fun y hy=>hAB y hy x (by simp)
   have hnbf:∀y,y∈A→¬ Bf ops y.1 x.1:=fun y hy hb=>by
    have:=hb _ hC' ((hlm _).2 (.inr rfl))
    rcases (hlm _).1 this with g|g
    ·exact (hL y (hU.subset (by simp [hy]))).1 g (by simp [hy])
    ·exact (hAx y hy).d g
   have hox:bJ ops l q hq=o:=by
    have:=cu K hq
    rw [hx,h2] at this
    exact (Option.some.inj this).symm
   have hgd:∀y,y∈l→∃oy,ops[y.1]?=some oy∧ops.getD y.1 default=oy:=fun y hy=>by
    obtain ⟨q',hq',rfl⟩:=List.getElem_of_mem hy
    exact ⟨_,cu K hq',rfl⟩
   have hgx:ops.getD x.1 default=o:=by
    obtain ⟨oy,e1,e2⟩:=hgd x hxl
    rw [h2] at e1;cases e1;exact e2
   have hrow:gM P G n names ops (A ++ x::B)=gM P G n names ops A ++ fL P G n names ops o::gM P G n names ops B:=by
    unfold gM;rw [List.map_append,List.map_cons];rw [←hgx]
   have hrow2:gM P G n names ops (A ++ B)=gM P G n names ops A ++ gM P G n names ops B:=by
    unfold gM;rw [List.map_append]
   have hmove:eB (aD p run) (aH p run) kf (gM P G n names ops (A ++ x::B)) r h=(fL P G n names ops o).cE (aD p run) (aH p run) (eB (aD p run) (aH p run) kf (gM P G n names ops (A ++ B))) r h:=by
    rw [hrow] at hsafe ⊢
    rw [hrow2]
    cases hA:A with
    | nil=>rfl
    | cons y0 A1=>
     rw [hA] at hAx hnbf hsafe
     have hrdx:x.2=.rd 0:=(qL A0 hxl).resolve_left fun g=>hnbf y0 (by simp) ((hAx y0 (by simp)).b g)
     have fl:∀y,y∈l→y.2=.rd 0→(match bX P G names (ops.getD y.1 default) with|some x=>jz x|none=>false)=true:=fun y hy g=>by
      obtain ⟨q',hq',rfl⟩:=List.getElem_of_mem hy
      have:=K.kind q' hq'
      rw [g] at this
      exact this
     have hfx:=fl x hxl hrdx
     rw [hgx] at hfx
     refine Cr (JK hfx) _ r h (fun g hg=>?_) hsafe
     obtain ⟨y,hy,rfl⟩:=List.mem_map.1 hg
     have hyl:y∈l:=hU.subset (by rw [hA];exact List.mem_append_left _ hy)
     have hrdy:y.2=.rd 0:=(qL A0 hyl).resolve_left fun g=>hnbf y hy ((hAx y hy).a g)
     obtain ⟨oy,y1,y2⟩:=hgd y hyl
     have hfy:=fl y hyl hrdy
     have key:∀t,(t∈looks P G n names ops o∧oy.dst=some t)∨(t∈looks P G n names ops oy∧o.dst=some t)→False:=fun t ht=>by
      rcases ht with ⟨g1,g2⟩|⟨g1,g2⟩
      ·rcases K.look x.1 y.1 o oy t h2 y1 g1 g2 with g|g|g
       ·exact (hAx y hy).d g.symm
       ·exact (hAx y hy).c g
       ·exact hnbf y hy (gQ g)
      ·rcases K.look y.1 x.1 oy o t y1 h2 g1 g2 with g|g|g
       ·exact (hAx y hy).d g
       ·exact hnbf y hy (gQ g)
       ·exact (hAx y hy).c g
     have agr:∀(o1:Oper) (rg:List Nat),(∀t,t∈rg→o1.dst≠some t)→∀r v,cV r (bI (Wx G n o1) v r) rg:=fun o1 rg hno r v c e m=>by
      unfold Wx
      cases hd:gG G n o1.dst with
      | none=>rfl
      | some d=>
       cases ho:o1.dst with
       | none=>rw [ho] at hd;cases hd;rfl
       | some t=>
        rw [ho] at hd
        obtain ⟨t1,t2,rfl⟩:=iM hd
        show aw c e r=aw c e (eL (hi t) (lo t) v r)
        rw [eO]
        split
        ·rename_i g
         obtain ⟨rfl,rfl⟩:=g
         rw [zi t1] at m
         exact absurd ho (hno t m)
        ·rfl
     refine ⟨Wx G n (ops.getD y.1 default),JK hfy,?_,?_,?_⟩
     ·rw [y2]
      unfold Wx
      cases hd:gG G n oy.dst with
      | none=>trivial
      | some d=>
       cases hd':gG G n o.dst with
       | none=>cases d<;>trivial
       | some d'=>
        cases ho:oy.dst with
        | none=>rw [ho] at hd;cases hd;trivial
        | some t=>
         cases ho':o.dst with
         | none=>rw [ho'] at hd';cases hd';cases d<;>trivial
         | some t'=>
          rw [ho] at hd;rw [ho'] at hd'
          obtain ⟨t1,t2,rfl⟩:=iM hd
          obtain ⟨u1,u2,rfl⟩:=iM hd'
          show ¬ (hi t=hi t'∧lo t=lo t')
          intro g
          have g:=(Dw t1 u1).1 g
          subst g
          exact (hAx y hy).d (K.dst _ _ _ _ t y1 h2 ho ho')
     ·rw [y2];exact agr oy _ fun t ht g=>key t (.inl ⟨ht,g⟩)
     ·show ∀r v,cV r (bI (Wx G n o) v r) (fL P G n names ops (ops.getD y.1 default)).aF
      rw [y2];exact agr o _ fun t ht g=>key t (.inr ⟨ht,g⟩)
   rw [hmove,tw] at hsafe
   rw [hmove,tw] at hQ
   refine Wc M CO S h2 hsafe fun r' h' φ' a' w' s1 s2 S' T=>?_
   refine ih (A ++ B) _ r' h' φ' a' w' (List.Sublist.trans (by simp) hU) (by rw [Array.size_setIfInBounds];exact hs) hC' (fun z hz=>?_) (by simp at hl ⊢;omega) S' s1 fun r'' h'' φ'' a'' w'' e1 S'' T'=>hQ r'' h'' φ'' a'' w'' (fun z hz=>s2 z (e1 z hz)) S'' (T.trans T')
   rw [hlm,hL z hz]
   have hnx:x ∉ A ++ B:=by
    intro g
    rcases List.mem_append.1 g with g|g
    ·exact (hAx x g).d rfl
    ·exact ((List.pairwise_cons.1 hpB).1 x g).d rfl
   constructor
   ·rintro (g|g)
    ·intro g2;exact g (by rcases List.mem_append.1 g2 with g3|g3<;>simp [g3])
    ·have:z=x:=by
      obtain ⟨q1,hq1,rfl⟩:=List.getElem_of_mem hz
      have:=K.inj q1 q hq1 hq (by rw [hx];exact g)
      subst this;exact hx
     rw [this];exact hnx
   ·intro g
    by_cases e:z=x
    ·exact .inr (by rw [e])
    ·left
     intro g2
     rcases List.mem_append.1 g2 with g3|g3
     ·exact g (by simp [g3])
     ·rcases List.mem_cons.1 g3 with g4|g4
      ·exact e g4
      ·exact g (by simp [g4])
end
theorem Rv (E:Env P G names p):apB P G names p:=by
 intro n run CO ops l kf r h φ a w Q hd h0 S hs hQ
 have K:=IZ hd
 have hnl:∀j,¬ aV (Array.replicate ops.size false) j:=fun j hj=>by
  unfold aV at hj
  simp only [Array.getD_eq_getD_getElem?,Array.getElem?_replicate] at hj
  split at hj<;>cases hj
 have S1:Step φ h w φ h {w with drawn:=w.drawn+1}:=Step.heap rfl rfl rfl rfl
 refine avz K h0 E.ms CO (kf:=kf) ops.size l _ r h φ a _ (.refl _) (by simp) (fun j o _ hl=>absurd hl (hnl j)) (fun x hx=>⟨fun g=>absurd g (hnl _),fun g=>absurd hx g⟩) (Nat.le_of_eq K.len) ⟨S.hr.ext (Nat.le_refl _) fun _ _=>rfl,S.aF,S.dM,S.size,S.fD⟩ hs fun r' h' φ' a' w' e1 S' T=>hQ r' h' φ' a' w' e1 S' (S1.trans T)
theorem ew (E:Env P G names p):xd P G names p:=⟨Rt E,Rv E⟩
theorem Ci (E:Env P G names p) (m f:Nat) (args:List AV) (vals:List Value) (hg:mz G φ) (H:HR φ h w) (hv:bS φ args vals) (hs:(aD p (exec p m) f args h).Safe) (hb:∀k,cn f p.fs≠.ext k) :
  Calls P f vals.toArray w (dB φ h w (aD p (exec p m) f args h)):=QE E (ew E) m f args vals hg H hv hs hb
end
section
variable {P:Program} {G:Gl} {names:List String}
def JL (P:Program) (G:Gl) (names:List String) (f:Nat) (x:AF):Prop:=match x with
 | .none=>True
 | .mk body res=>mT P G names f body res
 | .mW k body res=>mT P G names f body res∧eA P G k f
 | .Es body res=>mT P G names f body res
 | .ext k=>iP P G k f
theorem Rw {n:Nat} (h:15≤n):bO n=.hf:=by
 obtain ⟨m,rfl⟩:∃m,n=m+15:=⟨n - 15,by omega⟩
 rfl
theorem F1.get_nil (d:H):F1.get d .nil=.none:=by cases d<;>rfl
theorem F2.get_nil (d:H):F2.get d .nil=.nil:=by cases d<;>rfl
def Row (P:Program) (G:Gl) (names:List String) (b:Nat) (x:F1):Prop:=∀c:H,JL P G names (16 * b+c.nat) (F1.get c x)
def zl (P:Program) (G:Gl) (names:List String) (a:Nat) (x:F2):Prop:=∀b:H,Row P G names (16 * a+b.nat) (F2.get b x)
theorem Cs (b:Nat):Row P G names b .nil:=fun c=>by rw [F1.get_nil];trivial
theorem JM (a:Nat):zl P G names a .nil:=fun b=>by rw [F2.get_nil];exact Cs _
theorem JN {fs:F3} (h:∀a:H,zl P G names a.nat (F3.get a fs)) (ht:F3.get .hf fs=.nil) (f:Nat):JL P G names f (cn f fs):=by
 show JL P G names f (F1.get (bO (f % 16)) (F2.get (bO (f / 16 % 16)) (F3.get (bO (f / 256)) fs)))
 rcases Nat.lt_or_ge (f / 256) 16 with g|g
 ·have:=h (bO (f / 256)) (bO (f / 16 % 16)) (bO (f % 16))
  rw [fh g,fh (by omega),fh (by omega)] at this
  rw [show 16 * (16 * (f / 256)+f / 16 % 16)+f % 16=f by omega] at this
  exact this
 ·rw [Rw (by omega:15≤f / 256),ht,F2.get_nil,F1.get_nil];trivial
theorem alr {p:Pg} (mixed:P.follows .mixedOrders=true) (ms:mA P names p.ms) (h:∀a:H,zl P G names a.nat (F3.get a p.fs)) (ht:F3.get .hf p.fs=.nil):Env P G names p:=
 ⟨mixed,ms,fun f=>JN h ht f⟩
end
section
variable {P:Program} {G:Gl} {names:List String}
def ms1 (P:Program) (names:List String) (t k f:Nat):Bool:=match names[k]?,P.info? t,P.underlying t with
 | some name,some info,some (.pointer _)=>match info.methods.find? (·.name == name) with
  | some m=>m.path.isEmpty&&(match m.func with|some (g,true)=>g == f|_=>false)
  | none=>false
 | _,_,_=>false
def msB (P:Program) (names:List String):List MR→Bool
 | []=>true
 | .mk t k f::l=>ms1 P names t k f&&msB P names l
theorem als {t k f:Nat} (h:ms1 P names t k f=true):∃name info m e,names[k]?=some name∧P.info? t=some info∧info.methods.find? (·.name == name)=some m∧m.path=#[]∧m.func=some (f,true)∧P.underlying t=some (.pointer e):=by
 unfold ms1 at h
 split at h
 ·rename_i name info e h1 h2 h3
  split at h
  ·rename_i m h4
   simp only [Bool.and_eq_true] at h
   obtain ⟨h5,h6⟩:=h
   split at h6
   ·rename_i g h7
    refine ⟨name,info,m,e,h1,h2,h4,by simpa using h5,?_,h3⟩
    rw [h7,(by simpa using h6:g=f)]
   ·cases h6
  ·cases h
 ·cases h
theorem JO:∀{l:List MR},msB P names l=true→mA P names l
 | [],_=>fun t k f hm=>by cases hm
 | .mk t k f::l,h=>by
  simp only [msB,Bool.and_eq_true] at h
  intro t' k' f' hm
  rcases List.mem_cons.1 hm with e|hm
  ·cases e;exact als h.1
  ·exact JO h.2 t' k' f' hm
end
end Go.Am
