/- What a function leads to, reckoned by a table. Nothing is asked. -/
import Derived.JoinedOf
import GoSem.ClaimGoes
set_option linter.all false
namespace Go.Am
inductive BT where
 | leaf (l:List Nat)
 | node (a b:BT)
noncomputable def BT.get (t:BT):Nat→List Nat:=BT.rec (motive:=fun _=>Nat→List Nat) (fun l _=>l) (fun _ _ ia ib i=>Nat.rec (ia (Nat.div i 2)) (fun _ _=>ib (Nat.div i 2)) (Nat.mod i 2)) t
noncomputable def fv (t:BT) (n:Nat):List Nat→List Nat→Nat→List Nat:=Nat.rec (motive:=fun _=>List Nat→List Nat→Nat→List Nat) (fun _ seen _=>seen.reverse)
 (fun _ ih todo seen m=>List.rec (motive:=fun _=>List Nat) seen.reverse (fun f todo _=>Bool.rec (ih (List.append (t.get f) todo) (f::seen) (m ||| 2 ^ f)) (ih todo seen m) (Nat.testBit m f)) todo) n
theorem Gs {P:Program} {t:BT} {N:Nat} (h:∀g,g < N→(P.funcs[g]?).elim [] P.leadsTo=t.get g∧∀x∈t.get g,x < N) :
  ∀(n:Nat) (todo seen:List Nat) (m:Nat),(∀x∈todo,x < N)→(∀g,Nat.testBit m g=seen.contains g)→P.closureVia n todo seen=fv t n todo seen m
 | 0,todo,seen,m,_,_=>by cases todo<;>rfl
 | n+1,[],seen,m,_,_=>rfl
 | n+1,f::todo,seen,m,ht,hm=>by
  have hf:f < N:=ht f (by simp)
  have ht':∀x∈todo,x < N:=fun x hx=>ht x (by simp [hx])
  obtain ⟨h1,h2⟩:=h f hf
  show (if seen.contains f then P.closureVia n todo seen else P.closureVia n ((P.funcs[f]?).elim [] P.leadsTo ++ todo) (f::seen)) =
   (@Bool.rec (fun _=>List Nat) (fv t n (List.append (t.get f) todo) (f::seen) (m ||| 2 ^ f)) (fv t n todo seen m) (Nat.testBit m f))
  rw [hm f,h1]
  cases hc:seen.contains f with
  | true=>rw [if_pos rfl];exact Gs h n todo seen m ht' hm
  | false=>
   rw [if_neg (by simp)]
   refine Gs h n (t.get f ++ todo) (f::seen) _ (fun x hx=>?_) (fun g=>?_)
   ·rcases List.mem_append.1 hx with hx|hx
    ·exact h2 x hx
    ·exact ht' x hx
   ·rw [Nat.testBit_or,hm g,Nat.testBit_two_pow,List.contains_cons]
    by_cases e:f=g
    ·subst e;simp
    ·have:(g == f)=false:=by simp [Ne.symm e]
     rw [this];simp [e]
noncomputable def aig (N:Nat) (l:List Nat):Bool:=List.rec true (fun x _ ih=>Bool.rec false ih (Nat.blt x N)) l
theorem BF {N:Nat}:∀{l:List Nat},aig N l=true→∀x∈l,x < N
 | [],_,_,hx=>by cases hx
 | y::l,h,x,hx=>by
  have h:(@Bool.rec (fun _=>Bool) false (aig N l) (Nat.blt y N))=true:=h
  cases hy:Nat.blt y N with
  | false=>rw [hy] at h;cases h
  | true=>
   rw [hy] at h
   rcases List.mem_cons.1 hx with rfl|hx
   ·exact Nat.le_of_ble_eq_true hy
   ·exact BF h x hx
noncomputable def ckT (P:Program) (t:BT) (N:Nat):List Func→Nat→Bool
 | [],_=>true
 | fn::l,g=>(P.leadsTo fn == t.get g)&&(aig N (t.get g)&&ckT P t N l (g+1))
theorem Gt {P:Program} {t:BT} {N:Nat}:∀(l:List Func) (k:Nat),ckT P t N l k=true→∀(g:Nat) (hg:g < l.length),P.leadsTo l[g]=t.get (k+g)∧∀x∈t.get (k+g),x < N
 | [],_,_,g,hg=>by simp at hg
 | fn::l,k,h,g,hg=>by
  simp only [ckT,Bool.and_eq_true,beq_iff_eq] at h
  cases g with
  | zero=>exact ⟨h.1,BF h.2.1⟩
  | succ g=>
   have:=Gt l (k+1) h.2.2 g (by simpa using hg)
   rw [show k+1+g=k+(g+1) by omega] at this
   simpa using this
theorem zW {P:Program} {t:BT} {N f n:Nat} {L:List Nat} (hN:P.funcs.toList.length=N) (hc:ckT P t N P.funcs.toList 0=true) (hf:f < N)
  (hn:1+(P.funcs.toList.map fun g=>(P.leadsTo g).length+1).sum=n) (hL:fv t n [f] [] 0=L):P.closure f=L:=by
 unfold Program.closure
 rw [hn,←hL]
 refine Gs (N:=N) (fun g hg=>?_) n [f] [] 0 (by simpa using hf) (fun g=>by simp)
 have hg':g < P.funcs.toList.length:=by rw [hN];exact hg
 have:=Gt P.funcs.toList 0 hc g hg'
 rw [Nat.zero_add] at this
 have e:P.funcs[g]?=some P.funcs.toList[g]:=by
  rw [←Array.getElem?_toList,List.getElem?_eq_getElem hg']
 rw [e]
 exact this
end Go.Am
