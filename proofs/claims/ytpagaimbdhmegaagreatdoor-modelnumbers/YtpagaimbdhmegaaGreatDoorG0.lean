/- Worlds of listed variables, states that are told by numbers, recorded calls. Nothing is asked. -/
import Derived.Test.YtpagaimbdhmegaaGreatDoorA
set_option linter.all false
namespace Go.Am
noncomputable section
def je (n:Nat):P4:=.mk (bN (n / 4096)) (bN (n / 256 % 16)) (bN (n / 16 % 16)) (bN (n % 16))
def OQ (n:Nat):O4:=Nat.rec .nil (fun j t=>cU (je j) .dead t) n
def Eu (el:Nat) (k:IntKind) (zs:List Int):Obj:=.cells el zs.length true .plain (lW (zs.map fun z=>AV.int k z))
def Kl (n g:Nat) (o:Obj):Hp:=.mk (cU (je g) o (OQ n)) (je n) .off
def Jp (k:IntKind) (z:Int) (v:AV):Bool:=match v with
 | .int k' z'=>decide (k'=k)&&decide (z'=z)
 | _=>false
def hH (k:IntKind):List Int→Nat→Cl→Bool
 | [],_,_=>true
 | z::r,i,c=>Jp k z (dR i c)&&hH k r (i+1) c
def Km (el:Nat) (k:IntKind) (zs:List Int) (o:Obj):Bool:=match o with
 | .cells e n true .plain c=>decide (e=el)&&decide (n=zs.length)&&hH k zs 0 c
 | _=>false
end
noncomputable section
def gN (p:P4):Nat:=P4.casesOn p (fun a b c d=>Nat.add (Nat.add (Nat.add (Nat.mul a.nat 4096) (Nat.mul b.nat 256)) (Nat.mul c.nat 16)) d.nat)
def eV (p:P4) (t:A4):AV:=P4.casesOn p (fun a b c d=>A1.get d (A2.get c (A3.get b (A4.get a t))))
def Yp (a b c d:H) (v:AV) (t4:A4) (t3:A3) (t2:A2):A4:=A4.set a (A3.set b (A2.set c (A1.set d v (A2.get c t2)) t2) t3) t4
def Yq (a b c d:H) (v:AV) (t4:A4) (t3:A3):A4:=Yp a b c d v t4 t3 (A3.get b t3)
def JQ (p:P4) (v:AV) (t:A4):A4:=P4.casesOn p (fun a b c d=>Yq a b c d v t (A4.get a t))
def rP (K:Nat) (t:A4) (i j:P4):Bool:=Bool.casesOn (Nat.ble (Nat.succ (gN i)) K) false (OM.casesOn (eV i t).dX false false (fun k=>lO k j))
def Uu (K:Nat) (t:A4) (x y:AV):Bool:=AV.casesOn x true (fun _=>dk x y) (fun _ _=>dk x y) (fun _=>dk x y) (fun _ _=>dk x y) (fun _ _ _=>dk x y)
 (fun i o=>OP.casesOn y.eN false (fun j q=>Bool.casesOn (Nat.beq o q) false (rP K t i j))) (dk x y)
 (fun i a b c=>Pu.casesOn y.BS false false (fun j d e f=>Bool.casesOn (Nat.beq a d) false (Bool.casesOn (Nat.beq b e) false (Bool.casesOn (Nat.beq c f) false (rP K t i j)))) (fun _ _ _ _=>false))
 (fun i a b c=>Pu.casesOn y.BS false false (fun _ _ _ _=>false) (fun j d e f=>Bool.casesOn (Nat.beq a d) false (Bool.casesOn (Nat.beq b e) false (Bool.casesOn (Nat.beq c f) false (rP K t i j)))))
 (dk x y) (fun i=>OM.casesOn y.dX false false (fun j=>rP K t i j)) (dk x y) (fun _ _=>false) (dk x y) (fun _ _=>false) (dk x y) (fun _=>false) (fun _=>false) (fun _=>false)
def Rw (K:Nat) (t:A4) (a b:List AV):Bool:=cw (β:=List AV→Bool) (fun b=>List.casesOn b true (fun _ _=>false))
 (fun x _ ih b=>List.casesOn b false (fun y b=>Bool.casesOn (Uu K t x y) false (ih b))) a b
def OU (K:Nat) (t:A4) (x y:AV):Bool:=OL.casesOn x.asAgg (Uu K t x y) (fun a=>OL.casesOn y.asAgg false (fun b=>Rw K t a b))
def Rx (K:Nat) (t:A4) (x y:AV):Bool:=Kz.casesOn x.zk (KA.casesOn x.zl (OU K t x y) (OU K t x y)
  (fun u a=>KA.casesOn y.zl false false (fun v b=>Bool.casesOn (Nat.beq u v) false (OU K t a b))))
  (fun f a=>Kz.casesOn y.zk false (fun g b=>Bool.casesOn (Nat.beq f g) false (Rw K t a b)))
def Wt (K:Nat) (t:A4) (a b:List AV):Bool:=cw (β:=List AV→Bool) (fun b=>List.casesOn b true (fun _ _=>false))
 (fun x _ ih b=>List.casesOn b false (fun y b=>Bool.casesOn (Rx K t x y) false (ih b))) a b
def Jr (K:Nat) (t:A4) (x y:AV):Bool:=OL.casesOn x.uf (Rx K t x y) (fun a=>OL.casesOn y.uf false (fun b=>Wt K t a b))
def OV (K:Nat) (t:A4) (a b:List KV):Bool:=cw (β:=List KV→Bool) (fun b=>List.casesOn b true (fun _ _=>false))
 (fun x _ ih b=>List.casesOn b false (fun y b=>KV.casesOn x (fun k v c=>KV.casesOn y (fun k' v' c'=>Bool.casesOn (Nat.beq c c') false (Bool.casesOn (Jr K t k k') false (Bool.casesOn (Jr K t v v') false (ih b))))))) a b
def Js (K:Nat) (t:A4) (x y:Obj):Bool:=Obj.casesOn x false true
 (fun el n ex fl c=>Ww.casesOn y.wJ false (fun el' n' ex' fl' c'=>Bool.casesOn (Nat.beq el el') false (Bool.casesOn (Nat.beq n n') false (Bool.casesOn (gP ex ex') false (Bool.casesOn (Fl.eq fl fl') false
  (Bool.casesOn (Nat.ble n (bM c)) false (pV n (fun k=>Jr K t (dR k c) (dR k c')))))))))
 (fun l ck=>UO.casesOn y.dX false (fun l' ck'=>Bool.casesOn (Nat.beq ck ck') false (OV K t l l'))) (fun _ _=>false) (fun _ _ _ _=>false) false
def EE (n K:Nat) (t u:A4) (r':A2) (h':Hp) (r:A2) (h:Hp):Bool:=
 Bool.casesOn (pV n (fun g=>rP K t (je g) (je g))) false
  (Bool.casesOn (pV 16 (fun a=>pV 16 (fun b=>Jr K t (aq (bN a) (bN b) r') (aq (bN a) (bN b) r)))) false
   (pV K (fun k=>OM.casesOn (eV (je k) t).dX false false (fun j=>OM.casesOn (eV j u).dX false false (fun i=>Bool.casesOn (lO i (je k)) false (Js K t (av (je k) h') (av j h)))))))
inductive TK where
 | mk (t u:A4)
def uP (i j:P4) (s:TK):TK:=TK.casesOn s (fun t u=>OM.casesOn (eV i t).dX (.mk (JQ i (.map j) t) (JQ j (.map i) u)) (.mk (JQ i (.map j) t) (JQ j (.map i) u)) (fun _=>.mk t u))
def u1 (x y:AV) (s:TK):TK:=AV.casesOn x s (fun _=>s) (fun _ _=>s) (fun _=>s) (fun _ _=>s) (fun _ _ _=>s)
 (fun i _=>OP.casesOn y.eN s (fun j _=>uP i j s)) s
 (fun i _ _ _=>Pu.casesOn y.BS s s (fun j _ _ _=>uP i j s) (fun j _ _ _=>uP i j s))
 (fun i _ _ _=>Pu.casesOn y.BS s s (fun j _ _ _=>uP i j s) (fun j _ _ _=>uP i j s))
 s (fun i=>OM.casesOn y.dX s s (fun j=>uP i j s)) s (fun _ _=>s) s (fun _ _=>s) s (fun _=>s) (fun _=>s) (fun _=>s)
def uL (a b:List AV) (s:TK):TK:=cw (β:=List AV→TK→TK) (fun _ s=>s) (fun x _ ih b s=>List.casesOn b s (fun y b=>ih b (u1 x y s))) a b s
def uA (x y:AV) (s:TK):TK:=OL.casesOn x.asAgg (u1 x y s) (fun a=>OL.casesOn y.asAgg s (fun b=>uL a b s))
def u2 (x y:AV) (s:TK):TK:=Kz.casesOn x.zk (KA.casesOn x.zl (uA x y s) (uA x y s) (fun _ a=>KA.casesOn y.zl s s (fun _ b=>uA a b s))) (fun _ a=>Kz.casesOn y.zk s (fun _ b=>uL a b s))
def uT (a b:List AV) (s:TK):TK:=cw (β:=List AV→TK→TK) (fun _ s=>s) (fun x _ ih b s=>List.casesOn b s (fun y b=>ih b (u2 x y s))) a b s
def uV (x y:AV) (s:TK):TK:=OL.casesOn x.uf (u2 x y s) (fun a=>OL.casesOn y.uf s (fun b=>uT a b s))
def Yr (a b:List KV) (s:TK):TK:=cw (β:=List KV→TK→TK) (fun _ s=>s) (fun x _ ih b s=>List.casesOn b s (fun y b=>KV.casesOn x (fun k v _=>KV.casesOn y (fun k' v' _=>ih b (uV v v' (uV k k' s)))))) a b s
def fwd (f:Nat→TK→TK) (n:Nat):TK→TK:=oL (β:=Nat→TK→TK) (fun _ s=>s) (fun _ ih k s=>TK.casesOn (f k s) (fun t u=>ih (Nat.succ k) (.mk t u))) n 0
def uO (x y:Obj) (s:TK):TK:=Obj.casesOn x s s (fun _ n _ _ c=>Ww.casesOn y.wJ s (fun _ _ _ _ c'=>fwd (fun k s=>uV (dR k c) (dR k c') s) n s))
 (fun l _=>UO.casesOn y.dX s (fun l' _=>Yr l l' s)) (fun _ _=>s) (fun _ _ _ _=>s) s
def Uw (n K:Nat) (r':A2) (h':Hp) (r:A2) (h:Hp):TK:=
 fwd (fun k s=>TK.casesOn s (fun t u=>OM.casesOn (eV (je k) t).dX (.mk t u) (.mk t u) (fun j=>uO (av (je k) h') (av j h) (.mk t u)))) K
  (fwd (fun k s=>uV (aq (bN (Nat.div k 16)) (bN (Nat.mod k 16)) r') (aq (bN (Nat.div k 16)) (bN (Nat.mod k 16)) r) s) 256 (fwd (fun g s=>uP (je g) (je g) s) n (.mk .nil .nil)))
def wt (n K:Nat) (r':A2) (h':Hp) (r:A2) (h:Hp):Bool:=TK.casesOn (Uw n K r' h' r h) (fun t u=>EE n K t u r' h' r h)
def Uv (l:List Obj):Nat→O4→O4:=cw (β:=Nat→O4→O4) (fun _ t=>t) (fun o _ ih k t=>ih (Nat.succ k) (cU (je k) o t)) l
def aY (l:List Obj):Hp:=.mk (Uv l 0 .nil) (je l.length) .off
inductive Tg where
 | nm (r:A2) (l:List Obj)
 | ex (i:Nat) (r:A2) (l:List Obj)
 | ret (r:A2) (l:List Obj)
def Tg.rs (q:Tg):RS:=Tg.casesOn q (fun r l=>.nm r (aY l)) (fun i r l=>.ex i r (aY l)) (fun r l=>.ret r (aY l))
def cD (n:Nat) (q:Tg) (x:RS):Bool:=RS.elim
 (fun r h=>Tg.casesOn q (fun r' l=>wt n l.length r' (aY l) r h) (fun _ _ _=>false) (fun _ _=>false))
 (fun i r h=>Tg.casesOn q (fun _ _=>false) (fun j r' l=>Bool.casesOn (Nat.beq j i) false (wt n l.length r' (aY l) r h)) (fun _ _=>false))
 (fun _ _ _=>false)
 (fun r h=>Tg.casesOn q (fun _ _=>false) (fun _ _ _=>false) (fun r' l=>wt n l.length r' (aY l) r h))
 (fun _=>false) pV x
def nI {β:Type} (f:Nat):Nat→(Nat→Nat→β)→β:=oL (β:=Nat→(Nat→Nat→β)→β) (fun s k=>k 0 s)
 (fun _ ih s k=>Bool.casesOn (Nat.ble 8 (Nat.mod s 16)) (k (Nat.mod s 16) (Nat.div s 16)) (ih (Nat.div s 16) (fun n s'=>k (Nat.add (Nat.sub (Nat.mod s 16) 8) (Nat.mul 8 n)) s'))) f
def rd {β:Type} (s:Nat) (k:Nat→Nat→β):β:=nI 64 s k
def Pv (n:Nat):Nat→(List Nat→Nat→List AV)→List AV:=oL (β:=Nat→(List Nat→Nat→List AV)→List AV) (fun s k=>k .nil s) (fun _ ih s k=>ih (Nat.div s 256) (fun l s'=>k (.cons (Nat.mod s 256) l) s')) n
def kindOf (n:Nat):IntKind:=nth [.i8,.i16,.i32,.i64,.u8,.u16,.u32,.u64] (fun k=>k) .i64 n
def vI (tag s:Nat) (k:AV→Nat→List AV):List AV:=nth (β:=List AV) [0,1,2,3,4,5,6,7,8,9,10,11,12,13,14,15]
 (fun tag=>nth (β:=List AV) [
  k .undef s,rd s (fun n s=>k (.int .i64 (.ofNat n)) s),rd s (fun n s=>k (.int .i64 (.negSucc n)) s),rd s (fun c s=>rd s (fun n s=>k (.int (kindOf c) (.ofNat n)) s)),
  rd s (fun n s=>Pv n s (fun l s=>k (.str l) s)),rd s (fun i s=>rd s (fun o s=>k (.ptr (je i) o) s)),k .dS s,
  rd s (fun i s=>rd s (fun o s=>rd s (fun n s=>rd s (fun c s=>k (.slice (je i) o n c) s)))),rd s (fun i s=>rd s (fun o s=>rd s (fun n s=>rd s (fun c s=>k (.aH (je i) o n c) s)))),
  k .ah s,k (.bool false) s,k (.bool true) s,rd s (fun i s=>k (.map (je i)) s),k .tv s,
  rd s (fun a s=>rd s (fun b s=>k (.cG .f64 (Nat.mul a 17592186044416) (Nat.mul b 17592186044416)) s)),k .wq s] (fun x=>x) .nil tag) .nil tag
def Ys (n:Nat):Nat→List AV:=oL (β:=Nat→List AV) (fun _=>.nil) (fun _ ih s=>vI (Nat.mod s 16) (Nat.div s 16) (fun v s=>.cons v (ih s))) n
def Xw (n:Nat):Fl:=nth [.plain,.mark,.wV] (fun k=>k) .plain n
def oI (s:Nat):Obj:=rd s (fun c s=>Nat.casesOn c .dead (fun c=>rd s (fun el s=>rd s (fun n s=>.cells el n (Nat.ble c 2) (Xw (Nat.mod c 3)) (lW (Ys n s))))))
def bu (l:List Nat):List Obj:=cw .nil (fun s _ ih=>.cons (oI s) ih) l
end
noncomputable section
def Jx (f:Nat) (a:AF) (p:F3):F3:=F3.set (bN (Nat.div f 256)) (F2.set (bN (Nat.mod (Nat.div f 16) 16)) (F1.set (bN (Nat.mod f 16)) a (F2.get (bN (Nat.mod (Nat.div f 16) 16)) (F3.get (bN (Nat.div f 256)) p))) (F3.get (bN (Nat.div f 256)) p)) p
def Uz (n:Nat) (v':AV) (l':List Obj) (v:AV) (h:Hp):Bool:=wt n l'.length (eQ .h0 .h0 v' .nil) (aY l') (eQ .h0 .h0 v .nil) h
def aM (n:Nat) (v':AV) (l':List Obj) (x:RT):Bool:=@RT.rec (fun _=>Bool) (fun v h=>Uz n v' l' v h) (fun _=>false) (fun m _ ih=>pV m ih) x
def UA (g:Lg):Bool:=@Lg.rec (fun _=>Bool) true (fun _=>false) g
def aD (args0:List AV) (l0:List Obj) (v':AV) (l':List Obj) (args:List AV) (h:Hp):RT:=
 @Bool.rec (fun _=>RT) (.err 461) (@Bool.rec (fun _=>RT) (.err 462) (@Bool.rec (fun _=>RT) (.err 463) (.ok v' (aY l')) (OT (aY l0) h)) (UA h.log)) (xd args0 args)
def fx (g1 g2:List AV→Hp→RT) (args:List AV) (h:Hp):RT:=@RT.rec (fun _=>RT) (fun v h'=>.ok v h') (fun _=>g2 args h) (fun n k _=>.ch n k) (g1 args h)
def UB (k:PK) (a:AF):AF:=match a with|.mk b r=>.oO k b r|.Dy b r=>.oO k b r|.oO _ b r=>.oO k b r|.none=>.none|.ext k=>.ext k
def xP (f:Nat) (k:PK) (p:F3):F3:=Jx f (UB k (cH f p)) p
def fG (f:Nat) (k:PK) (p:Pg):Pg:=@Pg.rec (fun _=>Pg) (fun fs ms=>.mk (xP f k fs) ms) p
def qc (n:Nat):List Obj:=List.replicate n .dead
def pat (l:List Obj) (c:List (Nat×Nat)):List Obj:=c.foldr (fun x l=>l.set x.1 (oI x.2)) l
end
end Go.Am
