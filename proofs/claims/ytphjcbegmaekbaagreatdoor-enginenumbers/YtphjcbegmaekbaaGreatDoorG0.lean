/- Worlds of listed variables, states that are told by numbers, recorded calls. Nothing is asked. -/
import Derived.Test.YtphjcbegmaekbaaGreatDoorA
set_option linter.all false
namespace Go.Am
noncomputable section
def fV (n:Nat):P4:=.mk (bO (n / 4096)) (bO (n / 256 % 16)) (bO (n / 16 % 16)) (bO (n % 16))
def trD (n:Nat):O4:=Nat.rec .nil (fun j t=>cH (fV j) .dead t) n
def Gu (el:Nat) (k:IntKind) (zs:List Int):Obj:=.cells el zs.length true .plain (lP (zs.map fun z=>AV.int k z))
def CU (n g:Nat) (o:Obj):Hp:=.mk (cH (fV g) o (trD n)) (fV n) .off
def QO (k:IntKind) (z:Int) (v:AV):Bool:=match v with
 | .int k' z'=>decide (k'=k)&&decide (z'=z)
 | _=>false
def iR (k:IntKind):List Int→Nat→Cl→Bool
 | [],_,_=>true
 | z::r,i,c=>QO k z (eC i c)&&iR k r (i+1) c
def Wj (el:Nat) (k:IntKind) (zs:List Int) (o:Obj):Bool:=match o with
 | .cells e n true .plain c=>decide (e=el)&&decide (n=zs.length)&&iR k zs 0 c
 | _=>false
end
noncomputable section
def bt (p:P4):Nat:=P4.casesOn p (fun a b c d=>Nat.add (Nat.add (Nat.add (Nat.mul a.nat 4096) (Nat.mul b.nat 256)) (Nat.mul c.nat 16)) d.nat)
def cD (p:P4) (t:A4):AV:=P4.casesOn p (fun a b c d=>A1.get d (A2.get c (A3.get b (A4.get a t))))
def ts1 (a b c d:H) (v:AV) (t4:A4) (t3:A3) (t2:A2):A4:=A4.set a (A3.set b (A2.set c (A1.set d v (A2.get c t2)) t2) t3) t4
def ts2 (a b c d:H) (v:AV) (t4:A4) (t3:A3):A4:=ts1 a b c d v t4 t3 (A3.get b t3)
def yS (p:P4) (v:AV) (t:A4):A4:=P4.casesOn p (fun a b c d=>ts2 a b c d v t (A4.get a t))
def rP (K:Nat) (t:A4) (i j:P4):Bool:=Bool.casesOn (Nat.ble (Nat.succ (bt i)) K) false (OM.casesOn (cD i t).de false false (fun k=>jM k j))
def Je (x:AV):OM:=OM.casesOn x.de (OL.casesOn x.asAgg .no (fun l=>List.casesOn l .no (fun y _=>y.de))) .no (fun i=>.yes i)
def rM (K:Nat) (t:A4) (i j:P4):Bool:=Bool.casesOn (Nat.ble (Nat.succ (bt i)) K) false (OM.casesOn (Je (cD i t)) false false (fun k=>jM k j))
def rn1 (K:Nat) (t:A4) (x y:AV):Bool:=AV.casesOn x true (fun _=>dj x y) (fun _ _=>dj x y) (fun _=>dj x y) (fun _ _=>dj x y) (fun _ _ _=>dj x y)
 (fun i o=>OP.casesOn y.ft false (fun j q=>Bool.casesOn (Nat.beq o q) false (rP K t i j))) (dj x y)
 (fun i a b c=>OSl.casesOn y.CS false false (fun j d e f=>Bool.casesOn (Nat.beq a d) false (Bool.casesOn (Nat.beq b e) false (Bool.casesOn (Nat.beq c f) false (rP K t i j)))) (fun _ _ _ _=>false))
 (fun i a b c=>OSl.casesOn y.CS false false (fun _ _ _ _=>false) (fun j d e f=>Bool.casesOn (Nat.beq a d) false (Bool.casesOn (Nat.beq b e) false (Bool.casesOn (Nat.beq c f) false (rP K t i j)))))
 (dj x y) (fun i=>OM.casesOn y.de false false (fun j=>rM K t i j)) (dj x y) (fun _ _=>false) (dj x y) (fun _ _=>false) (dj x y) (fun _=>false) (fun _=>false) (fun _=>false)
def rnL (K:Nat) (t:A4) (a b:List AV):Bool:=bF (β:=List AV→Bool) (fun b=>List.casesOn b true (fun _ _=>false))
 (fun x _ ih b=>List.casesOn b false (fun y b=>Bool.casesOn (rn1 K t x y) false (ih b))) a b
def rnA (K:Nat) (t:A4) (x y:AV):Bool:=OL.casesOn x.asAgg (rn1 K t x y) (fun a=>OL.casesOn y.asAgg false (fun b=>rnL K t a b))
def rn2 (K:Nat) (t:A4) (x y:AV):Bool:=Tz.casesOn x.zJ (TA.casesOn x.zK (rnA K t x y) (rnA K t x y)
  (fun u a=>TA.casesOn y.zK false false (fun v b=>Bool.casesOn (Nat.beq u v) false (rnA K t a b))))
  (fun f a=>Tz.casesOn y.zJ false (fun g b=>Bool.casesOn (Nat.beq f g) false (rnL K t a b)))
def rnT (K:Nat) (t:A4) (a b:List AV):Bool:=bF (β:=List AV→Bool) (fun b=>List.casesOn b true (fun _ _=>false))
 (fun x _ ih b=>List.casesOn b false (fun y b=>Bool.casesOn (rn2 K t x y) false (ih b))) a b
def uR (K:Nat) (t:A4) (x y:AV):Bool:=OL.casesOn x.qT (rn2 K t x y) (fun a=>OL.casesOn y.qT false (fun b=>rnT K t a b))
def nU (K:Nat) (t:A4) (a b:List KV):Bool:=bF (β:=List KV→Bool) (fun b=>List.casesOn b true (fun _ _=>false))
 (fun x _ ih b=>List.casesOn b false (fun y b=>KV.casesOn x (fun k v c=>KV.casesOn y (fun k' v' c'=>Bool.casesOn (Nat.beq c c') false (Bool.casesOn (uR K t k k') false (Bool.casesOn (uR K t v v') false (ih b))))))) a b
def Eu (K:Nat) (t:A4) (x y:Obj):Bool:=Obj.casesOn x false true
 (fun el n ex fl c=>OCl.casesOn y.wy false (fun el' n' ex' fl' c'=>Bool.casesOn (Nat.beq el el') false (Bool.casesOn (Nat.beq n n') false (Bool.casesOn (eK ex ex') false (Bool.casesOn (Fl.eq fl fl') false
  (Bool.casesOn (Nat.ble n (bQ c)) false (nj n (fun k=>uR K t (eC k c) (eC k c')))))))))
 (fun l ck=>Lq.casesOn y.de false (fun l' ck'=>Bool.casesOn (Nat.beq ck ck') false (nU K t l l'))) (fun _ _=>false) (fun _ _ _ _=>false) false
def apN {β:Type} (b:Nat) (l:List KV) (k:AV→AV→List KV→β) (e:β):β:=bF (β:=List KV→β) (fun _=>e) (fun y t ih acc=>KV.casesOn y (fun a v c=>Bool.casesOn (Nat.beq b c) (ih (.cons y acc)) (k a v (List.append acc t)))) l .nil
def QP (K:Nat) (t:A4) (l:List KV) (labs:List Nat) (l':List KV):Bool:=bF (β:=List Nat→List KV→Bool) (fun labs l'=>Bool.casesOn (fw labs) false (fw l'))
 (fun x _ ih labs l'=>List.casesOn labs false (fun b bs=>apN b l' (fun k' v' rest=>KV.casesOn x (fun k v _=>Bool.casesOn (uR K t k k') false (Bool.casesOn (uR K t v v') false (ih bs rest)))) false)) l labs l'
def xj (l:List KV) (i:Nat):Bool:=bF (β:=Nat→Bool) (fun _=>true) (fun x _ ih i=>KV.casesOn x (fun _ _ c=>Bool.casesOn (Nat.beq c i) false (ih (Nat.succ i)))) l i
def rnP (K:Nat) (t:A4) (c:List Nat) (x y:Obj):Bool:=Lq.casesOn x.de false (fun l ck=>Lq.casesOn y.de false (fun l' ck'=>List.casesOn c false (fun c0 labs=>Bool.casesOn (Nat.beq c0 ck') false
 (Bool.casesOn (Nat.beq ck (Nat.add dI l.length)) false (Bool.casesOn (xj l dI) false (QP K t l labs l'))))))
def yT (K:Nat) (t:A4) (l:List AV) (x y:Obj):Bool:=List.casesOn l false (fun _ l2=>List.casesOn l2 false (fun s _=>OS.casesOn s.xZ false (fun c=>rnP K t c x y)))
def QQ (n K:Nat) (t u:A4) (r':A2) (h':Hp) (r:A2) (h:Hp):Bool:=
 Bool.casesOn (nj n (fun g=>rP K t (fV g) (fV g))) false
  (Bool.casesOn (nj 16 (fun a=>nj 16 (fun b=>uR K t (aw (bO a) (bO b) r') (aw (bO a) (bO b) r)))) false
   (nj K (fun k=>OM.casesOn (Je (cD (fV k) t)) false false (fun j=>OM.casesOn (cD j u).de false false (fun i=>Bool.casesOn (jM i (fV k)) false (OL.casesOn (cD (fV k) t).asAgg (Eu K t (aq (fV k) h') (aq j h)) (fun l=>Bool.casesOn (Nat.ble n k) false (yT K t l (aq (fV k) h') (aq j h)))))))))
inductive TK where
 | mk (t u:A4)
def uP (i j:P4) (s:TK):TK:=TK.casesOn s (fun t u=>OM.casesOn (Je (cD i t)) (.mk (yS i (.map j) t) (yS j (.map i) u)) (.mk (yS i (.map j) t) (yS j (.map i) u)) (fun _=>.mk t u))
def u1 (x y:AV) (s:TK):TK:=AV.casesOn x s (fun _=>s) (fun _ _=>s) (fun _=>s) (fun _ _=>s) (fun _ _ _=>s)
 (fun i _=>OP.casesOn y.ft s (fun j _=>uP i j s)) s
 (fun i _ _ _=>OSl.casesOn y.CS s s (fun j _ _ _=>uP i j s) (fun j _ _ _=>uP i j s))
 (fun i _ _ _=>OSl.casesOn y.CS s s (fun j _ _ _=>uP i j s) (fun j _ _ _=>uP i j s))
 s (fun i=>OM.casesOn y.de s s (fun j=>uP i j s)) s (fun _ _=>s) s (fun _ _=>s) s (fun _=>s) (fun _=>s) (fun _=>s)
def uL (a b:List AV) (s:TK):TK:=bF (β:=List AV→TK→TK) (fun _ s=>s) (fun x _ ih b s=>List.casesOn b s (fun y b=>ih b (u1 x y s))) a b s
def uA (x y:AV) (s:TK):TK:=OL.casesOn x.asAgg (u1 x y s) (fun a=>OL.casesOn y.asAgg s (fun b=>uL a b s))
def u2 (x y:AV) (s:TK):TK:=Tz.casesOn x.zJ (TA.casesOn x.zK (uA x y s) (uA x y s) (fun _ a=>TA.casesOn y.zK s s (fun _ b=>uA a b s))) (fun _ a=>Tz.casesOn y.zJ s (fun _ b=>uL a b s))
def uT (a b:List AV) (s:TK):TK:=bF (β:=List AV→TK→TK) (fun _ s=>s) (fun x _ ih b s=>List.casesOn b s (fun y b=>ih b (u2 x y s))) a b s
def uV (x y:AV) (s:TK):TK:=OL.casesOn x.qT (u2 x y s) (fun a=>OL.casesOn y.qT s (fun b=>uT a b s))
def uKs (a b:List KV) (s:TK):TK:=bF (β:=List KV→TK→TK) (fun _ s=>s) (fun x _ ih b s=>List.casesOn b s (fun y b=>KV.casesOn x (fun k v _=>KV.casesOn y (fun k' v' _=>ih b (uV v v' (uV k k' s)))))) a b s
def fwd (f:Nat→TK→TK) (n:Nat):TK→TK:=jO (β:=Nat→TK→TK) (fun _ s=>s) (fun _ ih k s=>TK.casesOn (f k s) (fun t u=>ih (Nat.succ k) (.mk t u))) n 0
def uO (x y:Obj) (s:TK):TK:=Obj.casesOn x s s (fun _ n _ _ c=>OCl.casesOn y.wy s (fun _ _ _ _ c'=>fwd (fun k s=>uV (eC k c) (eC k c') s) n s))
 (fun l _=>Lq.casesOn y.de s (fun l' _=>uKs l l' s)) (fun _ _=>s) (fun _ _ _ _=>s) s
def apO {β:Type} (key:AV) (l:List KV) (k:AV→Nat→β) (e:β):β:=bF e (fun y _ ih=>KV.casesOn y (fun a v c=>Bool.casesOn (dj key a) ih (k v c))) l
def uPm (l l':List KV) (k:List Nat→TK→TK):List Nat→TK→TK:=bF (β:=List Nat→TK→TK) (fun labs s=>k labs s) (fun x _ ih labs s=>KV.casesOn x (fun kx vx _=>apO kx l' (fun v' c=>ih (List.append labs (.cons c .nil)) (uV vx v' s)) s)) l
def QR (l l':List KV):Bool:=bF (β:=List KV→Bool) (fun b=>fw b) (fun x _ ih b=>List.casesOn b false (fun y b=>KV.casesOn x (fun kx _ c=>KV.casesOn y (fun ky _ c'=>Bool.casesOn (Nat.beq c c') false (Bool.casesOn (dj kx ky) false (ih b)))))) l l'
def uX (n k:Nat) (j:P4) (x y:Obj) (s:TK):TK:=Lq.casesOn x.de (uO x y s) (fun l ck=>Bool.casesOn (Bool.and (Nat.ble n k) (Nat.ble dI ck)) (uO x y s) (Lq.casesOn y.de s (fun l' ck'=>Bool.casesOn (Bool.and (Nat.beq ck ck') (QR l l'))
 (uPm l l' (fun labs s=>TK.casesOn s (fun t u=>.mk (yS (fV k) (.agg (.cons (.map j) (.cons (.str (.cons ck' labs)) .nil))) t) u)) .nil s) (uO x y s))))
def BX (n K:Nat) (h' h:Hp) (s:TK):TK:=fwd (fun k s=>TK.casesOn s (fun t u=>OM.casesOn (cD (fV k) t).de (.mk t u) (.mk t u) (fun j=>uX n k j (aq (fV k) h') (aq j h) (.mk t u)))) K s
def uni (n K:Nat) (r':A2) (h':Hp) (r:A2) (h:Hp):TK:=
 BX n K h' h (BX n K h' h (BX n K h' h (BX n K h' h
  (fwd (fun k s=>uV (aw (bO (Nat.div k 16)) (bO (Nat.mod k 16)) r') (aw (bO (Nat.div k 16)) (bO (Nat.mod k 16)) r) s) 256 (fwd (fun g s=>uP (fV g) (fV g) s) n (.mk .nil .nil))))))
def yU (n K:Nat) (r':A2) (h':Hp) (r:A2) (h:Hp):Bool:=TK.casesOn (uni n K r' h' r h) (fun t u=>QQ n K t u r' h' r h)
def mkT (l:List Obj):Nat→O4→O4:=bF (β:=Nat→O4→O4) (fun _ t=>t) (fun o _ ih k t=>ih (Nat.succ k) (cH (fV k) o t)) l
def fK (l:List Obj):Hp:=.mk (mkT l 0 .nil) (fV l.length) .off
inductive Tg where
 | nm (r:A2) (l:List Obj)
 | ex (i:Nat) (r:A2) (l:List Obj)
 | ret (r:A2) (l:List Obj)
def Tg.rs (q:Tg):RS:=Tg.casesOn q (fun r l=>.nm r (fK l)) (fun i r l=>.ex i r (fK l)) (fun r l=>.ret r (fK l))
def dt (n:Nat) (q:Tg) (x:RS):Bool:=RS.elim
 (fun r h=>Tg.casesOn q (fun r' l=>yU n l.length r' (fK l) r h) (fun _ _ _=>false) (fun _ _=>false))
 (fun i r h=>Tg.casesOn q (fun _ _=>false) (fun j r' l=>Bool.casesOn (Nat.beq j i) false (yU n l.length r' (fK l) r h)) (fun _ _=>false))
 (fun _ _ _=>false)
 (fun r h=>Tg.casesOn q (fun _ _=>false) (fun _ _ _=>false) (fun r' l=>yU n l.length r' (fK l) r h))
 (fun _=>false) nj x
def nI {β:Type} (f:Nat):Nat→(Nat→Nat→β)→β:=jO (β:=Nat→(Nat→Nat→β)→β) (fun s k=>k 0 s)
 (fun _ ih s k=>Bool.casesOn (Nat.ble 8 (Nat.mod s 16)) (k (Nat.mod s 16) (Nat.div s 16)) (ih (Nat.div s 16) (fun n s'=>k (Nat.add (Nat.sub (Nat.mod s 16) 8) (Nat.mul 8 n)) s'))) f
def rd {β:Type} (s:Nat) (k:Nat→Nat→β):β:=nI 64 s k
def ala (n:Nat):Nat→(List Nat→Nat→List AV)→List AV:=jO (β:=Nat→(List Nat→Nat→List AV)→List AV) (fun s k=>k .nil s) (fun _ ih s k=>ih (Nat.div s 256) (fun l s'=>k (.cons (Nat.mod s 256) l) s')) n
def kindOf (n:Nat):IntKind:=nth [.i8,.i16,.i32,.i64,.u8,.u16,.u32,.u64] (fun k=>k) .i64 n
def apQ (n:Nat):Fl:=nth [.plain,.mark,.wx] (fun k=>k) .plain n
def avi (vn n:Nat) (l:List AV) (i:Nat):List KV:=jO (β:=List AV→Nat→List KV) (fun _ _=>.nil) (fun _ ih l i=>List.casesOn l .nil (fun k l=>Nat.casesOn vn (List.casesOn l .nil (fun v l=>.cons (.mk k v i) (ih l (Nat.succ i)))) (fun _=>.cons (.mk k (.agg (List.take vn l)) i) (ih (List.drop vn l) (Nat.succ i))))) n l i
def nbA (x:AV):Nat:=OI.casesOn x.asInt 0 (fun _ n=>Int.casesOn n (fun m=>m) (fun _=>0))
def avj (vn n:Nat) (l:List AV):List KV:=jO (β:=List AV→List KV) (fun _=>.nil) (fun _ ih l=>List.casesOn l .nil (fun k l=>List.casesOn l .nil (fun b l=>Nat.casesOn vn (List.casesOn l .nil (fun v l=>.cons (.mk k v (nbA b)) (ih l))) (fun _=>.cons (.mk k (.agg (List.take vn l)) (nbA b)) (ih (List.drop vn l)))))) n l
end
noncomputable section
def QS (f:Nat) (a:AF) (p:F3):F3:=F3.set (bO (Nat.div f 256)) (F2.set (bO (Nat.mod (Nat.div f 16) 16)) (F1.set (bO (Nat.mod f 16)) a (F2.get (bO (Nat.mod (Nat.div f 16) 16)) (F3.get (bO (Nat.div f 256)) p))) (F3.get (bO (Nat.div f 256)) p)) p
def apR (g:Lg):Bool:=@Lg.rec (fun _=>Bool) true (fun _=>false) g
def aQ (g1 g2:List AV→Hp→RT) (args:List AV) (h:Hp):RT:=@RT.rec (fun _=>RT) (fun v h'=>.ok v h') (fun _=>g2 args h) (fun n k _=>.ch n k) (g1 args h)
def eW (k:PK) (a:AF):AF:=match a with|.mk b r=>.mW k b r|.Es b r=>.mW k b r|.mW _ b r=>.mW k b r|.none=>.none|.ext k=>.ext k
def yV (f:Nat) (k:PK) (p:F3):F3:=QS f (eW k (cn f p)) p
def bq (f:Nat) (k:PK) (p:Pg):Pg:=@Pg.rec (fun _=>Pg) (fun fs ms=>.mk (yV f k fs) ms) p
def ai {α:Type} (a b:List α):List α:=bF b (fun x _ ih=>.cons x ih) a
def uS (n:Nat) (p:P4):Obj:=Bool.casesOn (Nat.ble (Nat.succ (bt p)) n) .none .dead
def tD (n:Nat) (a b c:H):O1:=Bool.casesOn (Nat.ble (Nat.succ (bt (.mk a b c .h0))) n) .nil (.mk (uS n (.mk a b c .h0)) (uS n (.mk a b c .h1)) (uS n (.mk a b c .h2)) (uS n (.mk a b c .h3)) (uS n (.mk a b c .h4)) (uS n (.mk a b c .h5)) (uS n (.mk a b c .h6)) (uS n (.mk a b c .h7)) (uS n (.mk a b c .h8)) (uS n (.mk a b c .h9)) (uS n (.mk a b c .ha)) (uS n (.mk a b c .hb)) (uS n (.mk a b c .hc)) (uS n (.mk a b c .hd)) (uS n (.mk a b c .he)) (uS n (.mk a b c .hf)))
def tE (n:Nat) (a b:H):O2:=Bool.casesOn (Nat.ble (Nat.succ (bt (.mk a b .h0 .h0))) n) .nil (.mk (tD n a b .h0) (tD n a b .h1) (tD n a b .h2) (tD n a b .h3) (tD n a b .h4) (tD n a b .h5) (tD n a b .h6) (tD n a b .h7) (tD n a b .h8) (tD n a b .h9) (tD n a b .ha) (tD n a b .hb) (tD n a b .hc) (tD n a b .hd) (tD n a b .he) (tD n a b .hf))
def tF (n:Nat) (a:H):O3:=Bool.casesOn (Nat.ble (Nat.succ (bt (.mk a .h0 .h0 .h0))) n) .nil (.mk (tE n a .h0) (tE n a .h1) (tE n a .h2) (tE n a .h3) (tE n a .h4) (tE n a .h5) (tE n a .h6) (tE n a .h7) (tE n a .h8) (tE n a .h9) (tE n a .ha) (tE n a .hb) (tE n a .hc) (tE n a .hd) (tE n a .he) (tE n a .hf))
def dT (n:Nat):O4:=.mk (tF n .h0) (tF n .h1) (tF n .h2) (tF n .h3) (tF n .h4) (tF n .h5) (tF n .h6) (tF n .h7) (tF n .h8) (tF n .h9) (tF n .ha) (tF n .hb) (tF n .hc) (tF n .hd) (tF n .he) (tF n .hf)
def rel (q i:Nat):Nat:=Bool.casesOn (Nat.beq (Nat.mod i 2) 0) (Bool.casesOn (Nat.beq (Nat.mod (Nat.div i 2) 2) 0) (Nat.add q (Nat.succ (Nat.div i 4))) (Nat.sub q (Nat.div i 4))) (Nat.div i 2)
def pR (q i:Nat):P4:=fV (rel q i)
def cxK (a:Nat):Nat:=Nat.mul (Nat.casesOn a 0 (fun a=>Nat.casesOn a 261888 (fun a=>Nat.casesOn a 262144 (fun a=>a)))) 17592186044416
def vK (q tag s:Nat) (k:AV→Nat→List AV):List AV:=nth (β:=List AV) [0,1,2,3,4,5,6,7,8,9,10,11,12,13,14,15]
 (fun tag=>nth (β:=List AV) [
  k .undef s,rd s (fun n s=>k (.int .i64 (.ofNat n)) s),rd s (fun n s=>k (.int .i64 (.negSucc n)) s),rd s (fun c s=>rd s (fun n s=>k (.int (kindOf c) (.ofNat n)) s)),
  rd s (fun n s=>ala n s (fun l s=>k (.str l) s)),rd s (fun i s=>rd s (fun o s=>k (.ptr (pR q i) o) s)),k .dP s,
  rd s (fun i s=>rd s (fun o s=>rd s (fun n s=>Bool.casesOn (Nat.beq (Nat.mod o 2) 0) (k (.slice (pR q i) (Nat.div o 2) n n) s) (rd s (fun c s=>k (.slice (pR q i) (Nat.div o 2) n c) s))))),
  rd s (fun i s=>rd s (fun o s=>rd s (fun n s=>Bool.casesOn (Nat.beq (Nat.mod o 2) 0) (k (.bZ (pR q i) (Nat.div o 2) n n) s) (rd s (fun c s=>k (.bZ (pR q i) (Nat.div o 2) n c) s))))),
  k .aj s,k (.bool false) s,k (.bool true) s,rd s (fun i s=>k (.map (pR q i)) s),k .mX s,
  rd s (fun a s=>rd s (fun b s=>k (.aM .f64 (cxK a) (cxK b)) s)),k .qn s] (fun x=>x) .nil tag) .nil tag
def vsK (q n:Nat):Nat→List AV:=jO (β:=Nat→List AV) (fun _=>.nil) (fun _ ih s=>vK q (Nat.mod s 16) (Nat.div s 16) (fun v s=>.cons v (ih s))) n
def mpK (q s:Nat):Obj:=rd s (fun n s=>rd s (fun vn s=>.map (avi vn n (vsK q (Nat.mul n (Nat.casesOn vn 2 (fun m=>Nat.succ (Nat.succ m)))) s) dI) (Nat.add dI n)))
def apS (q s:Nat):Obj:=rd s (fun n s=>rd s (fun vn s=>rd s (fun ck s=>.map (avj vn n (vsK q (Nat.mul n (Nat.casesOn vn 3 (fun m=>Nat.add m 3))) s)) ck)))
def oK (q s:Nat):Obj:=rd s (fun c s=>Nat.casesOn c .dead (fun c=>Bool.casesOn (Nat.ble 7 c) (Bool.casesOn (Nat.ble 6 c) (rd s (fun el s=>rd s (fun n s=>.cells el n (Nat.ble c 2) (apQ (Nat.mod c 3)) (lP (vsK q n s))))) (mpK q s)) (apS q s)))
abbrev LN:=List Nat
abbrev LD:=List (Nat×List Nat)
def yW (k:Nat) (l:LN) (t:O4):O4:=bF (β:=Nat→O4→O4) (fun _ t=>t) (fun s _ ih k t=>ih (Nat.succ k) (cH (fV k) (oK k s) t)) l k t
def tG (d:LD) (t:O4):O4:=bF t (fun x _ ih=>Prod.casesOn x (fun k l=>yW k l ih)) d
def SK (n:Nat) (d:LD):Hp:=.mk (tG d (dT n)) (fV n) .off
def avk (t:O4) (n:Nat):List Obj:=jO (β:=Nat→List Obj) (fun _=>.nil) (fun _ ih k=>.cons (di (fV k) t) (ih (Nat.succ k))) n 0
def LS (n:Nat) (d:LD):List Obj:=avk (tG d (dT n)) n
def QT (l:LN):Nat:=bF 0 (fun _ _ ih=>Nat.succ ih) l
def Jf (n:Nat) (d:LD):Bool:=bF true (fun x _ ih=>Prod.casesOn x (fun k l=>Bool.casesOn (Nat.ble (Nat.add k (QT l)) n) false ih)) d
def chK (n:Nat) (d:LD):Bool:=Bool.casesOn (Nat.ble n 65536) false (Jf n d)
def xS (n:Nat) (p:P4):AV:=Bool.casesOn (Nat.ble (Nat.succ (bt p)) n) .undef (.map p)
def xk (n:Nat) (a b c:H):A1:=Bool.casesOn (Nat.ble (Nat.succ (bt (.mk a b c .h0))) n) .nil (.mk (xS n (.mk a b c .h0)) (xS n (.mk a b c .h1)) (xS n (.mk a b c .h2)) (xS n (.mk a b c .h3)) (xS n (.mk a b c .h4)) (xS n (.mk a b c .h5)) (xS n (.mk a b c .h6)) (xS n (.mk a b c .h7)) (xS n (.mk a b c .h8)) (xS n (.mk a b c .h9)) (xS n (.mk a b c .ha)) (xS n (.mk a b c .hb)) (xS n (.mk a b c .hc)) (xS n (.mk a b c .hd)) (xS n (.mk a b c .he)) (xS n (.mk a b c .hf)))
def xl (n:Nat) (a b:H):A2:=Bool.casesOn (Nat.ble (Nat.succ (bt (.mk a b .h0 .h0))) n) .nil (.mk (xk n a b .h0) (xk n a b .h1) (xk n a b .h2) (xk n a b .h3) (xk n a b .h4) (xk n a b .h5) (xk n a b .h6) (xk n a b .h7) (xk n a b .h8) (xk n a b .h9) (xk n a b .ha) (xk n a b .hb) (xk n a b .hc) (xk n a b .hd) (xk n a b .he) (xk n a b .hf))
def xm (n:Nat) (a:H):A3:=Bool.casesOn (Nat.ble (Nat.succ (bt (.mk a .h0 .h0 .h0))) n) .nil (.mk (xl n a .h0) (xl n a .h1) (xl n a .h2) (xl n a .h3) (xl n a .h4) (xl n a .h5) (xl n a .h6) (xl n a .h7) (xl n a .h8) (xl n a .h9) (xl n a .ha) (xl n a .hb) (xl n a .hc) (xl n a .hd) (xl n a .he) (xl n a .hf))
def Kp (n:Nat):A4:=.mk (xm n .h0) (xm n .h1) (xm n .h2) (xm n .h3) (xm n .h4) (xm n .h5) (xm n .h6) (xm n .h7) (xm n .h8) (xm n .h9) (xm n .ha) (xm n .hb) (xm n .hc) (xm n .hd) (xm n .he) (xm n .hf)
def xn (f:H→Bool):Bool:=Bool.casesOn (f .h0) false (Bool.casesOn (f .h1) false (Bool.casesOn (f .h2) false (Bool.casesOn (f .h3) false (Bool.casesOn (f .h4) false (Bool.casesOn (f .h5) false (Bool.casesOn (f .h6) false (Bool.casesOn (f .h7) false (Bool.casesOn (f .h8) false (Bool.casesOn (f .h9) false (Bool.casesOn (f .ha) false (Bool.casesOn (f .hb) false (Bool.casesOn (f .hc) false (Bool.casesOn (f .hd) false (Bool.casesOn (f .he) false (f .hf)))))))))))))))
def wq1 (f:P4→Obj→Obj→Bool) (a b c:H) (x y:O1):Bool:=xn (fun d=>f (.mk a b c d) (O1.get d x) (O1.get d y))
def wk1 (f:P4→Obj→Obj→Bool) (a b c:H) (x y:O1):Bool:=O1.casesOn x true (fun _ _ _ _ _ _ _ _ _ _ _ _ _ _ _ _=>wq1 f a b c x y)
def wq2 (f:P4→Obj→Obj→Bool) (a b:H) (x y:O2):Bool:=xn (fun c=>wk1 f a b c (O2.get c x) (O2.get c y))
def wk2 (f:P4→Obj→Obj→Bool) (a b:H) (x y:O2):Bool:=O2.casesOn x true (fun _ _ _ _ _ _ _ _ _ _ _ _ _ _ _ _=>wq2 f a b x y)
def wq3 (f:P4→Obj→Obj→Bool) (a:H) (x y:O3):Bool:=xn (fun b=>wk2 f a b (O3.get b x) (O3.get b y))
def wk3 (f:P4→Obj→Obj→Bool) (a:H) (x y:O3):Bool:=O3.casesOn x true (fun _ _ _ _ _ _ _ _ _ _ _ _ _ _ _ _=>wq3 f a x y)
def wq4 (f:P4→Obj→Obj→Bool) (x y:O4):Bool:=xn (fun a=>wk3 f a (O4.get a x) (O4.get a y))
def wk4 (f:P4→Obj→Obj→Bool) (x y:O4):Bool:=O4.casesOn x true (fun _ _ _ _ _ _ _ _ _ _ _ _ _ _ _ _=>wq4 f x y)
def lfN (K:Nat) (t u:A4) (h1:Hp) (i:P4) (x:Obj):Bool:=OM.casesOn (Je (cD i t)) false false (fun j=>OM.casesOn (cD j u).de false false (fun i'=>Bool.casesOn (jM i' i) false (OL.casesOn (cD i t).asAgg (Eu K t x (aq j h1)) (fun l=>yT K t l x (aq j h1)))))
def lfO (K:Nat) (t u:A4) (i:P4) (x y:Obj):Bool:=OM.casesOn (cD i u).de false false (fun i'=>Bool.casesOn (jM i' i) false (Eu K t x y))
def lfW (n K:Nat) (t u:A4) (h1:Hp) (i:P4) (x y:Obj):Bool:=Obj.casesOn x true true (fun _ _ _ _ _=>Bool.casesOn (Nat.ble (Nat.succ (bt i)) n) (lfN K t u h1 i x) (lfO K t u i x y)) (fun _ _=>Bool.casesOn (Nat.ble (Nat.succ (bt i)) n) (lfN K t u h1 i x) (lfO K t u i x y)) (fun _ _=>false) (fun _ _ _ _=>false) false
def DM (n K:Nat) (t u:A4) (v':AV) (h':Hp) (v:AV) (h:Hp):Bool:=Bool.casesOn (uR K t v' v) false (wk4 (lfW n K t u h) h'.tree h.tree)
def uX1 (n k:Nat) (h' h:Hp) (s:TK):TK:=TK.casesOn s (fun t u=>OM.casesOn (cD (fV k) t).de (.mk t u) (.mk t u) (fun j=>uX n k j (aq (fV k) h') (aq j h) (.mk t u)))
def uE (n:Nat) (h' h:Hp) (e:LD) (s:TK):TK:=bF (β:=TK→TK) (fun s=>s) (fun x _ ih s=>Prod.casesOn x (fun k l=>ih (bF (β:=Nat→TK→TK) (fun _ s=>s) (fun _ _ ih k s=>TK.casesOn (uX1 n k h' h s) (fun t u=>ih (Nat.succ k) (.mk t u))) l k s))) e s
def cpT (n m:Nat) (t:A4):A4:=jO (β:=Nat→A4→A4) (fun _ a=>a) (fun _ ih k a=>ih (Nat.succ k) (yS (fV k) (cD (fV k) t) a)) m n (Kp n)
def apT (n K:Nat) (v':AV) (h':Hp) (e:LD) (v:AV) (h:Hp):Bool:=Bool.casesOn (Nat.ble n K) false (TK.casesOn (uE n h' h e (uV v' v (.mk (Kp n) (Kp n)))) (fun t u=>DM n K (cpT n (Nat.sub K n) t) u v' h' v h))
def Av (n K:Nat) (v':AV) (h':Hp) (e:LD) (x:RT):Bool:=@RT.rec (fun _=>Bool) (fun v h=>apT n K v' h' e v h) (fun _=>false) (fun m _ ih=>nj m ih) x
def yX (args0:List AV) (h0:Hp) (v':AV) (h':Hp) (args:List AV) (h:Hp):RT:=
 @Bool.rec (fun _=>RT) (.err 461) (@Bool.rec (fun _=>RT) (.err 462) (@Bool.rec (fun _=>RT) (.err 463) (.ok v' h') (aia h0 h)) (apR h.log)) (pW args0 args)
def jN (l:List LN):LN:=bF .nil (fun x _ ih=>ai x ih) l
def aK (n s:Nat):List AV:=vsK 0 n s
def tK (n s:Nat):AV:=.eS (vsK 0 n s)
inductive FR where
 | mk (f n K:Nat) (a:List AV) (d:LD) (v:AV) (e:LD)
def fC (p:Pg) (r:FR):Bool:=@FR.rec (fun _=>Bool) (fun f n K a d v e=>Av n K v (SK K (ai e d)) e (aD p (exec p 1000000) f a (SK n d))) r
def gK (r:FR) (args:List AV) (h:Hp):RT:=@FR.rec (fun _=>RT) (fun _ n K a d v e=>yX a (SK n d) v (SK K (ai e d)) args h) r
def chR (p:Pg) (f:Nat) (r:FR):Bool:=@FR.rec (fun _=>Bool) (fun g n K _ d _ e=>@Bool.rec (fun _=>Bool) false (@Bool.rec (fun _=>Bool) false (@Bool.rec (fun _=>Bool) false (@AF.rec (fun _=>Bool) true (fun _ _=>true) (fun _ _ _=>true) (fun _ _=>true) (fun _=>false) (cn f p.fs)) (chK K (ai e d))) (chK n d)) (Nat.beq f g)) r
end
noncomputable section
mutual
def ig:AV→Bool
 | .bool _=>true
 | .int _ _=>true
 | .str _=>true
 | .gA _ _=>true
 | .aM _ _ _=>true
 | .dP=>true
 | .aj=>true
 | .mX=>true
 | .qn=>true
 | .qQ=>true
 | .agg l=>jA l
 | .eS l=>jA l
 | _=>false
def jA:List AV→Bool
 | []=>true
 | v::l=>ig v&&jA l
end
def aX (tab:List (List AV×AV)) (args:List AV) (h:Hp):RT:=@List.rec (List AV×AV) (fun _=>RT) (.err 245) (fun y _ ih=>@Prod.rec _ _ (fun _=>RT) (fun a v=>@Bool.rec (fun _=>RT) ih (.ok v h) (pW a args)) y) tab
def Aw (v:AV) (x:RT):Bool:=@RT.rec (fun _=>Bool) (fun v' _=>same v v') (fun _=>false) (fun m _ ih=>nj m ih) x
def cI (p:Pg) (m f n:Nat) (tab:List (List AV×AV)):Bool:=tab.all fun y=>jA y.1&&ig y.2&&Aw y.2 (aD p (exec p m) f y.1 (CU n 0 .dead))
end
end Go.Am
