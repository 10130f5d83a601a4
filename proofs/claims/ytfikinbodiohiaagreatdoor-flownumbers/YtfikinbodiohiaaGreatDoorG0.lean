/- Worlds of listed variables, states that are told by numbers, recorded calls. Nothing is asked. -/
import Derived.Test.YtfikinbodiohiaaGreatDoorA
set_option linter.all false
namespace Go.Am
noncomputable section
def iK (n:Nat):P4:=.mk (bR (n / 4096)) (bR (n / 256 % 16)) (bR (n / 16 % 16)) (bR (n % 16))
def Rh (n:Nat):O4:=Nat.rec .nil (fun j t=>de (iK j) .dead t) n
def Gz (el:Nat) (k:IntKind) (zs:List Int):Obj:=.cells el zs.length true .plain (mu (zs.map fun z=>AV.int k z))
def Db (n g:Nat) (o:Obj):Hp:=.mk (de (iK g) o (Rh n)) (iK n) .off
def Ln (k:IntKind) (z:Int) (v:AV):Bool:=match v with
 | .int k' z'=>decide (k'=k)&&decide (z'=z)
 | _=>false
def iL (k:IntKind):List Int→Nat→Cl→Bool
 | [],_,_=>true
 | z::r,i,c=>Ln k z (eA i c)&&iL k r (i+1) c
def Nj (el:Nat) (k:IntKind) (zs:List Int) (o:Obj):Bool:=match o with
 | .cells e n true .plain c=>decide (e=el)&&decide (n=zs.length)&&iL k zs 0 c
 | _=>false
end
noncomputable section
def iM (p:P4):Nat:=P4.casesOn p (fun a b c d=>Nat.add (Nat.add (Nat.add (Nat.mul a.nat 4096) (Nat.mul b.nat 256)) (Nat.mul c.nat 16)) d.nat)
def gp (p:P4) (t:A4):AV:=P4.casesOn p (fun a b c d=>A1.get d (A2.get c (A3.get b (A4.get a t))))
def ZX (a b c d:H) (v:AV) (t4:A4) (t3:A3) (t2:A2):A4:=A4.set a (A3.set b (A2.set c (A1.set d v (A2.get c t2)) t2) t3) t4
def ZY (a b c d:H) (v:AV) (t4:A4) (t3:A3):A4:=ZX a b c d v t4 t3 (A3.get b t3)
def HQ (p:P4) (v:AV) (t:A4):A4:=P4.casesOn p (fun a b c d=>ZY a b c d v t (A4.get a t))
def rP (K:Nat) (t:A4) (i j:P4):Bool:=Bool.casesOn (Nat.ble (Nat.succ (iM i)) K) false (OM.casesOn (gp i t).dR false false (fun k=>lk k j))
def Rj (x:AV):OM:=OM.casesOn x.dR (OL.casesOn x.asAgg .no (fun l=>List.casesOn l .no (fun y _=>y.dR))) .no (fun i=>.yes i)
def rM (K:Nat) (t:A4) (i j:P4):Bool:=Bool.casesOn (Nat.ble (Nat.succ (iM i)) K) false (OM.casesOn (Rj (gp i t)) false false (fun k=>lk k j))
def Vv (K:Nat) (t:A4) (x y:AV):Bool:=AV.casesOn x true (fun _=>dk x y) (fun _ _=>dk x y) (fun _=>dk x y) (fun _ _=>dk x y) (fun _ _ _=>dk x y)
 (fun i o=>OP.casesOn y.fo false (fun j q=>Bool.casesOn (Nat.beq o q) false (rP K t i j))) (dk x y)
 (fun i a b c=>SC.casesOn y.Di false false (fun j d e f=>Bool.casesOn (Nat.beq a d) false (Bool.casesOn (Nat.beq b e) false (Bool.casesOn (Nat.beq c f) false (rP K t i j)))) (fun _ _ _ _=>false))
 (fun i a b c=>SC.casesOn y.Di false false (fun _ _ _ _=>false) (fun j d e f=>Bool.casesOn (Nat.beq a d) false (Bool.casesOn (Nat.beq b e) false (Bool.casesOn (Nat.beq c f) false (rP K t i j)))))
 (dk x y) (fun i=>OM.casesOn y.dR false false (fun j=>rM K t i j)) (dk x y) (fun _ _=>false) (dk x y) (fun _ _=>false) (dk x y) (fun _=>false) (fun _=>false) (fun _=>false)
def Ud (K:Nat) (t:A4) (a b:List AV):Bool:=bQ (β:=List AV→Bool) (fun b=>List.casesOn b true (fun _ _=>false))
 (fun x _ ih b=>List.casesOn b false (fun y b=>Bool.casesOn (Vv K t x y) false (ih b))) a b
def Rk (K:Nat) (t:A4) (x y:AV):Bool:=OL.casesOn x.asAgg (Vv K t x y) (fun a=>OL.casesOn y.asAgg false (fun b=>Ud K t a b))
def Ue (K:Nat) (t:A4) (x y:AV):Bool:=Nn.casesOn x.Ap (Np.casesOn x.Aq (Rk K t x y) (Rk K t x y)
  (fun u a=>Np.casesOn y.Aq false false (fun v b=>Bool.casesOn (Nat.beq u v) false (Rk K t a b))))
  (fun f a=>Nn.casesOn y.Ap false (fun g b=>Bool.casesOn (Nat.beq f g) false (Ud K t a b)))
def XV (K:Nat) (t:A4) (a b:List AV):Bool:=bQ (β:=List AV→Bool) (fun b=>List.casesOn b true (fun _ _=>false))
 (fun x _ ih b=>List.casesOn b false (fun y b=>Bool.casesOn (Ue K t x y) false (ih b))) a b
def uY (K:Nat) (t:A4) (x y:AV):Bool:=OL.casesOn x.sL (Ue K t x y) (fun a=>OL.casesOn y.sL false (fun b=>XV K t a b))
def nG (K:Nat) (t:A4) (a b:List KV):Bool:=bQ (β:=List KV→Bool) (fun b=>List.casesOn b true (fun _ _=>false))
 (fun x _ ih b=>List.casesOn b false (fun y b=>KV.casesOn x (fun k v c=>KV.casesOn y (fun k' v' c'=>Bool.casesOn (Nat.beq c c') false (Bool.casesOn (uY K t k k') false (Bool.casesOn (uY K t v v') false (ih b))))))) a b
def Uf (K:Nat) (t:A4) (x y:Obj):Bool:=Obj.casesOn x false true
 (fun el n ex fl c=>XW.casesOn y.wF false (fun el' n' ex' fl' c'=>Bool.casesOn (Nat.beq el el') false (Bool.casesOn (Nat.beq n n') false (Bool.casesOn (eH ex ex') false (Bool.casesOn (Fl.eq fl fl') false
  (Bool.casesOn (Nat.ble n (bW c)) false (nF n (fun k=>uY K t (eA k c) (eA k c')))))))))
 (fun l ck=>LC.casesOn y.dR false (fun l' ck'=>Bool.casesOn (Nat.beq ck ck') false (nG K t l l'))) (fun _ _=>false) (fun _ _ _ _=>false) false
def Xh {β:Type} (b:Nat) (l:List KV) (k:AV→AV→List KV→β) (e:β):β:=bQ (β:=List KV→β) (fun _=>e) (fun y t ih acc=>KV.casesOn y (fun a v c=>Bool.casesOn (Nat.beq b c) (ih (.cons y acc)) (k a v (List.append acc t)))) l .nil
def Lp (K:Nat) (t:A4) (l:List KV) (labs:List Nat) (l':List KV):Bool:=bQ (β:=List Nat→List KV→Bool) (fun labs l'=>Bool.casesOn (fq labs) false (fq l'))
 (fun x _ ih labs l'=>List.casesOn labs false (fun b bs=>Xh b l' (fun k' v' rest=>KV.casesOn x (fun k v _=>Bool.casesOn (uY K t k k') false (Bool.casesOn (uY K t v v') false (ih bs rest)))) false)) l labs l'
def wz (l:List KV) (i:Nat):Bool:=bQ (β:=Nat→Bool) (fun _=>true) (fun x _ ih i=>KV.casesOn x (fun _ _ c=>Bool.casesOn (Nat.beq c i) false (ih (Nat.succ i)))) l i
def Yq (K:Nat) (t:A4) (c:List Nat) (x y:Obj):Bool:=LC.casesOn x.dR false (fun l ck=>LC.casesOn y.dR false (fun l' ck'=>List.casesOn c false (fun c0 labs=>Bool.casesOn (Nat.beq c0 ck') false
 (Bool.casesOn (Nat.beq ck (Nat.add dH l.length)) false (Bool.casesOn (wz l dH) false (Lp K t l labs l'))))))
def Lq (K:Nat) (t:A4) (l:List AV) (x y:Obj):Bool:=List.casesOn l false (fun _ l2=>List.casesOn l2 false (fun s _=>OS.casesOn s.yF false (fun c=>Yq K t c x y)))
def GK (n K:Nat) (t u:A4) (r':A2) (h':Hp) (r:A2) (h:Hp):Bool:=
 Bool.casesOn (nF n (fun g=>rP K t (iK g) (iK g))) false
  (Bool.casesOn (nF 16 (fun a=>nF 16 (fun b=>uY K t (ar (bR a) (bR b) r') (ar (bR a) (bR b) r)))) false
   (nF K (fun k=>OM.casesOn (Rj (gp (iK k) t)) false false (fun j=>OM.casesOn (gp j u).dR false false (fun i=>Bool.casesOn (lk i (iK k)) false (OL.casesOn (gp (iK k) t).asAgg (Uf K t (au (iK k) h') (au j h)) (fun l=>Bool.casesOn (Nat.ble n k) false (Lq K t l (au (iK k) h') (au j h)))))))))
inductive TK where
 | mk (t u:A4)
def uP (i j:P4) (s:TK):TK:=TK.casesOn s (fun t u=>OM.casesOn (gp i t).dR (.mk (HQ i (.map j) t) (HQ j (.map i) u)) (.mk (HQ i (.map j) t) (HQ j (.map i) u)) (fun _=>.mk t u))
def u1 (x y:AV) (s:TK):TK:=AV.casesOn x s (fun _=>s) (fun _ _=>s) (fun _=>s) (fun _ _=>s) (fun _ _ _=>s)
 (fun i _=>OP.casesOn y.fo s (fun j _=>uP i j s)) s
 (fun i _ _ _=>SC.casesOn y.Di s s (fun j _ _ _=>uP i j s) (fun j _ _ _=>uP i j s))
 (fun i _ _ _=>SC.casesOn y.Di s s (fun j _ _ _=>uP i j s) (fun j _ _ _=>uP i j s))
 s (fun i=>OM.casesOn y.dR s s (fun j=>uP i j s)) s (fun _ _=>s) s (fun _ _=>s) s (fun _=>s) (fun _=>s) (fun _=>s)
def uL (a b:List AV) (s:TK):TK:=bQ (β:=List AV→TK→TK) (fun _ s=>s) (fun x _ ih b s=>List.casesOn b s (fun y b=>ih b (u1 x y s))) a b s
def uA (x y:AV) (s:TK):TK:=OL.casesOn x.asAgg (u1 x y s) (fun a=>OL.casesOn y.asAgg s (fun b=>uL a b s))
def u2 (x y:AV) (s:TK):TK:=Nn.casesOn x.Ap (Np.casesOn x.Aq (uA x y s) (uA x y s) (fun _ a=>Np.casesOn y.Aq s s (fun _ b=>uA a b s))) (fun _ a=>Nn.casesOn y.Ap s (fun _ b=>uL a b s))
def uT (a b:List AV) (s:TK):TK:=bQ (β:=List AV→TK→TK) (fun _ s=>s) (fun x _ ih b s=>List.casesOn b s (fun y b=>ih b (u2 x y s))) a b s
def uV (x y:AV) (s:TK):TK:=OL.casesOn x.sL (u2 x y s) (fun a=>OL.casesOn y.sL s (fun b=>uT a b s))
def ZZ (a b:List KV) (s:TK):TK:=bQ (β:=List KV→TK→TK) (fun _ s=>s) (fun x _ ih b s=>List.casesOn b s (fun y b=>KV.casesOn x (fun k v _=>KV.casesOn y (fun k' v' _=>ih b (uV v v' (uV k k' s)))))) a b s
def fwd (f:Nat→TK→TK) (n:Nat):TK→TK:=nO (β:=Nat→TK→TK) (fun _ s=>s) (fun _ ih k s=>TK.casesOn (f k s) (fun t u=>ih (Nat.succ k) (.mk t u))) n 0
def uO (x y:Obj) (s:TK):TK:=Obj.casesOn x s s (fun _ n _ _ c=>XW.casesOn y.wF s (fun _ _ _ _ c'=>fwd (fun k s=>uV (eA k c) (eA k c') s) n s))
 (fun l _=>LC.casesOn y.dR s (fun l' _=>ZZ l l' s)) (fun _ _=>s) (fun _ _ _ _=>s) s
def Xi {β:Type} (key:AV) (l:List KV) (k:AV→Nat→β) (e:β):β:=bQ e (fun y _ ih=>KV.casesOn y (fun a v c=>Bool.casesOn (dk key a) ih (k v c))) l
def uPm (l l':List KV) (k:List Nat→TK→TK):List Nat→TK→TK:=bQ (β:=List Nat→TK→TK) (fun labs s=>k labs s) (fun x _ ih labs s=>KV.casesOn x (fun kx vx _=>Xi kx l' (fun v' c=>ih (List.append labs (.cons c .nil)) (uV vx v' s)) s)) l
def LN (l l':List KV):Bool:=bQ (β:=List KV→Bool) (fun b=>fq b) (fun x _ ih b=>List.casesOn b false (fun y b=>KV.casesOn x (fun kx _ c=>KV.casesOn y (fun ky _ c'=>Bool.casesOn (Nat.beq c c') false (Bool.casesOn (dk kx ky) false (ih b)))))) l l'
def uX (n k:Nat) (j:P4) (x y:Obj) (s:TK):TK:=LC.casesOn x.dR (uO x y s) (fun l ck=>Bool.casesOn (Bool.and (Nat.ble n k) (Nat.ble dH ck)) (uO x y s) (LC.casesOn y.dR s (fun l' ck'=>Bool.casesOn (Bool.and (Nat.beq ck ck') (LN l l'))
 (uPm l l' (fun labs s=>TK.casesOn s (fun t u=>.mk (HQ (iK k) (.agg (.cons (.map j) (.cons (.str (.cons ck' labs)) .nil))) t) u)) .nil s) (uO x y s))))
def VA (n K:Nat) (r':A2) (h':Hp) (r:A2) (h:Hp):TK:=
 fwd (fun k s=>TK.casesOn s (fun t u=>OM.casesOn (gp (iK k) t).dR (.mk t u) (.mk t u) (fun j=>uX n k j (au (iK k) h') (au j h) (.mk t u)))) K
  (fwd (fun k s=>uV (ar (bR (Nat.div k 16)) (bR (Nat.mod k 16)) r') (ar (bR (Nat.div k 16)) (bR (Nat.mod k 16)) r) s) 256 (fwd (fun g s=>uP (iK g) (iK g) s) n (.mk .nil .nil)))
def wB (n K:Nat) (r':A2) (h':Hp) (r:A2) (h:Hp):Bool:=TK.casesOn (VA n K r' h' r h) (fun t u=>GK n K t u r' h' r h)
def Vz (l:List Obj):Nat→O4→O4:=bQ (β:=Nat→O4→O4) (fun _ t=>t) (fun o _ ih k t=>ih (Nat.succ k) (de (iK k) o t)) l
def aN (l:List Obj):Hp:=.mk (Vz l 0 .nil) (iK l.length) .off
inductive Tg where
 | nm (r:A2) (l:List Obj)
 | ex (i:Nat) (r:A2) (l:List Obj)
 | ret (r:A2) (l:List Obj)
def Tg.rs (q:Tg):RS:=Tg.casesOn q (fun r l=>.nm r (aN l)) (fun i r l=>.ex i r (aN l)) (fun r l=>.ret r (aN l))
def aB (n:Nat) (q:Tg) (x:RS):Bool:=RS.elim
 (fun r h=>Tg.casesOn q (fun r' l=>wB n l.length r' (aN l) r h) (fun _ _ _=>false) (fun _ _=>false))
 (fun i r h=>Tg.casesOn q (fun _ _=>false) (fun j r' l=>Bool.casesOn (Nat.beq j i) false (wB n l.length r' (aN l) r h)) (fun _ _=>false))
 (fun _ _ _=>false)
 (fun r h=>Tg.casesOn q (fun _ _=>false) (fun _ _ _=>false) (fun r' l=>wB n l.length r' (aN l) r h))
 (fun _=>false) nF x
def nI {β:Type} (f:Nat):Nat→(Nat→Nat→β)→β:=nO (β:=Nat→(Nat→Nat→β)→β) (fun s k=>k 0 s)
 (fun _ ih s k=>Bool.casesOn (Nat.ble 8 (Nat.mod s 16)) (k (Nat.mod s 16) (Nat.div s 16)) (ih (Nat.div s 16) (fun n s'=>k (Nat.add (Nat.sub (Nat.mod s 16) 8) (Nat.mul 8 n)) s'))) f
def rd {β:Type} (s:Nat) (k:Nat→Nat→β):β:=nI 64 s k
def Tp (n:Nat):Nat→(List Nat→Nat→List AV)→List AV:=nO (β:=Nat→(List Nat→Nat→List AV)→List AV) (fun s k=>k .nil s) (fun _ ih s k=>ih (Nat.div s 256) (fun l s'=>k (.cons (Nat.mod s 256) l) s')) n
def kindOf (n:Nat):IntKind:=nth [.i8,.i16,.i32,.i64,.u8,.u16,.u32,.u64] (fun k=>k) .i64 n
def vI (tag s:Nat) (k:AV→Nat→List AV):List AV:=nth (β:=List AV) [0,1,2,3,4,5,6,7,8,9,10,11,12,13,14,15]
 (fun tag=>nth (β:=List AV) [
  k .undef s,rd s (fun n s=>k (.int .i64 (.ofNat n)) s),rd s (fun n s=>k (.int .i64 (.negSucc n)) s),rd s (fun c s=>rd s (fun n s=>k (.int (kindOf c) (.ofNat n)) s)),
  rd s (fun n s=>Tp n s (fun l s=>k (.str l) s)),rd s (fun i s=>rd s (fun o s=>k (.ptr (iK i) o) s)),k .di s,
  rd s (fun i s=>rd s (fun o s=>rd s (fun n s=>rd s (fun c s=>k (.slice (iK i) o n c) s)))),rd s (fun i s=>rd s (fun o s=>rd s (fun n s=>rd s (fun c s=>k (.fX (iK i) o n c) s)))),
  k .ai s,k (.bool false) s,k (.bool true) s,rd s (fun i s=>k (.map (iK i)) s),k .gg s,
  rd s (fun a s=>rd s (fun b s=>k (.aj .f64 (Nat.mul a 17592186044416) (Nat.mul b 17592186044416)) s)),k .qi s] (fun x=>x) .nil tag) .nil tag
def ZK (n:Nat):Nat→List AV:=nO (β:=Nat→List AV) (fun _=>.nil) (fun _ ih s=>vI (Nat.mod s 16) (Nat.div s 16) (fun v s=>.cons v (ih s))) n
def YK (n:Nat):Fl:=nth [.plain,.mark,.wE] (fun k=>k) .plain n
def YL (vn n:Nat) (l:List AV) (i:Nat):List KV:=nO (β:=List AV→Nat→List KV) (fun _ _=>.nil) (fun _ ih l i=>List.casesOn l .nil (fun k l=>Nat.casesOn vn (List.casesOn l .nil (fun v l=>.cons (.mk k v i) (ih l (Nat.succ i)))) (fun _=>.cons (.mk k (.agg (List.take vn l)) i) (ih (List.drop vn l) (Nat.succ i))))) n l i
def YM (s:Nat):Obj:=rd s (fun n s=>rd s (fun vn s=>.map (YL vn n (ZK (Nat.mul n (Nat.casesOn vn 2 (fun m=>Nat.succ (Nat.succ m)))) s) dH) (Nat.add dH n)))
def oI (s:Nat):Obj:=rd s (fun c s=>Nat.casesOn c .dead (fun c=>Bool.casesOn (Nat.ble 6 c) (rd s (fun el s=>rd s (fun n s=>.cells el n (Nat.ble c 2) (YK (Nat.mod c 3)) (mu (ZK n s))))) (YM s)))
def eG (l:List Nat):List Obj:=bQ .nil (fun s _ ih=>.cons (oI s) ih) l
end
noncomputable section
def Lv (f:Nat) (a:AF) (p:F3):F3:=F3.set (bR (Nat.div f 256)) (F2.set (bR (Nat.mod (Nat.div f 16) 16)) (F1.set (bR (Nat.mod f 16)) a (F2.get (bR (Nat.mod (Nat.div f 16) 16)) (F3.get (bR (Nat.div f 256)) p))) (F3.get (bR (Nat.div f 256)) p)) p
def VC (n:Nat) (v':AV) (l':List Obj) (v:AV) (h:Hp):Bool:=wB n l'.length (dj .h0 .h0 v' .nil) (aN l') (dj .h0 .h0 v .nil) h
def lM (n:Nat) (v':AV) (l':List Obj) (x:RT):Bool:=@RT.rec (fun _=>Bool) (fun v h=>VC n v' l' v h) (fun _=>false) (fun m _ ih=>nF m ih) x
def VD (g:Lg):Bool:=@Lg.rec (fun _=>Bool) true (fun _=>false) g
def gY (args0:List AV) (l0:List Obj) (v':AV) (l':List Obj) (args:List AV) (h:Hp):RT:=
 @Bool.rec (fun _=>RT) (.err 461) (@Bool.rec (fun _=>RT) (.err 462) (@Bool.rec (fun _=>RT) (.err 463) (.ok v' (aN l')) (Ri (aN l0) h)) (VD h.log)) (pU args0 args)
def fC (k:PK) (a:AF):AF:=match a with|.mk b r=>.oU k b r|.Ek b r=>.oU k b r|.oU _ b r=>.oU k b r|.none=>.none|.ext k=>.ext k
def yB (f:Nat) (k:PK) (p:F3):F3:=Lv f (fC k (cM f p)) p
def kj (f:Nat) (k:PK) (p:Pg):Pg:=@Pg.rec (fun _=>Pg) (fun fs ms=>.mk (yB f k fs) ms) p
def pat (l:List Obj) (c:List (Nat×Nat)):List Obj:=c.foldr (fun x l=>l.set x.1 (oI x.2)) l
end
noncomputable section
mutual
def hY:AV→Bool
 | .bool _=>true
 | .int _ _=>true
 | .str _=>true
 | .fi _ _=>true
 | .aj _ _ _=>true
 | .di=>true
 | .ai=>true
 | .gg=>true
 | .qi=>true
 | .sj=>true
 | .agg l=>jw l
 | .bU l=>jw l
 | _=>false
def jw:List AV→Bool
 | []=>true
 | v::l=>hY v&&jw l
end
def bg (tab:List (List AV×AV)) (args:List AV) (h:Hp):RT:=@List.rec (List AV×AV) (fun _=>RT) (.err 245) (fun y _ ih=>@Prod.rec _ _ (fun _=>RT) (fun a v=>@Bool.rec (fun _=>RT) ih (.ok v h) (pU a args)) y) tab
def Al (v:AV) (x:RT):Bool:=@RT.rec (fun _=>Bool) (fun v' _=>same v v') (fun _=>false) (fun m _ ih=>nF m ih) x
def cV (p:Pg) (m f n:Nat) (tab:List (List AV×AV)):Bool:=tab.all fun y=>jw y.1&&hY y.2&&Al y.2 (aD p (exec p m) f y.1 (Db n 0 .dead))
end
end Go.Am
