/- The abstract machine is sound: what its run says holds of the Go program. Conditions: the table of functions is the program's (Env). -/
import Derived.Test.YtfikinbodiohiaaGreatDoorS0
import Derived.Lib.Builder
import Derived.Lib.UnsafeStr
import Derived.Orders
import Derived.Scope
import Derived.Laws.Sem
set_option linter.all false
namespace Go.Am
variable {P:Program} {φ:aJ} {h h':Hp} {w:World} {v:AV} {x y z:AO} {r:A2} {cx cy cz:Value}
theorem bP.JC {st:Nat→Nat}:∀{l:List KV} {es:List MapEntry} (j:Nat) {k val:AV} {ck:Value} {e:MapEntry},bP st φ l es→VR φ k ck→es[j]?=some e→VR φ val e.val→bP st φ (lN j k val l) (es.modify j fun e=>{e with key:=ck})
 | _,_,j,_,_,_,_,.nil,_,he,_=>by simp at he
 | _,_,0,k,val,ck,e',.cons k0 v0 b e l es a c d r,h1,he,h2=>by
  have he:some e=some e':=by simpa using he
  cases he
  exact .cons _ _ _ _ _ _ h1 h2 d r
 | _,_,j+1,k,val,ck,e',.cons k0 v0 b e l es a c d r,h1,he,h2=>.cons k0 v0 b e _ _ a c d (bP.JC j r h1 (by simpa using he) h2)
theorem bP.JD {st:Nat→Nat}:∀{l:List KV} {es:List MapEntry} (j:Nat) {a val:AV} {cv:Value},bP st φ l es→VR φ val cv→(∃vv bb,l[j]?=some (KV.mk a vv bb))→bP st φ (lN j a val l) (es.modify j fun e=>{e with val:=cv})
 | _,_,j,_,_,_,.nil,_,⟨_,_,he⟩=>by simp at he
 | _,_,0,a',val,cv,.cons k0 v0 b e l es p c d r,h1,⟨vv,bb,he⟩=>by
  have he:some (KV.mk k0 v0 b)=some (KV.mk a' vv bb):=by simpa using he
  cases he
  exact .cons _ _ _ _ _ _ p h1 d r
 | _,_,j+1,a',val,cv,.cons k0 v0 b e l es p c d r,h1,⟨vv,bb,he⟩=>.cons k0 v0 b e _ _ p c d (bP.JD j r h1 ⟨vv,bb,by simpa using he⟩)
noncomputable def JE (b:Nat) (l:List KV) (k:Nat→AV→RV) (e:RV) (i:Nat):RV:=bQ (β:=Nat→RV) (fun _=>e)
 (fun y _ ih i=>@KV.rec (fun _=>RV) (fun a _ c=>@Bool.rec (fun _=>RV) (ih (Nat.succ i)) (k i a) (Nat.beq b c)) y) l i
theorem Mj (b:Nat) (l:List KV) (k:Nat→AV→RV) (e:RV):WT b l k e=JE b l k e 0:=rfl
theorem CD {b q:Nat} {k:Nat→AV→RV}:∀{l:List KV} {i:Nat},JE b l k (.err q) i=.ok v h'→
  ∃l1 a vv l2,l=l1 ++ KV.mk a vv b::l2∧k (i+l1.length) a=.ok v h'
 | [],_,he=>by cases he
 | .mk a c b'::l,i,he0=>by
  have he1:(@Bool.rec (fun _=>RV) (JE b l k (.err q) (i+1)) (k i a) (Nat.beq b b'))=.ok v h':=he0
  cases hb:Nat.beq b b' with
  | true=>
   rw [hb] at he1
   obtain rfl:=Nat.eq_of_beq_eq_true hb
   exact ⟨[],a,c,l,rfl,he1⟩
  | false=>
   rw [hb] at he1
   obtain ⟨l1,a',vv,l2,rfl,q3⟩:=CD (l:=l) (i:=i+1) he1
   refine ⟨.mk a c b'::l1,a',vv,l2,rfl,?_⟩
   rw [show i+(KV.mk a c b'::l1).length=i+1+l1.length by rw [List.length_cons];omega];exact q3
theorem bP.findIdx {st:Nat→Nat} {b:Nat} {a vv:AV} {m2:List KV}:∀{m1:List KV} {es:List MapEntry},bP st φ (m1 ++ KV.mk a vv b::m2) es→(∀y,y∈m1→st y.ji≠st b)→es.findIdx? (fun e=>(e.born:Int) == ((st b:Nat):Int))=some m1.length
 | [],_,.cons _ _ _ e _ es _ _ h3 _,_=>by
  rw [List.findIdx?_cons]
  have h4:((e.born:Int) == ((st b:Nat):Int))=true:=by rw [h3];exact beq_self_eq_true _
  rw [h4];rfl
 | .mk k0 v0 b0::m1,_,.cons _ _ _ e _ es _ _ h3 hr,hne=>by
  rw [List.findIdx?_cons]
  have h4:((e.born:Int) == ((st b:Nat):Int))=false:=by
   rw [beq_eq_false_iff_ne,h3]
   intro g
   exact hne _ (List.mem_cons_self ..) (Int.ofNat.inj g)
  rw [h4]
  have:=bP.findIdx (m1:=m1) hr fun y hy=>hne y (List.mem_cons_of_mem _ hy)
  simp [this]
theorem DP {t k e:TypeId} {kt:KT} {zv:AV} (H:HR φ h w) {a b:AV} (hx:VR φ a cx) (hy:VR φ b cy) (ht:P.underlying t=some (.map k e)) (hk:mr P k=some kt) (hz:jo P e=some zv)
  (he:yo kt zv a b h=.ok v h'):Good φ h w v h' ((Instr.mapEntry t cx cy).run P w):=by
 obtain ⟨hok,he⟩:=aC he
 obtain ⟨d,hd⟩:=oh hk
 unfold jo at hz
 simp only [Option.bind_eq_some_iff] at hz
 obtain ⟨cz,⟨inf,hinf,hcz⟩,hz⟩:=hz
 have hvz:=nT hz φ
 rcases eZ he with ⟨i,rfl,he2⟩|⟨rfl,he2⟩
 ·obtain ⟨l,ck,hi,he3⟩:=dF he2
  obtain ⟨p,hp,rfl⟩:=hx.jD
  obtain ⟨es,cw,l0,h1,hpm,h2,hS⟩:=H.map hi hp
  obtain ⟨hT,he3⟩:=vG he3
  have hck1:ck+1 < dH:=Nat.lt_of_not_le fun g=>by rw [Nat.ble_eq_true_of_le g] at hT;cases hT
  have hid:=hS.low (by omega)
  obtain rfl:cw=ck:=by rw [←hS.at,hid]
  rw [kW] at he3
  have hck:=fun em=>run_checkKey (w:=w) hk hy hok em
  rcases ja he3 with ⟨g1,g2⟩|⟨j,kk,val,bb,g1,g2⟩
  ·obtain ⟨cr,f1,f2,f3⟩:=(g1.Cv hpm).find H hd hk hy 0 h2
   cases cr with
   | some q=>exact f3.elim
   | none=>
    obtain ⟨rfl,rfl⟩:=RV.av g2
    obtain ⟨s1,s2,s3⟩:=HR.pB (P:=P) (ck':=cw+1) (cw':=cw+1) H hi hp (es:=es.push {key:=cy,val:=cz,born:=cw}) (l':=snoc l (.mk b zv cw)) (l0':=snoc l0 (.mk b zv cw)) (vF hpm _) (by rw [Array.toList_push];exact h2.snoc hy hvz hS.at.symm) (by rw [zg];exact hS.add (by omega)) h1
    refine ⟨.tuple #[cz,.int .i64 cw],_,φ,?_,.bU [_,_] [_,_] (.cons _ _ _ _ hvz (.cons _ _ _ _ (.int _ _) .nil)),s2,s3⟩
    simp [Instr.mapEntry,ak ht,cj h1 rfl,hck,run_findKey hd f1 f2,zeroValue,bD hinf,hcz,s1,goInt]
  ·obtain ⟨j0,g1,pset,_⟩:=g1.perm hpm
   obtain ⟨cr,f1,f2,f3⟩:=g1.find H hd hk hy 0 h2
   cases cr with
   | none=>exact f3.elim
   | some q=>
    obtain ⟨j',cv⟩:=q
    obtain ⟨rfl,u0,e0,u1,u2,u3,u4,u5⟩:=f3
    obtain ⟨rfl,rfl⟩:=RV.av g2
    have hsb:=ot (h:=h) hy u3 u4
    have hes:(es.modify (0+j0) fun e=>{e with key:=cy}).toList=es.toList.modify (0+j0) fun e=>{e with key:=cy}:=by simp
    obtain ⟨s1,s2,s3⟩:=HR.pB (P:=P) (ck':=cw) (cw':=cw) H hi hp (es:=es.modify (0+j0) fun e=>{e with key:=cy}) (l':=lN (0+j) b val l) (l0':=lN (0+j0) b val l0) (by rw [Nat.zero_add,Nat.zero_add];exact pset _ _) (by rw [hes];exact h2.JC _ hy (by rw [Nat.zero_add];exact u1) (by rw [u2];exact u0)) (by rw [od];exact hS) h1
    have hge:es[0+j0]?=some e0:=by rw [Nat.zero_add];simpa using u1
    have hks:(Instr.keyThatStays (((es[0+j0]?).map (·.key)).getD cy) cy).run P w=.ok cy w:=by
     rw [hge]
     simp [Instr.keyThatStays,hsb]
    have hbn:((es[0+j0]?).map (fun x=>(x.born:Int))).getD 0=(bb:Int):=by rw [hge];exact congrArg Int.ofNat (u5.trans (hid bb))
    refine ⟨.tuple #[cv,.int .i64 bb],_,φ,?_,.bU [_,_] [_,_] (.cons _ _ _ _ u0 (.cons _ _ _ _ (.int _ _) .nil)),s2,s3⟩
    simp only [Instr.mapEntry,Sem.run_bind,ak ht,Result.andThen_ok,cj h1 rfl,hck,run_findKey hd f1 f2,hks,s1,Sem.run_pure,hbn]
    rfl
 ·cases he2
theorem DQ {t:TypeId} {cs:Value} (H:HR φ h w) {a s c:AV} (hx:VR φ a cx) (hy:VR φ s cs) (hz:VR φ c cz) (he:yp a s c h=.ok v h'):v=.undef∧vA φ h w h' ((Instr.entryStore t cx cs cz).run P w):=by
 rcases eZ he with ⟨i,rfl,he2⟩|⟨rfl,he2⟩
 ·obtain ⟨l,ck,hi,he3⟩:=dF he2
  obtain ⟨p,hp,rfl⟩:=hx.jD
  obtain ⟨es,cw,l0,h1,hpm,h2,hS⟩:=H.map hi hp
  obtain ⟨hT,he3⟩:=vG he3
  have hck1:ck < dH:=Nat.lt_of_not_le fun g=>by rw [Nat.ble_eq_true_of_le g] at hT;cases hT
  have hid:=hS.low hck1
  obtain ⟨kd,b,rfl,he4⟩:=cY he3
  rw [hy.aU]
  rw [Mj] at he4
  obtain ⟨l1,a',vv,l2,rfl,q3⟩:=CD he4
  obtain ⟨rfl,rfl⟩:=RV.av q3
  obtain ⟨m1,m2,rfl,hm⟩:=tA hpm
  have hnd:=hS.Nk
  rw [List.map_append,List.map_cons,List.nodup_append,List.nodup_cons] at hnd
  have q2:es.toList.findIdx? (fun e=>(e.born:Int) == (b:Int))=some m1.length:=by
   have:=h2.findIdx fun y hy g=>by
    rw [hid,hid] at g
    rcases List.mem_append.1 (hm.mem_iff.2 (List.mem_append_left m2 hy)) with k|k
    ·exact hnd.2.2 _ (List.mem_map.2 ⟨y,k,rfl⟩) _ (List.mem_cons_self ..) g
    ·exact hnd.2.1.1 (g▸List.mem_map.2 ⟨y,k,rfl⟩)
   rw [hid] at this
   exact this
  have hes:(es.modify m1.length fun e=>{e with val:=cz}).toList=es.toList.modify m1.length fun e=>{e with val:=cz}:=by simp
  obtain ⟨s1,s2,s3⟩:=HR.pB (P:=P) (ck':=ck) (cw':=cw) H hi hp (es:=es.modify m1.length fun e=>{e with val:=cz}) (l':=lN (0+l1.length) a' c (l1 ++ KV.mk a' vv b::l2)) (l0':=lN m1.length a' c (m1 ++ KV.mk a' vv b::m2))
   (by rw [Nat.zero_add,kX,kX];exact (List.perm_middle.trans (hm.cons _)).trans List.perm_middle.symm) (by rw [hes];exact h2.JD _ hz ⟨vv,b,by simp⟩) (by rw [od];exact hS) h1
  have hfi:es.findIdx? (fun e=>(e.born:Int) == (Int.ofNat b))=some m1.length:=by
   rw [←q2]
   cases es
   simp
  refine ⟨rfl,_,φ,?_,s2,s3⟩
  simp only [Instr.entryStore,Sem.run_bind,cj h1 rfl,Result.andThen_ok,asInt,asIntOf,Sem.run_pure,hfi,s1]
 ·cases he2
variable {P:Program} {φ:aJ} {h h':Hp} {w:World} {v:AV} {r:A2} {cx cy:Value} {t:TypeId} {G:Gl} {ρ:Operand→Value}
theorem aw {d:TypeDesc} (e:jh P t=d) (hd:d≠.invalid):P.underlying t=some d:=by
 unfold jh at e
 cases hu:P.underlying t with
 | none=>rw [hu] at e;exact absurd e.symm hd
 | some d'=>rw [hu] at e;exact congrArg some e
theorem lG {e:TypeId} (h:bp P e≠0):∃i,P.info? e=some i∧i.size≠0:=by
 unfold bp Program.cellsOf at h
 cases hi:P.info? e with
 | none=>simp [hi] at h
 | some i=>exact ⟨i,rfl,by simpa [hi] using h⟩
theorem NO {e:TypeId} (ht:P.underlying t=some (.pointer e)) (h:bp P e≠0):Tu P .p t:=by
 obtain ⟨i,hi,hs⟩:=lG h
 exact ⟨e,i,ht,hi,hs⟩
theorem JF {op:BinOp} {x y:Operand} {k:BK} {ax ay:AO} (hc:∀c,ρ (.const c)=c) (hop:CW P op t x y=some k) (H:HR φ h w) (hx:VR φ (ev ax r) (ρ x)) (hy:VR φ (ev ay r) (ρ y)) (he:Nu k ax ay r h=.ok v h') :
  Good φ h w v h' ((do eqGuard op t x y (ρ x) (ρ y);binOp op t (ρ x) (ρ y):Sem Value).run P w):=by
 unfold CW at hop
 split at hop
 case h_1=>cases hop;exact Ie H hx hy he
 case h_2=>cases hop;exact Ig H hx hy he
 case h_3=>cases hop;exact Ih H hx hy he
 case h_4=>cases hop;exact Ii H hx hy he
 case h_5=>cases hop;exact Ij H hx hy he
 case h_6=>cases hop;exact Il H hx hy he
 case h_7=>cases hop;exact LR H hx hy he
 case h_8=>cases hop;exact Im H hx hy he
 case h_9=>cases hop;exact Dn H hx hy he
 case h_10=>cases hop;exact Ji H hx hy he
 case h_11=>cases hop;exact Jj H hx hy he
 case h_12=>cases hop;exact LS H hx hy he
 case h_13=>cases hop;exact LU H hx hy he
 case h_14=>cases hop;exact LV H hx hy he
 case h_15=>cases hop;exact LW H hx hy he
 case h_16=>cases hop;exact LX H hx hy he
 case h_17=>cases hop;exact LY H hx hy he
 case h_18=>cases hop;exact Ip H hx hy he
 case h_19=>cases hop;exact Iq H hx hy he
 case h_20=>cases hop;exact Ir H hx hy he
 case h_21=>cases hop;exact Iu H hx hy he
 case h_22=>cases hop;exact It H hx hy he
 case h_23=>cases hop;exact Iw H hx hy he
 case h_24=>cases hop;exact Ix H hx hy he
 case h_25 hu=>cases hop;exact yW false H hx hy (aw hu (by simp)) he
 case h_26 hu=>cases hop;exact yW true H hx hy (aw hu (by simp)) he
 case h_27 e hu=>
  split at hop
  ·cases hop
  ·rename_i hs;cases hop;exact yX false H hx hy (NO (aw hu (by simp)) hs) he
 case h_28 e hu=>
  split at hop
  ·cases hop
  ·rename_i hs;cases hop;exact yX true H hx hy (NO (aw hu (by simp)) hs) he
 case h_29 e hu=>
  split at hop
  ·rename_i hn;cases hop;have hn:=fg hn;subst hn;rw [hc];exact (bE false (k:=.s) ⟨_,aw hu (by simp)⟩ H hx x he).1
  ·cases hop
 case h_30 e hu=>
  split at hop
  ·rename_i hn;cases hop;have hn:=fg hn;subst hn;rw [hc];exact (bE true (k:=.s) ⟨_,aw hu (by simp)⟩ H hx x he).1
  ·cases hop
 case h_31 e hu=>
  split at hop
  ·rename_i hn;cases hop;have hn:=fg hn;subst hn;rw [hc];exact (bE false (k:=.m) ⟨_,_,aw hu (by simp)⟩ H hx x he).1
  ·cases hop
 case h_32 e hu=>
  split at hop
  ·rename_i hn;cases hop;have hn:=fg hn;subst hn;rw [hc];exact (bE true (k:=.m) ⟨_,_,aw hu (by simp)⟩ H hx x he).1
  ·cases hop
 case h_33 e hu=>
  split at hop
  ·rename_i hn;cases hop;have hn:=fg hn;subst hn;rw [hc];exact (bE false (k:=.f) ⟨_,_,_,aw hu (by simp)⟩ H hx x he).1
  ·cases hop
 case h_34 e hu=>
  split at hop
  ·rename_i hn;cases hop;have hn:=fg hn;subst hn;rw [hc];exact (bE true (k:=.f) ⟨_,_,_,aw hu (by simp)⟩ H hx x he).1
  ·cases hop
 case h_35 e hu=>
  split at hop
  ·rename_i hn;cases hop;have hn:=fg hn;subst hn;rw [hc];exact (bE false (k:=.i) ⟨_,aw hu (by simp)⟩ H hx x he).1
  ·cases hop
 case h_36 e hu=>
  split at hop
  ·rename_i hn;cases hop;have hn:=fg hn;subst hn;rw [hc];exact (bE true (k:=.i) ⟨_,aw hu (by simp)⟩ H hx x he).1
  ·cases hop
 case h_37=>
  split at hop
  ·cases hop
  ·rename_i hg
   simp only [Option.map_eq_some_iff] at hop
   obtain ⟨ks,hk,rfl⟩:=hop
   exact yY false H hx hy hk (by simpa using hg) he
 case h_38=>
  split at hop
  ·cases hop
  ·rename_i hg
   simp only [Option.map_eq_some_iff] at hop
   obtain ⟨ks,hk,rfl⟩:=hop
   exact yY true H hx hy hk (by simpa using hg) he
 case h_39=>cases hop;exact Jn H hx hy he
 case h_40=>cases hop;exact Jp H hx hy he
 case h_41=>cases hop
variable {P:Program} {φ:aJ} {h h':Hp} {w:World} {v:AV} {r:A2} {cx cy:Value} {t:TypeId} {G:Gl} {ρ:Operand→Value}
theorem ow {op:BinOp} {x y:Operand} {k:NK} (neg:Bool) {ay:AO} (hc:∀c,ρ (.const c)=c) (hop:CW P op t y x=some (if neg then .pO k else .ku k)) (H:HR φ h w) (hy:VR φ (ev ay r) (ρ y))
  (he:EB.rv neg h (sN k (ev ay r))=.ok v h'):Good φ h w v h' ((do eqGuard op t x y (ρ x) (ρ y);binOp op t (ρ x) (ρ y):Sem Value).run P w):=by
 unfold CW at hop
 split at hop<;>(try (split at hop))<;>(try (cases neg<;>cases hop;done))
 all_goals (try (simp only [Option.map_eq_some_iff] at hop;obtain ⟨ks,hk,hop⟩:=hop;cases neg<;>cases hop;done))
 all_goals
  rename_i hu hn
  cases neg<;>cases hop
  have hn:=fg hn
  subst hn
  rw [hc]
 ·exact (bE false (k:=.s) ⟨_,aw hu (by simp)⟩ H hy y he).2
 ·exact (bE true (k:=.s) ⟨_,aw hu (by simp)⟩ H hy y he).2
 ·exact (bE false (k:=.m) ⟨_,_,aw hu (by simp)⟩ H hy y he).2
 ·exact (bE true (k:=.m) ⟨_,_,aw hu (by simp)⟩ H hy y he).2
 ·exact (bE false (k:=.f) ⟨_,_,_,aw hu (by simp)⟩ H hy y he).2
 ·exact (bE true (k:=.f) ⟨_,_,_,aw hu (by simp)⟩ H hy y he).2
 ·exact (bE false (k:=.i) ⟨_,aw hu (by simp)⟩ H hy y he).2
 ·exact (bE true (k:=.i) ⟨_,aw hu (by simp)⟩ H hy y he).2
theorem kB {a b:Bool} (h:Bool.and a b=true):a=true∧b=true:=by cases a<;>cases b<;>first|exact ⟨rfl,rfl⟩|cases h
theorem JG {a:AV} (H:HR φ h w) (hx:VR φ a cx) {s d t:TypeId} (hs:P.underlying s=some (.pointer t)) (hd:P.underlying d=some .unsafePointer) (hz:bp P t≠0) (e:Hc a h=.ok v h') :
  Good φ h w v h' ((convert s d cx).run P w):=by
 obtain ⟨j,hj,hjs⟩:=lG hz
 cases a<;>try (cases e;done)
 case di=>
  obtain ⟨rfl,rfl⟩:=RV.av (show RV.ok .di h=.ok v h' from e)
  cases hx
  exact .same H .di (by simp [convert,ak hs,ak hd,Conv.unsafePointer])
 case ptr i o=>
  obtain ⟨el,n,ex,fl,c,hi,e⟩:=aO (show Obj.bz (au i h) (fun _ n ex _ _=>@Bool.rec (fun _=>RV) (.err 191) (.ok (.ptr i o) h) (Bool.and ex (Kn o n))) (.err 192)=_ from e)
  obtain ⟨hb,e⟩:=aC e
  obtain ⟨rfl,rfl⟩:=RV.av e
  obtain ⟨hex,hin⟩:=kB hb
  cases hx with
  | ptr _ _ p hp=>
   have hl:live (au i h):=by rw [hi];exact aK
   obtain ⟨q,hq,hor⟩:=H.obj i hl
   rw [hp] at hq;cases hq
   rw [hi] at hor
   obtain ⟨rc,fz,hrc,h1,h2,h3,_⟩:=hor
   have h4:=h3 hex
   have ho:=kM hin
   refine .same H (.ptr _ _ _ hp) (Lib.run_to_unsafe w (p.addr o) hs hd hj hjs (e:=el) (cells:=rc.size) ?_ ?_)
   ·show w.shape? p.bJ=_
    simp [World.shape?,hrc]
   ·show p.base+o < rc.size
    omega
theorem AX {a:AV} (H:HR φ h w) (hx:VR φ a cx) {s d u:TypeId} (hs:P.underlying s=some .unsafePointer) (hd:P.underlying d=some (.pointer u)) (hz:bp P u≠0) (hlies:liesAt P P.depth u 1 0 u 1=true) (e:wJ u (bp P u) a h=.ok v h') :
  Good φ h w v h' ((convert s d cx).run P w):=by
 obtain ⟨j,hj,hjs⟩:=lG hz
 cases a<;>try (cases e;done)
 case di=>
  obtain ⟨rfl,rfl⟩:=RV.av (show RV.ok .di h=.ok v h' from e)
  cases hx
  exact .same H .di (by simp [convert,ak hs,ak hd,Conv.unsafePointer])
 case ptr i o=>
  obtain ⟨el,n,ex,fl,c,hi,e⟩:=aO (show Obj.bz (au i h) (fun el n ex _ _=>@Bool.rec (fun _=>RV) (.err 193) (.ok (.ptr i o) h) (Bool.and ex (Bool.and (Nat.beq o 0) (Bool.and (Nat.beq el u) (Nat.beq n (bp P u)))))) (.err 194)=_ from e)
  obtain ⟨hb,e⟩:=aC e
  obtain ⟨rfl,rfl⟩:=RV.av e
  obtain ⟨hex,hb⟩:=kB hb
  obtain ⟨ho,hb⟩:=kB hb
  obtain ⟨hel,hn⟩:=kB hb
  have ho:=Nat.eq_of_beq_eq_true ho
  have hel:=Nat.eq_of_beq_eq_true hel
  have hn:=Nat.eq_of_beq_eq_true hn
  subst ho hel
  cases hx with
  | ptr _ _ p hp=>
   have hl:live (au i h):=by rw [hi];exact aK
   obtain ⟨q,hq,hor⟩:=H.obj i hl
   rw [hp] at hq;cases hq
   rw [hi] at hor
   obtain ⟨rc,fz,hrc,h1,h2,h3,_⟩:=hor
   have h4:=h3 hex
   have hsz:rc.size=P.cellsOf el:=by
    have:bp P el=P.cellsOf el:=rfl
    omega
   have hpos:0 < P.cellsOf el:=Nat.pos_of_ne_zero hz
   refine .same H (.ptr _ _ _ hp) (Lib.run_from_unsafe w (p.addr 0) hs hd hj (e:=el) (cells:=rc.size) ?_ ?_)
   ·show w.shape? p.bJ=_
    simp [World.shape?,hrc]
   ·show liesAt P P.depth el (rc.size / P.cellsOf el) (p.base+0) el 1=true
    rw [hsz,Nat.div_self hpos,h4.1]
    exact hlies
theorem JH {a:AV} (H:HR φ h w) (hx:VR φ a cx) {s e:TypeId} (hs:P.underlying s=some (.slice e)) (he:P.underlying e=some (.int .u8)) (ho:Nx e a h=.ok v h') :
  Good φ h w v h' ((convert s s cx).run P w):=by
 rcases cW ho with ⟨i,o,l,c,rfl,ho⟩|⟨i,o,l,c,rfl,ho⟩|⟨rfl,ho⟩
 ·obtain ⟨el,n,ex,fl,cl,hi,ho⟩:=aO ho
  cases fl with
  | plain=>
   obtain ⟨rfl,rfl⟩:=RV.av ho
   cases hx with
   | slice _ _ _ _ p hp=>
   have hl:live (au i h):=by rw [hi];exact aK
   obtain ⟨q,hq,hor⟩:=H.obj i hl
   rw [hp] at hq;cases hq
   rw [hi] at hor
   obtain ⟨rc,fz,hrc,h1,h2,h3,h4,h5,h6⟩:=hor
   have h6:fz=(0,0):=h6
   subst h6
   have hw:(w.freeze ⟨p.bJ,rc.size,none⟩ 1).heap[p.bJ]?=some (.cells rc el (rc.size,rc.size+1)):=by
    unfold World.freeze
    rw [if_neg (by decide)]
    simp [Array.getElem?_modify,hrc]
   have hne:∀b,b≠p.bJ→(w.freeze ⟨p.bJ,rc.size,none⟩ 1).heap[b]?=w.heap[b]?:=fun b hb=>by
    unfold World.freeze
    rw [if_neg (by decide)]
    simp only [Array.getElem?_modify]
    rw [if_neg (fun g=>hb g.symm)]
   have hsz:(w.freeze ⟨p.bJ,rc.size,none⟩ 1).heap.size=w.heap.size:=by
    unfold World.freeze
    rw [if_neg (by decide)]
    simp
   have hfr:(w.freeze ⟨p.bJ,rc.size,none⟩ 1).tape=w.tape∧(w.freeze ⟨p.bJ,rc.size,none⟩ 1).os=w.os∧(w.freeze ⟨p.bJ,rc.size,none⟩ 1).output=w.output:=by
    unfold World.freeze
    rw [if_neg (by decide)]
    exact ⟨rfl,rfl,rfl⟩
   refine ⟨_,_,φ,?_,.slice _ _ _ _ p hp,H.set hl hp hsz hne ?_ (by simp),φ.le_refl,fu.set hl hp hsz hne hfr.1 hfr.2.1 hfr.2.2,fun k q hk hq=>?_,.set _ _ _⟩
   ·have hsh:w.shape? p.bJ=some (el,rc.size):=by simp [World.shape?,hrc]
    simp [convert,ak hs,ak he,markStringish,Place.addr,hsh]
   ·rw [hw]
    exact ⟨rc,_,rfl,h1,h2,h3,h4,h5,fun k hk=>by simp;omega⟩
   ·rw [bj] at hk
    by_cases ek:k=i
    ·subst ek;exact .inl ⟨hl,hq⟩
    ·rw [if_neg ek] at hk;exact .inl ⟨hk,hq⟩
  | mark=>cases ho
  | wE=>cases ho
 ·cases ho
 ·cases ho
theorem DR {s d:TypeId} {k:CK} {ax:AO} (hop:Gc P s d=some k) (H:HR φ h w) (hx:VR φ (ev ax r) cx) (he:sP k ax r h=.ok v h'):Good φ h w v h' ((convert s d cx).run P w):=by
 unfold Gc at hop
 split at hop
 case h_1 hs hd=>cases hop;exact AG H hx (aw hs (by simp)) (aw hd (by simp)) he
 case h_2 hs hd=>
  cases hop
  obtain ⟨l,el,he⟩:=cB he
  obtain ⟨rfl,rfl⟩:=RV.av he
  rw [el] at hx
  refine .same H hx ?_
  obtain ⟨s,rfl,rfl⟩:=hx.cZ
  simp [convert,ak (aw hs (by simp)),ak (aw hd (by simp))]
 case h_3 hs hd=>
  split at hop
  ·cases hop
  ·rename_i hz
   cases hop
   exact JG H hx (aw hs (by simp)) (aw hd (by simp)) hz he
 case h_4 hs hd=>
  split at hop
  ·cases hop
  ·rename_i hz
   cases hop
   simp only [Bool.or_eq_true,decide_eq_true_eq,Bool.not_eq_true',not_or,Bool.not_eq_false] at hz
   exact AX H hx (aw hs (by simp)) (aw hd (by simp)) hz.1 hz.2 he
 case h_5 hs hd=>
  split at hop
  ·rename_i hu;cases hop;exact IQ H hx (aw hs (by simp)) (aw hu (by simp)) (aw hd (by simp)) he
  ·cases hop
 case h_6 hs hd=>
  split at hop
  ·rename_i hu;cases hop;exact IP H hx (aw hs (by simp)) (aw hu (by simp)) (aw hd (by simp)) he
  ·cases hop
 case h_7 hs hd=>
  split at hop
  ·rename_i hu
   split at hop
   ·rename_i e
    subst e
    cases hop;exact JH H hx (aw hs (by simp)) (aw hu (by simp)) he
   ·cases hop
  ·cases hop
 case h_8 hs hd=>cases hop;exact Jq H hx (aw hs (by simp)) (aw hd (by simp)) he
 case h_9 hs hd=>cases hop;exact Jr H hx (aw hs (by simp)) (aw hd (by simp)) he
 case h_10=>cases hop
variable {P:Program} {φ:aJ} {h h':Hp} {w:World} {v:AV} {r:A2} {cx cy:Value} {t:TypeId} {G:Gl} {ρ:Operand→Value}
theorem AY {e:TypeId} (hc:P.cellsOf e=1) (count off n:Nat) (hn:off+n≤count):liesAt P P.depth e count off e n=true:=by
 have hd:P.depth=(2 * (P.types.size+Made.depth)+1)+1:=rfl
 rw [hd]
 simp only [liesAt,Bool.or_eq_true]
 left
 rw [hd]
 simp [rowAt,hc,hn,sameLayout,Nat.mod_one]
theorem JI {ts:Array TypeId} {pt e ty:TypeId} {k:IntKind} (h0:ts[0]?=some pt) (hp:P.underlying pt=some (.pointer e)) (hc:P.cellsOf e=1) (a:Addr) (cells:Nat) (hsh:w.shape? a.block=some (e,cells)) (l:List UInt8) (hl0:l≠[]) (hn:a.off+l.length≤cells) (h63:l.length≤9223372036854775807)
  (hcell:∀j x,l[j]?=some x→w.cell? (a.add j)=some (.int .u8 x.toNat)) :
  (Builtin.unsafeString_ ts ty #[.pointer (some a),.int k l.length]).run P w=.ok (.string ⟨l.toArray⟩) (w.freeze a l.length):=by
 have hl:l.length≠0:=by simpa using hl0
 have hlb:=Lib.run_loadBytes (P:=P) w l a .empty hcell
 have hlies:=AY (P:=P) hc (cells / P.cellsOf e) a.off l.length (by rw [hc];simpa using hn)
 have h63':¬ (9223372036854775807:Int) < (l.length:Int):=by omega
 have hdef:Builtin.unsafeString_ ts ty #[.pointer (some a),.int k l.length] =
   (do
    let n←asInt (.int k l.length)
    let some pt:=ts[0]?|stuck "unsafe.String: no argument types"
    if n < 0 then runtimePanic (.error "unsafe.String: len out of range")
    if n > IntKind.i64.max then unsupported (.unsafePointer "String: a length above the largest int")
    if n=0 then pure (.string .empty)
    else if←variablesAt a (←elemOf pt) n.toNat then do
     let s←loadBytes a .empty n.toNat
     freeze a n.toNat
     pure (.string s)
    else unsupported (.unsafePointer "String: not so many bytes at ptr")):=rfl
 rw [hdef]
 have hmax:IntKind.i64.max=9223372036854775807:=rfl
 have hneg:¬ (l.length:Int) < 0:=by omega
 simp [asInt,asIntOf,hmax,h63',hneg,hl,variablesAt,hsh,elemOf,run_underlying hp,hlies,hlb,h0]
theorem DT {ts:Array TypeId} {pt ty:TypeId} {k:IntKind} (h0:ts[0]?=some pt) (q:Option Addr):(Builtin.unsafeString_ ts ty #[.pointer q,.int k 0]).run P w=.ok (.string .empty) w:=by
 have hmax:IntKind.i64.max=9223372036854775807:=rfl
 cases q with
 | none=>
  have hdef:Builtin.unsafeString_ ts ty #[.pointer none,.int k 0] =
    (do
     let n←asInt (.int k 0)
     let some _:=ts[0]?|stuck "unsafe.String: no argument types"
     if n < 0 then runtimePanic (.error "unsafe.String: len out of range")
     if n > IntKind.i64.max then unsupported (.unsafePointer "String: a length above the largest int")
     if n=0 then pure (.string .empty)
     else runtimePanic (.error "unsafe.String: ptr is nil and len is not zero")):=rfl
  rw [hdef]
  simp [asInt,asIntOf,hmax,h0]
 | some a=>
  have hdef:Builtin.unsafeString_ ts ty #[.pointer (some a),.int k 0] =
    (do
     let n←asInt (.int k 0)
     let some pt:=ts[0]?|stuck "unsafe.String: no argument types"
     if n < 0 then runtimePanic (.error "unsafe.String: len out of range")
     if n > IntKind.i64.max then unsupported (.unsafePointer "String: a length above the largest int")
     if n=0 then pure (.string .empty)
     else if←variablesAt a (←elemOf pt) n.toNat then do
      let s←loadBytes a .empty n.toNat
      freeze a n.toNat
      pure (.string s)
     else unsupported (.unsafePointer "String: not so many bytes at ptr")):=rfl
  rw [hdef]
  simp [asInt,asIntOf,hmax,h0]
theorem DU {ts:Array TypeId} {ty:TypeId} {x:AO} (H:HR φ h w) (hx:VR φ (ev x r) cx) (e:mM x r h=.ok v h'):Good φ h w v h' ((Builtin.unsafeSliceData_ ts ty #[cx]).run P w):=by
 unfold mM at e
 cases ha:ev x r<;>rw [ha] at e hx<;>try (cases e;done)
 case slice i o n c=>
  cases c with
  | zero=>cases e
  | succ c=>
   obtain ⟨rfl,rfl⟩:=RV.av (show RV.ok (.ptr i o) h=.ok v h' from e)
   cases hx with
   | slice _ _ _ _ p hp=>exact .same H (.ptr _ _ _ hp) (Lib.run_unsafeSliceData_row w ts ty _ _ _ (Nat.succ_ne_zero c))
 case fX i o n es=>
  cases n with
  | zero=>cases e
  | succ n=>
   obtain ⟨rfl,rfl⟩:=RV.av (show RV.ok (.ptr i o) h=.ok v h' from e)
   cases hx with
   | fX _ _ _ _ c p a hp h1 h2 h3 h4 h5 h6=>
    have hc:c≠0:=by omega
    have ea:a=p.addr o:=by
     obtain ⟨b,off,sp⟩:=a
     simp only [Place.addr,Addr.mk.injEq]
     exact ⟨h3,h5 hc,h4⟩
    subst ea
    exact .same H (.ptr _ _ _ hp) (Lib.run_unsafeSliceData_row w ts ty _ _ _ hc)
 case ai=>
  obtain ⟨rfl,rfl⟩:=RV.av (show RV.ok .di h=.ok v h' from e)
  cases hx
  exact .same H .di (Lib.run_unsafeSliceData_nil w ts ty 0 0)
theorem JJ:VR φ (.str []) (.string .empty):=.str _ _ rfl
theorem DV {ts:Array TypeId} {pt e ty:TypeId} {x y:AO} (h0:ts[0]?=some pt) (hp:P.underlying pt=some (.pointer e)) (hc:P.cellsOf e=1) (H:HR φ h w) (hx:VR φ (ev x r) cx) (hy:VR φ (ev y r) cy) (he:pr e x y r h=.ok v h') :
  Good φ h w v h' ((Builtin.unsafeString_ ts ty #[cx,cy]).run P w):=by
 unfold pr en at he
 obtain ⟨k,n,ey,he⟩:=bu he
 rw [ey] at hy
 rw [hy.aU]
 cases n with
 | negSucc n=>cases he
 | ofNat n=>
  cases n with
  | zero=>
   have go:∀q,cx=.pointer q→RV.ok (.str []) h=.ok v h'→Good φ h w v h' ((Builtin.unsafeString_ ts ty #[cx,.int k (.ofNat 0)]).run P w):=by
    rintro q rfl e
    obtain ⟨rfl,rfl⟩:=RV.av e
    exact .same H JJ (DT h0 q)
   cases ha:ev x r<;>rw [ha] at he hx<;>try (cases he;done)
   case ptr i o=>cases hx with|ptr _ _ p hp=>exact go _ rfl he
   case di=>cases hx;exact go _ rfl he
  | succ n=>
   obtain ⟨i,o,ex,he⟩:=cD (show AV.eK (ev x r) _ (RV.err 117)=RV.ok v h' from he)
   rw [ex] at hx
   obtain ⟨el,m,xx,fl,c,hi,he⟩:=aO he
   obtain ⟨hb,he⟩:=aC he
   obtain ⟨hb1,hb⟩:=kB hb
   obtain ⟨hb2,hb3⟩:=kB hb
   have hb1:n≤1048576:=Nat.le_of_ble_eq_true hb1
   have hb2:=Nat.eq_of_beq_eq_true hb2
   have hb3:o+(n+1)≤m:=Nat.le_of_ble_eq_true hb3
   subst hb2
   obtain ⟨bs,hbs,he⟩:=fx he
   obtain ⟨rfl,rfl⟩:=RV.av he
   cases hx with
   | ptr _ _ p hp'=>
    obtain ⟨l,l1,l2,l3,l4⟩:=H.values hi hp' (n+1) o hb3
    rw [hbs] at l2
    have hl:=lW l2
    subst hl
    have hlen:bs.length=n+1:=by simpa using l1
    have hl:live (au i h):=by rw [hi];exact aK
    obtain ⟨q,hq,hor⟩:=H.obj i hl
    rw [hp'] at hq;cases hq
    rw [hi] at hor
    obtain ⟨rc,fz,hrc,r1,r2,r3,r4,r5,r6⟩:=hor
    have hrun:=JI (w:=w) (ty:=ty) (k:=k) h0 hp hc (p.addr o) rc.size (by show w.shape? p.bJ=_;simp [World.shape?,hrc]) bs (by intro g;rw [g] at hlen;cases hlen)
     (by show p.base+o+bs.length≤rc.size;omega) (by omega) (fun j x hj=>by
      have hj':j < bs.length:=(List.getElem?_eq_some_iff.1 hj).1
      have hx':=(List.getElem?_eq_some_iff.1 hj).2
      have:=l4 j (by simpa using hj')
      rw [this]
      simp [hx'])
    have hn':(Int.ofNat (n+1))=((bs.length:Nat):Int):=by rw [hlen];rfl
    have hne:bs.length≠0:=by omega
    have hheap:(w.freeze (p.addr o) bs.length).heap=w.heap.modify p.bJ fun
      | .cells c elem (lo,hi)=>.cells c elem (if lo == hi then (p.base+o,p.base+o+bs.length) else (min lo (p.base+o),max hi (p.base+o+bs.length)))
      | o=>o:=by
     unfold World.freeze
     rw [if_neg hne]
     rfl
    have hsz:(w.freeze (p.addr o) bs.length).heap.size=w.heap.size:=by rw [hheap];simp
    have hother:∀b,b≠p.bJ→(w.freeze (p.addr o) bs.length).heap[b]?=w.heap[b]?:=fun b hb=>by
     rw [hheap,Array.getElem?_modify,if_neg (Ne.symm hb)]
    have hO:OR φ (.cells e m xx .wE c) p ((w.freeze (p.addr o) bs.length).heap[p.bJ]?):=by
     rw [hheap,Array.getElem?_modify,if_pos rfl,hrc]
     obtain ⟨lo,hi2⟩:=fz
     exact ⟨rc,_,rfl,r1,r2,r3,r4,r5,trivial⟩
    have HH:=H.set hl hp' hsz hother hO (by simp)
    refine ⟨_,_,φ,by rw [hn'];exact hrun,.str _ _ (by simp),HH,φ.le_refl,?_,fun j q hj hq=>?_,.set _ _ _⟩
    ·refine fu.set hl hp' hsz hother ?_ ?_ ?_<;>(unfold World.freeze;rw [if_neg hne])
    ·rw [bj] at hj
     by_cases ej:j=i
     ·subst ej;exact .inl ⟨hl,hq⟩
     ·rw [if_neg ej] at hj;exact .inl ⟨hj,hq⟩
variable {P:Program} {φ:aJ} {h h':Hp} {w:World} {v:AV} {r:A2} {x y:AO} {cx cy:Value} {ty:TypeId}
theorem YU {e u:TypeId} {i:TypeInfo} {zv:Value} {z:List AV} {k kn:IntKind} (hu:P.underlying u=some (.int kn)) (hi:P.info? e=some i) (hz:i.zero=some zv) (hzs:zv.cells.size=i.size) (hby:i.bytes≤1048576) (hes:0 < i.size)
  (g1:bX φ z zv.cells.toList) (g2:∀c,c∈zv.cells.toList→c.oneCell'=true) (n:Nat) (hn:n≤1048576) :
  Src P φ w e u i.size n (dP n z) (.int k n) (Builtin.zeroCells zv.cells n).toList:=by
 obtain ⟨k1,k2⟩:=eE g1 g2 n (n * i.size) (by rw [hzs])
 have hzc:(Builtin.zeroCells zv.cells n).toList=((Array.range (n * i.size)).map (zv.cells[· % zv.cells.size]!)).toList:=by
  simp [Builtin.zeroCells,hzs]
 have hw:IntKind.i64.wrap (n:Int)=n:=by rw [IntKind.wrap_i64];omega
 have hneg:¬ ((n:Int) < 0):=by omega
 have hbig:n * i.bytes≤1048576 * 1048576:=Nat.mul_le_mul hn hby
 have h48i:¬ (281474976710656 < (n:Int) * (i.bytes:Int)):=by
  rw [←Int.natCast_mul]
  omega
 refine ⟨?_,?_,?_,?_,?_⟩
 ·intro t ty i' ht hi' hs base m c hc w' h1 h2
  rw [hi] at hi';cases hi'
  by_cases h0:n=0
  ·subst h0
   have hw0:IntKind.i64.wrap 0=0:=rfl
   have hc0:m≤c:=hc
   cases base with
   | none=>
    rw [h2 rfl]
    simp [Builtin.append_,ak ht,ak hu,aP hi,bD hi,asInt,asIntOf,hw0,hc0]
   | some a=>
    have h1:=h1 a rfl
    simp [Builtin.zeroCells] at h1
    simp [Builtin.append_,ak ht,ak hu,aP hi,bD hi,asInt,asIntOf,hw0,hc0,h1]
  ·have hns:¬ (n * i.size=0):=Nat.mul_ne_zero h0 (by omega)
   cases base with
   | none=>
    rw [h2 rfl]
    simp [Builtin.append_,ak ht,ak hu,aP hi,bD hi,zeroValue,hz,asInt,asIntOf,hw,hneg,h48i,hc,h0,hns,hes]
   | some a=>
    simp [Builtin.append_,ak ht,ak hu,aP hi,bD hi,zeroValue,hz,asInt,asIntOf,hw,hneg,h48i,hc,h0,hns,hes,h1 a rfl]
 ·intro t ty i' z' ht hi' hs hz' base m c hc os ho hb h63
  rw [hi] at hi';cases hi'
  rw [hz] at hz';cases hz'
  by_cases h0:n=0
  ·subst h0
   have hw0:IntKind.i64.wrap 0=0:=rfl
   have hc0:¬ m≤c:=hc
   have h63':¬ (9223372036854775807 < ((m:Int))):=by omega
   have h48:=growslice_fits (old:=c) (show c < m+0 by omega) hb
   have h48':¬ (281474976710656 < Builtin.nextslicecap m c * i.bytes):=by simpa using h48
   have hold:=ho w.drew rfl
   simp only [grown,Array.append_assoc]
   simp [Builtin.append_,ak ht,ak hu,aP hi,bD hi,zeroValue,hz,asInt,asIntOf,hw0,hc0,h63',h48',Question.forced,hold,newRow,dK,Builtin.zeroCells]
  ·have hns:¬ (n * i.size=0):=Nat.mul_ne_zero h0 (by omega)
   have h63':¬ (9223372036854775807 < ((m:Int)+(n:Int))):=by omega
   have h48:=growslice_fits (old:=c) (show c < m+n by omega) hb
   have h48':¬ (281474976710656 < Builtin.nextslicecap (m+n) c * i.bytes):=by omega
   have hold:=ho w.drew rfl
   simp only [grown,Array.append_assoc]
   simp [Builtin.append_,ak ht,ak hu,aP hi,bD hi,zeroValue,hz,asInt,asIntOf,hw,hneg,h48i,hc,h0,hns,hes,h63',h48',Question.forced,hold,newRow,dK]
 ·rw [hzc];simp
 ·rw [hzc];exact k1
 ·rw [hzc];exact k2
theorem DW {t u e:TypeId} {z:List AV} {kn:IntKind} (H:HR φ h w) (hx:VR φ (ev x r) cx) (hy:VR φ (ev y r) cy) (ht:P.underlying t=some (.slice e)) (hu:P.underlying u=some (.int kn)) (hg:iy P e=true) (hes:bp P e≠0) (hz:fO P e=some z)
  (he:mF e (bp P e) z x y r h=.ok v h'):Good φ h w v h' ((Builtin.append_ #[t,u] ty #[cx,cy]).run P w):=by
 obtain ⟨i,zv,hi,hzv,hzs,hby⟩:=lC hg
 rw [cJ hi] at hes he
 unfold mF at he
 obtain ⟨k,n,e1,he⟩:=cY he
 obtain ⟨hn,he⟩:=aC he
 have hn:n * i.size≤1048576:=Nat.le_of_ble_eq_true hn
 have hn:n≤1048576:=Nat.le_trans (Nat.le_mul_of_pos_right n (by omega)) hn
 rw [e1] at hy
 rw [hy.aU]
 obtain ⟨i',zv',hi',hzv',g1,g2⟩:=fV hz φ
 rw [hi] at hi';cases hi'
 rw [hzv] at hzv';cases hzv'
 exact py H ht hi hzv hzs hby (by omega) (YU hu hi hzv hzs hby (by omega) g1 g2 n hn) hx he
variable {P:Program} {φ:aJ} {h h':Hp} {w:World} {v:AV} {r:A2} {cx cy:Value} {t:TypeId} {G:Gl} {ρ:Operand→Value}
theorem bX.lH {x:AO} {vs:List Value} (hx:bX φ (fY [x] r) vs):∃c,vs=[c]∧VR φ (ev x r) c:=by
 cases hx with
 | cons a c as cs h1 h2=>cases h2;exact ⟨c,rfl,h1⟩
theorem bX.ox {x y:AO} {vs:List Value} (hx:bX φ (fY [x,y] r) vs):∃c d,vs=[c,d]∧VR φ (ev x r) c∧VR φ (ev y r) d:=by
 cases hx with
 | cons a c as cs h1 h2=>cases h2 with
  | cons b d bs ds h3 h4=>cases h4;exact ⟨c,d,rfl,h1,h3⟩
theorem fh {ts:Array TypeId} {t:TypeId} {l:List TypeId} (e:ts.toList=t::l):ts[0]?=some t:=by
 rw [←Array.getElem?_toList,e];rfl
theorem kZ {t:TypeId} {kt:KT} (e:CV P t=some kt):∃k e,P.underlying t=some (.map k e)∧mr P k=some kt:=by
 unfold CV at e
 split at e
 ·exact ⟨_,_,by assumption,e⟩
 ·cases e
theorem xm {b:Builtin} {ts:Array TypeId} {ty:TypeId} {cs:Array Bool} {xs:List AO} {vs:List Value} {op:oG} (hop:iG P b ts.toList xs=some op) (H:HR φ h w) (hxs:bX φ (fY xs r) vs) (he:op.run r h=.ok v h') :
  ∃s:Sem Value,builtin b ts ty cs vs.toArray=(do pure (.value (←s)))∧Good φ h w v h' (s.run P w):=by
 unfold iG at hop
 split at hop
 case h_1 t l x ht=>
  obtain ⟨c,rfl,h1⟩:=hxs.lH
  refine ⟨_,rfl,?_⟩
  split at hop
  case h_1 hu=>cases hop;exact Ds (fh ht) H h1 (aw hu (by simp)) he
  case h_2 hu=>cases hop;exact IH (fh ht) H h1 ⟨_,aw hu (by simp)⟩ he
  case h_3 hu=>cases hop;exact Dy (fh ht) H h1 (aw hu (by simp)) he
  case h_4 hu=>
   cases hop
   obtain ⟨rfl,rfl⟩:=RV.av he
   exact .same H (.int _ _) (by simp [Builtin.len_,fh ht,ak (aw hu (by simp)),goInt])
  case h_5 hu=>
   split at hop
   ·rename_i hu2
    cases hop
    obtain ⟨rfl,rfl⟩:=RV.av he
    exact .same H (.int _ _) (by simp [Builtin.len_,fh ht,ak (aw hu (by simp)),ak (aw hu2 (by simp)),goInt])
   ·cases hop
  case h_6=>cases hop
 case h_2 t l x ht=>
  obtain ⟨c,rfl,h1⟩:=hxs.lH
  refine ⟨_,rfl,?_⟩
  split at hop
  case h_1 hu=>cases hop;exact IW (fh ht) H h1 (aw hu (by simp)) he
  case h_2 hu=>
   cases hop
   obtain ⟨rfl,rfl⟩:=RV.av he
   exact .same H (.int _ _) (by simp [Builtin.cap_,fh ht,ak (aw hu (by simp)),goInt])
  case h_3=>cases hop
 case h_3 t u x y ht=>
  obtain ⟨c,d,rfl,h1,h2⟩:=hxs.ox
  refine ⟨_,rfl,?_⟩
  have hts:ts=#[t,u]:=by apply Array.ext';rw [ht]
  subst hts
  split at hop
  case h_1 hu hv=>
   split at hop
   ·rename_i hg
    cases hop
    simp only [Bool.and_eq_true,decide_eq_true_eq] at hg
    exact Dv H h1 h2 (aw hu (by simp)) (aw hv (by simp)) hg.2 hg.1 he
   ·cases hop
  case h_2 hu hv=>
   split at hop
   ·cases hop
   ·rename_i hg
    cases hop
    simp only [Bool.or_eq_true,decide_eq_true_eq,Bool.not_eq_true',not_or,Bool.not_eq_false] at hg
    exact IK H h1 h2 (aw hu (by simp)) (aw hv (by simp)) hg.2 hg.1 he
  case h_3 hu hv=>
   split at hop
   ·cases hop
   ·rename_i hg
    simp only [Option.bind_eq_some_iff] at hop
    obtain ⟨z,hz,hop⟩:=hop
    split at hop
    ·cases hop
    ·cases hop
     simp only [Bool.or_eq_true,decide_eq_true_eq,Bool.not_eq_true',not_or,Bool.not_eq_false] at hg
     exact DW H h1 h2 (aw hu (by simp)) (aw hv (by simp)) hg.2 hg.1 hz he
  case h_4=>cases hop
 case h_4 t l x y ht=>
  obtain ⟨c,d,rfl,h1,h2⟩:=hxs.ox
  refine ⟨_,rfl,?_⟩
  split at hop
  case h_1 e hu=>
   split at hop
   ·cases hop
   ·rename_i hs
    cases hop
    obtain ⟨i,hi,hs'⟩:=lG hs
    rw [cJ hi] at he
    exact IU (fh ht) H h1 h2 (aw hu (by simp)) hi (by omega) he
  case h_2=>cases hop
 case h_5 t l x ht=>
  obtain ⟨c,rfl,h1⟩:=hxs.lH
  refine ⟨_,rfl,?_⟩
  split at hop
  case h_1 e hu=>
   split at hop
   ·cases hop
   ·simp only [Option.bind_eq_some_iff] at hop
    obtain ⟨z,hz,hop⟩:=hop
    split at hop
    ·cases hop
    ·cases hop
     exact IV (fh ht) H h1 (aw hu (by simp)) hz he
  case h_2=>cases hop
 case h_6 t l x y ht=>
  obtain ⟨c,d,rfl,h1,h2⟩:=hxs.ox
  refine ⟨_,rfl,?_⟩
  simp only [bind,Option.bind_eq_some_iff,Option.some.injEq] at hop
  obtain ⟨kt,hk,rfl⟩:=hop
  obtain ⟨k,e,hu,hk⟩:=kZ hk
  exact Ja (fh ht) H h1 h2 hu hk he
 case h_7=>cases hop;exact ⟨_,rfl,zi (ts:=ts) (ty:=ty) (mn:=false) H hxs he⟩
 case h_8=>cases hop;exact ⟨_,rfl,zi (ts:=ts) (ty:=ty) (mn:=true) H hxs he⟩
 case h_9 x=>
  obtain ⟨c,rfl,h1⟩:=hxs.lH
  cases hop
  exact ⟨_,rfl,DU H h1 he⟩
 case h_10 x=>
  obtain ⟨c,rfl,h1⟩:=hxs.lH
  cases hop
  exact ⟨_,rfl,DE H h1 he⟩
 case h_11 x=>
  obtain ⟨c,rfl,h1⟩:=hxs.lH
  cases hop
  exact ⟨_,rfl,DF H h1 he⟩
 case h_12 t l x y ht=>
  obtain ⟨c,d,rfl,h1,h2⟩:=hxs.ox
  refine ⟨_,rfl,?_⟩
  split at hop
  case h_1 e hu=>
   split at hop
   ·rename_i hs
    cases hop
    exact DV (fh ht) (aw hu (by simp)) hs H h1 h2 he
   ·cases hop
  case h_2=>cases hop
 case h_13 t l x y ht=>
  obtain ⟨c,d,rfl,h1,h2⟩:=hxs.ox
  refine ⟨_,rfl,?_⟩
  split at hop
  case h_1=>cases hop;exact Dz H h1 h2 he
  case h_2=>cases hop
 case h_14=>cases hop
variable {P:Program} {φ:aJ} {h h':Hp} {w:World} {v:AV} {r:A2} {cx cy:Value} {t:TypeId} {G:Gl} {ρ:Operand→Value}
theorem gu {α:Type} {o:Option α} (h:¬ o.isNone=true):∃a,o=some a:=by cases o with
 | none=>exact absurd rfl h
 | some a=>exact ⟨a,rfl⟩
def bS (φ:aJ) (h:Hp) (w:World) (v:AV) (h':Hp) (res:Result Next):Prop:=
 ∃nx w' φ',res=.ok nx w'∧((∃cv,nx=.value cv∧VR φ' v cv)∨(nx=.skip∧v=.undef))∧HR φ' h' w'∧Step φ h w φ' h' w'
theorem Good.jf {s:Sem Value} (g:Good φ h w v h' (s.run P w)):bS φ h w v h' ((do pure (.value (←s)):Sem Next).run P w):=by
 obtain ⟨cv,w',φ',e,h1,h2,h3⟩:=g
 exact ⟨.value cv,w',φ',by simp only [Sem.run_bind,e,Result.andThen_ok,Sem.run_pure],.inl ⟨cv,rfl,h1⟩,h2,h3⟩
theorem vA.jf {s:Sem Unit} (hv:v=.undef) (g:vA φ h w h' (s.run P w)):bS φ h w v h' ((do s;pure .skip:Sem Next).run P w):=by
 obtain ⟨w',φ',e,h2,h3⟩:=g
 exact ⟨.skip,w',φ',by simp only [Sem.run_bind,e,Result.andThen_ok,Sem.run_pure],.inr ⟨rfl,hv⟩,h2,h3⟩
theorem bS.same {nx:Next} {res:Result Next} (H:HR φ h w) (hn:(∃cv,nx=.value cv∧VR φ v cv)) (e:res=.ok nx w):bS φ h w v h res:=⟨nx,w,φ,e,.inl hn,H,.refl _ _ _⟩
section
variable {dst:Option Tmp} {type:TypeId} {pos:String} {after:Array Edge} {guard:Option (Nat×Bool)} {names:List String} {op:oG}
variable (hρ:∀q x,cO G q=some x→VR φ (ev x r) (ρ q))
include hρ
theorem lb {o:Option Operand} {x:OA} (e:Ko G o=some x):IL φ r x (o.map ρ):=by
 cases o with
 | none=>cases e;trivial
 | some q=>
  simp only [Ko,Option.map_eq_some_iff] at e
  obtain ⟨y,hy,rfl⟩:=e
  exact hρ q y hy
theorem Xt {x:Operand} (hop:cq P G names ⟨dst,.move x,type,pos,after,guard⟩=some (.op op)) (H:HR φ h w) (he:op.run r h=.ok v h'):bS φ h w v h' ((execOp ρ ⟨dst,.move x,type,pos,after,guard⟩).run P w):=by
 simp only [cq,bind,Option.bind_eq_some_iff,Option.some.injEq,AI.op.injEq] at hop
 obtain ⟨a,ha,rfl⟩:=hop
 obtain ⟨rfl,rfl⟩:=RV.av he
 exact .same H ⟨_,rfl,hρ _ _ ha⟩ rfl
theorem Xu {x:Operand} (hop:cq P G names ⟨dst,.assign x,type,pos,after,guard⟩=some (.op op)) (H:HR φ h w) (he:op.run r h=.ok v h'):bS φ h w v h' ((execOp ρ ⟨dst,.assign x,type,pos,after,guard⟩).run P w):=by
 simp only [cq,bind,Option.bind_eq_some_iff,Option.some.injEq,AI.op.injEq] at hop
 obtain ⟨a,ha,rfl⟩:=hop
 obtain ⟨rfl,rfl⟩:=RV.av he
 exact .same H ⟨_,rfl,hρ _ _ ha⟩ rfl
theorem Mk {a b c:Operand} (hop:cq P G names ⟨dst,.pick c a b,type,pos,after,guard⟩=some (.op op)) (H:HR φ h w) (he:op.run r h=.ok v h'):bS φ h w v h' ((execOp ρ ⟨dst,.pick c a b,type,pos,after,guard⟩).run P w):=by
 simp only [cq,bind,Option.bind_eq_some_iff,Option.some.injEq,AI.op.injEq] at hop
 obtain ⟨x,hx,y,hy,z,hz,rfl⟩:=hop
 obtain ⟨cv,w',φ',e,h1,h2,h3⟩:=Dp (P:=P) H (hρ _ _ hx) (hρ _ _ hy) (hρ _ _ hz) he
 refine ⟨.value cv,w',φ',?_,.inl ⟨cv,rfl,h1⟩,h2,h3⟩
 simp only [Sem.run_bind,Sem.run_pure] at e
 simp only [execOp,Sem.run_bind,Sem.run_pure]
 cases hb:(asBool (ρ c)).run P w with
 | ok t w1=>rw [hb] at e;simp only [Result.andThen_ok] at e ⊢;obtain ⟨rfl,rfl⟩:=Result.ok.inj e;rfl
 | halt x w1=>rw [hb] at e;cases e
theorem JK {e:TypeId} (hop:cq P G names ⟨dst,.alloc e,type,pos,after,guard⟩=some (.op op)) (H:HR φ h w) (he:op.run r h=.ok v h'):bS φ h w v h' ((execOp ρ ⟨dst,.alloc e,type,pos,after,guard⟩).run P w):=by
 simp only [cq,bind,Option.bind_eq_some_iff,Option.some.injEq,AI.op.injEq] at hop
 obtain ⟨z,hz,rfl⟩:=hop
 exact (AE (r:=r) H hz he).jf
theorem TD {e:TypeId} {x:Operand} (hop:cq P G names ⟨dst,.box e x,type,pos,after,guard⟩=some (.op op)) (H:HR φ h w) (he:op.run r h=.ok v h'):bS φ h w v h' ((execOp ρ ⟨dst,.box e x,type,pos,after,guard⟩).run P w):=by
 simp only [cq,bind,Option.bind_eq_some_iff,Option.some.injEq,AI.op.injEq] at hop
 obtain ⟨z,hz,rfl⟩:=hop
 exact (HY H (hρ _ _ hz) he).jf
theorem pD (ps:Array (Nat×Operand)):(ps.map fun (i,x)=>(i,ρ x))=(ps.toList.map fun q=>(q.1,ρ q.2)).toArray:=by
 apply Array.ext'
 simp
theorem JL {t:TypeId} {ps:Array (Nat×Operand)} (hop:cq P G names ⟨dst,.build t ps,type,pos,after,guard⟩=some (.op op)) (H:HR φ h w) (he:op.run r h=.ok v h'):bS φ h w v h' ((execOp ρ ⟨dst,.build t ps,type,pos,after,guard⟩).run P w):=by
 simp only [cq,bind,Option.bind_eq_some_iff] at hop
 obtain ⟨z,hz,hop⟩:=hop
 refine Good.jf ?_
 rw [pD hρ ps]
 split at hop
 ·rename_i fs hu
  split at hop
  ·rename_i hall
   simp only [Option.bind_eq_some_iff,Option.some.injEq,AI.op.injEq] at hop
   obtain ⟨l,hl,rfl⟩:=hop
   obtain ⟨g1,g2,g3⟩:=iY (φ:=φ) (r:=r) (ρ:=ρ) hl (fun q _ a ha=>hρ _ _ ha)
   exact tu H hz (by simpa using g1) g2 g3 (.inl ⟨fs,aw hu (by simp),fun f hf=>Array.all_eq_true_iff_forall_mem.1 hall f hf,rfl⟩) he
  ·cases hop
 ·rename_i n e hu
  split at hop
  ·rename_i hall
   simp only [Option.bind_eq_some_iff,Option.some.injEq,AI.op.injEq] at hop
   obtain ⟨l,hl,rfl⟩:=hop
   obtain ⟨g1,g2,g3⟩:=iY (φ:=φ) (r:=r) (ρ:=ρ) hl (fun q _ a ha=>hρ _ _ ha)
   exact tu H hz (by simpa using g1) g2 g3 (.inr ⟨n,e,aw hu (by simp),hall,rfl⟩) he
  ·cases hop
 ·cases hop
theorem DX {t:TypeId} {n:Nat} {ps:Array (Nat×Operand)} (hop:cq P G names ⟨dst,.buildSlice t n ps,type,pos,after,guard⟩=some (.op op)) (H:HR φ h w) (he:op.run r h=.ok v h'):bS φ h w v h' ((execOp ρ ⟨dst,.buildSlice t n ps,type,pos,after,guard⟩).run P w):=by
 simp only [cq] at hop
 split at hop
 ·rename_i e hu
  simp only [bind,Option.bind_eq_some_iff] at hop
  obtain ⟨z,hz,hop⟩:=hop
  split at hop
  ·simp at hop
  ·rename_i hs
   simp only [not_or,Decidable.not_not] at hs
   simp only [bind,pure,Option.bind_some,Option.bind_eq_some_iff,Option.some.injEq,AI.op.injEq] at hop
   obtain ⟨l,hl,rfl⟩:=hop
   refine Good.jf ?_
   rw [pD hρ ps]
   obtain ⟨g1,g2,g3⟩:=iY (φ:=φ) (r:=r) (ρ:=ρ) hl (fun q _ a ha=>hρ _ _ ha)
   exact zb H (aw hu (by simp)) hz hs.2 hs.1 (by simpa using g1) g2 g3 he
 ·cases hop
theorem Ml {t:TypeId} {x:Operand} (hop:cq P G names ⟨dst,.load t x,type,pos,after,guard⟩=some (.op op)) (H:HR φ h w) (he:op.run r h=.ok v h'):bS φ h w v h' ((execOp ρ ⟨dst,.load t x,type,pos,after,guard⟩).run P w):=by
 simp only [cq] at hop
 split at hop
 ·simp at hop
 ·rename_i hu
  obtain ⟨d,hd⟩:=gu hu
  split at hop
  ·rename_i ha
   simp only [bind,pure,Option.bind_some,Option.bind_eq_some_iff,Option.some.injEq,AI.op.injEq] at hop
   obtain ⟨a,hx,rfl⟩:=hop
   exact (HX H (hρ _ _ hx) hd ha rfl he).jf
  ·rename_i ha
   simp only [bind,pure,Option.bind_some,Option.bind_eq_some_iff,Option.some.injEq,AI.op.injEq] at hop
   obtain ⟨a,hx,rfl⟩:=hop
   exact (HV H (hρ _ _ hx) hd (by simpa using ha) he).jf
theorem JM {t:TypeId} {x y:Operand} (hop:cq P G names ⟨dst,.store t x y,type,pos,after,guard⟩=some (.op op)) (H:HR φ h w) (he:op.run r h=.ok v h'):bS φ h w v h' ((execOp ρ ⟨dst,.store t x y,type,pos,after,guard⟩).run P w):=by
 simp only [cq] at hop
 split at hop
 ·simp at hop
 ·rename_i hu
  obtain ⟨i,hi⟩:=gu hu
  split at hop
  ·simp only [bind,pure,Option.bind_some,Option.bind_eq_some_iff,Option.some.injEq,AI.op.injEq] at hop
   obtain ⟨a,hx,b,hy,rfl⟩:=hop
   obtain ⟨g1,g2⟩:=HZ H (hρ _ _ hx) (hρ _ _ hy) hi rfl he
   exact g2.jf g1
  ·split at hop
   ·rename_i hs
    simp only [bind,pure,Option.bind_some,Option.bind_eq_some_iff,Option.some.injEq,AI.op.injEq] at hop
    obtain ⟨a,hx,b,hy,rfl⟩:=hop
    obtain ⟨g1,g2⟩:=HW H (hρ _ _ hx) (hρ _ _ hy) hi (by rw [←cJ hi];exact hs) he
    exact g2.jf g1
   ·simp at hop
theorem Mm {x:Operand} (hop:cq P G names ⟨dst,.nilCheck x,type,pos,after,guard⟩=some (.op op)) (H:HR φ h w) (he:op.run r h=.ok v h'):bS φ h w v h' ((execOp ρ ⟨dst,.nilCheck x,type,pos,after,guard⟩).run P w):=by
 simp only [cq,bind,Option.bind_eq_some_iff,Option.some.injEq,AI.op.injEq] at hop
 obtain ⟨a,ha,rfl⟩:=hop
 have hv:=hρ _ _ ha
 obtain ⟨g1,g2,g3,g4,g5⟩:=Dq H hv he
 subst g2
 rw [g1]
 refine .same H ⟨_,rfl,hv⟩ ?_
 have hm:∀n f c,ρ x≠.func (.method n) f c:=by
  intro n f c e
  rw [e] at hv
  change (OP.rec (nq (ev a r) h') (fun i o=>.ok (.ptr i o) h') (ev a r).fo:RV)=_ at he
  generalize ev a r=z at hv he
  cases hv
  cases he
 simp only [execOp]
 cases hr:ρ x with
 | pointer p=>cases p with
  | none=>exact absurd hr g3
  | some p=>rfl
 | nilIface=>exact absurd hr g4
 | nilFunc=>exact absurd hr g5
 | func fn f c=>cases fn<;>first|exact absurd hr (hm _ _ _)|rfl
 | _=>rfl
theorem TE {o:BinOp} {t u:TypeId} {x y:Operand} (hc:∀c,ρ (.const c)=c) (hop:cq P G names ⟨dst,.binOp o t x y u,type,pos,after,guard⟩=some (.op op)) (H:HR φ h w) (he:op.run r h=.ok v h'):bS φ h w v h' ((execOp ρ ⟨dst,.binOp o t x y u,type,pos,after,guard⟩).run P w):=by
 simp only [cq] at hop
 split at hop
 ·rename_i k hk
  simp only [bind,Option.bind_eq_some_iff,Option.some.injEq,AI.op.injEq] at hop
  obtain ⟨a,hx,b,hy,rfl⟩:=hop
  exact (JF hc hk H (hρ _ _ hx) (hρ _ _ hy) he).jf
 ·split at hop
  ·rename_i k hk
   simp only [bind,Option.bind_eq_some_iff,Option.some.injEq,AI.op.injEq] at hop
   obtain ⟨a,hx,b,hy,rfl⟩:=hop
   exact (ow (k:=k) false hc hk H (hρ _ _ hx) he).jf
  ·rename_i k hk
   simp only [bind,Option.bind_eq_some_iff,Option.some.injEq,AI.op.injEq] at hop
   obtain ⟨a,hx,b,hy,rfl⟩:=hop
   exact (ow (k:=k) true hc hk H (hρ _ _ hx) he).jf
  ·cases hop
theorem Xv {o:UnOp} {t:TypeId} {x:Operand} (hop:cq P G names ⟨dst,.unOp o t x,type,pos,after,guard⟩=some (.op op)) (H:HR φ h w) (he:op.run r h=.ok v h'):bS φ h w v h' ((execOp ρ ⟨dst,.unOp o t x,type,pos,after,guard⟩).run P w):=by
 cases o<;>simp only [cq,bind,Option.bind_eq_some_iff,Option.some.injEq,AI.op.injEq] at hop
 case plus=>cases hop
 all_goals obtain ⟨a,hx,rfl⟩:=hop
 all_goals first|exact (IA H (hρ _ _ hx) he).jf|exact (Iz H (hρ _ _ hx) he).jf|exact (IB H (hρ _ _ hx) he).jf
theorem Mn {s d:TypeId} {x:Operand} (hop:cq P G names ⟨dst,.convert s d x,type,pos,after,guard⟩=some (.op op)) (H:HR φ h w) (he:op.run r h=.ok v h'):bS φ h w v h' ((execOp ρ ⟨dst,.convert s d x,type,pos,after,guard⟩).run P w):=by
 simp only [cq,bind,Option.bind_eq_some_iff,Option.some.injEq,AI.op.injEq] at hop
 obtain ⟨k,hk,a,ha,rfl⟩:=hop
 exact (DR hk H (hρ _ _ ha) he).jf
end
variable {P:Program} {φ:aJ} {h h':Hp} {w:World} {v:AV} {r:A2} {cx cy:Value} {t:TypeId} {G:Gl} {ρ:Operand→Value}
theorem xn {t:TypeId} {k:IntKind} {n:Int} {a b:TypeId} (ht:P.underlying t=some (.map a b)) (H:HR φ h w) (he:qu r h=.ok v h'):Good φ h w v h' ((Instr.makeMap t (some (.int k n))).run P w):=by
 have hrun:(Instr.makeMap t (some (.int k n))).run P w=(Instr.makeMap t none).run P w:=by
  have ha:(asInt (.int k n)).run P w=.ok n w:=rfl
  simp [Instr.makeMap,ak ht,ha]
 rw [hrun]
 exact tv H he
section
variable {dst:Option Tmp} {type:TypeId} {pos:String} {after:Array Edge} {guard:Option (Nat×Bool)} {names:List String} {op:oG}
variable (hρ:∀q x,cO G q=some x→VR φ (ev x r) (ρ q))
include hρ
theorem TF {t:TypeId} {x:Operand} (hop:cq P G names ⟨dst,.makeInterface t x,type,pos,after,guard⟩=some (.op op)) (H:HR φ h w) (he:op.run r h=.ok v h'):bS φ h w v h' ((execOp ρ ⟨dst,.makeInterface t x,type,pos,after,guard⟩).run P w):=by
 cases hu:P.underlying t with
 | none=>simp [cq,hu] at hop
 | some d=>
  have hn:∀m,d≠.interface m:=by
   intro m e
   subst e
   simp [cq,hu] at hop
  have hop:∃a,cO G x=some a∧oG.QW t a=op:=by
   cases d<;>simp only [cq,hu,bind,Option.bind_eq_some_iff,Option.some.injEq,AI.op.injEq] at hop<;>first|exact hop|exact absurd rfl (hn _)
  obtain ⟨a,hx,rfl⟩:=hop
  exact (Jb H (hρ _ _ hx) hu hn he).jf
theorem TG {fn:Fn} {first cap:Array Operand} (hop:cq P G names ⟨dst,.makeFunc fn first cap,type,pos,after,guard⟩=some (.op op)) (H:HR φ h w) (he:op.run r h=.ok v h'):bS φ h w v h' ((execOp ρ ⟨dst,.makeFunc fn first cap,type,pos,after,guard⟩).run P w):=by
  cases fn<;>simp only [cq] at hop
  case func f=>
    split at hop
    · rename_i hf
      simp only [bind,Option.bind_eq_some_iff,Option.some.injEq,AI.op.injEq] at hop
      obtain ⟨l,hl,rfl⟩:=hop
      have g1:=lE (φ:=φ) (r:=r) (ρ:=ρ) hl (fun o _ a ha=>hρ _ _ ha)
      have e1 : first.map ρ = #[] := by have : first = #[] := by simpa using hf
                                        subst this;simp
      have e2:cap.map ρ=(cap.toList.map ρ).toArray:=by apply Array.ext';simp
      show bS φ h w v h' ((do pure (.value (←Instr.makeFunc (.func f) (first.map ρ) (cap.map ρ))):Sem Next).run P w)
      rw [e1,e2]
      exact (Jd H g1 he).jf
    · cases hop
  all_goals cases hop
theorem JN {t:TypeId} {re:Option Operand} (hc:∀c,ρ (.const c)=c) (hop:cq P G names ⟨dst,.makeMap t re,type,pos,after,guard⟩=some (.op op)) (H:HR φ h w) (he:op.run r h=.ok v h'):bS φ h w v h' ((execOp ρ ⟨dst,.makeMap t re,type,pos,after,guard⟩).run P w):=by
 cases re with
 | none=>
  simp only [cq,Option.some.injEq,AI.op.injEq] at hop
  subst hop
  exact (tv (r:=r) H he).jf
 | some q=>
  cases q<;>(try (simp [cq] at hop;done))
  rename_i cv
  cases cv<;>(try (simp [cq] at hop;done))
  simp only [cq] at hop
  split at hop
  ·rename_i hu
   cases hop
   refine Good.jf ?_
   show Good φ h w v h' ((Instr.makeMap t (some (ρ (.const (.int _ _))))).run P w)
   rw [hc]
   exact xn (r:=r) (aw hu (by simp)) H he
  ·cases hop
theorem AZ {t:TypeId} {x y:Operand} (hop:cq P G names ⟨dst,.makeSlice t x y,type,pos,after,guard⟩=some (.op op)) (H:HR φ h w) (he:op.run r h=.ok v h'):bS φ h w v h' ((execOp ρ ⟨dst,.makeSlice t x y,type,pos,after,guard⟩).run P w):=by
 simp only [cq] at hop
 split at hop
 ·rename_i e hu
  simp only [bind,Option.bind_eq_some_iff] at hop
  obtain ⟨z,hz,hop⟩:=hop
  split at hop
  ·simp at hop
  ·rename_i hs
   simp only [not_or,Decidable.not_not] at hs
   simp only [bind,pure,Option.bind_some,Option.bind_eq_some_iff,Option.some.injEq,AI.op.injEq] at hop
   obtain ⟨a,hx,b,hy,rfl⟩:=hop
   exact (xa H (hρ _ _ hx) (hρ _ _ hy) (aw hu (by simp)) hz hs.2.1 hs.1 (by simpa using hs.2.2) he).jf
 ·cases hop
theorem JO {t:TypeId} {x:Operand} {l u m:Option Operand} (hop:cq P G names ⟨dst,.slice t x l u m,type,pos,after,guard⟩=some (.op op)) (H:HR φ h w) (he:op.run r h=.ok v h'):bS φ h w v h' ((execOp ρ ⟨dst,.slice t x l u m,type,pos,after,guard⟩).run P w):=by
 simp only [cq] at hop
 split at hop
 ·rename_i hu
  split at hop
  ·simp at hop
  ·rename_i hm
   have hm:m=none:=by simpa using hm
   subst hm
   simp only [bind,pure,Option.bind_some,Option.bind_eq_some_iff,Option.some.injEq,AI.op.injEq] at hop
   obtain ⟨a,hx,b,hb,c,hc,rfl⟩:=hop
   exact (Dx H (hρ _ _ hx) (lb hρ hb) (lb hρ hc) (aw hu (by simp)) he).jf
 ·rename_i e hu
  split at hop
  ·simp at hop
  ·rename_i hs
   simp only [not_or,not_and] at hs
   obtain ⟨i,hi,hs'⟩:=lG hs.1
   simp only [bind,pure,Option.bind_some,Option.bind_eq_some_iff,Option.some.injEq,AI.op.injEq] at hop
   obtain ⟨a,hx,b,hb,c,hc,d,hd,rfl⟩:=hop
   rw [cJ hi] at he
   exact (IM H (hρ _ _ hx) (lb hρ hb) (lb hρ hc) (lb hρ hd) (aw hu (by simp)) hi (by omega) (fun g=>by cases u<;>simp_all) he).jf
 ·rename_i n e hu
  split at hop
  ·simp at hop
  ·rename_i hs
   simp only [not_or,not_and] at hs
   obtain ⟨i,hi⟩:=gu hs.2
   simp only [bind,pure,Option.bind_some,Option.bind_eq_some_iff,Option.some.injEq,AI.op.injEq] at hop
   obtain ⟨a,hx,b,hb,c,hc,d,hd,rfl⟩:=hop
   rw [cJ hi] at he
   exact (Dw H (hρ _ _ hx) (lb hρ hb) (lb hρ hc) (lb hρ hd) (aw hu (by simp)) hi (fun g=>by cases u<;>simp_all) he).jf
 ·cases hop
theorem TH {t:TypeId} {x:Operand} {f:Nat} (hop:cq P G names ⟨dst,.fieldAddr t x f,type,pos,after,guard⟩=some (.op op)) (H:HR φ h w) (he:op.run r h=.ok v h'):bS φ h w v h' ((execOp ρ ⟨dst,.fieldAddr t x f,type,pos,after,guard⟩).run P w):=by
 simp only [cq] at hop
 split at hop
 ·rename_i fs hu
  simp only [bind,Option.bind_eq_some_iff] at hop
  obtain ⟨fd,hf,hop⟩:=hop
  split at hop
  ·simp at hop
  ·rename_i hs
   obtain ⟨i,hi,hs'⟩:=lG hs
   simp only [bind,pure,Option.bind_some,Option.bind_eq_some_iff,Option.some.injEq,AI.op.injEq] at hop
   obtain ⟨a,hx,rfl⟩:=hop
   exact (ID H (hρ _ _ hx) (aw hu (by simp)) hf hi hs' he).jf
 ·cases hop
theorem JP {t:TypeId} {x:Operand} {f:Nat} (hop:cq P G names ⟨dst,.field t x f,type,pos,after,guard⟩=some (.op op)) (H:HR φ h w) (he:op.run r h=.ok v h'):bS φ h w v h' ((execOp ρ ⟨dst,.field t x f,type,pos,after,guard⟩).run P w):=by
 simp only [cq] at hop
 split at hop
 ·rename_i fs hu
  simp only [bind,Option.bind_eq_some_iff] at hop
  obtain ⟨fd,hf,hop⟩:=hop
  split at hop
  ·simp at hop
  ·rename_i hs
   obtain ⟨d,hd⟩:=gu hs
   obtain ⟨i,hi⟩:=ic hd
   split at hop
   ·rename_i ha
    simp only [bind,pure,Option.bind_some,Option.bind_eq_some_iff,Option.some.injEq,AI.op.injEq] at hop
    obtain ⟨a,hx,rfl⟩:=hop
    rw [cJ hi] at he
    exact (DB H (hρ _ _ hx) (aw hu (by simp)) hf hd ha hi he).jf
   ·rename_i ha
    simp only [bind,pure,Option.bind_some,Option.bind_eq_some_iff,Option.some.injEq,AI.op.injEq] at hop
    obtain ⟨a,hx,rfl⟩:=hop
    exact (DA H (hρ _ _ hx) (aw hu (by simp)) hf hd (by simpa using ha) he).jf
 ·cases hop
theorem Mo {t:TypeId} {x y:Operand} (hop:cq P G names ⟨dst,.indexAddr t x y,type,pos,after,guard⟩=some (.op op)) (H:HR φ h w) (he:op.run r h=.ok v h'):bS φ h w v h' ((execOp ρ ⟨dst,.indexAddr t x y,type,pos,after,guard⟩).run P w):=by
 simp only [cq] at hop
 split at hop
 ·rename_i n e hu
  split at hop
  ·simp at hop
  ·rename_i hs
   obtain ⟨i,hi⟩:=gu hs
   simp only [bind,pure,Option.bind_some,Option.bind_eq_some_iff,Option.some.injEq,AI.op.injEq] at hop
   obtain ⟨a,hx,b,hb,rfl⟩:=hop
   rw [cJ hi] at he
   exact (IE H (hρ _ _ hx) (hρ _ _ hb) (aw hu (by simp)) hi he).jf
 ·rename_i e hu
  split at hop
  ·simp at hop
  ·rename_i hs
   obtain ⟨i,hi⟩:=gu hs
   simp only [bind,pure,Option.bind_some,Option.bind_eq_some_iff,Option.some.injEq,AI.op.injEq] at hop
   obtain ⟨a,hx,b,hb,rfl⟩:=hop
   rw [cJ hi] at he
   exact (IG H (hρ _ _ hx) (hρ _ _ hb) (aw hu (by simp)) hi he).jf
 ·cases hop
theorem JQ {t:TypeId} {x y:Operand} (hop:cq P G names ⟨dst,.index t x y,type,pos,after,guard⟩=some (.op op)) (H:HR φ h w) (he:op.run r h=.ok v h'):bS φ h w v h' ((execOp ρ ⟨dst,.index t x y,type,pos,after,guard⟩).run P w):=by
 simp only [cq] at hop
 split at hop
 ·rename_i hu
  simp only [bind,pure,Option.bind_some,Option.bind_eq_some_iff,Option.some.injEq,AI.op.injEq] at hop
  obtain ⟨a,hx,b,hb,rfl⟩:=hop
  exact (Dr H (hρ _ _ hx) (hρ _ _ hb) (aw hu (by simp)) he).jf
 ·rename_i n e hu
  split at hop
  ·simp at hop
  ·rename_i hs
   obtain ⟨d,hd⟩:=gu hs
   obtain ⟨i,hi⟩:=ic hd
   simp only [bind,pure,Option.bind_some,Option.bind_eq_some_iff,Option.some.injEq,AI.op.injEq] at hop
   obtain ⟨a,hx,b,hb,rfl⟩:=hop
   rw [cJ hi] at he
   exact (DC H (hρ _ _ hx) (hρ _ _ hb) (aw hu (by simp)) hd hi he).jf
 ·cases hop
theorem TI {t:TypeId} {x y:Operand} {ok:Bool} (hop:cq P G names ⟨dst,.lookup t x y ok,type,pos,after,guard⟩=some (.op op)) (H:HR φ h w) (he:op.run r h=.ok v h'):bS φ h w v h' ((execOp ρ ⟨dst,.lookup t x y ok,type,pos,after,guard⟩).run P w):=by
 simp only [cq] at hop
 split at hop
 ·rename_i k e hu
  simp only [bind,pure,Option.bind_some,Option.bind_eq_some_iff,Option.some.injEq,AI.op.injEq] at hop
  obtain ⟨kt,hk,z,hz,a,hx,b,hb,rfl⟩:=hop
  obtain ⟨k',e',hu',hk'⟩:=kZ hk
  have:=aw hu (by simp)
  rw [this] at hu';cases hu'
  exact (IZ H (hρ _ _ hx) (hρ _ _ hb) this hk' hz he).jf
 ·cases hop
theorem TJ {t:TypeId} {x y z:Operand} (hop:cq P G names ⟨dst,.mapUpdate t x y z,type,pos,after,guard⟩=some (.op op)) (H:HR φ h w) (he:op.run r h=.ok v h'):bS φ h w v h' ((execOp ρ ⟨dst,.mapUpdate t x y z,type,pos,after,guard⟩).run P w):=by
 simp only [cq,bind,Option.bind_eq_some_iff,Option.some.injEq,AI.op.injEq] at hop
 obtain ⟨kt,hk,a,hx,b,hb,c,hc,rfl⟩:=hop
 obtain ⟨k',e',hu',hk'⟩:=kZ hk
 obtain ⟨g1,g2⟩:=zh H (hρ _ _ hx) (hρ _ _ hb) (hρ _ _ hc) hu' hk' he
 exact g2.jf g1
theorem TL {t:TypeId} {x y z:Operand} (hop:cq P G names ⟨dst,.insert t x y z,type,pos,after,guard⟩=some (.op op)) (H:HR φ h w) (he:op.run r h=.ok v h'):bS φ h w v h' ((execOp ρ ⟨dst,.insert t x y z,type,pos,after,guard⟩).run P w):=by
 simp only [cq,bind,Option.bind_eq_some_iff,Option.some.injEq,AI.op.injEq] at hop
 obtain ⟨kt,hk,a,hx,b,hb,c,hc,rfl⟩:=hop
 obtain ⟨k',e',hu',hk'⟩:=kZ hk
 obtain ⟨g1,g2⟩:=zh H (hρ _ _ hx) (hρ _ _ hb) (hρ _ _ hc) hu' hk' he
 exact g2.jf g1
theorem JR {t:TypeId} {x:Operand} (hop:cq P G names ⟨dst,.range t x,type,pos,after,guard⟩=some (.op op)) (H:HR φ h w) (he:op.run r h=.ok v h'):bS φ h w v h' ((execOp ρ ⟨dst,.range t x,type,pos,after,guard⟩).run P w):=by
 simp only [cq] at hop
 split at hop
 ·rename_i k e hu
  simp only [bind,pure,Option.bind_some,Option.bind_eq_some_iff,Option.some.injEq,AI.op.injEq] at hop
  obtain ⟨a,hx,rfl⟩:=hop
  exact (DD H (hρ _ _ hx) (aw hu (by simp)) he).jf
 ·cases hop
theorem TM {x:Operand} (hop:cq P G names ⟨dst,.entry x,type,pos,after,guard⟩=some (.op op)) (H:HR φ h w) (he:op.run r h=.ok v h'):bS φ h w v h' ((execOp ρ ⟨dst,.entry x,type,pos,after,guard⟩).run P w):=by
 simp only [cq,bind,Option.bind_eq_some_iff,Option.some.injEq,AI.op.injEq] at hop
 obtain ⟨a,hx,rfl⟩:=hop
 exact (Jm H (hρ _ _ hx) he).jf
theorem TN {t u:TypeId} {x:Operand} {ok:Bool} (hop:cq P G names ⟨dst,.typeAssert x u t ok,type,pos,after,guard⟩=some (.op op)) (H:HR φ h w) (he:op.run r h=.ok v h'):bS φ h w v h' ((execOp ρ ⟨dst,.typeAssert x u t ok,type,pos,after,guard⟩).run P w):=by
 simp only [cq] at hop
 split at hop
 ·simp at hop
 ·rename_i hs
  by_cases hn:(P.underlying t).isNone=true
  ·simp [hn] at hop
  ·rw [if_neg (by simp [hn])] at hop
   obtain ⟨d,hd⟩:=gu hn
   simp only [bind,pure,Option.bind_some,Option.bind_eq_some_iff,Option.some.injEq,AI.op.injEq] at hop
   obtain ⟨z,hz,a,hx,rfl⟩:=hop
   refine (Je H (hρ _ _ hx) hd (fun m e=>?_) hz he).jf
   subst e
   exact hs m (by simp [jh,hd])
theorem TP {x:Operand} {i:Nat} (hop:cq P G names ⟨dst,.extract x i,type,pos,after,guard⟩=some (.op op)) (H:HR φ h w) (he:op.run r h=.ok v h'):bS φ h w v h' ((execOp ρ ⟨dst,.extract x i,type,pos,after,guard⟩).run P w):=by
 simp only [cq,bind,Option.bind_eq_some_iff,Option.some.injEq,AI.op.injEq] at hop
 obtain ⟨a,hx,rfl⟩:=hop
 exact (IC H (hρ _ _ hx) he).jf
theorem Mp {c:Call} (hop:cq P G names ⟨dst,.call c,type,pos,after,guard⟩=some (.op op)) (H:HR φ h w) (he:op.run r h=.ok v h'):bS φ h w v h' ((execOp ρ ⟨dst,.call c,type,pos,after,guard⟩).run P w):=by
 simp only [cq,bind,Option.bind_eq_some_iff] at hop
 obtain ⟨xs,hxs,hop⟩:=hop
 have g1:=lE (φ:=φ) (r:=r) (ρ:=ρ) hxs (fun o _ a ha=>hρ _ _ ha)
 split at hop
 ·rename_i b hb
  simp only [Option.map_eq_some_iff,AI.op.injEq] at hop
  obtain ⟨o,ho,rfl⟩:=hop
  obtain ⟨s,e,hg⟩:=xm (ty:=type) (cs:=c.args.map fun|.const _=>true|_=>false) ho H g1 he
  have e2:c.args.map ρ=(c.args.toList.map ρ).toArray:=by apply Array.ext';simp
  have:(execOp ρ ⟨dst,.call c,type,pos,after,guard⟩).run P w=(do pure (.value (←s)):Sem Next).run P w:=by
   rw [←e,←e2]
   simp only [execOp,resolve,hb,Sem.run_bind,Sem.run_pure,Result.andThen_ok,invoke]
   rfl
  rw [this]
  exact hg.jf
 ·cases hop
 ·simp only [bind,Option.bind_eq_some_iff,Option.some.injEq] at hop
  obtain ⟨a,_,e⟩:=hop;cases e
 ·simp only [bind,Option.bind_eq_some_iff,Option.some.injEq] at hop
  obtain ⟨a,_,b,_,e⟩:=hop;cases e
theorem Mq {t:TypeId} {x y:Operand} (hop:cq P G names ⟨dst,.mapEntry t x y,type,pos,after,guard⟩=some (.op op)) (H:HR φ h w) (he:op.run r h=.ok v h'):bS φ h w v h' ((execOp ρ ⟨dst,.mapEntry t x y,type,pos,after,guard⟩).run P w):=by
 simp only [cq] at hop
 split at hop
 ·rename_i k e hu
  simp only [bind,pure,Option.bind_some,Option.bind_eq_some_iff,Option.some.injEq,AI.op.injEq] at hop
  obtain ⟨kt,hk,zv,hz,a,hx,b,hb,rfl⟩:=hop
  obtain ⟨k',e',hu',hk'⟩:=kZ hk
  have hu2:=aw hu (by simp)
  rw [hu2] at hu'
  cases hu'
  exact (DP H (hρ _ _ hx) (hρ _ _ hb) hu2 hk' hz he).jf
 ·cases hop
theorem Mr {t:TypeId} {x y z:Operand} (hop:cq P G names ⟨dst,.entryStore t x y z,type,pos,after,guard⟩=some (.op op)) (H:HR φ h w) (he:op.run r h=.ok v h'):bS φ h w v h' ((execOp ρ ⟨dst,.entryStore t x y z,type,pos,after,guard⟩).run P w):=by
 simp only [cq,bind,Option.bind_eq_some_iff,Option.some.injEq,AI.op.injEq] at hop
 obtain ⟨a,hx,b,hb,c,hc,rfl⟩:=hop
 obtain ⟨g1,g2⟩:=DQ (t:=t) H (hρ _ _ hx) (hρ _ _ hb) (hρ _ _ hc) he
 exact g2.jf g1
end
variable {P:Program} {φ:aJ} {h h':Hp} {w:World} {v:AV} {r:A2} {cx cy:Value} {t:TypeId} {G:Gl} {ρ:Operand→Value} {names:List String}
theorem BF {op:oG} {o:Oper} (hρ:∀q x,cO G q=some x→VR φ (ev x r) (ρ q)) (hc:∀c,ρ (.const c)=c) (hop:cq P G names o=some (.op op)) (H:HR φ h w) (he:op.run r h=.ok v h') :
  bS φ h w v h' ((execOp ρ o).run P w):=by
 obtain ⟨dst,x,type,pos,after,guard⟩:=o
 cases x with
 | move x=>exact Xt hρ hop H he
 | assign x=>exact Xu hρ hop H he
 | pick c a b=>exact Mk hρ hop H he
 | alloc e=>exact JK hρ hop H he
 | box e x=>exact TD hρ hop H he
 | build t ps=>exact JL hρ hop H he
 | buildSlice t n ps=>exact DX hρ hop H he
 | insert t m k x=>exact TL hρ hop H he
 | load t x=>exact Ml hρ hop H he
 | store t x y=>exact JM hρ hop H he
 | ready g=>cases hop
 | waits g=>cases hop
 | nilCheck x=>exact Mm hρ hop H he
 | binOp o t x y u=>exact TE hρ hc hop H he
 | unOp o t x=>exact Xv hρ hop H he
 | convert s d x=>exact Mn hρ hop H he
 | sliceToArrayPointer d x=>cases hop
 | makeInterface t x=>exact TF hρ hop H he
 | makeFunc f a b=>exact TG hρ hop H he
 | makeMap t re=>exact JN hρ hc hop H he
 | makeChan t x=>cases hop
 | makeSlice t l c=>exact AZ hρ hop H he
 | slice t x l u m=>exact JO hρ hop H he
 | fieldAddr t x f=>exact TH hρ hop H he
 | field t x f=>exact JP hρ hop H he
 | indexAddr t x i=>exact Mo hρ hop H he
 | index t x i=>exact JQ hρ hop H he
 | lookup t x i ok=>exact TI hρ hop H he
 | mapUpdate t m k x=>exact TJ hρ hop H he
 | mapEntry t m k=>exact Mq hρ hop H he
 | entryStore t m s x=>exact Mr hρ hop H he
 | range t x=>exact JR hρ hop H he
 | next x s=>
  simp only [cq] at hop
  split at hop
  ·simp at hop
  ·simp only [bind,Option.bind_eq_some_iff,Option.some.injEq] at hop
   obtain ⟨a,_,e⟩:=hop;cases e
 | entry x=>exact TM hρ hop H he
 | typeAssert x u t ok=>exact TN hρ hop H he
 | extract x i=>exact TP hρ hop H he
 | call c=>exact Mp hρ hop H he
 | go c=>cases hop
 | defer c=>cases hop
 | panic x=>cases hop
 | send c x=>cases hop
 | recv t c ok=>cases hop
 | select cs b=>cases hop
theorem yr {s:Bool} {x:AO} {o:Oper} (hρ:∀q x,cO G q=some x→VR φ (ev x r) (ρ q)) (hop:cq P G names o=some (.uM s x)) (H:HR φ h w) (hs:(hE s (ev x r) h).Safe) :
  ∃cv w' φ' v h',(hE s (ev x r) h).aG (.ok v h')∧(execOp ρ o).run P w=.ok (.value cv) w'∧VR φ' v cv∧HR φ' h' w'∧Step φ h w φ' h' w':=by
 obtain ⟨dst,y,type,pos,after,guard⟩:=o
 have hy:∃q,y=.next q false∧s=false∧cO G q=some x:=by
  simp only [cq] at hop
  split at hop
  case h_28 q b=>
   split at hop
   ·simp at hop
   ·rename_i hb
    simp only [bind,Option.bind_eq_some_iff,Option.some.injEq,AI.uM.injEq] at hop
    obtain ⟨a,ha,hb',rfl⟩:=hop
    subst hb'
    have:b=false:=by simpa using hb
    subst this
    exact ⟨q,rfl,rfl,ha⟩
  case h_21=>
   split at hop
   ·simp only [bind,Option.bind_eq_some_iff] at hop
    obtain ⟨fd,_,hop⟩:=hop
    split at hop
    ·simp at hop
    ·split at hop<;>simp [Option.bind_eq_some_iff] at hop
   ·cases hop
  all_goals (repeat' split at hop)<;>simp [Option.bind_eq_some_iff,Option.map_eq_some_iff] at hop
 obtain ⟨q,rfl,rfl,hq⟩:=hy
 obtain ⟨v,h',h1,cv,w',φ',e,h2,h3,h4⟩:=AP (P:=P) (ty:=type) H (hρ _ _ hq) hs
 refine ⟨cv,w',φ',v,h',h1,?_,h2,h3,h4⟩
 simp only [execOp,Sem.run_bind,e,Result.andThen_ok,Sem.run_pure]
inductive RS.aG:RS→RS→Prop
 | nm (r:A2) (h:Hp):aG (.nm r h) (.nm r h)
 | ex (i:Nat) (r:A2) (h:Hp):aG (.ex i r h) (.ex i r h)
 | go (i:Nat) (r:A2) (h:Hp):aG (.go i r h) (.go i r h)
 | ret (r:A2) (h:Hp):aG (.ret r h) (.ret r h)
 | err (n:Nat):aG (.err n) (.err n)
 | ch (n:Nat) (k:Nat→RS) (c:Nat) (y:RS):c < n→aG (k c) y→aG (.ch n k) y
def RS.Safe (x:RS):Prop:=∀n,¬ x.aG (.err n)
theorem RS.Safe.err {n:Nat} (h:(RS.err n).Safe):False:=h n (.err n)
theorem jF {d:aH} {k:A2→Hp→RS} {r:A2} {v:AV} {h':Hp} {y:RS}:∀{x z:RT},x.aG z→z=.ok v h'→(k (bL d v r) h').aG y→(stepT d k r x).aG y
 | _,_,.ok v h,e,g=>by cases e;exact g
 | _,_,.err n,e,g=>by cases e
 | _,_,.ch n kk c y' hc hl,e,g=>.ch n _ c _ hc (jF hl e g)
theorem lh {d:aH} {k:A2→Hp→RS} {r:A2} {n:Nat}:∀{x z:RT},x.aG z→z=.err n→(stepT d k r x).aG (.err n)
 | _,_,.ok v h,e=>by cases e
 | _,_,.err n,e=>by cases e;exact .err n
 | _,_,.ch n kk c y' hc hl,e=>.ch n _ c _ hc (lh hl e)
theorem tL {d:aH} {k:A2→Hp→RS} {r:A2} {x:RT} (hs:(stepT d k r x).Safe):x.Safe∧∀v h',x.aG (.ok v h')→(k (bL d v r) h').Safe:=
 ⟨fun n hl=>hs n (lh hl rfl),fun _ _ hl n hn=>hs n (jF hl rfl hn)⟩
noncomputable def AI.res (i:AI) (p:Pg) (run:gJ) (r:A2) (h:Hp):RT:=match i with
 | .op o=>(o.run r h).kr
 | .uM s x=>hE s (ev x r) h
 | .call f xs=>aD p run f (fY xs r) h
 | .jK x xs=>jM p run (ev x r) (fY xs r) h
 | .inv n x xs=>aI p run n (ev x r) (fY xs r) h
theorem oz (i:AI) (p:Pg) (run:gJ) (d:aH) (k:A2→Hp→RS) (r:A2) (h:Hp):i.exec p run d k r h=stepT d k r (i.res p run r h):=by
 cases i with
 | op o=>
  show yq d k r (o.run r h)=stepT d k r (o.run r h).kr
  cases o.run r h<;>rfl
 | _=>rfl
theorem gC {v:RV} (hs:v.kr.Safe):∃a h,v=.ok a h:=by
 cases v with
 | ok a h=>exact ⟨a,h,rfl⟩
 | err n=>exact (RT.Safe.err hs).elim
abbrev NB (G:Gl):Prop:=Nonempty (G.b=none)
instance nb0:NB 0:=⟨rfl⟩
instance nbk {n:Nat} {l:List (P4×Nat)}:NB ⟨n,l,none⟩:=⟨rfl⟩
theorem nb (G:Gl) [i:NB G]:G.b=none:=i.elim id
theorem CE {G:Gl} {t s:Nat} (e:G.sl t=some s):s < 256∧G.tm s=t:=by
 unfold Gl.sl at e
 unfold Gl.tm
 cases hb:G.b with
 | none=>
  rw [hb] at e
  have e:(if t < 256 then some t else none)=some s:=e
  split at e
  ·rename_i h1;cases e;exact ⟨h1,rfl⟩
  ·cases e
 | some q=>
  rw [hb] at e
  have e:(if t < 16 * q then (if t < 256 then some t else none) else if t < 16 * q+16 then none else if t < 272 then some (t - 16) else none)=some s:=e
  split at e
  ·rename_i h1
   split at e
   ·rename_i h2;cases e;exact ⟨h2,if_pos h1⟩
   ·cases e
  ·split at e
   ·cases e
   ·rename_i h1 h2
    split at e
    ·rename_i h3
     cases e
     refine ⟨by omega,?_⟩
     show (if t - 16 < 16 * q then t - 16 else t - 16+16)=t
     rw [if_neg (by omega)]
     omega
    ·cases e
theorem TQ {G:Gl} {s t:Nat} (e:G.tm s=G.tm t):s=t:=by
 unfold Gl.tm at e
 cases hb:G.b with
 | none=>rw [hb] at e;exact e
 | some q=>
  rw [hb] at e
  have e:(if s < 16 * q then s else s+16)=(if t < 16 * q then t else t+16):=e
  split at e<;>split at e<;>omega
theorem CF (G:Gl) [NB G] (s:Nat):G.tm s=s:=by unfold Gl.tm;rw [nb G]
theorem CG (G:Gl) [NB G] (t:Nat):G.sl t=if t < 256 then some t else none:=by unfold Gl.sl;rw [nb G]
theorem xi {G:Gl} [NB G] {t:Nat} (h:t < 256):G.sl t=some t:=by rw [CG,if_pos h]
theorem JS {G:Gl} [NB G] {t s:Nat} (e:G.sl t=some s):s=t∧t < 256:=by
 rw [CG] at e
 split at e
 ·rename_i h;cases e;exact ⟨rfl,h⟩
 ·cases e
def mD (G:Gl) (φ:aJ):Prop:=(∀g,g < G.n→∃room,φ (P4.of g)=some ⟨g,0,room⟩)∧∀x,x∈G.sy→φ x.1=some ⟨0,0,x.2⟩
theorem mD.mono {G:Gl} {φ ψ:aJ} (g:mD G φ) (h:φ.le ψ):mD G ψ:=⟨fun i hi=>let ⟨room,e⟩:=g.1 i hi;⟨room,h _ _ e⟩,fun x hx=>h _ _ (g.2 x hx)⟩
structure St (n:Nat) (G:Gl) (φ:aJ) (r:A2) (h:Hp) (a:Act) (w:World):Prop where
 hr:HR φ h w
 aF:∀t,t < 256→VR φ (ar (hi t) (lo t) r) (a.tmps.getD (G.tm t) undef)
 dJ:a.defers=[]
 size:n≤a.tmps.size
 fy:mD G φ
variable {P:Program} {φ φ':aJ} {h h':Hp} {w w':World} {v:AV} {r:A2} {a:Act} {cv:Value} {n:Nat} {G:Gl} {names:List String} {p:Pg} {run:gJ}
theorem DJ {s t:Nat} (hs:s < 256) (ht:t < 256):(hi s=hi t∧lo s=lo t)↔s=t:=by
 constructor
 ·rintro ⟨h1,h2⟩
  have e1:=ly (show s / 16 < 16 by omega) (show t / 16 < 16 by omega) h1
  have e2:=ly (show s % 16 < 16 by omega) (show t % 16 < 16 by omega) h2
  omega
 ·rintro rfl;exact ⟨rfl,rfl⟩
theorem St.Ng (S:St n G φ r h a w) {q:Operand} {x:AO} (e:cO G q=some x):VR φ (ev x r) (a.eval q):=by
 cases q with
 | tmp t=>
  simp only [cO,Option.map_eq_some_iff] at e
  obtain ⟨s,hs,rfl⟩:=e
  obtain ⟨h1,h2⟩:=CE hs
  have:=S.aF s h1
  rw [h2] at this
  exact this
 | const c=>
  simp only [cO,Option.map_eq_some_iff] at e
  obtain ⟨b,hb,rfl⟩:=e
  exact nT hb φ
 | global g=>
  simp only [cO] at e
  split at e
  ·rename_i hg
   cases e
   obtain ⟨room,hp⟩:=S.fy.1 g hg
   have:=VR.ptr (φ:=φ) _ 0 _ hp
   show VR φ (.ptr (P4.of g) 0) (.pointer (some ⟨g,0,none⟩))
   simpa [Place.addr] using this
  ·cases e
 | func f=>cases e;exact .fn f [] [] .nil
theorem St.put (S:St n G φ r h a w) {o:Option Tmp} {d:aH} (hd:gA G n o=some d) (hv:VR φ' v cv) (H:HR φ' h' w') (T:Step φ h w φ' h' w'):St n G φ' (bL d v r) h' (a.put o cv) w':=by
 cases o with
 | none=>
  cases hd
  exact ⟨H,fun t ht=>(S.aF t ht).mono T.le,S.dJ,S.size,S.fy.mono T.le⟩
 | some t=>
  simp only [gA] at hd
  split at hd
  ·rename_i s hs
   split at hd
   ·rename_i hn
    cases hd
    obtain ⟨h1,h2⟩:=CE hs
    refine ⟨H,fun u hu=>?_,S.dJ,by simpa [Act.put] using S.size,S.fy.mono T.le⟩
    show VR φ' (ar (hi u) (lo u) (dj (hi s) (lo s) v r)) ((a.tmps.setIfInBounds t cv).getD (G.tm u) undef)
    rw [dE]
    by_cases e:u=s
    ·subst e
     rw [if_pos ⟨rfl,rfl⟩,h2]
     have:(a.tmps.setIfInBounds t cv).getD t undef=cv:=by
      have h3:t < a.tmps.size:=Nat.lt_of_lt_of_le hn S.size
      simp [Array.getD,h3]
     rw [this];exact hv
    ·rw [if_neg (fun g=>e ((DJ hu h1).1 g))]
     have hne:G.tm u≠t:=fun g=>e (TQ (g.trans h2.symm))
     have:(a.tmps.setIfInBounds t cv).getD (G.tm u) undef=a.tmps.getD (G.tm u) undef:=by
      simp only [Array.getD_eq_getD_getElem?,Array.getElem?_setIfInBounds,if_neg (Ne.symm hne)]
     rw [this];exact (S.aF u hu).mono T.le
   ·cases hd
  ·cases hd
theorem St.Lh [NB G] (S:St n G φ r h a w) (t:Nat) (ht:t < 256):VR φ (ar (hi t) (lo t) r) (a.tmps.getD t undef):=by
 have:=S.aF t ht
 rw [CF] at this
 exact this
theorem St.mk' [NB G] (hr:HR φ h w) (aF:∀t,t < 256→VR φ (ar (hi t) (lo t) r) (a.tmps.getD t undef)) (dJ:a.defers=[]) (size:n≤a.tmps.size) (fy:mD G φ):St n G φ r h a w:=
 ⟨hr,fun t ht=>by rw [CF];exact aF t ht,dJ,size,fy⟩
theorem jc [NB G] {t:Nat} {d:aH} (hd:gA G n (some t)=some d):t < 256∧t < n∧d=.t (hi t) (lo t):=by
 simp only [gA] at hd
 split at hd
 ·rename_i s hs
  obtain ⟨rfl,h1⟩:=JS hs
  split at hd
  ·rename_i h2;cases hd;exact ⟨h1,h2,rfl⟩
  ·cases hd
 ·cases hd
theorem qx [NB G] {t:Nat} (h1:t < 256) (h2:t < n):gA G n (some t)=some (.t (hi t) (lo t)):=by
 simp only [gA,xi h1,if_pos h2]
theorem Vr [NB G] {t:Nat} (h1:t < 256):cO G (.tmp t)=some (.t (hi t) (lo t)):=by
 simp only [cO,xi h1,Option.map_some]
theorem zw {f:Nat→A1}:∀{i:Nat},i < 16→A2.get (bR i) (.mk (f 0) (f 1) (f 2) (f 3) (f 4) (f 5) (f 6) (f 7) (f 8) (f 9) (f 10) (f 11) (f 12) (f 13) (f 14) (f 15))=f i:=by
 intro i hi
 match i,hi with
 | 0,_=>rfl
 | 1,_=>rfl
 | 2,_=>rfl
 | 3,_=>rfl
 | 4,_=>rfl
 | 5,_=>rfl
 | 6,_=>rfl
 | 7,_=>rfl
 | 8,_=>rfl
 | 9,_=>rfl
 | 10,_=>rfl
 | 11,_=>rfl
 | 12,_=>rfl
 | 13,_=>rfl
 | 14,_=>rfl
 | 15,_=>rfl
 | k+16,h=>omega
theorem DY {q s:Nat} (hs:s < 256):ar (hi s) (lo s) (sY q r)=if s < 16 * q then ar (hi s) (lo s) r else if s < 240 then ar (hi (s+16)) (lo (s+16)) r else .undef:=by
 show A1.get (lo s) (A2.get (bR (s / 16)) (sY q r))=_
 have e:A2.get (bR (s / 16)) (sY q r)=xB q r (s / 16):=zw (f:=xB q r) (by omega)
 rw [e]
 show A1.get (lo s) (@Bool.rec (fun _=>A1) (A2.get (bR (s / 16)) r) (@Bool.rec (fun _=>A1) (A2.get (bR (Nat.succ (s / 16))) r) .nil (Nat.beq (s / 16) 15)) (Nat.ble q (s / 16)))=_
 cases h1:Nat.ble q (s / 16) with
 | false=>
  have h1:¬ q≤s / 16:=fun g=>by rw [Nat.ble_eq_true_of_le g] at h1;cases h1
  rw [if_pos (by omega)]
  rfl
 | true=>
  have h1:=Nat.le_of_ble_eq_true h1
  rw [if_neg (by omega)]
  cases h2:Nat.beq (s / 16) 15 with
  | true=>
   have h2:=Nat.eq_of_beq_eq_true h2
   rw [if_neg (by omega)]
   exact A1.get_nil _
  | false=>
   have h2:s / 16≠15:=fun g=>by rw [g] at h2;cases h2
   rw [if_pos (by omega)]
   have e1:(s+16) / 16=Nat.succ (s / 16):=by omega
   have e2:(s+16) % 16=s % 16:=by omega
   show A1.get (bR (s % 16)) (A2.get (bR (Nat.succ (s / 16))) r)=A1.get (bR ((s+16) % 16)) (A2.get (bR ((s+16) / 16)) r)
   rw [e1,e2]
theorem JT {q s:Nat} (hs:s < 256):ar (hi s) (lo s) (Ax q r)=if s < 16 * q then ar (hi s) (lo s) r else if s < 16 * q+16 then .undef else ar (hi (s - 16)) (lo (s - 16)) r:=by
 show A1.get (lo s) (A2.get (bR (s / 16)) (Ax q r))=_
 have e:A2.get (bR (s / 16)) (Ax q r)=xD q r (s / 16):=zw (f:=xD q r) (by omega)
 rw [e]
 show A1.get (lo s) (@Bool.rec (fun _=>A1) (A2.get (bR (Nat.pred (s / 16))) r) (@Bool.rec (fun _=>A1) (A2.get (bR (s / 16)) r) .nil (Nat.beq (s / 16) q)) (Nat.ble (s / 16) q))=_
 cases h1:Nat.ble (s / 16) q with
 | false=>
  have h1:¬ s / 16≤q:=fun g=>by rw [Nat.ble_eq_true_of_le g] at h1;cases h1
  rw [if_neg (by omega),if_neg (by omega)]
  have e1:(s - 16) / 16=Nat.pred (s / 16):=by show (s - 16) / 16=s / 16 - 1;omega
  have e2:(s - 16) % 16=s % 16:=by omega
  show A1.get (bR (s % 16)) (A2.get (bR (Nat.pred (s / 16))) r)=A1.get (bR ((s - 16) % 16)) (A2.get (bR ((s - 16) / 16)) r)
  rw [e1,e2]
 | true=>
  have h1:=Nat.le_of_ble_eq_true h1
  cases h2:Nat.beq (s / 16) q with
  | true=>
   have h2:=Nat.eq_of_beq_eq_true h2
   rw [if_neg (by omega),if_pos (by omega)]
   exact A1.get_nil _
  | false=>
   have h2:s / 16≠q:=fun g=>by rw [g,Nat.beq_refl] at h2;cases h2
   rw [if_pos (by omega)]
   rfl
theorem St.drop [NB G] (S:St n G φ r h a w) (q:Nat):St n {G with b:=some q} φ (sY q r) h a w:=by
 refine ⟨S.hr,fun t ht=>?_,S.dJ,S.size,S.fy⟩
 show VR φ _ (a.tmps.getD (if t < 16 * q then t else t+16) undef)
 rw [DY ht]
 by_cases h1:t < 16 * q
 ·rw [if_pos h1,if_pos h1];exact S.Lh t ht
 ·rw [if_neg h1,if_neg h1]
  by_cases h2:t < 240
  ·rw [if_pos h2];exact S.Lh (t+16) (by omega)
  ·rw [if_neg h2];exact .undef _
theorem St.ins [NB G] {q:Nat} (S:St n {G with b:=some q} φ r h a w):St n G φ (Ax q r) h a w:=by
 refine St.mk' S.hr (fun t ht=>?_) S.dJ S.size S.fy
 rw [JT ht]
 by_cases h1:t < 16 * q
 ·rw [if_pos h1]
  have:VR φ (ar (hi t) (lo t) r) (a.tmps.getD (if t < 16 * q then t else t+16) undef):=S.aF t ht
  rw [if_pos h1] at this
  exact this
 ·rw [if_neg h1]
  by_cases h2:t < 16 * q+16
  ·rw [if_pos h2];exact .undef _
  ·rw [if_neg h2]
   have:VR φ (ar (hi (t - 16)) (lo (t - 16)) r) (a.tmps.getD (if t - 16 < 16 * q then t - 16 else t - 16+16) undef):=S.aF (t - 16) (by omega)
   rw [if_neg (by omega),show t - 16+16=t by omega] at this
   exact this
def mN (P:Program) (names:List String) (ms:List MR):Prop:=∀t k f,MR.mk t k f∈ms→∃name info m e,names[k]?=some name∧P.info? t=some info∧info.methods.find? (·.name == name)=some m∧m.path=#[]∧m.func=some (f,true)∧P.underlying t=some (.pointer e)
def dz (φ:aJ) (h:Hp) (w:World) (x:RT):Ending→World→Prop:=fun e w'=>∃v h' cv φ',x.aG (.ok v h')∧e=.returned cv∧VR φ' v cv∧HR φ' h' w'∧Step φ h w φ' h' w'
def TR (P:Program) (f:Nat) (vals:Array Value) (w:World) (Q:Ending→World→Prop):Prop:=((∃fn c,P.funcs[f]?=some fn∧fn.name≠ "runtime.NumGoroutine" ∧fn.body=some c)∧Calls P f vals w Q)∨
 ∃cv w',(callFunc f vals).run P w=.ok (.value cv) w'∧Q (.returned cv) w'
def dc (P:Program) (G:Gl) (p:Pg) (run:gJ):Prop:=∀(f:Nat) (args:List AV) (h:Hp) (φ:aJ) (w:World) (vals:List Value),mD G φ→HR φ h w→bX φ args vals→(aD p run f args h).Safe→
 TR P f vals.toArray w (dz φ h w (aD p run f args h))
theorem eQ {f:Nat} {args:Array Value} {fn:Func} {c:Code} (hf:P.funcs[f]?=some fn) (hn:fn.name≠ "runtime.NumGoroutine") (hb:fn.body=some c):(callFunc f args).run P w=.ok (.enter f args) w:=by
 have hp:(program).run P w=.ok P w:=rfl
 simp [callFunc,hp,hf,hn,hb]
theorem tM {t name:Nat} {k:Nat→RT} {n:Nat}:∀{ms:List MR},(nS t name ms k (.err n)).Safe→∃f,MR.mk t name f∈ms∧nS t name ms k (.err n)=k f
 | [],hs=>(RT.Safe.err hs).elim
 | .mk t' n' f::ms,hs=>by
  change RT.Safe (@Bool.rec (fun _=>RT) (nS t name ms k (.err n)) (@Bool.rec (fun _=>RT) (nS t name ms k (.err n)) (k f) (Nat.beq name n')) (Nat.beq t t')) at hs
  show ∃f',_∧(@Bool.rec (fun _=>RT) (nS t name ms k (.err n)) (@Bool.rec (fun _=>RT) (nS t name ms k (.err n)) (k f) (Nat.beq name n')) (Nat.beq t t'))=_
  cases h1:Nat.beq t t' with
  | false=>
   rw [h1] at hs
   obtain ⟨f',m1,m2⟩:=tM (ms:=ms) hs
   exact ⟨f',by simp [m1],m2⟩
  | true=>
   cases h2:Nat.beq name n' with
   | false=>
    rw [h1,h2] at hs
    obtain ⟨f',m1,m2⟩:=tM (ms:=ms) hs
    exact ⟨f',by simp [m1],m2⟩
   | true=>
    have e1:=Nat.eq_of_beq_eq_true h1
    have e2:=Nat.eq_of_beq_eq_true h2
    subst e1 e2
    exact ⟨f,by simp,rfl⟩
theorem DZ {s:String} {k:Nat} (e:wh names s=some k):names[k]?=some s:=by
 unfold wh at e
 rw [List.findIdx?_eq_some_iff_getElem] at e
 obtain ⟨hk,h1,_⟩:=e
 rw [List.getElem?_eq_getElem hk]
 simp at h1
 rw [h1]
theorem Ba {ms:List MR} (M:mN P names ms) {t k f:Nat} (hm:MR.mk t k f∈ms) {s:String} (hk:names[k]?=some s) (d:Nat) (cv:Value):(method (d+1) t cv s).run P w=.ok (f,cv) w:=by
 obtain ⟨name,info,m,e,h1,h2,h3,h4,h5,h6⟩:=M t k f hm
 rw [hk] at h1;cases h1
 simp [method,bD h2,h3,h4,h5,follow,receiverAt,ak h6,Place.get]
variable {P:Program} {φ φ':aJ} {h h':Hp} {w w':World} {v:AV} {r:A2} {a:Act} {cv:Value} {n:Nat} {G:Gl} {names:List String} {p:Pg} {run:gJ}
theorem JU {o:Oper} {f:Nat} {xs:List AO} (hop:cq P G names o=some (.call f xs)) :
  ∃c,o.op=.call c∧c.callee=.value (.func f)∧c.args.toList.mapM (cO G)=some xs:=by
 obtain ⟨dst,y,type,pos,after,guard⟩:=o
 simp only [cq] at hop
 split at hop
 case h_21=>
  split at hop
  ·simp only [bind,Option.bind_eq_some_iff] at hop
   obtain ⟨fd,_,hop⟩:=hop
   split at hop
   ·simp at hop
   ·split at hop<;>simp [Option.bind_eq_some_iff] at hop
  ·cases hop
 case h_32 c=>
  simp only [bind,Option.bind_eq_some_iff] at hop
  obtain ⟨ys,hys,hop⟩:=hop
  split at hop
  ·simp [Option.map_eq_some_iff] at hop
  ·rename_i g hc
   cases hop
   exact ⟨c,rfl,hc,hys⟩
  ·simp [Option.bind_eq_some_iff] at hop
  ·simp [Option.bind_eq_some_iff] at hop
 all_goals (repeat' split at hop)<;>simp [Option.bind_eq_some_iff,Option.map_eq_some_iff] at hop
theorem Ea {o:Oper} {x:AO} {xs:List AO} (hop:cq P G names o=some (.jK x xs)) :
  ∃c y,o.op=.call c∧c.callee=.value y∧cO G y=some x∧c.args.toList.mapM (cO G)=some xs:=by
 obtain ⟨dst,y,type,pos,after,guard⟩:=o
 simp only [cq] at hop
 split at hop
 case h_21=>
  split at hop
  ·simp only [bind,Option.bind_eq_some_iff] at hop
   obtain ⟨fd,_,hop⟩:=hop
   split at hop
   ·simp at hop
   ·split at hop<;>simp [Option.bind_eq_some_iff] at hop
  ·cases hop
 case h_32 c=>
  simp only [bind,Option.bind_eq_some_iff] at hop
  obtain ⟨ys,hys,hop⟩:=hop
  split at hop
  ·simp [Option.map_eq_some_iff] at hop
  ·cases hop
  ·rename_i z hz hc
   simp only [Option.bind_eq_some_iff,Option.some.injEq,AI.jK.injEq] at hop
   obtain ⟨b,hb,rfl,rfl⟩:=hop
   exact ⟨c,z,rfl,hc,hb,hys⟩
  ·simp [Option.bind_eq_some_iff] at hop
 all_goals (repeat' split at hop)<;>simp [Option.bind_eq_some_iff,Option.map_eq_some_iff] at hop
theorem Ms {o:Oper} {k:Nat} {x:AO} {xs:List AO} (hop:cq P G names o=some (.inv k x xs)) :
  ∃c y name,o.op=.call c∧c.callee=.invoke y name∧wh names name=some k∧cO G y=some x∧c.args.toList.mapM (cO G)=some xs:=by
 obtain ⟨dst,y,type,pos,after,guard⟩:=o
 simp only [cq] at hop
 split at hop
 case h_21=>
  split at hop
  ·simp only [bind,Option.bind_eq_some_iff] at hop
   obtain ⟨fd,_,hop⟩:=hop
   split at hop
   ·simp at hop
   ·split at hop<;>simp [Option.bind_eq_some_iff] at hop
  ·cases hop
 case h_32 c=>
  simp only [bind,Option.bind_eq_some_iff] at hop
  obtain ⟨ys,hys,hop⟩:=hop
  split at hop
  ·simp [Option.map_eq_some_iff] at hop
  ·cases hop
  ·simp [Option.bind_eq_some_iff] at hop
  ·rename_i z nm hc
   simp only [Option.bind_eq_some_iff,Option.some.injEq,AI.inv.injEq] at hop
   obtain ⟨b,hb,b2,hb2,rfl,rfl,rfl⟩:=hop
   exact ⟨c,z,nm,rfl,hc,hb,hb2,hys⟩
 all_goals (repeat' split at hop)<;>simp [Option.bind_eq_some_iff,Option.map_eq_some_iff] at hop
variable {P:Program} {φ φ':aJ} {h h':Hp} {w w':World} {v:AV} {r:A2} {a:Act} {cv:Value} {n:Nat} {G:Gl} {names:List String} {p:Pg} {run:gJ}
theorem Bb {x:AV} {args:List AV} (hs:(jM p run x args h).Safe):∃f cs,x=.fn f cs∧jM p run x args h=aD p run f (List.append args cs) h:=by
 cases x<;>first|exact ⟨_,_,rfl,rfl⟩|exact (RT.Safe.err hs).elim
theorem Bc {k:Nat} {x:AV} {args:List AV} (hs:(aI p run k x args h).Safe):∃t u,x=.iface t u∧aI p run k x args h=nS t k p.ms (fun f=>aD p run f (.cons u args) h) (.err 206):=by
 cases x<;>first|exact ⟨_,_,rfl,rfl⟩|exact (RT.Safe.err hs).elim
theorem toArray_map (ρ:Operand→Value) (l:Array Operand):l.map ρ=(l.toList.map ρ).toArray:=by apply Array.ext';simp
theorem qD {i:AI} {o:Oper} {d:aH} (M:mN P names p.ms) (CO:dc P G p run) (S:St n G φ r h a w) (hop:cq P G names o=some i) (hd:gA G n o.dst=some d) (hs:(i.res p run r h).Safe)
  {next:Act→World→Prop} {Q:Exit→Act→World→Prop}
  (hn:∀v h' φ' cv w',(i.res p run r h).aG (.ok v h')→St n G φ' (bL d v r) h' (a.put o.dst cv) w'→Step φ h w φ' h' w'→next (a.put o.dst cv) w'):o.wp P a w next Q:=by
 have hρ:∀q x,cO G q=some x→VR φ (ev x r) (a.eval q):=fun q x e=>S.Ng e
 unfold Oper.wp
 cases i with
 | op op=>
  obtain ⟨v,h',he⟩:=gC (show (op.run r h).kr.Safe from hs)
  obtain ⟨nx,w',φ',e1,e2,e3,e4⟩:=BF hρ (fun c=>rfl) hop S.hr he
  have hl:(AI.res (.op op) p run r h).aG (.ok v h'):=by
   show (op.run r h).kr.aG (.ok v h')
   rw [he];exact .ok _ _
  rw [e1]
  rcases e2 with ⟨cv,rfl,hv⟩|⟨rfl,rfl⟩
  ·exact hn v h' φ' cv w' hl (S.put hd hv e3 e4) e4
  ·exact hn .undef h' φ' undef w' hl (S.put hd (.undef _) e3 e4) e4
 | uM s x=>
  obtain ⟨cv,w',φ',v,h',hl,e1,hv,e3,e4⟩:=yr hρ hop S.hr hs
  rw [e1]
  exact hn v h' φ' cv w' hl (S.put hd hv e3 e4) e4
 | call f xs=>
  obtain ⟨c,ho,hc,hx⟩:=JU hop
  have g1:=lE (φ:=φ) (r:=r) (ρ:=a.eval) hx (fun o _ b hb=>hρ _ _ hb)
  have hrun:(execOp a.eval o).run P w=(callFunc f (c.args.toList.map a.eval).toArray).run P w:=by
   have hf:a.eval (.func f)=.func (.func f) #[] #[]:=rfl
   simp only [execOp,ho,resolve,hc,hf,Deferred.ofValue,Sem.run_bind,Sem.run_pure,Result.andThen_ok,invoke,Array.empty_append,Array.append_empty]
   rw [toArray_map]
  rcases CO f _ h φ w _ S.fy S.hr g1 hs with ⟨⟨fn,b,f1,f2,f3⟩,hC⟩|⟨cv,w',hcf,v,h',cv',φ',hl,he,hv,e3,e4⟩
  ·rw [hrun,eQ f1 f2 f3,Oper.upon_enter]
   refine hC.mono ?_
   rintro e w' ⟨v,h',cv,φ',hl,rfl,hv,e3,e4⟩
   exact hn v h' φ' cv w' hl (S.put hd hv e3 e4) e4
  ·rw [hrun,hcf]
   cases he
   exact hn v h' φ' _ w' hl (S.put hd hv e3 e4) e4
 | jK x xs=>
  obtain ⟨c,y,ho,hc,hy,hx⟩:=Ea hop
  obtain ⟨f,cs,e1,e2⟩:=Bb (show (jM p run (ev x r) (fY xs r) h).Safe from hs)
  have g1:=lE (φ:=φ) (r:=r) (ρ:=a.eval) hx (fun o _ b hb=>hρ _ _ hb)
  have g2:=hρ _ _ hy
  rw [e1] at g2
  have hval:∃vs:List Value,a.eval y=.func (.func f) #[] vs.toArray∧bX φ cs vs:=by
   generalize a.eval y=z at g2
   cases g2;exact ⟨_,rfl,by assumption⟩
  obtain ⟨vs,hval,g3⟩:=hval
  have hs':(aD p run f (List.append (fY xs r) cs) h).Safe:=by
   have:(jM p run (ev x r) (fY xs r) h).Safe:=hs
   rwa [e2] at this
  have hrun:(execOp a.eval o).run P w=(callFunc f (c.args.toList.map a.eval ++ vs).toArray).run P w:=by
   simp only [execOp,ho,resolve,hc,hval,Deferred.ofValue,Sem.run_bind,Sem.run_pure,Result.andThen_ok,invoke,Array.empty_append]
   rw [toArray_map]
   simp
  rcases CO f _ h φ w _ S.fy S.hr (g1.append g3) hs' with ⟨⟨fn,b,f1,f2,f3⟩,hC⟩|⟨cv,w',hcf,v,h',cv',φ',hl,he,hv,e3,e4⟩
  ·rw [hrun,eQ f1 f2 f3,Oper.upon_enter]
   refine hC.mono ?_
   rintro e w' ⟨v,h',cv,φ',hl,rfl,hv,e3,e4⟩
   refine hn v h' φ' cv w' ?_ (S.put hd hv e3 e4) e4
   show (jM p run (ev x r) (fY xs r) h).aG _
   rw [e2];exact hl
  ·rw [hrun,hcf]
   cases he
   refine hn v h' φ' _ w' ?_ (S.put hd hv e3 e4) e4
   show (jM p run (ev x r) (fY xs r) h).aG _
   rw [e2];exact hl
 | inv k x xs=>
  obtain ⟨c,y,name,ho,hc,hk,hy,hx⟩:=Ms hop
  obtain ⟨t,u,e1,e2⟩:=Bc (show (aI p run k (ev x r) (fY xs r) h).Safe from hs)
  have Sv:(nS t k p.ms (fun f=>aD p run f (.cons u (fY xs r)) h) (.err 206)).Safe:=by
   have:(aI p run k (ev x r) (fY xs r) h).Safe:=hs
   rwa [e2] at this
  obtain ⟨f,hm,e3⟩:=tM Sv
  rw [e3] at Sv e2
  have g1:=lE (φ:=φ) (r:=r) (ρ:=a.eval) hx (fun o _ b hb=>hρ _ _ hb)
  have g2:=hρ _ _ hy
  rw [e1] at g2
  have hval:∃z,a.eval y=.iface t z∧VR φ u z:=by
   generalize a.eval y=z at g2
   cases g2;exact ⟨_,rfl,by assumption⟩
  obtain ⟨z,hval,g3⟩:=hval
  have hrun:(execOp a.eval o).run P w=(callFunc f (z::c.args.toList.map a.eval).toArray).run P w:=by
   have hp:(program).run P w=.ok P w:=rfl
   have hmeth:=Ba (w:=w) M hm (DZ hk) (P.types.size+Made.depth - 1) z
   have hdep:P.types.size+Made.depth - 1+1=P.types.size+Made.depth:=by
    have:0 < Made.depth:=by decide
    omega
   rw [hdep] at hmeth
   have h0:(#[Value.iface t z] ++ c.args.map a.eval)[0]?=some (Value.iface t z):=by
    rw [Array.getElem?_append];rfl
   have h1:(#[Value.iface t z] ++ c.args.map a.eval).extract 1 (#[Value.iface t z] ++ c.args.map a.eval).size=c.args.map a.eval:=by
    apply Array.ext'
    simp only [Array.toList_extract,List.extract_eq_take_drop]
    simp
    rw [List.take_of_length_le (by simp)]
   simp only [execOp,ho,resolve,hc,hval,Sem.run_bind,Sem.run_pure,Result.andThen_ok,invoke,h0,h1,callMethod,hp,hmeth]
   rw [toArray_map]
   simp
  rcases CO f _ h φ w _ S.fy S.hr (.cons _ _ _ _ g3 g1) Sv with ⟨⟨fn,b,f1,f2,f3⟩,hC⟩|⟨cv,w',hcf,v,h',cv',φ',hl,he,hv,e5,e6⟩
  ·rw [hrun,eQ f1 f2 f3,Oper.upon_enter]
   refine hC.mono ?_
   rintro e w' ⟨v,h',cv,φ',hl,rfl,hv,e5,e6⟩
   refine hn v h' φ' cv w' ?_ (S.put hd hv e5 e6) e6
   show (aI p run k (ev x r) (fY xs r) h).aG _
   rw [e2];exact hl
  ·rw [hrun,hcf]
   cases he
   refine hn v h' φ' _ w' ?_ (S.put hd hv e5 e6) e6
   show (aI p run k (ev x r) (fY xs r) h).aG _
   rw [e2];exact hl
variable {P:Program} {φ φ':aJ} {h h':Hp} {w w':World} {v:AV} {r:A2} {a:Act} {cv:Value} {n:Nat} {G:Gl} {names:List String} {p:Pg} {run:gJ} {ops:Array Oper}
theorem jG {k:A2→Hp→RS} (hs:(nv.exec p run k r h).Safe):False:=RS.Safe.err (n:=400) hs
theorem Bd (b:Bool):(undef:Value)≠.bool b:=by simp [undef]
theorem mW {t j:Nat} {b:Bool} (hj:(ops[j]?).bind (·.dst)=some t) (ht:a.tmps.getD t undef=.bool b):yielded ops a.tmps j=some b:=by
 unfold yielded
 rw [hj,Option.bind_some]
 rw [Array.getD_eq_getD_getElem?] at ht
 cases h:a.tmps[t]? with
 | none=>rw [h] at ht;exact absurd ht (Bd b)
 | some x=>rw [h] at ht;have ht:x=.bool b:=ht;rw [ht]
theorem eO {x:AV} {k:Bool→RS} {n:Nat} (hs:(AV.bH x k (.err n)).Safe):∃b,x=.bool b∧AV.bH x k (.err n)=k b:=by
 cases x<;>first|exact ⟨_,rfl,rfl⟩|exact (RS.Safe.err hs).elim
theorem xj {w b:Bool} {x:AV} (h:gb w x=.bool b):x=.bool b∨(x=.bU []∧b = !w):=by
 cases x with
 | bU l=>
  cases l with
  | nil=>right;have h:AV.bool (Bool.not w)=.bool b:=h;injection h with h;exact ⟨rfl,h.symm⟩
  | cons a l=>have h:AV.undef=.bool b:=h;cases h
 | _=>exact .inl h
theorem qC:VR φ cA undef:=.bU [] [] .nil
theorem xk (h:VR φ (.bU []) cv):cv=undef:=by
 cases h with
 | bU _ vs e=>cases e;rfl
theorem jE {t j:Nat} (hj:(ops[j]?).bind (·.dst)=some t) (ht:a.tmps.getD t undef=undef):yielded ops a.tmps j=none:=by
 unfold yielded
 rw [hj,Option.bind_some]
 rw [Array.getD_eq_getD_getElem?] at ht
 cases h:a.tmps[t]? with
 | none=>rfl
 | some x=>rw [h] at ht;have ht:x=undef:=ht;rw [ht];rfl
theorem xo (a b:Bool):eH a b=(a == b):=by cases a<;>cases b<;>rfl
theorem NN {o:Oper} {i:Nat} {k:A2→Hp→RS} (M:mN P names p.ms) (CO:dc P G p run) (S:St n G φ r h a w) (hoi:ops[i]?=some o) (hs:((fJ P G n names ops o).exec p run k r h).Safe)
  {K:Act→World→Prop} {Q:Exit→Act→World→Prop}
  (hn:∀r' h' φ' a' w',(k r' h').Safe→(∀y,(k r' h').aG y→((fJ P G n names ops o).exec p run k r h).aG y)→St n G φ' r' h' a' w'→Step φ h w φ' h' w'→K a' w'):wpOp P ops Q i K a w:=by
 unfold wpOp
 simp only [hoi]
 unfold fJ at hs hn
 split at hs
 ·rename_i d x hd hx
  split at hs
  ·rename_i hg
   have hw:Region.wanted o (yielded ops a.tmps)=true:=by simp [Region.wanted,hg]
   rw [if_pos hw]
   simp only [hg,hd,hx] at hn
   change (x.exec p run d k r h).Safe at hs
   rw [oz] at hs
   obtain ⟨s1,s2⟩:=tL hs
   refine .inl (qD M CO S hx hd s1 fun v h' φ' cv w' hl S' T=>hn _ h' φ' _ w' (s2 v h' hl) (fun y hy=>?_) S' T)
   show (x.exec p run d k r h).aG y
   rw [oz]
   exact jF hl rfl hy
  ·rename_i j wnt hg
   simp only [hg,hd,hx] at hn
   split at hs
   ·rename_i t ht
    simp only [ht] at hn
    split at hs
    ·rename_i s hsl
     obtain ⟨hs256,htm⟩:=CE hsl
     simp only [hsl] at hn
     change (AV.bH (gb wnt (ar (hi s) (lo s) r)) (kK d k r h x p run wnt) (.err 210)).Safe at hs
     obtain ⟨b,hb,e⟩:=eO hs
     have hv:=S.aF s hs256
     rw [htm] at hv
     have hw:Region.wanted o (yielded ops a.tmps)=(b == wnt):=by
      rcases xj hb with hb2|⟨hb2,rfl⟩
      ·rw [hb2] at hv
       have hy:=mW ht hv.cQ
       simp only [Region.wanted,hg,hy];cases b<;>cases wnt<;>rfl
      ·rw [hb2] at hv
       have hy:=jE (a:=a) ht (xk hv)
       simp only [Region.wanted,hg,hy];cases wnt<;>rfl
     rw [e] at hs
     have hs:(@Bool.rec (fun _=>RS) (k (bL d cA r) h) (x.exec p run d k r h) (eH b wnt)).Safe:=hs
     have e:(AV.bH (gb wnt (ar (hi s) (lo s) r)) (kK d k r h x p run wnt) (.err 210))=(@Bool.rec (fun _=>RS) (k (bL d cA r) h) (x.exec p run d k r h) (eH b wnt)):=e
     have hn:∀r' h' φ' a' w',(k r' h').Safe→(∀y,(k r' h').aG y→(AV.bH (gb wnt (ar (hi s) (lo s) r)) (kK d k r h x p run wnt) (.err 210)).aG y)→St n G φ' r' h' a' w'→Step φ h w φ' h' w'→K a' w':=hn
     rw [e] at hn
     rw [xo] at hs hn
     rw [hw]
     cases hbw:(b == wnt) with
     | true=>
      rw [hbw] at hs hn
      rw [if_pos rfl]
      have hs:(x.exec p run d k r h).Safe:=hs
      rw [oz] at hs
      obtain ⟨s1,s2⟩:=tL hs
      refine .inl (qD M CO S hx hd s1 fun v h' φ' cv w' hl S' T=>hn _ h' φ' _ w' (s2 v h' hl) (fun y hy=>?_) S' T)
      show (x.exec p run d k r h).aG y
      rw [oz]
      exact jF hl rfl hy
     | false=>
      rw [hbw] at hs hn
      rw [if_neg (by simp)]
      exact hn _ h φ _ w hs (fun y hy=>hy) (S.put hd qC S.hr (.refl _ _ _)) (.refl _ _ _)
    ·exact (jG hs).elim
   ·exact (jG hs).elim
 ·exact (jG hs).elim
theorem Eb (n:Nat) (names:List String) (ops:Array Oper) (o:Oper):mw P G n names ops o=fJ P G n names ops o∨mw P G n names ops o=nv∨
  ∃j w d t s,o.guard=some (j,w)∧gA G n o.dst=some d∧(ops[j]?).bind (·.dst)=some t∧G.sl t=some s∧mw P G n names ops o=.g (hi s) (lo s) w d (.op (.bad 405)):=by
 unfold mw
 split
 ·rename_i j w d hx hg hd
  split
  ·rename_i t ht
   split
   ·rename_i s hs
    exact .inr (.inr ⟨j,w,d,t,s,hg,hd,ht,hs,rfl⟩)
   ·exact .inr (.inl rfl)
  ·exact .inr (.inl rfl)
 ·exact .inl rfl
theorem NP {o:Oper} {i:Nat} {k:A2→Hp→RS} (M:mN P names p.ms) (CO:dc P G p run) (S:St n G φ r h a w) (hoi:ops[i]?=some o) (hs:((mw P G n names ops o).exec p run k r h).Safe)
  {K:Act→World→Prop} {Q:Exit→Act→World→Prop}
  (hn:∀r' h' φ' a' w',(k r' h').Safe→(∀y,(k r' h').aG y→((mw P G n names ops o).exec p run k r h).aG y)→St n G φ' r' h' a' w'→Step φ h w φ' h' w'→K a' w'):wpOp P ops Q i K a w:=by
 rcases Eb (P:=P) (G:=G) n names ops o with e|e|⟨j,wnt,d,t,s,hg,hd,ht,hsl,e⟩
 ·rw [e] at hs hn
  exact NN M CO S hoi hs hn
 ·rw [e] at hs
  exact (jG hs).elim
 ·rw [e] at hs hn
  obtain ⟨hs256,htm⟩:=CE hsl
  change (AV.bH (gb wnt (ar (hi s) (lo s) r)) (kK d k r h (.op (.bad 405)) p run wnt) (.err 210)).Safe at hs
  obtain ⟨b,hb,e1⟩:=eO hs
  have hv:=S.aF s hs256
  rw [htm] at hv
  have hw:Region.wanted o (yielded ops a.tmps)=(b == wnt):=by
   rcases xj hb with hb2|⟨hb2,rfl⟩
   ·rw [hb2] at hv
    have hy:=mW ht hv.cQ
    simp only [Region.wanted,hg,hy];cases b<;>cases wnt<;>rfl
   ·rw [hb2] at hv
    have hy:=jE (a:=a) ht (xk hv)
    simp only [Region.wanted,hg,hy];cases wnt<;>rfl
  rw [e1] at hs
  have hs:(@Bool.rec (fun _=>RS) (k (bL d cA r) h) ((AI.op (.bad 405)).exec p run d k r h) (eH b wnt)).Safe:=hs
  have e1:(AV.bH (gb wnt (ar (hi s) (lo s) r)) (kK d k r h (.op (.bad 405)) p run wnt) (.err 210))=(@Bool.rec (fun _=>RS) (k (bL d cA r) h) ((AI.op (.bad 405)).exec p run d k r h) (eH b wnt)):=e1
  have hn:∀r' h' φ' a' w',(k r' h').Safe→(∀y,(k r' h').aG y→(AV.bH (gb wnt (ar (hi s) (lo s) r)) (kK d k r h (.op (.bad 405)) p run wnt) (.err 210)).aG y)→St n G φ' r' h' a' w'→Step φ h w φ' h' w'→K a' w':=hn
  rw [e1] at hn
  rw [xo] at hs hn
  unfold wpOp
  simp only [hoi]
  rw [hw]
  cases hbw:(b == wnt) with
  | true=>rw [hbw] at hs;exact (RS.Safe.err (n:=405) hs).elim
  | false=>
   rw [hbw] at hs hn
   rw [if_neg (by simp)]
   exact hn _ h φ _ w hs (fun y hy=>hy) (S.put hd qC S.hr (.refl _ _ _)) (.refl _ _ _)
theorem Be (M:mN P names p.ms) (CO:dc P G p run) {Q:Exit→Act→World→Prop}:∀(os pre:List Oper) (r:A2) (h:Hp) (φ:aJ) (a:Act) (w:World),ops.toList=pre ++ os→St n G φ r h a w→
  (eY p run (os.map fun o=>mw P G n names ops o) r h).Safe→
  (∀r' h' φ' a' w',(eY p run (os.map fun o=>mw P G n names ops o) r h).aG (.nm r' h')→St n G φ' r' h' a' w'→Step φ h w φ' h' w'→Q .normal a' w')→
  wpOps P ops Q (List.range' pre.length os.length) a w
 | [],pre,r,h,φ,a,w,_,S,_,hQ=>hQ r h φ a w (.nm _ _) S (.refl _ _ _)
 | o::os,pre,r,h,φ,a,w,e,S,hs,hQ=>by
  have hoi:ops[pre.length]?=some o:=by rw [←Array.getElem?_toList,e];simp
  rw [List.length_cons,List.range'_succ,wpOps_cons]
  have hs:((mw P G n names ops o).exec p run (eY p run (os.map fun o=>mw P G n names ops o)) r h).Safe:=hs
  refine NP M CO S hoi hs fun r' h' φ' a' w' s1 s2 S' T=>?_
  have:=Be M CO os (pre ++ [o]) r' h' φ' a' w' (by rw [e];simp) S' s1 (Q:=Q) fun r'' h'' φ'' a'' w'' hl S'' T'=>hQ r'' h'' φ'' a'' w'' (s2 _ hl) S'' (T.trans T')
  simpa using this
variable {P:Program} {φ φ':aJ} {h h':Hp} {w w':World} {v:AV} {r:A2} {a:Act} {cv:Value} {n:Nat} {G:Gl} {names:List String} {p:Pg} {run:gJ} {ops:Array Oper}
section
variable {kn:A2→Hp→RS} {ke:Nat→A2→Hp→RS} {kg:Nat→A2→Hp→RS}
theorem cT {y:RS}:∀{x z:RS},x.aG z→z=.nm r h→(kn r h).aG y→(RS.bind x kn ke kg).aG y
 | _,_,.nm r h,e,g=>by cases e;exact g
 | _,_,.ex ..,e,_=>by cases e
 | _,_,.go ..,e,_=>by cases e
 | _,_,.ret ..,e,_=>by cases e
 | _,_,.err ..,e,_=>by cases e
 | _,_,.ch n k c y' hc hl,e,g=>.ch n _ c _ hc (cT hl e g)
theorem du {i:Nat} {y:RS}:∀{x z:RS},x.aG z→z=.ex i r h→(ke i r h).aG y→(RS.bind x kn ke kg).aG y
 | _,_,.nm ..,e,_=>by cases e
 | _,_,.ex ..,e,g=>by cases e;exact g
 | _,_,.go ..,e,_=>by cases e
 | _,_,.ret ..,e,_=>by cases e
 | _,_,.err ..,e,_=>by cases e
 | _,_,.ch n k c y' hc hl,e,g=>.ch n _ c _ hc (du hl e g)
theorem cU {i:Nat} {y:RS}:∀{x z:RS},x.aG z→z=.go i r h→(kg i r h).aG y→(RS.bind x kn ke kg).aG y
 | _,_,.nm ..,e,_=>by cases e
 | _,_,.ex ..,e,_=>by cases e
 | _,_,.go ..,e,g=>by cases e;exact g
 | _,_,.ret ..,e,_=>by cases e
 | _,_,.err ..,e,_=>by cases e
 | _,_,.ch n k c y' hc hl,e,g=>.ch n _ c _ hc (cU hl e g)
theorem dD:∀{x z:RS},x.aG z→z=.ret r h→(RS.bind x kn ke kg).aG (.ret r h)
 | _,_,.nm ..,e=>by cases e
 | _,_,.ex ..,e=>by cases e
 | _,_,.go ..,e=>by cases e
 | _,_,.ret ..,e=>by cases e;exact .ret _ _
 | _,_,.err ..,e=>by cases e
 | _,_,.ch n k c y' hc hl,e=>.ch n _ c _ hc (dD hl e)
theorem lY {i:Nat}:∀{x z:RS},x.aG z→z=.err i→(RS.bind x kn ke kg).aG (.err i)
 | _,_,.nm ..,e=>by cases e
 | _,_,.ex ..,e=>by cases e
 | _,_,.go ..,e=>by cases e
 | _,_,.ret ..,e=>by cases e
 | _,_,.err ..,e=>by cases e;exact .err _
 | _,_,.ch n k c y' hc hl,e=>.ch n _ c _ hc (lY hl e)
theorem gw {x:RS} (hs:(RS.bind x kn ke kg).Safe):x.Safe:=fun n hl=>hs n (lY hl rfl)
theorem jv {x:RS} (hs:(RS.bind x kn ke kg).Safe) (hl:x.aG (.nm r h)):(kn r h).Safe:=fun n g=>hs n (cT hl rfl g)
theorem xp {i:Nat} {x:RS} (hs:(RS.bind x kn ke kg).Safe) (hl:x.aG (.go i r h)):(kg i r h).Safe:=fun n g=>hs n (cU hl rfl g)
end
inductive Ends:RS→Exit→A2→Hp→Prop
 | nm (r:A2) (h:Hp):Ends (.nm r h) .normal r h
 | ex (i:Nat) (r:A2) (h:Hp):Ends (.ex i r h) (.exit i) r h
 | go (i:Nat) (r:A2) (h:Hp):Ends (.go i r h) (.goto i) r h
 | ret (r:A2) (h:Hp):Ends (.ret r h) .ret r h
def aZ (n:Nat) (G:Gl) (φ:aJ) (h:Hp) (w:World) (x:RS):Exit→Act→World→Prop:=fun e a' w'=>∃y r' h' φ',x.aG y∧Ends y e r' h'∧St n G φ' r' h' a' w'∧Step φ h w φ' h' w'
def nH (P:Program) (c:Code) (Q:Exit→Act→World→Prop) (a:Act) (w:World):Prop:=
 ∀(b:Frame) (k:List Item) (cs:List Frame),∃e a' w',Q e a' w'∧Arrives P (lone (b.at a (.code c::.inLoop c::k)) cs w) b k cs e a' w'
theorem pT {c:Code} {Q:Exit→Act→World→Prop} (hl:nH P c Q a w):(Code.loop c).wp P Q a w:=fun b k cs=>
 let ⟨e,a',w',q,g⟩:=hl b k cs;⟨e,a',w',q,.of_steps (.one step_loop) g⟩
theorem nJ {c:Code} {Q:Exit→Act→World→Prop} (hc:c.wp P (Exit.then (nH P c Q) Q) a w):nH P c Q a w:=by
 intro b k cs
 obtain ⟨e,a₁,w₁,hq,harr⟩:=hc b (.inLoop c::k) cs
 cases e with
 | normal=>
  obtain ⟨e₂,a₂,w₂,hq₂,harr₂⟩:=hq b k cs
  exact ⟨e₂,a₂,w₂,hq₂,.of_steps (Steps.trans harr (.one step_inLoop)) harr₂⟩
 | exit id=>exact ⟨_,a₁,w₁,hq,.pass (x:=.inLoop c) rfl (fun _ _=>.inl (by simp)) harr⟩
 | goto l=>exact ⟨_,a₁,w₁,hq,.pass (x:=.inLoop c) rfl (fun _ _=>.inl (by simp)) harr⟩
 | ret=>exact ⟨_,a₁,w₁,hq,.pass (x:=.inLoop c) rfl (fun _ _=>.inl (by simp)) harr⟩
 | panic ch=>exact ⟨_,a₁,w₁,hq,.pass (x:=.inLoop c) rfl (fun _ _=>.inl (by simp)) harr⟩
 | outgrown=>exact ⟨_,a₁,w₁,hq,.pass (x:=.inLoop c) rfl (fun _ _=>.inl (by simp)) harr⟩
def xq (P:Program) (s c:Code) (Q:Exit→Act→World→Prop) (a:Act) (w:World):Prop:=
 ∀(b:Frame) (k:List Item) (cs:List Frame),∃e a' w',Q e a' w'∧Arrives P (lone (b.at a (.code c::.inScope s::k)) cs w) b k cs e a' w'
def Exit.inScope (P:Program) (s:Code) (Q:Exit→Act→World→Prop):Exit→Act→World→Prop
 | .goto l,a,w=>match findLabel s l with
  | some c=>xq P s c Q a w
  | none=>Q (.goto l) a w
 | e,a,w=>Q e a w
theorem Bg {c:Code} {Q:Exit→Act→World→Prop} (hl:xq P c c Q a w):(Code.scope c).wp P Q a w:=fun b k cs=>
 let ⟨e,a',w',q,g⟩:=hl b k cs;⟨e,a',w',q,.of_steps (.one step_scope) g⟩
theorem Mt {s c:Code} {Q:Exit→Act→World→Prop} (hc:c.wp P (Exit.inScope P s Q) a w):xq P s c Q a w:=by
 intro b k cs
 obtain ⟨e,a₁,w₁,hq,harr⟩:=hc b (.inScope s::k) cs
 cases e with
 | normal=>exact ⟨.normal,a₁,w₁,hq,Steps.trans harr (.one step_inScope)⟩
 | exit id=>exact ⟨.exit id,a₁,w₁,hq,fun k' hk=>harr k' (by simp [exitTo,hk])⟩
 | goto l=>
  simp only [Exit.inScope] at hq
  split at hq
  ·rename_i rest hf
   obtain ⟨e₂,a₂,w₂,hq₂,harr₂⟩:=hq b k cs
   exact ⟨e₂,a₂,w₂,hq₂,.of_steps (harr _ (by simp [gotoIn,hf])) harr₂⟩
  ·rename_i hf
   exact ⟨.goto l,a₁,w₁,hq,fun k' hk=>harr k' (by simp [gotoIn,hf,hk])⟩
 | ret=>exact ⟨_,a₁,w₁,hq,harr⟩
 | panic ch=>exact ⟨_,a₁,w₁,hq,harr⟩
 | outgrown=>exact ⟨_,a₁,w₁,hq,harr⟩
theorem az {b c:Bool} (e:(@Bool.rec (fun _=>Bool) false c b)=true):b=true∧c=true:=by cases b<;>first|exact ⟨rfl,e⟩|cases e
theorem qt {b c:Bool} (e:Bool.and b c=true):b=true∧c=true:=by cases b<;>cases c<;>first|exact ⟨rfl,rfl⟩|cases e
theorem dS {a b:Nat} (e:Nat.beq a b=true):a=b:=Nat.eq_of_beq_eq_true e
theorem sH {a b:Bool} (e:eH a b=true):a=b:=by cases a<;>cases b<;>first|rfl|cases e
theorem dB {x y:AV} (e:dk x y=true):x=y:=by
 cases x<;>cases y<;>(try (cases e;done))
 ·rename_i a b;exact congrArg _ (sH e)
 ·rename_i k a k' b
  obtain ⟨h1,h2⟩:=az (show (@Bool.rec (fun _=>Bool) false (uk a b) (nP k k'))=true from e)
  have h1:=gM h1
  have h2:a=b:=by rw [kP] at h2;exact of_decide_eq_true h2
  subst h1 h2;rfl
 ·rename_i a b
  have h2:kI a b=true:=e
  rw [te] at h2
  exact congrArg _ (of_decide_eq_true h2)
 ·rename_i k a k' b
  obtain ⟨h1,h2⟩:=qt (show Bool.and (wG k k') (Nat.beq a b)=true from e)
  have h1:=iZ h1
  have h2:=dS h2
  subst h1 h2;rfl
 ·rename_i k a b k' c d
  obtain ⟨h1,h2⟩:=qt (show Bool.and (wG k k') (Bool.and (Nat.beq a c) (Nat.beq b d))=true from e)
  obtain ⟨h2,h3⟩:=qt h2
  have h1:=iZ h1
  have h2:=dS h2
  have h3:=dS h3
  subst h1 h2 h3;rfl
 ·rename_i i o j q
  obtain ⟨h1,h2⟩:=qt (show Bool.and (lk i j) (Nat.beq o q)=true from e)
  have h1:=eT.1 h1
  have h2:=dS h2
  subst h1 h2;rfl
 ·rfl
 ·rename_i i a b c j d e' f
  obtain ⟨h1,h2⟩:=qt (show Bool.and (lk i j) (Bool.and (Nat.beq a d) (Bool.and (Nat.beq b e') (Nat.beq c f)))=true from e)
  obtain ⟨h2,h3⟩:=qt h2
  obtain ⟨h3,h4⟩:=qt h3
  have h1:=eT.1 h1
  have h2:=dS h2
  have h3:=dS h3
  have h4:=dS h4
  subst h1 h2 h3 h4;rfl
 ·rename_i i a b c j d e' f
  obtain ⟨h1,h2⟩:=qt (show Bool.and (lk i j) (Bool.and (Nat.beq a d) (Bool.and (Nat.beq b e') (Nat.beq c f)))=true from e)
  obtain ⟨h2,h3⟩:=qt h2
  obtain ⟨h3,h4⟩:=qt h3
  have h1:=eT.1 h1
  have h2:=dS h2
  have h3:=dS h3
  have h4:=dS h4
  subst h1 h2 h3 h4;rfl
 ·rfl
 ·rename_i i j;exact congrArg _ (eT.1 e)
 ·rfl
 ·rfl
 ·rfl
theorem tN:∀{a b:List AV},yR a b=true→a=b
 | [],[],_=>rfl
 | [],_::_,e=>by cases e
 | _::_,[],e=>by cases e
 | x::a,y::b,e=>by
  obtain ⟨h1,h2⟩:=az (show (@Bool.rec (fun _=>Bool) false (yR a b) (dk x y))=true from e)
  rw [dB h1,tN h2]
theorem zx {x y:AV} (e:sV x y=true):x=y:=by
 by_cases hx:∃l,x=.agg l
 ·obtain ⟨l,rfl⟩:=hx
  cases y<;>(try (cases e;done))
  exact congrArg _ (tN e)
 ·have:sV x y=dk x y:=by cases x<;>first|rfl|exact absurd ⟨_,rfl⟩ hx
  exact dB (this▸e)
theorem zy {x y:AV} (e:vq x y=true):x=y:=by
 by_cases hx:∃f l,x=.fn f l
 ·obtain ⟨f,l,rfl⟩:=hx
  cases y<;>(try (cases e;done))
  rename_i g m
  obtain ⟨h1,h2⟩:=qt (show Bool.and (Nat.beq f g) (yR l m)=true from e)
  rw [dS h1,tN h2]
 ·by_cases hi:∃t u,x=.iface t u
  ·obtain ⟨t,u,rfl⟩:=hi
   cases y<;>(try (cases e;done))
   rename_i t' u'
   obtain ⟨h1,h2⟩:=qt (show Bool.and (Nat.beq t t') (sV u u')=true from e)
   rw [dS h1,zx h2]
  ·have:vq x y=sV x y:=by cases x<;>first|rfl|exact absurd ⟨_,_,rfl⟩ hx|exact absurd ⟨_,_,rfl⟩ hi
   exact zx (this▸e)
theorem nK:∀{a b:List AV},pU a b=true→a=b
 | [],[],_=>rfl
 | [],_::_,e=>by cases e
 | _::_,[],e=>by cases e
 | x::a,y::b,e=>by
  obtain ⟨h1,h2⟩:=az (show (@Bool.rec (fun _=>Bool) false (pU a b) (vq x y))=true from e)
  rw [zy h1,nK h2]
theorem nL {x y:AV} (e:same x y=true):x=y:=by
 by_cases hx:∃l,x=.bU l
 ·obtain ⟨l,rfl⟩:=hx
  cases y<;>(try (cases e;done))
  exact congrArg _ (nK e)
 ·have:same x y=vq x y:=by cases x<;>first|rfl|exact absurd ⟨_,rfl⟩ hx
  exact zy (this▸e)
theorem JV {x:AV} (e:SQ x=true):x=.undef:=by cases x<;>first|rfl|cases e
theorem dW {x y:AV} (e:xA x y=true):x=y:=by
 have e:(@Bool.rec (fun _=>Bool) (same x y) (SQ y) (SQ x))=true:=e
 cases hx:SQ x with
 | true=>rw [hx] at e;rw [JV hx,JV e]
 | false=>rw [hx] at e;exact nL e
theorem A1.eq_eq {x y:A1} (e:A1.eq x y=true):x=y:=by
 cases x with
 | nil=>cases y with
  | nil=>rfl
  | mk=>cases e
 | mk=>cases y with
  | nil=>cases e
  | mk=>
   obtain ⟨e0,e⟩:=az e;obtain ⟨e1,e⟩:=az e;obtain ⟨e2,e⟩:=az e;obtain ⟨e3,e⟩:=az e;obtain ⟨e4,e⟩:=az e;obtain ⟨e5,e⟩:=az e;obtain ⟨e6,e⟩:=az e;obtain ⟨e7,e⟩:=az e
   obtain ⟨e8,e⟩:=az e;obtain ⟨e9,e⟩:=az e;obtain ⟨ea,e⟩:=az e;obtain ⟨eb,e⟩:=az e;obtain ⟨ec,e⟩:=az e;obtain ⟨ed,e⟩:=az e;obtain ⟨ee,e⟩:=az e
   rw [dW e0,dW e1,dW e2,dW e3,dW e4,dW e5,dW e6,dW e7,dW e8,dW e9,dW ea,dW eb,dW ec,dW ed,dW ee,dW e]
theorem A2.eq_eq {x y:A2} (e:A2.eq x y=true):x=y:=by
 cases x with
 | nil=>cases y with
  | nil=>rfl
  | mk=>cases e
 | mk=>cases y with
  | nil=>cases e
  | mk=>
   obtain ⟨e0,e⟩:=az e;obtain ⟨e1,e⟩:=az e;obtain ⟨e2,e⟩:=az e;obtain ⟨e3,e⟩:=az e;obtain ⟨e4,e⟩:=az e;obtain ⟨e5,e⟩:=az e;obtain ⟨e6,e⟩:=az e;obtain ⟨e7,e⟩:=az e
   obtain ⟨e8,e⟩:=az e;obtain ⟨e9,e⟩:=az e;obtain ⟨ea,e⟩:=az e;obtain ⟨eb,e⟩:=az e;obtain ⟨ec,e⟩:=az e;obtain ⟨ed,e⟩:=az e;obtain ⟨ee,e⟩:=az e
   rw [A1.eq_eq e0,A1.eq_eq e1,A1.eq_eq e2,A1.eq_eq e3,A1.eq_eq e4,A1.eq_eq e5,A1.eq_eq e6,A1.eq_eq e7,A1.eq_eq e8,A1.eq_eq e9,A1.eq_eq ea,A1.eq_eq eb,A1.eq_eq ec,A1.eq_eq ed,A1.eq_eq ee,A1.eq_eq e]
theorem A3.eq_eq {x y:A3} (e:A3.eq x y=true):x=y:=by
 cases x with
 | nil=>cases y with
  | nil=>rfl
  | mk=>cases e
 | mk=>cases y with
  | nil=>cases e
  | mk=>
   obtain ⟨e0,e⟩:=az e;obtain ⟨e1,e⟩:=az e;obtain ⟨e2,e⟩:=az e;obtain ⟨e3,e⟩:=az e;obtain ⟨e4,e⟩:=az e;obtain ⟨e5,e⟩:=az e;obtain ⟨e6,e⟩:=az e;obtain ⟨e7,e⟩:=az e
   obtain ⟨e8,e⟩:=az e;obtain ⟨e9,e⟩:=az e;obtain ⟨ea,e⟩:=az e;obtain ⟨eb,e⟩:=az e;obtain ⟨ec,e⟩:=az e;obtain ⟨ed,e⟩:=az e;obtain ⟨ee,e⟩:=az e
   rw [A2.eq_eq e0,A2.eq_eq e1,A2.eq_eq e2,A2.eq_eq e3,A2.eq_eq e4,A2.eq_eq e5,A2.eq_eq e6,A2.eq_eq e7,A2.eq_eq e8,A2.eq_eq e9,A2.eq_eq ea,A2.eq_eq eb,A2.eq_eq ec,A2.eq_eq ed,A2.eq_eq ee,A2.eq_eq e]
theorem A4.eq_eq {x y:A4} (e:A4.eq x y=true):x=y:=by
 cases x with
 | nil=>cases y with
  | nil=>rfl
  | mk=>cases e
 | mk=>cases y with
  | nil=>cases e
  | mk=>
   obtain ⟨e0,e⟩:=az e;obtain ⟨e1,e⟩:=az e;obtain ⟨e2,e⟩:=az e;obtain ⟨e3,e⟩:=az e;obtain ⟨e4,e⟩:=az e;obtain ⟨e5,e⟩:=az e;obtain ⟨e6,e⟩:=az e;obtain ⟨e7,e⟩:=az e
   obtain ⟨e8,e⟩:=az e;obtain ⟨e9,e⟩:=az e;obtain ⟨ea,e⟩:=az e;obtain ⟨eb,e⟩:=az e;obtain ⟨ec,e⟩:=az e;obtain ⟨ed,e⟩:=az e;obtain ⟨ee,e⟩:=az e
   rw [A3.eq_eq e0,A3.eq_eq e1,A3.eq_eq e2,A3.eq_eq e3,A3.eq_eq e4,A3.eq_eq e5,A3.eq_eq e6,A3.eq_eq e7,A3.eq_eq e8,A3.eq_eq e9,A3.eq_eq ea,A3.eq_eq eb,A3.eq_eq ec,A3.eq_eq ed,A3.eq_eq ee,A3.eq_eq e]
theorem Cl.eq_eq {x y:Cl} (e:Cl.eq x y=true):x=y:=by
 cases x<;>cases y<;>(try (cases e;done))
 ·exact congrArg _ (A1.eq_eq e)
 ·exact congrArg _ (A2.eq_eq e)
 ·exact congrArg _ (A3.eq_eq e)
 ·exact congrArg _ (A4.eq_eq e)
theorem Fl.eq_eq {x y:Fl} (e:Fl.eq x y=true):x=y:=by cases x<;>cases y<;>first|rfl|cases e
theorem Mu {x y:KV} (e:SR x y=true):x=y:=by
 cases x;cases y
 obtain ⟨h1,h2⟩:=az e
 obtain ⟨h2,h3⟩:=az h2
 rw [dS h1,nL h2,dW h3]
theorem zz:∀{a b:List KV},Hj a b=true→a=b
 | [],[],_=>rfl
 | [],_::_,e=>by cases e
 | _::_,[],e=>by cases e
 | x::a,y::b,e=>by
  obtain ⟨h1,h2⟩:=az (show (@Bool.rec (fun _=>Bool) false (Hj a b) (SR x y))=true from e)
  rw [Mu h1,zz h2]
theorem yv {x y:Obj} (e:sD x y=true):x=y:=by
 cases x<;>cases y<;>(try (cases e;done))
 ·rfl
 ·obtain ⟨h1,h2⟩:=az e
  obtain ⟨h2,h3⟩:=az h2
  obtain ⟨h3,h4⟩:=az h3
  obtain ⟨h4,h5⟩:=az h4
  rw [dS h1,dS h2,sH h3,Fl.eq_eq h4,Cl.eq_eq h5]
 ·obtain ⟨h1,h2⟩:=az e
  rw [dS h1,zz h2]
theorem CH (x y:AV):(fZ x y=x∧x=y)∨fZ x y=.undef:=by
 show ((@Bool.rec (fun _=>AV) .undef x (same x y))=x∧x=y)∨(@Bool.rec (fun _=>AV) .undef x (same x y))=.undef
 cases hs:same x y with
 | true=>exact .inl ⟨rfl,nL hs⟩
 | false=>exact .inr rfl
theorem pH (x y:Obj):(aX x y=x∧x=y)∨aX x y=.dead:=by
 show ((@Bool.rec (fun _=>Obj) .dead x (sD x y))=x∧x=y)∨(@Bool.rec (fun _=>Obj) .dead x (sD x y))=.dead
 cases hs:sD x y with
 | true=>exact .inl ⟨rfl,yv hs⟩
 | false=>exact .inr rfl
theorem A1.mY (d:H) (x y:A1):A1.get d (A1.mg x y)=fZ (A1.get d x) (A1.get d y):=by
 cases x<;>cases y<;>cases d<;>rfl
theorem A2.mY (d:H) (x y:A2):A2.get d (A2.mg x y)=A1.mg (A2.get d x) (A2.get d y):=by
 cases x<;>cases y<;>cases d<;>rfl
theorem O1.mY (d:H) (x y:O1):O1.get d (O1.mg x y)=aX (O1.get d x) (O1.get d y):=by
 cases x<;>cases y<;>cases d<;>rfl
theorem O2.mY (d:H) (x y:O2):O2.get d (O2.mg x y)=O1.mg (O2.get d x) (O2.get d y):=by
 cases x<;>cases y<;>cases d<;>rfl
theorem O3.mY (d:H) (x y:O3):O3.get d (O3.mg x y)=O2.mg (O3.get d x) (O3.get d y):=by
 cases x<;>cases y<;>cases d<;>rfl
theorem O4.mY (d:H) (x y:O4):O4.get d (O4.mg x y)=O3.mg (O4.get d x) (O4.get d y):=by
 cases x<;>cases y<;>cases d<;>rfl
theorem CI (a b:H) (x y:A2):ar a b (A2.mg x y)=fZ (ar a b x) (ar a b y):=by
 simp only [ar,A2.mY,A1.mY]
def fW (r2 r:A2):Prop:=∀a b,ar a b r2=ar a b r∨ar a b r2=.undef
def gE (h2 h:Hp):Prop:=∀i,au i h2=au i h∨au i h2=.dead
theorem fW.refl (r:A2):fW r r:=fun _ _=>.inl rfl
theorem gE.refl (h:Hp):gE h h:=fun _=>.inl rfl
theorem fW.trans {r1 r2 r3:A2} (h:fW r1 r2) (g:fW r2 r3):fW r1 r3:=fun a b=>by
 rcases h a b with e|e
 ·rw [e];exact g a b
 ·exact .inr e
theorem gE.trans {h1 h2 h3:Hp} (h:gE h1 h2) (g:gE h2 h3):gE h1 h3:=fun i=>by
 rcases h i with e|e
 ·rw [e];exact g i
 ·exact .inr e
variable {P:Program} {φ φ':aJ} {h h' h2:Hp} {w w':World} {v:AV} {r r2:A2} {a:Act} {cv:Value} {n:Nat} {G:Gl}
theorem HR.less (H:HR φ h w) (L:gE h2 h):HR φ h2 w where
 obj i hl:=by
  rcases L i with e|e
  ·rw [e] at hl ⊢;exact H.obj i hl
  ·exact absurd e hl.2
 inj i j p q hi hj:=by
  rcases L i with e|e
  ·rcases L j with e'|e'
   ·rw [e] at hi;rw [e'] at hj;exact H.inj i j p q hi hj
   ·exact absurd e' hj.2
  ·exact absurd e hi.2
 fresh i hi:=by
  rcases L i with e|e
  ·exact H.fresh i (e▸hi)
  ·rw [e] at hi;cases hi
 bound:=H.bound
theorem Step.JW {φ₀:aJ} {h₀:Hp} {w₀:World} (S:Step φ₀ (mark h₀) w₀ φ h w) (L:gE h2 h) (F:Fr h₀ h2):Step φ₀ h₀ w₀ φ h2 w:=
 ⟨S.le,⟨S.keeps.size,S.keeps.rest,S.keeps.tape,S.keeps.os,S.keeps.output⟩,fun i p hl hp=>by
  rcases L i with e|e
  ·exact S.new i p (e▸hl) hp
  ·exact absurd e hl.2,F⟩
theorem HR.mark (H:HR φ h w):HR φ (Am.mark h) w:=⟨H.obj,H.inj,H.fresh,H.bound⟩
theorem St.mark (S:St n G φ r h a w):St n G φ r (Am.mark h) a w:=⟨S.hr.mark,S.aF,S.dJ,S.size,S.fy⟩
theorem Fr.Hk {h₀:Hp} (F:Fr (Am.mark h₀) h):Fr h₀ (Am.Hk h₀ h):=by
 obtain ⟨l',e,f⟩:=F.2 [] rfl
 obtain ⟨t,n,lg⟩:=h₀
 refine ⟨fun g=>?_,fun l g=>?_⟩
 ·have g:lg=.off:=g
  subst g;rfl
 ·have g:lg=.on l:=g
  subst g
  refine ⟨l',?_,fun q hq=>f q hq⟩
  show Lg.on (uo h.log ++ l)=_
  rw [e,List.append_nil];rfl
theorem St.less (S:St n G φ r h a w) (L:fW r2 r) (M:gE h2 h):St n G φ r2 h2 a w:=
 ⟨S.hr.less M,fun t ht=>by
  rcases L (hi t) (lo t) with e|e
  ·rw [e];exact S.aF t ht
  ·rw [e];exact .undef _,S.dJ,S.size,S.fy⟩
theorem tP (x y:Hp):∀(l:List P4) (h0:Hp) (q:P4),au q (pv x y l h0)=if q∈l then aX (au q x) (au q y) else au q h0
 | [],h0,q=>by rw [if_neg (by simp)];rfl
 | p::l,h0,q=>by
  show au q (pv x y l (cN p (aX (au p x) (au p y)) h0))=_
  rw [tP x y l,bj]
  by_cases e1:q∈l
  ·rw [if_pos e1,if_pos (List.mem_cons_of_mem _ e1)]
  ·rw [if_neg e1]
   by_cases e2:q=p
   ·subst e2;rw [if_pos rfl,if_pos (List.mem_cons_self ..)]
   ·rw [if_neg e2,if_neg (by simp [e1,e2])]
theorem xr {b:Hp} (x y:Hp):∀(l:List P4) (h0:Hp),Fr b h0→Fr b (pv x y l h0)
 | [],_,F=>F
 | p::l,h0,F=>xr x y l _ (F.trans (.set _ _ _))
theorem vN {b:Hp} (hb:b.log=.on []) {x y:RS} (hs:(Aw b x y).Safe):∃r h r' h' h2,x=.nm r h∧y=.nm r' h'∧Aw b x y=.nm (A2.mg r r') h2∧(Fr b h→gE h2 h)∧(Fr b h'→gE h2 h')∧Fr b h2:=by
 cases x<;>(try exact (RS.Safe.err hs).elim)
 rename_i r h
 cases y<;>(try exact (RS.Safe.err hs).elim)
 rename_i r' h'
 change RS.Safe (@Bool.rec (fun _=>RS) (.err 301) (.nm (A2.mg r r') (Ch h.next (pv h h' (uo h.log) (pv h h' (uo h'.log) b)))) (lk h.next h'.next)) at hs
 have e:Aw b (.nm r h) (.nm r' h')=(@Bool.rec (fun _=>RS) (.err 301) (.nm (A2.mg r r') (Ch h.next (pv h h' (uo h.log) (pv h h' (uo h'.log) b)))) (lk h.next h'.next)):=rfl
 cases hp:lk h.next h'.next with
 | false=>rw [hp] at hs;exact (RS.Safe.err hs).elim
 | true=>
  rw [hp] at e
  have hg:∀q,au q (Ch h.next (pv h h' (uo h.log) (pv h h' (uo h'.log) b)))=if q∈uo h.log then aX (au q h) (au q h') else if q∈uo h'.log then aX (au q h) (au q h') else au q b:=fun q=>by
   show au q (pv h h' (uo h.log) (pv h h' (uo h'.log) b))=_
   rw [tP,tP]
  have key:∀g:Hp,Fr b g→∀q,q ∉ uo g.log→au q g=au q b:=fun g F q hq=>by
   obtain ⟨l',e1,f1⟩:=F.2 [] hb
   rw [e1,List.append_nil] at hq
   exact f1 q hq
  refine ⟨r,_,r',_,_,rfl,rfl,e,fun F q=>?_,fun F q=>?_,?_⟩
  ·rw [hg]
   by_cases e1:q∈uo h.log
   ·rw [if_pos e1]
    rcases pH (au q h) (au q h') with ⟨g1,_⟩|g1
    ·exact .inl g1
    ·exact .inr g1
   ·rw [if_neg e1]
    by_cases e2:q∈uo h'.log
    ·rw [if_pos e2]
     rcases pH (au q h) (au q h') with ⟨g1,_⟩|g1
     ·exact .inl g1
     ·exact .inr g1
    ·rw [if_neg e2];exact .inl (key h F q e1).symm
  ·rw [hg]
   have hm:aX (au q h) (au q h')=au q h'∨aX (au q h) (au q h')=.dead:=by
    rcases pH (au q h) (au q h') with ⟨g1,g2⟩|g1
    ·exact .inl (g1.trans g2)
    ·exact .inr g1
   by_cases e1:q∈uo h.log
   ·rw [if_pos e1];exact hm
   ·rw [if_neg e1]
    by_cases e2:q∈uo h'.log
    ·rw [if_pos e2];exact hm
    ·rw [if_neg e2];exact .inl (key h' F q e2).symm
  ·have:=xr h h' (uo h.log) _ (xr h h' (uo h'.log) b (.refl b))
   exact ⟨this.1,this.2⟩
theorem fW.Xw (r r':A2):fW (A2.mg r r') r:=fun a b=>by
 rw [CI]
 rcases CH (ar a b r) (ar a b r') with ⟨g1,_⟩|g1
 ·exact .inl g1
 ·exact .inr g1
theorem fW.Xx (r r':A2):fW (A2.mg r r') r':=fun a b=>by
 rw [CI]
 rcases CH (ar a b r) (ar a b r') with ⟨g1,g2⟩|g1
 ·exact .inl (g1.trans g2)
 ·exact .inr g1
theorem Ec {β:Type} (z:β) (s:Nat→β→β) (m:Nat):nO z s (m+1)=s m (nO z s m):=rfl
theorem JX {b:Hp} (hb:b.log=.on []) {f:Nat→RS}:∀m,(nO (f 0) (fun m ih=>Aw b ih (f (Nat.succ m))) (m+1)).Safe→∃R H,nO (f 0) (fun m ih=>Aw b ih (f (Nat.succ m))) (m+1)=.nm R H∧Fr b H∧∀c,c≤m+1→∃r h,f c=.nm r h∧fW R r∧(Fr b h→gE H h)
 | 0,hs=>by
  obtain ⟨r,h,r',h',h2,e1,e2,e3,l1,l2,l3⟩:=vN hb (x:=f 0) (y:=f 1) hs
  refine ⟨_,_,e3,l3,fun c hc=>?_⟩
  rcases Nat.lt_or_ge c 1 with g|g
  ·obtain rfl:c=0:=by omega
   exact ⟨r,h,e1,.Xw _ _,l1⟩
  ·obtain rfl:c=1:=by omega
   exact ⟨r',h',e2,.Xx _ _,l2⟩
 | m+1,hs=>by
  rw [Ec] at hs ⊢
  obtain ⟨r,h,r',h',h2,e1,e2,e3,l1,l2,l3⟩:=vN hb hs
  obtain ⟨R,H,g1,g3,g2⟩:=JX hb m (by rw [e1];exact fun n hn=>by cases hn)
  rw [e1] at g1;cases g1
  refine ⟨_,_,e3,l3,fun c hc=>?_⟩
  rcases Nat.lt_or_ge c (m+2) with g|g
  ·obtain ⟨rc,hc',f1,f2,f3⟩:=g2 c (by omega)
   exact ⟨rc,hc',f1,(fW.Xw _ _).trans f2,fun F=>(l1 g3).trans (f3 F)⟩
  ·obtain rfl:c=m+2:=by omega
   exact ⟨r',h',e2,.Xx _ _,l2⟩
theorem Mv {b:Hp} (hb:b.log=.on []):∀x:RS,(jL b x).Safe→x.Safe∧∀y,x.aG y→∀e r' h',Ends y e r' h'→Fr b h'→∃y2 r2 h2,(jL b x).aG y2∧Ends y2 e r2 h2∧fW r2 r'∧gE h2 h'∧Fr b h2:=by
  intro x
  induction x with
  | nm r h=>exact fun hs=>⟨hs,fun y hy e r' h' he F=>⟨y,r',h',hy,he,.refl _,.refl _,F⟩⟩
  | ex i r h=>exact fun hs=>⟨hs,fun y hy e r' h' he F=>⟨y,r',h',hy,he,.refl _,.refl _,F⟩⟩
  | go i r h=>exact fun hs=>⟨hs,fun y hy e r' h' he F=>⟨y,r',h',hy,he,.refl _,.refl _,F⟩⟩
  | ret r h=>exact fun hs=>⟨hs,fun y hy e r' h' he F=>⟨y,r',h',hy,he,.refl _,.refl _,F⟩⟩
  | err n=>exact fun hs=>(RS.Safe.err hs).elim
  | ch n k ih=>
    intro hs
    have e0:jL b (.ch n k)=Hl b n (fun i=>jL b (k i)):=rfl
    rw [e0] at hs ⊢
    cases n with
    | zero=>exact (RS.Safe.err hs).elim
    | succ n=>
      cases n with
      | zero=>
        have hs:(jL b (k 0)).Safe:=hs
        obtain ⟨s1,s2⟩:=ih 0 hs
        refine ⟨fun m hm=>?_,fun y hy e r' h' he F=>?_⟩
        · cases hm with
          | ch _ _ c _ hc hl => obtain rfl : c = 0 := by omega
                                exact s1 m hl
        · cases hy with
          | ch _ _ c _ hc hl => obtain rfl : c = 0 := by omega
                                exact s2 y hl e r' h' he F
      | succ m=>
        have hs:(nO (jL b (k 0)) (fun m ih=>Aw b ih (jL b (k (Nat.succ m)))) (m+1)).Safe:=hs
        obtain ⟨R,H,g1,g3,g2⟩:=JX hb (f:=fun i=>jL b (k i)) m hs
        have e1:Hl b (m+1+1) (fun i=>jL b (k i))=.nm R H:=g1
        rw [e1]
        have hk:∀c,c < m+1+1→(jL b (k c)).Safe:=fun c hc=>by
          obtain ⟨rc,hc',f1,_,_⟩:=g2 c (by omega)
          rw [f1];exact fun n hn=>by cases hn
        refine ⟨fun j hj=>?_,fun y hy e r' h' he F=>?_⟩
        · cases hj with
          | ch _ _ c _ hc hl=>exact (ih c (hk c hc)).1 j hl
        · cases hy with
          | ch _ _ c _ hc hl=>
            obtain ⟨y2,r2,h2,q1,q2,q3,q4,q5⟩:=(ih c (hk c hc)).2 y hl e r' h' he F
            obtain ⟨rc,hc',f1,f2,f3⟩:=g2 c (by omega)
            have f1:jL b (k c)=.nm rc hc':=f1
            rw [f1] at q1
            cases q1
            cases q2
            exact ⟨_,R,H,.nm _ _,.nm _ _,f2.trans q3,(f3 q5).trans q4,g3⟩
theorem lI (b:Hp):∀x y:RS,x.aG y→(qm b x).aG (qm b y)
 | _,_,.nm _ _=>.nm _ _
 | _,_,.ex _ _ _=>.ex _ _ _
 | _,_,.go _ _ _=>.go _ _ _
 | _,_,.ret _ _=>.ret _ _
 | _,_,.err _=>.err _
 | _,_,.ch n k c y hc hl=>.ch n _ c _ hc (lI b _ _ hl)
theorem vO {b:Hp} {x:RS} (hs:(qm b x).Safe):x.Safe:=fun n hn=>hs n (lI b _ _ hn)
theorem vP {b:Hp} {y:RS} {e:Exit} (he:Ends y e r h):Ends (qm b y) e r (Hk b h):=by
 cases he with
 | nm=>exact .nm _ _
 | ex=>exact .ex _ _ _
 | go=>exact .go _ _ _
 | ret=>exact .ret _ _
theorem oA {b:Hp} {x:RS} (hs:(fS b x).Safe):x.Safe∧∀y,x.aG y→∀e r' h',Ends y e r' h'→Fr (Am.mark b) h'→∃y2 r2 h2,(fS b x).aG y2∧Ends y2 e r2 h2∧fW r2 r'∧gE h2 h'∧Fr b h2:=by
 obtain ⟨s1,s2⟩:=Mv (b:=Am.mark b) rfl x (vO hs)
 refine ⟨s1,fun y hy e r' h' he F=>?_⟩
 obtain ⟨y2,r2,h2,q1,q2,q3,q4,q5⟩:=s2 y hy e r' h' he F
 exact ⟨_,r2,Hk b h2,lI b _ _ q1,vP q2,q3,fun i=>q4 i,q5.Hk⟩
theorem aZ.qm {x:RS} {e:Exit} {a':Act} {w':World} (hq:aZ n G φ (Am.mark h) w x e a' w'):aZ n G φ h w (Am.qm h x) e a' w':=by
 obtain ⟨y,r',h',φ',hl,he,S',T⟩:=hq
 exact ⟨_,r',Hk h h',φ',lI h _ _ hl,vP he,⟨⟨S'.hr.obj,S'.hr.inj,S'.hr.fresh,S'.hr.bound⟩,S'.aF,S'.dJ,S'.size,S'.fy⟩,T.JW (fun _=>.inl rfl) T.fr.Hk⟩
variable {P:Program} {φ φ':aJ} {h h' h2:Hp} {w w':World} {v:AV} {r r2:A2} {a:Act} {cv:Value} {n:Nat} {G:Gl} [NB G] {names:List String} {p:Pg} {run:gJ}
theorem Mw {x:AO} {cx:Value} (H:HR φ h w) (hx:VR φ (ev x r) cx) {t:TypeId} {d:TypeDesc} (hd:P.underlying t=some d) (ha:qv P t=false) (e:iE x r h=.ok v h') :
  h'=h∧∃ad cv,cx=.pointer (some ad)∧(loadVar t ad).run P w=.ok cv w∧VR φ v cv:=by
 obtain ⟨i,o,ex,e1⟩:=cD e
 rw [ex] at hx
 obtain ⟨el,n,ex,fl,c,hi,e2⟩:=aO e1
 obtain ⟨hb,e3⟩:=aC e2
 obtain ⟨rfl,rfl⟩:=RV.av e3
 cases hx with
 | ptr _ _ p hp=>
  obtain ⟨cv,h1,h2,h3⟩:=H.cell hi hp (kM hb)
  exact ⟨rfl,_,cv,rfl,by simp [loadVar,gx hd,ha,h1],h2⟩
theorem Mx {x:AO} {cx:Value} (H:HR φ h w) (hx:VR φ (ev x r) cx) {t:TypeId} {d:TypeDesc} (hd:P.underlying t=some d) (ha:qv P t=true) {m:Nat} (hm:bp P t=m) (e:pX m x r h=.ok v h') :
  h'=h∧∃ad cv,cx=.pointer (some ad)∧(loadVar t ad).run P w=.ok cv w∧VR φ v cv:=by
 obtain ⟨i,o,ex,e1⟩:=cD e
 rw [ex] at hx
 obtain ⟨el,n,ex,fl,c,hi,e2⟩:=aO e1
 obtain ⟨hb,e3⟩:=aC e2
 obtain ⟨rfl,rfl⟩:=RV.av e3
 obtain ⟨inf,hinf⟩:=ic hd
 cases hx with
 | ptr _ _ p hp=>
  obtain ⟨l,h1,h2,h3,h4⟩:=H.values hi hp m o (by simpa using hb)
  have hsz:inf.size=m:=by rw [←cJ hinf,hm]
  exact ⟨rfl,_,_,rfl,by simp [loadVar,gx hd,ha,aP hinf,hsz,run_loadCells h1 h4],.agg _ l h2 h3⟩
def zA (a:Act):ResultVar→Sem Value:=fun
 | .tmp t=>pure (a.tmps.getD t undef)
 | .cell b t=>do loadVar t (←asAddr (a.tmps.getD b undef))
theorem My {s:Rs} {rv:ResultVar} (S:St n G φ r h a w) (hs:KY P n rv=some s) (he:LM s r h=.ok v h'):h'=h∧∃cv,(zA a rv).run P w=.ok cv w∧VR φ v cv:=by
 cases rv with
 | tmp t=>
  simp only [KY] at hs
  split at hs
  ·rename_i ht
   cases hs
   obtain ⟨rfl,rfl⟩:=RV.av he
   exact ⟨rfl,_,rfl,S.Lh t ht⟩
  ·cases hs
 | cell b t=>
  simp only [KY] at hs
  split at hs
  ·cases hs
  ·rename_i hu
   obtain ⟨d,hd⟩:=gu hu
   split at hs
   ·rename_i ht
    have hv:VR φ (ev (.t (hi b) (lo b)) r) (a.tmps.getD b undef):=S.Lh b ht
    have key:h'=h∧∃ad cv,a.tmps.getD b undef=.pointer (some ad)∧(loadVar t ad).run P w=.ok cv w∧VR φ v cv:=by
     cases ha:qv P t with
     | true=>
      rw [ha] at hs
      cases hs
      exact Mx S.hr hv hd ha rfl he
     | false=>
      rw [ha] at hs
      cases hs
      exact Mw S.hr hv hd ha he
    obtain ⟨e1,ad,cv,e2,e3,e4⟩:=key
    refine ⟨e1,cv,?_,e4⟩
    have:(asAddr (.pointer (some ad))).run P w=.ok ad w:=rfl
    simp only [zA,e2,Sem.run_bind,this,Result.andThen_ok,e3]
   ·cases hs
theorem CJ (S:St n G φ r h a w):∀{l:List ResultVar} {rs:List Rs} {k:List AV→RV},l.mapM (KY P n)=some rs→SS rs r h k=.ok v h'→∃vs cs,k vs=.ok v h'∧(l.mapM (zA a)).run P w=.ok cs w∧bX φ vs cs
 | [],rs,k,hl,he=>by
  simp at hl;subst hl
  exact ⟨[],[],he,rfl,.nil⟩
 | x::l,rs,k,hl,he=>by
  simp only [List.mapM_cons,Option.pure_def,Option.bind_eq_bind,Option.bind_eq_some_iff,Option.some.injEq] at hl
  obtain ⟨s,hs,rs,hrs,rfl⟩:=hl
  have he:(RV.rec (fun v _=>SS rs r h (fun vs=>k (v::vs))) (fun n=>.err n) (LM s r h):RV)=.ok v h':=he
  cases h1:LM s r h with
  | err n=>rw [h1] at he;cases he
  | ok u g=>
   rw [h1] at he
   obtain ⟨_,cv,e1,e2⟩:=My S hs h1
   obtain ⟨vs,cs,f1,f2,f3⟩:=CJ S hrs he
   refine ⟨u::vs,cv::cs,f1,?_,.cons _ _ _ _ e2 f3⟩
   simp only [List.mapM_cons,Sem.run_bind,e1,Result.andThen_ok,f2,Sem.run_pure]
theorem gB {fn:Func} {rs:List Rs} (S:St n G φ r h a w) (hr:fn.results.toList.mapM (KY P n)=some rs) (he:Df rs r h=.ok v h'):h'=h∧∃cv,(results fn a.tmps).run P w=.ok cv w∧VR φ v cv:=by
 obtain ⟨vs,cs,f1,f2,f3⟩:=CJ S hr he
 have hm:(fn.results.mapM (zA a)).run P w=.ok cs.toArray w:=by
  rw [Array.mapM_eq_mapM_toList]
  simp [f2]
 have hrun:(results fn a.tmps).run P w=.ok (if h:cs.toArray.size=1 then cs.toArray[0] else .tuple cs.toArray) w:=by
  have:results fn a.tmps=(do let vs←fn.results.mapM (zA a);pure (if h:vs.size=1 then vs[0] else .tuple vs)):=rfl
  rw [this]
  simp only [Sem.run_bind,hm,Result.andThen_ok,Sem.run_pure]
 cases f3 with
 | nil=>
  obtain ⟨rfl,rfl⟩:=RV.av f1
  exact ⟨rfl,.tuple #[],by rw [hrun];rfl,.bU [] [] .nil⟩
 | cons u c us ds g1 g2=>cases g2 with
  | nil=>
   obtain ⟨rfl,rfl⟩:=RV.av f1
   exact ⟨rfl,c,by rw [hrun];rfl,g1⟩
  | cons u2 c2 us ds g3 g4=>
   obtain ⟨rfl,rfl⟩:=RV.av f1
   refine ⟨rfl,.tuple (c::c2::ds).toArray,by rw [hrun];rw [dif_neg (by simp)],.bU _ _ (.cons _ _ _ _ g1 (.cons _ _ _ _ g3 g4))⟩
theorem tS:∀(l:List AV) (i:Nat) (r:A2) (t:Nat),t < 256→i+l.length≤256→ar (hi t) (lo t) (dI l i r)=if hh:i≤t∧t < i+l.length then l[t - i]'(by omega) else ar (hi t) (lo t) r
 | [],i,r,t,ht,hl=>by rw [dif_neg (by simp only [List.length_nil];omega)];rfl
 | v::l,i,r,t,ht,hl=>by
  simp only [List.length_cons] at hl
  have e:dI (v::l) i r=dI l (i+1) (dj (hi i) (lo i) v r):=rfl
  rw [e,tS l (i+1) _ t ht (by omega),dE]
  by_cases h1:t=i
  ·subst h1
   rw [dif_neg (by omega),dif_pos (by simp),if_pos ⟨rfl,rfl⟩]
   simp
  ·rw [if_neg (fun g=>h1 ((DJ ht (by omega)).1 g))]
   by_cases h2:i≤t∧t < i+(l.length+1)
   ·rw [dif_pos (by omega),dif_pos (by simpa using h2)]
    have:t - i=(t - (i+1))+1:=by omega
    simp only [this,List.getElem_cons_succ]
   ·rw [dif_neg (by omega),dif_neg (by simpa using h2)]
theorem JY (a b:H):ar a b .nil=.undef:=by
 simp only [ar,A2.get_nil,A1.get_nil]
theorem St.start {args:List AV} {vals:List Value} (H:HR φ h w) (hv:bX φ args vals) (hg:mD G φ) (hl:args.length≤256) (n:Nat):St n G φ (dI args 0 .nil) h {tmps:=vals.toArray ++ Array.replicate (n - vals.toArray.size) undef,defers:=[]} w:=by
 refine St.mk' H (fun t ht=>?_) rfl ?_ hg
 ·rw [tS args 0 _ t ht (by omega)]
  by_cases h1:t < args.length
  ·rw [dif_pos (by omega)]
   have hlen:=hv.length
   have:({tmps:=vals.toArray ++ Array.replicate (n - vals.toArray.size) undef,defers:=[]}:Act).tmps.getD t undef=vals[t]'(by omega):=by
    rw [Array.getD_eq_getD_getElem?,Array.getElem?_append_left (by simpa using (by omega:t < vals.length))]
    simp [List.getElem?_eq_getElem (show t < vals.length by omega)]
   rw [this]
   exact hv.get t h1 (by omega)
  ·rw [dif_neg (by omega),JY];exact .undef _
 ·simp;omega
section
variable {P:Program} {ops:Array Oper} {x y:Nat}
theorem tU (i:Nat):(fw x y ops)[i]?=(ops[i]?).map fun o=>if i=y then {o with after:=o.after.push ⟨x,.data⟩} else o:=by
 unfold fw
 rw [Array.getElem?_modify]
 by_cases h:y=i
 ·subst h;simp
 ·rw [if_neg h]
  have:¬ i=y:=fun e=>h e.symm
  simp [this]
theorem vQ:(fw x y ops).size=ops.size:=by simp [fw]
theorem JZ (j:Nat):((fw x y ops)[j]?).bind (·.dst)=(ops[j]?).bind (·.dst):=by
 rw [tU]
 cases ops[j]? with
 | none=>rfl
 | some o=>
  show (if j=y then _ else o:Oper).dst=o.dst
  split<;>rfl
theorem xu (t:Array Value):yielded (fw x y ops) t=yielded ops t:=by
 funext j
 unfold yielded
 rw [JZ]
theorem lJ (Q:Exit→Act→World→Prop) (i:Nat) (K:Act→World→Prop) (a:Act) (w:World):wpOp P (fw x y ops) Q i K a w=wpOp P ops Q i K a w:=by
 unfold wpOp
 rw [tU,xu]
 cases ops[i]? with
 | none=>rfl
 | some o=>
  show (if Region.wanted (if i=y then _ else o:Oper) _ then (if i=y then _ else o:Oper).wp P a w K Q∨((if i=y then _ else o:Oper).asks P a w∧LetsOut Q) else K (a.put (if i=y then _ else o:Oper).dst undef) w)=_
  by_cases h:i=y
  ·rw [if_pos h];rfl
  ·rw [if_neg h]
theorem dX {L:Array Bool} (i:Nat):i∈Region.ready .any (fw x y ops) L↔i∈Region.ready .any ops L∧(i=y→L.getD x false=true):=by
 unfold Region.ready
 rw [List.mem_filter,List.mem_filter,vQ,tU]
 cases ho:ops[i]? with
 | none=>simp
 | some o=>
  by_cases h:i=y
  ·subst h
   have hb:Region.binds .any ⟨x,.data⟩=true:=rfl
   simp [hb,and_assoc]
  ·simp [h]
def Flat (P:Program) (o:Oper):Prop:=∀(a:Act) (w:World) (n:Next) (w':World),(execOp a.eval o).run P w=.ok n w'→(∃v,n=.value v)∨n=.skip
variable {Q Q1 Q2:Exit→Act→World→Prop}
theorem Ka {o:Oper} (hf:Flat P o) {a:Act} {w:World} {K1 K2 K:Act→World→Prop} (hK:∀a w,K1 a w→K2 a w→K a w) (hQ:∀e a w,Q1 e a w→Q e a w) (h1:o.wp P a w K1 Q1) (h2:o.wp P a w K2 Q2):o.wp P a w K Q:=by
 unfold Oper.wp at *
 cases hr:(execOp a.eval o).run P w with
 | ok n w'=>
  rw [hr] at h1 h2
  rcases hf a w n w' hr with ⟨v,rfl⟩|rfl
  ·exact hK _ _ h1 h2
  ·exact hK _ _ h1 h2
 | halt s w'=>
  rw [hr] at h1 h2
  cases s<;>simp only [Oper.upon] at h1 h2 ⊢<;>exact hQ _ _ _ h1
theorem Kb (hf:∀(i:Nat) (o:Oper),ops[i]?=some o→Flat P o) (hl1:¬ LetsOut Q1) (hl2:¬ LetsOut Q2) {i:Nat} {a:Act} {w:World} {K1 K2 K:Act→World→Prop} (hK:∀a w,K1 a w→K2 a w→K a w) (hQ:∀e a w,Q1 e a w→Q e a w)
  (h1:wpOp P ops Q1 i K1 a w) (h2:wpOp P ops Q2 i K2 a w):wpOp P ops Q i K a w:=by
 unfold wpOp at *
 cases ho:ops[i]? with
 | none=>rw [ho] at h1 h2;exact hK _ _ h1 h2
 | some o=>
  rw [ho] at h1 h2
  simp only at h1 h2 ⊢
  split
  ·rename_i hw
   rw [if_pos hw] at h1 h2
   rcases h1 with h1|h1
   ·rcases h2 with h2|h2
    ·exact .inl (Ka (hf i o ho) hK hQ h1 h2)
    ·exact absurd h2.2 hl2
   ·exact absurd h1.2 hl1
  ·rename_i hw
   rw [if_neg hw] at h1 h2
   exact hK _ _ h1 h2
theorem Kc (hQ:∀e a w,Q1 e a w→Q e a w) (h:LetsOut Q1):LetsOut Q:=let ⟨a,w,h⟩:=h;⟨a,w,hQ _ _ _ h⟩
theorem pI (hQ:∀e a w,Q1 e a w→Q e a w) (hf:∀(i:Nat) (o:Oper),ops[i]?=some o→Flat P o) {i:Nat} {a:Act} {w:World} {K1 K:Act→World→Prop} (hK:∀a w,K1 a w→K a w) (h1:wpOp P ops Q1 i K1 a w):wpOp P ops Q i K a w:=by
 unfold wpOp at *
 cases ho:ops[i]? with
 | none=>rw [ho] at h1;exact hK _ _ h1
 | some o=>
  rw [ho] at h1
  simp only at h1 ⊢
  split
  ·rename_i hw
   rw [if_pos hw] at h1
   rcases h1 with h1|h1
   ·exact .inl (Ka (hf i o ho) (fun a w h _=>hK a w h) hQ h1 h1)
   ·exact .inr ⟨h1.1,Kc hQ h1.2⟩
  ·rename_i hw
   rw [if_neg hw] at h1
   exact hK _ _ h1
theorem jH (hf:∀(i:Nat) (o:Oper),ops[i]?=some o→Flat P o) (hQ:∀e a w,Q1 e a w→Q e a w):∀(fuel:Nat) (L:Array Bool) (a:Act) (w:World),L.getD x false=true→wpAny P .any (fw x y ops) Q1 fuel L a w→wpAny P .any ops Q fuel L a w
 | 0,L,a,w,hx,h=>by
  have hr:Region.ready .any ops L=[]:=List.eq_nil_iff_forall_not_mem.2 fun j hj=>by
   have:j∈Region.ready .any (fw x y ops) L:=dX j |>.2 ⟨hj,fun _=>hx⟩
   rw [h.1] at this;cases this
  exact ⟨hr,hQ _ _ _ h.2⟩
 | fuel+1,L,a,w,hx,h=>by
  have hrd:∀j,j∈Region.ready .any ops L→j∈Region.ready .any (fw x y ops) L:=fun j hj=>dX j |>.2 ⟨hj,fun _=>hx⟩
  refine ⟨fun hr=>hQ _ _ _ (h.1 (List.eq_nil_iff_forall_not_mem.2 fun j hj=>?_)),fun i hi=>?_⟩
  ·have:=(dX j |>.1 hj).1
   rw [hr] at this;cases this
  ·have:=h.2 i (hrd i hi)
   rw [lJ] at this
   refine pI hQ hf (fun a w h=>jH hf hQ fuel _ a w ?_ h) this
   rw [Array.getD_eq_getD_getElem?] at hx ⊢
   rw [Array.getElem?_setIfInBounds]
   split
   ·rename_i e;subst e
    split
    ·rfl
    ·rename_i hlt
     rw [Array.getElem?_eq_none (by omega)] at hx
     cases hx
   ·exact hx
theorem vR (hf:∀(i:Nat) (o:Oper),ops[i]?=some o→Flat P o) (hl1:¬ LetsOut Q1) (hl2:¬ LetsOut Q2) (h1Q:∀e a w,Q1 e a w→Q e a w) (h2Q:∀e a w,Q2 e a w→Q e a w) :
  ∀(fuel:Nat) (L:Array Bool) (a:Act) (w:World),wpAny P .any (fw x y ops) Q1 fuel L a w→wpAny P .any (fw y x ops) Q2 fuel L a w→x≠y→(L.getD x false=false)→(L.getD y false=false)→L.size=ops.size→x < ops.size→y < ops.size→wpAny P .any ops Q fuel L a w
 | 0,L,a,w,h1,h2,hn,hx,hy,hs,hxs,hys=>by
  refine ⟨List.eq_nil_iff_forall_not_mem.2 fun j hj=>?_,h1Q _ _ _ h1.2⟩
  by_cases e:j=y
  ·have hjx:j≠x:=fun e2=>hn (e2.symm.trans e)
   have:j∈Region.ready .any (fw y x ops) L:=dX j |>.2 ⟨hj,fun e2=>absurd e2 hjx⟩
   rw [h2.1] at this;cases this
  ·have:j∈Region.ready .any (fw x y ops) L:=dX j |>.2 ⟨hj,fun e2=>absurd e2 e⟩
   rw [h1.1] at this;cases this
 | fuel+1,L,a,w,h1,h2,hn,hx,hy,hs,hxs,hys=>by
  have r1:∀j,j∈Region.ready .any ops L→j≠y→j∈Region.ready .any (fw x y ops) L:=fun j hj e=>dX j |>.2 ⟨hj,fun e2=>absurd e2 e⟩
  have r2:∀j,j∈Region.ready .any ops L→j≠x→j∈Region.ready .any (fw y x ops) L:=fun j hj e=>dX j |>.2 ⟨hj,fun e2=>absurd e2 e⟩
  refine ⟨fun hr=>h1Q _ _ _ (h1.1 (List.eq_nil_iff_forall_not_mem.2 fun j hj=>?_)),fun i hi=>?_⟩
  ·have:=(dX j |>.1 hj).1
   rw [hr] at this;cases this
  ·by_cases e:i=x
   ·subst e
    have:=h1.2 i (r1 i hi hn)
    rw [lJ] at this
    refine pI h1Q hf (fun a w h=>jH hf h1Q fuel _ a w ?_ h) this
    rw [Array.getD_eq_getD_getElem?,Array.getElem?_setIfInBounds,if_pos rfl,if_pos (by omega)];rfl
   ·by_cases e':i=y
    ·subst e'
     have:=h2.2 i (r2 i hi e)
     rw [lJ] at this
     refine pI h2Q hf (fun a w h=>jH hf h2Q fuel _ a w ?_ h) this
     rw [Array.getD_eq_getD_getElem?,Array.getElem?_setIfInBounds,if_pos rfl,if_pos (by omega)];rfl
    ·have g1:=h1.2 i (r1 i hi e')
     have g2:=h2.2 i (r2 i hi e)
     rw [lJ] at g1 g2
     refine Kb hf hl1 hl2 (fun a w k1 k2=>vR hf hl1 hl2 h1Q h2Q fuel _ a w k1 k2 hn ?_ ?_ (by simp [hs]) hxs hys) h1Q g1 g2
     ·rw [Array.getD_eq_getD_getElem?,Array.getElem?_setIfInBounds,if_neg e,←Array.getD_eq_getD_getElem?];exact hx
     ·rw [Array.getD_eq_getD_getElem?,Array.getElem?_setIfInBounds,if_neg e',←Array.getD_eq_getD_getElem?];exact hy
end
variable {P:Program}
theorem Kd {s:Sem Value} {w w':World} {n:Next} (h:(s >>= fun x=>pure (Next.value x):Sem Next).run P w=.ok n w'):(∃v,n=.value v)∨n=.skip:=by
 rw [Sem.run_bind] at h
 cases hs:s.run P w with
 | ok x w2=>rw [hs] at h;cases h;exact .inl ⟨_,rfl⟩
 | halt q w2=>rw [hs] at h;cases h
theorem TS {s:Sem Unit} {w w':World} {n:Next} (h:(s >>= fun _=>pure Next.skip:Sem Next).run P w=.ok n w'):(∃v,n=.value v)∨n=.skip:=by
 rw [Sem.run_bind] at h
 cases hs:s.run P w with
 | ok x w2=>rw [hs] at h;cases h;exact .inr rfl
 | halt q w2=>rw [hs] at h;cases h
theorem qF {α β:Type} {s:Sem α} {f:α→Sem β} {w w':World} {n:β} (h:(s >>= f).run P w=.ok n w'):∃x w2,s.run P w=.ok x w2∧(f x).run P w2=.ok n w':=by
 rw [Sem.run_bind] at h
 cases hs:s.run P w with
 | ok x w2=>rw [hs] at h;exact ⟨x,w2,rfl,h⟩
 | halt q w2=>rw [hs] at h;cases h
theorem Mz {o:Oper} (hf:wi o.op=true):Flat P o:=by
 intro a w n w' h
 unfold execOp at h
 cases ho:o.op with
 | move x=>rw [ho] at h;cases h;exact .inl ⟨_,rfl⟩
 | assign x=>rw [ho] at h;cases h;exact .inl ⟨_,rfl⟩
 | pick c x y=>
  rw [ho] at h
  have h:((asBool (a.eval c)) >>= fun b=>pure (Next.value (if b then a.eval x else a.eval y)):Sem Next).run P w=.ok n w':=h
  rw [Sem.run_bind] at h
  cases hs:(asBool (a.eval c)).run P w with
  | ok x w2=>rw [hs] at h;cases h;exact .inl ⟨_,rfl⟩
  | halt q w2=>rw [hs] at h;cases h
 | nilCheck x=>
  rw [ho] at h
  simp only at h
  split at h
  ·cases h
  ·cases h
  ·cases h
  ·split at h
   ·cases h
   ·obtain ⟨_,_,_,h⟩:=qF h
    obtain ⟨_,_,_,h⟩:=qF h
    split at h
    ·obtain ⟨_,_,h1,_⟩:=qF h
     cases h1
    ·first
      | (cases h;exact .inl ⟨_,rfl⟩)
      | (obtain ⟨_,_,_,h⟩:=qF h;cases h;exact .inl ⟨_,rfl⟩)
   ·cases h;exact .inl ⟨_,rfl⟩
  ·cases h;exact .inl ⟨_,rfl⟩
 | call c=>
  rw [ho] at hf h
  simp only [wi] at hf
  split at hf
  ·rename_i b hb
   have h:(resolve a.eval c o.type >>= fun d=>invoke d.target d.args).run P w=.ok n w':=h
   unfold resolve at h
   simp only [hb] at h
   have h:(builtin b c.argTypes o.type (c.args.map fun|.const _=>true|_=>false) (c.args.map a.eval)).run P w=.ok n w':=h
   unfold builtin at h
   cases b<;>first|exact Kd h|(exact absurd hf (by decide))|cases h
  ·cases hf
 | go c=>rw [ho] at hf;cases hf
 | defer c=>rw [ho] at hf;cases hf
 | send c x=>rw [ho] at hf;cases hf
 | recv c x y=>rw [ho] at hf;cases hf
 | select c x=>rw [ho] at hf;cases hf
 | panic x=>rw [ho] at hf;cases hf
 | _=>rw [ho] at h;first|exact Kd h|exact TS h
variable {P:Program} {φ φ':aJ} {h h' h2:Hp} {w w':World} {v:AV} {r r2:A2} {a:Act} {cv:Value} {n:Nat} {G:Gl} [NB G] {names:List String} {p:Pg} {run:gJ}
def nr (P:Program) (G:Gl) (names:List String) (f:Nat) (body:AC) (res:List Rs):Prop:=∃fn body0,P.funcs[f]?=some fn∧cF P G names fn=.mk body0 res∧Impl body0 body
def gh (P:Program) (G:Gl) (k:PK) (f:Nat):Prop:=∀(φ:aJ) (h:Hp) (w:World) (args:List AV) (vals:List Value),mD G φ→HR φ h w→bX φ args vals→(dg k args h).Safe→
 Calls P f vals.toArray w (dz φ h w (dg k args h))
def iH (P:Program) (G:Gl) (k:PK) (f:Nat):Prop:=∀(φ:aJ) (h:Hp) (w:World) (args:List AV) (vals:List Value),mD G φ→HR φ h w→bX φ args vals→(dg k args h).Safe→
 ∃cv w',(callFunc f vals.toArray).run P w=.ok (.value cv) w'∧dz φ h w (dg k args h) (.returned cv) w'
structure Env (P:Program) (G:Gl) (names:List String) (p:Pg):Prop where
 mixed:P.follows .mixedOrders=true
 ms:mN P names p.ms
 fs:∀f,match cM f p.fs with
  | .none=>True
  | .mk body res=>nr P G names f body res
  | .oU k body res=>nr P G names f body res∧gh P G k f
  | .Ek body res=>nr P G names f body res
  | .ext k=>iH P G k f
def Xy (P:Program) (G:Gl) (names:List String) (p:Pg):Prop:=∀(n:Nat) (run:gJ),dc P G p run→∀(id:Nat) (ops:Array Oper) (l:List (Nat×Bk)) (kf:A2→Hp→RS) (r:A2) (h:Hp) (φ:aJ) (a:Act) (w:World),dt P G n names ops l=true→St n G φ r h a w→
 (nA (aD p run) (aI p run) kf (l.map fun (i,b)=>.mk b (fJ P G n names ops (ops.getD i default))) r h h []).Safe→(Code.region id ops true).wp P (fun e a' w'=>e=.normal∧∃r' h' φ',
  nA (aD p run) (aI p run) kf (l.map fun (i,b)=>.mk b (fJ P G n names ops (ops.getD i default))) r h h []=kf r' h'∧St n G φ' r' h' a' w'∧Step φ h w φ' h' w') a w
def NL (P:Program) (G:Gl) (names:List String) (p:Pg):Prop:=∀(n:Nat) (run:gJ),dc P G p run→∀(ops:Array Oper) (l:List (Nat×Bk)) (kf:A2→Hp→RS) (r:A2) (h:Hp) (φ:aJ) (a:Act) (w:World) (Q:Exit→Act→World→Prop),dt P G n names ops l=true→St n G φ r h a w→
 (nA (aD p run) (aI p run) kf (l.map fun (i,b)=>.mk b (fJ P G n names ops (ops.getD i default))) r h h []).Safe→(∀r' h' φ' a' w',
  nA (aD p run) (aI p run) kf (l.map fun (i,b)=>.mk b (fJ P G n names ops (ops.getD i default))) r h h []=kf r' h'→St n G φ' r' h' a' w'→Step φ h w φ' h' w'→Q .normal a' w')→wpAny P .any ops Q ops.size (Array.replicate ops.size false) a {w with drawn:=w.drawn+1}
noncomputable def gS (P:Program) (G:Gl) (n:Nat) (names:List String) (ops:Array Oper) (l:List (Nat×Bk)):List GI:=l.map fun (i,_)=>fJ P G n names ops (ops.getD i default)
def Xs (P:Program) (G:Gl) (names:List String) (p:Pg):Prop:=∀(n:Nat) (run:gJ),dc P G p run→∀(ops:Array Oper) (l:List (Nat×Bk)) (kf:A2→Hp→RS) (r:A2) (h:Hp) (φ:aJ) (a:Act) (w:World) (Q:Exit→Act→World→Prop),dt P G n names ops l=true→wj l=true→St n G φ r h a w→
 (ew (aD p run) (aI p run) kf (gS P G n names ops l) r h).Safe→(∀r' h' φ' a' w',(∀z,(kf r' h').aG z→(ew (aD p run) (aI p run) kf (gS P G n names ops l) r h).aG z)→St n G φ' r' h' a' w'→Step φ h w φ' h' w'→Q .normal a' w')→
 wpAny P .any ops Q ops.size (Array.replicate ops.size false) a {w with drawn:=w.drawn+1}
def Xz (P:Program) (G:Gl) (names:List String) (p:Pg):Prop:=∀(n:Nat) (run:gJ),dc P G p run→∀(id:Nat) (ops:Array Oper) (l:List (Nat×Bk)) (kf:A2→Hp→RS) (r:A2) (h:Hp) (φ:aJ) (a:Act) (w:World),dt P G n names ops l=true→wj l=true→St n G φ r h a w→
 (ew (aD p run) (aI p run) kf (gS P G n names ops l) r h).Safe→(Code.region id ops true).wp P (fun e a' w'=>e=.normal∧∃r' h' φ',
  (∀z,(kf r' h').aG z→(ew (aD p run) (aI p run) kf (gS P G n names ops l) r h).aG z)∧St n G φ' r' h' a' w'∧Step φ h w φ' h' w') a w
def xl (P:Program) (G:Gl) (names:List String) (p:Pg):Prop:=NL P G names p∧Xs P G names p
def TT (P:Program) (G:Gl) (names:List String) (p:Pg):Prop:=Xy P G names p∧Xz P G names p
theorem xl.toH (hm:P.follows .mixedOrders=true) (D:xl P G names p):TT P G names p:=
  ⟨fun n run CO _ ops l kf r h φ a w hd S hs=>wp_region_any hm (D.1 n run CO ops l kf r h φ a w _ hd S hs fun r' h' φ' _ _ e S' T=>⟨rfl,r',h',φ',e,S',T⟩),
   fun n run CO _ ops l kf r h φ a w hd h0 S hs=>wp_region_any hm (D.2 n run CO ops l kf r h φ a w _ hd h0 S hs fun r' h' φ' _ _ e S' T=>⟨rfl,r',h',φ',e,S',T⟩)⟩
theorem gT {bad:Array Oper→AC} (ops:Array Oper):(∃l,dt P G n names ops l=true∧fk P G bad n names ops=.iB (l.map fun (i,b)=>.mk b (fJ P G n names ops (ops.getD i default))))∨(∃l,dt P G n names ops l=true∧wj l=true∧fk P G bad n names ops=.ops (gS P G n names ops l))∨fk P G bad n names ops=bad ops:=by
 have key2:∀l,dt P G n names ops l=true→fk P G bad n names ops=zY P G n names ops l→(∃l,dt P G n names ops l=true∧fk P G bad n names ops=.iB (l.map fun (i,b)=>.mk b (fJ P G n names ops (ops.getD i default))))∨(∃l,dt P G n names ops l=true∧wj l=true∧fk P G bad n names ops=.ops (gS P G n names ops l))∨fk P G bad n names ops=bad ops:=fun l hl e=>by
  have hd:∀l,dt P G n names ops l=true→zY P G n names ops l=.iB (l.map fun (i,b)=>.mk b (fJ P G n names ops (ops.getD i default)))∨(wj l=true∧zY P G n names ops l=.ops (gS P G n names ops l)):=fun l hl=>by
   unfold zY
   split
   ·rename_i h;exact .inr ⟨h,rfl⟩
   ·exact .inl rfl
  rcases hd l hl with g|⟨g1,g2⟩
  ·exact .inl ⟨l,hl,e.trans g⟩
  ·exact .inr (.inl ⟨l,hl,g1,e.trans g2⟩)
 by_cases h0:dt P G n names ops (order P G 0 names ops)=true
 ·exact key2 _ h0 (by unfold fk;dsimp only;rw [if_pos h0])
 ·by_cases h1:dt P G n names ops (order P G 1 names ops)=true
  ·exact key2 _ h1 (by unfold fk;dsimp only;rw [if_neg h0,if_pos h1])
  ·by_cases h2:dt P G n names ops (order P G 2 names ops)=true
   ·exact key2 _ h2 (by unfold fk;dsimp only;rw [if_neg h0,if_neg h1,if_pos h2])
   ·exact .inr (.inr (by unfold fk;dsimp only;rw [if_neg h0,if_neg h1,if_neg h2]))
theorem jI {next:Array Oper→AC} (ops:Array Oper):(∃x y,(∀o,o∈ops.toList→wi o.op=true)∧x≠y∧x < ops.size∧y < ops.size∧kv P G next names ops=.alt (next (fw x y ops)) (next (fw y x ops)))∨∃k,kv P G next names ops=.bad k:=by
 unfold kv
 split
 ·rename_i x y _
  split
  ·rename_i h
   simp only [Bool.and_eq_true,bne_iff_ne,ne_eq,decide_eq_true_eq] at h
   obtain ⟨⟨⟨h1,h2⟩,h3⟩,h4⟩:=h
   refine .inl ⟨x,y,fun o ho=>?_,h2,h3,h4,rfl⟩
   obtain ⟨i,hi,rfl⟩:=List.getElem_of_mem ho
   have:=(Array.all_eq_true.1 h1) i (by simpa using hi)
   simpa using this
  ·exact .inr ⟨_,rfl⟩
 ·exact .inr ⟨_,rfl⟩
theorem gU (ops:Array Oper):qk P G n names ops=.ops (ops.toList.map fun o=>mw P G n names ops o)∨∃q,qk P G n names ops=.Rb q (ops.toList.map fun o=>mw P {G with b:=some q} n names ops o):=by
 unfold qk
 dsimp only
 split
 ·split
  ·exact .inr ⟨_,rfl⟩
  ·exact .inl rfl
 ·exact .inl rfl
theorem Bh (ops:Array Oper) (l:Nat):cR (qk P G n names ops) l=none:=by
 rcases gU (P:=P) (G:=G) (n:=n) (names:=names) ops with e|⟨q,e⟩<;>rw [e]<;>rfl
theorem aZ.lift {x x':RS} (hl:∀y,x.aG y→x'.aG y) {e:Exit} (hq:aZ n G φ h w x e a w'):aZ n G φ h w x' e a w':=
 let ⟨y,r',h',φ',h1,h2,h3,h4⟩:=hq;⟨y,r',h',φ',hl y h1,h2,h3,h4⟩
theorem oB (i:Nat) (c:Code):cC P G n names (.block i c)=.block i (cC P G n names c)∨cC P G n names (.block i c)=.join (.block i (cC P G n names c)):=by
 cases c with
 | loop b=>
  show (if hasNext b then AC.join (.block i (.loop (cC P G n names b))) else .block i (.loop (cC P G n names b)))=_∨(if hasNext b then AC.join (.block i (.loop (cC P G n names b))) else .block i (.loop (cC P G n names b)))=_
  split
  ·exact .inr rfl
  ·exact .inl rfl
 | _=>exact .inl rfl
theorem Bi {bad:Array Oper→AC} (hb:∀ops l,cR (bad ops) l=none) (ops:Array Oper) (l:Nat):cR (fk P G bad n names ops) l=none:=by
 rcases gT (P:=P) (G:=G) (n:=n) (names:=names) (bad:=bad) ops with ⟨_,_,e⟩|⟨_,_,_,e⟩|e
 ·rw [e];rfl
 ·rw [e];rfl
 ·rw [e];exact hb _ _
theorem Bj {next:Array Oper→AC} (ops:Array Oper) (l:Nat):cR (kv P G next names ops) l=none:=by
 unfold kv
 split
 ·split<;>rfl
 ·rfl
theorem Bl (ops:Array Oper) (l:Nat):cR (kz P G n names ops) l=none:=
 Bi (fun ops l=>Bj ops l) ops l
theorem tV (l:Nat):∀c:Code,cR (cC P G n names c) l=(findLabel c l).map (cC P G n names)
 | .seq a b=>by
  have ha:=tV l a
  have hb:=tV l b
  show (match cR (cC P G n names a) l with|some c=>some (AC.seq c (cC P G n names b))|none=>cR (cC P G n names b) l)=(match findLabel a l with|some rest=>some (Code.seq rest b)|none=>findLabel b l).map (cC P G n names)
  rw [ha,hb]
  cases findLabel a l<;>rfl
 | .label l'=>by
  show (if Nat.beq l' l then some AC.skip else none)=(if l' == l then some Code.skip else none).map (cC P G n names)
  have:(l' == l)=Nat.beq l' l:=by
   rw [Bool.eq_iff_iff,beq_iff_eq];exact ⟨fun e=>e▸Nat.beq_refl _,fun e=>Nat.eq_of_beq_eq_true e⟩
  rw [this]
  cases Nat.beq l' l<;>rfl
 | .skip=>rfl
 | .region _ ops false=>Bh ops l
 | .region _ ops true=>Bl ops l
 | .cond c a b=>by simp only [cC];split<;>rfl
 | .block i a=>by
  rcases oB (P:=P) (G:=G) (n:=n) (names:=names) i a with e|e<;>rw [e]<;>rfl
 | .loop a=>rfl
 | .rangeFunc ..=>rfl
 | .exit _=>rfl
 | .scope a=>rfl
 | .goto _=>rfl
 | .ret=>rfl
 | .refuse _=>rfl
theorem gV (l:Nat):∀{a:AC},pP a=true→cR a l=none
 | .seq a b,h=>by
  simp only [pP,Bool.and_eq_true] at h
  simp only [cR,gV l h.1,gV l h.2]
 | .skip,_=>rfl
 | .ops _,_=>rfl
 | .iB _,_=>rfl
 | .cond ..,_=>rfl
 | .block ..,_=>rfl
 | .loop _,_=>rfl
 | .scope _,_=>rfl
 | .sat ..,_=>rfl
 | .exit _,_=>rfl
 | .goto _,_=>rfl
 | .label _,h=>by cases h
 | .ret,_=>rfl
 | .join _,_=>rfl
 | .bad _,_=>rfl
 | .ah ..,h=>by cases h
 | .alt ..,_=>rfl
 | .Rb ..,_=>rfl
theorem tW (l:Nat):∀{k:Nat} {c:AC},kA k c=true→cR c l=cR (jr k c) l
 | 0,c,_=>rfl
 | k+1,c,h=>by
  cases c with
  | seq a b=>
   simp only [kA,Bool.and_eq_true] at h
   simp only [cR,gV l h.1,jr]
   exact tW l h.2
  | _=>exact gV l h
theorem tY (l:Nat) {a a':AC} (h:Impl a a'):(cR a l=none∧cR a' l=none)∨∃c c',cR a l=some c∧cR a' l=some c'∧Impl c c':=by
 induction h with
 | refl c=>
  cases hc:cR c l with
  | none=>exact .inl ⟨rfl,rfl⟩
  | some d=>exact .inr ⟨d,d,rfl,rfl,.refl d⟩
 | @seq a a' b b' ha hb iha ihb=>
  simp only [cR]
  rcases iha with ⟨e1,e2⟩|⟨c,c',e1,e2,e3⟩
  ·simp only [e1,e2];exact ihb
  ·simp only [e1,e2];exact .inr ⟨_,_,rfl,rfl,.seq e3 hb⟩
 | cond=>exact .inl ⟨rfl,rfl⟩
 | block=>exact .inl ⟨rfl,rfl⟩
 | loop=>exact .inl ⟨rfl,rfl⟩
 | scope=>exact .inl ⟨rfl,rfl⟩
 | join=>exact .inl ⟨rfl,rfl⟩
 | Yp=>exact .inl ⟨rfl,rfl⟩
 | bad n hn=>exact .inl ⟨gV l hn,rfl⟩
 | ah k Lin L Lr Lx hn he hx ih=>
  rw [tW l hn]
  exact ih
def XA (c x:AC):Prop:=match c with
 | .seq a b=>∃a' b',x=.seq a' b'∧Impl a a'∧Impl b b'
 | .cond o a b=>∃a' b',x=.cond o a' b'∧Impl a a'∧Impl b b'
 | .block i a=>∃a',x=.block i a'∧Impl a a'
 | .loop a=>∃a',x=.loop a'∧Impl a a'
 | .scope a=>∃a',x=.scope a'∧Impl a a'
 | .join a=>x=.join a∨(∃i b b',a=.block i (.loop b)∧x=.join (.block i (.loop b'))∧Impl b b')∨∃i b b',a=.block i b∧x=.block i b'∧Impl b b'
 | c=>x=c
theorem Bm {c x:AC} (h:Impl c x):(∃k Lin L Lr Lx y,x=.ah (sq c k Lin L Lr Lx) y∧kA k c=true∧Impl (jr k c) y)∨(∃n,x=.bad n)∨XA c x:=by
 cases h with
 | refl=>
  right;right
  cases c<;>first
   | exact ⟨_,_,rfl,.refl _,.refl _⟩
   | exact ⟨_,rfl,.refl _⟩
   | exact .inl rfl
   | rfl
 | seq ha hb=>exact .inr (.inr ⟨_,_,rfl,ha,hb⟩)
 | cond ha hb=>exact .inr (.inr ⟨_,_,rfl,ha,hb⟩)
 | block ha=>exact .inr (.inr ⟨_,rfl,ha⟩)
 | loop ha=>exact .inr (.inr ⟨_,rfl,ha⟩)
 | scope ha=>exact .inr (.inr ⟨_,rfl,ha⟩)
 | join ha=>exact .inr (.inr (.inr (.inl ⟨_,_,_,rfl,rfl,ha⟩)))
 | Yp ha=>exact .inr (.inr (.inr (.inr ⟨_,_,_,rfl,rfl,ha⟩)))
 | bad n hn=>exact .inr (.inl ⟨n,rfl⟩)
 | ah k Lin L Lr Lx hn he hx=>subst he;exact .inl ⟨k,Lin,L,Lr,Lx,_,rfl,hn,hx⟩
structure cI (P:Program) (G:Gl) (names:List String) (p:Pg) (m:Nat):Prop where
 code:∀(n:Nat) (c:Code) (x:AC) (r:A2) (h:Hp) (φ:aJ) (a:Act) (w:World),Impl (cC P G n names c) x→St n G φ r h a w→(exec p m x r h).Safe→c.wp P (aZ n G φ h w (exec p m x r h)) a w
 block:∀(n i:Nat) (c:Code) (x:AC) (r:A2) (h:Hp) (φ:aJ) (a:Act) (w:World),Impl (cC P G n names c) x→St n G φ r h a w→(exec p m (.block i x) r h).Safe→(Code.block i c).wp P (aZ n G φ h w (exec p m (.block i x) r h)) a w
 loop:∀(n:Nat) (c:Code) (x:AC) (r:A2) (h:Hp) (φ:aJ) (a:Act) (w:World),Impl (cC P G n names c) x→St n G φ r h a w→(exec p m (.loop x) r h).Safe→nH P c (aZ n G φ h w (exec p m (.loop x) r h)) a w
 sat:∀(n:Nat) (s c:Code) (x y:AC) (r:A2) (h:Hp) (φ:aJ) (a:Act) (w:World),Impl (cC P G n names s) x→Impl (cC P G n names c) y→St n G φ r h a w→(exec p m (.sat x y) r h).Safe→xq P s c (aZ n G φ h w (exec p m (.sat x y) r h)) a w
theorem jJ {res:List Rs} {z:RT}:∀{x y:RS},x.aG y→(eC res y).aG z→(eC res x).aG z
 | _,_,.nm ..,g=>g
 | _,_,.ex ..,g=>g
 | _,_,.go ..,g=>g
 | _,_,.ret ..,g=>g
 | _,_,.err ..,g=>g
 | _,_,.ch n k c y hc hl,g=>.ch n _ c _ hc (jJ hl g)
theorem fH {res:List Rs} {x y:RS} (hs:(eC res x).Safe) (hl:x.aG y):(eC res y).Safe:=fun n hn=>hs n (jJ hl hn)
theorem zB {f:Nat} {body:AC} {res:List Rs} {args:List AV} (e:cM f p.fs=.mk body res):aD p run f args h=(@Bool.rec (fun _=>RT) (.err 207) (eC res (run body (dI args 0 .nil) h)) (Nat.ble args.length 256)):=by
 show (AF.rec _ _ _ _ _ (cM f p.fs):RT)=_
 rw [e]
theorem ux {f:Nat} {k:PK} {body:AC} {res:List Rs} {args:List AV} (e:cM f p.fs=.oU k body res):aD p run f args h=(RT.rec (fun v h=>RT.ok v h) (fun _=>@Bool.rec (fun _=>RT) (.err 207) (eC res (run body (dI args 0 .nil) h)) (Nat.ble args.length 256)) (fun n k _=>.ch n k) (dg k args h):RT):=by
 show (AF.rec _ _ _ _ _ (cM f p.fs):RT)=_
 rw [e]
theorem xv {f:Nat} {body:AC} {res:List Rs} {args:List AV} (e:cM f p.fs=.Ek body res):aD p run f args h=(@Bool.rec (fun _=>RT) (.err 207) (eC res (fS h (sW res (run body (dI args 0 .nil) (mark h))))) (Nat.ble args.length 256)):=by
 show (AF.rec _ _ _ _ _ (cM f p.fs):RT)=_
 rw [e]
theorem xw {f:Nat} {k:PK} {args:List AV} (e:cM f p.fs=.ext k):aD p run f args h=dg k args h:=by
 unfold aD;rw [e]
theorem lZ {f:Nat} {args:List AV} (e:cM f p.fs=.none):aD p run f args h=.err (Nat.add 1000 f):=by
 show (AF.rec _ _ _ _ _ (cM f p.fs):RT)=_
 rw [e]
theorem CM {m f:Nat} {body:AC} {res:List Rs} {args:List AV} {vals:List Value} (C:cI P G names p m) (F:nr P G names f body res) (hg:mD G φ) (H:HR φ h w) (hv:bX φ args vals)
  (hs:(@Bool.rec (fun _=>RT) (.err 207) (eC res (exec p m body (dI args 0 .nil) h)) (Nat.ble args.length 256)).Safe) :
  (∃fn c,P.funcs[f]?=some fn∧fn.name≠ "runtime.NumGoroutine" ∧fn.body=some c)∧Calls P f vals.toArray w (dz φ h w (@Bool.rec (fun _=>RT) (.err 207) (eC res (exec p m body (dI args 0 .nil) h)) (Nat.ble args.length 256))):=by
 cases hb:Nat.ble args.length 256 with
 | false=>rw [hb] at hs;exact (RT.Safe.err hs).elim
 | true=>
  rw [hb] at hs
  have hs:(eC res (exec p m body (dI args 0 .nil) h)).Safe:=hs
  have hl:=Nat.le_of_ble_eq_true hb
  obtain ⟨fn,body0,hf,hc,hI⟩:=F
  unfold cF at hc
  split at hc
  ·rename_i c rs hbody hrs
   split at hc
   ·cases hc
   ·rename_i hname
    cases hc
    refine ⟨⟨fn,c,hf,by simpa using hname,hbody⟩,?_⟩
    have S:=St.start H hv hg hl fn.ntmps
    have hxs:(exec p m body (dI args 0 .nil) h).Safe:=by
     intro j hj
     have:=fH hs hj
     exact RT.Safe.err (n:=j) this
    refine calls_of_wp hf hbody (wp_mono (C.code _ c body _ h φ _ w hI S hxs) ?_)
    rintro e a' w' ⟨y,r',h',φ',hy,he,S',T⟩
    have hsy:=fH hs hy
    have fin:∀r' h',y=.nm r' h'∨y=.ret r' h'→St fn.ntmps G φ' r' h' a' w'→Step φ h w φ' h' w'→a'.defers=[]∧∃v,(results fn a'.tmps).run P w'=.ok v w'∧dz φ h w (eC res (exec p m body (dI args 0 .nil) h)) (.returned v) w':=by
     intro r' h' hyy S' T
     have hr:eC res y=(Df res r' h').kr:=by rcases hyy with rfl|rfl<;>rfl
     rw [hr] at hsy
     obtain ⟨v,h2,hv2⟩:=gC hsy
     obtain ⟨e1,cv,e2,e3⟩:=gB S' hrs hv2
     subst e1
     refine ⟨S'.dJ,cv,e2,v,h2,cv,φ',jJ hy ?_,rfl,e3,S'.hr,T⟩
     rw [hr,hv2];exact .ok _ _
    cases he with
    | nm=>exact fin _ _ (.inl rfl) S' T
    | ret=>exact fin _ _ (.inr rfl) S' T
    | ex i=>exact (RT.Safe.err hsy).elim
    | go i=>exact (RT.Safe.err hsy).elim
  ·cases hc
theorem tZ (r:A2):∀l:List Rs,fW (vr l r) r
 | []=>fun a b=>.inr (by cases a<;>cases b<;>rfl)
 | s::l=>by
  have key:∀a b,fW (dj a b (ar a b r) (vr l r)) r:=fun a b c d=>by
   rw [dE]
   split
   ·rename_i e;obtain ⟨rfl,rfl⟩:=e;exact .inl rfl
   ·exact tZ r l c d
  cases s<;>exact key _ _
theorem jg {l:List Rs} {z:RS}:∀{x y:RS},x.aG y→(sW l y).aG z→(sW l x).aG z
 | _,_,.nm ..,g=>g
 | _,_,.ex ..,g=>g
 | _,_,.go ..,g=>g
 | _,_,.ret ..,g=>g
 | _,_,.err ..,g=>g
 | _,_,.ch n k c y hc hl,g=>.ch n _ c _ hc (jg hl g)
theorem Ed {l:List Rs} {x:RS} (hs:(sW l x).Safe):x.Safe:=fun n hn=>hs n (jg hn (.err n))
theorem Ke {m f:Nat} {body:AC} {res:List Rs} {args:List AV} {vals:List Value} (C:cI P G names p m) (F:nr P G names f body res) (hg:mD G φ) (H:HR φ h w) (hv:bX φ args vals)
  (hs:(@Bool.rec (fun _=>RT) (.err 207) (eC res (fS h (sW res (exec p m body (dI args 0 .nil) (mark h))))) (Nat.ble args.length 256)).Safe) :
  (∃fn c,P.funcs[f]?=some fn∧fn.name≠ "runtime.NumGoroutine" ∧fn.body=some c)∧Calls P f vals.toArray w (dz φ h w (@Bool.rec (fun _=>RT) (.err 207) (eC res (fS h (sW res (exec p m body (dI args 0 .nil) (mark h))))) (Nat.ble args.length 256))):=by
 cases hb:Nat.ble args.length 256 with
 | false=>rw [hb] at hs;exact (RT.Safe.err hs).elim
 | true=>
  rw [hb] at hs
  have hs:(eC res (fS h (sW res (exec p m body (dI args 0 .nil) (mark h))))).Safe:=hs
  have hl:=Nat.le_of_ble_eq_true hb
  obtain ⟨fn,body0,hf,hc,hI⟩:=F
  unfold cF at hc
  split at hc
  ·rename_i c rs hbody hrs
   split at hc
   ·cases hc
   ·rename_i hname
    cases hc
    refine ⟨⟨fn,c,hf,by simpa using hname,hbody⟩,?_⟩
    have S:=St.start H hv hg hl fn.ntmps
    have hjs:(fS h (sW res (exec p m body (dI args 0 .nil) (mark h)))).Safe:=by
     intro j hj
     have:=fH hs hj
     exact RT.Safe.err (n:=j) this
    obtain ⟨s1,s2⟩:=oA hjs
    refine calls_of_wp hf hbody (wp_mono (C.code _ c body _ (mark h) φ _ w hI S.mark (Ed s1)) ?_)
    rintro e a' w' ⟨y,r',h',φ',hy,he,S',T⟩
    have fin:(sW res y).aG (.nm (vr res r') h')→a'.defers=[]∧∃v,(results fn a'.tmps).run P w'=.ok v w'∧dz φ h w (eC res (fS h (sW res (exec p m body (dI args 0 .nil) (mark h))))) (.returned v) w':=by
     intro hyy
     obtain ⟨y2,r2,h2,q1,q2,q3,q4,q5⟩:=s2 _ (jg hy hyy) .normal (vr res r') h' (.nm _ _) T.fr
     cases q2
     have hsy:=fH hs q1
     have hr:eC res (.nm r2 h2)=(Df res r2 h2).kr:=rfl
     rw [hr] at hsy
     obtain ⟨v,h3,hv2⟩:=gC hsy
     have S2:=S'.less (q3.trans (tZ r' res)) q4
     obtain ⟨e1,cv,e2,e3⟩:=gB S2 hrs hv2
     subst e1
     refine ⟨S'.dJ,cv,e2,v,h3,cv,φ',jJ q1 ?_,rfl,e3,S2.hr,T.JW q4 q5⟩
     rw [hr,hv2];exact .ok _ _
    cases he with
    | nm=>exact fin (.nm _ _)
    | ret=>exact fin (.nm _ _)
    | ex i=>
     obtain ⟨y2,r2,h2,q1,q2,q3,q4,q5⟩:=s2 _ (jg hy (.ex _ _ _)) (.exit i) r' h' (.ex _ _ _) T.fr
     cases q2
     exact (RT.Safe.err (fH hs q1)).elim
    | go i=>
     obtain ⟨y2,r2,h2,q1,q2,q3,q4,q5⟩:=s2 _ (jg hy (.go _ _ _)) (.goto i) r' h' (.go _ _ _) T.fr
     cases q2
     exact (RT.Safe.err (fH hs q1)).elim
  ·cases hc
theorem ua {m:Nat} (E:Env P G names p) (C:cI P G names p m):dc P G p (exec p m):=by
 intro f args h φ w vals hg H hv hs
 have hF:=E.fs f
 cases hf:cM f p.fs with
 | none=>rw [lZ hf] at hs;exact (RT.Safe.err hs).elim
 | mk body res=>
  rw [hf] at hF
  rw [zB hf] at hs ⊢
  exact .inl (CM C hF hg H hv hs)
 | ext k=>
  rw [hf] at hF
  rw [xw hf] at hs ⊢
  exact .inr (hF φ h w args vals hg H hv hs)
 | Ek body res=>
  rw [hf] at hF
  rw [xv hf] at hs ⊢
  exact .inl (Ke C hF hg H hv hs)
 | oU k body res=>
  rw [hf] at hF
  obtain ⟨hF,hP⟩:=hF
  rw [ux hf] at hs ⊢
  have hex:∃fn c,P.funcs[f]?=some fn∧fn.name≠ "runtime.NumGoroutine" ∧fn.body=some c:=by
   obtain ⟨fn,body0,hfn,hc,hI⟩:=hF
   unfold cF at hc
   split at hc
   ·rename_i c rs hbody hrs
    split at hc
    ·cases hc
    ·rename_i hname
     exact ⟨fn,c,hfn,by simpa using hname,hbody⟩
   ·cases hc
  have:=hP φ h w args vals hg H hv
  cases hp:dg k args h with
  | err j=>
   rw [hp] at hs
   exact .inl (CM C hF hg H hv hs)
  | ok v h2=>
   rw [hp] at this
   exact .inl ⟨hex,this fun j hj=>by cases hj⟩
  | ch j g=>
   rw [hp] at this hs
   exact .inl ⟨hex,this hs⟩
section
variable {P:Program} {φ φ' φ₀:aJ} {h h' h2 h₀:Hp} {w w' w₀:World} {v:AV} {r r2:A2} {a:Act} {cv:Value} {n:Nat} {G:Gl} [NB G] {names:List String} {p:Pg} {run:gJ} {ops:Array Oper}
theorem zD (i:DI) (k:DK) (r:A2) (h g:Hp) (hs:List Hp):i.cL (aD p run) (aI p run) k r h g hs=i.exec p run k r h g hs:=by
 cases i with
 | mk b y=>
  cases y with
  | o d i=>cases i<;>rfl
  | g x y w d i=>cases i<;>rfl
theorem vS:∀(l:List DI),sX p run l=nA (aD p run) (aI p run) (fun r h=>.nm r h) l
 | []=>rfl
 | i::l=>by
  funext r h g hs
  show i.exec p run (sX p run l) r h g hs=i.cL (aD p run) (aI p run) (nA (aD p run) (aI p run) _ l) r h g hs
  rw [zD,vS l]
theorem vT:∀(l:List GI),eY p run l=ew (aD p run) (aI p run) (fun r h=>.nm r h) l
 | []=>rfl
 | i::l=>by
  funext r h
  show i.exec p run (eY p run l) r h=i.cL (aD p run) (aI p run) (ew (aD p run) (aI p run) _ l) r h
  rw [vT l]
  cases i with
  | o d i=>cases i<;>rfl
  | g x y w d i=>cases i<;>rfl
def Sub (y x:RS):Prop:=∀z,y.aG z→x.aG z
theorem Sub.safe {x y:RS} (s:Sub y x) (h:x.Safe):y.Safe:=fun n hn=>h n (s _ hn)
def Kt.at (K:Kt):Exit→A2→Hp→RS→Prop
 | .normal,r,h,x=>Sub (K.n r h) x
 | .exit i,r,h,x=>Sub (K.e i r h) x
 | .goto l,r,h,x=>Sub (K.g l r h) x
 | .ret,r,h,x=>Sub (K.r r h) x
 | _,_,_,_=>False
theorem Kt.MA {K:Kt} {e:Exit} {x y:RS} (s:Sub x y) (h:K.at e r h2 x):K.at e r h2 y:=by
 cases e with
 | normal=>exact fun z hz=>s z (h z hz)
 | exit i=>exact fun z hz=>s z (h z hz)
 | goto i=>exact fun z hz=>s z (h z hz)
 | ret=>exact fun z hz=>s z (h z hz)
 | panic c=>exact h
 | outgrown=>exact h
def ma (n:Nat) (G:Gl) (φ:aJ) (h:Hp) (w:World) (K:Kt) (x:RS) (e:Exit) (a':Act) (w':World):Prop:=
 ∃r' h' φ',St n G φ' r' h' a' w'∧Step φ h w φ' h' w'∧K.at e r' h' x
theorem zE (i:AI) (d:aH) (k:A2→Hp→RS) (r:A2) (h:Hp):i.cL (aD p run) (aI p run) d k r h=i.exec p run d k r h:=by cases i<;>rfl
theorem tK (i:GI) (k:A2→Hp→RS) (r:A2) (h:Hp):i.cL (aD p run) (aI p run) k r h=i.exec p run k r h:=by
 cases i with
 | o d i=>exact zE i d k r h
 | g x y w d i=>
  show AV.bH (gb w (ar x y r)) (fun t=>@Bool.rec (fun _=>RS) (k (bL d cA r) h) (i.cL (aD p run) (aI p run) d k r h) (eH t w)) (.err 210)=AV.bH (gb w (ar x y r)) (kK d k r h i p run w) (.err 210)
  rw [zE];rfl
theorem CN {kf:A2→Hp→RS} (M:mN P names p.ms) (CO:dc P G p run) {Q:Exit→Act→World→Prop}:∀(os pre:List Oper) (r:A2) (h:Hp) (φ:aJ) (a:Act) (w:World),ops.toList=pre ++ os→St n G φ r h a w→
  (ew (aD p run) (aI p run) kf (os.map fun o=>mw P G n names ops o) r h).Safe→
  (∀r' h' φ' a' w',Sub (kf r' h') (ew (aD p run) (aI p run) kf (os.map fun o=>mw P G n names ops o) r h)→St n G φ' r' h' a' w'→Step φ h w φ' h' w'→Q .normal a' w')→
  wpOps P ops Q (List.range' pre.length os.length) a w
 | [],pre,r,h,φ,a,w,_,S,_,hQ=>hQ r h φ a w (fun _ hz=>hz) S (.refl _ _ _)
 | o::os,pre,r,h,φ,a,w,e,S,hs,hQ=>by
  have hoi:ops[pre.length]?=some o:=by rw [←Array.getElem?_toList,e];simp
  rw [List.length_cons,List.range'_succ,wpOps_cons]
  have e0:ew (aD p run) (aI p run) kf ((o::os).map fun o=>mw P G n names ops o) r h=(mw P G n names ops o).exec p run (ew (aD p run) (aI p run) kf (os.map fun o=>mw P G n names ops o)) r h:=tK _ _ _ _
  rw [e0] at hs hQ
  refine NP M CO S hoi hs fun r' h' φ' a' w' s1 s2 S' T=>?_
  have:=CN M CO os (pre ++ [o]) r' h' φ' a' w' (by rw [e];simp) S' s1 (Q:=Q) fun r'' h'' φ'' a'' w'' hl S'' T'=>hQ r'' h'' φ'' a'' w'' (fun z hz=>s2 _ (hl z hz)) S'' (T.trans T')
  simpa using this
theorem Kf (M:mN P names p.ms) (D:TT P G names p) (CO:dc P G p run):∀(c:Code) (K:Kt) (r:A2) (h:Hp) (φ:aJ) (a:Act) (w:World),St n G φ r h a w→(den (aD p run) (aI p run) (cC P G n names c) K r h).Safe→
  c.wp P (ma n G φ h w K (den (aD p run) (aI p run) (cC P G n names c) K r h)) a w:=by
 intro c
 induction c with
 | skip=>exact fun K r h φ a w S _=>wp_skip ⟨r,h,φ,S,.refl _ _ _,fun _ hz=>hz⟩
 | region id ops d=>
  intro K r h φ a w S hs
  cases d with
  | false=>
   have hs:(den (aD p run) (aI p run) (qk P G n names ops) K r h).Safe:=hs
   show (Code.region id ops false).wp P (ma n G φ h w K (den (aD p run) (aI p run) (qk P G n names ops) K r h)) a w
   rcases gU (P:=P) (G:=G) (n:=n) (names:=names) ops with e|⟨q,e⟩
   case inr=>rw [e] at hs;exact (RS.Safe.err hs).elim
   rw [e] at hs ⊢
   have hs:(ew (aD p run) (aI p run) K.n (ops.toList.map fun o=>mw P G n names ops o) r h).Safe:=hs
   show (Code.region id ops false).wp P (ma n G φ h w K (ew (aD p run) (aI p run) K.n (ops.toList.map fun o=>mw P G n names ops o) r h)) a w
   refine wp_region ?_
   have:=CN (Q:=ma n G φ h w K (ew (aD p run) (aI p run) K.n (ops.toList.map fun o=>mw P G n names ops o) r h)) M CO ops.toList [] r h φ a w (by simp) S hs (fun r' h' φ' a' w' hl S' T=>⟨r',h',φ',S',T,hl⟩)
   rw [List.range_eq_range']
   show wpOps P ops (ma n G φ h w K (ew (aD p run) (aI p run) K.n (ops.toList.map fun o=>mw P G n names ops o) r h)) (List.range' 0 ops.size) a w
   simpa using this
  | true=>
   have key:∀l,dt P G n names ops l=true→(nA (aD p run) (aI p run) K.n (l.map fun (i,b)=>.mk b (fJ P G n names ops (ops.getD i default))) r h h []).Safe→
     (Code.region id ops true).wp P (ma n G φ h w K (nA (aD p run) (aI p run) K.n (l.map fun (i,b)=>.mk b (fJ P G n names ops (ops.getD i default))) r h h [])) a w:=fun l hl hs=>by
    refine wp_mono (D.1 n run CO id ops l K.n r h φ a w hl S hs) ?_
    rintro e a' w' ⟨rfl,r',h',φ',e1,S',T⟩
    refine ⟨r',h',φ',S',T,?_⟩
    rw [e1];exact fun _ hz=>hz
   have hs:(den (aD p run) (aI p run) (kz P G n names ops) K r h).Safe:=hs
   show (Code.region id ops true).wp P (ma n G φ h w K (den (aD p run) (aI p run) (kz P G n names ops) K r h)) a w
   rcases gT (P:=P) (G:=G) (n:=n) (names:=names) (bad:=kv P G (fk P G (kv P G (fk P G (fun _=>.bad 404) n names) names) n names) names) ops with ⟨l,hl,e⟩|⟨l,hl,h0,e⟩|e
   ·have e:kz P G n names ops=_:=e
    rw [e] at hs ⊢
    exact key l hl hs
   ·have e:kz P G n names ops=_:=e
    rw [e] at hs ⊢
    have hs:(ew (aD p run) (aI p run) K.n (gS P G n names ops l) r h).Safe:=hs
    show (Code.region id ops true).wp P (ma n G φ h w K (ew (aD p run) (aI p run) K.n (gS P G n names ops l) r h)) a w
    refine wp_mono (D.2 n run CO id ops l K.n r h φ a w hl h0 S hs) ?_
    rintro e a' w' ⟨rfl,r',h',φ',e1,S',T⟩
    exact ⟨r',h',φ',S',T,e1⟩
   ·have e:kz P G n names ops=_:=e
    rw [e] at hs
    rcases jI (P:=P) (G:=G) (names:=names) (next:=fk P G (kv P G (fk P G (fun _=>.bad 404) n names) names) n names) ops with ⟨x,y,_,_,_,_,e2⟩|⟨k,e2⟩
    ·rw [e2] at hs;exact (RS.Safe.err hs).elim
    ·rw [e2] at hs;exact (RS.Safe.err hs).elim
 | seq x y ihx ihy=>
  intro K r h φ a w S hs
  refine wp_seq (wp_mono (ihx ⟨den (aD p run) (aI p run) (cC P G n names y) K,K.e,K.g,K.r⟩ r h φ a w S hs) ?_)
  rintro e a' w' ⟨r',h',φ',S',T,hk⟩
  cases e with
  | normal=>
   have hk:Sub (den (aD p run) (aI p run) (cC P G n names y) K r' h') _:=hk
   refine wp_mono (ihy K r' h' φ' a' w' S' (hk.safe hs)) ?_
   rintro e a'' w'' ⟨r'',h'',φ'',S'',T',hk'⟩
   exact ⟨r'',h'',φ'',S'',T.trans T',Kt.MA hk hk'⟩
  | exit i=>exact ⟨r',h',φ',S',T,hk⟩
  | goto i=>exact ⟨r',h',φ',S',T,hk⟩
  | ret=>exact ⟨r',h',φ',S',T,hk⟩
  | panic c=>exact hk.elim
  | outgrown=>exact hk.elim
 | cond c x y ihx ihy=>
  intro K r h φ a w S hs
  simp only [cC] at hs ⊢
  cases hc:cO G c with
  | none=>rw [hc] at hs;exact (RS.Safe.err hs).elim
  | some b=>
   rw [hc] at hs
   have hs:(AV.bH (ev b r) (fun t=>@Bool.rec (fun _=>RS) (den (aD p run) (aI p run) (cC P G n names y) K r h) (den (aD p run) (aI p run) (cC P G n names x) K r h) t) (.err 213)).Safe:=hs
   obtain ⟨t,ht,e⟩:=eO hs
   show (Code.cond c x y).wp P (ma n G φ h w K (AV.bH (ev b r) (fun t=>@Bool.rec (fun _=>RS) (den (aD p run) (aI p run) (cC P G n names y) K r h) (den (aD p run) (aI p run) (cC P G n names x) K r h) t) (.err 213))) a w
   rw [e] at hs ⊢
   have hv:=S.Ng hc
   rw [ht] at hv
   refine wp_cond hv.cQ ?_
   cases t with
   | true=>exact ihx K r h φ a w S hs
   | false=>exact ihy K r h φ a w S hs
 | block i c ih=>
  intro K r h φ a w S hs
  rcases oB (P:=P) (G:=G) (n:=n) (names:=names) i c with e|e<;>rw [e] at hs ⊢
  ·refine wp_block (wp_mono (ih ⟨K.n,fun j r h=>@Bool.rec (fun _=>RS) (K.e j r h) (K.n r h) (Nat.beq j i),K.g,K.r⟩ r h φ a w S hs) ?_)
   rintro e a' w' ⟨r',h',φ',S',T,hk⟩
   cases e with
   | normal=>exact ⟨r',h',φ',S',T,hk⟩
   | exit j=>
    have hk:Sub (@Bool.rec (fun _=>RS) (K.e j r' h') (K.n r' h') (Nat.beq j i)) _:=hk
    show if j=i then _ else _
    by_cases e:j=i
    ·rw [if_pos e]
     rw [e,Nat.beq_refl] at hk
     exact ⟨r',h',φ',S',T,hk⟩
    ·rw [if_neg e]
     have:Nat.beq j i=false:=by rw [←Bool.not_eq_true];exact fun g=>e (Nat.eq_of_beq_eq_true g)
     rw [this] at hk
     exact ⟨r',h',φ',S',T,hk⟩
   | goto i=>exact ⟨r',h',φ',S',T,hk⟩
   | ret=>exact ⟨r',h',φ',S',T,hk⟩
   | panic c=>exact hk.elim
   | outgrown=>exact hk.elim
  ·exact (RS.Safe.err hs).elim
 | loop c=>exact fun K r h φ a w S hs=>(RS.Safe.err hs).elim
 | rangeFunc f ps x y=>exact fun K r h φ a w S hs=>(RS.Safe.err hs).elim
 | exit i=>exact fun K r h φ a w S hs=>wp_exit ⟨r,h,φ,S,.refl _ _ _,fun _ hz=>hz⟩
 | scope c=>exact fun K r h φ a w S hs=>(RS.Safe.err hs).elim
 | label l=>exact fun K r h φ a w S hs=>(RS.Safe.err hs).elim
 | goto l=>exact fun K r h φ a w S hs=>wp_goto ⟨r,h,φ,S,.refl _ _ _,fun _ hz=>hz⟩
 | ret=>exact fun K r h φ a w S hs=>wp_ret ⟨r,h,φ,S,.refl _ _ _,fun _ hz=>hz⟩
 | refuse s=>exact fun K r h φ a w S hs=>(RS.Safe.err hs).elim
theorem vU {t:Nat} (ht:t < 256):∀{L:List Nat},ar (hi t) (lo t) (bF r L)=if t∈L then ar (hi t) (lo t) r else .undef
 | []=>by
  show ar (hi t) (lo t) .nil=_
  rw [if_neg (by simp)]
  show A1.get (lo t) (A2.get (hi t) .nil)=_
  rw [A2.get_nil,A1.get_nil]
 | s::L=>by
  have ih:=vU ht (L:=L)
  show ar (hi t) (lo t) (if s < 256 then dj (hi s) (lo s) (ar (hi s) (lo s) r) (bF r L) else bF r L)=_
  split
  ·rename_i hs
   rw [dE]
   by_cases e:t=s
   ·subst e;simp
   ·rw [if_neg (fun g=>e ((DJ ht hs).1 g)),ih]
    simp [e]
  ·rename_i hs
   have e:t≠s:=by omega
   rw [ih];simp [e]
theorem St.bF (S:St n G φ r h a w) (L:List Nat):St n G φ (bF r L) h a w:=⟨S.hr,fun t ht=>by
 rw [vU ht]
 split
 ·exact S.aF t ht
 ·exact .undef _,S.dJ,S.size,S.fy⟩
theorem Kg {L Lr:List Nat} {x:RS} {e:Exit} {a':Act} {w':World} (hd:ma n G φ h w (my L Lr) x e a' w'):aZ n G φ h w x e a' w':=by
 obtain ⟨r',h',φ',S,T,hk⟩:=hd
 cases e with
 | normal=>exact ⟨_,_,h',φ',hk _ (.nm _ _),.nm _ _,S.bF L,T⟩
 | exit i=>exact ⟨_,_,h',φ',hk _ (.ex _ _ _),.ex _ _ _,S.bF L,T⟩
 | goto i=>exact ⟨_,_,h',φ',hk _ (.go _ _ _),.go _ _ _,S.bF L,T⟩
 | ret=>exact ⟨_,_,h',φ',hk _ (.ret _ _),.ret _ _,S.bF Lr,T⟩
 | panic c=>exact hk.elim
 | outgrown=>exact hk.elim
theorem CP (M:mN P names p.ms) (D:TT P G names p) (CO:dc P G p run) {L Lr Lx:List Nat} {y:AC} (hT:∀(n:Nat) (c:Code) (r:A2) (h:Hp) (φ:aJ) (a:Act) (w:World),Impl (cC P G n names c) y→St n G φ r h a w→(run y r h).Safe→c.wp P (aZ n G φ h w (run y r h)) a w) :
  ∀(k:Nat) (c:Code) (r:A2) (h:Hp) (φ:aJ) (a:Act) (w:World),Impl (jr k (cC P G n names c)) y→St n G φ r h a w→
   (wk (aD p run) (aI p run) (my L Lr) (fun r h=>run y (bF r Lx) h) k (cC P G n names c) r h).Safe→
   c.wp P (aZ n G φ h w (wk (aD p run) (aI p run) (my L Lr) (fun r h=>run y (bF r Lx) h) k (cC P G n names c) r h)) a w
 | 0,c,r,h,φ,a,w,hI,S,hs=>hT n c (bF r Lx) h φ a w hI (S.bF Lx) hs
 | k+1,c,r,h,φ,a,w,hI,S,hs=>by
  by_cases hc:∃x y',c=.seq x y'
  ·obtain ⟨c1,c2,rfl⟩:=hc
   have hs:(den (aD p run) (aI p run) (cC P G n names c1) ⟨wk (aD p run) (aI p run) (my L Lr) (fun r h=>run y (bF r Lx) h) k (cC P G n names c2),(my L Lr).e,(my L Lr).g,(my L Lr).r⟩ r h).Safe:=hs
   refine wp_seq (wp_mono (Kf M D CO c1 _ r h φ a w S hs) ?_)
   rintro e a' w' ⟨r',h',φ',S',T,hk⟩
   cases e with
   | normal=>
    have hk:Sub (wk (aD p run) (aI p run) (my L Lr) (fun r h=>run y (bF r Lx) h) k (cC P G n names c2) r' h') _:=hk
    refine wp_mono (CP M D CO hT k c2 r' h' φ' a' w' hI S' (hk.safe hs)) ?_
    rintro e a'' w'' ⟨z,r'',h'',φ'',hl,he,S'',T'⟩
    exact ⟨z,r'',h'',φ'',hk _ hl,he,S'',T.trans T'⟩
   | exit i=>exact ⟨_,_,h',φ',hk _ (.ex _ _ _),.ex _ _ _,S'.bF L,T⟩
   | goto i=>exact ⟨_,_,h',φ',hk _ (.go _ _ _),.go _ _ _,S'.bF L,T⟩
   | ret=>exact ⟨_,_,h',φ',hk _ (.ret _ _),.ret _ _,S'.bF Lr,T⟩
   | panic c=>exact hk.elim
   | outgrown=>exact hk.elim
  ·have e0:wk (aD p run) (aI p run) (my L Lr) (fun r h=>run y (bF r Lx) h) (k+1) (cC P G n names c)=den (aD p run) (aI p run) (cC P G n names c) (my L Lr):=by
    cases c with
    | seq x y'=>exact absurd ⟨_,_,rfl⟩ hc
    | region id ops d=>
     cases d with
     | false=>
      show wk (aD p run) (aI p run) (my L Lr) (fun r h=>run y (bF r Lx) h) (k+1) (qk P G n names ops)=den (aD p run) (aI p run) (qk P G n names ops) (my L Lr)
      rcases gU (P:=P) (G:=G) (n:=n) (names:=names) ops with e|⟨q,e⟩<;>rw [e]<;>rfl
     | true=>
      show wk (aD p run) (aI p run) (my L Lr) (fun r h=>run y (bF r Lx) h) (k+1) (kz P G n names ops)=den (aD p run) (aI p run) (kz P G n names ops) (my L Lr)
      rcases gT (P:=P) (G:=G) (n:=n) (names:=names) (bad:=kv P G (fk P G (kv P G (fk P G (fun _=>.bad 404) n names) names) n names) names) ops with ⟨l,hl,e⟩|⟨l,hl,h0,e⟩|e
      ·have e:kz P G n names ops=_:=e
       rw [e];rfl
      ·have e:kz P G n names ops=_:=e
       rw [e];rfl
      ·have e:kz P G n names ops=_:=e
       rw [e]
       rcases jI (P:=P) (G:=G) (names:=names) (next:=fk P G (kv P G (fk P G (fun _=>.bad 404) n names) names) n names) ops with ⟨x,y,_,_,_,_,e2⟩|⟨k,e2⟩
       ·rw [e2];rfl
       ·rw [e2];rfl
    | cond c x y=>
     simp only [cC]
     split<;>rfl
    | block i c=>rcases oB (P:=P) (G:=G) (n:=n) (names:=names) i c with e|e<;>rw [e]<;>rfl
    | _=>rfl
   rw [e0] at hs ⊢
   exact wp_mono (Kf M D CO c _ r h φ a w S hs) fun e a' w' hd=>Kg hd
end
variable {P:Program} {φ φ':aJ} {h h' h2:Hp} {w w':World} {v:AV} {r r2:A2} {a:Act} {cv:Value} {n:Nat} {G:Gl} [NB G] {names:List String} {p:Pg} {run:gJ}
theorem aZ.cases {x:RS} {Q:Exit→Act→World→Prop} {w0:World}
  (hn:∀r' h' φ' a w,x.aG (.nm r' h')→St n G φ' r' h' a w→Step φ h w0 φ' h' w→Q .normal a w)
  (he:∀i r' h' φ' a w,x.aG (.ex i r' h')→St n G φ' r' h' a w→Step φ h w0 φ' h' w→Q (.exit i) a w)
  (hg:∀i r' h' φ' a w,x.aG (.go i r' h')→St n G φ' r' h' a w→Step φ h w0 φ' h' w→Q (.goto i) a w)
  (hr:∀r' h' φ' a w,x.aG (.ret r' h')→St n G φ' r' h' a w→Step φ h w0 φ' h' w→Q .ret a w) (e:Exit) (a:Act) (w:World) (hq:aZ n G φ h w0 x e a w):Q e a w:=by
 obtain ⟨y,r',h',φ',hl,hy,S,T⟩:=hq
 cases hy with
 | nm=>exact hn _ _ _ _ _ hl S T
 | ex i=>exact he _ _ _ _ _ _ hl S T
 | go i=>exact hg _ _ _ _ _ _ hl S T
 | ret=>exact hr _ _ _ _ _ hl S T
theorem aZ.then {x x':RS} {w0 w1:World} {φ0 φ1:aJ} {h0 h1:Hp} (T:Step φ0 h0 w0 φ1 h1 w1) (hl:∀y,x.aG y→x'.aG y) (e:Exit) (a:Act) (w:World) (hq:aZ n G φ1 h1 w1 x e a w):aZ n G φ0 h0 w0 x' e a w:=
 let ⟨y,r',h',φ',g1,g2,g3,g4⟩:=hq;⟨y,r',h',φ',hl y g1,g2,g3,T.trans g4⟩
theorem nH.mono {c:Code} {Q Q':Exit→Act→World→Prop} (hl:nH P c Q a w) (hq:∀e a w,Q e a w→Q' e a w):nH P c Q' a w:=fun b k cs=>
 let ⟨e,a',w',q,g⟩:=hl b k cs;⟨e,a',w',hq _ _ _ q,g⟩
theorem xq.mono {s c:Code} {Q Q':Exit→Act→World→Prop} (hl:xq P s c Q a w) (hq:∀e a w,Q e a w→Q' e a w):xq P s c Q' a w:=fun b k cs=>
 let ⟨e,a',w',q,g⟩:=hl b k cs;⟨e,a',w',hq _ _ _ q,g⟩
theorem zF {m:Nat} (C:cI P G names p m) (s c:Code) {x y:AC} (hI:Impl (cC P G n names s) x) (hJ:Impl (cC P G n names c) y) (S:St n G φ r h a w) (hs:(yS x y (exec p m) r h).Safe) :
  xq P s c (aZ n G φ h w (yS x y (exec p m) r h)) a w:=by
 unfold yS at hs ⊢
 refine Mt (wp_mono (C.code n c y r h φ a w hJ S (gw hs)) (aZ.cases ?_ ?_ ?_ ?_))
 ·exact fun r' h' φ' a' w' hl S' T=>⟨_,r',h',φ',cT hl rfl (.nm _ _),.nm _ _,S',T⟩
 ·exact fun i r' h' φ' a' w' hl S' T=>⟨_,r',h',φ',du hl rfl (.ex _ _ _),.ex _ _ _,S',T⟩
 ·intro l r' h' φ' a' w' hl S' T
  have Sw:=xp hs hl
  have e:=tV (P:=P) (G:=G) (n:=n) (names:=names) l s
  show (match findLabel s l with
   | some c=>xq P s c _ a' w'
   | none=>_)
  cases hf:findLabel s l with
  | none=>
   rw [hf] at e
   have e2:cR x l=none:=by
    rcases tY l hI with ⟨_,e2⟩|⟨_,_,e1,_⟩
    ·exact e2
    ·rw [e] at e1;cases e1
   have hk:(Option.rec (.go l r' h') (fun c=>exec p m (.sat x c) r' h') (cR x l):RS)=.go l r' h':=by rw [e2]
   refine ⟨_,r',h',φ',cU hl rfl ?_,.go _ _ _,S',T⟩
   show (Option.rec (.go l r' h') (fun c=>exec p m (.sat x c) r' h') (cR x l):RS).aG _
   rw [hk];exact .go _ _ _
  | some c'=>
   rw [hf] at e
   obtain ⟨y',e2,e3⟩:∃y',cR x l=some y'∧Impl (cC P G n names c') y':=by
    rcases tY l hI with ⟨e1,_⟩|⟨d,d',e1,e2,e3⟩
    ·rw [e] at e1;cases e1
    ·rw [e] at e1;cases e1;exact ⟨d',e2,e3⟩
   have hk:(Option.rec (.go l r' h') (fun c=>exec p m (.sat x c) r' h') (cR x l):RS)=exec p m (.sat x y') r' h':=by rw [e2]
   have hs3:(Option.rec (.go l r' h') (fun c=>exec p m (.sat x c) r' h') (cR x l):RS).Safe:=Sw
   rw [hk] at hs3
   refine (C.sat n s c' x y' r' h' φ' a' w' hI e3 S' hs3).mono (aZ.then T fun y hy=>cU hl rfl ?_)
   show (Option.rec (.go l r' h') (fun c=>exec p m (.sat x c) r' h') (cR x l):RS).aG _
   rw [hk];exact hy
 ·exact fun r' h' φ' a' w' hl S' T=>⟨_,r',h',φ',dD hl rfl,.ret _ _,S',T⟩
theorem mZ {m:Nat} (C:cI P G names p m) (i:Nat) (c:Code) {x:AC} (hI:Impl (cC P G n names c) x) (S:St n G φ r h a w) (hs:(qy i x (exec p m) r h).Safe) :
  (Code.block i c).wp P (aZ n G φ h w (qy i x (exec p m) r h)) a w:=by
 unfold qy at hs ⊢
 refine wp_block (wp_mono (C.code n c x r h φ a w hI S (gw hs)) (aZ.cases ?_ ?_ ?_ ?_))
 ·exact fun r' h' φ' a' w' hl S' T=>⟨_,r',h',φ',cT hl rfl (.nm _ _),.nm _ _,S',T⟩
 ·intro j r' h' φ' a' w' hl S' T
  show if j=i then _ else _
  by_cases e:j=i
  ·rw [if_pos e]
   refine ⟨_,r',h',φ',du hl rfl ?_,.nm _ _,S',T⟩
   show (@Bool.rec (fun _=>RS) (.ex j r' h') (.nm r' h') (Nat.beq j i)).aG _
   rw [e,Nat.beq_refl];exact .nm _ _
  ·rw [if_neg e]
   refine ⟨_,r',h',φ',du hl rfl ?_,.ex _ _ _,S',T⟩
   show (@Bool.rec (fun _=>RS) (.ex j r' h') (.nm r' h') (Nat.beq j i)).aG _
   have:Nat.beq j i=false:=by rw [←Bool.not_eq_true];exact fun g=>e (Nat.eq_of_beq_eq_true g)
   rw [this];exact .ex _ _ _
 ·exact fun i r' h' φ' a' w' hl S' T=>⟨_,r',h',φ',cU hl rfl (.go _ _ _),.go _ _ _,S',T⟩
 ·exact fun r' h' φ' a' w' hl S' T=>⟨_,r',h',φ',dD hl rfl,.ret _ _,S',T⟩
theorem vV {m:Nat} (C:cI P G names p m) (c:Code) {x:AC} (hI:Impl (cC P G n names c) x) (S:St n G φ r h a w) (hs:(wO x (exec p m) r h).Safe) :
  nH P c (aZ n G φ h w (wO x (exec p m) r h)) a w:=by
 unfold wO at hs ⊢
 refine nJ (wp_mono (C.code n c x r h φ a w hI S (gw hs)) (aZ.cases ?_ ?_ ?_ ?_))
 ·intro r' h' φ' a' w' hl S' T
  exact (C.loop n c x r' h' φ' a' w' hI S' (jv hs hl)).mono (aZ.then T fun y hy=>cT hl rfl hy)
 ·exact fun i r' h' φ' a' w' hl S' T=>⟨_,r',h',φ',du hl rfl (.ex _ _ _),.ex _ _ _,S',T⟩
 ·exact fun i r' h' φ' a' w' hl S' T=>⟨_,r',h',φ',cU hl rfl (.go _ _ _),.go _ _ _,S',T⟩
 ·exact fun r' h' φ' a' w' hl S' T=>⟨_,r',h',φ',dD hl rfl,.ret _ _,S',T⟩
def vW (P:Program) (G:Gl) (n:Nat) (p:Pg) (mk:Array Oper→AC):Prop:=∀(m:Nat),(∀k,k≤m→dc P G p (exec p k))→∀(ops:Array Oper) (r:A2) (h:Hp) (φ:aJ) (a:Act) (w:World),St n G φ r h a w→
 (sZ (mk ops) p (exec p m) r h).Safe→wpAny P .any ops (aZ n G φ h w (sZ (mk ops) p (exec p m) r h)) ops.size (Array.replicate ops.size false) a {w with drawn:=w.drawn+1}
theorem Ee (k:Nat):vW P G n p (fun _=>.bad k):=fun _ _ _ _ _ _ _ _ _ hs=>(RS.Safe.err hs).elim
theorem xy (D:xl P G names p) {bad:Array Oper→AC} (hb:vW P G n p bad):vW P G n p (fk P G bad n names):=by
 intro m CO ops r h φ a w S hs
 rcases gT (P:=P) (G:=G) (n:=n) (names:=names) (bad:=bad) ops with ⟨l,hl,e⟩|⟨l,hl,h0,e⟩|e
 ·rw [e] at hs ⊢
  have hs:(sX p (exec p m) (l.map fun (i,b)=>.mk b (fJ P G n names ops (ops.getD i default))) r h h []).Safe:=hs
  show wpAny P .any ops (aZ n G φ h w (sX p (exec p m) (l.map fun (i,b)=>.mk b (fJ P G n names ops (ops.getD i default))) r h h [])) ops.size (Array.replicate ops.size false) a {w with drawn:=w.drawn+1}
  rw [vS] at hs ⊢
  refine D.1 n (exec p m) (CO m (Nat.le_refl _)) ops l _ r h φ a w _ hl S hs ?_
  intro r' h' φ' a' w' e1 S' T
  rw [e1]
  exact ⟨_,r',h',φ',.nm _ _,.nm _ _,S',T⟩
 ·rw [e] at hs ⊢
  have hs:(eY p (exec p m) (gS P G n names ops l) r h).Safe:=hs
  show wpAny P .any ops (aZ n G φ h w (eY p (exec p m) (gS P G n names ops l) r h)) ops.size (Array.replicate ops.size false) a {w with drawn:=w.drawn+1}
  rw [vT] at hs ⊢
  refine D.2 n (exec p m) (CO m (Nat.le_refl _)) ops l _ r h φ a w _ hl h0 S hs ?_
  intro r' h' φ' a' w' e1 S' T
  exact ⟨_,r',h',φ',e1 _ (.nm _ _),.nm _ _,S',T⟩
 ·rw [e] at hs ⊢
  exact hb m CO ops r h φ a w S hs
theorem vX {x:RS} {w0:World}:¬ LetsOut (aZ n G φ h w0 x):=by
 rintro ⟨a,w,y,r',h',φ',_,he,_⟩
 cases he
theorem aZ.Bn {x:RS} (hs:(fS h x).Safe) (e:Exit) (a':Act) (w':World) (hq:aZ n G φ (mark h) w x e a' w'):aZ n G φ h w (fS h x) e a' w':=by
 obtain ⟨y,r',h',φ',hl,he,S',T⟩:=hq
 obtain ⟨y2,r2,h2,q1,q2,q3,q4,q5⟩:=(oA hs).2 y hl e r' h' he T.fr
 exact ⟨y2,r2,h2,φ',q1,q2,S'.less q3 q4,T.JW q4 q5⟩
theorem MB {x y:RS} (hs:(wP h x y).Safe):x.Safe∧y.Safe∧(∀e a' w',aZ n G φ (mark h) w x e a' w'→aZ n G φ h w (wP h x y) e a' w')∧(∀e a' w',aZ n G φ (mark h) w y e a' w'→aZ n G φ h w (wP h x y) e a' w'):=by
 have e0:wP h x y=@Bool.rec (fun _=>RS) (qm h (.ch 2 (fun i=>@Nat.rec (fun _=>RS) x (fun _ _=>y) i))) (fS h (.ch 2 (fun i=>@Nat.rec (fun _=>RS) x (fun _ _=>y) i))) (SY x y):=rfl
 cases he:SY x y with
 | true=>
  rw [he] at e0
  have e0:wP h x y=fS h (.ch 2 (fun i=>@Nat.rec (fun _=>RS) x (fun _ _=>y) i)):=e0
  rw [e0] at hs ⊢
  have hj:=(oA hs).1
  exact ⟨fun k hk=>hj k (.ch 2 _ 0 _ (by omega) hk),fun k hk=>hj k (.ch 2 _ 1 _ (by omega) hk),fun e a' w' hq=>aZ.Bn hs e a' w' (hq.lift fun z hz=>.ch 2 _ 0 _ (by omega) hz),fun e a' w' hq=>aZ.Bn hs e a' w' (hq.lift fun z hz=>.ch 2 _ 1 _ (by omega) hz)⟩
 | false=>
  rw [he] at e0
  have e0:wP h x y=qm h (.ch 2 (fun i=>@Nat.rec (fun _=>RS) x (fun _ _=>y) i)):=e0
  rw [e0] at hs ⊢
  have hj:=vO hs
  exact ⟨fun k hk=>hj k (.ch 2 _ 0 _ (by omega) hk),fun k hk=>hj k (.ch 2 _ 1 _ (by omega) hk),fun e a' w' hq=>aZ.qm (hq.lift fun z hz=>.ch 2 _ 0 _ (by omega) hz),fun e a' w' hq=>aZ.qm (hq.lift fun z hz=>.ch 2 _ 1 _ (by omega) hz)⟩
theorem CQ {next:Array Oper→AC} (hn:vW P G n p next):vW P G n p (kv P G next names):=by
 intro m CO ops r h φ a w S hs
 rcases jI (P:=P) (G:=G) (names:=names) (next:=next) ops with ⟨x,y,hf,hxy,hx,hy,e⟩|⟨k,e⟩
 ·rw [e] at hs ⊢
  have hs:(wP h (exec p m (next (fw x y ops)) r (mark h)) (exec p m (next (fw y x ops)) r (mark h))).Safe:=hs
  show wpAny P .any ops (aZ n G φ h w (wP h (exec p m (next (fw x y ops)) r (mark h)) (exec p m (next (fw y x ops)) r (mark h)))) ops.size (Array.replicate ops.size false) a {w with drawn:=w.drawn+1}
  obtain ⟨s1,s2,s3,s4⟩:=MB (n:=n) (G:=G) (φ:=φ) (h:=h) (w:=w) hs
  cases m with
  | zero=>exact (RS.Safe.err s1).elim
  | succ m=>
   have g1:=hn m (fun k hk=>CO k (by omega)) (fw x y ops) r (mark h) φ a w S.mark s1
   have g2:=hn m (fun k hk=>CO k (by omega)) (fw y x ops) r (mark h) φ a w S.mark s2
   rw [vQ] at g1 g2
   refine vR (fun i o ho=>Mz (hf o (Array.mem_toList_iff.2 (Array.mem_of_getElem? ho)))) vX vX ?_ ?_ _ _ _ _ g1 g2 hxy ?_ ?_ (by simp) hx hy
   ·exact s3
   ·exact s4
   ·simp [Array.getD_eq_getD_getElem?,Array.getElem?_replicate,hx]
   ·simp [Array.getD_eq_getD_getElem?,Array.getElem?_replicate,hy]
 ·rw [e] at hs
  exact (RS.Safe.err hs).elim
theorem MC (D:xl P G names p):vW P G n p (kz P G n names):=xy D (CQ (xy D (CQ (xy D (Ee 404)))))
theorem Ef {m:Nat} (E:Env P G names p) (D:xl P G names p) (CA:∀k,k≤m→cI P G names p k) (c:Code) {z:AC} (hI:Impl (cC P G n names c) z) (S:St n G φ r h a w) (hs:(sZ z p (exec p m) r h).Safe) :
  c.wp P (aZ n G φ h w (sZ z p (exec p m) r h)) a w:=by
 have C:=CA m (Nat.le_refl _)
 have CO:=ua E C
 rcases Bm hI with ⟨k,Lin,L,Lr,Lx,y,rfl,hn,hy⟩|⟨q,rfl⟩|hN
 ·exact CP E.ms (D.toH E.mixed) CO (fun n c r h φ a w=>C.code n c y r h φ a w) k c (bF r Lin) h φ a w hy (S.bF Lin) hs
 ·exact (RS.Safe.err hs).elim
 cases c with
 | skip=>
  have hN:z=.skip:=hN
  subst hN
  exact wp_skip ⟨_,r,h,φ,.nm _ _,.nm _ _,S,.refl _ _ _⟩
 | region id ops d=>
  have hz:z=cC P G n names (.region id ops d):=by
   cases d with
   | false=>
    have e3:cC P G n names (.region id ops false)=qk P G n names ops:=rfl
    rw [e3] at hN ⊢
    rcases gU (P:=P) (G:=G) (n:=n) (names:=names) ops with e|⟨q,e⟩<;>rw [e] at hN ⊢<;>exact hN
   | true=>
    have e3:cC P G n names (.region id ops true)=kz P G n names ops:=rfl
    rw [e3] at hN ⊢
    rcases gT (P:=P) (G:=G) (n:=n) (names:=names) (bad:=kv P G (fk P G (kv P G (fk P G (fun _=>.bad 404) n names) names) n names) names) ops with ⟨l,hl,e⟩|⟨l,hl,h0,e⟩|e
    ·have e:kz P G n names ops=_:=e
     rw [e] at hN ⊢;exact hN
    ·have e:kz P G n names ops=_:=e
     rw [e] at hN ⊢;exact hN
    ·have e:kz P G n names ops=_:=e
     rw [e] at hN ⊢
     rcases jI (P:=P) (G:=G) (names:=names) (next:=fk P G (kv P G (fk P G (fun _=>.bad 404) n names) names) n names) ops with ⟨x,y,_,_,_,_,e2⟩|⟨k,e2⟩
     ·rw [e2] at hN ⊢;exact hN
     ·rw [e2] at hN ⊢;exact hN
  subst hz
  cases d with
  | false=>
   have hs:(sZ (qk P G n names ops) p (exec p m) r h).Safe:=hs
   show (Code.region id ops false).wp P (aZ n G φ h w (sZ (qk P G n names ops) p (exec p m) r h)) a w
   rcases gU (P:=P) (G:=G) (n:=n) (names:=names) ops with e|⟨q,e⟩
   case inr=>
    rw [e] at hs ⊢
    have hs:(wQ q (ops.toList.map fun o=>mw P {G with b:=some q} n names ops o) p (exec p m) r h).Safe:=hs
    show (Code.region id ops false).wp P (aZ n G φ h w (wQ q (ops.toList.map fun o=>mw P {G with b:=some q} n names ops o) p (exec p m) r h)) a w
    unfold wQ at hs ⊢
    refine wp_region ?_
    have:=Be (Q:=aZ n G φ h w (RS.bind (eY p (exec p m) (ops.toList.map fun o=>mw P {G with b:=some q} n names ops o) (sY q r) h) (fun r h=>.nm (Ax q r) h) (fun i r h=>.ex i r h) (fun l r h=>.go l r h))) E.ms (show dc P {G with b:=some q} p (exec p m) from fun f args h φ w vals hg=>CO f args h φ w vals hg) ops.toList [] (sY q r) h φ a w (by simp) (S.drop q) (gw hs)
     (fun r' h' φ' a' w' hl S' T=>⟨_,Ax q r',h',φ',cT hl rfl (.nm _ _),.nm _ _,S'.ins,T⟩)
    rw [List.range_eq_range']
    simpa using this
   rw [e] at hs ⊢
   have hs:(eY p (exec p m) (ops.toList.map fun o=>mw P G n names ops o) r h).Safe:=hs
   show (Code.region id ops false).wp P (aZ n G φ h w (eY p (exec p m) (ops.toList.map fun o=>mw P G n names ops o) r h)) a w
   refine wp_region ?_
   have:=Be (Q:=aZ n G φ h w (eY p (exec p m) (ops.toList.map fun o=>mw P G n names ops o) r h)) E.ms CO ops.toList [] r h φ a w (by simp) S hs (fun r' h' φ' a' w' hl S' T=>⟨_,r',h',φ',hl,.nm _ _,S',T⟩)
   rw [List.range_eq_range']
   show wpOps P ops (aZ n G φ h w (eY p (exec p m) (ops.toList.map fun o=>mw P G n names ops o) r h)) (List.range' 0 ops.size) a w
   simpa using this
  | true=>
   exact wp_region_any E.mixed (MC D m (fun k hk=>ua E (CA k hk)) ops r h φ a w S hs)
 | seq c1 c2=>
  obtain ⟨x,y,rfl,hx,hy⟩:∃a' b',z=.seq a' b'∧Impl (cC P G n names c1) a'∧Impl (cC P G n names c2) b':=hN
  have hs:(Ci x y (exec p m) r h).Safe:=hs
  show (Code.seq c1 c2).wp P (aZ n G φ h w (Ci x y (exec p m) r h)) a w
  unfold Ci at hs ⊢
  refine wp_seq (wp_mono (C.code n c1 x r h φ a w hx S (gw hs)) (aZ.cases ?_ ?_ ?_ ?_))
  ·intro r' h' φ' a' w' hl S' T
   exact wp_mono (C.code n c2 y r' h' φ' a' w' hy S' (jv hs hl)) (aZ.then T fun z hz=>cT hl rfl hz)
  ·exact fun i r' h' φ' a' w' hl S' T=>⟨_,r',h',φ',du hl rfl (.ex _ _ _),.ex _ _ _,S',T⟩
  ·exact fun i r' h' φ' a' w' hl S' T=>⟨_,r',h',φ',cU hl rfl (.go _ _ _),.go _ _ _,S',T⟩
  ·exact fun r' h' φ' a' w' hl S' T=>⟨_,r',h',φ',dD hl rfl,.ret _ _,S',T⟩
 | cond c x y=>
  simp only [cC] at hN
  cases hc:cO G c with
  | none=>
   rw [hc] at hN
   have hN:z=.bad 401:=hN
   subst hN
   exact (RS.Safe.err hs).elim
  | some b=>
   rw [hc] at hN
   obtain ⟨x',y',rfl,hx,hy⟩:∃a' b',z=.cond b a' b'∧Impl (cC P G n names x) a'∧Impl (cC P G n names y) b':=hN
   have hs:(AV.bH (ev b r) (fun t=>@Bool.rec (fun _=>RS) (exec p m y' r h) (exec p m x' r h) t) (.err 213)).Safe:=hs
   obtain ⟨t,ht,e⟩:=eO hs
   show (Code.cond c x y).wp P (aZ n G φ h w (AV.bH (ev b r) (fun t=>@Bool.rec (fun _=>RS) (exec p m y' r h) (exec p m x' r h) t) (.err 213))) a w
   rw [e] at hs ⊢
   have hv:=S.Ng hc
   rw [ht] at hv
   refine wp_cond hv.cQ ?_
   cases t with
   | true=>exact C.code n x x' r h φ a w hx S hs
   | false=>exact C.code n y y' r h φ a w hy S hs
 | block i c=>
  rcases oB (P:=P) (G:=G) (n:=n) (names:=names) i c with e|e<;>rw [e] at hN
  ·obtain ⟨x,rfl,hx⟩:∃a',z=.block i a'∧Impl (cC P G n names c) a':=hN
   exact mZ C i c hx S hs
  ·have hz:(∃a',z=.join (.block i a')∧Impl (cC P G n names c) a')∨∃a',z=.block i a'∧Impl (cC P G n names c) a':=by
    rcases (show z=.join (.block i (cC P G n names c))∨(∃i' b b',AC.block i (cC P G n names c)=.block i' (.loop b)∧z=.join (.block i' (.loop b'))∧Impl b b')∨∃i' b b',AC.block i (cC P G n names c)=.block i' b∧z=.block i' b'∧Impl b b' from hN) with rfl|⟨i',b,b',e1,rfl,hb⟩|⟨i',b,b',e1,rfl,hb⟩
    ·exact .inl ⟨_,rfl,.refl _⟩
    ·injection e1 with e1 e2
     subst e1
     rw [e2]
     exact .inl ⟨_,rfl,.loop hb⟩
    ·injection e1 with e1 e2
     subst e1
     rw [e2]
     exact .inr ⟨_,rfl,hb⟩
   rcases hz with ⟨x,rfl,hx⟩|⟨x,rfl,hx⟩
   case inr=>exact mZ C i c hx S hs
   have hs:(fS h (exec p m (.block i x) r (mark h))).Safe:=hs
   show (Code.block i c).wp P (aZ n G φ h w (fS h (exec p m (.block i x) r (mark h)))) a w
   refine wp_mono (C.block n i c x r (mark h) φ a w hx S.mark (oA hs).1) ?_
   exact fun e a' w' hq=>aZ.Bn hs e a' w' hq
 | loop c=>
  obtain ⟨x,rfl,hx⟩:∃a',z=.loop a'∧Impl (cC P G n names c) a':=hN
  exact pT (vV C c hx S hs)
 | rangeFunc f ps x y=>
  have hN:z=.bad 402:=hN
  subst hN
  exact (RS.Safe.err hs).elim
 | exit i=>
  have hN:z=.exit i:=hN
  subst hN
  exact wp_exit ⟨_,r,h,φ,.ex _ _ _,.ex _ _ _,S,.refl _ _ _⟩
 | scope c=>
  obtain ⟨x,rfl,hx⟩:∃a',z=.scope a'∧Impl (cC P G n names c) a':=hN
  exact Bg (zF C c c hx hx S hs)
 | label l=>
  have hN:z=.label l:=hN
  subst hN
  exact wp_label ⟨_,r,h,φ,.nm _ _,.nm _ _,S,.refl _ _ _⟩
 | goto l=>
  have hN:z=.goto l:=hN
  subst hN
  exact wp_goto ⟨_,r,h,φ,.go _ _ _,.go _ _ _,S,.refl _ _ _⟩
 | ret=>
  have hN:z=.ret:=hN
  subst hN
  exact wp_ret ⟨_,r,h,φ,.ret _ _,.ret _ _,S,.refl _ _ _⟩
 | refuse s=>
  have hN:z=.bad 403:=hN
  subst hN
  exact (RS.Safe.err hs).elim
theorem zG (E:Env P G names p) (D:xl P G names p):∀m k,k≤m→cI P G names p k
 | 0,0,_=>⟨fun _ _ _ _ _ _ _ _ _ _ hs=>(RS.Safe.err hs).elim,fun _ _ _ _ _ _ _ _ _ _ _ hs=>(RS.Safe.err hs).elim,fun _ _ _ _ _ _ _ _ _ _ hs=>(RS.Safe.err hs).elim,fun _ _ _ _ _ _ _ _ _ _ _ _ _ hs=>(RS.Safe.err hs).elim⟩
 | m+1,k,hk=>by
  have CA:=zG E D m
  rcases Nat.lt_or_ge k (m+1) with g|g
  ·exact CA k (by omega)
  ·have e:k=m+1:=by omega
   subst e
   have C:=CA m (Nat.le_refl _)
   exact ⟨fun _ c _ _ _ _ _ _ hI S hs=>Ef E D CA c hI S hs,fun _ i c _ _ _ _ _ _ hI S hs=>mZ C i c hI S hs,fun _ c _ _ _ _ _ _ hI S hs=>vV C c hI S hs,fun _ s c _ _ _ _ _ _ _ hI hJ S hs=>zF C s c hI hJ S hs⟩
theorem eU (E:Env P G names p) (D:xl P G names p) (m:Nat):cI P G names p m:=zG E D m m (Nat.le_refl _)
theorem Mh (E:Env P G names p) (D:xl P G names p) (m f:Nat) (args:List AV) (vals:List Value) (hg:mD G φ) (H:HR φ h w) (hv:bX φ args vals) (hs:(aD p (exec p m) f args h).Safe) (hb:∀k,cM f p.fs≠.ext k) :
  Calls P f vals.toArray w (dz φ h w (aD p (exec p m) f args h)):=by
 rcases ua E (eU E D m) f args h φ w vals hg H hv hs with ⟨_,hC⟩|⟨cv,w',hcf,_⟩
 ·exact hC
 ·exfalso
  have hF:=E.fs f
  have go:∀{body res},nr P G names f body res→False:=by
   rintro body res ⟨fn,body0,hfn,hc,_⟩
   unfold cF at hc
   split at hc
   ·rename_i c rs hbody hrs
    split at hc
    ·cases hc
    ·rename_i hname
     rw [eQ hfn (by simpa using hname) hbody] at hcf
     cases hcf
   ·cases hc
  cases hf:cM f p.fs with
  | none=>rw [lZ hf] at hs;exact (RT.Safe.err hs).elim
  | mk body res=>rw [hf] at hF;exact go hF
  | Ek body res=>rw [hf] at hF;exact go hF
  | oU k body res=>rw [hf] at hF;exact go hF.1
  | ext k=>exact hb k hf
def db (r r':A2) (L:List Nat):Prop:=∀a b:H,(16 * a.nat+b.nat)∈L→ar a b r=ar a b r'
variable {r r':A2} {h h':Hp} {v:AV}
theorem db.left {L M:List Nat} (e:db r r' (L ++ M)):db r r' L:=fun a b m=>e a b (List.mem_append_left _ m)
theorem db.right {L M:List Nat} (e:db r r' (L ++ M)):db r r' M:=fun a b m=>e a b (List.mem_append_right _ m)
theorem aq {x:AO} (e:db r r' x.aF):ev x r=ev x r':=by
 cases x with
 | t a b=>exact e a b (by simp [AO.aF])
 | c v=>rfl
theorem gz:∀{xs:List AO},db r r' (si xs)→fY xs r=fY xs r'
 | [],_=>rfl
 | x::xs,e=>by
  have e:db r r' (x.aF ++ si xs):=e
  show ev x r::fY xs r=ev x r'::fY xs r'
  rw [aq e.left,gz e.right]
theorem dr {x:OA} {d:Nat} (e:db r r' x.aF):ft x d r=ft x d r':=by
 cases x with
 | none=>rfl
 | some x=>
  funext k q
  show en (ev x r) k q=en (ev x r') k q
  rw [aq (x:=x) e]
theorem na:∀{ps:List Part},db r r' (ps.flatMap Part.aF)→fits ps r=fits ps r'
 | [],_=>rfl
 | .mk off sz x::ps,e=>by
  have e:db r r' (x.aF ++ ps.flatMap Part.aF):=e
  show (OL.rec (@Bool.rec (fun _=>Bool) false (fits ps r) (Bool.and (ev x r).one (Nat.beq sz 1))) (fun l=>@Bool.rec (fun _=>Bool) false (fits ps r) (Nat.beq l.length sz)) (ev x r).asAgg:Bool) =
   (OL.rec (@Bool.rec (fun _=>Bool) false (fits ps r') (Bool.and (ev x r').one (Nat.beq sz 1))) (fun l=>@Bool.rec (fun _=>Bool) false (fits ps r') (Nat.beq l.length sz)) (ev x r').asAgg:Bool)
  rw [aq e.left,na e.right]
theorem nc:∀{ps:List Part} {l:List AV},db r r' (ps.flatMap Part.aF)→fill ps r l=fill ps r' l
 | [],_,_=>rfl
 | .mk off sz x::ps,l,e=>by
  have e:db r r' (x.aF ++ ps.flatMap Part.aF):=e
  show fill ps r (nR (AV.cs (ev x r)) off l)=fill ps r' (nR (AV.cs (ev x r')) off l)
  rw [aq e.left,nc e.right]
theorem ov {op:oG} (e:db r r' op.aF):op.run r h=op.run r' h:=by
 cases op with
 | mv x=>show LI x r h=LI x r' h;unfold LI;rw [aq e]
 | pick c a b=>show dm c a b r h=dm c a b r' h;unfold dm;rw [aq e.left,aq e.right.left,aq e.right.right]
 | alloc el n c=>rfl
 | box el x=>show yI el x r h=yI el x r' h;unfold yI;rw [aq (x:=x) e]
 | build z ps=>show jm z ps r h=jm z ps r' h;unfold jm;rw [na e,nc e]
 | bN el es n z ps=>show fN el es n z ps r h=fN el es n z ps r' h;unfold fN;rw [na e,nc e]
 | bZ x=>show iE x r h=iE x r' h;unfold iE;rw [aq (x:=x) e]
 | jO m x=>show pX m x r h=pX m x r' h;unfold pX;rw [aq (x:=x) e]
 | Ub x y=>show sO x y r h=sO x y r' h;unfold sO;rw [aq (x:=x) e.left,aq (x:=y) e.right]
 | uK m x y=>show yJ m x y r h=yJ m x y r' h;unfold yJ;rw [aq (x:=x) e.left,aq (x:=y) e.right]
 | nq x=>show pd x r h=pd x r' h;unfold pd;rw [aq (x:=x) e]
 | bin k x y=>show bK k (ev x r) (ev y r) h=bK k (ev x r') (ev y r') h;rw [aq (x:=x) e.left,aq (x:=y) e.right]
 | un k x=>show LH k x r h=LH k x r' h;unfold LH;rw [aq (x:=x) e]
 | conv k x=>show sP k x r h=sP k x r' h;unfold sP;rw [aq (x:=x) e]
 | QW t x=>show yK t x r h=yK t x r' h;unfold yK;rw [aq (x:=x) e]
 | Vh f xs=>show yL f xs r h=yL f xs r' h;unfold yL;rw [gz e]
 | nt=>rfl
 | nu el z l c=>show iR el z l c r h=iR el z l c r' h;unfold iR;rw [aq (x:=l) e.left,aq (x:=c) e.right]
 | Vi es x lo hi mx=>show eo es x lo hi mx r h=eo es x lo hi mx r' h;unfold eo;rw [aq (x:=x) e.left];simp only [dr e.right.left,dr e.right.right.left,dr e.right.right.right]
 | KM x lo hi=>show mL x lo hi r h=mL x lo hi r' h;unfold mL;rw [aq (x:=x) e.left];simp only [dr e.right.left,dr e.right.right]
 | KN len es x lo hi mx=>show pe len es x lo hi mx r h=pe len es x lo hi mx r' h;unfold pe;rw [aq (x:=x) e.left];simp only [dr e.right.left,dr e.right.right.left,dr e.right.right.right]
 | cG d x=>show rZ d x r h=rZ d x r' h;unfold rZ;rw [aq (x:=x) e]
 | KP d x=>show pf d x r h=pf d x r' h;unfold pf;rw [aq (x:=x) e]
 | KQ d n x=>show ph d n x r h=ph d n x r' h;unfold ph;rw [aq (x:=x) e]
 | cn es x y=>show sg es x y r h=sg es x y r' h;unfold sg;rw [aq (x:=x) e.left,aq (x:=y) e.right]
 | Up len es x y=>show vi len es x y r h=vi len es x y r' h;unfold vi;rw [aq (x:=x) e.left,aq (x:=y) e.right]
 | idxs x y=>show gG x y r h=gG x y r' h;unfold gG;rw [aq (x:=x) e.left,aq (x:=y) e.right]
 | KR len es agg x y=>show pk len es agg x y r h=pk len es agg x y r' h;unfold pk;rw [aq (x:=x) e.left,aq (x:=y) e.right]
 | ext i x=>show vj i x r h=vj i x r' h;unfold vj;rw [aq (x:=x) e]
 | wg t z ok x y=>show Cb t z ok x y r h=Cb t z ok x y r' h;unfold Cb;rw [aq (x:=x) e.left,aq (x:=y) e.right]
 | yn t x y z=>show Cc t x y z r h=Cc t x y z r' h;unfold Cc;rw [aq (x:=x) e.left,aq (x:=y) e.right.left,aq (x:=z) e.right.right]
 | del t x y=>show Cd t x y r h=Cd t x y r' h;unfold Cd;rw [aq (x:=x) e.left,aq (x:=y) e.right]
 | FY x=>show po x r h=po x r' h;unfold po;rw [aq (x:=x) e]
 | len x=>show Ce x r h=Ce x r' h;unfold Ce;rw [aq (x:=x) e]
 | iw x=>show wM x r h=wM x r' h;unfold wM;rw [aq (x:=x) e]
 | cap x=>show pV x r h=pV x r' h;unfold pV;rw [aq (x:=x) e]
 | max mn xs=>show yP mn xs r h=yP mn xs r' h;unfold yP;rw [gz e]
 | app el es x y=>show vk el es x y r h=vk el es x y r' h;unfold vk;rw [aq (x:=x) e.left,aq (x:=y) e.right]
 | apps el x y=>show sU el x y r h=sU el x y r' h;unfold sU;rw [aq (x:=x) e.left,aq (x:=y) e.right]
 | Vj es x y=>show vl es x y r h=vl es x y r' h;unfold vl;rw [aq (x:=x) e.left,aq (x:=y) e.right]
 | Vk z x=>show vm z x r h=vm z x r' h;unfold vm;rw [aq (x:=x) e]
 | KS x=>show wN x r h=wN x r' h;unfold wN;rw [aq (x:=x) e]
 | CT x=>show gF x r h=gF x r' h;unfold gF;rw [aq (x:=x) e]
 | ML x=>show kG x r h=kG x r' h;unfold kG;rw [aq (x:=x) e]
 | KU t z ok x=>show Cg t z ok x r h=Cg t z ok x r' h;unfold Cg;rw [aq (x:=x) e]
 | aj k x y=>show jx k x y r h=jx k x y r' h;unfold jx;rw [aq (x:=x) e.left,aq (x:=y) e.right]
 | real im x=>show fD im x r h=fD im x r' h;unfold fD;rw [aq (x:=x) e]
 | KW x=>show mM x r h=mM x r' h;unfold mM;rw [aq (x:=x) e]
 | yo t z x y=>show wK t z x y r h=wK t z x y r' h;unfold wK;rw [aq (x:=x) e.left,aq (x:=y) e.right]
 | Ga el es z x y=>show mF el es z x y r h=mF el es z x y r' h;unfold mF;rw [aq (x:=x) e.left,aq (x:=y) e.right]
 | yp x y z=>show wL x y z r h=wL x y z r' h;unfold wL;rw [aq (x:=x) e.left.left,aq (x:=y) e.left.right,aq (x:=z) e.right]
 | FZ el x y=>show pr el x y r h=pr el x y r' h;unfold pr;rw [aq (x:=x) e.left,aq (x:=y) e.right]
 | bad n=>rfl
theorem vM {i:AI} {p:Pg} {run:gJ} (e:db r r' i.aF):i.res p run r h=i.res p run r' h:=by
 cases i with
 | op o=>show (o.run r h).kr=(o.run r' h).kr;rw [ov e]
 | uM s x=>show hE s (ev x r) h=hE s (ev x r') h;rw [aq (x:=x) e]
 | call f xs=>show aD p run f (fY xs r) h=aD p run f (fY xs r') h;rw [gz e]
 | jK x xs=>show jM p run (ev x r) (fY xs r) h=jM p run (ev x r') (fY xs r') h;rw [aq (x:=x) e.left,gz e.right]
 | inv k x xs=>show aI p run k (ev x r) (fY xs r) h=aI p run k (ev x r') (fY xs r') h;rw [aq (x:=x) e.left,gz e.right]
variable {P:Program} {r r':A2} {h h':Hp} {v:AV} {n:Nat}
theorem cu {a:AV} {h0:Hp} (e:RV.ok a h0=.ok v h'):h'=h0:=(RV.av e).2.symm
theorem iA {neg:Bool} {b:EB} (e:EB.rv neg h b=.ok v h'):h'=h:=(Iy e).1
theorem mb {f:IntKind→Int→Int→AV} {x y:AV} (e:BV f x y h=.ok v h'):h'=h:=by obtain ⟨_,_,_,_,_,_,e⟩:=Ib e;exact e
theorem zH {f:IntKind→Int→Int→AV} {x y:AV} (e:LD f x y h=.ok v h'):h'=h:=by obtain ⟨_,_,_,_,_,_,e,_⟩:=Ic e;exact e
theorem vY {f:List Nat→List Nat→AV} {x y:AV} (e:LF f x y h=.ok v h'):h'=h:=by obtain ⟨_,_,_,_,_,e⟩:=Io e;exact e
theorem NQ {f:IntKind→Int→Int→AV} {x y:AV} (e:Ug f x y h=.ok v h'):h'=h:=by obtain ⟨_,_,_,_,_,_,_,e,_⟩:=AM e;exact e
theorem TU {k:FloatKind} {op:BinOp} {a b:Nat} (e:LG k op a b h=.ok v h'):h'=h:=by
 unfold LG at e
 simp only at e
 split at e<;>(try (split at e))<;>first|exact cu e|cases e
theorem MD {k:FloatKind} {op:BinOp} {a b c d:Nat} (e:BW k op a b c d h=.ok v h'):h'=h:=by
 unfold BW at e
 split at e<;>(try (split at e))<;>first|exact cu e|cases e
theorem YV {k:BK} {x y:AV} (e:bK k x y h=.ok v h'):h'=h:=by
 cases k with
 | add=>exact mb e
 | sub=>exact mb e
 | mul=>exact mb e
 | quo=>exact zH e
 | rem=>exact zH e
 | and=>exact zH e
 | or=>exact zH e
 | xor=>exact zH e
 | Vl=>exact mb e
 | shl=>exact NQ e
 | shr=>exact NQ e
 | eq=>exact mb e
 | ne=>exact mb e
 | lt=>exact mb e
 | le=>exact mb e
 | gt=>exact mb e
 | ge=>exact mb e
 | seq=>exact vY e
 | KX=>exact vY e
 | slt=>exact vY e
 | sle=>exact vY e
 | Zu=>exact vY e
 | Zv=>exact vY e
 | cat=>
  obtain ⟨a,_,e⟩:=cB (show df x y h=_ from e)
  obtain ⟨b,_,e⟩:=cB e
  obtain ⟨_,e⟩:=aC e
  exact cu e
 | beq=>exact iA e
 | bne=>exact iA e
 | lk=>exact iA e
 | XS=>exact iA e
 | ku k=>exact iA e
 | pO k=>exact iA e
 | Zw ks=>
  obtain ⟨a,_,e⟩:=dn (show yH false ks x y h=_ from e)
  obtain ⟨b,_,e⟩:=dn e
  exact iA e
 | XT ks=>
  obtain ⟨a,_,e⟩:=dn (show yH true ks x y h=_ from e)
  obtain ⟨b,_,e⟩:=dn e
  exact iA e
 | Gb op=>
  obtain ⟨k,a,_,e⟩:=dQ (show GW op x y h=_ from e)
  obtain ⟨k',b,_,e⟩:=dQ e
  obtain ⟨_,e⟩:=aC e
  exact TU e
 | QX op=>
  obtain ⟨k,a,b,_,e⟩:=fG (show GX op x y h=_ from e)
  obtain ⟨k',c,d,_,e⟩:=fG e
  obtain ⟨_,e⟩:=aC e
  exact MD e
 | uk=>exact iA e
 | ZU=>exact iA e
theorem dL {x:OA} {d:Nat} {k:Nat→RV} {q:Nat} (e:ft x d r k (.err q)=.ok v h'):∃b,k b=.ok v h':=by
 cases x with
 | none=>exact ⟨d,e⟩
 | some x=>obtain ⟨_,m,_,e⟩:=cY (show en (ev x r) k (.err q)=_ from e);exact ⟨m,e⟩
theorem CS {es o a b m cap:Nat} {i:P4} (e:Hd es i o a b m cap h=.ok v h'):h'=h:=by
 obtain ⟨_,e⟩:=aC e
 obtain ⟨_,e⟩:=aC e
 obtain ⟨_,e⟩:=aC e
 exact cu e
theorem ME {es o a b:Nat} {i:P4} (e:Ny es i o a b h=.ok v h'):h'=h:=by
 obtain ⟨_,e⟩:=aC e
 obtain ⟨_,_,_,_,_,_,e⟩:=aO e
 obtain ⟨_,e⟩:=aC e
 exact cu e
theorem MF {es o a b m:Nat} {i:P4} (e:Nz es i o a b m h=.ok v h'):h'=h:=by
 obtain ⟨_,e⟩:=aC e
 obtain ⟨_,e⟩:=aC e
 obtain ⟨_,_,_,_,_,_,e⟩:=aO e
 obtain ⟨_,e⟩:=aC e
 exact cu e
theorem XB {es:Nat} {x:AO} {lo hi mx:OA} (e:eo es x lo hi mx r h=.ok v h'):h'=h:=by
 rcases cW e with ⟨i,o,l,c,_,e⟩|⟨i,o,l,c,_,e⟩|⟨_,e⟩
 ·obtain ⟨_,e⟩:=dL e
  obtain ⟨_,e⟩:=dL e
  obtain ⟨_,e⟩:=dL e
  exact CS e
 ·obtain ⟨_,e⟩:=aC e
  obtain ⟨_,e⟩:=dL e
  obtain ⟨_,e⟩:=dL e
  rcases ff e with ⟨_,e⟩|⟨_,e⟩
  ·exact ME e
  ·obtain ⟨_,e⟩:=dL e
   exact MF e
 ·obtain ⟨_,e⟩:=dL e
  obtain ⟨_,e⟩:=dL e
  obtain ⟨_,e⟩:=dL e
  obtain ⟨_,e⟩:=aC e
  exact cu e
theorem TV {len es:Nat} {x:AO} {lo hi mx:OA} (e:pe len es x lo hi mx r h=.ok v h'):h'=h:=by
 obtain ⟨_,_,_,e⟩:=cD e
 obtain ⟨_,e⟩:=dL e
 obtain ⟨_,e⟩:=dL e
 obtain ⟨_,e⟩:=dL e
 exact CS e
theorem TW {x:AO} {lo hi:OA} (e:mL x lo hi r h=.ok v h'):h'=h:=by
 obtain ⟨_,_,e⟩:=cB e
 obtain ⟨_,e⟩:=dL e
 obtain ⟨_,e⟩:=dL e
 obtain ⟨_,e⟩:=aC e
 obtain ⟨_,e⟩:=aC e
 exact cu e
theorem qG {α:Type} {l:List α} {f:α→AV} {n:Nat} (e:(List.rec (.err n) (fun a _ _=>.ok (f a) h) l:RV)=.ok v h'):h'=h:=by
 cases l with
 | nil=>cases e
 | cons a t=>exact cu e
theorem vZ {es o n:Nat} {i:P4} {k:List AV→RV} {q:Nat} (e:lu es i o n h k (.err q)=.ok v h'):∃l,k l=.ok v h':=by
 cases n with
 | zero=>exact ⟨_,e⟩
 | succ n=>
  change (Obj.bz (au i h) (fun _ m _ _ c=>@Bool.rec (fun _=>RV) (.err q) (k (bB (Nat.mul (Nat.succ n) es) c o)) (Nat.ble (Nat.add o (Nat.mul (Nat.succ n) es)) m)) (.err q):RV)=_ at e
  obtain ⟨_,_,_,_,_,_,e⟩:=aO e
  obtain ⟨_,e⟩:=aC e
  exact ⟨_,e⟩
theorem MG {es:Nat} {x:AV} {k:List AV→RV} {q:Nat} (e:elems es x h k (.err q)=.ok v h'):∃l,k l=.ok v h':=by
 rcases cW e with ⟨i,o,l,c,_,e⟩|⟨i,o,l,c,_,e⟩|⟨_,e⟩
 ·exact vZ e
 ·obtain ⟨_,e⟩:=aC e
  exact vZ e
 ·exact ⟨_,e⟩
theorem Kh {mn:Bool} {k:IntKind}:∀{l:List AV} {a:Int},yO mn k h l a=.ok v h'→h'=h
 | [],a,e=>cu e
 | y::l,a,e=>by
  rw [vH] at e
  obtain ⟨_,_,_,e⟩:=bu e
  obtain ⟨_,e⟩:=aC e
  exact Kh e
theorem XC {t:KT} {z:AV} {ok:Bool} {x k:AV} (e:wg t z ok x k h=.ok v h'):h'=h:=by
 obtain ⟨_,e⟩:=aC e
 have ho:∀{f:Bool} {a:AV},Ca ok f a h=.ok v h'→h'=h:=fun e=>cu e
 rcases eZ e with ⟨i,_,e⟩|⟨_,e⟩
 ·obtain ⟨l,c,_,e⟩:=dF e
  rw [kW] at e
  rcases ja e with ⟨_,e⟩|⟨_,_,_,_,_,e⟩
  ·exact ho e
  ·exact ho e
 ·exact ho e
theorem XD {t:Nat} {z:AV} {ok:Bool} {x:AV} (e:KU t z ok x h=.ok v h'):h'=h:=by
 cases x<;>(try (cases e;done))
 ·rename_i u a
  have e:(@Bool.rec (fun _=>RV) (@Bool.rec (fun _=>RV) (.err 109) (Ca true false z h) ok) (Ca ok true a h) (Nat.beq t u))=_:=e
  rcases ff e with ⟨_,e⟩|⟨_,e⟩
  ·obtain ⟨_,e⟩:=aC e;exact cu e
  ·exact cu e
 ·obtain ⟨_,e⟩:=aC (show (@Bool.rec (fun _=>RV) (.err 109) (Ca true false z h) ok)=_ from e)
  exact cu e
theorem TX {x:AO} (e:pd x r h=.ok v h'):h'=h:=by
 have e:(OP.rec (nq (ev x r) h) (fun i o=>.ok (.ptr i o) h) (ev x r).fo:RV)=_:=e
 generalize ev x r=a at e
 cases a<;>first|exact cu e|cases e
theorem TY {len es:Nat} {agg:Bool} {x y:AO} (e:pk len es agg x y r h=.ok v h'):h'=h:=by
 obtain ⟨_,_,_,e⟩:=cY e
 obtain ⟨_,_,e⟩:=dn e
 obtain ⟨_,e⟩:=aC e
 rcases ff e with ⟨_,e⟩|⟨_,e⟩
 ·exact qG (f:=fun v=>v) e
 ·obtain ⟨_,e⟩:=aC e
  exact cu e
theorem XE {x:AV} (e:len x h=.ok v h'):h'=h:=by
 rcases cW e with ⟨i,o,l,c,_,e⟩|⟨i,o,l,c,_,e⟩|⟨_,e⟩<;>exact cu e
theorem XF {x:AV} (e:Hc x h=.ok v h'):h'=h:=by
 cases x<;>try (cases e;done)
 case di=>exact cu (show RV.ok .di h=.ok v h' from e)
 case ptr i o=>
  obtain ⟨_,_,_,_,_,_,e⟩:=aO (show Obj.bz (au i h) (fun _ n ex _ _=>@Bool.rec (fun _=>RV) (.err 191) (.ok (.ptr i o) h) (Bool.and ex (Kn o n))) (RV.err 192)=RV.ok v h' from e)
  obtain ⟨_,e⟩:=aC e
  exact cu e
theorem MH {u sz:Nat} {x:AV} (e:wJ u sz x h=.ok v h'):h'=h:=by
 cases x<;>try (cases e;done)
 case di=>exact cu (show RV.ok .di h=.ok v h' from e)
 case ptr i o=>
  obtain ⟨_,_,_,_,_,_,e⟩:=aO (show Obj.bz (au i h) (fun el n ex _ _=>@Bool.rec (fun _=>RV) (.err 193) (.ok (.ptr i o) h) (Bool.and ex (Bool.and (Nat.beq o 0) (Bool.and (Nat.beq el u) (Nat.beq n sz))))) (RV.err 194)=RV.ok v h' from e)
  obtain ⟨_,e⟩:=aC e
  exact cu e
theorem YW {k:CK} {x:AV} {y:AO} (hk:jq (.op (.conv k y))=true) (e:cK k x h=.ok v h'):h'=h:=by
 cases k<;>(try (cases hk;done))
 ·obtain ⟨_,_,e⟩:=cB (show Hb x h=_ from e);exact cu e
 ·obtain ⟨_,_,_,e⟩:=bu (show wI _ x h=_ from e);exact cu e
 ·obtain ⟨_,e⟩:=MG (show GY x h=_ from e)
  obtain ⟨_,_,e⟩:=fx e
  exact cu e
 ·obtain ⟨_,_,_,e⟩:=bu (show Nw x h=_ from e);exact cu e
 ·obtain ⟨_,_,_,e⟩:=bu (show GZ _ x h=_ from e);exact cu e
 ·obtain ⟨_,_,_,e⟩:=dQ (show Ha _ x h=_ from e)
  split at e
  ·split at e
   ·exact cu e
   ·cases e
  ·cases e
 ·exact XF e
 ·exact MH e
theorem qg {op:oG} (hf:jq (.op op)=true) (e:op.run r h=.ok v h'):h'=h:=by
 cases op with
 | mv x=>exact cu e
 | pick c a b=>obtain ⟨_,_,e⟩:=lA (show dm c a b r h=_ from e);exact cu e
 | alloc=>cases hf
 | box=>cases hf
 | build z ps=>obtain ⟨_,e⟩:=aC (show jm z ps r h=_ from e);exact cu e
 | bN=>cases hf
 | yo=>cases hf
 | yp=>cases hf
 | Ga=>cases hf
 | bZ x=>
  obtain ⟨_,_,_,e⟩:=cD (show iE x r h=_ from e)
  obtain ⟨_,_,_,_,_,_,e⟩:=aO e
  obtain ⟨_,e⟩:=aC e
  exact cu e
 | jO m x=>
  obtain ⟨_,_,_,e⟩:=cD (show pX m x r h=_ from e)
  obtain ⟨_,_,_,_,_,_,e⟩:=aO e
  obtain ⟨_,e⟩:=aC e
  exact cu e
 | Ub=>cases hf
 | uK=>cases hf
 | nq x=>exact TX e
 | bin k x y=>exact YV (show bK k (ev x r) (ev y r) h=_ from e)
 | un k x=>
  cases k with
  | not=>obtain ⟨_,_,e⟩:=lA (show bG (ev x r) h=_ from e);exact cu e
  | neg=>obtain ⟨_,_,_,e⟩:=bu (show yE (ev x r) h=_ from e);exact cu e
  | ZA=>obtain ⟨_,_,_,e⟩:=bu (show uR (ev x r) h=_ from e);exact cu e
 | conv k x=>exact YW (k:=k) (x:=ev x r) (y:=x) hf e
 | QW t x=>exact cu e
 | Vh f xs=>exact cu e
 | nt=>cases hf
 | nu=>cases hf
 | Vi es x lo hi mx=>exact XB e
 | KM x lo hi=>exact TW e
 | KN len es x lo hi mx=>exact TV e
 | cG d x=>obtain ⟨_,_,_,e⟩:=cD (show rZ d x r h=_ from e);exact cu e
 | KP d x=>obtain ⟨_,_,e⟩:=dn (show pf d x r h=_ from e);exact qG (f:=fun v=>v) e
 | KQ d n x=>obtain ⟨_,_,e⟩:=dn (show ph d n x r h=_ from e);obtain ⟨_,e⟩:=aC e;exact cu e
 | cn es x y=>
  obtain ⟨_,_,_,e⟩:=cY (show sg es x y r h=_ from e)
  rcases cW e with ⟨i,o,l,c,_,e⟩|⟨i,o,l,c,_,e⟩|⟨_,e⟩
  ·obtain ⟨_,e⟩:=aC e;exact cu e
  ·obtain ⟨_,e⟩:=aC e;exact cu e
  ·cases e
 | Up len es x y=>
  obtain ⟨_,_,_,e⟩:=cY (show vi len es x y r h=_ from e)
  obtain ⟨_,_,_,e⟩:=cD e
  obtain ⟨_,e⟩:=aC e;exact cu e
 | idxs x y=>
  obtain ⟨_,_,_,e⟩:=cY (show gG x y r h=_ from e)
  obtain ⟨_,_,e⟩:=cB e
  exact qG (f:=fun b=>.int .u8 (.ofNat b)) e
 | KR len es agg x y=>exact TY e
 | ext i x=>obtain ⟨_,_,e⟩:=yU (show vj i x r h=_ from e);exact qG (f:=fun v=>v) e
 | wg t z ok x y=>exact XC e
 | yn=>cases hf
 | del=>cases hf
 | FY x=>
  rcases eZ (show po x r h=_ from e) with ⟨i,_,e⟩|⟨_,e⟩
  ·obtain ⟨l,c,_,e⟩:=dF e;exact cu e
  ·exact cu e
 | len x=>exact XE e
 | iw x=>obtain ⟨_,_,e⟩:=cB (show iw (ev x r) h=_ from e);exact cu e
 | cap x=>
  rcases cW (show pV x r h=_ from e) with ⟨i,o,l,c,_,e⟩|⟨i,o,l,c,_,e⟩|⟨_,e⟩
  ·exact cu e
  ·cases e
  ·exact cu e
 | max mn xs=>
  have e:Dh mn (fY xs r) h=_:=e
  generalize fY xs r=l at e
  cases l with
  | nil=>cases e
  | cons a l=>obtain ⟨_,_,_,e⟩:=bu (show AV.dp a (fun k b=>yO mn k h l b) (.err 76)=_ from e);exact Kh e
 | app=>cases hf
 | apps=>cases hf
 | Vj=>cases hf
 | Vk=>cases hf
 | KS=>cases hf
 | CT=>cases hf
 | ML=>cases hf
 | KU t z ok x=>exact XD e
 | aj k x y=>
  obtain ⟨_,_,_,e⟩:=dQ (show jx k x y r h=_ from e)
  obtain ⟨_,_,_,e⟩:=dQ e
  obtain ⟨_,e⟩:=aC e
  exact cu e
 | real im x=>obtain ⟨_,_,_,_,e⟩:=fG (show fD im x r h=_ from e);exact cu e
 | KW x=>
  rcases cW (show mM x r h=_ from e) with ⟨i,o,l,c,_,e⟩|⟨i,o,l,c,_,e⟩|⟨_,e⟩
  ·rcases gy e with ⟨_,e⟩|⟨m,_,e⟩
   ·cases e
   ·exact cu e
  ·rcases gy e with ⟨_,e⟩|⟨m,_,e⟩
   ·cases e
   ·exact cu e
  ·exact cu e
 | FZ=>cases hf
 | bad=>cases hf
variable {ops:Array Oper}
def aR (L:Array Bool) (i:Nat):Prop:=L.getD i false=true
def Xn (ops:Array Oper) (L:Array Bool):Prop:=∀j o,ops[j]?=some o→aR L j→∀e,e∈o.after→Region.binds .any e=true→aR L e.on
def Bf (ops:Array Oper) (i j:Nat):Prop:=∀L,Xn ops L→aR L j→aR L i
theorem Bf.trans {i j k:Nat} (h:Bf ops i j) (g:Bf ops j k):Bf ops i k:=fun L c l=>h L c (g L c l)
theorem oC {g:Nat→Nat} {i:Nat}:∀(es:List Edge) (s:Nat),(es.foldl (fun s e=>if Region.binds .any e then s ||| 2 ^ e.on ||| g e.on else s) s).testBit i=true→
  s.testBit i=true∨∃e,e∈es∧Region.binds .any e=true∧(i=e.on∨(g e.on).testBit i=true)
 | [],s,h=>.inl h
 | e::es,s,h=>by
  rw [List.foldl_cons] at h
  rcases oC es _ h with g|⟨e',h1,h2,h3⟩
  ·by_cases hb:Region.binds .any e=true
   ·rw [if_pos hb] at g
    rw [Nat.testBit_or,Nat.testBit_or,Bool.or_eq_true,Bool.or_eq_true] at g
    rcases g with (g|g)|g
    ·exact .inl g
    ·rw [Nat.testBit_two_pow] at g
     exact .inr ⟨e,by simp,hb,.inl (of_decide_eq_true g).symm⟩
    ·exact .inr ⟨e,by simp,hb,.inr g⟩
   ·rw [if_neg hb] at g;exact .inl g
  ·exact .inr ⟨e',by simp [h1],h2,h3⟩
theorem lK {prev:List Nat} (hp:∀j i,(prev.getD j 0).testBit i=true→Bf ops i j):∀(os pre:List Oper) (acc:List Nat),ops.toList=pre ++ os→acc.length=pre.length→(∀j i,(acc.getD j 0).testBit i=true→Bf ops i j)→∀j i,((sm prev os acc).getD j 0).testBit i=true→Bf ops i j
 | [],pre,acc,_,_,h=>h
 | o::os,pre,acc,e,hl,h=>by
  refine lK hp os (pre ++ [o]) _ (by rw [e];simp) (by simp [hl]) ?_
  intro j i hj
  rcases Nat.lt_trichotomy j acc.length with g|g|g
  ·rw [List.getD_eq_getElem?_getD,List.getElem?_append_left g] at hj
   exact h j i (by rw [List.getD_eq_getElem?_getD];exact hj)
  ·subst g
   rw [List.getD_eq_getElem?_getD,List.getElem?_append_right (Nat.le_refl _)] at hj
   simp only [Nat.sub_self,List.getElem?_cons_zero,Option.getD_some] at hj
   have ho:ops[acc.length]?=some o:=by rw [←Array.getElem?_toList,e,hl];simp
   rcases oC (g:=fun k=>if k < acc.length then acc.getD k 0 else prev.getD k 0) _ _ hj with g|⟨e',h1,h2,h3⟩
   ·simp at g
   ·have hb:Bf ops e'.on acc.length:=fun L c l=>c _ o ho l e' (by simpa using h1) h2
    rcases h3 with rfl|h3
    ·exact hb
    ·split at h3
     ·exact (h _ _ h3).trans hb
     ·exact (hp _ _ h3).trans hb
  ·rw [List.getD_eq_getElem?_getD,List.getElem?_eq_none (by simp;omega)] at hj
   simp at hj
theorem Ki:∀j i,((ny ops.toList).getD j 0).testBit i=true→Bf ops i j:=by
 have h0:∀j i,(([]:List Nat).getD j 0).testBit i=true→Bf ops i j:=fun j i g=>by simp at g
 exact lK (lK (lK h0 _ [] [] rfl rfl h0) _ [] [] rfl rfl h0) _ [] [] rfl rfl h0
def Jz (ops:Array Oper) (i j:Nat):Bool:=((ny ops.toList).getD j 0).testBit i
theorem gQ {i j:Nat} (h:Jz ops i j=true):Bf ops i j:=Ki j i h
def dh (acc:List Nat) (x:Nat×Bk):List Nat:=match x.2 with
 | .dM=>x.1::acc
 | _=>acc
def cm (l:List (Nat×Bk)):List Nat:=l.foldl dh []
theorem qh (l:List (Nat×Bk)) (x:Nat×Bk):cm (l ++ [x])=dh (cm l) x:=by simp [cm]
theorem oD:∀(m:List (Nat×Bk)) (acc:List Nat) (x:Nat),x∈acc→x∈m.foldl dh acc
 | [],acc,x,hx=>hx
 | y::m,acc,x,hx=>oD m _ x (by unfold dh;split<;>simp [hx])
theorem zI:∀(m:List (Nat×Bk)) (acc:List Nat) (x:Nat),(x,Bk.dM)∈m→x∈m.foldl dh acc
 | [],acc,x,hx=>by cases hx
 | y::m,acc,x,hx=>by
  rcases List.mem_cons.1 hx with rfl|hx
  ·exact oD m _ x (by simp [dh])
  ·exact zI m _ x hx
theorem MI {l pre:List (Nat×Bk)} {i:Nat} (h2:(match l.find? (fun x=>Na x.2) with|some (e,_)=>Jz ops i e|none=>true)=true)
  (hc:∀q (hq:q < l.length),l[q].2=.dM→∀x,x∈cm (pre ++ l.take q)→Bf ops x l[q].1):∀q2 (hq2:q2 < l.length),l[q2].2=.dM→Bf ops i l[q2].1:=by
 intro q2 hq2 he
 cases hf:l.find? (fun x=>Na x.2) with
 | none=>
  have:=List.find?_eq_none.1 hf l[q2] (List.getElem_mem hq2)
  rw [he] at this;simp [Na] at this
 | some y=>
  rw [hf] at h2
  obtain ⟨g1,as,bs,g2,g3⟩:=List.find?_eq_some_iff_append.1 hf
  have hy:y.2=.dM:=by
   cases hy:y.2<;>rw [hy] at g1<;>first|rfl|cases g1
  have hlen:as.length < l.length:=by rw [g2];simp
  have au:l[as.length]=y:=by simp [g2]
  have hl:Bf ops i l[as.length].1:=by rw [au];exact gQ h2
  rcases Nat.lt_trichotomy as.length q2 with g|g|g
  ·refine hl.trans (hc q2 hq2 he _ ?_)
   refine zI _ [] _ (List.mem_append_right _ ?_)
   have:(l[as.length].1,Bk.dM)=l[as.length]:=by rw [au,←hy]
   rw [this]
   exact List.mem_take_iff_getElem.2 ⟨as.length,by omega,rfl⟩
  ·subst g;exact hl
  ·have hm:l[q2]∈as:=by
    have:l[q2]=as[q2]:=by simp [g2,List.getElem_append_left g]
    rw [this];exact List.getElem_mem g
   have:=g3 _ hm
   rw [he] at this;simp [Na] at this
theorem oE:∀(l pre:List (Nat×Bk)) (fl:Bool),gZ (Jz ops) fl l (cm pre)=true→(cm pre).Pairwise (fun x y=>Bf ops y x)→∀q (hq:q < l.length),
   (l[q].2=.dM→∀x,x∈cm (pre ++ l.take q)→Bf ops x l[q].1)∧
   (∀n,l[q].2=.rd n→n≤(cm (pre ++ l.take q)).length∧∀x,x∈(cm (pre ++ l.take q)).drop n→Bf ops x l[q].1)∧
   (l[q].2≠.dM→∀q2 (h2:q2 < l.length),q < q2→l[q2].2=.dM→Bf ops l[q].1 l[q2].1)
 | [],pre,fl,_,_,q,hq=>by simp at hq
 | (i,b)::l,pre,fl,h,hp,q,hq=>by
  have hall:b=.dM→∀x,x∈cm pre→Bf ops x i:=by
   intro hb x hx
   subst hb
   simp only [gZ,Bool.and_eq_true] at h
   cases he:cm pre with
   | nil=>rw [he] at hx;cases hx
   | cons e es=>
    rw [he] at h hx hp
    rcases List.mem_cons.1 hx with rfl|hx
    ·exact gQ h.1
    ·exact ((List.pairwise_cons.1 hp).1 x hx).trans (gQ h.1)
  have e1:cm (pre ++ [(i,b)])=dh (cm pre) (i,b):=qh _ _
  have hp2:(cm (pre ++ [(i,b)])).Pairwise (fun x y=>Bf ops y x):=by
   rw [e1]
   cases b with
   | dM=>exact List.pairwise_cons.2 ⟨hall rfl,hp⟩
   | rd n=>exact hp
   | new=>exact hp
  have hih:∃fl',gZ (Jz ops) fl' l (cm (pre ++ [(i,b)]))=true:=by
   rw [e1]
   cases b with
   | dM=>simp only [gZ,Bool.and_eq_true] at h;exact ⟨_,h.2⟩
   | rd n=>simp only [gZ,Bool.and_eq_true] at h;exact ⟨_,h.2⟩
   | new=>simp only [gZ,Bool.and_eq_true] at h;exact ⟨_,h.2⟩
  obtain ⟨fl',hih⟩:=hih
  have ih:=oE l (pre ++ [(i,b)]) fl' hih hp2
  have hnext:b≠.dM→∀q2 (hq2:q2 < l.length),l[q2].2=.dM→Bf ops i l[q2].1:=by
   intro hb
   refine MI (pre:=pre ++ [(i,b)]) ?_ (fun q hq he=>(ih q hq).1 he)
   cases b with
   | dM=>exact absurd rfl hb
   | rd n=>simp only [gZ,Bool.and_eq_true] at h;exact h.1.2
   | new=>simp only [gZ,Bool.and_eq_true] at h;exact h.1
  cases q with
  | zero=>
   refine ⟨fun hb x hx=>hall hb x (by simpa using hx),fun m hm=>?_,fun hb q2 hq2 hlt he=>?_⟩
   ·have hm:b=.rd m:=hm
    subst hm
    simp only [gZ,Bool.and_eq_true] at h
    obtain ⟨⟨⟨_,h1⟩,h2⟩,h3⟩:=h
    simp only [List.take_zero,List.append_nil,List.getElem_cons_zero]
    cases hd:(cm pre).drop m with
    | nil=>
     rw [hd] at h1
     exact ⟨Nat.le_of_eq (by simpa using h1),fun x hx=>by cases hx⟩
    | cons e es=>
     rw [hd] at h1
     have hlt:m < (cm pre).length:=by
      rcases Nat.lt_or_ge m (cm pre).length with g|g
      ·exact g
      ·rw [List.drop_of_length_le g] at hd;cases hd
     refine ⟨Nat.le_of_lt hlt,fun x hx=>?_⟩
     have hpd:((cm pre).drop m).Pairwise (fun x y=>Bf ops y x):=List.Pairwise.sublist (List.drop_sublist _ _) hp
     rw [hd] at hpd
     rcases List.mem_cons.1 hx with rfl|hx
     ·exact gQ h1
     ·exact ((List.pairwise_cons.1 hpd).1 x hx).trans (gQ h1)
   ·cases q2 with
    | zero=>omega
    | succ q2=>exact hnext hb q2 (by simpa using hq2) he
  | succ q=>
   have:=ih q (by simpa using hq)
   simp only [List.append_assoc,List.singleton_append] at this
   refine ⟨this.1,this.2.1,fun hn q2 h2 hlt he=>?_⟩
   cases q2 with
   | zero=>omega
   | succ q2=>exact this.2.2 hn q2 (by simpa using h2) (by omega) he
variable {P:Program} {G:Gl} {n:Nat} {names:List String} {ops:Array Oper} {l:List (Nat×Bk)}
theorem qH {α:Type} {l:List α} {p:Nat} (hp:p < l.length):(l[p],p)∈l.zipIdx:=by
 rw [List.mem_zipIdx_iff_getElem?];simp [hp]
structure AW (P:Program) (G:Gl) (n:Nat) (names:List String) (ops:Array Oper) (l:List (Nat×Bk)):Prop where
 len:l.length=ops.size
 Uk:∀q (hq:q < l.length),l[q].1 < ops.size
 cover:∀i,i < ops.size→∃q,∃hq:q < l.length,l[q].1=i
 inj:∀p q (hp:p < l.length) (hq:q < l.length),l[p].1=l[q].1→p=q
 lt:∀(j:Nat) (o:Oper),ops[j]?=some o→∀e,e∈o.after→Region.binds .any e=true→e.on < ops.size∧(ny ops.toList).getD e.on 0 < (ny ops.toList).getD j 0
 ord:∀p q (hp:p < l.length) (hq:q < l.length),Jz ops l[p].1 l[q].1=true→p < q∨(l[p].2=.new∧∃m,l[q].2=.rd m)
 kind:∀q (hq:q < l.length),sn P G n names ops l l[q].1 l[q].2=true
 seq:gZ (Jz ops) true l []=true
 dst:∀(i j:Nat) (oi oj:Oper) (t:Nat),ops[i]?=some oi→ops[j]?=some oj→oi.dst=some t→oj.dst=some t→i=j
 look:∀(i j:Nat) (oi oj:Oper) (t:Nat),ops[i]?=some oi→ops[j]?=some oj→t∈looks P G n names ops oi→oj.dst=some t→i=j∨Jz ops i j=true∨Jz ops j i=true
 Xq:∀q (hq:q < l.length),l[q].2=.new→∀t,t∈looks P G n names ops (ops.getD l[q].1 default)→∀(j:Nat) (oj:Oper),ops[j]?=some oj→oj.dst=some t→Jz ops j l[q].1=true
theorem Jw (h:dt P G n names ops l=true):AW P G n names ops l:=by
 unfold dt at h
 simp only [Bool.and_eq_true,List.all_eq_true,List.any_eq_true,beq_iff_eq] at h
 obtain ⟨⟨⟨⟨⟨⟨⟨⟨⟨⟨h1,h0⟩,h2⟩,h3⟩,h4⟩,h5⟩,h6⟩,h7⟩,h8⟩,h9⟩,h10⟩:=h
 have opm:∀{j o},ops[j]?=some o→(o,j)∈ops.toList.zipIdx:=fun {j o} e=>by
  rw [List.mem_zipIdx_iff_getElem?];simpa using e
 refine ⟨h1,fun q hq=>by simpa using h0 _ (List.getElem_mem hq),fun i hi=>?_,fun p q hp hq e=>?_,fun j o ho e he hb=>?_,fun p q hp hq e=>?_,fun q hq=>h6 _ (List.getElem_mem hq),h7,fun i j oi oj t hi hj ti tj=>?_,fun i j oi oj t hi hj ti tj=>?_,fun q hq hn t ht j oj hj tj=>?_⟩
 ·obtain ⟨x,hx,e⟩:=h2 i (by simpa using hi)
  obtain ⟨q,hq,rfl⟩:=List.getElem_of_mem hx
  exact ⟨q,hq,e⟩
 ·have:=h3 _ (qH hp) _ (qH hq)
  simp only [e,bne_self_eq_false,Bool.false_or,beq_iff_eq] at this
  exact this
 ·have:=h4 _ (opm ho)
  have:=Array.all_eq_true_iff_forall_mem.1 this e he
  simpa [hb] using this
 ·have h:=h5 _ (qH hp) _ (qH hq)
  have e':((ny ops.toList).getD l[q].1 0).testBit l[p].1=true:=e
  simp only [e',Bool.not_true,Bool.false_or,Bool.or_eq_true,decide_eq_true_eq,Bool.and_eq_true] at h
  rcases h with h|⟨g1,g2⟩
  ·exact .inl h
  ·refine .inr ⟨?_,?_⟩
   ·revert g1;cases l[p].2<;>simp
   ·revert g2;cases l[q].2<;>simp
 ·have h:=h8 _ (opm hi)
  rw [ti] at h
  simp only [Option.all_some,List.all_eq_true] at h
  have:=h _ (opm hj)
  simpa [tj] using this
 ·have h:=h9 _ (opm hi) t ti _ (opm hj)
  simp only [tj,bne_self_eq_false,Bool.false_or,Bool.or_eq_true,beq_iff_eq] at h
  rcases h with (h|h)|h
  ·exact .inl h
  ·exact .inr (.inl h)
  ·exact .inr (.inr h)
 ·have h:(!(l[q].2 matches .new) || (looks P G n names ops (ops.getD l[q].1 default)).all fun t=>ops.toList.zipIdx.all fun x=>x.1.dst != some t || Jz ops x.2 l[q].1)=true:=h10 _ (List.getElem_mem hq)
  rw [hn] at h
  simp only [Bool.not_true,Bool.false_or,List.all_eq_true] at h
  have:=h t ht _ (opm hj)
  simpa [tj] using this
variable {P:Program} {G:Gl} [NB G] {n:Nat} {names:List String} {ops:Array Oper} {p:Pg} {run:gJ}
structure DS where
 r:A2
 h:Hp
 g:Hp
 hs:List Hp
def TZ (p:Pg) (run:gJ) (d:aH) (x:AI) (b:Bk) (wnt:Bool) (s s':DS) (v:AV):Prop:=
 s'.r=bL d v s.r∧match wnt,b with
  | false,.dM=>v=cA∧s'.h=s.h∧s'.g=s.h∧s'.hs=s.g::s.hs
  | false,.rd _=>v=cA∧s'.h=s.h∧s'.g=s.g∧s'.hs=s.hs
  | false,.new=>False
  | true,.dM=>x.res p run s.r s.h=.ok v s'.h∧s'.g=s'.h∧s'.hs=s.g::s.hs
  | true,.rd m=>∃op,x=.op op∧(∃h',op.run s.r s.g=.ok v h')∧kL op s.r v s.hs m=true∧s'.h=s.h∧s'.g=s.g∧s'.hs=s.hs
  | true,.new=>∃op,x=.op op∧op.run s.r s.h=.ok v s'.h∧s'.g=s.g∧s'.hs=s.hs
def NI (ops:Array Oper) (o:Oper) (r:A2) (wnt:Bool):Prop:=match o.guard with
 | none=>wnt=true
 | some (j,w)=>∃t b,(ops[j]?).bind (·.dst)=some t∧t < 256∧gb w (ar (hi t) (lo t) r)=.bool b∧wnt=(b == w)
structure YX (P:Program) (G:Gl) (n:Nat) (names:List String) (ops:Array Oper) (p:Pg) (run:gJ) (o:Oper) (b:Bk) (s s':DS) (d:aH) (x:AI) (wnt:Bool) (v:AV):Prop where
 dst:gA G n o.dst=some d
 op:cq P G names o=some x
 want:NI ops o s.r wnt
 DH:TZ p run d x b wnt s s' v
theorem Eg {d:aH} {k:DK} {r:A2} {g:Hp} {hs:List Hp} {v:RT} (h:(nz d k r g hs v).Safe):∃u h',v=.ok u h'∧nz d k r g hs v=k (bL d u r) h' h' (g::hs):=by
 cases v with
 | ok u h'=>exact ⟨u,h',rfl,rfl⟩
 | err m=>exact (RS.Safe.err h).elim
 | ch m k=>exact (RS.Safe.err h).elim
theorem Eh {d:aH} {op:oG} {m:Nat} {k:DK} {r:A2} {h g:Hp} {hs:List Hp} {v:RV} (hh:(Gd d op m k r h g hs v).Safe):∃u h',v=.ok u h'∧kL op r u hs m=true∧Gd d op m k r h g hs v=k (bL d u r) h g hs:=by
 cases v with
 | ok u h'=>
  have hh:(@Bool.rec (fun _=>RS) (.err 211) (k (bL d u r) h g hs) (kL op r u hs m)).Safe:=hh
  show ∃u' h2,RV.ok u h'=.ok u' h2∧_∧(@Bool.rec (fun _=>RS) (.err 211) (k (bL d u r) h g hs) (kL op r u hs m))=_
  cases hr:kL op r u hs m with
  | false=>rw [hr] at hh;exact (RS.Safe.err hh).elim
  | true=>exact ⟨u,h',rfl,hr,rfl⟩
 | err m=>exact (RS.Safe.err hh).elim
theorem Ei {d:aH} {k:DK} {r:A2} {g:Hp} {hs:List Hp} {v:RV} (h:(Ge d k r g hs v).Safe):∃u h',v=.ok u h'∧Ge d k r g hs v=k (bL d u r) h' g hs:=by
 cases v with
 | ok u h'=>exact ⟨u,h',rfl,rfl⟩
 | err m=>exact (RS.Safe.err h).elim
def DK.at (k:DK) (s:DS):RS:=k s.r s.h s.g s.hs
theorem wa {b:Bk} {d:aH} {x:AI} {k:DK} {s:DS} (h:(uq b d x p run k s.r s.h s.g s.hs).Safe) (hb:b=.dM∨∃op,x=.op op):∃v s',TZ p run d x b true s s' v∧uq b d x p run k s.r s.h s.g s.hs=k.at s':=by
 have heff:∀{y:RT},(nz d k s.r s.g s.hs y).Safe→uq .dM d x p run k s.r s.h s.g s.hs=nz d k s.r s.g s.hs y→y=x.res p run s.r s.h→∃v s',TZ p run d x .dM true s s' v∧uq .dM d x p run k s.r s.h s.g s.hs=k.at s':=by
  intro y hy e1 e2
  obtain ⟨u,h',g1,g2⟩:=Eg hy
  exact ⟨u,⟨bL d u s.r,h',h',s.g::s.hs⟩,⟨rfl,e2▸g1,rfl,rfl⟩,by rw [e1,g2];rfl⟩
 cases x with
 | op o=>
  cases b with
  | dM=>exact heff (y:=(o.run s.r s.h).kr) h rfl rfl
  | rd m=>
   obtain ⟨u,h',g1,g2,g3⟩:=Eh (show (Gd d o m k s.r s.h s.g s.hs (o.run s.r s.g)).Safe from h)
   exact ⟨u,⟨bL d u s.r,s.h,s.g,s.hs⟩,⟨rfl,o,rfl,⟨h',g1⟩,g2,rfl,rfl,rfl⟩,g3⟩
  | new=>
   obtain ⟨u,h',g1,g2⟩:=Ei (show (Ge d k s.r s.g s.hs (o.run s.r s.h)).Safe from h)
   exact ⟨u,⟨bL d u s.r,h',s.g,s.hs⟩,⟨rfl,o,rfl,g1,rfl,rfl⟩,g2⟩
 | uM c y=>
  rcases hb with rfl|⟨_,e⟩
  ·exact heff (y:=hE c (ev y s.r) s.h) h rfl rfl
  ·cases e
 | call f xs=>
  rcases hb with rfl|⟨_,e⟩
  ·exact heff (y:=aD p run f (fY xs s.r) s.h) h rfl rfl
  ·cases e
 | jK y xs=>
  rcases hb with rfl|⟨_,e⟩
  ·exact heff (y:=jM p run (ev y s.r) (fY xs s.r) s.h) h rfl rfl
  ·cases e
 | inv c y xs=>
  rcases hb with rfl|⟨_,e⟩
  ·exact heff (y:=aI p run c (ev y s.r) (fY xs s.r) s.h) h rfl rfl
  ·cases e
theorem MJ {o:Oper} {b:Bk} {k:DK} {s:DS} (h:((DI.mk b (fJ P G n names ops o)).exec p run k s.r s.h s.g s.hs).Safe)
  (hb:b=.dM∨∃op,cq P G names o=some (.op op)) :
  ∃d x wnt v s',YX P G n names ops p run o b s s' d x wnt v∧(DI.mk b (fJ P G n names ops o)).exec p run k s.r s.h s.g s.hs=k.at s':=by
 have hbad:¬ ((DI.mk b nv).exec p run k s.r s.h s.g s.hs).Safe:=by
  intro hh
  cases b with
  | dM=>exact RS.Safe.err (n:=400) hh
  | rd m=>exact RS.Safe.err (n:=400) hh
  | new=>exact RS.Safe.err (n:=400) hh
 unfold fJ at h ⊢
 split at h
 ·rename_i d x hd hx
  have hb':b=.dM∨∃op,x=.op op:=hb.imp id fun ⟨op,e⟩=>⟨op,by rw [e] at hx;exact (Option.some.inj hx).symm⟩
  split at h
  ·rename_i hg
   obtain ⟨v,s',g1,g2⟩:=wa (show (uq b d x p run k s.r s.h s.g s.hs).Safe from h) hb'
   exact ⟨d,x,true,v,s',⟨hd,hx,by simp [NI,hg],g1⟩,g2⟩
  ·rename_i j w hg
   split at h
   ·rename_i t ht
    split at h
    ·rename_i s2 hsl
     try simp only [hsl]
     obtain ⟨es2,ht256⟩:=JS hsl
     subst s2
     have h:(AV.bH (gb w (ar (hi t) (lo t) s.r)) (SU b d x k s.r s.h s.g s.hs p run w) (.err 212)).Safe:=h
     show ∃d' x' wnt v s',_∧(AV.bH (gb w (ar (hi t) (lo t) s.r)) (SU b d x k s.r s.h s.g s.hs p run w) (.err 212))=_
     obtain ⟨c,hc,e⟩:=eO h
     rw [e] at h ⊢
     have h:(@Bool.rec (fun _=>RS) (KZ b d k s.r s.h s.g s.hs) (uq b d x p run k s.r s.h s.g s.hs) (eH c w)).Safe:=h
     show ∃d' x' wnt v s',_∧(@Bool.rec (fun _=>RS) (KZ b d k s.r s.h s.g s.hs) (uq b d x p run k s.r s.h s.g s.hs) (eH c w))=_
     rw [xo] at h ⊢
     have hw:∀z,z=(c == w)→NI ops o s.r z:=fun z hz=>by
      simp only [NI,hg];exact ⟨t,c,ht,ht256,hc,hz⟩
     cases hcw:(c == w) with
     | true=>
      rw [hcw] at h
      obtain ⟨v,s',g1,g2⟩:=wa (show (uq b d x p run k s.r s.h s.g s.hs).Safe from h) hb'
      exact ⟨d,x,true,v,s',⟨hd,hx,hw _ hcw.symm,g1⟩,g2⟩
     | false=>
      rw [hcw] at h
      cases b with
      | dM=>exact ⟨d,x,false,cA,⟨bL d cA s.r,s.h,s.h,s.g::s.hs⟩,⟨hd,hx,hw _ hcw.symm,⟨rfl,rfl,rfl,rfl,rfl⟩⟩,rfl⟩
      | rd m=>exact ⟨d,x,false,cA,⟨bL d cA s.r,s.h,s.g,s.hs⟩,⟨hd,hx,hw _ hcw.symm,⟨rfl,rfl,rfl,rfl,rfl⟩⟩,rfl⟩
      | new=>exact (RS.Safe.err (n:=214) h).elim
    ·exact absurd h hbad
   ·exact absurd h hbad
 ·exact absurd h hbad
theorem zu {kf:A2→Hp→RS}:∀(l:List (Nat×Bk)) (s:DS),(∀q (hq:q < l.length),l[q].2=.dM∨∃op,cq P G names (ops.getD l[q].1 default)=some (.op op))→
  (nA (aD p run) (aI p run) kf (l.map fun (i,b)=>.mk b (fJ P G n names ops (ops.getD i default))) s.r s.h s.g s.hs).Safe→
  ∃T:Nat→DS,T 0=s∧(∀q (hq:q < l.length),∃d x wnt v,YX P G n names ops p run (ops.getD l[q].1 default) l[q].2 (T q) (T (q+1)) d x wnt v)∧
   nA (aD p run) (aI p run) kf (l.map fun (i,b)=>.mk b (fJ P G n names ops (ops.getD i default))) s.r s.h s.g s.hs=kf (T l.length).r (T l.length).h
 | [],s,_,_=>⟨fun _=>s,rfl,fun q hq=>by simp at hq,rfl⟩
 | (i,b)::l,s,hb,h=>by
  have e0:nA (aD p run) (aI p run) kf (((i,b)::l).map fun (i,b)=>.mk b (fJ P G n names ops (ops.getD i default))) s.r s.h s.g s.hs =
   (DI.mk b (fJ P G n names ops (ops.getD i default))).exec p run (nA (aD p run) (aI p run) kf (l.map fun (i,b)=>.mk b (fJ P G n names ops (ops.getD i default)))) s.r s.h s.g s.hs:=zD _ _ _ _ _ _
  rw [e0] at h
  obtain ⟨d,x,wnt,v,s',g1,g2⟩:=MJ h (hb 0 (by simp))
  rw [g2] at h
  obtain ⟨T,t1,t2,t3⟩:=zu l s' (fun q hq=>hb (q+1) (by simpa using hq)) h
  refine ⟨fun q=>match q with|0=>s|q+1=>T q,rfl,fun q hq=>?_,?_⟩
  ·cases q with
   | zero=>exact ⟨d,x,wnt,v,by simpa [t1] using g1⟩
   | succ q=>exact t2 q (by simpa using hq)
  ·rw [e0,g2]
   exact t3
section
variable {P:Program} {G:Gl} [NB G] {n:Nat} {names:List String} {ops:Array Oper} {p:Pg} {run:gJ} {l:List (Nat×Bk)}
def bO (ops:Array Oper) (l:List (Nat×Bk)) (q:Nat) (hq:q < l.length):Oper:=ops.getD l[q].1 default
def Trace (P:Program) (G:Gl) (n:Nat) (names:List String) (ops:Array Oper) (p:Pg) (run:gJ) (l:List (Nat×Bk)) (T:Nat→DS):Prop:=
 ∀q (hq:q < l.length),∃d x wnt v,YX P G n names ops p run (bO ops l q hq) l[q].2 (T q) (T (q+1)) d x wnt v
theorem cE (K:AW P G n names ops l) {q:Nat} (hq:q < l.length):ops[l[q].1]?=some (bO ops l q hq):=by
 have:=K.Uk q hq
 simp [bO,this]
def ec (l:List (Nat×Bk)) (q:Nat):Nat:=(cm (l.take q)).length
theorem CB:ec l 0=0:=rfl
theorem fI {q:Nat} (hq:q < l.length):cm (l.take (q+1))=dh (cm (l.take q)) l[q]:=by
 rw [List.take_succ_eq_append_getElem hq,qh]
theorem mX {q:Nat} (hq:q < l.length) (he:l[q].2=.dM):ec l (q+1)=ec l q+1:=by
 unfold ec;rw [fI hq];simp [dh,he]
theorem pJ {q:Nat} (hq:q < l.length) (he:l[q].2≠.dM):ec l (q+1)=ec l q:=by
 unfold ec;rw [fI hq]
 cases hb:l[q].2 with
 | dM=>exact absurd hb he
 | rd m=>simp [dh,hb]
 | new=>simp [dh,hb]
theorem ij:∀{q q':Nat},q≤q'→q'≤l.length→ec l q≤ec l q':=by
 intro q q' h hl
 induction h with
 | refl=>exact Nat.le_refl _
 | @step m h ih=>
  have ih:=ih (by omega)
  by_cases he:(l[m]'(by omega)).2=.dM
  ·rw [mX (by omega) he];omega
  ·rw [pJ (by omega) he];exact ih
theorem vK {q q':Nat} (h:q < q') (hl:q'≤l.length) (he:(l[q]'(by omega)).2=.dM):ec l q < ec l q':=by
 have:=ij (l:=l) (show q+1≤q' by omega) hl
 rw [mX (by omega) he] at this;omega
theorem ou:∀{q' k:Nat},q'≤l.length→k < ec l q'→∃q,∃hq:q < l.length,q < q'∧l[q].2=.dM∧ec l q=k:=by
 intro q' k hl hk
 induction q' with
 | zero=>rw [CB] at hk;omega
 | succ m ih=>
  by_cases he:(l[m]'(by omega)).2=.dM
  ·rw [mX (by omega) he] at hk
   rcases Nat.lt_or_ge k (ec l m) with g|g
   ·obtain ⟨q,hq,h1,h2,h3⟩:=ih (by omega) g
    exact ⟨q,hq,by omega,h2,h3⟩
   ·exact ⟨m,by omega,by omega,he,by omega⟩
  ·rw [pJ (by omega) he] at hk
   obtain ⟨q,hq,h1,h2,h3⟩:=ih (by omega) hk
   exact ⟨q,hq,by omega,h2,h3⟩
theorem zJ:∀{q' q:Nat} (hl:q'≤l.length) (h:q < q'),(l[q]'(by omega)).2=.dM→(cm (l.take q'))[ec l q' - 1 - ec l q]?=some (l[q]'(by omega)).1:=by
 intro q' q hl h he
 induction q' with
 | zero=>omega
 | succ m ih=>
  rw [fI (by omega)]
  by_cases hem:(l[m]'(by omega)).2=.dM
  ·rw [mX (by omega) hem]
   have e1:dh (cm (l.take m)) (l[m]'(by omega))=(l[m]'(by omega)).1::cm (l.take m):=by simp [dh,hem]
   rw [e1]
   rcases Nat.lt_or_ge q m with g|g
   ·have h1:=vK g (by omega) he
    have:=ih (by omega) g he
    rw [show ec l m+1 - 1 - ec l q=(ec l m - 1 - ec l q)+1 by omega,List.getElem?_cons_succ]
    exact this
   ·obtain rfl:q=m:=by omega
    simp
  ·rw [pJ (by omega) hem]
   have e1:dh (cm (l.take m)) (l[m]'(by omega))=cm (l.take m):=by
    cases hb:(l[m]'(by omega)).2 with
    | dM=>exact absurd hb hem
    | rd m=>simp [dh,hb]
    | new=>simp [dh,hb]
   rw [e1]
   rcases Nat.lt_or_ge q m with g|g
   ·exact ih (by omega) g he
   ·obtain rfl:q=m:=by omega
    exact absurd he hem
theorem Jt (K:AW P G n names ops l) {q q':Nat} (hq:q < l.length) (hq':q' < l.length) (h:q < q') (he:l[q].2=.dM) (he':l[q'].2=.dM):Bf ops l[q].1 l[q'].1:=by
 have:=(oE l [] true K.seq List.Pairwise.nil q' hq').1 he'
 refine this _ ?_
 simp only [List.nil_append]
 exact List.mem_of_getElem? (zJ (by omega) h he)
theorem NJ (K:AW P G n names ops l) {q:Nat} (hq:q < l.length) {m:Nat} (hb:l[q].2=.rd m):m≤ec l q∧∀q1 (h1:q1 < q),(l[q1]'(by omega)).2=.dM→ec l q1 < ec l q - m→Bf ops (l[q1]'(by omega)).1 l[q].1:=by
 obtain ⟨g1,g2⟩:=(oE l [] true K.seq List.Pairwise.nil q hq).2.1 m hb
 simp only [List.nil_append] at g1 g2
 refine ⟨g1,fun q1 h1 he hlt=>g2 _ ?_⟩
 have:=zJ (by omega) h1 he
 refine List.mem_of_getElem? (i:=ec l q - 1 - ec l q1 - m) ?_
 rw [List.getElem?_drop]
 rw [show m+(ec l q - 1 - ec l q1 - m)=ec l q - 1 - ec l q1 by omega]
 exact this
theorem xg (K:AW P G n names ops l) {q q2:Nat} (hq:q < l.length) (hq2:q2 < l.length) (h:q < q2) (hb:l[q].2≠.dM) (he:l[q2].2=.dM):Bf ops l[q].1 l[q2].1:=
 (oE l [] true K.seq List.Pairwise.nil q hq).2.2 hb q2 hq2 h he
variable {T:Nat→DS}
theorem Ua (hT:Trace P G n names ops p run l T) (h0:(T 0).hs=[]):∀q,q≤l.length→(T q).hs.length=ec l q:=by
 intro q hq
 induction q with
 | zero=>rw [h0];rfl
 | succ q ih=>
  have ih:=ih (by omega)
  obtain ⟨d,x,wnt,v,D⟩:=hT q (by omega)
  have hs:=D.DH.2
  cases hb:(l[q]'(by omega)).2 with
  | dM=>
   rw [hb] at hs
   rw [mX (by omega) hb]
   cases wnt with
   | true=>rw [hs.2.2];simp [ih]
   | false=>rw [hs.2.2.2];simp [ih]
  | rd m=>
   rw [hb] at hs
   rw [pJ (by omega) (by simp [hb])]
   cases wnt with
   | true=>obtain ⟨_,_,_,_,_,_,e⟩:=hs;rw [e];exact ih
   | false=>rw [hs.2.2.2];exact ih
  | new=>
   rw [hb] at hs
   rw [pJ (by omega) (by simp [hb])]
   cases wnt with
   | true=>obtain ⟨_,_,_,_,e⟩:=hs;rw [e];exact ih
   | false=>exact hs.elim
theorem MK (hT:Trace P G n names ops p run l T) {q:Nat} (hq:q < l.length):(T q).g::(T q).hs <:+ (T (q+1)).g::(T (q+1)).hs:=by
 obtain ⟨d,x,wnt,v,D⟩:=hT q hq
 have hs:=D.DH.2
 cases hb:(l[q]'(by omega)).2 with
 | dM=>
  rw [hb] at hs
  cases wnt with
  | true=>rw [hs.2.2];exact List.suffix_cons _ _
  | false=>rw [hs.2.2.2];exact List.suffix_cons _ _
 | rd m=>
  rw [hb] at hs
  cases wnt with
  | true=>obtain ⟨_,_,_,_,_,e1,e2⟩:=hs;rw [e1,e2];exact List.suffix_refl _
  | false=>rw [hs.2.2.1,hs.2.2.2];exact List.suffix_refl _
 | new=>
  rw [hb] at hs
  cases wnt with
  | true=>obtain ⟨_,_,_,e1,e2⟩:=hs;rw [e1,e2];exact List.suffix_refl _
  | false=>exact hs.elim
theorem Ej (hT:Trace P G n names ops p run l T) {q:Nat}:∀{q':Nat},q≤q'→q'≤l.length→(T q).g::(T q).hs <:+ (T q').g::(T q').hs:=by
 intro q' h hl
 induction h with
 | refl=>exact List.suffix_refl _
 | @step m h ih=>exact (ih (by omega)).trans (MK hT (by omega))
def bh (l:List (Nat×Bk)) (T:Nat→DS) (k:Nat):Hp:=(((T l.length).g::(T l.length).hs).reverse[k]?).getD (T 0).h
theorem Kj (hT:Trace P G n names ops p run l T) (h0:(T 0).hs=[]) {q:Nat} (hq:q≤l.length) {j:Nat} (hj:j≤ec l q):((T q).g::(T q).hs)[j]?=some (bh l T (ec l q - j)):=by
 obtain ⟨ys,e⟩:=Ej hT hq (Nat.le_refl _)
 have hlen:=Ua hT h0 q hq
 have hrev:((T l.length).g::(T l.length).hs).reverse=((T q).g::(T q).hs).reverse ++ ys.reverse:=by rw [←e,List.reverse_append]
 have hl2:((T q).g::(T q).hs).length=ec l q+1:=by simp [hlen]
 unfold bh
 rw [hrev,List.getElem?_append_left (by rw [List.length_reverse,hl2];omega),List.getElem?_reverse (by rw [hl2];omega),hl2]
 rw [show ec l q+1 - 1 - (ec l q - j)=j by omega]
 rw [List.getElem?_eq_getElem (by rw [hl2];omega)]
 rfl
theorem Md (hT:Trace P G n names ops p run l T) (h0:(T 0).hs=[]) {q:Nat} (hq:q≤l.length):bh l T (ec l q)=(T q).g:=by
 have:=Kj hT h0 hq (j:=0) (by omega)
 simpa using this.symm
theorem Xr (hT:Trace P G n names ops p run l T) (h0:(T 0).hs=[]) {q:Nat} (hq:q≤l.length) {j:Nat} (hj:j < ec l q):(T q).hs[j]?=some (bh l T (ec l q - 1 - j)):=by
 have:=Kj hT h0 hq (j:=j+1) (by omega)
 rw [List.getElem?_cons_succ] at this
 rw [this,show ec l q - (j+1)=ec l q - 1 - j by omega]
theorem zp (hT:Trace P G n names ops p run l T) (h0:(T 0).g=(T 0).h):∀q,q≤l.length→∃s,s≤q∧ec l s=ec l q∧(T s).h=(T s).g∧(∀q' (h1:s≤q') (h2:q' < q) (h3:q' < l.length),l[q'].2≠.dM)∧∀q',q' < s→ec l q' < ec l s:=by
 intro q hq
 induction q with
 | zero=>exact ⟨0,Nat.le_refl _,rfl,h0.symm,fun q' h1 h2=>by omega,fun q' h1=>by omega⟩
 | succ q ih=>
  by_cases he:(l[q]'(by omega)).2=.dM
  ·refine ⟨q+1,Nat.le_refl _,rfl,?_,fun q' h1 h2=>by omega,fun q' h1=>by have:=ij (l:=l) (show q'≤q by omega) (by omega);rw [mX (by omega) he];omega⟩
   obtain ⟨d,x,wnt,v,D⟩:=hT q (by omega)
   have hs:=D.DH.2
   rw [he] at hs
   cases wnt with
   | true=>exact hs.2.1.symm
   | false=>rw [hs.2.1,hs.2.2.1]
  ·obtain ⟨s,g1,g2,g3,g4,g5⟩:=ih (by omega)
   refine ⟨s,by omega,by rw [pJ (by omega) he];exact g2,g3,fun q' h1 h2 h3=>?_,g5⟩
   rcases Nat.lt_or_ge q' q with g|g
   ·exact g4 q' h1 g h3
   ·obtain rfl:q'=q:=by omega
    exact he
theorem Kk (hT:Trace P G n names ops p run l T) {q:Nat} (hq:q < l.length) {t:Nat} (ht:t < 256) (hd:(bO ops l q hq).dst≠some t):ar (hi t) (lo t) (T (q+1)).r=ar (hi t) (lo t) (T q).r:=by
 obtain ⟨d,x,wnt,v,D⟩:=hT q hq
 rw [D.DH.1]
 have hdst:=D.dst
 cases ho:(bO ops l q hq).dst with
 | none=>rw [ho] at hdst;cases hdst;rfl
 | some s=>
  rw [ho] at hdst hd
  obtain ⟨h1,h2,rfl⟩:=jc hdst
  show ar (hi t) (lo t) (dj (hi s) (lo s) v (T q).r)=_
  rw [dE,if_neg (fun g=>hd (by rw [(DJ ht h1).1 g]))]
theorem zK (hT:Trace P G n names ops p run l T) {q t:Nat} (ht:t < 256):∀{q':Nat},q≤q'→q'≤l.length→(∀q1 (h1:q≤q1) (h2:q1 < q') (h3:q1 < l.length),(bO ops l q1 h3).dst≠some t)→ar (hi t) (lo t) (T q').r=ar (hi t) (lo t) (T q).r:=by
 intro q' h hl hw
 induction h with
 | refl=>rfl
 | @step m h ih=>
  rw [Kk hT (by omega) ht (hw m h (by omega) (by omega))]
  exact ih (by omega) fun q1 h1 h2 h3=>hw q1 h1 (by omega) h3
theorem Ju (K:AW P G n names ops l) (hT:Trace P G n names ops p run l T) {q t:Nat} (hq:q≤l.length) (ht:t < 256) :
  (∀q1 (h1:q1 < l.length),(bO ops l q1 h1).dst=some t→q1 < q→ar (hi t) (lo t) (T q).r=ar (hi t) (lo t) (T (q1+1)).r)∧
  ((∀q1 (h1:q1 < l.length),(bO ops l q1 h1).dst=some t→¬ q1 < q)→ar (hi t) (lo t) (T q).r=ar (hi t) (lo t) (T 0).r):=by
 have uniq:∀q1 q2 (h1:q1 < l.length) (h2:q2 < l.length),(bO ops l q1 h1).dst=some t→(bO ops l q2 h2).dst=some t→q1=q2:=fun q1 q2 h1 h2 e1 e2=>
  K.inj q1 q2 h1 h2 (K.dst _ _ _ _ t (cE K h1) (cE K h2) e1 e2)
 constructor
 ·intro q1 h1 e1 hlt
  refine zK hT ht (by omega) hq fun q2 g1 g2 g3 e2=>?_
  have:=uniq q1 q2 h1 g3 e1 e2
  omega
 ·intro hno
  exact zK hT ht (by omega) hq fun q2 g1 g2 g3 e2=>hno q2 g3 e2 g2
theorem vL {op:oG} {r:A2} {v:AV}:∀{hs:List Hp} {m:Nat},kL op r v hs m=true→∀j,j < m→∃hj,hs[j]?=some hj∧∃h',op.run r hj=.ok v h'
 | [],0,_,j,hj=>by omega
 | [],m+1,e,_,_=>by cases e
 | h::hs,0,_,j,hj=>by omega
 | h::hs,m+1,e,j,hj=>by
  have e:(RV.rec (fun v' _=>@Bool.rec (fun _=>Bool) false (kL op r v hs m) (same v v')) (fun _=>false) (op.run r h):Bool)=true:=e
  cases ho:op.run r h with
  | err k=>rw [ho] at e;cases e
  | ok v' h'=>
   rw [ho] at e
   obtain ⟨e1,e2⟩:=az e
   cases j with
   | zero=>exact ⟨h,rfl,h',by rw [ho,nL e1]⟩
   | succ j=>
    obtain ⟨hj',g1,g2⟩:=vL e2 j (by omega)
    exact ⟨hj',by simpa using g1,g2⟩
end
end Go.Am
