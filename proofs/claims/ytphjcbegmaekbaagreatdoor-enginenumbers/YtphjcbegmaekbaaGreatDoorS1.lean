/- The abstract machine is sound: what its run says holds of the Go program. Conditions: the table of functions is the program's (Env). -/
import Derived.Test.YtphjcbegmaekbaaGreatDoorS0
import Derived.Lib.Builder
import Derived.Lib.UnsafeStr
import Derived.Orders
import Derived.Scope
import Derived.Laws.Sem
set_option linter.all false
namespace Go.Am
variable {P:Program} {φ:aJ} {h h':Hp} {w:World} {v:AV} {x y z:AO} {r:A2} {cx cy cz:Value}
theorem bM.Hb {st:Nat→Nat}:∀{l:List KV} {es:List MapEntry} (j:Nat) {k val:AV} {ck:Value} {e:MapEntry},bM st φ l es→VR φ k ck→es[j]?=some e→VR φ val e.val→bM st φ (lM j k val l) (es.modify j fun e=>{e with key:=ck})
 | _,_,j,_,_,_,_,.nil,_,he,_=>by simp at he
 | _,_,0,k,val,ck,e',.cons k0 v0 b e l es a c d r,h1,he,h2=>by
  have he:some e=some e':=by simpa using he
  cases he
  exact .cons _ _ _ _ _ _ h1 h2 d r
 | _,_,j+1,k,val,ck,e',.cons k0 v0 b e l es a c d r,h1,he,h2=>.cons k0 v0 b e _ _ a c d (bM.Hb j r h1 (by simpa using he) h2)
theorem bM.Hc {st:Nat→Nat}:∀{l:List KV} {es:List MapEntry} (j:Nat) {a val:AV} {cv:Value},bM st φ l es→VR φ val cv→(∃vv bb,l[j]?=some (KV.mk a vv bb))→bM st φ (lM j a val l) (es.modify j fun e=>{e with val:=cv})
 | _,_,j,_,_,_,.nil,_,⟨_,_,he⟩=>by simp at he
 | _,_,0,a',val,cv,.cons k0 v0 b e l es p c d r,h1,⟨vv,bb,he⟩=>by
  have he:some (KV.mk k0 v0 b)=some (KV.mk a' vv bb):=by simpa using he
  cases he
  exact .cons _ _ _ _ _ _ p h1 d r
 | _,_,j+1,a',val,cv,.cons k0 v0 b e l es p c d r,h1,⟨vv,bb,he⟩=>.cons k0 v0 b e _ _ p c d (bM.Hc j r h1 ⟨vv,bb,by simpa using he⟩)
noncomputable def Hd (b:Nat) (l:List KV) (k:Nat→AV→RV) (e:RV) (i:Nat):RV:=bF (β:=Nat→RV) (fun _=>e)
 (fun y _ ih i=>@KV.rec (fun _=>RV) (fun a _ c=>@Bool.rec (fun _=>RV) (ih (Nat.succ i)) (k i a) (Nat.beq b c)) y) l i
theorem Qb (b:Nat) (l:List KV) (k:Nat→AV→RV) (e:RV):anI b l k e=Hd b l k e 0:=rfl
theorem BG {b q:Nat} {k:Nat→AV→RV}:∀{l:List KV} {i:Nat},Hd b l k (.err q) i=.ok v h'→
  ∃l1 a vv l2,l=l1 ++ KV.mk a vv b::l2∧k (i+l1.length) a=.ok v h'
 | [],_,he=>by cases he
 | .mk a c b'::l,i,he0=>by
  have he1:(@Bool.rec (fun _=>RV) (Hd b l k (.err q) (i+1)) (k i a) (Nat.beq b b'))=.ok v h':=he0
  cases hb:Nat.beq b b' with
  | true=>
   rw [hb] at he1
   obtain rfl:=Nat.eq_of_beq_eq_true hb
   exact ⟨[],a,c,l,rfl,he1⟩
  | false=>
   rw [hb] at he1
   obtain ⟨l1,a',vv,l2,rfl,q3⟩:=BG (l:=l) (i:=i+1) he1
   refine ⟨.mk a c b'::l1,a',vv,l2,rfl,?_⟩
   rw [show i+(KV.mk a c b'::l1).length=i+1+l1.length by rw [List.length_cons];omega];exact q3
theorem bM.findIdx {st:Nat→Nat} {b:Nat} {a vv:AV} {m2:List KV}:∀{m1:List KV} {es:List MapEntry},bM st φ (m1 ++ KV.mk a vv b::m2) es→(∀y,y∈m1→st y.jf≠st b)→es.findIdx? (fun e=>(e.born:Int) == ((st b:Nat):Int))=some m1.length
 | [],_,.cons _ _ _ e _ es _ _ h3 _,_=>by
  rw [List.findIdx?_cons]
  have h4:((e.born:Int) == ((st b:Nat):Int))=true:=by rw [h3];exact beq_self_eq_true _
  rw [h4];rfl
 | .mk k0 v0 b0::m1,_,.cons _ _ _ e _ es _ _ h3 hr,hne=>by
  rw [List.findIdx?_cons]
  have h4:((e.born:Int) == ((st b:Nat):Int))=false:=by
   rw [beq_eq_false_iff_ne,h3]
   intro g
   exact hne _ (List.mem_cons_self ..) (Int.ofNat.inj g)
  rw [h4]
  have:=bM.findIdx (m1:=m1) hr fun y hy=>hne y (List.mem_cons_of_mem _ hy)
  simp [this]
theorem CV {t k e:TypeId} {kt:KT} {zv:AV} (H:HR φ h w) {a b:AV} (hx:VR φ a cx) (hy:VR φ b cy) (ht:P.underlying t=some (.map k e)) (hk:my P k=some kt) (hz:jm P e=some zv)
  (he:yi kt zv a b h=.ok v h'):Good φ h w v h' ((Instr.mapEntry t cx cy).run P w):=by
 obtain ⟨hok,he⟩:=aC he
 obtain ⟨d,hd⟩:=nv hk
 unfold jm at hz
 simp only [Option.bind_eq_some_iff] at hz
 obtain ⟨cz,⟨inf,hinf,hcz⟩,hz⟩:=hz
 have hvz:=ny hz φ
 rcases eY he with ⟨i,rfl,he2⟩|⟨rfl,he2⟩
 ·obtain ⟨l,ck,hi,he3⟩:=dE he2
  obtain ⟨p,hp,rfl⟩:=hx.jo
  obtain ⟨es,cw,l0,h1,hpm,h2,hS⟩:=H.map hi hp
  obtain ⟨hT,he3⟩:=vz he3
  have hck1:ck+1 < dI:=Nat.lt_of_not_le fun g=>by rw [Nat.ble_eq_true_of_le g] at hT;cases hT
  have hid:=hS.low (by omega)
  obtain rfl:cw=ck:=by rw [←hS.at,hid]
  rw [kC] at he3
  have hck:=fun em=>run_checkKey (w:=w) hk hy hok em
  rcases iI he3 with ⟨g1,g2⟩|⟨j,kk,val,bb,g1,g2⟩
  ·obtain ⟨cr,f1,f2,f3⟩:=(g1.BH hpm).find H hd hk hy 0 h2
   cases cr with
   | some q=>exact f3.elim
   | none=>
    obtain ⟨rfl,rfl⟩:=RV.av g2
    obtain ⟨s1,s2,s3⟩:=HR.pw (P:=P) (ck':=cw+1) (cw':=cw+1) H hi hp (es:=es.push {key:=cy,val:=cz,born:=cw}) (l':=snoc l (.mk b zv cw)) (l0':=snoc l0 (.mk b zv cw)) (vA hpm _) (by rw [Array.toList_push];exact h2.snoc hy hvz hS.at.symm) (by rw [yr];exact hS.add (by omega)) h1
    refine ⟨.tuple #[cz,.int .i64 cw],_,φ,?_,.eS [_,_] [_,_] (.cons _ _ _ _ hvz (.cons _ _ _ _ (.int _ _) .nil)),s2,s3⟩
    simp [Instr.mapEntry,ar ht,bT h1 rfl,hck,run_findKey hd f1 f2,zeroValue,bw hinf,hcz,s1,goInt]
  ·obtain ⟨j0,g1,pset,_⟩:=g1.perm hpm
   obtain ⟨cr,f1,f2,f3⟩:=g1.find H hd hk hy 0 h2
   cases cr with
   | none=>exact f3.elim
   | some q=>
    obtain ⟨j',cv⟩:=q
    obtain ⟨rfl,u0,e0,u1,u2,u3,u4,u5⟩:=f3
    obtain ⟨rfl,rfl⟩:=RV.av g2
    have hsb:=nz (h:=h) hy u3 u4
    have hes:(es.modify (0+j0) fun e=>{e with key:=cy}).toList=es.toList.modify (0+j0) fun e=>{e with key:=cy}:=by simp
    obtain ⟨s1,s2,s3⟩:=HR.pw (P:=P) (ck':=cw) (cw':=cw) H hi hp (es:=es.modify (0+j0) fun e=>{e with key:=cy}) (l':=lM (0+j) b val l) (l0':=lM (0+j0) b val l0) (by rw [Nat.zero_add,Nat.zero_add];exact pset _ _) (by rw [hes];exact h2.Hb _ hy (by rw [Nat.zero_add];exact u1) (by rw [u2];exact u0)) (by rw [nA];exact hS) h1
    have hge:es[0+j0]?=some e0:=by rw [Nat.zero_add];simpa using u1
    have hks:(Instr.keyThatStays (((es[0+j0]?).map (·.key)).getD cy) cy).run P w=.ok cy w:=by
     rw [hge]
     simp [Instr.keyThatStays,hsb]
    have hbn:((es[0+j0]?).map (fun x=>(x.born:Int))).getD 0=(bb:Int):=by rw [hge];exact congrArg Int.ofNat (u5.trans (hid bb))
    refine ⟨.tuple #[cv,.int .i64 bb],_,φ,?_,.eS [_,_] [_,_] (.cons _ _ _ _ u0 (.cons _ _ _ _ (.int _ _) .nil)),s2,s3⟩
    simp only [Instr.mapEntry,Sem.run_bind,ar ht,Result.andThen_ok,bT h1 rfl,hck,run_findKey hd f1 f2,hks,s1,Sem.run_pure,hbn]
    rfl
 ·cases he2
theorem CW {t:TypeId} {cs:Value} (H:HR φ h w) {a s c:AV} (hx:VR φ a cx) (hy:VR φ s cs) (hz:VR φ c cz) (he:yj a s c h=.ok v h'):v=.undef∧vB φ h w h' ((Instr.entryStore t cx cs cz).run P w):=by
 rcases eY he with ⟨i,rfl,he2⟩|⟨rfl,he2⟩
 ·obtain ⟨l,ck,hi,he3⟩:=dE he2
  obtain ⟨p,hp,rfl⟩:=hx.jo
  obtain ⟨es,cw,l0,h1,hpm,h2,hS⟩:=H.map hi hp
  obtain ⟨hT,he3⟩:=vz he3
  have hck1:ck < dI:=Nat.lt_of_not_le fun g=>by rw [Nat.ble_eq_true_of_le g] at hT;cases hT
  have hid:=hS.low hck1
  obtain ⟨kd,b,rfl,he4⟩:=cP he3
  rw [hy.aW]
  rw [Qb] at he4
  obtain ⟨l1,a',vv,l2,rfl,q3⟩:=BG he4
  obtain ⟨rfl,rfl⟩:=RV.av q3
  obtain ⟨m1,m2,rfl,hm⟩:=sY hpm
  have hnd:=hS.VZ
  rw [List.map_append,List.map_cons,List.nodup_append,List.nodup_cons] at hnd
  have q2:es.toList.findIdx? (fun e=>(e.born:Int) == (b:Int))=some m1.length:=by
   have:=h2.findIdx fun y hy g=>by
    rw [hid,hid] at g
    rcases List.mem_append.1 (hm.mem_iff.2 (List.mem_append_left m2 hy)) with k|k
    ·exact hnd.2.2 _ (List.mem_map.2 ⟨y,k,rfl⟩) _ (List.mem_cons_self ..) g
    ·exact hnd.2.1.1 (g▸List.mem_map.2 ⟨y,k,rfl⟩)
   rw [hid] at this
   exact this
  have hes:(es.modify m1.length fun e=>{e with val:=cz}).toList=es.toList.modify m1.length fun e=>{e with val:=cz}:=by simp
  obtain ⟨s1,s2,s3⟩:=HR.pw (P:=P) (ck':=ck) (cw':=cw) H hi hp (es:=es.modify m1.length fun e=>{e with val:=cz}) (l':=lM (0+l1.length) a' c (l1 ++ KV.mk a' vv b::l2)) (l0':=lM m1.length a' c (m1 ++ KV.mk a' vv b::m2))
   (by rw [Nat.zero_add,kD,kD];exact (List.perm_middle.trans (hm.cons _)).trans List.perm_middle.symm) (by rw [hes];exact h2.Hc _ hz ⟨vv,b,by simp⟩) (by rw [nA];exact hS) h1
  have hfi:es.findIdx? (fun e=>(e.born:Int) == (Int.ofNat b))=some m1.length:=by
   rw [←q2]
   cases es
   simp
  refine ⟨rfl,_,φ,?_,s2,s3⟩
  simp only [Instr.entryStore,Sem.run_bind,bT h1 rfl,Result.andThen_ok,asInt,asIntOf,Sem.run_pure,hfi,s1]
 ·cases he2
variable {P:Program} {φ:aJ} {h h':Hp} {w:World} {v:AV} {r:A2} {cx cy:Value} {t:TypeId} {G:Gl} {ρ:Operand→Value}
theorem aA {d:TypeDesc} (e:jg P t=d) (hd:d≠.invalid):P.underlying t=some d:=by
 unfold jg at e
 cases hu:P.underlying t with
 | none=>rw [hu] at e;exact absurd e.symm hd
 | some d'=>rw [hu] at e;exact congrArg some e
theorem ln {e:TypeId} (h:bj P e≠0):∃i,P.info? e=some i∧i.size≠0:=by
 unfold bj Program.cellsOf at h
 cases hi:P.info? e with
 | none=>simp [hi] at h
 | some i=>exact ⟨i,rfl,by simpa [hi] using h⟩
theorem Wa {e:TypeId} (ht:P.underlying t=some (.pointer e)) (h:bj P e≠0):KOK P .p t:=by
 obtain ⟨i,hi,hs⟩:=ln h
 exact ⟨e,i,ht,hi,hs⟩
theorem He {op:BinOp} {x y:Operand} {k:BK} {ax ay:AO} (hc:∀c,ρ (.const c)=c) (hop:CX P op t x y=some k) (H:HR φ h w) (hx:VR φ (ev ax r) (ρ x)) (hy:VR φ (ev ay r) (ρ y)) (he:TG k ax ay r h=.ok v h') :
  Good φ h w v h' ((do eqGuard op t x y (ρ x) (ρ y);binOp op t (ρ x) (ρ y):Sem Value).run P w):=by
 unfold CX at hop
 split at hop
 case h_1=>cases hop;exact Hf H hx hy he
 case h_2=>cases hop;exact Hg H hx hy he
 case h_3=>cases hop;exact Hh H hx hy he
 case h_4=>cases hop;exact Hi H hx hy he
 case h_5=>cases hop;exact Hj H hx hy he
 case h_6=>cases hop;exact Hk H hx hy he
 case h_7=>cases hop;exact Qc H hx hy he
 case h_8=>cases hop;exact Hl H hx hy he
 case h_9=>cases hop;exact CY H hx hy he
 case h_10=>cases hop;exact Hm H hx hy he
 case h_11=>cases hop;exact Hn H hx hy he
 case h_12=>cases hop;exact Qd H hx hy he
 case h_13=>cases hop;exact Qe H hx hy he
 case h_14=>cases hop;exact Qf H hx hy he
 case h_15=>cases hop;exact Qg H hx hy he
 case h_16=>cases hop;exact Qh H hx hy he
 case h_17=>cases hop;exact Qi H hx hy he
 case h_18=>cases hop;exact Ho H hx hy he
 case h_19=>cases hop;exact Hq H hx hy he
 case h_20=>cases hop;exact Hr H hx hy he
 case h_21=>cases hop;exact Hs H hx hy he
 case h_22=>cases hop;exact Ht H hx hy he
 case h_23=>cases hop;exact Hu H hx hy he
 case h_24=>cases hop;exact Hv H hx hy he
 case h_25 hu=>cases hop;exact yt false H hx hy (aA hu (by simp)) he
 case h_26 hu=>cases hop;exact yt true H hx hy (aA hu (by simp)) he
 case h_27 e hu=>
  split at hop
  ·cases hop
  ·rename_i hs;cases hop;exact yu false H hx hy (Wa (aA hu (by simp)) hs) he
 case h_28 e hu=>
  split at hop
  ·cases hop
  ·rename_i hs;cases hop;exact yu true H hx hy (Wa (aA hu (by simp)) hs) he
 case h_29 e hu=>
  split at hop
  ·rename_i hn;cases hop;have hn:=eZ hn;subst hn;rw [hc];exact (bz false (k:=.s) ⟨_,aA hu (by simp)⟩ H hx x he).1
  ·cases hop
 case h_30 e hu=>
  split at hop
  ·rename_i hn;cases hop;have hn:=eZ hn;subst hn;rw [hc];exact (bz true (k:=.s) ⟨_,aA hu (by simp)⟩ H hx x he).1
  ·cases hop
 case h_31 e hu=>
  split at hop
  ·rename_i hn;cases hop;have hn:=eZ hn;subst hn;rw [hc];exact (bz false (k:=.m) ⟨_,_,aA hu (by simp)⟩ H hx x he).1
  ·cases hop
 case h_32 e hu=>
  split at hop
  ·rename_i hn;cases hop;have hn:=eZ hn;subst hn;rw [hc];exact (bz true (k:=.m) ⟨_,_,aA hu (by simp)⟩ H hx x he).1
  ·cases hop
 case h_33 e hu=>
  split at hop
  ·rename_i hn;cases hop;have hn:=eZ hn;subst hn;rw [hc];exact (bz false (k:=.f) ⟨_,_,_,aA hu (by simp)⟩ H hx x he).1
  ·cases hop
 case h_34 e hu=>
  split at hop
  ·rename_i hn;cases hop;have hn:=eZ hn;subst hn;rw [hc];exact (bz true (k:=.f) ⟨_,_,_,aA hu (by simp)⟩ H hx x he).1
  ·cases hop
 case h_35 e hu=>
  split at hop
  ·rename_i hn;cases hop;have hn:=eZ hn;subst hn;rw [hc];exact (bz false (k:=.i) ⟨_,aA hu (by simp)⟩ H hx x he).1
  ·cases hop
 case h_36 e hu=>
  split at hop
  ·rename_i hn;cases hop;have hn:=eZ hn;subst hn;rw [hc];exact (bz true (k:=.i) ⟨_,aA hu (by simp)⟩ H hx x he).1
  ·cases hop
 case h_37=>
  split at hop
  ·cases hop
  ·rename_i hg
   simp only [Option.map_eq_some_iff] at hop
   obtain ⟨ks,hk,rfl⟩:=hop
   exact yv false H hx hy hk (by simpa using hg) he
 case h_38=>
  split at hop
  ·cases hop
  ·rename_i hg
   simp only [Option.map_eq_some_iff] at hop
   obtain ⟨ks,hk,rfl⟩:=hop
   exact yv true H hx hy hk (by simpa using hg) he
 case h_39=>cases hop;exact Hw H hx hy he
 case h_40=>cases hop;exact Hy H hx hy he
 case h_41=>cases hop
variable {P:Program} {φ:aJ} {h h':Hp} {w:World} {v:AV} {r:A2} {cx cy:Value} {t:TypeId} {G:Gl} {ρ:Operand→Value}
theorem nB {op:BinOp} {x y:Operand} {k:NK} (neg:Bool) {ay:AO} (hc:∀c,ρ (.const c)=c) (hop:CX P op t y x=some (if neg then .pS k else .jR k)) (H:HR φ h w) (hy:VR φ (ev ay r) (ρ y))
  (he:EB.rv neg h (qV k (ev ay r))=.ok v h'):Good φ h w v h' ((do eqGuard op t x y (ρ x) (ρ y);binOp op t (ρ x) (ρ y):Sem Value).run P w):=by
 unfold CX at hop
 split at hop<;>(try (split at hop))<;>(try (cases neg<;>cases hop;done))
 all_goals (try (simp only [Option.map_eq_some_iff] at hop;obtain ⟨ks,hk,hop⟩:=hop;cases neg<;>cases hop;done))
 all_goals
  rename_i hu hn
  cases neg<;>cases hop
  have hn:=eZ hn
  subst hn
  rw [hc]
 ·exact (bz false (k:=.s) ⟨_,aA hu (by simp)⟩ H hy y he).2
 ·exact (bz true (k:=.s) ⟨_,aA hu (by simp)⟩ H hy y he).2
 ·exact (bz false (k:=.m) ⟨_,_,aA hu (by simp)⟩ H hy y he).2
 ·exact (bz true (k:=.m) ⟨_,_,aA hu (by simp)⟩ H hy y he).2
 ·exact (bz false (k:=.f) ⟨_,_,_,aA hu (by simp)⟩ H hy y he).2
 ·exact (bz true (k:=.f) ⟨_,_,_,aA hu (by simp)⟩ H hy y he).2
 ·exact (bz false (k:=.i) ⟨_,aA hu (by simp)⟩ H hy y he).2
 ·exact (bz true (k:=.i) ⟨_,aA hu (by simp)⟩ H hy y he).2
theorem kE {a b:Bool} (h:Bool.and a b=true):a=true∧b=true:=by cases a<;>cases b<;>first|exact ⟨rfl,rfl⟩|cases h
theorem Hz {a:AV} (H:HR φ h w) (hx:VR φ a cx) {s d t:TypeId} (hs:P.underlying s=some (.pointer t)) (hd:P.underlying d=some .unsafePointer) (hz:bj P t≠0) (e:FW a h=.ok v h') :
  Good φ h w v h' ((convert s d cx).run P w):=by
 obtain ⟨j,hj,hjs⟩:=ln hz
 cases a<;>try (cases e;done)
 case dP=>
  obtain ⟨rfl,rfl⟩:=RV.av (show RV.ok .dP h=.ok v h' from e)
  cases hx
  exact .same H .dP (by simp [convert,ar hs,ar hd,Conv.unsafePointer])
 case ptr i o=>
  obtain ⟨el,n,ex,fl,c,hi,e⟩:=aR (show Obj.br (aq i h) (fun _ n ex _ _=>@Bool.rec (fun _=>RV) (.err 191) (.ok (.ptr i o) h) (Bool.and ex (Km o n))) (.err 192)=_ from e)
  obtain ⟨hb,e⟩:=aC e
  obtain ⟨rfl,rfl⟩:=RV.av e
  obtain ⟨hex,hin⟩:=kE hb
  cases hx with
  | ptr _ _ p hp=>
   have hl:live (aq i h):=by rw [hi];exact aN
   obtain ⟨q,hq,hor⟩:=H.obj i hl
   rw [hp] at hq;cases hq
   rw [hi] at hor
   obtain ⟨rc,fz,hrc,h1,h2,h3,_⟩:=hor
   have h4:=h3 hex
   have ho:=kF hin
   refine .same H (.ptr _ _ _ hp) (Lib.run_to_unsafe w (p.addr o) hs hd hj hjs (e:=el) (cells:=rc.size) ?_ ?_)
   ·show w.shape? p.bA=_
    simp [World.shape?,hrc]
   ·show p.base+o < rc.size
    omega
theorem zX {a:AV} (H:HR φ h w) (hx:VR φ a cx) {s d u:TypeId} (hs:P.underlying s=some .unsafePointer) (hd:P.underlying d=some (.pointer u)) (hz:bj P u≠0) (hlies:liesAt P P.depth u 1 0 u 1=true) (e:wC u (bj P u) a h=.ok v h') :
  Good φ h w v h' ((convert s d cx).run P w):=by
 obtain ⟨j,hj,hjs⟩:=ln hz
 cases a<;>try (cases e;done)
 case dP=>
  obtain ⟨rfl,rfl⟩:=RV.av (show RV.ok .dP h=.ok v h' from e)
  cases hx
  exact .same H .dP (by simp [convert,ar hs,ar hd,Conv.unsafePointer])
 case ptr i o=>
  obtain ⟨el,n,ex,fl,c,hi,e⟩:=aR (show Obj.br (aq i h) (fun el n ex _ _=>@Bool.rec (fun _=>RV) (.err 193) (.ok (.ptr i o) h) (Bool.and ex (Bool.and (Nat.beq o 0) (Bool.and (Nat.beq el u) (Nat.beq n (bj P u)))))) (.err 194)=_ from e)
  obtain ⟨hb,e⟩:=aC e
  obtain ⟨rfl,rfl⟩:=RV.av e
  obtain ⟨hex,hb⟩:=kE hb
  obtain ⟨ho,hb⟩:=kE hb
  obtain ⟨hel,hn⟩:=kE hb
  have ho:=Nat.eq_of_beq_eq_true ho
  have hel:=Nat.eq_of_beq_eq_true hel
  have hn:=Nat.eq_of_beq_eq_true hn
  subst ho hel
  cases hx with
  | ptr _ _ p hp=>
   have hl:live (aq i h):=by rw [hi];exact aN
   obtain ⟨q,hq,hor⟩:=H.obj i hl
   rw [hp] at hq;cases hq
   rw [hi] at hor
   obtain ⟨rc,fz,hrc,h1,h2,h3,_⟩:=hor
   have h4:=h3 hex
   have hsz:rc.size=P.cellsOf el:=by
    have:bj P el=P.cellsOf el:=rfl
    omega
   have hpos:0 < P.cellsOf el:=Nat.pos_of_ne_zero hz
   refine .same H (.ptr _ _ _ hp) (Lib.run_from_unsafe w (p.addr 0) hs hd hj (e:=el) (cells:=rc.size) ?_ ?_)
   ·show w.shape? p.bA=_
    simp [World.shape?,hrc]
   ·show liesAt P P.depth el (rc.size / P.cellsOf el) (p.base+0) el 1=true
    rw [hsz,Nat.div_self hpos,h4.1]
    exact hlies
theorem HB {a:AV} (H:HR φ h w) (hx:VR φ a cx) {s e:TypeId} (hs:P.underlying s=some (.slice e)) (he:P.underlying e=some (.int .u8)) (ho:TJ e a h=.ok v h') :
  Good φ h w v h' ((convert s s cx).run P w):=by
 rcases cQ ho with ⟨i,o,l,c,rfl,ho⟩|⟨i,o,l,c,rfl,ho⟩|⟨rfl,ho⟩
 ·obtain ⟨el,n,ex,fl,cl,hi,ho⟩:=aR ho
  cases fl with
  | plain=>
   obtain ⟨rfl,rfl⟩:=RV.av ho
   cases hx with
   | slice _ _ _ _ p hp=>
   have hl:live (aq i h):=by rw [hi];exact aN
   obtain ⟨q,hq,hor⟩:=H.obj i hl
   rw [hp] at hq;cases hq
   rw [hi] at hor
   obtain ⟨rc,fz,hrc,h1,h2,h3,h4,h5,h6⟩:=hor
   have h6:fz=(0,0):=h6
   subst h6
   have hw:(w.freeze ⟨p.bA,rc.size,none⟩ 1).heap[p.bA]?=some (.cells rc el (rc.size,rc.size+1)):=by
    unfold World.freeze
    rw [if_neg (by decide)]
    simp [Array.getElem?_modify,hrc]
   have hne:∀b,b≠p.bA→(w.freeze ⟨p.bA,rc.size,none⟩ 1).heap[b]?=w.heap[b]?:=fun b hb=>by
    unfold World.freeze
    rw [if_neg (by decide)]
    simp only [Array.getElem?_modify]
    rw [if_neg (fun g=>hb g.symm)]
   have hsz:(w.freeze ⟨p.bA,rc.size,none⟩ 1).heap.size=w.heap.size:=by
    unfold World.freeze
    rw [if_neg (by decide)]
    simp
   have hfr:(w.freeze ⟨p.bA,rc.size,none⟩ 1).tape=w.tape∧(w.freeze ⟨p.bA,rc.size,none⟩ 1).os=w.os∧(w.freeze ⟨p.bA,rc.size,none⟩ 1).output=w.output:=by
    unfold World.freeze
    rw [if_neg (by decide)]
    exact ⟨rfl,rfl,rfl⟩
   refine ⟨_,_,φ,?_,.slice _ _ _ _ p hp,H.set hl hp hsz hne ?_ (by simp),φ.le_refl,fx.set hl hp hsz hne hfr.1 hfr.2.1 hfr.2.2,fun k q hk hq=>?_,.set _ _ _⟩
   ·have hsh:w.shape? p.bA=some (el,rc.size):=by simp [World.shape?,hrc]
    simp [convert,ar hs,ar he,markStringish,Place.addr,hsh]
   ·rw [hw]
    exact ⟨rc,_,rfl,h1,h2,h3,h4,h5,fun k hk=>by simp;omega⟩
   ·rw [bg] at hk
    by_cases ek:k=i
    ·subst ek;exact .inl ⟨hl,hq⟩
    ·rw [if_neg ek] at hk;exact .inl ⟨hk,hq⟩
  | mark=>cases ho
  | wx=>cases ho
 ·cases ho
 ·cases ho
theorem CZ {s d:TypeId} {k:CK} {ax:AO} (hop:HC P s d=some k) (H:HR φ h w) (hx:VR φ (ev ax r) cx) (he:qY k ax r h=.ok v h'):Good φ h w v h' ((convert s d cx).run P w):=by
 unfold HC at hop
 split at hop
 case h_1 hs hd=>cases hop;exact zY H hx (aA hs (by simp)) (aA hd (by simp)) he
 case h_2 hs hd=>
  cases hop
  obtain ⟨l,el,he⟩:=cq he
  obtain ⟨rfl,rfl⟩:=RV.av he
  rw [el] at hx
  refine .same H hx ?_
  obtain ⟨s,rfl,rfl⟩:=hx.cR
  simp [convert,ar (aA hs (by simp)),ar (aA hd (by simp))]
 case h_3 hs hd=>
  split at hop
  ·cases hop
  ·rename_i hz
   cases hop
   exact Hz H hx (aA hs (by simp)) (aA hd (by simp)) hz he
 case h_4 hs hd=>
  split at hop
  ·cases hop
  ·rename_i hz
   cases hop
   simp only [Bool.or_eq_true,decide_eq_true_eq,Bool.not_eq_true',not_or,Bool.not_eq_false] at hz
   exact zX H hx (aA hs (by simp)) (aA hd (by simp)) hz.1 hz.2 he
 case h_5 hs hd=>
  split at hop
  ·rename_i hu;cases hop;exact HD H hx (aA hs (by simp)) (aA hu (by simp)) (aA hd (by simp)) he
  ·cases hop
 case h_6 hs hd=>
  split at hop
  ·rename_i hu;cases hop;exact HE H hx (aA hs (by simp)) (aA hu (by simp)) (aA hd (by simp)) he
  ·cases hop
 case h_7 hs hd=>
  split at hop
  ·rename_i hu
   split at hop
   ·rename_i e
    subst e
    cases hop;exact HB H hx (aA hs (by simp)) (aA hu (by simp)) he
   ·cases hop
  ·cases hop
 case h_8 hs hd=>cases hop;exact HF H hx (aA hs (by simp)) (aA hd (by simp)) he
 case h_9 hs hd=>cases hop;exact HG H hx (aA hs (by simp)) (aA hd (by simp)) he
 case h_10=>cases hop
variable {P:Program} {φ:aJ} {h h':Hp} {w:World} {v:AV} {r:A2} {cx cy:Value} {t:TypeId} {G:Gl} {ρ:Operand→Value}
theorem zZ {e:TypeId} (hc:P.cellsOf e=1) (count off n:Nat) (hn:off+n≤count):liesAt P P.depth e count off e n=true:=by
 have hd:P.depth=(2 * (P.types.size+Made.depth)+1)+1:=rfl
 rw [hd]
 simp only [liesAt,Bool.or_eq_true]
 left
 rw [hd]
 simp [rowAt,hc,hn,sameLayout,Nat.mod_one]
theorem HI {ts:Array TypeId} {pt e ty:TypeId} {k:IntKind} (h0:ts[0]?=some pt) (hp:P.underlying pt=some (.pointer e)) (hc:P.cellsOf e=1) (a:Addr) (cells:Nat) (hsh:w.shape? a.block=some (e,cells)) (l:List UInt8) (hl0:l≠[]) (hn:a.off+l.length≤cells) (h63:l.length≤9223372036854775807)
  (hcell:∀j x,l[j]?=some x→w.cell? (a.add j)=some (.int .u8 x.toNat)) :
  (Builtin.unsafeString_ ts ty #[.pointer (some a),.int k l.length]).run P w=.ok (.string ⟨l.toArray⟩) (w.freeze a l.length):=by
 have hl:l.length≠0:=by simpa using hl0
 have hlb:=Lib.run_loadBytes (P:=P) w l a .empty hcell
 have hlies:=zZ (P:=P) hc (cells / P.cellsOf e) a.off l.length (by rw [hc];simpa using hn)
 have h63':¬ (9223372036854775807:Int) < (l.length:Int):=by omega
 have hdef:Builtin.unsafeString_ ts ty #[.pointer (some a),.int k l.length] =
   (do
    let n←asInt (.int k l.length)
    let some pt:=ts[0]?|stuck "unsafe.String: no argument types"
    if n < 0 then runtimePanic (.error "unsafe.String: len out of range")
    if n > IntKind.i64.max then unsupported (.unsafePointer "String: a length above the largest int")
    if n=0 then pure (.string .empty)
    else if←variablesAt a (←elemOf pt) n.toNat then do
     let s←loadBytes a .empty n.toNat
     freeze a n.toNat
     pure (.string s)
    else unsupported (.unsafePointer "String: not so many bytes at ptr")):=rfl
 rw [hdef]
 have hmax:IntKind.i64.max=9223372036854775807:=rfl
 have hneg:¬ (l.length:Int) < 0:=by omega
 simp [asInt,asIntOf,hmax,h63',hneg,hl,variablesAt,hsh,elemOf,run_underlying hp,hlies,hlb,h0]
theorem Da {ts:Array TypeId} {pt ty:TypeId} {k:IntKind} (h0:ts[0]?=some pt) (q:Option Addr):(Builtin.unsafeString_ ts ty #[.pointer q,.int k 0]).run P w=.ok (.string .empty) w:=by
 have hmax:IntKind.i64.max=9223372036854775807:=rfl
 cases q with
 | none=>
  have hdef:Builtin.unsafeString_ ts ty #[.pointer none,.int k 0] =
    (do
     let n←asInt (.int k 0)
     let some _:=ts[0]?|stuck "unsafe.String: no argument types"
     if n < 0 then runtimePanic (.error "unsafe.String: len out of range")
     if n > IntKind.i64.max then unsupported (.unsafePointer "String: a length above the largest int")
     if n=0 then pure (.string .empty)
     else runtimePanic (.error "unsafe.String: ptr is nil and len is not zero")):=rfl
  rw [hdef]
  simp [asInt,asIntOf,hmax,h0]
 | some a=>
  have hdef:Builtin.unsafeString_ ts ty #[.pointer (some a),.int k 0] =
    (do
     let n←asInt (.int k 0)
     let some pt:=ts[0]?|stuck "unsafe.String: no argument types"
     if n < 0 then runtimePanic (.error "unsafe.String: len out of range")
     if n > IntKind.i64.max then unsupported (.unsafePointer "String: a length above the largest int")
     if n=0 then pure (.string .empty)
     else if←variablesAt a (←elemOf pt) n.toNat then do
      let s←loadBytes a .empty n.toNat
      freeze a n.toNat
      pure (.string s)
     else unsupported (.unsafePointer "String: not so many bytes at ptr")):=rfl
  rw [hdef]
  simp [asInt,asIntOf,hmax,h0]
theorem Db {ts:Array TypeId} {ty:TypeId} {x:AO} (H:HR φ h w) (hx:VR φ (ev x r) cx) (e:mb x r h=.ok v h'):Good φ h w v h' ((Builtin.unsafeSliceData_ ts ty #[cx]).run P w):=by
 unfold mb at e
 cases ha:ev x r<;>rw [ha] at e hx<;>try (cases e;done)
 case slice i o n c=>
  cases c with
  | zero=>cases e
  | succ c=>
   obtain ⟨rfl,rfl⟩:=RV.av (show RV.ok (.ptr i o) h=.ok v h' from e)
   cases hx with
   | slice _ _ _ _ p hp=>exact .same H (.ptr _ _ _ hp) (Lib.run_unsafeSliceData_row w ts ty _ _ _ (Nat.succ_ne_zero c))
 case bZ i o n es=>
  cases n with
  | zero=>cases e
  | succ n=>
   obtain ⟨rfl,rfl⟩:=RV.av (show RV.ok (.ptr i o) h=.ok v h' from e)
   cases hx with
   | bZ _ _ _ _ c p a hp h1 h2 h3 h4 h5 h6=>
    have hc:c≠0:=by omega
    have ea:a=p.addr o:=by
     obtain ⟨b,off,sp⟩:=a
     simp only [Place.addr,Addr.mk.injEq]
     exact ⟨h3,h5 hc,h4⟩
    subst ea
    exact .same H (.ptr _ _ _ hp) (Lib.run_unsafeSliceData_row w ts ty _ _ _ hc)
 case aj=>
  obtain ⟨rfl,rfl⟩:=RV.av (show RV.ok .dP h=.ok v h' from e)
  cases hx
  exact .same H .dP (Lib.run_unsafeSliceData_nil w ts ty 0 0)
theorem HJ:VR φ (.str []) (.string .empty):=.str _ _ rfl
theorem Dc {ts:Array TypeId} {pt e ty:TypeId} {x y:AO} (h0:ts[0]?=some pt) (hp:P.underlying pt=some (.pointer e)) (hc:P.cellsOf e=1) (H:HR φ h w) (hx:VR φ (ev x r) cx) (hy:VR φ (ev y r) cy) (he:oP e x y r h=.ok v h') :
  Good φ h w v h' ((Builtin.unsafeString_ ts ty #[cx,cy]).run P w):=by
 unfold oP eo at he
 obtain ⟨k,n,ey,he⟩:=bn he
 rw [ey] at hy
 rw [hy.aW]
 cases n with
 | negSucc n=>cases he
 | ofNat n=>
  cases n with
  | zero=>
   have go:∀q,cx=.pointer q→RV.ok (.str []) h=.ok v h'→Good φ h w v h' ((Builtin.unsafeString_ ts ty #[cx,.int k (.ofNat 0)]).run P w):=by
    rintro q rfl e
    obtain ⟨rfl,rfl⟩:=RV.av e
    exact .same H HJ (Da h0 q)
   cases ha:ev x r<;>rw [ha] at he hx<;>try (cases he;done)
   case ptr i o=>cases hx with|ptr _ _ p hp=>exact go _ rfl he
   case dP=>cases hx;exact go _ rfl he
  | succ n=>
   obtain ⟨i,o,ex,he⟩:=ct (show AV.eN (ev x r) _ (RV.err 117)=RV.ok v h' from he)
   rw [ex] at hx
   obtain ⟨el,m,xx,fl,c,hi,he⟩:=aR he
   obtain ⟨hb,he⟩:=aC he
   obtain ⟨hb1,hb⟩:=kE hb
   obtain ⟨hb2,hb3⟩:=kE hb
   have hb1:n≤1048576:=Nat.le_of_ble_eq_true hb1
   have hb2:=Nat.eq_of_beq_eq_true hb2
   have hb3:o+(n+1)≤m:=Nat.le_of_ble_eq_true hb3
   subst hb2
   obtain ⟨bs,hbs,he⟩:=fB he
   obtain ⟨rfl,rfl⟩:=RV.av he
   cases hx with
   | ptr _ _ p hp'=>
    obtain ⟨l,l1,l2,l3,l4⟩:=H.values hi hp' (n+1) o hb3
    rw [hbs] at l2
    have hl:=lQ l2
    subst hl
    have hlen:bs.length=n+1:=by simpa using l1
    have hl:live (aq i h):=by rw [hi];exact aN
    obtain ⟨q,hq,hor⟩:=H.obj i hl
    rw [hp'] at hq;cases hq
    rw [hi] at hor
    obtain ⟨rc,fz,hrc,r1,r2,r3,r4,r5,r6⟩:=hor
    have hrun:=HI (w:=w) (ty:=ty) (k:=k) h0 hp hc (p.addr o) rc.size (by show w.shape? p.bA=_;simp [World.shape?,hrc]) bs (by intro g;rw [g] at hlen;cases hlen)
     (by show p.base+o+bs.length≤rc.size;omega) (by omega) (fun j x hj=>by
      have hj':j < bs.length:=(List.getElem?_eq_some_iff.1 hj).1
      have hx':=(List.getElem?_eq_some_iff.1 hj).2
      have:=l4 j (by simpa using hj')
      rw [this]
      simp [hx'])
    have hn':(Int.ofNat (n+1))=((bs.length:Nat):Int):=by rw [hlen];rfl
    have hne:bs.length≠0:=by omega
    have hheap:(w.freeze (p.addr o) bs.length).heap=w.heap.modify p.bA fun
      | .cells c elem (lo,hi)=>.cells c elem (if lo == hi then (p.base+o,p.base+o+bs.length) else (min lo (p.base+o),max hi (p.base+o+bs.length)))
      | o=>o:=by
     unfold World.freeze
     rw [if_neg hne]
     rfl
    have hsz:(w.freeze (p.addr o) bs.length).heap.size=w.heap.size:=by rw [hheap];simp
    have hother:∀b,b≠p.bA→(w.freeze (p.addr o) bs.length).heap[b]?=w.heap[b]?:=fun b hb=>by
     rw [hheap,Array.getElem?_modify,if_neg (Ne.symm hb)]
    have hO:OR φ (.cells e m xx .wx c) p ((w.freeze (p.addr o) bs.length).heap[p.bA]?):=by
     rw [hheap,Array.getElem?_modify,if_pos rfl,hrc]
     obtain ⟨lo,hi2⟩:=fz
     exact ⟨rc,_,rfl,r1,r2,r3,r4,r5,trivial⟩
    have HH:=H.set hl hp' hsz hother hO (by simp)
    refine ⟨_,_,φ,by rw [hn'];exact hrun,.str _ _ (by simp),HH,φ.le_refl,?_,fun j q hj hq=>?_,.set _ _ _⟩
    ·refine fx.set hl hp' hsz hother ?_ ?_ ?_<;>(unfold World.freeze;rw [if_neg hne])
    ·rw [bg] at hj
     by_cases ej:j=i
     ·subst ej;exact .inl ⟨hl,hq⟩
     ·rw [if_neg ej] at hj;exact .inl ⟨hj,hq⟩
variable {P:Program} {φ:aJ} {h h':Hp} {w:World} {v:AV} {r:A2} {x y:AO} {cx cy:Value} {ty:TypeId}
theorem avc {e u:TypeId} {i:TypeInfo} {zv:Value} {z:List AV} {k kn:IntKind} (hu:P.underlying u=some (.int kn)) (hi:P.info? e=some i) (hz:i.zero=some zv) (hzs:zv.cells.size=i.size) (hby:i.bytes≤1048576) (hes:0 < i.size)
  (g1:bS φ z zv.cells.toList) (g2:∀c,c∈zv.cells.toList→c.oneCell'=true) (n:Nat) (hn:n≤1048576) :
  Src P φ w e u i.size n (dS n z) (.int k n) (Builtin.zeroCells zv.cells n).toList:=by
 obtain ⟨k1,k2⟩:=eE g1 g2 n (n * i.size) (by rw [hzs])
 have hzc:(Builtin.zeroCells zv.cells n).toList=((Array.range (n * i.size)).map (zv.cells[· % zv.cells.size]!)).toList:=by
  simp [Builtin.zeroCells,hzs]
 have hw:IntKind.i64.wrap (n:Int)=n:=by rw [IntKind.wrap_i64];omega
 have hneg:¬ ((n:Int) < 0):=by omega
 have hbig:n * i.bytes≤1048576 * 1048576:=Nat.mul_le_mul hn hby
 have h48i:¬ (281474976710656 < (n:Int) * (i.bytes:Int)):=by
  rw [←Int.natCast_mul]
  omega
 refine ⟨?_,?_,?_,?_,?_⟩
 ·intro t ty i' ht hi' hs base m c hc w' h1 h2
  rw [hi] at hi';cases hi'
  by_cases h0:n=0
  ·subst h0
   have hw0:IntKind.i64.wrap 0=0:=rfl
   have hc0:m≤c:=hc
   cases base with
   | none=>
    rw [h2 rfl]
    simp [Builtin.append_,ar ht,ar hu,aU hi,bw hi,asInt,asIntOf,hw0,hc0]
   | some a=>
    have h1:=h1 a rfl
    simp [Builtin.zeroCells] at h1
    simp [Builtin.append_,ar ht,ar hu,aU hi,bw hi,asInt,asIntOf,hw0,hc0,h1]
  ·have hns:¬ (n * i.size=0):=Nat.mul_ne_zero h0 (by omega)
   cases base with
   | none=>
    rw [h2 rfl]
    simp [Builtin.append_,ar ht,ar hu,aU hi,bw hi,zeroValue,hz,asInt,asIntOf,hw,hneg,h48i,hc,h0,hns,hes]
   | some a=>
    simp [Builtin.append_,ar ht,ar hu,aU hi,bw hi,zeroValue,hz,asInt,asIntOf,hw,hneg,h48i,hc,h0,hns,hes,h1 a rfl]
 ·intro t ty i' z' ht hi' hs hz' base m c hc os ho hb h63
  rw [hi] at hi';cases hi'
  rw [hz] at hz';cases hz'
  by_cases h0:n=0
  ·subst h0
   have hw0:IntKind.i64.wrap 0=0:=rfl
   have hc0:¬ m≤c:=hc
   have h63':¬ (9223372036854775807 < ((m:Int))):=by omega
   have h48:=growslice_fits (old:=c) (show c < m+0 by omega) hb
   have h48':¬ (281474976710656 < Builtin.nextslicecap m c * i.bytes):=by simpa using h48
   have hold:=ho w.drew rfl
   simp only [grown,Array.append_assoc]
   simp [Builtin.append_,ar ht,ar hu,aU hi,bw hi,zeroValue,hz,asInt,asIntOf,hw0,hc0,h63',h48',Question.forced,hold,newRow,dL,Builtin.zeroCells]
  ·have hns:¬ (n * i.size=0):=Nat.mul_ne_zero h0 (by omega)
   have h63':¬ (9223372036854775807 < ((m:Int)+(n:Int))):=by omega
   have h48:=growslice_fits (old:=c) (show c < m+n by omega) hb
   have h48':¬ (281474976710656 < Builtin.nextslicecap (m+n) c * i.bytes):=by omega
   have hold:=ho w.drew rfl
   simp only [grown,Array.append_assoc]
   simp [Builtin.append_,ar ht,ar hu,aU hi,bw hi,zeroValue,hz,asInt,asIntOf,hw,hneg,h48i,hc,h0,hns,hes,h63',h48',Question.forced,hold,newRow,dL]
 ·rw [hzc];simp
 ·rw [hzc];exact k1
 ·rw [hzc];exact k2
theorem Dd {t u e:TypeId} {z:List AV} {kn:IntKind} (H:HR φ h w) (hx:VR φ (ev x r) cx) (hy:VR φ (ev y r) cy) (ht:P.underlying t=some (.slice e)) (hu:P.underlying u=some (.int kn)) (hg:iy P e=true) (hes:bj P e≠0) (hz:fS P e=some z)
  (he:lY e (bj P e) z x y r h=.ok v h'):Good φ h w v h' ((Builtin.append_ #[t,u] ty #[cx,cy]).run P w):=by
 obtain ⟨i,zv,hi,hzv,hzs,hby⟩:=lp hg
 rw [cB hi] at hes he
 unfold lY at he
 obtain ⟨k,n,e1,he⟩:=cP he
 obtain ⟨hn,he⟩:=aC he
 have hn:n * i.size≤1048576:=Nat.le_of_ble_eq_true hn
 have hn:n≤1048576:=Nat.le_trans (Nat.le_mul_of_pos_right n (by omega)) hn
 rw [e1] at hy
 rw [hy.aW]
 obtain ⟨i',zv',hi',hzv',g1,g2⟩:=fT hz φ
 rw [hi] at hi';cases hi'
 rw [hzv] at hzv';cases hzv'
 exact px H ht hi hzv hzs hby (by omega) (avc hu hi hzv hzs hby (by omega) g1 g2 n hn) hx he
variable {P:Program} {φ:aJ} {h h':Hp} {w:World} {v:AV} {r:A2} {cx cy:Value} {t:TypeId} {G:Gl} {ρ:Operand→Value}
theorem bS.lq {x:AO} {vs:List Value} (hx:bS φ (gg [x] r) vs):∃c,vs=[c]∧VR φ (ev x r) c:=by
 cases hx with
 | cons a c as cs h1 h2=>cases h2;exact ⟨c,rfl,h1⟩
theorem bS.nD {x y:AO} {vs:List Value} (hx:bS φ (gg [x,y] r) vs):∃c d,vs=[c,d]∧VR φ (ev x r) c∧VR φ (ev y r) d:=by
 cases hx with
 | cons a c as cs h1 h2=>cases h2 with
  | cons b d bs ds h3 h4=>cases h4;exact ⟨c,d,rfl,h1,h3⟩
theorem fc {ts:Array TypeId} {t:TypeId} {l:List TypeId} (e:ts.toList=t::l):ts[0]?=some t:=by
 rw [←Array.getElem?_toList,e];rfl
theorem kG {t:TypeId} {kt:KT} (e:De P t=some kt):∃k e,P.underlying t=some (.map k e)∧my P k=some kt:=by
 unfold De at e
 split at e
 ·exact ⟨_,_,by assumption,e⟩
 ·cases e
theorem wN {b:Builtin} {ts:Array TypeId} {ty:TypeId} {cs:Array Bool} {xs:List AO} {vs:List Value} {op:ox} (hop:iJ P b ts.toList xs=some op) (H:HR φ h w) (hxs:bS φ (gg xs r) vs) (he:op.run r h=.ok v h') :
  ∃s:Sem Value,builtin b ts ty cs vs.toArray=(do pure (.value (←s)))∧Good φ h w v h' (s.run P w):=by
 unfold iJ at hop
 split at hop
 case h_1 t l x ht=>
  obtain ⟨c,rfl,h1⟩:=hxs.lq
  refine ⟨_,rfl,?_⟩
  split at hop
  case h_1 hu=>cases hop;exact Df (fc ht) H h1 (aA hu (by simp)) he
  case h_2 hu=>cases hop;exact HK (fc ht) H h1 ⟨_,aA hu (by simp)⟩ he
  case h_3 hu=>cases hop;exact Dg (fc ht) H h1 (aA hu (by simp)) he
  case h_4 hu=>
   cases hop
   obtain ⟨rfl,rfl⟩:=RV.av he
   exact .same H (.int _ _) (by simp [Builtin.len_,fc ht,ar (aA hu (by simp)),goInt])
  case h_5 hu=>
   split at hop
   ·rename_i hu2
    cases hop
    obtain ⟨rfl,rfl⟩:=RV.av he
    exact .same H (.int _ _) (by simp [Builtin.len_,fc ht,ar (aA hu (by simp)),ar (aA hu2 (by simp)),goInt])
   ·cases hop
  case h_6=>cases hop
 case h_2 t l x ht=>
  obtain ⟨c,rfl,h1⟩:=hxs.lq
  refine ⟨_,rfl,?_⟩
  split at hop
  case h_1 hu=>cases hop;exact HL (fc ht) H h1 (aA hu (by simp)) he
  case h_2 hu=>
   cases hop
   obtain ⟨rfl,rfl⟩:=RV.av he
   exact .same H (.int _ _) (by simp [Builtin.cap_,fc ht,ar (aA hu (by simp)),goInt])
  case h_3=>cases hop
 case h_3 t u x y ht=>
  obtain ⟨c,d,rfl,h1,h2⟩:=hxs.nD
  refine ⟨_,rfl,?_⟩
  have hts:ts=#[t,u]:=by apply Array.ext';rw [ht]
  subst hts
  split at hop
  case h_1 hu hv=>
   split at hop
   ·rename_i hg
    cases hop
    simp only [Bool.and_eq_true,decide_eq_true_eq] at hg
    exact Dh H h1 h2 (aA hu (by simp)) (aA hv (by simp)) hg.2 hg.1 he
   ·cases hop
  case h_2 hu hv=>
   split at hop
   ·cases hop
   ·rename_i hg
    cases hop
    simp only [Bool.or_eq_true,decide_eq_true_eq,Bool.not_eq_true',not_or,Bool.not_eq_false] at hg
    exact HM H h1 h2 (aA hu (by simp)) (aA hv (by simp)) hg.2 hg.1 he
  case h_3 hu hv=>
   split at hop
   ·cases hop
   ·rename_i hg
    simp only [Option.bind_eq_some_iff] at hop
    obtain ⟨z,hz,hop⟩:=hop
    split at hop
    ·cases hop
    ·cases hop
     simp only [Bool.or_eq_true,decide_eq_true_eq,Bool.not_eq_true',not_or,Bool.not_eq_false] at hg
     exact Dd H h1 h2 (aA hu (by simp)) (aA hv (by simp)) hg.2 hg.1 hz he
  case h_4=>cases hop
 case h_4 t l x y ht=>
  obtain ⟨c,d,rfl,h1,h2⟩:=hxs.nD
  refine ⟨_,rfl,?_⟩
  split at hop
  case h_1 e hu=>
   split at hop
   ·cases hop
   ·rename_i hs
    cases hop
    obtain ⟨i,hi,hs'⟩:=ln hs
    rw [cB hi] at he
    exact HN (fc ht) H h1 h2 (aA hu (by simp)) hi (by omega) he
  case h_2=>cases hop
 case h_5 t l x ht=>
  obtain ⟨c,rfl,h1⟩:=hxs.lq
  refine ⟨_,rfl,?_⟩
  split at hop
  case h_1 e hu=>
   split at hop
   ·cases hop
   ·simp only [Option.bind_eq_some_iff] at hop
    obtain ⟨z,hz,hop⟩:=hop
    split at hop
    ·cases hop
    ·cases hop
     exact HO (fc ht) H h1 (aA hu (by simp)) hz he
  case h_2=>cases hop
 case h_6 t l x y ht=>
  obtain ⟨c,d,rfl,h1,h2⟩:=hxs.nD
  refine ⟨_,rfl,?_⟩
  simp only [bind,Option.bind_eq_some_iff,Option.some.injEq] at hop
  obtain ⟨kt,hk,rfl⟩:=hop
  obtain ⟨k,e,hu,hk⟩:=kG hk
  exact HP (fc ht) H h1 h2 hu hk he
 case h_7=>cases hop;exact ⟨_,rfl,yw (ts:=ts) (ty:=ty) (mn:=false) H hxs he⟩
 case h_8=>cases hop;exact ⟨_,rfl,yw (ts:=ts) (ty:=ty) (mn:=true) H hxs he⟩
 case h_9 x=>
  obtain ⟨c,rfl,h1⟩:=hxs.lq
  cases hop
  exact ⟨_,rfl,Db H h1 he⟩
 case h_10 x=>
  obtain ⟨c,rfl,h1⟩:=hxs.lq
  cases hop
  exact ⟨_,rfl,Di H h1 he⟩
 case h_11 x=>
  obtain ⟨c,rfl,h1⟩:=hxs.lq
  cases hop
  exact ⟨_,rfl,Dj H h1 he⟩
 case h_12 t l x y ht=>
  obtain ⟨c,d,rfl,h1,h2⟩:=hxs.nD
  refine ⟨_,rfl,?_⟩
  split at hop
  case h_1 e hu=>
   split at hop
   ·rename_i hs
    cases hop
    exact Dc (fc ht) (aA hu (by simp)) hs H h1 h2 he
   ·cases hop
  case h_2=>cases hop
 case h_13 t l x y ht=>
  obtain ⟨c,d,rfl,h1,h2⟩:=hxs.nD
  refine ⟨_,rfl,?_⟩
  split at hop
  case h_1=>cases hop;exact Dk H h1 h2 he
  case h_2=>cases hop
 case h_14=>cases hop
variable {P:Program} {φ:aJ} {h h':Hp} {w:World} {v:AV} {r:A2} {cx cy:Value} {t:TypeId} {G:Gl} {ρ:Operand→Value}
theorem gq {α:Type} {o:Option α} (h:¬ o.isNone=true):∃a,o=some a:=by cases o with
 | none=>exact absurd rfl h
 | some a=>exact ⟨a,rfl⟩
def bP (φ:aJ) (h:Hp) (w:World) (v:AV) (h':Hp) (res:Result Next):Prop:=
 ∃nx w' φ',res=.ok nx w'∧((∃cv,nx=.value cv∧VR φ' v cv)∨(nx=.skip∧v=.undef))∧HR φ' h' w'∧Step φ h w φ' h' w'
theorem Good.iK {s:Sem Value} (g:Good φ h w v h' (s.run P w)):bP φ h w v h' ((do pure (.value (←s)):Sem Next).run P w):=by
 obtain ⟨cv,w',φ',e,h1,h2,h3⟩:=g
 exact ⟨.value cv,w',φ',by simp only [Sem.run_bind,e,Result.andThen_ok,Sem.run_pure],.inl ⟨cv,rfl,h1⟩,h2,h3⟩
theorem vB.iK {s:Sem Unit} (hv:v=.undef) (g:vB φ h w h' (s.run P w)):bP φ h w v h' ((do s;pure .skip:Sem Next).run P w):=by
 obtain ⟨w',φ',e,h2,h3⟩:=g
 exact ⟨.skip,w',φ',by simp only [Sem.run_bind,e,Result.andThen_ok,Sem.run_pure],.inr ⟨rfl,hv⟩,h2,h3⟩
theorem bP.same {nx:Next} {res:Result Next} (H:HR φ h w) (hn:(∃cv,nx=.value cv∧VR φ v cv)) (e:res=.ok nx w):bP φ h w v h res:=⟨nx,w,φ,e,.inl hn,H,.refl _ _ _⟩
section
variable {dst:Option Tmp} {type:TypeId} {pos:String} {after:Array Edge} {guard:Option (Nat×Bool)} {names:List String} {op:ox}
variable (hρ:∀q x,cO G q=some x→VR φ (ev x r) (ρ q))
include hρ
theorem kH {o:Option Operand} {x:OA} (e:Ko G o=some x):HQ φ r x (o.map ρ):=by
 cases o with
 | none=>cases e;trivial
 | some q=>
  simp only [Ko,Option.map_eq_some_iff] at e
  obtain ⟨y,hy,rfl⟩:=e
  exact hρ q y hy
theorem apu {x:Operand} (hop:bX P G names ⟨dst,.move x,type,pos,after,guard⟩=some (.op op)) (H:HR φ h w) (he:op.run r h=.ok v h'):bP φ h w v h' ((execOp ρ ⟨dst,.move x,type,pos,after,guard⟩).run P w):=by
 simp only [bX,bind,Option.bind_eq_some_iff,Option.some.injEq,AI.op.injEq] at hop
 obtain ⟨a,ha,rfl⟩:=hop
 obtain ⟨rfl,rfl⟩:=RV.av he
 exact .same H ⟨_,rfl,hρ _ _ ha⟩ rfl
theorem apv {x:Operand} (hop:bX P G names ⟨dst,.assign x,type,pos,after,guard⟩=some (.op op)) (H:HR φ h w) (he:op.run r h=.ok v h'):bP φ h w v h' ((execOp ρ ⟨dst,.assign x,type,pos,after,guard⟩).run P w):=by
 simp only [bX,bind,Option.bind_eq_some_iff,Option.some.injEq,AI.op.injEq] at hop
 obtain ⟨a,ha,rfl⟩:=hop
 obtain ⟨rfl,rfl⟩:=RV.av he
 exact .same H ⟨_,rfl,hρ _ _ ha⟩ rfl
theorem Qj {a b c:Operand} (hop:bX P G names ⟨dst,.pick c a b,type,pos,after,guard⟩=some (.op op)) (H:HR φ h w) (he:op.run r h=.ok v h'):bP φ h w v h' ((execOp ρ ⟨dst,.pick c a b,type,pos,after,guard⟩).run P w):=by
 simp only [bX,bind,Option.bind_eq_some_iff,Option.some.injEq,AI.op.injEq] at hop
 obtain ⟨x,hx,y,hy,z,hz,rfl⟩:=hop
 obtain ⟨cv,w',φ',e,h1,h2,h3⟩:=Dl (P:=P) H (hρ _ _ hx) (hρ _ _ hy) (hρ _ _ hz) he
 refine ⟨.value cv,w',φ',?_,.inl ⟨cv,rfl,h1⟩,h2,h3⟩
 simp only [Sem.run_bind,Sem.run_pure] at e
 simp only [execOp,Sem.run_bind,Sem.run_pure]
 cases hb:(asBool (ρ c)).run P w with
 | ok t w1=>rw [hb] at e;simp only [Result.andThen_ok] at e ⊢;obtain ⟨rfl,rfl⟩:=Result.ok.inj e;rfl
 | halt x w1=>rw [hb] at e;cases e
theorem HS {e:TypeId} (hop:bX P G names ⟨dst,.alloc e,type,pos,after,guard⟩=some (.op op)) (H:HR φ h w) (he:op.run r h=.ok v h'):bP φ h w v h' ((execOp ρ ⟨dst,.alloc e,type,pos,after,guard⟩).run P w):=by
 simp only [bX,bind,Option.bind_eq_some_iff,Option.some.injEq,AI.op.injEq] at hop
 obtain ⟨z,hz,rfl⟩:=hop
 exact (Aa (r:=r) H hz he).iK
theorem akC {e:TypeId} {x:Operand} (hop:bX P G names ⟨dst,.box e x,type,pos,after,guard⟩=some (.op op)) (H:HR φ h w) (he:op.run r h=.ok v h'):bP φ h w v h' ((execOp ρ ⟨dst,.box e x,type,pos,after,guard⟩).run P w):=by
 simp only [bX,bind,Option.bind_eq_some_iff,Option.some.injEq,AI.op.injEq] at hop
 obtain ⟨z,hz,rfl⟩:=hop
 exact (HT H (hρ _ _ hz) he).iK
theorem py (ps:Array (Nat×Operand)):(ps.map fun (i,x)=>(i,ρ x))=(ps.toList.map fun q=>(q.1,ρ q.2)).toArray:=by
 apply Array.ext'
 simp
theorem HU {t:TypeId} {ps:Array (Nat×Operand)} (hop:bX P G names ⟨dst,.build t ps,type,pos,after,guard⟩=some (.op op)) (H:HR φ h w) (he:op.run r h=.ok v h'):bP φ h w v h' ((execOp ρ ⟨dst,.build t ps,type,pos,after,guard⟩).run P w):=by
 simp only [bX,bind,Option.bind_eq_some_iff] at hop
 obtain ⟨z,hz,hop⟩:=hop
 refine Good.iK ?_
 rw [py hρ ps]
 split at hop
 ·rename_i fs hu
  split at hop
  ·rename_i hall
   simp only [Option.bind_eq_some_iff,Option.some.injEq,AI.op.injEq] at hop
   obtain ⟨l,hl,rfl⟩:=hop
   obtain ⟨g1,g2,g3⟩:=iL (φ:=φ) (r:=r) (ρ:=ρ) hl (fun q _ a ha=>hρ _ _ ha)
   exact sZ H hz (by simpa using g1) g2 g3 (.inl ⟨fs,aA hu (by simp),fun f hf=>Array.all_eq_true_iff_forall_mem.1 hall f hf,rfl⟩) he
  ·cases hop
 ·rename_i n e hu
  split at hop
  ·rename_i hall
   simp only [Option.bind_eq_some_iff,Option.some.injEq,AI.op.injEq] at hop
   obtain ⟨l,hl,rfl⟩:=hop
   obtain ⟨g1,g2,g3⟩:=iL (φ:=φ) (r:=r) (ρ:=ρ) hl (fun q _ a ha=>hρ _ _ ha)
   exact sZ H hz (by simpa using g1) g2 g3 (.inr ⟨n,e,aA hu (by simp),hall,rfl⟩) he
  ·cases hop
 ·cases hop
theorem Dm {t:TypeId} {n:Nat} {ps:Array (Nat×Operand)} (hop:bX P G names ⟨dst,.buildSlice t n ps,type,pos,after,guard⟩=some (.op op)) (H:HR φ h w) (he:op.run r h=.ok v h'):bP φ h w v h' ((execOp ρ ⟨dst,.buildSlice t n ps,type,pos,after,guard⟩).run P w):=by
 simp only [bX] at hop
 split at hop
 ·rename_i e hu
  simp only [bind,Option.bind_eq_some_iff] at hop
  obtain ⟨z,hz,hop⟩:=hop
  split at hop
  ·simp at hop
  ·rename_i hs
   simp only [not_or,Decidable.not_not] at hs
   simp only [bind,pure,Option.bind_some,Option.bind_eq_some_iff,Option.some.injEq,AI.op.injEq] at hop
   obtain ⟨l,hl,rfl⟩:=hop
   refine Good.iK ?_
   rw [py hρ ps]
   obtain ⟨g1,g2,g3⟩:=iL (φ:=φ) (r:=r) (ρ:=ρ) hl (fun q _ a ha=>hρ _ _ ha)
   exact yx H (aA hu (by simp)) hz hs.2 hs.1 (by simpa using g1) g2 g3 he
 ·cases hop
theorem Qk {t:TypeId} {x:Operand} (hop:bX P G names ⟨dst,.load t x,type,pos,after,guard⟩=some (.op op)) (H:HR φ h w) (he:op.run r h=.ok v h'):bP φ h w v h' ((execOp ρ ⟨dst,.load t x,type,pos,after,guard⟩).run P w):=by
 simp only [bX] at hop
 split at hop
 ·simp at hop
 ·rename_i hu
  obtain ⟨d,hd⟩:=gq hu
  split at hop
  ·rename_i ha
   simp only [bind,pure,Option.bind_some,Option.bind_eq_some_iff,Option.some.injEq,AI.op.injEq] at hop
   obtain ⟨a,hx,rfl⟩:=hop
   exact (HV H (hρ _ _ hx) hd ha rfl he).iK
  ·rename_i ha
   simp only [bind,pure,Option.bind_some,Option.bind_eq_some_iff,Option.some.injEq,AI.op.injEq] at hop
   obtain ⟨a,hx,rfl⟩:=hop
   exact (HW H (hρ _ _ hx) hd (by simpa using ha) he).iK
theorem HX {t:TypeId} {x y:Operand} (hop:bX P G names ⟨dst,.store t x y,type,pos,after,guard⟩=some (.op op)) (H:HR φ h w) (he:op.run r h=.ok v h'):bP φ h w v h' ((execOp ρ ⟨dst,.store t x y,type,pos,after,guard⟩).run P w):=by
 simp only [bX] at hop
 split at hop
 ·simp at hop
 ·rename_i hu
  obtain ⟨i,hi⟩:=gq hu
  split at hop
  ·simp only [bind,pure,Option.bind_some,Option.bind_eq_some_iff,Option.some.injEq,AI.op.injEq] at hop
   obtain ⟨a,hx,b,hy,rfl⟩:=hop
   obtain ⟨g1,g2⟩:=HY H (hρ _ _ hx) (hρ _ _ hy) hi rfl he
   exact g2.iK g1
  ·split at hop
   ·rename_i hs
    simp only [bind,pure,Option.bind_some,Option.bind_eq_some_iff,Option.some.injEq,AI.op.injEq] at hop
    obtain ⟨a,hx,b,hy,rfl⟩:=hop
    obtain ⟨g1,g2⟩:=HZ H (hρ _ _ hx) (hρ _ _ hy) hi (by rw [←cB hi];exact hs) he
    exact g2.iK g1
   ·simp at hop
theorem Ql {x:Operand} (hop:bX P G names ⟨dst,.nilCheck x,type,pos,after,guard⟩=some (.op op)) (H:HR φ h w) (he:op.run r h=.ok v h'):bP φ h w v h' ((execOp ρ ⟨dst,.nilCheck x,type,pos,after,guard⟩).run P w):=by
 simp only [bX,bind,Option.bind_eq_some_iff,Option.some.injEq,AI.op.injEq] at hop
 obtain ⟨a,ha,rfl⟩:=hop
 have hv:=hρ _ _ ha
 obtain ⟨g1,g2,g3,g4,g5⟩:=Dn H hv he
 subst g2
 rw [g1]
 refine .same H ⟨_,rfl,hv⟩ ?_
 have hm:∀n f c,ρ x≠.func (.method n) f c:=by
  intro n f c e
  rw [e] at hv
  change (OP.rec (qm (ev a r) h') (fun i o=>.ok (.ptr i o) h') (ev a r).ft:RV)=_ at he
  generalize ev a r=z at hv he
  cases hv
  cases he
 simp only [execOp]
 cases hr:ρ x with
 | pointer p=>cases p with
  | none=>exact absurd hr g3
  | some p=>rfl
 | nilIface=>exact absurd hr g4
 | nilFunc=>exact absurd hr g5
 | func fn f c=>cases fn<;>first|exact absurd hr (hm _ _ _)|rfl
 | _=>rfl
theorem akD {o:BinOp} {t u:TypeId} {x y:Operand} (hc:∀c,ρ (.const c)=c) (hop:bX P G names ⟨dst,.binOp o t x y u,type,pos,after,guard⟩=some (.op op)) (H:HR φ h w) (he:op.run r h=.ok v h'):bP φ h w v h' ((execOp ρ ⟨dst,.binOp o t x y u,type,pos,after,guard⟩).run P w):=by
 simp only [bX] at hop
 split at hop
 ·rename_i k hk
  simp only [bind,Option.bind_eq_some_iff,Option.some.injEq,AI.op.injEq] at hop
  obtain ⟨a,hx,b,hy,rfl⟩:=hop
  exact (He hc hk H (hρ _ _ hx) (hρ _ _ hy) he).iK
 ·split at hop
  ·rename_i k hk
   simp only [bind,Option.bind_eq_some_iff,Option.some.injEq,AI.op.injEq] at hop
   obtain ⟨a,hx,b,hy,rfl⟩:=hop
   exact (nB (k:=k) false hc hk H (hρ _ _ hx) he).iK
  ·rename_i k hk
   simp only [bind,Option.bind_eq_some_iff,Option.some.injEq,AI.op.injEq] at hop
   obtain ⟨a,hx,b,hy,rfl⟩:=hop
   exact (nB (k:=k) true hc hk H (hρ _ _ hx) he).iK
  ·cases hop
theorem apw {o:UnOp} {t:TypeId} {x:Operand} (hop:bX P G names ⟨dst,.unOp o t x,type,pos,after,guard⟩=some (.op op)) (H:HR φ h w) (he:op.run r h=.ok v h'):bP φ h w v h' ((execOp ρ ⟨dst,.unOp o t x,type,pos,after,guard⟩).run P w):=by
 cases o<;>simp only [bX,bind,Option.bind_eq_some_iff,Option.some.injEq,AI.op.injEq] at hop
 case plus=>cases hop
 all_goals obtain ⟨a,hx,rfl⟩:=hop
 all_goals first|exact (Ia H (hρ _ _ hx) he).iK|exact (Ib H (hρ _ _ hx) he).iK|exact (Ic H (hρ _ _ hx) he).iK
theorem Qm {s d:TypeId} {x:Operand} (hop:bX P G names ⟨dst,.convert s d x,type,pos,after,guard⟩=some (.op op)) (H:HR φ h w) (he:op.run r h=.ok v h'):bP φ h w v h' ((execOp ρ ⟨dst,.convert s d x,type,pos,after,guard⟩).run P w):=by
 simp only [bX,bind,Option.bind_eq_some_iff,Option.some.injEq,AI.op.injEq] at hop
 obtain ⟨k,hk,a,ha,rfl⟩:=hop
 exact (CZ hk H (hρ _ _ ha) he).iK
end
variable {P:Program} {φ:aJ} {h h':Hp} {w:World} {v:AV} {r:A2} {cx cy:Value} {t:TypeId} {G:Gl} {ρ:Operand→Value}
theorem wO {t:TypeId} {k:IntKind} {n:Int} {a b:TypeId} (ht:P.underlying t=some (.map a b)) (H:HR φ h w) (he:qy r h=.ok v h'):Good φ h w v h' ((Instr.makeMap t (some (.int k n))).run P w):=by
 have hrun:(Instr.makeMap t (some (.int k n))).run P w=(Instr.makeMap t none).run P w:=by
  have ha:(asInt (.int k n)).run P w=.ok n w:=rfl
  simp [Instr.makeMap,ar ht,ha]
 rw [hrun]
 exact ta H he
section
variable {dst:Option Tmp} {type:TypeId} {pos:String} {after:Array Edge} {guard:Option (Nat×Bool)} {names:List String} {op:ox}
variable (hρ:∀q x,cO G q=some x→VR φ (ev x r) (ρ q))
include hρ
theorem akE {t:TypeId} {x:Operand} (hop:bX P G names ⟨dst,.makeInterface t x,type,pos,after,guard⟩=some (.op op)) (H:HR φ h w) (he:op.run r h=.ok v h'):bP φ h w v h' ((execOp ρ ⟨dst,.makeInterface t x,type,pos,after,guard⟩).run P w):=by
 cases hu:P.underlying t with
 | none=>simp [bX,hu] at hop
 | some d=>
  have hn:∀m,d≠.interface m:=by
   intro m e
   subst e
   simp [bX,hu] at hop
  have hop:∃a,cO G x=some a∧ox.mki t a=op:=by
   cases d<;>simp only [bX,hu,bind,Option.bind_eq_some_iff,Option.some.injEq,AI.op.injEq] at hop<;>first|exact hop|exact absurd rfl (hn _)
  obtain ⟨a,hx,rfl⟩:=hop
  exact (Ie H (hρ _ _ hx) hu hn he).iK
theorem akF {fn:Fn} {first cap:Array Operand} (hop:bX P G names ⟨dst,.makeFunc fn first cap,type,pos,after,guard⟩=some (.op op)) (H:HR φ h w) (he:op.run r h=.ok v h'):bP φ h w v h' ((execOp ρ ⟨dst,.makeFunc fn first cap,type,pos,after,guard⟩).run P w):=by
  cases fn<;>simp only [bX] at hop
  case func f=>
    split at hop
    · rename_i hf
      simp only [bind,Option.bind_eq_some_iff,Option.some.injEq,AI.op.injEq] at hop
      obtain ⟨l,hl,rfl⟩:=hop
      have g1:=lr (φ:=φ) (r:=r) (ρ:=ρ) hl (fun o _ a ha=>hρ _ _ ha)
      have e1 : first.map ρ = #[] := by have : first = #[] := by simpa using hf
                                        subst this;simp
      have e2:cap.map ρ=(cap.toList.map ρ).toArray:=by apply Array.ext';simp
      show bP φ h w v h' ((do pure (.value (←Instr.makeFunc (.func f) (first.map ρ) (cap.map ρ))):Sem Next).run P w)
      rw [e1,e2]
      exact (Ig H g1 he).iK
    · cases hop
  all_goals cases hop
theorem Ih {t:TypeId} {re:Option Operand} (hc:∀c,ρ (.const c)=c) (hop:bX P G names ⟨dst,.makeMap t re,type,pos,after,guard⟩=some (.op op)) (H:HR φ h w) (he:op.run r h=.ok v h'):bP φ h w v h' ((execOp ρ ⟨dst,.makeMap t re,type,pos,after,guard⟩).run P w):=by
 cases re with
 | none=>
  simp only [bX,Option.some.injEq,AI.op.injEq] at hop
  subst hop
  exact (ta (r:=r) H he).iK
 | some q=>
  cases q<;>(try (simp [bX] at hop;done))
  rename_i cv
  cases cv<;>(try (simp [bX] at hop;done))
  simp only [bX] at hop
  split at hop
  ·rename_i hu
   cases hop
   refine Good.iK ?_
   show Good φ h w v h' ((Instr.makeMap t (some (ρ (.const (.int _ _))))).run P w)
   rw [hc]
   exact wO (r:=r) (aA hu (by simp)) H he
  ·cases hop
theorem Ab {t:TypeId} {x y:Operand} (hop:bX P G names ⟨dst,.makeSlice t x y,type,pos,after,guard⟩=some (.op op)) (H:HR φ h w) (he:op.run r h=.ok v h'):bP φ h w v h' ((execOp ρ ⟨dst,.makeSlice t x y,type,pos,after,guard⟩).run P w):=by
 simp only [bX] at hop
 split at hop
 ·rename_i e hu
  simp only [bind,Option.bind_eq_some_iff] at hop
  obtain ⟨z,hz,hop⟩:=hop
  split at hop
  ·simp at hop
  ·rename_i hs
   simp only [not_or,Decidable.not_not] at hs
   simp only [bind,pure,Option.bind_some,Option.bind_eq_some_iff,Option.some.injEq,AI.op.injEq] at hop
   obtain ⟨a,hx,b,hy,rfl⟩:=hop
   exact (wP H (hρ _ _ hx) (hρ _ _ hy) (aA hu (by simp)) hz hs.2.1 hs.1 (by simpa using hs.2.2) he).iK
 ·cases hop
theorem Ii {t:TypeId} {x:Operand} {l u m:Option Operand} (hop:bX P G names ⟨dst,.slice t x l u m,type,pos,after,guard⟩=some (.op op)) (H:HR φ h w) (he:op.run r h=.ok v h'):bP φ h w v h' ((execOp ρ ⟨dst,.slice t x l u m,type,pos,after,guard⟩).run P w):=by
 simp only [bX] at hop
 split at hop
 ·rename_i hu
  split at hop
  ·simp at hop
  ·rename_i hm
   have hm:m=none:=by simpa using hm
   subst hm
   simp only [bind,pure,Option.bind_some,Option.bind_eq_some_iff,Option.some.injEq,AI.op.injEq] at hop
   obtain ⟨a,hx,b,hb,c,hc,rfl⟩:=hop
   exact (Dp H (hρ _ _ hx) (kH hρ hb) (kH hρ hc) (aA hu (by simp)) he).iK
 ·rename_i e hu
  split at hop
  ·simp at hop
  ·rename_i hs
   simp only [not_or,not_and] at hs
   obtain ⟨i,hi,hs'⟩:=ln hs.1
   simp only [bind,pure,Option.bind_some,Option.bind_eq_some_iff,Option.some.injEq,AI.op.injEq] at hop
   obtain ⟨a,hx,b,hb,c,hc,d,hd,rfl⟩:=hop
   rw [cB hi] at he
   exact (Ij H (hρ _ _ hx) (kH hρ hb) (kH hρ hc) (kH hρ hd) (aA hu (by simp)) hi (by omega) (fun g=>by cases u<;>simp_all) he).iK
 ·rename_i n e hu
  split at hop
  ·simp at hop
  ·rename_i hs
   simp only [not_or,not_and] at hs
   obtain ⟨i,hi⟩:=gq hs.2
   simp only [bind,pure,Option.bind_some,Option.bind_eq_some_iff,Option.some.injEq,AI.op.injEq] at hop
   obtain ⟨a,hx,b,hb,c,hc,d,hd,rfl⟩:=hop
   rw [cB hi] at he
   exact (Dq H (hρ _ _ hx) (kH hρ hb) (kH hρ hc) (kH hρ hd) (aA hu (by simp)) hi (fun g=>by cases u<;>simp_all) he).iK
 ·cases hop
theorem akG {t:TypeId} {x:Operand} {f:Nat} (hop:bX P G names ⟨dst,.fieldAddr t x f,type,pos,after,guard⟩=some (.op op)) (H:HR φ h w) (he:op.run r h=.ok v h'):bP φ h w v h' ((execOp ρ ⟨dst,.fieldAddr t x f,type,pos,after,guard⟩).run P w):=by
 simp only [bX] at hop
 split at hop
 ·rename_i fs hu
  simp only [bind,Option.bind_eq_some_iff] at hop
  obtain ⟨fd,hf,hop⟩:=hop
  split at hop
  ·simp at hop
  ·rename_i hs
   obtain ⟨i,hi,hs'⟩:=ln hs
   simp only [bind,pure,Option.bind_some,Option.bind_eq_some_iff,Option.some.injEq,AI.op.injEq] at hop
   obtain ⟨a,hx,rfl⟩:=hop
   exact (Ik H (hρ _ _ hx) (aA hu (by simp)) hf hi hs' he).iK
 ·cases hop
theorem Il {t:TypeId} {x:Operand} {f:Nat} (hop:bX P G names ⟨dst,.field t x f,type,pos,after,guard⟩=some (.op op)) (H:HR φ h w) (he:op.run r h=.ok v h'):bP φ h w v h' ((execOp ρ ⟨dst,.field t x f,type,pos,after,guard⟩).run P w):=by
 simp only [bX] at hop
 split at hop
 ·rename_i fs hu
  simp only [bind,Option.bind_eq_some_iff] at hop
  obtain ⟨fd,hf,hop⟩:=hop
  split at hop
  ·simp at hop
  ·rename_i hs
   obtain ⟨d,hd⟩:=gq hs
   obtain ⟨i,hi⟩:=hR hd
   split at hop
   ·rename_i ha
    simp only [bind,pure,Option.bind_some,Option.bind_eq_some_iff,Option.some.injEq,AI.op.injEq] at hop
    obtain ⟨a,hx,rfl⟩:=hop
    rw [cB hi] at he
    exact (Dr H (hρ _ _ hx) (aA hu (by simp)) hf hd ha hi he).iK
   ·rename_i ha
    simp only [bind,pure,Option.bind_some,Option.bind_eq_some_iff,Option.some.injEq,AI.op.injEq] at hop
    obtain ⟨a,hx,rfl⟩:=hop
    exact (Ds H (hρ _ _ hx) (aA hu (by simp)) hf hd (by simpa using ha) he).iK
 ·cases hop
theorem Qn {t:TypeId} {x y:Operand} (hop:bX P G names ⟨dst,.indexAddr t x y,type,pos,after,guard⟩=some (.op op)) (H:HR φ h w) (he:op.run r h=.ok v h'):bP φ h w v h' ((execOp ρ ⟨dst,.indexAddr t x y,type,pos,after,guard⟩).run P w):=by
 simp only [bX] at hop
 split at hop
 ·rename_i n e hu
  split at hop
  ·simp at hop
  ·rename_i hs
   obtain ⟨i,hi⟩:=gq hs
   simp only [bind,pure,Option.bind_some,Option.bind_eq_some_iff,Option.some.injEq,AI.op.injEq] at hop
   obtain ⟨a,hx,b,hb,rfl⟩:=hop
   rw [cB hi] at he
   exact (Im H (hρ _ _ hx) (hρ _ _ hb) (aA hu (by simp)) hi he).iK
 ·rename_i e hu
  split at hop
  ·simp at hop
  ·rename_i hs
   obtain ⟨i,hi⟩:=gq hs
   simp only [bind,pure,Option.bind_some,Option.bind_eq_some_iff,Option.some.injEq,AI.op.injEq] at hop
   obtain ⟨a,hx,b,hb,rfl⟩:=hop
   rw [cB hi] at he
   exact (Io H (hρ _ _ hx) (hρ _ _ hb) (aA hu (by simp)) hi he).iK
 ·cases hop
theorem Ip {t:TypeId} {x y:Operand} (hop:bX P G names ⟨dst,.index t x y,type,pos,after,guard⟩=some (.op op)) (H:HR φ h w) (he:op.run r h=.ok v h'):bP φ h w v h' ((execOp ρ ⟨dst,.index t x y,type,pos,after,guard⟩).run P w):=by
 simp only [bX] at hop
 split at hop
 ·rename_i hu
  simp only [bind,pure,Option.bind_some,Option.bind_eq_some_iff,Option.some.injEq,AI.op.injEq] at hop
  obtain ⟨a,hx,b,hb,rfl⟩:=hop
  exact (Dt H (hρ _ _ hx) (hρ _ _ hb) (aA hu (by simp)) he).iK
 ·rename_i n e hu
  split at hop
  ·simp at hop
  ·rename_i hs
   obtain ⟨d,hd⟩:=gq hs
   obtain ⟨i,hi⟩:=hR hd
   simp only [bind,pure,Option.bind_some,Option.bind_eq_some_iff,Option.some.injEq,AI.op.injEq] at hop
   obtain ⟨a,hx,b,hb,rfl⟩:=hop
   rw [cB hi] at he
   exact (Du H (hρ _ _ hx) (hρ _ _ hb) (aA hu (by simp)) hd hi he).iK
 ·cases hop
theorem akH {t:TypeId} {x y:Operand} {ok:Bool} (hop:bX P G names ⟨dst,.lookup t x y ok,type,pos,after,guard⟩=some (.op op)) (H:HR φ h w) (he:op.run r h=.ok v h'):bP φ h w v h' ((execOp ρ ⟨dst,.lookup t x y ok,type,pos,after,guard⟩).run P w):=by
 simp only [bX] at hop
 split at hop
 ·rename_i k e hu
  simp only [bind,pure,Option.bind_some,Option.bind_eq_some_iff,Option.some.injEq,AI.op.injEq] at hop
  obtain ⟨kt,hk,z,hz,a,hx,b,hb,rfl⟩:=hop
  obtain ⟨k',e',hu',hk'⟩:=kG hk
  have:=aA hu (by simp)
  rw [this] at hu';cases hu'
  exact (Iq H (hρ _ _ hx) (hρ _ _ hb) this hk' hz he).iK
 ·cases hop
theorem akI {t:TypeId} {x y z:Operand} (hop:bX P G names ⟨dst,.mapUpdate t x y z,type,pos,after,guard⟩=some (.op op)) (H:HR φ h w) (he:op.run r h=.ok v h'):bP φ h w v h' ((execOp ρ ⟨dst,.mapUpdate t x y z,type,pos,after,guard⟩).run P w):=by
 simp only [bX,bind,Option.bind_eq_some_iff,Option.some.injEq,AI.op.injEq] at hop
 obtain ⟨kt,hk,a,hx,b,hb,c,hc,rfl⟩:=hop
 obtain ⟨k',e',hu',hk'⟩:=kG hk
 obtain ⟨g1,g2⟩:=yy H (hρ _ _ hx) (hρ _ _ hb) (hρ _ _ hc) hu' hk' he
 exact g2.iK g1
theorem akJ {t:TypeId} {x y z:Operand} (hop:bX P G names ⟨dst,.insert t x y z,type,pos,after,guard⟩=some (.op op)) (H:HR φ h w) (he:op.run r h=.ok v h'):bP φ h w v h' ((execOp ρ ⟨dst,.insert t x y z,type,pos,after,guard⟩).run P w):=by
 simp only [bX,bind,Option.bind_eq_some_iff,Option.some.injEq,AI.op.injEq] at hop
 obtain ⟨kt,hk,a,hx,b,hb,c,hc,rfl⟩:=hop
 obtain ⟨k',e',hu',hk'⟩:=kG hk
 obtain ⟨g1,g2⟩:=yy H (hρ _ _ hx) (hρ _ _ hb) (hρ _ _ hc) hu' hk' he
 exact g2.iK g1
theorem Ir {t:TypeId} {x:Operand} (hop:bX P G names ⟨dst,.range t x,type,pos,after,guard⟩=some (.op op)) (H:HR φ h w) (he:op.run r h=.ok v h'):bP φ h w v h' ((execOp ρ ⟨dst,.range t x,type,pos,after,guard⟩).run P w):=by
 simp only [bX] at hop
 split at hop
 ·rename_i k e hu
  simp only [bind,pure,Option.bind_some,Option.bind_eq_some_iff,Option.some.injEq,AI.op.injEq] at hop
  obtain ⟨a,hx,rfl⟩:=hop
  exact (Dv H (hρ _ _ hx) (aA hu (by simp)) he).iK
 ·cases hop
theorem akK {x:Operand} (hop:bX P G names ⟨dst,.entry x,type,pos,after,guard⟩=some (.op op)) (H:HR φ h w) (he:op.run r h=.ok v h'):bP φ h w v h' ((execOp ρ ⟨dst,.entry x,type,pos,after,guard⟩).run P w):=by
 simp only [bX,bind,Option.bind_eq_some_iff,Option.some.injEq,AI.op.injEq] at hop
 obtain ⟨a,hx,rfl⟩:=hop
 exact (It H (hρ _ _ hx) he).iK
theorem akL {t u:TypeId} {x:Operand} {ok:Bool} (hop:bX P G names ⟨dst,.typeAssert x u t ok,type,pos,after,guard⟩=some (.op op)) (H:HR φ h w) (he:op.run r h=.ok v h'):bP φ h w v h' ((execOp ρ ⟨dst,.typeAssert x u t ok,type,pos,after,guard⟩).run P w):=by
 simp only [bX] at hop
 split at hop
 ·simp at hop
 ·rename_i hs
  by_cases hn:(P.underlying t).isNone=true
  ·simp [hn] at hop
  ·rw [if_neg (by simp [hn])] at hop
   obtain ⟨d,hd⟩:=gq hn
   simp only [bind,pure,Option.bind_some,Option.bind_eq_some_iff,Option.some.injEq,AI.op.injEq] at hop
   obtain ⟨z,hz,a,hx,rfl⟩:=hop
   refine (Iu H (hρ _ _ hx) hd (fun m e=>?_) hz he).iK
   subst e
   exact hs m (by simp [jg,hd])
theorem akM {x:Operand} {i:Nat} (hop:bX P G names ⟨dst,.extract x i,type,pos,after,guard⟩=some (.op op)) (H:HR φ h w) (he:op.run r h=.ok v h'):bP φ h w v h' ((execOp ρ ⟨dst,.extract x i,type,pos,after,guard⟩).run P w):=by
 simp only [bX,bind,Option.bind_eq_some_iff,Option.some.injEq,AI.op.injEq] at hop
 obtain ⟨a,hx,rfl⟩:=hop
 exact (Iw H (hρ _ _ hx) he).iK
theorem Qo {c:Call} (hop:bX P G names ⟨dst,.call c,type,pos,after,guard⟩=some (.op op)) (H:HR φ h w) (he:op.run r h=.ok v h'):bP φ h w v h' ((execOp ρ ⟨dst,.call c,type,pos,after,guard⟩).run P w):=by
 simp only [bX,bind,Option.bind_eq_some_iff] at hop
 obtain ⟨xs,hxs,hop⟩:=hop
 have g1:=lr (φ:=φ) (r:=r) (ρ:=ρ) hxs (fun o _ a ha=>hρ _ _ ha)
 split at hop
 ·rename_i b hb
  simp only [Option.map_eq_some_iff,AI.op.injEq] at hop
  obtain ⟨o,ho,rfl⟩:=hop
  obtain ⟨s,e,hg⟩:=wN (ty:=type) (cs:=c.args.map fun|.const _=>true|_=>false) ho H g1 he
  have e2:c.args.map ρ=(c.args.toList.map ρ).toArray:=by apply Array.ext';simp
  have:(execOp ρ ⟨dst,.call c,type,pos,after,guard⟩).run P w=(do pure (.value (←s)):Sem Next).run P w:=by
   rw [←e,←e2]
   simp only [execOp,resolve,hb,Sem.run_bind,Sem.run_pure,Result.andThen_ok,invoke]
   rfl
  rw [this]
  exact hg.iK
 ·cases hop
 ·simp only [bind,Option.bind_eq_some_iff,Option.some.injEq] at hop
  obtain ⟨a,_,e⟩:=hop;cases e
 ·simp only [bind,Option.bind_eq_some_iff,Option.some.injEq] at hop
  obtain ⟨a,_,b,_,e⟩:=hop;cases e
theorem Qp {t:TypeId} {x y:Operand} (hop:bX P G names ⟨dst,.mapEntry t x y,type,pos,after,guard⟩=some (.op op)) (H:HR φ h w) (he:op.run r h=.ok v h'):bP φ h w v h' ((execOp ρ ⟨dst,.mapEntry t x y,type,pos,after,guard⟩).run P w):=by
 simp only [bX] at hop
 split at hop
 ·rename_i k e hu
  simp only [bind,pure,Option.bind_some,Option.bind_eq_some_iff,Option.some.injEq,AI.op.injEq] at hop
  obtain ⟨kt,hk,zv,hz,a,hx,b,hb,rfl⟩:=hop
  obtain ⟨k',e',hu',hk'⟩:=kG hk
  have hu2:=aA hu (by simp)
  rw [hu2] at hu'
  cases hu'
  exact (CV H (hρ _ _ hx) (hρ _ _ hb) hu2 hk' hz he).iK
 ·cases hop
theorem Qq {t:TypeId} {x y z:Operand} (hop:bX P G names ⟨dst,.entryStore t x y z,type,pos,after,guard⟩=some (.op op)) (H:HR φ h w) (he:op.run r h=.ok v h'):bP φ h w v h' ((execOp ρ ⟨dst,.entryStore t x y z,type,pos,after,guard⟩).run P w):=by
 simp only [bX,bind,Option.bind_eq_some_iff,Option.some.injEq,AI.op.injEq] at hop
 obtain ⟨a,hx,b,hb,c,hc,rfl⟩:=hop
 obtain ⟨g1,g2⟩:=CW (t:=t) H (hρ _ _ hx) (hρ _ _ hb) (hρ _ _ hc) he
 exact g2.iK g1
end
variable {P:Program} {φ:aJ} {h h':Hp} {w:World} {v:AV} {r:A2} {cx cy:Value} {t:TypeId} {G:Gl} {ρ:Operand→Value} {names:List String}
theorem BI {op:ox} {o:Oper} (hρ:∀q x,cO G q=some x→VR φ (ev x r) (ρ q)) (hc:∀c,ρ (.const c)=c) (hop:bX P G names o=some (.op op)) (H:HR φ h w) (he:op.run r h=.ok v h') :
  bP φ h w v h' ((execOp ρ o).run P w):=by
 obtain ⟨dst,x,type,pos,after,guard⟩:=o
 cases x with
 | move x=>exact apu hρ hop H he
 | assign x=>exact apv hρ hop H he
 | pick c a b=>exact Qj hρ hop H he
 | alloc e=>exact HS hρ hop H he
 | box e x=>exact akC hρ hop H he
 | build t ps=>exact HU hρ hop H he
 | buildSlice t n ps=>exact Dm hρ hop H he
 | insert t m k x=>exact akJ hρ hop H he
 | load t x=>exact Qk hρ hop H he
 | store t x y=>exact HX hρ hop H he
 | ready g=>cases hop
 | waits g=>cases hop
 | nilCheck x=>exact Ql hρ hop H he
 | binOp o t x y u=>exact akD hρ hc hop H he
 | unOp o t x=>exact apw hρ hop H he
 | convert s d x=>exact Qm hρ hop H he
 | sliceToArrayPointer d x=>cases hop
 | makeInterface t x=>exact akE hρ hop H he
 | makeFunc f a b=>exact akF hρ hop H he
 | makeMap t re=>exact Ih hρ hc hop H he
 | makeChan t x=>cases hop
 | makeSlice t l c=>exact Ab hρ hop H he
 | slice t x l u m=>exact Ii hρ hop H he
 | fieldAddr t x f=>exact akG hρ hop H he
 | field t x f=>exact Il hρ hop H he
 | indexAddr t x i=>exact Qn hρ hop H he
 | index t x i=>exact Ip hρ hop H he
 | lookup t x i ok=>exact akH hρ hop H he
 | mapUpdate t m k x=>exact akI hρ hop H he
 | mapEntry t m k=>exact Qp hρ hop H he
 | entryStore t m s x=>exact Qq hρ hop H he
 | range t x=>exact Ir hρ hop H he
 | next x s=>
  simp only [bX] at hop
  split at hop
  ·simp at hop
  ·simp only [bind,Option.bind_eq_some_iff,Option.some.injEq] at hop
   obtain ⟨a,_,e⟩:=hop;cases e
 | entry x=>exact akK hρ hop H he
 | typeAssert x u t ok=>exact akL hρ hop H he
 | extract x i=>exact akM hρ hop H he
 | call c=>exact Qo hρ hop H he
 | go c=>cases hop
 | defer c=>cases hop
 | panic x=>cases hop
 | send c x=>cases hop
 | recv t c ok=>cases hop
 | select cs b=>cases hop
theorem yz {s:Bool} {x:AO} {o:Oper} (hρ:∀q x,cO G q=some x→VR φ (ev x r) (ρ q)) (hop:bX P G names o=some (.xO s x)) (H:HR φ h w) (hs:(hE s (ev x r) h).Safe) :
  ∃cv w' φ' v h',(hE s (ev x r) h).aG (.ok v h')∧(execOp ρ o).run P w=.ok (.value cv) w'∧VR φ' v cv∧HR φ' h' w'∧Step φ h w φ' h' w':=by
 obtain ⟨dst,y,type,pos,after,guard⟩:=o
 have hy:∃q,y=.next q false∧s=false∧cO G q=some x:=by
  simp only [bX] at hop
  split at hop
  case h_28 q b=>
   split at hop
   ·simp at hop
   ·rename_i hb
    simp only [bind,Option.bind_eq_some_iff,Option.some.injEq,AI.xO.injEq] at hop
    obtain ⟨a,ha,hb',rfl⟩:=hop
    subst hb'
    have:b=false:=by simpa using hb
    subst this
    exact ⟨q,rfl,rfl,ha⟩
  case h_21=>
   split at hop
   ·simp only [bind,Option.bind_eq_some_iff] at hop
    obtain ⟨fd,_,hop⟩:=hop
    split at hop
    ·simp at hop
    ·split at hop<;>simp [Option.bind_eq_some_iff] at hop
   ·cases hop
  all_goals (repeat' split at hop)<;>simp [Option.bind_eq_some_iff,Option.map_eq_some_iff] at hop
 obtain ⟨q,rfl,rfl,hq⟩:=hy
 obtain ⟨v,h',h1,cv,w',φ',e,h2,h3,h4⟩:=Ac (P:=P) (ty:=type) H (hρ _ _ hq) hs
 refine ⟨cv,w',φ',v,h',h1,?_,h2,h3,h4⟩
 simp only [execOp,Sem.run_bind,e,Result.andThen_ok,Sem.run_pure]
inductive RS.aG:RS→RS→Prop
 | nm (r:A2) (h:Hp):aG (.nm r h) (.nm r h)
 | ex (i:Nat) (r:A2) (h:Hp):aG (.ex i r h) (.ex i r h)
 | go (i:Nat) (r:A2) (h:Hp):aG (.go i r h) (.go i r h)
 | ret (r:A2) (h:Hp):aG (.ret r h) (.ret r h)
 | err (n:Nat):aG (.err n) (.err n)
 | ch (n:Nat) (k:Nat→RS) (c:Nat) (y:RS):c < n→aG (k c) y→aG (.ch n k) y
def RS.Safe (x:RS):Prop:=∀n,¬ x.aG (.err n)
theorem RS.Safe.err {n:Nat} (h:(RS.err n).Safe):False:=h n (.err n)
theorem jq {d:aL} {k:A2→Hp→RS} {r:A2} {v:AV} {h':Hp} {y:RS}:∀{x z:RT},x.aG z→z=.ok v h'→(k (bI d v r) h').aG y→(stepT d k r x).aG y
 | _,_,.ok v h,e,g=>by cases e;exact g
 | _,_,.err n,e,g=>by cases e
 | _,_,.ch n kk c y' hc hl,e,g=>.ch n _ c _ hc (jq hl e g)
theorem kI {d:aL} {k:A2→Hp→RS} {r:A2} {n:Nat}:∀{x z:RT},x.aG z→z=.err n→(stepT d k r x).aG (.err n)
 | _,_,.ok v h,e=>by cases e
 | _,_,.err n,e=>by cases e;exact .err n
 | _,_,.ch n kk c y' hc hl,e=>.ch n _ c _ hc (kI hl e)
theorem tc {d:aL} {k:A2→Hp→RS} {r:A2} {x:RT} (hs:(stepT d k r x).Safe):x.Safe∧∀v h',x.aG (.ok v h')→(k (bI d v r) h').Safe:=
 ⟨fun n hl=>hs n (kI hl rfl),fun _ _ hl n hn=>hs n (jq hl rfl hn)⟩
noncomputable def AI.res (i:AI) (p:Pg) (run:gB) (r:A2) (h:Hp):RT:=match i with
 | .op o=>(o.run r h).jT
 | .xO s x=>hE s (ev x r) h
 | .call f xs=>aD p run f (gg xs r) h
 | .jI x xs=>jK p run (ev x r) (gg xs r) h
 | .inv n x xs=>aH p run n (ev x r) (gg xs r) h
theorem nE (i:AI) (p:Pg) (run:gB) (d:aL) (k:A2→Hp→RS) (r:A2) (h:Hp):i.exec p run d k r h=stepT d k r (i.res p run r h):=by
 cases i with
 | op o=>
  show yp d k r (o.run r h)=stepT d k r (o.run r h).jT
  cases o.run r h<;>rfl
 | _=>rfl
theorem gF {v:RV} (hs:v.jT.Safe):∃a h,v=.ok a h:=by
 cases v with
 | ok a h=>exact ⟨a,h,rfl⟩
 | err n=>exact (RT.Safe.err hs).elim
abbrev NB (G:Gl):Prop:=Nonempty (G.b=none)
instance nb0:NB 0:=⟨rfl⟩
instance nbk {n:Nat} {l:List (P4×Nat)}:NB ⟨n,l,none⟩:=⟨rfl⟩
theorem nb (G:Gl) [i:NB G]:G.b=none:=i.elim id
theorem BJ {G:Gl} {t s:Nat} (e:G.sl t=some s):s < 256∧G.tm s=t:=by
 unfold Gl.sl at e
 unfold Gl.tm
 cases hb:G.b with
 | none=>
  rw [hb] at e
  have e:(if t < 256 then some t else none)=some s:=e
  split at e
  ·rename_i h1;cases e;exact ⟨h1,rfl⟩
  ·cases e
 | some q=>
  rw [hb] at e
  have e:(if t < 16 * q then (if t < 256 then some t else none) else if t < 16 * q+16 then none else if t < 272 then some (t - 16) else none)=some s:=e
  split at e
  ·rename_i h1
   split at e
   ·rename_i h2;cases e;exact ⟨h2,if_pos h1⟩
   ·cases e
  ·split at e
   ·cases e
   ·rename_i h1 h2
    split at e
    ·rename_i h3
     cases e
     refine ⟨by omega,?_⟩
     show (if t - 16 < 16 * q then t - 16 else t - 16+16)=t
     rw [if_neg (by omega)]
     omega
    ·cases e
theorem akN {G:Gl} {s t:Nat} (e:G.tm s=G.tm t):s=t:=by
 unfold Gl.tm at e
 cases hb:G.b with
 | none=>rw [hb] at e;exact e
 | some q=>
  rw [hb] at e
  have e:(if s < 16 * q then s else s+16)=(if t < 16 * q then t else t+16):=e
  split at e<;>split at e<;>omega
theorem BL (G:Gl) [NB G] (s:Nat):G.tm s=s:=by unfold Gl.tm;rw [nb G]
theorem BM (G:Gl) [NB G] (t:Nat):G.sl t=if t < 256 then some t else none:=by unfold Gl.sl;rw [nb G]
theorem wQ {G:Gl} [NB G] {t:Nat} (h:t < 256):G.sl t=some t:=by rw [BM,if_pos h]
theorem Ix {G:Gl} [NB G] {t s:Nat} (e:G.sl t=some s):s=t∧t < 256:=by
 rw [BM] at e
 split at e
 ·rename_i h;cases e;exact ⟨rfl,h⟩
 ·cases e
def mz (G:Gl) (φ:aJ):Prop:=(∀g,g < G.n→∃room,φ (P4.of g)=some ⟨g,0,room⟩)∧∀x,x∈G.sy→φ x.1=some ⟨0,0,x.2⟩
theorem mz.mono {G:Gl} {φ ψ:aJ} (g:mz G φ) (h:φ.le ψ):mz G ψ:=⟨fun i hi=>let ⟨room,e⟩:=g.1 i hi;⟨room,h _ _ e⟩,fun x hx=>h _ _ (g.2 x hx)⟩
structure St (n:Nat) (G:Gl) (φ:aJ) (r:A2) (h:Hp) (a:Act) (w:World):Prop where
 hr:HR φ h w
 aF:∀t,t < 256→VR φ (aw (hi t) (lo t) r) (a.tmps.getD (G.tm t) undef)
 dM:a.defers=[]
 size:n≤a.tmps.size
 fD:mz G φ
variable {P:Program} {φ φ':aJ} {h h':Hp} {w w':World} {v:AV} {r:A2} {a:Act} {cv:Value} {n:Nat} {G:Gl} {names:List String} {p:Pg} {run:gB}
theorem Dw {s t:Nat} (hs:s < 256) (ht:t < 256):(hi s=hi t∧lo s=lo t)↔s=t:=by
 constructor
 ·rintro ⟨h1,h2⟩
  have e1:=lu (show s / 16 < 16 by omega) (show t / 16 < 16 by omega) h1
  have e2:=lu (show s % 16 < 16 by omega) (show t % 16 < 16 by omega) h2
  omega
 ·rintro rfl;exact ⟨rfl,rfl⟩
theorem St.Wb (S:St n G φ r h a w) {q:Operand} {x:AO} (e:cO G q=some x):VR φ (ev x r) (a.eval q):=by
 cases q with
 | tmp t=>
  simp only [cO,Option.map_eq_some_iff] at e
  obtain ⟨s,hs,rfl⟩:=e
  obtain ⟨h1,h2⟩:=BJ hs
  have:=S.aF s h1
  rw [h2] at this
  exact this
 | const c=>
  simp only [cO,Option.map_eq_some_iff] at e
  obtain ⟨b,hb,rfl⟩:=e
  exact ny hb φ
 | global g=>
  simp only [cO] at e
  split at e
  ·rename_i hg
   cases e
   obtain ⟨room,hp⟩:=S.fD.1 g hg
   have:=VR.ptr (φ:=φ) _ 0 _ hp
   show VR φ (.ptr (P4.of g) 0) (.pointer (some ⟨g,0,none⟩))
   simpa [Place.addr] using this
  ·cases e
 | func f=>cases e;exact .fn f [] [] .nil
theorem St.put (S:St n G φ r h a w) {o:Option Tmp} {d:aL} (hd:gG G n o=some d) (hv:VR φ' v cv) (H:HR φ' h' w') (T:Step φ h w φ' h' w'):St n G φ' (bI d v r) h' (a.put o cv) w':=by
 cases o with
 | none=>
  cases hd
  exact ⟨H,fun t ht=>(S.aF t ht).mono T.le,S.dM,S.size,S.fD.mono T.le⟩
 | some t=>
  simp only [gG] at hd
  split at hd
  ·rename_i s hs
   split at hd
   ·rename_i hn
    cases hd
    obtain ⟨h1,h2⟩:=BJ hs
    refine ⟨H,fun u hu=>?_,S.dM,by simpa [Act.put] using S.size,S.fD.mono T.le⟩
    show VR φ' (aw (hi u) (lo u) (eL (hi s) (lo s) v r)) ((a.tmps.setIfInBounds t cv).getD (G.tm u) undef)
    rw [eO]
    by_cases e:u=s
    ·subst e
     rw [if_pos ⟨rfl,rfl⟩,h2]
     have:(a.tmps.setIfInBounds t cv).getD t undef=cv:=by
      have h3:t < a.tmps.size:=Nat.lt_of_lt_of_le hn S.size
      simp [Array.getD,h3]
     rw [this];exact hv
    ·rw [if_neg (fun g=>e ((Dw hu h1).1 g))]
     have hne:G.tm u≠t:=fun g=>e (akN (g.trans h2.symm))
     have:(a.tmps.setIfInBounds t cv).getD (G.tm u) undef=a.tmps.getD (G.tm u) undef:=by
      simp only [Array.getD_eq_getD_getElem?,Array.getElem?_setIfInBounds,if_neg (Ne.symm hne)]
     rw [this];exact (S.aF u hu).mono T.le
   ·cases hd
  ·cases hd
theorem St.Qr [NB G] (S:St n G φ r h a w) (t:Nat) (ht:t < 256):VR φ (aw (hi t) (lo t) r) (a.tmps.getD t undef):=by
 have:=S.aF t ht
 rw [BL] at this
 exact this
theorem St.mk' [NB G] (hr:HR φ h w) (aF:∀t,t < 256→VR φ (aw (hi t) (lo t) r) (a.tmps.getD t undef)) (dM:a.defers=[]) (size:n≤a.tmps.size) (fD:mz G φ):St n G φ r h a w:=
 ⟨hr,fun t ht=>by rw [BL];exact aF t ht,dM,size,fD⟩
theorem iM [NB G] {t:Nat} {d:aL} (hd:gG G n (some t)=some d):t < 256∧t < n∧d=.t (hi t) (lo t):=by
 simp only [gG] at hd
 split at hd
 ·rename_i s hs
  obtain ⟨rfl,h1⟩:=Ix hs
  split at hd
  ·rename_i h2;cases hd;exact ⟨h1,h2,rfl⟩
  ·cases hd
 ·cases hd
theorem qB [NB G] {t:Nat} (h1:t < 256) (h2:t < n):gG G n (some t)=some (.t (hi t) (lo t)):=by
 simp only [gG,wQ h1,if_pos h2]
theorem apx [NB G] {t:Nat} (h1:t < 256):cO G (.tmp t)=some (.t (hi t) (lo t)):=by
 simp only [cO,wQ h1,Option.map_some]
theorem yA {f:Nat→A1}:∀{i:Nat},i < 16→A2.get (bO i) (.mk (f 0) (f 1) (f 2) (f 3) (f 4) (f 5) (f 6) (f 7) (f 8) (f 9) (f 10) (f 11) (f 12) (f 13) (f 14) (f 15))=f i:=by
 intro i hi
 match i,hi with
 | 0,_=>rfl
 | 1,_=>rfl
 | 2,_=>rfl
 | 3,_=>rfl
 | 4,_=>rfl
 | 5,_=>rfl
 | 6,_=>rfl
 | 7,_=>rfl
 | 8,_=>rfl
 | 9,_=>rfl
 | 10,_=>rfl
 | 11,_=>rfl
 | 12,_=>rfl
 | 13,_=>rfl
 | 14,_=>rfl
 | 15,_=>rfl
 | k+16,h=>omega
theorem Dx {q s:Nat} (hs:s < 256):aw (hi s) (lo s) (rr q r)=if s < 16 * q then aw (hi s) (lo s) r else if s < 240 then aw (hi (s+16)) (lo (s+16)) r else .undef:=by
 show A1.get (lo s) (A2.get (bO (s / 16)) (rr q r))=_
 have e:A2.get (bO (s / 16)) (rr q r)=xQ q r (s / 16):=yA (f:=xQ q r) (by omega)
 rw [e]
 show A1.get (lo s) (@Bool.rec (fun _=>A1) (A2.get (bO (s / 16)) r) (@Bool.rec (fun _=>A1) (A2.get (bO (Nat.succ (s / 16))) r) .nil (Nat.beq (s / 16) 15)) (Nat.ble q (s / 16)))=_
 cases h1:Nat.ble q (s / 16) with
 | false=>
  have h1:¬ q≤s / 16:=fun g=>by rw [Nat.ble_eq_true_of_le g] at h1;cases h1
  rw [if_pos (by omega)]
  rfl
 | true=>
  have h1:=Nat.le_of_ble_eq_true h1
  rw [if_neg (by omega)]
  cases h2:Nat.beq (s / 16) 15 with
  | true=>
   have h2:=Nat.eq_of_beq_eq_true h2
   rw [if_neg (by omega)]
   exact A1.get_nil _
  | false=>
   have h2:s / 16≠15:=fun g=>by rw [g] at h2;cases h2
   rw [if_pos (by omega)]
   have e1:(s+16) / 16=Nat.succ (s / 16):=by omega
   have e2:(s+16) % 16=s % 16:=by omega
   show A1.get (bO (s % 16)) (A2.get (bO (Nat.succ (s / 16))) r)=A1.get (bO ((s+16) % 16)) (A2.get (bO ((s+16) / 16)) r)
   rw [e1,e2]
theorem Iy {q s:Nat} (hs:s < 256):aw (hi s) (lo s) (zV q r)=if s < 16 * q then aw (hi s) (lo s) r else if s < 16 * q+16 then .undef else aw (hi (s - 16)) (lo (s - 16)) r:=by
 show A1.get (lo s) (A2.get (bO (s / 16)) (zV q r))=_
 have e:A2.get (bO (s / 16)) (zV q r)=xR q r (s / 16):=yA (f:=xR q r) (by omega)
 rw [e]
 show A1.get (lo s) (@Bool.rec (fun _=>A1) (A2.get (bO (Nat.pred (s / 16))) r) (@Bool.rec (fun _=>A1) (A2.get (bO (s / 16)) r) .nil (Nat.beq (s / 16) q)) (Nat.ble (s / 16) q))=_
 cases h1:Nat.ble (s / 16) q with
 | false=>
  have h1:¬ s / 16≤q:=fun g=>by rw [Nat.ble_eq_true_of_le g] at h1;cases h1
  rw [if_neg (by omega),if_neg (by omega)]
  have e1:(s - 16) / 16=Nat.pred (s / 16):=by show (s - 16) / 16=s / 16 - 1;omega
  have e2:(s - 16) % 16=s % 16:=by omega
  show A1.get (bO (s % 16)) (A2.get (bO (Nat.pred (s / 16))) r)=A1.get (bO ((s - 16) % 16)) (A2.get (bO ((s - 16) / 16)) r)
  rw [e1,e2]
 | true=>
  have h1:=Nat.le_of_ble_eq_true h1
  cases h2:Nat.beq (s / 16) q with
  | true=>
   have h2:=Nat.eq_of_beq_eq_true h2
   rw [if_neg (by omega),if_pos (by omega)]
   exact A1.get_nil _
  | false=>
   have h2:s / 16≠q:=fun g=>by rw [g,Nat.beq_refl] at h2;cases h2
   rw [if_pos (by omega)]
   rfl
theorem St.drop [NB G] (S:St n G φ r h a w) (q:Nat):St n {G with b:=some q} φ (rr q r) h a w:=by
 refine ⟨S.hr,fun t ht=>?_,S.dM,S.size,S.fD⟩
 show VR φ _ (a.tmps.getD (if t < 16 * q then t else t+16) undef)
 rw [Dx ht]
 by_cases h1:t < 16 * q
 ·rw [if_pos h1,if_pos h1];exact S.Qr t ht
 ·rw [if_neg h1,if_neg h1]
  by_cases h2:t < 240
  ·rw [if_pos h2];exact S.Qr (t+16) (by omega)
  ·rw [if_neg h2];exact .undef _
theorem St.ins [NB G] {q:Nat} (S:St n {G with b:=some q} φ r h a w):St n G φ (zV q r) h a w:=by
 refine St.mk' S.hr (fun t ht=>?_) S.dM S.size S.fD
 rw [Iy ht]
 by_cases h1:t < 16 * q
 ·rw [if_pos h1]
  have:VR φ (aw (hi t) (lo t) r) (a.tmps.getD (if t < 16 * q then t else t+16) undef):=S.aF t ht
  rw [if_pos h1] at this
  exact this
 ·rw [if_neg h1]
  by_cases h2:t < 16 * q+16
  ·rw [if_pos h2];exact .undef _
  ·rw [if_neg h2]
   have:VR φ (aw (hi (t - 16)) (lo (t - 16)) r) (a.tmps.getD (if t - 16 < 16 * q then t - 16 else t - 16+16) undef):=S.aF (t - 16) (by omega)
   rw [if_neg (by omega),show t - 16+16=t by omega] at this
   exact this
def mA (P:Program) (names:List String) (ms:List MR):Prop:=∀t k f,MR.mk t k f∈ms→∃name info m e,names[k]?=some name∧P.info? t=some info∧info.methods.find? (·.name == name)=some m∧m.path=#[]∧m.func=some (f,true)∧P.underlying t=some (.pointer e)
def dB (φ:aJ) (h:Hp) (w:World) (x:RT):Ending→World→Prop:=fun e w'=>∃v h' cv φ',x.aG (.ok v h')∧e=.returned cv∧VR φ' v cv∧HR φ' h' w'∧Step φ h w φ' h' w'
def akO (P:Program) (f:Nat) (vals:Array Value) (w:World) (Q:Ending→World→Prop):Prop:=((∃fn c,P.funcs[f]?=some fn∧fn.name≠ "runtime.NumGoroutine" ∧fn.body=some c)∧Calls P f vals w Q)∨
 ∃cv w',(callFunc f vals).run P w=.ok (.value cv) w'∧Q (.returned cv) w'
def cS (P:Program) (G:Gl) (p:Pg) (run:gB):Prop:=∀(f:Nat) (args:List AV) (h:Hp) (φ:aJ) (w:World) (vals:List Value),mz G φ→HR φ h w→bS φ args vals→(aD p run f args h).Safe→
 akO P f vals.toArray w (dB φ h w (aD p run f args h))
theorem fe {f:Nat} {args:Array Value} {fn:Func} {c:Code} (hf:P.funcs[f]?=some fn) (hn:fn.name≠ "runtime.NumGoroutine") (hb:fn.body=some c):(callFunc f args).run P w=.ok (.enter f args) w:=by
 have hp:(program).run P w=.ok P w:=rfl
 simp [callFunc,hp,hf,hn,hb]
theorem td {t name:Nat} {k:Nat→RT} {n:Nat}:∀{ms:List MR},(ng t name ms k (.err n)).Safe→∃f,MR.mk t name f∈ms∧ng t name ms k (.err n)=k f
 | [],hs=>(RT.Safe.err hs).elim
 | .mk t' n' f::ms,hs=>by
  change RT.Safe (@Bool.rec (fun _=>RT) (ng t name ms k (.err n)) (@Bool.rec (fun _=>RT) (ng t name ms k (.err n)) (k f) (Nat.beq name n')) (Nat.beq t t')) at hs
  show ∃f',_∧(@Bool.rec (fun _=>RT) (ng t name ms k (.err n)) (@Bool.rec (fun _=>RT) (ng t name ms k (.err n)) (k f) (Nat.beq name n')) (Nat.beq t t'))=_
  cases h1:Nat.beq t t' with
  | false=>
   rw [h1] at hs
   obtain ⟨f',m1,m2⟩:=td (ms:=ms) hs
   exact ⟨f',by simp [m1],m2⟩
  | true=>
   cases h2:Nat.beq name n' with
   | false=>
    rw [h1,h2] at hs
    obtain ⟨f',m1,m2⟩:=td (ms:=ms) hs
    exact ⟨f',by simp [m1],m2⟩
   | true=>
    have e1:=Nat.eq_of_beq_eq_true h1
    have e2:=Nat.eq_of_beq_eq_true h2
    subst e1 e2
    exact ⟨f,by simp,rfl⟩
theorem Dy {s:String} {k:Nat} (e:wR names s=some k):names[k]?=some s:=by
 unfold wR at e
 rw [List.findIdx?_eq_some_iff_getElem] at e
 obtain ⟨hk,h1,_⟩:=e
 rw [List.getElem?_eq_getElem hk]
 simp at h1
 rw [h1]
theorem Ad {ms:List MR} (M:mA P names ms) {t k f:Nat} (hm:MR.mk t k f∈ms) {s:String} (hk:names[k]?=some s) (d:Nat) (cv:Value):(method (d+1) t cv s).run P w=.ok (f,cv) w:=by
 obtain ⟨name,info,m,e,h1,h2,h3,h4,h5,h6⟩:=M t k f hm
 rw [hk] at h1;cases h1
 simp [method,bw h2,h3,h4,h5,follow,receiverAt,ar h6,Place.get]
variable {P:Program} {φ φ':aJ} {h h':Hp} {w w':World} {v:AV} {r:A2} {a:Act} {cv:Value} {n:Nat} {G:Gl} {names:List String} {p:Pg} {run:gB}
theorem Iz {o:Oper} {f:Nat} {xs:List AO} (hop:bX P G names o=some (.call f xs)) :
  ∃c,o.op=.call c∧c.callee=.value (.func f)∧c.args.toList.mapM (cO G)=some xs:=by
 obtain ⟨dst,y,type,pos,after,guard⟩:=o
 simp only [bX] at hop
 split at hop
 case h_21=>
  split at hop
  ·simp only [bind,Option.bind_eq_some_iff] at hop
   obtain ⟨fd,_,hop⟩:=hop
   split at hop
   ·simp at hop
   ·split at hop<;>simp [Option.bind_eq_some_iff] at hop
  ·cases hop
 case h_32 c=>
  simp only [bind,Option.bind_eq_some_iff] at hop
  obtain ⟨ys,hys,hop⟩:=hop
  split at hop
  ·simp [Option.map_eq_some_iff] at hop
  ·rename_i g hc
   cases hop
   exact ⟨c,rfl,hc,hys⟩
  ·simp [Option.bind_eq_some_iff] at hop
  ·simp [Option.bind_eq_some_iff] at hop
 all_goals (repeat' split at hop)<;>simp [Option.bind_eq_some_iff,Option.map_eq_some_iff] at hop
theorem Dz {o:Oper} {x:AO} {xs:List AO} (hop:bX P G names o=some (.jI x xs)) :
  ∃c y,o.op=.call c∧c.callee=.value y∧cO G y=some x∧c.args.toList.mapM (cO G)=some xs:=by
 obtain ⟨dst,y,type,pos,after,guard⟩:=o
 simp only [bX] at hop
 split at hop
 case h_21=>
  split at hop
  ·simp only [bind,Option.bind_eq_some_iff] at hop
   obtain ⟨fd,_,hop⟩:=hop
   split at hop
   ·simp at hop
   ·split at hop<;>simp [Option.bind_eq_some_iff] at hop
  ·cases hop
 case h_32 c=>
  simp only [bind,Option.bind_eq_some_iff] at hop
  obtain ⟨ys,hys,hop⟩:=hop
  split at hop
  ·simp [Option.map_eq_some_iff] at hop
  ·cases hop
  ·rename_i z hz hc
   simp only [Option.bind_eq_some_iff,Option.some.injEq,AI.jI.injEq] at hop
   obtain ⟨b,hb,rfl,rfl⟩:=hop
   exact ⟨c,z,rfl,hc,hb,hys⟩
  ·simp [Option.bind_eq_some_iff] at hop
 all_goals (repeat' split at hop)<;>simp [Option.bind_eq_some_iff,Option.map_eq_some_iff] at hop
theorem Qs {o:Oper} {k:Nat} {x:AO} {xs:List AO} (hop:bX P G names o=some (.inv k x xs)) :
  ∃c y name,o.op=.call c∧c.callee=.invoke y name∧wR names name=some k∧cO G y=some x∧c.args.toList.mapM (cO G)=some xs:=by
 obtain ⟨dst,y,type,pos,after,guard⟩:=o
 simp only [bX] at hop
 split at hop
 case h_21=>
  split at hop
  ·simp only [bind,Option.bind_eq_some_iff] at hop
   obtain ⟨fd,_,hop⟩:=hop
   split at hop
   ·simp at hop
   ·split at hop<;>simp [Option.bind_eq_some_iff] at hop
  ·cases hop
 case h_32 c=>
  simp only [bind,Option.bind_eq_some_iff] at hop
  obtain ⟨ys,hys,hop⟩:=hop
  split at hop
  ·simp [Option.map_eq_some_iff] at hop
  ·cases hop
  ·simp [Option.bind_eq_some_iff] at hop
  ·rename_i z nm hc
   simp only [Option.bind_eq_some_iff,Option.some.injEq,AI.inv.injEq] at hop
   obtain ⟨b,hb,b2,hb2,rfl,rfl,rfl⟩:=hop
   exact ⟨c,z,nm,rfl,hc,hb,hb2,hys⟩
 all_goals (repeat' split at hop)<;>simp [Option.bind_eq_some_iff,Option.map_eq_some_iff] at hop
variable {P:Program} {φ φ':aJ} {h h':Hp} {w w':World} {v:AV} {r:A2} {a:Act} {cv:Value} {n:Nat} {G:Gl} {names:List String} {p:Pg} {run:gB}
theorem Ae {x:AV} {args:List AV} (hs:(jK p run x args h).Safe):∃f cs,x=.fn f cs∧jK p run x args h=aD p run f (List.append args cs) h:=by
 cases x<;>first|exact ⟨_,_,rfl,rfl⟩|exact (RT.Safe.err hs).elim
theorem Af {k:Nat} {x:AV} {args:List AV} (hs:(aH p run k x args h).Safe):∃t u,x=.iface t u∧aH p run k x args h=ng t k p.ms (fun f=>aD p run f (.cons u args) h) (.err 206):=by
 cases x<;>first|exact ⟨_,_,rfl,rfl⟩|exact (RT.Safe.err hs).elim
theorem toArray_map (ρ:Operand→Value) (l:Array Operand):l.map ρ=(l.toList.map ρ).toArray:=by apply Array.ext';simp
theorem qC {i:AI} {o:Oper} {d:aL} (M:mA P names p.ms) (CO:cS P G p run) (S:St n G φ r h a w) (hop:bX P G names o=some i) (hd:gG G n o.dst=some d) (hs:(i.res p run r h).Safe)
  {next:Act→World→Prop} {Q:Exit→Act→World→Prop}
  (hn:∀v h' φ' cv w',(i.res p run r h).aG (.ok v h')→St n G φ' (bI d v r) h' (a.put o.dst cv) w'→Step φ h w φ' h' w'→next (a.put o.dst cv) w'):o.wp P a w next Q:=by
 have hρ:∀q x,cO G q=some x→VR φ (ev x r) (a.eval q):=fun q x e=>S.Wb e
 unfold Oper.wp
 cases i with
 | op op=>
  obtain ⟨v,h',he⟩:=gF (show (op.run r h).jT.Safe from hs)
  obtain ⟨nx,w',φ',e1,e2,e3,e4⟩:=BI hρ (fun c=>rfl) hop S.hr he
  have hl:(AI.res (.op op) p run r h).aG (.ok v h'):=by
   show (op.run r h).jT.aG (.ok v h')
   rw [he];exact .ok _ _
  rw [e1]
  rcases e2 with ⟨cv,rfl,hv⟩|⟨rfl,rfl⟩
  ·exact hn v h' φ' cv w' hl (S.put hd hv e3 e4) e4
  ·exact hn .undef h' φ' undef w' hl (S.put hd (.undef _) e3 e4) e4
 | xO s x=>
  obtain ⟨cv,w',φ',v,h',hl,e1,hv,e3,e4⟩:=yz hρ hop S.hr hs
  rw [e1]
  exact hn v h' φ' cv w' hl (S.put hd hv e3 e4) e4
 | call f xs=>
  obtain ⟨c,ho,hc,hx⟩:=Iz hop
  have g1:=lr (φ:=φ) (r:=r) (ρ:=a.eval) hx (fun o _ b hb=>hρ _ _ hb)
  have hrun:(execOp a.eval o).run P w=(callFunc f (c.args.toList.map a.eval).toArray).run P w:=by
   have hf:a.eval (.func f)=.func (.func f) #[] #[]:=rfl
   simp only [execOp,ho,resolve,hc,hf,Deferred.ofValue,Sem.run_bind,Sem.run_pure,Result.andThen_ok,invoke,Array.empty_append,Array.append_empty]
   rw [toArray_map]
  rcases CO f _ h φ w _ S.fD S.hr g1 hs with ⟨⟨fn,b,f1,f2,f3⟩,hC⟩|⟨cv,w',hcf,v,h',cv',φ',hl,he,hv,e3,e4⟩
  ·rw [hrun,fe f1 f2 f3,Oper.upon_enter]
   refine hC.mono ?_
   rintro e w' ⟨v,h',cv,φ',hl,rfl,hv,e3,e4⟩
   exact hn v h' φ' cv w' hl (S.put hd hv e3 e4) e4
  ·rw [hrun,hcf]
   cases he
   exact hn v h' φ' _ w' hl (S.put hd hv e3 e4) e4
 | jI x xs=>
  obtain ⟨c,y,ho,hc,hy,hx⟩:=Dz hop
  obtain ⟨f,cs,e1,e2⟩:=Ae (show (jK p run (ev x r) (gg xs r) h).Safe from hs)
  have g1:=lr (φ:=φ) (r:=r) (ρ:=a.eval) hx (fun o _ b hb=>hρ _ _ hb)
  have g2:=hρ _ _ hy
  rw [e1] at g2
  have hval:∃vs:List Value,a.eval y=.func (.func f) #[] vs.toArray∧bS φ cs vs:=by
   generalize a.eval y=z at g2
   cases g2;exact ⟨_,rfl,by assumption⟩
  obtain ⟨vs,hval,g3⟩:=hval
  have hs':(aD p run f (List.append (gg xs r) cs) h).Safe:=by
   have:(jK p run (ev x r) (gg xs r) h).Safe:=hs
   rwa [e2] at this
  have hrun:(execOp a.eval o).run P w=(callFunc f (c.args.toList.map a.eval ++ vs).toArray).run P w:=by
   simp only [execOp,ho,resolve,hc,hval,Deferred.ofValue,Sem.run_bind,Sem.run_pure,Result.andThen_ok,invoke,Array.empty_append]
   rw [toArray_map]
   simp
  rcases CO f _ h φ w _ S.fD S.hr (g1.append g3) hs' with ⟨⟨fn,b,f1,f2,f3⟩,hC⟩|⟨cv,w',hcf,v,h',cv',φ',hl,he,hv,e3,e4⟩
  ·rw [hrun,fe f1 f2 f3,Oper.upon_enter]
   refine hC.mono ?_
   rintro e w' ⟨v,h',cv,φ',hl,rfl,hv,e3,e4⟩
   refine hn v h' φ' cv w' ?_ (S.put hd hv e3 e4) e4
   show (jK p run (ev x r) (gg xs r) h).aG _
   rw [e2];exact hl
  ·rw [hrun,hcf]
   cases he
   refine hn v h' φ' _ w' ?_ (S.put hd hv e3 e4) e4
   show (jK p run (ev x r) (gg xs r) h).aG _
   rw [e2];exact hl
 | inv k x xs=>
  obtain ⟨c,y,name,ho,hc,hk,hy,hx⟩:=Qs hop
  obtain ⟨t,u,e1,e2⟩:=Af (show (aH p run k (ev x r) (gg xs r) h).Safe from hs)
  have hs1:(ng t k p.ms (fun f=>aD p run f (.cons u (gg xs r)) h) (.err 206)).Safe:=by
   have:(aH p run k (ev x r) (gg xs r) h).Safe:=hs
   rwa [e2] at this
  obtain ⟨f,hm,e3⟩:=td hs1
  rw [e3] at hs1 e2
  have g1:=lr (φ:=φ) (r:=r) (ρ:=a.eval) hx (fun o _ b hb=>hρ _ _ hb)
  have g2:=hρ _ _ hy
  rw [e1] at g2
  have hval:∃z,a.eval y=.iface t z∧VR φ u z:=by
   generalize a.eval y=z at g2
   cases g2;exact ⟨_,rfl,by assumption⟩
  obtain ⟨z,hval,g3⟩:=hval
  have hrun:(execOp a.eval o).run P w=(callFunc f (z::c.args.toList.map a.eval).toArray).run P w:=by
   have hp:(program).run P w=.ok P w:=rfl
   have hmeth:=Ad (w:=w) M hm (Dy hk) (P.types.size+Made.depth - 1) z
   have hdep:P.types.size+Made.depth - 1+1=P.types.size+Made.depth:=by
    have:0 < Made.depth:=by decide
    omega
   rw [hdep] at hmeth
   have h0:(#[Value.iface t z] ++ c.args.map a.eval)[0]?=some (Value.iface t z):=by
    rw [Array.getElem?_append];rfl
   have h1:(#[Value.iface t z] ++ c.args.map a.eval).extract 1 (#[Value.iface t z] ++ c.args.map a.eval).size=c.args.map a.eval:=by
    apply Array.ext'
    simp only [Array.toList_extract,List.extract_eq_take_drop]
    simp
    rw [List.take_of_length_le (by simp)]
   simp only [execOp,ho,resolve,hc,hval,Sem.run_bind,Sem.run_pure,Result.andThen_ok,invoke,h0,h1,callMethod,hp,hmeth]
   rw [toArray_map]
   simp
  rcases CO f _ h φ w _ S.fD S.hr (.cons _ _ _ _ g3 g1) hs1 with ⟨⟨fn,b,f1,f2,f3⟩,hC⟩|⟨cv,w',hcf,v,h',cv',φ',hl,he,hv,e5,e6⟩
  ·rw [hrun,fe f1 f2 f3,Oper.upon_enter]
   refine hC.mono ?_
   rintro e w' ⟨v,h',cv,φ',hl,rfl,hv,e5,e6⟩
   refine hn v h' φ' cv w' ?_ (S.put hd hv e5 e6) e6
   show (aH p run k (ev x r) (gg xs r) h).aG _
   rw [e2];exact hl
  ·rw [hrun,hcf]
   cases he
   refine hn v h' φ' _ w' ?_ (S.put hd hv e5 e6) e6
   show (aH p run k (ev x r) (gg xs r) h).aG _
   rw [e2];exact hl
variable {P:Program} {φ φ':aJ} {h h':Hp} {w w':World} {v:AV} {r:A2} {a:Act} {cv:Value} {n:Nat} {G:Gl} {names:List String} {p:Pg} {run:gB} {ops:Array Oper}
theorem jr {k:A2→Hp→RS} (hs:(nF.exec p run k r h).Safe):False:=RS.Safe.err (n:=400) hs
theorem Ag (b:Bool):(undef:Value)≠.bool b:=by simp [undef]
theorem mB {t j:Nat} {b:Bool} (hj:(ops[j]?).bind (·.dst)=some t) (ht:a.tmps.getD t undef=.bool b):yielded ops a.tmps j=some b:=by
 unfold yielded
 rw [hj,Option.bind_some]
 rw [Array.getD_eq_getD_getElem?] at ht
 cases h:a.tmps[t]? with
 | none=>rw [h] at ht;exact absurd ht (Ag b)
 | some x=>rw [h] at ht;have ht:x=.bool b:=ht;rw [ht]
theorem eP {x:AV} {k:Bool→RS} {n:Nat} (hs:(AV.bE x k (.err n)).Safe):∃b,x=.bool b∧AV.bE x k (.err n)=k b:=by
 cases x<;>first|exact ⟨_,rfl,rfl⟩|exact (RS.Safe.err hs).elim
theorem wT {w b:Bool} {x:AV} (h:gb w x=.bool b):x=.bool b∨(x=.eS []∧b = !w):=by
 cases x with
 | eS l=>
  cases l with
  | nil=>right;have h:AV.bool (Bool.not w)=.bool b:=h;injection h with h;exact ⟨rfl,h.symm⟩
  | cons a l=>have h:AV.undef=.bool b:=h;cases h
 | _=>exact .inl h
theorem qD:VR φ cm undef:=.eS [] [] .nil
theorem wV (h:VR φ (.eS []) cv):cv=undef:=by
 cases h with
 | eS _ vs e=>cases e;rfl
theorem js {t j:Nat} (hj:(ops[j]?).bind (·.dst)=some t) (ht:a.tmps.getD t undef=undef):yielded ops a.tmps j=none:=by
 unfold yielded
 rw [hj,Option.bind_some]
 rw [Array.getD_eq_getD_getElem?] at ht
 cases h:a.tmps[t]? with
 | none=>rfl
 | some x=>rw [h] at ht;have ht:x=undef:=ht;rw [ht];rfl
theorem wW (a b:Bool):eK a b=(a == b):=by cases a<;>cases b<;>rfl
theorem Wc {o:Oper} {i:Nat} {k:A2→Hp→RS} (M:mA P names p.ms) (CO:cS P G p run) (S:St n G φ r h a w) (hoi:ops[i]?=some o) (hs:((fL P G n names ops o).exec p run k r h).Safe)
  {K:Act→World→Prop} {Q:Exit→Act→World→Prop}
  (hn:∀r' h' φ' a' w',(k r' h').Safe→(∀y,(k r' h').aG y→((fL P G n names ops o).exec p run k r h).aG y)→St n G φ' r' h' a' w'→Step φ h w φ' h' w'→K a' w'):wpOp P ops Q i K a w:=by
 unfold wpOp
 simp only [hoi]
 unfold fL at hs hn
 split at hs
 ·rename_i d x hd hx
  split at hs
  ·rename_i hg
   have hw:Region.wanted o (yielded ops a.tmps)=true:=by simp [Region.wanted,hg]
   rw [if_pos hw]
   simp only [hg,hd,hx] at hn
   change (x.exec p run d k r h).Safe at hs
   rw [nE] at hs
   obtain ⟨s1,s2⟩:=tc hs
   refine .inl (qC M CO S hx hd s1 fun v h' φ' cv w' hl S' T=>hn _ h' φ' _ w' (s2 v h' hl) (fun y hy=>?_) S' T)
   show (x.exec p run d k r h).aG y
   rw [nE]
   exact jq hl rfl hy
  ·rename_i j wnt hg
   simp only [hg,hd,hx] at hn
   split at hs
   ·rename_i t ht
    simp only [ht] at hn
    split at hs
    ·rename_i s hsl
     obtain ⟨hs256,htm⟩:=BJ hsl
     simp only [hsl] at hn
     change (AV.bE (gb wnt (aw (hi s) (lo s) r)) (jX d k r h x p run wnt) (.err 210)).Safe at hs
     obtain ⟨b,hb,e⟩:=eP hs
     have hv:=S.aF s hs256
     rw [htm] at hv
     have hw:Region.wanted o (yielded ops a.tmps)=(b == wnt):=by
      rcases wT hb with hb2|⟨hb2,rfl⟩
      ·rw [hb2] at hv
       have hy:=mB ht hv.cJ
       simp only [Region.wanted,hg,hy];cases b<;>cases wnt<;>rfl
      ·rw [hb2] at hv
       have hy:=js (a:=a) ht (wV hv)
       simp only [Region.wanted,hg,hy];cases wnt<;>rfl
     rw [e] at hs
     have hs:(@Bool.rec (fun _=>RS) (k (bI d cm r) h) (x.exec p run d k r h) (eK b wnt)).Safe:=hs
     have e:(AV.bE (gb wnt (aw (hi s) (lo s) r)) (jX d k r h x p run wnt) (.err 210))=(@Bool.rec (fun _=>RS) (k (bI d cm r) h) (x.exec p run d k r h) (eK b wnt)):=e
     have hn:∀r' h' φ' a' w',(k r' h').Safe→(∀y,(k r' h').aG y→(AV.bE (gb wnt (aw (hi s) (lo s) r)) (jX d k r h x p run wnt) (.err 210)).aG y)→St n G φ' r' h' a' w'→Step φ h w φ' h' w'→K a' w':=hn
     rw [e] at hn
     rw [wW] at hs hn
     rw [hw]
     cases hbw:(b == wnt) with
     | true=>
      rw [hbw] at hs hn
      rw [if_pos rfl]
      have hs:(x.exec p run d k r h).Safe:=hs
      rw [nE] at hs
      obtain ⟨s1,s2⟩:=tc hs
      refine .inl (qC M CO S hx hd s1 fun v h' φ' cv w' hl S' T=>hn _ h' φ' _ w' (s2 v h' hl) (fun y hy=>?_) S' T)
      show (x.exec p run d k r h).aG y
      rw [nE]
      exact jq hl rfl hy
     | false=>
      rw [hbw] at hs hn
      rw [if_neg (by simp)]
      exact hn _ h φ _ w hs (fun y hy=>hy) (S.put hd qD S.hr (.refl _ _ _)) (.refl _ _ _)
    ·exact (jr hs).elim
   ·exact (jr hs).elim
 ·exact (jr hs).elim
theorem DA (n:Nat) (names:List String) (ops:Array Oper) (o:Oper):mC P G n names ops o=fL P G n names ops o∨mC P G n names ops o=nF∨
  ∃j w d t s,o.guard=some (j,w)∧gG G n o.dst=some d∧(ops[j]?).bind (·.dst)=some t∧G.sl t=some s∧mC P G n names ops o=.g (hi s) (lo s) w d (.op (.bad 405)):=by
 unfold mC
 split
 ·rename_i j w d hx hg hd
  split
  ·rename_i t ht
   split
   ·rename_i s hs
    exact .inr (.inr ⟨j,w,d,t,s,hg,hd,ht,hs,rfl⟩)
   ·exact .inr (.inl rfl)
  ·exact .inr (.inl rfl)
 ·exact .inl rfl
theorem Wd {o:Oper} {i:Nat} {k:A2→Hp→RS} (M:mA P names p.ms) (CO:cS P G p run) (S:St n G φ r h a w) (hoi:ops[i]?=some o) (hs:((mC P G n names ops o).exec p run k r h).Safe)
  {K:Act→World→Prop} {Q:Exit→Act→World→Prop}
  (hn:∀r' h' φ' a' w',(k r' h').Safe→(∀y,(k r' h').aG y→((mC P G n names ops o).exec p run k r h).aG y)→St n G φ' r' h' a' w'→Step φ h w φ' h' w'→K a' w'):wpOp P ops Q i K a w:=by
 rcases DA (P:=P) (G:=G) n names ops o with e|e|⟨j,wnt,d,t,s,hg,hd,ht,hsl,e⟩
 ·rw [e] at hs hn
  exact Wc M CO S hoi hs hn
 ·rw [e] at hs
  exact (jr hs).elim
 ·rw [e] at hs hn
  obtain ⟨hs256,htm⟩:=BJ hsl
  change (AV.bE (gb wnt (aw (hi s) (lo s) r)) (jX d k r h (.op (.bad 405)) p run wnt) (.err 210)).Safe at hs
  obtain ⟨b,hb,e1⟩:=eP hs
  have hv:=S.aF s hs256
  rw [htm] at hv
  have hw:Region.wanted o (yielded ops a.tmps)=(b == wnt):=by
   rcases wT hb with hb2|⟨hb2,rfl⟩
   ·rw [hb2] at hv
    have hy:=mB ht hv.cJ
    simp only [Region.wanted,hg,hy];cases b<;>cases wnt<;>rfl
   ·rw [hb2] at hv
    have hy:=js (a:=a) ht (wV hv)
    simp only [Region.wanted,hg,hy];cases wnt<;>rfl
  rw [e1] at hs
  have hs:(@Bool.rec (fun _=>RS) (k (bI d cm r) h) ((AI.op (.bad 405)).exec p run d k r h) (eK b wnt)).Safe:=hs
  have e1:(AV.bE (gb wnt (aw (hi s) (lo s) r)) (jX d k r h (.op (.bad 405)) p run wnt) (.err 210))=(@Bool.rec (fun _=>RS) (k (bI d cm r) h) ((AI.op (.bad 405)).exec p run d k r h) (eK b wnt)):=e1
  have hn:∀r' h' φ' a' w',(k r' h').Safe→(∀y,(k r' h').aG y→(AV.bE (gb wnt (aw (hi s) (lo s) r)) (jX d k r h (.op (.bad 405)) p run wnt) (.err 210)).aG y)→St n G φ' r' h' a' w'→Step φ h w φ' h' w'→K a' w':=hn
  rw [e1] at hn
  rw [wW] at hs hn
  unfold wpOp
  simp only [hoi]
  rw [hw]
  cases hbw:(b == wnt) with
  | true=>rw [hbw] at hs;exact (RS.Safe.err (n:=405) hs).elim
  | false=>
   rw [hbw] at hs hn
   rw [if_neg (by simp)]
   exact hn _ h φ _ w hs (fun y hy=>hy) (S.put hd qD S.hr (.refl _ _ _)) (.refl _ _ _)
theorem Ah (M:mA P names p.ms) (CO:cS P G p run) {Q:Exit→Act→World→Prop}:∀(os pre:List Oper) (r:A2) (h:Hp) (φ:aJ) (a:Act) (w:World),ops.toList=pre ++ os→St n G φ r h a w→
  (eV p run (os.map fun o=>mC P G n names ops o) r h).Safe→
  (∀r' h' φ' a' w',(eV p run (os.map fun o=>mC P G n names ops o) r h).aG (.nm r' h')→St n G φ' r' h' a' w'→Step φ h w φ' h' w'→Q .normal a' w')→
  wpOps P ops Q (List.range' pre.length os.length) a w
 | [],pre,r,h,φ,a,w,_,S,_,hQ=>hQ r h φ a w (.nm _ _) S (.refl _ _ _)
 | o::os,pre,r,h,φ,a,w,e,S,hs,hQ=>by
  have hoi:ops[pre.length]?=some o:=by rw [←Array.getElem?_toList,e];simp
  rw [List.length_cons,List.range'_succ,wpOps_cons]
  have hs:((mC P G n names ops o).exec p run (eV p run (os.map fun o=>mC P G n names ops o)) r h).Safe:=hs
  refine Wd M CO S hoi hs fun r' h' φ' a' w' s1 s2 S' T=>?_
  have:=Ah M CO os (pre ++ [o]) r' h' φ' a' w' (by rw [e];simp) S' s1 (Q:=Q) fun r'' h'' φ'' a'' w'' hl S'' T'=>hQ r'' h'' φ'' a'' w'' (s2 _ hl) S'' (T.trans T')
  simpa using this
variable {P:Program} {φ φ':aJ} {h h':Hp} {w w':World} {v:AV} {r:A2} {a:Act} {cv:Value} {n:Nat} {G:Gl} {names:List String} {p:Pg} {run:gB} {ops:Array Oper}
section
variable {kn:A2→Hp→RS} {ke:Nat→A2→Hp→RS} {kg:Nat→A2→Hp→RS}
theorem cT {y:RS}:∀{x z:RS},x.aG z→z=.nm r h→(kn r h).aG y→(RS.bind x kn ke kg).aG y
 | _,_,.nm r h,e,g=>by cases e;exact g
 | _,_,.ex ..,e,_=>by cases e
 | _,_,.go ..,e,_=>by cases e
 | _,_,.ret ..,e,_=>by cases e
 | _,_,.err ..,e,_=>by cases e
 | _,_,.ch n k c y' hc hl,e,g=>.ch n _ c _ hc (cT hl e g)
theorem dv {i:Nat} {y:RS}:∀{x z:RS},x.aG z→z=.ex i r h→(ke i r h).aG y→(RS.bind x kn ke kg).aG y
 | _,_,.nm ..,e,_=>by cases e
 | _,_,.ex ..,e,g=>by cases e;exact g
 | _,_,.go ..,e,_=>by cases e
 | _,_,.ret ..,e,_=>by cases e
 | _,_,.err ..,e,_=>by cases e
 | _,_,.ch n k c y' hc hl,e,g=>.ch n _ c _ hc (dv hl e g)
theorem cU {i:Nat} {y:RS}:∀{x z:RS},x.aG z→z=.go i r h→(kg i r h).aG y→(RS.bind x kn ke kg).aG y
 | _,_,.nm ..,e,_=>by cases e
 | _,_,.ex ..,e,_=>by cases e
 | _,_,.go ..,e,g=>by cases e;exact g
 | _,_,.ret ..,e,_=>by cases e
 | _,_,.err ..,e,_=>by cases e
 | _,_,.ch n k c y' hc hl,e,g=>.ch n _ c _ hc (cU hl e g)
theorem dF:∀{x z:RS},x.aG z→z=.ret r h→(RS.bind x kn ke kg).aG (.ret r h)
 | _,_,.nm ..,e=>by cases e
 | _,_,.ex ..,e=>by cases e
 | _,_,.go ..,e=>by cases e
 | _,_,.ret ..,e=>by cases e;exact .ret _ _
 | _,_,.err ..,e=>by cases e
 | _,_,.ch n k c y' hc hl,e=>.ch n _ c _ hc (dF hl e)
theorem lR {i:Nat}:∀{x z:RS},x.aG z→z=.err i→(RS.bind x kn ke kg).aG (.err i)
 | _,_,.nm ..,e=>by cases e
 | _,_,.ex ..,e=>by cases e
 | _,_,.go ..,e=>by cases e
 | _,_,.ret ..,e=>by cases e
 | _,_,.err ..,e=>by cases e;exact .err _
 | _,_,.ch n k c y' hc hl,e=>.ch n _ c _ hc (lR hl e)
theorem gv {x:RS} (hs:(RS.bind x kn ke kg).Safe):x.Safe:=fun n hl=>hs n (lR hl rfl)
theorem jt {x:RS} (hs:(RS.bind x kn ke kg).Safe) (hl:x.aG (.nm r h)):(kn r h).Safe:=fun n g=>hs n (cT hl rfl g)
theorem wX {i:Nat} {x:RS} (hs:(RS.bind x kn ke kg).Safe) (hl:x.aG (.go i r h)):(kg i r h).Safe:=fun n g=>hs n (cU hl rfl g)
end
inductive Ends:RS→Exit→A2→Hp→Prop
 | nm (r:A2) (h:Hp):Ends (.nm r h) .normal r h
 | ex (i:Nat) (r:A2) (h:Hp):Ends (.ex i r h) (.exit i) r h
 | go (i:Nat) (r:A2) (h:Hp):Ends (.go i r h) (.goto i) r h
 | ret (r:A2) (h:Hp):Ends (.ret r h) .ret r h
def aZ (n:Nat) (G:Gl) (φ:aJ) (h:Hp) (w:World) (x:RS):Exit→Act→World→Prop:=fun e a' w'=>∃y r' h' φ',x.aG y∧Ends y e r' h'∧St n G φ' r' h' a' w'∧Step φ h w φ' h' w'
def nG (P:Program) (c:Code) (Q:Exit→Act→World→Prop) (a:Act) (w:World):Prop:=
 ∀(b:Frame) (k:List Item) (cs:List Frame),∃e a' w',Q e a' w'∧Arrives P (lone (b.at a (.code c::.inLoop c::k)) cs w) b k cs e a' w'
theorem pX {c:Code} {Q:Exit→Act→World→Prop} (hl:nG P c Q a w):(Code.loop c).wp P Q a w:=fun b k cs=>
 let ⟨e,a',w',q,g⟩:=hl b k cs;⟨e,a',w',q,.of_steps (.one step_loop) g⟩
theorem nH {c:Code} {Q:Exit→Act→World→Prop} (hc:c.wp P (Exit.then (nG P c Q) Q) a w):nG P c Q a w:=by
 intro b k cs
 obtain ⟨e,a₁,w₁,hq,harr⟩:=hc b (.inLoop c::k) cs
 cases e with
 | normal=>
  obtain ⟨e₂,a₂,w₂,hq₂,harr₂⟩:=hq b k cs
  exact ⟨e₂,a₂,w₂,hq₂,.of_steps (Steps.trans harr (.one step_inLoop)) harr₂⟩
 | exit id=>exact ⟨_,a₁,w₁,hq,.pass (x:=.inLoop c) rfl (fun _ _=>.inl (by simp)) harr⟩
 | goto l=>exact ⟨_,a₁,w₁,hq,.pass (x:=.inLoop c) rfl (fun _ _=>.inl (by simp)) harr⟩
 | ret=>exact ⟨_,a₁,w₁,hq,.pass (x:=.inLoop c) rfl (fun _ _=>.inl (by simp)) harr⟩
 | panic ch=>exact ⟨_,a₁,w₁,hq,.pass (x:=.inLoop c) rfl (fun _ _=>.inl (by simp)) harr⟩
 | outgrown=>exact ⟨_,a₁,w₁,hq,.pass (x:=.inLoop c) rfl (fun _ _=>.inl (by simp)) harr⟩
def wY (P:Program) (s c:Code) (Q:Exit→Act→World→Prop) (a:Act) (w:World):Prop:=
 ∀(b:Frame) (k:List Item) (cs:List Frame),∃e a' w',Q e a' w'∧Arrives P (lone (b.at a (.code c::.inScope s::k)) cs w) b k cs e a' w'
def Exit.inScope (P:Program) (s:Code) (Q:Exit→Act→World→Prop):Exit→Act→World→Prop
 | .goto l,a,w=>match findLabel s l with
  | some c=>wY P s c Q a w
  | none=>Q (.goto l) a w
 | e,a,w=>Q e a w
theorem Ai {c:Code} {Q:Exit→Act→World→Prop} (hl:wY P c c Q a w):(Code.scope c).wp P Q a w:=fun b k cs=>
 let ⟨e,a',w',q,g⟩:=hl b k cs;⟨e,a',w',q,.of_steps (.one step_scope) g⟩
theorem Qt {s c:Code} {Q:Exit→Act→World→Prop} (hc:c.wp P (Exit.inScope P s Q) a w):wY P s c Q a w:=by
 intro b k cs
 obtain ⟨e,a₁,w₁,hq,harr⟩:=hc b (.inScope s::k) cs
 cases e with
 | normal=>exact ⟨.normal,a₁,w₁,hq,Steps.trans harr (.one step_inScope)⟩
 | exit id=>exact ⟨.exit id,a₁,w₁,hq,fun k' hk=>harr k' (by simp [exitTo,hk])⟩
 | goto l=>
  simp only [Exit.inScope] at hq
  split at hq
  ·rename_i rest hf
   obtain ⟨e₂,a₂,w₂,hq₂,harr₂⟩:=hq b k cs
   exact ⟨e₂,a₂,w₂,hq₂,.of_steps (harr _ (by simp [gotoIn,hf])) harr₂⟩
  ·rename_i hf
   exact ⟨.goto l,a₁,w₁,hq,fun k' hk=>harr k' (by simp [gotoIn,hf,hk])⟩
 | ret=>exact ⟨_,a₁,w₁,hq,harr⟩
 | panic ch=>exact ⟨_,a₁,w₁,hq,harr⟩
 | outgrown=>exact ⟨_,a₁,w₁,hq,harr⟩
theorem az {b c:Bool} (e:(@Bool.rec (fun _=>Bool) false c b)=true):b=true∧c=true:=by cases b<;>first|exact ⟨rfl,e⟩|cases e
theorem qp {b c:Bool} (e:Bool.and b c=true):b=true∧c=true:=by cases b<;>cases c<;>first|exact ⟨rfl,rfl⟩|cases e
theorem dU {a b:Nat} (e:Nat.beq a b=true):a=b:=Nat.eq_of_beq_eq_true e
theorem te {a b:Bool} (e:eK a b=true):a=b:=by cases a<;>cases b<;>first|rfl|cases e
theorem dC {x y:AV} (e:dj x y=true):x=y:=by
 cases x<;>cases y<;>(try (cases e;done))
 ·rename_i a b;exact congrArg _ (te e)
 ·rename_i k a k' b
  obtain ⟨h1,h2⟩:=az (show (@Bool.rec (fun _=>Bool) false (uI a b) (mY k k'))=true from e)
  have h1:=gH h1
  have h2:a=b:=by rw [kJ] at h2;exact of_decide_eq_true h2
  subst h1 h2;rfl
 ·rename_i a b
  have h2:jV a b=true:=e
  rw [tf] at h2
  exact congrArg _ (of_decide_eq_true h2)
 ·rename_i k a k' b
  obtain ⟨h1,h2⟩:=qp (show Bool.and (wz k k') (Nat.beq a b)=true from e)
  have h1:=iO h1
  have h2:=dU h2
  subst h1 h2;rfl
 ·rename_i k a b k' c d
  obtain ⟨h1,h2⟩:=qp (show Bool.and (wz k k') (Bool.and (Nat.beq a c) (Nat.beq b d))=true from e)
  obtain ⟨h2,h3⟩:=qp h2
  have h1:=iO h1
  have h2:=dU h2
  have h3:=dU h3
  subst h1 h2 h3;rfl
 ·rename_i i o j q
  obtain ⟨h1,h2⟩:=qp (show Bool.and (jM i j) (Nat.beq o q)=true from e)
  have h1:=ef.1 h1
  have h2:=dU h2
  subst h1 h2;rfl
 ·rfl
 ·rename_i i a b c j d e' f
  obtain ⟨h1,h2⟩:=qp (show Bool.and (jM i j) (Bool.and (Nat.beq a d) (Bool.and (Nat.beq b e') (Nat.beq c f)))=true from e)
  obtain ⟨h2,h3⟩:=qp h2
  obtain ⟨h3,h4⟩:=qp h3
  have h1:=ef.1 h1
  have h2:=dU h2
  have h3:=dU h3
  have h4:=dU h4
  subst h1 h2 h3 h4;rfl
 ·rename_i i a b c j d e' f
  obtain ⟨h1,h2⟩:=qp (show Bool.and (jM i j) (Bool.and (Nat.beq a d) (Bool.and (Nat.beq b e') (Nat.beq c f)))=true from e)
  obtain ⟨h2,h3⟩:=qp h2
  obtain ⟨h3,h4⟩:=qp h3
  have h1:=ef.1 h1
  have h2:=dU h2
  have h3:=dU h3
  have h4:=dU h4
  subst h1 h2 h3 h4;rfl
 ·rfl
 ·rename_i i j;exact congrArg _ (ef.1 e)
 ·rfl
 ·rfl
 ·rfl
theorem tg:∀{a b:List AV},yo a b=true→a=b
 | [],[],_=>rfl
 | [],_::_,e=>by cases e
 | _::_,[],e=>by cases e
 | x::a,y::b,e=>by
  obtain ⟨h1,h2⟩:=az (show (@Bool.rec (fun _=>Bool) false (yo a b) (dj x y))=true from e)
  rw [dC h1,tg h2]
theorem yB {x y:AV} (e:rk x y=true):x=y:=by
 by_cases hx:∃l,x=.agg l
 ·obtain ⟨l,rfl⟩:=hx
  cases y<;>(try (cases e;done))
  exact congrArg _ (tg e)
 ·have:rk x y=dj x y:=by cases x<;>first|rfl|exact absurd ⟨_,rfl⟩ hx
  exact dC (this▸e)
theorem yC {x y:AV} (e:vu x y=true):x=y:=by
 by_cases hx:∃f l,x=.fn f l
 ·obtain ⟨f,l,rfl⟩:=hx
  cases y<;>(try (cases e;done))
  rename_i g m
  obtain ⟨h1,h2⟩:=qp (show Bool.and (Nat.beq f g) (yo l m)=true from e)
  rw [dU h1,tg h2]
 ·by_cases hi:∃t u,x=.iface t u
  ·obtain ⟨t,u,rfl⟩:=hi
   cases y<;>(try (cases e;done))
   rename_i t' u'
   obtain ⟨h1,h2⟩:=qp (show Bool.and (Nat.beq t t') (rk u u')=true from e)
   rw [dU h1,yB h2]
  ·have:vu x y=rk x y:=by cases x<;>first|rfl|exact absurd ⟨_,_,rfl⟩ hx|exact absurd ⟨_,_,rfl⟩ hi
   exact yB (this▸e)
theorem nJ:∀{a b:List AV},pW a b=true→a=b
 | [],[],_=>rfl
 | [],_::_,e=>by cases e
 | _::_,[],e=>by cases e
 | x::a,y::b,e=>by
  obtain ⟨h1,h2⟩:=az (show (@Bool.rec (fun _=>Bool) false (pW a b) (vu x y))=true from e)
  rw [yC h1,nJ h2]
theorem nK {x y:AV} (e:same x y=true):x=y:=by
 by_cases hx:∃l,x=.eS l
 ·obtain ⟨l,rfl⟩:=hx
  cases y<;>(try (cases e;done))
  exact congrArg _ (nJ e)
 ·have:same x y=vu x y:=by cases x<;>first|rfl|exact absurd ⟨_,rfl⟩ hx
  exact yC (this▸e)
theorem IA {x:AV} (e:isU x=true):x=.undef:=by cases x<;>first|rfl|cases e
theorem dV {x y:AV} (e:xP x y=true):x=y:=by
 have e:(@Bool.rec (fun _=>Bool) (same x y) (isU y) (isU x))=true:=e
 cases hx:isU x with
 | true=>rw [hx] at e;rw [IA hx,IA e]
 | false=>rw [hx] at e;exact nK e
theorem A1.eq_eq {x y:A1} (e:A1.eq x y=true):x=y:=by
 cases x with
 | nil=>cases y with
  | nil=>rfl
  | mk=>cases e
 | mk=>cases y with
  | nil=>cases e
  | mk=>
   obtain ⟨e0,e⟩:=az e;obtain ⟨e1,e⟩:=az e;obtain ⟨e2,e⟩:=az e;obtain ⟨e3,e⟩:=az e;obtain ⟨e4,e⟩:=az e;obtain ⟨e5,e⟩:=az e;obtain ⟨e6,e⟩:=az e;obtain ⟨e7,e⟩:=az e
   obtain ⟨e8,e⟩:=az e;obtain ⟨e9,e⟩:=az e;obtain ⟨ea,e⟩:=az e;obtain ⟨eb,e⟩:=az e;obtain ⟨ec,e⟩:=az e;obtain ⟨ed,e⟩:=az e;obtain ⟨ee,e⟩:=az e
   rw [dV e0,dV e1,dV e2,dV e3,dV e4,dV e5,dV e6,dV e7,dV e8,dV e9,dV ea,dV eb,dV ec,dV ed,dV ee,dV e]
theorem A2.eq_eq {x y:A2} (e:A2.eq x y=true):x=y:=by
 cases x with
 | nil=>cases y with
  | nil=>rfl
  | mk=>cases e
 | mk=>cases y with
  | nil=>cases e
  | mk=>
   obtain ⟨e0,e⟩:=az e;obtain ⟨e1,e⟩:=az e;obtain ⟨e2,e⟩:=az e;obtain ⟨e3,e⟩:=az e;obtain ⟨e4,e⟩:=az e;obtain ⟨e5,e⟩:=az e;obtain ⟨e6,e⟩:=az e;obtain ⟨e7,e⟩:=az e
   obtain ⟨e8,e⟩:=az e;obtain ⟨e9,e⟩:=az e;obtain ⟨ea,e⟩:=az e;obtain ⟨eb,e⟩:=az e;obtain ⟨ec,e⟩:=az e;obtain ⟨ed,e⟩:=az e;obtain ⟨ee,e⟩:=az e
   rw [A1.eq_eq e0,A1.eq_eq e1,A1.eq_eq e2,A1.eq_eq e3,A1.eq_eq e4,A1.eq_eq e5,A1.eq_eq e6,A1.eq_eq e7,A1.eq_eq e8,A1.eq_eq e9,A1.eq_eq ea,A1.eq_eq eb,A1.eq_eq ec,A1.eq_eq ed,A1.eq_eq ee,A1.eq_eq e]
theorem A3.eq_eq {x y:A3} (e:A3.eq x y=true):x=y:=by
 cases x with
 | nil=>cases y with
  | nil=>rfl
  | mk=>cases e
 | mk=>cases y with
  | nil=>cases e
  | mk=>
   obtain ⟨e0,e⟩:=az e;obtain ⟨e1,e⟩:=az e;obtain ⟨e2,e⟩:=az e;obtain ⟨e3,e⟩:=az e;obtain ⟨e4,e⟩:=az e;obtain ⟨e5,e⟩:=az e;obtain ⟨e6,e⟩:=az e;obtain ⟨e7,e⟩:=az e
   obtain ⟨e8,e⟩:=az e;obtain ⟨e9,e⟩:=az e;obtain ⟨ea,e⟩:=az e;obtain ⟨eb,e⟩:=az e;obtain ⟨ec,e⟩:=az e;obtain ⟨ed,e⟩:=az e;obtain ⟨ee,e⟩:=az e
   rw [A2.eq_eq e0,A2.eq_eq e1,A2.eq_eq e2,A2.eq_eq e3,A2.eq_eq e4,A2.eq_eq e5,A2.eq_eq e6,A2.eq_eq e7,A2.eq_eq e8,A2.eq_eq e9,A2.eq_eq ea,A2.eq_eq eb,A2.eq_eq ec,A2.eq_eq ed,A2.eq_eq ee,A2.eq_eq e]
theorem A4.eq_eq {x y:A4} (e:A4.eq x y=true):x=y:=by
 cases x with
 | nil=>cases y with
  | nil=>rfl
  | mk=>cases e
 | mk=>cases y with
  | nil=>cases e
  | mk=>
   obtain ⟨e0,e⟩:=az e;obtain ⟨e1,e⟩:=az e;obtain ⟨e2,e⟩:=az e;obtain ⟨e3,e⟩:=az e;obtain ⟨e4,e⟩:=az e;obtain ⟨e5,e⟩:=az e;obtain ⟨e6,e⟩:=az e;obtain ⟨e7,e⟩:=az e
   obtain ⟨e8,e⟩:=az e;obtain ⟨e9,e⟩:=az e;obtain ⟨ea,e⟩:=az e;obtain ⟨eb,e⟩:=az e;obtain ⟨ec,e⟩:=az e;obtain ⟨ed,e⟩:=az e;obtain ⟨ee,e⟩:=az e
   rw [A3.eq_eq e0,A3.eq_eq e1,A3.eq_eq e2,A3.eq_eq e3,A3.eq_eq e4,A3.eq_eq e5,A3.eq_eq e6,A3.eq_eq e7,A3.eq_eq e8,A3.eq_eq e9,A3.eq_eq ea,A3.eq_eq eb,A3.eq_eq ec,A3.eq_eq ed,A3.eq_eq ee,A3.eq_eq e]
theorem Cl.eq_eq {x y:Cl} (e:Cl.eq x y=true):x=y:=by
 cases x<;>cases y<;>(try (cases e;done))
 ·exact congrArg _ (A1.eq_eq e)
 ·exact congrArg _ (A2.eq_eq e)
 ·exact congrArg _ (A3.eq_eq e)
 ·exact congrArg _ (A4.eq_eq e)
theorem Fl.eq_eq {x y:Fl} (e:Fl.eq x y=true):x=y:=by cases x<;>cases y<;>first|rfl|cases e
theorem Qu {x y:KV} (e:ahZ x y=true):x=y:=by
 cases x;cases y
 obtain ⟨h1,h2⟩:=az e
 obtain ⟨h2,h3⟩:=az h2
 rw [dU h1,nK h2,dV h3]
theorem yD:∀{a b:List KV},Gk a b=true→a=b
 | [],[],_=>rfl
 | [],_::_,e=>by cases e
 | _::_,[],e=>by cases e
 | x::a,y::b,e=>by
  obtain ⟨h1,h2⟩:=az (show (@Bool.rec (fun _=>Bool) false (Gk a b) (ahZ x y))=true from e)
  rw [Qu h1,yD h2]
theorem yE {x y:Obj} (e:rl x y=true):x=y:=by
 cases x<;>cases y<;>(try (cases e;done))
 ·rfl
 ·obtain ⟨h1,h2⟩:=az e
  obtain ⟨h2,h3⟩:=az h2
  obtain ⟨h3,h4⟩:=az h3
  obtain ⟨h4,h5⟩:=az h4
  rw [dU h1,dU h2,te h3,Fl.eq_eq h4,Cl.eq_eq h5]
 ·obtain ⟨h1,h2⟩:=az e
  rw [dU h1,yD h2]
theorem BN (x y:AV):(gh x y=x∧x=y)∨gh x y=.undef:=by
 show ((@Bool.rec (fun _=>AV) .undef x (same x y))=x∧x=y)∨(@Bool.rec (fun _=>AV) .undef x (same x y))=.undef
 cases hs:same x y with
 | true=>exact .inl ⟨rfl,nK hs⟩
 | false=>exact .inr rfl
theorem pz (x y:Obj):(aY x y=x∧x=y)∨aY x y=.dead:=by
 show ((@Bool.rec (fun _=>Obj) .dead x (rl x y))=x∧x=y)∨(@Bool.rec (fun _=>Obj) .dead x (rl x y))=.dead
 cases hs:rl x y with
 | true=>exact .inl ⟨rfl,yE hs⟩
 | false=>exact .inr rfl
theorem A1.mD (d:H) (x y:A1):A1.get d (A1.mg x y)=gh (A1.get d x) (A1.get d y):=by
 cases x<;>cases y<;>cases d<;>rfl
theorem A2.mD (d:H) (x y:A2):A2.get d (A2.mg x y)=A1.mg (A2.get d x) (A2.get d y):=by
 cases x<;>cases y<;>cases d<;>rfl
theorem O1.mD (d:H) (x y:O1):O1.get d (O1.mg x y)=aY (O1.get d x) (O1.get d y):=by
 cases x<;>cases y<;>cases d<;>rfl
theorem O2.mD (d:H) (x y:O2):O2.get d (O2.mg x y)=O1.mg (O2.get d x) (O2.get d y):=by
 cases x<;>cases y<;>cases d<;>rfl
theorem O3.mD (d:H) (x y:O3):O3.get d (O3.mg x y)=O2.mg (O3.get d x) (O3.get d y):=by
 cases x<;>cases y<;>cases d<;>rfl
theorem O4.mD (d:H) (x y:O4):O4.get d (O4.mg x y)=O3.mg (O4.get d x) (O4.get d y):=by
 cases x<;>cases y<;>cases d<;>rfl
theorem BO (a b:H) (x y:A2):aw a b (A2.mg x y)=gh (aw a b x) (aw a b y):=by
 simp only [aw,A2.mD,A1.mD]
def fU (r2 r:A2):Prop:=∀a b,aw a b r2=aw a b r∨aw a b r2=.undef
def gI (h2 h:Hp):Prop:=∀i,aq i h2=aq i h∨aq i h2=.dead
theorem fU.refl (r:A2):fU r r:=fun _ _=>.inl rfl
theorem gI.refl (h:Hp):gI h h:=fun _=>.inl rfl
theorem fU.trans {r1 r2 r3:A2} (h:fU r1 r2) (g:fU r2 r3):fU r1 r3:=fun a b=>by
 rcases h a b with e|e
 ·rw [e];exact g a b
 ·exact .inr e
theorem gI.trans {h1 h2 h3:Hp} (h:gI h1 h2) (g:gI h2 h3):gI h1 h3:=fun i=>by
 rcases h i with e|e
 ·rw [e];exact g i
 ·exact .inr e
variable {P:Program} {φ φ':aJ} {h h' h2:Hp} {w w':World} {v:AV} {r r2:A2} {a:Act} {cv:Value} {n:Nat} {G:Gl}
theorem HR.less (H:HR φ h w) (L:gI h2 h):HR φ h2 w where
 obj i hl:=by
  rcases L i with e|e
  ·rw [e] at hl ⊢;exact H.obj i hl
  ·exact absurd e hl.2
 inj i j p q hi hj:=by
  rcases L i with e|e
  ·rcases L j with e'|e'
   ·rw [e] at hi;rw [e'] at hj;exact H.inj i j p q hi hj
   ·exact absurd e' hj.2
  ·exact absurd e hi.2
 fresh i hi:=by
  rcases L i with e|e
  ·exact H.fresh i (e▸hi)
  ·rw [e] at hi;cases hi
 bound:=H.bound
theorem Step.IB {φ₀:aJ} {h₀:Hp} {w₀:World} (S:Step φ₀ (mark h₀) w₀ φ h w) (L:gI h2 h) (F:Fr h₀ h2):Step φ₀ h₀ w₀ φ h2 w:=
 ⟨S.le,⟨S.keeps.size,S.keeps.rest,S.keeps.tape,S.keeps.os,S.keeps.output⟩,fun i p hl hp=>by
  rcases L i with e|e
  ·exact S.new i p (e▸hl) hp
  ·exact absurd e hl.2,F⟩
theorem HR.mark (H:HR φ h w):HR φ (Am.mark h) w:=⟨H.obj,H.inj,H.fresh,H.bound⟩
theorem St.mark (S:St n G φ r h a w):St n G φ r (Am.mark h) a w:=⟨S.hr.mark,S.aF,S.dM,S.size,S.fD⟩
theorem Fr.Gm {h₀:Hp} (F:Fr (Am.mark h₀) h):Fr h₀ (Am.Gm h₀ h):=by
 obtain ⟨l',e,f⟩:=F.2 [] rfl
 obtain ⟨t,n,lg⟩:=h₀
 refine ⟨fun g=>?_,fun l g=>?_⟩
 ·have g:lg=.off:=g
  subst g;rfl
 ·have g:lg=.on l:=g
  subst g
  refine ⟨l',?_,fun q hq=>f q hq⟩
  show Lg.on (uK h.log ++ l)=_
  rw [e,List.append_nil];rfl
theorem St.less (S:St n G φ r h a w) (L:fU r2 r) (M:gI h2 h):St n G φ r2 h2 a w:=
 ⟨S.hr.less M,fun t ht=>by
  rcases L (hi t) (lo t) with e|e
  ·rw [e];exact S.aF t ht
  ·rw [e];exact .undef _,S.dM,S.size,S.fD⟩
theorem th (x y:Hp):∀(l:List P4) (h0:Hp) (q:P4),aq q (oQ x y l h0)=if q∈l then aY (aq q x) (aq q y) else aq q h0
 | [],h0,q=>by rw [if_neg (by simp)];rfl
 | p::l,h0,q=>by
  show aq q (oQ x y l (cG p (aY (aq p x) (aq p y)) h0))=_
  rw [th x y l,bg]
  by_cases e1:q∈l
  ·rw [if_pos e1,if_pos (List.mem_cons_of_mem _ e1)]
  ·rw [if_neg e1]
   by_cases e2:q=p
   ·subst e2;rw [if_pos rfl,if_pos (List.mem_cons_self ..)]
   ·rw [if_neg e2,if_neg (by simp [e1,e2])]
theorem wZ {b:Hp} (x y:Hp):∀(l:List P4) (h0:Hp),Fr b h0→Fr b (oQ x y l h0)
 | [],_,F=>F
 | p::l,h0,F=>wZ x y l _ (F.trans (.set _ _ _))
theorem vC {b:Hp} (hb:b.log=.on []) {x y:RS} (hs:(zU b x y).Safe):∃r h r' h' h2,x=.nm r h∧y=.nm r' h'∧zU b x y=.nm (A2.mg r r') h2∧(Fr b h→gI h2 h)∧(Fr b h'→gI h2 h')∧Fr b h2:=by
 cases x<;>(try exact (RS.Safe.err hs).elim)
 rename_i r h
 cases y<;>(try exact (RS.Safe.err hs).elim)
 rename_i r' h'
 change RS.Safe (@Bool.rec (fun _=>RS) (.err 301) (.nm (A2.mg r r') (BD h.next (oQ h h' (uK h.log) (oQ h h' (uK h'.log) b)))) (jM h.next h'.next)) at hs
 have e:zU b (.nm r h) (.nm r' h')=(@Bool.rec (fun _=>RS) (.err 301) (.nm (A2.mg r r') (BD h.next (oQ h h' (uK h.log) (oQ h h' (uK h'.log) b)))) (jM h.next h'.next)):=rfl
 cases hp:jM h.next h'.next with
 | false=>rw [hp] at hs;exact (RS.Safe.err hs).elim
 | true=>
  rw [hp] at e
  have hg:∀q,aq q (BD h.next (oQ h h' (uK h.log) (oQ h h' (uK h'.log) b)))=if q∈uK h.log then aY (aq q h) (aq q h') else if q∈uK h'.log then aY (aq q h) (aq q h') else aq q b:=fun q=>by
   show aq q (oQ h h' (uK h.log) (oQ h h' (uK h'.log) b))=_
   rw [th,th]
  have key:∀g:Hp,Fr b g→∀q,q ∉ uK g.log→aq q g=aq q b:=fun g F q hq=>by
   obtain ⟨l',e1,f1⟩:=F.2 [] hb
   rw [e1,List.append_nil] at hq
   exact f1 q hq
  refine ⟨r,_,r',_,_,rfl,rfl,e,fun F q=>?_,fun F q=>?_,?_⟩
  ·rw [hg]
   by_cases e1:q∈uK h.log
   ·rw [if_pos e1]
    rcases pz (aq q h) (aq q h') with ⟨g1,_⟩|g1
    ·exact .inl g1
    ·exact .inr g1
   ·rw [if_neg e1]
    by_cases e2:q∈uK h'.log
    ·rw [if_pos e2]
     rcases pz (aq q h) (aq q h') with ⟨g1,_⟩|g1
     ·exact .inl g1
     ·exact .inr g1
    ·rw [if_neg e2];exact .inl (key h F q e1).symm
  ·rw [hg]
   have hm:aY (aq q h) (aq q h')=aq q h'∨aY (aq q h) (aq q h')=.dead:=by
    rcases pz (aq q h) (aq q h') with ⟨g1,g2⟩|g1
    ·exact .inl (g1.trans g2)
    ·exact .inr g1
   by_cases e1:q∈uK h.log
   ·rw [if_pos e1];exact hm
   ·rw [if_neg e1]
    by_cases e2:q∈uK h'.log
    ·rw [if_pos e2];exact hm
    ·rw [if_neg e2];exact .inl (key h' F q e2).symm
  ·have:=wZ h h' (uK h.log) _ (wZ h h' (uK h'.log) b (.refl b))
   exact ⟨this.1,this.2⟩
theorem fU.apy (r r':A2):fU (A2.mg r r') r:=fun a b=>by
 rw [BO]
 rcases BN (aw a b r) (aw a b r') with ⟨g1,_⟩|g1
 ·exact .inl g1
 ·exact .inr g1
theorem fU.apz (r r':A2):fU (A2.mg r r') r':=fun a b=>by
 rw [BO]
 rcases BN (aw a b r) (aw a b r') with ⟨g1,g2⟩|g1
 ·exact .inl (g1.trans g2)
 ·exact .inr g1
theorem DB {β:Type} (z:β) (s:Nat→β→β) (m:Nat):jO z s (m+1)=s m (jO z s m):=rfl
theorem IC {b:Hp} (hb:b.log=.on []) {f:Nat→RS}:∀m,(jO (f 0) (fun m ih=>zU b ih (f (Nat.succ m))) (m+1)).Safe→∃R H,jO (f 0) (fun m ih=>zU b ih (f (Nat.succ m))) (m+1)=.nm R H∧Fr b H∧∀c,c≤m+1→∃r h,f c=.nm r h∧fU R r∧(Fr b h→gI H h)
 | 0,hs=>by
  obtain ⟨r,h,r',h',h2,e1,e2,e3,l1,l2,l3⟩:=vC hb (x:=f 0) (y:=f 1) hs
  refine ⟨_,_,e3,l3,fun c hc=>?_⟩
  rcases Nat.lt_or_ge c 1 with g|g
  ·obtain rfl:c=0:=by omega
   exact ⟨r,h,e1,.apy _ _,l1⟩
  ·obtain rfl:c=1:=by omega
   exact ⟨r',h',e2,.apz _ _,l2⟩
 | m+1,hs=>by
  rw [DB] at hs ⊢
  obtain ⟨r,h,r',h',h2,e1,e2,e3,l1,l2,l3⟩:=vC hb hs
  obtain ⟨R,H,g1,g3,g2⟩:=IC hb m (by rw [e1];exact fun n hn=>by cases hn)
  rw [e1] at g1;cases g1
  refine ⟨_,_,e3,l3,fun c hc=>?_⟩
  rcases Nat.lt_or_ge c (m+2) with g|g
  ·obtain ⟨rc,hc',f1,f2,f3⟩:=g2 c (by omega)
   exact ⟨rc,hc',f1,(fU.apy _ _).trans f2,fun F=>(l1 g3).trans (f3 F)⟩
  ·obtain rfl:c=m+2:=by omega
   exact ⟨r',h',e2,.apz _ _,l2⟩
theorem Qv {b:Hp} (hb:b.log=.on []):∀x:RS,(jJ b x).Safe→x.Safe∧∀y,x.aG y→∀e r' h',Ends y e r' h'→Fr b h'→∃y2 r2 h2,(jJ b x).aG y2∧Ends y2 e r2 h2∧fU r2 r'∧gI h2 h'∧Fr b h2:=by
  intro x
  induction x with
  | nm r h=>exact fun hs=>⟨hs,fun y hy e r' h' he F=>⟨y,r',h',hy,he,.refl _,.refl _,F⟩⟩
  | ex i r h=>exact fun hs=>⟨hs,fun y hy e r' h' he F=>⟨y,r',h',hy,he,.refl _,.refl _,F⟩⟩
  | go i r h=>exact fun hs=>⟨hs,fun y hy e r' h' he F=>⟨y,r',h',hy,he,.refl _,.refl _,F⟩⟩
  | ret r h=>exact fun hs=>⟨hs,fun y hy e r' h' he F=>⟨y,r',h',hy,he,.refl _,.refl _,F⟩⟩
  | err n=>exact fun hs=>(RS.Safe.err hs).elim
  | ch n k ih=>
    intro hs
    have e0:jJ b (.ch n k)=Gn b n (fun i=>jJ b (k i)):=rfl
    rw [e0] at hs ⊢
    cases n with
    | zero=>exact (RS.Safe.err hs).elim
    | succ n=>
      cases n with
      | zero=>
        have hs:(jJ b (k 0)).Safe:=hs
        obtain ⟨s1,s2⟩:=ih 0 hs
        refine ⟨fun m hm=>?_,fun y hy e r' h' he F=>?_⟩
        · cases hm with
          | ch _ _ c _ hc hl => obtain rfl : c = 0 := by omega
                                exact s1 m hl
        · cases hy with
          | ch _ _ c _ hc hl => obtain rfl : c = 0 := by omega
                                exact s2 y hl e r' h' he F
      | succ m=>
        have hs:(jO (jJ b (k 0)) (fun m ih=>zU b ih (jJ b (k (Nat.succ m)))) (m+1)).Safe:=hs
        obtain ⟨R,H,g1,g3,g2⟩:=IC hb (f:=fun i=>jJ b (k i)) m hs
        have e1:Gn b (m+1+1) (fun i=>jJ b (k i))=.nm R H:=g1
        rw [e1]
        have hk:∀c,c < m+1+1→(jJ b (k c)).Safe:=fun c hc=>by
          obtain ⟨rc,hc',f1,_,_⟩:=g2 c (by omega)
          rw [f1];exact fun n hn=>by cases hn
        refine ⟨fun j hj=>?_,fun y hy e r' h' he F=>?_⟩
        · cases hj with
          | ch _ _ c _ hc hl=>exact (ih c (hk c hc)).1 j hl
        · cases hy with
          | ch _ _ c _ hc hl=>
            obtain ⟨y2,r2,h2,q1,q2,q3,q4,q5⟩:=(ih c (hk c hc)).2 y hl e r' h' he F
            obtain ⟨rc,hc',f1,f2,f3⟩:=g2 c (by omega)
            have f1:jJ b (k c)=.nm rc hc':=f1
            rw [f1] at q1
            cases q1
            cases q2
            exact ⟨_,R,H,.nm _ _,.nm _ _,f2.trans q3,(f3 q5).trans q4,g3⟩
theorem lx (b:Hp):∀x y:RS,x.aG y→(qo b x).aG (qo b y)
 | _,_,.nm _ _=>.nm _ _
 | _,_,.ex _ _ _=>.ex _ _ _
 | _,_,.go _ _ _=>.go _ _ _
 | _,_,.ret _ _=>.ret _ _
 | _,_,.err _=>.err _
 | _,_,.ch n k c y hc hl=>.ch n _ c _ hc (lx b _ _ hl)
theorem vD {b:Hp} {x:RS} (hs:(qo b x).Safe):x.Safe:=fun n hn=>hs n (lx b _ _ hn)
theorem vE {b:Hp} {y:RS} {e:Exit} (he:Ends y e r h):Ends (qo b y) e r (Gm b h):=by
 cases he with
 | nm=>exact .nm _ _
 | ex=>exact .ex _ _ _
 | go=>exact .go _ _ _
 | ret=>exact .ret _ _
theorem nL {b:Hp} {x:RS} (hs:(fR b x).Safe):x.Safe∧∀y,x.aG y→∀e r' h',Ends y e r' h'→Fr (Am.mark b) h'→∃y2 r2 h2,(fR b x).aG y2∧Ends y2 e r2 h2∧fU r2 r'∧gI h2 h'∧Fr b h2:=by
 obtain ⟨s1,s2⟩:=Qv (b:=Am.mark b) rfl x (vD hs)
 refine ⟨s1,fun y hy e r' h' he F=>?_⟩
 obtain ⟨y2,r2,h2,q1,q2,q3,q4,q5⟩:=s2 y hy e r' h' he F
 exact ⟨_,r2,Gm b h2,lx b _ _ q1,vE q2,q3,fun i=>q4 i,q5.Gm⟩
theorem aZ.qo {x:RS} {e:Exit} {a':Act} {w':World} (hq:aZ n G φ (Am.mark h) w x e a' w'):aZ n G φ h w (Am.qo h x) e a' w':=by
 obtain ⟨y,r',h',φ',hl,he,S',T⟩:=hq
 exact ⟨_,r',Gm h h',φ',lx h _ _ hl,vE he,⟨⟨S'.hr.obj,S'.hr.inj,S'.hr.fresh,S'.hr.bound⟩,S'.aF,S'.dM,S'.size,S'.fD⟩,T.IB (fun _=>.inl rfl) T.fr.Gm⟩
variable {P:Program} {φ φ':aJ} {h h' h2:Hp} {w w':World} {v:AV} {r r2:A2} {a:Act} {cv:Value} {n:Nat} {G:Gl} [NB G] {names:List String} {p:Pg} {run:gB}
theorem Qw {x:AO} {cx:Value} (H:HR φ h w) (hx:VR φ (ev x r) cx) {t:TypeId} {d:TypeDesc} (hd:P.underlying t=some d) (ha:qE P t=false) (e:iD x r h=.ok v h') :
  h'=h∧∃ad cv,cx=.pointer (some ad)∧(loadVar t ad).run P w=.ok cv w∧VR φ v cv:=by
 obtain ⟨i,o,ex,e1⟩:=ct e
 rw [ex] at hx
 obtain ⟨el,n,ex,fl,c,hi,e2⟩:=aR e1
 obtain ⟨hb,e3⟩:=aC e2
 obtain ⟨rfl,rfl⟩:=RV.av e3
 cases hx with
 | ptr _ _ p hp=>
  obtain ⟨cv,h1,h2,h3⟩:=H.cell hi hp (kF hb)
  exact ⟨rfl,_,cv,rfl,by simp [loadVar,gw hd,ha,h1],h2⟩
theorem Qx {x:AO} {cx:Value} (H:HR φ h w) (hx:VR φ (ev x r) cx) {t:TypeId} {d:TypeDesc} (hd:P.underlying t=some d) (ha:qE P t=true) {m:Nat} (hm:bj P t=m) (e:pU m x r h=.ok v h') :
  h'=h∧∃ad cv,cx=.pointer (some ad)∧(loadVar t ad).run P w=.ok cv w∧VR φ v cv:=by
 obtain ⟨i,o,ex,e1⟩:=ct e
 rw [ex] at hx
 obtain ⟨el,n,ex,fl,c,hi,e2⟩:=aR e1
 obtain ⟨hb,e3⟩:=aC e2
 obtain ⟨rfl,rfl⟩:=RV.av e3
 obtain ⟨inf,hinf⟩:=hR hd
 cases hx with
 | ptr _ _ p hp=>
  obtain ⟨l,h1,h2,h3,h4⟩:=H.values hi hp m o (by simpa using hb)
  have hsz:inf.size=m:=by rw [←cB hinf,hm]
  exact ⟨rfl,_,_,rfl,by simp [loadVar,gw hd,ha,aU hinf,hsz,run_loadCells h1 h4],.agg _ l h2 h3⟩
def yF (a:Act):ResultVar→Sem Value:=fun
 | .tmp t=>pure (a.tmps.getD t undef)
 | .cell b t=>do loadVar t (←asAddr (a.tmps.getD b undef))
theorem Qy {s:Rs} {rv:ResultVar} (S:St n G φ r h a w) (hs:Qz P n rv=some s) (he:LO s r h=.ok v h'):h'=h∧∃cv,(yF a rv).run P w=.ok cv w∧VR φ v cv:=by
 cases rv with
 | tmp t=>
  simp only [Qz] at hs
  split at hs
  ·rename_i ht
   cases hs
   obtain ⟨rfl,rfl⟩:=RV.av he
   exact ⟨rfl,_,rfl,S.Qr t ht⟩
  ·cases hs
 | cell b t=>
  simp only [Qz] at hs
  split at hs
  ·cases hs
  ·rename_i hu
   obtain ⟨d,hd⟩:=gq hu
   split at hs
   ·rename_i ht
    have hv:VR φ (ev (.t (hi b) (lo b)) r) (a.tmps.getD b undef):=S.Qr b ht
    have key:h'=h∧∃ad cv,a.tmps.getD b undef=.pointer (some ad)∧(loadVar t ad).run P w=.ok cv w∧VR φ v cv:=by
     cases ha:qE P t with
     | true=>
      rw [ha] at hs
      cases hs
      exact Qx S.hr hv hd ha rfl he
     | false=>
      rw [ha] at hs
      cases hs
      exact Qw S.hr hv hd ha he
    obtain ⟨e1,ad,cv,e2,e3,e4⟩:=key
    refine ⟨e1,cv,?_,e4⟩
    have:(asAddr (.pointer (some ad))).run P w=.ok ad w:=rfl
    simp only [yF,e2,Sem.run_bind,this,Result.andThen_ok,e3]
   ·cases hs
theorem BP (S:St n G φ r h a w):∀{l:List ResultVar} {rs:List Rs} {k:List AV→RV},l.mapM (Qz P n)=some rs→aib rs r h k=.ok v h'→∃vs cs,k vs=.ok v h'∧(l.mapM (yF a)).run P w=.ok cs w∧bS φ vs cs
 | [],rs,k,hl,he=>by
  simp at hl;subst hl
  exact ⟨[],[],he,rfl,.nil⟩
 | x::l,rs,k,hl,he=>by
  simp only [List.mapM_cons,Option.pure_def,Option.bind_eq_bind,Option.bind_eq_some_iff,Option.some.injEq] at hl
  obtain ⟨s,hs,rs,hrs,rfl⟩:=hl
  have he:(RV.rec (fun v _=>aib rs r h (fun vs=>k (v::vs))) (fun n=>.err n) (LO s r h):RV)=.ok v h':=he
  cases h1:LO s r h with
  | err n=>rw [h1] at he;cases he
  | ok u g=>
   rw [h1] at he
   obtain ⟨_,cv,e1,e2⟩:=Qy S hs h1
   obtain ⟨vs,cs,f1,f2,f3⟩:=BP S hrs he
   refine ⟨u::vs,cv::cs,f1,?_,.cons _ _ _ _ e2 f3⟩
   simp only [List.mapM_cons,Sem.run_bind,e1,Result.andThen_ok,f2,Sem.run_pure]
theorem gJ {fn:Func} {rs:List Rs} (S:St n G φ r h a w) (hr:fn.results.toList.mapM (Qz P n)=some rs) (he:CT rs r h=.ok v h'):h'=h∧∃cv,(results fn a.tmps).run P w=.ok cv w∧VR φ v cv:=by
 obtain ⟨vs,cs,f1,f2,f3⟩:=BP S hr he
 have hm:(fn.results.mapM (yF a)).run P w=.ok cs.toArray w:=by
  rw [Array.mapM_eq_mapM_toList]
  simp [f2]
 have hrun:(results fn a.tmps).run P w=.ok (if h:cs.toArray.size=1 then cs.toArray[0] else .tuple cs.toArray) w:=by
  have:results fn a.tmps=(do let vs←fn.results.mapM (yF a);pure (if h:vs.size=1 then vs[0] else .tuple vs)):=rfl
  rw [this]
  simp only [Sem.run_bind,hm,Result.andThen_ok,Sem.run_pure]
 cases f3 with
 | nil=>
  obtain ⟨rfl,rfl⟩:=RV.av f1
  exact ⟨rfl,.tuple #[],by rw [hrun];rfl,.eS [] [] .nil⟩
 | cons u c us ds g1 g2=>cases g2 with
  | nil=>
   obtain ⟨rfl,rfl⟩:=RV.av f1
   exact ⟨rfl,c,by rw [hrun];rfl,g1⟩
  | cons u2 c2 us ds g3 g4=>
   obtain ⟨rfl,rfl⟩:=RV.av f1
   refine ⟨rfl,.tuple (c::c2::ds).toArray,by rw [hrun];rw [dif_neg (by simp)],.eS _ _ (.cons _ _ _ _ g1 (.cons _ _ _ _ g3 g4))⟩
theorem tk:∀(l:List AV) (i:Nat) (r:A2) (t:Nat),t < 256→i+l.length≤256→aw (hi t) (lo t) (dK l i r)=if hh:i≤t∧t < i+l.length then l[t - i]'(by omega) else aw (hi t) (lo t) r
 | [],i,r,t,ht,hl=>by rw [dif_neg (by simp only [List.length_nil];omega)];rfl
 | v::l,i,r,t,ht,hl=>by
  simp only [List.length_cons] at hl
  have e:dK (v::l) i r=dK l (i+1) (eL (hi i) (lo i) v r):=rfl
  rw [e,tk l (i+1) _ t ht (by omega),eO]
  by_cases h1:t=i
  ·subst h1
   rw [dif_neg (by omega),dif_pos (by simp),if_pos ⟨rfl,rfl⟩]
   simp
  ·rw [if_neg (fun g=>h1 ((Dw ht (by omega)).1 g))]
   by_cases h2:i≤t∧t < i+(l.length+1)
   ·rw [dif_pos (by omega),dif_pos (by simpa using h2)]
    have:t - i=(t - (i+1))+1:=by omega
    simp only [this,List.getElem_cons_succ]
   ·rw [dif_neg (by omega),dif_neg (by simpa using h2)]
theorem ID (a b:H):aw a b .nil=.undef:=by
 simp only [aw,A2.get_nil,A1.get_nil]
theorem St.start {args:List AV} {vals:List Value} (H:HR φ h w) (hv:bS φ args vals) (hg:mz G φ) (hl:args.length≤256) (n:Nat):St n G φ (dK args 0 .nil) h {tmps:=vals.toArray ++ Array.replicate (n - vals.toArray.size) undef,defers:=[]} w:=by
 refine St.mk' H (fun t ht=>?_) rfl ?_ hg
 ·rw [tk args 0 _ t ht (by omega)]
  by_cases h1:t < args.length
  ·rw [dif_pos (by omega)]
   have hlen:=hv.length
   have:({tmps:=vals.toArray ++ Array.replicate (n - vals.toArray.size) undef,defers:=[]}:Act).tmps.getD t undef=vals[t]'(by omega):=by
    rw [Array.getD_eq_getD_getElem?,Array.getElem?_append_left (by simpa using (by omega:t < vals.length))]
    simp [List.getElem?_eq_getElem (show t < vals.length by omega)]
   rw [this]
   exact hv.get t h1 (by omega)
  ·rw [dif_neg (by omega),ID];exact .undef _
 ·simp;omega
section
variable {P:Program} {ops:Array Oper} {x y:Nat}
theorem tn (i:Nat):(fE x y ops)[i]?=(ops[i]?).map fun o=>if i=y then {o with after:=o.after.push ⟨x,.data⟩} else o:=by
 unfold fE
 rw [Array.getElem?_modify]
 by_cases h:y=i
 ·subst h;simp
 ·rw [if_neg h]
  have:¬ i=y:=fun e=>h e.symm
  simp [this]
theorem vF:(fE x y ops).size=ops.size:=by simp [fE]
theorem IE (j:Nat):((fE x y ops)[j]?).bind (·.dst)=(ops[j]?).bind (·.dst):=by
 rw [tn]
 cases ops[j]? with
 | none=>rfl
 | some o=>
  show (if j=y then _ else o:Oper).dst=o.dst
  split<;>rfl
theorem xa (t:Array Value):yielded (fE x y ops) t=yielded ops t:=by
 funext j
 unfold yielded
 rw [IE]
theorem ly (Q:Exit→Act→World→Prop) (i:Nat) (K:Act→World→Prop) (a:Act) (w:World):wpOp P (fE x y ops) Q i K a w=wpOp P ops Q i K a w:=by
 unfold wpOp
 rw [tn,xa]
 cases ops[i]? with
 | none=>rfl
 | some o=>
  show (if Region.wanted (if i=y then _ else o:Oper) _ then (if i=y then _ else o:Oper).wp P a w K Q∨((if i=y then _ else o:Oper).asks P a w∧LetsOut Q) else K (a.put (if i=y then _ else o:Oper).dst undef) w)=_
  by_cases h:i=y
  ·rw [if_pos h];rfl
  ·rw [if_neg h]
theorem dW {L:Array Bool} (i:Nat):i∈Region.ready .any (fE x y ops) L↔i∈Region.ready .any ops L∧(i=y→L.getD x false=true):=by
 unfold Region.ready
 rw [List.mem_filter,List.mem_filter,vF,tn]
 cases ho:ops[i]? with
 | none=>simp
 | some o=>
  by_cases h:i=y
  ·subst h
   have hb:Region.binds .any ⟨x,.data⟩=true:=rfl
   simp [hb,and_assoc]
  ·simp [h]
def Flat (P:Program) (o:Oper):Prop:=∀(a:Act) (w:World) (n:Next) (w':World),(execOp a.eval o).run P w=.ok n w'→(∃v,n=.value v)∨n=.skip
variable {Q Q1 Q2:Exit→Act→World→Prop}
theorem IG {o:Oper} (hf:Flat P o) {a:Act} {w:World} {K1 K2 K:Act→World→Prop} (hK:∀a w,K1 a w→K2 a w→K a w) (hQ:∀e a w,Q1 e a w→Q e a w) (h1:o.wp P a w K1 Q1) (h2:o.wp P a w K2 Q2):o.wp P a w K Q:=by
 unfold Oper.wp at *
 cases hr:(execOp a.eval o).run P w with
 | ok n w'=>
  rw [hr] at h1 h2
  rcases hf a w n w' hr with ⟨v,rfl⟩|rfl
  ·exact hK _ _ h1 h2
  ·exact hK _ _ h1 h2
 | halt s w'=>
  rw [hr] at h1 h2
  cases s<;>simp only [Oper.upon] at h1 h2 ⊢<;>exact hQ _ _ _ h1
theorem IH (hf:∀(i:Nat) (o:Oper),ops[i]?=some o→Flat P o) (hl1:¬ LetsOut Q1) (hl2:¬ LetsOut Q2) {i:Nat} {a:Act} {w:World} {K1 K2 K:Act→World→Prop} (hK:∀a w,K1 a w→K2 a w→K a w) (hQ:∀e a w,Q1 e a w→Q e a w)
  (h1:wpOp P ops Q1 i K1 a w) (h2:wpOp P ops Q2 i K2 a w):wpOp P ops Q i K a w:=by
 unfold wpOp at *
 cases ho:ops[i]? with
 | none=>rw [ho] at h1 h2;exact hK _ _ h1 h2
 | some o=>
  rw [ho] at h1 h2
  simp only at h1 h2 ⊢
  split
  ·rename_i hw
   rw [if_pos hw] at h1 h2
   rcases h1 with h1|h1
   ·rcases h2 with h2|h2
    ·exact .inl (IG (hf i o ho) hK hQ h1 h2)
    ·exact absurd h2.2 hl2
   ·exact absurd h1.2 hl1
  ·rename_i hw
   rw [if_neg hw] at h1 h2
   exact hK _ _ h1 h2
theorem II (hQ:∀e a w,Q1 e a w→Q e a w) (h:LetsOut Q1):LetsOut Q:=let ⟨a,w,h⟩:=h;⟨a,w,hQ _ _ _ h⟩
theorem pA (hQ:∀e a w,Q1 e a w→Q e a w) (hf:∀(i:Nat) (o:Oper),ops[i]?=some o→Flat P o) {i:Nat} {a:Act} {w:World} {K1 K:Act→World→Prop} (hK:∀a w,K1 a w→K a w) (h1:wpOp P ops Q1 i K1 a w):wpOp P ops Q i K a w:=by
 unfold wpOp at *
 cases ho:ops[i]? with
 | none=>rw [ho] at h1;exact hK _ _ h1
 | some o=>
  rw [ho] at h1
  simp only at h1 ⊢
  split
  ·rename_i hw
   rw [if_pos hw] at h1
   rcases h1 with h1|h1
   ·exact .inl (IG (hf i o ho) (fun a w h _=>hK a w h) hQ h1 h1)
   ·exact .inr ⟨h1.1,II hQ h1.2⟩
  ·rename_i hw
   rw [if_neg hw] at h1
   exact hK _ _ h1
theorem jv (hf:∀(i:Nat) (o:Oper),ops[i]?=some o→Flat P o) (hQ:∀e a w,Q1 e a w→Q e a w):∀(fuel:Nat) (L:Array Bool) (a:Act) (w:World),L.getD x false=true→wpAny P .any (fE x y ops) Q1 fuel L a w→wpAny P .any ops Q fuel L a w
 | 0,L,a,w,hx,h=>by
  have hr:Region.ready .any ops L=[]:=List.eq_nil_iff_forall_not_mem.2 fun j hj=>by
   have:j∈Region.ready .any (fE x y ops) L:=dW j |>.2 ⟨hj,fun _=>hx⟩
   rw [h.1] at this;cases this
  exact ⟨hr,hQ _ _ _ h.2⟩
 | fuel+1,L,a,w,hx,h=>by
  have hrd:∀j,j∈Region.ready .any ops L→j∈Region.ready .any (fE x y ops) L:=fun j hj=>dW j |>.2 ⟨hj,fun _=>hx⟩
  refine ⟨fun hr=>hQ _ _ _ (h.1 (List.eq_nil_iff_forall_not_mem.2 fun j hj=>?_)),fun i hi=>?_⟩
  ·have:=(dW j |>.1 hj).1
   rw [hr] at this;cases this
  ·have:=h.2 i (hrd i hi)
   rw [ly] at this
   refine pA hQ hf (fun a w h=>jv hf hQ fuel _ a w ?_ h) this
   rw [Array.getD_eq_getD_getElem?] at hx ⊢
   rw [Array.getElem?_setIfInBounds]
   split
   ·rename_i e;subst e
    split
    ·rfl
    ·rename_i hlt
     rw [Array.getElem?_eq_none (by omega)] at hx
     cases hx
   ·exact hx
theorem vG (hf:∀(i:Nat) (o:Oper),ops[i]?=some o→Flat P o) (hl1:¬ LetsOut Q1) (hl2:¬ LetsOut Q2) (h1Q:∀e a w,Q1 e a w→Q e a w) (h2Q:∀e a w,Q2 e a w→Q e a w) :
  ∀(fuel:Nat) (L:Array Bool) (a:Act) (w:World),wpAny P .any (fE x y ops) Q1 fuel L a w→wpAny P .any (fE y x ops) Q2 fuel L a w→x≠y→(L.getD x false=false)→(L.getD y false=false)→L.size=ops.size→x < ops.size→y < ops.size→wpAny P .any ops Q fuel L a w
 | 0,L,a,w,h1,h2,hn,hx,hy,hs,hxs,hys=>by
  refine ⟨List.eq_nil_iff_forall_not_mem.2 fun j hj=>?_,h1Q _ _ _ h1.2⟩
  by_cases e:j=y
  ·have hjx:j≠x:=fun e2=>hn (e2.symm.trans e)
   have:j∈Region.ready .any (fE y x ops) L:=dW j |>.2 ⟨hj,fun e2=>absurd e2 hjx⟩
   rw [h2.1] at this;cases this
  ·have:j∈Region.ready .any (fE x y ops) L:=dW j |>.2 ⟨hj,fun e2=>absurd e2 e⟩
   rw [h1.1] at this;cases this
 | fuel+1,L,a,w,h1,h2,hn,hx,hy,hs,hxs,hys=>by
  have r1:∀j,j∈Region.ready .any ops L→j≠y→j∈Region.ready .any (fE x y ops) L:=fun j hj e=>dW j |>.2 ⟨hj,fun e2=>absurd e2 e⟩
  have r2:∀j,j∈Region.ready .any ops L→j≠x→j∈Region.ready .any (fE y x ops) L:=fun j hj e=>dW j |>.2 ⟨hj,fun e2=>absurd e2 e⟩
  refine ⟨fun hr=>h1Q _ _ _ (h1.1 (List.eq_nil_iff_forall_not_mem.2 fun j hj=>?_)),fun i hi=>?_⟩
  ·have:=(dW j |>.1 hj).1
   rw [hr] at this;cases this
  ·by_cases e:i=x
   ·subst e
    have:=h1.2 i (r1 i hi hn)
    rw [ly] at this
    refine pA h1Q hf (fun a w h=>jv hf h1Q fuel _ a w ?_ h) this
    rw [Array.getD_eq_getD_getElem?,Array.getElem?_setIfInBounds,if_pos rfl,if_pos (by omega)];rfl
   ·by_cases e':i=y
    ·subst e'
     have:=h2.2 i (r2 i hi e)
     rw [ly] at this
     refine pA h2Q hf (fun a w h=>jv hf h2Q fuel _ a w ?_ h) this
     rw [Array.getD_eq_getD_getElem?,Array.getElem?_setIfInBounds,if_pos rfl,if_pos (by omega)];rfl
    ·have g1:=h1.2 i (r1 i hi e')
     have g2:=h2.2 i (r2 i hi e)
     rw [ly] at g1 g2
     refine IH hf hl1 hl2 (fun a w k1 k2=>vG hf hl1 hl2 h1Q h2Q fuel _ a w k1 k2 hn ?_ ?_ (by simp [hs]) hxs hys) h1Q g1 g2
     ·rw [Array.getD_eq_getD_getElem?,Array.getElem?_setIfInBounds,if_neg e,←Array.getD_eq_getD_getElem?];exact hx
     ·rw [Array.getD_eq_getD_getElem?,Array.getElem?_setIfInBounds,if_neg e',←Array.getD_eq_getD_getElem?];exact hy
end
variable {P:Program}
theorem IJ {s:Sem Value} {w w':World} {n:Next} (h:(s >>= fun x=>pure (Next.value x):Sem Next).run P w=.ok n w'):(∃v,n=.value v)∨n=.skip:=by
 rw [Sem.run_bind] at h
 cases hs:s.run P w with
 | ok x w2=>rw [hs] at h;cases h;exact .inl ⟨_,rfl⟩
 | halt q w2=>rw [hs] at h;cases h
theorem akP {s:Sem Unit} {w w':World} {n:Next} (h:(s >>= fun _=>pure Next.skip:Sem Next).run P w=.ok n w'):(∃v,n=.value v)∨n=.skip:=by
 rw [Sem.run_bind] at h
 cases hs:s.run P w with
 | ok x w2=>rw [hs] at h;cases h;exact .inr rfl
 | halt q w2=>rw [hs] at h;cases h
theorem qF {α β:Type} {s:Sem α} {f:α→Sem β} {w w':World} {n:β} (h:(s >>= f).run P w=.ok n w'):∃x w2,s.run P w=.ok x w2∧(f x).run P w2=.ok n w':=by
 rw [Sem.run_bind] at h
 cases hs:s.run P w with
 | ok x w2=>rw [hs] at h;exact ⟨x,w2,rfl,h⟩
 | halt q w2=>rw [hs] at h;cases h
theorem QA {o:Oper} (hf:xb o.op=true):Flat P o:=by
 intro a w n w' h
 unfold execOp at h
 cases ho:o.op with
 | move x=>rw [ho] at h;cases h;exact .inl ⟨_,rfl⟩
 | assign x=>rw [ho] at h;cases h;exact .inl ⟨_,rfl⟩
 | pick c x y=>
  rw [ho] at h
  have h:((asBool (a.eval c)) >>= fun b=>pure (Next.value (if b then a.eval x else a.eval y)):Sem Next).run P w=.ok n w':=h
  rw [Sem.run_bind] at h
  cases hs:(asBool (a.eval c)).run P w with
  | ok x w2=>rw [hs] at h;cases h;exact .inl ⟨_,rfl⟩
  | halt q w2=>rw [hs] at h;cases h
 | nilCheck x=>
  rw [ho] at h
  simp only at h
  split at h
  ·cases h
  ·cases h
  ·cases h
  ·split at h
   ·cases h
   ·obtain ⟨_,_,_,h⟩:=qF h
    obtain ⟨_,_,_,h⟩:=qF h
    split at h
    ·obtain ⟨_,_,h1,_⟩:=qF h
     cases h1
    ·first
      | (cases h;exact .inl ⟨_,rfl⟩)
      | (obtain ⟨_,_,_,h⟩:=qF h;cases h;exact .inl ⟨_,rfl⟩)
   ·cases h;exact .inl ⟨_,rfl⟩
  ·cases h;exact .inl ⟨_,rfl⟩
 | call c=>
  rw [ho] at hf h
  simp only [xb] at hf
  split at hf
  ·rename_i b hb
   have h:(resolve a.eval c o.type >>= fun d=>invoke d.target d.args).run P w=.ok n w':=h
   unfold resolve at h
   simp only [hb] at h
   have h:(builtin b c.argTypes o.type (c.args.map fun|.const _=>true|_=>false) (c.args.map a.eval)).run P w=.ok n w':=h
   unfold builtin at h
   cases b<;>first|exact IJ h|(exact absurd hf (by decide))|cases h
  ·cases hf
 | go c=>rw [ho] at hf;cases hf
 | defer c=>rw [ho] at hf;cases hf
 | send c x=>rw [ho] at hf;cases hf
 | recv c x y=>rw [ho] at hf;cases hf
 | select c x=>rw [ho] at hf;cases hf
 | panic x=>rw [ho] at hf;cases hf
 | _=>rw [ho] at h;first|exact IJ h|exact akP h
variable {P:Program} {φ φ':aJ} {h h' h2:Hp} {w w':World} {v:AV} {r r2:A2} {a:Act} {cv:Value} {n:Nat} {G:Gl} [NB G] {names:List String} {p:Pg} {run:gB}
def mT (P:Program) (G:Gl) (names:List String) (f:Nat) (body:AC) (res:List Rs):Prop:=∃fn body0,P.funcs[f]?=some fn∧cF P G names fn=.mk body0 res∧Impl body0 body
def eA (P:Program) (G:Gl) (k:PK) (f:Nat):Prop:=∀(φ:aJ) (h:Hp) (w:World) (args:List AV) (vals:List Value),mz G φ→HR φ h w→bS φ args vals→(cA k args h).Safe→
 Calls P f vals.toArray w (dB φ h w (cA k args h))
def iP (P:Program) (G:Gl) (k:PK) (f:Nat):Prop:=∀(φ:aJ) (h:Hp) (w:World) (args:List AV) (vals:List Value),mz G φ→HR φ h w→bS φ args vals→(cA k args h).Safe→
 ∃cv w',(callFunc f vals.toArray).run P w=.ok (.value cv) w'∧dB φ h w (cA k args h) (.returned cv) w'
structure Env (P:Program) (G:Gl) (names:List String) (p:Pg):Prop where
 mixed:P.follows .mixedOrders=true
 ms:mA P names p.ms
 fs:∀f,match cn f p.fs with
  | .none=>True
  | .mk body res=>mT P G names f body res
  | .mW k body res=>mT P G names f body res∧eA P G k f
  | .Es body res=>mT P G names f body res
  | .ext k=>iP P G k f
def apA (P:Program) (G:Gl) (names:List String) (p:Pg):Prop:=∀(n:Nat) (run:gB),cS P G p run→∀(id:Nat) (ops:Array Oper) (l:List (Nat×Bk)) (kf:A2→Hp→RS) (r:A2) (h:Hp) (φ:aJ) (a:Act) (w:World),dw P G n names ops l=true→St n G φ r h a w→
 (nM (aD p run) (aH p run) kf (l.map fun (i,b)=>.mk b (fL P G n names ops (ops.getD i default))) r h h []).Safe→(Code.region id ops true).wp P (fun e a' w'=>e=.normal∧∃r' h' φ',
  nM (aD p run) (aH p run) kf (l.map fun (i,b)=>.mk b (fL P G n names ops (ops.getD i default))) r h h []=kf r' h'∧St n G φ' r' h' a' w'∧Step φ h w φ' h' w') a w
def We (P:Program) (G:Gl) (names:List String) (p:Pg):Prop:=∀(n:Nat) (run:gB),cS P G p run→∀(ops:Array Oper) (l:List (Nat×Bk)) (kf:A2→Hp→RS) (r:A2) (h:Hp) (φ:aJ) (a:Act) (w:World) (Q:Exit→Act→World→Prop),dw P G n names ops l=true→St n G φ r h a w→
 (nM (aD p run) (aH p run) kf (l.map fun (i,b)=>.mk b (fL P G n names ops (ops.getD i default))) r h h []).Safe→(∀r' h' φ' a' w',
  nM (aD p run) (aH p run) kf (l.map fun (i,b)=>.mk b (fL P G n names ops (ops.getD i default))) r h h []=kf r' h'→St n G φ' r' h' a' w'→Step φ h w φ' h' w'→Q .normal a' w')→wpAny P .any ops Q ops.size (Array.replicate ops.size false) a {w with drawn:=w.drawn+1}
noncomputable def gM (P:Program) (G:Gl) (n:Nat) (names:List String) (ops:Array Oper) (l:List (Nat×Bk)):List GI:=l.map fun (i,_)=>fL P G n names ops (ops.getD i default)
def apB (P:Program) (G:Gl) (names:List String) (p:Pg):Prop:=∀(n:Nat) (run:gB),cS P G p run→∀(ops:Array Oper) (l:List (Nat×Bk)) (kf:A2→Hp→RS) (r:A2) (h:Hp) (φ:aJ) (a:Act) (w:World) (Q:Exit→Act→World→Prop),dw P G n names ops l=true→xc l=true→St n G φ r h a w→
 (eB (aD p run) (aH p run) kf (gM P G n names ops l) r h).Safe→(∀r' h' φ' a' w',(∀z,(kf r' h').aG z→(eB (aD p run) (aH p run) kf (gM P G n names ops l) r h).aG z)→St n G φ' r' h' a' w'→Step φ h w φ' h' w'→Q .normal a' w')→
 wpAny P .any ops Q ops.size (Array.replicate ops.size false) a {w with drawn:=w.drawn+1}
def apC (P:Program) (G:Gl) (names:List String) (p:Pg):Prop:=∀(n:Nat) (run:gB),cS P G p run→∀(id:Nat) (ops:Array Oper) (l:List (Nat×Bk)) (kf:A2→Hp→RS) (r:A2) (h:Hp) (φ:aJ) (a:Act) (w:World),dw P G n names ops l=true→xc l=true→St n G φ r h a w→
 (eB (aD p run) (aH p run) kf (gM P G n names ops l) r h).Safe→(Code.region id ops true).wp P (fun e a' w'=>e=.normal∧∃r' h' φ',
  (∀z,(kf r' h').aG z→(eB (aD p run) (aH p run) kf (gM P G n names ops l) r h).aG z)∧St n G φ' r' h' a' w'∧Step φ h w φ' h' w') a w
def xd (P:Program) (G:Gl) (names:List String) (p:Pg):Prop:=We P G names p∧apB P G names p
def akQ (P:Program) (G:Gl) (names:List String) (p:Pg):Prop:=apA P G names p∧apC P G names p
theorem xd.toH (hm:P.follows .mixedOrders=true) (D:xd P G names p):akQ P G names p:=
  ⟨fun n run CO _ ops l kf r h φ a w hd S hs=>wp_region_any hm (D.1 n run CO ops l kf r h φ a w _ hd S hs fun r' h' φ' _ _ e S' T=>⟨rfl,r',h',φ',e,S',T⟩),
   fun n run CO _ ops l kf r h φ a w hd h0 S hs=>wp_region_any hm (D.2 n run CO ops l kf r h φ a w _ hd h0 S hs fun r' h' φ' _ _ e S' T=>⟨rfl,r',h',φ',e,S',T⟩)⟩
theorem gN {bad:Array Oper→AC} (ops:Array Oper):(∃l,dw P G n names ops l=true∧fo P G bad n names ops=.jQ (l.map fun (i,b)=>.mk b (fL P G n names ops (ops.getD i default))))∨(∃l,dw P G n names ops l=true∧xc l=true∧fo P G bad n names ops=.ops (gM P G n names ops l))∨fo P G bad n names ops=bad ops:=by
 have key2:∀l,dw P G n names ops l=true→fo P G bad n names ops=Aj P G n names ops l→(∃l,dw P G n names ops l=true∧fo P G bad n names ops=.jQ (l.map fun (i,b)=>.mk b (fL P G n names ops (ops.getD i default))))∨(∃l,dw P G n names ops l=true∧xc l=true∧fo P G bad n names ops=.ops (gM P G n names ops l))∨fo P G bad n names ops=bad ops:=fun l hl e=>by
  have hd:∀l,dw P G n names ops l=true→Aj P G n names ops l=.jQ (l.map fun (i,b)=>.mk b (fL P G n names ops (ops.getD i default)))∨(xc l=true∧Aj P G n names ops l=.ops (gM P G n names ops l)):=fun l hl=>by
   unfold Aj
   split
   ·rename_i h;exact .inr ⟨h,rfl⟩
   ·exact .inl rfl
  rcases hd l hl with g|⟨g1,g2⟩
  ·exact .inl ⟨l,hl,e.trans g⟩
  ·exact .inr (.inl ⟨l,hl,g1,e.trans g2⟩)
 by_cases h0:dw P G n names ops (order P G 0 names ops)=true
 ·exact key2 _ h0 (by unfold fo;dsimp only;rw [if_pos h0])
 ·by_cases h1:dw P G n names ops (order P G 1 names ops)=true
  ·exact key2 _ h1 (by unfold fo;dsimp only;rw [if_neg h0,if_pos h1])
  ·by_cases h2:dw P G n names ops (order P G 2 names ops)=true
   ·exact key2 _ h2 (by unfold fo;dsimp only;rw [if_neg h0,if_neg h1,if_pos h2])
   ·exact .inr (.inr (by unfold fo;dsimp only;rw [if_neg h0,if_neg h1,if_neg h2]))
theorem jw {next:Array Oper→AC} (ops:Array Oper):(∃x y,(∀o,o∈ops.toList→xb o.op=true)∧x≠y∧x < ops.size∧y < ops.size∧kK P G next names ops=.alt (next (fE x y ops)) (next (fE y x ops)))∨∃k,kK P G next names ops=.bad k:=by
 unfold kK
 split
 ·rename_i x y _
  split
  ·rename_i h
   simp only [Bool.and_eq_true,bne_iff_ne,ne_eq,decide_eq_true_eq] at h
   obtain ⟨⟨⟨h1,h2⟩,h3⟩,h4⟩:=h
   refine .inl ⟨x,y,fun o ho=>?_,h2,h3,h4,rfl⟩
   obtain ⟨i,hi,rfl⟩:=List.getElem_of_mem ho
   have:=(Array.all_eq_true.1 h1) i (by simpa using hi)
   simpa using this
  ·exact .inr ⟨_,rfl⟩
 ·exact .inr ⟨_,rfl⟩
theorem gO (ops:Array Oper):qq P G n names ops=.ops (ops.toList.map fun o=>mC P G n names ops o)∨∃q,qq P G n names ops=.ahQ q (ops.toList.map fun o=>mC P {G with b:=some q} n names ops o):=by
 unfold qq
 dsimp only
 split
 ·split
  ·exact .inr ⟨_,rfl⟩
  ·exact .inl rfl
 ·exact .inl rfl
theorem Ak (ops:Array Oper) (l:Nat):cM (qq P G n names ops) l=none:=by
 rcases gO (P:=P) (G:=G) (n:=n) (names:=names) ops with e|⟨q,e⟩<;>rw [e]<;>rfl
theorem aZ.lift {x x':RS} (hl:∀y,x.aG y→x'.aG y) {e:Exit} (hq:aZ n G φ h w x e a w'):aZ n G φ h w x' e a w':=
 let ⟨y,r',h',φ',h1,h2,h3,h4⟩:=hq;⟨y,r',h',φ',hl y h1,h2,h3,h4⟩
theorem nN (i:Nat) (c:Code):cC P G n names (.block i c)=.block i (cC P G n names c)∨cC P G n names (.block i c)=.join (.block i (cC P G n names c)):=by
 cases c with
 | loop b=>
  show (if hasNext b then AC.join (.block i (.loop (cC P G n names b))) else .block i (.loop (cC P G n names b)))=_∨(if hasNext b then AC.join (.block i (.loop (cC P G n names b))) else .block i (.loop (cC P G n names b)))=_
  split
  ·exact .inr rfl
  ·exact .inl rfl
 | _=>exact .inl rfl
theorem Al {bad:Array Oper→AC} (hb:∀ops l,cM (bad ops) l=none) (ops:Array Oper) (l:Nat):cM (fo P G bad n names ops) l=none:=by
 rcases gN (P:=P) (G:=G) (n:=n) (names:=names) (bad:=bad) ops with ⟨_,_,e⟩|⟨_,_,_,e⟩|e
 ·rw [e];rfl
 ·rw [e];rfl
 ·rw [e];exact hb _ _
theorem An {next:Array Oper→AC} (ops:Array Oper) (l:Nat):cM (kK P G next names ops) l=none:=by
 unfold kK
 split
 ·split<;>rfl
 ·rfl
theorem Ao (ops:Array Oper) (l:Nat):cM (kL P G n names ops) l=none:=
 Al (fun ops l=>An ops l) ops l
theorem tp (l:Nat):∀c:Code,cM (cC P G n names c) l=(findLabel c l).map (cC P G n names)
 | .seq a b=>by
  have ha:=tp l a
  have hb:=tp l b
  show (match cM (cC P G n names a) l with|some c=>some (AC.seq c (cC P G n names b))|none=>cM (cC P G n names b) l)=(match findLabel a l with|some rest=>some (Code.seq rest b)|none=>findLabel b l).map (cC P G n names)
  rw [ha,hb]
  cases findLabel a l<;>rfl
 | .label l'=>by
  show (if Nat.beq l' l then some AC.skip else none)=(if l' == l then some Code.skip else none).map (cC P G n names)
  have:(l' == l)=Nat.beq l' l:=by
   rw [Bool.eq_iff_iff,beq_iff_eq];exact ⟨fun e=>e▸Nat.beq_refl _,fun e=>Nat.eq_of_beq_eq_true e⟩
  rw [this]
  cases Nat.beq l' l<;>rfl
 | .skip=>rfl
 | .region _ ops false=>Ak ops l
 | .region _ ops true=>Ao ops l
 | .cond c a b=>by simp only [cC];split<;>rfl
 | .block i a=>by
  rcases nN (P:=P) (G:=G) (n:=n) (names:=names) i a with e|e<;>rw [e]<;>rfl
 | .loop a=>rfl
 | .rangeFunc ..=>rfl
 | .exit _=>rfl
 | .scope a=>rfl
 | .goto _=>rfl
 | .ret=>rfl
 | .refuse _=>rfl
theorem gP (l:Nat):∀{a:AC},pY a=true→cM a l=none
 | .seq a b,h=>by
  simp only [pY,Bool.and_eq_true] at h
  simp only [cM,gP l h.1,gP l h.2]
 | .skip,_=>rfl
 | .ops _,_=>rfl
 | .jQ _,_=>rfl
 | .cond ..,_=>rfl
 | .block ..,_=>rfl
 | .loop _,_=>rfl
 | .scope _,_=>rfl
 | .sat ..,_=>rfl
 | .exit _,_=>rfl
 | .goto _,_=>rfl
 | .label _,h=>by cases h
 | .ret,_=>rfl
 | .join _,_=>rfl
 | .bad _,_=>rfl
 | .ah ..,h=>by cases h
 | .alt ..,_=>rfl
 | .ahQ ..,_=>rfl
theorem tq (l:Nat):∀{k:Nat} {c:AC},kM k c=true→cM c l=cM (jx k c) l
 | 0,c,_=>rfl
 | k+1,c,h=>by
  cases c with
  | seq a b=>
   simp only [kM,Bool.and_eq_true] at h
   simp only [cM,gP l h.1,jx]
   exact tq l h.2
  | _=>exact gP l h
theorem tr (l:Nat) {a a':AC} (h:Impl a a'):(cM a l=none∧cM a' l=none)∨∃c c',cM a l=some c∧cM a' l=some c'∧Impl c c':=by
 induction h with
 | refl c=>
  cases hc:cM c l with
  | none=>exact .inl ⟨rfl,rfl⟩
  | some d=>exact .inr ⟨d,d,rfl,rfl,.refl d⟩
 | @seq a a' b b' ha hb iha ihb=>
  simp only [cM]
  rcases iha with ⟨e1,e2⟩|⟨c,c',e1,e2,e3⟩
  ·simp only [e1,e2];exact ihb
  ·simp only [e1,e2];exact .inr ⟨_,_,rfl,rfl,.seq e3 hb⟩
 | cond=>exact .inl ⟨rfl,rfl⟩
 | block=>exact .inl ⟨rfl,rfl⟩
 | loop=>exact .inl ⟨rfl,rfl⟩
 | scope=>exact .inl ⟨rfl,rfl⟩
 | join=>exact .inl ⟨rfl,rfl⟩
 | unj=>exact .inl ⟨rfl,rfl⟩
 | bad n hn=>exact .inl ⟨gP l hn,rfl⟩
 | ah k Lin L Lr Lx hn he hx ih=>
  rw [tq l hn]
  exact ih
def apD (c x:AC):Prop:=match c with
 | .seq a b=>∃a' b',x=.seq a' b'∧Impl a a'∧Impl b b'
 | .cond o a b=>∃a' b',x=.cond o a' b'∧Impl a a'∧Impl b b'
 | .block i a=>∃a',x=.block i a'∧Impl a a'
 | .loop a=>∃a',x=.loop a'∧Impl a a'
 | .scope a=>∃a',x=.scope a'∧Impl a a'
 | .join a=>x=.join a∨(∃i b b',a=.block i (.loop b)∧x=.join (.block i (.loop b'))∧Impl b b')∨∃i b b',a=.block i b∧x=.block i b'∧Impl b b'
 | c=>x=c
theorem Ap {c x:AC} (h:Impl c x):(∃k Lin L Lr Lx y,x=.ah (tt c k Lin L Lr Lx) y∧kM k c=true∧Impl (jx k c) y)∨(∃n,x=.bad n)∨apD c x:=by
 cases h with
 | refl=>
  right;right
  cases c<;>first
   | exact ⟨_,_,rfl,.refl _,.refl _⟩
   | exact ⟨_,rfl,.refl _⟩
   | exact .inl rfl
   | rfl
 | seq ha hb=>exact .inr (.inr ⟨_,_,rfl,ha,hb⟩)
 | cond ha hb=>exact .inr (.inr ⟨_,_,rfl,ha,hb⟩)
 | block ha=>exact .inr (.inr ⟨_,rfl,ha⟩)
 | loop ha=>exact .inr (.inr ⟨_,rfl,ha⟩)
 | scope ha=>exact .inr (.inr ⟨_,rfl,ha⟩)
 | join ha=>exact .inr (.inr (.inr (.inl ⟨_,_,_,rfl,rfl,ha⟩)))
 | unj ha=>exact .inr (.inr (.inr (.inr ⟨_,_,_,rfl,rfl,ha⟩)))
 | bad n hn=>exact .inr (.inl ⟨n,rfl⟩)
 | ah k Lin L Lr Lx hn he hx=>subst he;exact .inl ⟨k,Lin,L,Lr,Lx,_,rfl,hn,hx⟩
structure bL (P:Program) (G:Gl) (names:List String) (p:Pg) (m:Nat):Prop where
 code:∀(n:Nat) (c:Code) (x:AC) (r:A2) (h:Hp) (φ:aJ) (a:Act) (w:World),Impl (cC P G n names c) x→St n G φ r h a w→(exec p m x r h).Safe→c.wp P (aZ n G φ h w (exec p m x r h)) a w
 block:∀(n i:Nat) (c:Code) (x:AC) (r:A2) (h:Hp) (φ:aJ) (a:Act) (w:World),Impl (cC P G n names c) x→St n G φ r h a w→(exec p m (.block i x) r h).Safe→(Code.block i c).wp P (aZ n G φ h w (exec p m (.block i x) r h)) a w
 loop:∀(n:Nat) (c:Code) (x:AC) (r:A2) (h:Hp) (φ:aJ) (a:Act) (w:World),Impl (cC P G n names c) x→St n G φ r h a w→(exec p m (.loop x) r h).Safe→nG P c (aZ n G φ h w (exec p m (.loop x) r h)) a w
 sat:∀(n:Nat) (s c:Code) (x y:AC) (r:A2) (h:Hp) (φ:aJ) (a:Act) (w:World),Impl (cC P G n names s) x→Impl (cC P G n names c) y→St n G φ r h a w→(exec p m (.sat x y) r h).Safe→wY P s c (aZ n G φ h w (exec p m (.sat x y) r h)) a w
theorem jy {res:List Rs} {z:RT}:∀{x y:RS},x.aG y→(eD res y).aG z→(eD res x).aG z
 | _,_,.nm ..,g=>g
 | _,_,.ex ..,g=>g
 | _,_,.go ..,g=>g
 | _,_,.ret ..,g=>g
 | _,_,.err ..,g=>g
 | _,_,.ch n k c y hc hl,g=>.ch n _ c _ hc (jy hl g)
theorem fF {res:List Rs} {x y:RS} (hs:(eD res x).Safe) (hl:x.aG y):(eD res y).Safe:=fun n hn=>hs n (jy hl hn)
theorem yG {f:Nat} {body:AC} {res:List Rs} {args:List AV} (e:cn f p.fs=.mk body res):aD p run f args h=(@Bool.rec (fun _=>RT) (.err 207) (eD res (run body (dK args 0 .nil) h)) (Nat.ble args.length 256)):=by
 show (AF.rec _ _ _ _ _ (cn f p.fs):RT)=_
 rw [e]
theorem uQ {f:Nat} {k:PK} {body:AC} {res:List Rs} {args:List AV} (e:cn f p.fs=.mW k body res):aD p run f args h=(RT.rec (fun v h=>RT.ok v h) (fun _=>@Bool.rec (fun _=>RT) (.err 207) (eD res (run body (dK args 0 .nil) h)) (Nat.ble args.length 256)) (fun n k _=>.ch n k) (cA k args h):RT):=by
 show (AF.rec _ _ _ _ _ (cn f p.fs):RT)=_
 rw [e]
theorem xe {f:Nat} {body:AC} {res:List Rs} {args:List AV} (e:cn f p.fs=.Es body res):aD p run f args h=(@Bool.rec (fun _=>RT) (.err 207) (eD res (fR h (rp res (run body (dK args 0 .nil) (mark h))))) (Nat.ble args.length 256)):=by
 show (AF.rec _ _ _ _ _ (cn f p.fs):RT)=_
 rw [e]
theorem xf {f:Nat} {k:PK} {args:List AV} (e:cn f p.fs=.ext k):aD p run f args h=cA k args h:=by
 unfold aD;rw [e]
theorem lS {f:Nat} {args:List AV} (e:cn f p.fs=.none):aD p run f args h=.err (Nat.add 1000 f):=by
 show (AF.rec _ _ _ _ _ (cn f p.fs):RT)=_
 rw [e]
theorem BQ {m f:Nat} {body:AC} {res:List Rs} {args:List AV} {vals:List Value} (C:bL P G names p m) (F:mT P G names f body res) (hg:mz G φ) (H:HR φ h w) (hv:bS φ args vals)
  (hs:(@Bool.rec (fun _=>RT) (.err 207) (eD res (exec p m body (dK args 0 .nil) h)) (Nat.ble args.length 256)).Safe) :
  (∃fn c,P.funcs[f]?=some fn∧fn.name≠ "runtime.NumGoroutine" ∧fn.body=some c)∧Calls P f vals.toArray w (dB φ h w (@Bool.rec (fun _=>RT) (.err 207) (eD res (exec p m body (dK args 0 .nil) h)) (Nat.ble args.length 256))):=by
 cases hb:Nat.ble args.length 256 with
 | false=>rw [hb] at hs;exact (RT.Safe.err hs).elim
 | true=>
  rw [hb] at hs
  have hs:(eD res (exec p m body (dK args 0 .nil) h)).Safe:=hs
  have hl:=Nat.le_of_ble_eq_true hb
  obtain ⟨fn,body0,hf,hc,hI⟩:=F
  unfold cF at hc
  split at hc
  ·rename_i c rs hbody hrs
   split at hc
   ·cases hc
   ·rename_i hname
    cases hc
    refine ⟨⟨fn,c,hf,by simpa using hname,hbody⟩,?_⟩
    have S:=St.start H hv hg hl fn.ntmps
    have hxs:(exec p m body (dK args 0 .nil) h).Safe:=by
     intro j hj
     have:=fF hs hj
     exact RT.Safe.err (n:=j) this
    refine calls_of_wp hf hbody (wp_mono (C.code _ c body _ h φ _ w hI S hxs) ?_)
    rintro e a' w' ⟨y,r',h',φ',hy,he,S',T⟩
    have hsy:=fF hs hy
    have fin:∀r' h',y=.nm r' h'∨y=.ret r' h'→St fn.ntmps G φ' r' h' a' w'→Step φ h w φ' h' w'→a'.defers=[]∧∃v,(results fn a'.tmps).run P w'=.ok v w'∧dB φ h w (eD res (exec p m body (dK args 0 .nil) h)) (.returned v) w':=by
     intro r' h' hyy S' T
     have hr:eD res y=(CT res r' h').jT:=by rcases hyy with rfl|rfl<;>rfl
     rw [hr] at hsy
     obtain ⟨v,h2,hv2⟩:=gF hsy
     obtain ⟨e1,cv,e2,e3⟩:=gJ S' hrs hv2
     subst e1
     refine ⟨S'.dM,cv,e2,v,h2,cv,φ',jy hy ?_,rfl,e3,S'.hr,T⟩
     rw [hr,hv2];exact .ok _ _
    cases he with
    | nm=>exact fin _ _ (.inl rfl) S' T
    | ret=>exact fin _ _ (.inr rfl) S' T
    | ex i=>exact (RT.Safe.err hsy).elim
    | go i=>exact (RT.Safe.err hsy).elim
  ·cases hc
theorem tu (r:A2):∀l:List Rs,fU (vw l r) r
 | []=>fun a b=>.inr (by cases a<;>cases b<;>rfl)
 | s::l=>by
  have key:∀a b,fU (eL a b (aw a b r) (vw l r)) r:=fun a b c d=>by
   rw [eO]
   split
   ·rename_i e;obtain ⟨rfl,rfl⟩:=e;exact .inl rfl
   ·exact tu r l c d
  cases s<;>exact key _ _
theorem iQ {l:List Rs} {z:RS}:∀{x y:RS},x.aG y→(rp l y).aG z→(rp l x).aG z
 | _,_,.nm ..,g=>g
 | _,_,.ex ..,g=>g
 | _,_,.go ..,g=>g
 | _,_,.ret ..,g=>g
 | _,_,.err ..,g=>g
 | _,_,.ch n k c y hc hl,g=>.ch n _ c _ hc (iQ hl g)
theorem DC {l:List Rs} {x:RS} (hs:(rp l x).Safe):x.Safe:=fun n hn=>hs n (iQ hn (.err n))
theorem IK {m f:Nat} {body:AC} {res:List Rs} {args:List AV} {vals:List Value} (C:bL P G names p m) (F:mT P G names f body res) (hg:mz G φ) (H:HR φ h w) (hv:bS φ args vals)
  (hs:(@Bool.rec (fun _=>RT) (.err 207) (eD res (fR h (rp res (exec p m body (dK args 0 .nil) (mark h))))) (Nat.ble args.length 256)).Safe) :
  (∃fn c,P.funcs[f]?=some fn∧fn.name≠ "runtime.NumGoroutine" ∧fn.body=some c)∧Calls P f vals.toArray w (dB φ h w (@Bool.rec (fun _=>RT) (.err 207) (eD res (fR h (rp res (exec p m body (dK args 0 .nil) (mark h))))) (Nat.ble args.length 256))):=by
 cases hb:Nat.ble args.length 256 with
 | false=>rw [hb] at hs;exact (RT.Safe.err hs).elim
 | true=>
  rw [hb] at hs
  have hs:(eD res (fR h (rp res (exec p m body (dK args 0 .nil) (mark h))))).Safe:=hs
  have hl:=Nat.le_of_ble_eq_true hb
  obtain ⟨fn,body0,hf,hc,hI⟩:=F
  unfold cF at hc
  split at hc
  ·rename_i c rs hbody hrs
   split at hc
   ·cases hc
   ·rename_i hname
    cases hc
    refine ⟨⟨fn,c,hf,by simpa using hname,hbody⟩,?_⟩
    have S:=St.start H hv hg hl fn.ntmps
    have hjs:(fR h (rp res (exec p m body (dK args 0 .nil) (mark h)))).Safe:=by
     intro j hj
     have:=fF hs hj
     exact RT.Safe.err (n:=j) this
    obtain ⟨s1,s2⟩:=nL hjs
    refine calls_of_wp hf hbody (wp_mono (C.code _ c body _ (mark h) φ _ w hI S.mark (DC s1)) ?_)
    rintro e a' w' ⟨y,r',h',φ',hy,he,S',T⟩
    have fin:(rp res y).aG (.nm (vw res r') h')→a'.defers=[]∧∃v,(results fn a'.tmps).run P w'=.ok v w'∧dB φ h w (eD res (fR h (rp res (exec p m body (dK args 0 .nil) (mark h))))) (.returned v) w':=by
     intro hyy
     obtain ⟨y2,r2,h2,q1,q2,q3,q4,q5⟩:=s2 _ (iQ hy hyy) .normal (vw res r') h' (.nm _ _) T.fr
     cases q2
     have hsy:=fF hs q1
     have hr:eD res (.nm r2 h2)=(CT res r2 h2).jT:=rfl
     rw [hr] at hsy
     obtain ⟨v,h3,hv2⟩:=gF hsy
     have S2:=S'.less (q3.trans (tu r' res)) q4
     obtain ⟨e1,cv,e2,e3⟩:=gJ S2 hrs hv2
     subst e1
     refine ⟨S'.dM,cv,e2,v,h3,cv,φ',jy q1 ?_,rfl,e3,S2.hr,T.IB q4 q5⟩
     rw [hr,hv2];exact .ok _ _
    cases he with
    | nm=>exact fin (.nm _ _)
    | ret=>exact fin (.nm _ _)
    | ex i=>
     obtain ⟨y2,r2,h2,q1,q2,q3,q4,q5⟩:=s2 _ (iQ hy (.ex _ _ _)) (.exit i) r' h' (.ex _ _ _) T.fr
     cases q2
     exact (RT.Safe.err (fF hs q1)).elim
    | go i=>
     obtain ⟨y2,r2,h2,q1,q2,q3,q4,q5⟩:=s2 _ (iQ hy (.go _ _ _)) (.goto i) r' h' (.go _ _ _) T.fr
     cases q2
     exact (RT.Safe.err (fF hs q1)).elim
  ·cases hc
theorem tv {m:Nat} (E:Env P G names p) (C:bL P G names p m):cS P G p (exec p m):=by
 intro f args h φ w vals hg H hv hs
 have hF:=E.fs f
 cases hf:cn f p.fs with
 | none=>rw [lS hf] at hs;exact (RT.Safe.err hs).elim
 | mk body res=>
  rw [hf] at hF
  rw [yG hf] at hs ⊢
  exact .inl (BQ C hF hg H hv hs)
 | ext k=>
  rw [hf] at hF
  rw [xf hf] at hs ⊢
  exact .inr (hF φ h w args vals hg H hv hs)
 | Es body res=>
  rw [hf] at hF
  rw [xe hf] at hs ⊢
  exact .inl (IK C hF hg H hv hs)
 | mW k body res=>
  rw [hf] at hF
  obtain ⟨hF,hP⟩:=hF
  rw [uQ hf] at hs ⊢
  have hex:∃fn c,P.funcs[f]?=some fn∧fn.name≠ "runtime.NumGoroutine" ∧fn.body=some c:=by
   obtain ⟨fn,body0,hfn,hc,hI⟩:=hF
   unfold cF at hc
   split at hc
   ·rename_i c rs hbody hrs
    split at hc
    ·cases hc
    ·rename_i hname
     exact ⟨fn,c,hfn,by simpa using hname,hbody⟩
   ·cases hc
  have:=hP φ h w args vals hg H hv
  cases hp:cA k args h with
  | err j=>
   rw [hp] at hs
   exact .inl (BQ C hF hg H hv hs)
  | ok v h2=>
   rw [hp] at this
   exact .inl ⟨hex,this fun j hj=>by cases hj⟩
  | ch j g=>
   rw [hp] at this hs
   exact .inl ⟨hex,this hs⟩
section
variable {P:Program} {φ φ' φ₀:aJ} {h h' h2 h₀:Hp} {w w' w₀:World} {v:AV} {r r2:A2} {a:Act} {cv:Value} {n:Nat} {G:Gl} [NB G] {names:List String} {p:Pg} {run:gB} {ops:Array Oper}
theorem yH (i:DI) (k:DK) (r:A2) (h g:Hp) (hs:List Hp):i.cE (aD p run) (aH p run) k r h g hs=i.exec p run k r h g hs:=by
 cases i with
 | mk b y=>
  cases y with
  | o d i=>cases i<;>rfl
  | g x y w d i=>cases i<;>rfl
theorem vH:∀(l:List DI),rq p run l=nM (aD p run) (aH p run) (fun r h=>.nm r h) l
 | []=>rfl
 | i::l=>by
  funext r h g hs
  show i.exec p run (rq p run l) r h g hs=i.cE (aD p run) (aH p run) (nM (aD p run) (aH p run) _ l) r h g hs
  rw [yH,vH l]
theorem vJ:∀(l:List GI),eV p run l=eB (aD p run) (aH p run) (fun r h=>.nm r h) l
 | []=>rfl
 | i::l=>by
  funext r h
  show i.exec p run (eV p run l) r h=i.cE (aD p run) (aH p run) (eB (aD p run) (aH p run) _ l) r h
  rw [vJ l]
  cases i with
  | o d i=>cases i<;>rfl
  | g x y w d i=>cases i<;>rfl
def Sub (y x:RS):Prop:=∀z,y.aG z→x.aG z
theorem Sub.safe {x y:RS} (s:Sub y x) (h:x.Safe):y.Safe:=fun n hn=>h n (s _ hn)
def Kt.at (K:Kt):Exit→A2→Hp→RS→Prop
 | .normal,r,h,x=>Sub (K.n r h) x
 | .exit i,r,h,x=>Sub (K.e i r h) x
 | .goto l,r,h,x=>Sub (K.g l r h) x
 | .ret,r,h,x=>Sub (K.r r h) x
 | _,_,_,_=>False
theorem Kt.QB {K:Kt} {e:Exit} {x y:RS} (s:Sub x y) (h:K.at e r h2 x):K.at e r h2 y:=by
 cases e with
 | normal=>exact fun z hz=>s z (h z hz)
 | exit i=>exact fun z hz=>s z (h z hz)
 | goto i=>exact fun z hz=>s z (h z hz)
 | ret=>exact fun z hz=>s z (h z hz)
 | panic c=>exact h
 | outgrown=>exact h
def lT (n:Nat) (G:Gl) (φ:aJ) (h:Hp) (w:World) (K:Kt) (x:RS) (e:Exit) (a':Act) (w':World):Prop:=
 ∃r' h' φ',St n G φ' r' h' a' w'∧Step φ h w φ' h' w'∧K.at e r' h' x
theorem yI (i:AI) (d:aL) (k:A2→Hp→RS) (r:A2) (h:Hp):i.cE (aD p run) (aH p run) d k r h=i.exec p run d k r h:=by cases i<;>rfl
theorem tw (i:GI) (k:A2→Hp→RS) (r:A2) (h:Hp):i.cE (aD p run) (aH p run) k r h=i.exec p run k r h:=by
 cases i with
 | o d i=>exact yI i d k r h
 | g x y w d i=>
  show AV.bE (gb w (aw x y r)) (fun t=>@Bool.rec (fun _=>RS) (k (bI d cm r) h) (i.cE (aD p run) (aH p run) d k r h) (eK t w)) (.err 210)=AV.bE (gb w (aw x y r)) (jX d k r h i p run w) (.err 210)
  rw [yI];rfl
theorem BR {kf:A2→Hp→RS} (M:mA P names p.ms) (CO:cS P G p run) {Q:Exit→Act→World→Prop}:∀(os pre:List Oper) (r:A2) (h:Hp) (φ:aJ) (a:Act) (w:World),ops.toList=pre ++ os→St n G φ r h a w→
  (eB (aD p run) (aH p run) kf (os.map fun o=>mC P G n names ops o) r h).Safe→
  (∀r' h' φ' a' w',Sub (kf r' h') (eB (aD p run) (aH p run) kf (os.map fun o=>mC P G n names ops o) r h)→St n G φ' r' h' a' w'→Step φ h w φ' h' w'→Q .normal a' w')→
  wpOps P ops Q (List.range' pre.length os.length) a w
 | [],pre,r,h,φ,a,w,_,S,_,hQ=>hQ r h φ a w (fun _ hz=>hz) S (.refl _ _ _)
 | o::os,pre,r,h,φ,a,w,e,S,hs,hQ=>by
  have hoi:ops[pre.length]?=some o:=by rw [←Array.getElem?_toList,e];simp
  rw [List.length_cons,List.range'_succ,wpOps_cons]
  have e0:eB (aD p run) (aH p run) kf ((o::os).map fun o=>mC P G n names ops o) r h=(mC P G n names ops o).exec p run (eB (aD p run) (aH p run) kf (os.map fun o=>mC P G n names ops o)) r h:=tw _ _ _ _
  rw [e0] at hs hQ
  refine Wd M CO S hoi hs fun r' h' φ' a' w' s1 s2 S' T=>?_
  have:=BR M CO os (pre ++ [o]) r' h' φ' a' w' (by rw [e];simp) S' s1 (Q:=Q) fun r'' h'' φ'' a'' w'' hl S'' T'=>hQ r'' h'' φ'' a'' w'' (fun z hz=>s2 _ (hl z hz)) S'' (T.trans T')
  simpa using this
theorem IL (M:mA P names p.ms) (D:akQ P G names p) (CO:cS P G p run):∀(c:Code) (K:Kt) (r:A2) (h:Hp) (φ:aJ) (a:Act) (w:World),St n G φ r h a w→(den (aD p run) (aH p run) (cC P G n names c) K r h).Safe→
  c.wp P (lT n G φ h w K (den (aD p run) (aH p run) (cC P G n names c) K r h)) a w:=by
 intro c
 induction c with
 | skip=>exact fun K r h φ a w S _=>wp_skip ⟨r,h,φ,S,.refl _ _ _,fun _ hz=>hz⟩
 | region id ops d=>
  intro K r h φ a w S hs
  cases d with
  | false=>
   have hs:(den (aD p run) (aH p run) (qq P G n names ops) K r h).Safe:=hs
   show (Code.region id ops false).wp P (lT n G φ h w K (den (aD p run) (aH p run) (qq P G n names ops) K r h)) a w
   rcases gO (P:=P) (G:=G) (n:=n) (names:=names) ops with e|⟨q,e⟩
   case inr=>rw [e] at hs;exact (RS.Safe.err hs).elim
   rw [e] at hs ⊢
   have hs:(eB (aD p run) (aH p run) K.n (ops.toList.map fun o=>mC P G n names ops o) r h).Safe:=hs
   show (Code.region id ops false).wp P (lT n G φ h w K (eB (aD p run) (aH p run) K.n (ops.toList.map fun o=>mC P G n names ops o) r h)) a w
   refine wp_region ?_
   have:=BR (Q:=lT n G φ h w K (eB (aD p run) (aH p run) K.n (ops.toList.map fun o=>mC P G n names ops o) r h)) M CO ops.toList [] r h φ a w (by simp) S hs (fun r' h' φ' a' w' hl S' T=>⟨r',h',φ',S',T,hl⟩)
   rw [List.range_eq_range']
   show wpOps P ops (lT n G φ h w K (eB (aD p run) (aH p run) K.n (ops.toList.map fun o=>mC P G n names ops o) r h)) (List.range' 0 ops.size) a w
   simpa using this
  | true=>
   have key:∀l,dw P G n names ops l=true→(nM (aD p run) (aH p run) K.n (l.map fun (i,b)=>.mk b (fL P G n names ops (ops.getD i default))) r h h []).Safe→
     (Code.region id ops true).wp P (lT n G φ h w K (nM (aD p run) (aH p run) K.n (l.map fun (i,b)=>.mk b (fL P G n names ops (ops.getD i default))) r h h [])) a w:=fun l hl hs=>by
    refine wp_mono (D.1 n run CO id ops l K.n r h φ a w hl S hs) ?_
    rintro e a' w' ⟨rfl,r',h',φ',e1,S',T⟩
    refine ⟨r',h',φ',S',T,?_⟩
    rw [e1];exact fun _ hz=>hz
   have hs:(den (aD p run) (aH p run) (kL P G n names ops) K r h).Safe:=hs
   show (Code.region id ops true).wp P (lT n G φ h w K (den (aD p run) (aH p run) (kL P G n names ops) K r h)) a w
   rcases gN (P:=P) (G:=G) (n:=n) (names:=names) (bad:=kK P G (fo P G (kK P G (fo P G (fun _=>.bad 404) n names) names) n names) names) ops with ⟨l,hl,e⟩|⟨l,hl,h0,e⟩|e
   ·have e:kL P G n names ops=_:=e
    rw [e] at hs ⊢
    exact key l hl hs
   ·have e:kL P G n names ops=_:=e
    rw [e] at hs ⊢
    have hs:(eB (aD p run) (aH p run) K.n (gM P G n names ops l) r h).Safe:=hs
    show (Code.region id ops true).wp P (lT n G φ h w K (eB (aD p run) (aH p run) K.n (gM P G n names ops l) r h)) a w
    refine wp_mono (D.2 n run CO id ops l K.n r h φ a w hl h0 S hs) ?_
    rintro e a' w' ⟨rfl,r',h',φ',e1,S',T⟩
    exact ⟨r',h',φ',S',T,e1⟩
   ·have e:kL P G n names ops=_:=e
    rw [e] at hs
    rcases jw (P:=P) (G:=G) (names:=names) (next:=fo P G (kK P G (fo P G (fun _=>.bad 404) n names) names) n names) ops with ⟨x,y,_,_,_,_,e2⟩|⟨k,e2⟩
    ·rw [e2] at hs;exact (RS.Safe.err hs).elim
    ·rw [e2] at hs;exact (RS.Safe.err hs).elim
 | seq x y ihx ihy=>
  intro K r h φ a w S hs
  refine wp_seq (wp_mono (ihx ⟨den (aD p run) (aH p run) (cC P G n names y) K,K.e,K.g,K.r⟩ r h φ a w S hs) ?_)
  rintro e a' w' ⟨r',h',φ',S',T,hk⟩
  cases e with
  | normal=>
   have hk:Sub (den (aD p run) (aH p run) (cC P G n names y) K r' h') _:=hk
   refine wp_mono (ihy K r' h' φ' a' w' S' (hk.safe hs)) ?_
   rintro e a'' w'' ⟨r'',h'',φ'',S'',T',hk'⟩
   exact ⟨r'',h'',φ'',S'',T.trans T',Kt.QB hk hk'⟩
  | exit i=>exact ⟨r',h',φ',S',T,hk⟩
  | goto i=>exact ⟨r',h',φ',S',T,hk⟩
  | ret=>exact ⟨r',h',φ',S',T,hk⟩
  | panic c=>exact hk.elim
  | outgrown=>exact hk.elim
 | cond c x y ihx ihy=>
  intro K r h φ a w S hs
  simp only [cC] at hs ⊢
  cases hc:cO G c with
  | none=>rw [hc] at hs;exact (RS.Safe.err hs).elim
  | some b=>
   rw [hc] at hs
   have hs:(AV.bE (ev b r) (fun t=>@Bool.rec (fun _=>RS) (den (aD p run) (aH p run) (cC P G n names y) K r h) (den (aD p run) (aH p run) (cC P G n names x) K r h) t) (.err 213)).Safe:=hs
   obtain ⟨t,ht,e⟩:=eP hs
   show (Code.cond c x y).wp P (lT n G φ h w K (AV.bE (ev b r) (fun t=>@Bool.rec (fun _=>RS) (den (aD p run) (aH p run) (cC P G n names y) K r h) (den (aD p run) (aH p run) (cC P G n names x) K r h) t) (.err 213))) a w
   rw [e] at hs ⊢
   have hv:=S.Wb hc
   rw [ht] at hv
   refine wp_cond hv.cJ ?_
   cases t with
   | true=>exact ihx K r h φ a w S hs
   | false=>exact ihy K r h φ a w S hs
 | block i c ih=>
  intro K r h φ a w S hs
  rcases nN (P:=P) (G:=G) (n:=n) (names:=names) i c with e|e<;>rw [e] at hs ⊢
  ·refine wp_block (wp_mono (ih ⟨K.n,fun j r h=>@Bool.rec (fun _=>RS) (K.e j r h) (K.n r h) (Nat.beq j i),K.g,K.r⟩ r h φ a w S hs) ?_)
   rintro e a' w' ⟨r',h',φ',S',T,hk⟩
   cases e with
   | normal=>exact ⟨r',h',φ',S',T,hk⟩
   | exit j=>
    have hk:Sub (@Bool.rec (fun _=>RS) (K.e j r' h') (K.n r' h') (Nat.beq j i)) _:=hk
    show if j=i then _ else _
    by_cases e:j=i
    ·rw [if_pos e]
     rw [e,Nat.beq_refl] at hk
     exact ⟨r',h',φ',S',T,hk⟩
    ·rw [if_neg e]
     have:Nat.beq j i=false:=by rw [←Bool.not_eq_true];exact fun g=>e (Nat.eq_of_beq_eq_true g)
     rw [this] at hk
     exact ⟨r',h',φ',S',T,hk⟩
   | goto i=>exact ⟨r',h',φ',S',T,hk⟩
   | ret=>exact ⟨r',h',φ',S',T,hk⟩
   | panic c=>exact hk.elim
   | outgrown=>exact hk.elim
  ·exact (RS.Safe.err hs).elim
 | loop c=>exact fun K r h φ a w S hs=>(RS.Safe.err hs).elim
 | rangeFunc f ps x y=>exact fun K r h φ a w S hs=>(RS.Safe.err hs).elim
 | exit i=>exact fun K r h φ a w S hs=>wp_exit ⟨r,h,φ,S,.refl _ _ _,fun _ hz=>hz⟩
 | scope c=>exact fun K r h φ a w S hs=>(RS.Safe.err hs).elim
 | label l=>exact fun K r h φ a w S hs=>(RS.Safe.err hs).elim
 | goto l=>exact fun K r h φ a w S hs=>wp_goto ⟨r,h,φ,S,.refl _ _ _,fun _ hz=>hz⟩
 | ret=>exact fun K r h φ a w S hs=>wp_ret ⟨r,h,φ,S,.refl _ _ _,fun _ hz=>hz⟩
 | refuse s=>exact fun K r h φ a w S hs=>(RS.Safe.err hs).elim
theorem vL {t:Nat} (ht:t < 256):∀{L:List Nat},aw (hi t) (lo t) (bB r L)=if t∈L then aw (hi t) (lo t) r else .undef
 | []=>by
  show aw (hi t) (lo t) .nil=_
  rw [if_neg (by simp)]
  show A1.get (lo t) (A2.get (hi t) .nil)=_
  rw [A2.get_nil,A1.get_nil]
 | s::L=>by
  have ih:=vL ht (L:=L)
  show aw (hi t) (lo t) (if s < 256 then eL (hi s) (lo s) (aw (hi s) (lo s) r) (bB r L) else bB r L)=_
  split
  ·rename_i hs
   rw [eO]
   by_cases e:t=s
   ·subst e;simp
   ·rw [if_neg (fun g=>e ((Dw ht hs).1 g)),ih]
    simp [e]
  ·rename_i hs
   have e:t≠s:=by omega
   rw [ih];simp [e]
theorem St.bB (S:St n G φ r h a w) (L:List Nat):St n G φ (bB r L) h a w:=⟨S.hr,fun t ht=>by
 rw [vL ht]
 split
 ·exact S.aF t ht
 ·exact .undef _,S.dM,S.size,S.fD⟩
theorem IM {L Lr:List Nat} {x:RS} {e:Exit} {a':Act} {w':World} (hd:lT n G φ h w (mE L Lr) x e a' w'):aZ n G φ h w x e a' w':=by
 obtain ⟨r',h',φ',S,T,hk⟩:=hd
 cases e with
 | normal=>exact ⟨_,_,h',φ',hk _ (.nm _ _),.nm _ _,S.bB L,T⟩
 | exit i=>exact ⟨_,_,h',φ',hk _ (.ex _ _ _),.ex _ _ _,S.bB L,T⟩
 | goto i=>exact ⟨_,_,h',φ',hk _ (.go _ _ _),.go _ _ _,S.bB L,T⟩
 | ret=>exact ⟨_,_,h',φ',hk _ (.ret _ _),.ret _ _,S.bB Lr,T⟩
 | panic c=>exact hk.elim
 | outgrown=>exact hk.elim
theorem BS (M:mA P names p.ms) (D:akQ P G names p) (CO:cS P G p run) {L Lr Lx:List Nat} {y:AC} (hT:∀(n:Nat) (c:Code) (r:A2) (h:Hp) (φ:aJ) (a:Act) (w:World),Impl (cC P G n names c) y→St n G φ r h a w→(run y r h).Safe→c.wp P (aZ n G φ h w (run y r h)) a w) :
  ∀(k:Nat) (c:Code) (r:A2) (h:Hp) (φ:aJ) (a:Act) (w:World),Impl (jx k (cC P G n names c)) y→St n G φ r h a w→
   (xg (aD p run) (aH p run) (mE L Lr) (fun r h=>run y (bB r Lx) h) k (cC P G n names c) r h).Safe→
   c.wp P (aZ n G φ h w (xg (aD p run) (aH p run) (mE L Lr) (fun r h=>run y (bB r Lx) h) k (cC P G n names c) r h)) a w
 | 0,c,r,h,φ,a,w,hI,S,hs=>hT n c (bB r Lx) h φ a w hI (S.bB Lx) hs
 | k+1,c,r,h,φ,a,w,hI,S,hs=>by
  by_cases hc:∃x y',c=.seq x y'
  ·obtain ⟨c1,c2,rfl⟩:=hc
   have hs:(den (aD p run) (aH p run) (cC P G n names c1) ⟨xg (aD p run) (aH p run) (mE L Lr) (fun r h=>run y (bB r Lx) h) k (cC P G n names c2),(mE L Lr).e,(mE L Lr).g,(mE L Lr).r⟩ r h).Safe:=hs
   refine wp_seq (wp_mono (IL M D CO c1 _ r h φ a w S hs) ?_)
   rintro e a' w' ⟨r',h',φ',S',T,hk⟩
   cases e with
   | normal=>
    have hk:Sub (xg (aD p run) (aH p run) (mE L Lr) (fun r h=>run y (bB r Lx) h) k (cC P G n names c2) r' h') _:=hk
    refine wp_mono (BS M D CO hT k c2 r' h' φ' a' w' hI S' (hk.safe hs)) ?_
    rintro e a'' w'' ⟨z,r'',h'',φ'',hl,he,S'',T'⟩
    exact ⟨z,r'',h'',φ'',hk _ hl,he,S'',T.trans T'⟩
   | exit i=>exact ⟨_,_,h',φ',hk _ (.ex _ _ _),.ex _ _ _,S'.bB L,T⟩
   | goto i=>exact ⟨_,_,h',φ',hk _ (.go _ _ _),.go _ _ _,S'.bB L,T⟩
   | ret=>exact ⟨_,_,h',φ',hk _ (.ret _ _),.ret _ _,S'.bB Lr,T⟩
   | panic c=>exact hk.elim
   | outgrown=>exact hk.elim
  ·have e0:xg (aD p run) (aH p run) (mE L Lr) (fun r h=>run y (bB r Lx) h) (k+1) (cC P G n names c)=den (aD p run) (aH p run) (cC P G n names c) (mE L Lr):=by
    cases c with
    | seq x y'=>exact absurd ⟨_,_,rfl⟩ hc
    | region id ops d=>
     cases d with
     | false=>
      show xg (aD p run) (aH p run) (mE L Lr) (fun r h=>run y (bB r Lx) h) (k+1) (qq P G n names ops)=den (aD p run) (aH p run) (qq P G n names ops) (mE L Lr)
      rcases gO (P:=P) (G:=G) (n:=n) (names:=names) ops with e|⟨q,e⟩<;>rw [e]<;>rfl
     | true=>
      show xg (aD p run) (aH p run) (mE L Lr) (fun r h=>run y (bB r Lx) h) (k+1) (kL P G n names ops)=den (aD p run) (aH p run) (kL P G n names ops) (mE L Lr)
      rcases gN (P:=P) (G:=G) (n:=n) (names:=names) (bad:=kK P G (fo P G (kK P G (fo P G (fun _=>.bad 404) n names) names) n names) names) ops with ⟨l,hl,e⟩|⟨l,hl,h0,e⟩|e
      ·have e:kL P G n names ops=_:=e
       rw [e];rfl
      ·have e:kL P G n names ops=_:=e
       rw [e];rfl
      ·have e:kL P G n names ops=_:=e
       rw [e]
       rcases jw (P:=P) (G:=G) (names:=names) (next:=fo P G (kK P G (fo P G (fun _=>.bad 404) n names) names) n names) ops with ⟨x,y,_,_,_,_,e2⟩|⟨k,e2⟩
       ·rw [e2];rfl
       ·rw [e2];rfl
    | cond c x y=>
     simp only [cC]
     split<;>rfl
    | block i c=>rcases nN (P:=P) (G:=G) (n:=n) (names:=names) i c with e|e<;>rw [e]<;>rfl
    | _=>rfl
   rw [e0] at hs ⊢
   exact wp_mono (IL M D CO c _ r h φ a w S hs) fun e a' w' hd=>IM hd
end
variable {P:Program} {φ φ':aJ} {h h' h2:Hp} {w w':World} {v:AV} {r r2:A2} {a:Act} {cv:Value} {n:Nat} {G:Gl} [NB G] {names:List String} {p:Pg} {run:gB}
theorem aZ.cases {x:RS} {Q:Exit→Act→World→Prop} {w0:World}
  (hn:∀r' h' φ' a w,x.aG (.nm r' h')→St n G φ' r' h' a w→Step φ h w0 φ' h' w→Q .normal a w)
  (he:∀i r' h' φ' a w,x.aG (.ex i r' h')→St n G φ' r' h' a w→Step φ h w0 φ' h' w→Q (.exit i) a w)
  (hg:∀i r' h' φ' a w,x.aG (.go i r' h')→St n G φ' r' h' a w→Step φ h w0 φ' h' w→Q (.goto i) a w)
  (hr:∀r' h' φ' a w,x.aG (.ret r' h')→St n G φ' r' h' a w→Step φ h w0 φ' h' w→Q .ret a w) (e:Exit) (a:Act) (w:World) (hq:aZ n G φ h w0 x e a w):Q e a w:=by
 obtain ⟨y,r',h',φ',hl,hy,S,T⟩:=hq
 cases hy with
 | nm=>exact hn _ _ _ _ _ hl S T
 | ex i=>exact he _ _ _ _ _ _ hl S T
 | go i=>exact hg _ _ _ _ _ _ hl S T
 | ret=>exact hr _ _ _ _ _ hl S T
theorem aZ.then {x x':RS} {w0 w1:World} {φ0 φ1:aJ} {h0 h1:Hp} (T:Step φ0 h0 w0 φ1 h1 w1) (hl:∀y,x.aG y→x'.aG y) (e:Exit) (a:Act) (w:World) (hq:aZ n G φ1 h1 w1 x e a w):aZ n G φ0 h0 w0 x' e a w:=
 let ⟨y,r',h',φ',g1,g2,g3,g4⟩:=hq;⟨y,r',h',φ',hl y g1,g2,g3,T.trans g4⟩
theorem nG.mono {c:Code} {Q Q':Exit→Act→World→Prop} (hl:nG P c Q a w) (hq:∀e a w,Q e a w→Q' e a w):nG P c Q' a w:=fun b k cs=>
 let ⟨e,a',w',q,g⟩:=hl b k cs;⟨e,a',w',hq _ _ _ q,g⟩
theorem wY.mono {s c:Code} {Q Q':Exit→Act→World→Prop} (hl:wY P s c Q a w) (hq:∀e a w,Q e a w→Q' e a w):wY P s c Q' a w:=fun b k cs=>
 let ⟨e,a',w',q,g⟩:=hl b k cs;⟨e,a',w',hq _ _ _ q,g⟩
theorem yJ {m:Nat} (C:bL P G names p m) (s c:Code) {x y:AC} (hI:Impl (cC P G n names s) x) (hJ:Impl (cC P G n names c) y) (S:St n G φ r h a w) (hs:(yq x y (exec p m) r h).Safe) :
  wY P s c (aZ n G φ h w (yq x y (exec p m) r h)) a w:=by
 unfold yq at hs ⊢
 refine Qt (wp_mono (C.code n c y r h φ a w hJ S (gv hs)) (aZ.cases ?_ ?_ ?_ ?_))
 ·exact fun r' h' φ' a' w' hl S' T=>⟨_,r',h',φ',cT hl rfl (.nm _ _),.nm _ _,S',T⟩
 ·exact fun i r' h' φ' a' w' hl S' T=>⟨_,r',h',φ',dv hl rfl (.ex _ _ _),.ex _ _ _,S',T⟩
 ·intro l r' h' φ' a' w' hl S' T
  have hs2:=wX hs hl
  have e:=tp (P:=P) (G:=G) (n:=n) (names:=names) l s
  show (match findLabel s l with
   | some c=>wY P s c _ a' w'
   | none=>_)
  cases hf:findLabel s l with
  | none=>
   rw [hf] at e
   have e2:cM x l=none:=by
    rcases tr l hI with ⟨_,e2⟩|⟨_,_,e1,_⟩
    ·exact e2
    ·rw [e] at e1;cases e1
   have hk:(Option.rec (.go l r' h') (fun c=>exec p m (.sat x c) r' h') (cM x l):RS)=.go l r' h':=by rw [e2]
   refine ⟨_,r',h',φ',cU hl rfl ?_,.go _ _ _,S',T⟩
   show (Option.rec (.go l r' h') (fun c=>exec p m (.sat x c) r' h') (cM x l):RS).aG _
   rw [hk];exact .go _ _ _
  | some c'=>
   rw [hf] at e
   obtain ⟨y',e2,e3⟩:∃y',cM x l=some y'∧Impl (cC P G n names c') y':=by
    rcases tr l hI with ⟨e1,_⟩|⟨d,d',e1,e2,e3⟩
    ·rw [e] at e1;cases e1
    ·rw [e] at e1;cases e1;exact ⟨d',e2,e3⟩
   have hk:(Option.rec (.go l r' h') (fun c=>exec p m (.sat x c) r' h') (cM x l):RS)=exec p m (.sat x y') r' h':=by rw [e2]
   have hs3:(Option.rec (.go l r' h') (fun c=>exec p m (.sat x c) r' h') (cM x l):RS).Safe:=hs2
   rw [hk] at hs3
   refine (C.sat n s c' x y' r' h' φ' a' w' hI e3 S' hs3).mono (aZ.then T fun y hy=>cU hl rfl ?_)
   show (Option.rec (.go l r' h') (fun c=>exec p m (.sat x c) r' h') (cM x l):RS).aG _
   rw [hk];exact hy
 ·exact fun r' h' φ' a' w' hl S' T=>⟨_,r',h',φ',dF hl rfl,.ret _ _,S',T⟩
theorem mF {m:Nat} (C:bL P G names p m) (i:Nat) (c:Code) {x:AC} (hI:Impl (cC P G n names c) x) (S:St n G φ r h a w) (hs:(qA i x (exec p m) r h).Safe) :
  (Code.block i c).wp P (aZ n G φ h w (qA i x (exec p m) r h)) a w:=by
 unfold qA at hs ⊢
 refine wp_block (wp_mono (C.code n c x r h φ a w hI S (gv hs)) (aZ.cases ?_ ?_ ?_ ?_))
 ·exact fun r' h' φ' a' w' hl S' T=>⟨_,r',h',φ',cT hl rfl (.nm _ _),.nm _ _,S',T⟩
 ·intro j r' h' φ' a' w' hl S' T
  show if j=i then _ else _
  by_cases e:j=i
  ·rw [if_pos e]
   refine ⟨_,r',h',φ',dv hl rfl ?_,.nm _ _,S',T⟩
   show (@Bool.rec (fun _=>RS) (.ex j r' h') (.nm r' h') (Nat.beq j i)).aG _
   rw [e,Nat.beq_refl];exact .nm _ _
  ·rw [if_neg e]
   refine ⟨_,r',h',φ',dv hl rfl ?_,.ex _ _ _,S',T⟩
   show (@Bool.rec (fun _=>RS) (.ex j r' h') (.nm r' h') (Nat.beq j i)).aG _
   have:Nat.beq j i=false:=by rw [←Bool.not_eq_true];exact fun g=>e (Nat.eq_of_beq_eq_true g)
   rw [this];exact .ex _ _ _
 ·exact fun i r' h' φ' a' w' hl S' T=>⟨_,r',h',φ',cU hl rfl (.go _ _ _),.go _ _ _,S',T⟩
 ·exact fun r' h' φ' a' w' hl S' T=>⟨_,r',h',φ',dF hl rfl,.ret _ _,S',T⟩
theorem vM {m:Nat} (C:bL P G names p m) (c:Code) {x:AC} (hI:Impl (cC P G n names c) x) (S:St n G φ r h a w) (hs:(wK x (exec p m) r h).Safe) :
  nG P c (aZ n G φ h w (wK x (exec p m) r h)) a w:=by
 unfold wK at hs ⊢
 refine nH (wp_mono (C.code n c x r h φ a w hI S (gv hs)) (aZ.cases ?_ ?_ ?_ ?_))
 ·intro r' h' φ' a' w' hl S' T
  exact (C.loop n c x r' h' φ' a' w' hI S' (jt hs hl)).mono (aZ.then T fun y hy=>cT hl rfl hy)
 ·exact fun i r' h' φ' a' w' hl S' T=>⟨_,r',h',φ',dv hl rfl (.ex _ _ _),.ex _ _ _,S',T⟩
 ·exact fun i r' h' φ' a' w' hl S' T=>⟨_,r',h',φ',cU hl rfl (.go _ _ _),.go _ _ _,S',T⟩
 ·exact fun r' h' φ' a' w' hl S' T=>⟨_,r',h',φ',dF hl rfl,.ret _ _,S',T⟩
def vN (P:Program) (G:Gl) (n:Nat) (p:Pg) (mk:Array Oper→AC):Prop:=∀(m:Nat),(∀k,k≤m→cS P G p (exec p k))→∀(ops:Array Oper) (r:A2) (h:Hp) (φ:aJ) (a:Act) (w:World),St n G φ r h a w→
 (ru (mk ops) p (exec p m) r h).Safe→wpAny P .any ops (aZ n G φ h w (ru (mk ops) p (exec p m) r h)) ops.size (Array.replicate ops.size false) a {w with drawn:=w.drawn+1}
theorem DD (k:Nat):vN P G n p (fun _=>.bad k):=fun _ _ _ _ _ _ _ _ _ hs=>(RS.Safe.err hs).elim
theorem xh (D:xd P G names p) {bad:Array Oper→AC} (hb:vN P G n p bad):vN P G n p (fo P G bad n names):=by
 intro m CO ops r h φ a w S hs
 rcases gN (P:=P) (G:=G) (n:=n) (names:=names) (bad:=bad) ops with ⟨l,hl,e⟩|⟨l,hl,h0,e⟩|e
 ·rw [e] at hs ⊢
  have hs:(rq p (exec p m) (l.map fun (i,b)=>.mk b (fL P G n names ops (ops.getD i default))) r h h []).Safe:=hs
  show wpAny P .any ops (aZ n G φ h w (rq p (exec p m) (l.map fun (i,b)=>.mk b (fL P G n names ops (ops.getD i default))) r h h [])) ops.size (Array.replicate ops.size false) a {w with drawn:=w.drawn+1}
  rw [vH] at hs ⊢
  refine D.1 n (exec p m) (CO m (Nat.le_refl _)) ops l _ r h φ a w _ hl S hs ?_
  intro r' h' φ' a' w' e1 S' T
  rw [e1]
  exact ⟨_,r',h',φ',.nm _ _,.nm _ _,S',T⟩
 ·rw [e] at hs ⊢
  have hs:(eV p (exec p m) (gM P G n names ops l) r h).Safe:=hs
  show wpAny P .any ops (aZ n G φ h w (eV p (exec p m) (gM P G n names ops l) r h)) ops.size (Array.replicate ops.size false) a {w with drawn:=w.drawn+1}
  rw [vJ] at hs ⊢
  refine D.2 n (exec p m) (CO m (Nat.le_refl _)) ops l _ r h φ a w _ hl h0 S hs ?_
  intro r' h' φ' a' w' e1 S' T
  exact ⟨_,r',h',φ',e1 _ (.nm _ _),.nm _ _,S',T⟩
 ·rw [e] at hs ⊢
  exact hb m CO ops r h φ a w S hs
theorem vO {x:RS} {w0:World}:¬ LetsOut (aZ n G φ h w0 x):=by
 rintro ⟨a,w,y,r',h',φ',_,he,_⟩
 cases he
theorem aZ.Aq {x:RS} (hs:(fR h x).Safe) (e:Exit) (a':Act) (w':World) (hq:aZ n G φ (mark h) w x e a' w'):aZ n G φ h w (fR h x) e a' w':=by
 obtain ⟨y,r',h',φ',hl,he,S',T⟩:=hq
 obtain ⟨y2,r2,h2,q1,q2,q3,q4,q5⟩:=(nL hs).2 y hl e r' h' he T.fr
 exact ⟨y2,r2,h2,φ',q1,q2,S'.less q3 q4,T.IB q4 q5⟩
theorem QC {x y:RS} (hs:(wL h x y).Safe):x.Safe∧y.Safe∧(∀e a' w',aZ n G φ (mark h) w x e a' w'→aZ n G φ h w (wL h x y) e a' w')∧(∀e a' w',aZ n G φ (mark h) w y e a' w'→aZ n G φ h w (wL h x y) e a' w'):=by
 have e0:wL h x y=@Bool.rec (fun _=>RS) (qo h (.ch 2 (fun i=>@Nat.rec (fun _=>RS) x (fun _ _=>y) i))) (fR h (.ch 2 (fun i=>@Nat.rec (fun _=>RS) x (fun _ _=>y) i))) (aif x y):=rfl
 cases he:aif x y with
 | true=>
  rw [he] at e0
  have e0:wL h x y=fR h (.ch 2 (fun i=>@Nat.rec (fun _=>RS) x (fun _ _=>y) i)):=e0
  rw [e0] at hs ⊢
  have hj:=(nL hs).1
  exact ⟨fun k hk=>hj k (.ch 2 _ 0 _ (by omega) hk),fun k hk=>hj k (.ch 2 _ 1 _ (by omega) hk),fun e a' w' hq=>aZ.Aq hs e a' w' (hq.lift fun z hz=>.ch 2 _ 0 _ (by omega) hz),fun e a' w' hq=>aZ.Aq hs e a' w' (hq.lift fun z hz=>.ch 2 _ 1 _ (by omega) hz)⟩
 | false=>
  rw [he] at e0
  have e0:wL h x y=qo h (.ch 2 (fun i=>@Nat.rec (fun _=>RS) x (fun _ _=>y) i)):=e0
  rw [e0] at hs ⊢
  have hj:=vD hs
  exact ⟨fun k hk=>hj k (.ch 2 _ 0 _ (by omega) hk),fun k hk=>hj k (.ch 2 _ 1 _ (by omega) hk),fun e a' w' hq=>aZ.qo (hq.lift fun z hz=>.ch 2 _ 0 _ (by omega) hz),fun e a' w' hq=>aZ.qo (hq.lift fun z hz=>.ch 2 _ 1 _ (by omega) hz)⟩
theorem BU {next:Array Oper→AC} (hn:vN P G n p next):vN P G n p (kK P G next names):=by
 intro m CO ops r h φ a w S hs
 rcases jw (P:=P) (G:=G) (names:=names) (next:=next) ops with ⟨x,y,hf,hxy,hx,hy,e⟩|⟨k,e⟩
 ·rw [e] at hs ⊢
  have hs:(wL h (exec p m (next (fE x y ops)) r (mark h)) (exec p m (next (fE y x ops)) r (mark h))).Safe:=hs
  show wpAny P .any ops (aZ n G φ h w (wL h (exec p m (next (fE x y ops)) r (mark h)) (exec p m (next (fE y x ops)) r (mark h)))) ops.size (Array.replicate ops.size false) a {w with drawn:=w.drawn+1}
  obtain ⟨s1,s2,s3,s4⟩:=QC (n:=n) (G:=G) (φ:=φ) (h:=h) (w:=w) hs
  cases m with
  | zero=>exact (RS.Safe.err s1).elim
  | succ m=>
   have g1:=hn m (fun k hk=>CO k (by omega)) (fE x y ops) r (mark h) φ a w S.mark s1
   have g2:=hn m (fun k hk=>CO k (by omega)) (fE y x ops) r (mark h) φ a w S.mark s2
   rw [vF] at g1 g2
   refine vG (fun i o ho=>QA (hf o (Array.mem_toList_iff.2 (Array.mem_of_getElem? ho)))) vO vO ?_ ?_ _ _ _ _ g1 g2 hxy ?_ ?_ (by simp) hx hy
   ·exact s3
   ·exact s4
   ·simp [Array.getD_eq_getD_getElem?,Array.getElem?_replicate,hx]
   ·simp [Array.getD_eq_getD_getElem?,Array.getElem?_replicate,hy]
 ·rw [e] at hs
  exact (RS.Safe.err hs).elim
theorem QD (D:xd P G names p):vN P G n p (kL P G n names):=xh D (BU (xh D (BU (xh D (DD 404)))))
theorem DE {m:Nat} (E:Env P G names p) (D:xd P G names p) (CA:∀k,k≤m→bL P G names p k) (c:Code) {z:AC} (hI:Impl (cC P G n names c) z) (S:St n G φ r h a w) (hs:(ru z p (exec p m) r h).Safe) :
  c.wp P (aZ n G φ h w (ru z p (exec p m) r h)) a w:=by
 have C:=CA m (Nat.le_refl _)
 have CO:=tv E C
 rcases Ap hI with ⟨k,Lin,L,Lr,Lx,y,rfl,hn,hy⟩|⟨q,rfl⟩|hN
 ·exact BS E.ms (D.toH E.mixed) CO (fun n c r h φ a w=>C.code n c y r h φ a w) k c (bB r Lin) h φ a w hy (S.bB Lin) hs
 ·exact (RS.Safe.err hs).elim
 cases c with
 | skip=>
  have hN:z=.skip:=hN
  subst hN
  exact wp_skip ⟨_,r,h,φ,.nm _ _,.nm _ _,S,.refl _ _ _⟩
 | region id ops d=>
  have hz:z=cC P G n names (.region id ops d):=by
   cases d with
   | false=>
    have e3:cC P G n names (.region id ops false)=qq P G n names ops:=rfl
    rw [e3] at hN ⊢
    rcases gO (P:=P) (G:=G) (n:=n) (names:=names) ops with e|⟨q,e⟩<;>rw [e] at hN ⊢<;>exact hN
   | true=>
    have e3:cC P G n names (.region id ops true)=kL P G n names ops:=rfl
    rw [e3] at hN ⊢
    rcases gN (P:=P) (G:=G) (n:=n) (names:=names) (bad:=kK P G (fo P G (kK P G (fo P G (fun _=>.bad 404) n names) names) n names) names) ops with ⟨l,hl,e⟩|⟨l,hl,h0,e⟩|e
    ·have e:kL P G n names ops=_:=e
     rw [e] at hN ⊢;exact hN
    ·have e:kL P G n names ops=_:=e
     rw [e] at hN ⊢;exact hN
    ·have e:kL P G n names ops=_:=e
     rw [e] at hN ⊢
     rcases jw (P:=P) (G:=G) (names:=names) (next:=fo P G (kK P G (fo P G (fun _=>.bad 404) n names) names) n names) ops with ⟨x,y,_,_,_,_,e2⟩|⟨k,e2⟩
     ·rw [e2] at hN ⊢;exact hN
     ·rw [e2] at hN ⊢;exact hN
  subst hz
  cases d with
  | false=>
   have hs:(ru (qq P G n names ops) p (exec p m) r h).Safe:=hs
   show (Code.region id ops false).wp P (aZ n G φ h w (ru (qq P G n names ops) p (exec p m) r h)) a w
   rcases gO (P:=P) (G:=G) (n:=n) (names:=names) ops with e|⟨q,e⟩
   case inr=>
    rw [e] at hs ⊢
    have hs:(wM q (ops.toList.map fun o=>mC P {G with b:=some q} n names ops o) p (exec p m) r h).Safe:=hs
    show (Code.region id ops false).wp P (aZ n G φ h w (wM q (ops.toList.map fun o=>mC P {G with b:=some q} n names ops o) p (exec p m) r h)) a w
    unfold wM at hs ⊢
    refine wp_region ?_
    have:=Ah (Q:=aZ n G φ h w (RS.bind (eV p (exec p m) (ops.toList.map fun o=>mC P {G with b:=some q} n names ops o) (rr q r) h) (fun r h=>.nm (zV q r) h) (fun i r h=>.ex i r h) (fun l r h=>.go l r h))) E.ms (show cS P {G with b:=some q} p (exec p m) from fun f args h φ w vals hg=>CO f args h φ w vals hg) ops.toList [] (rr q r) h φ a w (by simp) (S.drop q) (gv hs)
     (fun r' h' φ' a' w' hl S' T=>⟨_,zV q r',h',φ',cT hl rfl (.nm _ _),.nm _ _,S'.ins,T⟩)
    rw [List.range_eq_range']
    simpa using this
   rw [e] at hs ⊢
   have hs:(eV p (exec p m) (ops.toList.map fun o=>mC P G n names ops o) r h).Safe:=hs
   show (Code.region id ops false).wp P (aZ n G φ h w (eV p (exec p m) (ops.toList.map fun o=>mC P G n names ops o) r h)) a w
   refine wp_region ?_
   have:=Ah (Q:=aZ n G φ h w (eV p (exec p m) (ops.toList.map fun o=>mC P G n names ops o) r h)) E.ms CO ops.toList [] r h φ a w (by simp) S hs (fun r' h' φ' a' w' hl S' T=>⟨_,r',h',φ',hl,.nm _ _,S',T⟩)
   rw [List.range_eq_range']
   show wpOps P ops (aZ n G φ h w (eV p (exec p m) (ops.toList.map fun o=>mC P G n names ops o) r h)) (List.range' 0 ops.size) a w
   simpa using this
  | true=>
   exact wp_region_any E.mixed (QD D m (fun k hk=>tv E (CA k hk)) ops r h φ a w S hs)
 | seq c1 c2=>
  obtain ⟨x,y,rfl,hx,hy⟩:∃a' b',z=.seq a' b'∧Impl (cC P G n names c1) a'∧Impl (cC P G n names c2) b':=hN
  have hs:(BE x y (exec p m) r h).Safe:=hs
  show (Code.seq c1 c2).wp P (aZ n G φ h w (BE x y (exec p m) r h)) a w
  unfold BE at hs ⊢
  refine wp_seq (wp_mono (C.code n c1 x r h φ a w hx S (gv hs)) (aZ.cases ?_ ?_ ?_ ?_))
  ·intro r' h' φ' a' w' hl S' T
   exact wp_mono (C.code n c2 y r' h' φ' a' w' hy S' (jt hs hl)) (aZ.then T fun z hz=>cT hl rfl hz)
  ·exact fun i r' h' φ' a' w' hl S' T=>⟨_,r',h',φ',dv hl rfl (.ex _ _ _),.ex _ _ _,S',T⟩
  ·exact fun i r' h' φ' a' w' hl S' T=>⟨_,r',h',φ',cU hl rfl (.go _ _ _),.go _ _ _,S',T⟩
  ·exact fun r' h' φ' a' w' hl S' T=>⟨_,r',h',φ',dF hl rfl,.ret _ _,S',T⟩
 | cond c x y=>
  simp only [cC] at hN
  cases hc:cO G c with
  | none=>
   rw [hc] at hN
   have hN:z=.bad 401:=hN
   subst hN
   exact (RS.Safe.err hs).elim
  | some b=>
   rw [hc] at hN
   obtain ⟨x',y',rfl,hx,hy⟩:∃a' b',z=.cond b a' b'∧Impl (cC P G n names x) a'∧Impl (cC P G n names y) b':=hN
   have hs:(AV.bE (ev b r) (fun t=>@Bool.rec (fun _=>RS) (exec p m y' r h) (exec p m x' r h) t) (.err 213)).Safe:=hs
   obtain ⟨t,ht,e⟩:=eP hs
   show (Code.cond c x y).wp P (aZ n G φ h w (AV.bE (ev b r) (fun t=>@Bool.rec (fun _=>RS) (exec p m y' r h) (exec p m x' r h) t) (.err 213))) a w
   rw [e] at hs ⊢
   have hv:=S.Wb hc
   rw [ht] at hv
   refine wp_cond hv.cJ ?_
   cases t with
   | true=>exact C.code n x x' r h φ a w hx S hs
   | false=>exact C.code n y y' r h φ a w hy S hs
 | block i c=>
  rcases nN (P:=P) (G:=G) (n:=n) (names:=names) i c with e|e<;>rw [e] at hN
  ·obtain ⟨x,rfl,hx⟩:∃a',z=.block i a'∧Impl (cC P G n names c) a':=hN
   exact mF C i c hx S hs
  ·have hz:(∃a',z=.join (.block i a')∧Impl (cC P G n names c) a')∨∃a',z=.block i a'∧Impl (cC P G n names c) a':=by
    rcases (show z=.join (.block i (cC P G n names c))∨(∃i' b b',AC.block i (cC P G n names c)=.block i' (.loop b)∧z=.join (.block i' (.loop b'))∧Impl b b')∨∃i' b b',AC.block i (cC P G n names c)=.block i' b∧z=.block i' b'∧Impl b b' from hN) with rfl|⟨i',b,b',e1,rfl,hb⟩|⟨i',b,b',e1,rfl,hb⟩
    ·exact .inl ⟨_,rfl,.refl _⟩
    ·injection e1 with e1 e2
     subst e1
     rw [e2]
     exact .inl ⟨_,rfl,.loop hb⟩
    ·injection e1 with e1 e2
     subst e1
     rw [e2]
     exact .inr ⟨_,rfl,hb⟩
   rcases hz with ⟨x,rfl,hx⟩|⟨x,rfl,hx⟩
   case inr=>exact mF C i c hx S hs
   have hs:(fR h (exec p m (.block i x) r (mark h))).Safe:=hs
   show (Code.block i c).wp P (aZ n G φ h w (fR h (exec p m (.block i x) r (mark h)))) a w
   refine wp_mono (C.block n i c x r (mark h) φ a w hx S.mark (nL hs).1) ?_
   exact fun e a' w' hq=>aZ.Aq hs e a' w' hq
 | loop c=>
  obtain ⟨x,rfl,hx⟩:∃a',z=.loop a'∧Impl (cC P G n names c) a':=hN
  exact pX (vM C c hx S hs)
 | rangeFunc f ps x y=>
  have hN:z=.bad 402:=hN
  subst hN
  exact (RS.Safe.err hs).elim
 | exit i=>
  have hN:z=.exit i:=hN
  subst hN
  exact wp_exit ⟨_,r,h,φ,.ex _ _ _,.ex _ _ _,S,.refl _ _ _⟩
 | scope c=>
  obtain ⟨x,rfl,hx⟩:∃a',z=.scope a'∧Impl (cC P G n names c) a':=hN
  exact Ai (yJ C c c hx hx S hs)
 | label l=>
  have hN:z=.label l:=hN
  subst hN
  exact wp_label ⟨_,r,h,φ,.nm _ _,.nm _ _,S,.refl _ _ _⟩
 | goto l=>
  have hN:z=.goto l:=hN
  subst hN
  exact wp_goto ⟨_,r,h,φ,.go _ _ _,.go _ _ _,S,.refl _ _ _⟩
 | ret=>
  have hN:z=.ret:=hN
  subst hN
  exact wp_ret ⟨_,r,h,φ,.ret _ _,.ret _ _,S,.refl _ _ _⟩
 | refuse s=>
  have hN:z=.bad 403:=hN
  subst hN
  exact (RS.Safe.err hs).elim
theorem yK (E:Env P G names p) (D:xd P G names p):∀m k,k≤m→bL P G names p k
 | 0,0,_=>⟨fun _ _ _ _ _ _ _ _ _ _ hs=>(RS.Safe.err hs).elim,fun _ _ _ _ _ _ _ _ _ _ _ hs=>(RS.Safe.err hs).elim,fun _ _ _ _ _ _ _ _ _ _ hs=>(RS.Safe.err hs).elim,fun _ _ _ _ _ _ _ _ _ _ _ _ _ hs=>(RS.Safe.err hs).elim⟩
 | m+1,k,hk=>by
  have CA:=yK E D m
  rcases Nat.lt_or_ge k (m+1) with g|g
  ·exact CA k (by omega)
  ·have e:k=m+1:=by omega
   subst e
   have C:=CA m (Nat.le_refl _)
   exact ⟨fun _ c _ _ _ _ _ _ hI S hs=>DE E D CA c hI S hs,fun _ i c _ _ _ _ _ _ hI S hs=>mF C i c hI S hs,fun _ c _ _ _ _ _ _ hI S hs=>vM C c hI S hs,fun _ s c _ _ _ _ _ _ _ hI hJ S hs=>yJ C s c hI hJ S hs⟩
theorem df (E:Env P G names p) (D:xd P G names p) (m:Nat):bL P G names p m:=yK E D m m (Nat.le_refl _)
theorem QE (E:Env P G names p) (D:xd P G names p) (m f:Nat) (args:List AV) (vals:List Value) (hg:mz G φ) (H:HR φ h w) (hv:bS φ args vals) (hs:(aD p (exec p m) f args h).Safe) (hb:∀k,cn f p.fs≠.ext k) :
  Calls P f vals.toArray w (dB φ h w (aD p (exec p m) f args h)):=by
 rcases tv E (df E D m) f args h φ w vals hg H hv hs with ⟨_,hC⟩|⟨cv,w',hcf,_⟩
 ·exact hC
 ·exfalso
  have hF:=E.fs f
  have go:∀{body res},mT P G names f body res→False:=by
   rintro body res ⟨fn,body0,hfn,hc,_⟩
   unfold cF at hc
   split at hc
   ·rename_i c rs hbody hrs
    split at hc
    ·cases hc
    ·rename_i hname
     rw [fe hfn (by simpa using hname) hbody] at hcf
     cases hcf
   ·cases hc
  cases hf:cn f p.fs with
  | none=>rw [lS hf] at hs;exact (RT.Safe.err hs).elim
  | mk body res=>rw [hf] at hF;exact go hF
  | Es body res=>rw [hf] at hF;exact go hF
  | mW k body res=>rw [hf] at hF;exact go hF.1
  | ext k=>exact hb k hf
def cV (r r':A2) (L:List Nat):Prop:=∀a b:H,(16 * a.nat+b.nat)∈L→aw a b r=aw a b r'
variable {r r':A2} {h h':Hp} {v:AV}
theorem cV.left {L M:List Nat} (e:cV r r' (L ++ M)):cV r r' L:=fun a b m=>e a b (List.mem_append_left _ m)
theorem cV.right {L M:List Nat} (e:cV r r' (L ++ M)):cV r r' M:=fun a b m=>e a b (List.mem_append_right _ m)
theorem au {x:AO} (e:cV r r' x.aF):ev x r=ev x r':=by
 cases x with
 | t a b=>exact e a b (by simp [AO.aF])
 | c v=>rfl
theorem gx:∀{xs:List AO},cV r r' (tx xs)→gg xs r=gg xs r'
 | [],_=>rfl
 | x::xs,e=>by
  have e:cV r r' (x.aF ++ tx xs):=e
  show ev x r::gg xs r=ev x r'::gg xs r'
  rw [au e.left,gx e.right]
theorem dq {x:OA} {d:Nat} (e:cV r r' x.aF):fu x d r=fu x d r':=by
 cases x with
 | none=>rfl
 | some x=>
  funext k q
  show eo (ev x r) k q=eo (ev x r') k q
  rw [au (x:=x) e]
theorem mG:∀{ps:List Part},cV r r' (ps.flatMap Part.aF)→fits ps r=fits ps r'
 | [],_=>rfl
 | .mk off sz x::ps,e=>by
  have e:cV r r' (x.aF ++ ps.flatMap Part.aF):=e
  show (OL.rec (@Bool.rec (fun _=>Bool) false (fits ps r) (Bool.and (ev x r).one (Nat.beq sz 1))) (fun l=>@Bool.rec (fun _=>Bool) false (fits ps r) (Nat.beq l.length sz)) (ev x r).asAgg:Bool) =
   (OL.rec (@Bool.rec (fun _=>Bool) false (fits ps r') (Bool.and (ev x r').one (Nat.beq sz 1))) (fun l=>@Bool.rec (fun _=>Bool) false (fits ps r') (Nat.beq l.length sz)) (ev x r').asAgg:Bool)
  rw [au e.left,mG e.right]
theorem mH:∀{ps:List Part} {l:List AV},cV r r' (ps.flatMap Part.aF)→fill ps r l=fill ps r' l
 | [],_,_=>rfl
 | .mk off sz x::ps,l,e=>by
  have e:cV r r' (x.aF ++ ps.flatMap Part.aF):=e
  show fill ps r (na (AV.cs (ev x r)) off l)=fill ps r' (na (AV.cs (ev x r')) off l)
  rw [au e.left,mH e.right]
theorem nO {op:ox} (e:cV r r' op.aF):op.run r h=op.run r' h:=by
 cases op with
 | mv x=>show Lw x r h=Lw x r' h;unfold Lw;rw [au e]
 | pick c a b=>show eJ c a b r h=eJ c a b r' h;unfold eJ;rw [au e.left,au e.right.left,au e.right.right]
 | alloc el n c=>rfl
 | box el x=>show yc el x r h=yc el x r' h;unfold yc;rw [au (x:=x) e]
 | build z ps=>show jk z ps r h=jk z ps r' h;unfold jk;rw [mG e,mH e]
 | bD el es n z ps=>show fQ el es n z ps r h=fQ el es n z ps r' h;unfold fQ;rw [mG e,mH e]
 | cY x=>show iD x r h=iD x r' h;unfold iD;rw [au (x:=x) e]
 | kY m x=>show pU m x r h=pU m x r' h;unfold pU;rw [au (x:=x) e]
 | st1 x y=>show qX x y r h=qX x y r' h;unfold qX;rw [au (x:=x) e.left,au (x:=y) e.right]
 | vg m x y=>show yd m x y r h=yd m x y r' h;unfold yd;rw [au (x:=x) e.left,au (x:=y) e.right]
 | qm x=>show oD x r h=oD x r' h;unfold oD;rw [au (x:=x) e]
 | bin k x y=>show bK k (ev x r) (ev y r) h=bK k (ev x r') (ev y r') h;rw [au (x:=x) e.left,au (x:=y) e.right]
 | un k x=>show Lv k x r h=Lv k x r' h;unfold Lv;rw [au (x:=x) e]
 | conv k x=>show qY k x r h=qY k x r' h;unfold qY;rw [au (x:=x) e]
 | mki t x=>show ye t x r h=ye t x r' h;unfold ye;rw [au (x:=x) e]
 | mkf f xs=>show yf f xs r h=yf f xs r' h;unfold yf;rw [gx e]
 | nd=>rfl
 | nf el z l c=>show iH el z l c r h=iH el z l c r' h;unfold iH;rw [au (x:=l) e.left,au (x:=c) e.right]
 | slc es x lo hi mx=>show da es x lo hi mx r h=da es x lo hi mx r' h;unfold da;rw [au (x:=x) e.left];simp only [dq e.right.left,dq e.right.right.left,dq e.right.right.right]
 | LC x lo hi=>show ma x lo hi r h=ma x lo hi r' h;unfold ma;rw [au (x:=x) e.left];simp only [dq e.right.left,dq e.right.right]
 | LF len es x lo hi mx=>show oE len es x lo hi mx r h=oE len es x lo hi mx r' h;unfold oE;rw [au (x:=x) e.left];simp only [dq e.right.left,dq e.right.right.left,dq e.right.right.right]
 | dh d x=>show qO d x r h=qO d x r' h;unfold qO;rw [au (x:=x) e]
 | LG d x=>show oG d x r h=oG d x r' h;unfold oG;rw [au (x:=x) e]
 | LH d n x=>show oH d n x r h=oH d n x r' h;unfold oH;rw [au (x:=x) e]
 | dn es x y=>show qP es x y r h=qP es x y r' h;unfold qP;rw [au (x:=x) e.left,au (x:=y) e.right]
 | ixa len es x y=>show vk len es x y r h=vk len es x y r' h;unfold vk;rw [au (x:=x) e.left,au (x:=y) e.right]
 | idxs x y=>show gj x y r h=gj x y r' h;unfold gj;rw [au (x:=x) e.left,au (x:=y) e.right]
 | LI len es agg x y=>show oJ len es agg x y r h=oJ len es agg x y r' h;unfold oJ;rw [au (x:=x) e.left,au (x:=y) e.right]
 | ext i x=>show vl i x r h=vl i x r' h;unfold vl;rw [au (x:=x) e]
 | zH t z ok x y=>show Bu t z ok x y r h=Bu t z ok x y r' h;unfold Bu;rw [au (x:=x) e.left,au (x:=y) e.right]
 | Bj t x y z=>show Bv t x y z r h=Bv t x y z r' h;unfold Bv;rw [au (x:=x) e.left,au (x:=y) e.right.left,au (x:=z) e.right.right]
 | del t x y=>show Bw t x y r h=Bw t x y r' h;unfold Bw;rw [au (x:=x) e.left,au (x:=y) e.right]
 | Ge x=>show oL x r h=oL x r' h;unfold oL;rw [au (x:=x) e]
 | len x=>show Bx x r h=Bx x r' h;unfold Bx;rw [au (x:=x) e]
 | gi x=>show wF x r h=wF x r' h;unfold wF;rw [au (x:=x) e]
 | cap x=>show mV x r h=mV x r' h;unfold mV;rw [au (x:=x) e]
 | max mn xs=>show yl mn xs r h=yl mn xs r' h;unfold yl;rw [gx e]
 | app el es x y=>show vm el es x y r h=vm el es x y r' h;unfold vm;rw [au (x:=x) e.left,au (x:=y) e.right]
 | apps el x y=>show ri el x y r h=ri el x y r' h;unfold ri;rw [au (x:=x) e.left,au (x:=y) e.right]
 | cpy es x y=>show vp es x y r h=vp es x y r' h;unfold vp;rw [au (x:=x) e.left,au (x:=y) e.right]
 | clr z x=>show vq z x r h=vq z x r' h;unfold vq;rw [au (x:=x) e]
 | LJ x=>show wG x r h=wG x r' h;unfold wG;rw [au (x:=x) e]
 | CP x=>show jh x r h=jh x r' h;unfold jh;rw [au (x:=x) e]
 | RX x=>show mU x r h=mU x r' h;unfold mU;rw [au (x:=x) e]
 | TP t z ok x=>show Bz t z ok x r h=Bz t z ok x r' h;unfold Bz;rw [au (x:=x) e]
 | aM k x y=>show oO k x y r h=oO k x y r' h;unfold oO;rw [au (x:=x) e.left,au (x:=y) e.right]
 | real im x=>show ji im x r h=ji im x r' h;unfold ji;rw [au (x:=x) e]
 | LK x=>show mb x r h=mb x r' h;unfold mb;rw [au (x:=x) e]
 | yi t z x y=>show wD t z x y r h=wD t z x y r' h;unfold wD;rw [au (x:=x) e.left,au (x:=y) e.right]
 | Gg el es z x y=>show lY el es z x y r h=lY el es z x y r' h;unfold lY;rw [au (x:=x) e.left,au (x:=y) e.right]
 | yj x y z=>show wE x y z r h=wE x y z r' h;unfold wE;rw [au (x:=x) e.left.left,au (x:=y) e.left.right,au (x:=z) e.right]
 | Gf el x y=>show oP el x y r h=oP el x y r' h;unfold oP;rw [au (x:=x) e.left,au (x:=y) e.right]
 | bad n=>rfl
theorem vP {i:AI} {p:Pg} {run:gB} (e:cV r r' i.aF):i.res p run r h=i.res p run r' h:=by
 cases i with
 | op o=>show (o.run r h).jT=(o.run r' h).jT;rw [nO e]
 | xO s x=>show hE s (ev x r) h=hE s (ev x r') h;rw [au (x:=x) e]
 | call f xs=>show aD p run f (gg xs r) h=aD p run f (gg xs r') h;rw [gx e]
 | jI x xs=>show jK p run (ev x r) (gg xs r) h=jK p run (ev x r') (gg xs r') h;rw [au (x:=x) e.left,gx e.right]
 | inv k x xs=>show aH p run k (ev x r) (gg xs r) h=aH p run k (ev x r') (gg xs r') h;rw [au (x:=x) e.left,gx e.right]
variable {P:Program} {r r':A2} {h h':Hp} {v:AV} {n:Nat}
theorem cj {a:AV} {h0:Hp} (e:RV.ok a h0=.ok v h'):h'=h0:=(RV.av e).2.symm
theorem iz {neg:Bool} {b:EB} (e:EB.rv neg h b=.ok v h'):h'=h:=(IP e).1
theorem lU {f:IntKind→Int→Int→AV} {x y:AV} (e:Bo f x y h=.ok v h'):h'=h:=by obtain ⟨_,_,_,_,_,_,e⟩:=IQ e;exact e
theorem yL {f:IntKind→Int→Int→AV} {x y:AV} (e:Ls f x y h=.ok v h'):h'=h:=by obtain ⟨_,_,_,_,_,_,e,_⟩:=IU e;exact e
theorem vQ {f:List Nat→List Nat→AV} {x y:AV} (e:Lt f x y h=.ok v h'):h'=h:=by obtain ⟨_,_,_,_,_,e⟩:=IV e;exact e
theorem Wf {f:IntKind→Int→Int→AV} {x y:AV} (e:bSH f x y h=.ok v h'):h'=h:=by obtain ⟨_,_,_,_,_,_,_,e,_⟩:=Ar e;exact e
theorem akR {k:FloatKind} {op:BinOp} {a b:Nat} (e:Lu k op a b h=.ok v h'):h'=h:=by
 unfold Lu at e
 simp only at e
 split at e<;>(try (split at e))<;>first|exact cj e|cases e
theorem QF {k:FloatKind} {op:BinOp} {a b c d:Nat} (e:Bp k op a b c d h=.ok v h'):h'=h:=by
 unfold Bp at e
 split at e<;>(try (split at e))<;>first|exact cj e|cases e
theorem ave {k:BK} {x y:AV} (e:bK k x y h=.ok v h'):h'=h:=by
 cases k with
 | add=>exact lU e
 | sub=>exact lU e
 | mul=>exact lU e
 | quo=>exact yL e
 | rem=>exact yL e
 | and=>exact yL e
 | or=>exact yL e
 | xor=>exact yL e
 | anF=>exact lU e
 | shl=>exact Wf e
 | shr=>exact Wf e
 | eq=>exact lU e
 | ne=>exact lU e
 | lt=>exact lU e
 | le=>exact lU e
 | gt=>exact lU e
 | ge=>exact lU e
 | seq=>exact vQ e
 | sne=>exact vQ e
 | slt=>exact vQ e
 | sle=>exact vQ e
 | sgt=>exact vQ e
 | sge=>exact vQ e
 | cat=>
  obtain ⟨a,_,e⟩:=cq (show db x y h=_ from e)
  obtain ⟨b,_,e⟩:=cq e
  obtain ⟨_,e⟩:=aC e
  exact cj e
 | beq=>exact iz e
 | bne=>exact iz e
 | jM=>exact iz e
 | pne=>exact iz e
 | jR k=>exact iz e
 | pS k=>exact iz e
 | aeq ks=>
  obtain ⟨a,_,e⟩:=dk (show yb false ks x y h=_ from e)
  obtain ⟨b,_,e⟩:=dk e
  exact iz e
 | ane ks=>
  obtain ⟨a,_,e⟩:=dk (show yb true ks x y h=_ from e)
  obtain ⟨b,_,e⟩:=dk e
  exact iz e
 | RW op=>
  obtain ⟨k,a,_,e⟩:=dX (show FO op x y h=_ from e)
  obtain ⟨k',b,_,e⟩:=dX e
  obtain ⟨_,e⟩:=aC e
  exact akR e
 | cop op=>
  obtain ⟨k,a,b,_,e⟩:=fG (show FP op x y h=_ from e)
  obtain ⟨k',c,d,_,e⟩:=fG e
  obtain ⟨_,e⟩:=aC e
  exact QF e
 | uI=>exact iz e
 | ine=>exact iz e
theorem dN {x:OA} {d:Nat} {k:Nat→RV} {q:Nat} (e:fu x d r k (.err q)=.ok v h'):∃b,k b=.ok v h':=by
 cases x with
 | none=>exact ⟨d,e⟩
 | some x=>obtain ⟨_,m,_,e⟩:=cP (show eo (ev x r) k (.err q)=_ from e);exact ⟨m,e⟩
theorem BV {es o a b m cap:Nat} {i:P4} (e:FX es i o a b m cap h=.ok v h'):h'=h:=by
 obtain ⟨_,e⟩:=aC e
 obtain ⟨_,e⟩:=aC e
 obtain ⟨_,e⟩:=aC e
 exact cj e
theorem QG {es o a b:Nat} {i:P4} (e:TL es i o a b h=.ok v h'):h'=h:=by
 obtain ⟨_,e⟩:=aC e
 obtain ⟨_,_,_,_,_,_,e⟩:=aR e
 obtain ⟨_,e⟩:=aC e
 exact cj e
theorem QH {es o a b m:Nat} {i:P4} (e:TM es i o a b m h=.ok v h'):h'=h:=by
 obtain ⟨_,e⟩:=aC e
 obtain ⟨_,e⟩:=aC e
 obtain ⟨_,_,_,_,_,_,e⟩:=aR e
 obtain ⟨_,e⟩:=aC e
 exact cj e
theorem apE {es:Nat} {x:AO} {lo hi mx:OA} (e:da es x lo hi mx r h=.ok v h'):h'=h:=by
 rcases cQ e with ⟨i,o,l,c,_,e⟩|⟨i,o,l,c,_,e⟩|⟨_,e⟩
 ·obtain ⟨_,e⟩:=dN e
  obtain ⟨_,e⟩:=dN e
  obtain ⟨_,e⟩:=dN e
  exact BV e
 ·obtain ⟨_,e⟩:=aC e
  obtain ⟨_,e⟩:=dN e
  obtain ⟨_,e⟩:=dN e
  rcases ff e with ⟨_,e⟩|⟨_,e⟩
  ·exact QG e
  ·obtain ⟨_,e⟩:=dN e
   exact QH e
 ·obtain ⟨_,e⟩:=dN e
  obtain ⟨_,e⟩:=dN e
  obtain ⟨_,e⟩:=dN e
  obtain ⟨_,e⟩:=aC e
  exact cj e
theorem akS {len es:Nat} {x:AO} {lo hi mx:OA} (e:oE len es x lo hi mx r h=.ok v h'):h'=h:=by
 obtain ⟨_,_,_,e⟩:=ct e
 obtain ⟨_,e⟩:=dN e
 obtain ⟨_,e⟩:=dN e
 obtain ⟨_,e⟩:=dN e
 exact BV e
theorem akT {x:AO} {lo hi:OA} (e:ma x lo hi r h=.ok v h'):h'=h:=by
 obtain ⟨_,_,e⟩:=cq e
 obtain ⟨_,e⟩:=dN e
 obtain ⟨_,e⟩:=dN e
 obtain ⟨_,e⟩:=aC e
 obtain ⟨_,e⟩:=aC e
 exact cj e
theorem qG {α:Type} {l:List α} {f:α→AV} {n:Nat} (e:(List.rec (.err n) (fun a _ _=>.ok (f a) h) l:RV)=.ok v h'):h'=h:=by
 cases l with
 | nil=>cases e
 | cons a t=>exact cj e
theorem vR {es o n:Nat} {i:P4} {k:List AV→RV} {q:Nat} (e:kZ es i o n h k (.err q)=.ok v h'):∃l,k l=.ok v h':=by
 cases n with
 | zero=>exact ⟨_,e⟩
 | succ n=>
  change (Obj.br (aq i h) (fun _ m _ _ c=>@Bool.rec (fun _=>RV) (.err q) (k (bu (Nat.mul (Nat.succ n) es) c o)) (Nat.ble (Nat.add o (Nat.mul (Nat.succ n) es)) m)) (.err q):RV)=_ at e
  obtain ⟨_,_,_,_,_,_,e⟩:=aR e
  obtain ⟨_,e⟩:=aC e
  exact ⟨_,e⟩
theorem QI {es:Nat} {x:AV} {k:List AV→RV} {q:Nat} (e:elems es x h k (.err q)=.ok v h'):∃l,k l=.ok v h':=by
 rcases cQ e with ⟨i,o,l,c,_,e⟩|⟨i,o,l,c,_,e⟩|⟨_,e⟩
 ·exact vR e
 ·obtain ⟨_,e⟩:=aC e
  exact vR e
 ·exact ⟨_,e⟩
theorem IW {mn:Bool} {k:IntKind}:∀{l:List AV} {a:Int},yk mn k h l a=.ok v h'→h'=h
 | [],a,e=>cj e
 | y::l,a,e=>by
  rw [vS] at e
  obtain ⟨_,_,_,e⟩:=bn e
  obtain ⟨_,e⟩:=aC e
  exact IW e
theorem apF {t:KT} {z:AV} {ok:Bool} {x k:AV} (e:zH t z ok x k h=.ok v h'):h'=h:=by
 obtain ⟨_,e⟩:=aC e
 have ho:∀{f:Bool} {a:AV},Bt ok f a h=.ok v h'→h'=h:=fun e=>cj e
 rcases eY e with ⟨i,_,e⟩|⟨_,e⟩
 ·obtain ⟨l,c,_,e⟩:=dE e
  rw [kC] at e
  rcases iI e with ⟨_,e⟩|⟨_,_,_,_,_,e⟩
  ·exact ho e
  ·exact ho e
 ·exact ho e
theorem apG {t:Nat} {z:AV} {ok:Bool} {x:AV} (e:TP t z ok x h=.ok v h'):h'=h:=by
 cases x<;>(try (cases e;done))
 ·rename_i u a
  have e:(@Bool.rec (fun _=>RV) (@Bool.rec (fun _=>RV) (.err 109) (Bt true false z h) ok) (Bt ok true a h) (Nat.beq t u))=_:=e
  rcases ff e with ⟨_,e⟩|⟨_,e⟩
  ·obtain ⟨_,e⟩:=aC e;exact cj e
  ·exact cj e
 ·obtain ⟨_,e⟩:=aC (show (@Bool.rec (fun _=>RV) (.err 109) (Bt true false z h) ok)=_ from e)
  exact cj e
theorem akU {x:AO} (e:oD x r h=.ok v h'):h'=h:=by
 have e:(OP.rec (qm (ev x r) h) (fun i o=>.ok (.ptr i o) h) (ev x r).ft:RV)=_:=e
 generalize ev x r=a at e
 cases a<;>first|exact cj e|cases e
theorem akV {len es:Nat} {agg:Bool} {x y:AO} (e:oJ len es agg x y r h=.ok v h'):h'=h:=by
 obtain ⟨_,_,_,e⟩:=cP e
 obtain ⟨_,_,e⟩:=dk e
 obtain ⟨_,e⟩:=aC e
 rcases ff e with ⟨_,e⟩|⟨_,e⟩
 ·exact qG (f:=fun v=>v) e
 ·obtain ⟨_,e⟩:=aC e
  exact cj e
theorem apH {x:AV} (e:len x h=.ok v h'):h'=h:=by
 rcases cQ e with ⟨i,o,l,c,_,e⟩|⟨i,o,l,c,_,e⟩|⟨_,e⟩<;>exact cj e
theorem apI {x:AV} (e:FW x h=.ok v h'):h'=h:=by
 cases x<;>try (cases e;done)
 case dP=>exact cj (show RV.ok .dP h=.ok v h' from e)
 case ptr i o=>
  obtain ⟨_,_,_,_,_,_,e⟩:=aR (show Obj.br (aq i h) (fun _ n ex _ _=>@Bool.rec (fun _=>RV) (.err 191) (.ok (.ptr i o) h) (Bool.and ex (Km o n))) (RV.err 192)=RV.ok v h' from e)
  obtain ⟨_,e⟩:=aC e
  exact cj e
theorem QJ {u sz:Nat} {x:AV} (e:wC u sz x h=.ok v h'):h'=h:=by
 cases x<;>try (cases e;done)
 case dP=>exact cj (show RV.ok .dP h=.ok v h' from e)
 case ptr i o=>
  obtain ⟨_,_,_,_,_,_,e⟩:=aR (show Obj.br (aq i h) (fun el n ex _ _=>@Bool.rec (fun _=>RV) (.err 193) (.ok (.ptr i o) h) (Bool.and ex (Bool.and (Nat.beq o 0) (Bool.and (Nat.beq el u) (Nat.beq n sz))))) (RV.err 194)=RV.ok v h' from e)
  obtain ⟨_,e⟩:=aC e
  exact cj e
theorem avf {k:CK} {x:AV} {y:AO} (hk:jz (.op (.conv k y))=true) (e:cK k x h=.ok v h'):h'=h:=by
 cases k<;>(try (cases hk;done))
 ·obtain ⟨_,_,e⟩:=cq (show FV x h=_ from e);exact cj e
 ·obtain ⟨_,_,_,e⟩:=bn (show wB _ x h=_ from e);exact cj e
 ·obtain ⟨_,e⟩:=QI (show FQ x h=_ from e)
  obtain ⟨_,_,e⟩:=fB e
  exact cj e
 ·obtain ⟨_,_,_,e⟩:=bn (show TI x h=_ from e);exact cj e
 ·obtain ⟨_,_,_,e⟩:=bn (show FT _ x h=_ from e);exact cj e
 ·obtain ⟨_,_,_,e⟩:=dX (show FU _ x h=_ from e)
  split at e
  ·split at e
   ·exact cj e
   ·cases e
  ·cases e
 ·exact apI e
 ·exact QJ e
theorem pZ {op:ox} (hf:jz (.op op)=true) (e:op.run r h=.ok v h'):h'=h:=by
 cases op with
 | mv x=>exact cj e
 | pick c a b=>obtain ⟨_,_,e⟩:=lz (show eJ c a b r h=_ from e);exact cj e
 | alloc=>cases hf
 | box=>cases hf
 | build z ps=>obtain ⟨_,e⟩:=aC (show jk z ps r h=_ from e);exact cj e
 | bD=>cases hf
 | yi=>cases hf
 | yj=>cases hf
 | Gg=>cases hf
 | cY x=>
  obtain ⟨_,_,_,e⟩:=ct (show iD x r h=_ from e)
  obtain ⟨_,_,_,_,_,_,e⟩:=aR e
  obtain ⟨_,e⟩:=aC e
  exact cj e
 | kY m x=>
  obtain ⟨_,_,_,e⟩:=ct (show pU m x r h=_ from e)
  obtain ⟨_,_,_,_,_,_,e⟩:=aR e
  obtain ⟨_,e⟩:=aC e
  exact cj e
 | st1=>cases hf
 | vg=>cases hf
 | qm x=>exact akU e
 | bin k x y=>exact ave (show bK k (ev x r) (ev y r) h=_ from e)
 | un k x=>
  cases k with
  | not=>obtain ⟨_,_,e⟩:=lz (show cZ (ev x r) h=_ from e);exact cj e
  | neg=>obtain ⟨_,_,_,e⟩:=bn (show Bl (ev x r) h=_ from e);exact cj e
  | com=>obtain ⟨_,_,_,e⟩:=bn (show vj (ev x r) h=_ from e);exact cj e
 | conv k x=>exact avf (k:=k) (x:=ev x r) (y:=x) hf e
 | mki t x=>exact cj e
 | mkf f xs=>exact cj e
 | nd=>cases hf
 | nf=>cases hf
 | slc es x lo hi mx=>exact apE e
 | LC x lo hi=>exact akT e
 | LF len es x lo hi mx=>exact akS e
 | dh d x=>obtain ⟨_,_,_,e⟩:=ct (show qO d x r h=_ from e);exact cj e
 | LG d x=>obtain ⟨_,_,e⟩:=dk (show oG d x r h=_ from e);exact qG (f:=fun v=>v) e
 | LH d n x=>obtain ⟨_,_,e⟩:=dk (show oH d n x r h=_ from e);obtain ⟨_,e⟩:=aC e;exact cj e
 | dn es x y=>
  obtain ⟨_,_,_,e⟩:=cP (show qP es x y r h=_ from e)
  rcases cQ e with ⟨i,o,l,c,_,e⟩|⟨i,o,l,c,_,e⟩|⟨_,e⟩
  ·obtain ⟨_,e⟩:=aC e;exact cj e
  ·obtain ⟨_,e⟩:=aC e;exact cj e
  ·cases e
 | ixa len es x y=>
  obtain ⟨_,_,_,e⟩:=cP (show vk len es x y r h=_ from e)
  obtain ⟨_,_,_,e⟩:=ct e
  obtain ⟨_,e⟩:=aC e;exact cj e
 | idxs x y=>
  obtain ⟨_,_,_,e⟩:=cP (show gj x y r h=_ from e)
  obtain ⟨_,_,e⟩:=cq e
  exact qG (f:=fun b=>.int .u8 (.ofNat b)) e
 | LI len es agg x y=>exact akV e
 | ext i x=>obtain ⟨_,_,e⟩:=yM (show vl i x r h=_ from e);exact qG (f:=fun v=>v) e
 | zH t z ok x y=>exact apF e
 | Bj=>cases hf
 | del=>cases hf
 | Ge x=>
  rcases eY (show oL x r h=_ from e) with ⟨i,_,e⟩|⟨_,e⟩
  ·obtain ⟨l,c,_,e⟩:=dE e;exact cj e
  ·exact cj e
 | len x=>exact apH e
 | gi x=>obtain ⟨_,_,e⟩:=cq (show gi (ev x r) h=_ from e);exact cj e
 | cap x=>
  rcases cQ (show mV x r h=_ from e) with ⟨i,o,l,c,_,e⟩|⟨i,o,l,c,_,e⟩|⟨_,e⟩
  ·exact cj e
  ·cases e
  ·exact cj e
 | max mn xs=>
  have e:LB mn (gg xs r) h=_:=e
  generalize gg xs r=l at e
  cases l with
  | nil=>cases e
  | cons a l=>obtain ⟨_,_,_,e⟩:=bn (show AV.dp a (fun k b=>yk mn k h l b) (.err 76)=_ from e);exact IW e
 | app=>cases hf
 | apps=>cases hf
 | cpy=>cases hf
 | clr=>cases hf
 | LJ=>cases hf
 | CP=>cases hf
 | RX=>cases hf
 | TP t z ok x=>exact apG e
 | aM k x y=>
  obtain ⟨_,_,_,e⟩:=dX (show oO k x y r h=_ from e)
  obtain ⟨_,_,_,e⟩:=dX e
  obtain ⟨_,e⟩:=aC e
  exact cj e
 | real im x=>obtain ⟨_,_,_,_,e⟩:=fG (show ji im x r h=_ from e);exact cj e
 | LK x=>
  rcases cQ (show mb x r h=_ from e) with ⟨i,o,l,c,_,e⟩|⟨i,o,l,c,_,e⟩|⟨_,e⟩
  ·rcases gy e with ⟨_,e⟩|⟨m,_,e⟩
   ·cases e
   ·exact cj e
  ·rcases gy e with ⟨_,e⟩|⟨m,_,e⟩
   ·cases e
   ·exact cj e
  ·exact cj e
 | Gf=>cases hf
 | bad=>cases hf
variable {ops:Array Oper}
def aV (L:Array Bool) (i:Nat):Prop:=L.getD i false=true
def ClL (ops:Array Oper) (L:Array Bool):Prop:=∀j o,ops[j]?=some o→aV L j→∀e,e∈o.after→Region.binds .any e=true→aV L e.on
def Bf (ops:Array Oper) (i j:Nat):Prop:=∀L,ClL ops L→aV L j→aV L i
theorem Bf.trans {i j k:Nat} (h:Bf ops i j) (g:Bf ops j k):Bf ops i k:=fun L c l=>h L c (g L c l)
theorem nP {g:Nat→Nat} {i:Nat}:∀(es:List Edge) (s:Nat),(es.foldl (fun s e=>if Region.binds .any e then s ||| 2 ^ e.on ||| g e.on else s) s).testBit i=true→
  s.testBit i=true∨∃e,e∈es∧Region.binds .any e=true∧(i=e.on∨(g e.on).testBit i=true)
 | [],s,h=>.inl h
 | e::es,s,h=>by
  rw [List.foldl_cons] at h
  rcases nP es _ h with g|⟨e',h1,h2,h3⟩
  ·by_cases hb:Region.binds .any e=true
   ·rw [if_pos hb] at g
    rw [Nat.testBit_or,Nat.testBit_or,Bool.or_eq_true,Bool.or_eq_true] at g
    rcases g with (g|g)|g
    ·exact .inl g
    ·rw [Nat.testBit_two_pow] at g
     exact .inr ⟨e,by simp,hb,.inl (of_decide_eq_true g).symm⟩
    ·exact .inr ⟨e,by simp,hb,.inr g⟩
   ·rw [if_neg hb] at g;exact .inl g
  ·exact .inr ⟨e',by simp [h1],h2,h3⟩
theorem lA {prev:List Nat} (hp:∀j i,(prev.getD j 0).testBit i=true→Bf ops i j):∀(os pre:List Oper) (acc:List Nat),ops.toList=pre ++ os→acc.length=pre.length→(∀j i,(acc.getD j 0).testBit i=true→Bf ops i j)→∀j i,((tz prev os acc).getD j 0).testBit i=true→Bf ops i j
 | [],pre,acc,_,_,h=>h
 | o::os,pre,acc,e,hl,h=>by
  refine lA hp os (pre ++ [o]) _ (by rw [e];simp) (by simp [hl]) ?_
  intro j i hj
  rcases Nat.lt_trichotomy j acc.length with g|g|g
  ·rw [List.getD_eq_getElem?_getD,List.getElem?_append_left g] at hj
   exact h j i (by rw [List.getD_eq_getElem?_getD];exact hj)
  ·subst g
   rw [List.getD_eq_getElem?_getD,List.getElem?_append_right (Nat.le_refl _)] at hj
   simp only [Nat.sub_self,List.getElem?_cons_zero,Option.getD_some] at hj
   have ho:ops[acc.length]?=some o:=by rw [←Array.getElem?_toList,e,hl];simp
   rcases nP (g:=fun k=>if k < acc.length then acc.getD k 0 else prev.getD k 0) _ _ hj with g|⟨e',h1,h2,h3⟩
   ·simp at g
   ·have hb:Bf ops e'.on acc.length:=fun L c l=>c _ o ho l e' (by simpa using h1) h2
    rcases h3 with rfl|h3
    ·exact hb
    ·split at h3
     ·exact (h _ _ h3).trans hb
     ·exact (hp _ _ h3).trans hb
  ·rw [List.getD_eq_getElem?_getD,List.getElem?_eq_none (by simp;omega)] at hj
   simp at hj
theorem IX:∀j i,((nQ ops.toList).getD j 0).testBit i=true→Bf ops i j:=by
 have h0:∀j i,(([]:List Nat).getD j 0).testBit i=true→Bf ops i j:=fun j i g=>by simp at g
 exact lA (lA (lA h0 _ [] [] rfl rfl h0) _ [] [] rfl rfl h0) _ [] [] rfl rfl h0
def IY (ops:Array Oper) (i j:Nat):Bool:=((nQ ops.toList).getD j 0).testBit i
theorem gQ {i j:Nat} (h:IY ops i j=true):Bf ops i j:=IX j i h
def dg (acc:List Nat) (x:Nat×Bk):List Nat:=match x.2 with
 | .dQ=>x.1::acc
 | _=>acc
def bU (l:List (Nat×Bk)):List Nat:=l.foldl dg []
theorem qa (l:List (Nat×Bk)) (x:Nat×Bk):bU (l ++ [x])=dg (bU l) x:=by simp [bU]
theorem nR:∀(m:List (Nat×Bk)) (acc:List Nat) (x:Nat),x∈acc→x∈m.foldl dg acc
 | [],acc,x,hx=>hx
 | y::m,acc,x,hx=>nR m _ x (by unfold dg;split<;>simp [hx])
theorem yN:∀(m:List (Nat×Bk)) (acc:List Nat) (x:Nat),(x,Bk.dQ)∈m→x∈m.foldl dg acc
 | [],acc,x,hx=>by cases hx
 | y::m,acc,x,hx=>by
  rcases List.mem_cons.1 hx with rfl|hx
  ·exact nR m _ x (by simp [dg])
  ·exact yN m _ x hx
theorem QK {l pre:List (Nat×Bk)} {i:Nat} (h2:(match l.find? (fun x=>Wg x.2) with|some (e,_)=>IY ops i e|none=>true)=true)
  (hc:∀q (hq:q < l.length),l[q].2=.dQ→∀x,x∈bU (pre ++ l.take q)→Bf ops x l[q].1):∀q2 (hq2:q2 < l.length),l[q2].2=.dQ→Bf ops i l[q2].1:=by
 intro q2 hq2 he
 cases hf:l.find? (fun x=>Wg x.2) with
 | none=>
  have:=List.find?_eq_none.1 hf l[q2] (List.getElem_mem hq2)
  rw [he] at this;simp [Wg] at this
 | some y=>
  rw [hf] at h2
  obtain ⟨g1,as,bs,g2,g3⟩:=List.find?_eq_some_iff_append.1 hf
  have hy:y.2=.dQ:=by
   cases hy:y.2<;>rw [hy] at g1<;>first|rfl|cases g1
  have hlen:as.length < l.length:=by rw [g2];simp
  have aq:l[as.length]=y:=by simp [g2]
  have hl:Bf ops i l[as.length].1:=by rw [aq];exact gQ h2
  rcases Nat.lt_trichotomy as.length q2 with g|g|g
  ·refine hl.trans (hc q2 hq2 he _ ?_)
   refine yN _ [] _ (List.mem_append_right _ ?_)
   have:(l[as.length].1,Bk.dQ)=l[as.length]:=by rw [aq,←hy]
   rw [this]
   exact List.mem_take_iff_getElem.2 ⟨as.length,by omega,rfl⟩
  ·subst g;exact hl
  ·have hm:l[q2]∈as:=by
    have:l[q2]=as[q2]:=by simp [g2,List.getElem_append_left g]
    rw [this];exact List.getElem_mem g
   have:=g3 _ hm
   rw [he] at this;simp [Wg] at this
theorem nS:∀(l pre:List (Nat×Bk)) (fl:Bool),hY (IY ops) fl l (bU pre)=true→(bU pre).Pairwise (fun x y=>Bf ops y x)→∀q (hq:q < l.length),
   (l[q].2=.dQ→∀x,x∈bU (pre ++ l.take q)→Bf ops x l[q].1)∧
   (∀n,l[q].2=.rd n→n≤(bU (pre ++ l.take q)).length∧∀x,x∈(bU (pre ++ l.take q)).drop n→Bf ops x l[q].1)∧
   (l[q].2≠.dQ→∀q2 (h2:q2 < l.length),q < q2→l[q2].2=.dQ→Bf ops l[q].1 l[q2].1)
 | [],pre,fl,_,_,q,hq=>by simp at hq
 | (i,b)::l,pre,fl,h,hp,q,hq=>by
  have hall:b=.dQ→∀x,x∈bU pre→Bf ops x i:=by
   intro hb x hx
   subst hb
   simp only [hY,Bool.and_eq_true] at h
   cases he:bU pre with
   | nil=>rw [he] at hx;cases hx
   | cons e es=>
    rw [he] at h hx hp
    rcases List.mem_cons.1 hx with rfl|hx
    ·exact gQ h.1
    ·exact ((List.pairwise_cons.1 hp).1 x hx).trans (gQ h.1)
  have e1:bU (pre ++ [(i,b)])=dg (bU pre) (i,b):=qa _ _
  have hp2:(bU (pre ++ [(i,b)])).Pairwise (fun x y=>Bf ops y x):=by
   rw [e1]
   cases b with
   | dQ=>exact List.pairwise_cons.2 ⟨hall rfl,hp⟩
   | rd n=>exact hp
   | new=>exact hp
  have hih:∃fl',hY (IY ops) fl' l (bU (pre ++ [(i,b)]))=true:=by
   rw [e1]
   cases b with
   | dQ=>simp only [hY,Bool.and_eq_true] at h;exact ⟨_,h.2⟩
   | rd n=>simp only [hY,Bool.and_eq_true] at h;exact ⟨_,h.2⟩
   | new=>simp only [hY,Bool.and_eq_true] at h;exact ⟨_,h.2⟩
  obtain ⟨fl',hih⟩:=hih
  have ih:=nS l (pre ++ [(i,b)]) fl' hih hp2
  have hnext:b≠.dQ→∀q2 (hq2:q2 < l.length),l[q2].2=.dQ→Bf ops i l[q2].1:=by
   intro hb
   refine QK (pre:=pre ++ [(i,b)]) ?_ (fun q hq he=>(ih q hq).1 he)
   cases b with
   | dQ=>exact absurd rfl hb
   | rd n=>simp only [hY,Bool.and_eq_true] at h;exact h.1.2
   | new=>simp only [hY,Bool.and_eq_true] at h;exact h.1
  cases q with
  | zero=>
   refine ⟨fun hb x hx=>hall hb x (by simpa using hx),fun m hm=>?_,fun hb q2 hq2 hlt he=>?_⟩
   ·have hm:b=.rd m:=hm
    subst hm
    simp only [hY,Bool.and_eq_true] at h
    obtain ⟨⟨⟨_,h1⟩,h2⟩,h3⟩:=h
    simp only [List.take_zero,List.append_nil,List.getElem_cons_zero]
    cases hd:(bU pre).drop m with
    | nil=>
     rw [hd] at h1
     exact ⟨Nat.le_of_eq (by simpa using h1),fun x hx=>by cases hx⟩
    | cons e es=>
     rw [hd] at h1
     have hlt:m < (bU pre).length:=by
      rcases Nat.lt_or_ge m (bU pre).length with g|g
      ·exact g
      ·rw [List.drop_of_length_le g] at hd;cases hd
     refine ⟨Nat.le_of_lt hlt,fun x hx=>?_⟩
     have hpd:((bU pre).drop m).Pairwise (fun x y=>Bf ops y x):=List.Pairwise.sublist (List.drop_sublist _ _) hp
     rw [hd] at hpd
     rcases List.mem_cons.1 hx with rfl|hx
     ·exact gQ h1
     ·exact ((List.pairwise_cons.1 hpd).1 x hx).trans (gQ h1)
   ·cases q2 with
    | zero=>omega
    | succ q2=>exact hnext hb q2 (by simpa using hq2) he
  | succ q=>
   have:=ih q (by simpa using hq)
   simp only [List.append_assoc,List.singleton_append] at this
   refine ⟨this.1,this.2.1,fun hn q2 h2 hlt he=>?_⟩
   cases q2 with
   | zero=>omega
   | succ q2=>exact this.2.2 hn q2 (by simpa using h2) (by omega) he
variable {P:Program} {G:Gl} {n:Nat} {names:List String} {ops:Array Oper} {l:List (Nat×Bk)}
theorem qH {α:Type} {l:List α} {p:Nat} (hp:p < l.length):(l[p],p)∈l.zipIdx:=by
 rw [List.mem_zipIdx_iff_getElem?];simp [hp]
structure Au (P:Program) (G:Gl) (n:Nat) (names:List String) (ops:Array Oper) (l:List (Nat×Bk)):Prop where
 len:l.length=ops.size
 bnd:∀q (hq:q < l.length),l[q].1 < ops.size
 cover:∀i,i < ops.size→∃q,∃hq:q < l.length,l[q].1=i
 inj:∀p q (hp:p < l.length) (hq:q < l.length),l[p].1=l[q].1→p=q
 lt:∀(j:Nat) (o:Oper),ops[j]?=some o→∀e,e∈o.after→Region.binds .any e=true→e.on < ops.size∧(nQ ops.toList).getD e.on 0 < (nQ ops.toList).getD j 0
 ord:∀p q (hp:p < l.length) (hq:q < l.length),IY ops l[p].1 l[q].1=true→p < q∨(l[p].2=.new∧∃m,l[q].2=.rd m)
 kind:∀q (hq:q < l.length),tC P G n names ops l l[q].1 l[q].2=true
 seq:hY (IY ops) true l []=true
 dst:∀(i j:Nat) (oi oj:Oper) (t:Nat),ops[i]?=some oi→ops[j]?=some oj→oi.dst=some t→oj.dst=some t→i=j
 look:∀(i j:Nat) (oi oj:Oper) (t:Nat),ops[i]?=some oi→ops[j]?=some oj→t∈looks P G n names ops oi→oj.dst=some t→i=j∨IY ops i j=true∨IY ops j i=true
 apK:∀q (hq:q < l.length),l[q].2=.new→∀t,t∈looks P G n names ops (ops.getD l[q].1 default)→∀(j:Nat) (oj:Oper),ops[j]?=some oj→oj.dst=some t→IY ops j l[q].1=true
theorem IZ (h:dw P G n names ops l=true):Au P G n names ops l:=by
 unfold dw at h
 simp only [Bool.and_eq_true,List.all_eq_true,List.any_eq_true,beq_iff_eq] at h
 obtain ⟨⟨⟨⟨⟨⟨⟨⟨⟨⟨h1,h0⟩,h2⟩,h3⟩,h4⟩,h5⟩,h6⟩,h7⟩,h8⟩,h9⟩,h10⟩:=h
 have opm:∀{j o},ops[j]?=some o→(o,j)∈ops.toList.zipIdx:=fun {j o} e=>by
  rw [List.mem_zipIdx_iff_getElem?];simpa using e
 refine ⟨h1,fun q hq=>by simpa using h0 _ (List.getElem_mem hq),fun i hi=>?_,fun p q hp hq e=>?_,fun j o ho e he hb=>?_,fun p q hp hq e=>?_,fun q hq=>h6 _ (List.getElem_mem hq),h7,fun i j oi oj t hi hj ti tj=>?_,fun i j oi oj t hi hj ti tj=>?_,fun q hq hn t ht j oj hj tj=>?_⟩
 ·obtain ⟨x,hx,e⟩:=h2 i (by simpa using hi)
  obtain ⟨q,hq,rfl⟩:=List.getElem_of_mem hx
  exact ⟨q,hq,e⟩
 ·have:=h3 _ (qH hp) _ (qH hq)
  simp only [e,bne_self_eq_false,Bool.false_or,beq_iff_eq] at this
  exact this
 ·have:=h4 _ (opm ho)
  have:=Array.all_eq_true_iff_forall_mem.1 this e he
  simpa [hb] using this
 ·have h:=h5 _ (qH hp) _ (qH hq)
  have e':((nQ ops.toList).getD l[q].1 0).testBit l[p].1=true:=e
  simp only [e',Bool.not_true,Bool.false_or,Bool.or_eq_true,decide_eq_true_eq,Bool.and_eq_true] at h
  rcases h with h|⟨g1,g2⟩
  ·exact .inl h
  ·refine .inr ⟨?_,?_⟩
   ·revert g1;cases l[p].2<;>simp
   ·revert g2;cases l[q].2<;>simp
 ·have h:=h8 _ (opm hi)
  rw [ti] at h
  simp only [Option.all_some,List.all_eq_true] at h
  have:=h _ (opm hj)
  simpa [tj] using this
 ·have h:=h9 _ (opm hi) t ti _ (opm hj)
  simp only [tj,bne_self_eq_false,Bool.false_or,Bool.or_eq_true,beq_iff_eq] at h
  rcases h with (h|h)|h
  ·exact .inl h
  ·exact .inr (.inl h)
  ·exact .inr (.inr h)
 ·have h:(!(l[q].2 matches .new) || (looks P G n names ops (ops.getD l[q].1 default)).all fun t=>ops.toList.zipIdx.all fun x=>x.1.dst != some t || IY ops x.2 l[q].1)=true:=h10 _ (List.getElem_mem hq)
  rw [hn] at h
  simp only [Bool.not_true,Bool.false_or,List.all_eq_true] at h
  have:=h t ht _ (opm hj)
  simpa [tj] using this
variable {P:Program} {G:Gl} [NB G] {n:Nat} {names:List String} {ops:Array Oper} {p:Pg} {run:gB}
structure DS where
 r:A2
 h:Hp
 g:Hp
 hs:List Hp
def akW (p:Pg) (run:gB) (d:aL) (x:AI) (b:Bk) (wnt:Bool) (s s':DS) (v:AV):Prop:=
 s'.r=bI d v s.r∧match wnt,b with
  | false,.dQ=>v=cm∧s'.h=s.h∧s'.g=s.h∧s'.hs=s.g::s.hs
  | false,.rd _=>v=cm∧s'.h=s.h∧s'.g=s.g∧s'.hs=s.hs
  | false,.new=>False
  | true,.dQ=>x.res p run s.r s.h=.ok v s'.h∧s'.g=s'.h∧s'.hs=s.g::s.hs
  | true,.rd m=>∃op,x=.op op∧(∃h',op.run s.r s.g=.ok v h')∧jY op s.r v s.hs m=true∧s'.h=s.h∧s'.g=s.g∧s'.hs=s.hs
  | true,.new=>∃op,x=.op op∧op.run s.r s.h=.ok v s'.h∧s'.g=s.g∧s'.hs=s.hs
def Wh (ops:Array Oper) (o:Oper) (r:A2) (wnt:Bool):Prop:=match o.guard with
 | none=>wnt=true
 | some (j,w)=>∃t b,(ops[j]?).bind (·.dst)=some t∧t < 256∧gb w (aw (hi t) (lo t) r)=.bool b∧wnt=(b == w)
structure DAt (P:Program) (G:Gl) (n:Nat) (names:List String) (ops:Array Oper) (p:Pg) (run:gB) (o:Oper) (b:Bk) (s s':DS) (d:aL) (x:AI) (wnt:Bool) (v:AV):Prop where
 dst:gG G n o.dst=some d
 op:bX P G names o=some x
 want:Wh ops o s.r wnt
 DF:akW p run d x b wnt s s' v
theorem DG {d:aL} {k:DK} {r:A2} {g:Hp} {hs:List Hp} {v:RT} (h:(nh d k r g hs v).Safe):∃u h',v=.ok u h'∧nh d k r g hs v=k (bI d u r) h' h' (g::hs):=by
 cases v with
 | ok u h'=>exact ⟨u,h',rfl,rfl⟩
 | err m=>exact (RS.Safe.err h).elim
 | ch m k=>exact (RS.Safe.err h).elim
theorem DH {d:aL} {op:ox} {m:Nat} {k:DK} {r:A2} {h g:Hp} {hs:List Hp} {v:RV} (hh:(Gq d op m k r h g hs v).Safe):∃u h',v=.ok u h'∧jY op r u hs m=true∧Gq d op m k r h g hs v=k (bI d u r) h g hs:=by
 cases v with
 | ok u h'=>
  have hh:(@Bool.rec (fun _=>RS) (.err 211) (k (bI d u r) h g hs) (jY op r u hs m)).Safe:=hh
  show ∃u' h2,RV.ok u h'=.ok u' h2∧_∧(@Bool.rec (fun _=>RS) (.err 211) (k (bI d u r) h g hs) (jY op r u hs m))=_
  cases hr:jY op r u hs m with
  | false=>rw [hr] at hh;exact (RS.Safe.err hh).elim
  | true=>exact ⟨u,h',rfl,hr,rfl⟩
 | err m=>exact (RS.Safe.err hh).elim
theorem DJ {d:aL} {k:DK} {r:A2} {g:Hp} {hs:List Hp} {v:RV} (h:(Gr d k r g hs v).Safe):∃u h',v=.ok u h'∧Gr d k r g hs v=k (bI d u r) h' g hs:=by
 cases v with
 | ok u h'=>exact ⟨u,h',rfl,rfl⟩
 | err m=>exact (RS.Safe.err h).elim
def DK.at (k:DK) (s:DS):RS:=k s.r s.h s.g s.hs
theorem vT {b:Bk} {d:aL} {x:AI} {k:DK} {s:DS} (h:(uM b d x p run k s.r s.h s.g s.hs).Safe) (hb:b=.dQ∨∃op,x=.op op):∃v s',akW p run d x b true s s' v∧uM b d x p run k s.r s.h s.g s.hs=k.at s':=by
 have heff:∀{y:RT},(nh d k s.r s.g s.hs y).Safe→uM .dQ d x p run k s.r s.h s.g s.hs=nh d k s.r s.g s.hs y→y=x.res p run s.r s.h→∃v s',akW p run d x .dQ true s s' v∧uM .dQ d x p run k s.r s.h s.g s.hs=k.at s':=by
  intro y hy e1 e2
  obtain ⟨u,h',g1,g2⟩:=DG hy
  exact ⟨u,⟨bI d u s.r,h',h',s.g::s.hs⟩,⟨rfl,e2▸g1,rfl,rfl⟩,by rw [e1,g2];rfl⟩
 cases x with
 | op o=>
  cases b with
  | dQ=>exact heff (y:=(o.run s.r s.h).jT) h rfl rfl
  | rd m=>
   obtain ⟨u,h',g1,g2,g3⟩:=DH (show (Gq d o m k s.r s.h s.g s.hs (o.run s.r s.g)).Safe from h)
   exact ⟨u,⟨bI d u s.r,s.h,s.g,s.hs⟩,⟨rfl,o,rfl,⟨h',g1⟩,g2,rfl,rfl,rfl⟩,g3⟩
  | new=>
   obtain ⟨u,h',g1,g2⟩:=DJ (show (Gr d k s.r s.g s.hs (o.run s.r s.h)).Safe from h)
   exact ⟨u,⟨bI d u s.r,h',s.g,s.hs⟩,⟨rfl,o,rfl,g1,rfl,rfl⟩,g2⟩
 | xO c y=>
  rcases hb with rfl|⟨_,e⟩
  ·exact heff (y:=hE c (ev y s.r) s.h) h rfl rfl
  ·cases e
 | call f xs=>
  rcases hb with rfl|⟨_,e⟩
  ·exact heff (y:=aD p run f (gg xs s.r) s.h) h rfl rfl
  ·cases e
 | jI y xs=>
  rcases hb with rfl|⟨_,e⟩
  ·exact heff (y:=jK p run (ev y s.r) (gg xs s.r) s.h) h rfl rfl
  ·cases e
 | inv c y xs=>
  rcases hb with rfl|⟨_,e⟩
  ·exact heff (y:=aH p run c (ev y s.r) (gg xs s.r) s.h) h rfl rfl
  ·cases e
theorem QL {o:Oper} {b:Bk} {k:DK} {s:DS} (h:((DI.mk b (fL P G n names ops o)).exec p run k s.r s.h s.g s.hs).Safe)
  (hb:b=.dQ∨∃op,bX P G names o=some (.op op)) :
  ∃d x wnt v s',DAt P G n names ops p run o b s s' d x wnt v∧(DI.mk b (fL P G n names ops o)).exec p run k s.r s.h s.g s.hs=k.at s':=by
 have hbad:¬ ((DI.mk b nF).exec p run k s.r s.h s.g s.hs).Safe:=by
  intro hh
  cases b with
  | dQ=>exact RS.Safe.err (n:=400) hh
  | rd m=>exact RS.Safe.err (n:=400) hh
  | new=>exact RS.Safe.err (n:=400) hh
 unfold fL at h ⊢
 split at h
 ·rename_i d x hd hx
  have hb':b=.dQ∨∃op,x=.op op:=hb.imp id fun ⟨op,e⟩=>⟨op,by rw [e] at hx;exact (Option.some.inj hx).symm⟩
  split at h
  ·rename_i hg
   obtain ⟨v,s',g1,g2⟩:=vT (show (uM b d x p run k s.r s.h s.g s.hs).Safe from h) hb'
   exact ⟨d,x,true,v,s',⟨hd,hx,by simp [Wh,hg],g1⟩,g2⟩
  ·rename_i j w hg
   split at h
   ·rename_i t ht
    split at h
    ·rename_i s2 hsl
     try simp only [hsl]
     obtain ⟨es2,ht256⟩:=Ix hsl
     subst s2
     have h:(AV.bE (gb w (aw (hi t) (lo t) s.r)) (aic b d x k s.r s.h s.g s.hs p run w) (.err 212)).Safe:=h
     show ∃d' x' wnt v s',_∧(AV.bE (gb w (aw (hi t) (lo t) s.r)) (aic b d x k s.r s.h s.g s.hs p run w) (.err 212))=_
     obtain ⟨c,hc,e⟩:=eP h
     rw [e] at h ⊢
     have h:(@Bool.rec (fun _=>RS) (LP b d k s.r s.h s.g s.hs) (uM b d x p run k s.r s.h s.g s.hs) (eK c w)).Safe:=h
     show ∃d' x' wnt v s',_∧(@Bool.rec (fun _=>RS) (LP b d k s.r s.h s.g s.hs) (uM b d x p run k s.r s.h s.g s.hs) (eK c w))=_
     rw [wW] at h ⊢
     have hw:∀z,z=(c == w)→Wh ops o s.r z:=fun z hz=>by
      simp only [Wh,hg];exact ⟨t,c,ht,ht256,hc,hz⟩
     cases hcw:(c == w) with
     | true=>
      rw [hcw] at h
      obtain ⟨v,s',g1,g2⟩:=vT (show (uM b d x p run k s.r s.h s.g s.hs).Safe from h) hb'
      exact ⟨d,x,true,v,s',⟨hd,hx,hw _ hcw.symm,g1⟩,g2⟩
     | false=>
      rw [hcw] at h
      cases b with
      | dQ=>exact ⟨d,x,false,cm,⟨bI d cm s.r,s.h,s.h,s.g::s.hs⟩,⟨hd,hx,hw _ hcw.symm,⟨rfl,rfl,rfl,rfl,rfl⟩⟩,rfl⟩
      | rd m=>exact ⟨d,x,false,cm,⟨bI d cm s.r,s.h,s.g,s.hs⟩,⟨hd,hx,hw _ hcw.symm,⟨rfl,rfl,rfl,rfl,rfl⟩⟩,rfl⟩
      | new=>exact (RS.Safe.err (n:=214) h).elim
    ·exact absurd h hbad
   ·exact absurd h hbad
 ·exact absurd h hbad
theorem yO {kf:A2→Hp→RS}:∀(l:List (Nat×Bk)) (s:DS),(∀q (hq:q < l.length),l[q].2=.dQ∨∃op,bX P G names (ops.getD l[q].1 default)=some (.op op))→
  (nM (aD p run) (aH p run) kf (l.map fun (i,b)=>.mk b (fL P G n names ops (ops.getD i default))) s.r s.h s.g s.hs).Safe→
  ∃T:Nat→DS,T 0=s∧(∀q (hq:q < l.length),∃d x wnt v,DAt P G n names ops p run (ops.getD l[q].1 default) l[q].2 (T q) (T (q+1)) d x wnt v)∧
   nM (aD p run) (aH p run) kf (l.map fun (i,b)=>.mk b (fL P G n names ops (ops.getD i default))) s.r s.h s.g s.hs=kf (T l.length).r (T l.length).h
 | [],s,_,_=>⟨fun _=>s,rfl,fun q hq=>by simp at hq,rfl⟩
 | (i,b)::l,s,hb,h=>by
  have e0:nM (aD p run) (aH p run) kf (((i,b)::l).map fun (i,b)=>.mk b (fL P G n names ops (ops.getD i default))) s.r s.h s.g s.hs =
   (DI.mk b (fL P G n names ops (ops.getD i default))).exec p run (nM (aD p run) (aH p run) kf (l.map fun (i,b)=>.mk b (fL P G n names ops (ops.getD i default)))) s.r s.h s.g s.hs:=yH _ _ _ _ _ _
  rw [e0] at h
  obtain ⟨d,x,wnt,v,s',g1,g2⟩:=QL h (hb 0 (by simp))
  rw [g2] at h
  obtain ⟨T,t1,t2,t3⟩:=yO l s' (fun q hq=>hb (q+1) (by simpa using hq)) h
  refine ⟨fun q=>match q with|0=>s|q+1=>T q,rfl,fun q hq=>?_,?_⟩
  ·cases q with
   | zero=>exact ⟨d,x,wnt,v,by simpa [t1] using g1⟩
   | succ q=>exact t2 q (by simpa using hq)
  ·rw [e0,g2]
   exact t3
section
variable {P:Program} {G:Gl} [NB G] {n:Nat} {names:List String} {ops:Array Oper} {p:Pg} {run:gB} {l:List (Nat×Bk)}
def bJ (ops:Array Oper) (l:List (Nat×Bk)) (q:Nat) (hq:q < l.length):Oper:=ops.getD l[q].1 default
def Trace (P:Program) (G:Gl) (n:Nat) (names:List String) (ops:Array Oper) (p:Pg) (run:gB) (l:List (Nat×Bk)) (T:Nat→DS):Prop:=
 ∀q (hq:q < l.length),∃d x wnt v,DAt P G n names ops p run (bJ ops l q hq) l[q].2 (T q) (T (q+1)) d x wnt v
theorem cu (K:Au P G n names ops l) {q:Nat} (hq:q < l.length):ops[l[q].1]?=some (bJ ops l q hq):=by
 have:=K.bnd q hq
 simp [bJ,this]
def ec (l:List (Nat×Bk)) (q:Nat):Nat:=(bU (l.take q)).length
theorem BW:ec l 0=0:=rfl
theorem fH {q:Nat} (hq:q < l.length):bU (l.take (q+1))=dg (bU (l.take q)) l[q]:=by
 rw [List.take_succ_eq_append_getElem hq,qa]
theorem mI {q:Nat} (hq:q < l.length) (he:l[q].2=.dQ):ec l (q+1)=ec l q+1:=by
 unfold ec;rw [fH hq];simp [dg,he]
theorem pB {q:Nat} (hq:q < l.length) (he:l[q].2≠.dQ):ec l (q+1)=ec l q:=by
 unfold ec;rw [fH hq]
 cases hb:l[q].2 with
 | dQ=>exact absurd hb he
 | rd m=>simp [dg,hb]
 | new=>simp [dg,hb]
theorem ic:∀{q q':Nat},q≤q'→q'≤l.length→ec l q≤ec l q':=by
 intro q q' h hl
 induction h with
 | refl=>exact Nat.le_refl _
 | @step m h ih=>
  have ih:=ih (by omega)
  by_cases he:(l[m]'(by omega)).2=.dQ
  ·rw [mI (by omega) he];omega
  ·rw [pB (by omega) he];exact ih
theorem vU {q q':Nat} (h:q < q') (hl:q'≤l.length) (he:(l[q]'(by omega)).2=.dQ):ec l q < ec l q':=by
 have:=ic (l:=l) (show q+1≤q' by omega) hl
 rw [mI (by omega) he] at this;omega
theorem nT:∀{q' k:Nat},q'≤l.length→k < ec l q'→∃q,∃hq:q < l.length,q < q'∧l[q].2=.dQ∧ec l q=k:=by
 intro q' k hl hk
 induction q' with
 | zero=>rw [BW] at hk;omega
 | succ m ih=>
  by_cases he:(l[m]'(by omega)).2=.dQ
  ·rw [mI (by omega) he] at hk
   rcases Nat.lt_or_ge k (ec l m) with g|g
   ·obtain ⟨q,hq,h1,h2,h3⟩:=ih (by omega) g
    exact ⟨q,hq,by omega,h2,h3⟩
   ·exact ⟨m,by omega,by omega,he,by omega⟩
  ·rw [pB (by omega) he] at hk
   obtain ⟨q,hq,h1,h2,h3⟩:=ih (by omega) hk
   exact ⟨q,hq,by omega,h2,h3⟩
theorem yP:∀{q' q:Nat} (hl:q'≤l.length) (h:q < q'),(l[q]'(by omega)).2=.dQ→(bU (l.take q'))[ec l q' - 1 - ec l q]?=some (l[q]'(by omega)).1:=by
 intro q' q hl h he
 induction q' with
 | zero=>omega
 | succ m ih=>
  rw [fH (by omega)]
  by_cases hem:(l[m]'(by omega)).2=.dQ
  ·rw [mI (by omega) hem]
   have e1:dg (bU (l.take m)) (l[m]'(by omega))=(l[m]'(by omega)).1::bU (l.take m):=by simp [dg,hem]
   rw [e1]
   rcases Nat.lt_or_ge q m with g|g
   ·have h1:=vU g (by omega) he
    have:=ih (by omega) g he
    rw [show ec l m+1 - 1 - ec l q=(ec l m - 1 - ec l q)+1 by omega,List.getElem?_cons_succ]
    exact this
   ·obtain rfl:q=m:=by omega
    simp
  ·rw [pB (by omega) hem]
   have e1:dg (bU (l.take m)) (l[m]'(by omega))=bU (l.take m):=by
    cases hb:(l[m]'(by omega)).2 with
    | dQ=>exact absurd hb hem
    | rd m=>simp [dg,hb]
    | new=>simp [dg,hb]
   rw [e1]
   rcases Nat.lt_or_ge q m with g|g
   ·exact ih (by omega) g he
   ·obtain rfl:q=m:=by omega
    exact absurd he hem
theorem Ja (K:Au P G n names ops l) {q q':Nat} (hq:q < l.length) (hq':q' < l.length) (h:q < q') (he:l[q].2=.dQ) (he':l[q'].2=.dQ):Bf ops l[q].1 l[q'].1:=by
 have:=(nS l [] true K.seq List.Pairwise.nil q' hq').1 he'
 refine this _ ?_
 simp only [List.nil_append]
 exact List.mem_of_getElem? (yP (by omega) h he)
theorem Wi (K:Au P G n names ops l) {q:Nat} (hq:q < l.length) {m:Nat} (hb:l[q].2=.rd m):m≤ec l q∧∀q1 (h1:q1 < q),(l[q1]'(by omega)).2=.dQ→ec l q1 < ec l q - m→Bf ops (l[q1]'(by omega)).1 l[q].1:=by
 obtain ⟨g1,g2⟩:=(nS l [] true K.seq List.Pairwise.nil q hq).2.1 m hb
 simp only [List.nil_append] at g1 g2
 refine ⟨g1,fun q1 h1 he hlt=>g2 _ ?_⟩
 have:=yP (by omega) h1 he
 refine List.mem_of_getElem? (i:=ec l q - 1 - ec l q1 - m) ?_
 rw [List.getElem?_drop]
 rw [show m+(ec l q - 1 - ec l q1 - m)=ec l q - 1 - ec l q1 by omega]
 exact this
theorem xi (K:Au P G n names ops l) {q q2:Nat} (hq:q < l.length) (hq2:q2 < l.length) (h:q < q2) (hb:l[q].2≠.dQ) (he:l[q2].2=.dQ):Bf ops l[q].1 l[q2].1:=
 (nS l [] true K.seq List.Pairwise.nil q hq).2.2 hb q2 hq2 h he
variable {T:Nat→DS}
theorem akX (hT:Trace P G n names ops p run l T) (h0:(T 0).hs=[]):∀q,q≤l.length→(T q).hs.length=ec l q:=by
 intro q hq
 induction q with
 | zero=>rw [h0];rfl
 | succ q ih=>
  have ih:=ih (by omega)
  obtain ⟨d,x,wnt,v,D⟩:=hT q (by omega)
  have hs:=D.DF.2
  cases hb:(l[q]'(by omega)).2 with
  | dQ=>
   rw [hb] at hs
   rw [mI (by omega) hb]
   cases wnt with
   | true=>rw [hs.2.2];simp [ih]
   | false=>rw [hs.2.2.2];simp [ih]
  | rd m=>
   rw [hb] at hs
   rw [pB (by omega) (by simp [hb])]
   cases wnt with
   | true=>obtain ⟨_,_,_,_,_,_,e⟩:=hs;rw [e];exact ih
   | false=>rw [hs.2.2.2];exact ih
  | new=>
   rw [hb] at hs
   rw [pB (by omega) (by simp [hb])]
   cases wnt with
   | true=>obtain ⟨_,_,_,_,e⟩:=hs;rw [e];exact ih
   | false=>exact hs.elim
theorem QM (hT:Trace P G n names ops p run l T) {q:Nat} (hq:q < l.length):(T q).g::(T q).hs <:+ (T (q+1)).g::(T (q+1)).hs:=by
 obtain ⟨d,x,wnt,v,D⟩:=hT q hq
 have hs:=D.DF.2
 cases hb:(l[q]'(by omega)).2 with
 | dQ=>
  rw [hb] at hs
  cases wnt with
  | true=>rw [hs.2.2];exact List.suffix_cons _ _
  | false=>rw [hs.2.2.2];exact List.suffix_cons _ _
 | rd m=>
  rw [hb] at hs
  cases wnt with
  | true=>obtain ⟨_,_,_,_,_,e1,e2⟩:=hs;rw [e1,e2];exact List.suffix_refl _
  | false=>rw [hs.2.2.1,hs.2.2.2];exact List.suffix_refl _
 | new=>
  rw [hb] at hs
  cases wnt with
  | true=>obtain ⟨_,_,_,e1,e2⟩:=hs;rw [e1,e2];exact List.suffix_refl _
  | false=>exact hs.elim
theorem DL (hT:Trace P G n names ops p run l T) {q:Nat}:∀{q':Nat},q≤q'→q'≤l.length→(T q).g::(T q).hs <:+ (T q').g::(T q').hs:=by
 intro q' h hl
 induction h with
 | refl=>exact List.suffix_refl _
 | @step m h ih=>exact (ih (by omega)).trans (QM hT (by omega))
def bh (l:List (Nat×Bk)) (T:Nat→DS) (k:Nat):Hp:=(((T l.length).g::(T l.length).hs).reverse[k]?).getD (T 0).h
theorem Jb (hT:Trace P G n names ops p run l T) (h0:(T 0).hs=[]) {q:Nat} (hq:q≤l.length) {j:Nat} (hj:j≤ec l q):((T q).g::(T q).hs)[j]?=some (bh l T (ec l q - j)):=by
 obtain ⟨ys,e⟩:=DL hT hq (Nat.le_refl _)
 have hlen:=akX hT h0 q hq
 have hrev:((T l.length).g::(T l.length).hs).reverse=((T q).g::(T q).hs).reverse ++ ys.reverse:=by rw [←e,List.reverse_append]
 have hl2:((T q).g::(T q).hs).length=ec l q+1:=by simp [hlen]
 unfold bh
 rw [hrev,List.getElem?_append_left (by rw [List.length_reverse,hl2];omega),List.getElem?_reverse (by rw [hl2];omega),hl2]
 rw [show ec l q+1 - 1 - (ec l q - j)=j by omega]
 rw [List.getElem?_eq_getElem (by rw [hl2];omega)]
 rfl
theorem QN (hT:Trace P G n names ops p run l T) (h0:(T 0).hs=[]) {q:Nat} (hq:q≤l.length):bh l T (ec l q)=(T q).g:=by
 have:=Jb hT h0 hq (j:=0) (by omega)
 simpa using this.symm
theorem apL (hT:Trace P G n names ops p run l T) (h0:(T 0).hs=[]) {q:Nat} (hq:q≤l.length) {j:Nat} (hj:j < ec l q):(T q).hs[j]?=some (bh l T (ec l q - 1 - j)):=by
 have:=Jb hT h0 hq (j:=j+1) (by omega)
 rw [List.getElem?_cons_succ] at this
 rw [this,show ec l q - (j+1)=ec l q - 1 - j by omega]
theorem yQ (hT:Trace P G n names ops p run l T) (h0:(T 0).g=(T 0).h):∀q,q≤l.length→∃s,s≤q∧ec l s=ec l q∧(T s).h=(T s).g∧(∀q' (h1:s≤q') (h2:q' < q) (h3:q' < l.length),l[q'].2≠.dQ)∧∀q',q' < s→ec l q' < ec l s:=by
 intro q hq
 induction q with
 | zero=>exact ⟨0,Nat.le_refl _,rfl,h0.symm,fun q' h1 h2=>by omega,fun q' h1=>by omega⟩
 | succ q ih=>
  by_cases he:(l[q]'(by omega)).2=.dQ
  ·refine ⟨q+1,Nat.le_refl _,rfl,?_,fun q' h1 h2=>by omega,fun q' h1=>by have:=ic (l:=l) (show q'≤q by omega) (by omega);rw [mI (by omega) he];omega⟩
   obtain ⟨d,x,wnt,v,D⟩:=hT q (by omega)
   have hs:=D.DF.2
   rw [he] at hs
   cases wnt with
   | true=>exact hs.2.1.symm
   | false=>rw [hs.2.1,hs.2.2.1]
  ·obtain ⟨s,g1,g2,g3,g4,g5⟩:=ih (by omega)
   refine ⟨s,by omega,by rw [pB (by omega) he];exact g2,g3,fun q' h1 h2 h3=>?_,g5⟩
   rcases Nat.lt_or_ge q' q with g|g
   ·exact g4 q' h1 g h3
   ·obtain rfl:q'=q:=by omega
    exact he
theorem Jc (hT:Trace P G n names ops p run l T) {q:Nat} (hq:q < l.length) {t:Nat} (ht:t < 256) (hd:(bJ ops l q hq).dst≠some t):aw (hi t) (lo t) (T (q+1)).r=aw (hi t) (lo t) (T q).r:=by
 obtain ⟨d,x,wnt,v,D⟩:=hT q hq
 rw [D.DF.1]
 have hdst:=D.dst
 cases ho:(bJ ops l q hq).dst with
 | none=>rw [ho] at hdst;cases hdst;rfl
 | some s=>
  rw [ho] at hdst hd
  obtain ⟨h1,h2,rfl⟩:=iM hdst
  show aw (hi t) (lo t) (eL (hi s) (lo s) v (T q).r)=_
  rw [eO,if_neg (fun g=>hd (by rw [(Dw ht h1).1 g]))]
theorem yR (hT:Trace P G n names ops p run l T) {q t:Nat} (ht:t < 256):∀{q':Nat},q≤q'→q'≤l.length→(∀q1 (h1:q≤q1) (h2:q1 < q') (h3:q1 < l.length),(bJ ops l q1 h3).dst≠some t)→aw (hi t) (lo t) (T q').r=aw (hi t) (lo t) (T q).r:=by
 intro q' h hl hw
 induction h with
 | refl=>rfl
 | @step m h ih=>
  rw [Jc hT (by omega) ht (hw m h (by omega) (by omega))]
  exact ih (by omega) fun q1 h1 h2 h3=>hw q1 h1 (by omega) h3
theorem Jd (K:Au P G n names ops l) (hT:Trace P G n names ops p run l T) {q t:Nat} (hq:q≤l.length) (ht:t < 256) :
  (∀q1 (h1:q1 < l.length),(bJ ops l q1 h1).dst=some t→q1 < q→aw (hi t) (lo t) (T q).r=aw (hi t) (lo t) (T (q1+1)).r)∧
  ((∀q1 (h1:q1 < l.length),(bJ ops l q1 h1).dst=some t→¬ q1 < q)→aw (hi t) (lo t) (T q).r=aw (hi t) (lo t) (T 0).r):=by
 have uniq:∀q1 q2 (h1:q1 < l.length) (h2:q2 < l.length),(bJ ops l q1 h1).dst=some t→(bJ ops l q2 h2).dst=some t→q1=q2:=fun q1 q2 h1 h2 e1 e2=>
  K.inj q1 q2 h1 h2 (K.dst _ _ _ _ t (cu K h1) (cu K h2) e1 e2)
 constructor
 ·intro q1 h1 e1 hlt
  refine yR hT ht (by omega) hq fun q2 g1 g2 g3 e2=>?_
  have:=uniq q1 q2 h1 g3 e1 e2
  omega
 ·intro hno
  exact yR hT ht (by omega) hq fun q2 g1 g2 g3 e2=>hno q2 g3 e2 g2
theorem vV {op:ox} {r:A2} {v:AV}:∀{hs:List Hp} {m:Nat},jY op r v hs m=true→∀j,j < m→∃hj,hs[j]?=some hj∧∃h',op.run r hj=.ok v h'
 | [],0,_,j,hj=>by omega
 | [],m+1,e,_,_=>by cases e
 | h::hs,0,_,j,hj=>by omega
 | h::hs,m+1,e,j,hj=>by
  have e:(RV.rec (fun v' _=>@Bool.rec (fun _=>Bool) false (jY op r v hs m) (same v v')) (fun _=>false) (op.run r h):Bool)=true:=e
  cases ho:op.run r h with
  | err k=>rw [ho] at e;cases e
  | ok v' h'=>
   rw [ho] at e
   obtain ⟨e1,e2⟩:=az e
   cases j with
   | zero=>exact ⟨h,rfl,h',by rw [ho,nK e1]⟩
   | succ j=>
    obtain ⟨hj',g1,g2⟩:=vV e2 j (by omega)
    exact ⟨hj',by simpa using g1,g2⟩
end
end Go.Am
