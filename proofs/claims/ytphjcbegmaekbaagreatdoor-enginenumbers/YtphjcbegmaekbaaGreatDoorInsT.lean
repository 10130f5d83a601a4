/- slices.Insert, walked: in the row where there is room, in a new row where there is none. Nothing is asked. -/
import Derived.Test.YtphjcbegmaekbaaGreatDoorProg
import Derived.Test.YtphjcbegmaekbaaGreatDoorG
import Derived.Shelf.Spec.SlicesInsertGrow
import Derived.WalkKit
set_option linter.all false
namespace Go.Proofs.YtphjcbegmaekbaaGreatDoor
open Go.Shelf Go.RowKit Go.Lib Go.Am
set_option maxRecDepth 100000
theorem cellAt {w:World} {b:Nat} {rc:Array Value} {el:TypeId} {fz:Nat×Nat} (h:w.heap[b]?=some (.cells rc el fz)) (k:Nat):w.cell? ⟨b,k,none⟩=rc[k]?:=by simp [World.cell?,h]
theorem frozenAt {w:World} {b:Nat} {rc:Array Value} {el:TypeId} {fz:Nat×Nat} (h:w.heap[b]?=some (.cells rc el fz)) (k:Nat) (hk:¬ (fz.1≤k∧k < fz.2)):w.frozen? ⟨b,k,none⟩=false:=by
 simp only [World.frozen?,h]
 rw [Bool.eq_false_iff]
 intro hh
 have hh':=Bool.and_eq_true_iff.1 hh
 exact hk ⟨of_decide_eq_true hh'.1,of_decide_eq_true hh'.2⟩
theorem fN {P:Program} {b o:Nat} {vs:List Value} {w:World} {rc:Array Value} {el:TypeId} {fz:Nat×Nat} (hb:w.heap[b]?=some (.cells rc el fz)) (hl:o+vs.length≤rc.size) (hf:∀j,j < rc.size→¬ (fz.1≤j∧j < fz.2)) (h1:∀c,c∈vs→c.oneCell'=true) :
  (w.setCells b o vs).heap[b]?=some (.cells (qt rc o vs) el fz)∧(w.setCells b o vs).heap.size=w.heap.size∧(∀d,d≠b→(w.setCells b o vs).heap[d]?=w.heap[d]?)∧(w.setCells b o vs).tape=w.tape∧(w.setCells b o vs).os=w.os∧(w.setCells b o vs).output=w.output:=by
 obtain ⟨w',r1,r2,r3,r4,r5,r6,r7⟩:=gU (P:=P) (b:=b) (base:=o) vs w rc el fz 0 hb (by omega) hf h1
 have:=run_storeCells_cells (P:=P) b o vs 0 w (fun j hj=>by rw [cellAt hb,Nat.add_zero,Array.getElem?_eq_getElem (by omega)];rfl) (fun j hj=>frozenAt hb _ (hf _ (by omega))) h1
 rw [r1] at this
 have e:w'=w.setCells b (o+0) vs:=(Result.ok.inj this).2
 rw [Nat.add_zero] at e
 subst e
 exact ⟨by rw [Nat.add_zero] at r2;exact r2,r3,r4,r5,r6,r7⟩
theorem ik {P:Program} (w:World) (dT sT ty elem:TypeId) (i:TypeInfo) (hu:P.underlying dT=some (.slice elem)) (hi:P.info? elem=some i) (b o dLen dCap:Nat) (a:Addr) (sLen sCap:Nat) (cs:List Value) (hn:cs.length=Nat.min sLen dLen * i.size)
  (hsrc:∀j v,cs[j]?=some v→w.cell? (a.add j)=some v) (hc:∀j,j < cs.length→(w.cell? ⟨b,o+j,none⟩).isSome=true) (hf:∀j,j < cs.length→w.frozen? ⟨b,o+j,none⟩=false) (h1:∀v∈cs,v.oneCell'=true) :
  (Builtin.copy_ #[dT,sT] ty #[.slice (some ⟨b,o,none⟩) dLen dCap,.slice (some a) sLen sCap]).run P w=.ok (goInt (Nat.min sLen dLen)) (w.setCells b o cs):=by
 have hl:=run_loadCells_list (P:=P) w a cs hsrc
 have hst:=run_storeCells_cells (P:=P) b o cs 0 w (by simpa using hc) (by simpa using hf) h1
 simp [Builtin.copy_,run_underlying hu,Builtin.lenOf,Builtin.firstCells,sizeOf,typeInfo,hi,←hn,hl,hst]
theorem Ct:(Tryz.prog.info? 127).map (fun i=>(i.zero.map (·.cells.size),i.size,i.bytes))=some (some 3,3,64):=by kernel_rfl
theorem Ec:Tryz.prog.underlying 62=some (.slice 127):=by kernel_rfl
theorem avC:Tryz.prog.underlying 3=some (.int .i64):=by kernel_rfl
set_option maxHeartbeats 4000000 in
theorem Rx (w:World) (b o n c q vb vo m vc:Nat) (cs vs:List Value) (hi:q < n) (hm:0 < m) (hroom:n+m≤c) (hnm:n+m≤65536) (hvb:vb≠b)
  (hcl:cs.length=n * 3) (hvl:vs.length=m * 3)
  (hcs:∀j v,cs[j]?=some v→w.cell? ⟨b,o+j,none⟩=some v) (hsp:∀j,j < (n+m) * 3→(w.cell? ⟨b,o+j,none⟩).isSome=true) (hfz:∀j,j < (n+m) * 3→w.frozen? ⟨b,o+j,none⟩=false)
  (hvs:∀j v,vs[j]?=some v→w.cell? ⟨vb,vo+j,none⟩=some v) (h1c:∀v∈cs,v.oneCell'=true) (h1v:∀v∈vs,v.oneCell'=true)
  (tA tB:TypeId) (kA kB:Nat) (hsa:w.shape? vb=some (tA,kA)) (hsb:w.shape? b=some (tB,kB)) (hkB:kB≠0) (hfa:w.frozen? ⟨vb,vo,none⟩=false) (hfe:w.frozen? ⟨vb,kA,none⟩=false) :
  Calls Tryz.prog 116 #[.slice (some ⟨b,o,none⟩) n c,.int .i64 q,.slice (some ⟨vb,vo,none⟩) m vc] w fun e w'=>
   e=.returned (.slice (some ⟨b,o,none⟩) (n+m) c)∧w'=(w.drew.setCells b (o+(q+m) * 3) (cs.drop (q * 3))).setCells b (o+q * 3) vs:=by
 obtain ⟨i0,hi0,hzs⟩:∃i,Tryz.prog.info? 127=some i∧i.size=3:=by
  have:=Ct
  cases hq:Tryz.prog.info? 127 with
  | none=>rw [hq] at this;cases this
  | some i=>rw [hq] at this;simp at this;exact ⟨i,rfl,this.2.1⟩
 have hz1:¬ ((m:Int)=0):=by omega
 have hz2:¬ ((q:Int)=(n:Int)):=by omega
 have hsz:∀w,(Go.sizeOf 127).run Tryz.prog w=.ok 3 w:=fun w=>by simp [sizeOf,typeInfo,hi0,hzs]
 have hov:∀lb cb,(callFunc 171 #[.slice (some ⟨vb,vo,none⟩) m vc,.slice (some ⟨b,o+(q+m) * 3,none⟩) lb cb]).run Tryz.prog w=.ok (.value (.bool false)) w:=fun lb cb=>by
  rw [run_callFunc_extern Tryz.func171 (by kernel_rfl) (by kernel_rfl) (by kernel_rfl) (e:=Extern.SlicesOverlaps.overlaps #[62,62] #[4]) (by kernel_rfl),
   Lib.run_overlaps_apart w 62 4 127 Ec 3 hsz ⟨vb,vo,none⟩ ⟨b,o+(q+m) * 3,none⟩ m vc lb cb hvb tA tB kA kB hsa hsb hkB hfa hfe]
  rfl
 have hdl:(cs.drop (q * 3)).length=(n - q) * 3:=by rw [List.length_drop,hcl];omega
 have hw1:IntKind.i64.wrap ((q:Int)+(m:Int))=(q:Int)+(m:Int):=by rw [IntKind.wrap_i64];omega
 have hb1:(0:Int)≤(q:Int)+(m:Int):=by omega
 have hin:q≤n:=by omega
 have htn:((q:Int)+(m:Int)).toNat=q+m:=by omega
 have hb2:¬ (c=q+m):=by omega
 have hb3:(q:Int)≤(n:Int)+(m:Int):=by omega
 have hb4:¬ (c=q):=by omega
 have hcp1:∀ty dc sc,(Builtin.copy_ #[62,62] ty #[.slice (some ⟨b,o+(q+m) * 3,none⟩) (n+m - (q+m)) dc,.slice (some ⟨b,o+q * 3,none⟩) (n+m - q) sc]).run Tryz.prog w.drew=.ok (goInt (Nat.min (n+m - q) (n+m - (q+m)))) (w.drew.setCells b (o+(q+m) * 3) (cs.drop (q * 3))):=fun ty dc sc=>
  ik w.drew 62 62 ty 127 i0 Ec hi0 b (o+(q+m) * 3) (n+m - (q+m)) dc ⟨b,o+q * 3,none⟩ (n+m - q) sc (cs.drop (q * 3)) (by rw [hdl,hzs];simp only [Nat.min_def];split<;>omega)
   (fun j v hj=>by rw [Addr.add_lit,Nat.add_assoc];exact hcs (q * 3+j) v (by rwa [List.getElem?_drop] at hj))
   (fun j hj=>by rw [Nat.add_assoc];exact hsp _ (by omega)) (fun j hj=>by rw [Nat.add_assoc];exact hfz _ (by omega)) (fun v hv=>h1c v (List.mem_of_mem_drop hv))
 obtain ⟨W1,hW1⟩:∃W1,W1=w.drew.setCells b (o+(q+m) * 3) (cs.drop (q * 3)):=⟨_,rfl⟩
 have hsp1:∀k,k < (n+m) * 3→(W1.cell? ⟨b,o+k,none⟩).isSome=true:=fun k hk=>by
  rw [hW1]
  exact isSome_setCells b _ _ _ (fun j hj=>by rw [Nat.add_assoc];exact hsp _ (by omega)) _ (hsp k hk)
 have hcp2:∀(W:World),(∀x,W.cell? x=W1.cell? x)→(∀x,W.frozen? x=W1.frozen? x)→∀ty dc,(Builtin.copy_ #[62,62] ty #[.slice (some ⟨b,o+q * 3,none⟩) (n+m - q) dc,.slice (some ⟨vb,vo,none⟩) m vc]).run Tryz.prog W=.ok (goInt (Nat.min m (n+m - q))) (W.setCells b (o+q * 3) vs):=fun W hWc hWf ty dc=>
  ik W 62 62 ty 127 i0 Ec hi0 b (o+q * 3) (n+m - q) dc ⟨vb,vo,none⟩ m vc vs (by rw [hvl,hzs];simp only [Nat.min_def];split<;>omega)
   (fun j v hj=>by
    rw [Addr.add_lit,hWc,hW1,World.cell?_setCells_out b _ _ _ _ (fun h _=>absurd h hvb)]
    exact hvs j v hj)
   (fun j hj=>by rw [hWc,Nat.add_assoc];exact hsp1 _ (by omega)) (fun j hj=>by rw [hWf,hW1,World.frozen?_setCells,Nat.add_assoc];exact hfz _ (by omega)) h1v
 rw [←hW1] at hcp1
 have mixed:Tryz.prog.follows .mixedOrders=true:=by kernel_rfl
 go_enter Tryz.func116,Tryz.ntmps116
 go_wp2_with (simp only [hov])
 go_region_law_o (refine step_copy_runI rfl _ _ 62 62 rfl _ _ (by simp [Act.eval,Act.put]) (by simp [Act.eval,Act.put]) (hcp1 _ _ _) ?_)
 go_wp2_with (at_builtin;refine wpList_copy_runI _ rfl _ _ 62 62 rfl _ _ rfl rfl (hcp2 _ (fun _=>rfl) (fun _=>rfl) _ _) ?_)
 go_ret
 first|exact ⟨rfl,rfl⟩|exact ⟨rfl,by rw [hW1]⟩
set_option maxHeartbeats 4000000 in
theorem Ry (w:World) (b o n c q vb vo m vc:Nat) (cs vs:List Value) (hi:q < n) (hm:0 < m) (hnc:n≤c) (hroom:c < n+m) (hnm:n+m≤65536)
  (hcl:cs.length=n * 3) (hvl:vs.length=m * 3)
  (hcs:∀j v,cs[j]?=some v→w.cell? ⟨b,o+j,none⟩=some v) (hvs:∀j v,vs[j]?=some v→w.cell? ⟨vb,vo+j,none⟩=some v) (h1c:∀v∈cs,v.oneCell'=true) (h1v:∀v∈vs,v.oneCell'=true) :
  Calls Tryz.prog 116 #[.slice (some ⟨b,o,none⟩) n c,.int .i64 q,.slice (some ⟨vb,vo,none⟩) m vc] w fun e w'=>∃(G:Nat) (ROW:Array Value),n+m≤G∧ROW.size=G * 3∧(∀k,k < q * 3→ROW[k]?=cs[k]?)∧
   e=.returned (.slice (some ⟨w.heap.size,0,none⟩) (n+m) G)∧
   w'=(((w.alloc (.cells ROW 127)).drew.setCells w.heap.size (q * 3) vs).drew).setCells w.heap.size ((q+m) * 3) (cs.drop (q * 3)):=by
 obtain ⟨i0,z,hi0,hz0,hzc,hzs,hzb⟩:∃i z,Tryz.prog.info? 127=some i∧i.zero=some z∧z.cells.size=3∧i.size=3∧i.bytes=64:=by
  have:=Ct
  cases hq:Tryz.prog.info? 127 with
  | none=>rw [hq] at this;cases this
  | some i=>
   rw [hq] at this
   simp at this
   obtain ⟨⟨z,h1,h2⟩,h3,h4⟩:=this
   exact ⟨i,z,rfl,h1,h2,h3,h4⟩
 have hz1:¬ ((m:Int)=0):=by omega
 have hz2:¬ ((q:Int)=(n:Int)):=by omega
 have hz3:(c:Int) < (n:Int)+(m:Int):=by omega
 have hbw:b < w.heap.size:=block_lt_of_cell (hcs 0 _ (List.getElem?_eq_getElem (by omega)))
 have hvw:vb < w.heap.size:=block_lt_of_cell (hvs 0 _ (List.getElem?_eq_getElem (by omega)))
 have hkk:(n:Int)+(m:Int) - (q:Int)=((n+m - q:Nat):Int):=by omega
 have hik:q+(n+m - q)=n+m:=by omega
 have hold:(Builtin.firstCells i0.size q (.slice (some ⟨b,o,none⟩) q c)).run Tryz.prog w.drew=.ok (cs.take (q * 3)).toArray w.drew:=by
  rw [hzs]
  exact run_firstCells_some w.drew 3 q ⟨b,o,none⟩ q c (cs.take (q * 3)) (by rw [List.length_take];omega) (fun j v hj=>by
   rw [Addr.add_lit]
   rw [List.getElem?_take] at hj
   split at hj
   ·exact hcs j v hj
   ·cases hj)
 have hrz:∀ty,(Builtin.append_ #[62,3] ty #[.slice (some ⟨b,o,none⟩) q c,.int .i64 ((n:Int)+(m:Int) - (q:Int))]).run Tryz.prog w =
   .ok (.slice (some ⟨w.heap.size,0,none⟩) (n+m) (grownCap w (n+m) c 127)) (w.drew.alloc (.cells ((cs.take (q * 3)).toArray ++ Builtin.zeroCells z.cells (n+m - q) ++ Builtin.zeroCells z.cells (grownCap w (n+m) c 127 - (n+m))) 127)):=fun ty=>by
  have h:=Lib.run_append_grow_zeros w 62 3 ty 127 i0 _ .i64 .i64 Ec avC hi0 hz0 (some ⟨b,o,none⟩) q c (cs.take (q * 3)) hold (n+m - q) (by omega) (by omega) (by omega) (by omega) (by rw [hzb];omega) (by rw [hzb,hik];exact growslice_fits hroom (by omega))
  rw [hik] at h
  rw [hkk]
  exact h
 obtain ⟨G,hG⟩:∃G,G=grownCap w (n+m) c 127:=⟨_,rfl⟩
 obtain ⟨ROW,hROW⟩:∃ROW:Array Value,ROW=(cs.take (q * 3)).toArray ++ Builtin.zeroCells z.cells (n+m - q) ++ Builtin.zeroCells z.cells (G - (n+m)):=⟨_,rfl⟩
 rw [←hG] at hrz
 rw [←hROW] at hrz
 have hGn:n+m≤G:=by rw [hG];exact grownCap_ge w _ _ _
 have hRs:ROW.size=G * 3:=by
  rw [hROW]
  simp only [Array.size_append,List.size_toArray,List.length_take,Go.Am.gV,hzc,hcl]
  omega
 have hRl:(n+m) * 3≤ROW.size:=by rw [hRs];omega
 have hRt:∀k,k < q * 3→ROW[k]?=cs[k]?:=fun k hk=>by
  rw [hROW,Array.getElem?_append_left (by simp only [Array.size_append,List.size_toArray,List.length_take,hcl];omega),Array.getElem?_append_left (by simp only [List.size_toArray,List.length_take,hcl];omega)]
  rw [List.getElem?_toArray,List.getElem?_take,if_pos hk]
 obtain ⟨W1,hW1⟩:∃W1,W1=w.drew.alloc (.cells ROW 127):=⟨_,rfl⟩
 rw [←hW1] at hrz
 have hN:∀j,j < (n+m) * 3→(W1.cell? ⟨w.heap.size,j,none⟩).isSome=true:=fun j hj=>by
  rw [hW1,World.cell?_alloc_at (w:=w.drew) ROW _ w.heap.size j rfl,Array.getElem?_eq_getElem (by omega)];rfl
 have hNf:∀j,W1.frozen? ⟨w.heap.size,j,none⟩=false:=fun j=>by rw [hW1];exact World.frozen?_alloc_at (w:=w.drew) ROW _ w.heap.size j rfl
 have hOb:∀j v,w.cell? ⟨b,j,none⟩=some v→W1.cell? ⟨b,j,none⟩=some v:=fun j v h=>by rw [hW1,World.cell?_alloc_past (w:=w.drew) _ b j hbw];exact h
 have hOv:∀j v,w.cell? ⟨vb,j,none⟩=some v→W1.cell? ⟨vb,j,none⟩=some v:=fun j v h=>by rw [hW1,World.cell?_alloc_past (w:=w.drew) _ vb j hvw];exact h
 have hcpA:∀(W:World),(∀x,W.cell? x=W1.cell? x)→(∀x,W.frozen? x=W1.frozen? x)→∀ty dc,(Builtin.copy_ #[62,62] ty #[.slice (some ⟨w.heap.size,q * 3,none⟩) (n+m - q) dc,.slice (some ⟨vb,vo,none⟩) m vc]).run Tryz.prog W=.ok (goInt (Nat.min m (n+m - q))) (W.setCells w.heap.size (q * 3) vs):=fun W hWc hWf ty dc=>
  ik W 62 62 ty 127 i0 Ec hi0 w.heap.size (q * 3) (n+m - q) dc ⟨vb,vo,none⟩ m vc vs (by rw [hvl,hzs];simp only [Nat.min_def];split<;>omega)
   (fun j v hj=>by rw [Addr.add_lit,hWc];exact hOv _ v (hvs j v hj))
   (fun j hj=>by rw [hWc];exact hN _ (by omega)) (fun j hj=>by rw [hWf];exact hNf _) h1v
 have hG63:G≤9223372036854775807:=by
  have:=grownCap_le_maxLen w (n+m) c 127 (by unfold maxLen;omega)
  rw [←hG] at this
  unfold maxLen at this
  omega
 have hGi:¬ (G=q):=by omega
 have hGim:¬ (G=q+m):=by omega
 have hci:¬ (c=q):=by omega
 have hbN:b≠w.heap.size:=by omega
 have hdl:(cs.drop (q * 3)).length=(n - q) * 3:=by rw [List.length_drop,hcl];omega
 have hcpB:∀(W:World),(∀x,W.cell? x=(W1.setCells w.heap.size (q * 3) vs).cell? x)→(∀x,W.frozen? x=(W1.setCells w.heap.size (q * 3) vs).frozen? x)→∀ty dc sc,(Builtin.copy_ #[62,62] ty #[.slice (some ⟨w.heap.size,(q+m) * 3,none⟩) (n+m - (q+m)) dc,.slice (some ⟨b,o+q * 3,none⟩) (n - q) sc]).run Tryz.prog W=.ok (goInt (Nat.min (n - q) (n+m - (q+m)))) (W.setCells w.heap.size ((q+m) * 3) (cs.drop (q * 3))):=fun W hWc hWf ty dc sc=>
  ik W 62 62 ty 127 i0 Ec hi0 w.heap.size ((q+m) * 3) (n+m - (q+m)) dc ⟨b,o+q * 3,none⟩ (n - q) sc (cs.drop (q * 3)) (by rw [hdl,hzs];simp only [Nat.min_def];split<;>omega)
   (fun j v hj=>by
    rw [Addr.add_lit,hWc,World.cell?_setCells_out _ _ _ _ _ (fun h _=>absurd h hbN),Nat.add_assoc]
    exact hOb _ v (hcs (q * 3+j) v (by rwa [List.getElem?_drop] at hj)))
   (fun j hj=>by rw [hWc];exact isSome_setCells _ _ _ _ (fun t ht=>hN _ (by omega)) _ (hN _ (by omega)))
   (fun j hj=>by rw [hWf,World.frozen?_setCells];exact hNf _) (fun v hv=>h1c v (List.mem_of_mem_drop hv))
 subst hW1
 have hE1:∀x,((w.alloc (.cells ROW 127)).drew).cell? x=(w.drew.alloc (.cells ROW 127)).cell? x:=fun x=>rfl
 have hE2:∀x,((w.alloc (.cells ROW 127)).drew).frozen? x=(w.drew.alloc (.cells ROW 127)).frozen? x:=fun x=>rfl
 have hF1:∀x,(((w.alloc (.cells ROW 127)).drew.setCells w.heap.size (q * 3) vs).drew).cell? x=((w.drew.alloc (.cells ROW 127)).setCells w.heap.size (q * 3) vs).cell? x:=fun x=>rfl
 have hF2:∀x,(((w.alloc (.cells ROW 127)).drew.setCells w.heap.size (q * 3) vs).drew).frozen? x=((w.drew.alloc (.cells ROW 127)).setCells w.heap.size (q * 3) vs).frozen? x:=fun x=>rfl
 have hw1:IntKind.i64.wrap ((q:Int)+(m:Int))=(q:Int)+(m:Int):=by rw [IntKind.wrap_i64];omega
 have hb1:(0:Int)≤(q:Int)+(m:Int):=by omega
 have hin:q≤n:=by omega
 have htn:((q:Int)+(m:Int)).toNat=q+m:=by omega
 have hb3:(q:Int)≤(n:Int):=by omega
 have mixed:Tryz.prog.follows .mixedOrders=true:=by kernel_rfl
 clear hkk hik hold hROW hG hRl
 go_enter Tryz.func116,Tryz.ntmps116
 go_wp2_with (first
  | (at_builtin;refine Lib.wpList_append_run _ rfl _ _ _ _ rfl _ _ rfl rfl _ _ (hrz _) ?_)
  | (at_builtin;refine wpList_copy_runI _ rfl _ _ 62 62 rfl _ _ rfl rfl (hcpA _ hE1 hE2 _ _) ?_)
  | (at_builtin;refine wpList_copy_runI _ rfl _ _ 62 62 rfl _ _ rfl rfl (hcpB _ (fun _=>rfl) (fun _=>rfl) _ _ _) ?_))
 go_region_law_o (refine step_copy_runI rfl _ _ 62 62 rfl (.slice (some ⟨w.heap.size,(q+m) * 3,none⟩) (n+m - (q+m)) (G - (q+m))) (.slice (some ⟨b,o+q * 3,none⟩) (n - q) (c - q)) (by simp [Act.eval,Act.put]) (by simp [Act.eval,Act.put]) (hcpB _ hF1 hF2 3 (G - (q+m)) (c - q)) ?_)
 go_wp2
 go_ret
 exact ⟨G,ROW,hGn,hRs,hRt,rfl,rfl⟩
set_option maxHeartbeats 4000000 in
theorem alu:Go.Am.AM Tryz.prog 116 127 3 where
 room w B o n c q V vo m vc rc rv eb ev fz cs vs hB hV hne hq hm hnc hn hoc hfz hcl hvl hc hv h1 h2:=by
  have hcl':cs.length=n * 3:=hcl
  have hvl':vs.length=m * 3:=hvl
  have g0:∀k,w.frozen? ⟨V,k,none⟩=false:=fun k=>frozenAt hV k (fun ⟨_,h⟩=>absurd h (Nat.not_lt_zero _))
  refine (Rx w B o n c q V vo m vc cs vs hq hm hnc hn hne hcl' hvl' (fun j v hj=>?_) (fun j hj=>?_) (fun j hj=>frozenAt hB _ (hfz _ (by omega))) (fun j v hj=>?_) h1 h2 ev eb rv.size rc.size (by simp [World.shape?,hV]) (by simp [World.shape?,hB]) (by omega) (g0 _) (g0 _)).mono ?_
  ·obtain ⟨hl,rfl⟩:=List.getElem?_eq_some_iff.1 hj
   rw [cellAt hB];exact hc j hl
  ·rw [cellAt hB,Array.getElem?_eq_getElem (by omega)];rfl
  ·obtain ⟨hl,rfl⟩:=List.getElem?_eq_some_iff.1 hj
   rw [cellAt hV];exact hv j hl
  ·rintro x w' ⟨rfl,rfl⟩
   have hd:(cs.drop (q * 3)).length=(n - q) * 3:=by rw [List.length_drop,hcl'];omega
   obtain ⟨a1,a2,a3,a4,a5,a6⟩:=fN (P:=Tryz.prog) (w:=w.drew) (b:=B) (o:=o+(q+m) * 3) (vs:=cs.drop (q * 3)) (rc:=rc) hB (by rw [hd];omega) hfz (fun v hv=>h1 v (List.mem_of_mem_drop hv))
   obtain ⟨b1,b2,b3,b4,b5,b6⟩:=fN (P:=Tryz.prog) (b:=B) (o:=o+q * 3) (vs:=vs) a1 (by rw [bW,hvl'];omega) (fun j hj=>hfz j (by rwa [bW] at hj)) h2
   exact ⟨rfl,b1,b2.trans a2,fun d hd=>(b3 d hd).trans (a3 d hd),b4.trans a4,b5.trans a5,b6.trans a6⟩
 grow w B o n c q V vo m vc rc rv eb ev fz cs vs hB hV hne hq hm hnc hcn hn hcl hvl hc hv h1 h2:=by
  have hcl':cs.length=n * 3:=hcl
  have hvl':vs.length=m * 3:=hvl
  refine (Ry w B o n c q V vo m vc cs vs hq hm hnc hcn hn hcl' hvl' (fun j v hj=>?_) (fun j v hj=>?_) h1 h2).mono ?_
  ·obtain ⟨hl,rfl⟩:=List.getElem?_eq_some_iff.1 hj
   rw [cellAt hB];exact hc j hl
  ·obtain ⟨hl,rfl⟩:=List.getElem?_eq_some_iff.1 hj
   rw [cellAt hV];exact hv j hl
  ·rintro x w' ⟨G,ROW,g1,g2,g3,rfl,rfl⟩
   have hd:(cs.drop (q * 3)).length=(n - q) * 3:=by rw [List.length_drop,hcl'];omega
   have ht:(cs.take (q * 3)).length=q * 3:=by rw [List.length_take,hcl'];omega
   have hz:∀j,j < ROW.size→¬ (((0,0):Nat×Nat).1≤j∧j < ((0,0):Nat×Nat).2):=fun j _ ⟨_,h⟩=>absurd h (Nat.not_lt_zero _)
   have h0:((w.alloc (.cells ROW 127)).drew).heap[w.heap.size]?=some (.cells ROW 127 (0,0)):=by
    show (w.heap.push (.cells ROW 127))[w.heap.size]?=_
    exact Array.getElem?_push_size
   obtain ⟨a1,a2,a3,a4,a5,a6⟩:=fN (P:=Tryz.prog) (o:=q * 3) (vs:=vs) h0 (by rw [g2,hvl'];omega) hz h2
   obtain ⟨b1,b2,b3,b4,b5,b6⟩:=fN (P:=Tryz.prog) (w:=(((w.alloc (.cells ROW 127)).drew).setCells w.heap.size (q * 3) vs).drew) (o:=(q+m) * 3) (vs:=cs.drop (q * 3)) a1 (by rw [bW,hd,g2];omega) (fun j hj=>hz j (by rwa [bW] at hj)) (fun v hv=>h1 v (List.mem_of_mem_drop hv))
   refine ⟨G,_,rfl,g1,b1,by rw [bW,bW];exact g2,fun k hk=>?_,b2.trans (a2.trans (show (w.heap.push (.cells ROW 127)).size=_ from Array.size_push _)),fun d hd=>(b3 d (by omega)).trans ((a3 d (by omega)).trans ?_),b4.trans a4,b5.trans a5,b6.trans a6⟩
   ·have hk':=hk
    simp only [List.length_append,ht,hd,hvl'] at hk'
    rw [fW _ _ _ _ (by rw [bW,g2];omega)]
    by_cases k1:k < q * 3
    ·rw [dif_neg (by omega),fW _ _ _ _ (by rw [g2];omega),dif_neg (by omega),g3 k k1,List.getElem_append_left (by omega),List.getElem_take,List.getElem?_eq_getElem (by omega)]
    ·by_cases k2:k < (q+m) * 3
     ·rw [dif_neg (by omega),fW _ _ _ _ (by rw [g2];omega),dif_pos (by rw [hvl'];omega),List.getElem_append_right (by omega),List.getElem_append_left (by omega)]
      congr 2
      omega
     ·rw [dif_pos (by rw [hd];omega),List.getElem_append_right (by omega),List.getElem_append_right (by omega)]
      congr 2
      omega
   ·show (w.heap.push (.cells ROW 127))[d]?=_
    rw [Array.getElem?_push,if_neg (by omega)]
end Go.Proofs.YtphjcbegmaekbaaGreatDoor

namespace Go.Am.Seat
theorem Ed:Go.Am.AM Go.Proofs.Tryz.prog 116 127 3:=Go.Proofs.YtphjcbegmaekbaaGreatDoor.alu
end Go.Am.Seat
