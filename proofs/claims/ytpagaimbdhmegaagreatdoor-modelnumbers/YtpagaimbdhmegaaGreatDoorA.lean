/- The abstract machine: its states, its operations, its run. Nothing is asked. -/
import GoSem.Core.Value
import GoSem.Core.Ast
import GoSem.Core.Float
import GoSem.Op.IntArith
import GoSem.Conv.StringToRunes
import GoSem.Core.Utf8
set_option linter.all false
namespace Go.Am
noncomputable section
inductive H where
 | h0|h1|h2|h3|h4|h5|h6|h7|h8|h9|ha|hb|hc|hd|he|hf
def H.succ (d:H):H:=H.rec H.h1 H.h2 H.h3 H.h4 H.h5 H.h6 H.h7 H.h8 H.h9 H.ha H.hb H.hc H.hd H.he H.hf H.h0 d
def H.last (d:H):Bool:=H.rec false false false false false false false false false false false false false false false true d
def H.nat (d:H):Nat:=H.rec 0 1 2 3 4 5 6 7 8 9 10 11 12 13 14 15 d
def bN (n:Nat):H:=(Nat.rec H.h0 (fun n1 _=>(Nat.rec H.h1 (fun n2 _=>(Nat.rec H.h2 (fun n3 _=>(Nat.rec H.h3 (fun n4 _=>(Nat.rec H.h4 (fun n5 _=>(Nat.rec H.h5 (fun n6 _=>(Nat.rec H.h6 (fun n7 _=>(Nat.rec H.h7 (fun n8 _=>(Nat.rec H.h8 (fun n9 _=>(Nat.rec H.h9 (fun n10 _=>(Nat.rec H.ha (fun n11 _=>(Nat.rec H.hb (fun n12 _=>(Nat.rec H.hc (fun n13 _=>(Nat.rec H.hd (fun n14 _=>(Nat.rec H.he (fun n15 _=>H.hf) n14)) n13)) n12)) n11)) n10)) n9)) n8)) n7)) n6)) n5)) n4)) n3)) n2)) n1)) n)
def cw {α β:Type} (n:β) (c:α→List α→β→β) (l:List α):β:=List.rec n c l
inductive P4 where
 | mk (a b c d:H)
inductive AV where
 | undef
 | bool (b:Bool)
 | int (k:IntKind) (n:Int)
 | str (l:List Nat)
 | ji (k:FloatKind) (n:Nat)
 | cG (k:FloatKind) (re im:Nat)
 | ptr (i:P4) (off:Nat)
 | dS
 | slice (i:P4) (off len cap:Nat)
 | aH (i:P4) (off len es:Nat)
 | ah
 | map (i:P4)
 | tv
 | fn (f:Nat) (cs:List AV)
 | wq
 | iface (t:Nat) (v:AV)
 | kQ
 | agg (cs:List AV)
 | aW (vs:List AV)
 | sym (i:P4)
inductive KV where
 | mk (k v:AV) (born:Nat)
inductive A1 where
 | nil
 | mk (a0 a1 a2 a3 a4 a5 a6 a7 a8 a9 aa ab ac ad ae af:AV)
def A1.g0 (x:A1):AV:=A1.rec .undef (fun a0 a1 a2 a3 a4 a5 a6 a7 a8 a9 aa ab ac ad ae af=>a0) x
def A1.g1 (x:A1):AV:=A1.rec .undef (fun a0 a1 a2 a3 a4 a5 a6 a7 a8 a9 aa ab ac ad ae af=>a1) x
def A1.g2 (x:A1):AV:=A1.rec .undef (fun a0 a1 a2 a3 a4 a5 a6 a7 a8 a9 aa ab ac ad ae af=>a2) x
def A1.g3 (x:A1):AV:=A1.rec .undef (fun a0 a1 a2 a3 a4 a5 a6 a7 a8 a9 aa ab ac ad ae af=>a3) x
def A1.g4 (x:A1):AV:=A1.rec .undef (fun a0 a1 a2 a3 a4 a5 a6 a7 a8 a9 aa ab ac ad ae af=>a4) x
def A1.g5 (x:A1):AV:=A1.rec .undef (fun a0 a1 a2 a3 a4 a5 a6 a7 a8 a9 aa ab ac ad ae af=>a5) x
def A1.g6 (x:A1):AV:=A1.rec .undef (fun a0 a1 a2 a3 a4 a5 a6 a7 a8 a9 aa ab ac ad ae af=>a6) x
def A1.g7 (x:A1):AV:=A1.rec .undef (fun a0 a1 a2 a3 a4 a5 a6 a7 a8 a9 aa ab ac ad ae af=>a7) x
def A1.g8 (x:A1):AV:=A1.rec .undef (fun a0 a1 a2 a3 a4 a5 a6 a7 a8 a9 aa ab ac ad ae af=>a8) x
def A1.g9 (x:A1):AV:=A1.rec .undef (fun a0 a1 a2 a3 a4 a5 a6 a7 a8 a9 aa ab ac ad ae af=>a9) x
def A1.ga (x:A1):AV:=A1.rec .undef (fun a0 a1 a2 a3 a4 a5 a6 a7 a8 a9 aa ab ac ad ae af=>aa) x
def A1.gb (x:A1):AV:=A1.rec .undef (fun a0 a1 a2 a3 a4 a5 a6 a7 a8 a9 aa ab ac ad ae af=>ab) x
def A1.gc (x:A1):AV:=A1.rec .undef (fun a0 a1 a2 a3 a4 a5 a6 a7 a8 a9 aa ab ac ad ae af=>ac) x
def A1.gd (x:A1):AV:=A1.rec .undef (fun a0 a1 a2 a3 a4 a5 a6 a7 a8 a9 aa ab ac ad ae af=>ad) x
def A1.ge (x:A1):AV:=A1.rec .undef (fun a0 a1 a2 a3 a4 a5 a6 a7 a8 a9 aa ab ac ad ae af=>ae) x
def A1.gf (x:A1):AV:=A1.rec .undef (fun a0 a1 a2 a3 a4 a5 a6 a7 a8 a9 aa ab ac ad ae af=>af) x
def A1.get (d:H):A1→AV:=H.rec (motive:=fun _=>A1→AV) A1.g0 A1.g1 A1.g2 A1.g3 A1.g4 A1.g5 A1.g6 A1.g7 A1.g8 A1.g9 A1.ga A1.gb A1.gc A1.gd A1.ge A1.gf d
def A1.s0 (v:AV) (x:A1):A1:=A1.rec (motive:=fun _=>AV→A1) (fun v=>.mk v .undef .undef .undef .undef .undef .undef .undef .undef .undef .undef .undef .undef .undef .undef .undef) (fun a0 a1 a2 a3 a4 a5 a6 a7 a8 a9 aa ab ac ad ae af=>fun v=>.mk v a1 a2 a3 a4 a5 a6 a7 a8 a9 aa ab ac ad ae af) x v
def A1.s1 (v:AV) (x:A1):A1:=A1.rec (motive:=fun _=>AV→A1) (fun v=>.mk .undef v .undef .undef .undef .undef .undef .undef .undef .undef .undef .undef .undef .undef .undef .undef) (fun a0 a1 a2 a3 a4 a5 a6 a7 a8 a9 aa ab ac ad ae af=>fun v=>.mk a0 v a2 a3 a4 a5 a6 a7 a8 a9 aa ab ac ad ae af) x v
def A1.s2 (v:AV) (x:A1):A1:=A1.rec (motive:=fun _=>AV→A1) (fun v=>.mk .undef .undef v .undef .undef .undef .undef .undef .undef .undef .undef .undef .undef .undef .undef .undef) (fun a0 a1 a2 a3 a4 a5 a6 a7 a8 a9 aa ab ac ad ae af=>fun v=>.mk a0 a1 v a3 a4 a5 a6 a7 a8 a9 aa ab ac ad ae af) x v
def A1.s3 (v:AV) (x:A1):A1:=A1.rec (motive:=fun _=>AV→A1) (fun v=>.mk .undef .undef .undef v .undef .undef .undef .undef .undef .undef .undef .undef .undef .undef .undef .undef) (fun a0 a1 a2 a3 a4 a5 a6 a7 a8 a9 aa ab ac ad ae af=>fun v=>.mk a0 a1 a2 v a4 a5 a6 a7 a8 a9 aa ab ac ad ae af) x v
def A1.s4 (v:AV) (x:A1):A1:=A1.rec (motive:=fun _=>AV→A1) (fun v=>.mk .undef .undef .undef .undef v .undef .undef .undef .undef .undef .undef .undef .undef .undef .undef .undef) (fun a0 a1 a2 a3 a4 a5 a6 a7 a8 a9 aa ab ac ad ae af=>fun v=>.mk a0 a1 a2 a3 v a5 a6 a7 a8 a9 aa ab ac ad ae af) x v
def A1.s5 (v:AV) (x:A1):A1:=A1.rec (motive:=fun _=>AV→A1) (fun v=>.mk .undef .undef .undef .undef .undef v .undef .undef .undef .undef .undef .undef .undef .undef .undef .undef) (fun a0 a1 a2 a3 a4 a5 a6 a7 a8 a9 aa ab ac ad ae af=>fun v=>.mk a0 a1 a2 a3 a4 v a6 a7 a8 a9 aa ab ac ad ae af) x v
def A1.s6 (v:AV) (x:A1):A1:=A1.rec (motive:=fun _=>AV→A1) (fun v=>.mk .undef .undef .undef .undef .undef .undef v .undef .undef .undef .undef .undef .undef .undef .undef .undef) (fun a0 a1 a2 a3 a4 a5 a6 a7 a8 a9 aa ab ac ad ae af=>fun v=>.mk a0 a1 a2 a3 a4 a5 v a7 a8 a9 aa ab ac ad ae af) x v
def A1.s7 (v:AV) (x:A1):A1:=A1.rec (motive:=fun _=>AV→A1) (fun v=>.mk .undef .undef .undef .undef .undef .undef .undef v .undef .undef .undef .undef .undef .undef .undef .undef) (fun a0 a1 a2 a3 a4 a5 a6 a7 a8 a9 aa ab ac ad ae af=>fun v=>.mk a0 a1 a2 a3 a4 a5 a6 v a8 a9 aa ab ac ad ae af) x v
def A1.s8 (v:AV) (x:A1):A1:=A1.rec (motive:=fun _=>AV→A1) (fun v=>.mk .undef .undef .undef .undef .undef .undef .undef .undef v .undef .undef .undef .undef .undef .undef .undef) (fun a0 a1 a2 a3 a4 a5 a6 a7 a8 a9 aa ab ac ad ae af=>fun v=>.mk a0 a1 a2 a3 a4 a5 a6 a7 v a9 aa ab ac ad ae af) x v
def A1.s9 (v:AV) (x:A1):A1:=A1.rec (motive:=fun _=>AV→A1) (fun v=>.mk .undef .undef .undef .undef .undef .undef .undef .undef .undef v .undef .undef .undef .undef .undef .undef) (fun a0 a1 a2 a3 a4 a5 a6 a7 a8 a9 aa ab ac ad ae af=>fun v=>.mk a0 a1 a2 a3 a4 a5 a6 a7 a8 v aa ab ac ad ae af) x v
def A1.sa (v:AV) (x:A1):A1:=A1.rec (motive:=fun _=>AV→A1) (fun v=>.mk .undef .undef .undef .undef .undef .undef .undef .undef .undef .undef v .undef .undef .undef .undef .undef) (fun a0 a1 a2 a3 a4 a5 a6 a7 a8 a9 aa ab ac ad ae af=>fun v=>.mk a0 a1 a2 a3 a4 a5 a6 a7 a8 a9 v ab ac ad ae af) x v
def A1.sb (v:AV) (x:A1):A1:=A1.rec (motive:=fun _=>AV→A1) (fun v=>.mk .undef .undef .undef .undef .undef .undef .undef .undef .undef .undef .undef v .undef .undef .undef .undef) (fun a0 a1 a2 a3 a4 a5 a6 a7 a8 a9 aa ab ac ad ae af=>fun v=>.mk a0 a1 a2 a3 a4 a5 a6 a7 a8 a9 aa v ac ad ae af) x v
def A1.sc (v:AV) (x:A1):A1:=A1.rec (motive:=fun _=>AV→A1) (fun v=>.mk .undef .undef .undef .undef .undef .undef .undef .undef .undef .undef .undef .undef v .undef .undef .undef) (fun a0 a1 a2 a3 a4 a5 a6 a7 a8 a9 aa ab ac ad ae af=>fun v=>.mk a0 a1 a2 a3 a4 a5 a6 a7 a8 a9 aa ab v ad ae af) x v
def A1.sd (v:AV) (x:A1):A1:=A1.rec (motive:=fun _=>AV→A1) (fun v=>.mk .undef .undef .undef .undef .undef .undef .undef .undef .undef .undef .undef .undef .undef v .undef .undef) (fun a0 a1 a2 a3 a4 a5 a6 a7 a8 a9 aa ab ac ad ae af=>fun v=>.mk a0 a1 a2 a3 a4 a5 a6 a7 a8 a9 aa ab ac v ae af) x v
def A1.se (v:AV) (x:A1):A1:=A1.rec (motive:=fun _=>AV→A1) (fun v=>.mk .undef .undef .undef .undef .undef .undef .undef .undef .undef .undef .undef .undef .undef .undef v .undef) (fun a0 a1 a2 a3 a4 a5 a6 a7 a8 a9 aa ab ac ad ae af=>fun v=>.mk a0 a1 a2 a3 a4 a5 a6 a7 a8 a9 aa ab ac ad v af) x v
def A1.sf (v:AV) (x:A1):A1:=A1.rec (motive:=fun _=>AV→A1) (fun v=>.mk .undef .undef .undef .undef .undef .undef .undef .undef .undef .undef .undef .undef .undef .undef .undef v) (fun a0 a1 a2 a3 a4 a5 a6 a7 a8 a9 aa ab ac ad ae af=>fun v=>.mk a0 a1 a2 a3 a4 a5 a6 a7 a8 a9 aa ab ac ad ae v) x v
def A1.set (d:H):AV→A1→A1:=H.rec (motive:=fun _=>AV→A1→A1) A1.s0 A1.s1 A1.s2 A1.s3 A1.s4 A1.s5 A1.s6 A1.s7 A1.s8 A1.s9 A1.sa A1.sb A1.sc A1.sd A1.se A1.sf d
inductive A2 where
 | nil
 | mk (a0 a1 a2 a3 a4 a5 a6 a7 a8 a9 aa ab ac ad ae af:A1)
def A2.g0 (x:A2):A1:=A2.rec .nil (fun a0 a1 a2 a3 a4 a5 a6 a7 a8 a9 aa ab ac ad ae af=>a0) x
def A2.g1 (x:A2):A1:=A2.rec .nil (fun a0 a1 a2 a3 a4 a5 a6 a7 a8 a9 aa ab ac ad ae af=>a1) x
def A2.g2 (x:A2):A1:=A2.rec .nil (fun a0 a1 a2 a3 a4 a5 a6 a7 a8 a9 aa ab ac ad ae af=>a2) x
def A2.g3 (x:A2):A1:=A2.rec .nil (fun a0 a1 a2 a3 a4 a5 a6 a7 a8 a9 aa ab ac ad ae af=>a3) x
def A2.g4 (x:A2):A1:=A2.rec .nil (fun a0 a1 a2 a3 a4 a5 a6 a7 a8 a9 aa ab ac ad ae af=>a4) x
def A2.g5 (x:A2):A1:=A2.rec .nil (fun a0 a1 a2 a3 a4 a5 a6 a7 a8 a9 aa ab ac ad ae af=>a5) x
def A2.g6 (x:A2):A1:=A2.rec .nil (fun a0 a1 a2 a3 a4 a5 a6 a7 a8 a9 aa ab ac ad ae af=>a6) x
def A2.g7 (x:A2):A1:=A2.rec .nil (fun a0 a1 a2 a3 a4 a5 a6 a7 a8 a9 aa ab ac ad ae af=>a7) x
def A2.g8 (x:A2):A1:=A2.rec .nil (fun a0 a1 a2 a3 a4 a5 a6 a7 a8 a9 aa ab ac ad ae af=>a8) x
def A2.g9 (x:A2):A1:=A2.rec .nil (fun a0 a1 a2 a3 a4 a5 a6 a7 a8 a9 aa ab ac ad ae af=>a9) x
def A2.ga (x:A2):A1:=A2.rec .nil (fun a0 a1 a2 a3 a4 a5 a6 a7 a8 a9 aa ab ac ad ae af=>aa) x
def A2.gb (x:A2):A1:=A2.rec .nil (fun a0 a1 a2 a3 a4 a5 a6 a7 a8 a9 aa ab ac ad ae af=>ab) x
def A2.gc (x:A2):A1:=A2.rec .nil (fun a0 a1 a2 a3 a4 a5 a6 a7 a8 a9 aa ab ac ad ae af=>ac) x
def A2.gd (x:A2):A1:=A2.rec .nil (fun a0 a1 a2 a3 a4 a5 a6 a7 a8 a9 aa ab ac ad ae af=>ad) x
def A2.ge (x:A2):A1:=A2.rec .nil (fun a0 a1 a2 a3 a4 a5 a6 a7 a8 a9 aa ab ac ad ae af=>ae) x
def A2.gf (x:A2):A1:=A2.rec .nil (fun a0 a1 a2 a3 a4 a5 a6 a7 a8 a9 aa ab ac ad ae af=>af) x
def A2.get (d:H):A2→A1:=H.rec (motive:=fun _=>A2→A1) A2.g0 A2.g1 A2.g2 A2.g3 A2.g4 A2.g5 A2.g6 A2.g7 A2.g8 A2.g9 A2.ga A2.gb A2.gc A2.gd A2.ge A2.gf d
def A2.s0 (v:A1) (x:A2):A2:=A2.rec (motive:=fun _=>A1→A2) (fun v=>.mk v .nil .nil .nil .nil .nil .nil .nil .nil .nil .nil .nil .nil .nil .nil .nil) (fun a0 a1 a2 a3 a4 a5 a6 a7 a8 a9 aa ab ac ad ae af=>fun v=>.mk v a1 a2 a3 a4 a5 a6 a7 a8 a9 aa ab ac ad ae af) x v
def A2.s1 (v:A1) (x:A2):A2:=A2.rec (motive:=fun _=>A1→A2) (fun v=>.mk .nil v .nil .nil .nil .nil .nil .nil .nil .nil .nil .nil .nil .nil .nil .nil) (fun a0 a1 a2 a3 a4 a5 a6 a7 a8 a9 aa ab ac ad ae af=>fun v=>.mk a0 v a2 a3 a4 a5 a6 a7 a8 a9 aa ab ac ad ae af) x v
def A2.s2 (v:A1) (x:A2):A2:=A2.rec (motive:=fun _=>A1→A2) (fun v=>.mk .nil .nil v .nil .nil .nil .nil .nil .nil .nil .nil .nil .nil .nil .nil .nil) (fun a0 a1 a2 a3 a4 a5 a6 a7 a8 a9 aa ab ac ad ae af=>fun v=>.mk a0 a1 v a3 a4 a5 a6 a7 a8 a9 aa ab ac ad ae af) x v
def A2.s3 (v:A1) (x:A2):A2:=A2.rec (motive:=fun _=>A1→A2) (fun v=>.mk .nil .nil .nil v .nil .nil .nil .nil .nil .nil .nil .nil .nil .nil .nil .nil) (fun a0 a1 a2 a3 a4 a5 a6 a7 a8 a9 aa ab ac ad ae af=>fun v=>.mk a0 a1 a2 v a4 a5 a6 a7 a8 a9 aa ab ac ad ae af) x v
def A2.s4 (v:A1) (x:A2):A2:=A2.rec (motive:=fun _=>A1→A2) (fun v=>.mk .nil .nil .nil .nil v .nil .nil .nil .nil .nil .nil .nil .nil .nil .nil .nil) (fun a0 a1 a2 a3 a4 a5 a6 a7 a8 a9 aa ab ac ad ae af=>fun v=>.mk a0 a1 a2 a3 v a5 a6 a7 a8 a9 aa ab ac ad ae af) x v
def A2.s5 (v:A1) (x:A2):A2:=A2.rec (motive:=fun _=>A1→A2) (fun v=>.mk .nil .nil .nil .nil .nil v .nil .nil .nil .nil .nil .nil .nil .nil .nil .nil) (fun a0 a1 a2 a3 a4 a5 a6 a7 a8 a9 aa ab ac ad ae af=>fun v=>.mk a0 a1 a2 a3 a4 v a6 a7 a8 a9 aa ab ac ad ae af) x v
def A2.s6 (v:A1) (x:A2):A2:=A2.rec (motive:=fun _=>A1→A2) (fun v=>.mk .nil .nil .nil .nil .nil .nil v .nil .nil .nil .nil .nil .nil .nil .nil .nil) (fun a0 a1 a2 a3 a4 a5 a6 a7 a8 a9 aa ab ac ad ae af=>fun v=>.mk a0 a1 a2 a3 a4 a5 v a7 a8 a9 aa ab ac ad ae af) x v
def A2.s7 (v:A1) (x:A2):A2:=A2.rec (motive:=fun _=>A1→A2) (fun v=>.mk .nil .nil .nil .nil .nil .nil .nil v .nil .nil .nil .nil .nil .nil .nil .nil) (fun a0 a1 a2 a3 a4 a5 a6 a7 a8 a9 aa ab ac ad ae af=>fun v=>.mk a0 a1 a2 a3 a4 a5 a6 v a8 a9 aa ab ac ad ae af) x v
def A2.s8 (v:A1) (x:A2):A2:=A2.rec (motive:=fun _=>A1→A2) (fun v=>.mk .nil .nil .nil .nil .nil .nil .nil .nil v .nil .nil .nil .nil .nil .nil .nil) (fun a0 a1 a2 a3 a4 a5 a6 a7 a8 a9 aa ab ac ad ae af=>fun v=>.mk a0 a1 a2 a3 a4 a5 a6 a7 v a9 aa ab ac ad ae af) x v
def A2.s9 (v:A1) (x:A2):A2:=A2.rec (motive:=fun _=>A1→A2) (fun v=>.mk .nil .nil .nil .nil .nil .nil .nil .nil .nil v .nil .nil .nil .nil .nil .nil) (fun a0 a1 a2 a3 a4 a5 a6 a7 a8 a9 aa ab ac ad ae af=>fun v=>.mk a0 a1 a2 a3 a4 a5 a6 a7 a8 v aa ab ac ad ae af) x v
def A2.sa (v:A1) (x:A2):A2:=A2.rec (motive:=fun _=>A1→A2) (fun v=>.mk .nil .nil .nil .nil .nil .nil .nil .nil .nil .nil v .nil .nil .nil .nil .nil) (fun a0 a1 a2 a3 a4 a5 a6 a7 a8 a9 aa ab ac ad ae af=>fun v=>.mk a0 a1 a2 a3 a4 a5 a6 a7 a8 a9 v ab ac ad ae af) x v
def A2.sb (v:A1) (x:A2):A2:=A2.rec (motive:=fun _=>A1→A2) (fun v=>.mk .nil .nil .nil .nil .nil .nil .nil .nil .nil .nil .nil v .nil .nil .nil .nil) (fun a0 a1 a2 a3 a4 a5 a6 a7 a8 a9 aa ab ac ad ae af=>fun v=>.mk a0 a1 a2 a3 a4 a5 a6 a7 a8 a9 aa v ac ad ae af) x v
def A2.sc (v:A1) (x:A2):A2:=A2.rec (motive:=fun _=>A1→A2) (fun v=>.mk .nil .nil .nil .nil .nil .nil .nil .nil .nil .nil .nil .nil v .nil .nil .nil) (fun a0 a1 a2 a3 a4 a5 a6 a7 a8 a9 aa ab ac ad ae af=>fun v=>.mk a0 a1 a2 a3 a4 a5 a6 a7 a8 a9 aa ab v ad ae af) x v
def A2.sd (v:A1) (x:A2):A2:=A2.rec (motive:=fun _=>A1→A2) (fun v=>.mk .nil .nil .nil .nil .nil .nil .nil .nil .nil .nil .nil .nil .nil v .nil .nil) (fun a0 a1 a2 a3 a4 a5 a6 a7 a8 a9 aa ab ac ad ae af=>fun v=>.mk a0 a1 a2 a3 a4 a5 a6 a7 a8 a9 aa ab ac v ae af) x v
def A2.se (v:A1) (x:A2):A2:=A2.rec (motive:=fun _=>A1→A2) (fun v=>.mk .nil .nil .nil .nil .nil .nil .nil .nil .nil .nil .nil .nil .nil .nil v .nil) (fun a0 a1 a2 a3 a4 a5 a6 a7 a8 a9 aa ab ac ad ae af=>fun v=>.mk a0 a1 a2 a3 a4 a5 a6 a7 a8 a9 aa ab ac ad v af) x v
def A2.sf (v:A1) (x:A2):A2:=A2.rec (motive:=fun _=>A1→A2) (fun v=>.mk .nil .nil .nil .nil .nil .nil .nil .nil .nil .nil .nil .nil .nil .nil .nil v) (fun a0 a1 a2 a3 a4 a5 a6 a7 a8 a9 aa ab ac ad ae af=>fun v=>.mk a0 a1 a2 a3 a4 a5 a6 a7 a8 a9 aa ab ac ad ae v) x v
def A2.set (d:H):A1→A2→A2:=H.rec (motive:=fun _=>A1→A2→A2) A2.s0 A2.s1 A2.s2 A2.s3 A2.s4 A2.s5 A2.s6 A2.s7 A2.s8 A2.s9 A2.sa A2.sb A2.sc A2.sd A2.se A2.sf d
inductive A3 where
 | nil
 | mk (a0 a1 a2 a3 a4 a5 a6 a7 a8 a9 aa ab ac ad ae af:A2)
def A3.g0 (x:A3):A2:=A3.rec .nil (fun a0 a1 a2 a3 a4 a5 a6 a7 a8 a9 aa ab ac ad ae af=>a0) x
def A3.g1 (x:A3):A2:=A3.rec .nil (fun a0 a1 a2 a3 a4 a5 a6 a7 a8 a9 aa ab ac ad ae af=>a1) x
def A3.g2 (x:A3):A2:=A3.rec .nil (fun a0 a1 a2 a3 a4 a5 a6 a7 a8 a9 aa ab ac ad ae af=>a2) x
def A3.g3 (x:A3):A2:=A3.rec .nil (fun a0 a1 a2 a3 a4 a5 a6 a7 a8 a9 aa ab ac ad ae af=>a3) x
def A3.g4 (x:A3):A2:=A3.rec .nil (fun a0 a1 a2 a3 a4 a5 a6 a7 a8 a9 aa ab ac ad ae af=>a4) x
def A3.g5 (x:A3):A2:=A3.rec .nil (fun a0 a1 a2 a3 a4 a5 a6 a7 a8 a9 aa ab ac ad ae af=>a5) x
def A3.g6 (x:A3):A2:=A3.rec .nil (fun a0 a1 a2 a3 a4 a5 a6 a7 a8 a9 aa ab ac ad ae af=>a6) x
def A3.g7 (x:A3):A2:=A3.rec .nil (fun a0 a1 a2 a3 a4 a5 a6 a7 a8 a9 aa ab ac ad ae af=>a7) x
def A3.g8 (x:A3):A2:=A3.rec .nil (fun a0 a1 a2 a3 a4 a5 a6 a7 a8 a9 aa ab ac ad ae af=>a8) x
def A3.g9 (x:A3):A2:=A3.rec .nil (fun a0 a1 a2 a3 a4 a5 a6 a7 a8 a9 aa ab ac ad ae af=>a9) x
def A3.ga (x:A3):A2:=A3.rec .nil (fun a0 a1 a2 a3 a4 a5 a6 a7 a8 a9 aa ab ac ad ae af=>aa) x
def A3.gb (x:A3):A2:=A3.rec .nil (fun a0 a1 a2 a3 a4 a5 a6 a7 a8 a9 aa ab ac ad ae af=>ab) x
def A3.gc (x:A3):A2:=A3.rec .nil (fun a0 a1 a2 a3 a4 a5 a6 a7 a8 a9 aa ab ac ad ae af=>ac) x
def A3.gd (x:A3):A2:=A3.rec .nil (fun a0 a1 a2 a3 a4 a5 a6 a7 a8 a9 aa ab ac ad ae af=>ad) x
def A3.ge (x:A3):A2:=A3.rec .nil (fun a0 a1 a2 a3 a4 a5 a6 a7 a8 a9 aa ab ac ad ae af=>ae) x
def A3.gf (x:A3):A2:=A3.rec .nil (fun a0 a1 a2 a3 a4 a5 a6 a7 a8 a9 aa ab ac ad ae af=>af) x
def A3.get (d:H):A3→A2:=H.rec (motive:=fun _=>A3→A2) A3.g0 A3.g1 A3.g2 A3.g3 A3.g4 A3.g5 A3.g6 A3.g7 A3.g8 A3.g9 A3.ga A3.gb A3.gc A3.gd A3.ge A3.gf d
def A3.s0 (v:A2) (x:A3):A3:=A3.rec (motive:=fun _=>A2→A3) (fun v=>.mk v .nil .nil .nil .nil .nil .nil .nil .nil .nil .nil .nil .nil .nil .nil .nil) (fun a0 a1 a2 a3 a4 a5 a6 a7 a8 a9 aa ab ac ad ae af=>fun v=>.mk v a1 a2 a3 a4 a5 a6 a7 a8 a9 aa ab ac ad ae af) x v
def A3.s1 (v:A2) (x:A3):A3:=A3.rec (motive:=fun _=>A2→A3) (fun v=>.mk .nil v .nil .nil .nil .nil .nil .nil .nil .nil .nil .nil .nil .nil .nil .nil) (fun a0 a1 a2 a3 a4 a5 a6 a7 a8 a9 aa ab ac ad ae af=>fun v=>.mk a0 v a2 a3 a4 a5 a6 a7 a8 a9 aa ab ac ad ae af) x v
def A3.s2 (v:A2) (x:A3):A3:=A3.rec (motive:=fun _=>A2→A3) (fun v=>.mk .nil .nil v .nil .nil .nil .nil .nil .nil .nil .nil .nil .nil .nil .nil .nil) (fun a0 a1 a2 a3 a4 a5 a6 a7 a8 a9 aa ab ac ad ae af=>fun v=>.mk a0 a1 v a3 a4 a5 a6 a7 a8 a9 aa ab ac ad ae af) x v
def A3.s3 (v:A2) (x:A3):A3:=A3.rec (motive:=fun _=>A2→A3) (fun v=>.mk .nil .nil .nil v .nil .nil .nil .nil .nil .nil .nil .nil .nil .nil .nil .nil) (fun a0 a1 a2 a3 a4 a5 a6 a7 a8 a9 aa ab ac ad ae af=>fun v=>.mk a0 a1 a2 v a4 a5 a6 a7 a8 a9 aa ab ac ad ae af) x v
def A3.s4 (v:A2) (x:A3):A3:=A3.rec (motive:=fun _=>A2→A3) (fun v=>.mk .nil .nil .nil .nil v .nil .nil .nil .nil .nil .nil .nil .nil .nil .nil .nil) (fun a0 a1 a2 a3 a4 a5 a6 a7 a8 a9 aa ab ac ad ae af=>fun v=>.mk a0 a1 a2 a3 v a5 a6 a7 a8 a9 aa ab ac ad ae af) x v
def A3.s5 (v:A2) (x:A3):A3:=A3.rec (motive:=fun _=>A2→A3) (fun v=>.mk .nil .nil .nil .nil .nil v .nil .nil .nil .nil .nil .nil .nil .nil .nil .nil) (fun a0 a1 a2 a3 a4 a5 a6 a7 a8 a9 aa ab ac ad ae af=>fun v=>.mk a0 a1 a2 a3 a4 v a6 a7 a8 a9 aa ab ac ad ae af) x v
def A3.s6 (v:A2) (x:A3):A3:=A3.rec (motive:=fun _=>A2→A3) (fun v=>.mk .nil .nil .nil .nil .nil .nil v .nil .nil .nil .nil .nil .nil .nil .nil .nil) (fun a0 a1 a2 a3 a4 a5 a6 a7 a8 a9 aa ab ac ad ae af=>fun v=>.mk a0 a1 a2 a3 a4 a5 v a7 a8 a9 aa ab ac ad ae af) x v
def A3.s7 (v:A2) (x:A3):A3:=A3.rec (motive:=fun _=>A2→A3) (fun v=>.mk .nil .nil .nil .nil .nil .nil .nil v .nil .nil .nil .nil .nil .nil .nil .nil) (fun a0 a1 a2 a3 a4 a5 a6 a7 a8 a9 aa ab ac ad ae af=>fun v=>.mk a0 a1 a2 a3 a4 a5 a6 v a8 a9 aa ab ac ad ae af) x v
def A3.s8 (v:A2) (x:A3):A3:=A3.rec (motive:=fun _=>A2→A3) (fun v=>.mk .nil .nil .nil .nil .nil .nil .nil .nil v .nil .nil .nil .nil .nil .nil .nil) (fun a0 a1 a2 a3 a4 a5 a6 a7 a8 a9 aa ab ac ad ae af=>fun v=>.mk a0 a1 a2 a3 a4 a5 a6 a7 v a9 aa ab ac ad ae af) x v
def A3.s9 (v:A2) (x:A3):A3:=A3.rec (motive:=fun _=>A2→A3) (fun v=>.mk .nil .nil .nil .nil .nil .nil .nil .nil .nil v .nil .nil .nil .nil .nil .nil) (fun a0 a1 a2 a3 a4 a5 a6 a7 a8 a9 aa ab ac ad ae af=>fun v=>.mk a0 a1 a2 a3 a4 a5 a6 a7 a8 v aa ab ac ad ae af) x v
def A3.sa (v:A2) (x:A3):A3:=A3.rec (motive:=fun _=>A2→A3) (fun v=>.mk .nil .nil .nil .nil .nil .nil .nil .nil .nil .nil v .nil .nil .nil .nil .nil) (fun a0 a1 a2 a3 a4 a5 a6 a7 a8 a9 aa ab ac ad ae af=>fun v=>.mk a0 a1 a2 a3 a4 a5 a6 a7 a8 a9 v ab ac ad ae af) x v
def A3.sb (v:A2) (x:A3):A3:=A3.rec (motive:=fun _=>A2→A3) (fun v=>.mk .nil .nil .nil .nil .nil .nil .nil .nil .nil .nil .nil v .nil .nil .nil .nil) (fun a0 a1 a2 a3 a4 a5 a6 a7 a8 a9 aa ab ac ad ae af=>fun v=>.mk a0 a1 a2 a3 a4 a5 a6 a7 a8 a9 aa v ac ad ae af) x v
def A3.sc (v:A2) (x:A3):A3:=A3.rec (motive:=fun _=>A2→A3) (fun v=>.mk .nil .nil .nil .nil .nil .nil .nil .nil .nil .nil .nil .nil v .nil .nil .nil) (fun a0 a1 a2 a3 a4 a5 a6 a7 a8 a9 aa ab ac ad ae af=>fun v=>.mk a0 a1 a2 a3 a4 a5 a6 a7 a8 a9 aa ab v ad ae af) x v
def A3.sd (v:A2) (x:A3):A3:=A3.rec (motive:=fun _=>A2→A3) (fun v=>.mk .nil .nil .nil .nil .nil .nil .nil .nil .nil .nil .nil .nil .nil v .nil .nil) (fun a0 a1 a2 a3 a4 a5 a6 a7 a8 a9 aa ab ac ad ae af=>fun v=>.mk a0 a1 a2 a3 a4 a5 a6 a7 a8 a9 aa ab ac v ae af) x v
def A3.se (v:A2) (x:A3):A3:=A3.rec (motive:=fun _=>A2→A3) (fun v=>.mk .nil .nil .nil .nil .nil .nil .nil .nil .nil .nil .nil .nil .nil .nil v .nil) (fun a0 a1 a2 a3 a4 a5 a6 a7 a8 a9 aa ab ac ad ae af=>fun v=>.mk a0 a1 a2 a3 a4 a5 a6 a7 a8 a9 aa ab ac ad v af) x v
def A3.sf (v:A2) (x:A3):A3:=A3.rec (motive:=fun _=>A2→A3) (fun v=>.mk .nil .nil .nil .nil .nil .nil .nil .nil .nil .nil .nil .nil .nil .nil .nil v) (fun a0 a1 a2 a3 a4 a5 a6 a7 a8 a9 aa ab ac ad ae af=>fun v=>.mk a0 a1 a2 a3 a4 a5 a6 a7 a8 a9 aa ab ac ad ae v) x v
def A3.set (d:H):A2→A3→A3:=H.rec (motive:=fun _=>A2→A3→A3) A3.s0 A3.s1 A3.s2 A3.s3 A3.s4 A3.s5 A3.s6 A3.s7 A3.s8 A3.s9 A3.sa A3.sb A3.sc A3.sd A3.se A3.sf d
inductive A4 where
 | nil
 | mk (a0 a1 a2 a3 a4 a5 a6 a7 a8 a9 aa ab ac ad ae af:A3)
def A4.g0 (x:A4):A3:=A4.rec .nil (fun a0 a1 a2 a3 a4 a5 a6 a7 a8 a9 aa ab ac ad ae af=>a0) x
def A4.g1 (x:A4):A3:=A4.rec .nil (fun a0 a1 a2 a3 a4 a5 a6 a7 a8 a9 aa ab ac ad ae af=>a1) x
def A4.g2 (x:A4):A3:=A4.rec .nil (fun a0 a1 a2 a3 a4 a5 a6 a7 a8 a9 aa ab ac ad ae af=>a2) x
def A4.g3 (x:A4):A3:=A4.rec .nil (fun a0 a1 a2 a3 a4 a5 a6 a7 a8 a9 aa ab ac ad ae af=>a3) x
def A4.g4 (x:A4):A3:=A4.rec .nil (fun a0 a1 a2 a3 a4 a5 a6 a7 a8 a9 aa ab ac ad ae af=>a4) x
def A4.g5 (x:A4):A3:=A4.rec .nil (fun a0 a1 a2 a3 a4 a5 a6 a7 a8 a9 aa ab ac ad ae af=>a5) x
def A4.g6 (x:A4):A3:=A4.rec .nil (fun a0 a1 a2 a3 a4 a5 a6 a7 a8 a9 aa ab ac ad ae af=>a6) x
def A4.g7 (x:A4):A3:=A4.rec .nil (fun a0 a1 a2 a3 a4 a5 a6 a7 a8 a9 aa ab ac ad ae af=>a7) x
def A4.g8 (x:A4):A3:=A4.rec .nil (fun a0 a1 a2 a3 a4 a5 a6 a7 a8 a9 aa ab ac ad ae af=>a8) x
def A4.g9 (x:A4):A3:=A4.rec .nil (fun a0 a1 a2 a3 a4 a5 a6 a7 a8 a9 aa ab ac ad ae af=>a9) x
def A4.ga (x:A4):A3:=A4.rec .nil (fun a0 a1 a2 a3 a4 a5 a6 a7 a8 a9 aa ab ac ad ae af=>aa) x
def A4.gb (x:A4):A3:=A4.rec .nil (fun a0 a1 a2 a3 a4 a5 a6 a7 a8 a9 aa ab ac ad ae af=>ab) x
def A4.gc (x:A4):A3:=A4.rec .nil (fun a0 a1 a2 a3 a4 a5 a6 a7 a8 a9 aa ab ac ad ae af=>ac) x
def A4.gd (x:A4):A3:=A4.rec .nil (fun a0 a1 a2 a3 a4 a5 a6 a7 a8 a9 aa ab ac ad ae af=>ad) x
def A4.ge (x:A4):A3:=A4.rec .nil (fun a0 a1 a2 a3 a4 a5 a6 a7 a8 a9 aa ab ac ad ae af=>ae) x
def A4.gf (x:A4):A3:=A4.rec .nil (fun a0 a1 a2 a3 a4 a5 a6 a7 a8 a9 aa ab ac ad ae af=>af) x
def A4.get (d:H):A4→A3:=H.rec (motive:=fun _=>A4→A3) A4.g0 A4.g1 A4.g2 A4.g3 A4.g4 A4.g5 A4.g6 A4.g7 A4.g8 A4.g9 A4.ga A4.gb A4.gc A4.gd A4.ge A4.gf d
def A4.s0 (v:A3) (x:A4):A4:=A4.rec (motive:=fun _=>A3→A4) (fun v=>.mk v .nil .nil .nil .nil .nil .nil .nil .nil .nil .nil .nil .nil .nil .nil .nil) (fun a0 a1 a2 a3 a4 a5 a6 a7 a8 a9 aa ab ac ad ae af=>fun v=>.mk v a1 a2 a3 a4 a5 a6 a7 a8 a9 aa ab ac ad ae af) x v
def A4.s1 (v:A3) (x:A4):A4:=A4.rec (motive:=fun _=>A3→A4) (fun v=>.mk .nil v .nil .nil .nil .nil .nil .nil .nil .nil .nil .nil .nil .nil .nil .nil) (fun a0 a1 a2 a3 a4 a5 a6 a7 a8 a9 aa ab ac ad ae af=>fun v=>.mk a0 v a2 a3 a4 a5 a6 a7 a8 a9 aa ab ac ad ae af) x v
def A4.s2 (v:A3) (x:A4):A4:=A4.rec (motive:=fun _=>A3→A4) (fun v=>.mk .nil .nil v .nil .nil .nil .nil .nil .nil .nil .nil .nil .nil .nil .nil .nil) (fun a0 a1 a2 a3 a4 a5 a6 a7 a8 a9 aa ab ac ad ae af=>fun v=>.mk a0 a1 v a3 a4 a5 a6 a7 a8 a9 aa ab ac ad ae af) x v
def A4.s3 (v:A3) (x:A4):A4:=A4.rec (motive:=fun _=>A3→A4) (fun v=>.mk .nil .nil .nil v .nil .nil .nil .nil .nil .nil .nil .nil .nil .nil .nil .nil) (fun a0 a1 a2 a3 a4 a5 a6 a7 a8 a9 aa ab ac ad ae af=>fun v=>.mk a0 a1 a2 v a4 a5 a6 a7 a8 a9 aa ab ac ad ae af) x v
def A4.s4 (v:A3) (x:A4):A4:=A4.rec (motive:=fun _=>A3→A4) (fun v=>.mk .nil .nil .nil .nil v .nil .nil .nil .nil .nil .nil .nil .nil .nil .nil .nil) (fun a0 a1 a2 a3 a4 a5 a6 a7 a8 a9 aa ab ac ad ae af=>fun v=>.mk a0 a1 a2 a3 v a5 a6 a7 a8 a9 aa ab ac ad ae af) x v
def A4.s5 (v:A3) (x:A4):A4:=A4.rec (motive:=fun _=>A3→A4) (fun v=>.mk .nil .nil .nil .nil .nil v .nil .nil .nil .nil .nil .nil .nil .nil .nil .nil) (fun a0 a1 a2 a3 a4 a5 a6 a7 a8 a9 aa ab ac ad ae af=>fun v=>.mk a0 a1 a2 a3 a4 v a6 a7 a8 a9 aa ab ac ad ae af) x v
def A4.s6 (v:A3) (x:A4):A4:=A4.rec (motive:=fun _=>A3→A4) (fun v=>.mk .nil .nil .nil .nil .nil .nil v .nil .nil .nil .nil .nil .nil .nil .nil .nil) (fun a0 a1 a2 a3 a4 a5 a6 a7 a8 a9 aa ab ac ad ae af=>fun v=>.mk a0 a1 a2 a3 a4 a5 v a7 a8 a9 aa ab ac ad ae af) x v
def A4.s7 (v:A3) (x:A4):A4:=A4.rec (motive:=fun _=>A3→A4) (fun v=>.mk .nil .nil .nil .nil .nil .nil .nil v .nil .nil .nil .nil .nil .nil .nil .nil) (fun a0 a1 a2 a3 a4 a5 a6 a7 a8 a9 aa ab ac ad ae af=>fun v=>.mk a0 a1 a2 a3 a4 a5 a6 v a8 a9 aa ab ac ad ae af) x v
def A4.s8 (v:A3) (x:A4):A4:=A4.rec (motive:=fun _=>A3→A4) (fun v=>.mk .nil .nil .nil .nil .nil .nil .nil .nil v .nil .nil .nil .nil .nil .nil .nil) (fun a0 a1 a2 a3 a4 a5 a6 a7 a8 a9 aa ab ac ad ae af=>fun v=>.mk a0 a1 a2 a3 a4 a5 a6 a7 v a9 aa ab ac ad ae af) x v
def A4.s9 (v:A3) (x:A4):A4:=A4.rec (motive:=fun _=>A3→A4) (fun v=>.mk .nil .nil .nil .nil .nil .nil .nil .nil .nil v .nil .nil .nil .nil .nil .nil) (fun a0 a1 a2 a3 a4 a5 a6 a7 a8 a9 aa ab ac ad ae af=>fun v=>.mk a0 a1 a2 a3 a4 a5 a6 a7 a8 v aa ab ac ad ae af) x v
def A4.sa (v:A3) (x:A4):A4:=A4.rec (motive:=fun _=>A3→A4) (fun v=>.mk .nil .nil .nil .nil .nil .nil .nil .nil .nil .nil v .nil .nil .nil .nil .nil) (fun a0 a1 a2 a3 a4 a5 a6 a7 a8 a9 aa ab ac ad ae af=>fun v=>.mk a0 a1 a2 a3 a4 a5 a6 a7 a8 a9 v ab ac ad ae af) x v
def A4.sb (v:A3) (x:A4):A4:=A4.rec (motive:=fun _=>A3→A4) (fun v=>.mk .nil .nil .nil .nil .nil .nil .nil .nil .nil .nil .nil v .nil .nil .nil .nil) (fun a0 a1 a2 a3 a4 a5 a6 a7 a8 a9 aa ab ac ad ae af=>fun v=>.mk a0 a1 a2 a3 a4 a5 a6 a7 a8 a9 aa v ac ad ae af) x v
def A4.sc (v:A3) (x:A4):A4:=A4.rec (motive:=fun _=>A3→A4) (fun v=>.mk .nil .nil .nil .nil .nil .nil .nil .nil .nil .nil .nil .nil v .nil .nil .nil) (fun a0 a1 a2 a3 a4 a5 a6 a7 a8 a9 aa ab ac ad ae af=>fun v=>.mk a0 a1 a2 a3 a4 a5 a6 a7 a8 a9 aa ab v ad ae af) x v
def A4.sd (v:A3) (x:A4):A4:=A4.rec (motive:=fun _=>A3→A4) (fun v=>.mk .nil .nil .nil .nil .nil .nil .nil .nil .nil .nil .nil .nil .nil v .nil .nil) (fun a0 a1 a2 a3 a4 a5 a6 a7 a8 a9 aa ab ac ad ae af=>fun v=>.mk a0 a1 a2 a3 a4 a5 a6 a7 a8 a9 aa ab ac v ae af) x v
def A4.se (v:A3) (x:A4):A4:=A4.rec (motive:=fun _=>A3→A4) (fun v=>.mk .nil .nil .nil .nil .nil .nil .nil .nil .nil .nil .nil .nil .nil .nil v .nil) (fun a0 a1 a2 a3 a4 a5 a6 a7 a8 a9 aa ab ac ad ae af=>fun v=>.mk a0 a1 a2 a3 a4 a5 a6 a7 a8 a9 aa ab ac ad v af) x v
def A4.sf (v:A3) (x:A4):A4:=A4.rec (motive:=fun _=>A3→A4) (fun v=>.mk .nil .nil .nil .nil .nil .nil .nil .nil .nil .nil .nil .nil .nil .nil .nil v) (fun a0 a1 a2 a3 a4 a5 a6 a7 a8 a9 aa ab ac ad ae af=>fun v=>.mk a0 a1 a2 a3 a4 a5 a6 a7 a8 a9 aa ab ac ad ae v) x v
def A4.set (d:H):A3→A4→A4:=H.rec (motive:=fun _=>A3→A4→A4) A4.s0 A4.s1 A4.s2 A4.s3 A4.s4 A4.s5 A4.s6 A4.s7 A4.s8 A4.s9 A4.sa A4.sb A4.sc A4.sd A4.se A4.sf d
inductive Cl where
 | k1 (x:A1)
 | k2 (x:A2)
 | k3 (x:A3)
 | k4 (x:A4)
inductive Fl where
 | plain
 | mark
 | wV
inductive Obj where
 | none
 | dead
 | cells (el n:Nat) (ex:Bool) (fl:Fl) (c:Cl)
 | map (l:List KV) (clock:Nat)
 | Aa (s:List Nat) (pos:Nat)
 | vq (m:P4) (since:Nat) (seen:List Nat) (last:Nat)
 | Ab
inductive O1 where
 | nil
 | mk (a0 a1 a2 a3 a4 a5 a6 a7 a8 a9 aa ab ac ad ae af:Obj)
def O1.g0 (x:O1):Obj:=O1.rec .none (fun a0 a1 a2 a3 a4 a5 a6 a7 a8 a9 aa ab ac ad ae af=>a0) x
def O1.g1 (x:O1):Obj:=O1.rec .none (fun a0 a1 a2 a3 a4 a5 a6 a7 a8 a9 aa ab ac ad ae af=>a1) x
def O1.g2 (x:O1):Obj:=O1.rec .none (fun a0 a1 a2 a3 a4 a5 a6 a7 a8 a9 aa ab ac ad ae af=>a2) x
def O1.g3 (x:O1):Obj:=O1.rec .none (fun a0 a1 a2 a3 a4 a5 a6 a7 a8 a9 aa ab ac ad ae af=>a3) x
def O1.g4 (x:O1):Obj:=O1.rec .none (fun a0 a1 a2 a3 a4 a5 a6 a7 a8 a9 aa ab ac ad ae af=>a4) x
def O1.g5 (x:O1):Obj:=O1.rec .none (fun a0 a1 a2 a3 a4 a5 a6 a7 a8 a9 aa ab ac ad ae af=>a5) x
def O1.g6 (x:O1):Obj:=O1.rec .none (fun a0 a1 a2 a3 a4 a5 a6 a7 a8 a9 aa ab ac ad ae af=>a6) x
def O1.g7 (x:O1):Obj:=O1.rec .none (fun a0 a1 a2 a3 a4 a5 a6 a7 a8 a9 aa ab ac ad ae af=>a7) x
def O1.g8 (x:O1):Obj:=O1.rec .none (fun a0 a1 a2 a3 a4 a5 a6 a7 a8 a9 aa ab ac ad ae af=>a8) x
def O1.g9 (x:O1):Obj:=O1.rec .none (fun a0 a1 a2 a3 a4 a5 a6 a7 a8 a9 aa ab ac ad ae af=>a9) x
def O1.ga (x:O1):Obj:=O1.rec .none (fun a0 a1 a2 a3 a4 a5 a6 a7 a8 a9 aa ab ac ad ae af=>aa) x
def O1.gb (x:O1):Obj:=O1.rec .none (fun a0 a1 a2 a3 a4 a5 a6 a7 a8 a9 aa ab ac ad ae af=>ab) x
def O1.gc (x:O1):Obj:=O1.rec .none (fun a0 a1 a2 a3 a4 a5 a6 a7 a8 a9 aa ab ac ad ae af=>ac) x
def O1.gd (x:O1):Obj:=O1.rec .none (fun a0 a1 a2 a3 a4 a5 a6 a7 a8 a9 aa ab ac ad ae af=>ad) x
def O1.ge (x:O1):Obj:=O1.rec .none (fun a0 a1 a2 a3 a4 a5 a6 a7 a8 a9 aa ab ac ad ae af=>ae) x
def O1.gf (x:O1):Obj:=O1.rec .none (fun a0 a1 a2 a3 a4 a5 a6 a7 a8 a9 aa ab ac ad ae af=>af) x
def O1.get (d:H):O1→Obj:=H.rec (motive:=fun _=>O1→Obj) O1.g0 O1.g1 O1.g2 O1.g3 O1.g4 O1.g5 O1.g6 O1.g7 O1.g8 O1.g9 O1.ga O1.gb O1.gc O1.gd O1.ge O1.gf d
def O1.s0 (v:Obj) (x:O1):O1:=O1.rec (motive:=fun _=>Obj→O1) (fun v=>.mk v .none .none .none .none .none .none .none .none .none .none .none .none .none .none .none) (fun a0 a1 a2 a3 a4 a5 a6 a7 a8 a9 aa ab ac ad ae af=>fun v=>.mk v a1 a2 a3 a4 a5 a6 a7 a8 a9 aa ab ac ad ae af) x v
def O1.s1 (v:Obj) (x:O1):O1:=O1.rec (motive:=fun _=>Obj→O1) (fun v=>.mk .none v .none .none .none .none .none .none .none .none .none .none .none .none .none .none) (fun a0 a1 a2 a3 a4 a5 a6 a7 a8 a9 aa ab ac ad ae af=>fun v=>.mk a0 v a2 a3 a4 a5 a6 a7 a8 a9 aa ab ac ad ae af) x v
def O1.s2 (v:Obj) (x:O1):O1:=O1.rec (motive:=fun _=>Obj→O1) (fun v=>.mk .none .none v .none .none .none .none .none .none .none .none .none .none .none .none .none) (fun a0 a1 a2 a3 a4 a5 a6 a7 a8 a9 aa ab ac ad ae af=>fun v=>.mk a0 a1 v a3 a4 a5 a6 a7 a8 a9 aa ab ac ad ae af) x v
def O1.s3 (v:Obj) (x:O1):O1:=O1.rec (motive:=fun _=>Obj→O1) (fun v=>.mk .none .none .none v .none .none .none .none .none .none .none .none .none .none .none .none) (fun a0 a1 a2 a3 a4 a5 a6 a7 a8 a9 aa ab ac ad ae af=>fun v=>.mk a0 a1 a2 v a4 a5 a6 a7 a8 a9 aa ab ac ad ae af) x v
def O1.s4 (v:Obj) (x:O1):O1:=O1.rec (motive:=fun _=>Obj→O1) (fun v=>.mk .none .none .none .none v .none .none .none .none .none .none .none .none .none .none .none) (fun a0 a1 a2 a3 a4 a5 a6 a7 a8 a9 aa ab ac ad ae af=>fun v=>.mk a0 a1 a2 a3 v a5 a6 a7 a8 a9 aa ab ac ad ae af) x v
def O1.s5 (v:Obj) (x:O1):O1:=O1.rec (motive:=fun _=>Obj→O1) (fun v=>.mk .none .none .none .none .none v .none .none .none .none .none .none .none .none .none .none) (fun a0 a1 a2 a3 a4 a5 a6 a7 a8 a9 aa ab ac ad ae af=>fun v=>.mk a0 a1 a2 a3 a4 v a6 a7 a8 a9 aa ab ac ad ae af) x v
def O1.s6 (v:Obj) (x:O1):O1:=O1.rec (motive:=fun _=>Obj→O1) (fun v=>.mk .none .none .none .none .none .none v .none .none .none .none .none .none .none .none .none) (fun a0 a1 a2 a3 a4 a5 a6 a7 a8 a9 aa ab ac ad ae af=>fun v=>.mk a0 a1 a2 a3 a4 a5 v a7 a8 a9 aa ab ac ad ae af) x v
def O1.s7 (v:Obj) (x:O1):O1:=O1.rec (motive:=fun _=>Obj→O1) (fun v=>.mk .none .none .none .none .none .none .none v .none .none .none .none .none .none .none .none) (fun a0 a1 a2 a3 a4 a5 a6 a7 a8 a9 aa ab ac ad ae af=>fun v=>.mk a0 a1 a2 a3 a4 a5 a6 v a8 a9 aa ab ac ad ae af) x v
def O1.s8 (v:Obj) (x:O1):O1:=O1.rec (motive:=fun _=>Obj→O1) (fun v=>.mk .none .none .none .none .none .none .none .none v .none .none .none .none .none .none .none) (fun a0 a1 a2 a3 a4 a5 a6 a7 a8 a9 aa ab ac ad ae af=>fun v=>.mk a0 a1 a2 a3 a4 a5 a6 a7 v a9 aa ab ac ad ae af) x v
def O1.s9 (v:Obj) (x:O1):O1:=O1.rec (motive:=fun _=>Obj→O1) (fun v=>.mk .none .none .none .none .none .none .none .none .none v .none .none .none .none .none .none) (fun a0 a1 a2 a3 a4 a5 a6 a7 a8 a9 aa ab ac ad ae af=>fun v=>.mk a0 a1 a2 a3 a4 a5 a6 a7 a8 v aa ab ac ad ae af) x v
def O1.sa (v:Obj) (x:O1):O1:=O1.rec (motive:=fun _=>Obj→O1) (fun v=>.mk .none .none .none .none .none .none .none .none .none .none v .none .none .none .none .none) (fun a0 a1 a2 a3 a4 a5 a6 a7 a8 a9 aa ab ac ad ae af=>fun v=>.mk a0 a1 a2 a3 a4 a5 a6 a7 a8 a9 v ab ac ad ae af) x v
def O1.sb (v:Obj) (x:O1):O1:=O1.rec (motive:=fun _=>Obj→O1) (fun v=>.mk .none .none .none .none .none .none .none .none .none .none .none v .none .none .none .none) (fun a0 a1 a2 a3 a4 a5 a6 a7 a8 a9 aa ab ac ad ae af=>fun v=>.mk a0 a1 a2 a3 a4 a5 a6 a7 a8 a9 aa v ac ad ae af) x v
def O1.sc (v:Obj) (x:O1):O1:=O1.rec (motive:=fun _=>Obj→O1) (fun v=>.mk .none .none .none .none .none .none .none .none .none .none .none .none v .none .none .none) (fun a0 a1 a2 a3 a4 a5 a6 a7 a8 a9 aa ab ac ad ae af=>fun v=>.mk a0 a1 a2 a3 a4 a5 a6 a7 a8 a9 aa ab v ad ae af) x v
def O1.sd (v:Obj) (x:O1):O1:=O1.rec (motive:=fun _=>Obj→O1) (fun v=>.mk .none .none .none .none .none .none .none .none .none .none .none .none .none v .none .none) (fun a0 a1 a2 a3 a4 a5 a6 a7 a8 a9 aa ab ac ad ae af=>fun v=>.mk a0 a1 a2 a3 a4 a5 a6 a7 a8 a9 aa ab ac v ae af) x v
def O1.se (v:Obj) (x:O1):O1:=O1.rec (motive:=fun _=>Obj→O1) (fun v=>.mk .none .none .none .none .none .none .none .none .none .none .none .none .none .none v .none) (fun a0 a1 a2 a3 a4 a5 a6 a7 a8 a9 aa ab ac ad ae af=>fun v=>.mk a0 a1 a2 a3 a4 a5 a6 a7 a8 a9 aa ab ac ad v af) x v
def O1.sf (v:Obj) (x:O1):O1:=O1.rec (motive:=fun _=>Obj→O1) (fun v=>.mk .none .none .none .none .none .none .none .none .none .none .none .none .none .none .none v) (fun a0 a1 a2 a3 a4 a5 a6 a7 a8 a9 aa ab ac ad ae af=>fun v=>.mk a0 a1 a2 a3 a4 a5 a6 a7 a8 a9 aa ab ac ad ae v) x v
def O1.set (d:H):Obj→O1→O1:=H.rec (motive:=fun _=>Obj→O1→O1) O1.s0 O1.s1 O1.s2 O1.s3 O1.s4 O1.s5 O1.s6 O1.s7 O1.s8 O1.s9 O1.sa O1.sb O1.sc O1.sd O1.se O1.sf d
inductive O2 where
 | nil
 | mk (a0 a1 a2 a3 a4 a5 a6 a7 a8 a9 aa ab ac ad ae af:O1)
def O2.g0 (x:O2):O1:=O2.rec .nil (fun a0 a1 a2 a3 a4 a5 a6 a7 a8 a9 aa ab ac ad ae af=>a0) x
def O2.g1 (x:O2):O1:=O2.rec .nil (fun a0 a1 a2 a3 a4 a5 a6 a7 a8 a9 aa ab ac ad ae af=>a1) x
def O2.g2 (x:O2):O1:=O2.rec .nil (fun a0 a1 a2 a3 a4 a5 a6 a7 a8 a9 aa ab ac ad ae af=>a2) x
def O2.g3 (x:O2):O1:=O2.rec .nil (fun a0 a1 a2 a3 a4 a5 a6 a7 a8 a9 aa ab ac ad ae af=>a3) x
def O2.g4 (x:O2):O1:=O2.rec .nil (fun a0 a1 a2 a3 a4 a5 a6 a7 a8 a9 aa ab ac ad ae af=>a4) x
def O2.g5 (x:O2):O1:=O2.rec .nil (fun a0 a1 a2 a3 a4 a5 a6 a7 a8 a9 aa ab ac ad ae af=>a5) x
def O2.g6 (x:O2):O1:=O2.rec .nil (fun a0 a1 a2 a3 a4 a5 a6 a7 a8 a9 aa ab ac ad ae af=>a6) x
def O2.g7 (x:O2):O1:=O2.rec .nil (fun a0 a1 a2 a3 a4 a5 a6 a7 a8 a9 aa ab ac ad ae af=>a7) x
def O2.g8 (x:O2):O1:=O2.rec .nil (fun a0 a1 a2 a3 a4 a5 a6 a7 a8 a9 aa ab ac ad ae af=>a8) x
def O2.g9 (x:O2):O1:=O2.rec .nil (fun a0 a1 a2 a3 a4 a5 a6 a7 a8 a9 aa ab ac ad ae af=>a9) x
def O2.ga (x:O2):O1:=O2.rec .nil (fun a0 a1 a2 a3 a4 a5 a6 a7 a8 a9 aa ab ac ad ae af=>aa) x
def O2.gb (x:O2):O1:=O2.rec .nil (fun a0 a1 a2 a3 a4 a5 a6 a7 a8 a9 aa ab ac ad ae af=>ab) x
def O2.gc (x:O2):O1:=O2.rec .nil (fun a0 a1 a2 a3 a4 a5 a6 a7 a8 a9 aa ab ac ad ae af=>ac) x
def O2.gd (x:O2):O1:=O2.rec .nil (fun a0 a1 a2 a3 a4 a5 a6 a7 a8 a9 aa ab ac ad ae af=>ad) x
def O2.ge (x:O2):O1:=O2.rec .nil (fun a0 a1 a2 a3 a4 a5 a6 a7 a8 a9 aa ab ac ad ae af=>ae) x
def O2.gf (x:O2):O1:=O2.rec .nil (fun a0 a1 a2 a3 a4 a5 a6 a7 a8 a9 aa ab ac ad ae af=>af) x
def O2.get (d:H):O2→O1:=H.rec (motive:=fun _=>O2→O1) O2.g0 O2.g1 O2.g2 O2.g3 O2.g4 O2.g5 O2.g6 O2.g7 O2.g8 O2.g9 O2.ga O2.gb O2.gc O2.gd O2.ge O2.gf d
def O2.s0 (v:O1) (x:O2):O2:=O2.rec (motive:=fun _=>O1→O2) (fun v=>.mk v .nil .nil .nil .nil .nil .nil .nil .nil .nil .nil .nil .nil .nil .nil .nil) (fun a0 a1 a2 a3 a4 a5 a6 a7 a8 a9 aa ab ac ad ae af=>fun v=>.mk v a1 a2 a3 a4 a5 a6 a7 a8 a9 aa ab ac ad ae af) x v
def O2.s1 (v:O1) (x:O2):O2:=O2.rec (motive:=fun _=>O1→O2) (fun v=>.mk .nil v .nil .nil .nil .nil .nil .nil .nil .nil .nil .nil .nil .nil .nil .nil) (fun a0 a1 a2 a3 a4 a5 a6 a7 a8 a9 aa ab ac ad ae af=>fun v=>.mk a0 v a2 a3 a4 a5 a6 a7 a8 a9 aa ab ac ad ae af) x v
def O2.s2 (v:O1) (x:O2):O2:=O2.rec (motive:=fun _=>O1→O2) (fun v=>.mk .nil .nil v .nil .nil .nil .nil .nil .nil .nil .nil .nil .nil .nil .nil .nil) (fun a0 a1 a2 a3 a4 a5 a6 a7 a8 a9 aa ab ac ad ae af=>fun v=>.mk a0 a1 v a3 a4 a5 a6 a7 a8 a9 aa ab ac ad ae af) x v
def O2.s3 (v:O1) (x:O2):O2:=O2.rec (motive:=fun _=>O1→O2) (fun v=>.mk .nil .nil .nil v .nil .nil .nil .nil .nil .nil .nil .nil .nil .nil .nil .nil) (fun a0 a1 a2 a3 a4 a5 a6 a7 a8 a9 aa ab ac ad ae af=>fun v=>.mk a0 a1 a2 v a4 a5 a6 a7 a8 a9 aa ab ac ad ae af) x v
def O2.s4 (v:O1) (x:O2):O2:=O2.rec (motive:=fun _=>O1→O2) (fun v=>.mk .nil .nil .nil .nil v .nil .nil .nil .nil .nil .nil .nil .nil .nil .nil .nil) (fun a0 a1 a2 a3 a4 a5 a6 a7 a8 a9 aa ab ac ad ae af=>fun v=>.mk a0 a1 a2 a3 v a5 a6 a7 a8 a9 aa ab ac ad ae af) x v
def O2.s5 (v:O1) (x:O2):O2:=O2.rec (motive:=fun _=>O1→O2) (fun v=>.mk .nil .nil .nil .nil .nil v .nil .nil .nil .nil .nil .nil .nil .nil .nil .nil) (fun a0 a1 a2 a3 a4 a5 a6 a7 a8 a9 aa ab ac ad ae af=>fun v=>.mk a0 a1 a2 a3 a4 v a6 a7 a8 a9 aa ab ac ad ae af) x v
def O2.s6 (v:O1) (x:O2):O2:=O2.rec (motive:=fun _=>O1→O2) (fun v=>.mk .nil .nil .nil .nil .nil .nil v .nil .nil .nil .nil .nil .nil .nil .nil .nil) (fun a0 a1 a2 a3 a4 a5 a6 a7 a8 a9 aa ab ac ad ae af=>fun v=>.mk a0 a1 a2 a3 a4 a5 v a7 a8 a9 aa ab ac ad ae af) x v
def O2.s7 (v:O1) (x:O2):O2:=O2.rec (motive:=fun _=>O1→O2) (fun v=>.mk .nil .nil .nil .nil .nil .nil .nil v .nil .nil .nil .nil .nil .nil .nil .nil) (fun a0 a1 a2 a3 a4 a5 a6 a7 a8 a9 aa ab ac ad ae af=>fun v=>.mk a0 a1 a2 a3 a4 a5 a6 v a8 a9 aa ab ac ad ae af) x v
def O2.s8 (v:O1) (x:O2):O2:=O2.rec (motive:=fun _=>O1→O2) (fun v=>.mk .nil .nil .nil .nil .nil .nil .nil .nil v .nil .nil .nil .nil .nil .nil .nil) (fun a0 a1 a2 a3 a4 a5 a6 a7 a8 a9 aa ab ac ad ae af=>fun v=>.mk a0 a1 a2 a3 a4 a5 a6 a7 v a9 aa ab ac ad ae af) x v
def O2.s9 (v:O1) (x:O2):O2:=O2.rec (motive:=fun _=>O1→O2) (fun v=>.mk .nil .nil .nil .nil .nil .nil .nil .nil .nil v .nil .nil .nil .nil .nil .nil) (fun a0 a1 a2 a3 a4 a5 a6 a7 a8 a9 aa ab ac ad ae af=>fun v=>.mk a0 a1 a2 a3 a4 a5 a6 a7 a8 v aa ab ac ad ae af) x v
def O2.sa (v:O1) (x:O2):O2:=O2.rec (motive:=fun _=>O1→O2) (fun v=>.mk .nil .nil .nil .nil .nil .nil .nil .nil .nil .nil v .nil .nil .nil .nil .nil) (fun a0 a1 a2 a3 a4 a5 a6 a7 a8 a9 aa ab ac ad ae af=>fun v=>.mk a0 a1 a2 a3 a4 a5 a6 a7 a8 a9 v ab ac ad ae af) x v
def O2.sb (v:O1) (x:O2):O2:=O2.rec (motive:=fun _=>O1→O2) (fun v=>.mk .nil .nil .nil .nil .nil .nil .nil .nil .nil .nil .nil v .nil .nil .nil .nil) (fun a0 a1 a2 a3 a4 a5 a6 a7 a8 a9 aa ab ac ad ae af=>fun v=>.mk a0 a1 a2 a3 a4 a5 a6 a7 a8 a9 aa v ac ad ae af) x v
def O2.sc (v:O1) (x:O2):O2:=O2.rec (motive:=fun _=>O1→O2) (fun v=>.mk .nil .nil .nil .nil .nil .nil .nil .nil .nil .nil .nil .nil v .nil .nil .nil) (fun a0 a1 a2 a3 a4 a5 a6 a7 a8 a9 aa ab ac ad ae af=>fun v=>.mk a0 a1 a2 a3 a4 a5 a6 a7 a8 a9 aa ab v ad ae af) x v
def O2.sd (v:O1) (x:O2):O2:=O2.rec (motive:=fun _=>O1→O2) (fun v=>.mk .nil .nil .nil .nil .nil .nil .nil .nil .nil .nil .nil .nil .nil v .nil .nil) (fun a0 a1 a2 a3 a4 a5 a6 a7 a8 a9 aa ab ac ad ae af=>fun v=>.mk a0 a1 a2 a3 a4 a5 a6 a7 a8 a9 aa ab ac v ae af) x v
def O2.se (v:O1) (x:O2):O2:=O2.rec (motive:=fun _=>O1→O2) (fun v=>.mk .nil .nil .nil .nil .nil .nil .nil .nil .nil .nil .nil .nil .nil .nil v .nil) (fun a0 a1 a2 a3 a4 a5 a6 a7 a8 a9 aa ab ac ad ae af=>fun v=>.mk a0 a1 a2 a3 a4 a5 a6 a7 a8 a9 aa ab ac ad v af) x v
def O2.sf (v:O1) (x:O2):O2:=O2.rec (motive:=fun _=>O1→O2) (fun v=>.mk .nil .nil .nil .nil .nil .nil .nil .nil .nil .nil .nil .nil .nil .nil .nil v) (fun a0 a1 a2 a3 a4 a5 a6 a7 a8 a9 aa ab ac ad ae af=>fun v=>.mk a0 a1 a2 a3 a4 a5 a6 a7 a8 a9 aa ab ac ad ae v) x v
def O2.set (d:H):O1→O2→O2:=H.rec (motive:=fun _=>O1→O2→O2) O2.s0 O2.s1 O2.s2 O2.s3 O2.s4 O2.s5 O2.s6 O2.s7 O2.s8 O2.s9 O2.sa O2.sb O2.sc O2.sd O2.se O2.sf d
inductive O3 where
 | nil
 | mk (a0 a1 a2 a3 a4 a5 a6 a7 a8 a9 aa ab ac ad ae af:O2)
def O3.g0 (x:O3):O2:=O3.rec .nil (fun a0 a1 a2 a3 a4 a5 a6 a7 a8 a9 aa ab ac ad ae af=>a0) x
def O3.g1 (x:O3):O2:=O3.rec .nil (fun a0 a1 a2 a3 a4 a5 a6 a7 a8 a9 aa ab ac ad ae af=>a1) x
def O3.g2 (x:O3):O2:=O3.rec .nil (fun a0 a1 a2 a3 a4 a5 a6 a7 a8 a9 aa ab ac ad ae af=>a2) x
def O3.g3 (x:O3):O2:=O3.rec .nil (fun a0 a1 a2 a3 a4 a5 a6 a7 a8 a9 aa ab ac ad ae af=>a3) x
def O3.g4 (x:O3):O2:=O3.rec .nil (fun a0 a1 a2 a3 a4 a5 a6 a7 a8 a9 aa ab ac ad ae af=>a4) x
def O3.g5 (x:O3):O2:=O3.rec .nil (fun a0 a1 a2 a3 a4 a5 a6 a7 a8 a9 aa ab ac ad ae af=>a5) x
def O3.g6 (x:O3):O2:=O3.rec .nil (fun a0 a1 a2 a3 a4 a5 a6 a7 a8 a9 aa ab ac ad ae af=>a6) x
def O3.g7 (x:O3):O2:=O3.rec .nil (fun a0 a1 a2 a3 a4 a5 a6 a7 a8 a9 aa ab ac ad ae af=>a7) x
def O3.g8 (x:O3):O2:=O3.rec .nil (fun a0 a1 a2 a3 a4 a5 a6 a7 a8 a9 aa ab ac ad ae af=>a8) x
def O3.g9 (x:O3):O2:=O3.rec .nil (fun a0 a1 a2 a3 a4 a5 a6 a7 a8 a9 aa ab ac ad ae af=>a9) x
def O3.ga (x:O3):O2:=O3.rec .nil (fun a0 a1 a2 a3 a4 a5 a6 a7 a8 a9 aa ab ac ad ae af=>aa) x
def O3.gb (x:O3):O2:=O3.rec .nil (fun a0 a1 a2 a3 a4 a5 a6 a7 a8 a9 aa ab ac ad ae af=>ab) x
def O3.gc (x:O3):O2:=O3.rec .nil (fun a0 a1 a2 a3 a4 a5 a6 a7 a8 a9 aa ab ac ad ae af=>ac) x
def O3.gd (x:O3):O2:=O3.rec .nil (fun a0 a1 a2 a3 a4 a5 a6 a7 a8 a9 aa ab ac ad ae af=>ad) x
def O3.ge (x:O3):O2:=O3.rec .nil (fun a0 a1 a2 a3 a4 a5 a6 a7 a8 a9 aa ab ac ad ae af=>ae) x
def O3.gf (x:O3):O2:=O3.rec .nil (fun a0 a1 a2 a3 a4 a5 a6 a7 a8 a9 aa ab ac ad ae af=>af) x
def O3.get (d:H):O3→O2:=H.rec (motive:=fun _=>O3→O2) O3.g0 O3.g1 O3.g2 O3.g3 O3.g4 O3.g5 O3.g6 O3.g7 O3.g8 O3.g9 O3.ga O3.gb O3.gc O3.gd O3.ge O3.gf d
def O3.s0 (v:O2) (x:O3):O3:=O3.rec (motive:=fun _=>O2→O3) (fun v=>.mk v .nil .nil .nil .nil .nil .nil .nil .nil .nil .nil .nil .nil .nil .nil .nil) (fun a0 a1 a2 a3 a4 a5 a6 a7 a8 a9 aa ab ac ad ae af=>fun v=>.mk v a1 a2 a3 a4 a5 a6 a7 a8 a9 aa ab ac ad ae af) x v
def O3.s1 (v:O2) (x:O3):O3:=O3.rec (motive:=fun _=>O2→O3) (fun v=>.mk .nil v .nil .nil .nil .nil .nil .nil .nil .nil .nil .nil .nil .nil .nil .nil) (fun a0 a1 a2 a3 a4 a5 a6 a7 a8 a9 aa ab ac ad ae af=>fun v=>.mk a0 v a2 a3 a4 a5 a6 a7 a8 a9 aa ab ac ad ae af) x v
def O3.s2 (v:O2) (x:O3):O3:=O3.rec (motive:=fun _=>O2→O3) (fun v=>.mk .nil .nil v .nil .nil .nil .nil .nil .nil .nil .nil .nil .nil .nil .nil .nil) (fun a0 a1 a2 a3 a4 a5 a6 a7 a8 a9 aa ab ac ad ae af=>fun v=>.mk a0 a1 v a3 a4 a5 a6 a7 a8 a9 aa ab ac ad ae af) x v
def O3.s3 (v:O2) (x:O3):O3:=O3.rec (motive:=fun _=>O2→O3) (fun v=>.mk .nil .nil .nil v .nil .nil .nil .nil .nil .nil .nil .nil .nil .nil .nil .nil) (fun a0 a1 a2 a3 a4 a5 a6 a7 a8 a9 aa ab ac ad ae af=>fun v=>.mk a0 a1 a2 v a4 a5 a6 a7 a8 a9 aa ab ac ad ae af) x v
def O3.s4 (v:O2) (x:O3):O3:=O3.rec (motive:=fun _=>O2→O3) (fun v=>.mk .nil .nil .nil .nil v .nil .nil .nil .nil .nil .nil .nil .nil .nil .nil .nil) (fun a0 a1 a2 a3 a4 a5 a6 a7 a8 a9 aa ab ac ad ae af=>fun v=>.mk a0 a1 a2 a3 v a5 a6 a7 a8 a9 aa ab ac ad ae af) x v
def O3.s5 (v:O2) (x:O3):O3:=O3.rec (motive:=fun _=>O2→O3) (fun v=>.mk .nil .nil .nil .nil .nil v .nil .nil .nil .nil .nil .nil .nil .nil .nil .nil) (fun a0 a1 a2 a3 a4 a5 a6 a7 a8 a9 aa ab ac ad ae af=>fun v=>.mk a0 a1 a2 a3 a4 v a6 a7 a8 a9 aa ab ac ad ae af) x v
def O3.s6 (v:O2) (x:O3):O3:=O3.rec (motive:=fun _=>O2→O3) (fun v=>.mk .nil .nil .nil .nil .nil .nil v .nil .nil .nil .nil .nil .nil .nil .nil .nil) (fun a0 a1 a2 a3 a4 a5 a6 a7 a8 a9 aa ab ac ad ae af=>fun v=>.mk a0 a1 a2 a3 a4 a5 v a7 a8 a9 aa ab ac ad ae af) x v
def O3.s7 (v:O2) (x:O3):O3:=O3.rec (motive:=fun _=>O2→O3) (fun v=>.mk .nil .nil .nil .nil .nil .nil .nil v .nil .nil .nil .nil .nil .nil .nil .nil) (fun a0 a1 a2 a3 a4 a5 a6 a7 a8 a9 aa ab ac ad ae af=>fun v=>.mk a0 a1 a2 a3 a4 a5 a6 v a8 a9 aa ab ac ad ae af) x v
def O3.s8 (v:O2) (x:O3):O3:=O3.rec (motive:=fun _=>O2→O3) (fun v=>.mk .nil .nil .nil .nil .nil .nil .nil .nil v .nil .nil .nil .nil .nil .nil .nil) (fun a0 a1 a2 a3 a4 a5 a6 a7 a8 a9 aa ab ac ad ae af=>fun v=>.mk a0 a1 a2 a3 a4 a5 a6 a7 v a9 aa ab ac ad ae af) x v
def O3.s9 (v:O2) (x:O3):O3:=O3.rec (motive:=fun _=>O2→O3) (fun v=>.mk .nil .nil .nil .nil .nil .nil .nil .nil .nil v .nil .nil .nil .nil .nil .nil) (fun a0 a1 a2 a3 a4 a5 a6 a7 a8 a9 aa ab ac ad ae af=>fun v=>.mk a0 a1 a2 a3 a4 a5 a6 a7 a8 v aa ab ac ad ae af) x v
def O3.sa (v:O2) (x:O3):O3:=O3.rec (motive:=fun _=>O2→O3) (fun v=>.mk .nil .nil .nil .nil .nil .nil .nil .nil .nil .nil v .nil .nil .nil .nil .nil) (fun a0 a1 a2 a3 a4 a5 a6 a7 a8 a9 aa ab ac ad ae af=>fun v=>.mk a0 a1 a2 a3 a4 a5 a6 a7 a8 a9 v ab ac ad ae af) x v
def O3.sb (v:O2) (x:O3):O3:=O3.rec (motive:=fun _=>O2→O3) (fun v=>.mk .nil .nil .nil .nil .nil .nil .nil .nil .nil .nil .nil v .nil .nil .nil .nil) (fun a0 a1 a2 a3 a4 a5 a6 a7 a8 a9 aa ab ac ad ae af=>fun v=>.mk a0 a1 a2 a3 a4 a5 a6 a7 a8 a9 aa v ac ad ae af) x v
def O3.sc (v:O2) (x:O3):O3:=O3.rec (motive:=fun _=>O2→O3) (fun v=>.mk .nil .nil .nil .nil .nil .nil .nil .nil .nil .nil .nil .nil v .nil .nil .nil) (fun a0 a1 a2 a3 a4 a5 a6 a7 a8 a9 aa ab ac ad ae af=>fun v=>.mk a0 a1 a2 a3 a4 a5 a6 a7 a8 a9 aa ab v ad ae af) x v
def O3.sd (v:O2) (x:O3):O3:=O3.rec (motive:=fun _=>O2→O3) (fun v=>.mk .nil .nil .nil .nil .nil .nil .nil .nil .nil .nil .nil .nil .nil v .nil .nil) (fun a0 a1 a2 a3 a4 a5 a6 a7 a8 a9 aa ab ac ad ae af=>fun v=>.mk a0 a1 a2 a3 a4 a5 a6 a7 a8 a9 aa ab ac v ae af) x v
def O3.se (v:O2) (x:O3):O3:=O3.rec (motive:=fun _=>O2→O3) (fun v=>.mk .nil .nil .nil .nil .nil .nil .nil .nil .nil .nil .nil .nil .nil .nil v .nil) (fun a0 a1 a2 a3 a4 a5 a6 a7 a8 a9 aa ab ac ad ae af=>fun v=>.mk a0 a1 a2 a3 a4 a5 a6 a7 a8 a9 aa ab ac ad v af) x v
def O3.sf (v:O2) (x:O3):O3:=O3.rec (motive:=fun _=>O2→O3) (fun v=>.mk .nil .nil .nil .nil .nil .nil .nil .nil .nil .nil .nil .nil .nil .nil .nil v) (fun a0 a1 a2 a3 a4 a5 a6 a7 a8 a9 aa ab ac ad ae af=>fun v=>.mk a0 a1 a2 a3 a4 a5 a6 a7 a8 a9 aa ab ac ad ae v) x v
def O3.set (d:H):O2→O3→O3:=H.rec (motive:=fun _=>O2→O3→O3) O3.s0 O3.s1 O3.s2 O3.s3 O3.s4 O3.s5 O3.s6 O3.s7 O3.s8 O3.s9 O3.sa O3.sb O3.sc O3.sd O3.se O3.sf d
inductive O4 where
 | nil
 | mk (a0 a1 a2 a3 a4 a5 a6 a7 a8 a9 aa ab ac ad ae af:O3)
def O4.g0 (x:O4):O3:=O4.rec .nil (fun a0 a1 a2 a3 a4 a5 a6 a7 a8 a9 aa ab ac ad ae af=>a0) x
def O4.g1 (x:O4):O3:=O4.rec .nil (fun a0 a1 a2 a3 a4 a5 a6 a7 a8 a9 aa ab ac ad ae af=>a1) x
def O4.g2 (x:O4):O3:=O4.rec .nil (fun a0 a1 a2 a3 a4 a5 a6 a7 a8 a9 aa ab ac ad ae af=>a2) x
def O4.g3 (x:O4):O3:=O4.rec .nil (fun a0 a1 a2 a3 a4 a5 a6 a7 a8 a9 aa ab ac ad ae af=>a3) x
def O4.g4 (x:O4):O3:=O4.rec .nil (fun a0 a1 a2 a3 a4 a5 a6 a7 a8 a9 aa ab ac ad ae af=>a4) x
def O4.g5 (x:O4):O3:=O4.rec .nil (fun a0 a1 a2 a3 a4 a5 a6 a7 a8 a9 aa ab ac ad ae af=>a5) x
def O4.g6 (x:O4):O3:=O4.rec .nil (fun a0 a1 a2 a3 a4 a5 a6 a7 a8 a9 aa ab ac ad ae af=>a6) x
def O4.g7 (x:O4):O3:=O4.rec .nil (fun a0 a1 a2 a3 a4 a5 a6 a7 a8 a9 aa ab ac ad ae af=>a7) x
def O4.g8 (x:O4):O3:=O4.rec .nil (fun a0 a1 a2 a3 a4 a5 a6 a7 a8 a9 aa ab ac ad ae af=>a8) x
def O4.g9 (x:O4):O3:=O4.rec .nil (fun a0 a1 a2 a3 a4 a5 a6 a7 a8 a9 aa ab ac ad ae af=>a9) x
def O4.ga (x:O4):O3:=O4.rec .nil (fun a0 a1 a2 a3 a4 a5 a6 a7 a8 a9 aa ab ac ad ae af=>aa) x
def O4.gb (x:O4):O3:=O4.rec .nil (fun a0 a1 a2 a3 a4 a5 a6 a7 a8 a9 aa ab ac ad ae af=>ab) x
def O4.gc (x:O4):O3:=O4.rec .nil (fun a0 a1 a2 a3 a4 a5 a6 a7 a8 a9 aa ab ac ad ae af=>ac) x
def O4.gd (x:O4):O3:=O4.rec .nil (fun a0 a1 a2 a3 a4 a5 a6 a7 a8 a9 aa ab ac ad ae af=>ad) x
def O4.ge (x:O4):O3:=O4.rec .nil (fun a0 a1 a2 a3 a4 a5 a6 a7 a8 a9 aa ab ac ad ae af=>ae) x
def O4.gf (x:O4):O3:=O4.rec .nil (fun a0 a1 a2 a3 a4 a5 a6 a7 a8 a9 aa ab ac ad ae af=>af) x
def O4.get (d:H):O4→O3:=H.rec (motive:=fun _=>O4→O3) O4.g0 O4.g1 O4.g2 O4.g3 O4.g4 O4.g5 O4.g6 O4.g7 O4.g8 O4.g9 O4.ga O4.gb O4.gc O4.gd O4.ge O4.gf d
def O4.s0 (v:O3) (x:O4):O4:=O4.rec (motive:=fun _=>O3→O4) (fun v=>.mk v .nil .nil .nil .nil .nil .nil .nil .nil .nil .nil .nil .nil .nil .nil .nil) (fun a0 a1 a2 a3 a4 a5 a6 a7 a8 a9 aa ab ac ad ae af=>fun v=>.mk v a1 a2 a3 a4 a5 a6 a7 a8 a9 aa ab ac ad ae af) x v
def O4.s1 (v:O3) (x:O4):O4:=O4.rec (motive:=fun _=>O3→O4) (fun v=>.mk .nil v .nil .nil .nil .nil .nil .nil .nil .nil .nil .nil .nil .nil .nil .nil) (fun a0 a1 a2 a3 a4 a5 a6 a7 a8 a9 aa ab ac ad ae af=>fun v=>.mk a0 v a2 a3 a4 a5 a6 a7 a8 a9 aa ab ac ad ae af) x v
def O4.s2 (v:O3) (x:O4):O4:=O4.rec (motive:=fun _=>O3→O4) (fun v=>.mk .nil .nil v .nil .nil .nil .nil .nil .nil .nil .nil .nil .nil .nil .nil .nil) (fun a0 a1 a2 a3 a4 a5 a6 a7 a8 a9 aa ab ac ad ae af=>fun v=>.mk a0 a1 v a3 a4 a5 a6 a7 a8 a9 aa ab ac ad ae af) x v
def O4.s3 (v:O3) (x:O4):O4:=O4.rec (motive:=fun _=>O3→O4) (fun v=>.mk .nil .nil .nil v .nil .nil .nil .nil .nil .nil .nil .nil .nil .nil .nil .nil) (fun a0 a1 a2 a3 a4 a5 a6 a7 a8 a9 aa ab ac ad ae af=>fun v=>.mk a0 a1 a2 v a4 a5 a6 a7 a8 a9 aa ab ac ad ae af) x v
def O4.s4 (v:O3) (x:O4):O4:=O4.rec (motive:=fun _=>O3→O4) (fun v=>.mk .nil .nil .nil .nil v .nil .nil .nil .nil .nil .nil .nil .nil .nil .nil .nil) (fun a0 a1 a2 a3 a4 a5 a6 a7 a8 a9 aa ab ac ad ae af=>fun v=>.mk a0 a1 a2 a3 v a5 a6 a7 a8 a9 aa ab ac ad ae af) x v
def O4.s5 (v:O3) (x:O4):O4:=O4.rec (motive:=fun _=>O3→O4) (fun v=>.mk .nil .nil .nil .nil .nil v .nil .nil .nil .nil .nil .nil .nil .nil .nil .nil) (fun a0 a1 a2 a3 a4 a5 a6 a7 a8 a9 aa ab ac ad ae af=>fun v=>.mk a0 a1 a2 a3 a4 v a6 a7 a8 a9 aa ab ac ad ae af) x v
def O4.s6 (v:O3) (x:O4):O4:=O4.rec (motive:=fun _=>O3→O4) (fun v=>.mk .nil .nil .nil .nil .nil .nil v .nil .nil .nil .nil .nil .nil .nil .nil .nil) (fun a0 a1 a2 a3 a4 a5 a6 a7 a8 a9 aa ab ac ad ae af=>fun v=>.mk a0 a1 a2 a3 a4 a5 v a7 a8 a9 aa ab ac ad ae af) x v
def O4.s7 (v:O3) (x:O4):O4:=O4.rec (motive:=fun _=>O3→O4) (fun v=>.mk .nil .nil .nil .nil .nil .nil .nil v .nil .nil .nil .nil .nil .nil .nil .nil) (fun a0 a1 a2 a3 a4 a5 a6 a7 a8 a9 aa ab ac ad ae af=>fun v=>.mk a0 a1 a2 a3 a4 a5 a6 v a8 a9 aa ab ac ad ae af) x v
def O4.s8 (v:O3) (x:O4):O4:=O4.rec (motive:=fun _=>O3→O4) (fun v=>.mk .nil .nil .nil .nil .nil .nil .nil .nil v .nil .nil .nil .nil .nil .nil .nil) (fun a0 a1 a2 a3 a4 a5 a6 a7 a8 a9 aa ab ac ad ae af=>fun v=>.mk a0 a1 a2 a3 a4 a5 a6 a7 v a9 aa ab ac ad ae af) x v
def O4.s9 (v:O3) (x:O4):O4:=O4.rec (motive:=fun _=>O3→O4) (fun v=>.mk .nil .nil .nil .nil .nil .nil .nil .nil .nil v .nil .nil .nil .nil .nil .nil) (fun a0 a1 a2 a3 a4 a5 a6 a7 a8 a9 aa ab ac ad ae af=>fun v=>.mk a0 a1 a2 a3 a4 a5 a6 a7 a8 v aa ab ac ad ae af) x v
def O4.sa (v:O3) (x:O4):O4:=O4.rec (motive:=fun _=>O3→O4) (fun v=>.mk .nil .nil .nil .nil .nil .nil .nil .nil .nil .nil v .nil .nil .nil .nil .nil) (fun a0 a1 a2 a3 a4 a5 a6 a7 a8 a9 aa ab ac ad ae af=>fun v=>.mk a0 a1 a2 a3 a4 a5 a6 a7 a8 a9 v ab ac ad ae af) x v
def O4.sb (v:O3) (x:O4):O4:=O4.rec (motive:=fun _=>O3→O4) (fun v=>.mk .nil .nil .nil .nil .nil .nil .nil .nil .nil .nil .nil v .nil .nil .nil .nil) (fun a0 a1 a2 a3 a4 a5 a6 a7 a8 a9 aa ab ac ad ae af=>fun v=>.mk a0 a1 a2 a3 a4 a5 a6 a7 a8 a9 aa v ac ad ae af) x v
def O4.sc (v:O3) (x:O4):O4:=O4.rec (motive:=fun _=>O3→O4) (fun v=>.mk .nil .nil .nil .nil .nil .nil .nil .nil .nil .nil .nil .nil v .nil .nil .nil) (fun a0 a1 a2 a3 a4 a5 a6 a7 a8 a9 aa ab ac ad ae af=>fun v=>.mk a0 a1 a2 a3 a4 a5 a6 a7 a8 a9 aa ab v ad ae af) x v
def O4.sd (v:O3) (x:O4):O4:=O4.rec (motive:=fun _=>O3→O4) (fun v=>.mk .nil .nil .nil .nil .nil .nil .nil .nil .nil .nil .nil .nil .nil v .nil .nil) (fun a0 a1 a2 a3 a4 a5 a6 a7 a8 a9 aa ab ac ad ae af=>fun v=>.mk a0 a1 a2 a3 a4 a5 a6 a7 a8 a9 aa ab ac v ae af) x v
def O4.se (v:O3) (x:O4):O4:=O4.rec (motive:=fun _=>O3→O4) (fun v=>.mk .nil .nil .nil .nil .nil .nil .nil .nil .nil .nil .nil .nil .nil .nil v .nil) (fun a0 a1 a2 a3 a4 a5 a6 a7 a8 a9 aa ab ac ad ae af=>fun v=>.mk a0 a1 a2 a3 a4 a5 a6 a7 a8 a9 aa ab ac ad v af) x v
def O4.sf (v:O3) (x:O4):O4:=O4.rec (motive:=fun _=>O3→O4) (fun v=>.mk .nil .nil .nil .nil .nil .nil .nil .nil .nil .nil .nil .nil .nil .nil .nil v) (fun a0 a1 a2 a3 a4 a5 a6 a7 a8 a9 aa ab ac ad ae af=>fun v=>.mk a0 a1 a2 a3 a4 a5 a6 a7 a8 a9 aa ab ac ad ae v) x v
def O4.set (d:H):O3→O4→O4:=H.rec (motive:=fun _=>O3→O4→O4) O4.s0 O4.s1 O4.s2 O4.s3 O4.s4 O4.s5 O4.s6 O4.s7 O4.s8 O4.s9 O4.sa O4.sb O4.sc O4.sd O4.se O4.sf d
inductive Lg where
 | off
 | on (l:List P4)
inductive Hp where
 | mk (t:O4) (nx:P4) (lg:Lg)
inductive RV where
 | ok (v:AV) (h:Hp)
 | err (n:Nat)
inductive RT where
 | ok (v:AV) (h:Hp)
 | err (n:Nat)
 | ch (n:Nat) (k:Nat→RT)
inductive RS where
 | nm (r:A2) (h:Hp)
 | ex (i:Nat) (r:A2) (h:Hp)
 | go (l:Nat) (r:A2) (h:Hp)
 | ret (r:A2) (h:Hp)
 | err (n:Nat)
 | ch (n:Nat) (k:Nat→RS)
def RT.elim {β:Type} (f:AV→Hp→β) (e:Nat→β) (c:Nat→(Nat→β)→β) (x:RT):β:=RT.rec f e (fun n _ ih=>c n ih) x
def RS.elim {β:Type} (f1:A2→Hp→β) (f2:Nat→A2→Hp→β) (f3:Nat→A2→Hp→β) (f4:A2→Hp→β) (e:Nat→β) (c:Nat→(Nat→β)→β) (x:RS):β:=RS.rec f1 f2 f3 f4 e (fun n _ ih=>c n ih) x
def oL {β:Type} (z:β) (s:Nat→β→β) (n:Nat):β:=Nat.rec z s n
def P4.succ (p:P4):P4:=P4.rec (fun a b c d=>
 Bool.rec (.mk a b c d.succ) (Bool.rec (.mk a b c.succ .h0) (Bool.rec (.mk a b.succ .h0 .h0) (.mk a.succ .h0 .h0 .h0) b.last) c.last) d.last) p
def gx (p:P4) (t:O4):Obj:=P4.rec (fun a b c d=>O1.get d (O2.get c (O3.get b (O4.get a t)))) p
def Hp.tree (h:Hp):O4:=Hp.rec (fun t _ _=>t) h
def Hp.next (h:Hp):P4:=Hp.rec (fun _ n _=>n) h
def Hp.log (h:Hp):Lg:=Hp.rec (fun _ _ l=>l) h
def Lg.add (p:P4) (x:Lg):Lg:=Lg.rec .off (fun l=>.on (.cons p l)) x
def av (p:P4) (h:Hp):Obj:=gx p h.tree
def Ny (a b c d:H) (o:Obj) (t4:O4) (t3:O3) (t2:O2):O4:=O4.set a (O3.set b (O2.set c (O1.set d o (O2.get c t2)) t2) t3) t4
def TW (a b c d:H) (o:Obj) (t4:O4) (t3:O3):O4:=Ny a b c d o t4 t3 (O3.get b t3)
def cU (p:P4) (o:Obj) (t:O4):O4:=P4.rec (fun a b c d=>TW a b c d o t (O4.get a t)) p
def cE (p:P4) (o:Obj) (h:Hp):Hp:=.mk (cU p o h.tree) h.next (Lg.add p h.log)
def isNone (o:Obj):Bool:=Obj.rec true false (fun _ _ _ _ _=>false) (fun _ _=>false) (fun _ _=>false) (fun _ _ _ _=>false) false o
def lX (o:Obj) (h:Hp) (k:P4→Hp→RV):RV:=Hp.rec (fun t nx lg=>
 Bool.rec (.err 1) (k nx (.mk (cU nx o t) nx.succ (Lg.add nx lg))) (isNone (gx nx t))) h
def aq (a b:H) (r:A2):AV:=A1.get b (A2.get a r)
def eQ (a b:H) (v:AV) (r:A2):A2:=A2.set a (A1.set b v (A2.get a r)) r
def g2 (i:Nat) (x:A2):AV:=A1.get (bN (Nat.mod i 16)) (A2.get (bN (Nat.div i 16)) x)
def g3 (i:Nat) (x:A3):AV:=g2 (Nat.mod i 256) (A3.get (bN (Nat.div i 256)) x)
def g4 (i:Nat) (x:A4):AV:=g3 (Nat.mod i 4096) (A4.get (bN (Nat.div i 4096)) x)
def g1 (i:Nat) (x:A1):AV:=A1.get (bN i) x
def dR (i:Nat) (c:Cl):AV:=Cl.rec (motive:=fun _=>Nat→AV) (fun x i=>g1 i x) (fun x i=>g2 i x) (fun x i=>g3 i x) (fun x i=>g4 i x) c i
def t1 (i:Nat) (v:AV) (x:A1):A1:=A1.set (bN i) v x
def XW (d:H) (i:Nat) (v:AV) (x:A2):A2:=A2.set d (t1 i v (A2.get d x)) x
def t2 (i:Nat) (v:AV) (x:A2):A2:=XW (bN (Nat.div i 16)) (Nat.mod i 16) v x
def XX (d:H) (i:Nat) (v:AV) (x:A3):A3:=A3.set d (t2 i v (A3.get d x)) x
def t3 (i:Nat) (v:AV) (x:A3):A3:=XX (bN (Nat.div i 256)) (Nat.mod i 256) v x
def XY (d:H) (i:Nat) (v:AV) (x:A4):A4:=A4.set d (t3 i v (A4.get d x)) x
def t4 (i:Nat) (v:AV) (x:A4):A4:=XY (bN (Nat.div i 4096)) (Nat.mod i 4096) v x
def ug (i:Nat) (v:AV) (c:Cl):Cl:=Cl.rec (motive:=fun _=>Nat→AV→Cl) (fun x i v=>.k1 (t1 i v x)) (fun x i v=>.k2 (t2 i v x)) (fun x i v=>.k3 (t3 i v x)) (fun x i v=>.k4 (t4 i v x)) c i v
def bM (c:Cl):Nat:=Cl.rec (fun _=>16) (fun _=>256) (fun _=>4096) (fun _=>65536) c
def dN (c:Cl):Cl:=Cl.rec (fun x=>.k2 (A2.s0 x .nil)) (fun x=>.k3 (A3.s0 x .nil)) (fun x=>.k4 (A4.s0 x .nil)) (fun x=>.k4 x) c
def tC (n:Nat) (c:Cl):Cl:=Bool.rec (Bool.rec (Bool.rec (dN (dN (dN c))) (dN (dN c)) (Nat.ble n (bM (dN (dN c))))) (dN c) (Nat.ble n (bM (dN c)))) c (Nat.ble n (bM c))
def eM (l:List AV):Nat→Cl→Cl:=cw (fun _ c=>c) (fun v _ ih i c=>ih (Nat.succ i) (ug i v c)) l
def PG:Cl:=.k1 .nil
def lW (l:List AV):Cl:=eM l 0 (tC l.length PG)
def bw (n:Nat):Cl→Nat→List AV:=Nat.rec (fun _ _=>.nil) (fun _ ih c i=>.cons (dR i c) (ih c (Nat.succ i))) n
inductive AO where
 | t (a b:H)
 | c (v:AV)
def ev (x:AO) (r:A2):AV:=AO.rec (motive:=fun _=>A2→AV) aq (fun v _=>v) x r
def Pc (a b:Int):Int:=Int.rec (motive:=fun _=>Int→Int) (fun m b=>Int.rec (fun n=>.ofNat (Nat.add m n)) (fun n=>Int.subNatNat m (Nat.succ n)) b) (fun m b=>Int.rec (fun n=>Int.subNatNat n (Nat.succ m)) (fun n=>.negSucc (Nat.succ (Nat.add m n))) b) a b
def Pd (a:Int):Int:=Int.rec (fun m=>Int.negOfNat m) (fun m=>.ofNat (Nat.succ m)) a
def Jy (a b:Int):Int:=Int.rec (motive:=fun _=>Int→Int) (fun m b=>Int.rec (fun n=>.ofNat (Nat.mul m n)) (fun n=>Int.mul (.ofNat m) (.negSucc n)) b) (fun m b=>Int.mul (.negSucc m) b) a b
def Pe (a b:Int):Int:=Int.rec (motive:=fun _=>Int→Int) (fun m b=>Int.rec (fun n=>.ofNat (Nat.div m n)) (fun n=>Int.tdiv (.ofNat m) (.negSucc n)) b) (fun m b=>Int.tdiv (.negSucc m) b) a b
def Pf (a b:Int):Int:=Int.rec (motive:=fun _=>Int→Int) (fun m b=>Int.rec (fun n=>.ofNat (Nat.mod m n)) (fun n=>Int.tmod (.ofNat m) (.negSucc n)) b) (fun m b=>Int.tmod (.negSucc m) b) a b
def UD (a b:Int):Bool:=Int.rec (motive:=fun _=>Int→Bool) (fun m b=>Int.rec (fun n=>Nat.ble m n) (fun _=>false) b) (fun m b=>Int.rec (fun _=>true) (fun n=>Nat.ble n m) b) a b
def JB (a b:Int):Bool:=Int.rec (motive:=fun _=>Int→Bool) (fun m b=>Int.rec (fun n=>Nat.ble (Nat.succ m) n) (fun _=>false) b) (fun m b=>Int.rec (fun _=>true) (fun n=>Nat.ble (Nat.succ n) m) b) a b
def uh (a b:Int):Bool:=Int.rec (motive:=fun _=>Int→Bool) (fun m b=>Int.rec (fun n=>Nat.beq m n) (fun _=>false) b) (fun m b=>Int.rec (fun _=>false) (fun n=>Nat.beq m n) b) a b
def wS (k:IntKind) (top:Nat) (n:Int):Int:=Int.rec (fun m=>Bool.rec (k.wrap (.ofNat m)) (.ofNat m) (Nat.ble m top)) (fun m=>Bool.rec (k.wrap (.negSucc m)) (.negSucc m) (Nat.ble m top)) n
def wU (k:IntKind) (size:Nat) (n:Int):Int:=Int.rec (fun m=>.ofNat (Nat.mod m size)) (fun m=>k.wrap (.negSucc m)) n
def hR (k:IntKind):Int→Int:=IntKind.rec (motive:=fun _=>Int→Int) (wS .i8 127) (wS .i16 32767) (wS .i32 2147483647) (wS .i64 9223372036854775807) (wU .u8 256) (wU .u16 65536) (wU .u32 4294967296) (wU .u64 18446744073709551616) k
def jZ (k:IntKind):Nat:=IntKind.rec 8 16 32 64 8 16 32 64 k
def Yj (k:IntKind):Nat:=IntKind.rec 0 1 2 3 4 5 6 7 k
def mL (a b:IntKind):Bool:=Nat.beq (Yj a) (Yj b)
def Al (f:Nat→Nat→Nat) (k:IntKind) (a b:Int):AV:=Int.rec (fun m=>Int.rec (fun n=>.int k (hR k (.ofNat (f (Nat.mod m (Nat.pow 2 (jZ k))) (Nat.mod n (Nat.pow 2 (jZ k))))))) (fun _=>.undef) b) (fun _=>.undef) a
inductive OI where
 | no
 | yes (k:IntKind) (n:Int)
inductive OB where
 | no
 | yes (b:Bool)
inductive OS where
 | no
 | yes (l:List Nat)
inductive OP where
 | no
 | yes (i:P4) (o:Nat)
inductive OL where
 | no
 | yes (l:List AV)
inductive OM where
 | no
 | nil
 | yes (i:P4)
inductive OC where
 | no
 | yes (k:FloatKind) (a b:Nat)
inductive OF where
 | no
 | yes (k:FloatKind) (a:Nat)
inductive Pu where
 | no
 | nil
 | ex (i:P4) (o n c:Nat)
 | rs (i:P4) (o n e:Nat)
inductive Ww where
 | no
 | yes (el n:Nat) (ex:Bool) (fl:Fl) (c:Cl)
inductive UO where
 | no
 | yes (l:List KV) (clock:Nat)
inductive Kz where
 | no
 | yes (f:Nat) (cs:List AV)
inductive KA where
 | no
 | nil
 | yes (t:Nat) (v:AV)
def AV.asInt (x:AV):OI:=AV.rec (motive_2:=fun _=>PUnit) .no (fun _=>.no) (fun k n=>.yes k n) (fun _=>.no) (fun _ _=>.no) (fun _ _ _=>.no) (fun _ _=>.no) .no (fun _ _ _ _=>.no) (fun _ _ _ _=>.no) .no (fun _=>.no) .no (fun _ _ _=>.no) .no (fun _ _ _=>.no) .no (fun _ _=>.no) (fun _ _=>.no) (fun _=>.no) PUnit.unit (fun _ _ _ _=>PUnit.unit) x
def AV.asBool (x:AV):OB:=AV.rec (motive_2:=fun _=>PUnit) .no (fun b=>.yes b) (fun _ _=>.no) (fun _=>.no) (fun _ _=>.no) (fun _ _ _=>.no) (fun _ _=>.no) .no (fun _ _ _ _=>.no) (fun _ _ _ _=>.no) .no (fun _=>.no) .no (fun _ _ _=>.no) .no (fun _ _ _=>.no) .no (fun _ _=>.no) (fun _ _=>.no) (fun _=>.no) PUnit.unit (fun _ _ _ _=>PUnit.unit) x
def AV.Ay (x:AV):OS:=AV.rec (motive_2:=fun _=>PUnit) .no (fun _=>.no) (fun _ _=>.no) (fun l=>.yes l) (fun _ _=>.no) (fun _ _ _=>.no) (fun _ _=>.no) .no (fun _ _ _ _=>.no) (fun _ _ _ _=>.no) .no (fun _=>.no) .no (fun _ _ _=>.no) .no (fun _ _ _=>.no) .no (fun _ _=>.no) (fun _ _=>.no) (fun _=>.no) PUnit.unit (fun _ _ _ _=>PUnit.unit) x
def AV.eN (x:AV):OP:=AV.rec (motive_2:=fun _=>PUnit) .no (fun _=>.no) (fun _ _=>.no) (fun _=>.no) (fun _ _=>.no) (fun _ _ _=>.no) (fun i o=>.yes i o) .no (fun _ _ _ _=>.no) (fun _ _ _ _=>.no) .no (fun _=>.no) .no (fun _ _ _=>.no) .no (fun _ _ _=>.no) .no (fun _ _=>.no) (fun _ _=>.no) (fun _=>.no) PUnit.unit (fun _ _ _ _=>PUnit.unit) x
def AV.asAgg (x:AV):OL:=AV.rec (motive_2:=fun _=>PUnit) .no (fun _=>.no) (fun _ _=>.no) (fun _=>.no) (fun _ _=>.no) (fun _ _ _=>.no) (fun _ _=>.no) .no (fun _ _ _ _=>.no) (fun _ _ _ _=>.no) .no (fun _=>.no) .no (fun _ _ _=>.no) .no (fun _ _ _=>.no) .no (fun l _=>.yes l) (fun _ _=>.no) (fun _=>.no) PUnit.unit (fun _ _ _ _=>PUnit.unit) x
def AV.uf (x:AV):OL:=AV.rec (motive_2:=fun _=>PUnit) .no (fun _=>.no) (fun _ _=>.no) (fun _=>.no) (fun _ _=>.no) (fun _ _ _=>.no) (fun _ _=>.no) .no (fun _ _ _ _=>.no) (fun _ _ _ _=>.no) .no (fun _=>.no) .no (fun _ _ _=>.no) .no (fun _ _ _=>.no) .no (fun _ _=>.no) (fun l _=>.yes l) (fun _=>.no) PUnit.unit (fun _ _ _ _=>PUnit.unit) x
def AV.dX (x:AV):OM:=AV.rec (motive_2:=fun _=>PUnit) .no (fun _=>.no) (fun _ _=>.no) (fun _=>.no) (fun _ _=>.no) (fun _ _ _=>.no) (fun _ _=>.no) .no (fun _ _ _ _=>.no) (fun _ _ _ _=>.no) .no (fun i=>.yes i) .nil (fun _ _ _=>.no) .no (fun _ _ _=>.no) .no (fun _ _=>.no) (fun _ _=>.no) (fun _=>.no) PUnit.unit (fun _ _ _ _=>PUnit.unit) x
def AV.PH (x:AV):OC:=AV.rec (motive_2:=fun _=>PUnit) .no (fun _=>.no) (fun _ _=>.no) (fun _=>.no) (fun _ _=>.no) (fun k a b=>.yes k a b) (fun _ _=>.no) .no (fun _ _ _ _=>.no) (fun _ _ _ _=>.no) .no (fun _=>.no) .no (fun _ _ _=>.no) .no (fun _ _ _=>.no) .no (fun _ _=>.no) (fun _ _=>.no) (fun _=>.no) PUnit.unit (fun _ _ _ _=>PUnit.unit) x
def AV.UT (x:AV):OF:=AV.rec (motive_2:=fun _=>PUnit) .no (fun _=>.no) (fun _ _=>.no) (fun _=>.no) (fun k a=>.yes k a) (fun _ _ _=>.no) (fun _ _=>.no) .no (fun _ _ _ _=>.no) (fun _ _ _ _=>.no) .no (fun _=>.no) .no (fun _ _ _=>.no) .no (fun _ _ _=>.no) .no (fun _ _=>.no) (fun _ _=>.no) (fun _=>.no) PUnit.unit (fun _ _ _ _=>PUnit.unit) x
def AV.BS (x:AV):Pu:=AV.rec (motive_2:=fun _=>PUnit) .no (fun _=>.no) (fun _ _=>.no) (fun _=>.no) (fun _ _=>.no) (fun _ _ _=>.no) (fun _ _=>.no) .no (fun i o n c=>.ex i o n c) (fun i o n e=>.rs i o n e) .nil (fun _=>.no) .no (fun _ _ _=>.no) .no (fun _ _ _=>.no) .no (fun _ _=>.no) (fun _ _=>.no) (fun _=>.no) PUnit.unit (fun _ _ _ _=>PUnit.unit) x
def AV.zk (x:AV):Kz:=AV.rec (motive_2:=fun _=>PUnit) .no (fun _=>.no) (fun _ _=>.no) (fun _=>.no) (fun _ _=>.no) (fun _ _ _=>.no) (fun _ _=>.no) .no (fun _ _ _ _=>.no) (fun _ _ _ _=>.no) .no (fun _=>.no) .no (fun f cs _=>.yes f cs) .no (fun _ _ _=>.no) .no (fun _ _=>.no) (fun _ _=>.no) (fun _=>.no) PUnit.unit (fun _ _ _ _=>PUnit.unit) x
def AV.zl (x:AV):KA:=AV.rec (motive_2:=fun _=>PUnit) .no (fun _=>.no) (fun _ _=>.no) (fun _=>.no) (fun _ _=>.no) (fun _ _ _=>.no) (fun _ _=>.no) .no (fun _ _ _ _=>.no) (fun _ _ _ _=>.no) .no (fun _=>.no) .no (fun _ _ _=>.no) .no (fun t v _=>.yes t v) .nil (fun _ _=>.no) (fun _ _=>.no) (fun _=>.no) PUnit.unit (fun _ _ _ _=>PUnit.unit) x
inductive EB where
 | yes
 | no
 | bad
def AV.isNil (x:AV):EB:=AV.rec (motive_2:=fun _=>PUnit) .bad (fun _=>.bad) (fun _ _=>.bad) (fun _=>.bad) (fun _ _=>.bad) (fun _ _ _=>.bad) (fun _ _=>.no) .yes (fun _ _ _ _=>.no) (fun _ _ _ _=>.no) .yes (fun _=>.no) .yes (fun _ _ _=>.no) .yes (fun _ _ _=>.no) .yes (fun _ _=>.bad) (fun _ _=>.bad) (fun _=>.bad) PUnit.unit (fun _ _ _ _=>PUnit.unit) x
def Obj.wJ (o:Obj):Ww:=Obj.rec .no .no (fun a b c d e=>.yes a b c d e) (fun _ _=>.no) (fun _ _=>.no) (fun _ _ _ _=>.no) .no o
def Obj.dX (o:Obj):UO:=Obj.rec .no .no (fun _ _ _ _ _=>.no) (fun a b=>.yes a b) (fun _ _=>.no) (fun _ _ _ _=>.no) .no o
def AV.de {β:Type} (x:AV) (k:IntKind→Int→β) (e:β):β:=OI.rec e k x.asInt
def AV.bI {β:Type} (x:AV) (k:Bool→β) (e:β):β:=OB.rec e k x.asBool
def AV.gy {β:Type} (x:AV) (k:List Nat→β) (e:β):β:=OS.rec e k x.Ay
def AV.en {β:Type} (x:AV) (k:P4→Nat→β) (e:β):β:=OP.rec e k x.eN
def AV.kS {β:Type} (x:AV) (k:List AV→β) (e:β):β:=OL.rec e k x.asAgg
def AV.zn {β:Type} (x:AV) (k:List AV→β) (e:β):β:=OL.rec e k x.uf
def AV.dY {β:Type} (x:AV) (k:P4→β) (n e:β):β:=OM.rec e n k x.dX
def AV.tD {β:Type} (x:AV) (k:FloatKind→Nat→Nat→β) (e:β):β:=OC.rec e k x.PH
def AV.pM {β:Type} (x:AV) (k:FloatKind→Nat→β) (e:β):β:=OF.rec e k x.UT
def AV.jg {β:Type} (x:AV) (k k':P4→Nat→Nat→Nat→β) (n e:β):β:=Pu.rec e n k k' x.BS
def AV.BZ {β:Type} (x:AV) (k:Nat→List AV→β) (e:β):β:=Kz.rec e k x.zk
def AV.zm {β:Type} (x:AV) (k:Nat→AV→β) (n e:β):β:=KA.rec e n k x.zl
def Obj.bB {β:Type} (o:Obj) (k:Nat→Nat→Bool→Fl→Cl→β) (e:β):β:=Ww.rec e k o.wJ
def Obj.dY {β:Type} (o:Obj) (k:List KV→Nat→β) (e:β):β:=UO.rec e k o.dX
def AV.one (x:AV):Bool:=AV.rec (motive_2:=fun _=>PUnit) false (fun _=>true) (fun _ _=>true) (fun _=>true) (fun _ _=>true) (fun _ _ _=>true) (fun _ _=>true) true (fun _ _ _ _=>true) (fun _ _ _ _=>true) true (fun _=>true) true (fun _ _ _=>true) true (fun _ _ _=>true) true (fun _ _=>false) (fun _ _=>false) (fun _=>false) PUnit.unit (fun _ _ _ _=>PUnit.unit) x
def AV.cs (x:AV):List AV:=OL.rec (.cons x .nil) (fun l=>l) x.asAgg
def jH (a b:List Nat):Bool:=cw (β:=List Nat→Bool) (fun b=>List.rec true (fun _ _ _=>false) b)
 (fun x _ ih b=>List.rec false (fun y b _=>Bool.rec false (ih b) (Nat.beq x y)) b) a b
def vt (a b:List Nat):Bool:=cw (β:=List Nat→Bool) (fun b=>List.rec false (fun _ _ _=>true) b)
 (fun x _ ih b=>List.rec false (fun y b _=>Bool.rec (Nat.ble x y) (ih b) (Nat.beq x y)) b) a b
def nq (a b:H):Bool:=Nat.beq a.nat b.nat
def lO (a b:P4):Bool:=P4.rec (fun a1 a2 a3 a4=>P4.rec (fun b1 b2 b3 b4=>
 Bool.rec false (Bool.rec false (Bool.rec false (nq a1 b1) (nq a2 b2)) (nq a3 b3)) (nq a4 b4)) b) a
def gP (a b:Bool):Bool:=Bool.rec (Bool.rec true false b) b a
def EB.of (b:Bool):EB:=Bool.rec .no .yes b
def eH (o:Obj):Bool:=Obj.bB o (fun _ _ _ fl _=>Fl.rec true false false fl) false
inductive KK where
 | b|i|s|p
def Wu (x y:AV):EB:=OB.rec .bad (fun a=>OB.rec .bad (fun b=>.of (gP a b)) y.asBool) x.asBool
def Yu (x y:AV):EB:=OI.rec .bad (fun k a=>OI.rec .bad (fun k' b=>Bool.rec .bad (.of (uh a b)) (mL k k')) y.asInt) x.asInt
def Yv (x y:AV):EB:=OS.rec .bad (fun a=>OS.rec .bad (fun b=>.of (jH a b)) y.Ay) x.Ay
def eJ (x:AV):Bool:=AV.rec (motive_2:=fun _=>PUnit) false (fun _=>false) (fun _ _=>false) (fun _=>false) (fun _ _=>false) (fun _ _ _=>false) (fun _ _=>false) true (fun _ _ _ _=>false) (fun _ _ _ _=>false) false (fun _=>false) false (fun _ _ _=>false) false (fun _ _ _=>false) false (fun _ _=>false) (fun _ _=>false) (fun _=>false) PUnit.unit (fun _ _ _ _=>PUnit.unit) x
def Pj (h:Hp) (x y:AV):EB:=OP.rec (Bool.rec .bad (OP.rec (Bool.rec .bad .yes (eJ y)) (fun _ _=>.no) y.eN) (eJ x)) (fun i o=>OP.rec (Bool.rec .bad .no (eJ y)) (fun j q=>Bool.rec (Bool.rec .bad (Bool.rec .bad .no (eH (av j h))) (eH (av i h))) (.of (Nat.beq o q)) (lO i j)) y.eN) x.eN
def FX (k:KK) (h:Hp) (x y:AV):EB:=KK.rec (Wu x y) (Yu x y) (Yv x y) (Pj h x y) k
def xT (ks:List KK) (h:Hp) (a b:List AV):EB:=cw (β:=List AV→List AV→EB) (fun a b=>List.rec (List.rec .yes (fun _ _ _=>.bad) b) (fun _ _ _=>.bad) a)
 (fun k _ ih a b=>List.rec .bad (fun x a _=>List.rec .bad (fun y b _=>EB.rec (ih a b) (EB.rec .no .no .bad (ih a b)) .bad (FX k h x y)) b) a) ks a b
def EB.rv (neg:Bool) (h:Hp) (e:EB):RV:=EB.rec (.ok (.bool (Bool.not neg)) h) (.ok (.bool neg) h) (.err 2) e
def UU (_:Hp) (x y:AV):EB:=AV.zm x (fun t _=>AV.zm y (fun u _=>Bool.rec .no .bad (Nat.beq t u)) .no .bad)
 (AV.zm y (fun _ _=>.no) .bad .bad) .bad
inductive Part where
 | mk (off sz:Nat) (x:AO)
inductive NK where
 | s|m|f|i
def PI (x:AV):EB:=AV.rec (motive_2:=fun _=>PUnit) .bad (fun _=>.bad) (fun _ _=>.bad) (fun _=>.bad) (fun _ _=>.bad) (fun _ _ _=>.bad) (fun _ _=>.bad) .bad (fun _ _ _ _=>.bad) (fun _ _ _ _=>.bad) .bad (fun _=>.bad) .bad (fun _ _ _=>.no) .yes (fun _ _ _=>.bad) .bad (fun _ _=>.bad) (fun _ _=>.bad) (fun _=>.bad) PUnit.unit (fun _ _ _ _=>PUnit.unit) x
def ub (k:NK) (x:AV):EB:=NK.rec (Pu.rec .bad .yes (fun _ _ _ _=>.no) (fun _ _ _ _=>.no) x.BS) (OM.rec .bad .yes (fun _=>.no) x.dX) (PI x) (KA.rec .bad .yes (fun _ _=>.no) x.zl) k
inductive BK where
 | add|sub|mul|quo|rem|and|or|xor|Ua|shl|shr
 | eq|ne|lt|le|gt|ge
 | seq|Kd|slt|sle|XS|XT|cat
 | beq|bne|lO|WU|jO (k:NK)|jP (k:NK)
 | WV (ks:List KK)|Ru (ks:List KK)
 | DP (op:BinOp)
 | NM (op:BinOp)
 | uh|Ym
inductive UK where
 | not|neg|XU
inductive CK where
 | same|toInt (k:IntKind)|Xy (el:Nat)|Wq|YB|Om (k:FloatKind)|Um (k:IntKind)|Yt (el:Nat)|Xx|FM (u sz:Nat)
inductive OA where
 | none
 | some (x:AO)
def Ph (v:AV) (h:Hp):RV:=EB.rec (.ok v h) (.err 3) (.err 3) (OI.rec (OB.rec .bad (fun _=>.yes) v.asBool) (fun _ _=>.yes) v.asInt)
def zK (f:IntKind→Int→Int→AV) (x y:AV) (h:Hp):RV:=AV.de x (fun k a=>AV.de y (fun k' b=>Bool.rec (.err 4) (.ok (f k a b) h) (mL k k')) (.err 4)) (.err 4)
def IM (f:IntKind→Int→Int→AV) (x y:AV) (h:Hp):RV:=AV.de x (fun k a=>AV.de y (fun k' b=>Bool.rec (.err 4) (Ph (f k a b) h) (mL k k')) (.err 4)) (.err 4)
def IP (f:List Nat→List Nat→AV) (x y:AV) (h:Hp):RV:=AV.gy x (fun a=>AV.gy y (fun b=>.ok (f a b) h) (.err 5)) (.err 5)
def Rt (f:IntKind→Int→Int→AV) (x y:AV) (h:Hp):RV:=AV.de x (fun k a=>AV.de y (fun _ b=>Ph (f k a b) h) (.err 6)) (.err 6)
def Pn (k:IntKind) (a b:Int):AV:=Int.rec (fun n=>.int k (hR k (Jy a (.ofNat (Nat.pow 2 (Nat.min n (jZ k))))))) (fun _=>.undef) b
def Po (k:IntKind) (a b:Int):AV:=Int.rec (fun n=>Int.rec (fun m=>.int k (.ofNat (Nat.div m (Nat.pow 2 (Nat.min n (jZ k)))))) (fun m=>.int k (Int.fdiv (.negSucc m) (2 ^ (Nat.min n (jZ k))))) a) (fun _=>.undef) b
def IQ (k:FloatKind) (op:BinOp) (a b:Nat) (h:Hp):RV:=
 let c:=k.format.order a b
 match op with
 | .eql=>.ok (.bool (c == some .eq)) h
 | .neq=>.ok (.bool (c != some .eq)) h
 | .lss=>.ok (.bool (c == some .lt)) h
 | .leq=>.ok (.bool (c == some .lt || c == some .eq)) h
 | .gtr=>.ok (.bool (c == some .gt)) h
 | .geq=>.ok (.bool (c == some .gt || c == some .eq)) h
 | .add=>match k.format.add a b with|some r=>.ok (.ji k r) h|none=>.err 7
 | .sub=>match k.format.sub a b with|some r=>.ok (.ji k r) h|none=>.err 7
 | .mul=>match k.format.mul a b with|some r=>.ok (.ji k r) h|none=>.err 7
 | .quo=>match k.format.div a b with|some r=>.ok (.ji k r) h|none=>.err 7
 | _=>.err 7
def zL (k:FloatKind) (op:BinOp) (a b c d:Nat) (h:Hp):RV:=
 match op with
 | .add=>match k.format.add a c,k.format.add b d with|some r,some s=>.ok (.cG k r s) h|_,_=>.err 8
 | .sub=>match k.format.sub a c,k.format.sub b d with|some r,some s=>.ok (.cG k r s) h|_,_=>.err 8
 | .eql=>.ok (.bool (k.format.order a c == some .eq&&k.format.order b d == some .eq)) h
 | .neq=>.ok (.bool (!(k.format.order a c == some .eq&&k.format.order b d == some .eq))) h
 | _=>.err 8
def vP (a b:FloatKind):Bool:=FloatKind.rec (FloatKind.rec true false b) (FloatKind.rec false true b) a
def ja:AV→AV→Hp→RV:=zK (fun k a b=>.int k (hR k (Pc a b)))
def zo:AV→AV→Hp→RV:=zK (fun k a b=>.int k (hR k (Pc a (Pd b))))
def gu:AV→AV→Hp→RV:=zK (fun k a b=>.int k (hR k (Jy a b)))
def kX:AV→AV→Hp→RV:=IM (fun k a b=>Bool.rec (.int k (hR k (Pe a b))) .undef (uh b (.ofNat 0)))
def pH:AV→AV→Hp→RV:=IM (fun k a b=>Bool.rec (.int k (Pf a b)) .undef (uh b (.ofNat 0)))
def vk:AV→AV→Hp→RV:=IM (Al Nat.land)
def UE:AV→AV→Hp→RV:=IM (Al Nat.lor)
def pI:AV→AV→Hp→RV:=IM (Al Nat.xor)
def ET:AV→AV→Hp→RV:=zK (fun k a b=>.int k (k.wrap (BitVec.ofInt k.bits a &&& ~~~BitVec.ofInt k.bits b).toNat))
def wT:AV→AV→Hp→RV:=zK (fun _ a b=>.bool (uh a b))
def bU:AV→AV→Hp→RV:=zK (fun _ a b=>.bool (Bool.not (uh a b)))
def vB:AV→AV→Hp→RV:=zK (fun _ a b=>.bool (JB a b))
def oZ:AV→AV→Hp→RV:=zK (fun _ a b=>.bool (UD a b))
def fH:AV→AV→Hp→RV:=zK (fun _ a b=>.bool (JB b a))
def fm:AV→AV→Hp→RV:=zK (fun _ a b=>.bool (UD b a))
def aC:AV→AV→Hp→RV:=IP (fun a b=>.bool (jH a b))
def pG:AV→AV→Hp→RV:=IP (fun a b=>.bool (Bool.not (jH a b)))
def zR:AV→AV→Hp→RV:=IP (fun a b=>.bool (vt a b))
def Ks:AV→AV→Hp→RV:=IP (fun a b=>.bool (Bool.not (vt b a)))
def Kr:AV→AV→Hp→RV:=IP (fun a b=>.bool (vt b a))
def Ku:AV→AV→Hp→RV:=IP (fun a b=>.bool (Bool.not (vt a b)))
def cA (x y:AV) (h:Hp):RV:=AV.gy x (fun a=>AV.gy y (fun b=>Bool.rec (.err 135) (.ok (.str (List.append a b)) h) (Nat.ble (Nat.add a.length b.length) 4294967296)) (.err 5)) (.err 5)
def xz (neg:Bool) (ks:List KK) (x y:AV) (h:Hp):RV:=AV.kS x (fun a=>AV.kS y (fun b=>EB.rv neg h (xT ks h a b)) (.err 10)) (.err 10)
def DQ (op:BinOp) (x y:AV) (h:Hp):RV:=AV.pM x (fun k a=>AV.pM y (fun k' b=>Bool.rec (.err 7) (IQ k op a b h) (vP k k')) (.err 7)) (.err 7)
def DR (op:BinOp) (x y:AV) (h:Hp):RV:=AV.tD x (fun k a b=>AV.tD y (fun k' c d=>Bool.rec (.err 8) (zL k op a b c d h) (vP k k')) (.err 8)) (.err 8)
def bK (op:BK):AV→AV→Hp→RV:=BK.rec (motive:=fun _=>AV→AV→Hp→RV) ja zo gu kX pH vk UE pI ET (Rt Pn) (Rt Po) wT bU vB oZ fH fm aC pG zR Ks Kr Ku cA (fun x y h=>EB.rv false h (Wu x y)) (fun x y h=>EB.rv true h (Wu x y)) (fun x y h=>EB.rv false h (Pj h x y)) (fun x y h=>EB.rv true h (Pj h x y)) (fun k x _ h=>EB.rv false h (ub k x)) (fun k x _ h=>EB.rv true h (ub k x)) (xz false) (xz true) DQ DR (fun x y h=>EB.rv false h (UU h x y)) (fun x y h=>EB.rv true h (UU h x y)) op
def Ky (op:BK) (x y:AO) (r:A2) (h:Hp):RV:=bK op (ev x r) (ev y r) h
def bG (x:AV) (h:Hp):RV:=AV.bI x (fun b=>.ok (.bool (Bool.not b)) h) (.err 11)
def mV (x:AV) (h:Hp):RV:=AV.de x (fun k n=>.ok (.int k (hR k (Pd n))) h) (.err 11)
def vh (x:AV) (h:Hp):RV:=AV.de x (fun k n=>.ok (.int k (k.wrap (BitVec.ofInt k.bits (if k.signed then -1 else k.max) ^^^ BitVec.ofInt k.bits n).toNat)) h) (.err 11)
def ID (op:UK) (x:AO) (r:A2) (h:Hp):RV:=UK.rec (motive:=fun _=>AV→Hp→RV) bG mV vh op (ev x r) h
def IC (x:AO) (r:A2) (h:Hp):RV:=.ok (ev x r) h
def bQ (c a b:AO) (r:A2) (h:Hp):RV:=AV.bI (ev c r) (fun t=>.ok (Bool.rec (ev b r) (ev a r) t) h) (.err 12)
def vA:P4→Hp→RV:=fun i h=>.ok (.ptr i 0) h
def oC (el:Nat) (ex:Bool) (fl:Fl) (n:Nat) (c:Cl) (h:Hp) (k:P4→Hp→RV):RV:=Bool.rec (.err 130) (lX (.cells el n ex fl c) h k) (Nat.ble n (bM c))
def Gb (el:Nat) (l:List AV) (h:Hp):RV:=oC el true .plain l.length (lW l) h vA
def Ae (el n:Nat) (c:Cl) (_:A2) (h:Hp):RV:=oC el true .plain n c h vA
def xn (el:Nat) (x:AO) (r:A2) (h:Hp):RV:=OL.rec (Bool.rec (.err 134) (Gb el (.cons (ev x r) .nil) h) (ev x r).one) (fun l=>Gb el l h) (ev x r).asAgg
def JK (l:List AV) (i:Nat) (v:AV):List AV:=cw (β:=Nat→List AV) (fun _=>.nil)
 (fun x t ih i=>Nat.rec (.cons v t) (fun i _=>.cons x (ih i)) i) l i
def mS (vs:List AV):Nat→List AV→List AV:=cw (fun _ l=>l) (fun v _ ih i l=>ih (Nat.succ i) (JK l i v)) vs
def fill (ps:List Part) (r:A2):List AV→List AV:=cw (fun l=>l)
 (fun p _ ih l=>Part.rec (fun off _ x=>ih (mS (AV.cs (ev x r)) off l)) p) ps
def fits (ps:List Part) (r:A2):Bool:=cw true (fun p _ ih=>Part.rec (fun _ sz x=>OL.rec (Bool.rec false ih (Bool.and (ev x r).one (Nat.beq sz 1))) (fun l=>Bool.rec false ih (Nat.beq l.length sz)) (ev x r).asAgg) p) ps
def iy (z:List AV) (ps:List Part) (r:A2) (h:Hp):RV:=Bool.rec (.err 132) (.ok (.agg (fill ps r z)) h) (fits ps r)
def JR (el n:Nat) (l:List AV) (h:Hp):RV:=oC el true .plain l.length (lW l) h (fun i h=>.ok (.slice i 0 n n) h)
def fc (el es n:Nat) (z:List AV) (ps:List Part) (r:A2) (h:Hp):RV:=Bool.rec (.err 133) (JR el n (fill ps r z) h) (fits ps r)
def FT (i n:Nat):Bool:=Nat.ble (Nat.succ i) n
def gQ (x:AO) (r:A2) (h:Hp):RV:=AV.en (ev x r) (fun i o=>Obj.bB (av i h) (fun _ n _ _ c=>
 Bool.rec (.err 13) (.ok (dR o c) h) (FT o n)) (.err 14)) (.err 15)
def pC (m:Nat) (x:AO) (r:A2) (h:Hp):RV:=AV.en (ev x r) (fun i o=>Obj.bB (av i h) (fun _ n _ _ c=>
 Bool.rec (.err 16) (.ok (.agg (bw m c o)) h) (Nat.ble (Nat.add o m) n)) (.err 17)) (.err 18)
def wr (fl:Fl):Bool:=Fl.rec true true false fl
def sZ (x y:AO) (r:A2) (h:Hp):RV:=AV.en (ev x r) (fun i o=>Obj.bB (av i h) (fun el n ex fl c=>
 Bool.rec (.err 19) (Bool.rec (.err 20) (.ok .undef (cE i (.cells el n ex fl (ug o (ev y r) c)) h)) (Bool.and (FT o n) (ev y r).one)) (wr fl)) (.err 21)) (.err 22)
def xo (m:Nat) (x y:AO) (r:A2) (h:Hp):RV:=AV.en (ev x r) (fun i o=>Obj.bB (av i h) (fun el n ex fl c=>
 Bool.rec (.err 23) (Bool.rec (.err 24) (AV.kS (ev y r) (fun l=>Bool.rec (.err 25) (.ok .undef (cE i (.cells el n ex fl (eM l o c)) h)) (Nat.beq l.length m)) (.err 26)) (Nat.ble (Nat.add o m) n)) (wr fl)) (.err 27)) (.err 28)
def pR (x:AV) (h:Hp):RV:=EB.rec (.err 30) (.ok x h) (.err 29) x.isNil
def oP (x:AO) (r:A2) (h:Hp):RV:=OP.rec (pR (ev x r) h) (fun i o=>.ok (.ptr i o) h) (ev x r).eN
def UF (k:IntKind):Bool:=IntKind.rec false false false false true false false false k
def Az (k:IntKind):Bool:=IntKind.rec false false false true false false false false k
def gw (l:List AV) (k:List Nat→RV) (e:RV):RV:=cw (β:=(List Nat→RV)→RV) (fun k=>k .nil)
 (fun x _ ih k=>AV.de x (fun kd n=>Bool.rec e (Int.rec (fun m=>Bool.rec e (ih (fun s=>k (.cons m s))) (Nat.ble m 255)) (fun _=>e) n) (UF kd)) e) l k
def byteCells (s:List Nat):List AV:=cw .nil (fun b _ ih=>.cons (.int .u8 (.ofNat b)) ih) s
def kI (es:Nat) (i:P4) (o n:Nat) (h:Hp) (k:List AV→RV) (e:RV):RV:=Nat.rec (k .nil) (fun n _=>Obj.bB (av i h) (fun _ m _ _ c=>Bool.rec e (k (bw (Nat.mul (Nat.succ n) es) c o)) (Nat.ble (Nat.add o (Nat.mul (Nat.succ n) es)) m)) e) n
def elems (es:Nat) (x:AV) (h:Hp) (k:List AV→RV) (e:RV):RV:=AV.jg x
 (fun i o n _=>kI es i o n h k e)
 (fun i o n es'=>Bool.rec e (kI es i o n h k e) (Nat.beq es es'))
 (k .nil) e
def qu (el:Nat) (fl:Fl) (es:Nat) (n:Nat) (l:List AV) (h:Hp):RV:=oC el false fl l.length (lW l) h (fun i h=>.ok (.aH i 0 n es) h)
def JS (s:List Nat):List AV:=(Conv.runesFrom ⟨(s.map UInt8.ofNat).toArray⟩ s.length 0 #[]).toList.filterMap fun|.int _ n=>some (.int .i32 n)|_=>none
def FN (el:Nat) (l:List AV) (h:Hp):RV:=qu el .plain 1 l.length l h
def Kw (el:Nat) (x:AV) (h:Hp):RV:=AV.gy x (fun s=>qu el .mark 1 s.length (byteCells s) h) (.err 32)
def wi (k:IntKind) (x:AV) (h:Hp):RV:=AV.de x (fun _ n=>.ok (.int k (hR k n)) h) (.err 31)
def DX (x:AV) (h:Hp):RV:=elems 1 x h (fun l=>gw l (fun s=>.ok (.str s) h) (.err 33)) (.err 34)
def Kg (x:AV) (h:Hp):RV:=AV.de x (fun _ n=>.ok (.str ((Utf8.encode n).data.toList.map (·.toNat))) h) (.err 35)
def DY (k:FloatKind) (x:AV) (h:Hp):RV:=AV.de x (fun _ n=>.ok (.ji k (k.nearest n)) h) (.err 36)
def DZ (k:IntKind) (x:AV) (h:Hp):RV:=AV.pM x (fun s b=>match (s.decode b).toInt .zero with|some n=>if k.min≤n∧n≤k.max then .ok (.int k n) h else .err 37|none=>.err 37) (.err 37)
def UW (el:Nat) (x:AV) (h:Hp):RV:=AV.gy x (fun s=>FN el (JS s) h) (.err 38)
def DW (x:AV) (h:Hp):RV:=AV.gy x (fun s=>.ok (.str s) h) (.err 38)
def DV (x:AV) (h:Hp):RV:=OP.rec (Bool.rec (.err 190) (.ok x h) (eJ x)) (fun i o=>Obj.bB (av i h) (fun _ n ex _ _=>Bool.rec (.err 191) (.ok x h) (Bool.and ex (FT o n))) (.err 192)) x.eN
def wh (u sz:Nat) (x:AV) (h:Hp):RV:=OP.rec (Bool.rec (.err 190) (.ok x h) (eJ x)) (fun i o=>Obj.bB (av i h) (fun el n ex _ _=>Bool.rec (.err 193) (.ok x h) (Bool.and ex (Bool.and (Nat.beq o 0) (Bool.and (Nat.beq el u) (Nat.beq n sz))))) (.err 194)) x.eN
def cK (op:CK):AV→Hp→RV:=CK.rec (motive:=fun _=>AV→Hp→RV) DW wi Kw DX Kg DY DZ UW DV wh op
def ta (op:CK) (x:AO) (r:A2) (h:Hp):RV:=cK op (ev x r) h
def xp (t:Nat) (x:AO) (r:A2) (h:Hp):RV:=.ok (.iface t (ev x r)) h
def fu (xs:List AO) (r:A2):List AV:=cw .nil (fun x _ ih=>.cons (ev x r) ih) xs
def xq (f:Nat) (xs:List AO) (r:A2) (h:Hp):RV:=.ok (.fn f (fu xs r)) h
def vG (_:A2) (h:Hp):RV:=lX (.map .nil 0) h (fun i h=>.ok (.map i) h)
def dy (n:Nat) (z:List AV):List AV:=Nat.rec .nil (fun _ ih=>List.append z ih) n
def dM (x:AV) (k:Nat→RV) (e:RV):RV:=AV.de x (fun _ n=>Int.rec k (fun _=>e) n) e
def XB (el l c:Nat) (v:List AV) (h:Hp):RV:=oC el true .plain v.length (lW v) h (fun i h=>.ok (.slice i 0 l c) h)
def gZ (el:Nat) (z:List AV) (l c:AO) (r:A2) (h:Hp):RV:=dM (ev l r) (fun l=>dM (ev c r) (fun c=>
 Bool.rec (.err 39) (Bool.rec (.err 40) (XB el l c (dy c z) h) (Nat.ble c 1048576)) (Nat.ble l c)) (.err 41)) (.err 41)
def eO (x:OA) (d:Nat) (r:A2) (k:Nat→RV) (e:RV):RV:=OA.rec (k d) (fun x=>dM (ev x r) k e) x
def isSome (x:OA):Bool:=OA.rec false (fun _=>true) x
def DT (es:Nat) (i:P4) (o a b m cap:Nat) (h:Hp):RV:=Bool.rec (.err 42) (Bool.rec (.err 42) (Bool.rec (.err 42) (.ok (.slice i (Bool.rec (Nat.add o (Nat.mul a es)) o (Nat.beq m a)) (Nat.sub b a) (Nat.sub m a)) h) (Nat.ble m cap)) (Nat.ble b m)) (Nat.ble a b)
def Ke (es:Nat) (i:P4) (o a b:Nat) (h:Hp):RV:=Bool.rec (.err 42) (Obj.bB (av i h) (fun _ k _ _ _=>
 Bool.rec (.err 45) (.ok (.aH i (Nat.add o (Nat.mul a es)) (Nat.sub b a) es) h) (Nat.ble (Nat.add o (Nat.mul b es)) k)) (.err 46)) (Nat.ble a b)
def Kf (es:Nat) (i:P4) (o a b m:Nat) (h:Hp):RV:=Bool.rec (.err 42) (Bool.rec (.err 42) (Obj.bB (av i h) (fun _ k _ _ _=>
 Bool.rec (.err 45) (.ok (.slice i (Bool.rec (Nat.add o (Nat.mul a es)) o (Nat.beq m a)) (Nat.sub b a) (Nat.sub m a)) h) (Nat.ble (Nat.add o (Nat.mul m es)) k)) (.err 46)) (Bool.and (Nat.ble 1 m) (Nat.ble b m))) (Nat.ble a b)
def cq (es:Nat) (x:AO) (lo hi mx:OA) (r:A2) (h:Hp):RV:=AV.jg (ev x r)
 (fun i o n cap=>eO mx cap r (fun m=>eO hi n r (fun b=>eO lo 0 r (fun a=>DT es i o a b m cap h) (.err 43)) (.err 43)) (.err 43))
 (fun i o n es'=>Bool.rec (.err 44) (eO hi n r (fun b=>eO lo 0 r (fun a=>Bool.rec (Ke es i o a b h) (eO mx 0 r (fun m=>Kf es i o a b m h) (.err 43)) (isSome mx)) (.err 43)) (.err 43)) (Nat.beq es es'))
 (eO mx 0 r (fun m=>eO hi 0 r (fun b=>eO lo 0 r (fun a=>Bool.rec (.err 47) (.ok .ah h) (Nat.beq (Nat.add m (Nat.add a b)) 0)) (.err 43)) (.err 43)) (.err 43))
 (.err 48)
def fS (x:AO) (lo hi:OA) (r:A2) (h:Hp):RV:=AV.gy (ev x r) (fun s=>eO hi s.length r (fun b=>eO lo 0 r (fun a=>
 Bool.rec (.err 49) (Bool.rec (.err 49) (.ok (.str (List.take (Nat.sub b a) (List.drop a s))) h) (Nat.ble b s.length)) (Nat.ble a b)) (.err 49)) (.err 49)) (.err 49)
def iM (len es:Nat) (x:AO) (lo hi mx:OA) (r:A2) (h:Hp):RV:=AV.en (ev x r) (fun i o=>eO mx len r (fun m=>eO hi len r (fun b=>eO lo 0 r (fun a=>DT es i o a b m len h) (.err 43)) (.err 43)) (.err 43)) (.err 50)
def ss (d:Nat) (x:AO) (r:A2) (h:Hp):RV:=AV.en (ev x r) (fun i o=>.ok (.ptr i (Nat.add o d)) h) (.err 51)
def oQ (d:Nat) (x:AO) (r:A2) (h:Hp):RV:=AV.kS (ev x r) (fun l=>List.rec (.err 52) (fun v _ _=>.ok v h) (List.drop d l)) (.err 52)
def oS (d n:Nat) (x:AO) (r:A2) (h:Hp):RV:=AV.kS (ev x r) (fun l=>Bool.rec (.err 53) (.ok (.agg (List.take n (List.drop d l))) h) (Nat.ble (Nat.add d n) l.length)) (.err 53)
def AB (es:Nat) (i:P4) (o n k:Nat) (h:Hp):RV:=Bool.rec (.err 54) (.ok (.ptr i (Nat.add o (Nat.mul k es))) h) (FT k n)
def su (es:Nat) (x y:AO) (r:A2) (h:Hp):RV:=dM (ev y r) (fun k=>AV.jg (ev x r)
 (fun i o n _=>AB es i o n k h) (fun i o n _=>AB es i o n k h) (.err 54) (.err 55)) (.err 55)
def uU (len es:Nat) (x y:AO) (r:A2) (h:Hp):RV:=dM (ev y r) (fun k=>AV.en (ev x r) (fun i o=>AB es i o len k h) (.err 56)) (.err 56)
def eh (x y:AO) (r:A2) (h:Hp):RV:=dM (ev y r) (fun k=>AV.gy (ev x r) (fun s=>List.rec (.err 57) (fun b _ _=>.ok (.int .u8 (.ofNat b)) h) (List.drop k s)) (.err 57)) (.err 57)
def oT (len es:Nat) (agg:Bool) (x y:AO) (r:A2) (h:Hp):RV:=dM (ev y r) (fun k=>AV.kS (ev x r) (fun l=>Bool.rec (.err 58) (Bool.rec (List.rec (.err 58) (fun v _ _=>.ok v h) (List.drop (Nat.mul k es) l)) (Bool.rec (.err 58) (.ok (.agg (List.take es (List.drop (Nat.mul k es) l))) h) (Nat.ble (Nat.add (Nat.mul k es) es) l.length)) agg) (FT k len)) (.err 58)) (.err 58)
def uW (i:Nat) (x:AO) (r:A2) (h:Hp):RV:=AV.zn (ev x r) (fun l=>List.rec (.err 59) (fun v _ _=>.ok v h) (List.drop i l)) (.err 59)
inductive KT where
 | one (k:KK)
 | agg (ks:List KK)
def BP (t:KT) (a b:AV) (h:Hp):EB:=KT.rec (fun k=>FX k h a b) (fun ks=>OL.rec .bad (fun l=>OL.rec .bad (fun m=>xT ks h l m) b.asAgg) a.asAgg) t
def ya (kt:KT) (x:AV) (l:List KV) (h:Hp) (k:Nat→AV→Nat→RV) (n e:RV):RV:=cw (β:=Nat→RV) (fun _=>n)
 (fun y _ ih i=>KV.rec (fun a v born=>EB.rec (k i v born) (ih (Nat.succ i)) e (BP kt x a h)) y) l 0
def wD (i:Nat) (key v:AV) (l:List KV):List KV:=cw (β:=Nat→List KV) (fun _=>.nil)
 (fun y t ih i=>Nat.rec (KV.rec (fun _ _ born=>.cons (.mk key v born) t) y) (fun i _=>.cons y (ih i)) i) l i
def Pm (i:Nat) (l:List KV):List KV:=cw (β:=Nat→List KV) (fun _=>.nil) (fun y t ih i=>Nat.rec t (fun i _=>.cons y (ih i)) i) l i
def snoc (l:List KV) (y:KV):List KV:=cw (.cons y .nil) (fun x _ ih=>.cons x ih) l
def zN (ok found:Bool) (v:AV) (h:Hp):RV:=.ok (Bool.rec v (.aW (.cons v (.cons (.bool found) .nil))) ok) h
def tV (t:KT) (x:AV) (h:Hp):Bool:=EB.rec true true false (BP t x x h)
def IJ (t:KT) (z:AV) (ok:Bool) (x k:AV) (h:Hp):RV:=Bool.rec (.err 60) (AV.dY x (fun i=>Obj.dY (av i h) (fun l _=>ya t k l h (fun _ v _=>zN ok true v h) (zN ok false z h) (.err 61)) (.err 62)) (zN ok false z h) (.err 63)) (tV t k h)
def zF (t:KT) (z:AV) (ok:Bool) (x y:AO) (r:A2) (h:Hp):RV:=IJ t z ok (ev x r) (ev y r) h
def Ka (t:KT) (x k v:AV) (h:Hp):RV:=Bool.rec (.err 64) (AV.dY x (fun i=>Obj.dY (av i h) (fun l c=>ya t k l h
   (fun j _ _=>.ok .undef (cE i (.map (wD j k v l) c) h)) (.ok .undef (cE i (.map (snoc l (.mk k v c)) (Nat.succ c)) h)) (.err 65)) (.err 66))
  (.err 67) (.err 68)) (tV t k h)
def zG (t:KT) (x y z:AO) (r:A2) (h:Hp):RV:=Ka t (ev x r) (ev y r) (ev z r) h
def xv (t:KT) (z x k:AV) (h:Hp):RV:=Bool.rec (.err 220) (AV.dY x (fun i=>Obj.dY (av i h) (fun l c=>ya t k l h
   (fun j v b=>.ok (.aW (.cons v (.cons (.int .i64 (.ofNat b)) .nil))) (cE i (.map (wD j k v l) c) h)) (.ok (.aW (.cons z (.cons (.int .i64 (.ofNat c)) .nil))) (cE i (.map (snoc l (.mk k z c)) (Nat.succ c)) h)) (.err 221)) (.err 222))
  (.err 223) (.err 224)) (tV t k h)
def we (t:KT) (z:AV) (x y:AO) (r:A2) (h:Hp):RV:=xv t z (ev x r) (ev y r) h
def UI (b:Nat) (l:List KV) (k:Nat→AV→RV) (e:RV):RV:=cw (β:=Nat→RV) (fun _=>e) (fun y _ ih i=>KV.rec (fun a _ c=>Bool.rec (ih (Nat.succ i)) (k i a) (Nat.beq b c)) y) l 0
def xw (x s v:AV) (h:Hp):RV:=AV.dY x (fun i=>Obj.dY (av i h) (fun l c=>dM s (fun b=>UI b l (fun j a=>.ok .undef (cE i (.map (wD j a v l) c) h)) (.err 225)) (.err 226)) (.err 227)) (.err 228) (.err 229)
def wg (x y z:AO) (r:A2) (h:Hp):RV:=xw (ev x r) (ev y r) (ev z r) h
def di:AV:=.aW .nil
def del (t:KT) (x k:AV) (h:Hp):RV:=Bool.rec (.err 69) (AV.dY x (fun i=>Obj.dY (av i h) (fun l c=>ya t k l h
   (fun j _ _=>.ok di (cE i (.map (Pm j l) c) h)) (.ok di h) (.err 70)) (.err 71))
  (.ok di h) (.err 72)) (tV t k h)
def zH (t:KT) (x y:AO) (r:A2) (h:Hp):RV:=del t (ev x r) (ev y r) h
def gv (n:Nat):AV:=.int .i64 (.ofNat n)
def oU (x:AO) (r:A2) (h:Hp):RV:=AV.dY (ev x r) (fun i=>Obj.dY (av i h) (fun l _=>.ok (gv l.length) h) (.err 73)) (.ok (gv 0) h) (.err 73)
def len (x:AV) (h:Hp):RV:=AV.jg x (fun _ _ n _=>.ok (gv n) h) (fun _ _ n _=>.ok (gv n) h) (.ok (gv 0) h) (.err 74)
def dI (x:AV) (h:Hp):RV:=AV.gy x (fun s=>.ok (gv s.length) h) (.err 74)
def zI (x:AO) (r:A2) (h:Hp):RV:=len (ev x r) h
def wb (x:AO) (r:A2) (h:Hp):RV:=dI (ev x r) h
def pE (x:AO) (r:A2) (h:Hp):RV:=AV.jg (ev x r) (fun _ _ _ c=>.ok (gv c) h) (fun _ _ _ _=>.err 75) (.ok (gv 0) h) (.err 75)
def zf (mn:Bool) (a b:Int):Int:=Bool.rec (Bool.rec a b (JB a b)) (Bool.rec a b (JB b a)) mn
def xA (mn:Bool) (k:IntKind) (h:Hp) (l:List AV):Int→RV:=cw (β:=Int→RV) (fun a=>.ok (.int k a) h) (fun y _ ih a=>AV.de y (fun k' b=>Bool.rec (.err 76) (ih (zf mn a b)) (mL k k')) (.err 76)) l
def Bu (mn:Bool) (l:List AV) (h:Hp):RV:=List.rec (.err 76) (fun x xs _=>AV.de x (fun k a=>xA mn k h xs a) (.err 76)) l
def xr (mn:Bool) (xs:List AO) (r:A2) (h:Hp):RV:=Bu mn (fu xs r) h
def kP (i:P4) (o:Nat) (l:List AV) (h:Hp) (k:Hp→RV):RV:=Obj.bB (av i h) (fun el n ex fl c=>Bool.rec (.err 78) (Bool.rec (.err 79) (k (cE i (.cells el n ex fl (eM l o c)) h)) (Nat.ble (Nat.add o l.length) n)) (wr fl)) (.err 80)
def yZ (el es n m:Nat) (old new:List AV) (h:Hp):RV:=qu el .plain es (Nat.add n m) (List.append old new) h
def nk (i:P4) (el k:Nat) (fl:Fl) (c:Cl) (n es:Nat) (h:Hp):RV:=oC el false fl k c (cE i .dead h) (fun j h=>.ok (.aH j 0 n es) h)
def Kv (elt es m:Nat) (new:List AV) (i:P4) (o n:Nat) (h:Hp):RV:=Obj.bB (av i h) (fun el k ex fl c=>Bool.rec (.err 82) (Bool.rec (Bool.rec (.err 83) (Bool.rec (Bool.rec (nk i el (Nat.mul (Nat.add n m) es) fl (lW (List.append (bw (Nat.mul n es) c o) new)) (Nat.add n m) es h) (nk i el (Nat.mul (Nat.add n m) es) fl (eM new k (tC (Nat.mul (Nat.add n m) es) c)) (Nat.add n m) es h) (Bool.and (Nat.beq o 0) (Nat.beq (Nat.mul n es) k))) (.err 81) (Bool.or ex (Bool.not (Nat.beq elt el)))) (Nat.ble (Nat.add o (Nat.mul n es)) k)) (.ok (.aH i o (Nat.add n m) es) (cE i (.cells el k ex fl (eM new (Nat.add o (Nat.mul n es)) c)) h)) (Nat.ble (Nat.add o (Nat.mul (Nat.add n m) es)) k)) (wr fl)) (.err 84)
def Fe (el es m:Nat) (new:List AV) (s:AV) (h:Hp):RV:=AV.jg s
 (fun i o n cap=>Bool.rec (kI es i o n h (fun old=>yZ el es n m old new h) (.err 77)) (Nat.rec (.ok (.slice i o n cap) h) (fun m _=>kP i (Nat.add o (Nat.mul n es)) new h (fun h=>.ok (.slice i o (Nat.add n (Nat.succ m)) cap) h)) m) (Nat.ble (Nat.add n m) cap))
 (fun i o n es'=>Bool.rec (.err 81) (Nat.rec (.ok (.aH i o n es) h) (fun m _=>Kv el es (Nat.succ m) new i o n h) m) (Nat.beq es es'))
 (Nat.rec (.ok .ah h) (fun m _=>yZ el es 0 (Nat.succ m) .nil new h) m) (.err 85)
def tK (x:AV) (k:Nat→RV) (e:RV):RV:=AV.jg x (fun _ _ n _=>k n) (fun _ _ n _=>k n) (k 0) e
def cW (el es:Nat) (x y:AV) (h:Hp):RV:=tK y (fun m=>Bool.rec (.err 86) (elems es y h (fun new=>Fe el es m new x h) (.err 87)) (Nat.ble (Nat.mul m es) 4294967296)) (.err 88)
def uX (el es:Nat) (x y:AO) (r:A2) (h:Hp):RV:=cW el es (ev x r) (ev y r) h
def oD (el es:Nat) (z:List AV) (x y:AO) (r:A2) (h:Hp):RV:=dM (ev y r) (fun n=>Bool.rec (.err 230) (Fe el es n (dy n z) (ev x r) h) (Nat.ble (Nat.mul n es) 1048576)) (.err 231)
def oV (el:Nat) (x y:AO) (r:A2) (h:Hp):RV:=AV.gy (ev y r) (fun s=>Fe el 1 s.length (byteCells s) (ev x r) h) (.err 89)
def xZ (l:List AV) (s:AV) (h:Hp) (k:Hp→RV):RV:=List.rec (k h) (fun a t _=>AV.jg s
 (fun i o _ _=>kP i o (.cons a t) h k) (fun i o _ _=>kP i o (.cons a t) h k) (.err 93) (.err 93)) l
def BD (es:Nat) (x y:AV) (h:Hp):RV:=tK x (fun n=>OS.rec (tK y (fun m=>elems es y h (fun l=>xZ (List.take (Nat.mul n es) l) x h (fun h=>.ok (gv (Nat.min m n)) h)) (.err 94)) (.err 94)) (fun s=>Bool.rec (.err 94) (xZ (byteCells (List.take n s)) x h (fun h=>.ok (gv (Nat.min s.length n)) h)) (Nat.beq es 1)) y.Ay) (.err 94)
def uY (es:Nat) (x y:AO) (r:A2) (h:Hp):RV:=BD es (ev x r) (ev y r) h
def UG (z:List AV) (x:AV) (h:Hp):RV:=tK x (fun n=>xZ (dy n z) x h (fun h=>.ok di h)) (.err 95)
def uZ (z:List AV) (x:AO) (r:A2) (h:Hp):RV:=UG z (ev x r) h
def wc (x:AO) (r:A2) (h:Hp):RV:=AV.gy (ev x r) (fun s=>lX (.Aa s 0) h vA) (.err 96)
def tc (x:AO) (r:A2) (h:Hp):RV:=AV.dY (ev x r) (fun m=>Obj.dY (av m h) (fun _ c=>lX (.vq m c .nil c) h vA) (.err 97)) (lX .Ab h vA) (.err 97)
def UX (d:Nat×Nat) (k:Nat→Nat→RV):RV:=k d.1 d.2
def UY (s:List Nat) (k:Nat→Nat→RV) (e:RV):RV:=List.rec e (fun b t _=>Bool.rec (UX (Utf8.decode ⟨((b::t).map UInt8.ofNat).toArray⟩ 0) k) (k b 1) (Nat.ble b 127)) s
def JL (x:Nat) (l:List Nat):Bool:=cw false (fun y _ ih=>Bool.rec ih true (Nat.beq x y)) l
def gO (seen:List Nat) (l:List KV):List KV:=cw .nil (fun y _ ih=>KV.rec (fun _ _ b=>Bool.rec (.cons y ih) ih (JL b seen)) y) l
def pq (since:Nat) (l:List KV):Bool:=cw false (fun y _ ih=>KV.rec (fun _ _ b=>Bool.rec ih true (Nat.ble since b)) y) l
def over (h:Hp):RV:=.ok (.aW (.cons (.bool false) .nil)) h
def pr (last:Nat) (l:List KV):Bool:=cw true (fun y _ ih=>KV.rec (fun _ _ b=>Bool.rec false ih (Nat.ble last b)) y) l
def Yw (i:P4) (s:List Nat) (pos:Nat) (h:Hp):RV:=List.rec (over h) (fun b t _=>UY (.cons b t) (fun c n=>.ok (.aW (.cons (.bool true) (.cons (gv pos) (.cons (.int .i32 (.ofNat c)) .nil)))) (cE i (.Aa s (Nat.add pos n)) h)) (.err 99)) (List.drop pos s)
def RV.gh (v:RV):RT:=RV.rec (fun v h=>.ok v h) (fun n=>.err n) v
def nth {α β:Type} (l:List α) (k:α→β) (e:β):Nat→β:=cw (β:=Nat→β) (fun _=>e) (fun a _ ih i=>Nat.rec (k a) (fun i _=>ih i) i) l
def lj {α:Type} (l:List α):Bool:=List.rec true (fun _ _ _=>false) l
def vz (i m:P4) (since:Nat) (seen:List Nat) (clock:Nat) (h:Hp) (y:KV):RT:=KV.rec (fun k v b=>.ok (.aW (.cons (.bool true) (.cons k (.cons v .nil)))) (cE i (.vq m since (List.append seen (.cons b .nil)) clock) h)) y
def RB (f:KV→RT) (h:Hp) (u:List KV):RT:=List.rec (over h).gh (fun y t _=>List.rec (f y) (fun _ _ _=>.ch (List.length u) (nth u f (.err 102))) t) u
def RC (i m:P4) (since:Nat) (seen:List Nat) (last:Nat) (h:Hp):RT:=UO.rec (.err 98) (fun l clock=>Bool.rec (Bool.rec (RB (vz i m since seen clock h) h (gO seen l)) (.err 100) (Bool.and (Bool.not (lj seen)) (Bool.and (Bool.not (lj l)) (pr last l)))) (.err 103) (pq since l)) (av m h).dX
def UZ (x:AV) (h:Hp):RT:=OP.rec (.err 98) (fun i o=>Nat.rec (Obj.rec (.err 98) (.err 98) (fun _ _ _ _ _=>.err 98) (fun _ _=>.err 98) (fun s pos=>(Yw i s pos h).gh) (fun _ _ _ _=>.err 98) (.err 98) (av i h)) (fun _ _=>.err 98) o) x.eN
def Ft (x:AV) (h:Hp):RT:=OP.rec (.err 98) (fun i o=>Nat.rec (Obj.rec (.err 98) (.err 98) (fun _ _ _ _ _=>.err 98) (fun _ _=>.err 98) (fun _ _=>.err 98) (fun m since seen last=>RC i m since seen last h) (over h).gh (av i h)) (fun _ _=>.err 98) o) x.eN
def jD (s:Bool) (x:AV) (h:Hp):RT:=Bool.rec (Ft x h) (UZ x h) s
def Fv (b:Nat) (l:List KV) (k:AV→AV→RV) (e:RV):RV:=cw e (fun y _ ih=>KV.rec (fun a v c=>Bool.rec ih (k a v) (Nat.beq b c)) y) l
def Fu (l:List Nat) (k:Nat→RV) (e:RV):RV:=cw e (fun x t ih=>List.rec (k x) (fun _ _ _=>ih) t) l
def Pp (m:P4) (seen:List Nat) (stepped:Nat) (h:Hp):RV:=Fu seen (fun b=>Obj.dY (av m h) (fun l clock=>Bool.rec (.err 105) (Fv b l (fun k v=>.ok (.aW (.cons k (.cons v .nil))) h) (.err 106)) (Nat.beq clock stepped)) (.err 104)) (.err 107)
def xu (x:AO) (r:A2) (h:Hp):RV:=AV.en (ev x r) (fun i o=>Nat.rec (Obj.rec (.err 104) (.err 104) (fun _ _ _ _ _=>.err 104) (fun _ _=>.err 104) (fun _ _=>.err 104) (fun m _ seen stepped=>Pp m seen stepped h) (.err 104) (av i h)) (fun _ _=>.err 104) o) (.err 104)
def Kb (t:Nat) (z:AV) (ok:Bool) (x:AV) (h:Hp):RV:=AV.zm x
 (fun u v=>Bool.rec (Bool.rec (.err 109) (zN true false z h) ok) (zN ok true v h) (Nat.beq t u))
 (Bool.rec (.err 109) (zN true false z h) ok) (.err 108)
def zJ (t:Nat) (z:AV) (ok:Bool) (x:AO) (r:A2) (h:Hp):RV:=Kb t z ok (ev x r) h
def jN (k:FloatKind) (x y:AO) (r:A2) (h:Hp):RV:=AV.pM (ev x r) (fun k1 a=>AV.pM (ev y r) (fun k2 b=>Bool.rec (.err 110) (.ok (.cG k a b) h) (Bool.and (vP k k1) (vP k k2))) (.err 110)) (.err 110)
def fT (im:Bool) (x:AO) (r:A2) (h:Hp):RV:=AV.tD (ev x r) (fun k a b=>.ok (.ji k (Bool.rec a b im)) h) (.err 111)
def jz (x:AO) (r:A2) (h:Hp):RV:=AV.jg (ev x r) (fun i o _ c=>Nat.rec (.err 112) (fun _ _=>.ok (.ptr i o) h) c) (fun i o n _=>Nat.rec (.err 112) (fun _ _=>.ok (.ptr i o) h) n) (.ok .dS h) (.err 112)
def lJ (el:Nat) (x y:AO) (r:A2) (h:Hp):RV:=dM (ev y r) (fun n=>Nat.rec (OP.rec (Bool.rec (.err 113) (.ok (.str .nil) h) (eJ (ev x r))) (fun _ _=>.ok (.str .nil) h) (ev x r).eN) (fun n _=>AV.en (ev x r) (fun i o=>Obj.bB (av i h) (fun el' m ex _ c=>Bool.rec (.err 114) (gw (bw (Nat.succ n) c o) (fun s=>.ok (.str s) (cE i (.cells el' m ex .wV c) h)) (.err 115)) (Bool.and (Nat.ble n 1048576) (Bool.and (Nat.beq el el') (Nat.ble (Nat.add o (Nat.succ n)) m)))) (.err 116)) (.err 117)) n) (.err 118)
inductive oB where
 | mv (x:AO)
 | pick (c a b:AO)
 | alloc (el n:Nat) (c:Cl)
 | box (el:Nat) (x:AO)
 | build (z:List AV) (ps:List Part)
 | aU (el es n:Nat) (z:List AV) (ps:List Part)
 | bq (x:AO)
 | cV (m:Nat) (x:AO)
 | Rp (x y:AO)
 | gS (m:Nat) (x y:AO)
 | pR (x:AO)
 | bin (op:BK) (x y:AO)
 | un (op:UK) (x:AO)
 | conv (op:CK) (x:AO)
 | Ie (t:Nat) (x:AO)
 | TX (f:Nat) (xs:List AO)
 | mT
 | mU (el:Nat) (z:List AV) (l c:AO)
 | JZ (es:Nat) (x:AO) (lo hi mx:OA)
 | DD (x:AO) (lo hi:OA)
 | IE (len es:Nat) (x:AO) (lo hi mx:OA)
 | br (d:Nat) (x:AO)
 | IG (d:Nat) (x:AO)
 | IH (d n:Nat) (x:AO)
 | bF (es:Nat) (x y:AO)
 | AD (len es:Nat) (x y:AO)
 | idxs (x y:AO)
 | II (len es:Nat) (agg:Bool) (x y:AO)
 | ext (i:Nat) (x:AO)
 | IJ (t:KT) (z:AV) (ok:Bool) (x y:AO)
 | Ka (t:KT) (x y z:AO)
 | del (t:KT) (x y:AO)
 | DE (x:AO)
 | len (x:AO)
 | dI (x:AO)
 | cap (x:AO)
 | max (mn:Bool) (xs:List AO)
 | app (el es:Nat) (x y:AO)
 | apps (el:Nat) (x y:AO)
 | TY (es:Nat) (x y:AO)
 | TZ (z:List AV) (x:AO)
 | IK (x:AO)
 | DF (x:AO)
 | NJ (x:AO)
 | Kb (t:Nat) (z:AV) (ok:Bool) (x:AO)
 | cG (k:FloatKind) (x y:AO)
 | real (im:Bool) (x:AO)
 | IL (x:AO)
 | DH (el:Nat) (x y:AO)
 | xv (t:KT) (z:AV) (x y:AO)
 | xw (x y z:AO)
 | DG (el es:Nat) (z:List AV) (x y:AO)
 | bad (n:Nat)
def oB.run (op:oB):A2→Hp→RV:=oB.rec (motive:=fun _=>A2→Hp→RV) IC bQ Ae xn iy fc gQ pC sZ xo oP Ky ID ta xp xq vG gZ cq fS iM ss oQ oS su uU eh oT uW zF zG zH oU zI wb pE xr uX oV uY uZ wc tc xu zJ jN fT jz lJ we wg oD (fun n _ _=>.err n) op
inductive AI where
 | op (o:oB)
 | FV (s:Bool) (x:AO)
 | call (f:Nat) (xs:List AO)
 | jb (x:AO) (xs:List AO)
 | inv (name:Nat) (x:AO) (xs:List AO)
inductive aF where
 | no
 | t (a b:H)
inductive GI where
 | o (d:aF) (i:AI)
 | g (a b:H) (w:Bool) (d:aF) (i:AI)
inductive Bk where
 | dQ
 | rd (n:Nat)
 | new
inductive DI where
 | mk (b:Bk) (g:GI)
abbrev Cf:=Nat→List AV→Hp→RT
abbrev Iv:=Nat→AV→List AV→Hp→RT
inductive AC where
 | skip
 | ops (l:List GI)
 | da (l:List DI)
 | seq (a b:AC)
 | cond (c:AO) (a b:AC)
 | block (i:Nat) (a:AC)
 | loop (a:AC)
 | scope (a:AC)
 | sat (a c:AC)
 | exit (i:Nat)
 | goto (l:Nat)
 | label (l:Nat)
 | ret
 | join (a:AC)
 | bad (n:Nat)
 | ag (f:Cf→Iv→(A2→Hp→RS)→A2→Hp→RS) (x:AC)
 | alt (a b:AC)
 | NH (q:Nat) (l:List GI)
inductive Rs where
 | t (a b:H)
 | one (a b:H)
 | agg (n:Nat) (a b:H)
inductive SW where
 | mk (i:P4) (r:Nat)
inductive PK where
 | YC
 | put (el:Nat)
 | get
 | YD (l:List SW)
 | Eh
 | Jg (el:Nat)
 | zS
 | Yx (f:Nat) (l0 l1 k0 kn k2 k3 ra rb l4:List GI)
 | ins (el es:Nat)
 | fn (g:List AV→Hp→RT)
def lY (c:Nat):Nat:=Nat.xor (Nat.shiftRight c 1) (Nat.mul (Nat.land c 1) 3988292384)
def yK (c:Nat):Nat:=lY (lY (lY (lY (lY (lY (lY (lY c)))))))
def Em (s:List Nat):Nat→Nat:=cw (β:=Nat→Nat) (fun c=>c) (fun b _ ih c=>ih (yK (Nat.xor c b))) s
def OJ (s:List Nat):Nat:=Nat.xor 4294967295 (Em s 4294967295)
def Va (x:AV) (h:Hp):RV:=elems 1 x h (fun l=>gw l (fun s=>.ok (.int .u32 (.ofNat (OJ s))) h) (.err 140)) (.err 141)
def pQ (v:RV) (k:AV→Hp→RV):RV:=RV.rec k (fun n=>.err n) v
def XC (el:Nat) (p:AV) (b:Nat) (h:Hp):RV:=pQ (gQ (.c p) .nil h) (fun s h=>pQ (Fe el 1 1 (.cons (.int .u8 (.ofNat b)) .nil) s h) (fun v h=>sZ (.c p) (.c v) .nil h))
def XD (el:Nat) (p:AV) (m:Nat):Nat→Hp→RV:=Nat.rec (fun _ h=>.ok di h) (fun _ ih n h=>pQ (XC el p (Nat.mod n 256) h) (fun _ h=>ih (Nat.div n 256) h)) m
def Vb (el:Nat) (p n m:AV) (h:Hp):RV:=AV.en p (fun i o=>dM n (fun n=>dM m (fun m=>XD el (.ptr i o) m n h) (.err 142)) (.err 142)) (.err 142)
def Yy (s:List Nat):Nat:=cw 0 (fun b _ ih=>Nat.add (Nat.mul 256 ih) b) s
def PJ (i:P4) (o m a:Nat) (s:AV) (h:Hp):RV:=pQ (cq 1 (.c s) (.some (.c (.int .i64 (.ofNat a)))) (.some (.c (.int .i64 (.ofNat (Nat.add a m))))) .none .nil h) (fun x _=>
 elems 1 x h (fun l=>gw l (fun b=>pQ (sZ (.c (.ptr i (Nat.add o 1))) (.c (.int .i64 (.ofNat (Nat.add a m)))) .nil h) (fun _ h=>.ok (.int .u64 (.ofNat (Yy b))) h)) (.err 143)) (.err 144))
def PL (i:P4) (o m:Nat) (h:Hp):RV:=pQ (gQ (.c (.ptr i (Nat.add o 2))) .nil h) (fun w _=>AV.de w (fun _ n=>Bool.rec (.err 145) (pQ (gQ (.c (.ptr i (Nat.add o 1))) .nil h) (fun a _=>dM a (fun a=>pQ (gQ (.c (.ptr i o)) .nil h) (fun s _=>tK s (fun n=>Bool.rec (.err 146) (PJ i o m a s h) (Nat.ble (Nat.add a m) n)) (.err 147))) (.err 148))) (uh n (.ofNat 0))) (.err 145))
def Vc (p m:AV) (h:Hp):RV:=AV.en p (fun i o=>dM m (fun m=>Bool.rec (.err 149) (PL i o m h) (Nat.ble m 8)) (.err 149)) (.err 149)
def dG (d:aF):AV→A2→A2:=aF.rec (motive:=fun _=>AV→A2→A2) (fun _ r=>r) eQ d
def dv (l:List AV):Nat→A2→A2:=cw (fun _ r=>r) (fun v _ ih i r=>ih (Nat.succ i) (eQ (bN (Nat.div i 16)) (bN (Nat.mod i 16)) v r)) l
def ux (k:A2→Hp→RT) (l:List GI):A2→Hp→RT:=cw (β:=A2→Hp→RT) k (fun i _ ih r h=>GI.rec (fun d i=>AI.rec (fun op=>RV.rec (fun v h=>ih (dG d v r) h) (fun n=>.err n) (op.run r h)) (fun s x=>RT.elim (fun v h=>ih (dG d v r) h) (fun n=>.err n) (fun n f=>.ch n f) (jD s (ev x r) h)) (fun _ _=>.err 161) (fun _ _=>.err 161) (fun _ _ _=>.err 161) i) (fun _ _ _ _ _=>.err 161) i) l
def JT (x:AV) (k:Bool→RT) (e:RT):RT:=OB.rec e k x.asBool
def Vd (x:AV) (k:Nat→List AV→RT) (e:RT):RT:=Kz.rec e k x.zk
def Ve (l4:List GI) (r:A2) (h:Hp):RT:=ux (fun r h=>.ok (aq .h0 .h4 r) h) l4 r h
def JU (k:A2→Hp→RT) (kn k2 k3 ra rb:List GI) (r q:A2) (h:Hp):RT:=ux (fun q h=>ux (fun q h=>ux (fun r2 h=>ux (fun _ h=>ux k kn (eQ .h0 .hd .undef (eQ .h0 .hc .undef q)) h) rb r2 h) ra (eQ .h0 .h7 (aq .h0 .hb q) r) h) k3 (eQ .h0 .ha .undef q) h) k2 q h
def PM (kn k2 k3 ra rb l4:List GI) (r:A2):Nat→A2→Hp→RT:=oL (β:=A2→Hp→RT) (fun _ _=>.err 155)
 (fun _ ih q h=>JT (aq .h0 .h7 q) (fun t=>Bool.rec (Ve l4 r h) (JU ih kn k2 k3 ra rb r q h) t) (.err 156))
def PN (k0 kn k2 k3 ra rb l4:List GI) (r:A2) (c:AV) (h:Hp):RT:=ux (fun q h=>ux (PM kn k2 k3 ra rb l4 r 12) kn q h) k0 (dv (.cons .undef (.cons c .nil)) 0 .nil) h
def Vf (f:Nat) (k0 kn k2 k3 ra rb l4:List GI) (r:A2) (h:Hp):RT:=Vd (aq .h0 .h6 r) (fun g cs=>Bool.rec (.err 153) (List.rec (.err 153) (fun c t _=>List.rec (PN k0 kn k2 k3 ra rb l4 r c h) (fun _ _ _=>.err 153) t) cs) (Nat.beq f g)) (.err 153)
def PO (f:Nat) (l0 l1 k0 kn k2 k3 ra rb l4:List GI) (s x:AV) (h:Hp):RT:=ux (fun r h=>ux (Vf f k0 kn k2 k3 ra rb l4) l1 r h) l0 (dv (.cons s (.cons x .nil)) 0 .nil) h
def tk (l:List AV) (k:AV→RV):RV:=List.rec (.err 154) (fun a t _=>List.rec (k a) (fun _ _ _=>.err 154) t) l
def KC (l:List AV) (k:AV→AV→RV):RV:=List.rec (.err 154) (fun a t _=>tk t (fun b=>k a b)) l
def xQ (l:List AV) (k:AV→AV→AV→RV):RV:=List.rec (.err 154) (fun a t _=>KC t (fun b c=>k a b c)) l
def PQ (l:List AV) (k:AV→AV→RT):RT:=List.rec (.err 154) (fun a t _=>List.rec (.err 154) (fun b t _=>List.rec (k a b) (fun _ _ _=>.err 154) t) t) l
def PR (l:List SW) (i:P4):RV→(Nat→RV)→RV:=cw (β:=RV→(Nat→RV)→RV) (fun e _=>e) (fun y _ ih e k=>SW.rec (fun j r=>Bool.rec (ih e k) (k r) (lO i j)) y) l
def Vg (l:List SW) (x lo hi:AV) (h:Hp):RV:=AV.rec (motive_2:=fun _=>PUnit) (.err 170) (fun _=>.err 170) (fun _ _=>.err 170) (fun _=>.err 170) (fun _ _=>.err 170) (fun _ _ _=>.err 170) (fun _ _=>.err 170) (.err 170) (fun _ _ _ _=>.err 170) (fun _ _ _ _=>.err 170) (.err 170) (fun _=>.err 170) (.err 170) (fun _ _ _=>.err 170) (.err 170) (fun _ _ _=>.err 170) (.err 170) (fun _ _=>.err 170) (fun _ _=>.err 170) (fun i=>AV.de lo (fun kl lo=>AV.de hi (fun kh hi=>Bool.rec (.err 171) (Bool.rec (.err 171) (Bool.rec (.err 171) (Bool.rec (.err 171) (PR l i (.err 172) (fun r=>.ok (.int .i64 (.ofNat r)) h)) (uh hi (.ofNat 4))) (uh lo (.ofNat 0))) (Az kh)) (Az kl)) (.err 171)) (.err 171)) PUnit.unit (fun _ _ _ _=>PUnit.unit) x
def yL (el:Nat) (x:AV) (h:Hp):RV:=AV.de x (fun k n=>Bool.rec (.err 195) (Int.rec (fun n=>Bool.rec (.err 196) (qu el .plain 1 n (dy n (.cons .undef .nil)) h) (Nat.ble n 65536)) (fun _=>.err 196) n) (Az k)) (.err 195)
def PS (x:Nat) (h:Hp):RV:=match FloatKind.f64.decode x with
 | .nan _ _=>.err 180
 | d=>.ok (.ji .f64 (FloatKind.f64.encode (d.integral .zero))) h
def Vh (k:FloatKind):Bool:=FloatKind.rec false true k
def wm (x:AV) (h:Hp):RV:=AV.pM x (fun k n=>Bool.rec (.err 181) (PS n h) (Vh k)) (.err 181)
def JV (f:Fl):Bool:=Fl.rec true false false f
def yT (el es:Nat) (i:P4) (n q m:Nat) (new:List AV) (h:Hp):RV:=Obj.bB (av i h) (fun el' k ex fl c=>Bool.rec (.err 247) (Bool.rec (.err 247) (Bool.rec (.err 247) (Bool.rec (.err 247) (nk i el (Nat.mul (Nat.add n m) es) fl (lW (List.append (List.take (Nat.mul q es) (bw (Nat.mul n es) c 0)) (List.append new (List.drop (Nat.mul q es) (bw (Nat.mul n es) c 0))))) (Nat.add n m) es h) (Nat.beq (Nat.mul n es) k)) (Nat.beq el el')) (Bool.not ex)) (wr fl)) (.err 248)
def wu (el es:Nat) (i:P4) (o n es' q:Nat) (j:P4) (o2 m:Nat) (h:Hp):RV:=Bool.rec (.err 241) (Bool.rec (.err 241) (Bool.rec (.err 242) (Bool.rec (.err 242) (Bool.rec (.err 243) (Obj.bB (av j h) (fun _ k2 _ fl2 c2=>Bool.rec (.err 244) (Bool.rec (.err 245) (yT el es i n q m (bw (Nat.mul m es) c2 o2) h) (Nat.ble (Nat.add o2 (Nat.mul m es)) k2)) (JV fl2)) (.err 246)) (Bool.not (lO i j))) (Nat.ble 1 m)) (Nat.ble (Nat.succ q) n)) (Nat.beq o 0)) (Nat.beq es es')
def zZ (el es:Nat) (s x y:AV) (h:Hp):RV:=AV.jg s (fun _ _ _ _=>.err 240) (fun i o n es'=>AV.de x (fun kd z=>Bool.rec (.err 249) (Int.rec (fun q=>AV.jg y (fun j o2 m _=>wu el es i o n es' q j o2 m h) (fun _ _ _ _=>.err 240) (.err 240) (.err 240)) (fun _=>.err 249) z) (Az kd)) (.err 249)) (.err 240) (.err 240)
def cQ (k:PK) (args:List AV) (h:Hp):RT:=PK.rec (tk args (fun x=>Va x h)).gh (fun el=>(xQ args (fun p n m=>Vb el p n m h)).gh) (KC args (fun p m=>Vc p m h)).gh (fun l=>(xQ args (fun x lo hi=>Vg l x lo hi h)).gh) (tk args (fun x=>.ok x h)).gh (fun el=>(tk args (fun x=>yL el x h)).gh) (tk args (fun x=>wm x h)).gh (fun f l0 l1 k0 kn k2 k3 ra rb l4=>PQ args (fun s x=>PO f l0 l1 k0 kn k2 k3 ra rb l4 s x h)) (fun el es=>(xQ args (fun s x y=>zZ el es s x y h)).gh) (fun g=>g args h) k
inductive AF where
 | none
 | mk (body:AC) (res:List Rs)
 | oO (k:PK) (body:AC) (res:List Rs)
 | Dy (body:AC) (res:List Rs)
 | ext (k:PK)
inductive F1 where
 | nil
 | mk (a0 a1 a2 a3 a4 a5 a6 a7 a8 a9 aa ab ac ad ae af:AF)
def F1.g0 (x:F1):AF:=F1.rec .none (fun a0 a1 a2 a3 a4 a5 a6 a7 a8 a9 aa ab ac ad ae af=>a0) x
def F1.g1 (x:F1):AF:=F1.rec .none (fun a0 a1 a2 a3 a4 a5 a6 a7 a8 a9 aa ab ac ad ae af=>a1) x
def F1.g2 (x:F1):AF:=F1.rec .none (fun a0 a1 a2 a3 a4 a5 a6 a7 a8 a9 aa ab ac ad ae af=>a2) x
def F1.g3 (x:F1):AF:=F1.rec .none (fun a0 a1 a2 a3 a4 a5 a6 a7 a8 a9 aa ab ac ad ae af=>a3) x
def F1.g4 (x:F1):AF:=F1.rec .none (fun a0 a1 a2 a3 a4 a5 a6 a7 a8 a9 aa ab ac ad ae af=>a4) x
def F1.g5 (x:F1):AF:=F1.rec .none (fun a0 a1 a2 a3 a4 a5 a6 a7 a8 a9 aa ab ac ad ae af=>a5) x
def F1.g6 (x:F1):AF:=F1.rec .none (fun a0 a1 a2 a3 a4 a5 a6 a7 a8 a9 aa ab ac ad ae af=>a6) x
def F1.g7 (x:F1):AF:=F1.rec .none (fun a0 a1 a2 a3 a4 a5 a6 a7 a8 a9 aa ab ac ad ae af=>a7) x
def F1.g8 (x:F1):AF:=F1.rec .none (fun a0 a1 a2 a3 a4 a5 a6 a7 a8 a9 aa ab ac ad ae af=>a8) x
def F1.g9 (x:F1):AF:=F1.rec .none (fun a0 a1 a2 a3 a4 a5 a6 a7 a8 a9 aa ab ac ad ae af=>a9) x
def F1.ga (x:F1):AF:=F1.rec .none (fun a0 a1 a2 a3 a4 a5 a6 a7 a8 a9 aa ab ac ad ae af=>aa) x
def F1.gb (x:F1):AF:=F1.rec .none (fun a0 a1 a2 a3 a4 a5 a6 a7 a8 a9 aa ab ac ad ae af=>ab) x
def F1.gc (x:F1):AF:=F1.rec .none (fun a0 a1 a2 a3 a4 a5 a6 a7 a8 a9 aa ab ac ad ae af=>ac) x
def F1.gd (x:F1):AF:=F1.rec .none (fun a0 a1 a2 a3 a4 a5 a6 a7 a8 a9 aa ab ac ad ae af=>ad) x
def F1.ge (x:F1):AF:=F1.rec .none (fun a0 a1 a2 a3 a4 a5 a6 a7 a8 a9 aa ab ac ad ae af=>ae) x
def F1.gf (x:F1):AF:=F1.rec .none (fun a0 a1 a2 a3 a4 a5 a6 a7 a8 a9 aa ab ac ad ae af=>af) x
def F1.get (d:H):F1→AF:=H.rec (motive:=fun _=>F1→AF) F1.g0 F1.g1 F1.g2 F1.g3 F1.g4 F1.g5 F1.g6 F1.g7 F1.g8 F1.g9 F1.ga F1.gb F1.gc F1.gd F1.ge F1.gf d
def F1.s0 (v:AF) (x:F1):F1:=F1.rec (motive:=fun _=>AF→F1) (fun v=>.mk v .none .none .none .none .none .none .none .none .none .none .none .none .none .none .none) (fun a0 a1 a2 a3 a4 a5 a6 a7 a8 a9 aa ab ac ad ae af=>fun v=>.mk v a1 a2 a3 a4 a5 a6 a7 a8 a9 aa ab ac ad ae af) x v
def F1.s1 (v:AF) (x:F1):F1:=F1.rec (motive:=fun _=>AF→F1) (fun v=>.mk .none v .none .none .none .none .none .none .none .none .none .none .none .none .none .none) (fun a0 a1 a2 a3 a4 a5 a6 a7 a8 a9 aa ab ac ad ae af=>fun v=>.mk a0 v a2 a3 a4 a5 a6 a7 a8 a9 aa ab ac ad ae af) x v
def F1.s2 (v:AF) (x:F1):F1:=F1.rec (motive:=fun _=>AF→F1) (fun v=>.mk .none .none v .none .none .none .none .none .none .none .none .none .none .none .none .none) (fun a0 a1 a2 a3 a4 a5 a6 a7 a8 a9 aa ab ac ad ae af=>fun v=>.mk a0 a1 v a3 a4 a5 a6 a7 a8 a9 aa ab ac ad ae af) x v
def F1.s3 (v:AF) (x:F1):F1:=F1.rec (motive:=fun _=>AF→F1) (fun v=>.mk .none .none .none v .none .none .none .none .none .none .none .none .none .none .none .none) (fun a0 a1 a2 a3 a4 a5 a6 a7 a8 a9 aa ab ac ad ae af=>fun v=>.mk a0 a1 a2 v a4 a5 a6 a7 a8 a9 aa ab ac ad ae af) x v
def F1.s4 (v:AF) (x:F1):F1:=F1.rec (motive:=fun _=>AF→F1) (fun v=>.mk .none .none .none .none v .none .none .none .none .none .none .none .none .none .none .none) (fun a0 a1 a2 a3 a4 a5 a6 a7 a8 a9 aa ab ac ad ae af=>fun v=>.mk a0 a1 a2 a3 v a5 a6 a7 a8 a9 aa ab ac ad ae af) x v
def F1.s5 (v:AF) (x:F1):F1:=F1.rec (motive:=fun _=>AF→F1) (fun v=>.mk .none .none .none .none .none v .none .none .none .none .none .none .none .none .none .none) (fun a0 a1 a2 a3 a4 a5 a6 a7 a8 a9 aa ab ac ad ae af=>fun v=>.mk a0 a1 a2 a3 a4 v a6 a7 a8 a9 aa ab ac ad ae af) x v
def F1.s6 (v:AF) (x:F1):F1:=F1.rec (motive:=fun _=>AF→F1) (fun v=>.mk .none .none .none .none .none .none v .none .none .none .none .none .none .none .none .none) (fun a0 a1 a2 a3 a4 a5 a6 a7 a8 a9 aa ab ac ad ae af=>fun v=>.mk a0 a1 a2 a3 a4 a5 v a7 a8 a9 aa ab ac ad ae af) x v
def F1.s7 (v:AF) (x:F1):F1:=F1.rec (motive:=fun _=>AF→F1) (fun v=>.mk .none .none .none .none .none .none .none v .none .none .none .none .none .none .none .none) (fun a0 a1 a2 a3 a4 a5 a6 a7 a8 a9 aa ab ac ad ae af=>fun v=>.mk a0 a1 a2 a3 a4 a5 a6 v a8 a9 aa ab ac ad ae af) x v
def F1.s8 (v:AF) (x:F1):F1:=F1.rec (motive:=fun _=>AF→F1) (fun v=>.mk .none .none .none .none .none .none .none .none v .none .none .none .none .none .none .none) (fun a0 a1 a2 a3 a4 a5 a6 a7 a8 a9 aa ab ac ad ae af=>fun v=>.mk a0 a1 a2 a3 a4 a5 a6 a7 v a9 aa ab ac ad ae af) x v
def F1.s9 (v:AF) (x:F1):F1:=F1.rec (motive:=fun _=>AF→F1) (fun v=>.mk .none .none .none .none .none .none .none .none .none v .none .none .none .none .none .none) (fun a0 a1 a2 a3 a4 a5 a6 a7 a8 a9 aa ab ac ad ae af=>fun v=>.mk a0 a1 a2 a3 a4 a5 a6 a7 a8 v aa ab ac ad ae af) x v
def F1.sa (v:AF) (x:F1):F1:=F1.rec (motive:=fun _=>AF→F1) (fun v=>.mk .none .none .none .none .none .none .none .none .none .none v .none .none .none .none .none) (fun a0 a1 a2 a3 a4 a5 a6 a7 a8 a9 aa ab ac ad ae af=>fun v=>.mk a0 a1 a2 a3 a4 a5 a6 a7 a8 a9 v ab ac ad ae af) x v
def F1.sb (v:AF) (x:F1):F1:=F1.rec (motive:=fun _=>AF→F1) (fun v=>.mk .none .none .none .none .none .none .none .none .none .none .none v .none .none .none .none) (fun a0 a1 a2 a3 a4 a5 a6 a7 a8 a9 aa ab ac ad ae af=>fun v=>.mk a0 a1 a2 a3 a4 a5 a6 a7 a8 a9 aa v ac ad ae af) x v
def F1.sc (v:AF) (x:F1):F1:=F1.rec (motive:=fun _=>AF→F1) (fun v=>.mk .none .none .none .none .none .none .none .none .none .none .none .none v .none .none .none) (fun a0 a1 a2 a3 a4 a5 a6 a7 a8 a9 aa ab ac ad ae af=>fun v=>.mk a0 a1 a2 a3 a4 a5 a6 a7 a8 a9 aa ab v ad ae af) x v
def F1.sd (v:AF) (x:F1):F1:=F1.rec (motive:=fun _=>AF→F1) (fun v=>.mk .none .none .none .none .none .none .none .none .none .none .none .none .none v .none .none) (fun a0 a1 a2 a3 a4 a5 a6 a7 a8 a9 aa ab ac ad ae af=>fun v=>.mk a0 a1 a2 a3 a4 a5 a6 a7 a8 a9 aa ab ac v ae af) x v
def F1.se (v:AF) (x:F1):F1:=F1.rec (motive:=fun _=>AF→F1) (fun v=>.mk .none .none .none .none .none .none .none .none .none .none .none .none .none .none v .none) (fun a0 a1 a2 a3 a4 a5 a6 a7 a8 a9 aa ab ac ad ae af=>fun v=>.mk a0 a1 a2 a3 a4 a5 a6 a7 a8 a9 aa ab ac ad v af) x v
def F1.sf (v:AF) (x:F1):F1:=F1.rec (motive:=fun _=>AF→F1) (fun v=>.mk .none .none .none .none .none .none .none .none .none .none .none .none .none .none .none v) (fun a0 a1 a2 a3 a4 a5 a6 a7 a8 a9 aa ab ac ad ae af=>fun v=>.mk a0 a1 a2 a3 a4 a5 a6 a7 a8 a9 aa ab ac ad ae v) x v
def F1.set (d:H):AF→F1→F1:=H.rec (motive:=fun _=>AF→F1→F1) F1.s0 F1.s1 F1.s2 F1.s3 F1.s4 F1.s5 F1.s6 F1.s7 F1.s8 F1.s9 F1.sa F1.sb F1.sc F1.sd F1.se F1.sf d
inductive F2 where
 | nil
 | mk (a0 a1 a2 a3 a4 a5 a6 a7 a8 a9 aa ab ac ad ae af:F1)
def F2.g0 (x:F2):F1:=F2.rec .nil (fun a0 a1 a2 a3 a4 a5 a6 a7 a8 a9 aa ab ac ad ae af=>a0) x
def F2.g1 (x:F2):F1:=F2.rec .nil (fun a0 a1 a2 a3 a4 a5 a6 a7 a8 a9 aa ab ac ad ae af=>a1) x
def F2.g2 (x:F2):F1:=F2.rec .nil (fun a0 a1 a2 a3 a4 a5 a6 a7 a8 a9 aa ab ac ad ae af=>a2) x
def F2.g3 (x:F2):F1:=F2.rec .nil (fun a0 a1 a2 a3 a4 a5 a6 a7 a8 a9 aa ab ac ad ae af=>a3) x
def F2.g4 (x:F2):F1:=F2.rec .nil (fun a0 a1 a2 a3 a4 a5 a6 a7 a8 a9 aa ab ac ad ae af=>a4) x
def F2.g5 (x:F2):F1:=F2.rec .nil (fun a0 a1 a2 a3 a4 a5 a6 a7 a8 a9 aa ab ac ad ae af=>a5) x
def F2.g6 (x:F2):F1:=F2.rec .nil (fun a0 a1 a2 a3 a4 a5 a6 a7 a8 a9 aa ab ac ad ae af=>a6) x
def F2.g7 (x:F2):F1:=F2.rec .nil (fun a0 a1 a2 a3 a4 a5 a6 a7 a8 a9 aa ab ac ad ae af=>a7) x
def F2.g8 (x:F2):F1:=F2.rec .nil (fun a0 a1 a2 a3 a4 a5 a6 a7 a8 a9 aa ab ac ad ae af=>a8) x
def F2.g9 (x:F2):F1:=F2.rec .nil (fun a0 a1 a2 a3 a4 a5 a6 a7 a8 a9 aa ab ac ad ae af=>a9) x
def F2.ga (x:F2):F1:=F2.rec .nil (fun a0 a1 a2 a3 a4 a5 a6 a7 a8 a9 aa ab ac ad ae af=>aa) x
def F2.gb (x:F2):F1:=F2.rec .nil (fun a0 a1 a2 a3 a4 a5 a6 a7 a8 a9 aa ab ac ad ae af=>ab) x
def F2.gc (x:F2):F1:=F2.rec .nil (fun a0 a1 a2 a3 a4 a5 a6 a7 a8 a9 aa ab ac ad ae af=>ac) x
def F2.gd (x:F2):F1:=F2.rec .nil (fun a0 a1 a2 a3 a4 a5 a6 a7 a8 a9 aa ab ac ad ae af=>ad) x
def F2.ge (x:F2):F1:=F2.rec .nil (fun a0 a1 a2 a3 a4 a5 a6 a7 a8 a9 aa ab ac ad ae af=>ae) x
def F2.gf (x:F2):F1:=F2.rec .nil (fun a0 a1 a2 a3 a4 a5 a6 a7 a8 a9 aa ab ac ad ae af=>af) x
def F2.get (d:H):F2→F1:=H.rec (motive:=fun _=>F2→F1) F2.g0 F2.g1 F2.g2 F2.g3 F2.g4 F2.g5 F2.g6 F2.g7 F2.g8 F2.g9 F2.ga F2.gb F2.gc F2.gd F2.ge F2.gf d
def F2.s0 (v:F1) (x:F2):F2:=F2.rec (motive:=fun _=>F1→F2) (fun v=>.mk v .nil .nil .nil .nil .nil .nil .nil .nil .nil .nil .nil .nil .nil .nil .nil) (fun a0 a1 a2 a3 a4 a5 a6 a7 a8 a9 aa ab ac ad ae af=>fun v=>.mk v a1 a2 a3 a4 a5 a6 a7 a8 a9 aa ab ac ad ae af) x v
def F2.s1 (v:F1) (x:F2):F2:=F2.rec (motive:=fun _=>F1→F2) (fun v=>.mk .nil v .nil .nil .nil .nil .nil .nil .nil .nil .nil .nil .nil .nil .nil .nil) (fun a0 a1 a2 a3 a4 a5 a6 a7 a8 a9 aa ab ac ad ae af=>fun v=>.mk a0 v a2 a3 a4 a5 a6 a7 a8 a9 aa ab ac ad ae af) x v
def F2.s2 (v:F1) (x:F2):F2:=F2.rec (motive:=fun _=>F1→F2) (fun v=>.mk .nil .nil v .nil .nil .nil .nil .nil .nil .nil .nil .nil .nil .nil .nil .nil) (fun a0 a1 a2 a3 a4 a5 a6 a7 a8 a9 aa ab ac ad ae af=>fun v=>.mk a0 a1 v a3 a4 a5 a6 a7 a8 a9 aa ab ac ad ae af) x v
def F2.s3 (v:F1) (x:F2):F2:=F2.rec (motive:=fun _=>F1→F2) (fun v=>.mk .nil .nil .nil v .nil .nil .nil .nil .nil .nil .nil .nil .nil .nil .nil .nil) (fun a0 a1 a2 a3 a4 a5 a6 a7 a8 a9 aa ab ac ad ae af=>fun v=>.mk a0 a1 a2 v a4 a5 a6 a7 a8 a9 aa ab ac ad ae af) x v
def F2.s4 (v:F1) (x:F2):F2:=F2.rec (motive:=fun _=>F1→F2) (fun v=>.mk .nil .nil .nil .nil v .nil .nil .nil .nil .nil .nil .nil .nil .nil .nil .nil) (fun a0 a1 a2 a3 a4 a5 a6 a7 a8 a9 aa ab ac ad ae af=>fun v=>.mk a0 a1 a2 a3 v a5 a6 a7 a8 a9 aa ab ac ad ae af) x v
def F2.s5 (v:F1) (x:F2):F2:=F2.rec (motive:=fun _=>F1→F2) (fun v=>.mk .nil .nil .nil .nil .nil v .nil .nil .nil .nil .nil .nil .nil .nil .nil .nil) (fun a0 a1 a2 a3 a4 a5 a6 a7 a8 a9 aa ab ac ad ae af=>fun v=>.mk a0 a1 a2 a3 a4 v a6 a7 a8 a9 aa ab ac ad ae af) x v
def F2.s6 (v:F1) (x:F2):F2:=F2.rec (motive:=fun _=>F1→F2) (fun v=>.mk .nil .nil .nil .nil .nil .nil v .nil .nil .nil .nil .nil .nil .nil .nil .nil) (fun a0 a1 a2 a3 a4 a5 a6 a7 a8 a9 aa ab ac ad ae af=>fun v=>.mk a0 a1 a2 a3 a4 a5 v a7 a8 a9 aa ab ac ad ae af) x v
def F2.s7 (v:F1) (x:F2):F2:=F2.rec (motive:=fun _=>F1→F2) (fun v=>.mk .nil .nil .nil .nil .nil .nil .nil v .nil .nil .nil .nil .nil .nil .nil .nil) (fun a0 a1 a2 a3 a4 a5 a6 a7 a8 a9 aa ab ac ad ae af=>fun v=>.mk a0 a1 a2 a3 a4 a5 a6 v a8 a9 aa ab ac ad ae af) x v
def F2.s8 (v:F1) (x:F2):F2:=F2.rec (motive:=fun _=>F1→F2) (fun v=>.mk .nil .nil .nil .nil .nil .nil .nil .nil v .nil .nil .nil .nil .nil .nil .nil) (fun a0 a1 a2 a3 a4 a5 a6 a7 a8 a9 aa ab ac ad ae af=>fun v=>.mk a0 a1 a2 a3 a4 a5 a6 a7 v a9 aa ab ac ad ae af) x v
def F2.s9 (v:F1) (x:F2):F2:=F2.rec (motive:=fun _=>F1→F2) (fun v=>.mk .nil .nil .nil .nil .nil .nil .nil .nil .nil v .nil .nil .nil .nil .nil .nil) (fun a0 a1 a2 a3 a4 a5 a6 a7 a8 a9 aa ab ac ad ae af=>fun v=>.mk a0 a1 a2 a3 a4 a5 a6 a7 a8 v aa ab ac ad ae af) x v
def F2.sa (v:F1) (x:F2):F2:=F2.rec (motive:=fun _=>F1→F2) (fun v=>.mk .nil .nil .nil .nil .nil .nil .nil .nil .nil .nil v .nil .nil .nil .nil .nil) (fun a0 a1 a2 a3 a4 a5 a6 a7 a8 a9 aa ab ac ad ae af=>fun v=>.mk a0 a1 a2 a3 a4 a5 a6 a7 a8 a9 v ab ac ad ae af) x v
def F2.sb (v:F1) (x:F2):F2:=F2.rec (motive:=fun _=>F1→F2) (fun v=>.mk .nil .nil .nil .nil .nil .nil .nil .nil .nil .nil .nil v .nil .nil .nil .nil) (fun a0 a1 a2 a3 a4 a5 a6 a7 a8 a9 aa ab ac ad ae af=>fun v=>.mk a0 a1 a2 a3 a4 a5 a6 a7 a8 a9 aa v ac ad ae af) x v
def F2.sc (v:F1) (x:F2):F2:=F2.rec (motive:=fun _=>F1→F2) (fun v=>.mk .nil .nil .nil .nil .nil .nil .nil .nil .nil .nil .nil .nil v .nil .nil .nil) (fun a0 a1 a2 a3 a4 a5 a6 a7 a8 a9 aa ab ac ad ae af=>fun v=>.mk a0 a1 a2 a3 a4 a5 a6 a7 a8 a9 aa ab v ad ae af) x v
def F2.sd (v:F1) (x:F2):F2:=F2.rec (motive:=fun _=>F1→F2) (fun v=>.mk .nil .nil .nil .nil .nil .nil .nil .nil .nil .nil .nil .nil .nil v .nil .nil) (fun a0 a1 a2 a3 a4 a5 a6 a7 a8 a9 aa ab ac ad ae af=>fun v=>.mk a0 a1 a2 a3 a4 a5 a6 a7 a8 a9 aa ab ac v ae af) x v
def F2.se (v:F1) (x:F2):F2:=F2.rec (motive:=fun _=>F1→F2) (fun v=>.mk .nil .nil .nil .nil .nil .nil .nil .nil .nil .nil .nil .nil .nil .nil v .nil) (fun a0 a1 a2 a3 a4 a5 a6 a7 a8 a9 aa ab ac ad ae af=>fun v=>.mk a0 a1 a2 a3 a4 a5 a6 a7 a8 a9 aa ab ac ad v af) x v
def F2.sf (v:F1) (x:F2):F2:=F2.rec (motive:=fun _=>F1→F2) (fun v=>.mk .nil .nil .nil .nil .nil .nil .nil .nil .nil .nil .nil .nil .nil .nil .nil v) (fun a0 a1 a2 a3 a4 a5 a6 a7 a8 a9 aa ab ac ad ae af=>fun v=>.mk a0 a1 a2 a3 a4 a5 a6 a7 a8 a9 aa ab ac ad ae v) x v
def F2.set (d:H):F1→F2→F2:=H.rec (motive:=fun _=>F1→F2→F2) F2.s0 F2.s1 F2.s2 F2.s3 F2.s4 F2.s5 F2.s6 F2.s7 F2.s8 F2.s9 F2.sa F2.sb F2.sc F2.sd F2.se F2.sf d
inductive F3 where
 | nil
 | mk (a0 a1 a2 a3 a4 a5 a6 a7 a8 a9 aa ab ac ad ae af:F2)
def F3.g0 (x:F3):F2:=F3.rec .nil (fun a0 a1 a2 a3 a4 a5 a6 a7 a8 a9 aa ab ac ad ae af=>a0) x
def F3.g1 (x:F3):F2:=F3.rec .nil (fun a0 a1 a2 a3 a4 a5 a6 a7 a8 a9 aa ab ac ad ae af=>a1) x
def F3.g2 (x:F3):F2:=F3.rec .nil (fun a0 a1 a2 a3 a4 a5 a6 a7 a8 a9 aa ab ac ad ae af=>a2) x
def F3.g3 (x:F3):F2:=F3.rec .nil (fun a0 a1 a2 a3 a4 a5 a6 a7 a8 a9 aa ab ac ad ae af=>a3) x
def F3.g4 (x:F3):F2:=F3.rec .nil (fun a0 a1 a2 a3 a4 a5 a6 a7 a8 a9 aa ab ac ad ae af=>a4) x
def F3.g5 (x:F3):F2:=F3.rec .nil (fun a0 a1 a2 a3 a4 a5 a6 a7 a8 a9 aa ab ac ad ae af=>a5) x
def F3.g6 (x:F3):F2:=F3.rec .nil (fun a0 a1 a2 a3 a4 a5 a6 a7 a8 a9 aa ab ac ad ae af=>a6) x
def F3.g7 (x:F3):F2:=F3.rec .nil (fun a0 a1 a2 a3 a4 a5 a6 a7 a8 a9 aa ab ac ad ae af=>a7) x
def F3.g8 (x:F3):F2:=F3.rec .nil (fun a0 a1 a2 a3 a4 a5 a6 a7 a8 a9 aa ab ac ad ae af=>a8) x
def F3.g9 (x:F3):F2:=F3.rec .nil (fun a0 a1 a2 a3 a4 a5 a6 a7 a8 a9 aa ab ac ad ae af=>a9) x
def F3.ga (x:F3):F2:=F3.rec .nil (fun a0 a1 a2 a3 a4 a5 a6 a7 a8 a9 aa ab ac ad ae af=>aa) x
def F3.gb (x:F3):F2:=F3.rec .nil (fun a0 a1 a2 a3 a4 a5 a6 a7 a8 a9 aa ab ac ad ae af=>ab) x
def F3.gc (x:F3):F2:=F3.rec .nil (fun a0 a1 a2 a3 a4 a5 a6 a7 a8 a9 aa ab ac ad ae af=>ac) x
def F3.gd (x:F3):F2:=F3.rec .nil (fun a0 a1 a2 a3 a4 a5 a6 a7 a8 a9 aa ab ac ad ae af=>ad) x
def F3.ge (x:F3):F2:=F3.rec .nil (fun a0 a1 a2 a3 a4 a5 a6 a7 a8 a9 aa ab ac ad ae af=>ae) x
def F3.gf (x:F3):F2:=F3.rec .nil (fun a0 a1 a2 a3 a4 a5 a6 a7 a8 a9 aa ab ac ad ae af=>af) x
def F3.get (d:H):F3→F2:=H.rec (motive:=fun _=>F3→F2) F3.g0 F3.g1 F3.g2 F3.g3 F3.g4 F3.g5 F3.g6 F3.g7 F3.g8 F3.g9 F3.ga F3.gb F3.gc F3.gd F3.ge F3.gf d
def F3.s0 (v:F2) (x:F3):F3:=F3.rec (motive:=fun _=>F2→F3) (fun v=>.mk v .nil .nil .nil .nil .nil .nil .nil .nil .nil .nil .nil .nil .nil .nil .nil) (fun a0 a1 a2 a3 a4 a5 a6 a7 a8 a9 aa ab ac ad ae af=>fun v=>.mk v a1 a2 a3 a4 a5 a6 a7 a8 a9 aa ab ac ad ae af) x v
def F3.s1 (v:F2) (x:F3):F3:=F3.rec (motive:=fun _=>F2→F3) (fun v=>.mk .nil v .nil .nil .nil .nil .nil .nil .nil .nil .nil .nil .nil .nil .nil .nil) (fun a0 a1 a2 a3 a4 a5 a6 a7 a8 a9 aa ab ac ad ae af=>fun v=>.mk a0 v a2 a3 a4 a5 a6 a7 a8 a9 aa ab ac ad ae af) x v
def F3.s2 (v:F2) (x:F3):F3:=F3.rec (motive:=fun _=>F2→F3) (fun v=>.mk .nil .nil v .nil .nil .nil .nil .nil .nil .nil .nil .nil .nil .nil .nil .nil) (fun a0 a1 a2 a3 a4 a5 a6 a7 a8 a9 aa ab ac ad ae af=>fun v=>.mk a0 a1 v a3 a4 a5 a6 a7 a8 a9 aa ab ac ad ae af) x v
def F3.s3 (v:F2) (x:F3):F3:=F3.rec (motive:=fun _=>F2→F3) (fun v=>.mk .nil .nil .nil v .nil .nil .nil .nil .nil .nil .nil .nil .nil .nil .nil .nil) (fun a0 a1 a2 a3 a4 a5 a6 a7 a8 a9 aa ab ac ad ae af=>fun v=>.mk a0 a1 a2 v a4 a5 a6 a7 a8 a9 aa ab ac ad ae af) x v
def F3.s4 (v:F2) (x:F3):F3:=F3.rec (motive:=fun _=>F2→F3) (fun v=>.mk .nil .nil .nil .nil v .nil .nil .nil .nil .nil .nil .nil .nil .nil .nil .nil) (fun a0 a1 a2 a3 a4 a5 a6 a7 a8 a9 aa ab ac ad ae af=>fun v=>.mk a0 a1 a2 a3 v a5 a6 a7 a8 a9 aa ab ac ad ae af) x v
def F3.s5 (v:F2) (x:F3):F3:=F3.rec (motive:=fun _=>F2→F3) (fun v=>.mk .nil .nil .nil .nil .nil v .nil .nil .nil .nil .nil .nil .nil .nil .nil .nil) (fun a0 a1 a2 a3 a4 a5 a6 a7 a8 a9 aa ab ac ad ae af=>fun v=>.mk a0 a1 a2 a3 a4 v a6 a7 a8 a9 aa ab ac ad ae af) x v
def F3.s6 (v:F2) (x:F3):F3:=F3.rec (motive:=fun _=>F2→F3) (fun v=>.mk .nil .nil .nil .nil .nil .nil v .nil .nil .nil .nil .nil .nil .nil .nil .nil) (fun a0 a1 a2 a3 a4 a5 a6 a7 a8 a9 aa ab ac ad ae af=>fun v=>.mk a0 a1 a2 a3 a4 a5 v a7 a8 a9 aa ab ac ad ae af) x v
def F3.s7 (v:F2) (x:F3):F3:=F3.rec (motive:=fun _=>F2→F3) (fun v=>.mk .nil .nil .nil .nil .nil .nil .nil v .nil .nil .nil .nil .nil .nil .nil .nil) (fun a0 a1 a2 a3 a4 a5 a6 a7 a8 a9 aa ab ac ad ae af=>fun v=>.mk a0 a1 a2 a3 a4 a5 a6 v a8 a9 aa ab ac ad ae af) x v
def F3.s8 (v:F2) (x:F3):F3:=F3.rec (motive:=fun _=>F2→F3) (fun v=>.mk .nil .nil .nil .nil .nil .nil .nil .nil v .nil .nil .nil .nil .nil .nil .nil) (fun a0 a1 a2 a3 a4 a5 a6 a7 a8 a9 aa ab ac ad ae af=>fun v=>.mk a0 a1 a2 a3 a4 a5 a6 a7 v a9 aa ab ac ad ae af) x v
def F3.s9 (v:F2) (x:F3):F3:=F3.rec (motive:=fun _=>F2→F3) (fun v=>.mk .nil .nil .nil .nil .nil .nil .nil .nil .nil v .nil .nil .nil .nil .nil .nil) (fun a0 a1 a2 a3 a4 a5 a6 a7 a8 a9 aa ab ac ad ae af=>fun v=>.mk a0 a1 a2 a3 a4 a5 a6 a7 a8 v aa ab ac ad ae af) x v
def F3.sa (v:F2) (x:F3):F3:=F3.rec (motive:=fun _=>F2→F3) (fun v=>.mk .nil .nil .nil .nil .nil .nil .nil .nil .nil .nil v .nil .nil .nil .nil .nil) (fun a0 a1 a2 a3 a4 a5 a6 a7 a8 a9 aa ab ac ad ae af=>fun v=>.mk a0 a1 a2 a3 a4 a5 a6 a7 a8 a9 v ab ac ad ae af) x v
def F3.sb (v:F2) (x:F3):F3:=F3.rec (motive:=fun _=>F2→F3) (fun v=>.mk .nil .nil .nil .nil .nil .nil .nil .nil .nil .nil .nil v .nil .nil .nil .nil) (fun a0 a1 a2 a3 a4 a5 a6 a7 a8 a9 aa ab ac ad ae af=>fun v=>.mk a0 a1 a2 a3 a4 a5 a6 a7 a8 a9 aa v ac ad ae af) x v
def F3.sc (v:F2) (x:F3):F3:=F3.rec (motive:=fun _=>F2→F3) (fun v=>.mk .nil .nil .nil .nil .nil .nil .nil .nil .nil .nil .nil .nil v .nil .nil .nil) (fun a0 a1 a2 a3 a4 a5 a6 a7 a8 a9 aa ab ac ad ae af=>fun v=>.mk a0 a1 a2 a3 a4 a5 a6 a7 a8 a9 aa ab v ad ae af) x v
def F3.sd (v:F2) (x:F3):F3:=F3.rec (motive:=fun _=>F2→F3) (fun v=>.mk .nil .nil .nil .nil .nil .nil .nil .nil .nil .nil .nil .nil .nil v .nil .nil) (fun a0 a1 a2 a3 a4 a5 a6 a7 a8 a9 aa ab ac ad ae af=>fun v=>.mk a0 a1 a2 a3 a4 a5 a6 a7 a8 a9 aa ab ac v ae af) x v
def F3.se (v:F2) (x:F3):F3:=F3.rec (motive:=fun _=>F2→F3) (fun v=>.mk .nil .nil .nil .nil .nil .nil .nil .nil .nil .nil .nil .nil .nil .nil v .nil) (fun a0 a1 a2 a3 a4 a5 a6 a7 a8 a9 aa ab ac ad ae af=>fun v=>.mk a0 a1 a2 a3 a4 a5 a6 a7 a8 a9 aa ab ac ad v af) x v
def F3.sf (v:F2) (x:F3):F3:=F3.rec (motive:=fun _=>F2→F3) (fun v=>.mk .nil .nil .nil .nil .nil .nil .nil .nil .nil .nil .nil .nil .nil .nil .nil v) (fun a0 a1 a2 a3 a4 a5 a6 a7 a8 a9 aa ab ac ad ae af=>fun v=>.mk a0 a1 a2 a3 a4 a5 a6 a7 a8 a9 aa ab ac ad ae v) x v
def F3.set (d:H):F2→F3→F3:=H.rec (motive:=fun _=>F2→F3→F3) F3.s0 F3.s1 F3.s2 F3.s3 F3.s4 F3.s5 F3.s6 F3.s7 F3.s8 F3.s9 F3.sa F3.sb F3.sc F3.sd F3.se F3.sf d
inductive MR where
 | mk (t name f:Nat)
inductive Pg where
 | mk (fs:F3) (ms:List MR)
def cH (f:Nat) (p:F3):AF:=F1.get (bN (Nat.mod f 16)) (F2.get (bN (Nat.mod (Nat.div f 16) 16)) (F3.get (bN (Nat.div f 256)) p))
def Pg.fs (p:Pg):F3:=Pg.rec (fun a _=>a) p
def Pg.ms (p:Pg):List MR:=Pg.rec (fun _ a=>a) p
def mI (t name:Nat) (l:List MR) (k:Nat→RT) (e:RT):RT:=cw e (fun y _ ih=>MR.rec (fun t' n' f=>Bool.rec ih (Bool.rec ih (k f) (Nat.beq name n')) (Nat.beq t t')) y) l
def PT (x:AV):AV→Bool:=AV.rec (motive_1:=fun _=>AV→Bool) (motive_2:=fun _=>PUnit) (fun _=>false) (fun a y=>AV.bI y (fun b=>gP a b) false) (fun k a y=>AV.de y (fun k' b=>Bool.rec false (uh a b) (mL k k')) false) (fun a y=>AV.gy y (fun b=>jH a b) false) (fun k a y=>AV.pM y (fun k' b=>Bool.and (vP k k') (Nat.beq a b)) false) (fun k a b y=>AV.tD y (fun k' c d=>Bool.and (vP k k') (Bool.and (Nat.beq a c) (Nat.beq b d))) false) (fun i o y=>AV.en y (fun j q=>Bool.and (lO i j) (Nat.beq o q)) false) (fun y=>AV.rec (motive_2:=fun _=>PUnit) false (fun _=>false) (fun _ _=>false) (fun _=>false) (fun _ _=>false) (fun _ _ _=>false) (fun _ _=>false) true (fun _ _ _ _=>false) (fun _ _ _ _=>false) false (fun _=>false) false (fun _ _ _=>false) false (fun _ _ _=>false) false (fun _ _=>false) (fun _ _=>false) (fun _=>false) PUnit.unit (fun _ _ _ _=>PUnit.unit) y) (fun i a b c y=>AV.jg y (fun j d e f=>Bool.and (lO i j) (Bool.and (Nat.beq a d) (Bool.and (Nat.beq b e) (Nat.beq c f)))) (fun _ _ _ _=>false) false false) (fun i a b c y=>AV.jg y (fun _ _ _ _=>false) (fun j d e f=>Bool.and (lO i j) (Bool.and (Nat.beq a d) (Bool.and (Nat.beq b e) (Nat.beq c f)))) false false) (fun y=>AV.jg y (fun _ _ _ _=>false) (fun _ _ _ _=>false) true false) (fun i y=>AV.dY y (fun j=>lO i j) false false) (fun y=>AV.dY y (fun _=>false) true false) (fun _ _ _ _=>false) (fun y=>AV.rec (motive_2:=fun _=>PUnit) false (fun _=>false) (fun _ _=>false) (fun _=>false) (fun _ _=>false) (fun _ _ _=>false) (fun _ _=>false) false (fun _ _ _ _=>false) (fun _ _ _ _=>false) false (fun _=>false) false (fun _ _ _=>false) true (fun _ _ _=>false) false (fun _ _=>false) (fun _ _=>false) (fun _=>false) PUnit.unit (fun _ _ _ _=>PUnit.unit) y) (fun _ _ _ _=>false) (fun y=>AV.zm y (fun _ _=>false) true false) (fun _ _ _=>false) (fun _ _ _=>false) (fun _ _=>false) PUnit.unit (fun _ _ _ _=>PUnit.unit) x
def dk (x y:AV):Bool:=PT x y
def xa (a b:List AV):Bool:=cw (β:=List AV→Bool) (fun b=>List.rec true (fun _ _ _=>false) b)
 (fun x _ ih b=>List.rec false (fun y b _=>Bool.rec false (ih b) (dk x y)) b) a b
def sH (x y:AV):Bool:=OL.rec (dk x y) (fun a=>AV.kS y (fun b=>xa a b) false) x.asAgg
def uE (x y:AV):Bool:=Kz.rec (KA.rec (sH x y) (sH x y) (fun t a=>AV.zm y (fun u b=>Bool.and (Nat.beq t u) (sH a b)) false false) x.zl) (fun f a=>AV.BZ y (fun g b=>Bool.and (Nat.beq f g) (xa a b)) false) x.zk
def xd (a b:List AV):Bool:=cw (β:=List AV→Bool) (fun b=>List.rec true (fun _ _ _=>false) b)
 (fun x _ ih b=>List.rec false (fun y b _=>Bool.rec false (ih b) (uE x y)) b) a b
def same (x y:AV):Bool:=OL.rec (uE x y) (fun a=>AV.zn y (fun b=>xd a b) false) x.uf
def Nz (x:AV):Bool:=AV.rec (motive_2:=fun _=>PUnit) true (fun _=>false) (fun _ _=>false) (fun _=>false) (fun _ _=>false) (fun _ _ _=>false) (fun _ _=>false) false (fun _ _ _ _=>false) (fun _ _ _ _=>false) false (fun _=>false) false (fun _ _ _=>false) false (fun _ _ _=>false) false (fun _ _=>false) (fun _ _=>false) (fun _=>false) PUnit.unit (fun _ _ _ _=>PUnit.unit) x
def wM (x y:AV):Bool:=Bool.rec (same x y) (Nz y) (Nz x)
def fw (x y:AV):AV:=Bool.rec .undef x (same x y)
def A1.eq (x y:A1):Bool:=A1.rec (A1.rec true (fun _ _ _ _ _ _ _ _ _ _ _ _ _ _ _ _=>false) y) (fun a0 a1 a2 a3 a4 a5 a6 a7 a8 a9 aa ab ac ad ae af=>A1.rec false (fun b0 b1 b2 b3 b4 b5 b6 b7 b8 b9 ba bb bc bd be bf=>(Bool.rec false (Bool.rec false (Bool.rec false (Bool.rec false (Bool.rec false (Bool.rec false (Bool.rec false (Bool.rec false (Bool.rec false (Bool.rec false (Bool.rec false (Bool.rec false (Bool.rec false (Bool.rec false (Bool.rec false (wM af bf) (wM ae be)) (wM ad bd)) (wM ac bc)) (wM ab bb)) (wM aa ba)) (wM a9 b9)) (wM a8 b8)) (wM a7 b7)) (wM a6 b6)) (wM a5 b5)) (wM a4 b4)) (wM a3 b3)) (wM a2 b2)) (wM a1 b1)) (wM a0 b0))) y) x
def A2.eq (x y:A2):Bool:=A2.rec (A2.rec true (fun _ _ _ _ _ _ _ _ _ _ _ _ _ _ _ _=>false) y) (fun a0 a1 a2 a3 a4 a5 a6 a7 a8 a9 aa ab ac ad ae af=>A2.rec false (fun b0 b1 b2 b3 b4 b5 b6 b7 b8 b9 ba bb bc bd be bf=>(Bool.rec false (Bool.rec false (Bool.rec false (Bool.rec false (Bool.rec false (Bool.rec false (Bool.rec false (Bool.rec false (Bool.rec false (Bool.rec false (Bool.rec false (Bool.rec false (Bool.rec false (Bool.rec false (Bool.rec false (A1.eq af bf) (A1.eq ae be)) (A1.eq ad bd)) (A1.eq ac bc)) (A1.eq ab bb)) (A1.eq aa ba)) (A1.eq a9 b9)) (A1.eq a8 b8)) (A1.eq a7 b7)) (A1.eq a6 b6)) (A1.eq a5 b5)) (A1.eq a4 b4)) (A1.eq a3 b3)) (A1.eq a2 b2)) (A1.eq a1 b1)) (A1.eq a0 b0))) y) x
def A3.eq (x y:A3):Bool:=A3.rec (A3.rec true (fun _ _ _ _ _ _ _ _ _ _ _ _ _ _ _ _=>false) y) (fun a0 a1 a2 a3 a4 a5 a6 a7 a8 a9 aa ab ac ad ae af=>A3.rec false (fun b0 b1 b2 b3 b4 b5 b6 b7 b8 b9 ba bb bc bd be bf=>(Bool.rec false (Bool.rec false (Bool.rec false (Bool.rec false (Bool.rec false (Bool.rec false (Bool.rec false (Bool.rec false (Bool.rec false (Bool.rec false (Bool.rec false (Bool.rec false (Bool.rec false (Bool.rec false (Bool.rec false (A2.eq af bf) (A2.eq ae be)) (A2.eq ad bd)) (A2.eq ac bc)) (A2.eq ab bb)) (A2.eq aa ba)) (A2.eq a9 b9)) (A2.eq a8 b8)) (A2.eq a7 b7)) (A2.eq a6 b6)) (A2.eq a5 b5)) (A2.eq a4 b4)) (A2.eq a3 b3)) (A2.eq a2 b2)) (A2.eq a1 b1)) (A2.eq a0 b0))) y) x
def A4.eq (x y:A4):Bool:=A4.rec (A4.rec true (fun _ _ _ _ _ _ _ _ _ _ _ _ _ _ _ _=>false) y) (fun a0 a1 a2 a3 a4 a5 a6 a7 a8 a9 aa ab ac ad ae af=>A4.rec false (fun b0 b1 b2 b3 b4 b5 b6 b7 b8 b9 ba bb bc bd be bf=>(Bool.rec false (Bool.rec false (Bool.rec false (Bool.rec false (Bool.rec false (Bool.rec false (Bool.rec false (Bool.rec false (Bool.rec false (Bool.rec false (Bool.rec false (Bool.rec false (Bool.rec false (Bool.rec false (Bool.rec false (A3.eq af bf) (A3.eq ae be)) (A3.eq ad bd)) (A3.eq ac bc)) (A3.eq ab bb)) (A3.eq aa ba)) (A3.eq a9 b9)) (A3.eq a8 b8)) (A3.eq a7 b7)) (A3.eq a6 b6)) (A3.eq a5 b5)) (A3.eq a4 b4)) (A3.eq a3 b3)) (A3.eq a2 b2)) (A3.eq a1 b1)) (A3.eq a0 b0))) y) x
def A1.mg (x y:A1):A1:=A1.rec (A1.rec .nil (fun b0 b1 b2 b3 b4 b5 b6 b7 b8 b9 ba bb bc bd be bf=>.mk (fw AV.undef b0) (fw AV.undef b1) (fw AV.undef b2) (fw AV.undef b3) (fw AV.undef b4) (fw AV.undef b5) (fw AV.undef b6) (fw AV.undef b7) (fw AV.undef b8) (fw AV.undef b9) (fw AV.undef ba) (fw AV.undef bb) (fw AV.undef bc) (fw AV.undef bd) (fw AV.undef be) (fw AV.undef bf)) y) (fun a0 a1 a2 a3 a4 a5 a6 a7 a8 a9 aa ab ac ad ae af=>A1.rec (.mk (fw a0 AV.undef) (fw a1 AV.undef) (fw a2 AV.undef) (fw a3 AV.undef) (fw a4 AV.undef) (fw a5 AV.undef) (fw a6 AV.undef) (fw a7 AV.undef) (fw a8 AV.undef) (fw a9 AV.undef) (fw aa AV.undef) (fw ab AV.undef) (fw ac AV.undef) (fw ad AV.undef) (fw ae AV.undef) (fw af AV.undef)) (fun b0 b1 b2 b3 b4 b5 b6 b7 b8 b9 ba bb bc bd be bf=>.mk (fw a0 b0) (fw a1 b1) (fw a2 b2) (fw a3 b3) (fw a4 b4) (fw a5 b5) (fw a6 b6) (fw a7 b7) (fw a8 b8) (fw a9 b9) (fw aa ba) (fw ab bb) (fw ac bc) (fw ad bd) (fw ae be) (fw af bf)) y) x
def A2.mg (x y:A2):A2:=A2.rec (A2.rec .nil (fun b0 b1 b2 b3 b4 b5 b6 b7 b8 b9 ba bb bc bd be bf=>.mk (A1.mg A1.nil b0) (A1.mg A1.nil b1) (A1.mg A1.nil b2) (A1.mg A1.nil b3) (A1.mg A1.nil b4) (A1.mg A1.nil b5) (A1.mg A1.nil b6) (A1.mg A1.nil b7) (A1.mg A1.nil b8) (A1.mg A1.nil b9) (A1.mg A1.nil ba) (A1.mg A1.nil bb) (A1.mg A1.nil bc) (A1.mg A1.nil bd) (A1.mg A1.nil be) (A1.mg A1.nil bf)) y) (fun a0 a1 a2 a3 a4 a5 a6 a7 a8 a9 aa ab ac ad ae af=>A2.rec (.mk (A1.mg a0 A1.nil) (A1.mg a1 A1.nil) (A1.mg a2 A1.nil) (A1.mg a3 A1.nil) (A1.mg a4 A1.nil) (A1.mg a5 A1.nil) (A1.mg a6 A1.nil) (A1.mg a7 A1.nil) (A1.mg a8 A1.nil) (A1.mg a9 A1.nil) (A1.mg aa A1.nil) (A1.mg ab A1.nil) (A1.mg ac A1.nil) (A1.mg ad A1.nil) (A1.mg ae A1.nil) (A1.mg af A1.nil)) (fun b0 b1 b2 b3 b4 b5 b6 b7 b8 b9 ba bb bc bd be bf=>.mk (A1.mg a0 b0) (A1.mg a1 b1) (A1.mg a2 b2) (A1.mg a3 b3) (A1.mg a4 b4) (A1.mg a5 b5) (A1.mg a6 b6) (A1.mg a7 b7) (A1.mg a8 b8) (A1.mg a9 b9) (A1.mg aa ba) (A1.mg ab bb) (A1.mg ac bc) (A1.mg ad bd) (A1.mg ae be) (A1.mg af bf)) y) x
def Cl.eq (x y:Cl):Bool:=Cl.rec (fun a=>Cl.rec (fun b=>A1.eq a b) (fun _=>false) (fun _=>false) (fun _=>false) y) (fun a=>Cl.rec (fun _=>false) (fun b=>A2.eq a b) (fun _=>false) (fun _=>false) y) (fun a=>Cl.rec (fun _=>false) (fun _=>false) (fun b=>A3.eq a b) (fun _=>false) y) (fun a=>Cl.rec (fun _=>false) (fun _=>false) (fun _=>false) (fun b=>A4.eq a b) y) x
def Fl.eq (x y:Fl):Bool:=Fl.rec (Fl.rec true false false y) (Fl.rec false true false y) (Fl.rec false false true y) x
def NA (x y:KV):Bool:=KV.rec (fun k v b=>KV.rec (fun k' v' b'=>Bool.rec false (Bool.rec false (wM v v') (same k k')) (Nat.beq b b')) y) x
def Dm (a b:List KV):Bool:=cw (β:=List KV→Bool) (fun b=>lj b) (fun x _ ih b=>List.rec false (fun y b _=>Bool.rec false (ih b) (NA x y)) b) a b
def sJ (x y:Obj):Bool:=Obj.rec (isNone y) false (fun el n ex fl c=>Obj.bB y (fun el' n' ex' fl' c'=>Bool.rec false (Bool.rec false (Bool.rec false (Bool.rec false (Cl.eq c c') (Fl.eq fl fl')) (gP ex ex')) (Nat.beq n n')) (Nat.beq el el')) false) (fun l ck=>Obj.dY y (fun l' ck'=>Bool.rec false (Dm l l') (Nat.beq ck ck')) false) (fun _ _=>false) (fun _ _ _ _=>false) false x
def aX (x y:Obj):Obj:=Bool.rec .dead x (sJ x y)
def O1.mg (x y:O1):O1:=O1.rec (O1.rec .nil (fun b0 b1 b2 b3 b4 b5 b6 b7 b8 b9 ba bb bc bd be bf=>.mk (aX Obj.none b0) (aX Obj.none b1) (aX Obj.none b2) (aX Obj.none b3) (aX Obj.none b4) (aX Obj.none b5) (aX Obj.none b6) (aX Obj.none b7) (aX Obj.none b8) (aX Obj.none b9) (aX Obj.none ba) (aX Obj.none bb) (aX Obj.none bc) (aX Obj.none bd) (aX Obj.none be) (aX Obj.none bf)) y) (fun a0 a1 a2 a3 a4 a5 a6 a7 a8 a9 aa ab ac ad ae af=>O1.rec (.mk (aX a0 Obj.none) (aX a1 Obj.none) (aX a2 Obj.none) (aX a3 Obj.none) (aX a4 Obj.none) (aX a5 Obj.none) (aX a6 Obj.none) (aX a7 Obj.none) (aX a8 Obj.none) (aX a9 Obj.none) (aX aa Obj.none) (aX ab Obj.none) (aX ac Obj.none) (aX ad Obj.none) (aX ae Obj.none) (aX af Obj.none)) (fun b0 b1 b2 b3 b4 b5 b6 b7 b8 b9 ba bb bc bd be bf=>.mk (aX a0 b0) (aX a1 b1) (aX a2 b2) (aX a3 b3) (aX a4 b4) (aX a5 b5) (aX a6 b6) (aX a7 b7) (aX a8 b8) (aX a9 b9) (aX aa ba) (aX ab bb) (aX ac bc) (aX ad bd) (aX ae be) (aX af bf)) y) x
def O2.mg (x y:O2):O2:=O2.rec (O2.rec .nil (fun b0 b1 b2 b3 b4 b5 b6 b7 b8 b9 ba bb bc bd be bf=>.mk (O1.mg O1.nil b0) (O1.mg O1.nil b1) (O1.mg O1.nil b2) (O1.mg O1.nil b3) (O1.mg O1.nil b4) (O1.mg O1.nil b5) (O1.mg O1.nil b6) (O1.mg O1.nil b7) (O1.mg O1.nil b8) (O1.mg O1.nil b9) (O1.mg O1.nil ba) (O1.mg O1.nil bb) (O1.mg O1.nil bc) (O1.mg O1.nil bd) (O1.mg O1.nil be) (O1.mg O1.nil bf)) y) (fun a0 a1 a2 a3 a4 a5 a6 a7 a8 a9 aa ab ac ad ae af=>O2.rec (.mk (O1.mg a0 O1.nil) (O1.mg a1 O1.nil) (O1.mg a2 O1.nil) (O1.mg a3 O1.nil) (O1.mg a4 O1.nil) (O1.mg a5 O1.nil) (O1.mg a6 O1.nil) (O1.mg a7 O1.nil) (O1.mg a8 O1.nil) (O1.mg a9 O1.nil) (O1.mg aa O1.nil) (O1.mg ab O1.nil) (O1.mg ac O1.nil) (O1.mg ad O1.nil) (O1.mg ae O1.nil) (O1.mg af O1.nil)) (fun b0 b1 b2 b3 b4 b5 b6 b7 b8 b9 ba bb bc bd be bf=>.mk (O1.mg a0 b0) (O1.mg a1 b1) (O1.mg a2 b2) (O1.mg a3 b3) (O1.mg a4 b4) (O1.mg a5 b5) (O1.mg a6 b6) (O1.mg a7 b7) (O1.mg a8 b8) (O1.mg a9 b9) (O1.mg aa ba) (O1.mg ab bb) (O1.mg ac bc) (O1.mg ad bd) (O1.mg ae be) (O1.mg af bf)) y) x
def O3.mg (x y:O3):O3:=O3.rec (O3.rec .nil (fun b0 b1 b2 b3 b4 b5 b6 b7 b8 b9 ba bb bc bd be bf=>.mk (O2.mg O2.nil b0) (O2.mg O2.nil b1) (O2.mg O2.nil b2) (O2.mg O2.nil b3) (O2.mg O2.nil b4) (O2.mg O2.nil b5) (O2.mg O2.nil b6) (O2.mg O2.nil b7) (O2.mg O2.nil b8) (O2.mg O2.nil b9) (O2.mg O2.nil ba) (O2.mg O2.nil bb) (O2.mg O2.nil bc) (O2.mg O2.nil bd) (O2.mg O2.nil be) (O2.mg O2.nil bf)) y) (fun a0 a1 a2 a3 a4 a5 a6 a7 a8 a9 aa ab ac ad ae af=>O3.rec (.mk (O2.mg a0 O2.nil) (O2.mg a1 O2.nil) (O2.mg a2 O2.nil) (O2.mg a3 O2.nil) (O2.mg a4 O2.nil) (O2.mg a5 O2.nil) (O2.mg a6 O2.nil) (O2.mg a7 O2.nil) (O2.mg a8 O2.nil) (O2.mg a9 O2.nil) (O2.mg aa O2.nil) (O2.mg ab O2.nil) (O2.mg ac O2.nil) (O2.mg ad O2.nil) (O2.mg ae O2.nil) (O2.mg af O2.nil)) (fun b0 b1 b2 b3 b4 b5 b6 b7 b8 b9 ba bb bc bd be bf=>.mk (O2.mg a0 b0) (O2.mg a1 b1) (O2.mg a2 b2) (O2.mg a3 b3) (O2.mg a4 b4) (O2.mg a5 b5) (O2.mg a6 b6) (O2.mg a7 b7) (O2.mg a8 b8) (O2.mg a9 b9) (O2.mg aa ba) (O2.mg ab bb) (O2.mg ac bc) (O2.mg ad bd) (O2.mg ae be) (O2.mg af bf)) y) x
def O4.mg (x y:O4):O4:=O4.rec (O4.rec .nil (fun b0 b1 b2 b3 b4 b5 b6 b7 b8 b9 ba bb bc bd be bf=>.mk (O3.mg O3.nil b0) (O3.mg O3.nil b1) (O3.mg O3.nil b2) (O3.mg O3.nil b3) (O3.mg O3.nil b4) (O3.mg O3.nil b5) (O3.mg O3.nil b6) (O3.mg O3.nil b7) (O3.mg O3.nil b8) (O3.mg O3.nil b9) (O3.mg O3.nil ba) (O3.mg O3.nil bb) (O3.mg O3.nil bc) (O3.mg O3.nil bd) (O3.mg O3.nil be) (O3.mg O3.nil bf)) y) (fun a0 a1 a2 a3 a4 a5 a6 a7 a8 a9 aa ab ac ad ae af=>O4.rec (.mk (O3.mg a0 O3.nil) (O3.mg a1 O3.nil) (O3.mg a2 O3.nil) (O3.mg a3 O3.nil) (O3.mg a4 O3.nil) (O3.mg a5 O3.nil) (O3.mg a6 O3.nil) (O3.mg a7 O3.nil) (O3.mg a8 O3.nil) (O3.mg a9 O3.nil) (O3.mg aa O3.nil) (O3.mg ab O3.nil) (O3.mg ac O3.nil) (O3.mg ad O3.nil) (O3.mg ae O3.nil) (O3.mg af O3.nil)) (fun b0 b1 b2 b3 b4 b5 b6 b7 b8 b9 ba bb bc bd be bf=>.mk (O3.mg a0 b0) (O3.mg a1 b1) (O3.mg a2 b2) (O3.mg a3 b3) (O3.mg a4 b4) (O3.mg a5 b5) (O3.mg a6 b6) (O3.mg a7 b7) (O3.mg a8 b8) (O3.mg a9 b9) (O3.mg aa ba) (O3.mg ab bb) (O3.mg ac bc) (O3.mg ad bd) (O3.mg ae be) (O3.mg af bf)) y) x
def fI (x y:AV):Bool:=Bool.rec (same x y) true (Nz x)
def yO (x:Obj):Bool:=Obj.rec false true (fun _ _ _ _ _=>false) (fun _ _=>false) (fun _ _=>false) (fun _ _ _ _=>false) false x
def bp (x y:Obj):Bool:=Bool.rec (sJ x y) true (yO x)
def A1.le (x y:A1):Bool:=A1.rec (A1.rec true (fun b0 b1 b2 b3 b4 b5 b6 b7 b8 b9 ba bb bc bd be bf=>(Bool.rec false (Bool.rec false (Bool.rec false (Bool.rec false (Bool.rec false (Bool.rec false (Bool.rec false (Bool.rec false (Bool.rec false (Bool.rec false (Bool.rec false (Bool.rec false (Bool.rec false (Bool.rec false (Bool.rec false (fI AV.undef bf) (fI AV.undef be)) (fI AV.undef bd)) (fI AV.undef bc)) (fI AV.undef bb)) (fI AV.undef ba)) (fI AV.undef b9)) (fI AV.undef b8)) (fI AV.undef b7)) (fI AV.undef b6)) (fI AV.undef b5)) (fI AV.undef b4)) (fI AV.undef b3)) (fI AV.undef b2)) (fI AV.undef b1)) (fI AV.undef b0))) y) (fun a0 a1 a2 a3 a4 a5 a6 a7 a8 a9 aa ab ac ad ae af=>A1.rec (Bool.rec false (Bool.rec false (Bool.rec false (Bool.rec false (Bool.rec false (Bool.rec false (Bool.rec false (Bool.rec false (Bool.rec false (Bool.rec false (Bool.rec false (Bool.rec false (Bool.rec false (Bool.rec false (Bool.rec false (fI af AV.undef) (fI ae AV.undef)) (fI ad AV.undef)) (fI ac AV.undef)) (fI ab AV.undef)) (fI aa AV.undef)) (fI a9 AV.undef)) (fI a8 AV.undef)) (fI a7 AV.undef)) (fI a6 AV.undef)) (fI a5 AV.undef)) (fI a4 AV.undef)) (fI a3 AV.undef)) (fI a2 AV.undef)) (fI a1 AV.undef)) (fI a0 AV.undef)) (fun b0 b1 b2 b3 b4 b5 b6 b7 b8 b9 ba bb bc bd be bf=>(Bool.rec false (Bool.rec false (Bool.rec false (Bool.rec false (Bool.rec false (Bool.rec false (Bool.rec false (Bool.rec false (Bool.rec false (Bool.rec false (Bool.rec false (Bool.rec false (Bool.rec false (Bool.rec false (Bool.rec false (fI af bf) (fI ae be)) (fI ad bd)) (fI ac bc)) (fI ab bb)) (fI aa ba)) (fI a9 b9)) (fI a8 b8)) (fI a7 b7)) (fI a6 b6)) (fI a5 b5)) (fI a4 b4)) (fI a3 b3)) (fI a2 b2)) (fI a1 b1)) (fI a0 b0))) y) x
def A2.le (x y:A2):Bool:=A2.rec (A2.rec true (fun b0 b1 b2 b3 b4 b5 b6 b7 b8 b9 ba bb bc bd be bf=>(Bool.rec false (Bool.rec false (Bool.rec false (Bool.rec false (Bool.rec false (Bool.rec false (Bool.rec false (Bool.rec false (Bool.rec false (Bool.rec false (Bool.rec false (Bool.rec false (Bool.rec false (Bool.rec false (Bool.rec false (A1.le A1.nil bf) (A1.le A1.nil be)) (A1.le A1.nil bd)) (A1.le A1.nil bc)) (A1.le A1.nil bb)) (A1.le A1.nil ba)) (A1.le A1.nil b9)) (A1.le A1.nil b8)) (A1.le A1.nil b7)) (A1.le A1.nil b6)) (A1.le A1.nil b5)) (A1.le A1.nil b4)) (A1.le A1.nil b3)) (A1.le A1.nil b2)) (A1.le A1.nil b1)) (A1.le A1.nil b0))) y) (fun a0 a1 a2 a3 a4 a5 a6 a7 a8 a9 aa ab ac ad ae af=>A2.rec (Bool.rec false (Bool.rec false (Bool.rec false (Bool.rec false (Bool.rec false (Bool.rec false (Bool.rec false (Bool.rec false (Bool.rec false (Bool.rec false (Bool.rec false (Bool.rec false (Bool.rec false (Bool.rec false (Bool.rec false (A1.le af A1.nil) (A1.le ae A1.nil)) (A1.le ad A1.nil)) (A1.le ac A1.nil)) (A1.le ab A1.nil)) (A1.le aa A1.nil)) (A1.le a9 A1.nil)) (A1.le a8 A1.nil)) (A1.le a7 A1.nil)) (A1.le a6 A1.nil)) (A1.le a5 A1.nil)) (A1.le a4 A1.nil)) (A1.le a3 A1.nil)) (A1.le a2 A1.nil)) (A1.le a1 A1.nil)) (A1.le a0 A1.nil)) (fun b0 b1 b2 b3 b4 b5 b6 b7 b8 b9 ba bb bc bd be bf=>(Bool.rec false (Bool.rec false (Bool.rec false (Bool.rec false (Bool.rec false (Bool.rec false (Bool.rec false (Bool.rec false (Bool.rec false (Bool.rec false (Bool.rec false (Bool.rec false (Bool.rec false (Bool.rec false (Bool.rec false (A1.le af bf) (A1.le ae be)) (A1.le ad bd)) (A1.le ac bc)) (A1.le ab bb)) (A1.le aa ba)) (A1.le a9 b9)) (A1.le a8 b8)) (A1.le a7 b7)) (A1.le a6 b6)) (A1.le a5 b5)) (A1.le a4 b4)) (A1.le a3 b3)) (A1.le a2 b2)) (A1.le a1 b1)) (A1.le a0 b0))) y) x
def O1.le (x y:O1):Bool:=O1.rec (O1.rec true (fun b0 b1 b2 b3 b4 b5 b6 b7 b8 b9 ba bb bc bd be bf=>(Bool.rec false (Bool.rec false (Bool.rec false (Bool.rec false (Bool.rec false (Bool.rec false (Bool.rec false (Bool.rec false (Bool.rec false (Bool.rec false (Bool.rec false (Bool.rec false (Bool.rec false (Bool.rec false (Bool.rec false (bp Obj.none bf) (bp Obj.none be)) (bp Obj.none bd)) (bp Obj.none bc)) (bp Obj.none bb)) (bp Obj.none ba)) (bp Obj.none b9)) (bp Obj.none b8)) (bp Obj.none b7)) (bp Obj.none b6)) (bp Obj.none b5)) (bp Obj.none b4)) (bp Obj.none b3)) (bp Obj.none b2)) (bp Obj.none b1)) (bp Obj.none b0))) y) (fun a0 a1 a2 a3 a4 a5 a6 a7 a8 a9 aa ab ac ad ae af=>O1.rec (Bool.rec false (Bool.rec false (Bool.rec false (Bool.rec false (Bool.rec false (Bool.rec false (Bool.rec false (Bool.rec false (Bool.rec false (Bool.rec false (Bool.rec false (Bool.rec false (Bool.rec false (Bool.rec false (Bool.rec false (bp af Obj.none) (bp ae Obj.none)) (bp ad Obj.none)) (bp ac Obj.none)) (bp ab Obj.none)) (bp aa Obj.none)) (bp a9 Obj.none)) (bp a8 Obj.none)) (bp a7 Obj.none)) (bp a6 Obj.none)) (bp a5 Obj.none)) (bp a4 Obj.none)) (bp a3 Obj.none)) (bp a2 Obj.none)) (bp a1 Obj.none)) (bp a0 Obj.none)) (fun b0 b1 b2 b3 b4 b5 b6 b7 b8 b9 ba bb bc bd be bf=>(Bool.rec false (Bool.rec false (Bool.rec false (Bool.rec false (Bool.rec false (Bool.rec false (Bool.rec false (Bool.rec false (Bool.rec false (Bool.rec false (Bool.rec false (Bool.rec false (Bool.rec false (Bool.rec false (Bool.rec false (bp af bf) (bp ae be)) (bp ad bd)) (bp ac bc)) (bp ab bb)) (bp aa ba)) (bp a9 b9)) (bp a8 b8)) (bp a7 b7)) (bp a6 b6)) (bp a5 b5)) (bp a4 b4)) (bp a3 b3)) (bp a2 b2)) (bp a1 b1)) (bp a0 b0))) y) x
def O2.le (x y:O2):Bool:=O2.rec (O2.rec true (fun b0 b1 b2 b3 b4 b5 b6 b7 b8 b9 ba bb bc bd be bf=>(Bool.rec false (Bool.rec false (Bool.rec false (Bool.rec false (Bool.rec false (Bool.rec false (Bool.rec false (Bool.rec false (Bool.rec false (Bool.rec false (Bool.rec false (Bool.rec false (Bool.rec false (Bool.rec false (Bool.rec false (O1.le O1.nil bf) (O1.le O1.nil be)) (O1.le O1.nil bd)) (O1.le O1.nil bc)) (O1.le O1.nil bb)) (O1.le O1.nil ba)) (O1.le O1.nil b9)) (O1.le O1.nil b8)) (O1.le O1.nil b7)) (O1.le O1.nil b6)) (O1.le O1.nil b5)) (O1.le O1.nil b4)) (O1.le O1.nil b3)) (O1.le O1.nil b2)) (O1.le O1.nil b1)) (O1.le O1.nil b0))) y) (fun a0 a1 a2 a3 a4 a5 a6 a7 a8 a9 aa ab ac ad ae af=>O2.rec (Bool.rec false (Bool.rec false (Bool.rec false (Bool.rec false (Bool.rec false (Bool.rec false (Bool.rec false (Bool.rec false (Bool.rec false (Bool.rec false (Bool.rec false (Bool.rec false (Bool.rec false (Bool.rec false (Bool.rec false (O1.le af O1.nil) (O1.le ae O1.nil)) (O1.le ad O1.nil)) (O1.le ac O1.nil)) (O1.le ab O1.nil)) (O1.le aa O1.nil)) (O1.le a9 O1.nil)) (O1.le a8 O1.nil)) (O1.le a7 O1.nil)) (O1.le a6 O1.nil)) (O1.le a5 O1.nil)) (O1.le a4 O1.nil)) (O1.le a3 O1.nil)) (O1.le a2 O1.nil)) (O1.le a1 O1.nil)) (O1.le a0 O1.nil)) (fun b0 b1 b2 b3 b4 b5 b6 b7 b8 b9 ba bb bc bd be bf=>(Bool.rec false (Bool.rec false (Bool.rec false (Bool.rec false (Bool.rec false (Bool.rec false (Bool.rec false (Bool.rec false (Bool.rec false (Bool.rec false (Bool.rec false (Bool.rec false (Bool.rec false (Bool.rec false (Bool.rec false (O1.le af bf) (O1.le ae be)) (O1.le ad bd)) (O1.le ac bc)) (O1.le ab bb)) (O1.le aa ba)) (O1.le a9 b9)) (O1.le a8 b8)) (O1.le a7 b7)) (O1.le a6 b6)) (O1.le a5 b5)) (O1.le a4 b4)) (O1.le a3 b3)) (O1.le a2 b2)) (O1.le a1 b1)) (O1.le a0 b0))) y) x
def O3.le (x y:O3):Bool:=O3.rec (O3.rec true (fun b0 b1 b2 b3 b4 b5 b6 b7 b8 b9 ba bb bc bd be bf=>(Bool.rec false (Bool.rec false (Bool.rec false (Bool.rec false (Bool.rec false (Bool.rec false (Bool.rec false (Bool.rec false (Bool.rec false (Bool.rec false (Bool.rec false (Bool.rec false (Bool.rec false (Bool.rec false (Bool.rec false (O2.le O2.nil bf) (O2.le O2.nil be)) (O2.le O2.nil bd)) (O2.le O2.nil bc)) (O2.le O2.nil bb)) (O2.le O2.nil ba)) (O2.le O2.nil b9)) (O2.le O2.nil b8)) (O2.le O2.nil b7)) (O2.le O2.nil b6)) (O2.le O2.nil b5)) (O2.le O2.nil b4)) (O2.le O2.nil b3)) (O2.le O2.nil b2)) (O2.le O2.nil b1)) (O2.le O2.nil b0))) y) (fun a0 a1 a2 a3 a4 a5 a6 a7 a8 a9 aa ab ac ad ae af=>O3.rec (Bool.rec false (Bool.rec false (Bool.rec false (Bool.rec false (Bool.rec false (Bool.rec false (Bool.rec false (Bool.rec false (Bool.rec false (Bool.rec false (Bool.rec false (Bool.rec false (Bool.rec false (Bool.rec false (Bool.rec false (O2.le af O2.nil) (O2.le ae O2.nil)) (O2.le ad O2.nil)) (O2.le ac O2.nil)) (O2.le ab O2.nil)) (O2.le aa O2.nil)) (O2.le a9 O2.nil)) (O2.le a8 O2.nil)) (O2.le a7 O2.nil)) (O2.le a6 O2.nil)) (O2.le a5 O2.nil)) (O2.le a4 O2.nil)) (O2.le a3 O2.nil)) (O2.le a2 O2.nil)) (O2.le a1 O2.nil)) (O2.le a0 O2.nil)) (fun b0 b1 b2 b3 b4 b5 b6 b7 b8 b9 ba bb bc bd be bf=>(Bool.rec false (Bool.rec false (Bool.rec false (Bool.rec false (Bool.rec false (Bool.rec false (Bool.rec false (Bool.rec false (Bool.rec false (Bool.rec false (Bool.rec false (Bool.rec false (Bool.rec false (Bool.rec false (Bool.rec false (O2.le af bf) (O2.le ae be)) (O2.le ad bd)) (O2.le ac bc)) (O2.le ab bb)) (O2.le aa ba)) (O2.le a9 b9)) (O2.le a8 b8)) (O2.le a7 b7)) (O2.le a6 b6)) (O2.le a5 b5)) (O2.le a4 b4)) (O2.le a3 b3)) (O2.le a2 b2)) (O2.le a1 b1)) (O2.le a0 b0))) y) x
def O4.le (x y:O4):Bool:=O4.rec (O4.rec true (fun b0 b1 b2 b3 b4 b5 b6 b7 b8 b9 ba bb bc bd be bf=>(Bool.rec false (Bool.rec false (Bool.rec false (Bool.rec false (Bool.rec false (Bool.rec false (Bool.rec false (Bool.rec false (Bool.rec false (Bool.rec false (Bool.rec false (Bool.rec false (Bool.rec false (Bool.rec false (Bool.rec false (O3.le O3.nil bf) (O3.le O3.nil be)) (O3.le O3.nil bd)) (O3.le O3.nil bc)) (O3.le O3.nil bb)) (O3.le O3.nil ba)) (O3.le O3.nil b9)) (O3.le O3.nil b8)) (O3.le O3.nil b7)) (O3.le O3.nil b6)) (O3.le O3.nil b5)) (O3.le O3.nil b4)) (O3.le O3.nil b3)) (O3.le O3.nil b2)) (O3.le O3.nil b1)) (O3.le O3.nil b0))) y) (fun a0 a1 a2 a3 a4 a5 a6 a7 a8 a9 aa ab ac ad ae af=>O4.rec (Bool.rec false (Bool.rec false (Bool.rec false (Bool.rec false (Bool.rec false (Bool.rec false (Bool.rec false (Bool.rec false (Bool.rec false (Bool.rec false (Bool.rec false (Bool.rec false (Bool.rec false (Bool.rec false (Bool.rec false (O3.le af O3.nil) (O3.le ae O3.nil)) (O3.le ad O3.nil)) (O3.le ac O3.nil)) (O3.le ab O3.nil)) (O3.le aa O3.nil)) (O3.le a9 O3.nil)) (O3.le a8 O3.nil)) (O3.le a7 O3.nil)) (O3.le a6 O3.nil)) (O3.le a5 O3.nil)) (O3.le a4 O3.nil)) (O3.le a3 O3.nil)) (O3.le a2 O3.nil)) (O3.le a1 O3.nil)) (O3.le a0 O3.nil)) (fun b0 b1 b2 b3 b4 b5 b6 b7 b8 b9 ba bb bc bd be bf=>(Bool.rec false (Bool.rec false (Bool.rec false (Bool.rec false (Bool.rec false (Bool.rec false (Bool.rec false (Bool.rec false (Bool.rec false (Bool.rec false (Bool.rec false (Bool.rec false (Bool.rec false (Bool.rec false (Bool.rec false (O3.le af bf) (O3.le ae be)) (O3.le ad bd)) (O3.le ac bc)) (O3.le ab bb)) (O3.le aa ba)) (O3.le a9 b9)) (O3.le a8 b8)) (O3.le a7 b7)) (O3.le a6 b6)) (O3.le a5 b5)) (O3.le a4 b4)) (O3.le a3 b3)) (O3.le a2 b2)) (O3.le a1 b1)) (O3.le a0 b0))) y) x
def OT (x y:Hp):Bool:=O4.le x.tree y.tree
def ui (x:Lg):List P4:=Lg.rec .nil (fun l=>l) x
def mark (h:Hp):Hp:=.mk h.tree h.next (.on .nil)
def Dp (b h:Hp):Hp:=.mk h.tree h.next (Lg.rec .off (fun l=>.on (List.append (ui h.log) l)) b.log)
def pT (b:Hp) (x:RS):RS:=RS.elim (fun r h=>.nm r (Dp b h)) (fun i r h=>.ex i r (Dp b h)) (fun l r h=>.go l r (Dp b h)) (fun r h=>.ret r (Dp b h)) (fun n=>.err n) (fun n ih=>.ch n ih) x
def zx (n:P4) (h:Hp):Hp:=.mk h.tree n h.log
def oK (x y:Hp) (l:List P4):Hp→Hp:=cw (β:=Hp→Hp) (fun h=>h) (fun p _ ih h=>ih (cE p (aX (av p x) (av p y)) h)) l
def XE (b x y:Hp) (k:Hp→RS):RS:=Bool.rec (.err 301) (k (zx x.next (oK x y (ui x.log) (oK x y (ui y.log) b)))) (lO x.next y.next)
def yw (b:Hp) (x y:RS):RS:=RS.rec (fun r h=>RS.rec (fun r' h'=>XE b h h' (fun h=>.nm (A2.mg r r') h)) (fun _ _ _=>.err 302) (fun _ _ _=>.err 302) (fun _ _=>.err 302) (fun n=>.err n) (fun _ _ _=>.err 302) y) (fun _ _ _=>.err 303) (fun _ _ _=>.err 303) (fun _ _=>.err 303) (fun n=>.err n) (fun _ _ _=>.err 303) x
def Dr (b:Hp) (n:Nat) (f:Nat→RS):RS:=Nat.rec (.err 304) (fun n _=>oL (f 0) (fun m ih=>yw b ih (f (Nat.succ m))) n) n
def jd (b:Hp) (x:RS):RS:=RS.elim (fun r h=>.nm r h) (fun i r h=>.ex i r h) (fun l r h=>.go l r h) (fun r h=>.ret r h) (fun n=>.err n) (Dr b) x
def fj (h:Hp) (x:RS):RS:=pT h (jd (mark h) x)
def uK (l:List Rs) (r:A2):A2:=cw .nil (fun s _ ih=>Rs.rec (fun a b=>eQ a b (aq a b r) ih) (fun a b=>eQ a b (aq a b r) ih) (fun _ a b=>eQ a b (aq a b r) ih) s) l
def sR (l:List Rs) (x:RS):RS:=RS.elim (fun r h=>.nm (uK l r) h) (fun i r h=>.ex i r h) (fun l r h=>.go l r h) (fun r h=>.nm (uK l r) h) (fun n=>.err n) (fun n ih=>.ch n ih) x
abbrev gg:=AC→A2→Hp→RS
def Iw (s:Rs) (r:A2) (h:Hp):RV:=Rs.rec (fun a b=>.ok (aq a b r) h) (fun a b=>gQ (.t a b) r h) (fun n a b=>pC n (.t a b) r h) s
def ND (l:List Rs) (r:A2) (h:Hp) (k:List AV→RV):RV:=cw (β:=(List AV→RV)→RV) (fun k=>k .nil)
 (fun s _ ih k=>RV.rec (fun v _=>ih (fun vs=>k (.cons v vs))) (fun n=>.err n) (Iw s r h)) l k
def FO (h:Hp) (l:List AV):RV:=List.rec (.ok di h) (fun v t _=>List.rec (.ok v h) (fun x y _=>.ok (.aW (.cons v (.cons x y))) h) t) l
def Bq (res:List Rs) (r:A2) (h:Hp):RV:=ND res r h (FO h)
def dV (res:List Rs) (s:RS):RT:=RS.elim (fun r h=>(Bq res r h).gh) (fun _ _ _=>.err 200) (fun _ _ _=>.err 201) (fun r h=>(Bq res r h).gh) (fun n=>.err n) (fun n ih=>.ch n ih) s
def aj (p:Pg) (run:gg) (f:Nat) (args:List AV) (h:Hp):RT:=AF.rec (.err (Nat.add 1000 f)) (fun body res=>Bool.rec (.err 207) (dV res (run body (dv args 0 .nil) h)) (Nat.ble args.length 256)) (fun k body res=>RT.rec (fun v h=>RT.ok v h) (fun _=>Bool.rec (.err 207) (dV res (run body (dv args 0 .nil) h)) (Nat.ble args.length 256)) (fun n k _=>.ch n k) (cQ k args h)) (fun body res=>Bool.rec (.err 207) (dV res (fj h (sR res (run body (dv args 0 .nil) (mark h))))) (Nat.ble args.length 256)) (fun k=>cQ k args h) (cH f p.fs)
def jc (p:Pg) (run:gg) (x:AV) (args:List AV) (h:Hp):RT:=AV.BZ x (fun f cs=>aj p run f (List.append args cs) h) (.err 202)
def aL (p:Pg) (run:gg) (name:Nat) (x:AV) (args:List AV) (h:Hp):RT:=AV.zm x
 (fun t v=>mI t name p.ms (fun f=>aj p run f (.cons v args) h) (.err 206)) (.err 205) (.err 204)
def Dg (d:aF) (k:A2→Hp→RS) (r:A2) (v:RV):RS:=RV.rec (fun v h=>k (dG d v r) h) (fun n=>.err n) v
def stepT (d:aF) (k:A2→Hp→RS) (r:A2) (v:RT):RS:=RT.elim (fun v h=>k (dG d v r) h) (fun n=>.err n) (fun n ih=>.ch n ih) v
def AI.exec (i:AI) (p:Pg) (run:gg) (d:aF) (k:A2→Hp→RS) (r:A2) (h:Hp):RS:=AI.rec (fun op=>Dg d k r (op.run r h)) (fun s x=>stepT d k r (jD s (ev x r) h)) (fun f xs=>stepT d k r (aj p run f (fu xs r) h)) (fun x xs=>stepT d k r (jc p run (ev x r) (fu xs r) h)) (fun n x xs=>stepT d k r (aL p run n (ev x r) (fu xs r) h)) i
def gb (w:Bool) (x:AV):AV:=OL.rec x (fun l=>List.rec (.bool (Bool.not w)) (fun _ _ _=>.undef) l) x.uf
def jF (d:aF) (k:A2→Hp→RS) (r:A2) (h:Hp) (i:AI) (p:Pg) (run:gg) (w t:Bool):RS:=
 Bool.rec (k (dG d di r) h) (i.exec p run d k r h) (gP t w)
def GI.exec (i:GI) (p:Pg) (run:gg) (k:A2→Hp→RS) (r:A2) (h:Hp):RS:=GI.rec (fun d i=>i.exec p run d k r h) (fun a b w d i=>AV.bI (gb w (aq a b r)) (jF d k r h i p run w) (.err 210)) i
def gI (p:Pg) (run:gg) (l:List GI):A2→Hp→RS:=cw (β:=A2→Hp→RS) (fun r h=>.nm r h) (fun i _ ih=>i.exec p run ih) l
def jR (op:oB) (r:A2) (v:AV) (l:List Hp):Nat→Bool:=cw (β:=Nat→Bool) (fun n=>Nat.rec true (fun _ _=>false) n)
 (fun h _ ih n=>Nat.rec true (fun n _=>RV.rec (fun v' _=>Bool.rec false (ih n) (same v v')) (fun _=>false) (op.run r h)) n) l
abbrev DK:=A2→Hp→Hp→List Hp→RS
def na (d:aF) (k:DK) (r:A2) (g:Hp) (hs:List Hp) (v:RT):RS:=RT.rec (fun v h'=>k (dG d v r) h' h' (.cons g hs)) (fun n=>.err n) (fun _ _ _=>.err 213) v
def Eb (d:aF) (op:oB) (n:Nat) (k:DK) (r:A2) (h g:Hp) (hs:List Hp) (v:RV):RS:=RV.rec (fun v _=>Bool.rec (.err 211) (k (dG d v r) h g hs) (jR op r v hs n)) (fun n=>.err n) v
def Ec (d:aF) (k:DK) (r:A2) (g:Hp) (hs:List Hp) (v:RV):RS:=RV.rec (fun v h'=>k (dG d v r) h' g hs) (fun n=>.err n) v
def um (b:Bk) (d:aF) (i:AI) (p:Pg) (run:gg) (k:DK) (r:A2) (h g:Hp) (hs:List Hp):RS:=AI.rec (fun op=>Bk.rec (na d k r g hs (op.run r h).gh) (fun n=>Eb d op n k r h g hs (op.run r g)) (Ec d k r g hs (op.run r h)) b) (fun s x=>na d k r g hs (jD s (ev x r) h)) (fun f xs=>na d k r g hs (aj p run f (fu xs r) h)) (fun x xs=>na d k r g hs (jc p run (ev x r) (fu xs r) h)) (fun n x xs=>na d k r g hs (aL p run n (ev x r) (fu xs r) h)) i
def Jb (b:Bk) (d:aF) (k:DK) (r:A2) (h g:Hp) (hs:List Hp):RS:=Bk.rec (k (dG d di r) h h (.cons g hs)) (fun _=>k (dG d di r) h g hs) (.err 214) b
def NV (b:Bk) (d:aF) (i:AI) (k:DK) (r:A2) (h g:Hp) (hs:List Hp) (p:Pg) (run:gg) (w t:Bool):RS:=
 Bool.rec (Jb b d k r h g hs) (um b d i p run k r h g hs) (gP t w)
def DI.exec (i:DI) (p:Pg) (run:gg) (k:DK) (r:A2) (h g:Hp) (hs:List Hp):RS:=DI.rec (fun b y=>GI.rec (fun d i=>um b d i p run k r h g hs) (fun x y w d i=>AV.bI (gb w (aq x y r)) (NV b d i k r h g hs p run w) (.err 212)) y) i
def sV (p:Pg) (run:gg) (l:List DI):DK:=cw (β:=DK) (fun r h _ _=>.nm r h) (fun i _ ih=>i.exec p run ih) l
def cI:AC→Nat→Option AC
 | .seq a b,l=>match cI a l with
  | some c=>some (.seq c b)
  | none=>cI b l
 | .label l',l=>if Nat.beq l' l then some .skip else none
 | .ag _ x,l=>cI x l
 | _,_=>none
def RS.bind (x:RS) (kn:A2→Hp→RS) (ke:Nat→A2→Hp→RS) (kg:Nat→A2→Hp→RS):RS:=RS.elim kn ke kg (fun r h=>.ret r h) (fun n=>.err n) (fun n ih=>.ch n ih) x
def zE (a b:AC) (run:gg) (r:A2) (h:Hp):RS:=RS.bind (run a r h) (fun r h=>run b r h) (fun i r h=>.ex i r h) (fun l r h=>.go l r h)
def PU (c:AO) (a b:AC) (run:gg) (r:A2) (h:Hp):RS:=AV.bI (ev c r) (fun t=>Bool.rec (run b r h) (run a r h) t) (.err 213)
def qk (i:Nat) (a:AC) (run:gg) (r:A2) (h:Hp):RS:=RS.bind (run a r h) (fun r h=>.nm r h) (fun j r h=>Bool.rec (.ex j r h) (.nm r h) (Nat.beq j i)) (fun l r h=>.go l r h)
def vX (a:AC) (run:gg) (r:A2) (h:Hp):RS:=RS.bind (run a r h) (fun r h=>run (.loop a) r h) (fun i r h=>.ex i r h) (fun l r h=>.go l r h)
def xl (a c:AC) (run:gg) (r:A2) (h:Hp):RS:=RS.bind (run c r h) (fun r h=>.nm r h) (fun i r h=>.ex i r h)
 (fun l r h=>Option.rec (.go l r h) (fun c=>run (.sat a c) r h) (cI a l))
def PV (a:AC) (run:gg) (r:A2) (h:Hp):RS:=fj h (run a r (mark h))
def pV (n:Nat) (f:Nat→Bool):Bool:=oL true (fun m ih=>Bool.rec false ih (f m)) n
abbrev Ex:=Pg→gg→A2→Hp→RS
def wK (q:Nat) (r:A2) (i:Nat):A1:=Bool.rec (A2.get (bN i) r) (Bool.rec (A2.get (bN (Nat.succ i)) r) .nil (Nat.beq i 15)) (Nat.ble q i)
def sB (q:Nat) (r:A2):A2:=.mk (wK q r 0) (wK q r 1) (wK q r 2) (wK q r 3) (wK q r 4) (wK q r 5) (wK q r 6) (wK q r 7) (wK q r 8) (wK q r 9) (wK q r 10) (wK q r 11) (wK q r 12) (wK q r 13) (wK q r 14) (wK q r 15)
def wL (q:Nat) (r:A2) (i:Nat):A1:=Bool.rec (A2.get (bN (Nat.pred i)) r) (Bool.rec (A2.get (bN i) r) .nil (Nat.beq i q)) (Nat.ble i q)
def yo (q:Nat) (r:A2):A2:=.mk (wL q r 0) (wL q r 1) (wL q r 2) (wL q r 3) (wL q r 4) (wL q r 5) (wL q r 6) (wL q r 7) (wL q r 8) (wL q r 9) (wL q r 10) (wL q r 11) (wL q r 12) (wL q r 13) (wL q r 14) (wL q r 15)
def NI (x y:RS):Bool:=RS.rec (fun r _=>RS.rec (fun r' _=>A2.le r r') (fun _ _ _=>false) (fun _ _ _=>false) (fun _ _=>false) (fun _=>false) (fun _ _ _=>false) y) (fun _ _ _=>false) (fun _ _ _=>false) (fun _ _=>false) (fun _=>false) (fun _ _ _=>false) x
def vZ (b:Hp) (x y:RS):RS:=Bool.rec (pT b (.ch 2 (fun i=>Nat.rec x (fun _ _=>y) i))) (fj b (.ch 2 (fun i=>Nat.rec x (fun _ _=>y) i))) (NI x y)
def wa (q:Nat) (l:List GI) (p:Pg) (run:gg) (r:A2) (h:Hp):RS:=RS.bind (gI p run l (sB q r) h) (fun r h=>.nm (yo q r) h) (fun i r h=>.ex i r h) (fun l r h=>.go l r h)
def sW (c:AC):Ex:=AC.rec (motive:=fun _=>Ex) (fun _ _ r h=>.nm r h) (fun l p run r h=>gI p run l r h) (fun l p run r h=>sV p run l r h h .nil) (fun a b _ _=>fun _ run r h=>zE a b run r h) (fun c a b _ _=>fun _ run r h=>PU c a b run r h) (fun i a _=>fun _ run r h=>qk i a run r h) (fun a _=>fun _ run r h=>vX a run r h) (fun a _=>fun _ run r h=>xl a a run r h) (fun a c _ _=>fun _ run r h=>xl a c run r h) (fun i=>fun _ _ r h=>.ex i r h) (fun l=>fun _ _ r h=>.go l r h) (fun _=>fun _ _ r h=>.nm r h) (fun _ _ r h=>.ret r h) (fun a _=>fun _ run r h=>PV a run r h) (fun n=>fun _ _ _ _=>.err n) (fun f x _=>fun p run r h=>f (aj p run) (aL p run) (fun r h=>run x r h) r h) (fun a b _ _=>fun _ run r h=>vZ h (run a r (mark h)) (run b r (mark h))) (fun q l p run r h=>wa q l p run r h) c
def exec (p:Pg) (n:Nat):gg:=Nat.rec (fun _ _ _=>.err 300) (fun _ ih c=>sW c p ih) n
def Yc:Hp:=.mk .nil (.mk .h0 .h0 .h0 .h0) .off
def rounds (k:Nat) (f:A2→Hp→RS):A2→Hp→RS:=oL (β:=A2→Hp→RS) (fun r h=>.nm r h) (fun _ ih r h=>RS.bind (f r h) ih (fun i r h=>.ex i r h) (fun l r h=>.go l r h)) k
end
end Go.Am
