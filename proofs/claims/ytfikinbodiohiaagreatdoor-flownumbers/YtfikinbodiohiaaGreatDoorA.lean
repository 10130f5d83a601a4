/- The abstract machine: its states, its operations, its run. Nothing is asked. -/
import GoSem.Core.Value
import GoSem.Core.Ast
import GoSem.Core.Float
import GoSem.Op.IntArith
import GoSem.Conv.StringToRunes
import GoSem.Core.Utf8
set_option linter.all false
namespace Go.Am
noncomputable section
inductive H where
 | h0|h1|h2|h3|h4|h5|h6|h7|h8|h9|ha|hb|hc|hd|he|hf
def H.succ (d:H):H:=H.rec H.h1 H.h2 H.h3 H.h4 H.h5 H.h6 H.h7 H.h8 H.h9 H.ha H.hb H.hc H.hd H.he H.hf H.h0 d
def H.last (d:H):Bool:=H.rec false false false false false false false false false false false false false false false true d
def H.nat (d:H):Nat:=H.rec 0 1 2 3 4 5 6 7 8 9 10 11 12 13 14 15 d
def bR (n:Nat):H:=(Nat.rec H.h0 (fun n1 _=>(Nat.rec H.h1 (fun n2 _=>(Nat.rec H.h2 (fun n3 _=>(Nat.rec H.h3 (fun n4 _=>(Nat.rec H.h4 (fun n5 _=>(Nat.rec H.h5 (fun n6 _=>(Nat.rec H.h6 (fun n7 _=>(Nat.rec H.h7 (fun n8 _=>(Nat.rec H.h8 (fun n9 _=>(Nat.rec H.h9 (fun n10 _=>(Nat.rec H.ha (fun n11 _=>(Nat.rec H.hb (fun n12 _=>(Nat.rec H.hc (fun n13 _=>(Nat.rec H.hd (fun n14 _=>(Nat.rec H.he (fun n15 _=>H.hf) n14)) n13)) n12)) n11)) n10)) n9)) n8)) n7)) n6)) n5)) n4)) n3)) n2)) n1)) n)
def bQ {α β:Type} (n:β) (c:α→List α→β→β) (l:List α):β:=List.rec n c l
inductive P4 where
 | mk (a b c d:H)
inductive AV where
 | undef
 | bool (b:Bool)
 | int (k:IntKind) (n:Int)
 | str (l:List Nat)
 | fi (k:FloatKind) (n:Nat)
 | aj (k:FloatKind) (re im:Nat)
 | ptr (i:P4) (off:Nat)
 | di
 | slice (i:P4) (off len cap:Nat)
 | fX (i:P4) (off len es:Nat)
 | ai
 | map (i:P4)
 | gg
 | fn (f:Nat) (cs:List AV)
 | qi
 | iface (t:Nat) (v:AV)
 | sj
 | agg (cs:List AV)
 | bU (vs:List AV)
 | sym (i:P4)
inductive KV where
 | mk (k v:AV) (born:Nat)
inductive A1 where
 | nil
 | mk (a0 a1 a2 a3 a4 a5 a6 a7 a8 a9 aa ab ac ad ae af:AV)
def A1.g0 (x:A1):AV:=A1.rec .undef (fun a0 a1 a2 a3 a4 a5 a6 a7 a8 a9 aa ab ac ad ae af=>a0) x
def A1.g1 (x:A1):AV:=A1.rec .undef (fun a0 a1 a2 a3 a4 a5 a6 a7 a8 a9 aa ab ac ad ae af=>a1) x
def A1.g2 (x:A1):AV:=A1.rec .undef (fun a0 a1 a2 a3 a4 a5 a6 a7 a8 a9 aa ab ac ad ae af=>a2) x
def A1.g3 (x:A1):AV:=A1.rec .undef (fun a0 a1 a2 a3 a4 a5 a6 a7 a8 a9 aa ab ac ad ae af=>a3) x
def A1.g4 (x:A1):AV:=A1.rec .undef (fun a0 a1 a2 a3 a4 a5 a6 a7 a8 a9 aa ab ac ad ae af=>a4) x
def A1.g5 (x:A1):AV:=A1.rec .undef (fun a0 a1 a2 a3 a4 a5 a6 a7 a8 a9 aa ab ac ad ae af=>a5) x
def A1.g6 (x:A1):AV:=A1.rec .undef (fun a0 a1 a2 a3 a4 a5 a6 a7 a8 a9 aa ab ac ad ae af=>a6) x
def A1.g7 (x:A1):AV:=A1.rec .undef (fun a0 a1 a2 a3 a4 a5 a6 a7 a8 a9 aa ab ac ad ae af=>a7) x
def A1.g8 (x:A1):AV:=A1.rec .undef (fun a0 a1 a2 a3 a4 a5 a6 a7 a8 a9 aa ab ac ad ae af=>a8) x
def A1.g9 (x:A1):AV:=A1.rec .undef (fun a0 a1 a2 a3 a4 a5 a6 a7 a8 a9 aa ab ac ad ae af=>a9) x
def A1.ga (x:A1):AV:=A1.rec .undef (fun a0 a1 a2 a3 a4 a5 a6 a7 a8 a9 aa ab ac ad ae af=>aa) x
def A1.gb (x:A1):AV:=A1.rec .undef (fun a0 a1 a2 a3 a4 a5 a6 a7 a8 a9 aa ab ac ad ae af=>ab) x
def A1.gc (x:A1):AV:=A1.rec .undef (fun a0 a1 a2 a3 a4 a5 a6 a7 a8 a9 aa ab ac ad ae af=>ac) x
def A1.gd (x:A1):AV:=A1.rec .undef (fun a0 a1 a2 a3 a4 a5 a6 a7 a8 a9 aa ab ac ad ae af=>ad) x
def A1.ge (x:A1):AV:=A1.rec .undef (fun a0 a1 a2 a3 a4 a5 a6 a7 a8 a9 aa ab ac ad ae af=>ae) x
def A1.gf (x:A1):AV:=A1.rec .undef (fun a0 a1 a2 a3 a4 a5 a6 a7 a8 a9 aa ab ac ad ae af=>af) x
def A1.get (d:H):A1→AV:=H.rec (motive:=fun _=>A1→AV) A1.g0 A1.g1 A1.g2 A1.g3 A1.g4 A1.g5 A1.g6 A1.g7 A1.g8 A1.g9 A1.ga A1.gb A1.gc A1.gd A1.ge A1.gf d
def A1.s0 (v:AV) (x:A1):A1:=A1.rec (motive:=fun _=>AV→A1) (fun v=>.mk v .undef .undef .undef .undef .undef .undef .undef .undef .undef .undef .undef .undef .undef .undef .undef) (fun a0 a1 a2 a3 a4 a5 a6 a7 a8 a9 aa ab ac ad ae af=>fun v=>.mk v a1 a2 a3 a4 a5 a6 a7 a8 a9 aa ab ac ad ae af) x v
def A1.s1 (v:AV) (x:A1):A1:=A1.rec (motive:=fun _=>AV→A1) (fun v=>.mk .undef v .undef .undef .undef .undef .undef .undef .undef .undef .undef .undef .undef .undef .undef .undef) (fun a0 a1 a2 a3 a4 a5 a6 a7 a8 a9 aa ab ac ad ae af=>fun v=>.mk a0 v a2 a3 a4 a5 a6 a7 a8 a9 aa ab ac ad ae af) x v
def A1.s2 (v:AV) (x:A1):A1:=A1.rec (motive:=fun _=>AV→A1) (fun v=>.mk .undef .undef v .undef .undef .undef .undef .undef .undef .undef .undef .undef .undef .undef .undef .undef) (fun a0 a1 a2 a3 a4 a5 a6 a7 a8 a9 aa ab ac ad ae af=>fun v=>.mk a0 a1 v a3 a4 a5 a6 a7 a8 a9 aa ab ac ad ae af) x v
def A1.s3 (v:AV) (x:A1):A1:=A1.rec (motive:=fun _=>AV→A1) (fun v=>.mk .undef .undef .undef v .undef .undef .undef .undef .undef .undef .undef .undef .undef .undef .undef .undef) (fun a0 a1 a2 a3 a4 a5 a6 a7 a8 a9 aa ab ac ad ae af=>fun v=>.mk a0 a1 a2 v a4 a5 a6 a7 a8 a9 aa ab ac ad ae af) x v
def A1.s4 (v:AV) (x:A1):A1:=A1.rec (motive:=fun _=>AV→A1) (fun v=>.mk .undef .undef .undef .undef v .undef .undef .undef .undef .undef .undef .undef .undef .undef .undef .undef) (fun a0 a1 a2 a3 a4 a5 a6 a7 a8 a9 aa ab ac ad ae af=>fun v=>.mk a0 a1 a2 a3 v a5 a6 a7 a8 a9 aa ab ac ad ae af) x v
def A1.s5 (v:AV) (x:A1):A1:=A1.rec (motive:=fun _=>AV→A1) (fun v=>.mk .undef .undef .undef .undef .undef v .undef .undef .undef .undef .undef .undef .undef .undef .undef .undef) (fun a0 a1 a2 a3 a4 a5 a6 a7 a8 a9 aa ab ac ad ae af=>fun v=>.mk a0 a1 a2 a3 a4 v a6 a7 a8 a9 aa ab ac ad ae af) x v
def A1.s6 (v:AV) (x:A1):A1:=A1.rec (motive:=fun _=>AV→A1) (fun v=>.mk .undef .undef .undef .undef .undef .undef v .undef .undef .undef .undef .undef .undef .undef .undef .undef) (fun a0 a1 a2 a3 a4 a5 a6 a7 a8 a9 aa ab ac ad ae af=>fun v=>.mk a0 a1 a2 a3 a4 a5 v a7 a8 a9 aa ab ac ad ae af) x v
def A1.s7 (v:AV) (x:A1):A1:=A1.rec (motive:=fun _=>AV→A1) (fun v=>.mk .undef .undef .undef .undef .undef .undef .undef v .undef .undef .undef .undef .undef .undef .undef .undef) (fun a0 a1 a2 a3 a4 a5 a6 a7 a8 a9 aa ab ac ad ae af=>fun v=>.mk a0 a1 a2 a3 a4 a5 a6 v a8 a9 aa ab ac ad ae af) x v
def A1.s8 (v:AV) (x:A1):A1:=A1.rec (motive:=fun _=>AV→A1) (fun v=>.mk .undef .undef .undef .undef .undef .undef .undef .undef v .undef .undef .undef .undef .undef .undef .undef) (fun a0 a1 a2 a3 a4 a5 a6 a7 a8 a9 aa ab ac ad ae af=>fun v=>.mk a0 a1 a2 a3 a4 a5 a6 a7 v a9 aa ab ac ad ae af) x v
def A1.s9 (v:AV) (x:A1):A1:=A1.rec (motive:=fun _=>AV→A1) (fun v=>.mk .undef .undef .undef .undef .undef .undef .undef .undef .undef v .undef .undef .undef .undef .undef .undef) (fun a0 a1 a2 a3 a4 a5 a6 a7 a8 a9 aa ab ac ad ae af=>fun v=>.mk a0 a1 a2 a3 a4 a5 a6 a7 a8 v aa ab ac ad ae af) x v
def A1.sa (v:AV) (x:A1):A1:=A1.rec (motive:=fun _=>AV→A1) (fun v=>.mk .undef .undef .undef .undef .undef .undef .undef .undef .undef .undef v .undef .undef .undef .undef .undef) (fun a0 a1 a2 a3 a4 a5 a6 a7 a8 a9 aa ab ac ad ae af=>fun v=>.mk a0 a1 a2 a3 a4 a5 a6 a7 a8 a9 v ab ac ad ae af) x v
def A1.sb (v:AV) (x:A1):A1:=A1.rec (motive:=fun _=>AV→A1) (fun v=>.mk .undef .undef .undef .undef .undef .undef .undef .undef .undef .undef .undef v .undef .undef .undef .undef) (fun a0 a1 a2 a3 a4 a5 a6 a7 a8 a9 aa ab ac ad ae af=>fun v=>.mk a0 a1 a2 a3 a4 a5 a6 a7 a8 a9 aa v ac ad ae af) x v
def A1.sc (v:AV) (x:A1):A1:=A1.rec (motive:=fun _=>AV→A1) (fun v=>.mk .undef .undef .undef .undef .undef .undef .undef .undef .undef .undef .undef .undef v .undef .undef .undef) (fun a0 a1 a2 a3 a4 a5 a6 a7 a8 a9 aa ab ac ad ae af=>fun v=>.mk a0 a1 a2 a3 a4 a5 a6 a7 a8 a9 aa ab v ad ae af) x v
def A1.sd (v:AV) (x:A1):A1:=A1.rec (motive:=fun _=>AV→A1) (fun v=>.mk .undef .undef .undef .undef .undef .undef .undef .undef .undef .undef .undef .undef .undef v .undef .undef) (fun a0 a1 a2 a3 a4 a5 a6 a7 a8 a9 aa ab ac ad ae af=>fun v=>.mk a0 a1 a2 a3 a4 a5 a6 a7 a8 a9 aa ab ac v ae af) x v
def A1.se (v:AV) (x:A1):A1:=A1.rec (motive:=fun _=>AV→A1) (fun v=>.mk .undef .undef .undef .undef .undef .undef .undef .undef .undef .undef .undef .undef .undef .undef v .undef) (fun a0 a1 a2 a3 a4 a5 a6 a7 a8 a9 aa ab ac ad ae af=>fun v=>.mk a0 a1 a2 a3 a4 a5 a6 a7 a8 a9 aa ab ac ad v af) x v
def A1.sf (v:AV) (x:A1):A1:=A1.rec (motive:=fun _=>AV→A1) (fun v=>.mk .undef .undef .undef .undef .undef .undef .undef .undef .undef .undef .undef .undef .undef .undef .undef v) (fun a0 a1 a2 a3 a4 a5 a6 a7 a8 a9 aa ab ac ad ae af=>fun v=>.mk a0 a1 a2 a3 a4 a5 a6 a7 a8 a9 aa ab ac ad ae v) x v
def A1.set (d:H):AV→A1→A1:=H.rec (motive:=fun _=>AV→A1→A1) A1.s0 A1.s1 A1.s2 A1.s3 A1.s4 A1.s5 A1.s6 A1.s7 A1.s8 A1.s9 A1.sa A1.sb A1.sc A1.sd A1.se A1.sf d
inductive A2 where
 | nil
 | mk (a0 a1 a2 a3 a4 a5 a6 a7 a8 a9 aa ab ac ad ae af:A1)
def A2.g0 (x:A2):A1:=A2.rec .nil (fun a0 a1 a2 a3 a4 a5 a6 a7 a8 a9 aa ab ac ad ae af=>a0) x
def A2.g1 (x:A2):A1:=A2.rec .nil (fun a0 a1 a2 a3 a4 a5 a6 a7 a8 a9 aa ab ac ad ae af=>a1) x
def A2.g2 (x:A2):A1:=A2.rec .nil (fun a0 a1 a2 a3 a4 a5 a6 a7 a8 a9 aa ab ac ad ae af=>a2) x
def A2.g3 (x:A2):A1:=A2.rec .nil (fun a0 a1 a2 a3 a4 a5 a6 a7 a8 a9 aa ab ac ad ae af=>a3) x
def A2.g4 (x:A2):A1:=A2.rec .nil (fun a0 a1 a2 a3 a4 a5 a6 a7 a8 a9 aa ab ac ad ae af=>a4) x
def A2.g5 (x:A2):A1:=A2.rec .nil (fun a0 a1 a2 a3 a4 a5 a6 a7 a8 a9 aa ab ac ad ae af=>a5) x
def A2.g6 (x:A2):A1:=A2.rec .nil (fun a0 a1 a2 a3 a4 a5 a6 a7 a8 a9 aa ab ac ad ae af=>a6) x
def A2.g7 (x:A2):A1:=A2.rec .nil (fun a0 a1 a2 a3 a4 a5 a6 a7 a8 a9 aa ab ac ad ae af=>a7) x
def A2.g8 (x:A2):A1:=A2.rec .nil (fun a0 a1 a2 a3 a4 a5 a6 a7 a8 a9 aa ab ac ad ae af=>a8) x
def A2.g9 (x:A2):A1:=A2.rec .nil (fun a0 a1 a2 a3 a4 a5 a6 a7 a8 a9 aa ab ac ad ae af=>a9) x
def A2.ga (x:A2):A1:=A2.rec .nil (fun a0 a1 a2 a3 a4 a5 a6 a7 a8 a9 aa ab ac ad ae af=>aa) x
def A2.gb (x:A2):A1:=A2.rec .nil (fun a0 a1 a2 a3 a4 a5 a6 a7 a8 a9 aa ab ac ad ae af=>ab) x
def A2.gc (x:A2):A1:=A2.rec .nil (fun a0 a1 a2 a3 a4 a5 a6 a7 a8 a9 aa ab ac ad ae af=>ac) x
def A2.gd (x:A2):A1:=A2.rec .nil (fun a0 a1 a2 a3 a4 a5 a6 a7 a8 a9 aa ab ac ad ae af=>ad) x
def A2.ge (x:A2):A1:=A2.rec .nil (fun a0 a1 a2 a3 a4 a5 a6 a7 a8 a9 aa ab ac ad ae af=>ae) x
def A2.gf (x:A2):A1:=A2.rec .nil (fun a0 a1 a2 a3 a4 a5 a6 a7 a8 a9 aa ab ac ad ae af=>af) x
def A2.get (d:H):A2→A1:=H.rec (motive:=fun _=>A2→A1) A2.g0 A2.g1 A2.g2 A2.g3 A2.g4 A2.g5 A2.g6 A2.g7 A2.g8 A2.g9 A2.ga A2.gb A2.gc A2.gd A2.ge A2.gf d
def A2.s0 (v:A1) (x:A2):A2:=A2.rec (motive:=fun _=>A1→A2) (fun v=>.mk v .nil .nil .nil .nil .nil .nil .nil .nil .nil .nil .nil .nil .nil .nil .nil) (fun a0 a1 a2 a3 a4 a5 a6 a7 a8 a9 aa ab ac ad ae af=>fun v=>.mk v a1 a2 a3 a4 a5 a6 a7 a8 a9 aa ab ac ad ae af) x v
def A2.s1 (v:A1) (x:A2):A2:=A2.rec (motive:=fun _=>A1→A2) (fun v=>.mk .nil v .nil .nil .nil .nil .nil .nil .nil .nil .nil .nil .nil .nil .nil .nil) (fun a0 a1 a2 a3 a4 a5 a6 a7 a8 a9 aa ab ac ad ae af=>fun v=>.mk a0 v a2 a3 a4 a5 a6 a7 a8 a9 aa ab ac ad ae af) x v
def A2.s2 (v:A1) (x:A2):A2:=A2.rec (motive:=fun _=>A1→A2) (fun v=>.mk .nil .nil v .nil .nil .nil .nil .nil .nil .nil .nil .nil .nil .nil .nil .nil) (fun a0 a1 a2 a3 a4 a5 a6 a7 a8 a9 aa ab ac ad ae af=>fun v=>.mk a0 a1 v a3 a4 a5 a6 a7 a8 a9 aa ab ac ad ae af) x v
def A2.s3 (v:A1) (x:A2):A2:=A2.rec (motive:=fun _=>A1→A2) (fun v=>.mk .nil .nil .nil v .nil .nil .nil .nil .nil .nil .nil .nil .nil .nil .nil .nil) (fun a0 a1 a2 a3 a4 a5 a6 a7 a8 a9 aa ab ac ad ae af=>fun v=>.mk a0 a1 a2 v a4 a5 a6 a7 a8 a9 aa ab ac ad ae af) x v
def A2.s4 (v:A1) (x:A2):A2:=A2.rec (motive:=fun _=>A1→A2) (fun v=>.mk .nil .nil .nil .nil v .nil .nil .nil .nil .nil .nil .nil .nil .nil .nil .nil) (fun a0 a1 a2 a3 a4 a5 a6 a7 a8 a9 aa ab ac ad ae af=>fun v=>.mk a0 a1 a2 a3 v a5 a6 a7 a8 a9 aa ab ac ad ae af) x v
def A2.s5 (v:A1) (x:A2):A2:=A2.rec (motive:=fun _=>A1→A2) (fun v=>.mk .nil .nil .nil .nil .nil v .nil .nil .nil .nil .nil .nil .nil .nil .nil .nil) (fun a0 a1 a2 a3 a4 a5 a6 a7 a8 a9 aa ab ac ad ae af=>fun v=>.mk a0 a1 a2 a3 a4 v a6 a7 a8 a9 aa ab ac ad ae af) x v
def A2.s6 (v:A1) (x:A2):A2:=A2.rec (motive:=fun _=>A1→A2) (fun v=>.mk .nil .nil .nil .nil .nil .nil v .nil .nil .nil .nil .nil .nil .nil .nil .nil) (fun a0 a1 a2 a3 a4 a5 a6 a7 a8 a9 aa ab ac ad ae af=>fun v=>.mk a0 a1 a2 a3 a4 a5 v a7 a8 a9 aa ab ac ad ae af) x v
def A2.s7 (v:A1) (x:A2):A2:=A2.rec (motive:=fun _=>A1→A2) (fun v=>.mk .nil .nil .nil .nil .nil .nil .nil v .nil .nil .nil .nil .nil .nil .nil .nil) (fun a0 a1 a2 a3 a4 a5 a6 a7 a8 a9 aa ab ac ad ae af=>fun v=>.mk a0 a1 a2 a3 a4 a5 a6 v a8 a9 aa ab ac ad ae af) x v
def A2.s8 (v:A1) (x:A2):A2:=A2.rec (motive:=fun _=>A1→A2) (fun v=>.mk .nil .nil .nil .nil .nil .nil .nil .nil v .nil .nil .nil .nil .nil .nil .nil) (fun a0 a1 a2 a3 a4 a5 a6 a7 a8 a9 aa ab ac ad ae af=>fun v=>.mk a0 a1 a2 a3 a4 a5 a6 a7 v a9 aa ab ac ad ae af) x v
def A2.s9 (v:A1) (x:A2):A2:=A2.rec (motive:=fun _=>A1→A2) (fun v=>.mk .nil .nil .nil .nil .nil .nil .nil .nil .nil v .nil .nil .nil .nil .nil .nil) (fun a0 a1 a2 a3 a4 a5 a6 a7 a8 a9 aa ab ac ad ae af=>fun v=>.mk a0 a1 a2 a3 a4 a5 a6 a7 a8 v aa ab ac ad ae af) x v
def A2.sa (v:A1) (x:A2):A2:=A2.rec (motive:=fun _=>A1→A2) (fun v=>.mk .nil .nil .nil .nil .nil .nil .nil .nil .nil .nil v .nil .nil .nil .nil .nil) (fun a0 a1 a2 a3 a4 a5 a6 a7 a8 a9 aa ab ac ad ae af=>fun v=>.mk a0 a1 a2 a3 a4 a5 a6 a7 a8 a9 v ab ac ad ae af) x v
def A2.sb (v:A1) (x:A2):A2:=A2.rec (motive:=fun _=>A1→A2) (fun v=>.mk .nil .nil .nil .nil .nil .nil .nil .nil .nil .nil .nil v .nil .nil .nil .nil) (fun a0 a1 a2 a3 a4 a5 a6 a7 a8 a9 aa ab ac ad ae af=>fun v=>.mk a0 a1 a2 a3 a4 a5 a6 a7 a8 a9 aa v ac ad ae af) x v
def A2.sc (v:A1) (x:A2):A2:=A2.rec (motive:=fun _=>A1→A2) (fun v=>.mk .nil .nil .nil .nil .nil .nil .nil .nil .nil .nil .nil .nil v .nil .nil .nil) (fun a0 a1 a2 a3 a4 a5 a6 a7 a8 a9 aa ab ac ad ae af=>fun v=>.mk a0 a1 a2 a3 a4 a5 a6 a7 a8 a9 aa ab v ad ae af) x v
def A2.sd (v:A1) (x:A2):A2:=A2.rec (motive:=fun _=>A1→A2) (fun v=>.mk .nil .nil .nil .nil .nil .nil .nil .nil .nil .nil .nil .nil .nil v .nil .nil) (fun a0 a1 a2 a3 a4 a5 a6 a7 a8 a9 aa ab ac ad ae af=>fun v=>.mk a0 a1 a2 a3 a4 a5 a6 a7 a8 a9 aa ab ac v ae af) x v
def A2.se (v:A1) (x:A2):A2:=A2.rec (motive:=fun _=>A1→A2) (fun v=>.mk .nil .nil .nil .nil .nil .nil .nil .nil .nil .nil .nil .nil .nil .nil v .nil) (fun a0 a1 a2 a3 a4 a5 a6 a7 a8 a9 aa ab ac ad ae af=>fun v=>.mk a0 a1 a2 a3 a4 a5 a6 a7 a8 a9 aa ab ac ad v af) x v
def A2.sf (v:A1) (x:A2):A2:=A2.rec (motive:=fun _=>A1→A2) (fun v=>.mk .nil .nil .nil .nil .nil .nil .nil .nil .nil .nil .nil .nil .nil .nil .nil v) (fun a0 a1 a2 a3 a4 a5 a6 a7 a8 a9 aa ab ac ad ae af=>fun v=>.mk a0 a1 a2 a3 a4 a5 a6 a7 a8 a9 aa ab ac ad ae v) x v
def A2.set (d:H):A1→A2→A2:=H.rec (motive:=fun _=>A1→A2→A2) A2.s0 A2.s1 A2.s2 A2.s3 A2.s4 A2.s5 A2.s6 A2.s7 A2.s8 A2.s9 A2.sa A2.sb A2.sc A2.sd A2.se A2.sf d
inductive A3 where
 | nil
 | mk (a0 a1 a2 a3 a4 a5 a6 a7 a8 a9 aa ab ac ad ae af:A2)
def A3.g0 (x:A3):A2:=A3.rec .nil (fun a0 a1 a2 a3 a4 a5 a6 a7 a8 a9 aa ab ac ad ae af=>a0) x
def A3.g1 (x:A3):A2:=A3.rec .nil (fun a0 a1 a2 a3 a4 a5 a6 a7 a8 a9 aa ab ac ad ae af=>a1) x
def A3.g2 (x:A3):A2:=A3.rec .nil (fun a0 a1 a2 a3 a4 a5 a6 a7 a8 a9 aa ab ac ad ae af=>a2) x
def A3.g3 (x:A3):A2:=A3.rec .nil (fun a0 a1 a2 a3 a4 a5 a6 a7 a8 a9 aa ab ac ad ae af=>a3) x
def A3.g4 (x:A3):A2:=A3.rec .nil (fun a0 a1 a2 a3 a4 a5 a6 a7 a8 a9 aa ab ac ad ae af=>a4) x
def A3.g5 (x:A3):A2:=A3.rec .nil (fun a0 a1 a2 a3 a4 a5 a6 a7 a8 a9 aa ab ac ad ae af=>a5) x
def A3.g6 (x:A3):A2:=A3.rec .nil (fun a0 a1 a2 a3 a4 a5 a6 a7 a8 a9 aa ab ac ad ae af=>a6) x
def A3.g7 (x:A3):A2:=A3.rec .nil (fun a0 a1 a2 a3 a4 a5 a6 a7 a8 a9 aa ab ac ad ae af=>a7) x
def A3.g8 (x:A3):A2:=A3.rec .nil (fun a0 a1 a2 a3 a4 a5 a6 a7 a8 a9 aa ab ac ad ae af=>a8) x
def A3.g9 (x:A3):A2:=A3.rec .nil (fun a0 a1 a2 a3 a4 a5 a6 a7 a8 a9 aa ab ac ad ae af=>a9) x
def A3.ga (x:A3):A2:=A3.rec .nil (fun a0 a1 a2 a3 a4 a5 a6 a7 a8 a9 aa ab ac ad ae af=>aa) x
def A3.gb (x:A3):A2:=A3.rec .nil (fun a0 a1 a2 a3 a4 a5 a6 a7 a8 a9 aa ab ac ad ae af=>ab) x
def A3.gc (x:A3):A2:=A3.rec .nil (fun a0 a1 a2 a3 a4 a5 a6 a7 a8 a9 aa ab ac ad ae af=>ac) x
def A3.gd (x:A3):A2:=A3.rec .nil (fun a0 a1 a2 a3 a4 a5 a6 a7 a8 a9 aa ab ac ad ae af=>ad) x
def A3.ge (x:A3):A2:=A3.rec .nil (fun a0 a1 a2 a3 a4 a5 a6 a7 a8 a9 aa ab ac ad ae af=>ae) x
def A3.gf (x:A3):A2:=A3.rec .nil (fun a0 a1 a2 a3 a4 a5 a6 a7 a8 a9 aa ab ac ad ae af=>af) x
def A3.get (d:H):A3→A2:=H.rec (motive:=fun _=>A3→A2) A3.g0 A3.g1 A3.g2 A3.g3 A3.g4 A3.g5 A3.g6 A3.g7 A3.g8 A3.g9 A3.ga A3.gb A3.gc A3.gd A3.ge A3.gf d
def A3.s0 (v:A2) (x:A3):A3:=A3.rec (motive:=fun _=>A2→A3) (fun v=>.mk v .nil .nil .nil .nil .nil .nil .nil .nil .nil .nil .nil .nil .nil .nil .nil) (fun a0 a1 a2 a3 a4 a5 a6 a7 a8 a9 aa ab ac ad ae af=>fun v=>.mk v a1 a2 a3 a4 a5 a6 a7 a8 a9 aa ab ac ad ae af) x v
def A3.s1 (v:A2) (x:A3):A3:=A3.rec (motive:=fun _=>A2→A3) (fun v=>.mk .nil v .nil .nil .nil .nil .nil .nil .nil .nil .nil .nil .nil .nil .nil .nil) (fun a0 a1 a2 a3 a4 a5 a6 a7 a8 a9 aa ab ac ad ae af=>fun v=>.mk a0 v a2 a3 a4 a5 a6 a7 a8 a9 aa ab ac ad ae af) x v
def A3.s2 (v:A2) (x:A3):A3:=A3.rec (motive:=fun _=>A2→A3) (fun v=>.mk .nil .nil v .nil .nil .nil .nil .nil .nil .nil .nil .nil .nil .nil .nil .nil) (fun a0 a1 a2 a3 a4 a5 a6 a7 a8 a9 aa ab ac ad ae af=>fun v=>.mk a0 a1 v a3 a4 a5 a6 a7 a8 a9 aa ab ac ad ae af) x v
def A3.s3 (v:A2) (x:A3):A3:=A3.rec (motive:=fun _=>A2→A3) (fun v=>.mk .nil .nil .nil v .nil .nil .nil .nil .nil .nil .nil .nil .nil .nil .nil .nil) (fun a0 a1 a2 a3 a4 a5 a6 a7 a8 a9 aa ab ac ad ae af=>fun v=>.mk a0 a1 a2 v a4 a5 a6 a7 a8 a9 aa ab ac ad ae af) x v
def A3.s4 (v:A2) (x:A3):A3:=A3.rec (motive:=fun _=>A2→A3) (fun v=>.mk .nil .nil .nil .nil v .nil .nil .nil .nil .nil .nil .nil .nil .nil .nil .nil) (fun a0 a1 a2 a3 a4 a5 a6 a7 a8 a9 aa ab ac ad ae af=>fun v=>.mk a0 a1 a2 a3 v a5 a6 a7 a8 a9 aa ab ac ad ae af) x v
def A3.s5 (v:A2) (x:A3):A3:=A3.rec (motive:=fun _=>A2→A3) (fun v=>.mk .nil .nil .nil .nil .nil v .nil .nil .nil .nil .nil .nil .nil .nil .nil .nil) (fun a0 a1 a2 a3 a4 a5 a6 a7 a8 a9 aa ab ac ad ae af=>fun v=>.mk a0 a1 a2 a3 a4 v a6 a7 a8 a9 aa ab ac ad ae af) x v
def A3.s6 (v:A2) (x:A3):A3:=A3.rec (motive:=fun _=>A2→A3) (fun v=>.mk .nil .nil .nil .nil .nil .nil v .nil .nil .nil .nil .nil .nil .nil .nil .nil) (fun a0 a1 a2 a3 a4 a5 a6 a7 a8 a9 aa ab ac ad ae af=>fun v=>.mk a0 a1 a2 a3 a4 a5 v a7 a8 a9 aa ab ac ad ae af) x v
def A3.s7 (v:A2) (x:A3):A3:=A3.rec (motive:=fun _=>A2→A3) (fun v=>.mk .nil .nil .nil .nil .nil .nil .nil v .nil .nil .nil .nil .nil .nil .nil .nil) (fun a0 a1 a2 a3 a4 a5 a6 a7 a8 a9 aa ab ac ad ae af=>fun v=>.mk a0 a1 a2 a3 a4 a5 a6 v a8 a9 aa ab ac ad ae af) x v
def A3.s8 (v:A2) (x:A3):A3:=A3.rec (motive:=fun _=>A2→A3) (fun v=>.mk .nil .nil .nil .nil .nil .nil .nil .nil v .nil .nil .nil .nil .nil .nil .nil) (fun a0 a1 a2 a3 a4 a5 a6 a7 a8 a9 aa ab ac ad ae af=>fun v=>.mk a0 a1 a2 a3 a4 a5 a6 a7 v a9 aa ab ac ad ae af) x v
def A3.s9 (v:A2) (x:A3):A3:=A3.rec (motive:=fun _=>A2→A3) (fun v=>.mk .nil .nil .nil .nil .nil .nil .nil .nil .nil v .nil .nil .nil .nil .nil .nil) (fun a0 a1 a2 a3 a4 a5 a6 a7 a8 a9 aa ab ac ad ae af=>fun v=>.mk a0 a1 a2 a3 a4 a5 a6 a7 a8 v aa ab ac ad ae af) x v
def A3.sa (v:A2) (x:A3):A3:=A3.rec (motive:=fun _=>A2→A3) (fun v=>.mk .nil .nil .nil .nil .nil .nil .nil .nil .nil .nil v .nil .nil .nil .nil .nil) (fun a0 a1 a2 a3 a4 a5 a6 a7 a8 a9 aa ab ac ad ae af=>fun v=>.mk a0 a1 a2 a3 a4 a5 a6 a7 a8 a9 v ab ac ad ae af) x v
def A3.sb (v:A2) (x:A3):A3:=A3.rec (motive:=fun _=>A2→A3) (fun v=>.mk .nil .nil .nil .nil .nil .nil .nil .nil .nil .nil .nil v .nil .nil .nil .nil) (fun a0 a1 a2 a3 a4 a5 a6 a7 a8 a9 aa ab ac ad ae af=>fun v=>.mk a0 a1 a2 a3 a4 a5 a6 a7 a8 a9 aa v ac ad ae af) x v
def A3.sc (v:A2) (x:A3):A3:=A3.rec (motive:=fun _=>A2→A3) (fun v=>.mk .nil .nil .nil .nil .nil .nil .nil .nil .nil .nil .nil .nil v .nil .nil .nil) (fun a0 a1 a2 a3 a4 a5 a6 a7 a8 a9 aa ab ac ad ae af=>fun v=>.mk a0 a1 a2 a3 a4 a5 a6 a7 a8 a9 aa ab v ad ae af) x v
def A3.sd (v:A2) (x:A3):A3:=A3.rec (motive:=fun _=>A2→A3) (fun v=>.mk .nil .nil .nil .nil .nil .nil .nil .nil .nil .nil .nil .nil .nil v .nil .nil) (fun a0 a1 a2 a3 a4 a5 a6 a7 a8 a9 aa ab ac ad ae af=>fun v=>.mk a0 a1 a2 a3 a4 a5 a6 a7 a8 a9 aa ab ac v ae af) x v
def A3.se (v:A2) (x:A3):A3:=A3.rec (motive:=fun _=>A2→A3) (fun v=>.mk .nil .nil .nil .nil .nil .nil .nil .nil .nil .nil .nil .nil .nil .nil v .nil) (fun a0 a1 a2 a3 a4 a5 a6 a7 a8 a9 aa ab ac ad ae af=>fun v=>.mk a0 a1 a2 a3 a4 a5 a6 a7 a8 a9 aa ab ac ad v af) x v
def A3.sf (v:A2) (x:A3):A3:=A3.rec (motive:=fun _=>A2→A3) (fun v=>.mk .nil .nil .nil .nil .nil .nil .nil .nil .nil .nil .nil .nil .nil .nil .nil v) (fun a0 a1 a2 a3 a4 a5 a6 a7 a8 a9 aa ab ac ad ae af=>fun v=>.mk a0 a1 a2 a3 a4 a5 a6 a7 a8 a9 aa ab ac ad ae v) x v
def A3.set (d:H):A2→A3→A3:=H.rec (motive:=fun _=>A2→A3→A3) A3.s0 A3.s1 A3.s2 A3.s3 A3.s4 A3.s5 A3.s6 A3.s7 A3.s8 A3.s9 A3.sa A3.sb A3.sc A3.sd A3.se A3.sf d
inductive A4 where
 | nil
 | mk (a0 a1 a2 a3 a4 a5 a6 a7 a8 a9 aa ab ac ad ae af:A3)
def A4.g0 (x:A4):A3:=A4.rec .nil (fun a0 a1 a2 a3 a4 a5 a6 a7 a8 a9 aa ab ac ad ae af=>a0) x
def A4.g1 (x:A4):A3:=A4.rec .nil (fun a0 a1 a2 a3 a4 a5 a6 a7 a8 a9 aa ab ac ad ae af=>a1) x
def A4.g2 (x:A4):A3:=A4.rec .nil (fun a0 a1 a2 a3 a4 a5 a6 a7 a8 a9 aa ab ac ad ae af=>a2) x
def A4.g3 (x:A4):A3:=A4.rec .nil (fun a0 a1 a2 a3 a4 a5 a6 a7 a8 a9 aa ab ac ad ae af=>a3) x
def A4.g4 (x:A4):A3:=A4.rec .nil (fun a0 a1 a2 a3 a4 a5 a6 a7 a8 a9 aa ab ac ad ae af=>a4) x
def A4.g5 (x:A4):A3:=A4.rec .nil (fun a0 a1 a2 a3 a4 a5 a6 a7 a8 a9 aa ab ac ad ae af=>a5) x
def A4.g6 (x:A4):A3:=A4.rec .nil (fun a0 a1 a2 a3 a4 a5 a6 a7 a8 a9 aa ab ac ad ae af=>a6) x
def A4.g7 (x:A4):A3:=A4.rec .nil (fun a0 a1 a2 a3 a4 a5 a6 a7 a8 a9 aa ab ac ad ae af=>a7) x
def A4.g8 (x:A4):A3:=A4.rec .nil (fun a0 a1 a2 a3 a4 a5 a6 a7 a8 a9 aa ab ac ad ae af=>a8) x
def A4.g9 (x:A4):A3:=A4.rec .nil (fun a0 a1 a2 a3 a4 a5 a6 a7 a8 a9 aa ab ac ad ae af=>a9) x
def A4.ga (x:A4):A3:=A4.rec .nil (fun a0 a1 a2 a3 a4 a5 a6 a7 a8 a9 aa ab ac ad ae af=>aa) x
def A4.gb (x:A4):A3:=A4.rec .nil (fun a0 a1 a2 a3 a4 a5 a6 a7 a8 a9 aa ab ac ad ae af=>ab) x
def A4.gc (x:A4):A3:=A4.rec .nil (fun a0 a1 a2 a3 a4 a5 a6 a7 a8 a9 aa ab ac ad ae af=>ac) x
def A4.gd (x:A4):A3:=A4.rec .nil (fun a0 a1 a2 a3 a4 a5 a6 a7 a8 a9 aa ab ac ad ae af=>ad) x
def A4.ge (x:A4):A3:=A4.rec .nil (fun a0 a1 a2 a3 a4 a5 a6 a7 a8 a9 aa ab ac ad ae af=>ae) x
def A4.gf (x:A4):A3:=A4.rec .nil (fun a0 a1 a2 a3 a4 a5 a6 a7 a8 a9 aa ab ac ad ae af=>af) x
def A4.get (d:H):A4→A3:=H.rec (motive:=fun _=>A4→A3) A4.g0 A4.g1 A4.g2 A4.g3 A4.g4 A4.g5 A4.g6 A4.g7 A4.g8 A4.g9 A4.ga A4.gb A4.gc A4.gd A4.ge A4.gf d
def A4.s0 (v:A3) (x:A4):A4:=A4.rec (motive:=fun _=>A3→A4) (fun v=>.mk v .nil .nil .nil .nil .nil .nil .nil .nil .nil .nil .nil .nil .nil .nil .nil) (fun a0 a1 a2 a3 a4 a5 a6 a7 a8 a9 aa ab ac ad ae af=>fun v=>.mk v a1 a2 a3 a4 a5 a6 a7 a8 a9 aa ab ac ad ae af) x v
def A4.s1 (v:A3) (x:A4):A4:=A4.rec (motive:=fun _=>A3→A4) (fun v=>.mk .nil v .nil .nil .nil .nil .nil .nil .nil .nil .nil .nil .nil .nil .nil .nil) (fun a0 a1 a2 a3 a4 a5 a6 a7 a8 a9 aa ab ac ad ae af=>fun v=>.mk a0 v a2 a3 a4 a5 a6 a7 a8 a9 aa ab ac ad ae af) x v
def A4.s2 (v:A3) (x:A4):A4:=A4.rec (motive:=fun _=>A3→A4) (fun v=>.mk .nil .nil v .nil .nil .nil .nil .nil .nil .nil .nil .nil .nil .nil .nil .nil) (fun a0 a1 a2 a3 a4 a5 a6 a7 a8 a9 aa ab ac ad ae af=>fun v=>.mk a0 a1 v a3 a4 a5 a6 a7 a8 a9 aa ab ac ad ae af) x v
def A4.s3 (v:A3) (x:A4):A4:=A4.rec (motive:=fun _=>A3→A4) (fun v=>.mk .nil .nil .nil v .nil .nil .nil .nil .nil .nil .nil .nil .nil .nil .nil .nil) (fun a0 a1 a2 a3 a4 a5 a6 a7 a8 a9 aa ab ac ad ae af=>fun v=>.mk a0 a1 a2 v a4 a5 a6 a7 a8 a9 aa ab ac ad ae af) x v
def A4.s4 (v:A3) (x:A4):A4:=A4.rec (motive:=fun _=>A3→A4) (fun v=>.mk .nil .nil .nil .nil v .nil .nil .nil .nil .nil .nil .nil .nil .nil .nil .nil) (fun a0 a1 a2 a3 a4 a5 a6 a7 a8 a9 aa ab ac ad ae af=>fun v=>.mk a0 a1 a2 a3 v a5 a6 a7 a8 a9 aa ab ac ad ae af) x v
def A4.s5 (v:A3) (x:A4):A4:=A4.rec (motive:=fun _=>A3→A4) (fun v=>.mk .nil .nil .nil .nil .nil v .nil .nil .nil .nil .nil .nil .nil .nil .nil .nil) (fun a0 a1 a2 a3 a4 a5 a6 a7 a8 a9 aa ab ac ad ae af=>fun v=>.mk a0 a1 a2 a3 a4 v a6 a7 a8 a9 aa ab ac ad ae af) x v
def A4.s6 (v:A3) (x:A4):A4:=A4.rec (motive:=fun _=>A3→A4) (fun v=>.mk .nil .nil .nil .nil .nil .nil v .nil .nil .nil .nil .nil .nil .nil .nil .nil) (fun a0 a1 a2 a3 a4 a5 a6 a7 a8 a9 aa ab ac ad ae af=>fun v=>.mk a0 a1 a2 a3 a4 a5 v a7 a8 a9 aa ab ac ad ae af) x v
def A4.s7 (v:A3) (x:A4):A4:=A4.rec (motive:=fun _=>A3→A4) (fun v=>.mk .nil .nil .nil .nil .nil .nil .nil v .nil .nil .nil .nil .nil .nil .nil .nil) (fun a0 a1 a2 a3 a4 a5 a6 a7 a8 a9 aa ab ac ad ae af=>fun v=>.mk a0 a1 a2 a3 a4 a5 a6 v a8 a9 aa ab ac ad ae af) x v
def A4.s8 (v:A3) (x:A4):A4:=A4.rec (motive:=fun _=>A3→A4) (fun v=>.mk .nil .nil .nil .nil .nil .nil .nil .nil v .nil .nil .nil .nil .nil .nil .nil) (fun a0 a1 a2 a3 a4 a5 a6 a7 a8 a9 aa ab ac ad ae af=>fun v=>.mk a0 a1 a2 a3 a4 a5 a6 a7 v a9 aa ab ac ad ae af) x v
def A4.s9 (v:A3) (x:A4):A4:=A4.rec (motive:=fun _=>A3→A4) (fun v=>.mk .nil .nil .nil .nil .nil .nil .nil .nil .nil v .nil .nil .nil .nil .nil .nil) (fun a0 a1 a2 a3 a4 a5 a6 a7 a8 a9 aa ab ac ad ae af=>fun v=>.mk a0 a1 a2 a3 a4 a5 a6 a7 a8 v aa ab ac ad ae af) x v
def A4.sa (v:A3) (x:A4):A4:=A4.rec (motive:=fun _=>A3→A4) (fun v=>.mk .nil .nil .nil .nil .nil .nil .nil .nil .nil .nil v .nil .nil .nil .nil .nil) (fun a0 a1 a2 a3 a4 a5 a6 a7 a8 a9 aa ab ac ad ae af=>fun v=>.mk a0 a1 a2 a3 a4 a5 a6 a7 a8 a9 v ab ac ad ae af) x v
def A4.sb (v:A3) (x:A4):A4:=A4.rec (motive:=fun _=>A3→A4) (fun v=>.mk .nil .nil .nil .nil .nil .nil .nil .nil .nil .nil .nil v .nil .nil .nil .nil) (fun a0 a1 a2 a3 a4 a5 a6 a7 a8 a9 aa ab ac ad ae af=>fun v=>.mk a0 a1 a2 a3 a4 a5 a6 a7 a8 a9 aa v ac ad ae af) x v
def A4.sc (v:A3) (x:A4):A4:=A4.rec (motive:=fun _=>A3→A4) (fun v=>.mk .nil .nil .nil .nil .nil .nil .nil .nil .nil .nil .nil .nil v .nil .nil .nil) (fun a0 a1 a2 a3 a4 a5 a6 a7 a8 a9 aa ab ac ad ae af=>fun v=>.mk a0 a1 a2 a3 a4 a5 a6 a7 a8 a9 aa ab v ad ae af) x v
def A4.sd (v:A3) (x:A4):A4:=A4.rec (motive:=fun _=>A3→A4) (fun v=>.mk .nil .nil .nil .nil .nil .nil .nil .nil .nil .nil .nil .nil .nil v .nil .nil) (fun a0 a1 a2 a3 a4 a5 a6 a7 a8 a9 aa ab ac ad ae af=>fun v=>.mk a0 a1 a2 a3 a4 a5 a6 a7 a8 a9 aa ab ac v ae af) x v
def A4.se (v:A3) (x:A4):A4:=A4.rec (motive:=fun _=>A3→A4) (fun v=>.mk .nil .nil .nil .nil .nil .nil .nil .nil .nil .nil .nil .nil .nil .nil v .nil) (fun a0 a1 a2 a3 a4 a5 a6 a7 a8 a9 aa ab ac ad ae af=>fun v=>.mk a0 a1 a2 a3 a4 a5 a6 a7 a8 a9 aa ab ac ad v af) x v
def A4.sf (v:A3) (x:A4):A4:=A4.rec (motive:=fun _=>A3→A4) (fun v=>.mk .nil .nil .nil .nil .nil .nil .nil .nil .nil .nil .nil .nil .nil .nil .nil v) (fun a0 a1 a2 a3 a4 a5 a6 a7 a8 a9 aa ab ac ad ae af=>fun v=>.mk a0 a1 a2 a3 a4 a5 a6 a7 a8 a9 aa ab ac ad ae v) x v
def A4.set (d:H):A3→A4→A4:=H.rec (motive:=fun _=>A3→A4→A4) A4.s0 A4.s1 A4.s2 A4.s3 A4.s4 A4.s5 A4.s6 A4.s7 A4.s8 A4.s9 A4.sa A4.sb A4.sc A4.sd A4.se A4.sf d
inductive Cl where
 | k1 (x:A1)
 | k2 (x:A2)
 | k3 (x:A3)
 | k4 (x:A4)
inductive Fl where
 | plain
 | mark
 | wE
inductive Obj where
 | none
 | dead
 | cells (el n:Nat) (ex:Bool) (fl:Fl) (c:Cl)
 | map (l:List KV) (clock:Nat)
 | BR (s:List Nat) (pos:Nat)
 | vg (m:P4) (since:Nat) (seen:List Nat) (last:Nat)
 | BS
inductive O1 where
 | nil
 | mk (a0 a1 a2 a3 a4 a5 a6 a7 a8 a9 aa ab ac ad ae af:Obj)
def O1.g0 (x:O1):Obj:=O1.rec .none (fun a0 a1 a2 a3 a4 a5 a6 a7 a8 a9 aa ab ac ad ae af=>a0) x
def O1.g1 (x:O1):Obj:=O1.rec .none (fun a0 a1 a2 a3 a4 a5 a6 a7 a8 a9 aa ab ac ad ae af=>a1) x
def O1.g2 (x:O1):Obj:=O1.rec .none (fun a0 a1 a2 a3 a4 a5 a6 a7 a8 a9 aa ab ac ad ae af=>a2) x
def O1.g3 (x:O1):Obj:=O1.rec .none (fun a0 a1 a2 a3 a4 a5 a6 a7 a8 a9 aa ab ac ad ae af=>a3) x
def O1.g4 (x:O1):Obj:=O1.rec .none (fun a0 a1 a2 a3 a4 a5 a6 a7 a8 a9 aa ab ac ad ae af=>a4) x
def O1.g5 (x:O1):Obj:=O1.rec .none (fun a0 a1 a2 a3 a4 a5 a6 a7 a8 a9 aa ab ac ad ae af=>a5) x
def O1.g6 (x:O1):Obj:=O1.rec .none (fun a0 a1 a2 a3 a4 a5 a6 a7 a8 a9 aa ab ac ad ae af=>a6) x
def O1.g7 (x:O1):Obj:=O1.rec .none (fun a0 a1 a2 a3 a4 a5 a6 a7 a8 a9 aa ab ac ad ae af=>a7) x
def O1.g8 (x:O1):Obj:=O1.rec .none (fun a0 a1 a2 a3 a4 a5 a6 a7 a8 a9 aa ab ac ad ae af=>a8) x
def O1.g9 (x:O1):Obj:=O1.rec .none (fun a0 a1 a2 a3 a4 a5 a6 a7 a8 a9 aa ab ac ad ae af=>a9) x
def O1.ga (x:O1):Obj:=O1.rec .none (fun a0 a1 a2 a3 a4 a5 a6 a7 a8 a9 aa ab ac ad ae af=>aa) x
def O1.gb (x:O1):Obj:=O1.rec .none (fun a0 a1 a2 a3 a4 a5 a6 a7 a8 a9 aa ab ac ad ae af=>ab) x
def O1.gc (x:O1):Obj:=O1.rec .none (fun a0 a1 a2 a3 a4 a5 a6 a7 a8 a9 aa ab ac ad ae af=>ac) x
def O1.gd (x:O1):Obj:=O1.rec .none (fun a0 a1 a2 a3 a4 a5 a6 a7 a8 a9 aa ab ac ad ae af=>ad) x
def O1.ge (x:O1):Obj:=O1.rec .none (fun a0 a1 a2 a3 a4 a5 a6 a7 a8 a9 aa ab ac ad ae af=>ae) x
def O1.gf (x:O1):Obj:=O1.rec .none (fun a0 a1 a2 a3 a4 a5 a6 a7 a8 a9 aa ab ac ad ae af=>af) x
def O1.get (d:H):O1→Obj:=H.rec (motive:=fun _=>O1→Obj) O1.g0 O1.g1 O1.g2 O1.g3 O1.g4 O1.g5 O1.g6 O1.g7 O1.g8 O1.g9 O1.ga O1.gb O1.gc O1.gd O1.ge O1.gf d
def O1.s0 (v:Obj) (x:O1):O1:=O1.rec (motive:=fun _=>Obj→O1) (fun v=>.mk v .none .none .none .none .none .none .none .none .none .none .none .none .none .none .none) (fun a0 a1 a2 a3 a4 a5 a6 a7 a8 a9 aa ab ac ad ae af=>fun v=>.mk v a1 a2 a3 a4 a5 a6 a7 a8 a9 aa ab ac ad ae af) x v
def O1.s1 (v:Obj) (x:O1):O1:=O1.rec (motive:=fun _=>Obj→O1) (fun v=>.mk .none v .none .none .none .none .none .none .none .none .none .none .none .none .none .none) (fun a0 a1 a2 a3 a4 a5 a6 a7 a8 a9 aa ab ac ad ae af=>fun v=>.mk a0 v a2 a3 a4 a5 a6 a7 a8 a9 aa ab ac ad ae af) x v
def O1.s2 (v:Obj) (x:O1):O1:=O1.rec (motive:=fun _=>Obj→O1) (fun v=>.mk .none .none v .none .none .none .none .none .none .none .none .none .none .none .none .none) (fun a0 a1 a2 a3 a4 a5 a6 a7 a8 a9 aa ab ac ad ae af=>fun v=>.mk a0 a1 v a3 a4 a5 a6 a7 a8 a9 aa ab ac ad ae af) x v
def O1.s3 (v:Obj) (x:O1):O1:=O1.rec (motive:=fun _=>Obj→O1) (fun v=>.mk .none .none .none v .none .none .none .none .none .none .none .none .none .none .none .none) (fun a0 a1 a2 a3 a4 a5 a6 a7 a8 a9 aa ab ac ad ae af=>fun v=>.mk a0 a1 a2 v a4 a5 a6 a7 a8 a9 aa ab ac ad ae af) x v
def O1.s4 (v:Obj) (x:O1):O1:=O1.rec (motive:=fun _=>Obj→O1) (fun v=>.mk .none .none .none .none v .none .none .none .none .none .none .none .none .none .none .none) (fun a0 a1 a2 a3 a4 a5 a6 a7 a8 a9 aa ab ac ad ae af=>fun v=>.mk a0 a1 a2 a3 v a5 a6 a7 a8 a9 aa ab ac ad ae af) x v
def O1.s5 (v:Obj) (x:O1):O1:=O1.rec (motive:=fun _=>Obj→O1) (fun v=>.mk .none .none .none .none .none v .none .none .none .none .none .none .none .none .none .none) (fun a0 a1 a2 a3 a4 a5 a6 a7 a8 a9 aa ab ac ad ae af=>fun v=>.mk a0 a1 a2 a3 a4 v a6 a7 a8 a9 aa ab ac ad ae af) x v
def O1.s6 (v:Obj) (x:O1):O1:=O1.rec (motive:=fun _=>Obj→O1) (fun v=>.mk .none .none .none .none .none .none v .none .none .none .none .none .none .none .none .none) (fun a0 a1 a2 a3 a4 a5 a6 a7 a8 a9 aa ab ac ad ae af=>fun v=>.mk a0 a1 a2 a3 a4 a5 v a7 a8 a9 aa ab ac ad ae af) x v
def O1.s7 (v:Obj) (x:O1):O1:=O1.rec (motive:=fun _=>Obj→O1) (fun v=>.mk .none .none .none .none .none .none .none v .none .none .none .none .none .none .none .none) (fun a0 a1 a2 a3 a4 a5 a6 a7 a8 a9 aa ab ac ad ae af=>fun v=>.mk a0 a1 a2 a3 a4 a5 a6 v a8 a9 aa ab ac ad ae af) x v
def O1.s8 (v:Obj) (x:O1):O1:=O1.rec (motive:=fun _=>Obj→O1) (fun v=>.mk .none .none .none .none .none .none .none .none v .none .none .none .none .none .none .none) (fun a0 a1 a2 a3 a4 a5 a6 a7 a8 a9 aa ab ac ad ae af=>fun v=>.mk a0 a1 a2 a3 a4 a5 a6 a7 v a9 aa ab ac ad ae af) x v
def O1.s9 (v:Obj) (x:O1):O1:=O1.rec (motive:=fun _=>Obj→O1) (fun v=>.mk .none .none .none .none .none .none .none .none .none v .none .none .none .none .none .none) (fun a0 a1 a2 a3 a4 a5 a6 a7 a8 a9 aa ab ac ad ae af=>fun v=>.mk a0 a1 a2 a3 a4 a5 a6 a7 a8 v aa ab ac ad ae af) x v
def O1.sa (v:Obj) (x:O1):O1:=O1.rec (motive:=fun _=>Obj→O1) (fun v=>.mk .none .none .none .none .none .none .none .none .none .none v .none .none .none .none .none) (fun a0 a1 a2 a3 a4 a5 a6 a7 a8 a9 aa ab ac ad ae af=>fun v=>.mk a0 a1 a2 a3 a4 a5 a6 a7 a8 a9 v ab ac ad ae af) x v
def O1.sb (v:Obj) (x:O1):O1:=O1.rec (motive:=fun _=>Obj→O1) (fun v=>.mk .none .none .none .none .none .none .none .none .none .none .none v .none .none .none .none) (fun a0 a1 a2 a3 a4 a5 a6 a7 a8 a9 aa ab ac ad ae af=>fun v=>.mk a0 a1 a2 a3 a4 a5 a6 a7 a8 a9 aa v ac ad ae af) x v
def O1.sc (v:Obj) (x:O1):O1:=O1.rec (motive:=fun _=>Obj→O1) (fun v=>.mk .none .none .none .none .none .none .none .none .none .none .none .none v .none .none .none) (fun a0 a1 a2 a3 a4 a5 a6 a7 a8 a9 aa ab ac ad ae af=>fun v=>.mk a0 a1 a2 a3 a4 a5 a6 a7 a8 a9 aa ab v ad ae af) x v
def O1.sd (v:Obj) (x:O1):O1:=O1.rec (motive:=fun _=>Obj→O1) (fun v=>.mk .none .none .none .none .none .none .none .none .none .none .none .none .none v .none .none) (fun a0 a1 a2 a3 a4 a5 a6 a7 a8 a9 aa ab ac ad ae af=>fun v=>.mk a0 a1 a2 a3 a4 a5 a6 a7 a8 a9 aa ab ac v ae af) x v
def O1.se (v:Obj) (x:O1):O1:=O1.rec (motive:=fun _=>Obj→O1) (fun v=>.mk .none .none .none .none .none .none .none .none .none .none .none .none .none .none v .none) (fun a0 a1 a2 a3 a4 a5 a6 a7 a8 a9 aa ab ac ad ae af=>fun v=>.mk a0 a1 a2 a3 a4 a5 a6 a7 a8 a9 aa ab ac ad v af) x v
def O1.sf (v:Obj) (x:O1):O1:=O1.rec (motive:=fun _=>Obj→O1) (fun v=>.mk .none .none .none .none .none .none .none .none .none .none .none .none .none .none .none v) (fun a0 a1 a2 a3 a4 a5 a6 a7 a8 a9 aa ab ac ad ae af=>fun v=>.mk a0 a1 a2 a3 a4 a5 a6 a7 a8 a9 aa ab ac ad ae v) x v
def O1.set (d:H):Obj→O1→O1:=H.rec (motive:=fun _=>Obj→O1→O1) O1.s0 O1.s1 O1.s2 O1.s3 O1.s4 O1.s5 O1.s6 O1.s7 O1.s8 O1.s9 O1.sa O1.sb O1.sc O1.sd O1.se O1.sf d
inductive O2 where
 | nil
 | mk (a0 a1 a2 a3 a4 a5 a6 a7 a8 a9 aa ab ac ad ae af:O1)
def O2.g0 (x:O2):O1:=O2.rec .nil (fun a0 a1 a2 a3 a4 a5 a6 a7 a8 a9 aa ab ac ad ae af=>a0) x
def O2.g1 (x:O2):O1:=O2.rec .nil (fun a0 a1 a2 a3 a4 a5 a6 a7 a8 a9 aa ab ac ad ae af=>a1) x
def O2.g2 (x:O2):O1:=O2.rec .nil (fun a0 a1 a2 a3 a4 a5 a6 a7 a8 a9 aa ab ac ad ae af=>a2) x
def O2.g3 (x:O2):O1:=O2.rec .nil (fun a0 a1 a2 a3 a4 a5 a6 a7 a8 a9 aa ab ac ad ae af=>a3) x
def O2.g4 (x:O2):O1:=O2.rec .nil (fun a0 a1 a2 a3 a4 a5 a6 a7 a8 a9 aa ab ac ad ae af=>a4) x
def O2.g5 (x:O2):O1:=O2.rec .nil (fun a0 a1 a2 a3 a4 a5 a6 a7 a8 a9 aa ab ac ad ae af=>a5) x
def O2.g6 (x:O2):O1:=O2.rec .nil (fun a0 a1 a2 a3 a4 a5 a6 a7 a8 a9 aa ab ac ad ae af=>a6) x
def O2.g7 (x:O2):O1:=O2.rec .nil (fun a0 a1 a2 a3 a4 a5 a6 a7 a8 a9 aa ab ac ad ae af=>a7) x
def O2.g8 (x:O2):O1:=O2.rec .nil (fun a0 a1 a2 a3 a4 a5 a6 a7 a8 a9 aa ab ac ad ae af=>a8) x
def O2.g9 (x:O2):O1:=O2.rec .nil (fun a0 a1 a2 a3 a4 a5 a6 a7 a8 a9 aa ab ac ad ae af=>a9) x
def O2.ga (x:O2):O1:=O2.rec .nil (fun a0 a1 a2 a3 a4 a5 a6 a7 a8 a9 aa ab ac ad ae af=>aa) x
def O2.gb (x:O2):O1:=O2.rec .nil (fun a0 a1 a2 a3 a4 a5 a6 a7 a8 a9 aa ab ac ad ae af=>ab) x
def O2.gc (x:O2):O1:=O2.rec .nil (fun a0 a1 a2 a3 a4 a5 a6 a7 a8 a9 aa ab ac ad ae af=>ac) x
def O2.gd (x:O2):O1:=O2.rec .nil (fun a0 a1 a2 a3 a4 a5 a6 a7 a8 a9 aa ab ac ad ae af=>ad) x
def O2.ge (x:O2):O1:=O2.rec .nil (fun a0 a1 a2 a3 a4 a5 a6 a7 a8 a9 aa ab ac ad ae af=>ae) x
def O2.gf (x:O2):O1:=O2.rec .nil (fun a0 a1 a2 a3 a4 a5 a6 a7 a8 a9 aa ab ac ad ae af=>af) x
def O2.get (d:H):O2→O1:=H.rec (motive:=fun _=>O2→O1) O2.g0 O2.g1 O2.g2 O2.g3 O2.g4 O2.g5 O2.g6 O2.g7 O2.g8 O2.g9 O2.ga O2.gb O2.gc O2.gd O2.ge O2.gf d
def O2.s0 (v:O1) (x:O2):O2:=O2.rec (motive:=fun _=>O1→O2) (fun v=>.mk v .nil .nil .nil .nil .nil .nil .nil .nil .nil .nil .nil .nil .nil .nil .nil) (fun a0 a1 a2 a3 a4 a5 a6 a7 a8 a9 aa ab ac ad ae af=>fun v=>.mk v a1 a2 a3 a4 a5 a6 a7 a8 a9 aa ab ac ad ae af) x v
def O2.s1 (v:O1) (x:O2):O2:=O2.rec (motive:=fun _=>O1→O2) (fun v=>.mk .nil v .nil .nil .nil .nil .nil .nil .nil .nil .nil .nil .nil .nil .nil .nil) (fun a0 a1 a2 a3 a4 a5 a6 a7 a8 a9 aa ab ac ad ae af=>fun v=>.mk a0 v a2 a3 a4 a5 a6 a7 a8 a9 aa ab ac ad ae af) x v
def O2.s2 (v:O1) (x:O2):O2:=O2.rec (motive:=fun _=>O1→O2) (fun v=>.mk .nil .nil v .nil .nil .nil .nil .nil .nil .nil .nil .nil .nil .nil .nil .nil) (fun a0 a1 a2 a3 a4 a5 a6 a7 a8 a9 aa ab ac ad ae af=>fun v=>.mk a0 a1 v a3 a4 a5 a6 a7 a8 a9 aa ab ac ad ae af) x v
def O2.s3 (v:O1) (x:O2):O2:=O2.rec (motive:=fun _=>O1→O2) (fun v=>.mk .nil .nil .nil v .nil .nil .nil .nil .nil .nil .nil .nil .nil .nil .nil .nil) (fun a0 a1 a2 a3 a4 a5 a6 a7 a8 a9 aa ab ac ad ae af=>fun v=>.mk a0 a1 a2 v a4 a5 a6 a7 a8 a9 aa ab ac ad ae af) x v
def O2.s4 (v:O1) (x:O2):O2:=O2.rec (motive:=fun _=>O1→O2) (fun v=>.mk .nil .nil .nil .nil v .nil .nil .nil .nil .nil .nil .nil .nil .nil .nil .nil) (fun a0 a1 a2 a3 a4 a5 a6 a7 a8 a9 aa ab ac ad ae af=>fun v=>.mk a0 a1 a2 a3 v a5 a6 a7 a8 a9 aa ab ac ad ae af) x v
def O2.s5 (v:O1) (x:O2):O2:=O2.rec (motive:=fun _=>O1→O2) (fun v=>.mk .nil .nil .nil .nil .nil v .nil .nil .nil .nil .nil .nil .nil .nil .nil .nil) (fun a0 a1 a2 a3 a4 a5 a6 a7 a8 a9 aa ab ac ad ae af=>fun v=>.mk a0 a1 a2 a3 a4 v a6 a7 a8 a9 aa ab ac ad ae af) x v
def O2.s6 (v:O1) (x:O2):O2:=O2.rec (motive:=fun _=>O1→O2) (fun v=>.mk .nil .nil .nil .nil .nil .nil v .nil .nil .nil .nil .nil .nil .nil .nil .nil) (fun a0 a1 a2 a3 a4 a5 a6 a7 a8 a9 aa ab ac ad ae af=>fun v=>.mk a0 a1 a2 a3 a4 a5 v a7 a8 a9 aa ab ac ad ae af) x v
def O2.s7 (v:O1) (x:O2):O2:=O2.rec (motive:=fun _=>O1→O2) (fun v=>.mk .nil .nil .nil .nil .nil .nil .nil v .nil .nil .nil .nil .nil .nil .nil .nil) (fun a0 a1 a2 a3 a4 a5 a6 a7 a8 a9 aa ab ac ad ae af=>fun v=>.mk a0 a1 a2 a3 a4 a5 a6 v a8 a9 aa ab ac ad ae af) x v
def O2.s8 (v:O1) (x:O2):O2:=O2.rec (motive:=fun _=>O1→O2) (fun v=>.mk .nil .nil .nil .nil .nil .nil .nil .nil v .nil .nil .nil .nil .nil .nil .nil) (fun a0 a1 a2 a3 a4 a5 a6 a7 a8 a9 aa ab ac ad ae af=>fun v=>.mk a0 a1 a2 a3 a4 a5 a6 a7 v a9 aa ab ac ad ae af) x v
def O2.s9 (v:O1) (x:O2):O2:=O2.rec (motive:=fun _=>O1→O2) (fun v=>.mk .nil .nil .nil .nil .nil .nil .nil .nil .nil v .nil .nil .nil .nil .nil .nil) (fun a0 a1 a2 a3 a4 a5 a6 a7 a8 a9 aa ab ac ad ae af=>fun v=>.mk a0 a1 a2 a3 a4 a5 a6 a7 a8 v aa ab ac ad ae af) x v
def O2.sa (v:O1) (x:O2):O2:=O2.rec (motive:=fun _=>O1→O2) (fun v=>.mk .nil .nil .nil .nil .nil .nil .nil .nil .nil .nil v .nil .nil .nil .nil .nil) (fun a0 a1 a2 a3 a4 a5 a6 a7 a8 a9 aa ab ac ad ae af=>fun v=>.mk a0 a1 a2 a3 a4 a5 a6 a7 a8 a9 v ab ac ad ae af) x v
def O2.sb (v:O1) (x:O2):O2:=O2.rec (motive:=fun _=>O1→O2) (fun v=>.mk .nil .nil .nil .nil .nil .nil .nil .nil .nil .nil .nil v .nil .nil .nil .nil) (fun a0 a1 a2 a3 a4 a5 a6 a7 a8 a9 aa ab ac ad ae af=>fun v=>.mk a0 a1 a2 a3 a4 a5 a6 a7 a8 a9 aa v ac ad ae af) x v
def O2.sc (v:O1) (x:O2):O2:=O2.rec (motive:=fun _=>O1→O2) (fun v=>.mk .nil .nil .nil .nil .nil .nil .nil .nil .nil .nil .nil .nil v .nil .nil .nil) (fun a0 a1 a2 a3 a4 a5 a6 a7 a8 a9 aa ab ac ad ae af=>fun v=>.mk a0 a1 a2 a3 a4 a5 a6 a7 a8 a9 aa ab v ad ae af) x v
def O2.sd (v:O1) (x:O2):O2:=O2.rec (motive:=fun _=>O1→O2) (fun v=>.mk .nil .nil .nil .nil .nil .nil .nil .nil .nil .nil .nil .nil .nil v .nil .nil) (fun a0 a1 a2 a3 a4 a5 a6 a7 a8 a9 aa ab ac ad ae af=>fun v=>.mk a0 a1 a2 a3 a4 a5 a6 a7 a8 a9 aa ab ac v ae af) x v
def O2.se (v:O1) (x:O2):O2:=O2.rec (motive:=fun _=>O1→O2) (fun v=>.mk .nil .nil .nil .nil .nil .nil .nil .nil .nil .nil .nil .nil .nil .nil v .nil) (fun a0 a1 a2 a3 a4 a5 a6 a7 a8 a9 aa ab ac ad ae af=>fun v=>.mk a0 a1 a2 a3 a4 a5 a6 a7 a8 a9 aa ab ac ad v af) x v
def O2.sf (v:O1) (x:O2):O2:=O2.rec (motive:=fun _=>O1→O2) (fun v=>.mk .nil .nil .nil .nil .nil .nil .nil .nil .nil .nil .nil .nil .nil .nil .nil v) (fun a0 a1 a2 a3 a4 a5 a6 a7 a8 a9 aa ab ac ad ae af=>fun v=>.mk a0 a1 a2 a3 a4 a5 a6 a7 a8 a9 aa ab ac ad ae v) x v
def O2.set (d:H):O1→O2→O2:=H.rec (motive:=fun _=>O1→O2→O2) O2.s0 O2.s1 O2.s2 O2.s3 O2.s4 O2.s5 O2.s6 O2.s7 O2.s8 O2.s9 O2.sa O2.sb O2.sc O2.sd O2.se O2.sf d
inductive O3 where
 | nil
 | mk (a0 a1 a2 a3 a4 a5 a6 a7 a8 a9 aa ab ac ad ae af:O2)
def O3.g0 (x:O3):O2:=O3.rec .nil (fun a0 a1 a2 a3 a4 a5 a6 a7 a8 a9 aa ab ac ad ae af=>a0) x
def O3.g1 (x:O3):O2:=O3.rec .nil (fun a0 a1 a2 a3 a4 a5 a6 a7 a8 a9 aa ab ac ad ae af=>a1) x
def O3.g2 (x:O3):O2:=O3.rec .nil (fun a0 a1 a2 a3 a4 a5 a6 a7 a8 a9 aa ab ac ad ae af=>a2) x
def O3.g3 (x:O3):O2:=O3.rec .nil (fun a0 a1 a2 a3 a4 a5 a6 a7 a8 a9 aa ab ac ad ae af=>a3) x
def O3.g4 (x:O3):O2:=O3.rec .nil (fun a0 a1 a2 a3 a4 a5 a6 a7 a8 a9 aa ab ac ad ae af=>a4) x
def O3.g5 (x:O3):O2:=O3.rec .nil (fun a0 a1 a2 a3 a4 a5 a6 a7 a8 a9 aa ab ac ad ae af=>a5) x
def O3.g6 (x:O3):O2:=O3.rec .nil (fun a0 a1 a2 a3 a4 a5 a6 a7 a8 a9 aa ab ac ad ae af=>a6) x
def O3.g7 (x:O3):O2:=O3.rec .nil (fun a0 a1 a2 a3 a4 a5 a6 a7 a8 a9 aa ab ac ad ae af=>a7) x
def O3.g8 (x:O3):O2:=O3.rec .nil (fun a0 a1 a2 a3 a4 a5 a6 a7 a8 a9 aa ab ac ad ae af=>a8) x
def O3.g9 (x:O3):O2:=O3.rec .nil (fun a0 a1 a2 a3 a4 a5 a6 a7 a8 a9 aa ab ac ad ae af=>a9) x
def O3.ga (x:O3):O2:=O3.rec .nil (fun a0 a1 a2 a3 a4 a5 a6 a7 a8 a9 aa ab ac ad ae af=>aa) x
def O3.gb (x:O3):O2:=O3.rec .nil (fun a0 a1 a2 a3 a4 a5 a6 a7 a8 a9 aa ab ac ad ae af=>ab) x
def O3.gc (x:O3):O2:=O3.rec .nil (fun a0 a1 a2 a3 a4 a5 a6 a7 a8 a9 aa ab ac ad ae af=>ac) x
def O3.gd (x:O3):O2:=O3.rec .nil (fun a0 a1 a2 a3 a4 a5 a6 a7 a8 a9 aa ab ac ad ae af=>ad) x
def O3.ge (x:O3):O2:=O3.rec .nil (fun a0 a1 a2 a3 a4 a5 a6 a7 a8 a9 aa ab ac ad ae af=>ae) x
def O3.gf (x:O3):O2:=O3.rec .nil (fun a0 a1 a2 a3 a4 a5 a6 a7 a8 a9 aa ab ac ad ae af=>af) x
def O3.get (d:H):O3→O2:=H.rec (motive:=fun _=>O3→O2) O3.g0 O3.g1 O3.g2 O3.g3 O3.g4 O3.g5 O3.g6 O3.g7 O3.g8 O3.g9 O3.ga O3.gb O3.gc O3.gd O3.ge O3.gf d
def O3.s0 (v:O2) (x:O3):O3:=O3.rec (motive:=fun _=>O2→O3) (fun v=>.mk v .nil .nil .nil .nil .nil .nil .nil .nil .nil .nil .nil .nil .nil .nil .nil) (fun a0 a1 a2 a3 a4 a5 a6 a7 a8 a9 aa ab ac ad ae af=>fun v=>.mk v a1 a2 a3 a4 a5 a6 a7 a8 a9 aa ab ac ad ae af) x v
def O3.s1 (v:O2) (x:O3):O3:=O3.rec (motive:=fun _=>O2→O3) (fun v=>.mk .nil v .nil .nil .nil .nil .nil .nil .nil .nil .nil .nil .nil .nil .nil .nil) (fun a0 a1 a2 a3 a4 a5 a6 a7 a8 a9 aa ab ac ad ae af=>fun v=>.mk a0 v a2 a3 a4 a5 a6 a7 a8 a9 aa ab ac ad ae af) x v
def O3.s2 (v:O2) (x:O3):O3:=O3.rec (motive:=fun _=>O2→O3) (fun v=>.mk .nil .nil v .nil .nil .nil .nil .nil .nil .nil .nil .nil .nil .nil .nil .nil) (fun a0 a1 a2 a3 a4 a5 a6 a7 a8 a9 aa ab ac ad ae af=>fun v=>.mk a0 a1 v a3 a4 a5 a6 a7 a8 a9 aa ab ac ad ae af) x v
def O3.s3 (v:O2) (x:O3):O3:=O3.rec (motive:=fun _=>O2→O3) (fun v=>.mk .nil .nil .nil v .nil .nil .nil .nil .nil .nil .nil .nil .nil .nil .nil .nil) (fun a0 a1 a2 a3 a4 a5 a6 a7 a8 a9 aa ab ac ad ae af=>fun v=>.mk a0 a1 a2 v a4 a5 a6 a7 a8 a9 aa ab ac ad ae af) x v
def O3.s4 (v:O2) (x:O3):O3:=O3.rec (motive:=fun _=>O2→O3) (fun v=>.mk .nil .nil .nil .nil v .nil .nil .nil .nil .nil .nil .nil .nil .nil .nil .nil) (fun a0 a1 a2 a3 a4 a5 a6 a7 a8 a9 aa ab ac ad ae af=>fun v=>.mk a0 a1 a2 a3 v a5 a6 a7 a8 a9 aa ab ac ad ae af) x v
def O3.s5 (v:O2) (x:O3):O3:=O3.rec (motive:=fun _=>O2→O3) (fun v=>.mk .nil .nil .nil .nil .nil v .nil .nil .nil .nil .nil .nil .nil .nil .nil .nil) (fun a0 a1 a2 a3 a4 a5 a6 a7 a8 a9 aa ab ac ad ae af=>fun v=>.mk a0 a1 a2 a3 a4 v a6 a7 a8 a9 aa ab ac ad ae af) x v
def O3.s6 (v:O2) (x:O3):O3:=O3.rec (motive:=fun _=>O2→O3) (fun v=>.mk .nil .nil .nil .nil .nil .nil v .nil .nil .nil .nil .nil .nil .nil .nil .nil) (fun a0 a1 a2 a3 a4 a5 a6 a7 a8 a9 aa ab ac ad ae af=>fun v=>.mk a0 a1 a2 a3 a4 a5 v a7 a8 a9 aa ab ac ad ae af) x v
def O3.s7 (v:O2) (x:O3):O3:=O3.rec (motive:=fun _=>O2→O3) (fun v=>.mk .nil .nil .nil .nil .nil .nil .nil v .nil .nil .nil .nil .nil .nil .nil .nil) (fun a0 a1 a2 a3 a4 a5 a6 a7 a8 a9 aa ab ac ad ae af=>fun v=>.mk a0 a1 a2 a3 a4 a5 a6 v a8 a9 aa ab ac ad ae af) x v
def O3.s8 (v:O2) (x:O3):O3:=O3.rec (motive:=fun _=>O2→O3) (fun v=>.mk .nil .nil .nil .nil .nil .nil .nil .nil v .nil .nil .nil .nil .nil .nil .nil) (fun a0 a1 a2 a3 a4 a5 a6 a7 a8 a9 aa ab ac ad ae af=>fun v=>.mk a0 a1 a2 a3 a4 a5 a6 a7 v a9 aa ab ac ad ae af) x v
def O3.s9 (v:O2) (x:O3):O3:=O3.rec (motive:=fun _=>O2→O3) (fun v=>.mk .nil .nil .nil .nil .nil .nil .nil .nil .nil v .nil .nil .nil .nil .nil .nil) (fun a0 a1 a2 a3 a4 a5 a6 a7 a8 a9 aa ab ac ad ae af=>fun v=>.mk a0 a1 a2 a3 a4 a5 a6 a7 a8 v aa ab ac ad ae af) x v
def O3.sa (v:O2) (x:O3):O3:=O3.rec (motive:=fun _=>O2→O3) (fun v=>.mk .nil .nil .nil .nil .nil .nil .nil .nil .nil .nil v .nil .nil .nil .nil .nil) (fun a0 a1 a2 a3 a4 a5 a6 a7 a8 a9 aa ab ac ad ae af=>fun v=>.mk a0 a1 a2 a3 a4 a5 a6 a7 a8 a9 v ab ac ad ae af) x v
def O3.sb (v:O2) (x:O3):O3:=O3.rec (motive:=fun _=>O2→O3) (fun v=>.mk .nil .nil .nil .nil .nil .nil .nil .nil .nil .nil .nil v .nil .nil .nil .nil) (fun a0 a1 a2 a3 a4 a5 a6 a7 a8 a9 aa ab ac ad ae af=>fun v=>.mk a0 a1 a2 a3 a4 a5 a6 a7 a8 a9 aa v ac ad ae af) x v
def O3.sc (v:O2) (x:O3):O3:=O3.rec (motive:=fun _=>O2→O3) (fun v=>.mk .nil .nil .nil .nil .nil .nil .nil .nil .nil .nil .nil .nil v .nil .nil .nil) (fun a0 a1 a2 a3 a4 a5 a6 a7 a8 a9 aa ab ac ad ae af=>fun v=>.mk a0 a1 a2 a3 a4 a5 a6 a7 a8 a9 aa ab v ad ae af) x v
def O3.sd (v:O2) (x:O3):O3:=O3.rec (motive:=fun _=>O2→O3) (fun v=>.mk .nil .nil .nil .nil .nil .nil .nil .nil .nil .nil .nil .nil .nil v .nil .nil) (fun a0 a1 a2 a3 a4 a5 a6 a7 a8 a9 aa ab ac ad ae af=>fun v=>.mk a0 a1 a2 a3 a4 a5 a6 a7 a8 a9 aa ab ac v ae af) x v
def O3.se (v:O2) (x:O3):O3:=O3.rec (motive:=fun _=>O2→O3) (fun v=>.mk .nil .nil .nil .nil .nil .nil .nil .nil .nil .nil .nil .nil .nil .nil v .nil) (fun a0 a1 a2 a3 a4 a5 a6 a7 a8 a9 aa ab ac ad ae af=>fun v=>.mk a0 a1 a2 a3 a4 a5 a6 a7 a8 a9 aa ab ac ad v af) x v
def O3.sf (v:O2) (x:O3):O3:=O3.rec (motive:=fun _=>O2→O3) (fun v=>.mk .nil .nil .nil .nil .nil .nil .nil .nil .nil .nil .nil .nil .nil .nil .nil v) (fun a0 a1 a2 a3 a4 a5 a6 a7 a8 a9 aa ab ac ad ae af=>fun v=>.mk a0 a1 a2 a3 a4 a5 a6 a7 a8 a9 aa ab ac ad ae v) x v
def O3.set (d:H):O2→O3→O3:=H.rec (motive:=fun _=>O2→O3→O3) O3.s0 O3.s1 O3.s2 O3.s3 O3.s4 O3.s5 O3.s6 O3.s7 O3.s8 O3.s9 O3.sa O3.sb O3.sc O3.sd O3.se O3.sf d
inductive O4 where
 | nil
 | mk (a0 a1 a2 a3 a4 a5 a6 a7 a8 a9 aa ab ac ad ae af:O3)
def O4.g0 (x:O4):O3:=O4.rec .nil (fun a0 a1 a2 a3 a4 a5 a6 a7 a8 a9 aa ab ac ad ae af=>a0) x
def O4.g1 (x:O4):O3:=O4.rec .nil (fun a0 a1 a2 a3 a4 a5 a6 a7 a8 a9 aa ab ac ad ae af=>a1) x
def O4.g2 (x:O4):O3:=O4.rec .nil (fun a0 a1 a2 a3 a4 a5 a6 a7 a8 a9 aa ab ac ad ae af=>a2) x
def O4.g3 (x:O4):O3:=O4.rec .nil (fun a0 a1 a2 a3 a4 a5 a6 a7 a8 a9 aa ab ac ad ae af=>a3) x
def O4.g4 (x:O4):O3:=O4.rec .nil (fun a0 a1 a2 a3 a4 a5 a6 a7 a8 a9 aa ab ac ad ae af=>a4) x
def O4.g5 (x:O4):O3:=O4.rec .nil (fun a0 a1 a2 a3 a4 a5 a6 a7 a8 a9 aa ab ac ad ae af=>a5) x
def O4.g6 (x:O4):O3:=O4.rec .nil (fun a0 a1 a2 a3 a4 a5 a6 a7 a8 a9 aa ab ac ad ae af=>a6) x
def O4.g7 (x:O4):O3:=O4.rec .nil (fun a0 a1 a2 a3 a4 a5 a6 a7 a8 a9 aa ab ac ad ae af=>a7) x
def O4.g8 (x:O4):O3:=O4.rec .nil (fun a0 a1 a2 a3 a4 a5 a6 a7 a8 a9 aa ab ac ad ae af=>a8) x
def O4.g9 (x:O4):O3:=O4.rec .nil (fun a0 a1 a2 a3 a4 a5 a6 a7 a8 a9 aa ab ac ad ae af=>a9) x
def O4.ga (x:O4):O3:=O4.rec .nil (fun a0 a1 a2 a3 a4 a5 a6 a7 a8 a9 aa ab ac ad ae af=>aa) x
def O4.gb (x:O4):O3:=O4.rec .nil (fun a0 a1 a2 a3 a4 a5 a6 a7 a8 a9 aa ab ac ad ae af=>ab) x
def O4.gc (x:O4):O3:=O4.rec .nil (fun a0 a1 a2 a3 a4 a5 a6 a7 a8 a9 aa ab ac ad ae af=>ac) x
def O4.gd (x:O4):O3:=O4.rec .nil (fun a0 a1 a2 a3 a4 a5 a6 a7 a8 a9 aa ab ac ad ae af=>ad) x
def O4.ge (x:O4):O3:=O4.rec .nil (fun a0 a1 a2 a3 a4 a5 a6 a7 a8 a9 aa ab ac ad ae af=>ae) x
def O4.gf (x:O4):O3:=O4.rec .nil (fun a0 a1 a2 a3 a4 a5 a6 a7 a8 a9 aa ab ac ad ae af=>af) x
def O4.get (d:H):O4→O3:=H.rec (motive:=fun _=>O4→O3) O4.g0 O4.g1 O4.g2 O4.g3 O4.g4 O4.g5 O4.g6 O4.g7 O4.g8 O4.g9 O4.ga O4.gb O4.gc O4.gd O4.ge O4.gf d
def O4.s0 (v:O3) (x:O4):O4:=O4.rec (motive:=fun _=>O3→O4) (fun v=>.mk v .nil .nil .nil .nil .nil .nil .nil .nil .nil .nil .nil .nil .nil .nil .nil) (fun a0 a1 a2 a3 a4 a5 a6 a7 a8 a9 aa ab ac ad ae af=>fun v=>.mk v a1 a2 a3 a4 a5 a6 a7 a8 a9 aa ab ac ad ae af) x v
def O4.s1 (v:O3) (x:O4):O4:=O4.rec (motive:=fun _=>O3→O4) (fun v=>.mk .nil v .nil .nil .nil .nil .nil .nil .nil .nil .nil .nil .nil .nil .nil .nil) (fun a0 a1 a2 a3 a4 a5 a6 a7 a8 a9 aa ab ac ad ae af=>fun v=>.mk a0 v a2 a3 a4 a5 a6 a7 a8 a9 aa ab ac ad ae af) x v
def O4.s2 (v:O3) (x:O4):O4:=O4.rec (motive:=fun _=>O3→O4) (fun v=>.mk .nil .nil v .nil .nil .nil .nil .nil .nil .nil .nil .nil .nil .nil .nil .nil) (fun a0 a1 a2 a3 a4 a5 a6 a7 a8 a9 aa ab ac ad ae af=>fun v=>.mk a0 a1 v a3 a4 a5 a6 a7 a8 a9 aa ab ac ad ae af) x v
def O4.s3 (v:O3) (x:O4):O4:=O4.rec (motive:=fun _=>O3→O4) (fun v=>.mk .nil .nil .nil v .nil .nil .nil .nil .nil .nil .nil .nil .nil .nil .nil .nil) (fun a0 a1 a2 a3 a4 a5 a6 a7 a8 a9 aa ab ac ad ae af=>fun v=>.mk a0 a1 a2 v a4 a5 a6 a7 a8 a9 aa ab ac ad ae af) x v
def O4.s4 (v:O3) (x:O4):O4:=O4.rec (motive:=fun _=>O3→O4) (fun v=>.mk .nil .nil .nil .nil v .nil .nil .nil .nil .nil .nil .nil .nil .nil .nil .nil) (fun a0 a1 a2 a3 a4 a5 a6 a7 a8 a9 aa ab ac ad ae af=>fun v=>.mk a0 a1 a2 a3 v a5 a6 a7 a8 a9 aa ab ac ad ae af) x v
def O4.s5 (v:O3) (x:O4):O4:=O4.rec (motive:=fun _=>O3→O4) (fun v=>.mk .nil .nil .nil .nil .nil v .nil .nil .nil .nil .nil .nil .nil .nil .nil .nil) (fun a0 a1 a2 a3 a4 a5 a6 a7 a8 a9 aa ab ac ad ae af=>fun v=>.mk a0 a1 a2 a3 a4 v a6 a7 a8 a9 aa ab ac ad ae af) x v
def O4.s6 (v:O3) (x:O4):O4:=O4.rec (motive:=fun _=>O3→O4) (fun v=>.mk .nil .nil .nil .nil .nil .nil v .nil .nil .nil .nil .nil .nil .nil .nil .nil) (fun a0 a1 a2 a3 a4 a5 a6 a7 a8 a9 aa ab ac ad ae af=>fun v=>.mk a0 a1 a2 a3 a4 a5 v a7 a8 a9 aa ab ac ad ae af) x v
def O4.s7 (v:O3) (x:O4):O4:=O4.rec (motive:=fun _=>O3→O4) (fun v=>.mk .nil .nil .nil .nil .nil .nil .nil v .nil .nil .nil .nil .nil .nil .nil .nil) (fun a0 a1 a2 a3 a4 a5 a6 a7 a8 a9 aa ab ac ad ae af=>fun v=>.mk a0 a1 a2 a3 a4 a5 a6 v a8 a9 aa ab ac ad ae af) x v
def O4.s8 (v:O3) (x:O4):O4:=O4.rec (motive:=fun _=>O3→O4) (fun v=>.mk .nil .nil .nil .nil .nil .nil .nil .nil v .nil .nil .nil .nil .nil .nil .nil) (fun a0 a1 a2 a3 a4 a5 a6 a7 a8 a9 aa ab ac ad ae af=>fun v=>.mk a0 a1 a2 a3 a4 a5 a6 a7 v a9 aa ab ac ad ae af) x v
def O4.s9 (v:O3) (x:O4):O4:=O4.rec (motive:=fun _=>O3→O4) (fun v=>.mk .nil .nil .nil .nil .nil .nil .nil .nil .nil v .nil .nil .nil .nil .nil .nil) (fun a0 a1 a2 a3 a4 a5 a6 a7 a8 a9 aa ab ac ad ae af=>fun v=>.mk a0 a1 a2 a3 a4 a5 a6 a7 a8 v aa ab ac ad ae af) x v
def O4.sa (v:O3) (x:O4):O4:=O4.rec (motive:=fun _=>O3→O4) (fun v=>.mk .nil .nil .nil .nil .nil .nil .nil .nil .nil .nil v .nil .nil .nil .nil .nil) (fun a0 a1 a2 a3 a4 a5 a6 a7 a8 a9 aa ab ac ad ae af=>fun v=>.mk a0 a1 a2 a3 a4 a5 a6 a7 a8 a9 v ab ac ad ae af) x v
def O4.sb (v:O3) (x:O4):O4:=O4.rec (motive:=fun _=>O3→O4) (fun v=>.mk .nil .nil .nil .nil .nil .nil .nil .nil .nil .nil .nil v .nil .nil .nil .nil) (fun a0 a1 a2 a3 a4 a5 a6 a7 a8 a9 aa ab ac ad ae af=>fun v=>.mk a0 a1 a2 a3 a4 a5 a6 a7 a8 a9 aa v ac ad ae af) x v
def O4.sc (v:O3) (x:O4):O4:=O4.rec (motive:=fun _=>O3→O4) (fun v=>.mk .nil .nil .nil .nil .nil .nil .nil .nil .nil .nil .nil .nil v .nil .nil .nil) (fun a0 a1 a2 a3 a4 a5 a6 a7 a8 a9 aa ab ac ad ae af=>fun v=>.mk a0 a1 a2 a3 a4 a5 a6 a7 a8 a9 aa ab v ad ae af) x v
def O4.sd (v:O3) (x:O4):O4:=O4.rec (motive:=fun _=>O3→O4) (fun v=>.mk .nil .nil .nil .nil .nil .nil .nil .nil .nil .nil .nil .nil .nil v .nil .nil) (fun a0 a1 a2 a3 a4 a5 a6 a7 a8 a9 aa ab ac ad ae af=>fun v=>.mk a0 a1 a2 a3 a4 a5 a6 a7 a8 a9 aa ab ac v ae af) x v
def O4.se (v:O3) (x:O4):O4:=O4.rec (motive:=fun _=>O3→O4) (fun v=>.mk .nil .nil .nil .nil .nil .nil .nil .nil .nil .nil .nil .nil .nil .nil v .nil) (fun a0 a1 a2 a3 a4 a5 a6 a7 a8 a9 aa ab ac ad ae af=>fun v=>.mk a0 a1 a2 a3 a4 a5 a6 a7 a8 a9 aa ab ac ad v af) x v
def O4.sf (v:O3) (x:O4):O4:=O4.rec (motive:=fun _=>O3→O4) (fun v=>.mk .nil .nil .nil .nil .nil .nil .nil .nil .nil .nil .nil .nil .nil .nil .nil v) (fun a0 a1 a2 a3 a4 a5 a6 a7 a8 a9 aa ab ac ad ae af=>fun v=>.mk a0 a1 a2 a3 a4 a5 a6 a7 a8 a9 aa ab ac ad ae v) x v
def O4.set (d:H):O3→O4→O4:=H.rec (motive:=fun _=>O3→O4→O4) O4.s0 O4.s1 O4.s2 O4.s3 O4.s4 O4.s5 O4.s6 O4.s7 O4.s8 O4.s9 O4.sa O4.sb O4.sc O4.sd O4.se O4.sf d
inductive Lg where
 | off
 | on (l:List P4)
inductive Hp where
 | mk (t:O4) (nx:P4) (lg:Lg)
inductive RV where
 | ok (v:AV) (h:Hp)
 | err (n:Nat)
inductive RT where
 | ok (v:AV) (h:Hp)
 | err (n:Nat)
 | ch (n:Nat) (k:Nat→RT)
inductive RS where
 | nm (r:A2) (h:Hp)
 | ex (i:Nat) (r:A2) (h:Hp)
 | go (l:Nat) (r:A2) (h:Hp)
 | ret (r:A2) (h:Hp)
 | err (n:Nat)
 | ch (n:Nat) (k:Nat→RS)
def RT.elim {β:Type} (f:AV→Hp→β) (e:Nat→β) (c:Nat→(Nat→β)→β) (x:RT):β:=RT.rec f e (fun n _ ih=>c n ih) x
def RS.elim {β:Type} (f1:A2→Hp→β) (f2:Nat→A2→Hp→β) (f3:Nat→A2→Hp→β) (f4:A2→Hp→β) (e:Nat→β) (c:Nat→(Nat→β)→β) (x:RS):β:=RS.rec f1 f2 f3 f4 e (fun n _ ih=>c n ih) x
def nO {β:Type} (z:β) (s:Nat→β→β) (n:Nat):β:=Nat.rec z s n
def P4.succ (p:P4):P4:=P4.rec (fun a b c d=>
 Bool.rec (.mk a b c d.succ) (Bool.rec (.mk a b c.succ .h0) (Bool.rec (.mk a b.succ .h0 .h0) (.mk a.succ .h0 .h0 .h0) b.last) c.last) d.last) p
def hR (p:P4) (t:O4):Obj:=P4.rec (fun a b c d=>O1.get d (O2.get c (O3.get b (O4.get a t)))) p
def Hp.tree (h:Hp):O4:=Hp.rec (fun t _ _=>t) h
def Hp.next (h:Hp):P4:=Hp.rec (fun _ n _=>n) h
def Hp.log (h:Hp):Lg:=Hp.rec (fun _ _ l=>l) h
def Lg.add (p:P4) (x:Lg):Lg:=Lg.rec .off (fun l=>.on (.cons p l)) x
def au (p:P4) (h:Hp):Obj:=hR p h.tree
def Sv (a b c d:H) (o:Obj) (t4:O4) (t3:O3) (t2:O2):O4:=O4.set a (O3.set b (O2.set c (O1.set d o (O2.get c t2)) t2) t3) t4
def Sw (a b c d:H) (o:Obj) (t4:O4) (t3:O3):O4:=Sv a b c d o t4 t3 (O3.get b t3)
def de (p:P4) (o:Obj) (t:O4):O4:=P4.rec (fun a b c d=>Sw a b c d o t (O4.get a t)) p
def cN (p:P4) (o:Obj) (h:Hp):Hp:=.mk (de p o h.tree) h.next (Lg.add p h.log)
def isNone (o:Obj):Bool:=Obj.rec true false (fun _ _ _ _ _=>false) (fun _ _=>false) (fun _ _=>false) (fun _ _ _ _=>false) false o
def iu (o:Obj) (h:Hp) (k:P4→Hp→RV):RV:=Hp.rec (fun t nx lg=>
 Bool.rec (.err 1) (k nx (.mk (de nx o t) nx.succ (Lg.add nx lg))) (isNone (hR nx t))) h
def ar (a b:H) (r:A2):AV:=A1.get b (A2.get a r)
def dj (a b:H) (v:AV) (r:A2):A2:=A2.set a (A1.set b v (A2.get a r)) r
def g2 (i:Nat) (x:A2):AV:=A1.get (bR (Nat.mod i 16)) (A2.get (bR (Nat.div i 16)) x)
def g3 (i:Nat) (x:A3):AV:=g2 (Nat.mod i 256) (A3.get (bR (Nat.div i 256)) x)
def g4 (i:Nat) (x:A4):AV:=g3 (Nat.mod i 4096) (A4.get (bR (Nat.div i 4096)) x)
def g1 (i:Nat) (x:A1):AV:=A1.get (bR i) x
def eA (i:Nat) (c:Cl):AV:=Cl.rec (motive:=fun _=>Nat→AV) (fun x i=>g1 i x) (fun x i=>g2 i x) (fun x i=>g3 i x) (fun x i=>g4 i x) c i
def t1 (i:Nat) (v:AV) (x:A1):A1:=A1.set (bR i) v x
def ZF (d:H) (i:Nat) (v:AV) (x:A2):A2:=A2.set d (t1 i v (A2.get d x)) x
def t2 (i:Nat) (v:AV) (x:A2):A2:=ZF (bR (Nat.div i 16)) (Nat.mod i 16) v x
def ZG (d:H) (i:Nat) (v:AV) (x:A3):A3:=A3.set d (t2 i v (A3.get d x)) x
def t3 (i:Nat) (v:AV) (x:A3):A3:=ZG (bR (Nat.div i 256)) (Nat.mod i 256) v x
def ZH (d:H) (i:Nat) (v:AV) (x:A4):A4:=A4.set d (t3 i v (A4.get d x)) x
def t4 (i:Nat) (v:AV) (x:A4):A4:=ZH (bR (Nat.div i 4096)) (Nat.mod i 4096) v x
def ui (i:Nat) (v:AV) (c:Cl):Cl:=Cl.rec (motive:=fun _=>Nat→AV→Cl) (fun x i v=>.k1 (t1 i v x)) (fun x i v=>.k2 (t2 i v x)) (fun x i v=>.k3 (t3 i v x)) (fun x i v=>.k4 (t4 i v x)) c i v
def bW (c:Cl):Nat:=Cl.rec (fun _=>16) (fun _=>256) (fun _=>4096) (fun _=>65536) c
def eu (c:Cl):Cl:=Cl.rec (fun x=>.k2 (A2.s0 x .nil)) (fun x=>.k3 (A3.s0 x .nil)) (fun x=>.k4 (A4.s0 x .nil)) (fun x=>.k4 x) c
def sK (n:Nat) (c:Cl):Cl:=Bool.rec (Bool.rec (Bool.rec (eu (eu (eu c))) (eu (eu c)) (Nat.ble n (bW (eu (eu c))))) (eu c) (Nat.ble n (bW (eu c)))) c (Nat.ble n (bW c))
def fm (l:List AV):Nat→Cl→Cl:=bQ (fun _ c=>c) (fun v _ ih i c=>ih (Nat.succ i) (ui i v c)) l
def Sx:Cl:=.k1 .nil
def mu (l:List AV):Cl:=fm l 0 (sK l.length Sx)
def bB (n:Nat):Cl→Nat→List AV:=Nat.rec (fun _ _=>.nil) (fun _ ih c i=>.cons (eA i c) (ih c (Nat.succ i))) n
inductive AO where
 | t (a b:H)
 | c (v:AV)
def ev (x:AO) (r:A2):AV:=AO.rec (motive:=fun _=>A2→AV) ar (fun v _=>v) x r
def Sy (a b:Int):Int:=Int.rec (motive:=fun _=>Int→Int) (fun m b=>Int.rec (fun n=>.ofNat (Nat.add m n)) (fun n=>Int.subNatNat m (Nat.succ n)) b) (fun m b=>Int.rec (fun n=>Int.subNatNat n (Nat.succ m)) (fun n=>.negSucc (Nat.succ (Nat.add m n))) b) a b
def Sz (a:Int):Int:=Int.rec (fun m=>Int.negOfNat m) (fun m=>.ofNat (Nat.succ m)) a
def LA (a b:Int):Int:=Int.rec (motive:=fun _=>Int→Int) (fun m b=>Int.rec (fun n=>.ofNat (Nat.mul m n)) (fun n=>Int.mul (.ofNat m) (.negSucc n)) b) (fun m b=>Int.mul (.negSucc m) b) a b
def SA (a b:Int):Int:=Int.rec (motive:=fun _=>Int→Int) (fun m b=>Int.rec (fun n=>.ofNat (Nat.div m n)) (fun n=>Int.tdiv (.ofNat m) (.negSucc n)) b) (fun m b=>Int.tdiv (.negSucc m) b) a b
def SB (a b:Int):Int:=Int.rec (motive:=fun _=>Int→Int) (fun m b=>Int.rec (fun n=>.ofNat (Nat.mod m n)) (fun n=>Int.tmod (.ofNat m) (.negSucc n)) b) (fun m b=>Int.tmod (.negSucc m) b) a b
def WO (a b:Int):Bool:=Int.rec (motive:=fun _=>Int→Bool) (fun m b=>Int.rec (fun n=>Nat.ble m n) (fun _=>false) b) (fun m b=>Int.rec (fun _=>true) (fun n=>Nat.ble n m) b) a b
def LB (a b:Int):Bool:=Int.rec (motive:=fun _=>Int→Bool) (fun m b=>Int.rec (fun n=>Nat.ble (Nat.succ m) n) (fun _=>false) b) (fun m b=>Int.rec (fun _=>true) (fun n=>Nat.ble (Nat.succ n) m) b) a b
def uk (a b:Int):Bool:=Int.rec (motive:=fun _=>Int→Bool) (fun m b=>Int.rec (fun n=>Nat.beq m n) (fun _=>false) b) (fun m b=>Int.rec (fun _=>false) (fun n=>Nat.beq m n) b) a b
def wS (k:IntKind) (top:Nat) (n:Int):Int:=Int.rec (fun m=>Bool.rec (k.wrap (.ofNat m)) (.ofNat m) (Nat.ble m top)) (fun m=>Bool.rec (k.wrap (.negSucc m)) (.negSucc m) (Nat.ble m top)) n
def wU (k:IntKind) (size:Nat) (n:Int):Int:=Int.rec (fun m=>.ofNat (Nat.mod m size)) (fun m=>k.wrap (.negSucc m)) n
def iP (k:IntKind):Int→Int:=IntKind.rec (motive:=fun _=>Int→Int) (wS .i8 127) (wS .i16 32767) (wS .i32 2147483647) (wS .i64 9223372036854775807) (wU .u8 256) (wU .u16 65536) (wU .u32 4294967296) (wU .u64 18446744073709551616) k
def kH (k:IntKind):Nat:=IntKind.rec 8 16 32 64 8 16 32 64 k
def ZI (k:IntKind):Nat:=IntKind.rec 0 1 2 3 4 5 6 7 k
def nP (a b:IntKind):Bool:=Nat.beq (ZI a) (ZI b)
def BU (f:Nat→Nat→Nat) (k:IntKind) (a b:Int):AV:=Int.rec (fun m=>Int.rec (fun n=>.int k (iP k (.ofNat (f (Nat.mod m (Nat.pow 2 (kH k))) (Nat.mod n (Nat.pow 2 (kH k))))))) (fun _=>.undef) b) (fun _=>.undef) a
inductive OI where
 | no
 | yes (k:IntKind) (n:Int)
inductive OB where
 | no
 | yes (b:Bool)
inductive OS where
 | no
 | yes (l:List Nat)
inductive OP where
 | no
 | yes (i:P4) (o:Nat)
inductive OL where
 | no
 | yes (l:List AV)
inductive OM where
 | no
 | nil
 | yes (i:P4)
inductive OC where
 | no
 | yes (k:FloatKind) (a b:Nat)
inductive OF where
 | no
 | yes (k:FloatKind) (a:Nat)
inductive SC where
 | no
 | nil
 | ex (i:P4) (o n c:Nat)
 | rs (i:P4) (o n e:Nat)
inductive XW where
 | no
 | yes (el n:Nat) (ex:Bool) (fl:Fl) (c:Cl)
inductive LC where
 | no
 | yes (l:List KV) (clock:Nat)
inductive Nn where
 | no
 | yes (f:Nat) (cs:List AV)
inductive Np where
 | no
 | nil
 | yes (t:Nat) (v:AV)
def AV.asInt (x:AV):OI:=AV.rec (motive_2:=fun _=>PUnit) .no (fun _=>.no) (fun k n=>.yes k n) (fun _=>.no) (fun _ _=>.no) (fun _ _ _=>.no) (fun _ _=>.no) .no (fun _ _ _ _=>.no) (fun _ _ _ _=>.no) .no (fun _=>.no) .no (fun _ _ _=>.no) .no (fun _ _ _=>.no) .no (fun _ _=>.no) (fun _ _=>.no) (fun _=>.no) PUnit.unit (fun _ _ _ _=>PUnit.unit) x
def AV.asBool (x:AV):OB:=AV.rec (motive_2:=fun _=>PUnit) .no (fun b=>.yes b) (fun _ _=>.no) (fun _=>.no) (fun _ _=>.no) (fun _ _ _=>.no) (fun _ _=>.no) .no (fun _ _ _ _=>.no) (fun _ _ _ _=>.no) .no (fun _=>.no) .no (fun _ _ _=>.no) .no (fun _ _ _=>.no) .no (fun _ _=>.no) (fun _ _=>.no) (fun _=>.no) PUnit.unit (fun _ _ _ _=>PUnit.unit) x
def AV.yF (x:AV):OS:=AV.rec (motive_2:=fun _=>PUnit) .no (fun _=>.no) (fun _ _=>.no) (fun l=>.yes l) (fun _ _=>.no) (fun _ _ _=>.no) (fun _ _=>.no) .no (fun _ _ _ _=>.no) (fun _ _ _ _=>.no) .no (fun _=>.no) .no (fun _ _ _=>.no) .no (fun _ _ _=>.no) .no (fun _ _=>.no) (fun _ _=>.no) (fun _=>.no) PUnit.unit (fun _ _ _ _=>PUnit.unit) x
def AV.fo (x:AV):OP:=AV.rec (motive_2:=fun _=>PUnit) .no (fun _=>.no) (fun _ _=>.no) (fun _=>.no) (fun _ _=>.no) (fun _ _ _=>.no) (fun i o=>.yes i o) .no (fun _ _ _ _=>.no) (fun _ _ _ _=>.no) .no (fun _=>.no) .no (fun _ _ _=>.no) .no (fun _ _ _=>.no) .no (fun _ _=>.no) (fun _ _=>.no) (fun _=>.no) PUnit.unit (fun _ _ _ _=>PUnit.unit) x
def AV.asAgg (x:AV):OL:=AV.rec (motive_2:=fun _=>PUnit) .no (fun _=>.no) (fun _ _=>.no) (fun _=>.no) (fun _ _=>.no) (fun _ _ _=>.no) (fun _ _=>.no) .no (fun _ _ _ _=>.no) (fun _ _ _ _=>.no) .no (fun _=>.no) .no (fun _ _ _=>.no) .no (fun _ _ _=>.no) .no (fun l _=>.yes l) (fun _ _=>.no) (fun _=>.no) PUnit.unit (fun _ _ _ _=>PUnit.unit) x
def AV.sL (x:AV):OL:=AV.rec (motive_2:=fun _=>PUnit) .no (fun _=>.no) (fun _ _=>.no) (fun _=>.no) (fun _ _=>.no) (fun _ _ _=>.no) (fun _ _=>.no) .no (fun _ _ _ _=>.no) (fun _ _ _ _=>.no) .no (fun _=>.no) .no (fun _ _ _=>.no) .no (fun _ _ _=>.no) .no (fun _ _=>.no) (fun l _=>.yes l) (fun _=>.no) PUnit.unit (fun _ _ _ _=>PUnit.unit) x
def AV.dR (x:AV):OM:=AV.rec (motive_2:=fun _=>PUnit) .no (fun _=>.no) (fun _ _=>.no) (fun _=>.no) (fun _ _=>.no) (fun _ _ _=>.no) (fun _ _=>.no) .no (fun _ _ _ _=>.no) (fun _ _ _ _=>.no) .no (fun i=>.yes i) .nil (fun _ _ _=>.no) .no (fun _ _ _=>.no) .no (fun _ _=>.no) (fun _ _=>.no) (fun _=>.no) PUnit.unit (fun _ _ _ _=>PUnit.unit) x
def AV.SD (x:AV):OC:=AV.rec (motive_2:=fun _=>PUnit) .no (fun _=>.no) (fun _ _=>.no) (fun _=>.no) (fun _ _=>.no) (fun k a b=>.yes k a b) (fun _ _=>.no) .no (fun _ _ _ _=>.no) (fun _ _ _ _=>.no) .no (fun _=>.no) .no (fun _ _ _=>.no) .no (fun _ _ _=>.no) .no (fun _ _=>.no) (fun _ _=>.no) (fun _=>.no) PUnit.unit (fun _ _ _ _=>PUnit.unit) x
def AV.WQ (x:AV):OF:=AV.rec (motive_2:=fun _=>PUnit) .no (fun _=>.no) (fun _ _=>.no) (fun _=>.no) (fun k a=>.yes k a) (fun _ _ _=>.no) (fun _ _=>.no) .no (fun _ _ _ _=>.no) (fun _ _ _ _=>.no) .no (fun _=>.no) .no (fun _ _ _=>.no) .no (fun _ _ _=>.no) .no (fun _ _=>.no) (fun _ _=>.no) (fun _=>.no) PUnit.unit (fun _ _ _ _=>PUnit.unit) x
def AV.Di (x:AV):SC:=AV.rec (motive_2:=fun _=>PUnit) .no (fun _=>.no) (fun _ _=>.no) (fun _=>.no) (fun _ _=>.no) (fun _ _ _=>.no) (fun _ _=>.no) .no (fun i o n c=>.ex i o n c) (fun i o n e=>.rs i o n e) .nil (fun _=>.no) .no (fun _ _ _=>.no) .no (fun _ _ _=>.no) .no (fun _ _=>.no) (fun _ _=>.no) (fun _=>.no) PUnit.unit (fun _ _ _ _=>PUnit.unit) x
def AV.Ap (x:AV):Nn:=AV.rec (motive_2:=fun _=>PUnit) .no (fun _=>.no) (fun _ _=>.no) (fun _=>.no) (fun _ _=>.no) (fun _ _ _=>.no) (fun _ _=>.no) .no (fun _ _ _ _=>.no) (fun _ _ _ _=>.no) .no (fun _=>.no) .no (fun f cs _=>.yes f cs) .no (fun _ _ _=>.no) .no (fun _ _=>.no) (fun _ _=>.no) (fun _=>.no) PUnit.unit (fun _ _ _ _=>PUnit.unit) x
def AV.Aq (x:AV):Np:=AV.rec (motive_2:=fun _=>PUnit) .no (fun _=>.no) (fun _ _=>.no) (fun _=>.no) (fun _ _=>.no) (fun _ _ _=>.no) (fun _ _=>.no) .no (fun _ _ _ _=>.no) (fun _ _ _ _=>.no) .no (fun _=>.no) .no (fun _ _ _=>.no) .no (fun t v _=>.yes t v) .nil (fun _ _=>.no) (fun _ _=>.no) (fun _=>.no) PUnit.unit (fun _ _ _ _=>PUnit.unit) x
inductive EB where
 | yes
 | no
 | bad
def AV.isNil (x:AV):EB:=AV.rec (motive_2:=fun _=>PUnit) .bad (fun _=>.bad) (fun _ _=>.bad) (fun _=>.bad) (fun _ _=>.bad) (fun _ _ _=>.bad) (fun _ _=>.no) .yes (fun _ _ _ _=>.no) (fun _ _ _ _=>.no) .yes (fun _=>.no) .yes (fun _ _ _=>.no) .yes (fun _ _ _=>.no) .yes (fun _ _=>.bad) (fun _ _=>.bad) (fun _=>.bad) PUnit.unit (fun _ _ _ _=>PUnit.unit) x
def Obj.wF (o:Obj):XW:=Obj.rec .no .no (fun a b c d e=>.yes a b c d e) (fun _ _=>.no) (fun _ _=>.no) (fun _ _ _ _=>.no) .no o
def Obj.dR (o:Obj):LC:=Obj.rec .no .no (fun _ _ _ _ _=>.no) (fun a b=>.yes a b) (fun _ _=>.no) (fun _ _ _ _=>.no) .no o
def AV.dp {β:Type} (x:AV) (k:IntKind→Int→β) (e:β):β:=OI.rec e k x.asInt
def AV.bH {β:Type} (x:AV) (k:Bool→β) (e:β):β:=OB.rec e k x.asBool
def AV.iQ {β:Type} (x:AV) (k:List Nat→β) (e:β):β:=OS.rec e k x.yF
def AV.eK {β:Type} (x:AV) (k:P4→Nat→β) (e:β):β:=OP.rec e k x.fo
def AV.lT {β:Type} (x:AV) (k:List AV→β) (e:β):β:=OL.rec e k x.asAgg
def AV.Bw {β:Type} (x:AV) (k:List AV→β) (e:β):β:=OL.rec e k x.sL
def AV.dN {β:Type} (x:AV) (k:P4→β) (n e:β):β:=OM.rec e n k x.dR
def AV.sM {β:Type} (x:AV) (k:FloatKind→Nat→Nat→β) (e:β):β:=OC.rec e k x.SD
def AV.pW {β:Type} (x:AV) (k:FloatKind→Nat→β) (e:β):β:=OF.rec e k x.WQ
def AV.jl {β:Type} (x:AV) (k k':P4→Nat→Nat→Nat→β) (n e:β):β:=SC.rec e n k k' x.Di
def AV.FV {β:Type} (x:AV) (k:Nat→List AV→β) (e:β):β:=Nn.rec e k x.Ap
def AV.Ar {β:Type} (x:AV) (k:Nat→AV→β) (n e:β):β:=Np.rec e n k x.Aq
def Obj.bz {β:Type} (o:Obj) (k:Nat→Nat→Bool→Fl→Cl→β) (e:β):β:=XW.rec e k o.wF
def Obj.dN {β:Type} (o:Obj) (k:List KV→Nat→β) (e:β):β:=LC.rec e k o.dR
def AV.one (x:AV):Bool:=AV.rec (motive_2:=fun _=>PUnit) false (fun _=>true) (fun _ _=>true) (fun _=>true) (fun _ _=>true) (fun _ _ _=>true) (fun _ _=>true) true (fun _ _ _ _=>true) (fun _ _ _ _=>true) true (fun _=>true) true (fun _ _ _=>true) true (fun _ _ _=>true) true (fun _ _=>false) (fun _ _=>false) (fun _=>false) PUnit.unit (fun _ _ _ _=>PUnit.unit) x
def AV.cs (x:AV):List AV:=OL.rec (.cons x .nil) (fun l=>l) x.asAgg
def kI (a b:List Nat):Bool:=bQ (β:=List Nat→Bool) (fun b=>List.rec true (fun _ _ _=>false) b)
 (fun x _ ih b=>List.rec false (fun y b _=>Bool.rec false (ih b) (Nat.beq x y)) b) a b
def vh (a b:List Nat):Bool:=bQ (β:=List Nat→Bool) (fun b=>List.rec false (fun _ _ _=>true) b)
 (fun x _ ih b=>List.rec false (fun y b _=>Bool.rec (Nat.ble x y) (ih b) (Nat.beq x y)) b) a b
def nQ (a b:H):Bool:=Nat.beq a.nat b.nat
def lk (a b:P4):Bool:=P4.rec (fun a1 a2 a3 a4=>P4.rec (fun b1 b2 b3 b4=>
 Bool.rec false (Bool.rec false (Bool.rec false (nQ a1 b1) (nQ a2 b2)) (nQ a3 b3)) (nQ a4 b4)) b) a
def eH (a b:Bool):Bool:=Bool.rec (Bool.rec true false b) b a
def EB.of (b:Bool):EB:=Bool.rec .no .yes b
def eV (o:Obj):Bool:=Obj.bz o (fun _ _ _ fl _=>Fl.rec true false false fl) false
inductive KK where
 | b|i|s|p
def XX (x y:AV):EB:=OB.rec .bad (fun a=>OB.rec .bad (fun b=>.of (eH a b)) y.asBool) x.asBool
def ZS (x y:AV):EB:=OI.rec .bad (fun k a=>OI.rec .bad (fun k' b=>Bool.rec .bad (.of (uk a b)) (nP k k')) y.asInt) x.asInt
def ZT (x y:AV):EB:=OS.rec .bad (fun a=>OS.rec .bad (fun b=>.of (kI a b)) y.yF) x.yF
def eW (x:AV):Bool:=AV.rec (motive_2:=fun _=>PUnit) false (fun _=>false) (fun _ _=>false) (fun _=>false) (fun _ _=>false) (fun _ _ _=>false) (fun _ _=>false) true (fun _ _ _ _=>false) (fun _ _ _ _=>false) false (fun _=>false) false (fun _ _ _=>false) false (fun _ _ _=>false) false (fun _ _=>false) (fun _ _=>false) (fun _=>false) PUnit.unit (fun _ _ _ _=>PUnit.unit) x
def SE (h:Hp) (x y:AV):EB:=OP.rec (Bool.rec .bad (OP.rec (Bool.rec .bad .yes (eW y)) (fun _ _=>.no) y.fo) (eW x)) (fun i o=>OP.rec (Bool.rec .bad .no (eW y)) (fun j q=>Bool.rec (Bool.rec .bad (Bool.rec .bad .no (eV (au j h))) (eV (au i h))) (.of (Nat.beq o q)) (lk i j)) y.fo) x.fo
def Kr (k:KK) (h:Hp) (x y:AV):EB:=KK.rec (XX x y) (ZS x y) (ZT x y) (SE h x y) k
def yG (ks:List KK) (h:Hp) (a b:List AV):EB:=bQ (β:=List AV→List AV→EB) (fun a b=>List.rec (List.rec .yes (fun _ _ _=>.bad) b) (fun _ _ _=>.bad) a)
 (fun k _ ih a b=>List.rec .bad (fun x a _=>List.rec .bad (fun y b _=>EB.rec (ih a b) (EB.rec .no .no .bad (ih a b)) .bad (Kr k h x y)) b) a) ks a b
def EB.rv (neg:Bool) (h:Hp) (e:EB):RV:=EB.rec (.ok (.bool (Bool.not neg)) h) (.ok (.bool neg) h) (.err 2) e
def WR (_:Hp) (x y:AV):EB:=AV.Ar x (fun t _=>AV.Ar y (fun u _=>Bool.rec .no .bad (Nat.beq t u)) .no .bad)
 (AV.Ar y (fun _ _=>.no) .bad .bad) .bad
inductive Part where
 | mk (off sz:Nat) (x:AO)
inductive NK where
 | s|m|f|i
def SF (x:AV):EB:=AV.rec (motive_2:=fun _=>PUnit) .bad (fun _=>.bad) (fun _ _=>.bad) (fun _=>.bad) (fun _ _=>.bad) (fun _ _ _=>.bad) (fun _ _=>.bad) .bad (fun _ _ _ _=>.bad) (fun _ _ _ _=>.bad) .bad (fun _=>.bad) .bad (fun _ _ _=>.no) .yes (fun _ _ _=>.bad) .bad (fun _ _=>.bad) (fun _ _=>.bad) (fun _=>.bad) PUnit.unit (fun _ _ _ _=>PUnit.unit) x
def sN (k:NK) (x:AV):EB:=NK.rec (SC.rec .bad .yes (fun _ _ _ _=>.no) (fun _ _ _ _=>.no) x.Di) (OM.rec .bad .yes (fun _=>.no) x.dR) (SF x) (Np.rec .bad .yes (fun _ _=>.no) x.Aq) k
inductive BK where
 | add|sub|mul|quo|rem|and|or|xor|Vl|shl|shr
 | eq|ne|lt|le|gt|ge
 | seq|KX|slt|sle|Zu|Zv|cat
 | beq|bne|lk|XS|ku (k:NK)|pO (k:NK)
 | Zw (ks:List KK)|XT (ks:List KK)
 | Gb (op:BinOp)
 | QX (op:BinOp)
 | uk|ZU
inductive UK where
 | not|neg|ZA
inductive CK where
 | same|toInt (k:IntKind)|Zy (el:Nat)|Zz|i2s|QY (k:FloatKind)|Vm (k:IntKind)|Yb (el:Nat)|Zx|MZ (u sz:Nat)
inductive OA where
 | none
 | some (x:AO)
def SG (v:AV) (h:Hp):RV:=EB.rec (.ok v h) (.err 3) (.err 3) (OI.rec (OB.rec .bad (fun _=>.yes) v.asBool) (fun _ _=>.yes) v.asInt)
def BV (f:IntKind→Int→Int→AV) (x y:AV) (h:Hp):RV:=AV.dp x (fun k a=>AV.dp y (fun k' b=>Bool.rec (.err 4) (.ok (f k a b) h) (nP k k')) (.err 4)) (.err 4)
def LD (f:IntKind→Int→Int→AV) (x y:AV) (h:Hp):RV:=AV.dp x (fun k a=>AV.dp y (fun k' b=>Bool.rec (.err 4) (SG (f k a b) h) (nP k k')) (.err 4)) (.err 4)
def LF (f:List Nat→List Nat→AV) (x y:AV) (h:Hp):RV:=AV.iQ x (fun a=>AV.iQ y (fun b=>.ok (f a b) h) (.err 5)) (.err 5)
def Ug (f:IntKind→Int→Int→AV) (x y:AV) (h:Hp):RV:=AV.dp x (fun k a=>AV.dp y (fun _ b=>SG (f k a b) h) (.err 6)) (.err 6)
def SH (k:IntKind) (a b:Int):AV:=Int.rec (fun n=>.int k (iP k (LA a (.ofNat (Nat.pow 2 (Nat.min n (kH k))))))) (fun _=>.undef) b
def SI (k:IntKind) (a b:Int):AV:=Int.rec (fun n=>Int.rec (fun m=>.int k (.ofNat (Nat.div m (Nat.pow 2 (Nat.min n (kH k)))))) (fun m=>.int k (Int.fdiv (.negSucc m) (2 ^ (Nat.min n (kH k))))) a) (fun _=>.undef) b
def LG (k:FloatKind) (op:BinOp) (a b:Nat) (h:Hp):RV:=
 let c:=k.format.order a b
 match op with
 | .eql=>.ok (.bool (c == some .eq)) h
 | .neq=>.ok (.bool (c != some .eq)) h
 | .lss=>.ok (.bool (c == some .lt)) h
 | .leq=>.ok (.bool (c == some .lt || c == some .eq)) h
 | .gtr=>.ok (.bool (c == some .gt)) h
 | .geq=>.ok (.bool (c == some .gt || c == some .eq)) h
 | .add=>match k.format.add a b with|some r=>.ok (.fi k r) h|none=>.err 7
 | .sub=>match k.format.sub a b with|some r=>.ok (.fi k r) h|none=>.err 7
 | .mul=>match k.format.mul a b with|some r=>.ok (.fi k r) h|none=>.err 7
 | .quo=>match k.format.div a b with|some r=>.ok (.fi k r) h|none=>.err 7
 | _=>.err 7
def BW (k:FloatKind) (op:BinOp) (a b c d:Nat) (h:Hp):RV:=
 match op with
 | .add=>match k.format.add a c,k.format.add b d with|some r,some s=>.ok (.aj k r s) h|_,_=>.err 8
 | .sub=>match k.format.sub a c,k.format.sub b d with|some r,some s=>.ok (.aj k r s) h|_,_=>.err 8
 | .eql=>.ok (.bool (k.format.order a c == some .eq&&k.format.order b d == some .eq)) h
 | .neq=>.ok (.bool (!(k.format.order a c == some .eq&&k.format.order b d == some .eq))) h
 | _=>.err 8
def wG (a b:FloatKind):Bool:=FloatKind.rec (FloatKind.rec true false b) (FloatKind.rec false true b) a
def ko:AV→AV→Hp→RV:=BV (fun k a b=>.int k (iP k (Sy a b)))
def FW:AV→AV→Hp→RV:=BV (fun k a b=>.int k (iP k (Sy a (Sz b))))
def vf:AV→AV→Hp→RV:=BV (fun k a b=>.int k (iP k (LA a b)))
def GU:AV→AV→Hp→RV:=LD (fun k a b=>Bool.rec (.int k (iP k (SA a b))) .undef (uk b (.ofNat 0)))
def Nq:AV→AV→Hp→RV:=LD (fun k a b=>Bool.rec (.int k (SB a b)) .undef (uk b (.ofNat 0)))
def pQ:AV→AV→Hp→RV:=LD (BU Nat.land)
def Rq:AV→AV→Hp→RV:=LD (BU Nat.lor)
def pR:AV→AV→Hp→RV:=LD (BU Nat.xor)
def GV:AV→AV→Hp→RV:=BV (fun k a b=>.int k (k.wrap (BitVec.ofInt k.bits a &&& ~~~BitVec.ofInt k.bits b).toNat))
def zW:AV→AV→Hp→RV:=BV (fun _ a b=>.bool (uk a b))
def cP:AV→AV→Hp→RV:=BV (fun _ a b=>.bool (Bool.not (uk a b)))
def ym:AV→AV→Hp→RV:=BV (fun _ a b=>.bool (LB a b))
def Ao:AV→AV→Hp→RV:=BV (fun _ a b=>.bool (WO a b))
def mE:AV→AV→Hp→RV:=BV (fun _ a b=>.bool (LB b a))
def nN:AV→AV→Hp→RV:=BV (fun _ a b=>.bool (WO b a))
def aW:AV→AV→Hp→RV:=LF (fun a b=>.bool (kI a b))
def yD:AV→AV→Hp→RV:=LF (fun a b=>.bool (Bool.not (kI a b)))
def BQ:AV→AV→Hp→RV:=LF (fun a b=>.bool (vh a b))
def Nr:AV→AV→Hp→RV:=LF (fun a b=>.bool (Bool.not (vh b a)))
def Ns:AV→AV→Hp→RV:=LF (fun a b=>.bool (vh b a))
def Nt:AV→AV→Hp→RV:=LF (fun a b=>.bool (Bool.not (vh a b)))
def df (x y:AV) (h:Hp):RV:=AV.iQ x (fun a=>AV.iQ y (fun b=>Bool.rec (.err 135) (.ok (.str (List.append a b)) h) (Nat.ble (Nat.add a.length b.length) 4294967296)) (.err 5)) (.err 5)
def yH (neg:Bool) (ks:List KK) (x y:AV) (h:Hp):RV:=AV.lT x (fun a=>AV.lT y (fun b=>EB.rv neg h (yG ks h a b)) (.err 10)) (.err 10)
def GW (op:BinOp) (x y:AV) (h:Hp):RV:=AV.pW x (fun k a=>AV.pW y (fun k' b=>Bool.rec (.err 7) (LG k op a b h) (wG k k')) (.err 7)) (.err 7)
def GX (op:BinOp) (x y:AV) (h:Hp):RV:=AV.sM x (fun k a b=>AV.sM y (fun k' c d=>Bool.rec (.err 8) (BW k op a b c d h) (wG k k')) (.err 8)) (.err 8)
def bK (op:BK):AV→AV→Hp→RV:=BK.rec (motive:=fun _=>AV→AV→Hp→RV) ko FW vf GU Nq pQ Rq pR GV (Ug SH) (Ug SI) zW cP ym Ao mE nN aW yD BQ Nr Ns Nt df (fun x y h=>EB.rv false h (XX x y)) (fun x y h=>EB.rv true h (XX x y)) (fun x y h=>EB.rv false h (SE h x y)) (fun x y h=>EB.rv true h (SE h x y)) (fun k x _ h=>EB.rv false h (sN k x)) (fun k x _ h=>EB.rv true h (sN k x)) (yH false) (yH true) GW GX (fun x y h=>EB.rv false h (WR h x y)) (fun x y h=>EB.rv true h (WR h x y)) op
def Nu (op:BK) (x y:AO) (r:A2) (h:Hp):RV:=bK op (ev x r) (ev y r) h
def bG (x:AV) (h:Hp):RV:=AV.bH x (fun b=>.ok (.bool (Bool.not b)) h) (.err 11)
def yE (x:AV) (h:Hp):RV:=AV.dp x (fun k n=>.ok (.int k (iP k (Sz n))) h) (.err 11)
def uR (x:AV) (h:Hp):RV:=AV.dp x (fun k n=>.ok (.int k (k.wrap (BitVec.ofInt k.bits (if k.signed then -1 else k.max) ^^^ BitVec.ofInt k.bits n).toNat)) h) (.err 11)
def LH (op:UK) (x:AO) (r:A2) (h:Hp):RV:=UK.rec (motive:=fun _=>AV→Hp→RV) bG yE uR op (ev x r) h
def LI (x:AO) (r:A2) (h:Hp):RV:=.ok (ev x r) h
def dm (c a b:AO) (r:A2) (h:Hp):RV:=AV.bH (ev c r) (fun t=>.ok (Bool.rec (ev b r) (ev a r) t) h) (.err 12)
def wb:P4→Hp→RV:=fun i h=>.ok (.ptr i 0) h
def oV (el:Nat) (ex:Bool) (fl:Fl) (n:Nat) (c:Cl) (h:Hp) (k:P4→Hp→RV):RV:=Bool.rec (.err 130) (iu (.cells el n ex fl c) h k) (Nat.ble n (bW c))
def KL (el:Nat) (l:List AV) (h:Hp):RV:=oV el true .plain l.length (mu l) h wb
def BX (el n:Nat) (c:Cl) (_:A2) (h:Hp):RV:=oV el true .plain n c h wb
def yI (el:Nat) (x:AO) (r:A2) (h:Hp):RV:=OL.rec (Bool.rec (.err 134) (KL el (.cons (ev x r) .nil) h) (ev x r).one) (fun l=>KL el l h) (ev x r).asAgg
def LJ (l:List AV) (i:Nat) (v:AV):List AV:=bQ (β:=Nat→List AV) (fun _=>.nil)
 (fun x t ih i=>Nat.rec (.cons v t) (fun i _=>.cons x (ih i)) i) l i
def nR (vs:List AV):Nat→List AV→List AV:=bQ (fun _ l=>l) (fun v _ ih i l=>ih (Nat.succ i) (LJ l i v)) vs
def fill (ps:List Part) (r:A2):List AV→List AV:=bQ (fun l=>l)
 (fun p _ ih l=>Part.rec (fun off _ x=>ih (nR (AV.cs (ev x r)) off l)) p) ps
def fits (ps:List Part) (r:A2):Bool:=bQ true (fun p _ ih=>Part.rec (fun _ sz x=>OL.rec (Bool.rec false ih (Bool.and (ev x r).one (Nat.beq sz 1))) (fun l=>Bool.rec false ih (Nat.beq l.length sz)) (ev x r).asAgg) p) ps
def jm (z:List AV) (ps:List Part) (r:A2) (h:Hp):RV:=Bool.rec (.err 132) (.ok (.agg (fill ps r z)) h) (fits ps r)
def LK (el n:Nat) (l:List AV) (h:Hp):RV:=oV el true .plain l.length (mu l) h (fun i h=>.ok (.slice i 0 n n) h)
def fN (el es n:Nat) (z:List AV) (ps:List Part) (r:A2) (h:Hp):RV:=Bool.rec (.err 133) (LK el n (fill ps r z) h) (fits ps r)
def Kn (i n:Nat):Bool:=Nat.ble (Nat.succ i) n
def iE (x:AO) (r:A2) (h:Hp):RV:=AV.eK (ev x r) (fun i o=>Obj.bz (au i h) (fun _ n _ _ c=>
 Bool.rec (.err 13) (.ok (eA o c) h) (Kn o n)) (.err 14)) (.err 15)
def pX (m:Nat) (x:AO) (r:A2) (h:Hp):RV:=AV.eK (ev x r) (fun i o=>Obj.bz (au i h) (fun _ n _ _ c=>
 Bool.rec (.err 16) (.ok (.agg (bB m c o)) h) (Nat.ble (Nat.add o m) n)) (.err 17)) (.err 18)
def wr (fl:Fl):Bool:=Fl.rec true true false fl
def sO (x y:AO) (r:A2) (h:Hp):RV:=AV.eK (ev x r) (fun i o=>Obj.bz (au i h) (fun el n ex fl c=>
 Bool.rec (.err 19) (Bool.rec (.err 20) (.ok .undef (cN i (.cells el n ex fl (ui o (ev y r) c)) h)) (Bool.and (Kn o n) (ev y r).one)) (wr fl)) (.err 21)) (.err 22)
def yJ (m:Nat) (x y:AO) (r:A2) (h:Hp):RV:=AV.eK (ev x r) (fun i o=>Obj.bz (au i h) (fun el n ex fl c=>
 Bool.rec (.err 23) (Bool.rec (.err 24) (AV.lT (ev y r) (fun l=>Bool.rec (.err 25) (.ok .undef (cN i (.cells el n ex fl (fm l o c)) h)) (Nat.beq l.length m)) (.err 26)) (Nat.ble (Nat.add o m) n)) (wr fl)) (.err 27)) (.err 28)
def nq (x:AV) (h:Hp):RV:=EB.rec (.err 30) (.ok x h) (.err 29) x.isNil
def pd (x:AO) (r:A2) (h:Hp):RV:=OP.rec (nq (ev x r) h) (fun i o=>.ok (.ptr i o) h) (ev x r).fo
def WS (k:IntKind):Bool:=IntKind.rec false false false false true false false false k
def BZ (k:IntKind):Bool:=IntKind.rec false false false true false false false false k
def hM (l:List AV) (k:List Nat→RV) (e:RV):RV:=bQ (β:=(List Nat→RV)→RV) (fun k=>k .nil)
 (fun x _ ih k=>AV.dp x (fun kd n=>Bool.rec e (Int.rec (fun m=>Bool.rec e (ih (fun s=>k (.cons m s))) (Nat.ble m 255)) (fun _=>e) n) (WS kd)) e) l k
def byteCells (s:List Nat):List AV:=bQ .nil (fun b _ ih=>.cons (.int .u8 (.ofNat b)) ih) s
def lu (es:Nat) (i:P4) (o n:Nat) (h:Hp) (k:List AV→RV) (e:RV):RV:=Nat.rec (k .nil) (fun n _=>Obj.bz (au i h) (fun _ m _ _ c=>Bool.rec e (k (bB (Nat.mul (Nat.succ n) es) c o)) (Nat.ble (Nat.add o (Nat.mul (Nat.succ n) es)) m)) e) n
def elems (es:Nat) (x:AV) (h:Hp) (k:List AV→RV) (e:RV):RV:=AV.jl x
 (fun i o n _=>lu es i o n h k e)
 (fun i o n es'=>Bool.rec e (lu es i o n h k e) (Nat.beq es es'))
 (k .nil) e
def wH (el:Nat) (fl:Fl) (es:Nat) (n:Nat) (l:List AV) (h:Hp):RV:=oV el false fl l.length (mu l) h (fun i h=>.ok (.fX i 0 n es) h)
def Nv (el:Nat) (x:AV) (h:Hp):RV:=AV.iQ x (fun s=>wH el .mark 1 s.length (byteCells s) h) (.err 32)
def wI (k:IntKind) (x:AV) (h:Hp):RV:=AV.dp x (fun _ n=>.ok (.int k (iP k n)) h) (.err 31)
def GY (x:AV) (h:Hp):RV:=elems 1 x h (fun l=>hM l (fun s=>.ok (.str s) h) (.err 33)) (.err 34)
def Nw (x:AV) (h:Hp):RV:=AV.dp x (fun _ n=>.ok (.str ((Utf8.encode n).data.toList.map (·.toNat))) h) (.err 35)
def GZ (k:FloatKind) (x:AV) (h:Hp):RV:=AV.dp x (fun _ n=>.ok (.fi k (k.nearest n)) h) (.err 36)
def Ha (k:IntKind) (x:AV) (h:Hp):RV:=AV.pW x (fun s b=>match (s.decode b).toInt .zero with|some n=>if k.min≤n∧n≤k.max then .ok (.int k n) h else .err 37|none=>.err 37) (.err 37)
def Nx (el:Nat) (x:AV) (h:Hp):RV:=AV.jl x (fun i _ _ _=>Obj.bz (au i h) (fun el n ex fl c=>Fl.rec (.ok x (cN i (.cells el n ex .mark c) h)) (.err 38) (.err 38) fl) (.err 38)) (fun _ _ _ _=>.err 38) (.err 38) (.err 38)
def Hb (x:AV) (h:Hp):RV:=AV.iQ x (fun s=>.ok (.str s) h) (.err 38)
def Hc (x:AV) (h:Hp):RV:=OP.rec (Bool.rec (.err 190) (.ok x h) (eW x)) (fun i o=>Obj.bz (au i h) (fun _ n ex _ _=>Bool.rec (.err 191) (.ok x h) (Bool.and ex (Kn o n))) (.err 192)) x.fo
def wJ (u sz:Nat) (x:AV) (h:Hp):RV:=OP.rec (Bool.rec (.err 190) (.ok x h) (eW x)) (fun i o=>Obj.bz (au i h) (fun el n ex _ _=>Bool.rec (.err 193) (.ok x h) (Bool.and ex (Bool.and (Nat.beq o 0) (Bool.and (Nat.beq el u) (Nat.beq n sz))))) (.err 194)) x.fo
def cK (op:CK):AV→Hp→RV:=CK.rec (motive:=fun _=>AV→Hp→RV) Hb wI Nv GY Nw GZ Ha Nx Hc wJ op
def sP (op:CK) (x:AO) (r:A2) (h:Hp):RV:=cK op (ev x r) h
def yK (t:Nat) (x:AO) (r:A2) (h:Hp):RV:=.ok (.iface t (ev x r)) h
def fY (xs:List AO) (r:A2):List AV:=bQ .nil (fun x _ ih=>.cons (ev x r) ih) xs
def yL (f:Nat) (xs:List AO) (r:A2) (h:Hp):RV:=.ok (.fn f (fY xs r)) h
def qu (_:A2) (h:Hp):RV:=iu (.map .nil 0) h (fun i h=>.ok (.map i) h)
def dP (n:Nat) (z:List AV):List AV:=Nat.rec .nil (fun _ ih=>List.append z ih) n
def en (x:AV) (k:Nat→RV) (e:RV):RV:=AV.dp x (fun _ n=>Int.rec k (fun _=>e) n) e
def YG (el l c:Nat) (v:List AV) (h:Hp):RV:=oV el true .plain v.length (mu v) h (fun i h=>.ok (.slice i 0 l c) h)
def iR (el:Nat) (z:List AV) (l c:AO) (r:A2) (h:Hp):RV:=en (ev l r) (fun l=>en (ev c r) (fun c=>
 Bool.rec (.err 39) (Bool.rec (.err 40) (YG el l c (dP c z) h) (Nat.ble c 1048576)) (Nat.ble l c)) (.err 41)) (.err 41)
def ft (x:OA) (d:Nat) (r:A2) (k:Nat→RV) (e:RV):RV:=OA.rec (k d) (fun x=>en (ev x r) k e) x
def isSome (x:OA):Bool:=OA.rec false (fun _=>true) x
def Hd (es:Nat) (i:P4) (o a b m cap:Nat) (h:Hp):RV:=Bool.rec (.err 42) (Bool.rec (.err 42) (Bool.rec (.err 42) (.ok (.slice i (Bool.rec (Nat.add o (Nat.mul a es)) o (Nat.beq m a)) (Nat.sub b a) (Nat.sub m a)) h) (Nat.ble m cap)) (Nat.ble b m)) (Nat.ble a b)
def Ny (es:Nat) (i:P4) (o a b:Nat) (h:Hp):RV:=Bool.rec (.err 42) (Obj.bz (au i h) (fun _ k _ _ _=>
 Bool.rec (.err 45) (.ok (.fX i (Nat.add o (Nat.mul a es)) (Nat.sub b a) es) h) (Nat.ble (Nat.add o (Nat.mul b es)) k)) (.err 46)) (Nat.ble a b)
def Nz (es:Nat) (i:P4) (o a b m:Nat) (h:Hp):RV:=Bool.rec (.err 42) (Bool.rec (.err 42) (Obj.bz (au i h) (fun _ k _ _ _=>
 Bool.rec (.err 45) (.ok (.slice i (Bool.rec (Nat.add o (Nat.mul a es)) o (Nat.beq m a)) (Nat.sub b a) (Nat.sub m a)) h) (Nat.ble (Nat.add o (Nat.mul m es)) k)) (.err 46)) (Bool.and (Nat.ble 1 m) (Nat.ble b m))) (Nat.ble a b)
def eo (es:Nat) (x:AO) (lo hi mx:OA) (r:A2) (h:Hp):RV:=AV.jl (ev x r)
 (fun i o n cap=>ft mx cap r (fun m=>ft hi n r (fun b=>ft lo 0 r (fun a=>Hd es i o a b m cap h) (.err 43)) (.err 43)) (.err 43))
 (fun i o n es'=>Bool.rec (.err 44) (ft hi n r (fun b=>ft lo 0 r (fun a=>Bool.rec (Ny es i o a b h) (ft mx 0 r (fun m=>Nz es i o a b m h) (.err 43)) (isSome mx)) (.err 43)) (.err 43)) (Nat.beq es es'))
 (ft mx 0 r (fun m=>ft hi 0 r (fun b=>ft lo 0 r (fun a=>Bool.rec (.err 47) (.ok .ai h) (Nat.beq (Nat.add m (Nat.add a b)) 0)) (.err 43)) (.err 43)) (.err 43))
 (.err 48)
def mL (x:AO) (lo hi:OA) (r:A2) (h:Hp):RV:=AV.iQ (ev x r) (fun s=>ft hi s.length r (fun b=>ft lo 0 r (fun a=>
 Bool.rec (.err 49) (Bool.rec (.err 49) (.ok (.str (List.take (Nat.sub b a) (List.drop a s))) h) (Nat.ble b s.length)) (Nat.ble a b)) (.err 49)) (.err 49)) (.err 49)
def pe (len es:Nat) (x:AO) (lo hi mx:OA) (r:A2) (h:Hp):RV:=AV.eK (ev x r) (fun i o=>ft mx len r (fun m=>ft hi len r (fun b=>ft lo 0 r (fun a=>Hd es i o a b m len h) (.err 43)) (.err 43)) (.err 43)) (.err 50)
def rZ (d:Nat) (x:AO) (r:A2) (h:Hp):RV:=AV.eK (ev x r) (fun i o=>.ok (.ptr i (Nat.add o d)) h) (.err 51)
def pf (d:Nat) (x:AO) (r:A2) (h:Hp):RV:=AV.lT (ev x r) (fun l=>List.rec (.err 52) (fun v _ _=>.ok v h) (List.drop d l)) (.err 52)
def ph (d n:Nat) (x:AO) (r:A2) (h:Hp):RV:=AV.lT (ev x r) (fun l=>Bool.rec (.err 53) (.ok (.agg (List.take n (List.drop d l))) h) (Nat.ble (Nat.add d n) l.length)) (.err 53)
def CU (es:Nat) (i:P4) (o n k:Nat) (h:Hp):RV:=Bool.rec (.err 54) (.ok (.ptr i (Nat.add o (Nat.mul k es))) h) (Kn k n)
def sg (es:Nat) (x y:AO) (r:A2) (h:Hp):RV:=en (ev y r) (fun k=>AV.jl (ev x r)
 (fun i o n _=>CU es i o n k h) (fun i o n _=>CU es i o n k h) (.err 54) (.err 55)) (.err 55)
def vi (len es:Nat) (x y:AO) (r:A2) (h:Hp):RV:=en (ev y r) (fun k=>AV.eK (ev x r) (fun i o=>CU es i o len k h) (.err 56)) (.err 56)
def gG (x y:AO) (r:A2) (h:Hp):RV:=en (ev y r) (fun k=>AV.iQ (ev x r) (fun s=>List.rec (.err 57) (fun b _ _=>.ok (.int .u8 (.ofNat b)) h) (List.drop k s)) (.err 57)) (.err 57)
def pk (len es:Nat) (agg:Bool) (x y:AO) (r:A2) (h:Hp):RV:=en (ev y r) (fun k=>AV.lT (ev x r) (fun l=>Bool.rec (.err 58) (Bool.rec (List.rec (.err 58) (fun v _ _=>.ok v h) (List.drop (Nat.mul k es) l)) (Bool.rec (.err 58) (.ok (.agg (List.take es (List.drop (Nat.mul k es) l))) h) (Nat.ble (Nat.add (Nat.mul k es) es) l.length)) agg) (Kn k len)) (.err 58)) (.err 58)
def vj (i:Nat) (x:AO) (r:A2) (h:Hp):RV:=AV.Bw (ev x r) (fun l=>List.rec (.err 59) (fun v _ _=>.ok v h) (List.drop i l)) (.err 59)
inductive KT where
 | one (k:KK)
 | agg (ks:List KK)
def um (t:KT) (a b:AV) (h:Hp):EB:=KT.rec (fun k=>Kr k h a b) (fun ks=>OL.rec .bad (fun l=>OL.rec .bad (fun m=>yG ks h l m) b.asAgg) a.asAgg) t
def sQ (kt:KT) (x:AV) (l:List KV) (h:Hp):Bool:=bQ true (fun y _ ih=>KV.rec (fun a _ _=>EB.rec false ih false (um kt x a h)) y) l
def yM (kt:KT) (x:AV) (l:List KV) (h:Hp) (k:Nat→AV→Nat→RV) (n e:RV):RV:=bQ (β:=Nat→RV) (fun _=>n)
 (fun y t ih i=>KV.rec (fun a v born=>EB.rec (Bool.rec e (k i v born) (sQ kt x t h)) (ih (Nat.succ i)) e (um kt x a h)) y) l 0
def dH:Nat:=4294967296
def lN (i:Nat) (key v:AV) (l:List KV):List KV:=bQ (β:=Nat→List KV) (fun _=>.nil)
 (fun y t ih i=>Nat.rec (KV.rec (fun _ _ born=>.cons (.mk key v born) t) y) (fun i _=>.cons y (ih i)) i) l i
def yN (i:Nat) (l:List KV):List KV:=bQ (β:=Nat→List KV) (fun _=>.nil) (fun y t ih i=>Nat.rec t (fun i _=>.cons y (ih i)) i) l i
def snoc (l:List KV) (y:KV):List KV:=bQ (.cons y .nil) (fun x _ ih=>.cons x ih) l
def Ca (ok found:Bool) (v:AV) (h:Hp):RV:=.ok (Bool.rec v (.bU (.cons v (.cons (.bool found) .nil))) ok) h
def sR (t:KT) (x:AV) (h:Hp):Bool:=EB.rec true true false (um t x x h)
def wg (t:KT) (z:AV) (ok:Bool) (x k:AV) (h:Hp):RV:=Bool.rec (.err 60) (AV.dN x (fun i=>Obj.dN (au i h) (fun l _=>yM t k l h (fun _ v _=>Ca ok true v h) (Ca ok false z h) (.err 61)) (.err 62)) (Ca ok false z h) (.err 63)) (sR t k h)
def Cb (t:KT) (z:AV) (ok:Bool) (x y:AO) (r:A2) (h:Hp):RV:=wg t z ok (ev x r) (ev y r) h
def yn (t:KT) (x k v:AV) (h:Hp):RV:=Bool.rec (.err 64) (AV.dN x (fun i=>Obj.dN (au i h) (fun l c=>yM t k l h
   (fun j _ _=>.ok .undef (cN i (.map (lN j k v l) c) h)) (Bool.rec (.ok .undef (cN i (.map (snoc l (.mk k v c)) (Nat.succ c)) h)) (.err 241) (Nat.beq (Nat.succ c) dH)) (.err 65)) (.err 66))
  (.err 67) (.err 68)) (sR t k h)
def Cc (t:KT) (x y z:AO) (r:A2) (h:Hp):RV:=yn t (ev x r) (ev y r) (ev z r) h
def yo (t:KT) (z x k:AV) (h:Hp):RV:=Bool.rec (.err 220) (AV.dN x (fun i=>Obj.dN (au i h) (fun l c=>Bool.rec (yM t k l h
   (fun j v b=>.ok (.bU (.cons v (.cons (.int .i64 (.ofNat b)) .nil))) (cN i (.map (lN j k v l) c) h)) (.ok (.bU (.cons z (.cons (.int .i64 (.ofNat c)) .nil))) (cN i (.map (snoc l (.mk k z c)) (Nat.succ c)) h)) (.err 221)) (.err 242) (Nat.ble dH (Nat.succ c))) (.err 222))
  (.err 223) (.err 224)) (sR t k h)
def wK (t:KT) (z:AV) (x y:AO) (r:A2) (h:Hp):RV:=yo t z (ev x r) (ev y r) h
def WT (b:Nat) (l:List KV) (k:Nat→AV→RV) (e:RV):RV:=bQ (β:=Nat→RV) (fun _=>e) (fun y _ ih i=>KV.rec (fun a _ c=>Bool.rec (ih (Nat.succ i)) (k i a) (Nat.beq b c)) y) l 0
def yp (x s v:AV) (h:Hp):RV:=AV.dN x (fun i=>Obj.dN (au i h) (fun l c=>Bool.rec (en s (fun b=>WT b l (fun j a=>.ok .undef (cN i (.map (lN j a v l) c) h)) (.err 225)) (.err 226)) (.err 242) (Nat.ble dH c)) (.err 227)) (.err 228) (.err 229)
def wL (x y z:AO) (r:A2) (h:Hp):RV:=yp (ev x r) (ev y r) (ev z r) h
def cA:AV:=.bU .nil
def del (t:KT) (x k:AV) (h:Hp):RV:=Bool.rec (.err 69) (AV.dN x (fun i=>Obj.dN (au i h) (fun l c=>yM t k l h
   (fun j _ _=>.ok cA (cN i (.map (yN j l) c) h)) (.ok cA h) (.err 70)) (.err 71))
  (.ok cA h) (.err 72)) (sR t k h)
def Cd (t:KT) (x y:AO) (r:A2) (h:Hp):RV:=del t (ev x r) (ev y r) h
def hH (n:Nat):AV:=.int .i64 (.ofNat n)
def po (x:AO) (r:A2) (h:Hp):RV:=AV.dN (ev x r) (fun i=>Obj.dN (au i h) (fun l _=>.ok (hH l.length) h) (.err 73)) (.ok (hH 0) h) (.err 73)
def len (x:AV) (h:Hp):RV:=AV.jl x (fun _ _ n _=>.ok (hH n) h) (fun _ _ n _=>.ok (hH n) h) (.ok (hH 0) h) (.err 74)
def iw (x:AV) (h:Hp):RV:=AV.iQ x (fun s=>.ok (hH s.length) h) (.err 74)
def Ce (x:AO) (r:A2) (h:Hp):RV:=len (ev x r) h
def wM (x:AO) (r:A2) (h:Hp):RV:=iw (ev x r) h
def pV (x:AO) (r:A2) (h:Hp):RV:=AV.jl (ev x r) (fun _ _ _ c=>.ok (hH c) h) (fun _ _ _ _=>.err 75) (.ok (hH 0) h) (.err 75)
def Au (mn:Bool) (a b:Int):Int:=Bool.rec (Bool.rec a b (LB a b)) (Bool.rec a b (LB b a)) mn
def yO (mn:Bool) (k:IntKind) (h:Hp) (l:List AV):Int→RV:=bQ (β:=Int→RV) (fun a=>.ok (.int k a) h) (fun y _ ih a=>AV.dp y (fun k' b=>Bool.rec (.err 76) (ih (Au mn a b)) (nP k k')) (.err 76)) l
def Dh (mn:Bool) (l:List AV) (h:Hp):RV:=List.rec (.err 76) (fun x xs _=>AV.dp x (fun k a=>yO mn k h xs a) (.err 76)) l
def yP (mn:Bool) (xs:List AO) (r:A2) (h:Hp):RV:=Dh mn (fY xs r) h
def lx (i:P4) (o:Nat) (l:List AV) (h:Hp) (k:Hp→RV):RV:=Obj.bz (au i h) (fun el n ex fl c=>Bool.rec (.err 78) (Bool.rec (.err 79) (k (cN i (.cells el n ex fl (fm l o c)) h)) (Nat.ble (Nat.add o l.length) n)) (wr fl)) (.err 80)
def Av (el es n m:Nat) (old new:List AV) (h:Hp):RV:=wH el .plain es (Nat.add n m) (List.append old new) h
def nM (i:P4) (el k:Nat) (fl:Fl) (c:Cl) (n es:Nat) (h:Hp):RV:=oV el false fl k c (cN i .dead h) (fun j h=>.ok (.fX j 0 n es) h)
def NA (elt es m:Nat) (new:List AV) (i:P4) (o n:Nat) (h:Hp):RV:=Obj.bz (au i h) (fun el k ex fl c=>Bool.rec (.err 82) (Bool.rec (Bool.rec (.err 83) (Bool.rec (Bool.rec (nM i el (Nat.mul (Nat.add n m) es) fl (mu (List.append (bB (Nat.mul n es) c o) new)) (Nat.add n m) es h) (nM i el (Nat.mul (Nat.add n m) es) fl (fm new k (sK (Nat.mul (Nat.add n m) es) c)) (Nat.add n m) es h) (Bool.and (Nat.beq o 0) (Nat.beq (Nat.mul n es) k))) (.err 81) (Bool.or ex (Bool.not (Nat.beq elt el)))) (Nat.ble (Nat.add o (Nat.mul n es)) k)) (.ok (.fX i o (Nat.add n m) es) (cN i (.cells el k ex fl (fm new (Nat.add o (Nat.mul n es)) c)) h)) (Nat.ble (Nat.add o (Nat.mul (Nat.add n m) es)) k)) (wr fl)) (.err 84)
def He (el es m:Nat) (new:List AV) (s:AV) (h:Hp):RV:=AV.jl s
 (fun i o n cap=>Bool.rec (lu es i o n h (fun old=>Av el es n m old new h) (.err 77)) (Nat.rec (.ok (.slice i o n cap) h) (fun m _=>lx i (Nat.add o (Nat.mul n es)) new h (fun h=>.ok (.slice i o (Nat.add n (Nat.succ m)) cap) h)) m) (Nat.ble (Nat.add n m) cap))
 (fun i o n es'=>Bool.rec (.err 81) (Nat.rec (.ok (.fX i o n es) h) (fun m _=>NA el es (Nat.succ m) new i o n h) m) (Nat.beq es es'))
 (Nat.rec (.ok .ai h) (fun m _=>Av el es 0 (Nat.succ m) .nil new h) m) (.err 85)
def sS (x:AV) (k:Nat→RV) (e:RV):RV:=AV.jl x (fun _ _ n _=>k n) (fun _ _ n _=>k n) (k 0) e
def cX (el es:Nat) (x y:AV) (h:Hp):RV:=sS y (fun m=>Bool.rec (.err 86) (elems es y h (fun new=>He el es m new x h) (.err 87)) (Nat.ble (Nat.mul m es) 4294967296)) (.err 88)
def vk (el es:Nat) (x y:AO) (r:A2) (h:Hp):RV:=cX el es (ev x r) (ev y r) h
def mF (el es:Nat) (z:List AV) (x y:AO) (r:A2) (h:Hp):RV:=en (ev y r) (fun n=>Bool.rec (.err 230) (He el es n (dP n z) (ev x r) h) (Nat.ble (Nat.mul n es) 1048576)) (.err 231)
def sU (el:Nat) (x y:AO) (r:A2) (h:Hp):RV:=AV.iQ (ev y r) (fun s=>He el 1 s.length (byteCells s) (ev x r) h) (.err 89)
def yQ (l:List AV) (s:AV) (h:Hp) (k:Hp→RV):RV:=List.rec (k h) (fun a t _=>AV.jl s
 (fun i o _ _=>lx i o (.cons a t) h k) (fun i o _ _=>lx i o (.cons a t) h k) (.err 93) (.err 93)) l
def WU (es:Nat) (x y:AV) (h:Hp):RV:=sS x (fun n=>OS.rec (sS y (fun m=>elems es y h (fun l=>yQ (List.take (Nat.mul n es) l) x h (fun h=>.ok (hH (Nat.min m n)) h)) (.err 94)) (.err 94)) (fun s=>Bool.rec (.err 94) (yQ (byteCells (List.take n s)) x h (fun h=>.ok (hH (Nat.min s.length n)) h)) (Nat.beq es 1)) y.yF) (.err 94)
def vl (es:Nat) (x y:AO) (r:A2) (h:Hp):RV:=WU es (ev x r) (ev y r) h
def WV (z:List AV) (x:AV) (h:Hp):RV:=sS x (fun n=>yQ (dP n z) x h (fun h=>.ok cA h)) (.err 95)
def vm (z:List AV) (x:AO) (r:A2) (h:Hp):RV:=WV z (ev x r) h
def wN (x:AO) (r:A2) (h:Hp):RV:=AV.iQ (ev x r) (fun s=>iu (.BR s 0) h wb) (.err 96)
def gF (x:AO) (r:A2) (h:Hp):RV:=AV.dN (ev x r) (fun m=>Obj.dN (au m h) (fun _ c=>iu (.vg m c .nil c) h wb) (.err 97)) (iu .BS h wb) (.err 97)
def WW (d:Nat×Nat) (k:Nat→Nat→RV):RV:=k d.1 d.2
def WX (s:List Nat) (k:Nat→Nat→RV) (e:RV):RV:=List.rec e (fun b t _=>Bool.rec (WW (Utf8.decode ⟨((b::t).map UInt8.ofNat).toArray⟩ 0) k) (k b 1) (Nat.ble b 127)) s
def Hf (x:Nat) (l:List Nat):Bool:=bQ false (fun y _ ih=>Bool.rec ih true (Nat.beq x y)) l
def dv (seen:List Nat) (l:List KV):List KV:=bQ .nil (fun y _ ih=>KV.rec (fun _ _ b=>Bool.rec (.cons y ih) ih (Hf b seen)) y) l
def pq (since:Nat) (l:List KV):Bool:=bQ false (fun y _ ih=>KV.rec (fun _ _ b=>Bool.rec ih true (Nat.ble since b)) y) l
def over (h:Hp):RV:=.ok (.bU (.cons (.bool false) .nil)) h
def kJ (last:Nat) (l:List KV):Bool:=bQ true (fun y _ ih=>KV.rec (fun _ _ b=>Bool.rec false ih (Nat.ble last b)) y) l
def ZV (i:P4) (s:List Nat) (pos:Nat) (h:Hp):RV:=List.rec (over h) (fun b t _=>WX (.cons b t) (fun c n=>.ok (.bU (.cons (.bool true) (.cons (hH pos) (.cons (.int .i32 (.ofNat c)) .nil)))) (cN i (.BR s (Nat.add pos n)) h)) (.err 99)) (List.drop pos s)
def RV.kr (v:RV):RT:=RV.rec (fun v h=>.ok v h) (fun n=>.err n) v
def nth {α β:Type} (l:List α) (k:α→β) (e:β):Nat→β:=bQ (β:=Nat→β) (fun _=>e) (fun a _ ih i=>Nat.rec (k a) (fun i _=>ih i) i) l
def fq {α:Type} (l:List α):Bool:=List.rec true (fun _ _ _=>false) l
def vp (i m:P4) (since:Nat) (seen:List Nat) (clock:Nat) (h:Hp) (y:KV):RT:=KV.rec (fun k v b=>.ok (.bU (.cons (.bool true) (.cons k (.cons v .nil)))) (cN i (.vg m since (List.append seen (.cons b .nil)) clock) h)) y
def Uh (f:KV→RT) (h:Hp) (u:List KV):RT:=List.rec (over h).kr (fun y t _=>List.rec (f y) (fun _ _ _=>.ch (List.length u) (nth u f (.err 102))) t) u
def Ui (i m:P4) (since:Nat) (seen:List Nat) (last:Nat) (h:Hp):RT:=LC.rec (.err 98) (fun l clock=>Bool.rec (.err 243) (Bool.rec (Bool.rec (Uh (vp i m since seen clock h) h (dv seen l)) (.err 100) (Bool.and (Bool.not (fq seen)) (Bool.and (Bool.not (fq l)) (kJ last l)))) (.err 103) (pq since l)) (eH (Nat.ble dH since) (Nat.ble dH clock))) (au m h).dR
def WY (x:AV) (h:Hp):RT:=OP.rec (.err 98) (fun i o=>Nat.rec (Obj.rec (.err 98) (.err 98) (fun _ _ _ _ _=>.err 98) (fun _ _=>.err 98) (fun s pos=>(ZV i s pos h).kr) (fun _ _ _ _=>.err 98) (.err 98) (au i h)) (fun _ _=>.err 98) o) x.fo
def Hg (x:AV) (h:Hp):RT:=OP.rec (.err 98) (fun i o=>Nat.rec (Obj.rec (.err 98) (.err 98) (fun _ _ _ _ _=>.err 98) (fun _ _=>.err 98) (fun _ _=>.err 98) (fun m since seen last=>Ui i m since seen last h) (over h).kr (au i h)) (fun _ _=>.err 98) o) x.fo
def hE (s:Bool) (x:AV) (h:Hp):RT:=Bool.rec (Hg x h) (WY x h) s
def Hh (b:Nat) (l:List KV) (k:AV→AV→RV) (e:RV):RV:=bQ e (fun y _ ih=>KV.rec (fun a v c=>Bool.rec ih (k a v) (Nat.beq b c)) y) l
def Hi (l:List Nat) (k:Nat→RV) (e:RV):RV:=bQ e (fun x t ih=>List.rec (k x) (fun _ _ _=>ih) t) l
def SJ (m:P4) (seen:List Nat) (stepped:Nat) (h:Hp):RV:=Hi seen (fun b=>Obj.dN (au m h) (fun l clock=>Bool.rec (.err 105) (Hh b l (fun k v=>.ok (.bU (.cons k (.cons v .nil))) h) (.err 106)) (Nat.beq clock stepped)) (.err 104)) (.err 107)
def kG (x:AO) (r:A2) (h:Hp):RV:=AV.eK (ev x r) (fun i o=>Nat.rec (Obj.rec (.err 104) (.err 104) (fun _ _ _ _ _=>.err 104) (fun _ _=>.err 104) (fun _ _=>.err 104) (fun m _ seen stepped=>SJ m seen stepped h) (.err 104) (au i h)) (fun _ _=>.err 104) o) (.err 104)
def KU (t:Nat) (z:AV) (ok:Bool) (x:AV) (h:Hp):RV:=AV.Ar x
 (fun u v=>Bool.rec (Bool.rec (.err 109) (Ca true false z h) ok) (Ca ok true v h) (Nat.beq t u))
 (Bool.rec (.err 109) (Ca true false z h) ok) (.err 108)
def Cg (t:Nat) (z:AV) (ok:Bool) (x:AO) (r:A2) (h:Hp):RV:=KU t z ok (ev x r) h
def jx (k:FloatKind) (x y:AO) (r:A2) (h:Hp):RV:=AV.pW (ev x r) (fun k1 a=>AV.pW (ev y r) (fun k2 b=>Bool.rec (.err 110) (.ok (.aj k a b) h) (Bool.and (wG k k1) (wG k k2))) (.err 110)) (.err 110)
def fD (im:Bool) (x:AO) (r:A2) (h:Hp):RV:=AV.sM (ev x r) (fun k a b=>.ok (.fi k (Bool.rec a b im)) h) (.err 111)
def mM (x:AO) (r:A2) (h:Hp):RV:=AV.jl (ev x r) (fun i o _ c=>Nat.rec (.err 112) (fun _ _=>.ok (.ptr i o) h) c) (fun i o n _=>Nat.rec (.err 112) (fun _ _=>.ok (.ptr i o) h) n) (.ok .di h) (.err 112)
def pr (el:Nat) (x y:AO) (r:A2) (h:Hp):RV:=en (ev y r) (fun n=>Nat.rec (OP.rec (Bool.rec (.err 113) (.ok (.str .nil) h) (eW (ev x r))) (fun _ _=>.ok (.str .nil) h) (ev x r).fo) (fun n _=>AV.eK (ev x r) (fun i o=>Obj.bz (au i h) (fun el' m ex _ c=>Bool.rec (.err 114) (hM (bB (Nat.succ n) c o) (fun s=>.ok (.str s) (cN i (.cells el' m ex .wE c) h)) (.err 115)) (Bool.and (Nat.ble n 1048576) (Bool.and (Nat.beq el el') (Nat.ble (Nat.add o (Nat.succ n)) m)))) (.err 116)) (.err 117)) n) (.err 118)
inductive oG where
 | mv (x:AO)
 | pick (c a b:AO)
 | alloc (el n:Nat) (c:Cl)
 | box (el:Nat) (x:AO)
 | build (z:List AV) (ps:List Part)
 | bN (el es n:Nat) (z:List AV) (ps:List Part)
 | bZ (x:AO)
 | jO (m:Nat) (x:AO)
 | Ub (x y:AO)
 | uK (m:Nat) (x y:AO)
 | nq (x:AO)
 | bin (op:BK) (x y:AO)
 | un (op:UK) (x:AO)
 | conv (op:CK) (x:AO)
 | QW (t:Nat) (x:AO)
 | Vh (f:Nat) (xs:List AO)
 | nt
 | nu (el:Nat) (z:List AV) (l c:AO)
 | Vi (es:Nat) (x:AO) (lo hi mx:OA)
 | KM (x:AO) (lo hi:OA)
 | KN (len es:Nat) (x:AO) (lo hi mx:OA)
 | cG (d:Nat) (x:AO)
 | KP (d:Nat) (x:AO)
 | KQ (d n:Nat) (x:AO)
 | cn (es:Nat) (x y:AO)
 | Up (len es:Nat) (x y:AO)
 | idxs (x y:AO)
 | KR (len es:Nat) (agg:Bool) (x y:AO)
 | ext (i:Nat) (x:AO)
 | wg (t:KT) (z:AV) (ok:Bool) (x y:AO)
 | yn (t:KT) (x y z:AO)
 | del (t:KT) (x y:AO)
 | FY (x:AO)
 | len (x:AO)
 | iw (x:AO)
 | cap (x:AO)
 | max (mn:Bool) (xs:List AO)
 | app (el es:Nat) (x y:AO)
 | apps (el:Nat) (x y:AO)
 | Vj (es:Nat) (x y:AO)
 | Vk (z:List AV) (x:AO)
 | KS (x:AO)
 | CT (x:AO)
 | ML (x:AO)
 | KU (t:Nat) (z:AV) (ok:Bool) (x:AO)
 | aj (k:FloatKind) (x y:AO)
 | real (im:Bool) (x:AO)
 | KW (x:AO)
 | FZ (el:Nat) (x y:AO)
 | yo (t:KT) (z:AV) (x y:AO)
 | yp (x y z:AO)
 | Ga (el es:Nat) (z:List AV) (x y:AO)
 | bad (n:Nat)
def oG.run (op:oG):A2→Hp→RV:=oG.rec (motive:=fun _=>A2→Hp→RV) LI dm BX yI jm fN iE pX sO yJ pd Nu LH sP yK yL qu iR eo mL pe rZ pf ph sg vi gG pk vj Cb Cc Cd po Ce wM pV yP vk sU vl vm wN gF kG Cg jx fD mM pr wK wL mF (fun n _ _=>.err n) op
inductive AI where
 | op (o:oG)
 | uM (s:Bool) (x:AO)
 | call (f:Nat) (xs:List AO)
 | jK (x:AO) (xs:List AO)
 | inv (name:Nat) (x:AO) (xs:List AO)
inductive aH where
 | no
 | t (a b:H)
inductive GI where
 | o (d:aH) (i:AI)
 | g (a b:H) (w:Bool) (d:aH) (i:AI)
inductive Bk where
 | dM
 | rd (n:Nat)
 | new
inductive DI where
 | mk (b:Bk) (g:GI)
abbrev Cf:=Nat→List AV→Hp→RT
abbrev Iv:=Nat→AV→List AV→Hp→RT
inductive AC where
 | skip
 | ops (l:List GI)
 | iB (l:List DI)
 | seq (a b:AC)
 | cond (c:AO) (a b:AC)
 | block (i:Nat) (a:AC)
 | loop (a:AC)
 | scope (a:AC)
 | sat (a c:AC)
 | exit (i:Nat)
 | goto (l:Nat)
 | label (l:Nat)
 | ret
 | join (a:AC)
 | bad (n:Nat)
 | ah (f:Cf→Iv→(A2→Hp→RS)→A2→Hp→RS) (x:AC)
 | alt (a b:AC)
 | Rb (q:Nat) (l:List GI)
inductive Rs where
 | t (a b:H)
 | one (a b:H)
 | agg (n:Nat) (a b:H)
inductive SW where
 | mk (i:P4) (r:Nat)
inductive PK where
 | crc
 | put (el:Nat)
 | get
 | wit (l:List SW)
 | Gt
 | Lk (el:Nat)
 | BH
 | NU (f:Nat) (l0 l1 k0 kn k2 k3 ra rb l4:List GI)
 | ins (el es:Nat)
 | fn (g:List AV→Hp→RT)
def mz (c:Nat):Nat:=Nat.xor (Nat.shiftRight c 1) (Nat.mul (Nat.land c 1) 3988292384)
def Ab (c:Nat):Nat:=mz (mz (mz (mz (mz (mz (mz (mz c)))))))
def Gj (s:List Nat):Nat→Nat:=bQ (β:=Nat→Nat) (fun c=>c) (fun b _ ih c=>ih (Ab (Nat.xor c b))) s
def Rf (s:List Nat):Nat:=Nat.xor 4294967295 (Gj s 4294967295)
def WZ (x:AV) (h:Hp):RV:=elems 1 x h (fun l=>hM l (fun s=>.ok (.int .u32 (.ofNat (Rf s))) h) (.err 140)) (.err 141)
def pY (v:RV) (k:AV→Hp→RV):RV:=RV.rec k (fun n=>.err n) v
def YH (el:Nat) (p:AV) (b:Nat) (h:Hp):RV:=pY (iE (.c p) .nil h) (fun s h=>pY (He el 1 1 (.cons (.int .u8 (.ofNat b)) .nil) s h) (fun v h=>sO (.c p) (.c v) .nil h))
def YI (el:Nat) (p:AV) (m:Nat):Nat→Hp→RV:=Nat.rec (fun _ h=>.ok cA h) (fun _ ih n h=>pY (YH el p (Nat.mod n 256) h) (fun _ h=>ih (Nat.div n 256) h)) m
def Xa (el:Nat) (p n m:AV) (h:Hp):RV:=AV.eK p (fun i o=>en n (fun n=>en m (fun m=>YI el (.ptr i o) m n h) (.err 142)) (.err 142)) (.err 142)
def ZW (s:List Nat):Nat:=bQ 0 (fun b _ ih=>Nat.add (Nat.mul 256 ih) b) s
def SK (i:P4) (o m a:Nat) (s:AV) (h:Hp):RV:=pY (eo 1 (.c s) (.some (.c (.int .i64 (.ofNat a)))) (.some (.c (.int .i64 (.ofNat (Nat.add a m))))) .none .nil h) (fun x _=>
 elems 1 x h (fun l=>hM l (fun b=>pY (sO (.c (.ptr i (Nat.add o 1))) (.c (.int .i64 (.ofNat (Nat.add a m)))) .nil h) (fun _ h=>.ok (.int .u64 (.ofNat (ZW b))) h)) (.err 143)) (.err 144))
def SL (i:P4) (o m:Nat) (h:Hp):RV:=pY (iE (.c (.ptr i (Nat.add o 2))) .nil h) (fun w _=>AV.dp w (fun _ n=>Bool.rec (.err 145) (pY (iE (.c (.ptr i (Nat.add o 1))) .nil h) (fun a _=>en a (fun a=>pY (iE (.c (.ptr i o)) .nil h) (fun s _=>sS s (fun n=>Bool.rec (.err 146) (SK i o m a s h) (Nat.ble (Nat.add a m) n)) (.err 147))) (.err 148))) (uk n (.ofNat 0))) (.err 145))
def Xb (p m:AV) (h:Hp):RV:=AV.eK p (fun i o=>en m (fun m=>Bool.rec (.err 149) (SL i o m h) (Nat.ble m 8)) (.err 149)) (.err 149)
def bL (d:aH):AV→A2→A2:=aH.rec (motive:=fun _=>AV→A2→A2) (fun _ r=>r) dj d
def dI (l:List AV):Nat→A2→A2:=bQ (fun _ r=>r) (fun v _ ih i r=>ih (Nat.succ i) (dj (bR (Nat.div i 16)) (bR (Nat.mod i 16)) v r)) l
def eP (k:A2→Hp→RT) (l:List GI):A2→Hp→RT:=bQ (β:=A2→Hp→RT) k (fun i _ ih r h=>GI.rec (fun d i=>AI.rec (fun op=>RV.rec (fun v h=>ih (bL d v r) h) (fun n=>.err n) (op.run r h)) (fun s x=>RT.elim (fun v h=>ih (bL d v r) h) (fun n=>.err n) (fun n f=>.ch n f) (hE s (ev x r) h)) (fun _ _=>.err 161) (fun _ _=>.err 161) (fun _ _ _=>.err 161) i) (fun _ _ _ _ _=>.err 161) i) l
def qw (x:AV) (k:Bool→RT) (e:RT):RT:=OB.rec e k x.asBool
def Gp (x:AV) (k:Nat→List AV→RT) (e:RT):RT:=Nn.rec e k x.Ap
def uU (l4:List GI) (r:A2) (h:Hp):RT:=eP (fun r h=>.ok (ar .h0 .h4 r) h) l4 r h
def BG (k:A2→Hp→RT) (kn k2 k3 ra rb:List GI) (r q:A2) (h:Hp):RT:=eP (fun q h=>eP (fun q h=>eP (fun r2 h=>eP (fun _ h=>eP k kn (dj .h0 .hd .undef (dj .h0 .hc .undef q)) h) rb r2 h) ra (dj .h0 .h7 (ar .h0 .hb q) r) h) k3 (dj .h0 .ha .undef q) h) k2 q h
def Af (kn k2 k3 ra rb l4:List GI) (r:A2):Nat→A2→Hp→RT:=nO (β:=A2→Hp→RT) (fun _ _=>.err 155)
 (fun _ ih q h=>qw (ar .h0 .h7 q) (fun t=>Bool.rec (uU l4 r h) (BG ih kn k2 k3 ra rb r q h) t) (.err 156))
def Ae (k0 kn k2 k3 ra rb l4:List GI) (r:A2) (c:AV) (h:Hp):RT:=eP (fun q h=>eP (Af kn k2 k3 ra rb l4 r 12) kn q h) k0 (dI (.cons .undef (.cons c .nil)) 0 .nil) h
def Ni (f:Nat) (k0 kn k2 k3 ra rb l4:List GI) (r:A2) (h:Hp):RT:=Gp (ar .h0 .h6 r) (fun g cs=>Bool.rec (.err 153) (List.rec (.err 153) (fun c t _=>List.rec (Ae k0 kn k2 k3 ra rb l4 r c h) (fun _ _ _=>.err 153) t) cs) (Nat.beq f g)) (.err 153)
def wt (f:Nat) (l0 l1 k0 kn k2 k3 ra rb l4:List GI) (s x:AV) (h:Hp):RT:=eP (fun r h=>eP (Ni f k0 kn k2 k3 ra rb l4) l1 r h) l0 (dI (.cons s (.cons x .nil)) 0 .nil) h
def sv (l:List AV) (k:AV→RV):RV:=List.rec (.err 154) (fun a t _=>List.rec (k a) (fun _ _ _=>.err 154) t) l
def NC (l:List AV) (k:AV→AV→RV):RV:=List.rec (.err 154) (fun a t _=>sv t (fun b=>k a b)) l
def yC (l:List AV) (k:AV→AV→AV→RV):RV:=List.rec (.err 154) (fun a t _=>NC t (fun b c=>k a b c)) l
def SM (l:List AV) (k:AV→AV→RT):RT:=List.rec (.err 154) (fun a t _=>List.rec (.err 154) (fun b t _=>List.rec (k a b) (fun _ _ _=>.err 154) t) t) l
def SN (l:List SW) (i:P4):RV→(Nat→RV)→RV:=bQ (β:=RV→(Nat→RV)→RV) (fun e _=>e) (fun y _ ih e k=>SW.rec (fun j r=>Bool.rec (ih e k) (k r) (lk i j)) y) l
def Xc (l:List SW) (x lo hi:AV) (h:Hp):RV:=AV.rec (motive_2:=fun _=>PUnit) (.err 170) (fun _=>.err 170) (fun _ _=>.err 170) (fun _=>.err 170) (fun _ _=>.err 170) (fun _ _ _=>.err 170) (fun _ _=>.err 170) (.err 170) (fun _ _ _ _=>.err 170) (fun _ _ _ _=>.err 170) (.err 170) (fun _=>.err 170) (.err 170) (fun _ _ _=>.err 170) (.err 170) (fun _ _ _=>.err 170) (.err 170) (fun _ _=>.err 170) (fun _ _=>.err 170) (fun i=>AV.dp lo (fun kl lo=>AV.dp hi (fun kh hi=>Bool.rec (.err 171) (Bool.rec (.err 171) (Bool.rec (.err 171) (Bool.rec (.err 171) (SN l i (.err 172) (fun r=>.ok (.int .i64 (.ofNat r)) h)) (uk hi (.ofNat 4))) (uk lo (.ofNat 0))) (BZ kh)) (BZ kl)) (.err 171)) (.err 171)) PUnit.unit (fun _ _ _ _=>PUnit.unit) x
def Ag (el:Nat) (x:AV) (h:Hp):RV:=AV.dp x (fun k n=>Bool.rec (.err 195) (Int.rec (fun n=>Bool.rec (.err 196) (wH el .plain 1 n (dP n (.cons .undef .nil)) h) (Nat.ble n 65536)) (fun _=>.err 196) n) (BZ k)) (.err 195)
def SO (x:Nat) (h:Hp):RV:=match FloatKind.f64.decode x with
 | .nan _ _=>.err 180
 | d=>.ok (.fi .f64 (FloatKind.f64.encode (d.integral .zero))) h
def Xd (k:FloatKind):Bool:=FloatKind.rec false true k
def wu (x:AV) (h:Hp):RV:=AV.pW x (fun k n=>Bool.rec (.err 181) (SO n h) (Xd k)) (.err 181)
def LL (f:Fl):Bool:=Fl.rec true false false f
def An (el es:Nat) (i:P4) (n q m:Nat) (new:List AV) (h:Hp):RV:=Obj.bz (au i h) (fun el' k ex fl c=>Bool.rec (.err 247) (Bool.rec (.err 247) (Bool.rec (.err 247) (Bool.rec (.err 247) (nM i el (Nat.mul (Nat.add n m) es) fl (mu (List.append (List.take (Nat.mul q es) (bB (Nat.mul n es) c 0)) (List.append new (List.drop (Nat.mul q es) (bB (Nat.mul n es) c 0))))) (Nat.add n m) es h) (Nat.beq (Nat.mul n es) k)) (Nat.beq el el')) (Bool.not ex)) (wr fl)) (.err 248)
def wD (el es:Nat) (i:P4) (o n es' q:Nat) (j:P4) (o2 m:Nat) (h:Hp):RV:=Bool.rec (.err 241) (Bool.rec (.err 241) (Bool.rec (.err 242) (Bool.rec (.err 242) (Bool.rec (.err 243) (Obj.bz (au j h) (fun _ k2 _ fl2 c2=>Bool.rec (.err 244) (Bool.rec (.err 245) (An el es i n q m (bB (Nat.mul m es) c2 o2) h) (Nat.ble (Nat.add o2 (Nat.mul m es)) k2)) (LL fl2)) (.err 246)) (Bool.not (lk i j))) (Nat.ble 1 m)) (Nat.ble (Nat.succ q) n)) (Nat.beq o 0)) (Nat.beq es es')
def BP (el es:Nat) (s x y:AV) (h:Hp):RV:=AV.jl s (fun _ _ _ _=>.err 240) (fun i o n es'=>AV.dp x (fun kd z=>Bool.rec (.err 249) (Int.rec (fun q=>AV.jl y (fun j o2 m _=>wD el es i o n es' q j o2 m h) (fun _ _ _ _=>.err 240) (.err 240) (.err 240)) (fun _=>.err 249) z) (BZ kd)) (.err 249)) (.err 240) (.err 240)
def dg (k:PK) (args:List AV) (h:Hp):RT:=PK.rec (sv args (fun x=>WZ x h)).kr (fun el=>(yC args (fun p n m=>Xa el p n m h)).kr) (NC args (fun p m=>Xb p m h)).kr (fun l=>(yC args (fun x lo hi=>Xc l x lo hi h)).kr) (sv args (fun x=>.ok x h)).kr (fun el=>(sv args (fun x=>Ag el x h)).kr) (sv args (fun x=>wu x h)).kr (fun f l0 l1 k0 kn k2 k3 ra rb l4=>SM args (fun s x=>wt f l0 l1 k0 kn k2 k3 ra rb l4 s x h)) (fun el es=>(yC args (fun s x y=>BP el es s x y h)).kr) (fun g=>g args h) k
inductive AF where
 | none
 | mk (body:AC) (res:List Rs)
 | oU (k:PK) (body:AC) (res:List Rs)
 | Ek (body:AC) (res:List Rs)
 | ext (k:PK)
inductive F1 where
 | nil
 | mk (a0 a1 a2 a3 a4 a5 a6 a7 a8 a9 aa ab ac ad ae af:AF)
def F1.g0 (x:F1):AF:=F1.rec .none (fun a0 a1 a2 a3 a4 a5 a6 a7 a8 a9 aa ab ac ad ae af=>a0) x
def F1.g1 (x:F1):AF:=F1.rec .none (fun a0 a1 a2 a3 a4 a5 a6 a7 a8 a9 aa ab ac ad ae af=>a1) x
def F1.g2 (x:F1):AF:=F1.rec .none (fun a0 a1 a2 a3 a4 a5 a6 a7 a8 a9 aa ab ac ad ae af=>a2) x
def F1.g3 (x:F1):AF:=F1.rec .none (fun a0 a1 a2 a3 a4 a5 a6 a7 a8 a9 aa ab ac ad ae af=>a3) x
def F1.g4 (x:F1):AF:=F1.rec .none (fun a0 a1 a2 a3 a4 a5 a6 a7 a8 a9 aa ab ac ad ae af=>a4) x
def F1.g5 (x:F1):AF:=F1.rec .none (fun a0 a1 a2 a3 a4 a5 a6 a7 a8 a9 aa ab ac ad ae af=>a5) x
def F1.g6 (x:F1):AF:=F1.rec .none (fun a0 a1 a2 a3 a4 a5 a6 a7 a8 a9 aa ab ac ad ae af=>a6) x
def F1.g7 (x:F1):AF:=F1.rec .none (fun a0 a1 a2 a3 a4 a5 a6 a7 a8 a9 aa ab ac ad ae af=>a7) x
def F1.g8 (x:F1):AF:=F1.rec .none (fun a0 a1 a2 a3 a4 a5 a6 a7 a8 a9 aa ab ac ad ae af=>a8) x
def F1.g9 (x:F1):AF:=F1.rec .none (fun a0 a1 a2 a3 a4 a5 a6 a7 a8 a9 aa ab ac ad ae af=>a9) x
def F1.ga (x:F1):AF:=F1.rec .none (fun a0 a1 a2 a3 a4 a5 a6 a7 a8 a9 aa ab ac ad ae af=>aa) x
def F1.gb (x:F1):AF:=F1.rec .none (fun a0 a1 a2 a3 a4 a5 a6 a7 a8 a9 aa ab ac ad ae af=>ab) x
def F1.gc (x:F1):AF:=F1.rec .none (fun a0 a1 a2 a3 a4 a5 a6 a7 a8 a9 aa ab ac ad ae af=>ac) x
def F1.gd (x:F1):AF:=F1.rec .none (fun a0 a1 a2 a3 a4 a5 a6 a7 a8 a9 aa ab ac ad ae af=>ad) x
def F1.ge (x:F1):AF:=F1.rec .none (fun a0 a1 a2 a3 a4 a5 a6 a7 a8 a9 aa ab ac ad ae af=>ae) x
def F1.gf (x:F1):AF:=F1.rec .none (fun a0 a1 a2 a3 a4 a5 a6 a7 a8 a9 aa ab ac ad ae af=>af) x
def F1.get (d:H):F1→AF:=H.rec (motive:=fun _=>F1→AF) F1.g0 F1.g1 F1.g2 F1.g3 F1.g4 F1.g5 F1.g6 F1.g7 F1.g8 F1.g9 F1.ga F1.gb F1.gc F1.gd F1.ge F1.gf d
def F1.s0 (v:AF) (x:F1):F1:=F1.rec (motive:=fun _=>AF→F1) (fun v=>.mk v .none .none .none .none .none .none .none .none .none .none .none .none .none .none .none) (fun a0 a1 a2 a3 a4 a5 a6 a7 a8 a9 aa ab ac ad ae af=>fun v=>.mk v a1 a2 a3 a4 a5 a6 a7 a8 a9 aa ab ac ad ae af) x v
def F1.s1 (v:AF) (x:F1):F1:=F1.rec (motive:=fun _=>AF→F1) (fun v=>.mk .none v .none .none .none .none .none .none .none .none .none .none .none .none .none .none) (fun a0 a1 a2 a3 a4 a5 a6 a7 a8 a9 aa ab ac ad ae af=>fun v=>.mk a0 v a2 a3 a4 a5 a6 a7 a8 a9 aa ab ac ad ae af) x v
def F1.s2 (v:AF) (x:F1):F1:=F1.rec (motive:=fun _=>AF→F1) (fun v=>.mk .none .none v .none .none .none .none .none .none .none .none .none .none .none .none .none) (fun a0 a1 a2 a3 a4 a5 a6 a7 a8 a9 aa ab ac ad ae af=>fun v=>.mk a0 a1 v a3 a4 a5 a6 a7 a8 a9 aa ab ac ad ae af) x v
def F1.s3 (v:AF) (x:F1):F1:=F1.rec (motive:=fun _=>AF→F1) (fun v=>.mk .none .none .none v .none .none .none .none .none .none .none .none .none .none .none .none) (fun a0 a1 a2 a3 a4 a5 a6 a7 a8 a9 aa ab ac ad ae af=>fun v=>.mk a0 a1 a2 v a4 a5 a6 a7 a8 a9 aa ab ac ad ae af) x v
def F1.s4 (v:AF) (x:F1):F1:=F1.rec (motive:=fun _=>AF→F1) (fun v=>.mk .none .none .none .none v .none .none .none .none .none .none .none .none .none .none .none) (fun a0 a1 a2 a3 a4 a5 a6 a7 a8 a9 aa ab ac ad ae af=>fun v=>.mk a0 a1 a2 a3 v a5 a6 a7 a8 a9 aa ab ac ad ae af) x v
def F1.s5 (v:AF) (x:F1):F1:=F1.rec (motive:=fun _=>AF→F1) (fun v=>.mk .none .none .none .none .none v .none .none .none .none .none .none .none .none .none .none) (fun a0 a1 a2 a3 a4 a5 a6 a7 a8 a9 aa ab ac ad ae af=>fun v=>.mk a0 a1 a2 a3 a4 v a6 a7 a8 a9 aa ab ac ad ae af) x v
def F1.s6 (v:AF) (x:F1):F1:=F1.rec (motive:=fun _=>AF→F1) (fun v=>.mk .none .none .none .none .none .none v .none .none .none .none .none .none .none .none .none) (fun a0 a1 a2 a3 a4 a5 a6 a7 a8 a9 aa ab ac ad ae af=>fun v=>.mk a0 a1 a2 a3 a4 a5 v a7 a8 a9 aa ab ac ad ae af) x v
def F1.s7 (v:AF) (x:F1):F1:=F1.rec (motive:=fun _=>AF→F1) (fun v=>.mk .none .none .none .none .none .none .none v .none .none .none .none .none .none .none .none) (fun a0 a1 a2 a3 a4 a5 a6 a7 a8 a9 aa ab ac ad ae af=>fun v=>.mk a0 a1 a2 a3 a4 a5 a6 v a8 a9 aa ab ac ad ae af) x v
def F1.s8 (v:AF) (x:F1):F1:=F1.rec (motive:=fun _=>AF→F1) (fun v=>.mk .none .none .none .none .none .none .none .none v .none .none .none .none .none .none .none) (fun a0 a1 a2 a3 a4 a5 a6 a7 a8 a9 aa ab ac ad ae af=>fun v=>.mk a0 a1 a2 a3 a4 a5 a6 a7 v a9 aa ab ac ad ae af) x v
def F1.s9 (v:AF) (x:F1):F1:=F1.rec (motive:=fun _=>AF→F1) (fun v=>.mk .none .none .none .none .none .none .none .none .none v .none .none .none .none .none .none) (fun a0 a1 a2 a3 a4 a5 a6 a7 a8 a9 aa ab ac ad ae af=>fun v=>.mk a0 a1 a2 a3 a4 a5 a6 a7 a8 v aa ab ac ad ae af) x v
def F1.sa (v:AF) (x:F1):F1:=F1.rec (motive:=fun _=>AF→F1) (fun v=>.mk .none .none .none .none .none .none .none .none .none .none v .none .none .none .none .none) (fun a0 a1 a2 a3 a4 a5 a6 a7 a8 a9 aa ab ac ad ae af=>fun v=>.mk a0 a1 a2 a3 a4 a5 a6 a7 a8 a9 v ab ac ad ae af) x v
def F1.sb (v:AF) (x:F1):F1:=F1.rec (motive:=fun _=>AF→F1) (fun v=>.mk .none .none .none .none .none .none .none .none .none .none .none v .none .none .none .none) (fun a0 a1 a2 a3 a4 a5 a6 a7 a8 a9 aa ab ac ad ae af=>fun v=>.mk a0 a1 a2 a3 a4 a5 a6 a7 a8 a9 aa v ac ad ae af) x v
def F1.sc (v:AF) (x:F1):F1:=F1.rec (motive:=fun _=>AF→F1) (fun v=>.mk .none .none .none .none .none .none .none .none .none .none .none .none v .none .none .none) (fun a0 a1 a2 a3 a4 a5 a6 a7 a8 a9 aa ab ac ad ae af=>fun v=>.mk a0 a1 a2 a3 a4 a5 a6 a7 a8 a9 aa ab v ad ae af) x v
def F1.sd (v:AF) (x:F1):F1:=F1.rec (motive:=fun _=>AF→F1) (fun v=>.mk .none .none .none .none .none .none .none .none .none .none .none .none .none v .none .none) (fun a0 a1 a2 a3 a4 a5 a6 a7 a8 a9 aa ab ac ad ae af=>fun v=>.mk a0 a1 a2 a3 a4 a5 a6 a7 a8 a9 aa ab ac v ae af) x v
def F1.se (v:AF) (x:F1):F1:=F1.rec (motive:=fun _=>AF→F1) (fun v=>.mk .none .none .none .none .none .none .none .none .none .none .none .none .none .none v .none) (fun a0 a1 a2 a3 a4 a5 a6 a7 a8 a9 aa ab ac ad ae af=>fun v=>.mk a0 a1 a2 a3 a4 a5 a6 a7 a8 a9 aa ab ac ad v af) x v
def F1.sf (v:AF) (x:F1):F1:=F1.rec (motive:=fun _=>AF→F1) (fun v=>.mk .none .none .none .none .none .none .none .none .none .none .none .none .none .none .none v) (fun a0 a1 a2 a3 a4 a5 a6 a7 a8 a9 aa ab ac ad ae af=>fun v=>.mk a0 a1 a2 a3 a4 a5 a6 a7 a8 a9 aa ab ac ad ae v) x v
def F1.set (d:H):AF→F1→F1:=H.rec (motive:=fun _=>AF→F1→F1) F1.s0 F1.s1 F1.s2 F1.s3 F1.s4 F1.s5 F1.s6 F1.s7 F1.s8 F1.s9 F1.sa F1.sb F1.sc F1.sd F1.se F1.sf d
inductive F2 where
 | nil
 | mk (a0 a1 a2 a3 a4 a5 a6 a7 a8 a9 aa ab ac ad ae af:F1)
def F2.g0 (x:F2):F1:=F2.rec .nil (fun a0 a1 a2 a3 a4 a5 a6 a7 a8 a9 aa ab ac ad ae af=>a0) x
def F2.g1 (x:F2):F1:=F2.rec .nil (fun a0 a1 a2 a3 a4 a5 a6 a7 a8 a9 aa ab ac ad ae af=>a1) x
def F2.g2 (x:F2):F1:=F2.rec .nil (fun a0 a1 a2 a3 a4 a5 a6 a7 a8 a9 aa ab ac ad ae af=>a2) x
def F2.g3 (x:F2):F1:=F2.rec .nil (fun a0 a1 a2 a3 a4 a5 a6 a7 a8 a9 aa ab ac ad ae af=>a3) x
def F2.g4 (x:F2):F1:=F2.rec .nil (fun a0 a1 a2 a3 a4 a5 a6 a7 a8 a9 aa ab ac ad ae af=>a4) x
def F2.g5 (x:F2):F1:=F2.rec .nil (fun a0 a1 a2 a3 a4 a5 a6 a7 a8 a9 aa ab ac ad ae af=>a5) x
def F2.g6 (x:F2):F1:=F2.rec .nil (fun a0 a1 a2 a3 a4 a5 a6 a7 a8 a9 aa ab ac ad ae af=>a6) x
def F2.g7 (x:F2):F1:=F2.rec .nil (fun a0 a1 a2 a3 a4 a5 a6 a7 a8 a9 aa ab ac ad ae af=>a7) x
def F2.g8 (x:F2):F1:=F2.rec .nil (fun a0 a1 a2 a3 a4 a5 a6 a7 a8 a9 aa ab ac ad ae af=>a8) x
def F2.g9 (x:F2):F1:=F2.rec .nil (fun a0 a1 a2 a3 a4 a5 a6 a7 a8 a9 aa ab ac ad ae af=>a9) x
def F2.ga (x:F2):F1:=F2.rec .nil (fun a0 a1 a2 a3 a4 a5 a6 a7 a8 a9 aa ab ac ad ae af=>aa) x
def F2.gb (x:F2):F1:=F2.rec .nil (fun a0 a1 a2 a3 a4 a5 a6 a7 a8 a9 aa ab ac ad ae af=>ab) x
def F2.gc (x:F2):F1:=F2.rec .nil (fun a0 a1 a2 a3 a4 a5 a6 a7 a8 a9 aa ab ac ad ae af=>ac) x
def F2.gd (x:F2):F1:=F2.rec .nil (fun a0 a1 a2 a3 a4 a5 a6 a7 a8 a9 aa ab ac ad ae af=>ad) x
def F2.ge (x:F2):F1:=F2.rec .nil (fun a0 a1 a2 a3 a4 a5 a6 a7 a8 a9 aa ab ac ad ae af=>ae) x
def F2.gf (x:F2):F1:=F2.rec .nil (fun a0 a1 a2 a3 a4 a5 a6 a7 a8 a9 aa ab ac ad ae af=>af) x
def F2.get (d:H):F2→F1:=H.rec (motive:=fun _=>F2→F1) F2.g0 F2.g1 F2.g2 F2.g3 F2.g4 F2.g5 F2.g6 F2.g7 F2.g8 F2.g9 F2.ga F2.gb F2.gc F2.gd F2.ge F2.gf d
def F2.s0 (v:F1) (x:F2):F2:=F2.rec (motive:=fun _=>F1→F2) (fun v=>.mk v .nil .nil .nil .nil .nil .nil .nil .nil .nil .nil .nil .nil .nil .nil .nil) (fun a0 a1 a2 a3 a4 a5 a6 a7 a8 a9 aa ab ac ad ae af=>fun v=>.mk v a1 a2 a3 a4 a5 a6 a7 a8 a9 aa ab ac ad ae af) x v
def F2.s1 (v:F1) (x:F2):F2:=F2.rec (motive:=fun _=>F1→F2) (fun v=>.mk .nil v .nil .nil .nil .nil .nil .nil .nil .nil .nil .nil .nil .nil .nil .nil) (fun a0 a1 a2 a3 a4 a5 a6 a7 a8 a9 aa ab ac ad ae af=>fun v=>.mk a0 v a2 a3 a4 a5 a6 a7 a8 a9 aa ab ac ad ae af) x v
def F2.s2 (v:F1) (x:F2):F2:=F2.rec (motive:=fun _=>F1→F2) (fun v=>.mk .nil .nil v .nil .nil .nil .nil .nil .nil .nil .nil .nil .nil .nil .nil .nil) (fun a0 a1 a2 a3 a4 a5 a6 a7 a8 a9 aa ab ac ad ae af=>fun v=>.mk a0 a1 v a3 a4 a5 a6 a7 a8 a9 aa ab ac ad ae af) x v
def F2.s3 (v:F1) (x:F2):F2:=F2.rec (motive:=fun _=>F1→F2) (fun v=>.mk .nil .nil .nil v .nil .nil .nil .nil .nil .nil .nil .nil .nil .nil .nil .nil) (fun a0 a1 a2 a3 a4 a5 a6 a7 a8 a9 aa ab ac ad ae af=>fun v=>.mk a0 a1 a2 v a4 a5 a6 a7 a8 a9 aa ab ac ad ae af) x v
def F2.s4 (v:F1) (x:F2):F2:=F2.rec (motive:=fun _=>F1→F2) (fun v=>.mk .nil .nil .nil .nil v .nil .nil .nil .nil .nil .nil .nil .nil .nil .nil .nil) (fun a0 a1 a2 a3 a4 a5 a6 a7 a8 a9 aa ab ac ad ae af=>fun v=>.mk a0 a1 a2 a3 v a5 a6 a7 a8 a9 aa ab ac ad ae af) x v
def F2.s5 (v:F1) (x:F2):F2:=F2.rec (motive:=fun _=>F1→F2) (fun v=>.mk .nil .nil .nil .nil .nil v .nil .nil .nil .nil .nil .nil .nil .nil .nil .nil) (fun a0 a1 a2 a3 a4 a5 a6 a7 a8 a9 aa ab ac ad ae af=>fun v=>.mk a0 a1 a2 a3 a4 v a6 a7 a8 a9 aa ab ac ad ae af) x v
def F2.s6 (v:F1) (x:F2):F2:=F2.rec (motive:=fun _=>F1→F2) (fun v=>.mk .nil .nil .nil .nil .nil .nil v .nil .nil .nil .nil .nil .nil .nil .nil .nil) (fun a0 a1 a2 a3 a4 a5 a6 a7 a8 a9 aa ab ac ad ae af=>fun v=>.mk a0 a1 a2 a3 a4 a5 v a7 a8 a9 aa ab ac ad ae af) x v
def F2.s7 (v:F1) (x:F2):F2:=F2.rec (motive:=fun _=>F1→F2) (fun v=>.mk .nil .nil .nil .nil .nil .nil .nil v .nil .nil .nil .nil .nil .nil .nil .nil) (fun a0 a1 a2 a3 a4 a5 a6 a7 a8 a9 aa ab ac ad ae af=>fun v=>.mk a0 a1 a2 a3 a4 a5 a6 v a8 a9 aa ab ac ad ae af) x v
def F2.s8 (v:F1) (x:F2):F2:=F2.rec (motive:=fun _=>F1→F2) (fun v=>.mk .nil .nil .nil .nil .nil .nil .nil .nil v .nil .nil .nil .nil .nil .nil .nil) (fun a0 a1 a2 a3 a4 a5 a6 a7 a8 a9 aa ab ac ad ae af=>fun v=>.mk a0 a1 a2 a3 a4 a5 a6 a7 v a9 aa ab ac ad ae af) x v
def F2.s9 (v:F1) (x:F2):F2:=F2.rec (motive:=fun _=>F1→F2) (fun v=>.mk .nil .nil .nil .nil .nil .nil .nil .nil .nil v .nil .nil .nil .nil .nil .nil) (fun a0 a1 a2 a3 a4 a5 a6 a7 a8 a9 aa ab ac ad ae af=>fun v=>.mk a0 a1 a2 a3 a4 a5 a6 a7 a8 v aa ab ac ad ae af) x v
def F2.sa (v:F1) (x:F2):F2:=F2.rec (motive:=fun _=>F1→F2) (fun v=>.mk .nil .nil .nil .nil .nil .nil .nil .nil .nil .nil v .nil .nil .nil .nil .nil) (fun a0 a1 a2 a3 a4 a5 a6 a7 a8 a9 aa ab ac ad ae af=>fun v=>.mk a0 a1 a2 a3 a4 a5 a6 a7 a8 a9 v ab ac ad ae af) x v
def F2.sb (v:F1) (x:F2):F2:=F2.rec (motive:=fun _=>F1→F2) (fun v=>.mk .nil .nil .nil .nil .nil .nil .nil .nil .nil .nil .nil v .nil .nil .nil .nil) (fun a0 a1 a2 a3 a4 a5 a6 a7 a8 a9 aa ab ac ad ae af=>fun v=>.mk a0 a1 a2 a3 a4 a5 a6 a7 a8 a9 aa v ac ad ae af) x v
def F2.sc (v:F1) (x:F2):F2:=F2.rec (motive:=fun _=>F1→F2) (fun v=>.mk .nil .nil .nil .nil .nil .nil .nil .nil .nil .nil .nil .nil v .nil .nil .nil) (fun a0 a1 a2 a3 a4 a5 a6 a7 a8 a9 aa ab ac ad ae af=>fun v=>.mk a0 a1 a2 a3 a4 a5 a6 a7 a8 a9 aa ab v ad ae af) x v
def F2.sd (v:F1) (x:F2):F2:=F2.rec (motive:=fun _=>F1→F2) (fun v=>.mk .nil .nil .nil .nil .nil .nil .nil .nil .nil .nil .nil .nil .nil v .nil .nil) (fun a0 a1 a2 a3 a4 a5 a6 a7 a8 a9 aa ab ac ad ae af=>fun v=>.mk a0 a1 a2 a3 a4 a5 a6 a7 a8 a9 aa ab ac v ae af) x v
def F2.se (v:F1) (x:F2):F2:=F2.rec (motive:=fun _=>F1→F2) (fun v=>.mk .nil .nil .nil .nil .nil .nil .nil .nil .nil .nil .nil .nil .nil .nil v .nil) (fun a0 a1 a2 a3 a4 a5 a6 a7 a8 a9 aa ab ac ad ae af=>fun v=>.mk a0 a1 a2 a3 a4 a5 a6 a7 a8 a9 aa ab ac ad v af) x v
def F2.sf (v:F1) (x:F2):F2:=F2.rec (motive:=fun _=>F1→F2) (fun v=>.mk .nil .nil .nil .nil .nil .nil .nil .nil .nil .nil .nil .nil .nil .nil .nil v) (fun a0 a1 a2 a3 a4 a5 a6 a7 a8 a9 aa ab ac ad ae af=>fun v=>.mk a0 a1 a2 a3 a4 a5 a6 a7 a8 a9 aa ab ac ad ae v) x v
def F2.set (d:H):F1→F2→F2:=H.rec (motive:=fun _=>F1→F2→F2) F2.s0 F2.s1 F2.s2 F2.s3 F2.s4 F2.s5 F2.s6 F2.s7 F2.s8 F2.s9 F2.sa F2.sb F2.sc F2.sd F2.se F2.sf d
inductive F3 where
 | nil
 | mk (a0 a1 a2 a3 a4 a5 a6 a7 a8 a9 aa ab ac ad ae af:F2)
def F3.g0 (x:F3):F2:=F3.rec .nil (fun a0 a1 a2 a3 a4 a5 a6 a7 a8 a9 aa ab ac ad ae af=>a0) x
def F3.g1 (x:F3):F2:=F3.rec .nil (fun a0 a1 a2 a3 a4 a5 a6 a7 a8 a9 aa ab ac ad ae af=>a1) x
def F3.g2 (x:F3):F2:=F3.rec .nil (fun a0 a1 a2 a3 a4 a5 a6 a7 a8 a9 aa ab ac ad ae af=>a2) x
def F3.g3 (x:F3):F2:=F3.rec .nil (fun a0 a1 a2 a3 a4 a5 a6 a7 a8 a9 aa ab ac ad ae af=>a3) x
def F3.g4 (x:F3):F2:=F3.rec .nil (fun a0 a1 a2 a3 a4 a5 a6 a7 a8 a9 aa ab ac ad ae af=>a4) x
def F3.g5 (x:F3):F2:=F3.rec .nil (fun a0 a1 a2 a3 a4 a5 a6 a7 a8 a9 aa ab ac ad ae af=>a5) x
def F3.g6 (x:F3):F2:=F3.rec .nil (fun a0 a1 a2 a3 a4 a5 a6 a7 a8 a9 aa ab ac ad ae af=>a6) x
def F3.g7 (x:F3):F2:=F3.rec .nil (fun a0 a1 a2 a3 a4 a5 a6 a7 a8 a9 aa ab ac ad ae af=>a7) x
def F3.g8 (x:F3):F2:=F3.rec .nil (fun a0 a1 a2 a3 a4 a5 a6 a7 a8 a9 aa ab ac ad ae af=>a8) x
def F3.g9 (x:F3):F2:=F3.rec .nil (fun a0 a1 a2 a3 a4 a5 a6 a7 a8 a9 aa ab ac ad ae af=>a9) x
def F3.ga (x:F3):F2:=F3.rec .nil (fun a0 a1 a2 a3 a4 a5 a6 a7 a8 a9 aa ab ac ad ae af=>aa) x
def F3.gb (x:F3):F2:=F3.rec .nil (fun a0 a1 a2 a3 a4 a5 a6 a7 a8 a9 aa ab ac ad ae af=>ab) x
def F3.gc (x:F3):F2:=F3.rec .nil (fun a0 a1 a2 a3 a4 a5 a6 a7 a8 a9 aa ab ac ad ae af=>ac) x
def F3.gd (x:F3):F2:=F3.rec .nil (fun a0 a1 a2 a3 a4 a5 a6 a7 a8 a9 aa ab ac ad ae af=>ad) x
def F3.ge (x:F3):F2:=F3.rec .nil (fun a0 a1 a2 a3 a4 a5 a6 a7 a8 a9 aa ab ac ad ae af=>ae) x
def F3.gf (x:F3):F2:=F3.rec .nil (fun a0 a1 a2 a3 a4 a5 a6 a7 a8 a9 aa ab ac ad ae af=>af) x
def F3.get (d:H):F3→F2:=H.rec (motive:=fun _=>F3→F2) F3.g0 F3.g1 F3.g2 F3.g3 F3.g4 F3.g5 F3.g6 F3.g7 F3.g8 F3.g9 F3.ga F3.gb F3.gc F3.gd F3.ge F3.gf d
def F3.s0 (v:F2) (x:F3):F3:=F3.rec (motive:=fun _=>F2→F3) (fun v=>.mk v .nil .nil .nil .nil .nil .nil .nil .nil .nil .nil .nil .nil .nil .nil .nil) (fun a0 a1 a2 a3 a4 a5 a6 a7 a8 a9 aa ab ac ad ae af=>fun v=>.mk v a1 a2 a3 a4 a5 a6 a7 a8 a9 aa ab ac ad ae af) x v
def F3.s1 (v:F2) (x:F3):F3:=F3.rec (motive:=fun _=>F2→F3) (fun v=>.mk .nil v .nil .nil .nil .nil .nil .nil .nil .nil .nil .nil .nil .nil .nil .nil) (fun a0 a1 a2 a3 a4 a5 a6 a7 a8 a9 aa ab ac ad ae af=>fun v=>.mk a0 v a2 a3 a4 a5 a6 a7 a8 a9 aa ab ac ad ae af) x v
def F3.s2 (v:F2) (x:F3):F3:=F3.rec (motive:=fun _=>F2→F3) (fun v=>.mk .nil .nil v .nil .nil .nil .nil .nil .nil .nil .nil .nil .nil .nil .nil .nil) (fun a0 a1 a2 a3 a4 a5 a6 a7 a8 a9 aa ab ac ad ae af=>fun v=>.mk a0 a1 v a3 a4 a5 a6 a7 a8 a9 aa ab ac ad ae af) x v
def F3.s3 (v:F2) (x:F3):F3:=F3.rec (motive:=fun _=>F2→F3) (fun v=>.mk .nil .nil .nil v .nil .nil .nil .nil .nil .nil .nil .nil .nil .nil .nil .nil) (fun a0 a1 a2 a3 a4 a5 a6 a7 a8 a9 aa ab ac ad ae af=>fun v=>.mk a0 a1 a2 v a4 a5 a6 a7 a8 a9 aa ab ac ad ae af) x v
def F3.s4 (v:F2) (x:F3):F3:=F3.rec (motive:=fun _=>F2→F3) (fun v=>.mk .nil .nil .nil .nil v .nil .nil .nil .nil .nil .nil .nil .nil .nil .nil .nil) (fun a0 a1 a2 a3 a4 a5 a6 a7 a8 a9 aa ab ac ad ae af=>fun v=>.mk a0 a1 a2 a3 v a5 a6 a7 a8 a9 aa ab ac ad ae af) x v
def F3.s5 (v:F2) (x:F3):F3:=F3.rec (motive:=fun _=>F2→F3) (fun v=>.mk .nil .nil .nil .nil .nil v .nil .nil .nil .nil .nil .nil .nil .nil .nil .nil) (fun a0 a1 a2 a3 a4 a5 a6 a7 a8 a9 aa ab ac ad ae af=>fun v=>.mk a0 a1 a2 a3 a4 v a6 a7 a8 a9 aa ab ac ad ae af) x v
def F3.s6 (v:F2) (x:F3):F3:=F3.rec (motive:=fun _=>F2→F3) (fun v=>.mk .nil .nil .nil .nil .nil .nil v .nil .nil .nil .nil .nil .nil .nil .nil .nil) (fun a0 a1 a2 a3 a4 a5 a6 a7 a8 a9 aa ab ac ad ae af=>fun v=>.mk a0 a1 a2 a3 a4 a5 v a7 a8 a9 aa ab ac ad ae af) x v
def F3.s7 (v:F2) (x:F3):F3:=F3.rec (motive:=fun _=>F2→F3) (fun v=>.mk .nil .nil .nil .nil .nil .nil .nil v .nil .nil .nil .nil .nil .nil .nil .nil) (fun a0 a1 a2 a3 a4 a5 a6 a7 a8 a9 aa ab ac ad ae af=>fun v=>.mk a0 a1 a2 a3 a4 a5 a6 v a8 a9 aa ab ac ad ae af) x v
def F3.s8 (v:F2) (x:F3):F3:=F3.rec (motive:=fun _=>F2→F3) (fun v=>.mk .nil .nil .nil .nil .nil .nil .nil .nil v .nil .nil .nil .nil .nil .nil .nil) (fun a0 a1 a2 a3 a4 a5 a6 a7 a8 a9 aa ab ac ad ae af=>fun v=>.mk a0 a1 a2 a3 a4 a5 a6 a7 v a9 aa ab ac ad ae af) x v
def F3.s9 (v:F2) (x:F3):F3:=F3.rec (motive:=fun _=>F2→F3) (fun v=>.mk .nil .nil .nil .nil .nil .nil .nil .nil .nil v .nil .nil .nil .nil .nil .nil) (fun a0 a1 a2 a3 a4 a5 a6 a7 a8 a9 aa ab ac ad ae af=>fun v=>.mk a0 a1 a2 a3 a4 a5 a6 a7 a8 v aa ab ac ad ae af) x v
def F3.sa (v:F2) (x:F3):F3:=F3.rec (motive:=fun _=>F2→F3) (fun v=>.mk .nil .nil .nil .nil .nil .nil .nil .nil .nil .nil v .nil .nil .nil .nil .nil) (fun a0 a1 a2 a3 a4 a5 a6 a7 a8 a9 aa ab ac ad ae af=>fun v=>.mk a0 a1 a2 a3 a4 a5 a6 a7 a8 a9 v ab ac ad ae af) x v
def F3.sb (v:F2) (x:F3):F3:=F3.rec (motive:=fun _=>F2→F3) (fun v=>.mk .nil .nil .nil .nil .nil .nil .nil .nil .nil .nil .nil v .nil .nil .nil .nil) (fun a0 a1 a2 a3 a4 a5 a6 a7 a8 a9 aa ab ac ad ae af=>fun v=>.mk a0 a1 a2 a3 a4 a5 a6 a7 a8 a9 aa v ac ad ae af) x v
def F3.sc (v:F2) (x:F3):F3:=F3.rec (motive:=fun _=>F2→F3) (fun v=>.mk .nil .nil .nil .nil .nil .nil .nil .nil .nil .nil .nil .nil v .nil .nil .nil) (fun a0 a1 a2 a3 a4 a5 a6 a7 a8 a9 aa ab ac ad ae af=>fun v=>.mk a0 a1 a2 a3 a4 a5 a6 a7 a8 a9 aa ab v ad ae af) x v
def F3.sd (v:F2) (x:F3):F3:=F3.rec (motive:=fun _=>F2→F3) (fun v=>.mk .nil .nil .nil .nil .nil .nil .nil .nil .nil .nil .nil .nil .nil v .nil .nil) (fun a0 a1 a2 a3 a4 a5 a6 a7 a8 a9 aa ab ac ad ae af=>fun v=>.mk a0 a1 a2 a3 a4 a5 a6 a7 a8 a9 aa ab ac v ae af) x v
def F3.se (v:F2) (x:F3):F3:=F3.rec (motive:=fun _=>F2→F3) (fun v=>.mk .nil .nil .nil .nil .nil .nil .nil .nil .nil .nil .nil .nil .nil .nil v .nil) (fun a0 a1 a2 a3 a4 a5 a6 a7 a8 a9 aa ab ac ad ae af=>fun v=>.mk a0 a1 a2 a3 a4 a5 a6 a7 a8 a9 aa ab ac ad v af) x v
def F3.sf (v:F2) (x:F3):F3:=F3.rec (motive:=fun _=>F2→F3) (fun v=>.mk .nil .nil .nil .nil .nil .nil .nil .nil .nil .nil .nil .nil .nil .nil .nil v) (fun a0 a1 a2 a3 a4 a5 a6 a7 a8 a9 aa ab ac ad ae af=>fun v=>.mk a0 a1 a2 a3 a4 a5 a6 a7 a8 a9 aa ab ac ad ae v) x v
def F3.set (d:H):F2→F3→F3:=H.rec (motive:=fun _=>F2→F3→F3) F3.s0 F3.s1 F3.s2 F3.s3 F3.s4 F3.s5 F3.s6 F3.s7 F3.s8 F3.s9 F3.sa F3.sb F3.sc F3.sd F3.se F3.sf d
inductive MR where
 | mk (t name f:Nat)
inductive Pg where
 | mk (fs:F3) (ms:List MR)
def cM (f:Nat) (p:F3):AF:=F1.get (bR (Nat.mod f 16)) (F2.get (bR (Nat.mod (Nat.div f 16) 16)) (F3.get (bR (Nat.div f 256)) p))
def Pg.fs (p:Pg):F3:=Pg.rec (fun a _=>a) p
def Pg.ms (p:Pg):List MR:=Pg.rec (fun _ a=>a) p
def nS (t name:Nat) (l:List MR) (k:Nat→RT) (e:RT):RT:=bQ e (fun y _ ih=>MR.rec (fun t' n' f=>Bool.rec ih (Bool.rec ih (k f) (Nat.beq name n')) (Nat.beq t t')) y) l
def SP (x:AV):AV→Bool:=AV.rec (motive_1:=fun _=>AV→Bool) (motive_2:=fun _=>PUnit) (fun _=>false) (fun a y=>AV.bH y (fun b=>eH a b) false) (fun k a y=>AV.dp y (fun k' b=>Bool.rec false (uk a b) (nP k k')) false) (fun a y=>AV.iQ y (fun b=>kI a b) false) (fun k a y=>AV.pW y (fun k' b=>Bool.and (wG k k') (Nat.beq a b)) false) (fun k a b y=>AV.sM y (fun k' c d=>Bool.and (wG k k') (Bool.and (Nat.beq a c) (Nat.beq b d))) false) (fun i o y=>AV.eK y (fun j q=>Bool.and (lk i j) (Nat.beq o q)) false) (fun y=>AV.rec (motive_2:=fun _=>PUnit) false (fun _=>false) (fun _ _=>false) (fun _=>false) (fun _ _=>false) (fun _ _ _=>false) (fun _ _=>false) true (fun _ _ _ _=>false) (fun _ _ _ _=>false) false (fun _=>false) false (fun _ _ _=>false) false (fun _ _ _=>false) false (fun _ _=>false) (fun _ _=>false) (fun _=>false) PUnit.unit (fun _ _ _ _=>PUnit.unit) y) (fun i a b c y=>AV.jl y (fun j d e f=>Bool.and (lk i j) (Bool.and (Nat.beq a d) (Bool.and (Nat.beq b e) (Nat.beq c f)))) (fun _ _ _ _=>false) false false) (fun i a b c y=>AV.jl y (fun _ _ _ _=>false) (fun j d e f=>Bool.and (lk i j) (Bool.and (Nat.beq a d) (Bool.and (Nat.beq b e) (Nat.beq c f)))) false false) (fun y=>AV.jl y (fun _ _ _ _=>false) (fun _ _ _ _=>false) true false) (fun i y=>AV.dN y (fun j=>lk i j) false false) (fun y=>AV.dN y (fun _=>false) true false) (fun _ _ _ _=>false) (fun y=>AV.rec (motive_2:=fun _=>PUnit) false (fun _=>false) (fun _ _=>false) (fun _=>false) (fun _ _=>false) (fun _ _ _=>false) (fun _ _=>false) false (fun _ _ _ _=>false) (fun _ _ _ _=>false) false (fun _=>false) false (fun _ _ _=>false) true (fun _ _ _=>false) false (fun _ _=>false) (fun _ _=>false) (fun _=>false) PUnit.unit (fun _ _ _ _=>PUnit.unit) y) (fun _ _ _ _=>false) (fun y=>AV.Ar y (fun _ _=>false) true false) (fun _ _ _=>false) (fun _ _ _=>false) (fun _ _=>false) PUnit.unit (fun _ _ _ _=>PUnit.unit) x
def dk (x y:AV):Bool:=SP x y
def yR (a b:List AV):Bool:=bQ (β:=List AV→Bool) (fun b=>List.rec true (fun _ _ _=>false) b)
 (fun x _ ih b=>List.rec false (fun y b _=>Bool.rec false (ih b) (dk x y)) b) a b
def sV (x y:AV):Bool:=OL.rec (dk x y) (fun a=>AV.lT y (fun b=>yR a b) false) x.asAgg
def vq (x y:AV):Bool:=Nn.rec (Np.rec (sV x y) (sV x y) (fun t a=>AV.Ar y (fun u b=>Bool.and (Nat.beq t u) (sV a b)) false false) x.Aq) (fun f a=>AV.FV y (fun g b=>Bool.and (Nat.beq f g) (yR a b)) false) x.Ap
def pU (a b:List AV):Bool:=bQ (β:=List AV→Bool) (fun b=>List.rec true (fun _ _ _=>false) b)
 (fun x _ ih b=>List.rec false (fun y b _=>Bool.rec false (ih b) (vq x y)) b) a b
def same (x y:AV):Bool:=OL.rec (vq x y) (fun a=>AV.Bw y (fun b=>pU a b) false) x.sL
def SQ (x:AV):Bool:=AV.rec (motive_2:=fun _=>PUnit) true (fun _=>false) (fun _ _=>false) (fun _=>false) (fun _ _=>false) (fun _ _ _=>false) (fun _ _=>false) false (fun _ _ _ _=>false) (fun _ _ _ _=>false) false (fun _=>false) false (fun _ _ _=>false) false (fun _ _ _=>false) false (fun _ _=>false) (fun _ _=>false) (fun _=>false) PUnit.unit (fun _ _ _ _=>PUnit.unit) x
def xA (x y:AV):Bool:=Bool.rec (same x y) (SQ y) (SQ x)
def fZ (x y:AV):AV:=Bool.rec .undef x (same x y)
def A1.eq (x y:A1):Bool:=A1.rec (A1.rec true (fun _ _ _ _ _ _ _ _ _ _ _ _ _ _ _ _=>false) y) (fun a0 a1 a2 a3 a4 a5 a6 a7 a8 a9 aa ab ac ad ae af=>A1.rec false (fun b0 b1 b2 b3 b4 b5 b6 b7 b8 b9 ba bb bc bd be bf=>(Bool.rec false (Bool.rec false (Bool.rec false (Bool.rec false (Bool.rec false (Bool.rec false (Bool.rec false (Bool.rec false (Bool.rec false (Bool.rec false (Bool.rec false (Bool.rec false (Bool.rec false (Bool.rec false (Bool.rec false (xA af bf) (xA ae be)) (xA ad bd)) (xA ac bc)) (xA ab bb)) (xA aa ba)) (xA a9 b9)) (xA a8 b8)) (xA a7 b7)) (xA a6 b6)) (xA a5 b5)) (xA a4 b4)) (xA a3 b3)) (xA a2 b2)) (xA a1 b1)) (xA a0 b0))) y) x
def A2.eq (x y:A2):Bool:=A2.rec (A2.rec true (fun _ _ _ _ _ _ _ _ _ _ _ _ _ _ _ _=>false) y) (fun a0 a1 a2 a3 a4 a5 a6 a7 a8 a9 aa ab ac ad ae af=>A2.rec false (fun b0 b1 b2 b3 b4 b5 b6 b7 b8 b9 ba bb bc bd be bf=>(Bool.rec false (Bool.rec false (Bool.rec false (Bool.rec false (Bool.rec false (Bool.rec false (Bool.rec false (Bool.rec false (Bool.rec false (Bool.rec false (Bool.rec false (Bool.rec false (Bool.rec false (Bool.rec false (Bool.rec false (A1.eq af bf) (A1.eq ae be)) (A1.eq ad bd)) (A1.eq ac bc)) (A1.eq ab bb)) (A1.eq aa ba)) (A1.eq a9 b9)) (A1.eq a8 b8)) (A1.eq a7 b7)) (A1.eq a6 b6)) (A1.eq a5 b5)) (A1.eq a4 b4)) (A1.eq a3 b3)) (A1.eq a2 b2)) (A1.eq a1 b1)) (A1.eq a0 b0))) y) x
def A3.eq (x y:A3):Bool:=A3.rec (A3.rec true (fun _ _ _ _ _ _ _ _ _ _ _ _ _ _ _ _=>false) y) (fun a0 a1 a2 a3 a4 a5 a6 a7 a8 a9 aa ab ac ad ae af=>A3.rec false (fun b0 b1 b2 b3 b4 b5 b6 b7 b8 b9 ba bb bc bd be bf=>(Bool.rec false (Bool.rec false (Bool.rec false (Bool.rec false (Bool.rec false (Bool.rec false (Bool.rec false (Bool.rec false (Bool.rec false (Bool.rec false (Bool.rec false (Bool.rec false (Bool.rec false (Bool.rec false (Bool.rec false (A2.eq af bf) (A2.eq ae be)) (A2.eq ad bd)) (A2.eq ac bc)) (A2.eq ab bb)) (A2.eq aa ba)) (A2.eq a9 b9)) (A2.eq a8 b8)) (A2.eq a7 b7)) (A2.eq a6 b6)) (A2.eq a5 b5)) (A2.eq a4 b4)) (A2.eq a3 b3)) (A2.eq a2 b2)) (A2.eq a1 b1)) (A2.eq a0 b0))) y) x
def A4.eq (x y:A4):Bool:=A4.rec (A4.rec true (fun _ _ _ _ _ _ _ _ _ _ _ _ _ _ _ _=>false) y) (fun a0 a1 a2 a3 a4 a5 a6 a7 a8 a9 aa ab ac ad ae af=>A4.rec false (fun b0 b1 b2 b3 b4 b5 b6 b7 b8 b9 ba bb bc bd be bf=>(Bool.rec false (Bool.rec false (Bool.rec false (Bool.rec false (Bool.rec false (Bool.rec false (Bool.rec false (Bool.rec false (Bool.rec false (Bool.rec false (Bool.rec false (Bool.rec false (Bool.rec false (Bool.rec false (Bool.rec false (A3.eq af bf) (A3.eq ae be)) (A3.eq ad bd)) (A3.eq ac bc)) (A3.eq ab bb)) (A3.eq aa ba)) (A3.eq a9 b9)) (A3.eq a8 b8)) (A3.eq a7 b7)) (A3.eq a6 b6)) (A3.eq a5 b5)) (A3.eq a4 b4)) (A3.eq a3 b3)) (A3.eq a2 b2)) (A3.eq a1 b1)) (A3.eq a0 b0))) y) x
def A1.mg (x y:A1):A1:=A1.rec (A1.rec .nil (fun b0 b1 b2 b3 b4 b5 b6 b7 b8 b9 ba bb bc bd be bf=>.mk (fZ AV.undef b0) (fZ AV.undef b1) (fZ AV.undef b2) (fZ AV.undef b3) (fZ AV.undef b4) (fZ AV.undef b5) (fZ AV.undef b6) (fZ AV.undef b7) (fZ AV.undef b8) (fZ AV.undef b9) (fZ AV.undef ba) (fZ AV.undef bb) (fZ AV.undef bc) (fZ AV.undef bd) (fZ AV.undef be) (fZ AV.undef bf)) y) (fun a0 a1 a2 a3 a4 a5 a6 a7 a8 a9 aa ab ac ad ae af=>A1.rec (.mk (fZ a0 AV.undef) (fZ a1 AV.undef) (fZ a2 AV.undef) (fZ a3 AV.undef) (fZ a4 AV.undef) (fZ a5 AV.undef) (fZ a6 AV.undef) (fZ a7 AV.undef) (fZ a8 AV.undef) (fZ a9 AV.undef) (fZ aa AV.undef) (fZ ab AV.undef) (fZ ac AV.undef) (fZ ad AV.undef) (fZ ae AV.undef) (fZ af AV.undef)) (fun b0 b1 b2 b3 b4 b5 b6 b7 b8 b9 ba bb bc bd be bf=>.mk (fZ a0 b0) (fZ a1 b1) (fZ a2 b2) (fZ a3 b3) (fZ a4 b4) (fZ a5 b5) (fZ a6 b6) (fZ a7 b7) (fZ a8 b8) (fZ a9 b9) (fZ aa ba) (fZ ab bb) (fZ ac bc) (fZ ad bd) (fZ ae be) (fZ af bf)) y) x
def A2.mg (x y:A2):A2:=A2.rec (A2.rec .nil (fun b0 b1 b2 b3 b4 b5 b6 b7 b8 b9 ba bb bc bd be bf=>.mk (A1.mg A1.nil b0) (A1.mg A1.nil b1) (A1.mg A1.nil b2) (A1.mg A1.nil b3) (A1.mg A1.nil b4) (A1.mg A1.nil b5) (A1.mg A1.nil b6) (A1.mg A1.nil b7) (A1.mg A1.nil b8) (A1.mg A1.nil b9) (A1.mg A1.nil ba) (A1.mg A1.nil bb) (A1.mg A1.nil bc) (A1.mg A1.nil bd) (A1.mg A1.nil be) (A1.mg A1.nil bf)) y) (fun a0 a1 a2 a3 a4 a5 a6 a7 a8 a9 aa ab ac ad ae af=>A2.rec (.mk (A1.mg a0 A1.nil) (A1.mg a1 A1.nil) (A1.mg a2 A1.nil) (A1.mg a3 A1.nil) (A1.mg a4 A1.nil) (A1.mg a5 A1.nil) (A1.mg a6 A1.nil) (A1.mg a7 A1.nil) (A1.mg a8 A1.nil) (A1.mg a9 A1.nil) (A1.mg aa A1.nil) (A1.mg ab A1.nil) (A1.mg ac A1.nil) (A1.mg ad A1.nil) (A1.mg ae A1.nil) (A1.mg af A1.nil)) (fun b0 b1 b2 b3 b4 b5 b6 b7 b8 b9 ba bb bc bd be bf=>.mk (A1.mg a0 b0) (A1.mg a1 b1) (A1.mg a2 b2) (A1.mg a3 b3) (A1.mg a4 b4) (A1.mg a5 b5) (A1.mg a6 b6) (A1.mg a7 b7) (A1.mg a8 b8) (A1.mg a9 b9) (A1.mg aa ba) (A1.mg ab bb) (A1.mg ac bc) (A1.mg ad bd) (A1.mg ae be) (A1.mg af bf)) y) x
def Cl.eq (x y:Cl):Bool:=Cl.rec (fun a=>Cl.rec (fun b=>A1.eq a b) (fun _=>false) (fun _=>false) (fun _=>false) y) (fun a=>Cl.rec (fun _=>false) (fun b=>A2.eq a b) (fun _=>false) (fun _=>false) y) (fun a=>Cl.rec (fun _=>false) (fun _=>false) (fun b=>A3.eq a b) (fun _=>false) y) (fun a=>Cl.rec (fun _=>false) (fun _=>false) (fun _=>false) (fun b=>A4.eq a b) y) x
def Fl.eq (x y:Fl):Bool:=Fl.rec (Fl.rec true false false y) (Fl.rec false true false y) (Fl.rec false false true y) x
def SR (x y:KV):Bool:=KV.rec (fun k v b=>KV.rec (fun k' v' b'=>Bool.rec false (Bool.rec false (xA v v') (same k k')) (Nat.beq b b')) y) x
def Hj (a b:List KV):Bool:=bQ (β:=List KV→Bool) (fun b=>fq b) (fun x _ ih b=>List.rec false (fun y b _=>Bool.rec false (ih b) (SR x y)) b) a b
def sD (x y:Obj):Bool:=Obj.rec (isNone y) false (fun el n ex fl c=>Obj.bz y (fun el' n' ex' fl' c'=>Bool.rec false (Bool.rec false (Bool.rec false (Bool.rec false (Cl.eq c c') (Fl.eq fl fl')) (eH ex ex')) (Nat.beq n n')) (Nat.beq el el')) false) (fun l ck=>Obj.dN y (fun l' ck'=>Bool.rec false (Hj l l') (Nat.beq ck ck')) false) (fun _ _=>false) (fun _ _ _ _=>false) false x
def aX (x y:Obj):Obj:=Bool.rec .dead x (sD x y)
def O1.mg (x y:O1):O1:=O1.rec (O1.rec .nil (fun b0 b1 b2 b3 b4 b5 b6 b7 b8 b9 ba bb bc bd be bf=>.mk (aX Obj.none b0) (aX Obj.none b1) (aX Obj.none b2) (aX Obj.none b3) (aX Obj.none b4) (aX Obj.none b5) (aX Obj.none b6) (aX Obj.none b7) (aX Obj.none b8) (aX Obj.none b9) (aX Obj.none ba) (aX Obj.none bb) (aX Obj.none bc) (aX Obj.none bd) (aX Obj.none be) (aX Obj.none bf)) y) (fun a0 a1 a2 a3 a4 a5 a6 a7 a8 a9 aa ab ac ad ae af=>O1.rec (.mk (aX a0 Obj.none) (aX a1 Obj.none) (aX a2 Obj.none) (aX a3 Obj.none) (aX a4 Obj.none) (aX a5 Obj.none) (aX a6 Obj.none) (aX a7 Obj.none) (aX a8 Obj.none) (aX a9 Obj.none) (aX aa Obj.none) (aX ab Obj.none) (aX ac Obj.none) (aX ad Obj.none) (aX ae Obj.none) (aX af Obj.none)) (fun b0 b1 b2 b3 b4 b5 b6 b7 b8 b9 ba bb bc bd be bf=>.mk (aX a0 b0) (aX a1 b1) (aX a2 b2) (aX a3 b3) (aX a4 b4) (aX a5 b5) (aX a6 b6) (aX a7 b7) (aX a8 b8) (aX a9 b9) (aX aa ba) (aX ab bb) (aX ac bc) (aX ad bd) (aX ae be) (aX af bf)) y) x
def O2.mg (x y:O2):O2:=O2.rec (O2.rec .nil (fun b0 b1 b2 b3 b4 b5 b6 b7 b8 b9 ba bb bc bd be bf=>.mk (O1.mg O1.nil b0) (O1.mg O1.nil b1) (O1.mg O1.nil b2) (O1.mg O1.nil b3) (O1.mg O1.nil b4) (O1.mg O1.nil b5) (O1.mg O1.nil b6) (O1.mg O1.nil b7) (O1.mg O1.nil b8) (O1.mg O1.nil b9) (O1.mg O1.nil ba) (O1.mg O1.nil bb) (O1.mg O1.nil bc) (O1.mg O1.nil bd) (O1.mg O1.nil be) (O1.mg O1.nil bf)) y) (fun a0 a1 a2 a3 a4 a5 a6 a7 a8 a9 aa ab ac ad ae af=>O2.rec (.mk (O1.mg a0 O1.nil) (O1.mg a1 O1.nil) (O1.mg a2 O1.nil) (O1.mg a3 O1.nil) (O1.mg a4 O1.nil) (O1.mg a5 O1.nil) (O1.mg a6 O1.nil) (O1.mg a7 O1.nil) (O1.mg a8 O1.nil) (O1.mg a9 O1.nil) (O1.mg aa O1.nil) (O1.mg ab O1.nil) (O1.mg ac O1.nil) (O1.mg ad O1.nil) (O1.mg ae O1.nil) (O1.mg af O1.nil)) (fun b0 b1 b2 b3 b4 b5 b6 b7 b8 b9 ba bb bc bd be bf=>.mk (O1.mg a0 b0) (O1.mg a1 b1) (O1.mg a2 b2) (O1.mg a3 b3) (O1.mg a4 b4) (O1.mg a5 b5) (O1.mg a6 b6) (O1.mg a7 b7) (O1.mg a8 b8) (O1.mg a9 b9) (O1.mg aa ba) (O1.mg ab bb) (O1.mg ac bc) (O1.mg ad bd) (O1.mg ae be) (O1.mg af bf)) y) x
def O3.mg (x y:O3):O3:=O3.rec (O3.rec .nil (fun b0 b1 b2 b3 b4 b5 b6 b7 b8 b9 ba bb bc bd be bf=>.mk (O2.mg O2.nil b0) (O2.mg O2.nil b1) (O2.mg O2.nil b2) (O2.mg O2.nil b3) (O2.mg O2.nil b4) (O2.mg O2.nil b5) (O2.mg O2.nil b6) (O2.mg O2.nil b7) (O2.mg O2.nil b8) (O2.mg O2.nil b9) (O2.mg O2.nil ba) (O2.mg O2.nil bb) (O2.mg O2.nil bc) (O2.mg O2.nil bd) (O2.mg O2.nil be) (O2.mg O2.nil bf)) y) (fun a0 a1 a2 a3 a4 a5 a6 a7 a8 a9 aa ab ac ad ae af=>O3.rec (.mk (O2.mg a0 O2.nil) (O2.mg a1 O2.nil) (O2.mg a2 O2.nil) (O2.mg a3 O2.nil) (O2.mg a4 O2.nil) (O2.mg a5 O2.nil) (O2.mg a6 O2.nil) (O2.mg a7 O2.nil) (O2.mg a8 O2.nil) (O2.mg a9 O2.nil) (O2.mg aa O2.nil) (O2.mg ab O2.nil) (O2.mg ac O2.nil) (O2.mg ad O2.nil) (O2.mg ae O2.nil) (O2.mg af O2.nil)) (fun b0 b1 b2 b3 b4 b5 b6 b7 b8 b9 ba bb bc bd be bf=>.mk (O2.mg a0 b0) (O2.mg a1 b1) (O2.mg a2 b2) (O2.mg a3 b3) (O2.mg a4 b4) (O2.mg a5 b5) (O2.mg a6 b6) (O2.mg a7 b7) (O2.mg a8 b8) (O2.mg a9 b9) (O2.mg aa ba) (O2.mg ab bb) (O2.mg ac bc) (O2.mg ad bd) (O2.mg ae be) (O2.mg af bf)) y) x
def O4.mg (x y:O4):O4:=O4.rec (O4.rec .nil (fun b0 b1 b2 b3 b4 b5 b6 b7 b8 b9 ba bb bc bd be bf=>.mk (O3.mg O3.nil b0) (O3.mg O3.nil b1) (O3.mg O3.nil b2) (O3.mg O3.nil b3) (O3.mg O3.nil b4) (O3.mg O3.nil b5) (O3.mg O3.nil b6) (O3.mg O3.nil b7) (O3.mg O3.nil b8) (O3.mg O3.nil b9) (O3.mg O3.nil ba) (O3.mg O3.nil bb) (O3.mg O3.nil bc) (O3.mg O3.nil bd) (O3.mg O3.nil be) (O3.mg O3.nil bf)) y) (fun a0 a1 a2 a3 a4 a5 a6 a7 a8 a9 aa ab ac ad ae af=>O4.rec (.mk (O3.mg a0 O3.nil) (O3.mg a1 O3.nil) (O3.mg a2 O3.nil) (O3.mg a3 O3.nil) (O3.mg a4 O3.nil) (O3.mg a5 O3.nil) (O3.mg a6 O3.nil) (O3.mg a7 O3.nil) (O3.mg a8 O3.nil) (O3.mg a9 O3.nil) (O3.mg aa O3.nil) (O3.mg ab O3.nil) (O3.mg ac O3.nil) (O3.mg ad O3.nil) (O3.mg ae O3.nil) (O3.mg af O3.nil)) (fun b0 b1 b2 b3 b4 b5 b6 b7 b8 b9 ba bb bc bd be bf=>.mk (O3.mg a0 b0) (O3.mg a1 b1) (O3.mg a2 b2) (O3.mg a3 b3) (O3.mg a4 b4) (O3.mg a5 b5) (O3.mg a6 b6) (O3.mg a7 b7) (O3.mg a8 b8) (O3.mg a9 b9) (O3.mg aa ba) (O3.mg ab bb) (O3.mg ac bc) (O3.mg ad bd) (O3.mg ae be) (O3.mg af bf)) y) x
def gm (x y:AV):Bool:=Bool.rec (same x y) true (SQ x)
def Aj (x:Obj):Bool:=Obj.rec false true (fun _ _ _ _ _=>false) (fun _ _=>false) (fun _ _=>false) (fun _ _ _ _=>false) false x
def bw (x y:Obj):Bool:=Bool.rec (sD x y) true (Aj x)
def A1.le (x y:A1):Bool:=A1.rec (A1.rec true (fun b0 b1 b2 b3 b4 b5 b6 b7 b8 b9 ba bb bc bd be bf=>(Bool.rec false (Bool.rec false (Bool.rec false (Bool.rec false (Bool.rec false (Bool.rec false (Bool.rec false (Bool.rec false (Bool.rec false (Bool.rec false (Bool.rec false (Bool.rec false (Bool.rec false (Bool.rec false (Bool.rec false (gm AV.undef bf) (gm AV.undef be)) (gm AV.undef bd)) (gm AV.undef bc)) (gm AV.undef bb)) (gm AV.undef ba)) (gm AV.undef b9)) (gm AV.undef b8)) (gm AV.undef b7)) (gm AV.undef b6)) (gm AV.undef b5)) (gm AV.undef b4)) (gm AV.undef b3)) (gm AV.undef b2)) (gm AV.undef b1)) (gm AV.undef b0))) y) (fun a0 a1 a2 a3 a4 a5 a6 a7 a8 a9 aa ab ac ad ae af=>A1.rec (Bool.rec false (Bool.rec false (Bool.rec false (Bool.rec false (Bool.rec false (Bool.rec false (Bool.rec false (Bool.rec false (Bool.rec false (Bool.rec false (Bool.rec false (Bool.rec false (Bool.rec false (Bool.rec false (Bool.rec false (gm af AV.undef) (gm ae AV.undef)) (gm ad AV.undef)) (gm ac AV.undef)) (gm ab AV.undef)) (gm aa AV.undef)) (gm a9 AV.undef)) (gm a8 AV.undef)) (gm a7 AV.undef)) (gm a6 AV.undef)) (gm a5 AV.undef)) (gm a4 AV.undef)) (gm a3 AV.undef)) (gm a2 AV.undef)) (gm a1 AV.undef)) (gm a0 AV.undef)) (fun b0 b1 b2 b3 b4 b5 b6 b7 b8 b9 ba bb bc bd be bf=>(Bool.rec false (Bool.rec false (Bool.rec false (Bool.rec false (Bool.rec false (Bool.rec false (Bool.rec false (Bool.rec false (Bool.rec false (Bool.rec false (Bool.rec false (Bool.rec false (Bool.rec false (Bool.rec false (Bool.rec false (gm af bf) (gm ae be)) (gm ad bd)) (gm ac bc)) (gm ab bb)) (gm aa ba)) (gm a9 b9)) (gm a8 b8)) (gm a7 b7)) (gm a6 b6)) (gm a5 b5)) (gm a4 b4)) (gm a3 b3)) (gm a2 b2)) (gm a1 b1)) (gm a0 b0))) y) x
def A2.le (x y:A2):Bool:=A2.rec (A2.rec true (fun b0 b1 b2 b3 b4 b5 b6 b7 b8 b9 ba bb bc bd be bf=>(Bool.rec false (Bool.rec false (Bool.rec false (Bool.rec false (Bool.rec false (Bool.rec false (Bool.rec false (Bool.rec false (Bool.rec false (Bool.rec false (Bool.rec false (Bool.rec false (Bool.rec false (Bool.rec false (Bool.rec false (A1.le A1.nil bf) (A1.le A1.nil be)) (A1.le A1.nil bd)) (A1.le A1.nil bc)) (A1.le A1.nil bb)) (A1.le A1.nil ba)) (A1.le A1.nil b9)) (A1.le A1.nil b8)) (A1.le A1.nil b7)) (A1.le A1.nil b6)) (A1.le A1.nil b5)) (A1.le A1.nil b4)) (A1.le A1.nil b3)) (A1.le A1.nil b2)) (A1.le A1.nil b1)) (A1.le A1.nil b0))) y) (fun a0 a1 a2 a3 a4 a5 a6 a7 a8 a9 aa ab ac ad ae af=>A2.rec (Bool.rec false (Bool.rec false (Bool.rec false (Bool.rec false (Bool.rec false (Bool.rec false (Bool.rec false (Bool.rec false (Bool.rec false (Bool.rec false (Bool.rec false (Bool.rec false (Bool.rec false (Bool.rec false (Bool.rec false (A1.le af A1.nil) (A1.le ae A1.nil)) (A1.le ad A1.nil)) (A1.le ac A1.nil)) (A1.le ab A1.nil)) (A1.le aa A1.nil)) (A1.le a9 A1.nil)) (A1.le a8 A1.nil)) (A1.le a7 A1.nil)) (A1.le a6 A1.nil)) (A1.le a5 A1.nil)) (A1.le a4 A1.nil)) (A1.le a3 A1.nil)) (A1.le a2 A1.nil)) (A1.le a1 A1.nil)) (A1.le a0 A1.nil)) (fun b0 b1 b2 b3 b4 b5 b6 b7 b8 b9 ba bb bc bd be bf=>(Bool.rec false (Bool.rec false (Bool.rec false (Bool.rec false (Bool.rec false (Bool.rec false (Bool.rec false (Bool.rec false (Bool.rec false (Bool.rec false (Bool.rec false (Bool.rec false (Bool.rec false (Bool.rec false (Bool.rec false (A1.le af bf) (A1.le ae be)) (A1.le ad bd)) (A1.le ac bc)) (A1.le ab bb)) (A1.le aa ba)) (A1.le a9 b9)) (A1.le a8 b8)) (A1.le a7 b7)) (A1.le a6 b6)) (A1.le a5 b5)) (A1.le a4 b4)) (A1.le a3 b3)) (A1.le a2 b2)) (A1.le a1 b1)) (A1.le a0 b0))) y) x
def O1.le (x y:O1):Bool:=O1.rec (O1.rec true (fun b0 b1 b2 b3 b4 b5 b6 b7 b8 b9 ba bb bc bd be bf=>(Bool.rec false (Bool.rec false (Bool.rec false (Bool.rec false (Bool.rec false (Bool.rec false (Bool.rec false (Bool.rec false (Bool.rec false (Bool.rec false (Bool.rec false (Bool.rec false (Bool.rec false (Bool.rec false (Bool.rec false (bw Obj.none bf) (bw Obj.none be)) (bw Obj.none bd)) (bw Obj.none bc)) (bw Obj.none bb)) (bw Obj.none ba)) (bw Obj.none b9)) (bw Obj.none b8)) (bw Obj.none b7)) (bw Obj.none b6)) (bw Obj.none b5)) (bw Obj.none b4)) (bw Obj.none b3)) (bw Obj.none b2)) (bw Obj.none b1)) (bw Obj.none b0))) y) (fun a0 a1 a2 a3 a4 a5 a6 a7 a8 a9 aa ab ac ad ae af=>O1.rec (Bool.rec false (Bool.rec false (Bool.rec false (Bool.rec false (Bool.rec false (Bool.rec false (Bool.rec false (Bool.rec false (Bool.rec false (Bool.rec false (Bool.rec false (Bool.rec false (Bool.rec false (Bool.rec false (Bool.rec false (bw af Obj.none) (bw ae Obj.none)) (bw ad Obj.none)) (bw ac Obj.none)) (bw ab Obj.none)) (bw aa Obj.none)) (bw a9 Obj.none)) (bw a8 Obj.none)) (bw a7 Obj.none)) (bw a6 Obj.none)) (bw a5 Obj.none)) (bw a4 Obj.none)) (bw a3 Obj.none)) (bw a2 Obj.none)) (bw a1 Obj.none)) (bw a0 Obj.none)) (fun b0 b1 b2 b3 b4 b5 b6 b7 b8 b9 ba bb bc bd be bf=>(Bool.rec false (Bool.rec false (Bool.rec false (Bool.rec false (Bool.rec false (Bool.rec false (Bool.rec false (Bool.rec false (Bool.rec false (Bool.rec false (Bool.rec false (Bool.rec false (Bool.rec false (Bool.rec false (Bool.rec false (bw af bf) (bw ae be)) (bw ad bd)) (bw ac bc)) (bw ab bb)) (bw aa ba)) (bw a9 b9)) (bw a8 b8)) (bw a7 b7)) (bw a6 b6)) (bw a5 b5)) (bw a4 b4)) (bw a3 b3)) (bw a2 b2)) (bw a1 b1)) (bw a0 b0))) y) x
def O2.le (x y:O2):Bool:=O2.rec (O2.rec true (fun b0 b1 b2 b3 b4 b5 b6 b7 b8 b9 ba bb bc bd be bf=>(Bool.rec false (Bool.rec false (Bool.rec false (Bool.rec false (Bool.rec false (Bool.rec false (Bool.rec false (Bool.rec false (Bool.rec false (Bool.rec false (Bool.rec false (Bool.rec false (Bool.rec false (Bool.rec false (Bool.rec false (O1.le O1.nil bf) (O1.le O1.nil be)) (O1.le O1.nil bd)) (O1.le O1.nil bc)) (O1.le O1.nil bb)) (O1.le O1.nil ba)) (O1.le O1.nil b9)) (O1.le O1.nil b8)) (O1.le O1.nil b7)) (O1.le O1.nil b6)) (O1.le O1.nil b5)) (O1.le O1.nil b4)) (O1.le O1.nil b3)) (O1.le O1.nil b2)) (O1.le O1.nil b1)) (O1.le O1.nil b0))) y) (fun a0 a1 a2 a3 a4 a5 a6 a7 a8 a9 aa ab ac ad ae af=>O2.rec (Bool.rec false (Bool.rec false (Bool.rec false (Bool.rec false (Bool.rec false (Bool.rec false (Bool.rec false (Bool.rec false (Bool.rec false (Bool.rec false (Bool.rec false (Bool.rec false (Bool.rec false (Bool.rec false (Bool.rec false (O1.le af O1.nil) (O1.le ae O1.nil)) (O1.le ad O1.nil)) (O1.le ac O1.nil)) (O1.le ab O1.nil)) (O1.le aa O1.nil)) (O1.le a9 O1.nil)) (O1.le a8 O1.nil)) (O1.le a7 O1.nil)) (O1.le a6 O1.nil)) (O1.le a5 O1.nil)) (O1.le a4 O1.nil)) (O1.le a3 O1.nil)) (O1.le a2 O1.nil)) (O1.le a1 O1.nil)) (O1.le a0 O1.nil)) (fun b0 b1 b2 b3 b4 b5 b6 b7 b8 b9 ba bb bc bd be bf=>(Bool.rec false (Bool.rec false (Bool.rec false (Bool.rec false (Bool.rec false (Bool.rec false (Bool.rec false (Bool.rec false (Bool.rec false (Bool.rec false (Bool.rec false (Bool.rec false (Bool.rec false (Bool.rec false (Bool.rec false (O1.le af bf) (O1.le ae be)) (O1.le ad bd)) (O1.le ac bc)) (O1.le ab bb)) (O1.le aa ba)) (O1.le a9 b9)) (O1.le a8 b8)) (O1.le a7 b7)) (O1.le a6 b6)) (O1.le a5 b5)) (O1.le a4 b4)) (O1.le a3 b3)) (O1.le a2 b2)) (O1.le a1 b1)) (O1.le a0 b0))) y) x
def O3.le (x y:O3):Bool:=O3.rec (O3.rec true (fun b0 b1 b2 b3 b4 b5 b6 b7 b8 b9 ba bb bc bd be bf=>(Bool.rec false (Bool.rec false (Bool.rec false (Bool.rec false (Bool.rec false (Bool.rec false (Bool.rec false (Bool.rec false (Bool.rec false (Bool.rec false (Bool.rec false (Bool.rec false (Bool.rec false (Bool.rec false (Bool.rec false (O2.le O2.nil bf) (O2.le O2.nil be)) (O2.le O2.nil bd)) (O2.le O2.nil bc)) (O2.le O2.nil bb)) (O2.le O2.nil ba)) (O2.le O2.nil b9)) (O2.le O2.nil b8)) (O2.le O2.nil b7)) (O2.le O2.nil b6)) (O2.le O2.nil b5)) (O2.le O2.nil b4)) (O2.le O2.nil b3)) (O2.le O2.nil b2)) (O2.le O2.nil b1)) (O2.le O2.nil b0))) y) (fun a0 a1 a2 a3 a4 a5 a6 a7 a8 a9 aa ab ac ad ae af=>O3.rec (Bool.rec false (Bool.rec false (Bool.rec false (Bool.rec false (Bool.rec false (Bool.rec false (Bool.rec false (Bool.rec false (Bool.rec false (Bool.rec false (Bool.rec false (Bool.rec false (Bool.rec false (Bool.rec false (Bool.rec false (O2.le af O2.nil) (O2.le ae O2.nil)) (O2.le ad O2.nil)) (O2.le ac O2.nil)) (O2.le ab O2.nil)) (O2.le aa O2.nil)) (O2.le a9 O2.nil)) (O2.le a8 O2.nil)) (O2.le a7 O2.nil)) (O2.le a6 O2.nil)) (O2.le a5 O2.nil)) (O2.le a4 O2.nil)) (O2.le a3 O2.nil)) (O2.le a2 O2.nil)) (O2.le a1 O2.nil)) (O2.le a0 O2.nil)) (fun b0 b1 b2 b3 b4 b5 b6 b7 b8 b9 ba bb bc bd be bf=>(Bool.rec false (Bool.rec false (Bool.rec false (Bool.rec false (Bool.rec false (Bool.rec false (Bool.rec false (Bool.rec false (Bool.rec false (Bool.rec false (Bool.rec false (Bool.rec false (Bool.rec false (Bool.rec false (Bool.rec false (O2.le af bf) (O2.le ae be)) (O2.le ad bd)) (O2.le ac bc)) (O2.le ab bb)) (O2.le aa ba)) (O2.le a9 b9)) (O2.le a8 b8)) (O2.le a7 b7)) (O2.le a6 b6)) (O2.le a5 b5)) (O2.le a4 b4)) (O2.le a3 b3)) (O2.le a2 b2)) (O2.le a1 b1)) (O2.le a0 b0))) y) x
def O4.le (x y:O4):Bool:=O4.rec (O4.rec true (fun b0 b1 b2 b3 b4 b5 b6 b7 b8 b9 ba bb bc bd be bf=>(Bool.rec false (Bool.rec false (Bool.rec false (Bool.rec false (Bool.rec false (Bool.rec false (Bool.rec false (Bool.rec false (Bool.rec false (Bool.rec false (Bool.rec false (Bool.rec false (Bool.rec false (Bool.rec false (Bool.rec false (O3.le O3.nil bf) (O3.le O3.nil be)) (O3.le O3.nil bd)) (O3.le O3.nil bc)) (O3.le O3.nil bb)) (O3.le O3.nil ba)) (O3.le O3.nil b9)) (O3.le O3.nil b8)) (O3.le O3.nil b7)) (O3.le O3.nil b6)) (O3.le O3.nil b5)) (O3.le O3.nil b4)) (O3.le O3.nil b3)) (O3.le O3.nil b2)) (O3.le O3.nil b1)) (O3.le O3.nil b0))) y) (fun a0 a1 a2 a3 a4 a5 a6 a7 a8 a9 aa ab ac ad ae af=>O4.rec (Bool.rec false (Bool.rec false (Bool.rec false (Bool.rec false (Bool.rec false (Bool.rec false (Bool.rec false (Bool.rec false (Bool.rec false (Bool.rec false (Bool.rec false (Bool.rec false (Bool.rec false (Bool.rec false (Bool.rec false (O3.le af O3.nil) (O3.le ae O3.nil)) (O3.le ad O3.nil)) (O3.le ac O3.nil)) (O3.le ab O3.nil)) (O3.le aa O3.nil)) (O3.le a9 O3.nil)) (O3.le a8 O3.nil)) (O3.le a7 O3.nil)) (O3.le a6 O3.nil)) (O3.le a5 O3.nil)) (O3.le a4 O3.nil)) (O3.le a3 O3.nil)) (O3.le a2 O3.nil)) (O3.le a1 O3.nil)) (O3.le a0 O3.nil)) (fun b0 b1 b2 b3 b4 b5 b6 b7 b8 b9 ba bb bc bd be bf=>(Bool.rec false (Bool.rec false (Bool.rec false (Bool.rec false (Bool.rec false (Bool.rec false (Bool.rec false (Bool.rec false (Bool.rec false (Bool.rec false (Bool.rec false (Bool.rec false (Bool.rec false (Bool.rec false (Bool.rec false (O3.le af bf) (O3.le ae be)) (O3.le ad bd)) (O3.le ac bc)) (O3.le ab bb)) (O3.le aa ba)) (O3.le a9 b9)) (O3.le a8 b8)) (O3.le a7 b7)) (O3.le a6 b6)) (O3.le a5 b5)) (O3.le a4 b4)) (O3.le a3 b3)) (O3.le a2 b2)) (O3.le a1 b1)) (O3.le a0 b0))) y) x
def Ri (x y:Hp):Bool:=O4.le x.tree y.tree
def uo (x:Lg):List P4:=Lg.rec .nil (fun l=>l) x
def mark (h:Hp):Hp:=.mk h.tree h.next (.on .nil)
def Hk (b h:Hp):Hp:=.mk h.tree h.next (Lg.rec .off (fun l=>.on (List.append (uo h.log) l)) b.log)
def qm (b:Hp) (x:RS):RS:=RS.elim (fun r h=>.nm r (Hk b h)) (fun i r h=>.ex i r (Hk b h)) (fun l r h=>.go l r (Hk b h)) (fun r h=>.ret r (Hk b h)) (fun n=>.err n) (fun n ih=>.ch n ih) x
def Ch (n:P4) (h:Hp):Hp:=.mk h.tree n h.log
def pv (x y:Hp) (l:List P4):Hp→Hp:=bQ (β:=Hp→Hp) (fun h=>h) (fun p _ ih h=>ih (cN p (aX (au p x) (au p y)) h)) l
def YJ (b x y:Hp) (k:Hp→RS):RS:=Bool.rec (.err 301) (k (Ch x.next (pv x y (uo x.log) (pv x y (uo y.log) b)))) (lk x.next y.next)
def Aw (b:Hp) (x y:RS):RS:=RS.rec (fun r h=>RS.rec (fun r' h'=>YJ b h h' (fun h=>.nm (A2.mg r r') h)) (fun _ _ _=>.err 302) (fun _ _ _=>.err 302) (fun _ _=>.err 302) (fun n=>.err n) (fun _ _ _=>.err 302) y) (fun _ _ _=>.err 303) (fun _ _ _=>.err 303) (fun _ _=>.err 303) (fun n=>.err n) (fun _ _ _=>.err 303) x
def Hl (b:Hp) (n:Nat) (f:Nat→RS):RS:=Nat.rec (.err 304) (fun n _=>nO (f 0) (fun m ih=>Aw b ih (f (Nat.succ m))) n) n
def jL (b:Hp) (x:RS):RS:=RS.elim (fun r h=>.nm r h) (fun i r h=>.ex i r h) (fun l r h=>.go l r h) (fun r h=>.ret r h) (fun n=>.err n) (Hl b) x
def fS (h:Hp) (x:RS):RS:=qm h (jL (mark h) x)
def vr (l:List Rs) (r:A2):A2:=bQ .nil (fun s _ ih=>Rs.rec (fun a b=>dj a b (ar a b r) ih) (fun a b=>dj a b (ar a b r) ih) (fun _ a b=>dj a b (ar a b r) ih) s) l
def sW (l:List Rs) (x:RS):RS:=RS.elim (fun r h=>.nm (vr l r) h) (fun i r h=>.ex i r h) (fun l r h=>.go l r h) (fun r h=>.nm (vr l r) h) (fun n=>.err n) (fun n ih=>.ch n ih) x
abbrev gJ:=AC→A2→Hp→RS
def LM (s:Rs) (r:A2) (h:Hp):RV:=Rs.rec (fun a b=>.ok (ar a b r) h) (fun a b=>iE (.t a b) r h) (fun n a b=>pX n (.t a b) r h) s
def SS (l:List Rs) (r:A2) (h:Hp) (k:List AV→RV):RV:=bQ (β:=(List AV→RV)→RV) (fun k=>k .nil)
 (fun s _ ih k=>RV.rec (fun v _=>ih (fun vs=>k (.cons v vs))) (fun n=>.err n) (LM s r h)) l k
def Hm (h:Hp) (l:List AV):RV:=List.rec (.ok cA h) (fun v t _=>List.rec (.ok v h) (fun x y _=>.ok (.bU (.cons v (.cons x y))) h) t) l
def Df (res:List Rs) (r:A2) (h:Hp):RV:=SS res r h (Hm h)
def eC (res:List Rs) (s:RS):RT:=RS.elim (fun r h=>(Df res r h).kr) (fun _ _ _=>.err 200) (fun _ _ _=>.err 201) (fun r h=>(Df res r h).kr) (fun n=>.err n) (fun n ih=>.ch n ih) s
def aD (p:Pg) (run:gJ) (f:Nat) (args:List AV) (h:Hp):RT:=AF.rec (.err (Nat.add 1000 f)) (fun body res=>Bool.rec (.err 207) (eC res (run body (dI args 0 .nil) h)) (Nat.ble args.length 256)) (fun k body res=>RT.rec (fun v h=>RT.ok v h) (fun _=>Bool.rec (.err 207) (eC res (run body (dI args 0 .nil) h)) (Nat.ble args.length 256)) (fun n k _=>.ch n k) (dg k args h)) (fun body res=>Bool.rec (.err 207) (eC res (fS h (sW res (run body (dI args 0 .nil) (mark h))))) (Nat.ble args.length 256)) (fun k=>dg k args h) (cM f p.fs)
def jM (p:Pg) (run:gJ) (x:AV) (args:List AV) (h:Hp):RT:=AV.FV x (fun f cs=>aD p run f (List.append args cs) h) (.err 202)
def aI (p:Pg) (run:gJ) (name:Nat) (x:AV) (args:List AV) (h:Hp):RT:=AV.Ar x
 (fun t v=>nS t name p.ms (fun f=>aD p run f (.cons v args) h) (.err 206)) (.err 205) (.err 204)
def yq (d:aH) (k:A2→Hp→RS) (r:A2) (v:RV):RS:=RV.rec (fun v h=>k (bL d v r) h) (fun n=>.err n) v
def stepT (d:aH) (k:A2→Hp→RS) (r:A2) (v:RT):RS:=RT.elim (fun v h=>k (bL d v r) h) (fun n=>.err n) (fun n ih=>.ch n ih) v
def AI.exec (i:AI) (p:Pg) (run:gJ) (d:aH) (k:A2→Hp→RS) (r:A2) (h:Hp):RS:=AI.rec (fun op=>yq d k r (op.run r h)) (fun s x=>stepT d k r (hE s (ev x r) h)) (fun f xs=>stepT d k r (aD p run f (fY xs r) h)) (fun x xs=>stepT d k r (jM p run (ev x r) (fY xs r) h)) (fun n x xs=>stepT d k r (aI p run n (ev x r) (fY xs r) h)) i
def gb (w:Bool) (x:AV):AV:=OL.rec x (fun l=>List.rec (.bool (Bool.not w)) (fun _ _ _=>.undef) l) x.sL
def kK (d:aH) (k:A2→Hp→RS) (r:A2) (h:Hp) (i:AI) (p:Pg) (run:gJ) (w t:Bool):RS:=
 Bool.rec (k (bL d cA r) h) (i.exec p run d k r h) (eH t w)
def GI.exec (i:GI) (p:Pg) (run:gJ) (k:A2→Hp→RS) (r:A2) (h:Hp):RS:=GI.rec (fun d i=>i.exec p run d k r h) (fun a b w d i=>AV.bH (gb w (ar a b r)) (kK d k r h i p run w) (.err 210)) i
def eY (p:Pg) (run:gJ) (l:List GI):A2→Hp→RS:=bQ (β:=A2→Hp→RS) (fun r h=>.nm r h) (fun i _ ih=>i.exec p run ih) l
def kL (op:oG) (r:A2) (v:AV) (l:List Hp):Nat→Bool:=bQ (β:=Nat→Bool) (fun n=>Nat.rec true (fun _ _=>false) n)
 (fun h _ ih n=>Nat.rec true (fun n _=>RV.rec (fun v' _=>Bool.rec false (ih n) (same v v')) (fun _=>false) (op.run r h)) n) l
abbrev DK:=A2→Hp→Hp→List Hp→RS
def nz (d:aH) (k:DK) (r:A2) (g:Hp) (hs:List Hp) (v:RT):RS:=RT.rec (fun v h'=>k (bL d v r) h' h' (.cons g hs)) (fun n=>.err n) (fun _ _ _=>.err 213) v
def Gd (d:aH) (op:oG) (n:Nat) (k:DK) (r:A2) (h g:Hp) (hs:List Hp) (v:RV):RS:=RV.rec (fun v _=>Bool.rec (.err 211) (k (bL d v r) h g hs) (kL op r v hs n)) (fun n=>.err n) v
def Ge (d:aH) (k:DK) (r:A2) (g:Hp) (hs:List Hp) (v:RV):RS:=RV.rec (fun v h'=>k (bL d v r) h' g hs) (fun n=>.err n) v
def uq (b:Bk) (d:aH) (i:AI) (p:Pg) (run:gJ) (k:DK) (r:A2) (h g:Hp) (hs:List Hp):RS:=AI.rec (fun op=>Bk.rec (nz d k r g hs (op.run r h).kr) (fun n=>Gd d op n k r h g hs (op.run r g)) (Ge d k r g hs (op.run r h)) b) (fun s x=>nz d k r g hs (hE s (ev x r) h)) (fun f xs=>nz d k r g hs (aD p run f (fY xs r) h)) (fun x xs=>nz d k r g hs (jM p run (ev x r) (fY xs r) h)) (fun n x xs=>nz d k r g hs (aI p run n (ev x r) (fY xs r) h)) i
def KZ (b:Bk) (d:aH) (k:DK) (r:A2) (h g:Hp) (hs:List Hp):RS:=Bk.rec (k (bL d cA r) h h (.cons g hs)) (fun _=>k (bL d cA r) h g hs) (.err 214) b
def SU (b:Bk) (d:aH) (i:AI) (k:DK) (r:A2) (h g:Hp) (hs:List Hp) (p:Pg) (run:gJ) (w t:Bool):RS:=
 Bool.rec (KZ b d k r h g hs) (uq b d i p run k r h g hs) (eH t w)
def DI.exec (i:DI) (p:Pg) (run:gJ) (k:DK) (r:A2) (h g:Hp) (hs:List Hp):RS:=DI.rec (fun b y=>GI.rec (fun d i=>uq b d i p run k r h g hs) (fun x y w d i=>AV.bH (gb w (ar x y r)) (SU b d i k r h g hs p run w) (.err 212)) y) i
def sX (p:Pg) (run:gJ) (l:List DI):DK:=bQ (β:=DK) (fun r h _ _=>.nm r h) (fun i _ ih=>i.exec p run ih) l
def cR:AC→Nat→Option AC
 | .seq a b,l=>match cR a l with
  | some c=>some (.seq c b)
  | none=>cR b l
 | .label l',l=>if Nat.beq l' l then some .skip else none
 | .ah _ x,l=>cR x l
 | _,_=>none
def RS.bind (x:RS) (kn:A2→Hp→RS) (ke:Nat→A2→Hp→RS) (kg:Nat→A2→Hp→RS):RS:=RS.elim kn ke kg (fun r h=>.ret r h) (fun n=>.err n) (fun n ih=>.ch n ih) x
def Ci (a b:AC) (run:gJ) (r:A2) (h:Hp):RS:=RS.bind (run a r h) (fun r h=>run b r h) (fun i r h=>.ex i r h) (fun l r h=>.go l r h)
def SV (c:AO) (a b:AC) (run:gJ) (r:A2) (h:Hp):RS:=AV.bH (ev c r) (fun t=>Bool.rec (run b r h) (run a r h) t) (.err 213)
def qy (i:Nat) (a:AC) (run:gJ) (r:A2) (h:Hp):RS:=RS.bind (run a r h) (fun r h=>.nm r h) (fun j r h=>Bool.rec (.ex j r h) (.nm r h) (Nat.beq j i)) (fun l r h=>.go l r h)
def wO (a:AC) (run:gJ) (r:A2) (h:Hp):RS:=RS.bind (run a r h) (fun r h=>run (.loop a) r h) (fun i r h=>.ex i r h) (fun l r h=>.go l r h)
def yS (a c:AC) (run:gJ) (r:A2) (h:Hp):RS:=RS.bind (run c r h) (fun r h=>.nm r h) (fun i r h=>.ex i r h)
 (fun l r h=>Option.rec (.go l r h) (fun c=>run (.sat a c) r h) (cR a l))
def SX (a:AC) (run:gJ) (r:A2) (h:Hp):RS:=fS h (run a r (mark h))
def nF (n:Nat) (f:Nat→Bool):Bool:=nO true (fun m ih=>Bool.rec false ih (f m)) n
abbrev Ex:=Pg→gJ→A2→Hp→RS
def xB (q:Nat) (r:A2) (i:Nat):A1:=Bool.rec (A2.get (bR i) r) (Bool.rec (A2.get (bR (Nat.succ i)) r) .nil (Nat.beq i 15)) (Nat.ble q i)
def sY (q:Nat) (r:A2):A2:=.mk (xB q r 0) (xB q r 1) (xB q r 2) (xB q r 3) (xB q r 4) (xB q r 5) (xB q r 6) (xB q r 7) (xB q r 8) (xB q r 9) (xB q r 10) (xB q r 11) (xB q r 12) (xB q r 13) (xB q r 14) (xB q r 15)
def xD (q:Nat) (r:A2) (i:Nat):A1:=Bool.rec (A2.get (bR (Nat.pred i)) r) (Bool.rec (A2.get (bR i) r) .nil (Nat.beq i q)) (Nat.ble i q)
def Ax (q:Nat) (r:A2):A2:=.mk (xD q r 0) (xD q r 1) (xD q r 2) (xD q r 3) (xD q r 4) (xD q r 5) (xD q r 6) (xD q r 7) (xD q r 8) (xD q r 9) (xD q r 10) (xD q r 11) (xD q r 12) (xD q r 13) (xD q r 14) (xD q r 15)
def SY (x y:RS):Bool:=RS.rec (fun r _=>RS.rec (fun r' _=>A2.le r r') (fun _ _ _=>false) (fun _ _ _=>false) (fun _ _=>false) (fun _=>false) (fun _ _ _=>false) y) (fun _ _ _=>false) (fun _ _ _=>false) (fun _ _=>false) (fun _=>false) (fun _ _ _=>false) x
def wP (b:Hp) (x y:RS):RS:=Bool.rec (qm b (.ch 2 (fun i=>Nat.rec x (fun _ _=>y) i))) (fS b (.ch 2 (fun i=>Nat.rec x (fun _ _=>y) i))) (SY x y)
def wQ (q:Nat) (l:List GI) (p:Pg) (run:gJ) (r:A2) (h:Hp):RS:=RS.bind (eY p run l (sY q r) h) (fun r h=>.nm (Ax q r) h) (fun i r h=>.ex i r h) (fun l r h=>.go l r h)
def sZ (c:AC):Ex:=AC.rec (motive:=fun _=>Ex) (fun _ _ r h=>.nm r h) (fun l p run r h=>eY p run l r h) (fun l p run r h=>sX p run l r h h .nil) (fun a b _ _=>fun _ run r h=>Ci a b run r h) (fun c a b _ _=>fun _ run r h=>SV c a b run r h) (fun i a _=>fun _ run r h=>qy i a run r h) (fun a _=>fun _ run r h=>wO a run r h) (fun a _=>fun _ run r h=>yS a a run r h) (fun a c _ _=>fun _ run r h=>yS a c run r h) (fun i=>fun _ _ r h=>.ex i r h) (fun l=>fun _ _ r h=>.go l r h) (fun _=>fun _ _ r h=>.nm r h) (fun _ _ r h=>.ret r h) (fun a _=>fun _ run r h=>SX a run r h) (fun n=>fun _ _ _ _=>.err n) (fun f x _=>fun p run r h=>f (aD p run) (aI p run) (fun r h=>run x r h) r h) (fun a b _ _=>fun _ run r h=>wP h (run a r (mark h)) (run b r (mark h))) (fun q l p run r h=>wQ q l p run r h) c
def exec (p:Pg) (n:Nat):gJ:=Nat.rec (fun _ _ _=>.err 300) (fun _ ih c=>sZ c p ih) n
def ZJ:Hp:=.mk .nil (.mk .h0 .h0 .h0 .h0) .off
def rounds (k:Nat) (f:A2→Hp→RS):A2→Hp→RS:=nO (β:=A2→Hp→RS) (fun r h=>.nm r h) (fun _ ih r h=>RS.bind (f r h) ih (fun i r h=>.ex i r h) (fun l r h=>.go l r h)) k
end
end Go.Am
