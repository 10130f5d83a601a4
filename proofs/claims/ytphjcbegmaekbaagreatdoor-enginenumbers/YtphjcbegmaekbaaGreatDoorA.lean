/- The abstract machine: its states, its operations, its run. Nothing is asked. -/
import GoSem.Core.Value
import GoSem.Core.Ast
import GoSem.Core.Float
import GoSem.Op.IntArith
import GoSem.Conv.StringToRunes
import GoSem.Core.Utf8
set_option linter.all false
namespace Go.Am
noncomputable section
inductive H where
 | h0|h1|h2|h3|h4|h5|h6|h7|h8|h9|ha|hb|hc|hd|he|hf
def H.succ (d:H):H:=H.rec H.h1 H.h2 H.h3 H.h4 H.h5 H.h6 H.h7 H.h8 H.h9 H.ha H.hb H.hc H.hd H.he H.hf H.h0 d
def H.last (d:H):Bool:=H.rec false false false false false false false false false false false false false false false true d
def H.nat (d:H):Nat:=H.rec 0 1 2 3 4 5 6 7 8 9 10 11 12 13 14 15 d
def bO (n:Nat):H:=(Nat.rec H.h0 (fun n1 _=>(Nat.rec H.h1 (fun n2 _=>(Nat.rec H.h2 (fun n3 _=>(Nat.rec H.h3 (fun n4 _=>(Nat.rec H.h4 (fun n5 _=>(Nat.rec H.h5 (fun n6 _=>(Nat.rec H.h6 (fun n7 _=>(Nat.rec H.h7 (fun n8 _=>(Nat.rec H.h8 (fun n9 _=>(Nat.rec H.h9 (fun n10 _=>(Nat.rec H.ha (fun n11 _=>(Nat.rec H.hb (fun n12 _=>(Nat.rec H.hc (fun n13 _=>(Nat.rec H.hd (fun n14 _=>(Nat.rec H.he (fun n15 _=>H.hf) n14)) n13)) n12)) n11)) n10)) n9)) n8)) n7)) n6)) n5)) n4)) n3)) n2)) n1)) n)
abbrev N16 (α β:Type):=α→α→α→α→α→α→α→α→α→α→α→α→α→α→α→α→β
def EM {α:Type} (a0 a1 a2 a3 a4 a5 a6 a7 a8 a9 aa ab ac ad ae af:α):α:=a0
def EN {α β:Type} (m:N16 α β) (a0 a1 a2 a3 a4 a5 a6 a7 a8 a9 aa ab ac ad ae af v:α):β:=m v a1 a2 a3 a4 a5 a6 a7 a8 a9 aa ab ac ad ae af
def EO {α β:Type} (m:N16 α β) (d v:α):β:=m v d d d d d d d d d d d d d d d
def EP {α:Type} (a0 a1 a2 a3 a4 a5 a6 a7 a8 a9 aa ab ac ad ae af:α):α:=a1
def ER {α β:Type} (m:N16 α β) (a0 a1 a2 a3 a4 a5 a6 a7 a8 a9 aa ab ac ad ae af v:α):β:=m a0 v a2 a3 a4 a5 a6 a7 a8 a9 aa ab ac ad ae af
def ES {α β:Type} (m:N16 α β) (d v:α):β:=m d v d d d d d d d d d d d d d d
def ET {α:Type} (a0 a1 a2 a3 a4 a5 a6 a7 a8 a9 aa ab ac ad ae af:α):α:=a2
def EU {α β:Type} (m:N16 α β) (a0 a1 a2 a3 a4 a5 a6 a7 a8 a9 aa ab ac ad ae af v:α):β:=m a0 a1 v a3 a4 a5 a6 a7 a8 a9 aa ab ac ad ae af
def EV {α β:Type} (m:N16 α β) (d v:α):β:=m d d v d d d d d d d d d d d d d
def EW {α:Type} (a0 a1 a2 a3 a4 a5 a6 a7 a8 a9 aa ab ac ad ae af:α):α:=a3
def EX {α β:Type} (m:N16 α β) (a0 a1 a2 a3 a4 a5 a6 a7 a8 a9 aa ab ac ad ae af v:α):β:=m a0 a1 a2 v a4 a5 a6 a7 a8 a9 aa ab ac ad ae af
def EY {α β:Type} (m:N16 α β) (d v:α):β:=m d d d v d d d d d d d d d d d d
def EZ {α:Type} (a0 a1 a2 a3 a4 a5 a6 a7 a8 a9 aa ab ac ad ae af:α):α:=a4
def Fa {α β:Type} (m:N16 α β) (a0 a1 a2 a3 a4 a5 a6 a7 a8 a9 aa ab ac ad ae af v:α):β:=m a0 a1 a2 a3 v a5 a6 a7 a8 a9 aa ab ac ad ae af
def Fb {α β:Type} (m:N16 α β) (d v:α):β:=m d d d d v d d d d d d d d d d d
def Fc {α:Type} (a0 a1 a2 a3 a4 a5 a6 a7 a8 a9 aa ab ac ad ae af:α):α:=a5
def Fe {α β:Type} (m:N16 α β) (a0 a1 a2 a3 a4 a5 a6 a7 a8 a9 aa ab ac ad ae af v:α):β:=m a0 a1 a2 a3 a4 v a6 a7 a8 a9 aa ab ac ad ae af
def Ff {α β:Type} (m:N16 α β) (d v:α):β:=m d d d d d v d d d d d d d d d d
def Fg {α:Type} (a0 a1 a2 a3 a4 a5 a6 a7 a8 a9 aa ab ac ad ae af:α):α:=a6
def Fh {α β:Type} (m:N16 α β) (a0 a1 a2 a3 a4 a5 a6 a7 a8 a9 aa ab ac ad ae af v:α):β:=m a0 a1 a2 a3 a4 a5 v a7 a8 a9 aa ab ac ad ae af
def Fi {α β:Type} (m:N16 α β) (d v:α):β:=m d d d d d d v d d d d d d d d d
def Fj {α:Type} (a0 a1 a2 a3 a4 a5 a6 a7 a8 a9 aa ab ac ad ae af:α):α:=a7
def Fk {α β:Type} (m:N16 α β) (a0 a1 a2 a3 a4 a5 a6 a7 a8 a9 aa ab ac ad ae af v:α):β:=m a0 a1 a2 a3 a4 a5 a6 v a8 a9 aa ab ac ad ae af
def Fm {α β:Type} (m:N16 α β) (d v:α):β:=m d d d d d d d v d d d d d d d d
def Fo {α:Type} (a0 a1 a2 a3 a4 a5 a6 a7 a8 a9 aa ab ac ad ae af:α):α:=a8
def Fp {α β:Type} (m:N16 α β) (a0 a1 a2 a3 a4 a5 a6 a7 a8 a9 aa ab ac ad ae af v:α):β:=m a0 a1 a2 a3 a4 a5 a6 a7 v a9 aa ab ac ad ae af
def Fq {α β:Type} (m:N16 α β) (d v:α):β:=m d d d d d d d d v d d d d d d d
def Fs {α:Type} (a0 a1 a2 a3 a4 a5 a6 a7 a8 a9 aa ab ac ad ae af:α):α:=a9
def Ft {α β:Type} (m:N16 α β) (a0 a1 a2 a3 a4 a5 a6 a7 a8 a9 aa ab ac ad ae af v:α):β:=m a0 a1 a2 a3 a4 a5 a6 a7 a8 v aa ab ac ad ae af
def Fu {α β:Type} (m:N16 α β) (d v:α):β:=m d d d d d d d d d v d d d d d d
def Fv {α:Type} (a0 a1 a2 a3 a4 a5 a6 a7 a8 a9 aa ab ac ad ae af:α):α:=aa
def Fw {α β:Type} (m:N16 α β) (a0 a1 a2 a3 a4 a5 a6 a7 a8 a9 aa ab ac ad ae af v:α):β:=m a0 a1 a2 a3 a4 a5 a6 a7 a8 a9 v ab ac ad ae af
def Fx {α β:Type} (m:N16 α β) (d v:α):β:=m d d d d d d d d d d v d d d d d
def Fy {α:Type} (a0 a1 a2 a3 a4 a5 a6 a7 a8 a9 aa ab ac ad ae af:α):α:=ab
def Fz {α β:Type} (m:N16 α β) (a0 a1 a2 a3 a4 a5 a6 a7 a8 a9 aa ab ac ad ae af v:α):β:=m a0 a1 a2 a3 a4 a5 a6 a7 a8 a9 aa v ac ad ae af
def FA {α β:Type} (m:N16 α β) (d v:α):β:=m d d d d d d d d d d d v d d d d
def FB {α:Type} (a0 a1 a2 a3 a4 a5 a6 a7 a8 a9 aa ab ac ad ae af:α):α:=ac
def FC {α β:Type} (m:N16 α β) (a0 a1 a2 a3 a4 a5 a6 a7 a8 a9 aa ab ac ad ae af v:α):β:=m a0 a1 a2 a3 a4 a5 a6 a7 a8 a9 aa ab v ad ae af
def FD {α β:Type} (m:N16 α β) (d v:α):β:=m d d d d d d d d d d d d v d d d
def FE {α:Type} (a0 a1 a2 a3 a4 a5 a6 a7 a8 a9 aa ab ac ad ae af:α):α:=ad
def FF {α β:Type} (m:N16 α β) (a0 a1 a2 a3 a4 a5 a6 a7 a8 a9 aa ab ac ad ae af v:α):β:=m a0 a1 a2 a3 a4 a5 a6 a7 a8 a9 aa ab ac v ae af
def FG {α β:Type} (m:N16 α β) (d v:α):β:=m d d d d d d d d d d d d d v d d
def FH {α:Type} (a0 a1 a2 a3 a4 a5 a6 a7 a8 a9 aa ab ac ad ae af:α):α:=ae
def FI {α β:Type} (m:N16 α β) (a0 a1 a2 a3 a4 a5 a6 a7 a8 a9 aa ab ac ad ae af v:α):β:=m a0 a1 a2 a3 a4 a5 a6 a7 a8 a9 aa ab ac ad v af
def FJ {α β:Type} (m:N16 α β) (d v:α):β:=m d d d d d d d d d d d d d d v d
def FK {α:Type} (a0 a1 a2 a3 a4 a5 a6 a7 a8 a9 aa ab ac ad ae af:α):α:=af
def FL {α β:Type} (m:N16 α β) (a0 a1 a2 a3 a4 a5 a6 a7 a8 a9 aa ab ac ad ae af v:α):β:=m a0 a1 a2 a3 a4 a5 a6 a7 a8 a9 aa ab ac ad ae v
def FM {α β:Type} (m:N16 α β) (d v:α):β:=m d d d d d d d d d d d d d d d v
def bF {α β:Type} (n:β) (c:α→List α→β→β) (l:List α):β:=List.rec n c l
inductive P4 where
 | mk (a b c d:H)
inductive AV where
 | undef
 | bool (b:Bool)
 | int (k:IntKind) (n:Int)
 | str (l:List Nat)
 | gA (k:FloatKind) (n:Nat)
 | aM (k:FloatKind) (re im:Nat)
 | ptr (i:P4) (off:Nat)
 | dP
 | slice (i:P4) (off len cap:Nat)
 | bZ (i:P4) (off len es:Nat)
 | aj
 | map (i:P4)
 | mX
 | fn (f:Nat) (cs:List AV)
 | qn
 | iface (t:Nat) (v:AV)
 | qQ
 | agg (cs:List AV)
 | eS (vs:List AV)
 | sym (i:P4)
inductive KV where
 | mk (k v:AV) (born:Nat)
inductive A1 where
 | nil
 | mk (a0 a1 a2 a3 a4 a5 a6 a7 a8 a9 aa ab ac ad ae af:AV)
def A1.g0 (x:A1):AV:=A1.rec .undef EM x
def A1.g1 (x:A1):AV:=A1.rec .undef EP x
def A1.g2 (x:A1):AV:=A1.rec .undef ET x
def A1.g3 (x:A1):AV:=A1.rec .undef EW x
def A1.g4 (x:A1):AV:=A1.rec .undef EZ x
def A1.g5 (x:A1):AV:=A1.rec .undef Fc x
def A1.g6 (x:A1):AV:=A1.rec .undef Fg x
def A1.g7 (x:A1):AV:=A1.rec .undef Fj x
def A1.g8 (x:A1):AV:=A1.rec .undef Fo x
def A1.g9 (x:A1):AV:=A1.rec .undef Fs x
def A1.ga (x:A1):AV:=A1.rec .undef Fv x
def A1.gb (x:A1):AV:=A1.rec .undef Fy x
def A1.gc (x:A1):AV:=A1.rec .undef FB x
def A1.gd (x:A1):AV:=A1.rec .undef FE x
def A1.ge (x:A1):AV:=A1.rec .undef FH x
def A1.gf (x:A1):AV:=A1.rec .undef FK x
def A1.get (d:H):A1→AV:=H.rec (motive:=fun _=>A1→AV) A1.g0 A1.g1 A1.g2 A1.g3 A1.g4 A1.g5 A1.g6 A1.g7 A1.g8 A1.g9 A1.ga A1.gb A1.gc A1.gd A1.ge A1.gf d
def A1.s0 (v:AV) (x:A1):A1:=A1.rec (motive:=fun _=>AV→A1) (EO A1.mk .undef) (EN A1.mk) x v
def A1.s1 (v:AV) (x:A1):A1:=A1.rec (motive:=fun _=>AV→A1) (ES A1.mk .undef) (ER A1.mk) x v
def A1.s2 (v:AV) (x:A1):A1:=A1.rec (motive:=fun _=>AV→A1) (EV A1.mk .undef) (EU A1.mk) x v
def A1.s3 (v:AV) (x:A1):A1:=A1.rec (motive:=fun _=>AV→A1) (EY A1.mk .undef) (EX A1.mk) x v
def A1.s4 (v:AV) (x:A1):A1:=A1.rec (motive:=fun _=>AV→A1) (Fb A1.mk .undef) (Fa A1.mk) x v
def A1.s5 (v:AV) (x:A1):A1:=A1.rec (motive:=fun _=>AV→A1) (Ff A1.mk .undef) (Fe A1.mk) x v
def A1.s6 (v:AV) (x:A1):A1:=A1.rec (motive:=fun _=>AV→A1) (Fi A1.mk .undef) (Fh A1.mk) x v
def A1.s7 (v:AV) (x:A1):A1:=A1.rec (motive:=fun _=>AV→A1) (Fm A1.mk .undef) (Fk A1.mk) x v
def A1.s8 (v:AV) (x:A1):A1:=A1.rec (motive:=fun _=>AV→A1) (Fq A1.mk .undef) (Fp A1.mk) x v
def A1.s9 (v:AV) (x:A1):A1:=A1.rec (motive:=fun _=>AV→A1) (Fu A1.mk .undef) (Ft A1.mk) x v
def A1.sa (v:AV) (x:A1):A1:=A1.rec (motive:=fun _=>AV→A1) (Fx A1.mk .undef) (Fw A1.mk) x v
def A1.sb (v:AV) (x:A1):A1:=A1.rec (motive:=fun _=>AV→A1) (FA A1.mk .undef) (Fz A1.mk) x v
def A1.sc (v:AV) (x:A1):A1:=A1.rec (motive:=fun _=>AV→A1) (FD A1.mk .undef) (FC A1.mk) x v
def A1.sd (v:AV) (x:A1):A1:=A1.rec (motive:=fun _=>AV→A1) (FG A1.mk .undef) (FF A1.mk) x v
def A1.se (v:AV) (x:A1):A1:=A1.rec (motive:=fun _=>AV→A1) (FJ A1.mk .undef) (FI A1.mk) x v
def A1.sf (v:AV) (x:A1):A1:=A1.rec (motive:=fun _=>AV→A1) (FM A1.mk .undef) (FL A1.mk) x v
def A1.set (d:H):AV→A1→A1:=H.rec (motive:=fun _=>AV→A1→A1) A1.s0 A1.s1 A1.s2 A1.s3 A1.s4 A1.s5 A1.s6 A1.s7 A1.s8 A1.s9 A1.sa A1.sb A1.sc A1.sd A1.se A1.sf d
inductive A2 where
 | nil
 | mk (a0 a1 a2 a3 a4 a5 a6 a7 a8 a9 aa ab ac ad ae af:A1)
def A2.g0 (x:A2):A1:=A2.rec .nil EM x
def A2.g1 (x:A2):A1:=A2.rec .nil EP x
def A2.g2 (x:A2):A1:=A2.rec .nil ET x
def A2.g3 (x:A2):A1:=A2.rec .nil EW x
def A2.g4 (x:A2):A1:=A2.rec .nil EZ x
def A2.g5 (x:A2):A1:=A2.rec .nil Fc x
def A2.g6 (x:A2):A1:=A2.rec .nil Fg x
def A2.g7 (x:A2):A1:=A2.rec .nil Fj x
def A2.g8 (x:A2):A1:=A2.rec .nil Fo x
def A2.g9 (x:A2):A1:=A2.rec .nil Fs x
def A2.ga (x:A2):A1:=A2.rec .nil Fv x
def A2.gb (x:A2):A1:=A2.rec .nil Fy x
def A2.gc (x:A2):A1:=A2.rec .nil FB x
def A2.gd (x:A2):A1:=A2.rec .nil FE x
def A2.ge (x:A2):A1:=A2.rec .nil FH x
def A2.gf (x:A2):A1:=A2.rec .nil FK x
def A2.get (d:H):A2→A1:=H.rec (motive:=fun _=>A2→A1) A2.g0 A2.g1 A2.g2 A2.g3 A2.g4 A2.g5 A2.g6 A2.g7 A2.g8 A2.g9 A2.ga A2.gb A2.gc A2.gd A2.ge A2.gf d
def A2.s0 (v:A1) (x:A2):A2:=A2.rec (motive:=fun _=>A1→A2) (EO A2.mk .nil) (EN A2.mk) x v
def A2.s1 (v:A1) (x:A2):A2:=A2.rec (motive:=fun _=>A1→A2) (ES A2.mk .nil) (ER A2.mk) x v
def A2.s2 (v:A1) (x:A2):A2:=A2.rec (motive:=fun _=>A1→A2) (EV A2.mk .nil) (EU A2.mk) x v
def A2.s3 (v:A1) (x:A2):A2:=A2.rec (motive:=fun _=>A1→A2) (EY A2.mk .nil) (EX A2.mk) x v
def A2.s4 (v:A1) (x:A2):A2:=A2.rec (motive:=fun _=>A1→A2) (Fb A2.mk .nil) (Fa A2.mk) x v
def A2.s5 (v:A1) (x:A2):A2:=A2.rec (motive:=fun _=>A1→A2) (Ff A2.mk .nil) (Fe A2.mk) x v
def A2.s6 (v:A1) (x:A2):A2:=A2.rec (motive:=fun _=>A1→A2) (Fi A2.mk .nil) (Fh A2.mk) x v
def A2.s7 (v:A1) (x:A2):A2:=A2.rec (motive:=fun _=>A1→A2) (Fm A2.mk .nil) (Fk A2.mk) x v
def A2.s8 (v:A1) (x:A2):A2:=A2.rec (motive:=fun _=>A1→A2) (Fq A2.mk .nil) (Fp A2.mk) x v
def A2.s9 (v:A1) (x:A2):A2:=A2.rec (motive:=fun _=>A1→A2) (Fu A2.mk .nil) (Ft A2.mk) x v
def A2.sa (v:A1) (x:A2):A2:=A2.rec (motive:=fun _=>A1→A2) (Fx A2.mk .nil) (Fw A2.mk) x v
def A2.sb (v:A1) (x:A2):A2:=A2.rec (motive:=fun _=>A1→A2) (FA A2.mk .nil) (Fz A2.mk) x v
def A2.sc (v:A1) (x:A2):A2:=A2.rec (motive:=fun _=>A1→A2) (FD A2.mk .nil) (FC A2.mk) x v
def A2.sd (v:A1) (x:A2):A2:=A2.rec (motive:=fun _=>A1→A2) (FG A2.mk .nil) (FF A2.mk) x v
def A2.se (v:A1) (x:A2):A2:=A2.rec (motive:=fun _=>A1→A2) (FJ A2.mk .nil) (FI A2.mk) x v
def A2.sf (v:A1) (x:A2):A2:=A2.rec (motive:=fun _=>A1→A2) (FM A2.mk .nil) (FL A2.mk) x v
def A2.set (d:H):A1→A2→A2:=H.rec (motive:=fun _=>A1→A2→A2) A2.s0 A2.s1 A2.s2 A2.s3 A2.s4 A2.s5 A2.s6 A2.s7 A2.s8 A2.s9 A2.sa A2.sb A2.sc A2.sd A2.se A2.sf d
inductive A3 where
 | nil
 | mk (a0 a1 a2 a3 a4 a5 a6 a7 a8 a9 aa ab ac ad ae af:A2)
def A3.g0 (x:A3):A2:=A3.rec .nil EM x
def A3.g1 (x:A3):A2:=A3.rec .nil EP x
def A3.g2 (x:A3):A2:=A3.rec .nil ET x
def A3.g3 (x:A3):A2:=A3.rec .nil EW x
def A3.g4 (x:A3):A2:=A3.rec .nil EZ x
def A3.g5 (x:A3):A2:=A3.rec .nil Fc x
def A3.g6 (x:A3):A2:=A3.rec .nil Fg x
def A3.g7 (x:A3):A2:=A3.rec .nil Fj x
def A3.g8 (x:A3):A2:=A3.rec .nil Fo x
def A3.g9 (x:A3):A2:=A3.rec .nil Fs x
def A3.ga (x:A3):A2:=A3.rec .nil Fv x
def A3.gb (x:A3):A2:=A3.rec .nil Fy x
def A3.gc (x:A3):A2:=A3.rec .nil FB x
def A3.gd (x:A3):A2:=A3.rec .nil FE x
def A3.ge (x:A3):A2:=A3.rec .nil FH x
def A3.gf (x:A3):A2:=A3.rec .nil FK x
def A3.get (d:H):A3→A2:=H.rec (motive:=fun _=>A3→A2) A3.g0 A3.g1 A3.g2 A3.g3 A3.g4 A3.g5 A3.g6 A3.g7 A3.g8 A3.g9 A3.ga A3.gb A3.gc A3.gd A3.ge A3.gf d
def A3.s0 (v:A2) (x:A3):A3:=A3.rec (motive:=fun _=>A2→A3) (EO A3.mk .nil) (EN A3.mk) x v
def A3.s1 (v:A2) (x:A3):A3:=A3.rec (motive:=fun _=>A2→A3) (ES A3.mk .nil) (ER A3.mk) x v
def A3.s2 (v:A2) (x:A3):A3:=A3.rec (motive:=fun _=>A2→A3) (EV A3.mk .nil) (EU A3.mk) x v
def A3.s3 (v:A2) (x:A3):A3:=A3.rec (motive:=fun _=>A2→A3) (EY A3.mk .nil) (EX A3.mk) x v
def A3.s4 (v:A2) (x:A3):A3:=A3.rec (motive:=fun _=>A2→A3) (Fb A3.mk .nil) (Fa A3.mk) x v
def A3.s5 (v:A2) (x:A3):A3:=A3.rec (motive:=fun _=>A2→A3) (Ff A3.mk .nil) (Fe A3.mk) x v
def A3.s6 (v:A2) (x:A3):A3:=A3.rec (motive:=fun _=>A2→A3) (Fi A3.mk .nil) (Fh A3.mk) x v
def A3.s7 (v:A2) (x:A3):A3:=A3.rec (motive:=fun _=>A2→A3) (Fm A3.mk .nil) (Fk A3.mk) x v
def A3.s8 (v:A2) (x:A3):A3:=A3.rec (motive:=fun _=>A2→A3) (Fq A3.mk .nil) (Fp A3.mk) x v
def A3.s9 (v:A2) (x:A3):A3:=A3.rec (motive:=fun _=>A2→A3) (Fu A3.mk .nil) (Ft A3.mk) x v
def A3.sa (v:A2) (x:A3):A3:=A3.rec (motive:=fun _=>A2→A3) (Fx A3.mk .nil) (Fw A3.mk) x v
def A3.sb (v:A2) (x:A3):A3:=A3.rec (motive:=fun _=>A2→A3) (FA A3.mk .nil) (Fz A3.mk) x v
def A3.sc (v:A2) (x:A3):A3:=A3.rec (motive:=fun _=>A2→A3) (FD A3.mk .nil) (FC A3.mk) x v
def A3.sd (v:A2) (x:A3):A3:=A3.rec (motive:=fun _=>A2→A3) (FG A3.mk .nil) (FF A3.mk) x v
def A3.se (v:A2) (x:A3):A3:=A3.rec (motive:=fun _=>A2→A3) (FJ A3.mk .nil) (FI A3.mk) x v
def A3.sf (v:A2) (x:A3):A3:=A3.rec (motive:=fun _=>A2→A3) (FM A3.mk .nil) (FL A3.mk) x v
def A3.set (d:H):A2→A3→A3:=H.rec (motive:=fun _=>A2→A3→A3) A3.s0 A3.s1 A3.s2 A3.s3 A3.s4 A3.s5 A3.s6 A3.s7 A3.s8 A3.s9 A3.sa A3.sb A3.sc A3.sd A3.se A3.sf d
inductive A4 where
 | nil
 | mk (a0 a1 a2 a3 a4 a5 a6 a7 a8 a9 aa ab ac ad ae af:A3)
def A4.g0 (x:A4):A3:=A4.rec .nil EM x
def A4.g1 (x:A4):A3:=A4.rec .nil EP x
def A4.g2 (x:A4):A3:=A4.rec .nil ET x
def A4.g3 (x:A4):A3:=A4.rec .nil EW x
def A4.g4 (x:A4):A3:=A4.rec .nil EZ x
def A4.g5 (x:A4):A3:=A4.rec .nil Fc x
def A4.g6 (x:A4):A3:=A4.rec .nil Fg x
def A4.g7 (x:A4):A3:=A4.rec .nil Fj x
def A4.g8 (x:A4):A3:=A4.rec .nil Fo x
def A4.g9 (x:A4):A3:=A4.rec .nil Fs x
def A4.ga (x:A4):A3:=A4.rec .nil Fv x
def A4.gb (x:A4):A3:=A4.rec .nil Fy x
def A4.gc (x:A4):A3:=A4.rec .nil FB x
def A4.gd (x:A4):A3:=A4.rec .nil FE x
def A4.ge (x:A4):A3:=A4.rec .nil FH x
def A4.gf (x:A4):A3:=A4.rec .nil FK x
def A4.get (d:H):A4→A3:=H.rec (motive:=fun _=>A4→A3) A4.g0 A4.g1 A4.g2 A4.g3 A4.g4 A4.g5 A4.g6 A4.g7 A4.g8 A4.g9 A4.ga A4.gb A4.gc A4.gd A4.ge A4.gf d
def A4.s0 (v:A3) (x:A4):A4:=A4.rec (motive:=fun _=>A3→A4) (EO A4.mk .nil) (EN A4.mk) x v
def A4.s1 (v:A3) (x:A4):A4:=A4.rec (motive:=fun _=>A3→A4) (ES A4.mk .nil) (ER A4.mk) x v
def A4.s2 (v:A3) (x:A4):A4:=A4.rec (motive:=fun _=>A3→A4) (EV A4.mk .nil) (EU A4.mk) x v
def A4.s3 (v:A3) (x:A4):A4:=A4.rec (motive:=fun _=>A3→A4) (EY A4.mk .nil) (EX A4.mk) x v
def A4.s4 (v:A3) (x:A4):A4:=A4.rec (motive:=fun _=>A3→A4) (Fb A4.mk .nil) (Fa A4.mk) x v
def A4.s5 (v:A3) (x:A4):A4:=A4.rec (motive:=fun _=>A3→A4) (Ff A4.mk .nil) (Fe A4.mk) x v
def A4.s6 (v:A3) (x:A4):A4:=A4.rec (motive:=fun _=>A3→A4) (Fi A4.mk .nil) (Fh A4.mk) x v
def A4.s7 (v:A3) (x:A4):A4:=A4.rec (motive:=fun _=>A3→A4) (Fm A4.mk .nil) (Fk A4.mk) x v
def A4.s8 (v:A3) (x:A4):A4:=A4.rec (motive:=fun _=>A3→A4) (Fq A4.mk .nil) (Fp A4.mk) x v
def A4.s9 (v:A3) (x:A4):A4:=A4.rec (motive:=fun _=>A3→A4) (Fu A4.mk .nil) (Ft A4.mk) x v
def A4.sa (v:A3) (x:A4):A4:=A4.rec (motive:=fun _=>A3→A4) (Fx A4.mk .nil) (Fw A4.mk) x v
def A4.sb (v:A3) (x:A4):A4:=A4.rec (motive:=fun _=>A3→A4) (FA A4.mk .nil) (Fz A4.mk) x v
def A4.sc (v:A3) (x:A4):A4:=A4.rec (motive:=fun _=>A3→A4) (FD A4.mk .nil) (FC A4.mk) x v
def A4.sd (v:A3) (x:A4):A4:=A4.rec (motive:=fun _=>A3→A4) (FG A4.mk .nil) (FF A4.mk) x v
def A4.se (v:A3) (x:A4):A4:=A4.rec (motive:=fun _=>A3→A4) (FJ A4.mk .nil) (FI A4.mk) x v
def A4.sf (v:A3) (x:A4):A4:=A4.rec (motive:=fun _=>A3→A4) (FM A4.mk .nil) (FL A4.mk) x v
def A4.set (d:H):A3→A4→A4:=H.rec (motive:=fun _=>A3→A4→A4) A4.s0 A4.s1 A4.s2 A4.s3 A4.s4 A4.s5 A4.s6 A4.s7 A4.s8 A4.s9 A4.sa A4.sb A4.sc A4.sd A4.se A4.sf d
inductive Cl where
 | k1 (x:A1)
 | k2 (x:A2)
 | k3 (x:A3)
 | k4 (x:A4)
inductive Fl where
 | plain
 | mark
 | wx
inductive Obj where
 | none
 | dead
 | cells (el n:Nat) (ex:Bool) (fl:Fl) (c:Cl)
 | map (l:List KV) (clock:Nat)
 | xX (s:List Nat) (pos:Nat)
 | qR (m:P4) (since:Nat) (seen:List Nat) (last:Nat)
 | xY
inductive O1 where
 | nil
 | mk (a0 a1 a2 a3 a4 a5 a6 a7 a8 a9 aa ab ac ad ae af:Obj)
def O1.g0 (x:O1):Obj:=O1.rec .none EM x
def O1.g1 (x:O1):Obj:=O1.rec .none EP x
def O1.g2 (x:O1):Obj:=O1.rec .none ET x
def O1.g3 (x:O1):Obj:=O1.rec .none EW x
def O1.g4 (x:O1):Obj:=O1.rec .none EZ x
def O1.g5 (x:O1):Obj:=O1.rec .none Fc x
def O1.g6 (x:O1):Obj:=O1.rec .none Fg x
def O1.g7 (x:O1):Obj:=O1.rec .none Fj x
def O1.g8 (x:O1):Obj:=O1.rec .none Fo x
def O1.g9 (x:O1):Obj:=O1.rec .none Fs x
def O1.ga (x:O1):Obj:=O1.rec .none Fv x
def O1.gb (x:O1):Obj:=O1.rec .none Fy x
def O1.gc (x:O1):Obj:=O1.rec .none FB x
def O1.gd (x:O1):Obj:=O1.rec .none FE x
def O1.ge (x:O1):Obj:=O1.rec .none FH x
def O1.gf (x:O1):Obj:=O1.rec .none FK x
def O1.get (d:H):O1→Obj:=H.rec (motive:=fun _=>O1→Obj) O1.g0 O1.g1 O1.g2 O1.g3 O1.g4 O1.g5 O1.g6 O1.g7 O1.g8 O1.g9 O1.ga O1.gb O1.gc O1.gd O1.ge O1.gf d
def O1.s0 (v:Obj) (x:O1):O1:=O1.rec (motive:=fun _=>Obj→O1) (EO O1.mk .none) (EN O1.mk) x v
def O1.s1 (v:Obj) (x:O1):O1:=O1.rec (motive:=fun _=>Obj→O1) (ES O1.mk .none) (ER O1.mk) x v
def O1.s2 (v:Obj) (x:O1):O1:=O1.rec (motive:=fun _=>Obj→O1) (EV O1.mk .none) (EU O1.mk) x v
def O1.s3 (v:Obj) (x:O1):O1:=O1.rec (motive:=fun _=>Obj→O1) (EY O1.mk .none) (EX O1.mk) x v
def O1.s4 (v:Obj) (x:O1):O1:=O1.rec (motive:=fun _=>Obj→O1) (Fb O1.mk .none) (Fa O1.mk) x v
def O1.s5 (v:Obj) (x:O1):O1:=O1.rec (motive:=fun _=>Obj→O1) (Ff O1.mk .none) (Fe O1.mk) x v
def O1.s6 (v:Obj) (x:O1):O1:=O1.rec (motive:=fun _=>Obj→O1) (Fi O1.mk .none) (Fh O1.mk) x v
def O1.s7 (v:Obj) (x:O1):O1:=O1.rec (motive:=fun _=>Obj→O1) (Fm O1.mk .none) (Fk O1.mk) x v
def O1.s8 (v:Obj) (x:O1):O1:=O1.rec (motive:=fun _=>Obj→O1) (Fq O1.mk .none) (Fp O1.mk) x v
def O1.s9 (v:Obj) (x:O1):O1:=O1.rec (motive:=fun _=>Obj→O1) (Fu O1.mk .none) (Ft O1.mk) x v
def O1.sa (v:Obj) (x:O1):O1:=O1.rec (motive:=fun _=>Obj→O1) (Fx O1.mk .none) (Fw O1.mk) x v
def O1.sb (v:Obj) (x:O1):O1:=O1.rec (motive:=fun _=>Obj→O1) (FA O1.mk .none) (Fz O1.mk) x v
def O1.sc (v:Obj) (x:O1):O1:=O1.rec (motive:=fun _=>Obj→O1) (FD O1.mk .none) (FC O1.mk) x v
def O1.sd (v:Obj) (x:O1):O1:=O1.rec (motive:=fun _=>Obj→O1) (FG O1.mk .none) (FF O1.mk) x v
def O1.se (v:Obj) (x:O1):O1:=O1.rec (motive:=fun _=>Obj→O1) (FJ O1.mk .none) (FI O1.mk) x v
def O1.sf (v:Obj) (x:O1):O1:=O1.rec (motive:=fun _=>Obj→O1) (FM O1.mk .none) (FL O1.mk) x v
def O1.set (d:H):Obj→O1→O1:=H.rec (motive:=fun _=>Obj→O1→O1) O1.s0 O1.s1 O1.s2 O1.s3 O1.s4 O1.s5 O1.s6 O1.s7 O1.s8 O1.s9 O1.sa O1.sb O1.sc O1.sd O1.se O1.sf d
inductive O2 where
 | nil
 | mk (a0 a1 a2 a3 a4 a5 a6 a7 a8 a9 aa ab ac ad ae af:O1)
def O2.g0 (x:O2):O1:=O2.rec .nil EM x
def O2.g1 (x:O2):O1:=O2.rec .nil EP x
def O2.g2 (x:O2):O1:=O2.rec .nil ET x
def O2.g3 (x:O2):O1:=O2.rec .nil EW x
def O2.g4 (x:O2):O1:=O2.rec .nil EZ x
def O2.g5 (x:O2):O1:=O2.rec .nil Fc x
def O2.g6 (x:O2):O1:=O2.rec .nil Fg x
def O2.g7 (x:O2):O1:=O2.rec .nil Fj x
def O2.g8 (x:O2):O1:=O2.rec .nil Fo x
def O2.g9 (x:O2):O1:=O2.rec .nil Fs x
def O2.ga (x:O2):O1:=O2.rec .nil Fv x
def O2.gb (x:O2):O1:=O2.rec .nil Fy x
def O2.gc (x:O2):O1:=O2.rec .nil FB x
def O2.gd (x:O2):O1:=O2.rec .nil FE x
def O2.ge (x:O2):O1:=O2.rec .nil FH x
def O2.gf (x:O2):O1:=O2.rec .nil FK x
def O2.get (d:H):O2→O1:=H.rec (motive:=fun _=>O2→O1) O2.g0 O2.g1 O2.g2 O2.g3 O2.g4 O2.g5 O2.g6 O2.g7 O2.g8 O2.g9 O2.ga O2.gb O2.gc O2.gd O2.ge O2.gf d
def O2.s0 (v:O1) (x:O2):O2:=O2.rec (motive:=fun _=>O1→O2) (EO O2.mk .nil) (EN O2.mk) x v
def O2.s1 (v:O1) (x:O2):O2:=O2.rec (motive:=fun _=>O1→O2) (ES O2.mk .nil) (ER O2.mk) x v
def O2.s2 (v:O1) (x:O2):O2:=O2.rec (motive:=fun _=>O1→O2) (EV O2.mk .nil) (EU O2.mk) x v
def O2.s3 (v:O1) (x:O2):O2:=O2.rec (motive:=fun _=>O1→O2) (EY O2.mk .nil) (EX O2.mk) x v
def O2.s4 (v:O1) (x:O2):O2:=O2.rec (motive:=fun _=>O1→O2) (Fb O2.mk .nil) (Fa O2.mk) x v
def O2.s5 (v:O1) (x:O2):O2:=O2.rec (motive:=fun _=>O1→O2) (Ff O2.mk .nil) (Fe O2.mk) x v
def O2.s6 (v:O1) (x:O2):O2:=O2.rec (motive:=fun _=>O1→O2) (Fi O2.mk .nil) (Fh O2.mk) x v
def O2.s7 (v:O1) (x:O2):O2:=O2.rec (motive:=fun _=>O1→O2) (Fm O2.mk .nil) (Fk O2.mk) x v
def O2.s8 (v:O1) (x:O2):O2:=O2.rec (motive:=fun _=>O1→O2) (Fq O2.mk .nil) (Fp O2.mk) x v
def O2.s9 (v:O1) (x:O2):O2:=O2.rec (motive:=fun _=>O1→O2) (Fu O2.mk .nil) (Ft O2.mk) x v
def O2.sa (v:O1) (x:O2):O2:=O2.rec (motive:=fun _=>O1→O2) (Fx O2.mk .nil) (Fw O2.mk) x v
def O2.sb (v:O1) (x:O2):O2:=O2.rec (motive:=fun _=>O1→O2) (FA O2.mk .nil) (Fz O2.mk) x v
def O2.sc (v:O1) (x:O2):O2:=O2.rec (motive:=fun _=>O1→O2) (FD O2.mk .nil) (FC O2.mk) x v
def O2.sd (v:O1) (x:O2):O2:=O2.rec (motive:=fun _=>O1→O2) (FG O2.mk .nil) (FF O2.mk) x v
def O2.se (v:O1) (x:O2):O2:=O2.rec (motive:=fun _=>O1→O2) (FJ O2.mk .nil) (FI O2.mk) x v
def O2.sf (v:O1) (x:O2):O2:=O2.rec (motive:=fun _=>O1→O2) (FM O2.mk .nil) (FL O2.mk) x v
def O2.set (d:H):O1→O2→O2:=H.rec (motive:=fun _=>O1→O2→O2) O2.s0 O2.s1 O2.s2 O2.s3 O2.s4 O2.s5 O2.s6 O2.s7 O2.s8 O2.s9 O2.sa O2.sb O2.sc O2.sd O2.se O2.sf d
inductive O3 where
 | nil
 | mk (a0 a1 a2 a3 a4 a5 a6 a7 a8 a9 aa ab ac ad ae af:O2)
def O3.g0 (x:O3):O2:=O3.rec .nil EM x
def O3.g1 (x:O3):O2:=O3.rec .nil EP x
def O3.g2 (x:O3):O2:=O3.rec .nil ET x
def O3.g3 (x:O3):O2:=O3.rec .nil EW x
def O3.g4 (x:O3):O2:=O3.rec .nil EZ x
def O3.g5 (x:O3):O2:=O3.rec .nil Fc x
def O3.g6 (x:O3):O2:=O3.rec .nil Fg x
def O3.g7 (x:O3):O2:=O3.rec .nil Fj x
def O3.g8 (x:O3):O2:=O3.rec .nil Fo x
def O3.g9 (x:O3):O2:=O3.rec .nil Fs x
def O3.ga (x:O3):O2:=O3.rec .nil Fv x
def O3.gb (x:O3):O2:=O3.rec .nil Fy x
def O3.gc (x:O3):O2:=O3.rec .nil FB x
def O3.gd (x:O3):O2:=O3.rec .nil FE x
def O3.ge (x:O3):O2:=O3.rec .nil FH x
def O3.gf (x:O3):O2:=O3.rec .nil FK x
def O3.get (d:H):O3→O2:=H.rec (motive:=fun _=>O3→O2) O3.g0 O3.g1 O3.g2 O3.g3 O3.g4 O3.g5 O3.g6 O3.g7 O3.g8 O3.g9 O3.ga O3.gb O3.gc O3.gd O3.ge O3.gf d
def O3.s0 (v:O2) (x:O3):O3:=O3.rec (motive:=fun _=>O2→O3) (EO O3.mk .nil) (EN O3.mk) x v
def O3.s1 (v:O2) (x:O3):O3:=O3.rec (motive:=fun _=>O2→O3) (ES O3.mk .nil) (ER O3.mk) x v
def O3.s2 (v:O2) (x:O3):O3:=O3.rec (motive:=fun _=>O2→O3) (EV O3.mk .nil) (EU O3.mk) x v
def O3.s3 (v:O2) (x:O3):O3:=O3.rec (motive:=fun _=>O2→O3) (EY O3.mk .nil) (EX O3.mk) x v
def O3.s4 (v:O2) (x:O3):O3:=O3.rec (motive:=fun _=>O2→O3) (Fb O3.mk .nil) (Fa O3.mk) x v
def O3.s5 (v:O2) (x:O3):O3:=O3.rec (motive:=fun _=>O2→O3) (Ff O3.mk .nil) (Fe O3.mk) x v
def O3.s6 (v:O2) (x:O3):O3:=O3.rec (motive:=fun _=>O2→O3) (Fi O3.mk .nil) (Fh O3.mk) x v
def O3.s7 (v:O2) (x:O3):O3:=O3.rec (motive:=fun _=>O2→O3) (Fm O3.mk .nil) (Fk O3.mk) x v
def O3.s8 (v:O2) (x:O3):O3:=O3.rec (motive:=fun _=>O2→O3) (Fq O3.mk .nil) (Fp O3.mk) x v
def O3.s9 (v:O2) (x:O3):O3:=O3.rec (motive:=fun _=>O2→O3) (Fu O3.mk .nil) (Ft O3.mk) x v
def O3.sa (v:O2) (x:O3):O3:=O3.rec (motive:=fun _=>O2→O3) (Fx O3.mk .nil) (Fw O3.mk) x v
def O3.sb (v:O2) (x:O3):O3:=O3.rec (motive:=fun _=>O2→O3) (FA O3.mk .nil) (Fz O3.mk) x v
def O3.sc (v:O2) (x:O3):O3:=O3.rec (motive:=fun _=>O2→O3) (FD O3.mk .nil) (FC O3.mk) x v
def O3.sd (v:O2) (x:O3):O3:=O3.rec (motive:=fun _=>O2→O3) (FG O3.mk .nil) (FF O3.mk) x v
def O3.se (v:O2) (x:O3):O3:=O3.rec (motive:=fun _=>O2→O3) (FJ O3.mk .nil) (FI O3.mk) x v
def O3.sf (v:O2) (x:O3):O3:=O3.rec (motive:=fun _=>O2→O3) (FM O3.mk .nil) (FL O3.mk) x v
def O3.set (d:H):O2→O3→O3:=H.rec (motive:=fun _=>O2→O3→O3) O3.s0 O3.s1 O3.s2 O3.s3 O3.s4 O3.s5 O3.s6 O3.s7 O3.s8 O3.s9 O3.sa O3.sb O3.sc O3.sd O3.se O3.sf d
inductive O4 where
 | nil
 | mk (a0 a1 a2 a3 a4 a5 a6 a7 a8 a9 aa ab ac ad ae af:O3)
def O4.g0 (x:O4):O3:=O4.rec .nil EM x
def O4.g1 (x:O4):O3:=O4.rec .nil EP x
def O4.g2 (x:O4):O3:=O4.rec .nil ET x
def O4.g3 (x:O4):O3:=O4.rec .nil EW x
def O4.g4 (x:O4):O3:=O4.rec .nil EZ x
def O4.g5 (x:O4):O3:=O4.rec .nil Fc x
def O4.g6 (x:O4):O3:=O4.rec .nil Fg x
def O4.g7 (x:O4):O3:=O4.rec .nil Fj x
def O4.g8 (x:O4):O3:=O4.rec .nil Fo x
def O4.g9 (x:O4):O3:=O4.rec .nil Fs x
def O4.ga (x:O4):O3:=O4.rec .nil Fv x
def O4.gb (x:O4):O3:=O4.rec .nil Fy x
def O4.gc (x:O4):O3:=O4.rec .nil FB x
def O4.gd (x:O4):O3:=O4.rec .nil FE x
def O4.ge (x:O4):O3:=O4.rec .nil FH x
def O4.gf (x:O4):O3:=O4.rec .nil FK x
def O4.get (d:H):O4→O3:=H.rec (motive:=fun _=>O4→O3) O4.g0 O4.g1 O4.g2 O4.g3 O4.g4 O4.g5 O4.g6 O4.g7 O4.g8 O4.g9 O4.ga O4.gb O4.gc O4.gd O4.ge O4.gf d
def O4.s0 (v:O3) (x:O4):O4:=O4.rec (motive:=fun _=>O3→O4) (EO O4.mk .nil) (EN O4.mk) x v
def O4.s1 (v:O3) (x:O4):O4:=O4.rec (motive:=fun _=>O3→O4) (ES O4.mk .nil) (ER O4.mk) x v
def O4.s2 (v:O3) (x:O4):O4:=O4.rec (motive:=fun _=>O3→O4) (EV O4.mk .nil) (EU O4.mk) x v
def O4.s3 (v:O3) (x:O4):O4:=O4.rec (motive:=fun _=>O3→O4) (EY O4.mk .nil) (EX O4.mk) x v
def O4.s4 (v:O3) (x:O4):O4:=O4.rec (motive:=fun _=>O3→O4) (Fb O4.mk .nil) (Fa O4.mk) x v
def O4.s5 (v:O3) (x:O4):O4:=O4.rec (motive:=fun _=>O3→O4) (Ff O4.mk .nil) (Fe O4.mk) x v
def O4.s6 (v:O3) (x:O4):O4:=O4.rec (motive:=fun _=>O3→O4) (Fi O4.mk .nil) (Fh O4.mk) x v
def O4.s7 (v:O3) (x:O4):O4:=O4.rec (motive:=fun _=>O3→O4) (Fm O4.mk .nil) (Fk O4.mk) x v
def O4.s8 (v:O3) (x:O4):O4:=O4.rec (motive:=fun _=>O3→O4) (Fq O4.mk .nil) (Fp O4.mk) x v
def O4.s9 (v:O3) (x:O4):O4:=O4.rec (motive:=fun _=>O3→O4) (Fu O4.mk .nil) (Ft O4.mk) x v
def O4.sa (v:O3) (x:O4):O4:=O4.rec (motive:=fun _=>O3→O4) (Fx O4.mk .nil) (Fw O4.mk) x v
def O4.sb (v:O3) (x:O4):O4:=O4.rec (motive:=fun _=>O3→O4) (FA O4.mk .nil) (Fz O4.mk) x v
def O4.sc (v:O3) (x:O4):O4:=O4.rec (motive:=fun _=>O3→O4) (FD O4.mk .nil) (FC O4.mk) x v
def O4.sd (v:O3) (x:O4):O4:=O4.rec (motive:=fun _=>O3→O4) (FG O4.mk .nil) (FF O4.mk) x v
def O4.se (v:O3) (x:O4):O4:=O4.rec (motive:=fun _=>O3→O4) (FJ O4.mk .nil) (FI O4.mk) x v
def O4.sf (v:O3) (x:O4):O4:=O4.rec (motive:=fun _=>O3→O4) (FM O4.mk .nil) (FL O4.mk) x v
def O4.set (d:H):O3→O4→O4:=H.rec (motive:=fun _=>O3→O4→O4) O4.s0 O4.s1 O4.s2 O4.s3 O4.s4 O4.s5 O4.s6 O4.s7 O4.s8 O4.s9 O4.sa O4.sb O4.sc O4.sd O4.se O4.sf d
inductive Lg where
 | off
 | on (l:List P4)
inductive Hp where
 | mk (t:O4) (nx:P4) (lg:Lg)
inductive RV where
 | ok (v:AV) (h:Hp)
 | err (n:Nat)
inductive RT where
 | ok (v:AV) (h:Hp)
 | err (n:Nat)
 | ch (n:Nat) (k:Nat→RT)
inductive RS where
 | nm (r:A2) (h:Hp)
 | ex (i:Nat) (r:A2) (h:Hp)
 | go (l:Nat) (r:A2) (h:Hp)
 | ret (r:A2) (h:Hp)
 | err (n:Nat)
 | ch (n:Nat) (k:Nat→RS)
def RT.elim {β:Type} (f:AV→Hp→β) (e:Nat→β) (c:Nat→(Nat→β)→β) (x:RT):β:=RT.rec f e (fun n _ ih=>c n ih) x
def RS.elim {β:Type} (f1:A2→Hp→β) (f2:Nat→A2→Hp→β) (f3:Nat→A2→Hp→β) (f4:A2→Hp→β) (e:Nat→β) (c:Nat→(Nat→β)→β) (x:RS):β:=RS.rec f1 f2 f3 f4 e (fun n _ ih=>c n ih) x
def jO {β:Type} (z:β) (s:Nat→β→β) (n:Nat):β:=Nat.rec z s n
def P4.succ (p:P4):P4:=P4.rec (fun a b c d=>
 Bool.rec (.mk a b c d.succ) (Bool.rec (.mk a b c.succ .h0) (Bool.rec (.mk a b.succ .h0 .h0) (.mk a.succ .h0 .h0 .h0) b.last) c.last) d.last) p
def di (p:P4) (t:O4):Obj:=P4.rec (fun a b c d=>O1.get d (O2.get c (O3.get b (O4.get a t)))) p
def Hp.tree (h:Hp):O4:=Hp.rec (fun t _ _=>t) h
def Hp.next (h:Hp):P4:=Hp.rec (fun _ n _=>n) h
def Hp.log (h:Hp):Lg:=Hp.rec (fun _ _ l=>l) h
def Lg.add (p:P4) (x:Lg):Lg:=Lg.rec .off (fun l=>.on (.cons p l)) x
def aq (p:P4) (h:Hp):Obj:=di p h.tree
def hs1 (a b c d:H) (o:Obj) (t4:O4) (t3:O3) (t2:O2):O4:=O4.set a (O3.set b (O2.set c (O1.set d o (O2.get c t2)) t2) t3) t4
def hs2 (a b c d:H) (o:Obj) (t4:O4) (t3:O3):O4:=hs1 a b c d o t4 t3 (O3.get b t3)
def cH (p:P4) (o:Obj) (t:O4):O4:=P4.rec (fun a b c d=>hs2 a b c d o t (O4.get a t)) p
def cG (p:P4) (o:Obj) (h:Hp):Hp:=.mk (cH p o h.tree) h.next (Lg.add p h.log)
def isNone (o:Obj):Bool:=Obj.rec true false (fun _ _ _ _ _=>false) (fun _ _=>false) (fun _ _=>false) (fun _ _ _ _=>false) false o
def iq (o:Obj) (h:Hp) (k:P4→Hp→RV):RV:=Hp.rec (fun t nx lg=>
 Bool.rec (.err 1) (k nx (.mk (cH nx o t) nx.succ (Lg.add nx lg))) (isNone (di nx t))) h
def aw (a b:H) (r:A2):AV:=A1.get b (A2.get a r)
def eL (a b:H) (v:AV) (r:A2):A2:=A2.set a (A1.set b v (A2.get a r)) r
def g2 (i:Nat) (x:A2):AV:=A1.get (bO (Nat.mod i 16)) (A2.get (bO (Nat.div i 16)) x)
def g3 (i:Nat) (x:A3):AV:=g2 (Nat.mod i 256) (A3.get (bO (Nat.div i 256)) x)
def g4 (i:Nat) (x:A4):AV:=g3 (Nat.mod i 4096) (A4.get (bO (Nat.div i 4096)) x)
def g1 (i:Nat) (x:A1):AV:=A1.get (bO i) x
def eC (i:Nat) (c:Cl):AV:=Cl.rec (motive:=fun _=>Nat→AV) (fun x i=>g1 i x) (fun x i=>g2 i x) (fun x i=>g3 i x) (fun x i=>g4 i x) c i
def t1 (i:Nat) (v:AV) (x:A1):A1:=A1.set (bO i) v x
def t2d (d:H) (i:Nat) (v:AV) (x:A2):A2:=A2.set d (t1 i v (A2.get d x)) x
def t2 (i:Nat) (v:AV) (x:A2):A2:=t2d (bO (Nat.div i 16)) (Nat.mod i 16) v x
def t3d (d:H) (i:Nat) (v:AV) (x:A3):A3:=A3.set d (t2 i v (A3.get d x)) x
def t3 (i:Nat) (v:AV) (x:A3):A3:=t3d (bO (Nat.div i 256)) (Nat.mod i 256) v x
def t4d (d:H) (i:Nat) (v:AV) (x:A4):A4:=A4.set d (t3 i v (A4.get d x)) x
def t4 (i:Nat) (v:AV) (x:A4):A4:=t4d (bO (Nat.div i 4096)) (Nat.mod i 4096) v x
def uH (i:Nat) (v:AV) (c:Cl):Cl:=Cl.rec (motive:=fun _=>Nat→AV→Cl) (fun x i v=>.k1 (t1 i v x)) (fun x i v=>.k2 (t2 i v x)) (fun x i v=>.k3 (t3 i v x)) (fun x i v=>.k4 (t4 i v x)) c i v
def bQ (c:Cl):Nat:=Cl.rec (fun _=>16) (fun _=>256) (fun _=>4096) (fun _=>65536) c
def eu (c:Cl):Cl:=Cl.rec (fun x=>.k2 (A2.s0 x .nil)) (fun x=>.k3 (A3.s0 x .nil)) (fun x=>.k4 (A4.s0 x .nil)) (fun x=>.k4 x) c
def qS (n:Nat) (c:Cl):Cl:=Bool.rec (Bool.rec (Bool.rec (eu (eu (eu c))) (eu (eu c)) (Nat.ble n (bQ (eu (eu c))))) (eu c) (Nat.ble n (bQ (eu c)))) c (Nat.ble n (bQ c))
def fq (l:List AV):Nat→Cl→Cl:=bF (fun _ c=>c) (fun v _ ih i c=>ih (Nat.succ i) (uH i v c)) l
def ahD:Cl:=.k1 .nil
def lP (l:List AV):Cl:=fq l 0 (qS l.length ahD)
def bu (n:Nat):Cl→Nat→List AV:=Nat.rec (fun _ _=>.nil) (fun _ ih c i=>.cons (eC i c) (ih c (Nat.succ i))) n
inductive AO where
 | t (a b:H)
 | c (v:AV)
def ev (x:AO) (r:A2):AV:=AO.rec (motive:=fun _=>A2→AV) aw (fun v _=>v) x r
def ahE (a b:Int):Int:=Int.rec (motive:=fun _=>Int→Int) (fun m b=>Int.rec (fun n=>.ofNat (Nat.add m n)) (fun n=>Int.subNatNat m (Nat.succ n)) b) (fun m b=>Int.rec (fun n=>Int.subNatNat n (Nat.succ m)) (fun n=>.negSucc (Nat.succ (Nat.add m n))) b) a b
def ahF (a:Int):Int:=Int.rec (fun m=>Int.negOfNat m) (fun m=>.ofNat (Nat.succ m)) a
def Lo (a b:Int):Int:=Int.rec (motive:=fun _=>Int→Int) (fun m b=>Int.rec (fun n=>.ofNat (Nat.mul m n)) (fun n=>Int.mul (.ofNat m) (.negSucc n)) b) (fun m b=>Int.mul (.negSucc m) b) a b
def ahG (a b:Int):Int:=Int.rec (motive:=fun _=>Int→Int) (fun m b=>Int.rec (fun n=>.ofNat (Nat.div m n)) (fun n=>Int.tdiv (.ofNat m) (.negSucc n)) b) (fun m b=>Int.tdiv (.negSucc m) b) a b
def ahH (a b:Int):Int:=Int.rec (motive:=fun _=>Int→Int) (fun m b=>Int.rec (fun n=>.ofNat (Nat.mod m n)) (fun n=>Int.tmod (.ofNat m) (.negSucc n)) b) (fun m b=>Int.tmod (.negSucc m) b) a b
def ile (a b:Int):Bool:=Int.rec (motive:=fun _=>Int→Bool) (fun m b=>Int.rec (fun n=>Nat.ble m n) (fun _=>false) b) (fun m b=>Int.rec (fun _=>true) (fun n=>Nat.ble n m) b) a b
def Lp (a b:Int):Bool:=Int.rec (motive:=fun _=>Int→Bool) (fun m b=>Int.rec (fun n=>Nat.ble (Nat.succ m) n) (fun _=>false) b) (fun m b=>Int.rec (fun _=>true) (fun n=>Nat.ble (Nat.succ n) m) b) a b
def uI (a b:Int):Bool:=Int.rec (motive:=fun _=>Int→Bool) (fun m b=>Int.rec (fun n=>Nat.beq m n) (fun _=>false) b) (fun m b=>Int.rec (fun _=>false) (fun n=>Nat.beq m n) b) a b
def wS (k:IntKind) (top:Nat) (n:Int):Int:=Int.rec (fun m=>Bool.rec (k.wrap (.ofNat m)) (.ofNat m) (Nat.ble m top)) (fun m=>Bool.rec (k.wrap (.negSucc m)) (.negSucc m) (Nat.ble m top)) n
def wU (k:IntKind) (size:Nat) (n:Int):Int:=Int.rec (fun m=>.ofNat (Nat.mod m size)) (fun m=>k.wrap (.negSucc m)) n
def iE (k:IntKind):Int→Int:=IntKind.rec (motive:=fun _=>Int→Int) (wS .i8 127) (wS .i16 32767) (wS .i32 2147483647) (wS .i64 9223372036854775807) (wU .u8 256) (wU .u16 65536) (wU .u32 4294967296) (wU .u64 18446744073709551616) k
def jU (k:IntKind):Nat:=IntKind.rec 8 16 32 64 8 16 32 64 k
def kno (k:IntKind):Nat:=IntKind.rec 0 1 2 3 4 5 6 7 k
def mY (a b:IntKind):Bool:=Nat.beq (kno a) (kno b)
def Bn (f:Nat→Nat→Nat) (k:IntKind) (a b:Int):AV:=Int.rec (fun m=>Int.rec (fun n=>.int k (iE k (.ofNat (f (Nat.mod m (Nat.pow 2 (jU k))) (Nat.mod n (Nat.pow 2 (jU k))))))) (fun _=>.undef) b) (fun _=>.undef) a
inductive OI where
 | no
 | yes (k:IntKind) (n:Int)
inductive OB where
 | no
 | yes (b:Bool)
inductive OS where
 | no
 | yes (l:List Nat)
inductive OP where
 | no
 | yes (i:P4) (o:Nat)
inductive OL where
 | no
 | yes (l:List AV)
inductive OM where
 | no
 | nil
 | yes (i:P4)
inductive OC where
 | no
 | yes (k:FloatKind) (a b:Nat)
inductive OF where
 | no
 | yes (k:FloatKind) (a:Nat)
inductive OSl where
 | no
 | nil
 | ex (i:P4) (o n c:Nat)
 | rs (i:P4) (o n e:Nat)
inductive OCl where
 | no
 | yes (el n:Nat) (ex:Bool) (fl:Fl) (c:Cl)
inductive Lq where
 | no
 | yes (l:List KV) (clock:Nat)
inductive Tz where
 | no
 | yes (f:Nat) (cs:List AV)
inductive TA where
 | no
 | nil
 | yes (t:Nat) (v:AV)
def AV.asInt (x:AV):OI:=AV.rec (motive_2:=fun _=>PUnit) .no (fun _=>.no) (fun k n=>.yes k n) (fun _=>.no) (fun _ _=>.no) (fun _ _ _=>.no) (fun _ _=>.no) .no (fun _ _ _ _=>.no) (fun _ _ _ _=>.no) .no (fun _=>.no) .no (fun _ _ _=>.no) .no (fun _ _ _=>.no) .no (fun _ _=>.no) (fun _ _=>.no) (fun _=>.no) PUnit.unit (fun _ _ _ _=>PUnit.unit) x
def AV.asBool (x:AV):OB:=AV.rec (motive_2:=fun _=>PUnit) .no (fun b=>.yes b) (fun _ _=>.no) (fun _=>.no) (fun _ _=>.no) (fun _ _ _=>.no) (fun _ _=>.no) .no (fun _ _ _ _=>.no) (fun _ _ _ _=>.no) .no (fun _=>.no) .no (fun _ _ _=>.no) .no (fun _ _ _=>.no) .no (fun _ _=>.no) (fun _ _=>.no) (fun _=>.no) PUnit.unit (fun _ _ _ _=>PUnit.unit) x
def AV.xZ (x:AV):OS:=AV.rec (motive_2:=fun _=>PUnit) .no (fun _=>.no) (fun _ _=>.no) (fun l=>.yes l) (fun _ _=>.no) (fun _ _ _=>.no) (fun _ _=>.no) .no (fun _ _ _ _=>.no) (fun _ _ _ _=>.no) .no (fun _=>.no) .no (fun _ _ _=>.no) .no (fun _ _ _=>.no) .no (fun _ _=>.no) (fun _ _=>.no) (fun _=>.no) PUnit.unit (fun _ _ _ _=>PUnit.unit) x
def AV.ft (x:AV):OP:=AV.rec (motive_2:=fun _=>PUnit) .no (fun _=>.no) (fun _ _=>.no) (fun _=>.no) (fun _ _=>.no) (fun _ _ _=>.no) (fun i o=>.yes i o) .no (fun _ _ _ _=>.no) (fun _ _ _ _=>.no) .no (fun _=>.no) .no (fun _ _ _=>.no) .no (fun _ _ _=>.no) .no (fun _ _=>.no) (fun _ _=>.no) (fun _=>.no) PUnit.unit (fun _ _ _ _=>PUnit.unit) x
def AV.asAgg (x:AV):OL:=AV.rec (motive_2:=fun _=>PUnit) .no (fun _=>.no) (fun _ _=>.no) (fun _=>.no) (fun _ _=>.no) (fun _ _ _=>.no) (fun _ _=>.no) .no (fun _ _ _ _=>.no) (fun _ _ _ _=>.no) .no (fun _=>.no) .no (fun _ _ _=>.no) .no (fun _ _ _=>.no) .no (fun l _=>.yes l) (fun _ _=>.no) (fun _=>.no) PUnit.unit (fun _ _ _ _=>PUnit.unit) x
def AV.qT (x:AV):OL:=AV.rec (motive_2:=fun _=>PUnit) .no (fun _=>.no) (fun _ _=>.no) (fun _=>.no) (fun _ _=>.no) (fun _ _ _=>.no) (fun _ _=>.no) .no (fun _ _ _ _=>.no) (fun _ _ _ _=>.no) .no (fun _=>.no) .no (fun _ _ _=>.no) .no (fun _ _ _=>.no) .no (fun _ _=>.no) (fun l _=>.yes l) (fun _=>.no) PUnit.unit (fun _ _ _ _=>PUnit.unit) x
def AV.de (x:AV):OM:=AV.rec (motive_2:=fun _=>PUnit) .no (fun _=>.no) (fun _ _=>.no) (fun _=>.no) (fun _ _=>.no) (fun _ _ _=>.no) (fun _ _=>.no) .no (fun _ _ _ _=>.no) (fun _ _ _ _=>.no) .no (fun i=>.yes i) .nil (fun _ _ _=>.no) .no (fun _ _ _=>.no) .no (fun _ _=>.no) (fun _ _=>.no) (fun _=>.no) PUnit.unit (fun _ _ _ _=>PUnit.unit) x
def AV.ahJ (x:AV):OC:=AV.rec (motive_2:=fun _=>PUnit) .no (fun _=>.no) (fun _ _=>.no) (fun _=>.no) (fun _ _=>.no) (fun k a b=>.yes k a b) (fun _ _=>.no) .no (fun _ _ _ _=>.no) (fun _ _ _ _=>.no) .no (fun _=>.no) .no (fun _ _ _=>.no) .no (fun _ _ _=>.no) .no (fun _ _=>.no) (fun _ _=>.no) (fun _=>.no) PUnit.unit (fun _ _ _ _=>PUnit.unit) x
def AV.anD (x:AV):OF:=AV.rec (motive_2:=fun _=>PUnit) .no (fun _=>.no) (fun _ _=>.no) (fun _=>.no) (fun k a=>.yes k a) (fun _ _ _=>.no) (fun _ _=>.no) .no (fun _ _ _ _=>.no) (fun _ _ _ _=>.no) .no (fun _=>.no) .no (fun _ _ _=>.no) .no (fun _ _ _=>.no) .no (fun _ _=>.no) (fun _ _=>.no) (fun _=>.no) PUnit.unit (fun _ _ _ _=>PUnit.unit) x
def AV.CS (x:AV):OSl:=AV.rec (motive_2:=fun _=>PUnit) .no (fun _=>.no) (fun _ _=>.no) (fun _=>.no) (fun _ _=>.no) (fun _ _ _=>.no) (fun _ _=>.no) .no (fun i o n c=>.ex i o n c) (fun i o n e=>.rs i o n e) .nil (fun _=>.no) .no (fun _ _ _=>.no) .no (fun _ _ _=>.no) .no (fun _ _=>.no) (fun _ _=>.no) (fun _=>.no) PUnit.unit (fun _ _ _ _=>PUnit.unit) x
def AV.zJ (x:AV):Tz:=AV.rec (motive_2:=fun _=>PUnit) .no (fun _=>.no) (fun _ _=>.no) (fun _=>.no) (fun _ _=>.no) (fun _ _ _=>.no) (fun _ _=>.no) .no (fun _ _ _ _=>.no) (fun _ _ _ _=>.no) .no (fun _=>.no) .no (fun f cs _=>.yes f cs) .no (fun _ _ _=>.no) .no (fun _ _=>.no) (fun _ _=>.no) (fun _=>.no) PUnit.unit (fun _ _ _ _=>PUnit.unit) x
def AV.zK (x:AV):TA:=AV.rec (motive_2:=fun _=>PUnit) .no (fun _=>.no) (fun _ _=>.no) (fun _=>.no) (fun _ _=>.no) (fun _ _ _=>.no) (fun _ _=>.no) .no (fun _ _ _ _=>.no) (fun _ _ _ _=>.no) .no (fun _=>.no) .no (fun _ _ _=>.no) .no (fun t v _=>.yes t v) .nil (fun _ _=>.no) (fun _ _=>.no) (fun _=>.no) PUnit.unit (fun _ _ _ _=>PUnit.unit) x
inductive EB where
 | yes
 | no
 | bad
def AV.isNil (x:AV):EB:=AV.rec (motive_2:=fun _=>PUnit) .bad (fun _=>.bad) (fun _ _=>.bad) (fun _=>.bad) (fun _ _=>.bad) (fun _ _ _=>.bad) (fun _ _=>.no) .yes (fun _ _ _ _=>.no) (fun _ _ _ _=>.no) .yes (fun _=>.no) .yes (fun _ _ _=>.no) .yes (fun _ _ _=>.no) .yes (fun _ _=>.bad) (fun _ _=>.bad) (fun _=>.bad) PUnit.unit (fun _ _ _ _=>PUnit.unit) x
def Obj.wy (o:Obj):OCl:=Obj.rec .no .no (fun a b c d e=>.yes a b c d e) (fun _ _=>.no) (fun _ _=>.no) (fun _ _ _ _=>.no) .no o
def Obj.de (o:Obj):Lq:=Obj.rec .no .no (fun _ _ _ _ _=>.no) (fun a b=>.yes a b) (fun _ _=>.no) (fun _ _ _ _=>.no) .no o
def AV.dp {β:Type} (x:AV) (k:IntKind→Int→β) (e:β):β:=OI.rec e k x.asInt
def AV.bE {β:Type} (x:AV) (k:Bool→β) (e:β):β:=OB.rec e k x.asBool
def AV.iG {β:Type} (x:AV) (k:List Nat→β) (e:β):β:=OS.rec e k x.xZ
def AV.eN {β:Type} (x:AV) (k:P4→Nat→β) (e:β):β:=OP.rec e k x.ft
def AV.lO {β:Type} (x:AV) (k:List AV→β) (e:β):β:=OL.rec e k x.asAgg
def AV.Bm {β:Type} (x:AV) (k:List AV→β) (e:β):β:=OL.rec e k x.qT
def AV.dR {β:Type} (x:AV) (k:P4→β) (n e:β):β:=OM.rec e n k x.de
def AV.qU {β:Type} (x:AV) (k:FloatKind→Nat→Nat→β) (e:β):β:=OC.rec e k x.ahJ
def AV.pQ {β:Type} (x:AV) (k:FloatKind→Nat→β) (e:β):β:=OF.rec e k x.anD
def AV.jj {β:Type} (x:AV) (k k':P4→Nat→Nat→Nat→β) (n e:β):β:=OSl.rec e n k k' x.CS
def AV.EK {β:Type} (x:AV) (k:Nat→List AV→β) (e:β):β:=Tz.rec e k x.zJ
def AV.zL {β:Type} (x:AV) (k:Nat→AV→β) (n e:β):β:=TA.rec e n k x.zK
def Obj.br {β:Type} (o:Obj) (k:Nat→Nat→Bool→Fl→Cl→β) (e:β):β:=OCl.rec e k o.wy
def Obj.dR {β:Type} (o:Obj) (k:List KV→Nat→β) (e:β):β:=Lq.rec e k o.de
def AV.one (x:AV):Bool:=AV.rec (motive_2:=fun _=>PUnit) false (fun _=>true) (fun _ _=>true) (fun _=>true) (fun _ _=>true) (fun _ _ _=>true) (fun _ _=>true) true (fun _ _ _ _=>true) (fun _ _ _ _=>true) true (fun _=>true) true (fun _ _ _=>true) true (fun _ _ _=>true) true (fun _ _=>false) (fun _ _=>false) (fun _=>false) PUnit.unit (fun _ _ _ _=>PUnit.unit) x
def AV.cs (x:AV):List AV:=OL.rec (.cons x .nil) (fun l=>l) x.asAgg
def jV (a b:List Nat):Bool:=bF (β:=List Nat→Bool) (fun b=>List.rec true (fun _ _ _=>false) b)
 (fun x _ ih b=>List.rec false (fun y b _=>Bool.rec false (ih b) (Nat.beq x y)) b) a b
def vh (a b:List Nat):Bool:=bF (β:=List Nat→Bool) (fun b=>List.rec false (fun _ _ _=>true) b)
 (fun x _ ih b=>List.rec false (fun y b _=>Bool.rec (Nat.ble x y) (ih b) (Nat.beq x y)) b) a b
def mZ (a b:H):Bool:=Nat.beq a.nat b.nat
def jM (a b:P4):Bool:=P4.rec (fun a1 a2 a3 a4=>P4.rec (fun b1 b2 b3 b4=>
 Bool.rec false (Bool.rec false (Bool.rec false (mZ a1 b1) (mZ a2 b2)) (mZ a3 b3)) (mZ a4 b4)) b) a
def eK (a b:Bool):Bool:=Bool.rec (Bool.rec true false b) b a
def EB.of (b:Bool):EB:=Bool.rec .no .yes b
def eT (o:Obj):Bool:=Obj.br o (fun _ _ _ fl _=>Fl.rec true false false fl) false
inductive KK where
 | b|i|s|p
def eqB (x y:AV):EB:=OB.rec .bad (fun a=>OB.rec .bad (fun b=>.of (eK a b)) y.asBool) x.asBool
def eqI (x y:AV):EB:=OI.rec .bad (fun k a=>OI.rec .bad (fun k' b=>Bool.rec .bad (.of (uI a b)) (mY k k')) y.asInt) x.asInt
def eqS (x y:AV):EB:=OS.rec .bad (fun a=>OS.rec .bad (fun b=>.of (jV a b)) y.xZ) x.xZ
def eU (x:AV):Bool:=AV.rec (motive_2:=fun _=>PUnit) false (fun _=>false) (fun _ _=>false) (fun _=>false) (fun _ _=>false) (fun _ _ _=>false) (fun _ _=>false) true (fun _ _ _ _=>false) (fun _ _ _ _=>false) false (fun _=>false) false (fun _ _ _=>false) false (fun _ _ _=>false) false (fun _ _=>false) (fun _ _=>false) (fun _=>false) PUnit.unit (fun _ _ _ _=>PUnit.unit) x
def eqP (h:Hp) (x y:AV):EB:=OP.rec (Bool.rec .bad (OP.rec (Bool.rec .bad .yes (eU y)) (fun _ _=>.no) y.ft) (eU x)) (fun i o=>OP.rec (Bool.rec .bad .no (eU y)) (fun j q=>Bool.rec (Bool.rec .bad (Bool.rec .bad .no (eT (aq j h))) (eT (aq i h))) (.of (Nat.beq o q)) (jM i j)) y.ft) x.ft
def Kn (k:KK) (h:Hp) (x y:AV):EB:=KK.rec (eqB x y) (eqI x y) (eqS x y) (eqP h x y) k
def ya (ks:List KK) (h:Hp) (a b:List AV):EB:=bF (β:=List AV→List AV→EB) (fun a b=>List.rec (List.rec .yes (fun _ _ _=>.bad) b) (fun _ _ _=>.bad) a)
 (fun k _ ih a b=>List.rec .bad (fun x a _=>List.rec .bad (fun y b _=>EB.rec (ih a b) (EB.rec .no .no .bad (ih a b)) .bad (Kn k h x y)) b) a) ks a b
def EB.rv (neg:Bool) (h:Hp) (e:EB):RV:=EB.rec (.ok (.bool (Bool.not neg)) h) (.ok (.bool neg) h) (.err 2) e
def anE (_:Hp) (x y:AV):EB:=AV.zL x (fun t _=>AV.zL y (fun u _=>Bool.rec .no .bad (Nat.beq t u)) .no .bad)
 (AV.zL y (fun _ _=>.no) .bad .bad) .bad
inductive Part where
 | mk (off sz:Nat) (x:AO)
inductive NK where
 | s|m|f|i
def ahL (x:AV):EB:=AV.rec (motive_2:=fun _=>PUnit) .bad (fun _=>.bad) (fun _ _=>.bad) (fun _=>.bad) (fun _ _=>.bad) (fun _ _ _=>.bad) (fun _ _=>.bad) .bad (fun _ _ _ _=>.bad) (fun _ _ _ _=>.bad) .bad (fun _=>.bad) .bad (fun _ _ _=>.no) .yes (fun _ _ _=>.bad) .bad (fun _ _=>.bad) (fun _ _=>.bad) (fun _=>.bad) PUnit.unit (fun _ _ _ _=>PUnit.unit) x
def qV (k:NK) (x:AV):EB:=NK.rec (OSl.rec .bad .yes (fun _ _ _ _=>.no) (fun _ _ _ _=>.no) x.CS) (OM.rec .bad .yes (fun _=>.no) x.de) (ahL x) (TA.rec .bad .yes (fun _ _=>.no) x.zK) k
inductive BK where
 | add|sub|mul|quo|rem|and|or|xor|anF|shl|shr
 | eq|ne|lt|le|gt|ge
 | seq|sne|slt|sle|sgt|sge|cat
 | beq|bne|jM|pne|jR (k:NK)|pS (k:NK)
 | aeq (ks:List KK)|ane (ks:List KK)
 | RW (op:BinOp)
 | cop (op:BinOp)
 | uI|ine
inductive UK where
 | not|neg|com
inductive CK where
 | same|toInt (k:IntKind)|s2b (el:Nat)|b2s|i2s|i2f (k:FloatKind)|f2i (k:IntKind)|s2r (el:Nat)|uto|TB (u sz:Nat)
inductive OA where
 | none
 | some (x:AO)
def ahM (v:AV) (h:Hp):RV:=EB.rec (.ok v h) (.err 3) (.err 3) (OI.rec (OB.rec .bad (fun _=>.yes) v.asBool) (fun _ _=>.yes) v.asInt)
def Bo (f:IntKind→Int→Int→AV) (x y:AV) (h:Hp):RV:=AV.dp x (fun k a=>AV.dp y (fun k' b=>Bool.rec (.err 4) (.ok (f k a b) h) (mY k k')) (.err 4)) (.err 4)
def Ls (f:IntKind→Int→Int→AV) (x y:AV) (h:Hp):RV:=AV.dp x (fun k a=>AV.dp y (fun k' b=>Bool.rec (.err 4) (ahM (f k a b) h) (mY k k')) (.err 4)) (.err 4)
def Lt (f:List Nat→List Nat→AV) (x y:AV) (h:Hp):RV:=AV.iG x (fun a=>AV.iG y (fun b=>.ok (f a b) h) (.err 5)) (.err 5)
def bSH (f:IntKind→Int→Int→AV) (x y:AV) (h:Hp):RV:=AV.dp x (fun k a=>AV.dp y (fun _ b=>ahM (f k a b) h) (.err 6)) (.err 6)
def ahN (k:IntKind) (a b:Int):AV:=Int.rec (fun n=>.int k (iE k (Lo a (.ofNat (Nat.pow 2 (Nat.min n (jU k))))))) (fun _=>.undef) b
def ahO (k:IntKind) (a b:Int):AV:=Int.rec (fun n=>Int.rec (fun m=>.int k (.ofNat (Nat.div m (Nat.pow 2 (Nat.min n (jU k)))))) (fun m=>.int k (Int.fdiv (.negSucc m) (2 ^ (Nat.min n (jU k))))) a) (fun _=>.undef) b
def Lu (k:FloatKind) (op:BinOp) (a b:Nat) (h:Hp):RV:=
 let c:=k.format.order a b
 match op with
 | .eql=>.ok (.bool (c == some .eq)) h
 | .neq=>.ok (.bool (c != some .eq)) h
 | .lss=>.ok (.bool (c == some .lt)) h
 | .leq=>.ok (.bool (c == some .lt || c == some .eq)) h
 | .gtr=>.ok (.bool (c == some .gt)) h
 | .geq=>.ok (.bool (c == some .gt || c == some .eq)) h
 | .add=>match k.format.add a b with|some r=>.ok (.gA k r) h|none=>.err 7
 | .sub=>match k.format.sub a b with|some r=>.ok (.gA k r) h|none=>.err 7
 | .mul=>match k.format.mul a b with|some r=>.ok (.gA k r) h|none=>.err 7
 | .quo=>match k.format.div a b with|some r=>.ok (.gA k r) h|none=>.err 7
 | _=>.err 7
def Bp (k:FloatKind) (op:BinOp) (a b c d:Nat) (h:Hp):RV:=
 match op with
 | .add=>match k.format.add a c,k.format.add b d with|some r,some s=>.ok (.aM k r s) h|_,_=>.err 8
 | .sub=>match k.format.sub a c,k.format.sub b d with|some r,some s=>.ok (.aM k r s) h|_,_=>.err 8
 | .eql=>.ok (.bool (k.format.order a c == some .eq&&k.format.order b d == some .eq)) h
 | .neq=>.ok (.bool (!(k.format.order a c == some .eq&&k.format.order b d == some .eq))) h
 | _=>.err 8
def wz (a b:FloatKind):Bool:=FloatKind.rec (FloatKind.rec true false b) (FloatKind.rec false true b) a
def jS:AV→AV→Hp→RV:=Bo (fun k a b=>.int k (iE k (ahE a b)))
def EL:AV→AV→Hp→RV:=Bo (fun k a b=>.int k (iE k (ahE a (ahF b))))
def vf:AV→AV→Hp→RV:=Bo (fun k a b=>.int k (iE k (Lo a b)))
def TC:AV→AV→Hp→RV:=Ls (fun k a b=>Bool.rec (.int k (iE k (ahG a b))) .undef (uI b (.ofNat 0)))
def Ey:AV→AV→Hp→RV:=Ls (fun k a b=>Bool.rec (.int k (ahH a b)) .undef (uI b (.ofNat 0)))
def vi:AV→AV→Hp→RV:=Ls (Bn Nat.land)
def anG:AV→AV→Hp→RV:=Ls (Bn Nat.lor)
def pT:AV→AV→Hp→RV:=Ls (Bn Nat.xor)
def FN:AV→AV→Hp→RV:=Bo (fun k a b=>.int k (k.wrap (BitVec.ofInt k.bits a &&& ~~~BitVec.ofInt k.bits b).toNat))
def zI:AV→AV→Hp→RV:=Bo (fun _ a b=>.bool (uI a b))
def dH:AV→AV→Hp→RV:=Bo (fun _ a b=>.bool (Bool.not (uI a b)))
def xW:AV→AV→Hp→RV:=Bo (fun _ a b=>.bool (Lp a b))
def Ev:AV→AV→Hp→RV:=Bo (fun _ a b=>.bool (ile a b))
def lK:AV→AV→Hp→RV:=Bo (fun _ a b=>.bool (Lp b a))
def qW:AV→AV→Hp→RV:=Bo (fun _ a b=>.bool (ile b a))
def bN:AV→AV→Hp→RV:=Lt (fun a b=>.bool (jV a b))
def Bq:AV→AV→Hp→RV:=Lt (fun a b=>.bool (Bool.not (jV a b)))
def Ew:AV→AV→Hp→RV:=Lt (fun a b=>.bool (vh a b))
def TD:AV→AV→Hp→RV:=Lt (fun a b=>.bool (Bool.not (vh b a)))
def TE:AV→AV→Hp→RV:=Lt (fun a b=>.bool (vh b a))
def TF:AV→AV→Hp→RV:=Lt (fun a b=>.bool (Bool.not (vh a b)))
def db (x y:AV) (h:Hp):RV:=AV.iG x (fun a=>AV.iG y (fun b=>Bool.rec (.err 135) (.ok (.str (List.append a b)) h) (Nat.ble (Nat.add a.length b.length) 4294967296)) (.err 5)) (.err 5)
def yb (neg:Bool) (ks:List KK) (x y:AV) (h:Hp):RV:=AV.lO x (fun a=>AV.lO y (fun b=>EB.rv neg h (ya ks h a b)) (.err 10)) (.err 10)
def FO (op:BinOp) (x y:AV) (h:Hp):RV:=AV.pQ x (fun k a=>AV.pQ y (fun k' b=>Bool.rec (.err 7) (Lu k op a b h) (wz k k')) (.err 7)) (.err 7)
def FP (op:BinOp) (x y:AV) (h:Hp):RV:=AV.qU x (fun k a b=>AV.qU y (fun k' c d=>Bool.rec (.err 8) (Bp k op a b c d h) (wz k k')) (.err 8)) (.err 8)
def bK (op:BK):AV→AV→Hp→RV:=BK.rec (motive:=fun _=>AV→AV→Hp→RV) jS EL vf TC Ey vi anG pT FN (bSH ahN) (bSH ahO) zI dH xW Ev lK qW bN Bq Ew TD TE TF db (fun x y h=>EB.rv false h (eqB x y)) (fun x y h=>EB.rv true h (eqB x y)) (fun x y h=>EB.rv false h (eqP h x y)) (fun x y h=>EB.rv true h (eqP h x y)) (fun k x _ h=>EB.rv false h (qV k x)) (fun k x _ h=>EB.rv true h (qV k x)) (yb false) (yb true) FO FP (fun x y h=>EB.rv false h (anE h x y)) (fun x y h=>EB.rv true h (anE h x y)) op
def TG (op:BK) (x y:AO) (r:A2) (h:Hp):RV:=bK op (ev x r) (ev y r) h
def cZ (x:AV) (h:Hp):RV:=AV.bE x (fun b=>.ok (.bool (Bool.not b)) h) (.err 11)
def Bl (x:AV) (h:Hp):RV:=AV.dp x (fun k n=>.ok (.int k (iE k (ahF n))) h) (.err 11)
def vj (x:AV) (h:Hp):RV:=AV.dp x (fun k n=>.ok (.int k (k.wrap (BitVec.ofInt k.bits (if k.signed then -1 else k.max) ^^^ BitVec.ofInt k.bits n).toNat)) h) (.err 11)
def Lv (op:UK) (x:AO) (r:A2) (h:Hp):RV:=UK.rec (motive:=fun _=>AV→Hp→RV) cZ Bl vj op (ev x r) h
def Lw (x:AO) (r:A2) (h:Hp):RV:=.ok (ev x r) h
def eJ (c a b:AO) (r:A2) (h:Hp):RV:=AV.bE (ev c r) (fun t=>.ok (Bool.rec (ev b r) (ev a r) t) h) (.err 12)
def wt:P4→Hp→RV:=fun i h=>.ok (.ptr i 0) h
def oB (el:Nat) (ex:Bool) (fl:Fl) (n:Nat) (c:Cl) (h:Hp) (k:P4→Hp→RV):RV:=Bool.rec (.err 130) (iq (.cells el n ex fl c) h k) (Nat.ble n (bQ c))
def Ln (el:Nat) (l:List AV) (h:Hp):RV:=oB el true .plain l.length (lP l) h wt
def Br (el n:Nat) (c:Cl) (_:A2) (h:Hp):RV:=oB el true .plain n c h wt
def yc (el:Nat) (x:AO) (r:A2) (h:Hp):RV:=OL.rec (Bool.rec (.err 134) (Ln el (.cons (ev x r) .nil) h) (ev x r).one) (fun l=>Ln el l h) (ev x r).asAgg
def Ly (l:List AV) (i:Nat) (v:AV):List AV:=bF (β:=Nat→List AV) (fun _=>.nil)
 (fun x t ih i=>Nat.rec (.cons v t) (fun i _=>.cons x (ih i)) i) l i
def na (vs:List AV):Nat→List AV→List AV:=bF (fun _ l=>l) (fun v _ ih i l=>ih (Nat.succ i) (Ly l i v)) vs
def fill (ps:List Part) (r:A2):List AV→List AV:=bF (fun l=>l)
 (fun p _ ih l=>Part.rec (fun off _ x=>ih (na (AV.cs (ev x r)) off l)) p) ps
def fits (ps:List Part) (r:A2):Bool:=bF true (fun p _ ih=>Part.rec (fun _ sz x=>OL.rec (Bool.rec false ih (Bool.and (ev x r).one (Nat.beq sz 1))) (fun l=>Bool.rec false ih (Nat.beq l.length sz)) (ev x r).asAgg) p) ps
def jk (z:List AV) (ps:List Part) (r:A2) (h:Hp):RV:=Bool.rec (.err 132) (.ok (.agg (fill ps r z)) h) (fits ps r)
def LA (el n:Nat) (l:List AV) (h:Hp):RV:=oB el true .plain l.length (lP l) h (fun i h=>.ok (.slice i 0 n n) h)
def fQ (el es n:Nat) (z:List AV) (ps:List Part) (r:A2) (h:Hp):RV:=Bool.rec (.err 133) (LA el n (fill ps r z) h) (fits ps r)
def Km (i n:Nat):Bool:=Nat.ble (Nat.succ i) n
def iD (x:AO) (r:A2) (h:Hp):RV:=AV.eN (ev x r) (fun i o=>Obj.br (aq i h) (fun _ n _ _ c=>
 Bool.rec (.err 13) (.ok (eC o c) h) (Km o n)) (.err 14)) (.err 15)
def pU (m:Nat) (x:AO) (r:A2) (h:Hp):RV:=AV.eN (ev x r) (fun i o=>Obj.br (aq i h) (fun _ n _ _ c=>
 Bool.rec (.err 16) (.ok (.agg (bu m c o)) h) (Nat.ble (Nat.add o m) n)) (.err 17)) (.err 18)
def wr (fl:Fl):Bool:=Fl.rec true true false fl
def qX (x y:AO) (r:A2) (h:Hp):RV:=AV.eN (ev x r) (fun i o=>Obj.br (aq i h) (fun el n ex fl c=>
 Bool.rec (.err 19) (Bool.rec (.err 20) (.ok .undef (cG i (.cells el n ex fl (uH o (ev y r) c)) h)) (Bool.and (Km o n) (ev y r).one)) (wr fl)) (.err 21)) (.err 22)
def yd (m:Nat) (x y:AO) (r:A2) (h:Hp):RV:=AV.eN (ev x r) (fun i o=>Obj.br (aq i h) (fun el n ex fl c=>
 Bool.rec (.err 23) (Bool.rec (.err 24) (AV.lO (ev y r) (fun l=>Bool.rec (.err 25) (.ok .undef (cG i (.cells el n ex fl (fq l o c)) h)) (Nat.beq l.length m)) (.err 26)) (Nat.ble (Nat.add o m) n)) (wr fl)) (.err 27)) (.err 28)
def qm (x:AV) (h:Hp):RV:=EB.rec (.err 30) (.ok x h) (.err 29) x.isNil
def oD (x:AO) (r:A2) (h:Hp):RV:=OP.rec (qm (ev x r) h) (fun i o=>.ok (.ptr i o) h) (ev x r).ft
def anH (k:IntKind):Bool:=IntKind.rec false false false false true false false false k
def Bs (k:IntKind):Bool:=IntKind.rec false false false true false false false false k
def gY (l:List AV) (k:List Nat→RV) (e:RV):RV:=bF (β:=(List Nat→RV)→RV) (fun k=>k .nil)
 (fun x _ ih k=>AV.dp x (fun kd n=>Bool.rec e (Int.rec (fun m=>Bool.rec e (ih (fun s=>k (.cons m s))) (Nat.ble m 255)) (fun _=>e) n) (anH kd)) e) l k
def byteCells (s:List Nat):List AV:=bF .nil (fun b _ ih=>.cons (.int .u8 (.ofNat b)) ih) s
def kZ (es:Nat) (i:P4) (o n:Nat) (h:Hp) (k:List AV→RV) (e:RV):RV:=Nat.rec (k .nil) (fun n _=>Obj.br (aq i h) (fun _ m _ _ c=>Bool.rec e (k (bu (Nat.mul (Nat.succ n) es) c o)) (Nat.ble (Nat.add o (Nat.mul (Nat.succ n) es)) m)) e) n
def elems (es:Nat) (x:AV) (h:Hp) (k:List AV→RV) (e:RV):RV:=AV.jj x
 (fun i o n _=>kZ es i o n h k e)
 (fun i o n es'=>Bool.rec e (kZ es i o n h k e) (Nat.beq es es'))
 (k .nil) e
def wA (el:Nat) (fl:Fl) (es:Nat) (n:Nat) (l:List AV) (h:Hp):RV:=oB el false fl l.length (lP l) h (fun i h=>.ok (.bZ i 0 n es) h)
def TH (el:Nat) (x:AV) (h:Hp):RV:=AV.iG x (fun s=>wA el .mark 1 s.length (byteCells s) h) (.err 32)
def wB (k:IntKind) (x:AV) (h:Hp):RV:=AV.dp x (fun _ n=>.ok (.int k (iE k n)) h) (.err 31)
def FQ (x:AV) (h:Hp):RV:=elems 1 x h (fun l=>gY l (fun s=>.ok (.str s) h) (.err 33)) (.err 34)
def TI (x:AV) (h:Hp):RV:=AV.dp x (fun _ n=>.ok (.str ((Utf8.encode n).data.toList.map (·.toNat))) h) (.err 35)
def FT (k:FloatKind) (x:AV) (h:Hp):RV:=AV.dp x (fun _ n=>.ok (.gA k (k.nearest n)) h) (.err 36)
def FU (k:IntKind) (x:AV) (h:Hp):RV:=AV.pQ x (fun s b=>match (s.decode b).toInt .zero with|some n=>if k.min≤n∧n≤k.max then .ok (.int k n) h else .err 37|none=>.err 37) (.err 37)
def TJ (el:Nat) (x:AV) (h:Hp):RV:=AV.jj x (fun i _ _ _=>Obj.br (aq i h) (fun el n ex fl c=>Fl.rec (.ok x (cG i (.cells el n ex .mark c) h)) (.err 38) (.err 38) fl) (.err 38)) (fun _ _ _ _=>.err 38) (.err 38) (.err 38)
def FV (x:AV) (h:Hp):RV:=AV.iG x (fun s=>.ok (.str s) h) (.err 38)
def FW (x:AV) (h:Hp):RV:=OP.rec (Bool.rec (.err 190) (.ok x h) (eU x)) (fun i o=>Obj.br (aq i h) (fun _ n ex _ _=>Bool.rec (.err 191) (.ok x h) (Bool.and ex (Km o n))) (.err 192)) x.ft
def wC (u sz:Nat) (x:AV) (h:Hp):RV:=OP.rec (Bool.rec (.err 190) (.ok x h) (eU x)) (fun i o=>Obj.br (aq i h) (fun el n ex _ _=>Bool.rec (.err 193) (.ok x h) (Bool.and ex (Bool.and (Nat.beq o 0) (Bool.and (Nat.beq el u) (Nat.beq n sz))))) (.err 194)) x.ft
def cK (op:CK):AV→Hp→RV:=CK.rec (motive:=fun _=>AV→Hp→RV) FV wB TH FQ TI FT FU TJ FW wC op
def qY (op:CK) (x:AO) (r:A2) (h:Hp):RV:=cK op (ev x r) h
def ye (t:Nat) (x:AO) (r:A2) (h:Hp):RV:=.ok (.iface t (ev x r)) h
def gg (xs:List AO) (r:A2):List AV:=bF .nil (fun x _ ih=>.cons (ev x r) ih) xs
def yf (f:Nat) (xs:List AO) (r:A2) (h:Hp):RV:=.ok (.fn f (gg xs r)) h
def qy (_:A2) (h:Hp):RV:=iq (.map .nil 0) h (fun i h=>.ok (.map i) h)
def dS (n:Nat) (z:List AV):List AV:=Nat.rec .nil (fun _ ih=>List.append z ih) n
def eo (x:AV) (k:Nat→RV) (e:RV):RV:=AV.dp x (fun _ n=>Int.rec k (fun _=>e) n) e
def auv (el l c:Nat) (v:List AV) (h:Hp):RV:=oB el true .plain v.length (lP v) h (fun i h=>.ok (.slice i 0 l c) h)
def iH (el:Nat) (z:List AV) (l c:AO) (r:A2) (h:Hp):RV:=eo (ev l r) (fun l=>eo (ev c r) (fun c=>
 Bool.rec (.err 39) (Bool.rec (.err 40) (auv el l c (dS c z) h) (Nat.ble c 1048576)) (Nat.ble l c)) (.err 41)) (.err 41)
def fu (x:OA) (d:Nat) (r:A2) (k:Nat→RV) (e:RV):RV:=OA.rec (k d) (fun x=>eo (ev x r) k e) x
def isSome (x:OA):Bool:=OA.rec false (fun _=>true) x
def FX (es:Nat) (i:P4) (o a b m cap:Nat) (h:Hp):RV:=Bool.rec (.err 42) (Bool.rec (.err 42) (Bool.rec (.err 42) (.ok (.slice i (Bool.rec (Nat.add o (Nat.mul a es)) o (Nat.beq m a)) (Nat.sub b a) (Nat.sub m a)) h) (Nat.ble m cap)) (Nat.ble b m)) (Nat.ble a b)
def TL (es:Nat) (i:P4) (o a b:Nat) (h:Hp):RV:=Bool.rec (.err 42) (Obj.br (aq i h) (fun _ k _ _ _=>
 Bool.rec (.err 45) (.ok (.bZ i (Nat.add o (Nat.mul a es)) (Nat.sub b a) es) h) (Nat.ble (Nat.add o (Nat.mul b es)) k)) (.err 46)) (Nat.ble a b)
def TM (es:Nat) (i:P4) (o a b m:Nat) (h:Hp):RV:=Bool.rec (.err 42) (Bool.rec (.err 42) (Obj.br (aq i h) (fun _ k _ _ _=>
 Bool.rec (.err 45) (.ok (.slice i (Bool.rec (Nat.add o (Nat.mul a es)) o (Nat.beq m a)) (Nat.sub b a) (Nat.sub m a)) h) (Nat.ble (Nat.add o (Nat.mul m es)) k)) (.err 46)) (Bool.and (Nat.ble 1 m) (Nat.ble b m))) (Nat.ble a b)
def da (es:Nat) (x:AO) (lo hi mx:OA) (r:A2) (h:Hp):RV:=AV.jj (ev x r)
 (fun i o n cap=>fu mx cap r (fun m=>fu hi n r (fun b=>fu lo 0 r (fun a=>FX es i o a b m cap h) (.err 43)) (.err 43)) (.err 43))
 (fun i o n es'=>Bool.rec (.err 44) (fu hi n r (fun b=>fu lo 0 r (fun a=>Bool.rec (TL es i o a b h) (fu mx 0 r (fun m=>TM es i o a b m h) (.err 43)) (isSome mx)) (.err 43)) (.err 43)) (Nat.beq es es'))
 (fu mx 0 r (fun m=>fu hi 0 r (fun b=>fu lo 0 r (fun a=>Bool.rec (.err 47) (.ok .aj h) (Nat.beq (Nat.add m (Nat.add a b)) 0)) (.err 43)) (.err 43)) (.err 43))
 (.err 48)
def ma (x:AO) (lo hi:OA) (r:A2) (h:Hp):RV:=AV.iG (ev x r) (fun s=>fu hi s.length r (fun b=>fu lo 0 r (fun a=>
 Bool.rec (.err 49) (Bool.rec (.err 49) (.ok (.str (List.take (Nat.sub b a) (List.drop a s))) h) (Nat.ble b s.length)) (Nat.ble a b)) (.err 49)) (.err 49)) (.err 49)
def oE (len es:Nat) (x:AO) (lo hi mx:OA) (r:A2) (h:Hp):RV:=AV.eN (ev x r) (fun i o=>fu mx len r (fun m=>fu hi len r (fun b=>fu lo 0 r (fun a=>FX es i o a b m len h) (.err 43)) (.err 43)) (.err 43)) (.err 50)
def qO (d:Nat) (x:AO) (r:A2) (h:Hp):RV:=AV.eN (ev x r) (fun i o=>.ok (.ptr i (Nat.add o d)) h) (.err 51)
def oG (d:Nat) (x:AO) (r:A2) (h:Hp):RV:=AV.lO (ev x r) (fun l=>List.rec (.err 52) (fun v _ _=>.ok v h) (List.drop d l)) (.err 52)
def oH (d n:Nat) (x:AO) (r:A2) (h:Hp):RV:=AV.lO (ev x r) (fun l=>Bool.rec (.err 53) (.ok (.agg (List.take n (List.drop d l))) h) (Nat.ble (Nat.add d n) l.length)) (.err 53)
def CQ (es:Nat) (i:P4) (o n k:Nat) (h:Hp):RV:=Bool.rec (.err 54) (.ok (.ptr i (Nat.add o (Nat.mul k es))) h) (Km k n)
def qP (es:Nat) (x y:AO) (r:A2) (h:Hp):RV:=eo (ev y r) (fun k=>AV.jj (ev x r)
 (fun i o n _=>CQ es i o n k h) (fun i o n _=>CQ es i o n k h) (.err 54) (.err 55)) (.err 55)
def vk (len es:Nat) (x y:AO) (r:A2) (h:Hp):RV:=eo (ev y r) (fun k=>AV.eN (ev x r) (fun i o=>CQ es i o len k h) (.err 56)) (.err 56)
def gj (x y:AO) (r:A2) (h:Hp):RV:=eo (ev y r) (fun k=>AV.iG (ev x r) (fun s=>List.rec (.err 57) (fun b _ _=>.ok (.int .u8 (.ofNat b)) h) (List.drop k s)) (.err 57)) (.err 57)
def oJ (len es:Nat) (agg:Bool) (x y:AO) (r:A2) (h:Hp):RV:=eo (ev y r) (fun k=>AV.lO (ev x r) (fun l=>Bool.rec (.err 58) (Bool.rec (List.rec (.err 58) (fun v _ _=>.ok v h) (List.drop (Nat.mul k es) l)) (Bool.rec (.err 58) (.ok (.agg (List.take es (List.drop (Nat.mul k es) l))) h) (Nat.ble (Nat.add (Nat.mul k es) es) l.length)) agg) (Km k len)) (.err 58)) (.err 58)
def vl (i:Nat) (x:AO) (r:A2) (h:Hp):RV:=AV.Bm (ev x r) (fun l=>List.rec (.err 59) (fun v _ _=>.ok v h) (List.drop i l)) (.err 59)
inductive KT where
 | one (k:KK)
 | agg (ks:List KK)
def uJ (t:KT) (a b:AV) (h:Hp):EB:=KT.rec (fun k=>Kn k h a b) (fun ks=>OL.rec .bad (fun l=>OL.rec .bad (fun m=>ya ks h l m) b.asAgg) a.asAgg) t
def qZ (kt:KT) (x:AV) (l:List KV) (h:Hp):Bool:=bF true (fun y _ ih=>KV.rec (fun a _ _=>EB.rec false ih false (uJ kt x a h)) y) l
def yg (kt:KT) (x:AV) (l:List KV) (h:Hp) (k:Nat→AV→Nat→RV) (n e:RV):RV:=bF (β:=Nat→RV) (fun _=>n)
 (fun y t ih i=>KV.rec (fun a v born=>EB.rec (Bool.rec e (k i v born) (qZ kt x t h)) (ih (Nat.succ i)) e (uJ kt x a h)) y) l 0
def dI:Nat:=4294967296
def lM (i:Nat) (key v:AV) (l:List KV):List KV:=bF (β:=Nat→List KV) (fun _=>.nil)
 (fun y t ih i=>Nat.rec (KV.rec (fun _ _ born=>.cons (.mk key v born) t) y) (fun i _=>.cons y (ih i)) i) l i
def yh (i:Nat) (l:List KV):List KV:=bF (β:=Nat→List KV) (fun _=>.nil) (fun y t ih i=>Nat.rec t (fun i _=>.cons y (ih i)) i) l i
def snoc (l:List KV) (y:KV):List KV:=bF (.cons y .nil) (fun x _ ih=>.cons x ih) l
def Bt (ok found:Bool) (v:AV) (h:Hp):RV:=.ok (Bool.rec v (.eS (.cons v (.cons (.bool found) .nil))) ok) h
def rf (t:KT) (x:AV) (h:Hp):Bool:=EB.rec true true false (uJ t x x h)
def zH (t:KT) (z:AV) (ok:Bool) (x k:AV) (h:Hp):RV:=Bool.rec (.err 60) (AV.dR x (fun i=>Obj.dR (aq i h) (fun l _=>yg t k l h (fun _ v _=>Bt ok true v h) (Bt ok false z h) (.err 61)) (.err 62)) (Bt ok false z h) (.err 63)) (rf t k h)
def Bu (t:KT) (z:AV) (ok:Bool) (x y:AO) (r:A2) (h:Hp):RV:=zH t z ok (ev x r) (ev y r) h
def Bj (t:KT) (x k v:AV) (h:Hp):RV:=Bool.rec (.err 64) (AV.dR x (fun i=>Obj.dR (aq i h) (fun l c=>yg t k l h
   (fun j _ _=>.ok .undef (cG i (.map (lM j k v l) c) h)) (Bool.rec (.ok .undef (cG i (.map (snoc l (.mk k v c)) (Nat.succ c)) h)) (.err 241) (Nat.beq (Nat.succ c) dI)) (.err 65)) (.err 66))
  (.err 67) (.err 68)) (rf t k h)
def Bv (t:KT) (x y z:AO) (r:A2) (h:Hp):RV:=Bj t (ev x r) (ev y r) (ev z r) h
def yi (t:KT) (z x k:AV) (h:Hp):RV:=Bool.rec (.err 220) (AV.dR x (fun i=>Obj.dR (aq i h) (fun l c=>Bool.rec (yg t k l h
   (fun j v b=>.ok (.eS (.cons v (.cons (.int .i64 (.ofNat b)) .nil))) (cG i (.map (lM j k v l) c) h)) (.ok (.eS (.cons z (.cons (.int .i64 (.ofNat c)) .nil))) (cG i (.map (snoc l (.mk k z c)) (Nat.succ c)) h)) (.err 221)) (.err 242) (Nat.ble dI (Nat.succ c))) (.err 222))
  (.err 223) (.err 224)) (rf t k h)
def wD (t:KT) (z:AV) (x y:AO) (r:A2) (h:Hp):RV:=yi t z (ev x r) (ev y r) h
def anI (b:Nat) (l:List KV) (k:Nat→AV→RV) (e:RV):RV:=bF (β:=Nat→RV) (fun _=>e) (fun y _ ih i=>KV.rec (fun a _ c=>Bool.rec (ih (Nat.succ i)) (k i a) (Nat.beq b c)) y) l 0
def yj (x s v:AV) (h:Hp):RV:=AV.dR x (fun i=>Obj.dR (aq i h) (fun l c=>Bool.rec (eo s (fun b=>anI b l (fun j a=>.ok .undef (cG i (.map (lM j a v l) c) h)) (.err 225)) (.err 226)) (.err 242) (Nat.ble dI c)) (.err 227)) (.err 228) (.err 229)
def wE (x y z:AO) (r:A2) (h:Hp):RV:=yj (ev x r) (ev y r) (ev z r) h
def cm:AV:=.eS .nil
def del (t:KT) (x k:AV) (h:Hp):RV:=Bool.rec (.err 69) (AV.dR x (fun i=>Obj.dR (aq i h) (fun l c=>yg t k l h
   (fun j _ _=>.ok cm (cG i (.map (yh j l) c) h)) (.ok cm h) (.err 70)) (.err 71))
  (.ok cm h) (.err 72)) (rf t k h)
def Bw (t:KT) (x y:AO) (r:A2) (h:Hp):RV:=del t (ev x r) (ev y r) h
def gZ (n:Nat):AV:=.int .i64 (.ofNat n)
def oL (x:AO) (r:A2) (h:Hp):RV:=AV.dR (ev x r) (fun i=>Obj.dR (aq i h) (fun l _=>.ok (gZ l.length) h) (.err 73)) (.ok (gZ 0) h) (.err 73)
def len (x:AV) (h:Hp):RV:=AV.jj x (fun _ _ n _=>.ok (gZ n) h) (fun _ _ n _=>.ok (gZ n) h) (.ok (gZ 0) h) (.err 74)
def gi (x:AV) (h:Hp):RV:=AV.iG x (fun s=>.ok (gZ s.length) h) (.err 74)
def Bx (x:AO) (r:A2) (h:Hp):RV:=len (ev x r) h
def wF (x:AO) (r:A2) (h:Hp):RV:=gi (ev x r) h
def mV (x:AO) (r:A2) (h:Hp):RV:=AV.jj (ev x r) (fun _ _ _ c=>.ok (gZ c) h) (fun _ _ _ _=>.err 75) (.ok (gZ 0) h) (.err 75)
def zM (mn:Bool) (a b:Int):Int:=Bool.rec (Bool.rec a b (Lp a b)) (Bool.rec a b (Lp b a)) mn
def yk (mn:Bool) (k:IntKind) (h:Hp) (l:List AV):Int→RV:=bF (β:=Int→RV) (fun a=>.ok (.int k a) h) (fun y _ ih a=>AV.dp y (fun k' b=>Bool.rec (.err 76) (ih (zM mn a b)) (mY k k')) (.err 76)) l
def LB (mn:Bool) (l:List AV) (h:Hp):RV:=List.rec (.err 76) (fun x xs _=>AV.dp x (fun k a=>yk mn k h xs a) (.err 76)) l
def yl (mn:Bool) (xs:List AO) (r:A2) (h:Hp):RV:=LB mn (gg xs r) h
def lh (i:P4) (o:Nat) (l:List AV) (h:Hp) (k:Hp→RV):RV:=Obj.br (aq i h) (fun el n ex fl c=>Bool.rec (.err 78) (Bool.rec (.err 79) (k (cG i (.cells el n ex fl (fq l o c)) h)) (Nat.ble (Nat.add o l.length) n)) (wr fl)) (.err 80)
def zN (el es n m:Nat) (old new:List AV) (h:Hp):RV:=wA el .plain es (Nat.add n m) (List.append old new) h
def nc (i:P4) (el k:Nat) (fl:Fl) (c:Cl) (n es:Nat) (h:Hp):RV:=oB el false fl k c (cG i .dead h) (fun j h=>.ok (.bZ j 0 n es) h)
def TN (elt es m:Nat) (new:List AV) (i:P4) (o n:Nat) (h:Hp):RV:=Obj.br (aq i h) (fun el k ex fl c=>Bool.rec (.err 82) (Bool.rec (Bool.rec (.err 83) (Bool.rec (Bool.rec (nc i el (Nat.mul (Nat.add n m) es) fl (lP (List.append (bu (Nat.mul n es) c o) new)) (Nat.add n m) es h) (nc i el (Nat.mul (Nat.add n m) es) fl (fq new k (qS (Nat.mul (Nat.add n m) es) c)) (Nat.add n m) es h) (Bool.and (Nat.beq o 0) (Nat.beq (Nat.mul n es) k))) (.err 81) (Bool.or ex (Bool.not (Nat.beq elt el)))) (Nat.ble (Nat.add o (Nat.mul n es)) k)) (.ok (.bZ i o (Nat.add n m) es) (cG i (.cells el k ex fl (fq new (Nat.add o (Nat.mul n es)) c)) h)) (Nat.ble (Nat.add o (Nat.mul (Nat.add n m) es)) k)) (wr fl)) (.err 84)
def FY (el es m:Nat) (new:List AV) (s:AV) (h:Hp):RV:=AV.jj s
 (fun i o n cap=>Bool.rec (kZ es i o n h (fun old=>zN el es n m old new h) (.err 77)) (Nat.rec (.ok (.slice i o n cap) h) (fun m _=>lh i (Nat.add o (Nat.mul n es)) new h (fun h=>.ok (.slice i o (Nat.add n (Nat.succ m)) cap) h)) m) (Nat.ble (Nat.add n m) cap))
 (fun i o n es'=>Bool.rec (.err 81) (Nat.rec (.ok (.bZ i o n es) h) (fun m _=>TN el es (Nat.succ m) new i o n h) m) (Nat.beq es es'))
 (Nat.rec (.ok .aj h) (fun m _=>zN el es 0 (Nat.succ m) .nil new h) m) (.err 85)
def rh (x:AV) (k:Nat→RV) (e:RV):RV:=AV.jj x (fun _ _ n _=>k n) (fun _ _ n _=>k n) (k 0) e
def eI (el es:Nat) (x y:AV) (h:Hp):RV:=rh y (fun m=>Bool.rec (.err 86) (elems es y h (fun new=>FY el es m new x h) (.err 87)) (Nat.ble (Nat.mul m es) 4294967296)) (.err 88)
def vm (el es:Nat) (x y:AO) (r:A2) (h:Hp):RV:=eI el es (ev x r) (ev y r) h
def lY (el es:Nat) (z:List AV) (x y:AO) (r:A2) (h:Hp):RV:=eo (ev y r) (fun n=>Bool.rec (.err 230) (FY el es n (dS n z) (ev x r) h) (Nat.ble (Nat.mul n es) 1048576)) (.err 231)
def ri (el:Nat) (x y:AO) (r:A2) (h:Hp):RV:=AV.iG (ev y r) (fun s=>FY el 1 s.length (byteCells s) (ev x r) h) (.err 89)
def ym (l:List AV) (s:AV) (h:Hp) (k:Hp→RV):RV:=List.rec (k h) (fun a t _=>AV.jj s
 (fun i o _ _=>lh i o (.cons a t) h k) (fun i o _ _=>lh i o (.cons a t) h k) (.err 93) (.err 93)) l
def FZ (es:Nat) (x y:AV) (h:Hp):RV:=rh x (fun n=>OS.rec (rh y (fun m=>elems es y h (fun l=>ym (List.take (Nat.mul n es) l) x h (fun h=>.ok (gZ (Nat.min m n)) h)) (.err 94)) (.err 94)) (fun s=>Bool.rec (.err 94) (ym (byteCells (List.take n s)) x h (fun h=>.ok (gZ (Nat.min s.length n)) h)) (Nat.beq es 1)) y.xZ) (.err 94)
def vp (es:Nat) (x y:AO) (r:A2) (h:Hp):RV:=FZ es (ev x r) (ev y r) h
def anJ (z:List AV) (x:AV) (h:Hp):RV:=rh x (fun n=>ym (dS n z) x h (fun h=>.ok cm h)) (.err 95)
def vq (z:List AV) (x:AO) (r:A2) (h:Hp):RV:=anJ z (ev x r) h
def wG (x:AO) (r:A2) (h:Hp):RV:=AV.iG (ev x r) (fun s=>iq (.xX s 0) h wt) (.err 96)
def jh (x:AO) (r:A2) (h:Hp):RV:=AV.dR (ev x r) (fun m=>Obj.dR (aq m h) (fun _ c=>iq (.qR m c .nil c) h wt) (.err 97)) (iq .xY h wt) (.err 97)
def anK (d:Nat×Nat) (k:Nat→Nat→RV):RV:=k d.1 d.2
def anL (s:List Nat) (k:Nat→Nat→RV) (e:RV):RV:=List.rec e (fun b t _=>Bool.rec (anK (Utf8.decode ⟨((b::t).map UInt8.ofNat).toArray⟩ 0) k) (k b 1) (Nat.ble b 127)) s
def Ga (x:Nat) (l:List Nat):Bool:=bF false (fun y _ ih=>Bool.rec ih true (Nat.beq x y)) l
def du (seen:List Nat) (l:List KV):List KV:=bF .nil (fun y _ ih=>KV.rec (fun _ _ b=>Bool.rec (.cons y ih) ih (Ga b seen)) y) l
def oM (since:Nat) (l:List KV):Bool:=bF false (fun y _ ih=>KV.rec (fun _ _ b=>Bool.rec ih true (Nat.ble since b)) y) l
def over (h:Hp):RV:=.ok (.eS (.cons (.bool false) .nil)) h
def jW (last:Nat) (l:List KV):Bool:=bF true (fun y _ ih=>KV.rec (fun _ _ b=>Bool.rec false ih (Nat.ble last b)) y) l
def nxS (i:P4) (s:List Nat) (pos:Nat) (h:Hp):RV:=List.rec (over h) (fun b t _=>anL (.cons b t) (fun c n=>.ok (.eS (.cons (.bool true) (.cons (gZ pos) (.cons (.int .i32 (.ofNat c)) .nil)))) (cG i (.xX s (Nat.add pos n)) h)) (.err 99)) (List.drop pos s)
def RV.jT (v:RV):RT:=RV.rec (fun v h=>.ok v h) (fun n=>.err n) v
def nth {α β:Type} (l:List α) (k:α→β) (e:β):Nat→β:=bF (β:=Nat→β) (fun _=>e) (fun a _ ih i=>Nat.rec (k a) (fun i _=>ih i) i) l
def fw {α:Type} (l:List α):Bool:=List.rec true (fun _ _ _=>false) l
def vr (i m:P4) (since:Nat) (seen:List Nat) (clock:Nat) (h:Hp) (y:KV):RT:=KV.rec (fun k v b=>.ok (.eS (.cons (.bool true) (.cons k (.cons v .nil)))) (cG i (.qR m since (List.append seen (.cons b .nil)) clock) h)) y
def nxL (f:KV→RT) (h:Hp) (u:List KV):RT:=List.rec (over h).jT (fun y t _=>List.rec (f y) (fun _ _ _=>.ch (List.length u) (nth u f (.err 102))) t) u
def nxM (i m:P4) (since:Nat) (seen:List Nat) (last:Nat) (h:Hp):RT:=Lq.rec (.err 98) (fun l clock=>Bool.rec (.err 243) (Bool.rec (Bool.rec (nxL (vr i m since seen clock h) h (du seen l)) (.err 100) (Bool.and (Bool.not (fw seen)) (Bool.and (Bool.not (fw l)) (jW last l)))) (.err 103) (oM since l)) (eK (Nat.ble dI since) (Nat.ble dI clock))) (aq m h).de
def anM (x:AV) (h:Hp):RT:=OP.rec (.err 98) (fun i o=>Nat.rec (Obj.rec (.err 98) (.err 98) (fun _ _ _ _ _=>.err 98) (fun _ _=>.err 98) (fun s pos=>(nxS i s pos h).jT) (fun _ _ _ _=>.err 98) (.err 98) (aq i h)) (fun _ _=>.err 98) o) x.ft
def Gb (x:AV) (h:Hp):RT:=OP.rec (.err 98) (fun i o=>Nat.rec (Obj.rec (.err 98) (.err 98) (fun _ _ _ _ _=>.err 98) (fun _ _=>.err 98) (fun _ _=>.err 98) (fun m since seen last=>nxM i m since seen last h) (over h).jT (aq i h)) (fun _ _=>.err 98) o) x.ft
def hE (s:Bool) (x:AV) (h:Hp):RT:=Bool.rec (Gb x h) (anM x h) s
def Gc (b:Nat) (l:List KV) (k:AV→AV→RV) (e:RV):RV:=bF e (fun y _ ih=>KV.rec (fun a v c=>Bool.rec ih (k a v) (Nat.beq b c)) y) l
def Gd (l:List Nat) (k:Nat→RV) (e:RV):RV:=bF e (fun x t ih=>List.rec (k x) (fun _ _ _=>ih) t) l
def ahP (m:P4) (seen:List Nat) (stepped:Nat) (h:Hp):RV:=Gd seen (fun b=>Obj.dR (aq m h) (fun l clock=>Bool.rec (.err 105) (Gc b l (fun k v=>.ok (.eS (.cons k (.cons v .nil))) h) (.err 106)) (Nat.beq clock stepped)) (.err 104)) (.err 107)
def mU (x:AO) (r:A2) (h:Hp):RV:=AV.eN (ev x r) (fun i o=>Nat.rec (Obj.rec (.err 104) (.err 104) (fun _ _ _ _ _=>.err 104) (fun _ _=>.err 104) (fun _ _=>.err 104) (fun m _ seen stepped=>ahP m seen stepped h) (.err 104) (aq i h)) (fun _ _=>.err 104) o) (.err 104)
def TP (t:Nat) (z:AV) (ok:Bool) (x:AV) (h:Hp):RV:=AV.zL x
 (fun u v=>Bool.rec (Bool.rec (.err 109) (Bt true false z h) ok) (Bt ok true v h) (Nat.beq t u))
 (Bool.rec (.err 109) (Bt true false z h) ok) (.err 108)
def Bz (t:Nat) (z:AV) (ok:Bool) (x:AO) (r:A2) (h:Hp):RV:=TP t z ok (ev x r) h
def oO (k:FloatKind) (x y:AO) (r:A2) (h:Hp):RV:=AV.pQ (ev x r) (fun k1 a=>AV.pQ (ev y r) (fun k2 b=>Bool.rec (.err 110) (.ok (.aM k a b) h) (Bool.and (wz k k1) (wz k k2))) (.err 110)) (.err 110)
def ji (im:Bool) (x:AO) (r:A2) (h:Hp):RV:=AV.qU (ev x r) (fun k a b=>.ok (.gA k (Bool.rec a b im)) h) (.err 111)
def mb (x:AO) (r:A2) (h:Hp):RV:=AV.jj (ev x r) (fun i o _ c=>Nat.rec (.err 112) (fun _ _=>.ok (.ptr i o) h) c) (fun i o n _=>Nat.rec (.err 112) (fun _ _=>.ok (.ptr i o) h) n) (.ok .dP h) (.err 112)
def oP (el:Nat) (x y:AO) (r:A2) (h:Hp):RV:=eo (ev y r) (fun n=>Nat.rec (OP.rec (Bool.rec (.err 113) (.ok (.str .nil) h) (eU (ev x r))) (fun _ _=>.ok (.str .nil) h) (ev x r).ft) (fun n _=>AV.eN (ev x r) (fun i o=>Obj.br (aq i h) (fun el' m ex _ c=>Bool.rec (.err 114) (gY (bu (Nat.succ n) c o) (fun s=>.ok (.str s) (cG i (.cells el' m ex .wx c) h)) (.err 115)) (Bool.and (Nat.ble n 1048576) (Bool.and (Nat.beq el el') (Nat.ble (Nat.add o (Nat.succ n)) m)))) (.err 116)) (.err 117)) n) (.err 118)
inductive ox where
 | mv (x:AO)
 | pick (c a b:AO)
 | alloc (el n:Nat) (c:Cl)
 | box (el:Nat) (x:AO)
 | build (z:List AV) (ps:List Part)
 | bD (el es n:Nat) (z:List AV) (ps:List Part)
 | cY (x:AO)
 | kY (m:Nat) (x:AO)
 | st1 (x y:AO)
 | vg (m:Nat) (x y:AO)
 | qm (x:AO)
 | bin (op:BK) (x y:AO)
 | un (op:UK) (x:AO)
 | conv (op:CK) (x:AO)
 | mki (t:Nat) (x:AO)
 | mkf (f:Nat) (xs:List AO)
 | nd
 | nf (el:Nat) (z:List AV) (l c:AO)
 | slc (es:Nat) (x:AO) (lo hi mx:OA)
 | LC (x:AO) (lo hi:OA)
 | LF (len es:Nat) (x:AO) (lo hi mx:OA)
 | dh (d:Nat) (x:AO)
 | LG (d:Nat) (x:AO)
 | LH (d n:Nat) (x:AO)
 | dn (es:Nat) (x y:AO)
 | ixa (len es:Nat) (x y:AO)
 | idxs (x y:AO)
 | LI (len es:Nat) (agg:Bool) (x y:AO)
 | ext (i:Nat) (x:AO)
 | zH (t:KT) (z:AV) (ok:Bool) (x y:AO)
 | Bj (t:KT) (x y z:AO)
 | del (t:KT) (x y:AO)
 | Ge (x:AO)
 | len (x:AO)
 | gi (x:AO)
 | cap (x:AO)
 | max (mn:Bool) (xs:List AO)
 | app (el es:Nat) (x y:AO)
 | apps (el:Nat) (x y:AO)
 | cpy (es:Nat) (x y:AO)
 | clr (z:List AV) (x:AO)
 | LJ (x:AO)
 | CP (x:AO)
 | RX (x:AO)
 | TP (t:Nat) (z:AV) (ok:Bool) (x:AO)
 | aM (k:FloatKind) (x y:AO)
 | real (im:Bool) (x:AO)
 | LK (x:AO)
 | Gf (el:Nat) (x y:AO)
 | yi (t:KT) (z:AV) (x y:AO)
 | yj (x y z:AO)
 | Gg (el es:Nat) (z:List AV) (x y:AO)
 | bad (n:Nat)
def ox.run (op:ox):A2→Hp→RV:=ox.rec (motive:=fun _=>A2→Hp→RV) Lw eJ Br yc jk fQ iD pU qX yd oD TG Lv qY ye yf qy iH da ma oE qO oG oH qP vk gj oJ vl Bu Bv Bw oL Bx wF mV yl vm ri vp vq wG jh mU Bz oO ji mb oP wD wE lY (fun n _ _=>.err n) op
inductive AI where
 | op (o:ox)
 | xO (s:Bool) (x:AO)
 | call (f:Nat) (xs:List AO)
 | jI (x:AO) (xs:List AO)
 | inv (name:Nat) (x:AO) (xs:List AO)
inductive aL where
 | no
 | t (a b:H)
inductive GI where
 | o (d:aL) (i:AI)
 | g (a b:H) (w:Bool) (d:aL) (i:AI)
inductive Bk where
 | dQ
 | rd (n:Nat)
 | new
inductive DI where
 | mk (b:Bk) (g:GI)
abbrev Cf:=Nat→List AV→Hp→RT
abbrev Iv:=Nat→AV→List AV→Hp→RT
inductive AC where
 | skip
 | ops (l:List GI)
 | jQ (l:List DI)
 | seq (a b:AC)
 | cond (c:AO) (a b:AC)
 | block (i:Nat) (a:AC)
 | loop (a:AC)
 | scope (a:AC)
 | sat (a c:AC)
 | exit (i:Nat)
 | goto (l:Nat)
 | label (l:Nat)
 | ret
 | join (a:AC)
 | bad (n:Nat)
 | ah (f:Cf→Iv→(A2→Hp→RS)→A2→Hp→RS) (x:AC)
 | alt (a b:AC)
 | ahQ (q:Nat) (l:List GI)
inductive Rs where
 | t (a b:H)
 | one (a b:H)
 | agg (n:Nat) (a b:H)
inductive SW where
 | mk (i:P4) (r:Nat)
inductive PK where
 | crc
 | put (el:Nat)
 | get
 | wit (l:List SW)
 | Gh
 | LL (el:Nat)
 | BA
 | agT (f:Nat) (l0 l1 k0 kn k2 k3 ra rb l4:List GI)
 | ins (el es:Nat)
 | fn (g:List AV→Hp→RT)
def mc (c:Nat):Nat:=Nat.xor (Nat.shiftRight c 1) (Nat.mul (Nat.land c 1) 3988292384)
def zO (c:Nat):Nat:=mc (mc (mc (mc (mc (mc (mc (mc c)))))))
def Gi (s:List Nat):Nat→Nat:=bF (β:=Nat→Nat) (fun c=>c) (fun b _ ih c=>ih (zO (Nat.xor c b))) s
def ahR (s:List Nat):Nat:=Nat.xor 4294967295 (Gi s 4294967295)
def anQ (x:AV) (h:Hp):RV:=elems 1 x h (fun l=>gY l (fun s=>.ok (.int .u32 (.ofNat (ahR s))) h) (.err 140)) (.err 141)
def pV (v:RV) (k:AV→Hp→RV):RV:=RV.rec k (fun n=>.err n) v
def auw (el:Nat) (p:AV) (b:Nat) (h:Hp):RV:=pV (iD (.c p) .nil h) (fun s h=>pV (FY el 1 1 (.cons (.int .u8 (.ofNat b)) .nil) s h) (fun v h=>qX (.c p) (.c v) .nil h))
def aux (el:Nat) (p:AV) (m:Nat):Nat→Hp→RV:=Nat.rec (fun _ h=>.ok cm h) (fun _ ih n h=>pV (auw el p (Nat.mod n 256) h) (fun _ h=>ih (Nat.div n 256) h)) m
def anR (el:Nat) (p n m:AV) (h:Hp):RV:=AV.eN p (fun i o=>eo n (fun n=>eo m (fun m=>aux el (.ptr i o) m n h) (.err 142)) (.err 142)) (.err 142)
def leN (s:List Nat):Nat:=bF 0 (fun b _ ih=>Nat.add (Nat.mul 256 ih) b) s
def ahS (i:P4) (o m a:Nat) (s:AV) (h:Hp):RV:=pV (da 1 (.c s) (.some (.c (.int .i64 (.ofNat a)))) (.some (.c (.int .i64 (.ofNat (Nat.add a m))))) .none .nil h) (fun x _=>
 elems 1 x h (fun l=>gY l (fun b=>pV (qX (.c (.ptr i (Nat.add o 1))) (.c (.int .i64 (.ofNat (Nat.add a m)))) .nil h) (fun _ h=>.ok (.int .u64 (.ofNat (leN b))) h)) (.err 143)) (.err 144))
def ahT (i:P4) (o m:Nat) (h:Hp):RV:=pV (iD (.c (.ptr i (Nat.add o 2))) .nil h) (fun w _=>AV.dp w (fun _ n=>Bool.rec (.err 145) (pV (iD (.c (.ptr i (Nat.add o 1))) .nil h) (fun a _=>eo a (fun a=>pV (iD (.c (.ptr i o)) .nil h) (fun s _=>rh s (fun n=>Bool.rec (.err 146) (ahS i o m a s h) (Nat.ble (Nat.add a m) n)) (.err 147))) (.err 148))) (uI n (.ofNat 0))) (.err 145))
def anS (p m:AV) (h:Hp):RV:=AV.eN p (fun i o=>eo m (fun m=>Bool.rec (.err 149) (ahT i o m h) (Nat.ble m 8)) (.err 149)) (.err 149)
def bI (d:aL):AV→A2→A2:=aL.rec (motive:=fun _=>AV→A2→A2) (fun _ r=>r) eL d
def dK (l:List AV):Nat→A2→A2:=bF (fun _ r=>r) (fun v _ ih i r=>ih (Nat.succ i) (eL (bO (Nat.div i 16)) (bO (Nat.mod i 16)) v r)) l
def eR (k:A2→Hp→RT) (l:List GI):A2→Hp→RT:=bF (β:=A2→Hp→RT) k (fun i _ ih r h=>GI.rec (fun d i=>AI.rec (fun op=>RV.rec (fun v h=>ih (bI d v r) h) (fun n=>.err n) (op.run r h)) (fun s x=>RT.elim (fun v h=>ih (bI d v r) h) (fun n=>.err n) (fun n f=>.ch n f) (hE s (ev x r) h)) (fun _ _=>.err 161) (fun _ _=>.err 161) (fun _ _ _=>.err 161) i) (fun _ _ _ _ _=>.err 161) i) l
def qz (x:AV) (k:Bool→RT) (e:RT):RT:=OB.rec e k x.asBool
def Gj (x:AV) (k:Nat→List AV→RT) (e:RT):RT:=Tz.rec e k x.zJ
def vt (l4:List GI) (r:A2) (h:Hp):RT:=eR (fun r h=>.ok (aw .h0 .h4 r) h) l4 r h
def BB (k:A2→Hp→RT) (kn k2 k3 ra rb:List GI) (r q:A2) (h:Hp):RT:=eR (fun q h=>eR (fun q h=>eR (fun r2 h=>eR (fun _ h=>eR k kn (eL .h0 .hd .undef (eL .h0 .hc .undef q)) h) rb r2 h) ra (eL .h0 .h7 (aw .h0 .hb q) r) h) k3 (eL .h0 .ha .undef q) h) k2 q h
def zP (kn k2 k3 ra rb l4:List GI) (r:A2):Nat→A2→Hp→RT:=jO (β:=A2→Hp→RT) (fun _ _=>.err 155)
 (fun _ ih q h=>qz (aw .h0 .h7 q) (fun t=>Bool.rec (vt l4 r h) (BB ih kn k2 k3 ra rb r q h) t) (.err 156))
def zQ (k0 kn k2 k3 ra rb l4:List GI) (r:A2) (c:AV) (h:Hp):RT:=eR (fun q h=>eR (zP kn k2 k3 ra rb l4 r 12) kn q h) k0 (dK (.cons .undef (.cons c .nil)) 0 .nil) h
def TQ (f:Nat) (k0 kn k2 k3 ra rb l4:List GI) (r:A2) (h:Hp):RT:=Gj (aw .h0 .h6 r) (fun g cs=>Bool.rec (.err 153) (List.rec (.err 153) (fun c t _=>List.rec (zQ k0 kn k2 k3 ra rb l4 r c h) (fun _ _ _=>.err 153) t) cs) (Nat.beq f g)) (.err 153)
def wH (f:Nat) (l0 l1 k0 kn k2 k3 ra rb l4:List GI) (s x:AV) (h:Hp):RT:=eR (fun r h=>eR (TQ f k0 kn k2 k3 ra rb l4) l1 r h) l0 (dK (.cons s (.cons x .nil)) 0 .nil) h
def rj (l:List AV) (k:AV→RV):RV:=List.rec (.err 154) (fun a t _=>List.rec (k a) (fun _ _ _=>.err 154) t) l
def TR (l:List AV) (k:AV→AV→RV):RV:=List.rec (.err 154) (fun a t _=>rj t (fun b=>k a b)) l
def yn (l:List AV) (k:AV→AV→AV→RV):RV:=List.rec (.err 154) (fun a t _=>TR t (fun b c=>k a b c)) l
def ahU (l:List AV) (k:AV→AV→RT):RT:=List.rec (.err 154) (fun a t _=>List.rec (.err 154) (fun b t _=>List.rec (k a b) (fun _ _ _=>.err 154) t) t) l
def ahV (l:List SW) (i:P4):RV→(Nat→RV)→RV:=bF (β:=RV→(Nat→RV)→RV) (fun e _=>e) (fun y _ ih e k=>SW.rec (fun j r=>Bool.rec (ih e k) (k r) (jM i j)) y) l
def anT (l:List SW) (x lo hi:AV) (h:Hp):RV:=AV.rec (motive_2:=fun _=>PUnit) (.err 170) (fun _=>.err 170) (fun _ _=>.err 170) (fun _=>.err 170) (fun _ _=>.err 170) (fun _ _ _=>.err 170) (fun _ _=>.err 170) (.err 170) (fun _ _ _ _=>.err 170) (fun _ _ _ _=>.err 170) (.err 170) (fun _=>.err 170) (.err 170) (fun _ _ _=>.err 170) (.err 170) (fun _ _ _=>.err 170) (.err 170) (fun _ _=>.err 170) (fun _ _=>.err 170) (fun i=>AV.dp lo (fun kl lo=>AV.dp hi (fun kh hi=>Bool.rec (.err 171) (Bool.rec (.err 171) (Bool.rec (.err 171) (Bool.rec (.err 171) (ahV l i (.err 172) (fun r=>.ok (.int .i64 (.ofNat r)) h)) (uI hi (.ofNat 4))) (uI lo (.ofNat 0))) (Bs kh)) (Bs kl)) (.err 171)) (.err 171)) PUnit.unit (fun _ _ _ _=>PUnit.unit) x
def zR (el:Nat) (x:AV) (h:Hp):RV:=AV.dp x (fun k n=>Bool.rec (.err 195) (Int.rec (fun n=>Bool.rec (.err 196) (wA el .plain 1 n (dS n (.cons .undef .nil)) h) (Nat.ble n 65536)) (fun _=>.err 196) n) (Bs k)) (.err 195)
def ahW (x:Nat) (h:Hp):RV:=match FloatKind.f64.decode x with
 | .nan _ _=>.err 180
 | d=>.ok (.gA .f64 (FloatKind.f64.encode (d.integral .zero))) h
def anU (k:FloatKind):Bool:=FloatKind.rec false true k
def wI (x:AV) (h:Hp):RV:=AV.pQ x (fun k n=>Bool.rec (.err 181) (ahW n h) (anU k)) (.err 181)
def LM (f:Fl):Bool:=Fl.rec true false false f
def zS (el es:Nat) (i:P4) (n q m:Nat) (new:List AV) (h:Hp):RV:=Obj.br (aq i h) (fun el' k ex fl c=>Bool.rec (.err 247) (Bool.rec (.err 247) (Bool.rec (.err 247) (Bool.rec (.err 247) (nc i el (Nat.mul (Nat.add n m) es) fl (lP (List.append (List.take (Nat.mul q es) (bu (Nat.mul n es) c 0)) (List.append new (List.drop (Nat.mul q es) (bu (Nat.mul n es) c 0))))) (Nat.add n m) es h) (Nat.beq (Nat.mul n es) k)) (Nat.beq el el')) (Bool.not ex)) (wr fl)) (.err 248)
def wJ (el es:Nat) (i:P4) (o n es' q:Nat) (j:P4) (o2 m:Nat) (h:Hp):RV:=Bool.rec (.err 241) (Bool.rec (.err 241) (Bool.rec (.err 242) (Bool.rec (.err 242) (Bool.rec (.err 243) (Obj.br (aq j h) (fun _ k2 _ fl2 c2=>Bool.rec (.err 244) (Bool.rec (.err 245) (zS el es i n q m (bu (Nat.mul m es) c2 o2) h) (Nat.ble (Nat.add o2 (Nat.mul m es)) k2)) (LM fl2)) (.err 246)) (Bool.not (jM i j))) (Nat.ble 1 m)) (Nat.ble (Nat.succ q) n)) (Nat.beq o 0)) (Nat.beq es es')
def BC (el es:Nat) (s x y:AV) (h:Hp):RV:=AV.jj s (fun _ _ _ _=>.err 240) (fun i o n es'=>AV.dp x (fun kd z=>Bool.rec (.err 249) (Int.rec (fun q=>AV.jj y (fun j o2 m _=>wJ el es i o n es' q j o2 m h) (fun _ _ _ _=>.err 240) (.err 240) (.err 240)) (fun _=>.err 249) z) (Bs kd)) (.err 249)) (.err 240) (.err 240)
def cA (k:PK) (args:List AV) (h:Hp):RT:=PK.rec (rj args (fun x=>anQ x h)).jT (fun el=>(yn args (fun p n m=>anR el p n m h)).jT) (TR args (fun p m=>anS p m h)).jT (fun l=>(yn args (fun x lo hi=>anT l x lo hi h)).jT) (rj args (fun x=>.ok x h)).jT (fun el=>(rj args (fun x=>zR el x h)).jT) (rj args (fun x=>wI x h)).jT (fun f l0 l1 k0 kn k2 k3 ra rb l4=>ahU args (fun s x=>wH f l0 l1 k0 kn k2 k3 ra rb l4 s x h)) (fun el es=>(yn args (fun s x y=>BC el es s x y h)).jT) (fun g=>g args h) k
inductive AF where
 | none
 | mk (body:AC) (res:List Rs)
 | mW (k:PK) (body:AC) (res:List Rs)
 | Es (body:AC) (res:List Rs)
 | ext (k:PK)
inductive F1 where
 | nil
 | mk (a0 a1 a2 a3 a4 a5 a6 a7 a8 a9 aa ab ac ad ae af:AF)
def F1.g0 (x:F1):AF:=F1.rec .none EM x
def F1.g1 (x:F1):AF:=F1.rec .none EP x
def F1.g2 (x:F1):AF:=F1.rec .none ET x
def F1.g3 (x:F1):AF:=F1.rec .none EW x
def F1.g4 (x:F1):AF:=F1.rec .none EZ x
def F1.g5 (x:F1):AF:=F1.rec .none Fc x
def F1.g6 (x:F1):AF:=F1.rec .none Fg x
def F1.g7 (x:F1):AF:=F1.rec .none Fj x
def F1.g8 (x:F1):AF:=F1.rec .none Fo x
def F1.g9 (x:F1):AF:=F1.rec .none Fs x
def F1.ga (x:F1):AF:=F1.rec .none Fv x
def F1.gb (x:F1):AF:=F1.rec .none Fy x
def F1.gc (x:F1):AF:=F1.rec .none FB x
def F1.gd (x:F1):AF:=F1.rec .none FE x
def F1.ge (x:F1):AF:=F1.rec .none FH x
def F1.gf (x:F1):AF:=F1.rec .none FK x
def F1.get (d:H):F1→AF:=H.rec (motive:=fun _=>F1→AF) F1.g0 F1.g1 F1.g2 F1.g3 F1.g4 F1.g5 F1.g6 F1.g7 F1.g8 F1.g9 F1.ga F1.gb F1.gc F1.gd F1.ge F1.gf d
def F1.s0 (v:AF) (x:F1):F1:=F1.rec (motive:=fun _=>AF→F1) (EO F1.mk .none) (EN F1.mk) x v
def F1.s1 (v:AF) (x:F1):F1:=F1.rec (motive:=fun _=>AF→F1) (ES F1.mk .none) (ER F1.mk) x v
def F1.s2 (v:AF) (x:F1):F1:=F1.rec (motive:=fun _=>AF→F1) (EV F1.mk .none) (EU F1.mk) x v
def F1.s3 (v:AF) (x:F1):F1:=F1.rec (motive:=fun _=>AF→F1) (EY F1.mk .none) (EX F1.mk) x v
def F1.s4 (v:AF) (x:F1):F1:=F1.rec (motive:=fun _=>AF→F1) (Fb F1.mk .none) (Fa F1.mk) x v
def F1.s5 (v:AF) (x:F1):F1:=F1.rec (motive:=fun _=>AF→F1) (Ff F1.mk .none) (Fe F1.mk) x v
def F1.s6 (v:AF) (x:F1):F1:=F1.rec (motive:=fun _=>AF→F1) (Fi F1.mk .none) (Fh F1.mk) x v
def F1.s7 (v:AF) (x:F1):F1:=F1.rec (motive:=fun _=>AF→F1) (Fm F1.mk .none) (Fk F1.mk) x v
def F1.s8 (v:AF) (x:F1):F1:=F1.rec (motive:=fun _=>AF→F1) (Fq F1.mk .none) (Fp F1.mk) x v
def F1.s9 (v:AF) (x:F1):F1:=F1.rec (motive:=fun _=>AF→F1) (Fu F1.mk .none) (Ft F1.mk) x v
def F1.sa (v:AF) (x:F1):F1:=F1.rec (motive:=fun _=>AF→F1) (Fx F1.mk .none) (Fw F1.mk) x v
def F1.sb (v:AF) (x:F1):F1:=F1.rec (motive:=fun _=>AF→F1) (FA F1.mk .none) (Fz F1.mk) x v
def F1.sc (v:AF) (x:F1):F1:=F1.rec (motive:=fun _=>AF→F1) (FD F1.mk .none) (FC F1.mk) x v
def F1.sd (v:AF) (x:F1):F1:=F1.rec (motive:=fun _=>AF→F1) (FG F1.mk .none) (FF F1.mk) x v
def F1.se (v:AF) (x:F1):F1:=F1.rec (motive:=fun _=>AF→F1) (FJ F1.mk .none) (FI F1.mk) x v
def F1.sf (v:AF) (x:F1):F1:=F1.rec (motive:=fun _=>AF→F1) (FM F1.mk .none) (FL F1.mk) x v
def F1.set (d:H):AF→F1→F1:=H.rec (motive:=fun _=>AF→F1→F1) F1.s0 F1.s1 F1.s2 F1.s3 F1.s4 F1.s5 F1.s6 F1.s7 F1.s8 F1.s9 F1.sa F1.sb F1.sc F1.sd F1.se F1.sf d
inductive F2 where
 | nil
 | mk (a0 a1 a2 a3 a4 a5 a6 a7 a8 a9 aa ab ac ad ae af:F1)
def F2.g0 (x:F2):F1:=F2.rec .nil EM x
def F2.g1 (x:F2):F1:=F2.rec .nil EP x
def F2.g2 (x:F2):F1:=F2.rec .nil ET x
def F2.g3 (x:F2):F1:=F2.rec .nil EW x
def F2.g4 (x:F2):F1:=F2.rec .nil EZ x
def F2.g5 (x:F2):F1:=F2.rec .nil Fc x
def F2.g6 (x:F2):F1:=F2.rec .nil Fg x
def F2.g7 (x:F2):F1:=F2.rec .nil Fj x
def F2.g8 (x:F2):F1:=F2.rec .nil Fo x
def F2.g9 (x:F2):F1:=F2.rec .nil Fs x
def F2.ga (x:F2):F1:=F2.rec .nil Fv x
def F2.gb (x:F2):F1:=F2.rec .nil Fy x
def F2.gc (x:F2):F1:=F2.rec .nil FB x
def F2.gd (x:F2):F1:=F2.rec .nil FE x
def F2.ge (x:F2):F1:=F2.rec .nil FH x
def F2.gf (x:F2):F1:=F2.rec .nil FK x
def F2.get (d:H):F2→F1:=H.rec (motive:=fun _=>F2→F1) F2.g0 F2.g1 F2.g2 F2.g3 F2.g4 F2.g5 F2.g6 F2.g7 F2.g8 F2.g9 F2.ga F2.gb F2.gc F2.gd F2.ge F2.gf d
def F2.s0 (v:F1) (x:F2):F2:=F2.rec (motive:=fun _=>F1→F2) (EO F2.mk .nil) (EN F2.mk) x v
def F2.s1 (v:F1) (x:F2):F2:=F2.rec (motive:=fun _=>F1→F2) (ES F2.mk .nil) (ER F2.mk) x v
def F2.s2 (v:F1) (x:F2):F2:=F2.rec (motive:=fun _=>F1→F2) (EV F2.mk .nil) (EU F2.mk) x v
def F2.s3 (v:F1) (x:F2):F2:=F2.rec (motive:=fun _=>F1→F2) (EY F2.mk .nil) (EX F2.mk) x v
def F2.s4 (v:F1) (x:F2):F2:=F2.rec (motive:=fun _=>F1→F2) (Fb F2.mk .nil) (Fa F2.mk) x v
def F2.s5 (v:F1) (x:F2):F2:=F2.rec (motive:=fun _=>F1→F2) (Ff F2.mk .nil) (Fe F2.mk) x v
def F2.s6 (v:F1) (x:F2):F2:=F2.rec (motive:=fun _=>F1→F2) (Fi F2.mk .nil) (Fh F2.mk) x v
def F2.s7 (v:F1) (x:F2):F2:=F2.rec (motive:=fun _=>F1→F2) (Fm F2.mk .nil) (Fk F2.mk) x v
def F2.s8 (v:F1) (x:F2):F2:=F2.rec (motive:=fun _=>F1→F2) (Fq F2.mk .nil) (Fp F2.mk) x v
def F2.s9 (v:F1) (x:F2):F2:=F2.rec (motive:=fun _=>F1→F2) (Fu F2.mk .nil) (Ft F2.mk) x v
def F2.sa (v:F1) (x:F2):F2:=F2.rec (motive:=fun _=>F1→F2) (Fx F2.mk .nil) (Fw F2.mk) x v
def F2.sb (v:F1) (x:F2):F2:=F2.rec (motive:=fun _=>F1→F2) (FA F2.mk .nil) (Fz F2.mk) x v
def F2.sc (v:F1) (x:F2):F2:=F2.rec (motive:=fun _=>F1→F2) (FD F2.mk .nil) (FC F2.mk) x v
def F2.sd (v:F1) (x:F2):F2:=F2.rec (motive:=fun _=>F1→F2) (FG F2.mk .nil) (FF F2.mk) x v
def F2.se (v:F1) (x:F2):F2:=F2.rec (motive:=fun _=>F1→F2) (FJ F2.mk .nil) (FI F2.mk) x v
def F2.sf (v:F1) (x:F2):F2:=F2.rec (motive:=fun _=>F1→F2) (FM F2.mk .nil) (FL F2.mk) x v
def F2.set (d:H):F1→F2→F2:=H.rec (motive:=fun _=>F1→F2→F2) F2.s0 F2.s1 F2.s2 F2.s3 F2.s4 F2.s5 F2.s6 F2.s7 F2.s8 F2.s9 F2.sa F2.sb F2.sc F2.sd F2.se F2.sf d
inductive F3 where
 | nil
 | mk (a0 a1 a2 a3 a4 a5 a6 a7 a8 a9 aa ab ac ad ae af:F2)
def F3.g0 (x:F3):F2:=F3.rec .nil EM x
def F3.g1 (x:F3):F2:=F3.rec .nil EP x
def F3.g2 (x:F3):F2:=F3.rec .nil ET x
def F3.g3 (x:F3):F2:=F3.rec .nil EW x
def F3.g4 (x:F3):F2:=F3.rec .nil EZ x
def F3.g5 (x:F3):F2:=F3.rec .nil Fc x
def F3.g6 (x:F3):F2:=F3.rec .nil Fg x
def F3.g7 (x:F3):F2:=F3.rec .nil Fj x
def F3.g8 (x:F3):F2:=F3.rec .nil Fo x
def F3.g9 (x:F3):F2:=F3.rec .nil Fs x
def F3.ga (x:F3):F2:=F3.rec .nil Fv x
def F3.gb (x:F3):F2:=F3.rec .nil Fy x
def F3.gc (x:F3):F2:=F3.rec .nil FB x
def F3.gd (x:F3):F2:=F3.rec .nil FE x
def F3.ge (x:F3):F2:=F3.rec .nil FH x
def F3.gf (x:F3):F2:=F3.rec .nil FK x
def F3.get (d:H):F3→F2:=H.rec (motive:=fun _=>F3→F2) F3.g0 F3.g1 F3.g2 F3.g3 F3.g4 F3.g5 F3.g6 F3.g7 F3.g8 F3.g9 F3.ga F3.gb F3.gc F3.gd F3.ge F3.gf d
def F3.s0 (v:F2) (x:F3):F3:=F3.rec (motive:=fun _=>F2→F3) (EO F3.mk .nil) (EN F3.mk) x v
def F3.s1 (v:F2) (x:F3):F3:=F3.rec (motive:=fun _=>F2→F3) (ES F3.mk .nil) (ER F3.mk) x v
def F3.s2 (v:F2) (x:F3):F3:=F3.rec (motive:=fun _=>F2→F3) (EV F3.mk .nil) (EU F3.mk) x v
def F3.s3 (v:F2) (x:F3):F3:=F3.rec (motive:=fun _=>F2→F3) (EY F3.mk .nil) (EX F3.mk) x v
def F3.s4 (v:F2) (x:F3):F3:=F3.rec (motive:=fun _=>F2→F3) (Fb F3.mk .nil) (Fa F3.mk) x v
def F3.s5 (v:F2) (x:F3):F3:=F3.rec (motive:=fun _=>F2→F3) (Ff F3.mk .nil) (Fe F3.mk) x v
def F3.s6 (v:F2) (x:F3):F3:=F3.rec (motive:=fun _=>F2→F3) (Fi F3.mk .nil) (Fh F3.mk) x v
def F3.s7 (v:F2) (x:F3):F3:=F3.rec (motive:=fun _=>F2→F3) (Fm F3.mk .nil) (Fk F3.mk) x v
def F3.s8 (v:F2) (x:F3):F3:=F3.rec (motive:=fun _=>F2→F3) (Fq F3.mk .nil) (Fp F3.mk) x v
def F3.s9 (v:F2) (x:F3):F3:=F3.rec (motive:=fun _=>F2→F3) (Fu F3.mk .nil) (Ft F3.mk) x v
def F3.sa (v:F2) (x:F3):F3:=F3.rec (motive:=fun _=>F2→F3) (Fx F3.mk .nil) (Fw F3.mk) x v
def F3.sb (v:F2) (x:F3):F3:=F3.rec (motive:=fun _=>F2→F3) (FA F3.mk .nil) (Fz F3.mk) x v
def F3.sc (v:F2) (x:F3):F3:=F3.rec (motive:=fun _=>F2→F3) (FD F3.mk .nil) (FC F3.mk) x v
def F3.sd (v:F2) (x:F3):F3:=F3.rec (motive:=fun _=>F2→F3) (FG F3.mk .nil) (FF F3.mk) x v
def F3.se (v:F2) (x:F3):F3:=F3.rec (motive:=fun _=>F2→F3) (FJ F3.mk .nil) (FI F3.mk) x v
def F3.sf (v:F2) (x:F3):F3:=F3.rec (motive:=fun _=>F2→F3) (FM F3.mk .nil) (FL F3.mk) x v
def F3.set (d:H):F2→F3→F3:=H.rec (motive:=fun _=>F2→F3→F3) F3.s0 F3.s1 F3.s2 F3.s3 F3.s4 F3.s5 F3.s6 F3.s7 F3.s8 F3.s9 F3.sa F3.sb F3.sc F3.sd F3.se F3.sf d
inductive MR where
 | mk (t name f:Nat)
inductive Pg where
 | mk (fs:F3) (ms:List MR)
def cn (f:Nat) (p:F3):AF:=F1.get (bO (Nat.mod f 16)) (F2.get (bO (Nat.mod (Nat.div f 16) 16)) (F3.get (bO (Nat.div f 256)) p))
def Pg.fs (p:Pg):F3:=Pg.rec (fun a _=>a) p
def Pg.ms (p:Pg):List MR:=Pg.rec (fun _ a=>a) p
def ng (t name:Nat) (l:List MR) (k:Nat→RT) (e:RT):RT:=bF e (fun y _ ih=>MR.rec (fun t' n' f=>Bool.rec ih (Bool.rec ih (k f) (Nat.beq name n')) (Nat.beq t t')) y) l
def ahX (x:AV):AV→Bool:=AV.rec (motive_1:=fun _=>AV→Bool) (motive_2:=fun _=>PUnit) (fun _=>false) (fun a y=>AV.bE y (fun b=>eK a b) false) (fun k a y=>AV.dp y (fun k' b=>Bool.rec false (uI a b) (mY k k')) false) (fun a y=>AV.iG y (fun b=>jV a b) false) (fun k a y=>AV.pQ y (fun k' b=>Bool.and (wz k k') (Nat.beq a b)) false) (fun k a b y=>AV.qU y (fun k' c d=>Bool.and (wz k k') (Bool.and (Nat.beq a c) (Nat.beq b d))) false) (fun i o y=>AV.eN y (fun j q=>Bool.and (jM i j) (Nat.beq o q)) false) (fun y=>AV.rec (motive_2:=fun _=>PUnit) false (fun _=>false) (fun _ _=>false) (fun _=>false) (fun _ _=>false) (fun _ _ _=>false) (fun _ _=>false) true (fun _ _ _ _=>false) (fun _ _ _ _=>false) false (fun _=>false) false (fun _ _ _=>false) false (fun _ _ _=>false) false (fun _ _=>false) (fun _ _=>false) (fun _=>false) PUnit.unit (fun _ _ _ _=>PUnit.unit) y) (fun i a b c y=>AV.jj y (fun j d e f=>Bool.and (jM i j) (Bool.and (Nat.beq a d) (Bool.and (Nat.beq b e) (Nat.beq c f)))) (fun _ _ _ _=>false) false false) (fun i a b c y=>AV.jj y (fun _ _ _ _=>false) (fun j d e f=>Bool.and (jM i j) (Bool.and (Nat.beq a d) (Bool.and (Nat.beq b e) (Nat.beq c f)))) false false) (fun y=>AV.jj y (fun _ _ _ _=>false) (fun _ _ _ _=>false) true false) (fun i y=>AV.dR y (fun j=>jM i j) false false) (fun y=>AV.dR y (fun _=>false) true false) (fun _ _ _ _=>false) (fun y=>AV.rec (motive_2:=fun _=>PUnit) false (fun _=>false) (fun _ _=>false) (fun _=>false) (fun _ _=>false) (fun _ _ _=>false) (fun _ _=>false) false (fun _ _ _ _=>false) (fun _ _ _ _=>false) false (fun _=>false) false (fun _ _ _=>false) true (fun _ _ _=>false) false (fun _ _=>false) (fun _ _=>false) (fun _=>false) PUnit.unit (fun _ _ _ _=>PUnit.unit) y) (fun _ _ _ _=>false) (fun y=>AV.zL y (fun _ _=>false) true false) (fun _ _ _=>false) (fun _ _ _=>false) (fun _ _=>false) PUnit.unit (fun _ _ _ _=>PUnit.unit) x
def dj (x y:AV):Bool:=ahX x y
def yo (a b:List AV):Bool:=bF (β:=List AV→Bool) (fun b=>List.rec true (fun _ _ _=>false) b)
 (fun x _ ih b=>List.rec false (fun y b _=>Bool.rec false (ih b) (dj x y)) b) a b
def rk (x y:AV):Bool:=OL.rec (dj x y) (fun a=>AV.lO y (fun b=>yo a b) false) x.asAgg
def vu (x y:AV):Bool:=Tz.rec (TA.rec (rk x y) (rk x y) (fun t a=>AV.zL y (fun u b=>Bool.and (Nat.beq t u) (rk a b)) false false) x.zK) (fun f a=>AV.EK y (fun g b=>Bool.and (Nat.beq f g) (yo a b)) false) x.zJ
def pW (a b:List AV):Bool:=bF (β:=List AV→Bool) (fun b=>List.rec true (fun _ _ _=>false) b)
 (fun x _ ih b=>List.rec false (fun y b _=>Bool.rec false (ih b) (vu x y)) b) a b
def same (x y:AV):Bool:=OL.rec (vu x y) (fun a=>AV.Bm y (fun b=>pW a b) false) x.qT
def isU (x:AV):Bool:=AV.rec (motive_2:=fun _=>PUnit) true (fun _=>false) (fun _ _=>false) (fun _=>false) (fun _ _=>false) (fun _ _ _=>false) (fun _ _=>false) false (fun _ _ _ _=>false) (fun _ _ _ _=>false) false (fun _=>false) false (fun _ _ _=>false) false (fun _ _ _=>false) false (fun _ _=>false) (fun _ _=>false) (fun _=>false) PUnit.unit (fun _ _ _ _=>PUnit.unit) x
def xP (x y:AV):Bool:=Bool.rec (same x y) (isU y) (isU x)
def gh (x y:AV):AV:=Bool.rec .undef x (same x y)
def A1.eq (x y:A1):Bool:=A1.rec (A1.rec true (fun _ _ _ _ _ _ _ _ _ _ _ _ _ _ _ _=>false) y) (fun a0 a1 a2 a3 a4 a5 a6 a7 a8 a9 aa ab ac ad ae af=>A1.rec false (fun b0 b1 b2 b3 b4 b5 b6 b7 b8 b9 ba bb bc bd be bf=>(Bool.rec false (Bool.rec false (Bool.rec false (Bool.rec false (Bool.rec false (Bool.rec false (Bool.rec false (Bool.rec false (Bool.rec false (Bool.rec false (Bool.rec false (Bool.rec false (Bool.rec false (Bool.rec false (Bool.rec false (xP af bf) (xP ae be)) (xP ad bd)) (xP ac bc)) (xP ab bb)) (xP aa ba)) (xP a9 b9)) (xP a8 b8)) (xP a7 b7)) (xP a6 b6)) (xP a5 b5)) (xP a4 b4)) (xP a3 b3)) (xP a2 b2)) (xP a1 b1)) (xP a0 b0))) y) x
def A2.eq (x y:A2):Bool:=A2.rec (A2.rec true (fun _ _ _ _ _ _ _ _ _ _ _ _ _ _ _ _=>false) y) (fun a0 a1 a2 a3 a4 a5 a6 a7 a8 a9 aa ab ac ad ae af=>A2.rec false (fun b0 b1 b2 b3 b4 b5 b6 b7 b8 b9 ba bb bc bd be bf=>(Bool.rec false (Bool.rec false (Bool.rec false (Bool.rec false (Bool.rec false (Bool.rec false (Bool.rec false (Bool.rec false (Bool.rec false (Bool.rec false (Bool.rec false (Bool.rec false (Bool.rec false (Bool.rec false (Bool.rec false (A1.eq af bf) (A1.eq ae be)) (A1.eq ad bd)) (A1.eq ac bc)) (A1.eq ab bb)) (A1.eq aa ba)) (A1.eq a9 b9)) (A1.eq a8 b8)) (A1.eq a7 b7)) (A1.eq a6 b6)) (A1.eq a5 b5)) (A1.eq a4 b4)) (A1.eq a3 b3)) (A1.eq a2 b2)) (A1.eq a1 b1)) (A1.eq a0 b0))) y) x
def A3.eq (x y:A3):Bool:=A3.rec (A3.rec true (fun _ _ _ _ _ _ _ _ _ _ _ _ _ _ _ _=>false) y) (fun a0 a1 a2 a3 a4 a5 a6 a7 a8 a9 aa ab ac ad ae af=>A3.rec false (fun b0 b1 b2 b3 b4 b5 b6 b7 b8 b9 ba bb bc bd be bf=>(Bool.rec false (Bool.rec false (Bool.rec false (Bool.rec false (Bool.rec false (Bool.rec false (Bool.rec false (Bool.rec false (Bool.rec false (Bool.rec false (Bool.rec false (Bool.rec false (Bool.rec false (Bool.rec false (Bool.rec false (A2.eq af bf) (A2.eq ae be)) (A2.eq ad bd)) (A2.eq ac bc)) (A2.eq ab bb)) (A2.eq aa ba)) (A2.eq a9 b9)) (A2.eq a8 b8)) (A2.eq a7 b7)) (A2.eq a6 b6)) (A2.eq a5 b5)) (A2.eq a4 b4)) (A2.eq a3 b3)) (A2.eq a2 b2)) (A2.eq a1 b1)) (A2.eq a0 b0))) y) x
def A4.eq (x y:A4):Bool:=A4.rec (A4.rec true (fun _ _ _ _ _ _ _ _ _ _ _ _ _ _ _ _=>false) y) (fun a0 a1 a2 a3 a4 a5 a6 a7 a8 a9 aa ab ac ad ae af=>A4.rec false (fun b0 b1 b2 b3 b4 b5 b6 b7 b8 b9 ba bb bc bd be bf=>(Bool.rec false (Bool.rec false (Bool.rec false (Bool.rec false (Bool.rec false (Bool.rec false (Bool.rec false (Bool.rec false (Bool.rec false (Bool.rec false (Bool.rec false (Bool.rec false (Bool.rec false (Bool.rec false (Bool.rec false (A3.eq af bf) (A3.eq ae be)) (A3.eq ad bd)) (A3.eq ac bc)) (A3.eq ab bb)) (A3.eq aa ba)) (A3.eq a9 b9)) (A3.eq a8 b8)) (A3.eq a7 b7)) (A3.eq a6 b6)) (A3.eq a5 b5)) (A3.eq a4 b4)) (A3.eq a3 b3)) (A3.eq a2 b2)) (A3.eq a1 b1)) (A3.eq a0 b0))) y) x
def A1.mg (x y:A1):A1:=A1.rec (A1.rec .nil (fun b0 b1 b2 b3 b4 b5 b6 b7 b8 b9 ba bb bc bd be bf=>.mk (gh AV.undef b0) (gh AV.undef b1) (gh AV.undef b2) (gh AV.undef b3) (gh AV.undef b4) (gh AV.undef b5) (gh AV.undef b6) (gh AV.undef b7) (gh AV.undef b8) (gh AV.undef b9) (gh AV.undef ba) (gh AV.undef bb) (gh AV.undef bc) (gh AV.undef bd) (gh AV.undef be) (gh AV.undef bf)) y) (fun a0 a1 a2 a3 a4 a5 a6 a7 a8 a9 aa ab ac ad ae af=>A1.rec (.mk (gh a0 AV.undef) (gh a1 AV.undef) (gh a2 AV.undef) (gh a3 AV.undef) (gh a4 AV.undef) (gh a5 AV.undef) (gh a6 AV.undef) (gh a7 AV.undef) (gh a8 AV.undef) (gh a9 AV.undef) (gh aa AV.undef) (gh ab AV.undef) (gh ac AV.undef) (gh ad AV.undef) (gh ae AV.undef) (gh af AV.undef)) (fun b0 b1 b2 b3 b4 b5 b6 b7 b8 b9 ba bb bc bd be bf=>.mk (gh a0 b0) (gh a1 b1) (gh a2 b2) (gh a3 b3) (gh a4 b4) (gh a5 b5) (gh a6 b6) (gh a7 b7) (gh a8 b8) (gh a9 b9) (gh aa ba) (gh ab bb) (gh ac bc) (gh ad bd) (gh ae be) (gh af bf)) y) x
def A2.mg (x y:A2):A2:=A2.rec (A2.rec .nil (fun b0 b1 b2 b3 b4 b5 b6 b7 b8 b9 ba bb bc bd be bf=>.mk (A1.mg A1.nil b0) (A1.mg A1.nil b1) (A1.mg A1.nil b2) (A1.mg A1.nil b3) (A1.mg A1.nil b4) (A1.mg A1.nil b5) (A1.mg A1.nil b6) (A1.mg A1.nil b7) (A1.mg A1.nil b8) (A1.mg A1.nil b9) (A1.mg A1.nil ba) (A1.mg A1.nil bb) (A1.mg A1.nil bc) (A1.mg A1.nil bd) (A1.mg A1.nil be) (A1.mg A1.nil bf)) y) (fun a0 a1 a2 a3 a4 a5 a6 a7 a8 a9 aa ab ac ad ae af=>A2.rec (.mk (A1.mg a0 A1.nil) (A1.mg a1 A1.nil) (A1.mg a2 A1.nil) (A1.mg a3 A1.nil) (A1.mg a4 A1.nil) (A1.mg a5 A1.nil) (A1.mg a6 A1.nil) (A1.mg a7 A1.nil) (A1.mg a8 A1.nil) (A1.mg a9 A1.nil) (A1.mg aa A1.nil) (A1.mg ab A1.nil) (A1.mg ac A1.nil) (A1.mg ad A1.nil) (A1.mg ae A1.nil) (A1.mg af A1.nil)) (fun b0 b1 b2 b3 b4 b5 b6 b7 b8 b9 ba bb bc bd be bf=>.mk (A1.mg a0 b0) (A1.mg a1 b1) (A1.mg a2 b2) (A1.mg a3 b3) (A1.mg a4 b4) (A1.mg a5 b5) (A1.mg a6 b6) (A1.mg a7 b7) (A1.mg a8 b8) (A1.mg a9 b9) (A1.mg aa ba) (A1.mg ab bb) (A1.mg ac bc) (A1.mg ad bd) (A1.mg ae be) (A1.mg af bf)) y) x
def Cl.eq (x y:Cl):Bool:=Cl.rec (fun a=>Cl.rec (fun b=>A1.eq a b) (fun _=>false) (fun _=>false) (fun _=>false) y) (fun a=>Cl.rec (fun _=>false) (fun b=>A2.eq a b) (fun _=>false) (fun _=>false) y) (fun a=>Cl.rec (fun _=>false) (fun _=>false) (fun b=>A3.eq a b) (fun _=>false) y) (fun a=>Cl.rec (fun _=>false) (fun _=>false) (fun _=>false) (fun b=>A4.eq a b) y) x
def Fl.eq (x y:Fl):Bool:=Fl.rec (Fl.rec true false false y) (Fl.rec false true false y) (Fl.rec false false true y) x
def ahZ (x y:KV):Bool:=KV.rec (fun k v b=>KV.rec (fun k' v' b'=>Bool.rec false (Bool.rec false (xP v v') (same k k')) (Nat.beq b b')) y) x
def Gk (a b:List KV):Bool:=bF (β:=List KV→Bool) (fun b=>fw b) (fun x _ ih b=>List.rec false (fun y b _=>Bool.rec false (ih b) (ahZ x y)) b) a b
def rl (x y:Obj):Bool:=Obj.rec (isNone y) false (fun el n ex fl c=>Obj.br y (fun el' n' ex' fl' c'=>Bool.rec false (Bool.rec false (Bool.rec false (Bool.rec false (Cl.eq c c') (Fl.eq fl fl')) (eK ex ex')) (Nat.beq n n')) (Nat.beq el el')) false) (fun l ck=>Obj.dR y (fun l' ck'=>Bool.rec false (Gk l l') (Nat.beq ck ck')) false) (fun _ _=>false) (fun _ _ _ _=>false) false x
def aY (x y:Obj):Obj:=Bool.rec .dead x (rl x y)
def O1.mg (x y:O1):O1:=O1.rec (O1.rec .nil (fun b0 b1 b2 b3 b4 b5 b6 b7 b8 b9 ba bb bc bd be bf=>.mk (aY Obj.none b0) (aY Obj.none b1) (aY Obj.none b2) (aY Obj.none b3) (aY Obj.none b4) (aY Obj.none b5) (aY Obj.none b6) (aY Obj.none b7) (aY Obj.none b8) (aY Obj.none b9) (aY Obj.none ba) (aY Obj.none bb) (aY Obj.none bc) (aY Obj.none bd) (aY Obj.none be) (aY Obj.none bf)) y) (fun a0 a1 a2 a3 a4 a5 a6 a7 a8 a9 aa ab ac ad ae af=>O1.rec (.mk (aY a0 Obj.none) (aY a1 Obj.none) (aY a2 Obj.none) (aY a3 Obj.none) (aY a4 Obj.none) (aY a5 Obj.none) (aY a6 Obj.none) (aY a7 Obj.none) (aY a8 Obj.none) (aY a9 Obj.none) (aY aa Obj.none) (aY ab Obj.none) (aY ac Obj.none) (aY ad Obj.none) (aY ae Obj.none) (aY af Obj.none)) (fun b0 b1 b2 b3 b4 b5 b6 b7 b8 b9 ba bb bc bd be bf=>.mk (aY a0 b0) (aY a1 b1) (aY a2 b2) (aY a3 b3) (aY a4 b4) (aY a5 b5) (aY a6 b6) (aY a7 b7) (aY a8 b8) (aY a9 b9) (aY aa ba) (aY ab bb) (aY ac bc) (aY ad bd) (aY ae be) (aY af bf)) y) x
def O2.mg (x y:O2):O2:=O2.rec (O2.rec .nil (fun b0 b1 b2 b3 b4 b5 b6 b7 b8 b9 ba bb bc bd be bf=>.mk (O1.mg O1.nil b0) (O1.mg O1.nil b1) (O1.mg O1.nil b2) (O1.mg O1.nil b3) (O1.mg O1.nil b4) (O1.mg O1.nil b5) (O1.mg O1.nil b6) (O1.mg O1.nil b7) (O1.mg O1.nil b8) (O1.mg O1.nil b9) (O1.mg O1.nil ba) (O1.mg O1.nil bb) (O1.mg O1.nil bc) (O1.mg O1.nil bd) (O1.mg O1.nil be) (O1.mg O1.nil bf)) y) (fun a0 a1 a2 a3 a4 a5 a6 a7 a8 a9 aa ab ac ad ae af=>O2.rec (.mk (O1.mg a0 O1.nil) (O1.mg a1 O1.nil) (O1.mg a2 O1.nil) (O1.mg a3 O1.nil) (O1.mg a4 O1.nil) (O1.mg a5 O1.nil) (O1.mg a6 O1.nil) (O1.mg a7 O1.nil) (O1.mg a8 O1.nil) (O1.mg a9 O1.nil) (O1.mg aa O1.nil) (O1.mg ab O1.nil) (O1.mg ac O1.nil) (O1.mg ad O1.nil) (O1.mg ae O1.nil) (O1.mg af O1.nil)) (fun b0 b1 b2 b3 b4 b5 b6 b7 b8 b9 ba bb bc bd be bf=>.mk (O1.mg a0 b0) (O1.mg a1 b1) (O1.mg a2 b2) (O1.mg a3 b3) (O1.mg a4 b4) (O1.mg a5 b5) (O1.mg a6 b6) (O1.mg a7 b7) (O1.mg a8 b8) (O1.mg a9 b9) (O1.mg aa ba) (O1.mg ab bb) (O1.mg ac bc) (O1.mg ad bd) (O1.mg ae be) (O1.mg af bf)) y) x
def O3.mg (x y:O3):O3:=O3.rec (O3.rec .nil (fun b0 b1 b2 b3 b4 b5 b6 b7 b8 b9 ba bb bc bd be bf=>.mk (O2.mg O2.nil b0) (O2.mg O2.nil b1) (O2.mg O2.nil b2) (O2.mg O2.nil b3) (O2.mg O2.nil b4) (O2.mg O2.nil b5) (O2.mg O2.nil b6) (O2.mg O2.nil b7) (O2.mg O2.nil b8) (O2.mg O2.nil b9) (O2.mg O2.nil ba) (O2.mg O2.nil bb) (O2.mg O2.nil bc) (O2.mg O2.nil bd) (O2.mg O2.nil be) (O2.mg O2.nil bf)) y) (fun a0 a1 a2 a3 a4 a5 a6 a7 a8 a9 aa ab ac ad ae af=>O3.rec (.mk (O2.mg a0 O2.nil) (O2.mg a1 O2.nil) (O2.mg a2 O2.nil) (O2.mg a3 O2.nil) (O2.mg a4 O2.nil) (O2.mg a5 O2.nil) (O2.mg a6 O2.nil) (O2.mg a7 O2.nil) (O2.mg a8 O2.nil) (O2.mg a9 O2.nil) (O2.mg aa O2.nil) (O2.mg ab O2.nil) (O2.mg ac O2.nil) (O2.mg ad O2.nil) (O2.mg ae O2.nil) (O2.mg af O2.nil)) (fun b0 b1 b2 b3 b4 b5 b6 b7 b8 b9 ba bb bc bd be bf=>.mk (O2.mg a0 b0) (O2.mg a1 b1) (O2.mg a2 b2) (O2.mg a3 b3) (O2.mg a4 b4) (O2.mg a5 b5) (O2.mg a6 b6) (O2.mg a7 b7) (O2.mg a8 b8) (O2.mg a9 b9) (O2.mg aa ba) (O2.mg ab bb) (O2.mg ac bc) (O2.mg ad bd) (O2.mg ae be) (O2.mg af bf)) y) x
def O4.mg (x y:O4):O4:=O4.rec (O4.rec .nil (fun b0 b1 b2 b3 b4 b5 b6 b7 b8 b9 ba bb bc bd be bf=>.mk (O3.mg O3.nil b0) (O3.mg O3.nil b1) (O3.mg O3.nil b2) (O3.mg O3.nil b3) (O3.mg O3.nil b4) (O3.mg O3.nil b5) (O3.mg O3.nil b6) (O3.mg O3.nil b7) (O3.mg O3.nil b8) (O3.mg O3.nil b9) (O3.mg O3.nil ba) (O3.mg O3.nil bb) (O3.mg O3.nil bc) (O3.mg O3.nil bd) (O3.mg O3.nil be) (O3.mg O3.nil bf)) y) (fun a0 a1 a2 a3 a4 a5 a6 a7 a8 a9 aa ab ac ad ae af=>O4.rec (.mk (O3.mg a0 O3.nil) (O3.mg a1 O3.nil) (O3.mg a2 O3.nil) (O3.mg a3 O3.nil) (O3.mg a4 O3.nil) (O3.mg a5 O3.nil) (O3.mg a6 O3.nil) (O3.mg a7 O3.nil) (O3.mg a8 O3.nil) (O3.mg a9 O3.nil) (O3.mg aa O3.nil) (O3.mg ab O3.nil) (O3.mg ac O3.nil) (O3.mg ad O3.nil) (O3.mg ae O3.nil) (O3.mg af O3.nil)) (fun b0 b1 b2 b3 b4 b5 b6 b7 b8 b9 ba bb bc bd be bf=>.mk (O3.mg a0 b0) (O3.mg a1 b1) (O3.mg a2 b2) (O3.mg a3 b3) (O3.mg a4 b4) (O3.mg a5 b5) (O3.mg a6 b6) (O3.mg a7 b7) (O3.mg a8 b8) (O3.mg a9 b9) (O3.mg aa ba) (O3.mg ab bb) (O3.mg ac bc) (O3.mg ad bd) (O3.mg ae be) (O3.mg af bf)) y) x
def gp (x y:AV):Bool:=Bool.rec (same x y) true (isU x)
def zT (x:Obj):Bool:=Obj.rec false true (fun _ _ _ _ _=>false) (fun _ _=>false) (fun _ _=>false) (fun _ _ _ _=>false) false x
def bp (x y:Obj):Bool:=Bool.rec (rl x y) true (zT x)
def A1.le (x y:A1):Bool:=A1.rec (A1.rec true (fun b0 b1 b2 b3 b4 b5 b6 b7 b8 b9 ba bb bc bd be bf=>(Bool.rec false (Bool.rec false (Bool.rec false (Bool.rec false (Bool.rec false (Bool.rec false (Bool.rec false (Bool.rec false (Bool.rec false (Bool.rec false (Bool.rec false (Bool.rec false (Bool.rec false (Bool.rec false (Bool.rec false (gp AV.undef bf) (gp AV.undef be)) (gp AV.undef bd)) (gp AV.undef bc)) (gp AV.undef bb)) (gp AV.undef ba)) (gp AV.undef b9)) (gp AV.undef b8)) (gp AV.undef b7)) (gp AV.undef b6)) (gp AV.undef b5)) (gp AV.undef b4)) (gp AV.undef b3)) (gp AV.undef b2)) (gp AV.undef b1)) (gp AV.undef b0))) y) (fun a0 a1 a2 a3 a4 a5 a6 a7 a8 a9 aa ab ac ad ae af=>A1.rec (Bool.rec false (Bool.rec false (Bool.rec false (Bool.rec false (Bool.rec false (Bool.rec false (Bool.rec false (Bool.rec false (Bool.rec false (Bool.rec false (Bool.rec false (Bool.rec false (Bool.rec false (Bool.rec false (Bool.rec false (gp af AV.undef) (gp ae AV.undef)) (gp ad AV.undef)) (gp ac AV.undef)) (gp ab AV.undef)) (gp aa AV.undef)) (gp a9 AV.undef)) (gp a8 AV.undef)) (gp a7 AV.undef)) (gp a6 AV.undef)) (gp a5 AV.undef)) (gp a4 AV.undef)) (gp a3 AV.undef)) (gp a2 AV.undef)) (gp a1 AV.undef)) (gp a0 AV.undef)) (fun b0 b1 b2 b3 b4 b5 b6 b7 b8 b9 ba bb bc bd be bf=>(Bool.rec false (Bool.rec false (Bool.rec false (Bool.rec false (Bool.rec false (Bool.rec false (Bool.rec false (Bool.rec false (Bool.rec false (Bool.rec false (Bool.rec false (Bool.rec false (Bool.rec false (Bool.rec false (Bool.rec false (gp af bf) (gp ae be)) (gp ad bd)) (gp ac bc)) (gp ab bb)) (gp aa ba)) (gp a9 b9)) (gp a8 b8)) (gp a7 b7)) (gp a6 b6)) (gp a5 b5)) (gp a4 b4)) (gp a3 b3)) (gp a2 b2)) (gp a1 b1)) (gp a0 b0))) y) x
def A2.le (x y:A2):Bool:=A2.rec (A2.rec true (fun b0 b1 b2 b3 b4 b5 b6 b7 b8 b9 ba bb bc bd be bf=>(Bool.rec false (Bool.rec false (Bool.rec false (Bool.rec false (Bool.rec false (Bool.rec false (Bool.rec false (Bool.rec false (Bool.rec false (Bool.rec false (Bool.rec false (Bool.rec false (Bool.rec false (Bool.rec false (Bool.rec false (A1.le A1.nil bf) (A1.le A1.nil be)) (A1.le A1.nil bd)) (A1.le A1.nil bc)) (A1.le A1.nil bb)) (A1.le A1.nil ba)) (A1.le A1.nil b9)) (A1.le A1.nil b8)) (A1.le A1.nil b7)) (A1.le A1.nil b6)) (A1.le A1.nil b5)) (A1.le A1.nil b4)) (A1.le A1.nil b3)) (A1.le A1.nil b2)) (A1.le A1.nil b1)) (A1.le A1.nil b0))) y) (fun a0 a1 a2 a3 a4 a5 a6 a7 a8 a9 aa ab ac ad ae af=>A2.rec (Bool.rec false (Bool.rec false (Bool.rec false (Bool.rec false (Bool.rec false (Bool.rec false (Bool.rec false (Bool.rec false (Bool.rec false (Bool.rec false (Bool.rec false (Bool.rec false (Bool.rec false (Bool.rec false (Bool.rec false (A1.le af A1.nil) (A1.le ae A1.nil)) (A1.le ad A1.nil)) (A1.le ac A1.nil)) (A1.le ab A1.nil)) (A1.le aa A1.nil)) (A1.le a9 A1.nil)) (A1.le a8 A1.nil)) (A1.le a7 A1.nil)) (A1.le a6 A1.nil)) (A1.le a5 A1.nil)) (A1.le a4 A1.nil)) (A1.le a3 A1.nil)) (A1.le a2 A1.nil)) (A1.le a1 A1.nil)) (A1.le a0 A1.nil)) (fun b0 b1 b2 b3 b4 b5 b6 b7 b8 b9 ba bb bc bd be bf=>(Bool.rec false (Bool.rec false (Bool.rec false (Bool.rec false (Bool.rec false (Bool.rec false (Bool.rec false (Bool.rec false (Bool.rec false (Bool.rec false (Bool.rec false (Bool.rec false (Bool.rec false (Bool.rec false (Bool.rec false (A1.le af bf) (A1.le ae be)) (A1.le ad bd)) (A1.le ac bc)) (A1.le ab bb)) (A1.le aa ba)) (A1.le a9 b9)) (A1.le a8 b8)) (A1.le a7 b7)) (A1.le a6 b6)) (A1.le a5 b5)) (A1.le a4 b4)) (A1.le a3 b3)) (A1.le a2 b2)) (A1.le a1 b1)) (A1.le a0 b0))) y) x
def O1.le (x y:O1):Bool:=O1.rec (O1.rec true (fun b0 b1 b2 b3 b4 b5 b6 b7 b8 b9 ba bb bc bd be bf=>(Bool.rec false (Bool.rec false (Bool.rec false (Bool.rec false (Bool.rec false (Bool.rec false (Bool.rec false (Bool.rec false (Bool.rec false (Bool.rec false (Bool.rec false (Bool.rec false (Bool.rec false (Bool.rec false (Bool.rec false (bp Obj.none bf) (bp Obj.none be)) (bp Obj.none bd)) (bp Obj.none bc)) (bp Obj.none bb)) (bp Obj.none ba)) (bp Obj.none b9)) (bp Obj.none b8)) (bp Obj.none b7)) (bp Obj.none b6)) (bp Obj.none b5)) (bp Obj.none b4)) (bp Obj.none b3)) (bp Obj.none b2)) (bp Obj.none b1)) (bp Obj.none b0))) y) (fun a0 a1 a2 a3 a4 a5 a6 a7 a8 a9 aa ab ac ad ae af=>O1.rec (Bool.rec false (Bool.rec false (Bool.rec false (Bool.rec false (Bool.rec false (Bool.rec false (Bool.rec false (Bool.rec false (Bool.rec false (Bool.rec false (Bool.rec false (Bool.rec false (Bool.rec false (Bool.rec false (Bool.rec false (bp af Obj.none) (bp ae Obj.none)) (bp ad Obj.none)) (bp ac Obj.none)) (bp ab Obj.none)) (bp aa Obj.none)) (bp a9 Obj.none)) (bp a8 Obj.none)) (bp a7 Obj.none)) (bp a6 Obj.none)) (bp a5 Obj.none)) (bp a4 Obj.none)) (bp a3 Obj.none)) (bp a2 Obj.none)) (bp a1 Obj.none)) (bp a0 Obj.none)) (fun b0 b1 b2 b3 b4 b5 b6 b7 b8 b9 ba bb bc bd be bf=>(Bool.rec false (Bool.rec false (Bool.rec false (Bool.rec false (Bool.rec false (Bool.rec false (Bool.rec false (Bool.rec false (Bool.rec false (Bool.rec false (Bool.rec false (Bool.rec false (Bool.rec false (Bool.rec false (Bool.rec false (bp af bf) (bp ae be)) (bp ad bd)) (bp ac bc)) (bp ab bb)) (bp aa ba)) (bp a9 b9)) (bp a8 b8)) (bp a7 b7)) (bp a6 b6)) (bp a5 b5)) (bp a4 b4)) (bp a3 b3)) (bp a2 b2)) (bp a1 b1)) (bp a0 b0))) y) x
def O2.le (x y:O2):Bool:=O2.rec (O2.rec true (fun b0 b1 b2 b3 b4 b5 b6 b7 b8 b9 ba bb bc bd be bf=>(Bool.rec false (Bool.rec false (Bool.rec false (Bool.rec false (Bool.rec false (Bool.rec false (Bool.rec false (Bool.rec false (Bool.rec false (Bool.rec false (Bool.rec false (Bool.rec false (Bool.rec false (Bool.rec false (Bool.rec false (O1.le O1.nil bf) (O1.le O1.nil be)) (O1.le O1.nil bd)) (O1.le O1.nil bc)) (O1.le O1.nil bb)) (O1.le O1.nil ba)) (O1.le O1.nil b9)) (O1.le O1.nil b8)) (O1.le O1.nil b7)) (O1.le O1.nil b6)) (O1.le O1.nil b5)) (O1.le O1.nil b4)) (O1.le O1.nil b3)) (O1.le O1.nil b2)) (O1.le O1.nil b1)) (O1.le O1.nil b0))) y) (fun a0 a1 a2 a3 a4 a5 a6 a7 a8 a9 aa ab ac ad ae af=>O2.rec (Bool.rec false (Bool.rec false (Bool.rec false (Bool.rec false (Bool.rec false (Bool.rec false (Bool.rec false (Bool.rec false (Bool.rec false (Bool.rec false (Bool.rec false (Bool.rec false (Bool.rec false (Bool.rec false (Bool.rec false (O1.le af O1.nil) (O1.le ae O1.nil)) (O1.le ad O1.nil)) (O1.le ac O1.nil)) (O1.le ab O1.nil)) (O1.le aa O1.nil)) (O1.le a9 O1.nil)) (O1.le a8 O1.nil)) (O1.le a7 O1.nil)) (O1.le a6 O1.nil)) (O1.le a5 O1.nil)) (O1.le a4 O1.nil)) (O1.le a3 O1.nil)) (O1.le a2 O1.nil)) (O1.le a1 O1.nil)) (O1.le a0 O1.nil)) (fun b0 b1 b2 b3 b4 b5 b6 b7 b8 b9 ba bb bc bd be bf=>(Bool.rec false (Bool.rec false (Bool.rec false (Bool.rec false (Bool.rec false (Bool.rec false (Bool.rec false (Bool.rec false (Bool.rec false (Bool.rec false (Bool.rec false (Bool.rec false (Bool.rec false (Bool.rec false (Bool.rec false (O1.le af bf) (O1.le ae be)) (O1.le ad bd)) (O1.le ac bc)) (O1.le ab bb)) (O1.le aa ba)) (O1.le a9 b9)) (O1.le a8 b8)) (O1.le a7 b7)) (O1.le a6 b6)) (O1.le a5 b5)) (O1.le a4 b4)) (O1.le a3 b3)) (O1.le a2 b2)) (O1.le a1 b1)) (O1.le a0 b0))) y) x
def O3.le (x y:O3):Bool:=O3.rec (O3.rec true (fun b0 b1 b2 b3 b4 b5 b6 b7 b8 b9 ba bb bc bd be bf=>(Bool.rec false (Bool.rec false (Bool.rec false (Bool.rec false (Bool.rec false (Bool.rec false (Bool.rec false (Bool.rec false (Bool.rec false (Bool.rec false (Bool.rec false (Bool.rec false (Bool.rec false (Bool.rec false (Bool.rec false (O2.le O2.nil bf) (O2.le O2.nil be)) (O2.le O2.nil bd)) (O2.le O2.nil bc)) (O2.le O2.nil bb)) (O2.le O2.nil ba)) (O2.le O2.nil b9)) (O2.le O2.nil b8)) (O2.le O2.nil b7)) (O2.le O2.nil b6)) (O2.le O2.nil b5)) (O2.le O2.nil b4)) (O2.le O2.nil b3)) (O2.le O2.nil b2)) (O2.le O2.nil b1)) (O2.le O2.nil b0))) y) (fun a0 a1 a2 a3 a4 a5 a6 a7 a8 a9 aa ab ac ad ae af=>O3.rec (Bool.rec false (Bool.rec false (Bool.rec false (Bool.rec false (Bool.rec false (Bool.rec false (Bool.rec false (Bool.rec false (Bool.rec false (Bool.rec false (Bool.rec false (Bool.rec false (Bool.rec false (Bool.rec false (Bool.rec false (O2.le af O2.nil) (O2.le ae O2.nil)) (O2.le ad O2.nil)) (O2.le ac O2.nil)) (O2.le ab O2.nil)) (O2.le aa O2.nil)) (O2.le a9 O2.nil)) (O2.le a8 O2.nil)) (O2.le a7 O2.nil)) (O2.le a6 O2.nil)) (O2.le a5 O2.nil)) (O2.le a4 O2.nil)) (O2.le a3 O2.nil)) (O2.le a2 O2.nil)) (O2.le a1 O2.nil)) (O2.le a0 O2.nil)) (fun b0 b1 b2 b3 b4 b5 b6 b7 b8 b9 ba bb bc bd be bf=>(Bool.rec false (Bool.rec false (Bool.rec false (Bool.rec false (Bool.rec false (Bool.rec false (Bool.rec false (Bool.rec false (Bool.rec false (Bool.rec false (Bool.rec false (Bool.rec false (Bool.rec false (Bool.rec false (Bool.rec false (O2.le af bf) (O2.le ae be)) (O2.le ad bd)) (O2.le ac bc)) (O2.le ab bb)) (O2.le aa ba)) (O2.le a9 b9)) (O2.le a8 b8)) (O2.le a7 b7)) (O2.le a6 b6)) (O2.le a5 b5)) (O2.le a4 b4)) (O2.le a3 b3)) (O2.le a2 b2)) (O2.le a1 b1)) (O2.le a0 b0))) y) x
def O4.le (x y:O4):Bool:=O4.rec (O4.rec true (fun b0 b1 b2 b3 b4 b5 b6 b7 b8 b9 ba bb bc bd be bf=>(Bool.rec false (Bool.rec false (Bool.rec false (Bool.rec false (Bool.rec false (Bool.rec false (Bool.rec false (Bool.rec false (Bool.rec false (Bool.rec false (Bool.rec false (Bool.rec false (Bool.rec false (Bool.rec false (Bool.rec false (O3.le O3.nil bf) (O3.le O3.nil be)) (O3.le O3.nil bd)) (O3.le O3.nil bc)) (O3.le O3.nil bb)) (O3.le O3.nil ba)) (O3.le O3.nil b9)) (O3.le O3.nil b8)) (O3.le O3.nil b7)) (O3.le O3.nil b6)) (O3.le O3.nil b5)) (O3.le O3.nil b4)) (O3.le O3.nil b3)) (O3.le O3.nil b2)) (O3.le O3.nil b1)) (O3.le O3.nil b0))) y) (fun a0 a1 a2 a3 a4 a5 a6 a7 a8 a9 aa ab ac ad ae af=>O4.rec (Bool.rec false (Bool.rec false (Bool.rec false (Bool.rec false (Bool.rec false (Bool.rec false (Bool.rec false (Bool.rec false (Bool.rec false (Bool.rec false (Bool.rec false (Bool.rec false (Bool.rec false (Bool.rec false (Bool.rec false (O3.le af O3.nil) (O3.le ae O3.nil)) (O3.le ad O3.nil)) (O3.le ac O3.nil)) (O3.le ab O3.nil)) (O3.le aa O3.nil)) (O3.le a9 O3.nil)) (O3.le a8 O3.nil)) (O3.le a7 O3.nil)) (O3.le a6 O3.nil)) (O3.le a5 O3.nil)) (O3.le a4 O3.nil)) (O3.le a3 O3.nil)) (O3.le a2 O3.nil)) (O3.le a1 O3.nil)) (O3.le a0 O3.nil)) (fun b0 b1 b2 b3 b4 b5 b6 b7 b8 b9 ba bb bc bd be bf=>(Bool.rec false (Bool.rec false (Bool.rec false (Bool.rec false (Bool.rec false (Bool.rec false (Bool.rec false (Bool.rec false (Bool.rec false (Bool.rec false (Bool.rec false (Bool.rec false (Bool.rec false (Bool.rec false (Bool.rec false (O3.le af bf) (O3.le ae be)) (O3.le ad bd)) (O3.le ac bc)) (O3.le ab bb)) (O3.le aa ba)) (O3.le a9 b9)) (O3.le a8 b8)) (O3.le a7 b7)) (O3.le a6 b6)) (O3.le a5 b5)) (O3.le a4 b4)) (O3.le a3 b3)) (O3.le a2 b2)) (O3.le a1 b1)) (O3.le a0 b0))) y) x
def aia (x y:Hp):Bool:=O4.le x.tree y.tree
def uK (x:Lg):List P4:=Lg.rec .nil (fun l=>l) x
def mark (h:Hp):Hp:=.mk h.tree h.next (.on .nil)
def Gm (b h:Hp):Hp:=.mk h.tree h.next (Lg.rec .off (fun l=>.on (List.append (uK h.log) l)) b.log)
def qo (b:Hp) (x:RS):RS:=RS.elim (fun r h=>.nm r (Gm b h)) (fun i r h=>.ex i r (Gm b h)) (fun l r h=>.go l r (Gm b h)) (fun r h=>.ret r (Gm b h)) (fun n=>.err n) (fun n ih=>.ch n ih) x
def BD (n:P4) (h:Hp):Hp:=.mk h.tree n h.log
def oQ (x y:Hp) (l:List P4):Hp→Hp:=bF (β:=Hp→Hp) (fun h=>h) (fun p _ ih h=>ih (cG p (aY (aq p x) (aq p y)) h)) l
def auy (b x y:Hp) (k:Hp→RS):RS:=Bool.rec (.err 301) (k (BD x.next (oQ x y (uK x.log) (oQ x y (uK y.log) b)))) (jM x.next y.next)
def zU (b:Hp) (x y:RS):RS:=RS.rec (fun r h=>RS.rec (fun r' h'=>auy b h h' (fun h=>.nm (A2.mg r r') h)) (fun _ _ _=>.err 302) (fun _ _ _=>.err 302) (fun _ _=>.err 302) (fun n=>.err n) (fun _ _ _=>.err 302) y) (fun _ _ _=>.err 303) (fun _ _ _=>.err 303) (fun _ _=>.err 303) (fun n=>.err n) (fun _ _ _=>.err 303) x
def Gn (b:Hp) (n:Nat) (f:Nat→RS):RS:=Nat.rec (.err 304) (fun n _=>jO (f 0) (fun m ih=>zU b ih (f (Nat.succ m))) n) n
def jJ (b:Hp) (x:RS):RS:=RS.elim (fun r h=>.nm r h) (fun i r h=>.ex i r h) (fun l r h=>.go l r h) (fun r h=>.ret r h) (fun n=>.err n) (Gn b) x
def fR (h:Hp) (x:RS):RS:=qo h (jJ (mark h) x)
def vw (l:List Rs) (r:A2):A2:=bF .nil (fun s _ ih=>Rs.rec (fun a b=>eL a b (aw a b r) ih) (fun a b=>eL a b (aw a b r) ih) (fun _ a b=>eL a b (aw a b r) ih) s) l
def rp (l:List Rs) (x:RS):RS:=RS.elim (fun r h=>.nm (vw l r) h) (fun i r h=>.ex i r h) (fun l r h=>.go l r h) (fun r h=>.nm (vw l r) h) (fun n=>.err n) (fun n ih=>.ch n ih) x
abbrev gB:=AC→A2→Hp→RS
def LO (s:Rs) (r:A2) (h:Hp):RV:=Rs.rec (fun a b=>.ok (aw a b r) h) (fun a b=>iD (.t a b) r h) (fun n a b=>pU n (.t a b) r h) s
def aib (l:List Rs) (r:A2) (h:Hp) (k:List AV→RV):RV:=bF (β:=(List AV→RV)→RV) (fun k=>k .nil)
 (fun s _ ih k=>RV.rec (fun v _=>ih (fun vs=>k (.cons v vs))) (fun n=>.err n) (LO s r h)) l k
def Gp (h:Hp) (l:List AV):RV:=List.rec (.ok cm h) (fun v t _=>List.rec (.ok v h) (fun x y _=>.ok (.eS (.cons v (.cons x y))) h) t) l
def CT (res:List Rs) (r:A2) (h:Hp):RV:=aib res r h (Gp h)
def eD (res:List Rs) (s:RS):RT:=RS.elim (fun r h=>(CT res r h).jT) (fun _ _ _=>.err 200) (fun _ _ _=>.err 201) (fun r h=>(CT res r h).jT) (fun n=>.err n) (fun n ih=>.ch n ih) s
def aD (p:Pg) (run:gB) (f:Nat) (args:List AV) (h:Hp):RT:=AF.rec (.err (Nat.add 1000 f)) (fun body res=>Bool.rec (.err 207) (eD res (run body (dK args 0 .nil) h)) (Nat.ble args.length 256)) (fun k body res=>RT.rec (fun v h=>RT.ok v h) (fun _=>Bool.rec (.err 207) (eD res (run body (dK args 0 .nil) h)) (Nat.ble args.length 256)) (fun n k _=>.ch n k) (cA k args h)) (fun body res=>Bool.rec (.err 207) (eD res (fR h (rp res (run body (dK args 0 .nil) (mark h))))) (Nat.ble args.length 256)) (fun k=>cA k args h) (cn f p.fs)
def jK (p:Pg) (run:gB) (x:AV) (args:List AV) (h:Hp):RT:=AV.EK x (fun f cs=>aD p run f (List.append args cs) h) (.err 202)
def aH (p:Pg) (run:gB) (name:Nat) (x:AV) (args:List AV) (h:Hp):RT:=AV.zL x
 (fun t v=>ng t name p.ms (fun f=>aD p run f (.cons v args) h) (.err 206)) (.err 205) (.err 204)
def yp (d:aL) (k:A2→Hp→RS) (r:A2) (v:RV):RS:=RV.rec (fun v h=>k (bI d v r) h) (fun n=>.err n) v
def stepT (d:aL) (k:A2→Hp→RS) (r:A2) (v:RT):RS:=RT.elim (fun v h=>k (bI d v r) h) (fun n=>.err n) (fun n ih=>.ch n ih) v
def AI.exec (i:AI) (p:Pg) (run:gB) (d:aL) (k:A2→Hp→RS) (r:A2) (h:Hp):RS:=AI.rec (fun op=>yp d k r (op.run r h)) (fun s x=>stepT d k r (hE s (ev x r) h)) (fun f xs=>stepT d k r (aD p run f (gg xs r) h)) (fun x xs=>stepT d k r (jK p run (ev x r) (gg xs r) h)) (fun n x xs=>stepT d k r (aH p run n (ev x r) (gg xs r) h)) i
def gb (w:Bool) (x:AV):AV:=OL.rec x (fun l=>List.rec (.bool (Bool.not w)) (fun _ _ _=>.undef) l) x.qT
def jX (d:aL) (k:A2→Hp→RS) (r:A2) (h:Hp) (i:AI) (p:Pg) (run:gB) (w t:Bool):RS:=
 Bool.rec (k (bI d cm r) h) (i.exec p run d k r h) (eK t w)
def GI.exec (i:GI) (p:Pg) (run:gB) (k:A2→Hp→RS) (r:A2) (h:Hp):RS:=GI.rec (fun d i=>i.exec p run d k r h) (fun a b w d i=>AV.bE (gb w (aw a b r)) (jX d k r h i p run w) (.err 210)) i
def eV (p:Pg) (run:gB) (l:List GI):A2→Hp→RS:=bF (β:=A2→Hp→RS) (fun r h=>.nm r h) (fun i _ ih=>i.exec p run ih) l
def jY (op:ox) (r:A2) (v:AV) (l:List Hp):Nat→Bool:=bF (β:=Nat→Bool) (fun n=>Nat.rec true (fun _ _=>false) n)
 (fun h _ ih n=>Nat.rec true (fun n _=>RV.rec (fun v' _=>Bool.rec false (ih n) (same v v')) (fun _=>false) (op.run r h)) n) l
abbrev DK:=A2→Hp→Hp→List Hp→RS
def nh (d:aL) (k:DK) (r:A2) (g:Hp) (hs:List Hp) (v:RT):RS:=RT.rec (fun v h'=>k (bI d v r) h' h' (.cons g hs)) (fun n=>.err n) (fun _ _ _=>.err 213) v
def Gq (d:aL) (op:ox) (n:Nat) (k:DK) (r:A2) (h g:Hp) (hs:List Hp) (v:RV):RS:=RV.rec (fun v _=>Bool.rec (.err 211) (k (bI d v r) h g hs) (jY op r v hs n)) (fun n=>.err n) v
def Gr (d:aL) (k:DK) (r:A2) (g:Hp) (hs:List Hp) (v:RV):RS:=RV.rec (fun v h'=>k (bI d v r) h' g hs) (fun n=>.err n) v
def uM (b:Bk) (d:aL) (i:AI) (p:Pg) (run:gB) (k:DK) (r:A2) (h g:Hp) (hs:List Hp):RS:=AI.rec (fun op=>Bk.rec (nh d k r g hs (op.run r h).jT) (fun n=>Gq d op n k r h g hs (op.run r g)) (Gr d k r g hs (op.run r h)) b) (fun s x=>nh d k r g hs (hE s (ev x r) h)) (fun f xs=>nh d k r g hs (aD p run f (gg xs r) h)) (fun x xs=>nh d k r g hs (jK p run (ev x r) (gg xs r) h)) (fun n x xs=>nh d k r g hs (aH p run n (ev x r) (gg xs r) h)) i
def LP (b:Bk) (d:aL) (k:DK) (r:A2) (h g:Hp) (hs:List Hp):RS:=Bk.rec (k (bI d cm r) h h (.cons g hs)) (fun _=>k (bI d cm r) h g hs) (.err 214) b
def aic (b:Bk) (d:aL) (i:AI) (k:DK) (r:A2) (h g:Hp) (hs:List Hp) (p:Pg) (run:gB) (w t:Bool):RS:=
 Bool.rec (LP b d k r h g hs) (uM b d i p run k r h g hs) (eK t w)
def DI.exec (i:DI) (p:Pg) (run:gB) (k:DK) (r:A2) (h g:Hp) (hs:List Hp):RS:=DI.rec (fun b y=>GI.rec (fun d i=>uM b d i p run k r h g hs) (fun x y w d i=>AV.bE (gb w (aw x y r)) (aic b d i k r h g hs p run w) (.err 212)) y) i
def rq (p:Pg) (run:gB) (l:List DI):DK:=bF (β:=DK) (fun r h _ _=>.nm r h) (fun i _ ih=>i.exec p run ih) l
def cM:AC→Nat→Option AC
 | .seq a b,l=>match cM a l with
  | some c=>some (.seq c b)
  | none=>cM b l
 | .label l',l=>if Nat.beq l' l then some .skip else none
 | .ah _ x,l=>cM x l
 | _,_=>none
def RS.bind (x:RS) (kn:A2→Hp→RS) (ke:Nat→A2→Hp→RS) (kg:Nat→A2→Hp→RS):RS:=RS.elim kn ke kg (fun r h=>.ret r h) (fun n=>.err n) (fun n ih=>.ch n ih) x
def BE (a b:AC) (run:gB) (r:A2) (h:Hp):RS:=RS.bind (run a r h) (fun r h=>run b r h) (fun i r h=>.ex i r h) (fun l r h=>.go l r h)
def aid (c:AO) (a b:AC) (run:gB) (r:A2) (h:Hp):RS:=AV.bE (ev c r) (fun t=>Bool.rec (run b r h) (run a r h) t) (.err 213)
def qA (i:Nat) (a:AC) (run:gB) (r:A2) (h:Hp):RS:=RS.bind (run a r h) (fun r h=>.nm r h) (fun j r h=>Bool.rec (.ex j r h) (.nm r h) (Nat.beq j i)) (fun l r h=>.go l r h)
def wK (a:AC) (run:gB) (r:A2) (h:Hp):RS:=RS.bind (run a r h) (fun r h=>run (.loop a) r h) (fun i r h=>.ex i r h) (fun l r h=>.go l r h)
def yq (a c:AC) (run:gB) (r:A2) (h:Hp):RS:=RS.bind (run c r h) (fun r h=>.nm r h) (fun i r h=>.ex i r h)
 (fun l r h=>Option.rec (.go l r h) (fun c=>run (.sat a c) r h) (cM a l))
def aie (a:AC) (run:gB) (r:A2) (h:Hp):RS:=fR h (run a r (mark h))
def nj (n:Nat) (f:Nat→Bool):Bool:=jO true (fun m ih=>Bool.rec false ih (f m)) n
abbrev Ex:=Pg→gB→A2→Hp→RS
def xQ (q:Nat) (r:A2) (i:Nat):A1:=Bool.rec (A2.get (bO i) r) (Bool.rec (A2.get (bO (Nat.succ i)) r) .nil (Nat.beq i 15)) (Nat.ble q i)
def rr (q:Nat) (r:A2):A2:=.mk (xQ q r 0) (xQ q r 1) (xQ q r 2) (xQ q r 3) (xQ q r 4) (xQ q r 5) (xQ q r 6) (xQ q r 7) (xQ q r 8) (xQ q r 9) (xQ q r 10) (xQ q r 11) (xQ q r 12) (xQ q r 13) (xQ q r 14) (xQ q r 15)
def xR (q:Nat) (r:A2) (i:Nat):A1:=Bool.rec (A2.get (bO (Nat.pred i)) r) (Bool.rec (A2.get (bO i) r) .nil (Nat.beq i q)) (Nat.ble i q)
def zV (q:Nat) (r:A2):A2:=.mk (xR q r 0) (xR q r 1) (xR q r 2) (xR q r 3) (xR q r 4) (xR q r 5) (xR q r 6) (xR q r 7) (xR q r 8) (xR q r 9) (xR q r 10) (xR q r 11) (xR q r 12) (xR q r 13) (xR q r 14) (xR q r 15)
def aif (x y:RS):Bool:=RS.rec (fun r _=>RS.rec (fun r' _=>A2.le r r') (fun _ _ _=>false) (fun _ _ _=>false) (fun _ _=>false) (fun _=>false) (fun _ _ _=>false) y) (fun _ _ _=>false) (fun _ _ _=>false) (fun _ _=>false) (fun _=>false) (fun _ _ _=>false) x
def wL (b:Hp) (x y:RS):RS:=Bool.rec (qo b (.ch 2 (fun i=>Nat.rec x (fun _ _=>y) i))) (fR b (.ch 2 (fun i=>Nat.rec x (fun _ _=>y) i))) (aif x y)
def wM (q:Nat) (l:List GI) (p:Pg) (run:gB) (r:A2) (h:Hp):RS:=RS.bind (eV p run l (rr q r) h) (fun r h=>.nm (zV q r) h) (fun i r h=>.ex i r h) (fun l r h=>.go l r h)
def ru (c:AC):Ex:=AC.rec (motive:=fun _=>Ex) (fun _ _ r h=>.nm r h) (fun l p run r h=>eV p run l r h) (fun l p run r h=>rq p run l r h h .nil) (fun a b _ _=>fun _ run r h=>BE a b run r h) (fun c a b _ _=>fun _ run r h=>aid c a b run r h) (fun i a _=>fun _ run r h=>qA i a run r h) (fun a _=>fun _ run r h=>wK a run r h) (fun a _=>fun _ run r h=>yq a a run r h) (fun a c _ _=>fun _ run r h=>yq a c run r h) (fun i=>fun _ _ r h=>.ex i r h) (fun l=>fun _ _ r h=>.go l r h) (fun _=>fun _ _ r h=>.nm r h) (fun _ _ r h=>.ret r h) (fun a _=>fun _ run r h=>aie a run r h) (fun n=>fun _ _ _ _=>.err n) (fun f x _=>fun p run r h=>f (aD p run) (aH p run) (fun r h=>run x r h) r h) (fun a b _ _=>fun _ run r h=>wL h (run a r (mark h)) (run b r (mark h))) (fun q l p run r h=>wM q l p run r h) c
def exec (p:Pg) (n:Nat):gB:=Nat.rec (fun _ _ _=>.err 300) (fun _ ih c=>ru c p ih) n
def hp0:Hp:=.mk .nil (.mk .h0 .h0 .h0 .h0) .off
def rounds (k:Nat) (f:A2→Hp→RS):A2→Hp→RS:=jO (β:=A2→Hp→RS) (fun r h=>.nm r h) (fun _ ih r h=>RS.bind (f r h) ih (fun i r h=>.ex i r h) (fun l r h=>.go l r h)) k
end
end Go.Am
