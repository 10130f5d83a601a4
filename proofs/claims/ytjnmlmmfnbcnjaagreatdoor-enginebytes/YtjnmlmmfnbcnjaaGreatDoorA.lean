/- The abstract machine: its states, its operations, its run. Nothing is asked. -/
import GoSem.Core.Value
import GoSem.Core.Ast
import GoSem.Core.Float
import GoSem.Op.IntArith
import GoSem.Conv.StringToRunes
import GoSem.Core.Utf8
set_option linter.all false
namespace Go.Am
noncomputable section
inductive H where
 | h0 | h1 | h2 | h3 | h4 | h5 | h6 | h7 | h8 | h9 | ha | hb | hc | hd | he | hf
def H.succ (d : H) : H := H.rec H.h1 H.h2 H.h3 H.h4 H.h5 H.h6 H.h7 H.h8 H.h9 H.ha H.hb H.hc H.hd H.he H.hf H.h0 d
def H.last (d : H) : Bool := H.rec false false false false false false false false false false false false false false false true d
def H.nat (d : H) : Nat := H.rec 0 1 2 3 4 5 6 7 8 9 10 11 12 13 14 15 d
def dw (n : Nat) : H := (Nat.rec H.h0 (fun n1 _ => (Nat.rec H.h1 (fun n2 _ => (Nat.rec H.h2 (fun n3 _ => (Nat.rec H.h3 (fun n4 _ => (Nat.rec H.h4 (fun n5 _ => (Nat.rec H.h5 (fun n6 _ => (Nat.rec H.h6 (fun n7 _ => (Nat.rec H.h7 (fun n8 _ => (Nat.rec H.h8 (fun n9 _ => (Nat.rec H.h9 (fun n10 _ => (Nat.rec H.ha (fun n11 _ => (Nat.rec H.hb (fun n12 _ => (Nat.rec H.hc (fun n13 _ => (Nat.rec H.hd (fun n14 _ => (Nat.rec H.he (fun n15 _ => H.hf) n14)) n13)) n12)) n11)) n10)) n9)) n8)) n7)) n6)) n5)) n4)) n3)) n2)) n1)) n)
def dJ {α β : Type} (n : β) (c : α → List α → β → β) (l : List α) : β := List.rec n c l
inductive P4 where
 | mk (a b c d : H)
 | eN (b o : Nat)
inductive AV where
 | undef
 | bool (b : Bool)
 | int (k : IntKind) (n : Int)
 | str (l : List Nat)
 | nG (k : FloatKind) (n : Nat)
 | iq (k : FloatKind) (re im : Nat)
 | ptr (i : P4) (off : Nat)
 | fo
 | slice (i : P4) (off len cap : Nat)
 | fq (i : P4) (off len es : Nat)
 | ar
 | map (i : P4)
 | zj
 | fn (f : Nat) (cs : List AV)
 | EY
 | iface (t : Nat) (v : AV)
 | Br
 | agg (cs : List AV)
 | jj (vs : List AV)
 | sym (i : P4)
inductive KV where
 | mk (k v : AV) (born : Nat)
inductive A1 where
 | nil
 | mk (a0 a1 a2 a3 a4 a5 a6 a7 a8 a9 aa ab ac ad ae af : AV)
def A1.g0 (x : A1) : AV := A1.rec .undef (fun a0 a1 a2 a3 a4 a5 a6 a7 a8 a9 aa ab ac ad ae af => a0) x
def A1.g1 (x : A1) : AV := A1.rec .undef (fun a0 a1 a2 a3 a4 a5 a6 a7 a8 a9 aa ab ac ad ae af => a1) x
def A1.g2 (x : A1) : AV := A1.rec .undef (fun a0 a1 a2 a3 a4 a5 a6 a7 a8 a9 aa ab ac ad ae af => a2) x
def A1.g3 (x : A1) : AV := A1.rec .undef (fun a0 a1 a2 a3 a4 a5 a6 a7 a8 a9 aa ab ac ad ae af => a3) x
def A1.g4 (x : A1) : AV := A1.rec .undef (fun a0 a1 a2 a3 a4 a5 a6 a7 a8 a9 aa ab ac ad ae af => a4) x
def A1.g5 (x : A1) : AV := A1.rec .undef (fun a0 a1 a2 a3 a4 a5 a6 a7 a8 a9 aa ab ac ad ae af => a5) x
def A1.g6 (x : A1) : AV := A1.rec .undef (fun a0 a1 a2 a3 a4 a5 a6 a7 a8 a9 aa ab ac ad ae af => a6) x
def A1.g7 (x : A1) : AV := A1.rec .undef (fun a0 a1 a2 a3 a4 a5 a6 a7 a8 a9 aa ab ac ad ae af => a7) x
def A1.g8 (x : A1) : AV := A1.rec .undef (fun a0 a1 a2 a3 a4 a5 a6 a7 a8 a9 aa ab ac ad ae af => a8) x
def A1.g9 (x : A1) : AV := A1.rec .undef (fun a0 a1 a2 a3 a4 a5 a6 a7 a8 a9 aa ab ac ad ae af => a9) x
def A1.ga (x : A1) : AV := A1.rec .undef (fun a0 a1 a2 a3 a4 a5 a6 a7 a8 a9 aa ab ac ad ae af => aa) x
def A1.gb (x : A1) : AV := A1.rec .undef (fun a0 a1 a2 a3 a4 a5 a6 a7 a8 a9 aa ab ac ad ae af => ab) x
def A1.gc (x : A1) : AV := A1.rec .undef (fun a0 a1 a2 a3 a4 a5 a6 a7 a8 a9 aa ab ac ad ae af => ac) x
def A1.gd (x : A1) : AV := A1.rec .undef (fun a0 a1 a2 a3 a4 a5 a6 a7 a8 a9 aa ab ac ad ae af => ad) x
def A1.ge (x : A1) : AV := A1.rec .undef (fun a0 a1 a2 a3 a4 a5 a6 a7 a8 a9 aa ab ac ad ae af => ae) x
def A1.gf (x : A1) : AV := A1.rec .undef (fun a0 a1 a2 a3 a4 a5 a6 a7 a8 a9 aa ab ac ad ae af => af) x
def A1.get (d : H) : A1 → AV := H.rec (motive := fun _ => A1 → AV) A1.g0 A1.g1 A1.g2 A1.g3 A1.g4 A1.g5 A1.g6 A1.g7 A1.g8 A1.g9 A1.ga A1.gb A1.gc A1.gd A1.ge A1.gf d
def A1.s0 (v : AV) (x : A1) : A1 := A1.rec (motive := fun _ => AV → A1) (fun v => .mk v .undef .undef .undef .undef .undef .undef .undef .undef .undef .undef .undef .undef .undef .undef .undef) (fun a0 a1 a2 a3 a4 a5 a6 a7 a8 a9 aa ab ac ad ae af => fun v => .mk v a1 a2 a3 a4 a5 a6 a7 a8 a9 aa ab ac ad ae af) x v
def A1.s1 (v : AV) (x : A1) : A1 := A1.rec (motive := fun _ => AV → A1) (fun v => .mk .undef v .undef .undef .undef .undef .undef .undef .undef .undef .undef .undef .undef .undef .undef .undef) (fun a0 a1 a2 a3 a4 a5 a6 a7 a8 a9 aa ab ac ad ae af => fun v => .mk a0 v a2 a3 a4 a5 a6 a7 a8 a9 aa ab ac ad ae af) x v
def A1.s2 (v : AV) (x : A1) : A1 := A1.rec (motive := fun _ => AV → A1) (fun v => .mk .undef .undef v .undef .undef .undef .undef .undef .undef .undef .undef .undef .undef .undef .undef .undef) (fun a0 a1 a2 a3 a4 a5 a6 a7 a8 a9 aa ab ac ad ae af => fun v => .mk a0 a1 v a3 a4 a5 a6 a7 a8 a9 aa ab ac ad ae af) x v
def A1.s3 (v : AV) (x : A1) : A1 := A1.rec (motive := fun _ => AV → A1) (fun v => .mk .undef .undef .undef v .undef .undef .undef .undef .undef .undef .undef .undef .undef .undef .undef .undef) (fun a0 a1 a2 a3 a4 a5 a6 a7 a8 a9 aa ab ac ad ae af => fun v => .mk a0 a1 a2 v a4 a5 a6 a7 a8 a9 aa ab ac ad ae af) x v
def A1.s4 (v : AV) (x : A1) : A1 := A1.rec (motive := fun _ => AV → A1) (fun v => .mk .undef .undef .undef .undef v .undef .undef .undef .undef .undef .undef .undef .undef .undef .undef .undef) (fun a0 a1 a2 a3 a4 a5 a6 a7 a8 a9 aa ab ac ad ae af => fun v => .mk a0 a1 a2 a3 v a5 a6 a7 a8 a9 aa ab ac ad ae af) x v
def A1.s5 (v : AV) (x : A1) : A1 := A1.rec (motive := fun _ => AV → A1) (fun v => .mk .undef .undef .undef .undef .undef v .undef .undef .undef .undef .undef .undef .undef .undef .undef .undef) (fun a0 a1 a2 a3 a4 a5 a6 a7 a8 a9 aa ab ac ad ae af => fun v => .mk a0 a1 a2 a3 a4 v a6 a7 a8 a9 aa ab ac ad ae af) x v
def A1.s6 (v : AV) (x : A1) : A1 := A1.rec (motive := fun _ => AV → A1) (fun v => .mk .undef .undef .undef .undef .undef .undef v .undef .undef .undef .undef .undef .undef .undef .undef .undef) (fun a0 a1 a2 a3 a4 a5 a6 a7 a8 a9 aa ab ac ad ae af => fun v => .mk a0 a1 a2 a3 a4 a5 v a7 a8 a9 aa ab ac ad ae af) x v
def A1.s7 (v : AV) (x : A1) : A1 := A1.rec (motive := fun _ => AV → A1) (fun v => .mk .undef .undef .undef .undef .undef .undef .undef v .undef .undef .undef .undef .undef .undef .undef .undef) (fun a0 a1 a2 a3 a4 a5 a6 a7 a8 a9 aa ab ac ad ae af => fun v => .mk a0 a1 a2 a3 a4 a5 a6 v a8 a9 aa ab ac ad ae af) x v
def A1.s8 (v : AV) (x : A1) : A1 := A1.rec (motive := fun _ => AV → A1) (fun v => .mk .undef .undef .undef .undef .undef .undef .undef .undef v .undef .undef .undef .undef .undef .undef .undef) (fun a0 a1 a2 a3 a4 a5 a6 a7 a8 a9 aa ab ac ad ae af => fun v => .mk a0 a1 a2 a3 a4 a5 a6 a7 v a9 aa ab ac ad ae af) x v
def A1.s9 (v : AV) (x : A1) : A1 := A1.rec (motive := fun _ => AV → A1) (fun v => .mk .undef .undef .undef .undef .undef .undef .undef .undef .undef v .undef .undef .undef .undef .undef .undef) (fun a0 a1 a2 a3 a4 a5 a6 a7 a8 a9 aa ab ac ad ae af => fun v => .mk a0 a1 a2 a3 a4 a5 a6 a7 a8 v aa ab ac ad ae af) x v
def A1.sa (v : AV) (x : A1) : A1 := A1.rec (motive := fun _ => AV → A1) (fun v => .mk .undef .undef .undef .undef .undef .undef .undef .undef .undef .undef v .undef .undef .undef .undef .undef) (fun a0 a1 a2 a3 a4 a5 a6 a7 a8 a9 aa ab ac ad ae af => fun v => .mk a0 a1 a2 a3 a4 a5 a6 a7 a8 a9 v ab ac ad ae af) x v
def A1.sb (v : AV) (x : A1) : A1 := A1.rec (motive := fun _ => AV → A1) (fun v => .mk .undef .undef .undef .undef .undef .undef .undef .undef .undef .undef .undef v .undef .undef .undef .undef) (fun a0 a1 a2 a3 a4 a5 a6 a7 a8 a9 aa ab ac ad ae af => fun v => .mk a0 a1 a2 a3 a4 a5 a6 a7 a8 a9 aa v ac ad ae af) x v
def A1.sc (v : AV) (x : A1) : A1 := A1.rec (motive := fun _ => AV → A1) (fun v => .mk .undef .undef .undef .undef .undef .undef .undef .undef .undef .undef .undef .undef v .undef .undef .undef) (fun a0 a1 a2 a3 a4 a5 a6 a7 a8 a9 aa ab ac ad ae af => fun v => .mk a0 a1 a2 a3 a4 a5 a6 a7 a8 a9 aa ab v ad ae af) x v
def A1.sd (v : AV) (x : A1) : A1 := A1.rec (motive := fun _ => AV → A1) (fun v => .mk .undef .undef .undef .undef .undef .undef .undef .undef .undef .undef .undef .undef .undef v .undef .undef) (fun a0 a1 a2 a3 a4 a5 a6 a7 a8 a9 aa ab ac ad ae af => fun v => .mk a0 a1 a2 a3 a4 a5 a6 a7 a8 a9 aa ab ac v ae af) x v
def A1.se (v : AV) (x : A1) : A1 := A1.rec (motive := fun _ => AV → A1) (fun v => .mk .undef .undef .undef .undef .undef .undef .undef .undef .undef .undef .undef .undef .undef .undef v .undef) (fun a0 a1 a2 a3 a4 a5 a6 a7 a8 a9 aa ab ac ad ae af => fun v => .mk a0 a1 a2 a3 a4 a5 a6 a7 a8 a9 aa ab ac ad v af) x v
def A1.sf (v : AV) (x : A1) : A1 := A1.rec (motive := fun _ => AV → A1) (fun v => .mk .undef .undef .undef .undef .undef .undef .undef .undef .undef .undef .undef .undef .undef .undef .undef v) (fun a0 a1 a2 a3 a4 a5 a6 a7 a8 a9 aa ab ac ad ae af => fun v => .mk a0 a1 a2 a3 a4 a5 a6 a7 a8 a9 aa ab ac ad ae v) x v
def A1.set (d : H) : AV → A1 → A1 := H.rec (motive := fun _ => AV → A1 → A1) A1.s0 A1.s1 A1.s2 A1.s3 A1.s4 A1.s5 A1.s6 A1.s7 A1.s8 A1.s9 A1.sa A1.sb A1.sc A1.sd A1.se A1.sf d
inductive A2 where
 | nil
 | mk (a0 a1 a2 a3 a4 a5 a6 a7 a8 a9 aa ab ac ad ae af : A1)
def A2.g0 (x : A2) : A1 := A2.rec .nil (fun a0 a1 a2 a3 a4 a5 a6 a7 a8 a9 aa ab ac ad ae af => a0) x
def A2.g1 (x : A2) : A1 := A2.rec .nil (fun a0 a1 a2 a3 a4 a5 a6 a7 a8 a9 aa ab ac ad ae af => a1) x
def A2.g2 (x : A2) : A1 := A2.rec .nil (fun a0 a1 a2 a3 a4 a5 a6 a7 a8 a9 aa ab ac ad ae af => a2) x
def A2.g3 (x : A2) : A1 := A2.rec .nil (fun a0 a1 a2 a3 a4 a5 a6 a7 a8 a9 aa ab ac ad ae af => a3) x
def A2.g4 (x : A2) : A1 := A2.rec .nil (fun a0 a1 a2 a3 a4 a5 a6 a7 a8 a9 aa ab ac ad ae af => a4) x
def A2.g5 (x : A2) : A1 := A2.rec .nil (fun a0 a1 a2 a3 a4 a5 a6 a7 a8 a9 aa ab ac ad ae af => a5) x
def A2.g6 (x : A2) : A1 := A2.rec .nil (fun a0 a1 a2 a3 a4 a5 a6 a7 a8 a9 aa ab ac ad ae af => a6) x
def A2.g7 (x : A2) : A1 := A2.rec .nil (fun a0 a1 a2 a3 a4 a5 a6 a7 a8 a9 aa ab ac ad ae af => a7) x
def A2.g8 (x : A2) : A1 := A2.rec .nil (fun a0 a1 a2 a3 a4 a5 a6 a7 a8 a9 aa ab ac ad ae af => a8) x
def A2.g9 (x : A2) : A1 := A2.rec .nil (fun a0 a1 a2 a3 a4 a5 a6 a7 a8 a9 aa ab ac ad ae af => a9) x
def A2.ga (x : A2) : A1 := A2.rec .nil (fun a0 a1 a2 a3 a4 a5 a6 a7 a8 a9 aa ab ac ad ae af => aa) x
def A2.gb (x : A2) : A1 := A2.rec .nil (fun a0 a1 a2 a3 a4 a5 a6 a7 a8 a9 aa ab ac ad ae af => ab) x
def A2.gc (x : A2) : A1 := A2.rec .nil (fun a0 a1 a2 a3 a4 a5 a6 a7 a8 a9 aa ab ac ad ae af => ac) x
def A2.gd (x : A2) : A1 := A2.rec .nil (fun a0 a1 a2 a3 a4 a5 a6 a7 a8 a9 aa ab ac ad ae af => ad) x
def A2.ge (x : A2) : A1 := A2.rec .nil (fun a0 a1 a2 a3 a4 a5 a6 a7 a8 a9 aa ab ac ad ae af => ae) x
def A2.gf (x : A2) : A1 := A2.rec .nil (fun a0 a1 a2 a3 a4 a5 a6 a7 a8 a9 aa ab ac ad ae af => af) x
def A2.get (d : H) : A2 → A1 := H.rec (motive := fun _ => A2 → A1) A2.g0 A2.g1 A2.g2 A2.g3 A2.g4 A2.g5 A2.g6 A2.g7 A2.g8 A2.g9 A2.ga A2.gb A2.gc A2.gd A2.ge A2.gf d
def A2.s0 (v : A1) (x : A2) : A2 := A2.rec (motive := fun _ => A1 → A2) (fun v => .mk v .nil .nil .nil .nil .nil .nil .nil .nil .nil .nil .nil .nil .nil .nil .nil) (fun a0 a1 a2 a3 a4 a5 a6 a7 a8 a9 aa ab ac ad ae af => fun v => .mk v a1 a2 a3 a4 a5 a6 a7 a8 a9 aa ab ac ad ae af) x v
def A2.s1 (v : A1) (x : A2) : A2 := A2.rec (motive := fun _ => A1 → A2) (fun v => .mk .nil v .nil .nil .nil .nil .nil .nil .nil .nil .nil .nil .nil .nil .nil .nil) (fun a0 a1 a2 a3 a4 a5 a6 a7 a8 a9 aa ab ac ad ae af => fun v => .mk a0 v a2 a3 a4 a5 a6 a7 a8 a9 aa ab ac ad ae af) x v
def A2.s2 (v : A1) (x : A2) : A2 := A2.rec (motive := fun _ => A1 → A2) (fun v => .mk .nil .nil v .nil .nil .nil .nil .nil .nil .nil .nil .nil .nil .nil .nil .nil) (fun a0 a1 a2 a3 a4 a5 a6 a7 a8 a9 aa ab ac ad ae af => fun v => .mk a0 a1 v a3 a4 a5 a6 a7 a8 a9 aa ab ac ad ae af) x v
def A2.s3 (v : A1) (x : A2) : A2 := A2.rec (motive := fun _ => A1 → A2) (fun v => .mk .nil .nil .nil v .nil .nil .nil .nil .nil .nil .nil .nil .nil .nil .nil .nil) (fun a0 a1 a2 a3 a4 a5 a6 a7 a8 a9 aa ab ac ad ae af => fun v => .mk a0 a1 a2 v a4 a5 a6 a7 a8 a9 aa ab ac ad ae af) x v
def A2.s4 (v : A1) (x : A2) : A2 := A2.rec (motive := fun _ => A1 → A2) (fun v => .mk .nil .nil .nil .nil v .nil .nil .nil .nil .nil .nil .nil .nil .nil .nil .nil) (fun a0 a1 a2 a3 a4 a5 a6 a7 a8 a9 aa ab ac ad ae af => fun v => .mk a0 a1 a2 a3 v a5 a6 a7 a8 a9 aa ab ac ad ae af) x v
def A2.s5 (v : A1) (x : A2) : A2 := A2.rec (motive := fun _ => A1 → A2) (fun v => .mk .nil .nil .nil .nil .nil v .nil .nil .nil .nil .nil .nil .nil .nil .nil .nil) (fun a0 a1 a2 a3 a4 a5 a6 a7 a8 a9 aa ab ac ad ae af => fun v => .mk a0 a1 a2 a3 a4 v a6 a7 a8 a9 aa ab ac ad ae af) x v
def A2.s6 (v : A1) (x : A2) : A2 := A2.rec (motive := fun _ => A1 → A2) (fun v => .mk .nil .nil .nil .nil .nil .nil v .nil .nil .nil .nil .nil .nil .nil .nil .nil) (fun a0 a1 a2 a3 a4 a5 a6 a7 a8 a9 aa ab ac ad ae af => fun v => .mk a0 a1 a2 a3 a4 a5 v a7 a8 a9 aa ab ac ad ae af) x v
def A2.s7 (v : A1) (x : A2) : A2 := A2.rec (motive := fun _ => A1 → A2) (fun v => .mk .nil .nil .nil .nil .nil .nil .nil v .nil .nil .nil .nil .nil .nil .nil .nil) (fun a0 a1 a2 a3 a4 a5 a6 a7 a8 a9 aa ab ac ad ae af => fun v => .mk a0 a1 a2 a3 a4 a5 a6 v a8 a9 aa ab ac ad ae af) x v
def A2.s8 (v : A1) (x : A2) : A2 := A2.rec (motive := fun _ => A1 → A2) (fun v => .mk .nil .nil .nil .nil .nil .nil .nil .nil v .nil .nil .nil .nil .nil .nil .nil) (fun a0 a1 a2 a3 a4 a5 a6 a7 a8 a9 aa ab ac ad ae af => fun v => .mk a0 a1 a2 a3 a4 a5 a6 a7 v a9 aa ab ac ad ae af) x v
def A2.s9 (v : A1) (x : A2) : A2 := A2.rec (motive := fun _ => A1 → A2) (fun v => .mk .nil .nil .nil .nil .nil .nil .nil .nil .nil v .nil .nil .nil .nil .nil .nil) (fun a0 a1 a2 a3 a4 a5 a6 a7 a8 a9 aa ab ac ad ae af => fun v => .mk a0 a1 a2 a3 a4 a5 a6 a7 a8 v aa ab ac ad ae af) x v
def A2.sa (v : A1) (x : A2) : A2 := A2.rec (motive := fun _ => A1 → A2) (fun v => .mk .nil .nil .nil .nil .nil .nil .nil .nil .nil .nil v .nil .nil .nil .nil .nil) (fun a0 a1 a2 a3 a4 a5 a6 a7 a8 a9 aa ab ac ad ae af => fun v => .mk a0 a1 a2 a3 a4 a5 a6 a7 a8 a9 v ab ac ad ae af) x v
def A2.sb (v : A1) (x : A2) : A2 := A2.rec (motive := fun _ => A1 → A2) (fun v => .mk .nil .nil .nil .nil .nil .nil .nil .nil .nil .nil .nil v .nil .nil .nil .nil) (fun a0 a1 a2 a3 a4 a5 a6 a7 a8 a9 aa ab ac ad ae af => fun v => .mk a0 a1 a2 a3 a4 a5 a6 a7 a8 a9 aa v ac ad ae af) x v
def A2.sc (v : A1) (x : A2) : A2 := A2.rec (motive := fun _ => A1 → A2) (fun v => .mk .nil .nil .nil .nil .nil .nil .nil .nil .nil .nil .nil .nil v .nil .nil .nil) (fun a0 a1 a2 a3 a4 a5 a6 a7 a8 a9 aa ab ac ad ae af => fun v => .mk a0 a1 a2 a3 a4 a5 a6 a7 a8 a9 aa ab v ad ae af) x v
def A2.sd (v : A1) (x : A2) : A2 := A2.rec (motive := fun _ => A1 → A2) (fun v => .mk .nil .nil .nil .nil .nil .nil .nil .nil .nil .nil .nil .nil .nil v .nil .nil) (fun a0 a1 a2 a3 a4 a5 a6 a7 a8 a9 aa ab ac ad ae af => fun v => .mk a0 a1 a2 a3 a4 a5 a6 a7 a8 a9 aa ab ac v ae af) x v
def A2.se (v : A1) (x : A2) : A2 := A2.rec (motive := fun _ => A1 → A2) (fun v => .mk .nil .nil .nil .nil .nil .nil .nil .nil .nil .nil .nil .nil .nil .nil v .nil) (fun a0 a1 a2 a3 a4 a5 a6 a7 a8 a9 aa ab ac ad ae af => fun v => .mk a0 a1 a2 a3 a4 a5 a6 a7 a8 a9 aa ab ac ad v af) x v
def A2.sf (v : A1) (x : A2) : A2 := A2.rec (motive := fun _ => A1 → A2) (fun v => .mk .nil .nil .nil .nil .nil .nil .nil .nil .nil .nil .nil .nil .nil .nil .nil v) (fun a0 a1 a2 a3 a4 a5 a6 a7 a8 a9 aa ab ac ad ae af => fun v => .mk a0 a1 a2 a3 a4 a5 a6 a7 a8 a9 aa ab ac ad ae v) x v
def A2.set (d : H) : A1 → A2 → A2 := H.rec (motive := fun _ => A1 → A2 → A2) A2.s0 A2.s1 A2.s2 A2.s3 A2.s4 A2.s5 A2.s6 A2.s7 A2.s8 A2.s9 A2.sa A2.sb A2.sc A2.sd A2.se A2.sf d
inductive A3 where
 | nil
 | mk (a0 a1 a2 a3 a4 a5 a6 a7 a8 a9 aa ab ac ad ae af : A2)
def A3.g0 (x : A3) : A2 := A3.rec .nil (fun a0 a1 a2 a3 a4 a5 a6 a7 a8 a9 aa ab ac ad ae af => a0) x
def A3.g1 (x : A3) : A2 := A3.rec .nil (fun a0 a1 a2 a3 a4 a5 a6 a7 a8 a9 aa ab ac ad ae af => a1) x
def A3.g2 (x : A3) : A2 := A3.rec .nil (fun a0 a1 a2 a3 a4 a5 a6 a7 a8 a9 aa ab ac ad ae af => a2) x
def A3.g3 (x : A3) : A2 := A3.rec .nil (fun a0 a1 a2 a3 a4 a5 a6 a7 a8 a9 aa ab ac ad ae af => a3) x
def A3.g4 (x : A3) : A2 := A3.rec .nil (fun a0 a1 a2 a3 a4 a5 a6 a7 a8 a9 aa ab ac ad ae af => a4) x
def A3.g5 (x : A3) : A2 := A3.rec .nil (fun a0 a1 a2 a3 a4 a5 a6 a7 a8 a9 aa ab ac ad ae af => a5) x
def A3.g6 (x : A3) : A2 := A3.rec .nil (fun a0 a1 a2 a3 a4 a5 a6 a7 a8 a9 aa ab ac ad ae af => a6) x
def A3.g7 (x : A3) : A2 := A3.rec .nil (fun a0 a1 a2 a3 a4 a5 a6 a7 a8 a9 aa ab ac ad ae af => a7) x
def A3.g8 (x : A3) : A2 := A3.rec .nil (fun a0 a1 a2 a3 a4 a5 a6 a7 a8 a9 aa ab ac ad ae af => a8) x
def A3.g9 (x : A3) : A2 := A3.rec .nil (fun a0 a1 a2 a3 a4 a5 a6 a7 a8 a9 aa ab ac ad ae af => a9) x
def A3.ga (x : A3) : A2 := A3.rec .nil (fun a0 a1 a2 a3 a4 a5 a6 a7 a8 a9 aa ab ac ad ae af => aa) x
def A3.gb (x : A3) : A2 := A3.rec .nil (fun a0 a1 a2 a3 a4 a5 a6 a7 a8 a9 aa ab ac ad ae af => ab) x
def A3.gc (x : A3) : A2 := A3.rec .nil (fun a0 a1 a2 a3 a4 a5 a6 a7 a8 a9 aa ab ac ad ae af => ac) x
def A3.gd (x : A3) : A2 := A3.rec .nil (fun a0 a1 a2 a3 a4 a5 a6 a7 a8 a9 aa ab ac ad ae af => ad) x
def A3.ge (x : A3) : A2 := A3.rec .nil (fun a0 a1 a2 a3 a4 a5 a6 a7 a8 a9 aa ab ac ad ae af => ae) x
def A3.gf (x : A3) : A2 := A3.rec .nil (fun a0 a1 a2 a3 a4 a5 a6 a7 a8 a9 aa ab ac ad ae af => af) x
def A3.get (d : H) : A3 → A2 := H.rec (motive := fun _ => A3 → A2) A3.g0 A3.g1 A3.g2 A3.g3 A3.g4 A3.g5 A3.g6 A3.g7 A3.g8 A3.g9 A3.ga A3.gb A3.gc A3.gd A3.ge A3.gf d
def A3.s0 (v : A2) (x : A3) : A3 := A3.rec (motive := fun _ => A2 → A3) (fun v => .mk v .nil .nil .nil .nil .nil .nil .nil .nil .nil .nil .nil .nil .nil .nil .nil) (fun a0 a1 a2 a3 a4 a5 a6 a7 a8 a9 aa ab ac ad ae af => fun v => .mk v a1 a2 a3 a4 a5 a6 a7 a8 a9 aa ab ac ad ae af) x v
def A3.s1 (v : A2) (x : A3) : A3 := A3.rec (motive := fun _ => A2 → A3) (fun v => .mk .nil v .nil .nil .nil .nil .nil .nil .nil .nil .nil .nil .nil .nil .nil .nil) (fun a0 a1 a2 a3 a4 a5 a6 a7 a8 a9 aa ab ac ad ae af => fun v => .mk a0 v a2 a3 a4 a5 a6 a7 a8 a9 aa ab ac ad ae af) x v
def A3.s2 (v : A2) (x : A3) : A3 := A3.rec (motive := fun _ => A2 → A3) (fun v => .mk .nil .nil v .nil .nil .nil .nil .nil .nil .nil .nil .nil .nil .nil .nil .nil) (fun a0 a1 a2 a3 a4 a5 a6 a7 a8 a9 aa ab ac ad ae af => fun v => .mk a0 a1 v a3 a4 a5 a6 a7 a8 a9 aa ab ac ad ae af) x v
def A3.s3 (v : A2) (x : A3) : A3 := A3.rec (motive := fun _ => A2 → A3) (fun v => .mk .nil .nil .nil v .nil .nil .nil .nil .nil .nil .nil .nil .nil .nil .nil .nil) (fun a0 a1 a2 a3 a4 a5 a6 a7 a8 a9 aa ab ac ad ae af => fun v => .mk a0 a1 a2 v a4 a5 a6 a7 a8 a9 aa ab ac ad ae af) x v
def A3.s4 (v : A2) (x : A3) : A3 := A3.rec (motive := fun _ => A2 → A3) (fun v => .mk .nil .nil .nil .nil v .nil .nil .nil .nil .nil .nil .nil .nil .nil .nil .nil) (fun a0 a1 a2 a3 a4 a5 a6 a7 a8 a9 aa ab ac ad ae af => fun v => .mk a0 a1 a2 a3 v a5 a6 a7 a8 a9 aa ab ac ad ae af) x v
def A3.s5 (v : A2) (x : A3) : A3 := A3.rec (motive := fun _ => A2 → A3) (fun v => .mk .nil .nil .nil .nil .nil v .nil .nil .nil .nil .nil .nil .nil .nil .nil .nil) (fun a0 a1 a2 a3 a4 a5 a6 a7 a8 a9 aa ab ac ad ae af => fun v => .mk a0 a1 a2 a3 a4 v a6 a7 a8 a9 aa ab ac ad ae af) x v
def A3.s6 (v : A2) (x : A3) : A3 := A3.rec (motive := fun _ => A2 → A3) (fun v => .mk .nil .nil .nil .nil .nil .nil v .nil .nil .nil .nil .nil .nil .nil .nil .nil) (fun a0 a1 a2 a3 a4 a5 a6 a7 a8 a9 aa ab ac ad ae af => fun v => .mk a0 a1 a2 a3 a4 a5 v a7 a8 a9 aa ab ac ad ae af) x v
def A3.s7 (v : A2) (x : A3) : A3 := A3.rec (motive := fun _ => A2 → A3) (fun v => .mk .nil .nil .nil .nil .nil .nil .nil v .nil .nil .nil .nil .nil .nil .nil .nil) (fun a0 a1 a2 a3 a4 a5 a6 a7 a8 a9 aa ab ac ad ae af => fun v => .mk a0 a1 a2 a3 a4 a5 a6 v a8 a9 aa ab ac ad ae af) x v
def A3.s8 (v : A2) (x : A3) : A3 := A3.rec (motive := fun _ => A2 → A3) (fun v => .mk .nil .nil .nil .nil .nil .nil .nil .nil v .nil .nil .nil .nil .nil .nil .nil) (fun a0 a1 a2 a3 a4 a5 a6 a7 a8 a9 aa ab ac ad ae af => fun v => .mk a0 a1 a2 a3 a4 a5 a6 a7 v a9 aa ab ac ad ae af) x v
def A3.s9 (v : A2) (x : A3) : A3 := A3.rec (motive := fun _ => A2 → A3) (fun v => .mk .nil .nil .nil .nil .nil .nil .nil .nil .nil v .nil .nil .nil .nil .nil .nil) (fun a0 a1 a2 a3 a4 a5 a6 a7 a8 a9 aa ab ac ad ae af => fun v => .mk a0 a1 a2 a3 a4 a5 a6 a7 a8 v aa ab ac ad ae af) x v
def A3.sa (v : A2) (x : A3) : A3 := A3.rec (motive := fun _ => A2 → A3) (fun v => .mk .nil .nil .nil .nil .nil .nil .nil .nil .nil .nil v .nil .nil .nil .nil .nil) (fun a0 a1 a2 a3 a4 a5 a6 a7 a8 a9 aa ab ac ad ae af => fun v => .mk a0 a1 a2 a3 a4 a5 a6 a7 a8 a9 v ab ac ad ae af) x v
def A3.sb (v : A2) (x : A3) : A3 := A3.rec (motive := fun _ => A2 → A3) (fun v => .mk .nil .nil .nil .nil .nil .nil .nil .nil .nil .nil .nil v .nil .nil .nil .nil) (fun a0 a1 a2 a3 a4 a5 a6 a7 a8 a9 aa ab ac ad ae af => fun v => .mk a0 a1 a2 a3 a4 a5 a6 a7 a8 a9 aa v ac ad ae af) x v
def A3.sc (v : A2) (x : A3) : A3 := A3.rec (motive := fun _ => A2 → A3) (fun v => .mk .nil .nil .nil .nil .nil .nil .nil .nil .nil .nil .nil .nil v .nil .nil .nil) (fun a0 a1 a2 a3 a4 a5 a6 a7 a8 a9 aa ab ac ad ae af => fun v => .mk a0 a1 a2 a3 a4 a5 a6 a7 a8 a9 aa ab v ad ae af) x v
def A3.sd (v : A2) (x : A3) : A3 := A3.rec (motive := fun _ => A2 → A3) (fun v => .mk .nil .nil .nil .nil .nil .nil .nil .nil .nil .nil .nil .nil .nil v .nil .nil) (fun a0 a1 a2 a3 a4 a5 a6 a7 a8 a9 aa ab ac ad ae af => fun v => .mk a0 a1 a2 a3 a4 a5 a6 a7 a8 a9 aa ab ac v ae af) x v
def A3.se (v : A2) (x : A3) : A3 := A3.rec (motive := fun _ => A2 → A3) (fun v => .mk .nil .nil .nil .nil .nil .nil .nil .nil .nil .nil .nil .nil .nil .nil v .nil) (fun a0 a1 a2 a3 a4 a5 a6 a7 a8 a9 aa ab ac ad ae af => fun v => .mk a0 a1 a2 a3 a4 a5 a6 a7 a8 a9 aa ab ac ad v af) x v
def A3.sf (v : A2) (x : A3) : A3 := A3.rec (motive := fun _ => A2 → A3) (fun v => .mk .nil .nil .nil .nil .nil .nil .nil .nil .nil .nil .nil .nil .nil .nil .nil v) (fun a0 a1 a2 a3 a4 a5 a6 a7 a8 a9 aa ab ac ad ae af => fun v => .mk a0 a1 a2 a3 a4 a5 a6 a7 a8 a9 aa ab ac ad ae v) x v
def A3.set (d : H) : A2 → A3 → A3 := H.rec (motive := fun _ => A2 → A3 → A3) A3.s0 A3.s1 A3.s2 A3.s3 A3.s4 A3.s5 A3.s6 A3.s7 A3.s8 A3.s9 A3.sa A3.sb A3.sc A3.sd A3.se A3.sf d
inductive A4 where
 | nil
 | mk (a0 a1 a2 a3 a4 a5 a6 a7 a8 a9 aa ab ac ad ae af : A3)
def A4.g0 (x : A4) : A3 := A4.rec .nil (fun a0 a1 a2 a3 a4 a5 a6 a7 a8 a9 aa ab ac ad ae af => a0) x
def A4.g1 (x : A4) : A3 := A4.rec .nil (fun a0 a1 a2 a3 a4 a5 a6 a7 a8 a9 aa ab ac ad ae af => a1) x
def A4.g2 (x : A4) : A3 := A4.rec .nil (fun a0 a1 a2 a3 a4 a5 a6 a7 a8 a9 aa ab ac ad ae af => a2) x
def A4.g3 (x : A4) : A3 := A4.rec .nil (fun a0 a1 a2 a3 a4 a5 a6 a7 a8 a9 aa ab ac ad ae af => a3) x
def A4.g4 (x : A4) : A3 := A4.rec .nil (fun a0 a1 a2 a3 a4 a5 a6 a7 a8 a9 aa ab ac ad ae af => a4) x
def A4.g5 (x : A4) : A3 := A4.rec .nil (fun a0 a1 a2 a3 a4 a5 a6 a7 a8 a9 aa ab ac ad ae af => a5) x
def A4.g6 (x : A4) : A3 := A4.rec .nil (fun a0 a1 a2 a3 a4 a5 a6 a7 a8 a9 aa ab ac ad ae af => a6) x
def A4.g7 (x : A4) : A3 := A4.rec .nil (fun a0 a1 a2 a3 a4 a5 a6 a7 a8 a9 aa ab ac ad ae af => a7) x
def A4.g8 (x : A4) : A3 := A4.rec .nil (fun a0 a1 a2 a3 a4 a5 a6 a7 a8 a9 aa ab ac ad ae af => a8) x
def A4.g9 (x : A4) : A3 := A4.rec .nil (fun a0 a1 a2 a3 a4 a5 a6 a7 a8 a9 aa ab ac ad ae af => a9) x
def A4.ga (x : A4) : A3 := A4.rec .nil (fun a0 a1 a2 a3 a4 a5 a6 a7 a8 a9 aa ab ac ad ae af => aa) x
def A4.gb (x : A4) : A3 := A4.rec .nil (fun a0 a1 a2 a3 a4 a5 a6 a7 a8 a9 aa ab ac ad ae af => ab) x
def A4.gc (x : A4) : A3 := A4.rec .nil (fun a0 a1 a2 a3 a4 a5 a6 a7 a8 a9 aa ab ac ad ae af => ac) x
def A4.gd (x : A4) : A3 := A4.rec .nil (fun a0 a1 a2 a3 a4 a5 a6 a7 a8 a9 aa ab ac ad ae af => ad) x
def A4.ge (x : A4) : A3 := A4.rec .nil (fun a0 a1 a2 a3 a4 a5 a6 a7 a8 a9 aa ab ac ad ae af => ae) x
def A4.gf (x : A4) : A3 := A4.rec .nil (fun a0 a1 a2 a3 a4 a5 a6 a7 a8 a9 aa ab ac ad ae af => af) x
def A4.get (d : H) : A4 → A3 := H.rec (motive := fun _ => A4 → A3) A4.g0 A4.g1 A4.g2 A4.g3 A4.g4 A4.g5 A4.g6 A4.g7 A4.g8 A4.g9 A4.ga A4.gb A4.gc A4.gd A4.ge A4.gf d
def A4.s0 (v : A3) (x : A4) : A4 := A4.rec (motive := fun _ => A3 → A4) (fun v => .mk v .nil .nil .nil .nil .nil .nil .nil .nil .nil .nil .nil .nil .nil .nil .nil) (fun a0 a1 a2 a3 a4 a5 a6 a7 a8 a9 aa ab ac ad ae af => fun v => .mk v a1 a2 a3 a4 a5 a6 a7 a8 a9 aa ab ac ad ae af) x v
def A4.s1 (v : A3) (x : A4) : A4 := A4.rec (motive := fun _ => A3 → A4) (fun v => .mk .nil v .nil .nil .nil .nil .nil .nil .nil .nil .nil .nil .nil .nil .nil .nil) (fun a0 a1 a2 a3 a4 a5 a6 a7 a8 a9 aa ab ac ad ae af => fun v => .mk a0 v a2 a3 a4 a5 a6 a7 a8 a9 aa ab ac ad ae af) x v
def A4.s2 (v : A3) (x : A4) : A4 := A4.rec (motive := fun _ => A3 → A4) (fun v => .mk .nil .nil v .nil .nil .nil .nil .nil .nil .nil .nil .nil .nil .nil .nil .nil) (fun a0 a1 a2 a3 a4 a5 a6 a7 a8 a9 aa ab ac ad ae af => fun v => .mk a0 a1 v a3 a4 a5 a6 a7 a8 a9 aa ab ac ad ae af) x v
def A4.s3 (v : A3) (x : A4) : A4 := A4.rec (motive := fun _ => A3 → A4) (fun v => .mk .nil .nil .nil v .nil .nil .nil .nil .nil .nil .nil .nil .nil .nil .nil .nil) (fun a0 a1 a2 a3 a4 a5 a6 a7 a8 a9 aa ab ac ad ae af => fun v => .mk a0 a1 a2 v a4 a5 a6 a7 a8 a9 aa ab ac ad ae af) x v
def A4.s4 (v : A3) (x : A4) : A4 := A4.rec (motive := fun _ => A3 → A4) (fun v => .mk .nil .nil .nil .nil v .nil .nil .nil .nil .nil .nil .nil .nil .nil .nil .nil) (fun a0 a1 a2 a3 a4 a5 a6 a7 a8 a9 aa ab ac ad ae af => fun v => .mk a0 a1 a2 a3 v a5 a6 a7 a8 a9 aa ab ac ad ae af) x v
def A4.s5 (v : A3) (x : A4) : A4 := A4.rec (motive := fun _ => A3 → A4) (fun v => .mk .nil .nil .nil .nil .nil v .nil .nil .nil .nil .nil .nil .nil .nil .nil .nil) (fun a0 a1 a2 a3 a4 a5 a6 a7 a8 a9 aa ab ac ad ae af => fun v => .mk a0 a1 a2 a3 a4 v a6 a7 a8 a9 aa ab ac ad ae af) x v
def A4.s6 (v : A3) (x : A4) : A4 := A4.rec (motive := fun _ => A3 → A4) (fun v => .mk .nil .nil .nil .nil .nil .nil v .nil .nil .nil .nil .nil .nil .nil .nil .nil) (fun a0 a1 a2 a3 a4 a5 a6 a7 a8 a9 aa ab ac ad ae af => fun v => .mk a0 a1 a2 a3 a4 a5 v a7 a8 a9 aa ab ac ad ae af) x v
def A4.s7 (v : A3) (x : A4) : A4 := A4.rec (motive := fun _ => A3 → A4) (fun v => .mk .nil .nil .nil .nil .nil .nil .nil v .nil .nil .nil .nil .nil .nil .nil .nil) (fun a0 a1 a2 a3 a4 a5 a6 a7 a8 a9 aa ab ac ad ae af => fun v => .mk a0 a1 a2 a3 a4 a5 a6 v a8 a9 aa ab ac ad ae af) x v
def A4.s8 (v : A3) (x : A4) : A4 := A4.rec (motive := fun _ => A3 → A4) (fun v => .mk .nil .nil .nil .nil .nil .nil .nil .nil v .nil .nil .nil .nil .nil .nil .nil) (fun a0 a1 a2 a3 a4 a5 a6 a7 a8 a9 aa ab ac ad ae af => fun v => .mk a0 a1 a2 a3 a4 a5 a6 a7 v a9 aa ab ac ad ae af) x v
def A4.s9 (v : A3) (x : A4) : A4 := A4.rec (motive := fun _ => A3 → A4) (fun v => .mk .nil .nil .nil .nil .nil .nil .nil .nil .nil v .nil .nil .nil .nil .nil .nil) (fun a0 a1 a2 a3 a4 a5 a6 a7 a8 a9 aa ab ac ad ae af => fun v => .mk a0 a1 a2 a3 a4 a5 a6 a7 a8 v aa ab ac ad ae af) x v
def A4.sa (v : A3) (x : A4) : A4 := A4.rec (motive := fun _ => A3 → A4) (fun v => .mk .nil .nil .nil .nil .nil .nil .nil .nil .nil .nil v .nil .nil .nil .nil .nil) (fun a0 a1 a2 a3 a4 a5 a6 a7 a8 a9 aa ab ac ad ae af => fun v => .mk a0 a1 a2 a3 a4 a5 a6 a7 a8 a9 v ab ac ad ae af) x v
def A4.sb (v : A3) (x : A4) : A4 := A4.rec (motive := fun _ => A3 → A4) (fun v => .mk .nil .nil .nil .nil .nil .nil .nil .nil .nil .nil .nil v .nil .nil .nil .nil) (fun a0 a1 a2 a3 a4 a5 a6 a7 a8 a9 aa ab ac ad ae af => fun v => .mk a0 a1 a2 a3 a4 a5 a6 a7 a8 a9 aa v ac ad ae af) x v
def A4.sc (v : A3) (x : A4) : A4 := A4.rec (motive := fun _ => A3 → A4) (fun v => .mk .nil .nil .nil .nil .nil .nil .nil .nil .nil .nil .nil .nil v .nil .nil .nil) (fun a0 a1 a2 a3 a4 a5 a6 a7 a8 a9 aa ab ac ad ae af => fun v => .mk a0 a1 a2 a3 a4 a5 a6 a7 a8 a9 aa ab v ad ae af) x v
def A4.sd (v : A3) (x : A4) : A4 := A4.rec (motive := fun _ => A3 → A4) (fun v => .mk .nil .nil .nil .nil .nil .nil .nil .nil .nil .nil .nil .nil .nil v .nil .nil) (fun a0 a1 a2 a3 a4 a5 a6 a7 a8 a9 aa ab ac ad ae af => fun v => .mk a0 a1 a2 a3 a4 a5 a6 a7 a8 a9 aa ab ac v ae af) x v
def A4.se (v : A3) (x : A4) : A4 := A4.rec (motive := fun _ => A3 → A4) (fun v => .mk .nil .nil .nil .nil .nil .nil .nil .nil .nil .nil .nil .nil .nil .nil v .nil) (fun a0 a1 a2 a3 a4 a5 a6 a7 a8 a9 aa ab ac ad ae af => fun v => .mk a0 a1 a2 a3 a4 a5 a6 a7 a8 a9 aa ab ac ad v af) x v
def A4.sf (v : A3) (x : A4) : A4 := A4.rec (motive := fun _ => A3 → A4) (fun v => .mk .nil .nil .nil .nil .nil .nil .nil .nil .nil .nil .nil .nil .nil .nil .nil v) (fun a0 a1 a2 a3 a4 a5 a6 a7 a8 a9 aa ab ac ad ae af => fun v => .mk a0 a1 a2 a3 a4 a5 a6 a7 a8 a9 aa ab ac ad ae v) x v
def A4.set (d : H) : A3 → A4 → A4 := H.rec (motive := fun _ => A3 → A4 → A4) A4.s0 A4.s1 A4.s2 A4.s3 A4.s4 A4.s5 A4.s6 A4.s7 A4.s8 A4.s9 A4.sa A4.sb A4.sc A4.sd A4.se A4.sf d
inductive Cl where
 | k1 (x : A1)
 | k2 (x : A2)
 | k3 (x : A3)
 | k4 (x : A4)
 | kf (m : Nat) (f : Nat → AV)
inductive Fl where
 | plain
 | mark
 | Bw
 | ro
inductive Obj where
 | none
 | dead
 | cells (el n : Nat) (ex : Bool) (fl : Fl) (c : Cl)
 | map (l : List KV) (clock : Nat)
 | DJ (s : List Nat) (pos : Nat)
 | wD (m : P4) (since : Nat) (seen : List Nat) (last : Nat)
 | DL
inductive O1 where
 | nil
 | mk (a0 a1 a2 a3 a4 a5 a6 a7 a8 a9 aa ab ac ad ae af : Obj)
def O1.g0 (x : O1) : Obj := O1.rec .none (fun a0 a1 a2 a3 a4 a5 a6 a7 a8 a9 aa ab ac ad ae af => a0) x
def O1.g1 (x : O1) : Obj := O1.rec .none (fun a0 a1 a2 a3 a4 a5 a6 a7 a8 a9 aa ab ac ad ae af => a1) x
def O1.g2 (x : O1) : Obj := O1.rec .none (fun a0 a1 a2 a3 a4 a5 a6 a7 a8 a9 aa ab ac ad ae af => a2) x
def O1.g3 (x : O1) : Obj := O1.rec .none (fun a0 a1 a2 a3 a4 a5 a6 a7 a8 a9 aa ab ac ad ae af => a3) x
def O1.g4 (x : O1) : Obj := O1.rec .none (fun a0 a1 a2 a3 a4 a5 a6 a7 a8 a9 aa ab ac ad ae af => a4) x
def O1.g5 (x : O1) : Obj := O1.rec .none (fun a0 a1 a2 a3 a4 a5 a6 a7 a8 a9 aa ab ac ad ae af => a5) x
def O1.g6 (x : O1) : Obj := O1.rec .none (fun a0 a1 a2 a3 a4 a5 a6 a7 a8 a9 aa ab ac ad ae af => a6) x
def O1.g7 (x : O1) : Obj := O1.rec .none (fun a0 a1 a2 a3 a4 a5 a6 a7 a8 a9 aa ab ac ad ae af => a7) x
def O1.g8 (x : O1) : Obj := O1.rec .none (fun a0 a1 a2 a3 a4 a5 a6 a7 a8 a9 aa ab ac ad ae af => a8) x
def O1.g9 (x : O1) : Obj := O1.rec .none (fun a0 a1 a2 a3 a4 a5 a6 a7 a8 a9 aa ab ac ad ae af => a9) x
def O1.ga (x : O1) : Obj := O1.rec .none (fun a0 a1 a2 a3 a4 a5 a6 a7 a8 a9 aa ab ac ad ae af => aa) x
def O1.gb (x : O1) : Obj := O1.rec .none (fun a0 a1 a2 a3 a4 a5 a6 a7 a8 a9 aa ab ac ad ae af => ab) x
def O1.gc (x : O1) : Obj := O1.rec .none (fun a0 a1 a2 a3 a4 a5 a6 a7 a8 a9 aa ab ac ad ae af => ac) x
def O1.gd (x : O1) : Obj := O1.rec .none (fun a0 a1 a2 a3 a4 a5 a6 a7 a8 a9 aa ab ac ad ae af => ad) x
def O1.ge (x : O1) : Obj := O1.rec .none (fun a0 a1 a2 a3 a4 a5 a6 a7 a8 a9 aa ab ac ad ae af => ae) x
def O1.gf (x : O1) : Obj := O1.rec .none (fun a0 a1 a2 a3 a4 a5 a6 a7 a8 a9 aa ab ac ad ae af => af) x
def O1.get (d : H) : O1 → Obj := H.rec (motive := fun _ => O1 → Obj) O1.g0 O1.g1 O1.g2 O1.g3 O1.g4 O1.g5 O1.g6 O1.g7 O1.g8 O1.g9 O1.ga O1.gb O1.gc O1.gd O1.ge O1.gf d
def O1.s0 (v : Obj) (x : O1) : O1 := O1.rec (motive := fun _ => Obj → O1) (fun v => .mk v .none .none .none .none .none .none .none .none .none .none .none .none .none .none .none) (fun a0 a1 a2 a3 a4 a5 a6 a7 a8 a9 aa ab ac ad ae af => fun v => .mk v a1 a2 a3 a4 a5 a6 a7 a8 a9 aa ab ac ad ae af) x v
def O1.s1 (v : Obj) (x : O1) : O1 := O1.rec (motive := fun _ => Obj → O1) (fun v => .mk .none v .none .none .none .none .none .none .none .none .none .none .none .none .none .none) (fun a0 a1 a2 a3 a4 a5 a6 a7 a8 a9 aa ab ac ad ae af => fun v => .mk a0 v a2 a3 a4 a5 a6 a7 a8 a9 aa ab ac ad ae af) x v
def O1.s2 (v : Obj) (x : O1) : O1 := O1.rec (motive := fun _ => Obj → O1) (fun v => .mk .none .none v .none .none .none .none .none .none .none .none .none .none .none .none .none) (fun a0 a1 a2 a3 a4 a5 a6 a7 a8 a9 aa ab ac ad ae af => fun v => .mk a0 a1 v a3 a4 a5 a6 a7 a8 a9 aa ab ac ad ae af) x v
def O1.s3 (v : Obj) (x : O1) : O1 := O1.rec (motive := fun _ => Obj → O1) (fun v => .mk .none .none .none v .none .none .none .none .none .none .none .none .none .none .none .none) (fun a0 a1 a2 a3 a4 a5 a6 a7 a8 a9 aa ab ac ad ae af => fun v => .mk a0 a1 a2 v a4 a5 a6 a7 a8 a9 aa ab ac ad ae af) x v
def O1.s4 (v : Obj) (x : O1) : O1 := O1.rec (motive := fun _ => Obj → O1) (fun v => .mk .none .none .none .none v .none .none .none .none .none .none .none .none .none .none .none) (fun a0 a1 a2 a3 a4 a5 a6 a7 a8 a9 aa ab ac ad ae af => fun v => .mk a0 a1 a2 a3 v a5 a6 a7 a8 a9 aa ab ac ad ae af) x v
def O1.s5 (v : Obj) (x : O1) : O1 := O1.rec (motive := fun _ => Obj → O1) (fun v => .mk .none .none .none .none .none v .none .none .none .none .none .none .none .none .none .none) (fun a0 a1 a2 a3 a4 a5 a6 a7 a8 a9 aa ab ac ad ae af => fun v => .mk a0 a1 a2 a3 a4 v a6 a7 a8 a9 aa ab ac ad ae af) x v
def O1.s6 (v : Obj) (x : O1) : O1 := O1.rec (motive := fun _ => Obj → O1) (fun v => .mk .none .none .none .none .none .none v .none .none .none .none .none .none .none .none .none) (fun a0 a1 a2 a3 a4 a5 a6 a7 a8 a9 aa ab ac ad ae af => fun v => .mk a0 a1 a2 a3 a4 a5 v a7 a8 a9 aa ab ac ad ae af) x v
def O1.s7 (v : Obj) (x : O1) : O1 := O1.rec (motive := fun _ => Obj → O1) (fun v => .mk .none .none .none .none .none .none .none v .none .none .none .none .none .none .none .none) (fun a0 a1 a2 a3 a4 a5 a6 a7 a8 a9 aa ab ac ad ae af => fun v => .mk a0 a1 a2 a3 a4 a5 a6 v a8 a9 aa ab ac ad ae af) x v
def O1.s8 (v : Obj) (x : O1) : O1 := O1.rec (motive := fun _ => Obj → O1) (fun v => .mk .none .none .none .none .none .none .none .none v .none .none .none .none .none .none .none) (fun a0 a1 a2 a3 a4 a5 a6 a7 a8 a9 aa ab ac ad ae af => fun v => .mk a0 a1 a2 a3 a4 a5 a6 a7 v a9 aa ab ac ad ae af) x v
def O1.s9 (v : Obj) (x : O1) : O1 := O1.rec (motive := fun _ => Obj → O1) (fun v => .mk .none .none .none .none .none .none .none .none .none v .none .none .none .none .none .none) (fun a0 a1 a2 a3 a4 a5 a6 a7 a8 a9 aa ab ac ad ae af => fun v => .mk a0 a1 a2 a3 a4 a5 a6 a7 a8 v aa ab ac ad ae af) x v
def O1.sa (v : Obj) (x : O1) : O1 := O1.rec (motive := fun _ => Obj → O1) (fun v => .mk .none .none .none .none .none .none .none .none .none .none v .none .none .none .none .none) (fun a0 a1 a2 a3 a4 a5 a6 a7 a8 a9 aa ab ac ad ae af => fun v => .mk a0 a1 a2 a3 a4 a5 a6 a7 a8 a9 v ab ac ad ae af) x v
def O1.sb (v : Obj) (x : O1) : O1 := O1.rec (motive := fun _ => Obj → O1) (fun v => .mk .none .none .none .none .none .none .none .none .none .none .none v .none .none .none .none) (fun a0 a1 a2 a3 a4 a5 a6 a7 a8 a9 aa ab ac ad ae af => fun v => .mk a0 a1 a2 a3 a4 a5 a6 a7 a8 a9 aa v ac ad ae af) x v
def O1.sc (v : Obj) (x : O1) : O1 := O1.rec (motive := fun _ => Obj → O1) (fun v => .mk .none .none .none .none .none .none .none .none .none .none .none .none v .none .none .none) (fun a0 a1 a2 a3 a4 a5 a6 a7 a8 a9 aa ab ac ad ae af => fun v => .mk a0 a1 a2 a3 a4 a5 a6 a7 a8 a9 aa ab v ad ae af) x v
def O1.sd (v : Obj) (x : O1) : O1 := O1.rec (motive := fun _ => Obj → O1) (fun v => .mk .none .none .none .none .none .none .none .none .none .none .none .none .none v .none .none) (fun a0 a1 a2 a3 a4 a5 a6 a7 a8 a9 aa ab ac ad ae af => fun v => .mk a0 a1 a2 a3 a4 a5 a6 a7 a8 a9 aa ab ac v ae af) x v
def O1.se (v : Obj) (x : O1) : O1 := O1.rec (motive := fun _ => Obj → O1) (fun v => .mk .none .none .none .none .none .none .none .none .none .none .none .none .none .none v .none) (fun a0 a1 a2 a3 a4 a5 a6 a7 a8 a9 aa ab ac ad ae af => fun v => .mk a0 a1 a2 a3 a4 a5 a6 a7 a8 a9 aa ab ac ad v af) x v
def O1.sf (v : Obj) (x : O1) : O1 := O1.rec (motive := fun _ => Obj → O1) (fun v => .mk .none .none .none .none .none .none .none .none .none .none .none .none .none .none .none v) (fun a0 a1 a2 a3 a4 a5 a6 a7 a8 a9 aa ab ac ad ae af => fun v => .mk a0 a1 a2 a3 a4 a5 a6 a7 a8 a9 aa ab ac ad ae v) x v
def O1.set (d : H) : Obj → O1 → O1 := H.rec (motive := fun _ => Obj → O1 → O1) O1.s0 O1.s1 O1.s2 O1.s3 O1.s4 O1.s5 O1.s6 O1.s7 O1.s8 O1.s9 O1.sa O1.sb O1.sc O1.sd O1.se O1.sf d
inductive O2 where
 | nil
 | mk (a0 a1 a2 a3 a4 a5 a6 a7 a8 a9 aa ab ac ad ae af : O1)
def O2.g0 (x : O2) : O1 := O2.rec .nil (fun a0 a1 a2 a3 a4 a5 a6 a7 a8 a9 aa ab ac ad ae af => a0) x
def O2.g1 (x : O2) : O1 := O2.rec .nil (fun a0 a1 a2 a3 a4 a5 a6 a7 a8 a9 aa ab ac ad ae af => a1) x
def O2.g2 (x : O2) : O1 := O2.rec .nil (fun a0 a1 a2 a3 a4 a5 a6 a7 a8 a9 aa ab ac ad ae af => a2) x
def O2.g3 (x : O2) : O1 := O2.rec .nil (fun a0 a1 a2 a3 a4 a5 a6 a7 a8 a9 aa ab ac ad ae af => a3) x
def O2.g4 (x : O2) : O1 := O2.rec .nil (fun a0 a1 a2 a3 a4 a5 a6 a7 a8 a9 aa ab ac ad ae af => a4) x
def O2.g5 (x : O2) : O1 := O2.rec .nil (fun a0 a1 a2 a3 a4 a5 a6 a7 a8 a9 aa ab ac ad ae af => a5) x
def O2.g6 (x : O2) : O1 := O2.rec .nil (fun a0 a1 a2 a3 a4 a5 a6 a7 a8 a9 aa ab ac ad ae af => a6) x
def O2.g7 (x : O2) : O1 := O2.rec .nil (fun a0 a1 a2 a3 a4 a5 a6 a7 a8 a9 aa ab ac ad ae af => a7) x
def O2.g8 (x : O2) : O1 := O2.rec .nil (fun a0 a1 a2 a3 a4 a5 a6 a7 a8 a9 aa ab ac ad ae af => a8) x
def O2.g9 (x : O2) : O1 := O2.rec .nil (fun a0 a1 a2 a3 a4 a5 a6 a7 a8 a9 aa ab ac ad ae af => a9) x
def O2.ga (x : O2) : O1 := O2.rec .nil (fun a0 a1 a2 a3 a4 a5 a6 a7 a8 a9 aa ab ac ad ae af => aa) x
def O2.gb (x : O2) : O1 := O2.rec .nil (fun a0 a1 a2 a3 a4 a5 a6 a7 a8 a9 aa ab ac ad ae af => ab) x
def O2.gc (x : O2) : O1 := O2.rec .nil (fun a0 a1 a2 a3 a4 a5 a6 a7 a8 a9 aa ab ac ad ae af => ac) x
def O2.gd (x : O2) : O1 := O2.rec .nil (fun a0 a1 a2 a3 a4 a5 a6 a7 a8 a9 aa ab ac ad ae af => ad) x
def O2.ge (x : O2) : O1 := O2.rec .nil (fun a0 a1 a2 a3 a4 a5 a6 a7 a8 a9 aa ab ac ad ae af => ae) x
def O2.gf (x : O2) : O1 := O2.rec .nil (fun a0 a1 a2 a3 a4 a5 a6 a7 a8 a9 aa ab ac ad ae af => af) x
def O2.get (d : H) : O2 → O1 := H.rec (motive := fun _ => O2 → O1) O2.g0 O2.g1 O2.g2 O2.g3 O2.g4 O2.g5 O2.g6 O2.g7 O2.g8 O2.g9 O2.ga O2.gb O2.gc O2.gd O2.ge O2.gf d
def O2.s0 (v : O1) (x : O2) : O2 := O2.rec (motive := fun _ => O1 → O2) (fun v => .mk v .nil .nil .nil .nil .nil .nil .nil .nil .nil .nil .nil .nil .nil .nil .nil) (fun a0 a1 a2 a3 a4 a5 a6 a7 a8 a9 aa ab ac ad ae af => fun v => .mk v a1 a2 a3 a4 a5 a6 a7 a8 a9 aa ab ac ad ae af) x v
def O2.s1 (v : O1) (x : O2) : O2 := O2.rec (motive := fun _ => O1 → O2) (fun v => .mk .nil v .nil .nil .nil .nil .nil .nil .nil .nil .nil .nil .nil .nil .nil .nil) (fun a0 a1 a2 a3 a4 a5 a6 a7 a8 a9 aa ab ac ad ae af => fun v => .mk a0 v a2 a3 a4 a5 a6 a7 a8 a9 aa ab ac ad ae af) x v
def O2.s2 (v : O1) (x : O2) : O2 := O2.rec (motive := fun _ => O1 → O2) (fun v => .mk .nil .nil v .nil .nil .nil .nil .nil .nil .nil .nil .nil .nil .nil .nil .nil) (fun a0 a1 a2 a3 a4 a5 a6 a7 a8 a9 aa ab ac ad ae af => fun v => .mk a0 a1 v a3 a4 a5 a6 a7 a8 a9 aa ab ac ad ae af) x v
def O2.s3 (v : O1) (x : O2) : O2 := O2.rec (motive := fun _ => O1 → O2) (fun v => .mk .nil .nil .nil v .nil .nil .nil .nil .nil .nil .nil .nil .nil .nil .nil .nil) (fun a0 a1 a2 a3 a4 a5 a6 a7 a8 a9 aa ab ac ad ae af => fun v => .mk a0 a1 a2 v a4 a5 a6 a7 a8 a9 aa ab ac ad ae af) x v
def O2.s4 (v : O1) (x : O2) : O2 := O2.rec (motive := fun _ => O1 → O2) (fun v => .mk .nil .nil .nil .nil v .nil .nil .nil .nil .nil .nil .nil .nil .nil .nil .nil) (fun a0 a1 a2 a3 a4 a5 a6 a7 a8 a9 aa ab ac ad ae af => fun v => .mk a0 a1 a2 a3 v a5 a6 a7 a8 a9 aa ab ac ad ae af) x v
def O2.s5 (v : O1) (x : O2) : O2 := O2.rec (motive := fun _ => O1 → O2) (fun v => .mk .nil .nil .nil .nil .nil v .nil .nil .nil .nil .nil .nil .nil .nil .nil .nil) (fun a0 a1 a2 a3 a4 a5 a6 a7 a8 a9 aa ab ac ad ae af => fun v => .mk a0 a1 a2 a3 a4 v a6 a7 a8 a9 aa ab ac ad ae af) x v
def O2.s6 (v : O1) (x : O2) : O2 := O2.rec (motive := fun _ => O1 → O2) (fun v => .mk .nil .nil .nil .nil .nil .nil v .nil .nil .nil .nil .nil .nil .nil .nil .nil) (fun a0 a1 a2 a3 a4 a5 a6 a7 a8 a9 aa ab ac ad ae af => fun v => .mk a0 a1 a2 a3 a4 a5 v a7 a8 a9 aa ab ac ad ae af) x v
def O2.s7 (v : O1) (x : O2) : O2 := O2.rec (motive := fun _ => O1 → O2) (fun v => .mk .nil .nil .nil .nil .nil .nil .nil v .nil .nil .nil .nil .nil .nil .nil .nil) (fun a0 a1 a2 a3 a4 a5 a6 a7 a8 a9 aa ab ac ad ae af => fun v => .mk a0 a1 a2 a3 a4 a5 a6 v a8 a9 aa ab ac ad ae af) x v
def O2.s8 (v : O1) (x : O2) : O2 := O2.rec (motive := fun _ => O1 → O2) (fun v => .mk .nil .nil .nil .nil .nil .nil .nil .nil v .nil .nil .nil .nil .nil .nil .nil) (fun a0 a1 a2 a3 a4 a5 a6 a7 a8 a9 aa ab ac ad ae af => fun v => .mk a0 a1 a2 a3 a4 a5 a6 a7 v a9 aa ab ac ad ae af) x v
def O2.s9 (v : O1) (x : O2) : O2 := O2.rec (motive := fun _ => O1 → O2) (fun v => .mk .nil .nil .nil .nil .nil .nil .nil .nil .nil v .nil .nil .nil .nil .nil .nil) (fun a0 a1 a2 a3 a4 a5 a6 a7 a8 a9 aa ab ac ad ae af => fun v => .mk a0 a1 a2 a3 a4 a5 a6 a7 a8 v aa ab ac ad ae af) x v
def O2.sa (v : O1) (x : O2) : O2 := O2.rec (motive := fun _ => O1 → O2) (fun v => .mk .nil .nil .nil .nil .nil .nil .nil .nil .nil .nil v .nil .nil .nil .nil .nil) (fun a0 a1 a2 a3 a4 a5 a6 a7 a8 a9 aa ab ac ad ae af => fun v => .mk a0 a1 a2 a3 a4 a5 a6 a7 a8 a9 v ab ac ad ae af) x v
def O2.sb (v : O1) (x : O2) : O2 := O2.rec (motive := fun _ => O1 → O2) (fun v => .mk .nil .nil .nil .nil .nil .nil .nil .nil .nil .nil .nil v .nil .nil .nil .nil) (fun a0 a1 a2 a3 a4 a5 a6 a7 a8 a9 aa ab ac ad ae af => fun v => .mk a0 a1 a2 a3 a4 a5 a6 a7 a8 a9 aa v ac ad ae af) x v
def O2.sc (v : O1) (x : O2) : O2 := O2.rec (motive := fun _ => O1 → O2) (fun v => .mk .nil .nil .nil .nil .nil .nil .nil .nil .nil .nil .nil .nil v .nil .nil .nil) (fun a0 a1 a2 a3 a4 a5 a6 a7 a8 a9 aa ab ac ad ae af => fun v => .mk a0 a1 a2 a3 a4 a5 a6 a7 a8 a9 aa ab v ad ae af) x v
def O2.sd (v : O1) (x : O2) : O2 := O2.rec (motive := fun _ => O1 → O2) (fun v => .mk .nil .nil .nil .nil .nil .nil .nil .nil .nil .nil .nil .nil .nil v .nil .nil) (fun a0 a1 a2 a3 a4 a5 a6 a7 a8 a9 aa ab ac ad ae af => fun v => .mk a0 a1 a2 a3 a4 a5 a6 a7 a8 a9 aa ab ac v ae af) x v
def O2.se (v : O1) (x : O2) : O2 := O2.rec (motive := fun _ => O1 → O2) (fun v => .mk .nil .nil .nil .nil .nil .nil .nil .nil .nil .nil .nil .nil .nil .nil v .nil) (fun a0 a1 a2 a3 a4 a5 a6 a7 a8 a9 aa ab ac ad ae af => fun v => .mk a0 a1 a2 a3 a4 a5 a6 a7 a8 a9 aa ab ac ad v af) x v
def O2.sf (v : O1) (x : O2) : O2 := O2.rec (motive := fun _ => O1 → O2) (fun v => .mk .nil .nil .nil .nil .nil .nil .nil .nil .nil .nil .nil .nil .nil .nil .nil v) (fun a0 a1 a2 a3 a4 a5 a6 a7 a8 a9 aa ab ac ad ae af => fun v => .mk a0 a1 a2 a3 a4 a5 a6 a7 a8 a9 aa ab ac ad ae v) x v
def O2.set (d : H) : O1 → O2 → O2 := H.rec (motive := fun _ => O1 → O2 → O2) O2.s0 O2.s1 O2.s2 O2.s3 O2.s4 O2.s5 O2.s6 O2.s7 O2.s8 O2.s9 O2.sa O2.sb O2.sc O2.sd O2.se O2.sf d
inductive O3 where
 | nil
 | mk (a0 a1 a2 a3 a4 a5 a6 a7 a8 a9 aa ab ac ad ae af : O2)
def O3.g0 (x : O3) : O2 := O3.rec .nil (fun a0 a1 a2 a3 a4 a5 a6 a7 a8 a9 aa ab ac ad ae af => a0) x
def O3.g1 (x : O3) : O2 := O3.rec .nil (fun a0 a1 a2 a3 a4 a5 a6 a7 a8 a9 aa ab ac ad ae af => a1) x
def O3.g2 (x : O3) : O2 := O3.rec .nil (fun a0 a1 a2 a3 a4 a5 a6 a7 a8 a9 aa ab ac ad ae af => a2) x
def O3.g3 (x : O3) : O2 := O3.rec .nil (fun a0 a1 a2 a3 a4 a5 a6 a7 a8 a9 aa ab ac ad ae af => a3) x
def O3.g4 (x : O3) : O2 := O3.rec .nil (fun a0 a1 a2 a3 a4 a5 a6 a7 a8 a9 aa ab ac ad ae af => a4) x
def O3.g5 (x : O3) : O2 := O3.rec .nil (fun a0 a1 a2 a3 a4 a5 a6 a7 a8 a9 aa ab ac ad ae af => a5) x
def O3.g6 (x : O3) : O2 := O3.rec .nil (fun a0 a1 a2 a3 a4 a5 a6 a7 a8 a9 aa ab ac ad ae af => a6) x
def O3.g7 (x : O3) : O2 := O3.rec .nil (fun a0 a1 a2 a3 a4 a5 a6 a7 a8 a9 aa ab ac ad ae af => a7) x
def O3.g8 (x : O3) : O2 := O3.rec .nil (fun a0 a1 a2 a3 a4 a5 a6 a7 a8 a9 aa ab ac ad ae af => a8) x
def O3.g9 (x : O3) : O2 := O3.rec .nil (fun a0 a1 a2 a3 a4 a5 a6 a7 a8 a9 aa ab ac ad ae af => a9) x
def O3.ga (x : O3) : O2 := O3.rec .nil (fun a0 a1 a2 a3 a4 a5 a6 a7 a8 a9 aa ab ac ad ae af => aa) x
def O3.gb (x : O3) : O2 := O3.rec .nil (fun a0 a1 a2 a3 a4 a5 a6 a7 a8 a9 aa ab ac ad ae af => ab) x
def O3.gc (x : O3) : O2 := O3.rec .nil (fun a0 a1 a2 a3 a4 a5 a6 a7 a8 a9 aa ab ac ad ae af => ac) x
def O3.gd (x : O3) : O2 := O3.rec .nil (fun a0 a1 a2 a3 a4 a5 a6 a7 a8 a9 aa ab ac ad ae af => ad) x
def O3.ge (x : O3) : O2 := O3.rec .nil (fun a0 a1 a2 a3 a4 a5 a6 a7 a8 a9 aa ab ac ad ae af => ae) x
def O3.gf (x : O3) : O2 := O3.rec .nil (fun a0 a1 a2 a3 a4 a5 a6 a7 a8 a9 aa ab ac ad ae af => af) x
def O3.get (d : H) : O3 → O2 := H.rec (motive := fun _ => O3 → O2) O3.g0 O3.g1 O3.g2 O3.g3 O3.g4 O3.g5 O3.g6 O3.g7 O3.g8 O3.g9 O3.ga O3.gb O3.gc O3.gd O3.ge O3.gf d
def O3.s0 (v : O2) (x : O3) : O3 := O3.rec (motive := fun _ => O2 → O3) (fun v => .mk v .nil .nil .nil .nil .nil .nil .nil .nil .nil .nil .nil .nil .nil .nil .nil) (fun a0 a1 a2 a3 a4 a5 a6 a7 a8 a9 aa ab ac ad ae af => fun v => .mk v a1 a2 a3 a4 a5 a6 a7 a8 a9 aa ab ac ad ae af) x v
def O3.s1 (v : O2) (x : O3) : O3 := O3.rec (motive := fun _ => O2 → O3) (fun v => .mk .nil v .nil .nil .nil .nil .nil .nil .nil .nil .nil .nil .nil .nil .nil .nil) (fun a0 a1 a2 a3 a4 a5 a6 a7 a8 a9 aa ab ac ad ae af => fun v => .mk a0 v a2 a3 a4 a5 a6 a7 a8 a9 aa ab ac ad ae af) x v
def O3.s2 (v : O2) (x : O3) : O3 := O3.rec (motive := fun _ => O2 → O3) (fun v => .mk .nil .nil v .nil .nil .nil .nil .nil .nil .nil .nil .nil .nil .nil .nil .nil) (fun a0 a1 a2 a3 a4 a5 a6 a7 a8 a9 aa ab ac ad ae af => fun v => .mk a0 a1 v a3 a4 a5 a6 a7 a8 a9 aa ab ac ad ae af) x v
def O3.s3 (v : O2) (x : O3) : O3 := O3.rec (motive := fun _ => O2 → O3) (fun v => .mk .nil .nil .nil v .nil .nil .nil .nil .nil .nil .nil .nil .nil .nil .nil .nil) (fun a0 a1 a2 a3 a4 a5 a6 a7 a8 a9 aa ab ac ad ae af => fun v => .mk a0 a1 a2 v a4 a5 a6 a7 a8 a9 aa ab ac ad ae af) x v
def O3.s4 (v : O2) (x : O3) : O3 := O3.rec (motive := fun _ => O2 → O3) (fun v => .mk .nil .nil .nil .nil v .nil .nil .nil .nil .nil .nil .nil .nil .nil .nil .nil) (fun a0 a1 a2 a3 a4 a5 a6 a7 a8 a9 aa ab ac ad ae af => fun v => .mk a0 a1 a2 a3 v a5 a6 a7 a8 a9 aa ab ac ad ae af) x v
def O3.s5 (v : O2) (x : O3) : O3 := O3.rec (motive := fun _ => O2 → O3) (fun v => .mk .nil .nil .nil .nil .nil v .nil .nil .nil .nil .nil .nil .nil .nil .nil .nil) (fun a0 a1 a2 a3 a4 a5 a6 a7 a8 a9 aa ab ac ad ae af => fun v => .mk a0 a1 a2 a3 a4 v a6 a7 a8 a9 aa ab ac ad ae af) x v
def O3.s6 (v : O2) (x : O3) : O3 := O3.rec (motive := fun _ => O2 → O3) (fun v => .mk .nil .nil .nil .nil .nil .nil v .nil .nil .nil .nil .nil .nil .nil .nil .nil) (fun a0 a1 a2 a3 a4 a5 a6 a7 a8 a9 aa ab ac ad ae af => fun v => .mk a0 a1 a2 a3 a4 a5 v a7 a8 a9 aa ab ac ad ae af) x v
def O3.s7 (v : O2) (x : O3) : O3 := O3.rec (motive := fun _ => O2 → O3) (fun v => .mk .nil .nil .nil .nil .nil .nil .nil v .nil .nil .nil .nil .nil .nil .nil .nil) (fun a0 a1 a2 a3 a4 a5 a6 a7 a8 a9 aa ab ac ad ae af => fun v => .mk a0 a1 a2 a3 a4 a5 a6 v a8 a9 aa ab ac ad ae af) x v
def O3.s8 (v : O2) (x : O3) : O3 := O3.rec (motive := fun _ => O2 → O3) (fun v => .mk .nil .nil .nil .nil .nil .nil .nil .nil v .nil .nil .nil .nil .nil .nil .nil) (fun a0 a1 a2 a3 a4 a5 a6 a7 a8 a9 aa ab ac ad ae af => fun v => .mk a0 a1 a2 a3 a4 a5 a6 a7 v a9 aa ab ac ad ae af) x v
def O3.s9 (v : O2) (x : O3) : O3 := O3.rec (motive := fun _ => O2 → O3) (fun v => .mk .nil .nil .nil .nil .nil .nil .nil .nil .nil v .nil .nil .nil .nil .nil .nil) (fun a0 a1 a2 a3 a4 a5 a6 a7 a8 a9 aa ab ac ad ae af => fun v => .mk a0 a1 a2 a3 a4 a5 a6 a7 a8 v aa ab ac ad ae af) x v
def O3.sa (v : O2) (x : O3) : O3 := O3.rec (motive := fun _ => O2 → O3) (fun v => .mk .nil .nil .nil .nil .nil .nil .nil .nil .nil .nil v .nil .nil .nil .nil .nil) (fun a0 a1 a2 a3 a4 a5 a6 a7 a8 a9 aa ab ac ad ae af => fun v => .mk a0 a1 a2 a3 a4 a5 a6 a7 a8 a9 v ab ac ad ae af) x v
def O3.sb (v : O2) (x : O3) : O3 := O3.rec (motive := fun _ => O2 → O3) (fun v => .mk .nil .nil .nil .nil .nil .nil .nil .nil .nil .nil .nil v .nil .nil .nil .nil) (fun a0 a1 a2 a3 a4 a5 a6 a7 a8 a9 aa ab ac ad ae af => fun v => .mk a0 a1 a2 a3 a4 a5 a6 a7 a8 a9 aa v ac ad ae af) x v
def O3.sc (v : O2) (x : O3) : O3 := O3.rec (motive := fun _ => O2 → O3) (fun v => .mk .nil .nil .nil .nil .nil .nil .nil .nil .nil .nil .nil .nil v .nil .nil .nil) (fun a0 a1 a2 a3 a4 a5 a6 a7 a8 a9 aa ab ac ad ae af => fun v => .mk a0 a1 a2 a3 a4 a5 a6 a7 a8 a9 aa ab v ad ae af) x v
def O3.sd (v : O2) (x : O3) : O3 := O3.rec (motive := fun _ => O2 → O3) (fun v => .mk .nil .nil .nil .nil .nil .nil .nil .nil .nil .nil .nil .nil .nil v .nil .nil) (fun a0 a1 a2 a3 a4 a5 a6 a7 a8 a9 aa ab ac ad ae af => fun v => .mk a0 a1 a2 a3 a4 a5 a6 a7 a8 a9 aa ab ac v ae af) x v
def O3.se (v : O2) (x : O3) : O3 := O3.rec (motive := fun _ => O2 → O3) (fun v => .mk .nil .nil .nil .nil .nil .nil .nil .nil .nil .nil .nil .nil .nil .nil v .nil) (fun a0 a1 a2 a3 a4 a5 a6 a7 a8 a9 aa ab ac ad ae af => fun v => .mk a0 a1 a2 a3 a4 a5 a6 a7 a8 a9 aa ab ac ad v af) x v
def O3.sf (v : O2) (x : O3) : O3 := O3.rec (motive := fun _ => O2 → O3) (fun v => .mk .nil .nil .nil .nil .nil .nil .nil .nil .nil .nil .nil .nil .nil .nil .nil v) (fun a0 a1 a2 a3 a4 a5 a6 a7 a8 a9 aa ab ac ad ae af => fun v => .mk a0 a1 a2 a3 a4 a5 a6 a7 a8 a9 aa ab ac ad ae v) x v
def O3.set (d : H) : O2 → O3 → O3 := H.rec (motive := fun _ => O2 → O3 → O3) O3.s0 O3.s1 O3.s2 O3.s3 O3.s4 O3.s5 O3.s6 O3.s7 O3.s8 O3.s9 O3.sa O3.sb O3.sc O3.sd O3.se O3.sf d
inductive O4 where
 | nil
 | mk (a0 a1 a2 a3 a4 a5 a6 a7 a8 a9 aa ab ac ad ae af : O3)
def O4.g0 (x : O4) : O3 := O4.rec .nil (fun a0 a1 a2 a3 a4 a5 a6 a7 a8 a9 aa ab ac ad ae af => a0) x
def O4.g1 (x : O4) : O3 := O4.rec .nil (fun a0 a1 a2 a3 a4 a5 a6 a7 a8 a9 aa ab ac ad ae af => a1) x
def O4.g2 (x : O4) : O3 := O4.rec .nil (fun a0 a1 a2 a3 a4 a5 a6 a7 a8 a9 aa ab ac ad ae af => a2) x
def O4.g3 (x : O4) : O3 := O4.rec .nil (fun a0 a1 a2 a3 a4 a5 a6 a7 a8 a9 aa ab ac ad ae af => a3) x
def O4.g4 (x : O4) : O3 := O4.rec .nil (fun a0 a1 a2 a3 a4 a5 a6 a7 a8 a9 aa ab ac ad ae af => a4) x
def O4.g5 (x : O4) : O3 := O4.rec .nil (fun a0 a1 a2 a3 a4 a5 a6 a7 a8 a9 aa ab ac ad ae af => a5) x
def O4.g6 (x : O4) : O3 := O4.rec .nil (fun a0 a1 a2 a3 a4 a5 a6 a7 a8 a9 aa ab ac ad ae af => a6) x
def O4.g7 (x : O4) : O3 := O4.rec .nil (fun a0 a1 a2 a3 a4 a5 a6 a7 a8 a9 aa ab ac ad ae af => a7) x
def O4.g8 (x : O4) : O3 := O4.rec .nil (fun a0 a1 a2 a3 a4 a5 a6 a7 a8 a9 aa ab ac ad ae af => a8) x
def O4.g9 (x : O4) : O3 := O4.rec .nil (fun a0 a1 a2 a3 a4 a5 a6 a7 a8 a9 aa ab ac ad ae af => a9) x
def O4.ga (x : O4) : O3 := O4.rec .nil (fun a0 a1 a2 a3 a4 a5 a6 a7 a8 a9 aa ab ac ad ae af => aa) x
def O4.gb (x : O4) : O3 := O4.rec .nil (fun a0 a1 a2 a3 a4 a5 a6 a7 a8 a9 aa ab ac ad ae af => ab) x
def O4.gc (x : O4) : O3 := O4.rec .nil (fun a0 a1 a2 a3 a4 a5 a6 a7 a8 a9 aa ab ac ad ae af => ac) x
def O4.gd (x : O4) : O3 := O4.rec .nil (fun a0 a1 a2 a3 a4 a5 a6 a7 a8 a9 aa ab ac ad ae af => ad) x
def O4.ge (x : O4) : O3 := O4.rec .nil (fun a0 a1 a2 a3 a4 a5 a6 a7 a8 a9 aa ab ac ad ae af => ae) x
def O4.gf (x : O4) : O3 := O4.rec .nil (fun a0 a1 a2 a3 a4 a5 a6 a7 a8 a9 aa ab ac ad ae af => af) x
def O4.get (d : H) : O4 → O3 := H.rec (motive := fun _ => O4 → O3) O4.g0 O4.g1 O4.g2 O4.g3 O4.g4 O4.g5 O4.g6 O4.g7 O4.g8 O4.g9 O4.ga O4.gb O4.gc O4.gd O4.ge O4.gf d
def O4.s0 (v : O3) (x : O4) : O4 := O4.rec (motive := fun _ => O3 → O4) (fun v => .mk v .nil .nil .nil .nil .nil .nil .nil .nil .nil .nil .nil .nil .nil .nil .nil) (fun a0 a1 a2 a3 a4 a5 a6 a7 a8 a9 aa ab ac ad ae af => fun v => .mk v a1 a2 a3 a4 a5 a6 a7 a8 a9 aa ab ac ad ae af) x v
def O4.s1 (v : O3) (x : O4) : O4 := O4.rec (motive := fun _ => O3 → O4) (fun v => .mk .nil v .nil .nil .nil .nil .nil .nil .nil .nil .nil .nil .nil .nil .nil .nil) (fun a0 a1 a2 a3 a4 a5 a6 a7 a8 a9 aa ab ac ad ae af => fun v => .mk a0 v a2 a3 a4 a5 a6 a7 a8 a9 aa ab ac ad ae af) x v
def O4.s2 (v : O3) (x : O4) : O4 := O4.rec (motive := fun _ => O3 → O4) (fun v => .mk .nil .nil v .nil .nil .nil .nil .nil .nil .nil .nil .nil .nil .nil .nil .nil) (fun a0 a1 a2 a3 a4 a5 a6 a7 a8 a9 aa ab ac ad ae af => fun v => .mk a0 a1 v a3 a4 a5 a6 a7 a8 a9 aa ab ac ad ae af) x v
def O4.s3 (v : O3) (x : O4) : O4 := O4.rec (motive := fun _ => O3 → O4) (fun v => .mk .nil .nil .nil v .nil .nil .nil .nil .nil .nil .nil .nil .nil .nil .nil .nil) (fun a0 a1 a2 a3 a4 a5 a6 a7 a8 a9 aa ab ac ad ae af => fun v => .mk a0 a1 a2 v a4 a5 a6 a7 a8 a9 aa ab ac ad ae af) x v
def O4.s4 (v : O3) (x : O4) : O4 := O4.rec (motive := fun _ => O3 → O4) (fun v => .mk .nil .nil .nil .nil v .nil .nil .nil .nil .nil .nil .nil .nil .nil .nil .nil) (fun a0 a1 a2 a3 a4 a5 a6 a7 a8 a9 aa ab ac ad ae af => fun v => .mk a0 a1 a2 a3 v a5 a6 a7 a8 a9 aa ab ac ad ae af) x v
def O4.s5 (v : O3) (x : O4) : O4 := O4.rec (motive := fun _ => O3 → O4) (fun v => .mk .nil .nil .nil .nil .nil v .nil .nil .nil .nil .nil .nil .nil .nil .nil .nil) (fun a0 a1 a2 a3 a4 a5 a6 a7 a8 a9 aa ab ac ad ae af => fun v => .mk a0 a1 a2 a3 a4 v a6 a7 a8 a9 aa ab ac ad ae af) x v
def O4.s6 (v : O3) (x : O4) : O4 := O4.rec (motive := fun _ => O3 → O4) (fun v => .mk .nil .nil .nil .nil .nil .nil v .nil .nil .nil .nil .nil .nil .nil .nil .nil) (fun a0 a1 a2 a3 a4 a5 a6 a7 a8 a9 aa ab ac ad ae af => fun v => .mk a0 a1 a2 a3 a4 a5 v a7 a8 a9 aa ab ac ad ae af) x v
def O4.s7 (v : O3) (x : O4) : O4 := O4.rec (motive := fun _ => O3 → O4) (fun v => .mk .nil .nil .nil .nil .nil .nil .nil v .nil .nil .nil .nil .nil .nil .nil .nil) (fun a0 a1 a2 a3 a4 a5 a6 a7 a8 a9 aa ab ac ad ae af => fun v => .mk a0 a1 a2 a3 a4 a5 a6 v a8 a9 aa ab ac ad ae af) x v
def O4.s8 (v : O3) (x : O4) : O4 := O4.rec (motive := fun _ => O3 → O4) (fun v => .mk .nil .nil .nil .nil .nil .nil .nil .nil v .nil .nil .nil .nil .nil .nil .nil) (fun a0 a1 a2 a3 a4 a5 a6 a7 a8 a9 aa ab ac ad ae af => fun v => .mk a0 a1 a2 a3 a4 a5 a6 a7 v a9 aa ab ac ad ae af) x v
def O4.s9 (v : O3) (x : O4) : O4 := O4.rec (motive := fun _ => O3 → O4) (fun v => .mk .nil .nil .nil .nil .nil .nil .nil .nil .nil v .nil .nil .nil .nil .nil .nil) (fun a0 a1 a2 a3 a4 a5 a6 a7 a8 a9 aa ab ac ad ae af => fun v => .mk a0 a1 a2 a3 a4 a5 a6 a7 a8 v aa ab ac ad ae af) x v
def O4.sa (v : O3) (x : O4) : O4 := O4.rec (motive := fun _ => O3 → O4) (fun v => .mk .nil .nil .nil .nil .nil .nil .nil .nil .nil .nil v .nil .nil .nil .nil .nil) (fun a0 a1 a2 a3 a4 a5 a6 a7 a8 a9 aa ab ac ad ae af => fun v => .mk a0 a1 a2 a3 a4 a5 a6 a7 a8 a9 v ab ac ad ae af) x v
def O4.sb (v : O3) (x : O4) : O4 := O4.rec (motive := fun _ => O3 → O4) (fun v => .mk .nil .nil .nil .nil .nil .nil .nil .nil .nil .nil .nil v .nil .nil .nil .nil) (fun a0 a1 a2 a3 a4 a5 a6 a7 a8 a9 aa ab ac ad ae af => fun v => .mk a0 a1 a2 a3 a4 a5 a6 a7 a8 a9 aa v ac ad ae af) x v
def O4.sc (v : O3) (x : O4) : O4 := O4.rec (motive := fun _ => O3 → O4) (fun v => .mk .nil .nil .nil .nil .nil .nil .nil .nil .nil .nil .nil .nil v .nil .nil .nil) (fun a0 a1 a2 a3 a4 a5 a6 a7 a8 a9 aa ab ac ad ae af => fun v => .mk a0 a1 a2 a3 a4 a5 a6 a7 a8 a9 aa ab v ad ae af) x v
def O4.sd (v : O3) (x : O4) : O4 := O4.rec (motive := fun _ => O3 → O4) (fun v => .mk .nil .nil .nil .nil .nil .nil .nil .nil .nil .nil .nil .nil .nil v .nil .nil) (fun a0 a1 a2 a3 a4 a5 a6 a7 a8 a9 aa ab ac ad ae af => fun v => .mk a0 a1 a2 a3 a4 a5 a6 a7 a8 a9 aa ab ac v ae af) x v
def O4.se (v : O3) (x : O4) : O4 := O4.rec (motive := fun _ => O3 → O4) (fun v => .mk .nil .nil .nil .nil .nil .nil .nil .nil .nil .nil .nil .nil .nil .nil v .nil) (fun a0 a1 a2 a3 a4 a5 a6 a7 a8 a9 aa ab ac ad ae af => fun v => .mk a0 a1 a2 a3 a4 a5 a6 a7 a8 a9 aa ab ac ad v af) x v
def O4.sf (v : O3) (x : O4) : O4 := O4.rec (motive := fun _ => O3 → O4) (fun v => .mk .nil .nil .nil .nil .nil .nil .nil .nil .nil .nil .nil .nil .nil .nil .nil v) (fun a0 a1 a2 a3 a4 a5 a6 a7 a8 a9 aa ab ac ad ae af => fun v => .mk a0 a1 a2 a3 a4 a5 a6 a7 a8 a9 aa ab ac ad ae v) x v
def O4.set (d : H) : O3 → O4 → O4 := H.rec (motive := fun _ => O3 → O4 → O4) O4.s0 O4.s1 O4.s2 O4.s3 O4.s4 O4.s5 O4.s6 O4.s7 O4.s8 O4.s9 O4.sa O4.sb O4.sc O4.sd O4.se O4.sf d
inductive T4 where
 | mk (t : O4) (f : Nat → Nat → Obj)
inductive Hp where
 | mk (t : T4) (nx : P4)
inductive RV where
 | ok (v : AV) (h : Hp)
 | err (n : Nat)
inductive RT where
 | ok (v : AV) (h : Hp)
 | err (n : Nat)
 | ch (n : Nat) (k : Nat → RT)
inductive RS where
 | nm (r : A2) (h : Hp)
 | ex (i : Nat) (r : A2) (h : Hp)
 | go (l : Nat) (r : A2) (h : Hp)
 | ret (r : A2) (h : Hp)
 | err (n : Nat)
 | ch (n : Nat) (k : Nat → RS)
def RT.elim {β : Type} (f : AV → Hp → β) (e : Nat → β) (c : Nat → (Nat → β) → β) (x : RT) : β := RT.rec f e (fun n _ ih => c n ih) x
def RS.elim {β : Type} (f1 : A2 → Hp → β) (f2 : Nat → A2 → Hp → β) (f3 : Nat → A2 → Hp → β) (f4 : A2 → Hp → β) (e : Nat → β) (c : Nat → (Nat → β) → β) (x : RS) : β := RS.rec f1 f2 f3 f4 e (fun n _ ih => c n ih) x
def xY {β : Type} (z : β) (s : Nat → β → β) (n : Nat) : β := Nat.rec z s n
def P4.succ (p : P4) : P4 := P4.rec (fun a b c d =>
 Bool.rec (.mk a b c d.succ) (Bool.rec (.mk a b c.succ .h0) (Bool.rec (.mk a b.succ .h0 .h0) (.mk a.succ .h0 .h0 .h0) b.last) c.last) d.last) (fun b _ => .eN (Nat.succ b) 0) p
def cJ (p : P4) (t : T4) : Obj := T4.rec (fun t f => P4.rec (fun a b c d => O1.get d (O2.get c (O3.get b (O4.get a t)))) (fun b o => f b o) p) t
def Hp.tree (h : Hp) : T4 := Hp.rec (fun t _ => t) h
def Hp.next (h : Hp) : P4 := Hp.rec (fun _ n => n) h
def ag (p : P4) (h : Hp) : Obj := cJ p h.tree
def Qq (a b c d : H) (o : Obj) (t4 : O4) (t3 : O3) (t2 : O2) : O4 := O4.set a (O3.set b (O2.set c (O1.set d o (O2.get c t2)) t2) t3) t4
def Qw (a b c d : H) (o : Obj) (t4 : O4) (t3 : O3) : O4 := Qq a b c d o t4 t3 (O3.get b t3)
def Uv (b c : Nat) (o : Obj) (f : Nat → Nat → Obj) (m n : Nat) : Obj := Bool.rec (f m n) (Bool.rec (f m n) o (Nat.beq n c)) (Nat.beq m b)
def df (p : P4) (o : Obj) (t : T4) : T4 := T4.rec (fun t f => P4.rec (fun a b c d => .mk (Qw a b c d o t (O4.get a t)) f) (fun b c => .mk t (Uv b c o f)) p) t
def cM (p : P4) (o : Obj) (h : Hp) : Hp := .mk (df p o h.tree) h.next
def isNone (o : Obj) : Bool := Obj.rec true false (fun _ _ _ _ _ => false) (fun _ _ => false) (fun _ _ => false) (fun _ _ _ _ => false) false o
def fZ (o : Obj) (h : Hp) (k : P4 → Hp → RV) : RV := Hp.rec (fun t nx =>
 Bool.rec (.err 1) (k nx (.mk (df nx o t) nx.succ)) (isNone (cJ nx t))) h
def an (a b : H) (r : A2) : AV := A1.get b (A2.get a r)
def jG (a b : H) (v : AV) (r : A2) : A2 := A2.set a (A1.set b v (A2.get a r)) r
def g2 (i : Nat) (x : A2) : AV := A1.get (dw (Nat.mod i 16)) (A2.get (dw (Nat.div i 16)) x)
def g3 (i : Nat) (x : A3) : AV := g2 (Nat.mod i 256) (A3.get (dw (Nat.div i 256)) x)
def g4 (i : Nat) (x : A4) : AV := g3 (Nat.mod i 4096) (A4.get (dw (Nat.div i 4096)) x)
def g1 (i : Nat) (x : A1) : AV := A1.get (dw i) x
def eO (i : Nat) (c : Cl) : AV := Cl.rec (motive := fun _ => Nat → AV) (fun x i => g1 i x) (fun x i => g2 i x) (fun x i => g3 i x) (fun x i => g4 i x) (fun _ f i => f i) c i
def t1 (i : Nat) (v : AV) (x : A1) : A1 := A1.set (dw i) v x
def Vd (d : H) (i : Nat) (v : AV) (x : A2) : A2 := A2.set d (t1 i v (A2.get d x)) x
def t2 (i : Nat) (v : AV) (x : A2) : A2 := Vd (dw (Nat.div i 16)) (Nat.mod i 16) v x
def Ve (d : H) (i : Nat) (v : AV) (x : A3) : A3 := A3.set d (t2 i v (A3.get d x)) x
def t3 (i : Nat) (v : AV) (x : A3) : A3 := Ve (dw (Nat.div i 256)) (Nat.mod i 256) v x
def Vf (d : H) (i : Nat) (v : AV) (x : A4) : A4 := A4.set d (t3 i v (A4.get d x)) x
def t4 (i : Nat) (v : AV) (x : A4) : A4 := Vf (dw (Nat.div i 4096)) (Nat.mod i 4096) v x
def Uw (i : Nat) (v : AV) (f : Nat → AV) (j : Nat) : AV := Bool.rec (f j) v (Nat.beq j i)
def mi (i : Nat) (v : AV) (c : Cl) : Cl := Cl.rec (motive := fun _ => Nat → AV → Cl) (fun x i v => .k1 (t1 i v x)) (fun x i v => .k2 (t2 i v x)) (fun x i v => .k3 (t3 i v x)) (fun x i v => .k4 (t4 i v x)) (fun m f i v => .kf m (Uw i v f)) c i v
def bz (c : Cl) : Nat := Cl.rec (fun _ => 16) (fun _ => 256) (fun _ => 4096) (fun _ => 65536) (fun m _ => m) c
def BW (c : Cl) : Nat := Cl.rec (fun _ => 16) (fun _ => 256) (fun _ => 4096) (fun _ => 65536) (fun m _ => Bool.rec 0 m (Nat.ble m 16777216)) c
def bE (c : Cl) : Cl := Cl.rec (fun x => .k2 (A2.s0 x .nil)) (fun x => .k3 (A3.s0 x .nil)) (fun x => .k4 (A4.s0 x .nil)) (fun x => .kf 16777216 (fun i => g4 i x)) (fun m f => .kf m f) c
def kZ (n : Nat) (c : Cl) : Cl := Bool.rec (Bool.rec (Bool.rec (Bool.rec (bE (bE (bE (bE c)))) (bE (bE (bE c))) (Nat.ble n (bz (bE (bE (bE c)))))) (bE (bE c)) (Nat.ble n (bz (bE (bE c))))) (bE c) (Nat.ble n (bz (bE c)))) c (Nat.ble n (bz c))
def cG (l : List AV) : Nat → Cl → Cl := dJ (fun _ c => c) (fun v _ ih i c => ih (Nat.succ i) (mi i v c)) l
def IQ : Cl := .k1 .nil
def ox (l : List AV) : Cl := cG l 0 (kZ l.length IQ)
def bI (n : Nat) : Cl → Nat → List AV := Nat.rec (fun _ _ => .nil) (fun _ ih c i => .cons (eO i c) (ih c (Nat.succ i))) n
inductive AO where
 | t (a b : H)
 | c (v : AV)
def ev (x : AO) (r : A2) : AV := AO.rec (motive := fun _ => A2 → AV) an (fun v _ => v) x r
def QJ (a b : Int) : Int := Int.rec (motive := fun _ => Int → Int) (fun m b => Int.rec (fun n => .ofNat (Nat.add m n)) (fun n => Int.subNatNat m (Nat.succ n)) b) (fun m b => Int.rec (fun n => Int.subNatNat n (Nat.succ m)) (fun n => .negSucc (Nat.succ (Nat.add m n))) b) a b
def QK (a : Int) : Int := Int.rec (fun m => Int.negOfNat m) (fun m => .ofNat (Nat.succ m)) a
def MT (a b : Int) : Int := Int.rec (motive := fun _ => Int → Int) (fun m b => Int.rec (fun n => .ofNat (Nat.mul m n)) (fun n => Int.mul (.ofNat m) (.negSucc n)) b) (fun m b => Int.mul (.negSucc m) b) a b
def QL (a b : Int) : Int := Int.rec (motive := fun _ => Int → Int) (fun m b => Int.rec (fun n => .ofNat (Nat.div m n)) (fun n => Int.tdiv (.ofNat m) (.negSucc n)) b) (fun m b => Int.tdiv (.negSucc m) b) a b
def IU (a b : Int) : Int := Int.rec (motive := fun _ => Int → Int) (fun m b => Int.rec (fun n => .ofNat (Nat.mod m n)) (fun n => Int.tmod (.ofNat m) (.negSucc n)) b) (fun m b => Int.tmod (.negSucc m) b) a b
def SS (a b : Int) : Bool := Int.rec (motive := fun _ => Int → Bool) (fun m b => Int.rec (fun n => Nat.ble m n) (fun _ => false) b) (fun m b => Int.rec (fun _ => true) (fun n => Nat.ble n m) b) a b
def MU (a b : Int) : Bool := Int.rec (motive := fun _ => Int → Bool) (fun m b => Int.rec (fun n => Nat.ble (Nat.succ m) n) (fun _ => false) b) (fun m b => Int.rec (fun _ => true) (fun n => Nat.ble (Nat.succ n) m) b) a b
def ub (a b : Int) : Bool := Int.rec (motive := fun _ => Int → Bool) (fun m b => Int.rec (fun n => Nat.beq m n) (fun _ => false) b) (fun m b => Int.rec (fun _ => false) (fun n => Nat.beq m n) b) a b
def wS (k : IntKind) (top : Nat) (n : Int) : Int := Int.rec (fun m => Bool.rec (k.wrap (.ofNat m)) (.ofNat m) (Nat.ble m top)) (fun m => Bool.rec (k.wrap (.negSucc m)) (.negSucc m) (Nat.ble m top)) n
def wU (k : IntKind) (size : Nat) (n : Int) : Int := Int.rec (fun m => .ofNat (Nat.mod m size)) (fun m => k.wrap (.negSucc m)) n
def jv (k : IntKind) : Int → Int := IntKind.rec (motive := fun _ => Int → Int) (wS .i8 127) (wS .i16 32767) (wS .i32 2147483647) (wS .i64 9223372036854775807) (wU .u8 256) (wU .u16 65536) (wU .u32 4294967296) (wU .u64 18446744073709551616) k
def mj (k : IntKind) : Nat := IntKind.rec 8 16 32 64 8 16 32 64 k
def Vg (k : IntKind) : Nat := IntKind.rec 0 1 2 3 4 5 6 7 k
def mc (a b : IntKind) : Bool := Nat.beq (Vg a) (Vg b)
def DM (f : Nat → Nat → Nat) (k : IntKind) (a b : Int) : AV := Int.rec (fun m => Int.rec (fun n => .int k (jv k (.ofNat (f (Nat.mod m (Nat.pow 2 (mj k))) (Nat.mod n (Nat.pow 2 (mj k))))))) (fun _ => .undef) b) (fun _ => .undef) a
inductive OI where
 | no
 | yes (k : IntKind) (n : Int)
inductive OB where
 | no
 | yes (b : Bool)
inductive OS where
 | no
 | yes (l : List Nat)
inductive OP where
 | no
 | yes (i : P4) (o : Nat)
inductive OL where
 | no
 | yes (l : List AV)
inductive OM where
 | no
 | nil
 | yes (i : P4)
inductive OC where
 | no
 | yes (k : FloatKind) (a b : Nat)
inductive OF where
 | no
 | yes (k : FloatKind) (a : Nat)
inductive Ux where
 | no
 | nil
 | ex (i : P4) (o n c : Nat)
 | rs (i : P4) (o n e : Nat)
inductive Vh where
 | no
 | yes (el n : Nat) (ex : Bool) (fl : Fl) (c : Cl)
inductive Uy where
 | no
 | yes (l : List KV) (clock : Nat)
inductive Uc where
 | no
 | yes (f : Nat) (cs : List AV)
inductive Ud where
 | no
 | nil
 | yes (t : Nat) (v : AV)
def AV.asInt (x : AV) : OI := AV.rec (motive_2 := fun _ => PUnit) .no (fun _ => .no) (fun k n => .yes k n) (fun _ => .no) (fun _ _ => .no) (fun _ _ _ => .no) (fun _ _ => .no) .no (fun _ _ _ _ => .no) (fun _ _ _ _ => .no) .no (fun _ => .no) .no (fun _ _ _ => .no) .no (fun _ _ _ => .no) .no (fun _ _ => .no) (fun _ _ => .no) (fun _ => .no) PUnit.unit (fun _ _ _ _ => PUnit.unit) x
def AV.asBool (x : AV) : OB := AV.rec (motive_2 := fun _ => PUnit) .no (fun b => .yes b) (fun _ _ => .no) (fun _ => .no) (fun _ _ => .no) (fun _ _ _ => .no) (fun _ _ => .no) .no (fun _ _ _ _ => .no) (fun _ _ _ _ => .no) .no (fun _ => .no) .no (fun _ _ _ => .no) .no (fun _ _ _ => .no) .no (fun _ _ => .no) (fun _ _ => .no) (fun _ => .no) PUnit.unit (fun _ _ _ _ => PUnit.unit) x
def AV.DN (x : AV) : OS := AV.rec (motive_2 := fun _ => PUnit) .no (fun _ => .no) (fun _ _ => .no) (fun l => .yes l) (fun _ _ => .no) (fun _ _ _ => .no) (fun _ _ => .no) .no (fun _ _ _ _ => .no) (fun _ _ _ _ => .no) .no (fun _ => .no) .no (fun _ _ _ => .no) .no (fun _ _ _ => .no) .no (fun _ _ => .no) (fun _ _ => .no) (fun _ => .no) PUnit.unit (fun _ _ _ _ => PUnit.unit) x
def AV.gS (x : AV) : OP := AV.rec (motive_2 := fun _ => PUnit) .no (fun _ => .no) (fun _ _ => .no) (fun _ => .no) (fun _ _ => .no) (fun _ _ _ => .no) (fun i o => .yes i o) .no (fun _ _ _ _ => .no) (fun _ _ _ _ => .no) .no (fun _ => .no) .no (fun _ _ _ => .no) .no (fun _ _ _ => .no) .no (fun _ _ => .no) (fun _ _ => .no) (fun _ => .no) PUnit.unit (fun _ _ _ _ => PUnit.unit) x
def AV.asAgg (x : AV) : OL := AV.rec (motive_2 := fun _ => PUnit) .no (fun _ => .no) (fun _ _ => .no) (fun _ => .no) (fun _ _ => .no) (fun _ _ _ => .no) (fun _ _ => .no) .no (fun _ _ _ _ => .no) (fun _ _ _ _ => .no) .no (fun _ => .no) .no (fun _ _ _ => .no) .no (fun _ _ _ => .no) .no (fun l _ => .yes l) (fun _ _ => .no) (fun _ => .no) PUnit.unit (fun _ _ _ _ => PUnit.unit) x
def AV.IV (x : AV) : OL := AV.rec (motive_2 := fun _ => PUnit) .no (fun _ => .no) (fun _ _ => .no) (fun _ => .no) (fun _ _ => .no) (fun _ _ _ => .no) (fun _ _ => .no) .no (fun _ _ _ _ => .no) (fun _ _ _ _ => .no) .no (fun _ => .no) .no (fun _ _ _ => .no) .no (fun _ _ _ => .no) .no (fun _ _ => .no) (fun l _ => .yes l) (fun _ => .no) PUnit.unit (fun _ _ _ _ => PUnit.unit) x
def AV.Aj (x : AV) : OM := AV.rec (motive_2 := fun _ => PUnit) .no (fun _ => .no) (fun _ _ => .no) (fun _ => .no) (fun _ _ => .no) (fun _ _ _ => .no) (fun _ _ => .no) .no (fun _ _ _ _ => .no) (fun _ _ _ _ => .no) .no (fun i => .yes i) .nil (fun _ _ _ => .no) .no (fun _ _ _ => .no) .no (fun _ _ => .no) (fun _ _ => .no) (fun _ => .no) PUnit.unit (fun _ _ _ _ => PUnit.unit) x
def AV.QM (x : AV) : OC := AV.rec (motive_2 := fun _ => PUnit) .no (fun _ => .no) (fun _ _ => .no) (fun _ => .no) (fun _ _ => .no) (fun k a b => .yes k a b) (fun _ _ => .no) .no (fun _ _ _ _ => .no) (fun _ _ _ _ => .no) .no (fun _ => .no) .no (fun _ _ _ => .no) .no (fun _ _ _ => .no) .no (fun _ _ => .no) (fun _ _ => .no) (fun _ => .no) PUnit.unit (fun _ _ _ _ => PUnit.unit) x
def AV.SU (x : AV) : OF := AV.rec (motive_2 := fun _ => PUnit) .no (fun _ => .no) (fun _ _ => .no) (fun _ => .no) (fun k a => .yes k a) (fun _ _ _ => .no) (fun _ _ => .no) .no (fun _ _ _ _ => .no) (fun _ _ _ _ => .no) .no (fun _ => .no) .no (fun _ _ _ => .no) .no (fun _ _ _ => .no) .no (fun _ _ => .no) (fun _ _ => .no) (fun _ => .no) PUnit.unit (fun _ _ _ _ => PUnit.unit) x
def AV.SV (x : AV) : Ux := AV.rec (motive_2 := fun _ => PUnit) .no (fun _ => .no) (fun _ _ => .no) (fun _ => .no) (fun _ _ => .no) (fun _ _ _ => .no) (fun _ _ => .no) .no (fun i o n c => .ex i o n c) (fun i o n e => .rs i o n e) .nil (fun _ => .no) .no (fun _ _ _ => .no) .no (fun _ _ _ => .no) .no (fun _ _ => .no) (fun _ _ => .no) (fun _ => .no) PUnit.unit (fun _ _ _ _ => PUnit.unit) x
def AV.QN (x : AV) : Uc := AV.rec (motive_2 := fun _ => PUnit) .no (fun _ => .no) (fun _ _ => .no) (fun _ => .no) (fun _ _ => .no) (fun _ _ _ => .no) (fun _ _ => .no) .no (fun _ _ _ _ => .no) (fun _ _ _ _ => .no) .no (fun _ => .no) .no (fun f cs _ => .yes f cs) .no (fun _ _ _ => .no) .no (fun _ _ => .no) (fun _ _ => .no) (fun _ => .no) PUnit.unit (fun _ _ _ _ => PUnit.unit) x
def AV.QO (x : AV) : Ud := AV.rec (motive_2 := fun _ => PUnit) .no (fun _ => .no) (fun _ _ => .no) (fun _ => .no) (fun _ _ => .no) (fun _ _ _ => .no) (fun _ _ => .no) .no (fun _ _ _ _ => .no) (fun _ _ _ _ => .no) .no (fun _ => .no) .no (fun _ _ _ => .no) .no (fun t v _ => .yes t v) .nil (fun _ _ => .no) (fun _ _ => .no) (fun _ => .no) PUnit.unit (fun _ _ _ _ => PUnit.unit) x
inductive EB where
 | yes
 | no
 | bad
def AV.isNil (x : AV) : EB := AV.rec (motive_2 := fun _ => PUnit) .bad (fun _ => .bad) (fun _ _ => .bad) (fun _ => .bad) (fun _ _ => .bad) (fun _ _ _ => .bad) (fun _ _ => .no) .yes (fun _ _ _ _ => .no) (fun _ _ _ _ => .no) .yes (fun _ => .no) .yes (fun _ _ _ => .no) .yes (fun _ _ _ => .no) .yes (fun _ _ => .bad) (fun _ _ => .bad) (fun _ => .bad) PUnit.unit (fun _ _ _ _ => PUnit.unit) x
def Obj.MV (o : Obj) : Vh := Obj.rec .no .no (fun a b c d e => .yes a b c d e) (fun _ _ => .no) (fun _ _ => .no) (fun _ _ _ _ => .no) .no o
def Obj.Aj (o : Obj) : Uy := Obj.rec .no .no (fun _ _ _ _ _ => .no) (fun a b => .yes a b) (fun _ _ => .no) (fun _ _ _ _ => .no) .no o
def AV.dC {β : Type} (x : AV) (k : IntKind → Int → β) (e : β) : β := OI.rec e k x.asInt
def AV.bF {β : Type} (x : AV) (k : Bool → β) (e : β) : β := OB.rec e k x.asBool
def AV.jw {β : Type} (x : AV) (k : List Nat → β) (e : β) : β := OS.rec e k x.DN
def AV.fc {β : Type} (x : AV) (k : P4 → Nat → β) (e : β) : β := OP.rec e k x.gS
def AV.nU {β : Type} (x : AV) (k : List AV → β) (e : β) : β := OL.rec e k x.asAgg
def AV.DP {β : Type} (x : AV) (k : List AV → β) (e : β) : β := OL.rec e k x.IV
def AV.eD {β : Type} (x : AV) (k : P4 → β) (n e : β) : β := OM.rec e n k x.Aj
def AV.uB {β : Type} (x : AV) (k : FloatKind → Nat → Nat → β) (e : β) : β := OC.rec e k x.QM
def AV.rT {β : Type} (x : AV) (k : FloatKind → Nat → β) (e : β) : β := OF.rec e k x.SU
def AV.ml {β : Type} (x : AV) (k k' : P4 → Nat → Nat → Nat → β) (n e : β) : β := Ux.rec e n k k' x.SV
def AV.GS {β : Type} (x : AV) (k : Nat → List AV → β) (e : β) : β := Uc.rec e k x.QN
def AV.BX {β : Type} (x : AV) (k : Nat → AV → β) (n e : β) : β := Ud.rec e n k x.QO
def Obj.aU {β : Type} (o : Obj) (k : Nat → Nat → Bool → Fl → Cl → β) (e : β) : β := Vh.rec e k o.MV
def Obj.eD {β : Type} (o : Obj) (k : List KV → Nat → β) (e : β) : β := Uy.rec e k o.Aj
def AV.one (x : AV) : Bool := AV.rec (motive_2 := fun _ => PUnit) false (fun _ => true) (fun _ _ => true) (fun _ => true) (fun _ _ => true) (fun _ _ _ => true) (fun _ _ => true) true (fun _ _ _ _ => true) (fun _ _ _ _ => true) true (fun _ => true) true (fun _ _ _ => true) true (fun _ _ _ => true) true (fun _ _ => false) (fun _ _ => false) (fun _ => false) PUnit.unit (fun _ _ _ _ => PUnit.unit) x
def AV.cs (x : AV) : List AV := OL.rec (.cons x .nil) (fun l => l) x.asAgg
def iw (a b : List Nat) : Bool := dJ (β := List Nat → Bool) (fun b => List.rec true (fun _ _ _ => false) b)
 (fun x _ ih b => List.rec false (fun y b _ => Bool.rec false (ih b) (Nat.beq x y)) b) a b
def wE (a b : List Nat) : Bool := dJ (β := List Nat → Bool) (fun b => List.rec false (fun _ _ _ => true) b)
 (fun x _ ih b => List.rec false (fun y b _ => Bool.rec (Nat.ble x y) (ih b) (Nat.beq x y)) b) a b
def pJ (a b : H) : Bool := Nat.beq a.nat b.nat
def qw (a b : P4) : Bool := P4.rec (fun a1 a2 a3 a4 => P4.rec (fun b1 b2 b3 b4 =>
 Bool.rec false (Bool.rec false (Bool.rec false (pJ a1 b1) (pJ a2 b2)) (pJ a3 b3)) (pJ a4 b4)) (fun _ _ => false) b) (fun m n => P4.rec (fun _ _ _ _ => false) (fun m2 n2 => Bool.rec false (Nat.beq n n2) (Nat.beq m m2)) b) a
def kL (a b : Bool) : Bool := Bool.rec (Bool.rec true false b) b a
def EB.of (b : Bool) : EB := Bool.rec .no .yes b
def fC (o : Obj) : Bool := Obj.aU o (fun _ _ _ fl _ => Fl.rec true false false false fl) false
inductive KK where
 | b | i | s | p
def Ue (x y : AV) : EB := OB.rec .bad (fun a => OB.rec .bad (fun b => .of (kL a b)) y.asBool) x.asBool
def Vs (x y : AV) : EB := OI.rec .bad (fun k a => OI.rec .bad (fun k' b => Bool.rec .bad (.of (ub a b)) (mc k k')) y.asInt) x.asInt
def Vt (x y : AV) : EB := OS.rec .bad (fun a => OS.rec .bad (fun b => .of (iw a b)) y.DN) x.DN
def fD (x : AV) : Bool := AV.rec (motive_2 := fun _ => PUnit) false (fun _ => false) (fun _ _ => false) (fun _ => false) (fun _ _ => false) (fun _ _ _ => false) (fun _ _ => false) true (fun _ _ _ _ => false) (fun _ _ _ _ => false) false (fun _ => false) false (fun _ _ _ => false) false (fun _ _ _ => false) false (fun _ _ => false) (fun _ _ => false) (fun _ => false) PUnit.unit (fun _ _ _ _ => PUnit.unit) x
def QP (h : Hp) (x y : AV) : EB := OP.rec (Bool.rec .bad (OP.rec (Bool.rec .bad .yes (fD y)) (fun _ _ => .no) y.gS) (fD x)) (fun i o => OP.rec (Bool.rec .bad .no (fD y)) (fun j q => Bool.rec (Bool.rec .bad (Bool.rec .bad .no (fC (ag j h))) (fC (ag i h))) (.of (Nat.beq o q)) (qw i j)) y.gS) x.gS
def DQ (k : KK) (h : Hp) (x y : AV) : EB := KK.rec (Ue x y) (Vs x y) (Vt x y) (QP h x y) k
def tc (ks : List KK) (h : Hp) (a b : List AV) : EB := dJ (β := List AV → List AV → EB) (fun a b => List.rec (List.rec .yes (fun _ _ _ => .bad) b) (fun _ _ _ => .bad) a)
 (fun k _ ih a b => List.rec .bad (fun x a _ => List.rec .bad (fun y b _ => EB.rec (ih a b) (EB.rec .no .no .bad (ih a b)) .bad (DQ k h x y)) b) a) ks a b
def EB.rv (neg : Bool) (h : Hp) (e : EB) : RV := EB.rec (.ok (.bool (Bool.not neg)) h) (.ok (.bool neg) h) (.err 2) e
def SX (_ : Hp) (x y : AV) : EB := AV.BX x (fun t _ => AV.BX y (fun u _ => Bool.rec .no .bad (Nat.beq t u)) .no .bad)
 (AV.BX y (fun _ _ => .no) .bad .bad) .bad
inductive Part where
 | mk (off sz : Nat) (x : AO)
inductive NK where
 | s | m | f | i
def QQ (x : AV) : EB := AV.rec (motive_2 := fun _ => PUnit) .bad (fun _ => .bad) (fun _ _ => .bad) (fun _ => .bad) (fun _ _ => .bad) (fun _ _ _ => .bad) (fun _ _ => .bad) .bad (fun _ _ _ _ => .bad) (fun _ _ _ _ => .bad) .bad (fun _ => .bad) .bad (fun _ _ _ => .no) .yes (fun _ _ _ => .bad) .bad (fun _ _ => .bad) (fun _ _ => .bad) (fun _ => .bad) PUnit.unit (fun _ _ _ _ => PUnit.unit) x
def tM (k : NK) (x : AV) : EB := NK.rec (Ux.rec .bad .yes (fun _ _ _ _ => .no) (fun _ _ _ _ => .no) x.SV) (OM.rec .bad .yes (fun _ => .no) x.Aj) (QQ x) (Ud.rec .bad .yes (fun _ _ => .no) x.QO) k
inductive BK where
 | add | sub | mul | quo | rem | and | or | xor | Sx | shl | shr
 | eq | ne | lt | le | gt | ge
 | seq | Si | slt | sle | UU | UW | cat
 | beq | bne | qw | Uk | jR (k : NK) | rM (k : NK)
 | UX (ks : List KK) | PX (ks : List KK)
 | Sy (op : BinOp)
 | UY (op : BinOp)
 | ub | Vr
inductive UK where
 | not | neg | Va
inductive CK where
 | same | toInt (k : IntKind) | UZ (el : Nat) | LP | VD | Um (k : FloatKind) | Un (k : IntKind) | Vo (el : Nat) | Ul | GR (u sz : Nat)
inductive OA where
 | none
 | some (x : AO)
def MW (v : AV) (h : Hp) : RV := EB.rec (.ok v h) (.err 3) (.err 3) (OI.rec (OB.rec .bad (fun _ => .yes) v.asBool) (fun _ _ => .yes) v.asInt)
def BP (f : IntKind → Int → Int → AV) (x y : AV) (h : Hp) : RV := AV.dC x (fun k a => AV.dC y (fun k' b => Bool.rec (.err 4) (.ok (f k a b) h) (mc k k')) (.err 4)) (.err 4)
def ME (f : IntKind → Int → Int → AV) (x y : AV) (h : Hp) : RV := AV.dC x (fun k a => AV.dC y (fun k' b => Bool.rec (.err 4) (MW (f k a b) h) (mc k k')) (.err 4)) (.err 4)
def MF (f : List Nat → List Nat → AV) (x y : AV) (h : Hp) : RV := AV.jw x (fun a => AV.jw y (fun b => .ok (f a b) h) (.err 5)) (.err 5)
def Sj (f : IntKind → Int → Int → AV) (x y : AV) (h : Hp) : RV := AV.dC x (fun k a => AV.dC y (fun _ b => MW (f k a b) h) (.err 6)) (.err 6)
def QR (k : IntKind) (a b : Int) : AV := Int.rec (fun n => .int k (jv k (MT a (.ofNat (Nat.pow 2 (Nat.min n (mj k))))))) (fun _ => .undef) b
def QS (k : IntKind) (a b : Int) : AV := Int.rec (fun n => Int.rec (fun m => .int k (.ofNat (Nat.div m (Nat.pow 2 (Nat.min n (mj k)))))) (fun m => .int k (Int.fdiv (.negSucc m) (2 ^ (Nat.min n (mj k))))) a) (fun _ => .undef) b
def MG (k : FloatKind) (op : BinOp) (a b : Nat) (h : Hp) : RV :=
 let c := k.format.order a b
 match op with
 | .eql => .ok (.bool (c == some .eq)) h
 | .neq => .ok (.bool (c != some .eq)) h
 | .lss => .ok (.bool (c == some .lt)) h
 | .leq => .ok (.bool (c == some .lt || c == some .eq)) h
 | .gtr => .ok (.bool (c == some .gt)) h
 | .geq => .ok (.bool (c == some .gt || c == some .eq)) h
 | .add => match k.format.add a b with | some r => .ok (.nG k r) h | none => .err 7
 | .sub => match k.format.sub a b with | some r => .ok (.nG k r) h | none => .err 7
 | .mul => match k.format.mul a b with | some r => .ok (.nG k r) h | none => .err 7
 | .quo => match k.format.div a b with | some r => .ok (.nG k r) h | none => .err 7
 | _ => .err 7
def DC (k : FloatKind) (op : BinOp) (a b c d : Nat) (h : Hp) : RV :=
 match op with
 | .add => match k.format.add a c, k.format.add b d with | some r, some s => .ok (.iq k r s) h | _, _ => .err 8
 | .sub => match k.format.sub a c, k.format.sub b d with | some r, some s => .ok (.iq k r s) h | _, _ => .err 8
 | .eql => .ok (.bool (k.format.order a c == some .eq && k.format.order b d == some .eq)) h
 | .neq => .ok (.bool (!(k.format.order a c == some .eq && k.format.order b d == some .eq))) h
 | _ => .err 8
def xW (a b : FloatKind) : Bool := FloatKind.rec (FloatKind.rec true false b) (FloatKind.rec false true b) a
def jx : AV → AV → Hp → RV := BP (fun k a b => .int k (jv k (QJ a b)))
def nV : AV → AV → Hp → RV := BP (fun k a b => .int k (jv k (QJ a (QK b))))
def IW : AV → AV → Hp → RV := BP (fun k a b => .int k (jv k (MT a b)))
def IX : AV → AV → Hp → RV := ME (fun k a b => Bool.rec (.int k (jv k (QL a b))) .undef (ub b (.ofNat 0)))
def DR : AV → AV → Hp → RV := ME (fun k a b => Bool.rec (.int k (IU a b)) .undef (ub b (.ofNat 0)))
def wF : AV → AV → Hp → RV := ME (DM Nat.land)
def MX : AV → AV → Hp → RV := ME (DM Nat.lor)
def mq : AV → AV → Hp → RV := ME (DM Nat.xor)
def IY : AV → AV → Hp → RV := BP (fun k a b => .int k (k.wrap (BitVec.ofInt k.bits a &&& ~~~BitVec.ofInt k.bits b).toNat))
def uC : AV → AV → Hp → RV := BP (fun _ a b => .bool (ub a b))
def jL : AV → AV → Hp → RV := BP (fun _ a b => .bool (Bool.not (ub a b)))
def qR : AV → AV → Hp → RV := BP (fun _ a b => .bool (MU a b))
def IZ : AV → AV → Hp → RV := BP (fun _ a b => .bool (SS a b))
def dx : AV → AV → Hp → RV := BP (fun _ a b => .bool (MU b a))
def yn : AV → AV → Hp → RV := BP (fun _ a b => .bool (SS b a))
def dh : AV → AV → Hp → RV := MF (fun a b => .bool (iw a b))
def Ak : AV → AV → Hp → RV := MF (fun a b => .bool (Bool.not (iw a b)))
def Ja : AV → AV → Hp → RV := MF (fun a b => .bool (wE a b))
def Pd : AV → AV → Hp → RV := MF (fun a b => .bool (Bool.not (wE b a)))
def Pe : AV → AV → Hp → RV := MF (fun a b => .bool (wE b a))
def Pf : AV → AV → Hp → RV := MF (fun a b => .bool (Bool.not (wE a b)))
def zX (x y : AV) (h : Hp) : RV := AV.jw x (fun a => AV.jw y (fun b => Bool.rec (.err 135) (.ok (.str (List.append a b)) h) (Nat.ble (Nat.add a.length b.length) 4294967296)) (.err 5)) (.err 5)
def zY (neg : Bool) (ks : List KK) (x y : AV) (h : Hp) : RV := AV.nU x (fun a => AV.nU y (fun b => EB.rv neg h (tc ks h a b)) (.err 10)) (.err 10)
def Iz (op : BinOp) (x y : AV) (h : Hp) : RV := AV.rT x (fun k a => AV.rT y (fun k' b => Bool.rec (.err 7) (MG k op a b h) (xW k k')) (.err 7)) (.err 7)
def IA (op : BinOp) (x y : AV) (h : Hp) : RV := AV.uB x (fun k a b => AV.uB y (fun k' c d => Bool.rec (.err 8) (DC k op a b c d h) (xW k k')) (.err 8)) (.err 8)
def bK (op : BK) : AV → AV → Hp → RV := BK.rec (motive := fun _ => AV → AV → Hp → RV) jx nV IW IX DR wF MX mq IY (Sj QR) (Sj QS) uC jL qR IZ dx yn dh Ak Ja Pd Pe Pf zX (fun x y h => EB.rv false h (Ue x y)) (fun x y h => EB.rv true h (Ue x y)) (fun x y h => EB.rv false h (QP h x y)) (fun x y h => EB.rv true h (QP h x y)) (fun k x _ h => EB.rv false h (tM k x)) (fun k x _ h => EB.rv true h (tM k x)) (zY false) (zY true) Iz IA (fun x y h => EB.rv false h (SX h x y)) (fun x y h => EB.rv true h (SX h x y)) op
def Ph (op : BK) (x y : AO) (r : A2) (h : Hp) : RV := bK op (ev x r) (ev y r) h
def nT (x : AV) (h : Hp) : RV := AV.bF x (fun b => .ok (.bool (Bool.not b)) h) (.err 11)
def DF (x : AV) (h : Hp) : RV := AV.dC x (fun k n => .ok (.int k (jv k (QK n))) h) (.err 11)
def wA (x : AV) (h : Hp) : RV := AV.dC x (fun k n => .ok (.int k (k.wrap (BitVec.ofInt k.bits (if k.signed then -1 else k.max) ^^^ BitVec.ofInt k.bits n).toNat)) h) (.err 11)
def MD (op : UK) (x : AO) (r : A2) (h : Hp) : RV := UK.rec (motive := fun _ => AV → Hp → RV) nT DF wA op (ev x r) h
def MC (x : AO) (r : A2) (h : Hp) : RV := .ok (ev x r) h
def fU (c a b : AO) (r : A2) (h : Hp) : RV := AV.bF (ev c r) (fun t => .ok (Bool.rec (ev b r) (ev a r) t) h) (.err 12)
def qP : P4 → Hp → RV := fun i h => .ok (.ptr i 0) h
def ja (el : Nat) (ex : Bool) (fl : Fl) (n : Nat) (c : Cl) (h : Hp) (k : P4 → Hp → RV) : RV := Bool.rec (.err 130) (fZ (.cells el n ex fl c) h k) (Nat.ble n (BW c))
def MY (el : Nat) (l : List AV) (h : Hp) : RV := ja el true .plain l.length (ox l) h qP
def DT (el n : Nat) (c : Cl) (_ : A2) (h : Hp) : RV := ja el true .plain n c h qP
def zQ (el : Nat) (x : AO) (r : A2) (h : Hp) : RV := OL.rec (Bool.rec (.err 134) (MY el (.cons (ev x r) .nil) h) (ev x r).one) (fun l => MY el l h) (ev x r).asAgg
def MZ (l : List AV) (i : Nat) (v : AV) : List AV := dJ (β := Nat → List AV) (fun _ => .nil)
 (fun x t ih i => Nat.rec (.cons v t) (fun i _ => .cons x (ih i)) i) l i
def nR (vs : List AV) : Nat → List AV → List AV := dJ (fun _ l => l) (fun v _ ih i l => ih (Nat.succ i) (MZ l i v)) vs
def fill (ps : List Part) (r : A2) : List AV → List AV := dJ (fun l => l)
 (fun p _ ih l => Part.rec (fun off _ x => ih (nR (AV.cs (ev x r)) off l)) p) ps
def fits (ps : List Part) (r : A2) : Bool := dJ true (fun p _ ih => Part.rec (fun _ sz x => OL.rec (Bool.rec false ih (Bool.and (ev x r).one (Nat.beq sz 1))) (fun l => Bool.rec false ih (Nat.beq l.length sz)) (ev x r).asAgg) p) ps
def kW (z : List AV) (ps : List Part) (r : A2) (h : Hp) : RV := Bool.rec (.err 132) (.ok (.agg (fill ps r z)) h) (fits ps r)
def DU (el n : Nat) (l : List AV) (h : Hp) : RV := ja el true .plain l.length (ox l) h (fun i h => .ok (.slice i 0 n n) h)
def gB (el es n : Nat) (z : List AV) (ps : List Part) (r : A2) (h : Hp) : RV := Bool.rec (.err 133) (DU el n (fill ps r z) h) (fits ps r)
def Ha (i n : Nat) : Bool := Nat.ble (Nat.succ i) n
def jZ (x : AO) (r : A2) (h : Hp) : RV := AV.fc (ev x r) (fun i o => Obj.aU (ag i h) (fun _ n _ _ c =>
 Bool.rec (.err 13) (.ok (eO o c) h) (Ha o n)) (.err 14)) (.err 15)
def rR (m : Nat) (x : AO) (r : A2) (h : Hp) : RV := AV.fc (ev x r) (fun i o => Obj.aU (ag i h) (fun _ n _ _ c =>
 Bool.rec (.err 16) (.ok (.agg (bI m c o)) h) (Nat.ble (Nat.add o m) n)) (.err 17)) (.err 18)
def wr (fl : Fl) : Bool := Fl.rec true true false false fl
def Hf (fl : Fl) : Bool := Fl.rec false false false true fl
def ur (x y : AO) (r : A2) (h : Hp) : RV := AV.fc (ev x r) (fun i o => Obj.aU (ag i h) (fun el n ex fl c =>
 Bool.rec (.err 19) (Bool.rec (.err 20) (.ok .undef (cM i (.cells el n ex fl (mi o (ev y r) c)) h)) (Bool.and (Ha o n) (ev y r).one)) (wr fl)) (.err 21)) (.err 22)
def zR (m : Nat) (x y : AO) (r : A2) (h : Hp) : RV := AV.fc (ev x r) (fun i o => Obj.aU (ag i h) (fun el n ex fl c =>
 Bool.rec (.err 23) (Bool.rec (.err 24) (AV.nU (ev y r) (fun l => Bool.rec (.err 25) (.ok .undef (cM i (.cells el n ex fl (cG l o c)) h)) (Nat.beq l.length m)) (.err 26)) (Nat.ble (Nat.add o m) n)) (wr fl)) (.err 27)) (.err 28)
def sA (x : AV) (h : Hp) : RV := EB.rec (.err 30) (.ok x h) (.err 29) x.isNil
def qI (x : AO) (r : A2) (h : Hp) : RV := OP.rec (sA (ev x r) h) (fun i o => .ok (.ptr i o) h) (ev x r).gS
def SY (k : IntKind) : Bool := IntKind.rec false false false false true false false false k
def DV (k : IntKind) : Bool := IntKind.rec false false false true false false false false k
def eQ (l : List AV) (k : List Nat → RV) (e : RV) : RV := dJ (β := (List Nat → RV) → RV) (fun k => k .nil)
 (fun x _ ih k => AV.dC x (fun kd n => Bool.rec e (Int.rec (fun m => Bool.rec e (ih (fun s => k (.cons m s))) (Nat.ble m 255)) (fun _ => e) n) (SY kd)) e) l k
def byteCells (s : List Nat) : List AV := dJ .nil (fun b _ ih => .cons (.int .u8 (.ofNat b)) ih) s
def jo (es : Nat) (i : P4) (o n : Nat) (h : Hp) (k : List AV → RV) (e : RV) : RV := Nat.rec (k .nil) (fun n _ => Obj.aU (ag i h) (fun _ m _ _ c => Bool.rec e (k (bI (Nat.mul (Nat.succ n) es) c o)) (Nat.ble (Nat.add o (Nat.mul (Nat.succ n) es)) m)) e) n
def elems (es : Nat) (x : AV) (h : Hp) (k : List AV → RV) (e : RV) : RV := AV.ml x
 (fun i o n _ => jo es i o n h k e)
 (fun i o n es' => Bool.rec e (jo es i o n h k e) (Nat.beq es es'))
 (k .nil) e
def pL (el : Nat) (fl : Fl) (es : Nat) (n : Nat) (l : List AV) (h : Hp) : RV := ja el false fl l.length (ox l) h (fun i h => .ok (.fq i 0 n es) h)
def Na (s : List Nat) : List AV := (Conv.runesFrom ⟨(s.map UInt8.ofNat).toArray⟩ s.length 0 #[]).toList.filterMap fun | .int _ n => some (.int .i32 n) | _ => none
def Jb (el : Nat) (l : List AV) (h : Hp) : RV := pL el .plain 1 l.length l h
def Pj (el : Nat) (x : AV) (h : Hp) : RV := AV.jw x (fun s => pL el .mark 1 s.length (byteCells s) h) (.err 32)
def ym (k : IntKind) (x : AV) (h : Hp) : RV := AV.dC x (fun _ n => .ok (.int k (jv k n)) h) (.err 31)
def IE (x : AV) (h : Hp) : RV := elems 1 x h (fun l => eQ l (fun s => .ok (.str s) h) (.err 33)) (.err 34)
def Pb (x : AV) (h : Hp) : RV := AV.dC x (fun _ n => .ok (.str ((Utf8.encode n).data.toList.map (·.toNat))) h) (.err 35)
def IG (k : FloatKind) (x : AV) (h : Hp) : RV := AV.dC x (fun _ n => .ok (.nG k (k.nearest n)) h) (.err 36)
def IH (k : IntKind) (x : AV) (h : Hp) : RV := AV.rT x (fun s b => match (s.decode b).toInt .zero with | some n => if k.min ≤ n ∧ n ≤ k.max then .ok (.int k n) h else .err 37 | none => .err 37) (.err 37)
def SZ (el : Nat) (x : AV) (h : Hp) : RV := AV.jw x (fun s => Jb el (Na s) h) (.err 38)
def ID (x : AV) (h : Hp) : RV := AV.jw x (fun s => .ok (.str s) h) (.err 38)
def GZ (x : AV) (h : Hp) : RV := OP.rec (Bool.rec (.err 190) (.ok x h) (fD x)) (fun i o => Obj.aU (ag i h) (fun _ n ex _ _ => Bool.rec (.err 191) (.ok x h) (Bool.and ex (Ha o n))) (.err 192)) x.gS
def xL (u sz : Nat) (x : AV) (h : Hp) : RV := OP.rec (Bool.rec (.err 190) (.ok x h) (fD x)) (fun i o => Obj.aU (ag i h) (fun el n ex _ _ => Bool.rec (.err 193) (.ok x h) (Bool.and ex (Bool.and (Nat.beq o 0) (Bool.and (Nat.beq el u) (Nat.beq n sz))))) (.err 194)) x.gS
def cK (op : CK) : AV → Hp → RV := CK.rec (motive := fun _ => AV → Hp → RV) ID ym Pj IE Pb IG IH SZ GZ xL op
def tP (op : CK) (x : AO) (r : A2) (h : Hp) : RV := cK op (ev x r) h
def zS (t : Nat) (x : AO) (r : A2) (h : Hp) : RV := .ok (.iface t (ev x r)) h
def fL (xs : List AO) (r : A2) : List AV := dJ .nil (fun x _ ih => .cons (ev x r) ih) xs
def zT (f : Nat) (xs : List AO) (r : A2) (h : Hp) : RV := .ok (.fn f (fL xs r)) h
def xO (_ : A2) (h : Hp) : RV := fZ (.map .nil 0) h (fun i h => .ok (.map i) h)
def dM (n : Nat) (z : List AV) : List AV := Nat.rec .nil (fun _ ih => List.append z ih) n
def eK (x : AV) (k : Nat → RV) (e : RV) : RV := AV.dC x (fun _ n => Int.rec k (fun _ => e) n) e
def Ta (el l c : Nat) (v : List AV) (h : Hp) : RV := ja el true .plain v.length (ox v) h (fun i h => .ok (.slice i 0 l c) h)
def fV (el : Nat) (z : List AV) (l c : AO) (r : A2) (h : Hp) : RV := eK (ev l r) (fun l => eK (ev c r) (fun c =>
 Bool.rec (.err 39) (Bool.rec (.err 40) (Ta el l c (dM c z) h) (Nat.ble c 16777216)) (Nat.ble l c)) (.err 41)) (.err 41)
def fM (x : OA) (d : Nat) (r : A2) (k : Nat → RV) (e : RV) : RV := OA.rec (k d) (fun x => eK (ev x r) k e) x
def isSome (x : OA) : Bool := OA.rec false (fun _ => true) x
def IB (es : Nat) (i : P4) (o a b m cap : Nat) (h : Hp) : RV := Bool.rec (.err 42) (Bool.rec (.err 42) (Bool.rec (.err 42) (.ok (.slice i (Bool.rec (Nat.add o (Nat.mul a es)) o (Nat.beq m a)) (Nat.sub b a) (Nat.sub m a)) h) (Nat.ble m cap)) (Nat.ble b m)) (Nat.ble a b)
def OZ (es : Nat) (i : P4) (o a b : Nat) (h : Hp) : RV := Bool.rec (.err 42) (Obj.aU (ag i h) (fun _ k _ _ _ =>
 Bool.rec (.err 45) (.ok (.fq i (Nat.add o (Nat.mul a es)) (Nat.sub b a) es) h) (Nat.ble (Nat.add o (Nat.mul b es)) k)) (.err 46)) (Nat.ble a b)
def Pa (es : Nat) (i : P4) (o a b m : Nat) (h : Hp) : RV := Bool.rec (.err 42) (Bool.rec (.err 42) (Obj.aU (ag i h) (fun _ k _ _ _ =>
 Bool.rec (.err 45) (.ok (.slice i (Bool.rec (Nat.add o (Nat.mul a es)) o (Nat.beq m a)) (Nat.sub b a) (Nat.sub m a)) h) (Nat.ble (Nat.add o (Nat.mul m es)) k)) (.err 46)) (Bool.and (Nat.ble 1 m) (Nat.ble b m))) (Nat.ble a b)
def fN (es : Nat) (x : AO) (lo hi mx : OA) (r : A2) (h : Hp) : RV := AV.ml (ev x r)
 (fun i o n cap => fM mx cap r (fun m => fM hi n r (fun b => fM lo 0 r (fun a => IB es i o a b m cap h) (.err 43)) (.err 43)) (.err 43))
 (fun i o n es' => Bool.rec (.err 44) (fM hi n r (fun b => fM lo 0 r (fun a => Bool.rec (OZ es i o a b h) (fM mx 0 r (fun m => Pa es i o a b m h) (.err 43)) (isSome mx)) (.err 43)) (.err 43)) (Nat.beq es es'))
 (fM mx 0 r (fun m => fM hi 0 r (fun b => fM lo 0 r (fun a => Bool.rec (.err 47) (.ok .ar h) (Nat.beq (Nat.add m (Nat.add a b)) 0)) (.err 43)) (.err 43)) (.err 43))
 (.err 48)
def gM (x : AO) (lo hi : OA) (r : A2) (h : Hp) : RV := AV.jw (ev x r) (fun s => fM hi s.length r (fun b => fM lo 0 r (fun a =>
 Bool.rec (.err 49) (Bool.rec (.err 49) (.ok (.str (List.take (Nat.sub b a) (List.drop a s))) h) (Nat.ble b s.length)) (Nat.ble a b)) (.err 49)) (.err 49)) (.err 49)
def qJ (len es : Nat) (x : AO) (lo hi mx : OA) (r : A2) (h : Hp) : RV := AV.fc (ev x r) (fun i o => fM mx len r (fun m => fM hi len r (fun b => fM lo 0 r (fun a => IB es i o a b m len h) (.err 43)) (.err 43)) (.err 43)) (.err 50)
def uv (d : Nat) (x : AO) (r : A2) (h : Hp) : RV := AV.fc (ev x r) (fun i o => .ok (.ptr i (Nat.add o d)) h) (.err 51)
def qK (d : Nat) (x : AO) (r : A2) (h : Hp) : RV := AV.nU (ev x r) (fun l => List.rec (.err 52) (fun v _ _ => .ok v h) (List.drop d l)) (.err 52)
def qL (d n : Nat) (x : AO) (r : A2) (h : Hp) : RV := AV.nU (ev x r) (fun l => Bool.rec (.err 53) (.ok (.agg (List.take n (List.drop d l))) h) (Nat.ble (Nat.add d n) l.length)) (.err 53)
def FW (es : Nat) (i : P4) (o n k : Nat) (h : Hp) : RV := Bool.rec (.err 54) (.ok (.ptr i (Nat.add o (Nat.mul k es))) h) (Ha k n)
def uw (es : Nat) (x y : AO) (r : A2) (h : Hp) : RV := eK (ev y r) (fun k => AV.ml (ev x r)
 (fun i o n _ => FW es i o n k h) (fun i o n _ => FW es i o n k h) (.err 54) (.err 55)) (.err 55)
def wj (len es : Nat) (x y : AO) (r : A2) (h : Hp) : RV := eK (ev y r) (fun k => AV.fc (ev x r) (fun i o => FW es i o len k h) (.err 56)) (.err 56)
def oI (x y : AO) (r : A2) (h : Hp) : RV := eK (ev y r) (fun k => AV.jw (ev x r) (fun s => List.rec (.err 57) (fun b _ _ => .ok (.int .u8 (.ofNat b)) h) (List.drop k s)) (.err 57)) (.err 57)
def qM (len es : Nat) (agg : Bool) (x y : AO) (r : A2) (h : Hp) : RV := eK (ev y r) (fun k => AV.nU (ev x r) (fun l => Bool.rec (.err 58) (Bool.rec (List.rec (.err 58) (fun v _ _ => .ok v h) (List.drop (Nat.mul k es) l)) (Bool.rec (.err 58) (.ok (.agg (List.take es (List.drop (Nat.mul k es) l))) h) (Nat.ble (Nat.add (Nat.mul k es) es) l.length)) agg) (Ha k len)) (.err 58)) (.err 58)
def wk (i : Nat) (x : AO) (r : A2) (h : Hp) : RV := AV.DP (ev x r) (fun l => List.rec (.err 59) (fun v _ _ => .ok v h) (List.drop i l)) (.err 59)
inductive KT where
 | one (k : KK)
 | agg (ks : List KK)
def FX (t : KT) (a b : AV) (h : Hp) : EB := KT.rec (fun k => DQ k h a b) (fun ks => OL.rec .bad (fun l => OL.rec .bad (fun m => tc ks h l m) b.asAgg) a.asAgg) t
def Al (kt : KT) (x : AV) (l : List KV) (h : Hp) (k : Nat → AV → Nat → RV) (n e : RV) : RV := dJ (β := Nat → RV) (fun _ => n)
 (fun y _ ih i => KV.rec (fun a v born => EB.rec (k i v born) (ih (Nat.succ i)) e (FX kt x a h)) y) l 0
def yp (i : Nat) (key v : AV) (l : List KV) : List KV := dJ (β := Nat → List KV) (fun _ => .nil)
 (fun y t ih i => Nat.rec (KV.rec (fun _ _ born => .cons (.mk key v born) t) y) (fun i _ => .cons y (ih i)) i) l i
def QT (i : Nat) (l : List KV) : List KV := dJ (β := Nat → List KV) (fun _ => .nil) (fun y t ih i => Nat.rec t (fun i _ => .cons y (ih i)) i) l i
def snoc (l : List KV) (y : KV) : List KV := dJ (.cons y .nil) (fun x _ ih => .cons x ih) l
def DE (ok found : Bool) (v : AV) (h : Hp) : RV := .ok (Bool.rec v (.jj (.cons v (.cons (.bool found) .nil))) ok) h
def uD (t : KT) (x : AV) (h : Hp) : Bool := EB.rec true true false (FX t x x h)
def Mb (t : KT) (z : AV) (ok : Bool) (x k : AV) (h : Hp) : RV := Bool.rec (.err 60) (AV.eD x (fun i => Obj.eD (ag i h) (fun l _ => Al t k l h (fun _ v _ => DE ok true v h) (DE ok false z h) (.err 61)) (.err 62)) (DE ok false z h) (.err 63)) (uD t k h)
def Dx (t : KT) (z : AV) (ok : Bool) (x y : AO) (r : A2) (h : Hp) : RV := Mb t z ok (ev x r) (ev y r) h
def OO (t : KT) (x k v : AV) (h : Hp) : RV := Bool.rec (.err 64) (AV.eD x (fun i => Obj.eD (ag i h) (fun l c => Al t k l h
   (fun j _ _ => .ok .undef (cM i (.map (yp j k v l) c) h)) (.ok .undef (cM i (.map (snoc l (.mk k v c)) (Nat.succ c)) h)) (.err 65)) (.err 66))
  (.err 67) (.err 68)) (uD t k h)
def Dy (t : KT) (x y z : AO) (r : A2) (h : Hp) : RV := OO t (ev x r) (ev y r) (ev z r) h
def zh (t : KT) (z x k : AV) (h : Hp) : RV := Bool.rec (.err 220) (AV.eD x (fun i => Obj.eD (ag i h) (fun l c => Al t k l h
   (fun j v b => .ok (.jj (.cons v (.cons (.int .i64 (.ofNat b)) .nil))) (cM i (.map (yp j k v l) c) h)) (.ok (.jj (.cons z (.cons (.int .i64 (.ofNat c)) .nil))) (cM i (.map (snoc l (.mk k z c)) (Nat.succ c)) h)) (.err 221)) (.err 222))
  (.err 223) (.err 224)) (uD t k h)
def yk (t : KT) (z : AV) (x y : AO) (r : A2) (h : Hp) : RV := zh t z (ev x r) (ev y r) h
def Tb (b : Nat) (l : List KV) (k : Nat → AV → RV) (e : RV) : RV := dJ (β := Nat → RV) (fun _ => e) (fun y _ ih i => KV.rec (fun a _ c => Bool.rec (ih (Nat.succ i)) (k i a) (Nat.beq b c)) y) l 0
def zi (x s v : AV) (h : Hp) : RV := AV.eD x (fun i => Obj.eD (ag i h) (fun l c => eK s (fun b => Tb b l (fun j a => .ok .undef (cM i (.map (yp j a v l) c) h)) (.err 225)) (.err 226)) (.err 227)) (.err 228) (.err 229)
def yl (x y z : AO) (r : A2) (h : Hp) : RV := zi (ev x r) (ev y r) (ev z r) h
def cn : AV := .jj .nil
def del (t : KT) (x k : AV) (h : Hp) : RV := Bool.rec (.err 69) (AV.eD x (fun i => Obj.eD (ag i h) (fun l c => Al t k l h
   (fun j _ _ => .ok cn (cM i (.map (QT j l) c) h)) (.ok cn h) (.err 70)) (.err 71))
  (.ok cn h) (.err 72)) (uD t k h)
def Dz (t : KT) (x y : AO) (r : A2) (h : Hp) : RV := del t (ev x r) (ev y r) h
def fg (n : Nat) : AV := .int .i64 (.ofNat n)
def qN (x : AO) (r : A2) (h : Hp) : RV := AV.eD (ev x r) (fun i => Obj.eD (ag i h) (fun l _ => .ok (fg l.length) h) (.err 73)) (.ok (fg 0) h) (.err 73)
def len (x : AV) (h : Hp) : RV := AV.ml x (fun _ _ n _ => .ok (fg n) h) (fun _ _ n _ => .ok (fg n) h) (.ok (fg 0) h) (.err 74)
def fQ (x : AV) (h : Hp) : RV := AV.jw x (fun s => .ok (fg s.length) h) (.err 74)
def DA (x : AO) (r : A2) (h : Hp) : RV := len (ev x r) h
def yi (x : AO) (r : A2) (h : Hp) : RV := fQ (ev x r) h
def ux (x : AO) (r : A2) (h : Hp) : RV := AV.ml (ev x r) (fun _ _ _ c => .ok (fg c) h) (fun _ _ _ _ => .err 75) (.ok (fg 0) h) (.err 75)
def BZ (mn : Bool) (a b : Int) : Int := Bool.rec (Bool.rec a b (MU a b)) (Bool.rec a b (MU b a)) mn
def zZ (mn : Bool) (k : IntKind) (h : Hp) (l : List AV) : Int → RV := dJ (β := Int → RV) (fun a => .ok (.int k a) h) (fun y _ ih a => AV.dC y (fun k' b => Bool.rec (.err 76) (ih (BZ mn a b)) (mc k k')) (.err 76)) l
def II (mn : Bool) (l : List AV) (h : Hp) : RV := List.rec (.err 76) (fun x xs _ => AV.dC x (fun k a => zZ mn k h xs a) (.err 76)) l
def zU (mn : Bool) (xs : List AO) (r : A2) (h : Hp) : RV := II mn (fL xs r) h
def lh (i : P4) (o : Nat) (l : List AV) (h : Hp) (k : Hp → RV) : RV := Obj.aU (ag i h) (fun el n ex fl c => Bool.rec (.err 78) (Bool.rec (.err 79) (k (cM i (.cells el n ex fl (cG l o c)) h)) (Nat.ble (Nat.add o l.length) n)) (wr fl)) (.err 80)
def qS (el es n m : Nat) (old new : List AV) (h : Hp) : RV := pL el .plain es (Nat.add n m) (List.append old new) h
def mr (i : P4) (el k : Nat) (fl : Fl) (c : Cl) (n es : Nat) (h : Hp) : RV := ja el false fl k c (cM i .dead h) (fun j h => .ok (.fq j 0 n es) h)
def Jc (elt es m : Nat) (new : List AV) (i : P4) (o n : Nat) (h : Hp) : RV := Obj.aU (ag i h) (fun el k ex fl c => Bool.rec (.err 82) (Bool.rec (Bool.rec (.err 83) (Bool.rec (Bool.rec (mr i el (Nat.mul (Nat.add n m) es) fl (ox (List.append (bI (Nat.mul n es) c o) new)) (Nat.add n m) es h) (mr i el (Nat.mul (Nat.add n m) es) fl (cG new k (kZ (Nat.mul (Nat.add n m) es) c)) (Nat.add n m) es h) (Bool.and (Nat.beq o 0) (Nat.beq (Nat.mul n es) k))) (.err 81) (Bool.or ex (Bool.not (Nat.beq elt el)))) (Nat.ble (Nat.add o (Nat.mul n es)) k)) (.ok (.fq i o (Nat.add n m) es) (cM i (.cells el k ex fl (cG new (Nat.add o (Nat.mul n es)) c)) h)) (Nat.ble (Nat.add o (Nat.mul (Nat.add n m) es)) k)) (wr fl)) (.err 84)
def lN (el es m : Nat) (new : List AV) (s : AV) (h : Hp) : RV := AV.ml s
 (fun i o n cap => Bool.rec (jo es i o n h (fun old => qS el es n m old new h) (.err 77)) (Nat.rec (.ok (.slice i o n cap) h) (fun m _ => lh i (Nat.add o (Nat.mul n es)) new h (fun h => .ok (.slice i o (Nat.add n (Nat.succ m)) cap) h)) m) (Nat.ble (Nat.add n m) cap))
 (fun i o n es' => Bool.rec (.err 81) (Nat.rec (.ok (.fq i o n es) h) (fun m _ => Jc el es (Nat.succ m) new i o n h) m) (Nat.beq es es'))
 (Nat.rec (.ok .ar h) (fun m _ => qS el es 0 (Nat.succ m) .nil new h) m) (.err 85)
def rU (x : AV) (k : Nat → RV) (e : RV) : RV := AV.ml x (fun _ _ n _ => k n) (fun _ _ n _ => k n) (k 0) e
def lj (el es : Nat) (x y : AV) (h : Hp) : RV := rU y (fun m => Bool.rec (.err 86) (elems es y h (fun new => lN el es m new x h) (.err 87)) (Nat.ble (Nat.mul m es) 4294967296)) (.err 88)
def wm (el es : Nat) (x y : AO) (r : A2) (h : Hp) : RV := lj el es (ev x r) (ev y r) h
def qD (el es : Nat) (z : List AV) (x y : AO) (r : A2) (h : Hp) : RV := eK (ev y r) (fun n => Bool.rec (.err 230) (lN el es n (dM n z) (ev x r) h) (Nat.ble (Nat.mul n es) 1048576)) (.err 231)
def me (el : Nat) (x y : AO) (r : A2) (h : Hp) : RV := AV.jw (ev y r) (fun s => lN el 1 s.length (byteCells s) (ev x r) h) (.err 89)
def rV (l : List AV) (s : AV) (h : Hp) (k : Hp → RV) : RV := List.rec (k h) (fun a t _ => AV.ml s
 (fun i o _ _ => lh i o (.cons a t) h k) (fun i o _ _ => lh i o (.cons a t) h k) (.err 93) (.err 93)) l
def FY (es : Nat) (x y : AV) (h : Hp) : RV := rU x (fun n => OS.rec (rU y (fun m => elems es y h (fun l => rV (List.take (Nat.mul n es) l) x h (fun h => .ok (fg (Nat.min m n)) h)) (.err 94)) (.err 94)) (fun s => Bool.rec (.err 94) (rV (byteCells (List.take n s)) x h (fun h => .ok (fg (Nat.min s.length n)) h)) (Nat.beq es 1)) y.DN) (.err 94)
def wo (es : Nat) (x y : AO) (r : A2) (h : Hp) : RV := FY es (ev x r) (ev y r) h
def Tc (z : List AV) (x : AV) (h : Hp) : RV := rU x (fun n => rV (dM n z) x h (fun h => .ok cn h)) (.err 95)
def wq (z : List AV) (x : AO) (r : A2) (h : Hp) : RV := Tc z (ev x r) h
def yj (x : AO) (r : A2) (h : Hp) : RV := AV.jw (ev x r) (fun s => fZ (.DJ s 0) h qP) (.err 96)
def uy (x : AO) (r : A2) (h : Hp) : RV := AV.eD (ev x r) (fun m => Obj.eD (ag m h) (fun _ c => fZ (.wD m c .nil c) h qP) (.err 97)) (fZ .DL h qP) (.err 97)
def Td (d : Nat × Nat) (k : Nat → Nat → RV) : RV := k d.1 d.2
def Te (s : List Nat) (k : Nat → Nat → RV) (e : RV) : RV := List.rec e (fun b t _ => Bool.rec (Td (Utf8.decode ⟨((b :: t).map UInt8.ofNat).toArray⟩ 0) k) (k b 1) (Nat.ble b 127)) s
def Nb (x : Nat) (l : List Nat) : Bool := dJ false (fun y _ ih => Bool.rec ih true (Nat.beq x y)) l
def jM (seen : List Nat) (l : List KV) : List KV := dJ .nil (fun y _ ih => KV.rec (fun _ _ b => Bool.rec (.cons y ih) ih (Nb b seen)) y) l
def qT (since : Nat) (l : List KV) : Bool := dJ false (fun y _ ih => KV.rec (fun _ _ b => Bool.rec ih true (Nat.ble since b)) y) l
def over (h : Hp) : RV := .ok (.jj (.cons (.bool false) .nil)) h
def qU (last : Nat) (l : List KV) : Bool := dJ true (fun y _ ih => KV.rec (fun _ _ b => Bool.rec false ih (Nat.ble last b)) y) l
def Vu (i : P4) (s : List Nat) (pos : Nat) (h : Hp) : RV := List.rec (over h) (fun b t _ => Te (.cons b t) (fun c n => .ok (.jj (.cons (.bool true) (.cons (fg pos) (.cons (.int .i32 (.ofNat c)) .nil)))) (cM i (.DJ s (Nat.add pos n)) h)) (.err 99)) (List.drop pos s)
def RV.lL (v : RV) : RT := RV.rec (fun v h => .ok v h) (fun n => .err n) v
def nth {α β : Type} (l : List α) (k : α → β) (e : β) : Nat → β := dJ (β := Nat → β) (fun _ => e) (fun a _ ih i => Nat.rec (k a) (fun i _ => ih i) i) l
def nW {α : Type} (l : List α) : Bool := List.rec true (fun _ _ _ => false) l
def wG (i m : P4) (since : Nat) (seen : List Nat) (clock : Nat) (h : Hp) (y : KV) : RT := KV.rec (fun k v b => .ok (.jj (.cons (.bool true) (.cons k (.cons v .nil)))) (cM i (.wD m since (List.append seen (.cons b .nil)) clock) h)) y
def Sk (f : KV → RT) (h : Hp) (u : List KV) : RT := List.rec (over h).lL (fun y t _ => List.rec (f y) (fun _ _ _ => .ch (List.length u) (nth u f (.err 102))) t) u
def Sl (i m : P4) (since : Nat) (seen : List Nat) (last : Nat) (h : Hp) : RT := Uy.rec (.err 98) (fun l clock => Bool.rec (Bool.rec (Sk (wG i m since seen clock h) h (jM seen l)) (.err 100) (Bool.and (Bool.not (nW seen)) (Bool.and (Bool.not (nW l)) (qU last l)))) (.err 103) (qT since l)) (ag m h).Aj
def Tf (x : AV) (h : Hp) : RT := OP.rec (.err 98) (fun i o => Nat.rec (Obj.rec (.err 98) (.err 98) (fun _ _ _ _ _ => .err 98) (fun _ _ => .err 98) (fun s pos => (Vu i s pos h).lL) (fun _ _ _ _ => .err 98) (.err 98) (ag i h)) (fun _ _ => .err 98) o) x.gS
def Jd (x : AV) (h : Hp) : RT := OP.rec (.err 98) (fun i o => Nat.rec (Obj.rec (.err 98) (.err 98) (fun _ _ _ _ _ => .err 98) (fun _ _ => .err 98) (fun _ _ => .err 98) (fun m since seen last => Sl i m since seen last h) (over h).lL (ag i h)) (fun _ _ => .err 98) o) x.gS
def jh (s : Bool) (x : AV) (h : Hp) : RT := Bool.rec (Jd x h) (Tf x h) s
def Je (b : Nat) (l : List KV) (k : AV → AV → RV) (e : RV) : RV := dJ e (fun y _ ih => KV.rec (fun a v c => Bool.rec ih (k a v) (Nat.beq b c)) y) l
def Jf (l : List Nat) (k : Nat → RV) (e : RV) : RV := dJ e (fun x t ih => List.rec (k x) (fun _ _ _ => ih) t) l
def QU (m : P4) (seen : List Nat) (stepped : Nat) (h : Hp) : RV := Jf seen (fun b => Obj.eD (ag m h) (fun l clock => Bool.rec (.err 105) (Je b l (fun k v => .ok (.jj (.cons k (.cons v .nil))) h) (.err 106)) (Nat.beq clock stepped)) (.err 104)) (.err 107)
def zV (x : AO) (r : A2) (h : Hp) : RV := AV.fc (ev x r) (fun i o => Nat.rec (Obj.rec (.err 104) (.err 104) (fun _ _ _ _ _ => .err 104) (fun _ _ => .err 104) (fun _ _ => .err 104) (fun m _ seen stepped => QU m seen stepped h) (.err 104) (ag i h)) (fun _ _ => .err 104) o) (.err 104)
def OQ (t : Nat) (z : AV) (ok : Bool) (x : AV) (h : Hp) : RV := AV.BX x
 (fun u v => Bool.rec (Bool.rec (.err 109) (DE true false z h) ok) (DE ok true v h) (Nat.beq t u))
 (Bool.rec (.err 109) (DE true false z h) ok) (.err 108)
def DB (t : Nat) (z : AV) (ok : Bool) (x : AO) (r : A2) (h : Hp) : RV := OQ t z ok (ev x r) h
def oJ (k : FloatKind) (x y : AO) (r : A2) (h : Hp) : RV := AV.rT (ev x r) (fun k1 a => AV.rT (ev y r) (fun k2 b => Bool.rec (.err 110) (.ok (.iq k a b) h) (Bool.and (xW k k1) (xW k k2))) (.err 110)) (.err 110)
def kX (im : Bool) (x : AO) (r : A2) (h : Hp) : RV := AV.uB (ev x r) (fun k a b => .ok (.nG k (Bool.rec a b im)) h) (.err 111)
def lY (x : AO) (r : A2) (h : Hp) : RV := AV.ml (ev x r) (fun i o _ c => Nat.rec (.err 112) (fun _ _ => .ok (.ptr i o) h) c) (fun i o n _ => Nat.rec (.err 112) (fun _ _ => .ok (.ptr i o) h) n) (.ok .fo h) (.err 112)
def oC (el : Nat) (x y : AO) (r : A2) (h : Hp) : RV := eK (ev y r) (fun n => Nat.rec (OP.rec (Bool.rec (.err 113) (.ok (.str .nil) h) (fD (ev x r))) (fun _ _ => .ok (.str .nil) h) (ev x r).gS) (fun n _ => AV.fc (ev x r) (fun i o => Obj.aU (ag i h) (fun el' m ex fl c => Bool.rec (Bool.rec (.err 114) (eQ (bI (Nat.succ n) c o) (fun s => .ok (.str s) (cM i (.cells el' m ex .Bw c) h)) (.err 115)) (Bool.and (Nat.ble n 1048576) (Bool.and (Nat.beq el el') (Nat.ble (Nat.add o (Nat.succ n)) m)))) (.err 119) (Hf fl)) (.err 116)) (.err 117)) n) (.err 118)
inductive oZ where
 | mv (x : AO)
 | pick (c a b : AO)
 | alloc (el n : Nat) (c : Cl)
 | box (el : Nat) (x : AO)
 | build (z : List AV) (ps : List Part)
 | cu (el es n : Nat) (z : List AV) (ps : List Part)
 | lP (x : AO)
 | lR (m : Nat) (x : AO)
 | LN (x y : AO)
 | EW (m : Nat) (x y : AO)
 | sA (x : AO)
 | bin (op : BK) (x y : AO)
 | un (op : UK) (x : AO)
 | conv (op : CK) (x : AO)
 | OK (t : Nat) (x : AO)
 | Ua (f : Nat) (xs : List AO)
 | pc
 | pf (el : Nat) (z : List AV) (l c : AO)
 | Sh (es : Nat) (x : AO) (lo hi mx : OA)
 | GM (x : AO) (lo hi : OA)
 | LX (len es : Nat) (x : AO) (lo hi mx : OA)
 | lS (d : Nat) (x : AO)
 | LY (d : Nat) (x : AO)
 | LZ (d n : Nat) (x : AO)
 | zg (es : Nat) (x y : AO)
 | Su (len es : Nat) (x y : AO)
 | idxs (x y : AO)
 | Ma (len es : Nat) (agg : Bool) (x y : AO)
 | ext (i : Nat) (x : AO)
 | Mb (t : KT) (z : AV) (ok : Bool) (x y : AO)
 | OO (t : KT) (x y z : AO)
 | del (t : KT) (x y : AO)
 | GN (x : AO)
 | len (x : AO)
 | fQ (x : AO)
 | cap (x : AO)
 | max (mn : Bool) (xs : List AO)
 | app (el es : Nat) (x y : AO)
 | apps (el : Nat) (x y : AO)
 | Sv (es : Nat) (x y : AO)
 | Sw (z : List AV) (x : AO)
 | Mc (x : AO)
 | EX (x : AO)
 | Md (x : AO)
 | OQ (t : Nat) (z : AV) (ok : Bool) (x : AO)
 | iq (k : FloatKind) (x y : AO)
 | real (im : Bool) (x : AO)
 | Me (x : AO)
 | GO (el : Nat) (x y : AO)
 | zh (t : KT) (z : AV) (x y : AO)
 | zi (x y z : AO)
 | GP (el es : Nat) (z : List AV) (x y : AO)
 | bad (n : Nat)
def oZ.run (op : oZ) : A2 → Hp → RV := oZ.rec (motive := fun _ => A2 → Hp → RV) MC fU DT zQ kW gB jZ rR ur zR qI Ph MD tP zS zT xO fV fN gM qJ uv qK qL uw wj oI qM wk Dx Dy Dz qN DA yi ux zU wm me wo wq yj uy zV DB oJ kX lY oC yk yl qD (fun n _ _ => .err n) op
inductive AI where
 | op (o : oZ)
 | Dc (s : Bool) (x : AO)
 | call (f : Nat) (xs : List AO)
 | lE (x : AO) (xs : List AO)
 | inv (name : Nat) (x : AO) (xs : List AO)
inductive bw where
 | no
 | t (a b : H)
inductive GI where
 | o (d : bw) (i : AI)
 | g (a b : H) (w : Bool) (d : bw) (i : AI)
inductive Bk where
 | dZ
 | rd (n : Nat)
 | new
inductive DI where
 | mk (b : Bk) (g : GI)
abbrev Cf := Nat → List AV → Hp → RT
abbrev Iv := Nat → AV → List AV → Hp → RT
inductive AC where
 | skip
 | ops (l : List GI)
 | qv (l : List DI)
 | seq (a b : AC)
 | cond (c : AO) (a b : AC)
 | block (i : Nat) (a : AC)
 | loop (a : AC)
 | scope (a : AC)
 | sat (a c : AC)
 | exit (i : Nat)
 | goto (l : Nat)
 | label (l : Nat)
 | ret
 | join (a : AC)
 | bad (n : Nat)
 | ah (f : Cf → Iv → (A2 → Hp → RS) → A2 → Hp → RS) (x : AC)
 | alt (a b : AC)
 | Qa (q : Nat) (l : List GI)
inductive Rs where
 | t (a b : H)
 | one (a b : H)
 | agg (n : Nat) (a b : H)
inductive SW where
 | mk (i : P4) (r : Nat)
inductive PK where
 | VE
 | put (el : Nat)
 | get
 | VF (l : List SW)
 | Jg
 | Nc (el : Nat)
 | DW
 | QV (f : Nat) (l0 l1 k0 kn k2 k3 ra rb l4 : List GI)
 | ins (el es : Nat)
 | fn (g : List AV → Hp → RT)
def oL (c : Nat) : Nat := Nat.xor (Nat.shiftRight c 1) (Nat.mul (Nat.land c 1) 3988292384)
def Ca (c : Nat) : Nat := oL (oL (oL (oL (oL (oL (oL (oL c)))))))
def Jh (s : List Nat) : Nat → Nat := dJ (β := Nat → Nat) (fun c => c) (fun b _ ih c => ih (Ca (Nat.xor c b))) s
def QW (s : List Nat) : Nat := Nat.xor 4294967295 (Jh s 4294967295)
def Tg (x : AV) (h : Hp) : RV := rU x (fun n => Bool.rec (.err 141) (elems 1 x h (fun l => eQ l (fun s => .ok (.int .u32 (.ofNat (QW s))) h) (.err 140)) (.err 141)) (Nat.ble n 4611686018427387904)) (.err 141)
def rW (v : RV) (k : AV → Hp → RV) : RV := RV.rec k (fun n => .err n) v
def Uz (el : Nat) (p : AV) (b : Nat) (h : Hp) : RV := rW (jZ (.c p) .nil h) (fun s h => rW (lN el 1 1 (.cons (.int .u8 (.ofNat b)) .nil) s h) (fun v h => ur (.c p) (.c v) .nil h))
def UA (el : Nat) (p : AV) (m : Nat) : Nat → Hp → RV := Nat.rec (fun _ h => .ok cn h) (fun _ ih n h => rW (Uz el p (Nat.mod n 256) h) (fun _ h => ih (Nat.div n 256) h)) m
def Th (el : Nat) (p n m : AV) (h : Hp) : RV := AV.fc p (fun i o => eK n (fun n => eK m (fun m => UA el (.ptr i o) m n h) (.err 142)) (.err 142)) (.err 142)
def Vv (s : List Nat) : Nat := dJ 0 (fun b _ ih => Nat.add (Nat.mul 256 ih) b) s
def QX (i : P4) (o m a : Nat) (s : AV) (h : Hp) : RV := rW (fN 1 (.c s) (.some (.c (.int .i64 (.ofNat a)))) (.some (.c (.int .i64 (.ofNat (Nat.add a m))))) .none .nil h) (fun x _ =>
 elems 1 x h (fun l => eQ l (fun b => rW (ur (.c (.ptr i (Nat.add o 1))) (.c (.int .i64 (.ofNat (Nat.add a m)))) .nil h) (fun _ h => .ok (.int .u64 (.ofNat (Vv b))) h)) (.err 143)) (.err 144))
def QY (i : P4) (o m : Nat) (h : Hp) : RV := rW (jZ (.c (.ptr i (Nat.add o 2))) .nil h) (fun w _ => AV.dC w (fun _ n => Bool.rec (.err 145) (rW (jZ (.c (.ptr i (Nat.add o 1))) .nil h) (fun a _ => eK a (fun a => rW (jZ (.c (.ptr i o)) .nil h) (fun s _ => rU s (fun n => Bool.rec (.err 146) (QX i o m a s h) (Nat.ble (Nat.add a m) n)) (.err 147))) (.err 148))) (ub n (.ofNat 0))) (.err 145))
def Ti (p m : AV) (h : Hp) : RV := AV.fc p (fun i o => eK m (fun m => Bool.rec (.err 149) (QY i o m h) (Nat.ble m 8)) (.err 149)) (.err 149)
def cm (d : bw) : AV → A2 → A2 := bw.rec (motive := fun _ => AV → A2 → A2) (fun _ r => r) jG d
def aY (l : List AV) : Nat → A2 → A2 := dJ (fun _ r => r) (fun v _ ih i r => ih (Nat.succ i) (jG (dw (Nat.div i 16)) (dw (Nat.mod i 16)) v r)) l
def fj (k : A2 → Hp → RT) (l : List GI) : A2 → Hp → RT := dJ (β := A2 → Hp → RT) k (fun i _ ih r h => GI.rec (fun d i => AI.rec (fun op => RV.rec (fun v h => ih (cm d v r) h) (fun n => .err n) (op.run r h)) (fun s x => RT.elim (fun v h => ih (cm d v r) h) (fun n => .err n) (fun n f => .ch n f) (jh s (ev x r) h)) (fun _ _ => .err 161) (fun _ _ => .err 161) (fun _ _ _ => .err 161) i) (fun _ _ _ _ _ => .err 161) i) l
def td (x : AV) (k : Bool → RT) (e : RT) : RT := OB.rec e k x.asBool
def Ji (x : AV) (k : Nat → List AV → RT) (e : RT) : RT := Uc.rec e k x.QN
def wH (l4 : List GI) (r : A2) (h : Hp) : RT := fj (fun r h => .ok (an .h0 .h4 r) h) l4 r h
def DX (k : A2 → Hp → RT) (kn k2 k3 ra rb : List GI) (r q : A2) (h : Hp) : RT := fj (fun q h => fj (fun q h => fj (fun r2 h => fj (fun _ h => fj k kn (jG .h0 .hd .undef (jG .h0 .hc .undef q)) h) rb r2 h) ra (jG .h0 .h7 (an .h0 .hb q) r) h) k3 (jG .h0 .ha .undef q) h) k2 q h
def Cb (kn k2 k3 ra rb l4 : List GI) (r : A2) : Nat → A2 → Hp → RT := xY (β := A2 → Hp → RT) (fun _ _ => .err 155)
 (fun _ ih q h => td (an .h0 .h7 q) (fun t => Bool.rec (wH l4 r h) (DX ih kn k2 k3 ra rb r q h) t) (.err 156))
def Cc (k0 kn k2 k3 ra rb l4 : List GI) (r : A2) (c : AV) (h : Hp) : RT := fj (fun q h => fj (Cb kn k2 k3 ra rb l4 r 12) kn q h) k0 (aY (.cons .undef (.cons c .nil)) 0 .nil) h
def Pk (f : Nat) (k0 kn k2 k3 ra rb l4 : List GI) (r : A2) (h : Hp) : RT := Ji (an .h0 .h6 r) (fun g cs => Bool.rec (.err 153) (List.rec (.err 153) (fun c t _ => List.rec (Cc k0 kn k2 k3 ra rb l4 r c h) (fun _ _ _ => .err 153) t) cs) (Nat.beq f g)) (.err 153)
def yq (f : Nat) (l0 l1 k0 kn k2 k3 ra rb l4 : List GI) (s x : AV) (h : Hp) : RT := fj (fun r h => fj (Pk f k0 kn k2 k3 ra rb l4) l1 r h) l0 (aY (.cons s (.cons x .nil)) 0 .nil) h
def uE (l : List AV) (k : AV → RV) : RV := List.rec (.err 154) (fun a t _ => List.rec (k a) (fun _ _ _ => .err 154) t) l
def Pl (l : List AV) (k : AV → AV → RV) : RV := List.rec (.err 154) (fun a t _ => uE t (fun b => k a b)) l
def Jj (l : List AV) (k : AV → AV → AV → RV) : RV := List.rec (.err 154) (fun a t _ => Pl t (fun b c => k a b c)) l
def QZ (l : List AV) (k : AV → AV → RT) : RT := List.rec (.err 154) (fun a t _ => List.rec (.err 154) (fun b t _ => List.rec (k a b) (fun _ _ _ => .err 154) t) t) l
def Ra (l : List SW) (i : P4) : RV → (Nat → RV) → RV := dJ (β := RV → (Nat → RV) → RV) (fun e _ => e) (fun y _ ih e k => SW.rec (fun j r => Bool.rec (ih e k) (k r) (qw i j)) y) l
def Tj (l : List SW) (x lo hi : AV) (h : Hp) : RV := AV.rec (motive_2 := fun _ => PUnit) (.err 170) (fun _ => .err 170) (fun _ _ => .err 170) (fun _ => .err 170) (fun _ _ => .err 170) (fun _ _ _ => .err 170) (fun _ _ => .err 170) (.err 170) (fun _ _ _ _ => .err 170) (fun _ _ _ _ => .err 170) (.err 170) (fun _ => .err 170) (.err 170) (fun _ _ _ => .err 170) (.err 170) (fun _ _ _ => .err 170) (.err 170) (fun _ _ => .err 170) (fun _ _ => .err 170) (fun i => AV.dC lo (fun kl lo => AV.dC hi (fun kh hi => Bool.rec (.err 171) (Bool.rec (.err 171) (Bool.rec (.err 171) (Bool.rec (.err 171) (Ra l i (.err 172) (fun r => .ok (.int .i64 (.ofNat r)) h)) (ub hi (.ofNat 4))) (ub lo (.ofNat 0))) (DV kh)) (DV kl)) (.err 171)) (.err 171)) PUnit.unit (fun _ _ _ _ => PUnit.unit) x
def Cd (el : Nat) (x : AV) (h : Hp) : RV := AV.dC x (fun k n => Bool.rec (.err 195) (Int.rec (fun n => Bool.rec (.err 196) (pL el .plain 1 n (dM n (.cons .undef .nil)) h) (Nat.ble n 65536)) (fun _ => .err 196) n) (DV k)) (.err 195)
def Rb (x : Nat) (h : Hp) : RV := match FloatKind.f64.decode x with
 | .nan _ _ => .err 180
 | d => .ok (.nG .f64 (FloatKind.f64.encode (d.integral .zero))) h
def Tk (k : FloatKind) : Bool := FloatKind.rec false true k
def yr (x : AV) (h : Hp) : RV := AV.rT x (fun k n => Bool.rec (.err 181) (Rb n h) (Tk k)) (.err 181)
def Nd (f : Fl) : Bool := Fl.rec true false false false f
def Rg (el es : Nat) (i : P4) (n q m : Nat) (new : List AV) (h : Hp) : RV := Obj.aU (ag i h) (fun el' k ex fl c => Bool.rec (.err 247) (Bool.rec (.err 247) (Bool.rec (.err 247) (Bool.rec (.err 247) (mr i el (Nat.mul (Nat.add n m) es) fl (ox (List.append (List.take (Nat.mul q es) (bI (Nat.mul n es) c 0)) (List.append new (List.drop (Nat.mul q es) (bI (Nat.mul n es) c 0))))) (Nat.add n m) es h) (Nat.beq (Nat.mul n es) k)) (Nat.beq el el')) (Bool.not ex)) (wr fl)) (.err 248)
def Rh (el es : Nat) (i : P4) (o n es' q : Nat) (j : P4) (o2 m : Nat) (h : Hp) : RV := Bool.rec (.err 241) (Bool.rec (.err 241) (Bool.rec (.err 242) (Bool.rec (.err 242) (Bool.rec (.err 243) (Obj.aU (ag j h) (fun _ k2 _ fl2 c2 => Bool.rec (.err 244) (Bool.rec (.err 245) (Rg el es i n q m (bI (Nat.mul m es) c2 o2) h) (Nat.ble (Nat.add o2 (Nat.mul m es)) k2)) (Nd fl2)) (.err 246)) (Bool.not (qw i j))) (Nat.ble 1 m)) (Nat.ble (Nat.succ q) n)) (Nat.beq o 0)) (Nat.beq es es')
def Tl (el es : Nat) (s x y : AV) (h : Hp) : RV := AV.ml s (fun _ _ _ _ => .err 240) (fun i o n es' => AV.dC x (fun kd z => Bool.rec (.err 249) (Int.rec (fun q => AV.ml y (fun j o2 m _ => Rh el es i o n es' q j o2 m h) (fun _ _ _ _ => .err 240) (.err 240) (.err 240)) (fun _ => .err 249) z) (DV kd)) (.err 249)) (.err 240) (.err 240)
def dH (k : PK) (args : List AV) (h : Hp) : RT := PK.rec (uE args (fun x => Tg x h)).lL (fun el => (Jj args (fun p n m => Th el p n m h)).lL) (Pl args (fun p m => Ti p m h)).lL (fun l => (Jj args (fun x lo hi => Tj l x lo hi h)).lL) (uE args (fun x => .ok x h)).lL (fun el => (uE args (fun x => Cd el x h)).lL) (uE args (fun x => yr x h)).lL (fun f l0 l1 k0 kn k2 k3 ra rb l4 => QZ args (fun s x => yq f l0 l1 k0 kn k2 k3 ra rb l4 s x h)) (fun el es => (Jj args (fun s x y => Tl el es s x y h)).lL) (fun g => g args h) k
inductive AF where
 | none
 | mk (body : AC) (res : List Rs)
 | tz (k : PK) (body : AC) (res : List Rs)
 | Qc (body : AC) (res : List Rs)
 | ext (k : PK)
inductive F1 where
 | nil
 | mk (a0 a1 a2 a3 a4 a5 a6 a7 a8 a9 aa ab ac ad ae af : AF)
def F1.g0 (x : F1) : AF := F1.rec .none (fun a0 a1 a2 a3 a4 a5 a6 a7 a8 a9 aa ab ac ad ae af => a0) x
def F1.g1 (x : F1) : AF := F1.rec .none (fun a0 a1 a2 a3 a4 a5 a6 a7 a8 a9 aa ab ac ad ae af => a1) x
def F1.g2 (x : F1) : AF := F1.rec .none (fun a0 a1 a2 a3 a4 a5 a6 a7 a8 a9 aa ab ac ad ae af => a2) x
def F1.g3 (x : F1) : AF := F1.rec .none (fun a0 a1 a2 a3 a4 a5 a6 a7 a8 a9 aa ab ac ad ae af => a3) x
def F1.g4 (x : F1) : AF := F1.rec .none (fun a0 a1 a2 a3 a4 a5 a6 a7 a8 a9 aa ab ac ad ae af => a4) x
def F1.g5 (x : F1) : AF := F1.rec .none (fun a0 a1 a2 a3 a4 a5 a6 a7 a8 a9 aa ab ac ad ae af => a5) x
def F1.g6 (x : F1) : AF := F1.rec .none (fun a0 a1 a2 a3 a4 a5 a6 a7 a8 a9 aa ab ac ad ae af => a6) x
def F1.g7 (x : F1) : AF := F1.rec .none (fun a0 a1 a2 a3 a4 a5 a6 a7 a8 a9 aa ab ac ad ae af => a7) x
def F1.g8 (x : F1) : AF := F1.rec .none (fun a0 a1 a2 a3 a4 a5 a6 a7 a8 a9 aa ab ac ad ae af => a8) x
def F1.g9 (x : F1) : AF := F1.rec .none (fun a0 a1 a2 a3 a4 a5 a6 a7 a8 a9 aa ab ac ad ae af => a9) x
def F1.ga (x : F1) : AF := F1.rec .none (fun a0 a1 a2 a3 a4 a5 a6 a7 a8 a9 aa ab ac ad ae af => aa) x
def F1.gb (x : F1) : AF := F1.rec .none (fun a0 a1 a2 a3 a4 a5 a6 a7 a8 a9 aa ab ac ad ae af => ab) x
def F1.gc (x : F1) : AF := F1.rec .none (fun a0 a1 a2 a3 a4 a5 a6 a7 a8 a9 aa ab ac ad ae af => ac) x
def F1.gd (x : F1) : AF := F1.rec .none (fun a0 a1 a2 a3 a4 a5 a6 a7 a8 a9 aa ab ac ad ae af => ad) x
def F1.ge (x : F1) : AF := F1.rec .none (fun a0 a1 a2 a3 a4 a5 a6 a7 a8 a9 aa ab ac ad ae af => ae) x
def F1.gf (x : F1) : AF := F1.rec .none (fun a0 a1 a2 a3 a4 a5 a6 a7 a8 a9 aa ab ac ad ae af => af) x
def F1.get (d : H) : F1 → AF := H.rec (motive := fun _ => F1 → AF) F1.g0 F1.g1 F1.g2 F1.g3 F1.g4 F1.g5 F1.g6 F1.g7 F1.g8 F1.g9 F1.ga F1.gb F1.gc F1.gd F1.ge F1.gf d
inductive F2 where
 | nil
 | mk (a0 a1 a2 a3 a4 a5 a6 a7 a8 a9 aa ab ac ad ae af : F1)
def F2.g0 (x : F2) : F1 := F2.rec .nil (fun a0 a1 a2 a3 a4 a5 a6 a7 a8 a9 aa ab ac ad ae af => a0) x
def F2.g1 (x : F2) : F1 := F2.rec .nil (fun a0 a1 a2 a3 a4 a5 a6 a7 a8 a9 aa ab ac ad ae af => a1) x
def F2.g2 (x : F2) : F1 := F2.rec .nil (fun a0 a1 a2 a3 a4 a5 a6 a7 a8 a9 aa ab ac ad ae af => a2) x
def F2.g3 (x : F2) : F1 := F2.rec .nil (fun a0 a1 a2 a3 a4 a5 a6 a7 a8 a9 aa ab ac ad ae af => a3) x
def F2.g4 (x : F2) : F1 := F2.rec .nil (fun a0 a1 a2 a3 a4 a5 a6 a7 a8 a9 aa ab ac ad ae af => a4) x
def F2.g5 (x : F2) : F1 := F2.rec .nil (fun a0 a1 a2 a3 a4 a5 a6 a7 a8 a9 aa ab ac ad ae af => a5) x
def F2.g6 (x : F2) : F1 := F2.rec .nil (fun a0 a1 a2 a3 a4 a5 a6 a7 a8 a9 aa ab ac ad ae af => a6) x
def F2.g7 (x : F2) : F1 := F2.rec .nil (fun a0 a1 a2 a3 a4 a5 a6 a7 a8 a9 aa ab ac ad ae af => a7) x
def F2.g8 (x : F2) : F1 := F2.rec .nil (fun a0 a1 a2 a3 a4 a5 a6 a7 a8 a9 aa ab ac ad ae af => a8) x
def F2.g9 (x : F2) : F1 := F2.rec .nil (fun a0 a1 a2 a3 a4 a5 a6 a7 a8 a9 aa ab ac ad ae af => a9) x
def F2.ga (x : F2) : F1 := F2.rec .nil (fun a0 a1 a2 a3 a4 a5 a6 a7 a8 a9 aa ab ac ad ae af => aa) x
def F2.gb (x : F2) : F1 := F2.rec .nil (fun a0 a1 a2 a3 a4 a5 a6 a7 a8 a9 aa ab ac ad ae af => ab) x
def F2.gc (x : F2) : F1 := F2.rec .nil (fun a0 a1 a2 a3 a4 a5 a6 a7 a8 a9 aa ab ac ad ae af => ac) x
def F2.gd (x : F2) : F1 := F2.rec .nil (fun a0 a1 a2 a3 a4 a5 a6 a7 a8 a9 aa ab ac ad ae af => ad) x
def F2.ge (x : F2) : F1 := F2.rec .nil (fun a0 a1 a2 a3 a4 a5 a6 a7 a8 a9 aa ab ac ad ae af => ae) x
def F2.gf (x : F2) : F1 := F2.rec .nil (fun a0 a1 a2 a3 a4 a5 a6 a7 a8 a9 aa ab ac ad ae af => af) x
def F2.get (d : H) : F2 → F1 := H.rec (motive := fun _ => F2 → F1) F2.g0 F2.g1 F2.g2 F2.g3 F2.g4 F2.g5 F2.g6 F2.g7 F2.g8 F2.g9 F2.ga F2.gb F2.gc F2.gd F2.ge F2.gf d
inductive F3 where
 | nil
 | mk (a0 a1 a2 a3 a4 a5 a6 a7 a8 a9 aa ab ac ad ae af : F2)
def F3.g0 (x : F3) : F2 := F3.rec .nil (fun a0 a1 a2 a3 a4 a5 a6 a7 a8 a9 aa ab ac ad ae af => a0) x
def F3.g1 (x : F3) : F2 := F3.rec .nil (fun a0 a1 a2 a3 a4 a5 a6 a7 a8 a9 aa ab ac ad ae af => a1) x
def F3.g2 (x : F3) : F2 := F3.rec .nil (fun a0 a1 a2 a3 a4 a5 a6 a7 a8 a9 aa ab ac ad ae af => a2) x
def F3.g3 (x : F3) : F2 := F3.rec .nil (fun a0 a1 a2 a3 a4 a5 a6 a7 a8 a9 aa ab ac ad ae af => a3) x
def F3.g4 (x : F3) : F2 := F3.rec .nil (fun a0 a1 a2 a3 a4 a5 a6 a7 a8 a9 aa ab ac ad ae af => a4) x
def F3.g5 (x : F3) : F2 := F3.rec .nil (fun a0 a1 a2 a3 a4 a5 a6 a7 a8 a9 aa ab ac ad ae af => a5) x
def F3.g6 (x : F3) : F2 := F3.rec .nil (fun a0 a1 a2 a3 a4 a5 a6 a7 a8 a9 aa ab ac ad ae af => a6) x
def F3.g7 (x : F3) : F2 := F3.rec .nil (fun a0 a1 a2 a3 a4 a5 a6 a7 a8 a9 aa ab ac ad ae af => a7) x
def F3.g8 (x : F3) : F2 := F3.rec .nil (fun a0 a1 a2 a3 a4 a5 a6 a7 a8 a9 aa ab ac ad ae af => a8) x
def F3.g9 (x : F3) : F2 := F3.rec .nil (fun a0 a1 a2 a3 a4 a5 a6 a7 a8 a9 aa ab ac ad ae af => a9) x
def F3.ga (x : F3) : F2 := F3.rec .nil (fun a0 a1 a2 a3 a4 a5 a6 a7 a8 a9 aa ab ac ad ae af => aa) x
def F3.gb (x : F3) : F2 := F3.rec .nil (fun a0 a1 a2 a3 a4 a5 a6 a7 a8 a9 aa ab ac ad ae af => ab) x
def F3.gc (x : F3) : F2 := F3.rec .nil (fun a0 a1 a2 a3 a4 a5 a6 a7 a8 a9 aa ab ac ad ae af => ac) x
def F3.gd (x : F3) : F2 := F3.rec .nil (fun a0 a1 a2 a3 a4 a5 a6 a7 a8 a9 aa ab ac ad ae af => ad) x
def F3.ge (x : F3) : F2 := F3.rec .nil (fun a0 a1 a2 a3 a4 a5 a6 a7 a8 a9 aa ab ac ad ae af => ae) x
def F3.gf (x : F3) : F2 := F3.rec .nil (fun a0 a1 a2 a3 a4 a5 a6 a7 a8 a9 aa ab ac ad ae af => af) x
def F3.get (d : H) : F3 → F2 := H.rec (motive := fun _ => F3 → F2) F3.g0 F3.g1 F3.g2 F3.g3 F3.g4 F3.g5 F3.g6 F3.g7 F3.g8 F3.g9 F3.ga F3.gb F3.gc F3.gd F3.ge F3.gf d
inductive MR where
 | mk (t name f : Nat)
inductive Pg where
 | mk (fs : F3) (ms : List MR)
def aq (f : Nat) (p : F3) : AF := F1.get (dw (Nat.mod f 16)) (F2.get (dw (Nat.mod (Nat.div f 16) 16)) (F3.get (dw (Nat.div f 256)) p))
def Pg.fs (p : Pg) : F3 := Pg.rec (fun a _ => a) p
def Pg.ms (p : Pg) : List MR := Pg.rec (fun _ a => a) p
def pA (t name : Nat) (l : List MR) (k : Nat → RT) (e : RT) : RT := dJ e (fun y _ ih => MR.rec (fun t' n' f => Bool.rec ih (Bool.rec ih (k f) (Nat.beq name n')) (Nat.beq t t')) y) l
def Ri (x : AV) : AV → Bool := AV.rec (motive_1 := fun _ => AV → Bool) (motive_2 := fun _ => PUnit) (fun _ => false) (fun a y => AV.bF y (fun b => kL a b) false) (fun k a y => AV.dC y (fun k' b => Bool.rec false (ub a b) (mc k k')) false) (fun a y => AV.jw y (fun b => iw a b) false) (fun k a y => AV.rT y (fun k' b => Bool.and (xW k k') (Nat.beq a b)) false) (fun k a b y => AV.uB y (fun k' c d => Bool.and (xW k k') (Bool.and (Nat.beq a c) (Nat.beq b d))) false) (fun i o y => AV.fc y (fun j q => Bool.and (qw i j) (Nat.beq o q)) false) (fun y => AV.rec (motive_2 := fun _ => PUnit) false (fun _ => false) (fun _ _ => false) (fun _ => false) (fun _ _ => false) (fun _ _ _ => false) (fun _ _ => false) true (fun _ _ _ _ => false) (fun _ _ _ _ => false) false (fun _ => false) false (fun _ _ _ => false) false (fun _ _ _ => false) false (fun _ _ => false) (fun _ _ => false) (fun _ => false) PUnit.unit (fun _ _ _ _ => PUnit.unit) y) (fun i a b c y => AV.ml y (fun j d e f => Bool.and (qw i j) (Bool.and (Nat.beq a d) (Bool.and (Nat.beq b e) (Nat.beq c f)))) (fun _ _ _ _ => false) false false) (fun i a b c y => AV.ml y (fun _ _ _ _ => false) (fun j d e f => Bool.and (qw i j) (Bool.and (Nat.beq a d) (Bool.and (Nat.beq b e) (Nat.beq c f)))) false false) (fun y => AV.ml y (fun _ _ _ _ => false) (fun _ _ _ _ => false) true false) (fun i y => AV.eD y (fun j => qw i j) false false) (fun y => AV.eD y (fun _ => false) true false) (fun _ _ _ _ => false) (fun y => AV.rec (motive_2 := fun _ => PUnit) false (fun _ => false) (fun _ _ => false) (fun _ => false) (fun _ _ => false) (fun _ _ _ => false) (fun _ _ => false) false (fun _ _ _ _ => false) (fun _ _ _ _ => false) false (fun _ => false) false (fun _ _ _ => false) true (fun _ _ _ => false) false (fun _ _ => false) (fun _ _ => false) (fun _ => false) PUnit.unit (fun _ _ _ _ => PUnit.unit) y) (fun _ _ _ _ => false) (fun y => AV.BX y (fun _ _ => false) true false) (fun _ _ _ => false) (fun _ _ _ => false) (fun _ _ => false) PUnit.unit (fun _ _ _ _ => PUnit.unit) x
def lG (x y : AV) : Bool := Ri x y
def rQ (a b : List AV) : Bool := dJ (β := List AV → Bool) (fun b => List.rec true (fun _ _ _ => false) b)
 (fun x _ ih b => List.rec false (fun y b _ => Bool.rec false (ih b) (lG x y)) b) a b
def ud (x y : AV) : Bool := OL.rec (lG x y) (fun a => AV.nU y (fun b => rQ a b) false) x.asAgg
def vT (x y : AV) : Bool := Uc.rec (Ud.rec (ud x y) (ud x y) (fun t a => AV.BX y (fun u b => Bool.and (Nat.beq t u) (ud a b)) false false) x.QO) (fun f a => AV.GS y (fun g b => Bool.and (Nat.beq f g) (rQ a b)) false) x.QN
def HZ (a b : List AV) : Bool := dJ (β := List AV → Bool) (fun b => List.rec true (fun _ _ _ => false) b)
 (fun x _ ih b => List.rec false (fun y b _ => Bool.rec false (ih b) (vT x y)) b) a b
def same (x y : AV) : Bool := OL.rec (vT x y) (fun a => AV.DP y (fun b => HZ a b) false) x.IV
def Qr (x : AV) : Bool := AV.rec (motive_2 := fun _ => PUnit) true (fun _ => false) (fun _ _ => false) (fun _ => false) (fun _ _ => false) (fun _ _ _ => false) (fun _ _ => false) false (fun _ _ _ _ => false) (fun _ _ _ _ => false) false (fun _ => false) false (fun _ _ _ => false) false (fun _ _ _ => false) false (fun _ _ => false) (fun _ _ => false) (fun _ => false) PUnit.unit (fun _ _ _ _ => PUnit.unit) x
def zf (x y : AV) : Bool := Bool.rec (same x y) (Qr y) (Qr x)
def gI (x y : AV) : AV := Bool.rec .undef x (same x y)
def A1.eq (x y : A1) : Bool := A1.rec (A1.rec true (fun _ _ _ _ _ _ _ _ _ _ _ _ _ _ _ _ => false) y) (fun a0 a1 a2 a3 a4 a5 a6 a7 a8 a9 aa ab ac ad ae af => A1.rec false (fun b0 b1 b2 b3 b4 b5 b6 b7 b8 b9 ba bb bc bd be bf => (Bool.rec false (Bool.rec false (Bool.rec false (Bool.rec false (Bool.rec false (Bool.rec false (Bool.rec false (Bool.rec false (Bool.rec false (Bool.rec false (Bool.rec false (Bool.rec false (Bool.rec false (Bool.rec false (Bool.rec false (zf af bf) (zf ae be)) (zf ad bd)) (zf ac bc)) (zf ab bb)) (zf aa ba)) (zf a9 b9)) (zf a8 b8)) (zf a7 b7)) (zf a6 b6)) (zf a5 b5)) (zf a4 b4)) (zf a3 b3)) (zf a2 b2)) (zf a1 b1)) (zf a0 b0))) y) x
def A2.eq (x y : A2) : Bool := A2.rec (A2.rec true (fun _ _ _ _ _ _ _ _ _ _ _ _ _ _ _ _ => false) y) (fun a0 a1 a2 a3 a4 a5 a6 a7 a8 a9 aa ab ac ad ae af => A2.rec false (fun b0 b1 b2 b3 b4 b5 b6 b7 b8 b9 ba bb bc bd be bf => (Bool.rec false (Bool.rec false (Bool.rec false (Bool.rec false (Bool.rec false (Bool.rec false (Bool.rec false (Bool.rec false (Bool.rec false (Bool.rec false (Bool.rec false (Bool.rec false (Bool.rec false (Bool.rec false (Bool.rec false (A1.eq af bf) (A1.eq ae be)) (A1.eq ad bd)) (A1.eq ac bc)) (A1.eq ab bb)) (A1.eq aa ba)) (A1.eq a9 b9)) (A1.eq a8 b8)) (A1.eq a7 b7)) (A1.eq a6 b6)) (A1.eq a5 b5)) (A1.eq a4 b4)) (A1.eq a3 b3)) (A1.eq a2 b2)) (A1.eq a1 b1)) (A1.eq a0 b0))) y) x
def A3.eq (x y : A3) : Bool := A3.rec (A3.rec true (fun _ _ _ _ _ _ _ _ _ _ _ _ _ _ _ _ => false) y) (fun a0 a1 a2 a3 a4 a5 a6 a7 a8 a9 aa ab ac ad ae af => A3.rec false (fun b0 b1 b2 b3 b4 b5 b6 b7 b8 b9 ba bb bc bd be bf => (Bool.rec false (Bool.rec false (Bool.rec false (Bool.rec false (Bool.rec false (Bool.rec false (Bool.rec false (Bool.rec false (Bool.rec false (Bool.rec false (Bool.rec false (Bool.rec false (Bool.rec false (Bool.rec false (Bool.rec false (A2.eq af bf) (A2.eq ae be)) (A2.eq ad bd)) (A2.eq ac bc)) (A2.eq ab bb)) (A2.eq aa ba)) (A2.eq a9 b9)) (A2.eq a8 b8)) (A2.eq a7 b7)) (A2.eq a6 b6)) (A2.eq a5 b5)) (A2.eq a4 b4)) (A2.eq a3 b3)) (A2.eq a2 b2)) (A2.eq a1 b1)) (A2.eq a0 b0))) y) x
def A4.eq (x y : A4) : Bool := A4.rec (A4.rec true (fun _ _ _ _ _ _ _ _ _ _ _ _ _ _ _ _ => false) y) (fun a0 a1 a2 a3 a4 a5 a6 a7 a8 a9 aa ab ac ad ae af => A4.rec false (fun b0 b1 b2 b3 b4 b5 b6 b7 b8 b9 ba bb bc bd be bf => (Bool.rec false (Bool.rec false (Bool.rec false (Bool.rec false (Bool.rec false (Bool.rec false (Bool.rec false (Bool.rec false (Bool.rec false (Bool.rec false (Bool.rec false (Bool.rec false (Bool.rec false (Bool.rec false (Bool.rec false (A3.eq af bf) (A3.eq ae be)) (A3.eq ad bd)) (A3.eq ac bc)) (A3.eq ab bb)) (A3.eq aa ba)) (A3.eq a9 b9)) (A3.eq a8 b8)) (A3.eq a7 b7)) (A3.eq a6 b6)) (A3.eq a5 b5)) (A3.eq a4 b4)) (A3.eq a3 b3)) (A3.eq a2 b2)) (A3.eq a1 b1)) (A3.eq a0 b0))) y) x
def A1.mg (x y : A1) : A1 := A1.rec (A1.rec .nil (fun b0 b1 b2 b3 b4 b5 b6 b7 b8 b9 ba bb bc bd be bf => .mk (gI AV.undef b0) (gI AV.undef b1) (gI AV.undef b2) (gI AV.undef b3) (gI AV.undef b4) (gI AV.undef b5) (gI AV.undef b6) (gI AV.undef b7) (gI AV.undef b8) (gI AV.undef b9) (gI AV.undef ba) (gI AV.undef bb) (gI AV.undef bc) (gI AV.undef bd) (gI AV.undef be) (gI AV.undef bf)) y) (fun a0 a1 a2 a3 a4 a5 a6 a7 a8 a9 aa ab ac ad ae af => A1.rec (.mk (gI a0 AV.undef) (gI a1 AV.undef) (gI a2 AV.undef) (gI a3 AV.undef) (gI a4 AV.undef) (gI a5 AV.undef) (gI a6 AV.undef) (gI a7 AV.undef) (gI a8 AV.undef) (gI a9 AV.undef) (gI aa AV.undef) (gI ab AV.undef) (gI ac AV.undef) (gI ad AV.undef) (gI ae AV.undef) (gI af AV.undef)) (fun b0 b1 b2 b3 b4 b5 b6 b7 b8 b9 ba bb bc bd be bf => .mk (gI a0 b0) (gI a1 b1) (gI a2 b2) (gI a3 b3) (gI a4 b4) (gI a5 b5) (gI a6 b6) (gI a7 b7) (gI a8 b8) (gI a9 b9) (gI aa ba) (gI ab bb) (gI ac bc) (gI ad bd) (gI ae be) (gI af bf)) y) x
def A2.mg (x y : A2) : A2 := A2.rec (A2.rec .nil (fun b0 b1 b2 b3 b4 b5 b6 b7 b8 b9 ba bb bc bd be bf => .mk (A1.mg A1.nil b0) (A1.mg A1.nil b1) (A1.mg A1.nil b2) (A1.mg A1.nil b3) (A1.mg A1.nil b4) (A1.mg A1.nil b5) (A1.mg A1.nil b6) (A1.mg A1.nil b7) (A1.mg A1.nil b8) (A1.mg A1.nil b9) (A1.mg A1.nil ba) (A1.mg A1.nil bb) (A1.mg A1.nil bc) (A1.mg A1.nil bd) (A1.mg A1.nil be) (A1.mg A1.nil bf)) y) (fun a0 a1 a2 a3 a4 a5 a6 a7 a8 a9 aa ab ac ad ae af => A2.rec (.mk (A1.mg a0 A1.nil) (A1.mg a1 A1.nil) (A1.mg a2 A1.nil) (A1.mg a3 A1.nil) (A1.mg a4 A1.nil) (A1.mg a5 A1.nil) (A1.mg a6 A1.nil) (A1.mg a7 A1.nil) (A1.mg a8 A1.nil) (A1.mg a9 A1.nil) (A1.mg aa A1.nil) (A1.mg ab A1.nil) (A1.mg ac A1.nil) (A1.mg ad A1.nil) (A1.mg ae A1.nil) (A1.mg af A1.nil)) (fun b0 b1 b2 b3 b4 b5 b6 b7 b8 b9 ba bb bc bd be bf => .mk (A1.mg a0 b0) (A1.mg a1 b1) (A1.mg a2 b2) (A1.mg a3 b3) (A1.mg a4 b4) (A1.mg a5 b5) (A1.mg a6 b6) (A1.mg a7 b7) (A1.mg a8 b8) (A1.mg a9 b9) (A1.mg aa ba) (A1.mg ab bb) (A1.mg ac bc) (A1.mg ad bd) (A1.mg ae be) (A1.mg af bf)) y) x
def Cl.eq (x y : Cl) : Bool := Cl.rec (fun a => Cl.rec (fun b => A1.eq a b) (fun _ => false) (fun _ => false) (fun _ => false) (fun _ _ => false) y) (fun a => Cl.rec (fun _ => false) (fun b => A2.eq a b) (fun _ => false) (fun _ => false) (fun _ _ => false) y) (fun a => Cl.rec (fun _ => false) (fun _ => false) (fun b => A3.eq a b) (fun _ => false) (fun _ _ => false) y) (fun a => Cl.rec (fun _ => false) (fun _ => false) (fun _ => false) (fun b => A4.eq a b) (fun _ _ => false) y) (fun _ _ => false) x
def Fl.eq (x y : Fl) : Bool := Fl.rec (Fl.rec true false false false y) (Fl.rec false true false false y) (Fl.rec false false true false y) (Fl.rec false false false true y) x
def Qs (x y : KV) : Bool := KV.rec (fun k v b => KV.rec (fun k' v' b' => Bool.rec false (Bool.rec false (zf v v') (same k k')) (Nat.beq b b')) y) x
def Ib (a b : List KV) : Bool := dJ (β := List KV → Bool) (fun b => nW b) (fun x _ ih b => List.rec false (fun y b _ => Bool.rec false (ih b) (Qs x y)) b) a b
def zH (x y : Obj) : Bool := Obj.rec (isNone y) false (fun el n ex fl c => Obj.aU y (fun el' n' ex' fl' c' => Bool.rec false (Bool.rec false (Bool.rec false (Bool.rec false (Cl.eq c c') (Fl.eq fl fl')) (kL ex ex')) (Nat.beq n n')) (Nat.beq el el')) false) (fun l ck => Obj.eD y (fun l' ck' => Bool.rec false (Ib l l') (Nat.beq ck ck')) false) (fun _ _ => false) (fun _ _ _ _ => false) false x
def bm (x y : Obj) : Obj := Bool.rec .dead x (zH x y)
def O1.mg (x y : O1) : O1 := O1.rec (O1.rec .nil (fun b0 b1 b2 b3 b4 b5 b6 b7 b8 b9 ba bb bc bd be bf => .mk (bm Obj.none b0) (bm Obj.none b1) (bm Obj.none b2) (bm Obj.none b3) (bm Obj.none b4) (bm Obj.none b5) (bm Obj.none b6) (bm Obj.none b7) (bm Obj.none b8) (bm Obj.none b9) (bm Obj.none ba) (bm Obj.none bb) (bm Obj.none bc) (bm Obj.none bd) (bm Obj.none be) (bm Obj.none bf)) y) (fun a0 a1 a2 a3 a4 a5 a6 a7 a8 a9 aa ab ac ad ae af => O1.rec (.mk (bm a0 Obj.none) (bm a1 Obj.none) (bm a2 Obj.none) (bm a3 Obj.none) (bm a4 Obj.none) (bm a5 Obj.none) (bm a6 Obj.none) (bm a7 Obj.none) (bm a8 Obj.none) (bm a9 Obj.none) (bm aa Obj.none) (bm ab Obj.none) (bm ac Obj.none) (bm ad Obj.none) (bm ae Obj.none) (bm af Obj.none)) (fun b0 b1 b2 b3 b4 b5 b6 b7 b8 b9 ba bb bc bd be bf => .mk (bm a0 b0) (bm a1 b1) (bm a2 b2) (bm a3 b3) (bm a4 b4) (bm a5 b5) (bm a6 b6) (bm a7 b7) (bm a8 b8) (bm a9 b9) (bm aa ba) (bm ab bb) (bm ac bc) (bm ad bd) (bm ae be) (bm af bf)) y) x
def O2.mg (x y : O2) : O2 := O2.rec (O2.rec .nil (fun b0 b1 b2 b3 b4 b5 b6 b7 b8 b9 ba bb bc bd be bf => .mk (O1.mg O1.nil b0) (O1.mg O1.nil b1) (O1.mg O1.nil b2) (O1.mg O1.nil b3) (O1.mg O1.nil b4) (O1.mg O1.nil b5) (O1.mg O1.nil b6) (O1.mg O1.nil b7) (O1.mg O1.nil b8) (O1.mg O1.nil b9) (O1.mg O1.nil ba) (O1.mg O1.nil bb) (O1.mg O1.nil bc) (O1.mg O1.nil bd) (O1.mg O1.nil be) (O1.mg O1.nil bf)) y) (fun a0 a1 a2 a3 a4 a5 a6 a7 a8 a9 aa ab ac ad ae af => O2.rec (.mk (O1.mg a0 O1.nil) (O1.mg a1 O1.nil) (O1.mg a2 O1.nil) (O1.mg a3 O1.nil) (O1.mg a4 O1.nil) (O1.mg a5 O1.nil) (O1.mg a6 O1.nil) (O1.mg a7 O1.nil) (O1.mg a8 O1.nil) (O1.mg a9 O1.nil) (O1.mg aa O1.nil) (O1.mg ab O1.nil) (O1.mg ac O1.nil) (O1.mg ad O1.nil) (O1.mg ae O1.nil) (O1.mg af O1.nil)) (fun b0 b1 b2 b3 b4 b5 b6 b7 b8 b9 ba bb bc bd be bf => .mk (O1.mg a0 b0) (O1.mg a1 b1) (O1.mg a2 b2) (O1.mg a3 b3) (O1.mg a4 b4) (O1.mg a5 b5) (O1.mg a6 b6) (O1.mg a7 b7) (O1.mg a8 b8) (O1.mg a9 b9) (O1.mg aa ba) (O1.mg ab bb) (O1.mg ac bc) (O1.mg ad bd) (O1.mg ae be) (O1.mg af bf)) y) x
def O3.mg (x y : O3) : O3 := O3.rec (O3.rec .nil (fun b0 b1 b2 b3 b4 b5 b6 b7 b8 b9 ba bb bc bd be bf => .mk (O2.mg O2.nil b0) (O2.mg O2.nil b1) (O2.mg O2.nil b2) (O2.mg O2.nil b3) (O2.mg O2.nil b4) (O2.mg O2.nil b5) (O2.mg O2.nil b6) (O2.mg O2.nil b7) (O2.mg O2.nil b8) (O2.mg O2.nil b9) (O2.mg O2.nil ba) (O2.mg O2.nil bb) (O2.mg O2.nil bc) (O2.mg O2.nil bd) (O2.mg O2.nil be) (O2.mg O2.nil bf)) y) (fun a0 a1 a2 a3 a4 a5 a6 a7 a8 a9 aa ab ac ad ae af => O3.rec (.mk (O2.mg a0 O2.nil) (O2.mg a1 O2.nil) (O2.mg a2 O2.nil) (O2.mg a3 O2.nil) (O2.mg a4 O2.nil) (O2.mg a5 O2.nil) (O2.mg a6 O2.nil) (O2.mg a7 O2.nil) (O2.mg a8 O2.nil) (O2.mg a9 O2.nil) (O2.mg aa O2.nil) (O2.mg ab O2.nil) (O2.mg ac O2.nil) (O2.mg ad O2.nil) (O2.mg ae O2.nil) (O2.mg af O2.nil)) (fun b0 b1 b2 b3 b4 b5 b6 b7 b8 b9 ba bb bc bd be bf => .mk (O2.mg a0 b0) (O2.mg a1 b1) (O2.mg a2 b2) (O2.mg a3 b3) (O2.mg a4 b4) (O2.mg a5 b5) (O2.mg a6 b6) (O2.mg a7 b7) (O2.mg a8 b8) (O2.mg a9 b9) (O2.mg aa ba) (O2.mg ab bb) (O2.mg ac bc) (O2.mg ad bd) (O2.mg ae be) (O2.mg af bf)) y) x
def O4.mg (x y : O4) : O4 := O4.rec (O4.rec .nil (fun b0 b1 b2 b3 b4 b5 b6 b7 b8 b9 ba bb bc bd be bf => .mk (O3.mg O3.nil b0) (O3.mg O3.nil b1) (O3.mg O3.nil b2) (O3.mg O3.nil b3) (O3.mg O3.nil b4) (O3.mg O3.nil b5) (O3.mg O3.nil b6) (O3.mg O3.nil b7) (O3.mg O3.nil b8) (O3.mg O3.nil b9) (O3.mg O3.nil ba) (O3.mg O3.nil bb) (O3.mg O3.nil bc) (O3.mg O3.nil bd) (O3.mg O3.nil be) (O3.mg O3.nil bf)) y) (fun a0 a1 a2 a3 a4 a5 a6 a7 a8 a9 aa ab ac ad ae af => O4.rec (.mk (O3.mg a0 O3.nil) (O3.mg a1 O3.nil) (O3.mg a2 O3.nil) (O3.mg a3 O3.nil) (O3.mg a4 O3.nil) (O3.mg a5 O3.nil) (O3.mg a6 O3.nil) (O3.mg a7 O3.nil) (O3.mg a8 O3.nil) (O3.mg a9 O3.nil) (O3.mg aa O3.nil) (O3.mg ab O3.nil) (O3.mg ac O3.nil) (O3.mg ad O3.nil) (O3.mg ae O3.nil) (O3.mg af O3.nil)) (fun b0 b1 b2 b3 b4 b5 b6 b7 b8 b9 ba bb bc bd be bf => .mk (O3.mg a0 b0) (O3.mg a1 b1) (O3.mg a2 b2) (O3.mg a3 b3) (O3.mg a4 b4) (O3.mg a5 b5) (O3.mg a6 b6) (O3.mg a7 b7) (O3.mg a8 b8) (O3.mg a9 b9) (O3.mg aa ba) (O3.mg ab bb) (O3.mg ac bc) (O3.mg ad bd) (O3.mg ae be) (O3.mg af bf)) y) x
def ig (x y : AV) : Bool := Bool.rec (same x y) true (Qr x)
def A1.le (x y : A1) : Bool := A1.rec (A1.rec true (fun b0 b1 b2 b3 b4 b5 b6 b7 b8 b9 ba bb bc bd be bf => (Bool.rec false (Bool.rec false (Bool.rec false (Bool.rec false (Bool.rec false (Bool.rec false (Bool.rec false (Bool.rec false (Bool.rec false (Bool.rec false (Bool.rec false (Bool.rec false (Bool.rec false (Bool.rec false (Bool.rec false (ig AV.undef bf) (ig AV.undef be)) (ig AV.undef bd)) (ig AV.undef bc)) (ig AV.undef bb)) (ig AV.undef ba)) (ig AV.undef b9)) (ig AV.undef b8)) (ig AV.undef b7)) (ig AV.undef b6)) (ig AV.undef b5)) (ig AV.undef b4)) (ig AV.undef b3)) (ig AV.undef b2)) (ig AV.undef b1)) (ig AV.undef b0))) y) (fun a0 a1 a2 a3 a4 a5 a6 a7 a8 a9 aa ab ac ad ae af => A1.rec (Bool.rec false (Bool.rec false (Bool.rec false (Bool.rec false (Bool.rec false (Bool.rec false (Bool.rec false (Bool.rec false (Bool.rec false (Bool.rec false (Bool.rec false (Bool.rec false (Bool.rec false (Bool.rec false (Bool.rec false (ig af AV.undef) (ig ae AV.undef)) (ig ad AV.undef)) (ig ac AV.undef)) (ig ab AV.undef)) (ig aa AV.undef)) (ig a9 AV.undef)) (ig a8 AV.undef)) (ig a7 AV.undef)) (ig a6 AV.undef)) (ig a5 AV.undef)) (ig a4 AV.undef)) (ig a3 AV.undef)) (ig a2 AV.undef)) (ig a1 AV.undef)) (ig a0 AV.undef)) (fun b0 b1 b2 b3 b4 b5 b6 b7 b8 b9 ba bb bc bd be bf => (Bool.rec false (Bool.rec false (Bool.rec false (Bool.rec false (Bool.rec false (Bool.rec false (Bool.rec false (Bool.rec false (Bool.rec false (Bool.rec false (Bool.rec false (Bool.rec false (Bool.rec false (Bool.rec false (Bool.rec false (ig af bf) (ig ae be)) (ig ad bd)) (ig ac bc)) (ig ab bb)) (ig aa ba)) (ig a9 b9)) (ig a8 b8)) (ig a7 b7)) (ig a6 b6)) (ig a5 b5)) (ig a4 b4)) (ig a3 b3)) (ig a2 b2)) (ig a1 b1)) (ig a0 b0))) y) x
def A2.le (x y : A2) : Bool := A2.rec (A2.rec true (fun b0 b1 b2 b3 b4 b5 b6 b7 b8 b9 ba bb bc bd be bf => (Bool.rec false (Bool.rec false (Bool.rec false (Bool.rec false (Bool.rec false (Bool.rec false (Bool.rec false (Bool.rec false (Bool.rec false (Bool.rec false (Bool.rec false (Bool.rec false (Bool.rec false (Bool.rec false (Bool.rec false (A1.le A1.nil bf) (A1.le A1.nil be)) (A1.le A1.nil bd)) (A1.le A1.nil bc)) (A1.le A1.nil bb)) (A1.le A1.nil ba)) (A1.le A1.nil b9)) (A1.le A1.nil b8)) (A1.le A1.nil b7)) (A1.le A1.nil b6)) (A1.le A1.nil b5)) (A1.le A1.nil b4)) (A1.le A1.nil b3)) (A1.le A1.nil b2)) (A1.le A1.nil b1)) (A1.le A1.nil b0))) y) (fun a0 a1 a2 a3 a4 a5 a6 a7 a8 a9 aa ab ac ad ae af => A2.rec (Bool.rec false (Bool.rec false (Bool.rec false (Bool.rec false (Bool.rec false (Bool.rec false (Bool.rec false (Bool.rec false (Bool.rec false (Bool.rec false (Bool.rec false (Bool.rec false (Bool.rec false (Bool.rec false (Bool.rec false (A1.le af A1.nil) (A1.le ae A1.nil)) (A1.le ad A1.nil)) (A1.le ac A1.nil)) (A1.le ab A1.nil)) (A1.le aa A1.nil)) (A1.le a9 A1.nil)) (A1.le a8 A1.nil)) (A1.le a7 A1.nil)) (A1.le a6 A1.nil)) (A1.le a5 A1.nil)) (A1.le a4 A1.nil)) (A1.le a3 A1.nil)) (A1.le a2 A1.nil)) (A1.le a1 A1.nil)) (A1.le a0 A1.nil)) (fun b0 b1 b2 b3 b4 b5 b6 b7 b8 b9 ba bb bc bd be bf => (Bool.rec false (Bool.rec false (Bool.rec false (Bool.rec false (Bool.rec false (Bool.rec false (Bool.rec false (Bool.rec false (Bool.rec false (Bool.rec false (Bool.rec false (Bool.rec false (Bool.rec false (Bool.rec false (Bool.rec false (A1.le af bf) (A1.le ae be)) (A1.le ad bd)) (A1.le ac bc)) (A1.le ab bb)) (A1.le aa ba)) (A1.le a9 b9)) (A1.le a8 b8)) (A1.le a7 b7)) (A1.le a6 b6)) (A1.le a5 b5)) (A1.le a4 b4)) (A1.le a3 b3)) (A1.le a2 b2)) (A1.le a1 b1)) (A1.le a0 b0))) y) x
def xX (x y : T4) : T4 := T4.rec (fun t f => T4.rec (fun u g => .mk (O4.mg t u) (fun m n => bm (f m n) (g m n))) y) x
def UB (x y : Hp) (k : Hp → RS) : RS := Hp.rec (fun t n => Hp.rec (fun u m => Bool.rec (.err 301) (k (.mk (xX t u) n)) (qw n m)) y) x
def BI (x y : RS) : RS := RS.rec (fun r h => RS.rec (fun r' h' => UB h h' (fun h => .nm (A2.mg r r') h)) (fun _ _ _ => .err 302) (fun _ _ _ => .err 302) (fun _ _ => .err 302) (fun n => .err n) (fun _ _ _ => .err 302) y) (fun _ _ _ => .err 303) (fun _ _ _ => .err 303) (fun _ _ => .err 303) (fun n => .err n) (fun _ _ _ => .err 303) x
def Ig (n : Nat) (f : Nat → RS) : RS := Nat.rec (.err 304) (fun n _ => xY (f 0) (fun m ih => BI ih (f (Nat.succ m))) n) n
def dA (x : RS) : RS := RS.elim (fun r h => .nm r h) (fun i r h => .ex i r h) (fun l r h => .go l r h) (fun r h => .ret r h) (fun n => .err n) Ig x
def uk (x : RS) : RS := RS.elim (fun r h => .nm r h) (fun i r h => .ex i r h) (fun l r h => .go l r h) (fun r h => .nm r h) (fun n => .err n) (fun n ih => .ch n ih) x
abbrev iY := AC → A2 → Hp → RS
def Mv (s : Rs) (r : A2) (h : Hp) : RV := Rs.rec (fun a b => .ok (an a b r) h) (fun a b => jZ (.t a b) r h) (fun n a b => rR n (.t a b) r h) s
def Qt (l : List Rs) (r : A2) (h : Hp) (k : List AV → RV) : RV := dJ (β := (List AV → RV) → RV) (fun k => k .nil)
 (fun s _ ih k => RV.rec (fun v _ => ih (fun vs => k (.cons v vs))) (fun n => .err n) (Mv s r h)) l k
def Jk (h : Hp) (l : List AV) : RV := List.rec (.ok cn h) (fun v t _ => List.rec (.ok v h) (fun x y _ => .ok (.jj (.cons v (.cons x y))) h) t) l
def ue (res : List Rs) (r : A2) (h : Hp) : RV := Qt res r h (Jk h)
def eu (res : List Rs) (s : RS) : RT := RS.elim (fun r h => (ue res r h).lL) (fun _ _ _ => .err 200) (fun _ _ _ => .err 201) (fun r h => (ue res r h).lL) (fun n => .err n) (fun n ih => .ch n ih) s
def au (p : Pg) (run : iY) (f : Nat) (args : List AV) (h : Hp) : RT := AF.rec (.err (Nat.add 1000 f)) (fun body res => Bool.rec (.err 207) (eu res (run body (aY args 0 .nil) h)) (Nat.ble args.length 256)) (fun k body res => RT.rec (fun v h => RT.ok v h) (fun _ => Bool.rec (.err 207) (eu res (run body (aY args 0 .nil) h)) (Nat.ble args.length 256)) (fun n k _ => .ch n k) (dH k args h)) (fun body res => Bool.rec (.err 207) (eu res (dA (uk (run body (aY args 0 .nil) h)))) (Nat.ble args.length 256)) (fun k => dH k args h) (aq f p.fs)
def lF (p : Pg) (run : iY) (x : AV) (args : List AV) (h : Hp) : RT := AV.GS x (fun f cs => au p run f (List.append args cs) h) (.err 202)
def aB (p : Pg) (run : iY) (name : Nat) (x : AV) (args : List AV) (h : Hp) : RT := AV.BX x
 (fun t v => pA t name p.ms (fun f => au p run f (.cons v args) h) (.err 206)) (.err 205) (.err 204)
def Dg (d : bw) (k : A2 → Hp → RS) (r : A2) (v : RV) : RS := RV.rec (fun v h => k (cm d v r) h) (fun n => .err n) v
def stepT (d : bw) (k : A2 → Hp → RS) (r : A2) (v : RT) : RS := RT.elim (fun v h => k (cm d v r) h) (fun n => .err n) (fun n ih => .ch n ih) v
def AI.exec (i : AI) (p : Pg) (run : iY) (d : bw) (k : A2 → Hp → RS) (r : A2) (h : Hp) : RS := AI.rec (fun op => Dg d k r (op.run r h)) (fun s x => stepT d k r (jh s (ev x r) h)) (fun f xs => stepT d k r (au p run f (fL xs r) h)) (fun x xs => stepT d k r (lF p run (ev x r) (fL xs r) h)) (fun n x xs => stepT d k r (aB p run n (ev x r) (fL xs r) h)) i
def gb (w : Bool) (x : AV) : AV := OL.rec x (fun l => List.rec (.bool (Bool.not w)) (fun _ _ _ => .undef) l) x.IV
def jJ (d : bw) (k : A2 → Hp → RS) (r : A2) (h : Hp) (i : AI) (p : Pg) (run : iY) (w t : Bool) : RS :=
 Bool.rec (k (cm d cn r) h) (i.exec p run d k r h) (kL t w)
def GI.exec (i : GI) (p : Pg) (run : iY) (k : A2 → Hp → RS) (r : A2) (h : Hp) : RS := GI.rec (fun d i => i.exec p run d k r h) (fun a b w d i => AV.bF (gb w (an a b r)) (jJ d k r h i p run w) (.err 210)) i
def eU (p : Pg) (run : iY) (l : List GI) : A2 → Hp → RS := dJ (β := A2 → Hp → RS) (fun r h => .nm r h) (fun i _ ih => i.exec p run ih) l
def fB (op : oZ) (r : A2) (v : AV) (l : List Hp) : Nat → Bool := dJ (β := Nat → Bool) (fun n => Nat.rec true (fun _ _ => false) n)
 (fun h _ ih n => Nat.rec true (fun n _ => RV.rec (fun v' _ => Bool.rec false (ih n) (same v v')) (fun _ => false) (op.run r h)) n) l
abbrev DK := A2 → Hp → Hp → List Hp → RS
def nH (d : bw) (k : DK) (r : A2) (g : Hp) (hs : List Hp) (v : RT) : RS := RT.rec (fun v h' => k (cm d v r) h' h' (.cons g hs)) (fun n => .err n) (fun _ _ _ => .err 213) v
def zk (d : bw) (op : oZ) (n : Nat) (k : DK) (r : A2) (h g : Hp) (hs : List Hp) (v : RV) : RS := RV.rec (fun v _ => Bool.rec (.err 211) (k (cm d v r) h g hs) (fB op r v hs n)) (fun n => .err n) v
def GU (d : bw) (k : DK) (r : A2) (g : Hp) (hs : List Hp) (v : RV) : RS := RV.rec (fun v h' => k (cm d v r) h' g hs) (fun n => .err n) v
def vJ (b : Bk) (d : bw) (i : AI) (p : Pg) (run : iY) (k : DK) (r : A2) (h g : Hp) (hs : List Hp) : RS := AI.rec (fun op => Bk.rec (nH d k r g hs (op.run r h).lL) (fun n => zk d op n k r h g hs (op.run r g)) (GU d k r g hs (op.run r h)) b) (fun s x => nH d k r g hs (jh s (ev x r) h)) (fun f xs => nH d k r g hs (au p run f (fL xs r) h)) (fun x xs => nH d k r g hs (lF p run (ev x r) (fL xs r) h)) (fun n x xs => nH d k r g hs (aB p run n (ev x r) (fL xs r) h)) i
def Mf (b : Bk) (d : bw) (k : DK) (r : A2) (h g : Hp) (hs : List Hp) : RS := Bk.rec (k (cm d cn r) h h (.cons g hs)) (fun _ => k (cm d cn r) h g hs) (.err 214) b
def FT (b : Bk) (d : bw) (i : AI) (k : DK) (r : A2) (h g : Hp) (hs : List Hp) (p : Pg) (run : iY) (w t : Bool) : RS :=
 Bool.rec (Mf b d k r h g hs) (vJ b d i p run k r h g hs) (kL t w)
def DI.exec (i : DI) (p : Pg) (run : iY) (k : DK) (r : A2) (h g : Hp) (hs : List Hp) : RS := DI.rec (fun b y => GI.rec (fun d i => vJ b d i p run k r h g hs) (fun x y w d i => AV.bF (gb w (an x y r)) (FT b d i k r h g hs p run w) (.err 212)) y) i
def dI (p : Pg) (run : iY) (l : List DI) : DK := dJ (β := DK) (fun r h _ _ => .nm r h) (fun i _ ih => i.exec p run ih) l
def cT : AC → Nat → Option AC
 | .seq a b, l => match cT a l with
  | some c => some (.seq c b)
  | none => cT b l
 | .label l', l => if Nat.beq l' l then some .skip else none
 | .ah _ x, l => cT x l
 | _, _ => none
def RS.bind (x : RS) (kn : A2 → Hp → RS) (ke : Nat → A2 → Hp → RS) (kg : Nat → A2 → Hp → RS) : RS := RS.elim kn ke kg (fun r h => .ret r h) (fun n => .err n) (fun n ih => .ch n ih) x
def Du (a b : AC) (run : iY) (r : A2) (h : Hp) : RS := RS.bind (run a r h) (fun r h => run b r h) (fun i r h => .ex i r h) (fun l r h => .go l r h)
def Rj (c : AO) (a b : AC) (run : iY) (r : A2) (h : Hp) : RS := AV.bF (ev c r) (fun t => Bool.rec (run b r h) (run a r h) t) (.err 213)
def sW (i : Nat) (a : AC) (run : iY) (r : A2) (h : Hp) : RS := RS.bind (run a r h) (fun r h => .nm r h) (fun j r h => Bool.rec (.ex j r h) (.nm r h) (Nat.beq j i)) (fun l r h => .go l r h)
def yd (a : AC) (run : iY) (r : A2) (h : Hp) : RS := RS.bind (run a r h) (fun r h => run (.loop a) r h) (fun i r h => .ex i r h) (fun l r h => .go l r h)
def zO (a c : AC) (run : iY) (r : A2) (h : Hp) : RS := RS.bind (run c r h) (fun r h => .nm r h) (fun i r h => .ex i r h)
 (fun l r h => Option.rec (.go l r h) (fun c => run (.sat a c) r h) (cT a l))
def Rk (a : AC) (run : iY) (r : A2) (h : Hp) : RS := dA (run a r h)
def Nf (n : Nat) (f : Nat → Bool) : Bool := xY true (fun m ih => Bool.rec false ih (f m)) n
abbrev Ex := Pg → iY → A2 → Hp → RS
def zb (q : Nat) (r : A2) (i : Nat) : A1 := Bool.rec (A2.get (dw i) r) (Bool.rec (A2.get (dw (Nat.succ i)) r) .nil (Nat.beq i 15)) (Nat.ble q i)
def tZ (q : Nat) (r : A2) : A2 := .mk (zb q r 0) (zb q r 1) (zb q r 2) (zb q r 3) (zb q r 4) (zb q r 5) (zb q r 6) (zb q r 7) (zb q r 8) (zb q r 9) (zb q r 10) (zb q r 11) (zb q r 12) (zb q r 13) (zb q r 14) (zb q r 15)
def zd (q : Nat) (r : A2) (i : Nat) : A1 := Bool.rec (A2.get (dw (Nat.pred i)) r) (Bool.rec (A2.get (dw i) r) .nil (Nat.beq i q)) (Nat.ble i q)
def BB (q : Nat) (r : A2) : A2 := .mk (zd q r 0) (zd q r 1) (zd q r 2) (zd q r 3) (zd q r 4) (zd q r 5) (zd q r 6) (zd q r 7) (zd q r 8) (zd q r 9) (zd q r 10) (zd q r 11) (zd q r 12) (zd q r 13) (zd q r 14) (zd q r 15)
def Qx (x y : RS) : Bool := RS.rec (fun r _ => RS.rec (fun r' _ => A2.le r r') (fun _ _ _ => false) (fun _ _ _ => false) (fun _ _ => false) (fun _ => false) (fun _ _ _ => false) y) (fun _ _ _ => false) (fun _ _ _ => false) (fun _ _ => false) (fun _ => false) (fun _ _ _ => false) x
def yg (x y : RS) : RS := Bool.rec (.ch 2 (fun i => Nat.rec x (fun _ _ => y) i)) (dA (.ch 2 (fun i => Nat.rec x (fun _ _ => y) i))) (Qx x y)
def yh (q : Nat) (l : List GI) (p : Pg) (run : iY) (r : A2) (h : Hp) : RS := RS.bind (eU p run l (tZ q r) h) (fun r h => .nm (BB q r) h) (fun i r h => .ex i r h) (fun l r h => .go l r h)
def uo (c : AC) : Ex := AC.rec (motive := fun _ => Ex) (fun _ _ r h => .nm r h) (fun l p run r h => eU p run l r h) (fun l p run r h => dI p run l r h h .nil) (fun a b _ _ => fun _ run r h => Du a b run r h) (fun c a b _ _ => fun _ run r h => Rj c a b run r h) (fun i a _ => fun _ run r h => sW i a run r h) (fun a _ => fun _ run r h => yd a run r h) (fun a _ => fun _ run r h => zO a a run r h) (fun a c _ _ => fun _ run r h => zO a c run r h) (fun i => fun _ _ r h => .ex i r h) (fun l => fun _ _ r h => .go l r h) (fun _ => fun _ _ r h => .nm r h) (fun _ _ r h => .ret r h) (fun a _ => fun _ run r h => Rk a run r h) (fun n => fun _ _ _ _ => .err n) (fun f x _ => fun p run r h => f (au p run) (aB p run) (fun r h => run x r h) r h) (fun a b _ _ => fun _ run r h => yg (run a r h) (run b r h)) (fun q l p run r h => yh q l p run r h) c
def exec (p : Pg) (n : Nat) : iY := Nat.rec (fun _ _ _ => .err 300) (fun _ ih c => uo c p ih) n
def Vi : Hp := .mk (.mk .nil (fun _ _ => .none)) (.mk .h0 .h0 .h0 .h0)
def rounds (k : Nat) (f : A2 → Hp → RS) : A2 → Hp → RS := xY (β := A2 → Hp → RS) (fun r h => .nm r h) (fun _ ih r h => RS.bind (f r h) ih (fun i r h => .ex i r h) (fun l r h => .go l r h)) k
def eR (v : RT) : Bool := RT.elim (fun v _ => AV.bF v (fun b => b) false) (fun _ => false) Nf v
end
end Go.Am
