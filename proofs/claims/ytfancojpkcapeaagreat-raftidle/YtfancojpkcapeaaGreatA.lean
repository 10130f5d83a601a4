/- The abstract machine: its states, its operations, its run. Nothing is asked. -/
import GoSem.Core.Value
import GoSem.Core.Ast
import GoSem.Core.Float
import GoSem.Op.IntArith
import GoSem.Conv.StringToRunes
import GoSem.Core.Utf8
set_option linter.all false
namespace Go.Am
noncomputable section
inductive H where
 | h0 | h1 | h2 | h3 | h4 | h5 | h6 | h7 | h8 | h9 | ha | hb | hc | hd | he | hf
def H.succ (d : H) : H := H.rec H.h1 H.h2 H.h3 H.h4 H.h5 H.h6 H.h7 H.h8 H.h9 H.ha H.hb H.hc H.hd H.he H.hf H.h0 d
def H.last (d : H) : Bool := H.rec false false false false false false false false false false false false false false false true d
def H.nat (d : H) : Nat := H.rec 0 1 2 3 4 5 6 7 8 9 10 11 12 13 14 15 d
def dC (n : Nat) : H := (Nat.rec H.h0 (fun n1 _ => (Nat.rec H.h1 (fun n2 _ => (Nat.rec H.h2 (fun n3 _ => (Nat.rec H.h3 (fun n4 _ => (Nat.rec H.h4 (fun n5 _ => (Nat.rec H.h5 (fun n6 _ => (Nat.rec H.h6 (fun n7 _ => (Nat.rec H.h7 (fun n8 _ => (Nat.rec H.h8 (fun n9 _ => (Nat.rec H.h9 (fun n10 _ => (Nat.rec H.ha (fun n11 _ => (Nat.rec H.hb (fun n12 _ => (Nat.rec H.hc (fun n13 _ => (Nat.rec H.hd (fun n14 _ => (Nat.rec H.he (fun n15 _ => H.hf) n14)) n13)) n12)) n11)) n10)) n9)) n8)) n7)) n6)) n5)) n4)) n3)) n2)) n1)) n)
def dT {α β : Type} (n : β) (c : α → List α → β → β) (l : List α) : β := List.rec n c l
inductive P4 where
 | mk (a b c d : H)
 | ft (b o : Nat)
inductive AV where
 | undef
 | bool (b : Bool)
 | int (k : IntKind) (n : Int)
 | str (l : List Nat)
 | qd (k : FloatKind) (n : Nat)
 | iu (k : FloatKind) (re im : Nat)
 | ptr (i : P4) (off : Nat)
 | da
 | slice (i : P4) (off len cap : Nat)
 | cA (i : P4) (off len es : Nat)
 | al
 | map (i : P4)
 | db
 | fn (f : Nat) (cs : List AV)
 | DX
 | iface (t : Nat) (v : AV)
 | AZ
 | agg (cs : List AV)
 | gh (vs : List AV)
 | sym (i : P4)
inductive KV where
 | mk (k v : AV) (born : Nat)
inductive A1 where
 | nil
 | mk (a0 a1 a2 a3 a4 a5 a6 a7 a8 a9 aa ab ac ad ae af : AV)
def A1.g0 (x : A1) : AV := A1.rec .undef (fun a0 a1 a2 a3 a4 a5 a6 a7 a8 a9 aa ab ac ad ae af => a0) x
def A1.g1 (x : A1) : AV := A1.rec .undef (fun a0 a1 a2 a3 a4 a5 a6 a7 a8 a9 aa ab ac ad ae af => a1) x
def A1.g2 (x : A1) : AV := A1.rec .undef (fun a0 a1 a2 a3 a4 a5 a6 a7 a8 a9 aa ab ac ad ae af => a2) x
def A1.g3 (x : A1) : AV := A1.rec .undef (fun a0 a1 a2 a3 a4 a5 a6 a7 a8 a9 aa ab ac ad ae af => a3) x
def A1.g4 (x : A1) : AV := A1.rec .undef (fun a0 a1 a2 a3 a4 a5 a6 a7 a8 a9 aa ab ac ad ae af => a4) x
def A1.g5 (x : A1) : AV := A1.rec .undef (fun a0 a1 a2 a3 a4 a5 a6 a7 a8 a9 aa ab ac ad ae af => a5) x
def A1.g6 (x : A1) : AV := A1.rec .undef (fun a0 a1 a2 a3 a4 a5 a6 a7 a8 a9 aa ab ac ad ae af => a6) x
def A1.g7 (x : A1) : AV := A1.rec .undef (fun a0 a1 a2 a3 a4 a5 a6 a7 a8 a9 aa ab ac ad ae af => a7) x
def A1.g8 (x : A1) : AV := A1.rec .undef (fun a0 a1 a2 a3 a4 a5 a6 a7 a8 a9 aa ab ac ad ae af => a8) x
def A1.g9 (x : A1) : AV := A1.rec .undef (fun a0 a1 a2 a3 a4 a5 a6 a7 a8 a9 aa ab ac ad ae af => a9) x
def A1.ga (x : A1) : AV := A1.rec .undef (fun a0 a1 a2 a3 a4 a5 a6 a7 a8 a9 aa ab ac ad ae af => aa) x
def A1.gb (x : A1) : AV := A1.rec .undef (fun a0 a1 a2 a3 a4 a5 a6 a7 a8 a9 aa ab ac ad ae af => ab) x
def A1.gc (x : A1) : AV := A1.rec .undef (fun a0 a1 a2 a3 a4 a5 a6 a7 a8 a9 aa ab ac ad ae af => ac) x
def A1.gd (x : A1) : AV := A1.rec .undef (fun a0 a1 a2 a3 a4 a5 a6 a7 a8 a9 aa ab ac ad ae af => ad) x
def A1.ge (x : A1) : AV := A1.rec .undef (fun a0 a1 a2 a3 a4 a5 a6 a7 a8 a9 aa ab ac ad ae af => ae) x
def A1.gf (x : A1) : AV := A1.rec .undef (fun a0 a1 a2 a3 a4 a5 a6 a7 a8 a9 aa ab ac ad ae af => af) x
def A1.get (d : H) : A1 → AV := H.rec (motive := fun _ => A1 → AV) A1.g0 A1.g1 A1.g2 A1.g3 A1.g4 A1.g5 A1.g6 A1.g7 A1.g8 A1.g9 A1.ga A1.gb A1.gc A1.gd A1.ge A1.gf d
def A1.s0 (v : AV) (x : A1) : A1 := A1.rec (motive := fun _ => AV → A1) (fun v => .mk v .undef .undef .undef .undef .undef .undef .undef .undef .undef .undef .undef .undef .undef .undef .undef) (fun a0 a1 a2 a3 a4 a5 a6 a7 a8 a9 aa ab ac ad ae af => fun v => .mk v a1 a2 a3 a4 a5 a6 a7 a8 a9 aa ab ac ad ae af) x v
def A1.s1 (v : AV) (x : A1) : A1 := A1.rec (motive := fun _ => AV → A1) (fun v => .mk .undef v .undef .undef .undef .undef .undef .undef .undef .undef .undef .undef .undef .undef .undef .undef) (fun a0 a1 a2 a3 a4 a5 a6 a7 a8 a9 aa ab ac ad ae af => fun v => .mk a0 v a2 a3 a4 a5 a6 a7 a8 a9 aa ab ac ad ae af) x v
def A1.s2 (v : AV) (x : A1) : A1 := A1.rec (motive := fun _ => AV → A1) (fun v => .mk .undef .undef v .undef .undef .undef .undef .undef .undef .undef .undef .undef .undef .undef .undef .undef) (fun a0 a1 a2 a3 a4 a5 a6 a7 a8 a9 aa ab ac ad ae af => fun v => .mk a0 a1 v a3 a4 a5 a6 a7 a8 a9 aa ab ac ad ae af) x v
def A1.s3 (v : AV) (x : A1) : A1 := A1.rec (motive := fun _ => AV → A1) (fun v => .mk .undef .undef .undef v .undef .undef .undef .undef .undef .undef .undef .undef .undef .undef .undef .undef) (fun a0 a1 a2 a3 a4 a5 a6 a7 a8 a9 aa ab ac ad ae af => fun v => .mk a0 a1 a2 v a4 a5 a6 a7 a8 a9 aa ab ac ad ae af) x v
def A1.s4 (v : AV) (x : A1) : A1 := A1.rec (motive := fun _ => AV → A1) (fun v => .mk .undef .undef .undef .undef v .undef .undef .undef .undef .undef .undef .undef .undef .undef .undef .undef) (fun a0 a1 a2 a3 a4 a5 a6 a7 a8 a9 aa ab ac ad ae af => fun v => .mk a0 a1 a2 a3 v a5 a6 a7 a8 a9 aa ab ac ad ae af) x v
def A1.s5 (v : AV) (x : A1) : A1 := A1.rec (motive := fun _ => AV → A1) (fun v => .mk .undef .undef .undef .undef .undef v .undef .undef .undef .undef .undef .undef .undef .undef .undef .undef) (fun a0 a1 a2 a3 a4 a5 a6 a7 a8 a9 aa ab ac ad ae af => fun v => .mk a0 a1 a2 a3 a4 v a6 a7 a8 a9 aa ab ac ad ae af) x v
def A1.s6 (v : AV) (x : A1) : A1 := A1.rec (motive := fun _ => AV → A1) (fun v => .mk .undef .undef .undef .undef .undef .undef v .undef .undef .undef .undef .undef .undef .undef .undef .undef) (fun a0 a1 a2 a3 a4 a5 a6 a7 a8 a9 aa ab ac ad ae af => fun v => .mk a0 a1 a2 a3 a4 a5 v a7 a8 a9 aa ab ac ad ae af) x v
def A1.s7 (v : AV) (x : A1) : A1 := A1.rec (motive := fun _ => AV → A1) (fun v => .mk .undef .undef .undef .undef .undef .undef .undef v .undef .undef .undef .undef .undef .undef .undef .undef) (fun a0 a1 a2 a3 a4 a5 a6 a7 a8 a9 aa ab ac ad ae af => fun v => .mk a0 a1 a2 a3 a4 a5 a6 v a8 a9 aa ab ac ad ae af) x v
def A1.s8 (v : AV) (x : A1) : A1 := A1.rec (motive := fun _ => AV → A1) (fun v => .mk .undef .undef .undef .undef .undef .undef .undef .undef v .undef .undef .undef .undef .undef .undef .undef) (fun a0 a1 a2 a3 a4 a5 a6 a7 a8 a9 aa ab ac ad ae af => fun v => .mk a0 a1 a2 a3 a4 a5 a6 a7 v a9 aa ab ac ad ae af) x v
def A1.s9 (v : AV) (x : A1) : A1 := A1.rec (motive := fun _ => AV → A1) (fun v => .mk .undef .undef .undef .undef .undef .undef .undef .undef .undef v .undef .undef .undef .undef .undef .undef) (fun a0 a1 a2 a3 a4 a5 a6 a7 a8 a9 aa ab ac ad ae af => fun v => .mk a0 a1 a2 a3 a4 a5 a6 a7 a8 v aa ab ac ad ae af) x v
def A1.sa (v : AV) (x : A1) : A1 := A1.rec (motive := fun _ => AV → A1) (fun v => .mk .undef .undef .undef .undef .undef .undef .undef .undef .undef .undef v .undef .undef .undef .undef .undef) (fun a0 a1 a2 a3 a4 a5 a6 a7 a8 a9 aa ab ac ad ae af => fun v => .mk a0 a1 a2 a3 a4 a5 a6 a7 a8 a9 v ab ac ad ae af) x v
def A1.sb (v : AV) (x : A1) : A1 := A1.rec (motive := fun _ => AV → A1) (fun v => .mk .undef .undef .undef .undef .undef .undef .undef .undef .undef .undef .undef v .undef .undef .undef .undef) (fun a0 a1 a2 a3 a4 a5 a6 a7 a8 a9 aa ab ac ad ae af => fun v => .mk a0 a1 a2 a3 a4 a5 a6 a7 a8 a9 aa v ac ad ae af) x v
def A1.sc (v : AV) (x : A1) : A1 := A1.rec (motive := fun _ => AV → A1) (fun v => .mk .undef .undef .undef .undef .undef .undef .undef .undef .undef .undef .undef .undef v .undef .undef .undef) (fun a0 a1 a2 a3 a4 a5 a6 a7 a8 a9 aa ab ac ad ae af => fun v => .mk a0 a1 a2 a3 a4 a5 a6 a7 a8 a9 aa ab v ad ae af) x v
def A1.sd (v : AV) (x : A1) : A1 := A1.rec (motive := fun _ => AV → A1) (fun v => .mk .undef .undef .undef .undef .undef .undef .undef .undef .undef .undef .undef .undef .undef v .undef .undef) (fun a0 a1 a2 a3 a4 a5 a6 a7 a8 a9 aa ab ac ad ae af => fun v => .mk a0 a1 a2 a3 a4 a5 a6 a7 a8 a9 aa ab ac v ae af) x v
def A1.se (v : AV) (x : A1) : A1 := A1.rec (motive := fun _ => AV → A1) (fun v => .mk .undef .undef .undef .undef .undef .undef .undef .undef .undef .undef .undef .undef .undef .undef v .undef) (fun a0 a1 a2 a3 a4 a5 a6 a7 a8 a9 aa ab ac ad ae af => fun v => .mk a0 a1 a2 a3 a4 a5 a6 a7 a8 a9 aa ab ac ad v af) x v
def A1.sf (v : AV) (x : A1) : A1 := A1.rec (motive := fun _ => AV → A1) (fun v => .mk .undef .undef .undef .undef .undef .undef .undef .undef .undef .undef .undef .undef .undef .undef .undef v) (fun a0 a1 a2 a3 a4 a5 a6 a7 a8 a9 aa ab ac ad ae af => fun v => .mk a0 a1 a2 a3 a4 a5 a6 a7 a8 a9 aa ab ac ad ae v) x v
def A1.set (d : H) : AV → A1 → A1 := H.rec (motive := fun _ => AV → A1 → A1) A1.s0 A1.s1 A1.s2 A1.s3 A1.s4 A1.s5 A1.s6 A1.s7 A1.s8 A1.s9 A1.sa A1.sb A1.sc A1.sd A1.se A1.sf d
inductive A2 where
 | nil
 | mk (a0 a1 a2 a3 a4 a5 a6 a7 a8 a9 aa ab ac ad ae af : A1)
def A2.g0 (x : A2) : A1 := A2.rec .nil (fun a0 a1 a2 a3 a4 a5 a6 a7 a8 a9 aa ab ac ad ae af => a0) x
def A2.g1 (x : A2) : A1 := A2.rec .nil (fun a0 a1 a2 a3 a4 a5 a6 a7 a8 a9 aa ab ac ad ae af => a1) x
def A2.g2 (x : A2) : A1 := A2.rec .nil (fun a0 a1 a2 a3 a4 a5 a6 a7 a8 a9 aa ab ac ad ae af => a2) x
def A2.g3 (x : A2) : A1 := A2.rec .nil (fun a0 a1 a2 a3 a4 a5 a6 a7 a8 a9 aa ab ac ad ae af => a3) x
def A2.g4 (x : A2) : A1 := A2.rec .nil (fun a0 a1 a2 a3 a4 a5 a6 a7 a8 a9 aa ab ac ad ae af => a4) x
def A2.g5 (x : A2) : A1 := A2.rec .nil (fun a0 a1 a2 a3 a4 a5 a6 a7 a8 a9 aa ab ac ad ae af => a5) x
def A2.g6 (x : A2) : A1 := A2.rec .nil (fun a0 a1 a2 a3 a4 a5 a6 a7 a8 a9 aa ab ac ad ae af => a6) x
def A2.g7 (x : A2) : A1 := A2.rec .nil (fun a0 a1 a2 a3 a4 a5 a6 a7 a8 a9 aa ab ac ad ae af => a7) x
def A2.g8 (x : A2) : A1 := A2.rec .nil (fun a0 a1 a2 a3 a4 a5 a6 a7 a8 a9 aa ab ac ad ae af => a8) x
def A2.g9 (x : A2) : A1 := A2.rec .nil (fun a0 a1 a2 a3 a4 a5 a6 a7 a8 a9 aa ab ac ad ae af => a9) x
def A2.ga (x : A2) : A1 := A2.rec .nil (fun a0 a1 a2 a3 a4 a5 a6 a7 a8 a9 aa ab ac ad ae af => aa) x
def A2.gb (x : A2) : A1 := A2.rec .nil (fun a0 a1 a2 a3 a4 a5 a6 a7 a8 a9 aa ab ac ad ae af => ab) x
def A2.gc (x : A2) : A1 := A2.rec .nil (fun a0 a1 a2 a3 a4 a5 a6 a7 a8 a9 aa ab ac ad ae af => ac) x
def A2.gd (x : A2) : A1 := A2.rec .nil (fun a0 a1 a2 a3 a4 a5 a6 a7 a8 a9 aa ab ac ad ae af => ad) x
def A2.ge (x : A2) : A1 := A2.rec .nil (fun a0 a1 a2 a3 a4 a5 a6 a7 a8 a9 aa ab ac ad ae af => ae) x
def A2.gf (x : A2) : A1 := A2.rec .nil (fun a0 a1 a2 a3 a4 a5 a6 a7 a8 a9 aa ab ac ad ae af => af) x
def A2.get (d : H) : A2 → A1 := H.rec (motive := fun _ => A2 → A1) A2.g0 A2.g1 A2.g2 A2.g3 A2.g4 A2.g5 A2.g6 A2.g7 A2.g8 A2.g9 A2.ga A2.gb A2.gc A2.gd A2.ge A2.gf d
def A2.s0 (v : A1) (x : A2) : A2 := A2.rec (motive := fun _ => A1 → A2) (fun v => .mk v .nil .nil .nil .nil .nil .nil .nil .nil .nil .nil .nil .nil .nil .nil .nil) (fun a0 a1 a2 a3 a4 a5 a6 a7 a8 a9 aa ab ac ad ae af => fun v => .mk v a1 a2 a3 a4 a5 a6 a7 a8 a9 aa ab ac ad ae af) x v
def A2.s1 (v : A1) (x : A2) : A2 := A2.rec (motive := fun _ => A1 → A2) (fun v => .mk .nil v .nil .nil .nil .nil .nil .nil .nil .nil .nil .nil .nil .nil .nil .nil) (fun a0 a1 a2 a3 a4 a5 a6 a7 a8 a9 aa ab ac ad ae af => fun v => .mk a0 v a2 a3 a4 a5 a6 a7 a8 a9 aa ab ac ad ae af) x v
def A2.s2 (v : A1) (x : A2) : A2 := A2.rec (motive := fun _ => A1 → A2) (fun v => .mk .nil .nil v .nil .nil .nil .nil .nil .nil .nil .nil .nil .nil .nil .nil .nil) (fun a0 a1 a2 a3 a4 a5 a6 a7 a8 a9 aa ab ac ad ae af => fun v => .mk a0 a1 v a3 a4 a5 a6 a7 a8 a9 aa ab ac ad ae af) x v
def A2.s3 (v : A1) (x : A2) : A2 := A2.rec (motive := fun _ => A1 → A2) (fun v => .mk .nil .nil .nil v .nil .nil .nil .nil .nil .nil .nil .nil .nil .nil .nil .nil) (fun a0 a1 a2 a3 a4 a5 a6 a7 a8 a9 aa ab ac ad ae af => fun v => .mk a0 a1 a2 v a4 a5 a6 a7 a8 a9 aa ab ac ad ae af) x v
def A2.s4 (v : A1) (x : A2) : A2 := A2.rec (motive := fun _ => A1 → A2) (fun v => .mk .nil .nil .nil .nil v .nil .nil .nil .nil .nil .nil .nil .nil .nil .nil .nil) (fun a0 a1 a2 a3 a4 a5 a6 a7 a8 a9 aa ab ac ad ae af => fun v => .mk a0 a1 a2 a3 v a5 a6 a7 a8 a9 aa ab ac ad ae af) x v
def A2.s5 (v : A1) (x : A2) : A2 := A2.rec (motive := fun _ => A1 → A2) (fun v => .mk .nil .nil .nil .nil .nil v .nil .nil .nil .nil .nil .nil .nil .nil .nil .nil) (fun a0 a1 a2 a3 a4 a5 a6 a7 a8 a9 aa ab ac ad ae af => fun v => .mk a0 a1 a2 a3 a4 v a6 a7 a8 a9 aa ab ac ad ae af) x v
def A2.s6 (v : A1) (x : A2) : A2 := A2.rec (motive := fun _ => A1 → A2) (fun v => .mk .nil .nil .nil .nil .nil .nil v .nil .nil .nil .nil .nil .nil .nil .nil .nil) (fun a0 a1 a2 a3 a4 a5 a6 a7 a8 a9 aa ab ac ad ae af => fun v => .mk a0 a1 a2 a3 a4 a5 v a7 a8 a9 aa ab ac ad ae af) x v
def A2.s7 (v : A1) (x : A2) : A2 := A2.rec (motive := fun _ => A1 → A2) (fun v => .mk .nil .nil .nil .nil .nil .nil .nil v .nil .nil .nil .nil .nil .nil .nil .nil) (fun a0 a1 a2 a3 a4 a5 a6 a7 a8 a9 aa ab ac ad ae af => fun v => .mk a0 a1 a2 a3 a4 a5 a6 v a8 a9 aa ab ac ad ae af) x v
def A2.s8 (v : A1) (x : A2) : A2 := A2.rec (motive := fun _ => A1 → A2) (fun v => .mk .nil .nil .nil .nil .nil .nil .nil .nil v .nil .nil .nil .nil .nil .nil .nil) (fun a0 a1 a2 a3 a4 a5 a6 a7 a8 a9 aa ab ac ad ae af => fun v => .mk a0 a1 a2 a3 a4 a5 a6 a7 v a9 aa ab ac ad ae af) x v
def A2.s9 (v : A1) (x : A2) : A2 := A2.rec (motive := fun _ => A1 → A2) (fun v => .mk .nil .nil .nil .nil .nil .nil .nil .nil .nil v .nil .nil .nil .nil .nil .nil) (fun a0 a1 a2 a3 a4 a5 a6 a7 a8 a9 aa ab ac ad ae af => fun v => .mk a0 a1 a2 a3 a4 a5 a6 a7 a8 v aa ab ac ad ae af) x v
def A2.sa (v : A1) (x : A2) : A2 := A2.rec (motive := fun _ => A1 → A2) (fun v => .mk .nil .nil .nil .nil .nil .nil .nil .nil .nil .nil v .nil .nil .nil .nil .nil) (fun a0 a1 a2 a3 a4 a5 a6 a7 a8 a9 aa ab ac ad ae af => fun v => .mk a0 a1 a2 a3 a4 a5 a6 a7 a8 a9 v ab ac ad ae af) x v
def A2.sb (v : A1) (x : A2) : A2 := A2.rec (motive := fun _ => A1 → A2) (fun v => .mk .nil .nil .nil .nil .nil .nil .nil .nil .nil .nil .nil v .nil .nil .nil .nil) (fun a0 a1 a2 a3 a4 a5 a6 a7 a8 a9 aa ab ac ad ae af => fun v => .mk a0 a1 a2 a3 a4 a5 a6 a7 a8 a9 aa v ac ad ae af) x v
def A2.sc (v : A1) (x : A2) : A2 := A2.rec (motive := fun _ => A1 → A2) (fun v => .mk .nil .nil .nil .nil .nil .nil .nil .nil .nil .nil .nil .nil v .nil .nil .nil) (fun a0 a1 a2 a3 a4 a5 a6 a7 a8 a9 aa ab ac ad ae af => fun v => .mk a0 a1 a2 a3 a4 a5 a6 a7 a8 a9 aa ab v ad ae af) x v
def A2.sd (v : A1) (x : A2) : A2 := A2.rec (motive := fun _ => A1 → A2) (fun v => .mk .nil .nil .nil .nil .nil .nil .nil .nil .nil .nil .nil .nil .nil v .nil .nil) (fun a0 a1 a2 a3 a4 a5 a6 a7 a8 a9 aa ab ac ad ae af => fun v => .mk a0 a1 a2 a3 a4 a5 a6 a7 a8 a9 aa ab ac v ae af) x v
def A2.se (v : A1) (x : A2) : A2 := A2.rec (motive := fun _ => A1 → A2) (fun v => .mk .nil .nil .nil .nil .nil .nil .nil .nil .nil .nil .nil .nil .nil .nil v .nil) (fun a0 a1 a2 a3 a4 a5 a6 a7 a8 a9 aa ab ac ad ae af => fun v => .mk a0 a1 a2 a3 a4 a5 a6 a7 a8 a9 aa ab ac ad v af) x v
def A2.sf (v : A1) (x : A2) : A2 := A2.rec (motive := fun _ => A1 → A2) (fun v => .mk .nil .nil .nil .nil .nil .nil .nil .nil .nil .nil .nil .nil .nil .nil .nil v) (fun a0 a1 a2 a3 a4 a5 a6 a7 a8 a9 aa ab ac ad ae af => fun v => .mk a0 a1 a2 a3 a4 a5 a6 a7 a8 a9 aa ab ac ad ae v) x v
def A2.set (d : H) : A1 → A2 → A2 := H.rec (motive := fun _ => A1 → A2 → A2) A2.s0 A2.s1 A2.s2 A2.s3 A2.s4 A2.s5 A2.s6 A2.s7 A2.s8 A2.s9 A2.sa A2.sb A2.sc A2.sd A2.se A2.sf d
inductive A3 where
 | nil
 | mk (a0 a1 a2 a3 a4 a5 a6 a7 a8 a9 aa ab ac ad ae af : A2)
def A3.g0 (x : A3) : A2 := A3.rec .nil (fun a0 a1 a2 a3 a4 a5 a6 a7 a8 a9 aa ab ac ad ae af => a0) x
def A3.g1 (x : A3) : A2 := A3.rec .nil (fun a0 a1 a2 a3 a4 a5 a6 a7 a8 a9 aa ab ac ad ae af => a1) x
def A3.g2 (x : A3) : A2 := A3.rec .nil (fun a0 a1 a2 a3 a4 a5 a6 a7 a8 a9 aa ab ac ad ae af => a2) x
def A3.g3 (x : A3) : A2 := A3.rec .nil (fun a0 a1 a2 a3 a4 a5 a6 a7 a8 a9 aa ab ac ad ae af => a3) x
def A3.g4 (x : A3) : A2 := A3.rec .nil (fun a0 a1 a2 a3 a4 a5 a6 a7 a8 a9 aa ab ac ad ae af => a4) x
def A3.g5 (x : A3) : A2 := A3.rec .nil (fun a0 a1 a2 a3 a4 a5 a6 a7 a8 a9 aa ab ac ad ae af => a5) x
def A3.g6 (x : A3) : A2 := A3.rec .nil (fun a0 a1 a2 a3 a4 a5 a6 a7 a8 a9 aa ab ac ad ae af => a6) x
def A3.g7 (x : A3) : A2 := A3.rec .nil (fun a0 a1 a2 a3 a4 a5 a6 a7 a8 a9 aa ab ac ad ae af => a7) x
def A3.g8 (x : A3) : A2 := A3.rec .nil (fun a0 a1 a2 a3 a4 a5 a6 a7 a8 a9 aa ab ac ad ae af => a8) x
def A3.g9 (x : A3) : A2 := A3.rec .nil (fun a0 a1 a2 a3 a4 a5 a6 a7 a8 a9 aa ab ac ad ae af => a9) x
def A3.ga (x : A3) : A2 := A3.rec .nil (fun a0 a1 a2 a3 a4 a5 a6 a7 a8 a9 aa ab ac ad ae af => aa) x
def A3.gb (x : A3) : A2 := A3.rec .nil (fun a0 a1 a2 a3 a4 a5 a6 a7 a8 a9 aa ab ac ad ae af => ab) x
def A3.gc (x : A3) : A2 := A3.rec .nil (fun a0 a1 a2 a3 a4 a5 a6 a7 a8 a9 aa ab ac ad ae af => ac) x
def A3.gd (x : A3) : A2 := A3.rec .nil (fun a0 a1 a2 a3 a4 a5 a6 a7 a8 a9 aa ab ac ad ae af => ad) x
def A3.ge (x : A3) : A2 := A3.rec .nil (fun a0 a1 a2 a3 a4 a5 a6 a7 a8 a9 aa ab ac ad ae af => ae) x
def A3.gf (x : A3) : A2 := A3.rec .nil (fun a0 a1 a2 a3 a4 a5 a6 a7 a8 a9 aa ab ac ad ae af => af) x
def A3.get (d : H) : A3 → A2 := H.rec (motive := fun _ => A3 → A2) A3.g0 A3.g1 A3.g2 A3.g3 A3.g4 A3.g5 A3.g6 A3.g7 A3.g8 A3.g9 A3.ga A3.gb A3.gc A3.gd A3.ge A3.gf d
def A3.s0 (v : A2) (x : A3) : A3 := A3.rec (motive := fun _ => A2 → A3) (fun v => .mk v .nil .nil .nil .nil .nil .nil .nil .nil .nil .nil .nil .nil .nil .nil .nil) (fun a0 a1 a2 a3 a4 a5 a6 a7 a8 a9 aa ab ac ad ae af => fun v => .mk v a1 a2 a3 a4 a5 a6 a7 a8 a9 aa ab ac ad ae af) x v
def A3.s1 (v : A2) (x : A3) : A3 := A3.rec (motive := fun _ => A2 → A3) (fun v => .mk .nil v .nil .nil .nil .nil .nil .nil .nil .nil .nil .nil .nil .nil .nil .nil) (fun a0 a1 a2 a3 a4 a5 a6 a7 a8 a9 aa ab ac ad ae af => fun v => .mk a0 v a2 a3 a4 a5 a6 a7 a8 a9 aa ab ac ad ae af) x v
def A3.s2 (v : A2) (x : A3) : A3 := A3.rec (motive := fun _ => A2 → A3) (fun v => .mk .nil .nil v .nil .nil .nil .nil .nil .nil .nil .nil .nil .nil .nil .nil .nil) (fun a0 a1 a2 a3 a4 a5 a6 a7 a8 a9 aa ab ac ad ae af => fun v => .mk a0 a1 v a3 a4 a5 a6 a7 a8 a9 aa ab ac ad ae af) x v
def A3.s3 (v : A2) (x : A3) : A3 := A3.rec (motive := fun _ => A2 → A3) (fun v => .mk .nil .nil .nil v .nil .nil .nil .nil .nil .nil .nil .nil .nil .nil .nil .nil) (fun a0 a1 a2 a3 a4 a5 a6 a7 a8 a9 aa ab ac ad ae af => fun v => .mk a0 a1 a2 v a4 a5 a6 a7 a8 a9 aa ab ac ad ae af) x v
def A3.s4 (v : A2) (x : A3) : A3 := A3.rec (motive := fun _ => A2 → A3) (fun v => .mk .nil .nil .nil .nil v .nil .nil .nil .nil .nil .nil .nil .nil .nil .nil .nil) (fun a0 a1 a2 a3 a4 a5 a6 a7 a8 a9 aa ab ac ad ae af => fun v => .mk a0 a1 a2 a3 v a5 a6 a7 a8 a9 aa ab ac ad ae af) x v
def A3.s5 (v : A2) (x : A3) : A3 := A3.rec (motive := fun _ => A2 → A3) (fun v => .mk .nil .nil .nil .nil .nil v .nil .nil .nil .nil .nil .nil .nil .nil .nil .nil) (fun a0 a1 a2 a3 a4 a5 a6 a7 a8 a9 aa ab ac ad ae af => fun v => .mk a0 a1 a2 a3 a4 v a6 a7 a8 a9 aa ab ac ad ae af) x v
def A3.s6 (v : A2) (x : A3) : A3 := A3.rec (motive := fun _ => A2 → A3) (fun v => .mk .nil .nil .nil .nil .nil .nil v .nil .nil .nil .nil .nil .nil .nil .nil .nil) (fun a0 a1 a2 a3 a4 a5 a6 a7 a8 a9 aa ab ac ad ae af => fun v => .mk a0 a1 a2 a3 a4 a5 v a7 a8 a9 aa ab ac ad ae af) x v
def A3.s7 (v : A2) (x : A3) : A3 := A3.rec (motive := fun _ => A2 → A3) (fun v => .mk .nil .nil .nil .nil .nil .nil .nil v .nil .nil .nil .nil .nil .nil .nil .nil) (fun a0 a1 a2 a3 a4 a5 a6 a7 a8 a9 aa ab ac ad ae af => fun v => .mk a0 a1 a2 a3 a4 a5 a6 v a8 a9 aa ab ac ad ae af) x v
def A3.s8 (v : A2) (x : A3) : A3 := A3.rec (motive := fun _ => A2 → A3) (fun v => .mk .nil .nil .nil .nil .nil .nil .nil .nil v .nil .nil .nil .nil .nil .nil .nil) (fun a0 a1 a2 a3 a4 a5 a6 a7 a8 a9 aa ab ac ad ae af => fun v => .mk a0 a1 a2 a3 a4 a5 a6 a7 v a9 aa ab ac ad ae af) x v
def A3.s9 (v : A2) (x : A3) : A3 := A3.rec (motive := fun _ => A2 → A3) (fun v => .mk .nil .nil .nil .nil .nil .nil .nil .nil .nil v .nil .nil .nil .nil .nil .nil) (fun a0 a1 a2 a3 a4 a5 a6 a7 a8 a9 aa ab ac ad ae af => fun v => .mk a0 a1 a2 a3 a4 a5 a6 a7 a8 v aa ab ac ad ae af) x v
def A3.sa (v : A2) (x : A3) : A3 := A3.rec (motive := fun _ => A2 → A3) (fun v => .mk .nil .nil .nil .nil .nil .nil .nil .nil .nil .nil v .nil .nil .nil .nil .nil) (fun a0 a1 a2 a3 a4 a5 a6 a7 a8 a9 aa ab ac ad ae af => fun v => .mk a0 a1 a2 a3 a4 a5 a6 a7 a8 a9 v ab ac ad ae af) x v
def A3.sb (v : A2) (x : A3) : A3 := A3.rec (motive := fun _ => A2 → A3) (fun v => .mk .nil .nil .nil .nil .nil .nil .nil .nil .nil .nil .nil v .nil .nil .nil .nil) (fun a0 a1 a2 a3 a4 a5 a6 a7 a8 a9 aa ab ac ad ae af => fun v => .mk a0 a1 a2 a3 a4 a5 a6 a7 a8 a9 aa v ac ad ae af) x v
def A3.sc (v : A2) (x : A3) : A3 := A3.rec (motive := fun _ => A2 → A3) (fun v => .mk .nil .nil .nil .nil .nil .nil .nil .nil .nil .nil .nil .nil v .nil .nil .nil) (fun a0 a1 a2 a3 a4 a5 a6 a7 a8 a9 aa ab ac ad ae af => fun v => .mk a0 a1 a2 a3 a4 a5 a6 a7 a8 a9 aa ab v ad ae af) x v
def A3.sd (v : A2) (x : A3) : A3 := A3.rec (motive := fun _ => A2 → A3) (fun v => .mk .nil .nil .nil .nil .nil .nil .nil .nil .nil .nil .nil .nil .nil v .nil .nil) (fun a0 a1 a2 a3 a4 a5 a6 a7 a8 a9 aa ab ac ad ae af => fun v => .mk a0 a1 a2 a3 a4 a5 a6 a7 a8 a9 aa ab ac v ae af) x v
def A3.se (v : A2) (x : A3) : A3 := A3.rec (motive := fun _ => A2 → A3) (fun v => .mk .nil .nil .nil .nil .nil .nil .nil .nil .nil .nil .nil .nil .nil .nil v .nil) (fun a0 a1 a2 a3 a4 a5 a6 a7 a8 a9 aa ab ac ad ae af => fun v => .mk a0 a1 a2 a3 a4 a5 a6 a7 a8 a9 aa ab ac ad v af) x v
def A3.sf (v : A2) (x : A3) : A3 := A3.rec (motive := fun _ => A2 → A3) (fun v => .mk .nil .nil .nil .nil .nil .nil .nil .nil .nil .nil .nil .nil .nil .nil .nil v) (fun a0 a1 a2 a3 a4 a5 a6 a7 a8 a9 aa ab ac ad ae af => fun v => .mk a0 a1 a2 a3 a4 a5 a6 a7 a8 a9 aa ab ac ad ae v) x v
def A3.set (d : H) : A2 → A3 → A3 := H.rec (motive := fun _ => A2 → A3 → A3) A3.s0 A3.s1 A3.s2 A3.s3 A3.s4 A3.s5 A3.s6 A3.s7 A3.s8 A3.s9 A3.sa A3.sb A3.sc A3.sd A3.se A3.sf d
inductive A4 where
 | nil
 | mk (a0 a1 a2 a3 a4 a5 a6 a7 a8 a9 aa ab ac ad ae af : A3)
def A4.g0 (x : A4) : A3 := A4.rec .nil (fun a0 a1 a2 a3 a4 a5 a6 a7 a8 a9 aa ab ac ad ae af => a0) x
def A4.g1 (x : A4) : A3 := A4.rec .nil (fun a0 a1 a2 a3 a4 a5 a6 a7 a8 a9 aa ab ac ad ae af => a1) x
def A4.g2 (x : A4) : A3 := A4.rec .nil (fun a0 a1 a2 a3 a4 a5 a6 a7 a8 a9 aa ab ac ad ae af => a2) x
def A4.g3 (x : A4) : A3 := A4.rec .nil (fun a0 a1 a2 a3 a4 a5 a6 a7 a8 a9 aa ab ac ad ae af => a3) x
def A4.g4 (x : A4) : A3 := A4.rec .nil (fun a0 a1 a2 a3 a4 a5 a6 a7 a8 a9 aa ab ac ad ae af => a4) x
def A4.g5 (x : A4) : A3 := A4.rec .nil (fun a0 a1 a2 a3 a4 a5 a6 a7 a8 a9 aa ab ac ad ae af => a5) x
def A4.g6 (x : A4) : A3 := A4.rec .nil (fun a0 a1 a2 a3 a4 a5 a6 a7 a8 a9 aa ab ac ad ae af => a6) x
def A4.g7 (x : A4) : A3 := A4.rec .nil (fun a0 a1 a2 a3 a4 a5 a6 a7 a8 a9 aa ab ac ad ae af => a7) x
def A4.g8 (x : A4) : A3 := A4.rec .nil (fun a0 a1 a2 a3 a4 a5 a6 a7 a8 a9 aa ab ac ad ae af => a8) x
def A4.g9 (x : A4) : A3 := A4.rec .nil (fun a0 a1 a2 a3 a4 a5 a6 a7 a8 a9 aa ab ac ad ae af => a9) x
def A4.ga (x : A4) : A3 := A4.rec .nil (fun a0 a1 a2 a3 a4 a5 a6 a7 a8 a9 aa ab ac ad ae af => aa) x
def A4.gb (x : A4) : A3 := A4.rec .nil (fun a0 a1 a2 a3 a4 a5 a6 a7 a8 a9 aa ab ac ad ae af => ab) x
def A4.gc (x : A4) : A3 := A4.rec .nil (fun a0 a1 a2 a3 a4 a5 a6 a7 a8 a9 aa ab ac ad ae af => ac) x
def A4.gd (x : A4) : A3 := A4.rec .nil (fun a0 a1 a2 a3 a4 a5 a6 a7 a8 a9 aa ab ac ad ae af => ad) x
def A4.ge (x : A4) : A3 := A4.rec .nil (fun a0 a1 a2 a3 a4 a5 a6 a7 a8 a9 aa ab ac ad ae af => ae) x
def A4.gf (x : A4) : A3 := A4.rec .nil (fun a0 a1 a2 a3 a4 a5 a6 a7 a8 a9 aa ab ac ad ae af => af) x
def A4.get (d : H) : A4 → A3 := H.rec (motive := fun _ => A4 → A3) A4.g0 A4.g1 A4.g2 A4.g3 A4.g4 A4.g5 A4.g6 A4.g7 A4.g8 A4.g9 A4.ga A4.gb A4.gc A4.gd A4.ge A4.gf d
def A4.s0 (v : A3) (x : A4) : A4 := A4.rec (motive := fun _ => A3 → A4) (fun v => .mk v .nil .nil .nil .nil .nil .nil .nil .nil .nil .nil .nil .nil .nil .nil .nil) (fun a0 a1 a2 a3 a4 a5 a6 a7 a8 a9 aa ab ac ad ae af => fun v => .mk v a1 a2 a3 a4 a5 a6 a7 a8 a9 aa ab ac ad ae af) x v
def A4.s1 (v : A3) (x : A4) : A4 := A4.rec (motive := fun _ => A3 → A4) (fun v => .mk .nil v .nil .nil .nil .nil .nil .nil .nil .nil .nil .nil .nil .nil .nil .nil) (fun a0 a1 a2 a3 a4 a5 a6 a7 a8 a9 aa ab ac ad ae af => fun v => .mk a0 v a2 a3 a4 a5 a6 a7 a8 a9 aa ab ac ad ae af) x v
def A4.s2 (v : A3) (x : A4) : A4 := A4.rec (motive := fun _ => A3 → A4) (fun v => .mk .nil .nil v .nil .nil .nil .nil .nil .nil .nil .nil .nil .nil .nil .nil .nil) (fun a0 a1 a2 a3 a4 a5 a6 a7 a8 a9 aa ab ac ad ae af => fun v => .mk a0 a1 v a3 a4 a5 a6 a7 a8 a9 aa ab ac ad ae af) x v
def A4.s3 (v : A3) (x : A4) : A4 := A4.rec (motive := fun _ => A3 → A4) (fun v => .mk .nil .nil .nil v .nil .nil .nil .nil .nil .nil .nil .nil .nil .nil .nil .nil) (fun a0 a1 a2 a3 a4 a5 a6 a7 a8 a9 aa ab ac ad ae af => fun v => .mk a0 a1 a2 v a4 a5 a6 a7 a8 a9 aa ab ac ad ae af) x v
def A4.s4 (v : A3) (x : A4) : A4 := A4.rec (motive := fun _ => A3 → A4) (fun v => .mk .nil .nil .nil .nil v .nil .nil .nil .nil .nil .nil .nil .nil .nil .nil .nil) (fun a0 a1 a2 a3 a4 a5 a6 a7 a8 a9 aa ab ac ad ae af => fun v => .mk a0 a1 a2 a3 v a5 a6 a7 a8 a9 aa ab ac ad ae af) x v
def A4.s5 (v : A3) (x : A4) : A4 := A4.rec (motive := fun _ => A3 → A4) (fun v => .mk .nil .nil .nil .nil .nil v .nil .nil .nil .nil .nil .nil .nil .nil .nil .nil) (fun a0 a1 a2 a3 a4 a5 a6 a7 a8 a9 aa ab ac ad ae af => fun v => .mk a0 a1 a2 a3 a4 v a6 a7 a8 a9 aa ab ac ad ae af) x v
def A4.s6 (v : A3) (x : A4) : A4 := A4.rec (motive := fun _ => A3 → A4) (fun v => .mk .nil .nil .nil .nil .nil .nil v .nil .nil .nil .nil .nil .nil .nil .nil .nil) (fun a0 a1 a2 a3 a4 a5 a6 a7 a8 a9 aa ab ac ad ae af => fun v => .mk a0 a1 a2 a3 a4 a5 v a7 a8 a9 aa ab ac ad ae af) x v
def A4.s7 (v : A3) (x : A4) : A4 := A4.rec (motive := fun _ => A3 → A4) (fun v => .mk .nil .nil .nil .nil .nil .nil .nil v .nil .nil .nil .nil .nil .nil .nil .nil) (fun a0 a1 a2 a3 a4 a5 a6 a7 a8 a9 aa ab ac ad ae af => fun v => .mk a0 a1 a2 a3 a4 a5 a6 v a8 a9 aa ab ac ad ae af) x v
def A4.s8 (v : A3) (x : A4) : A4 := A4.rec (motive := fun _ => A3 → A4) (fun v => .mk .nil .nil .nil .nil .nil .nil .nil .nil v .nil .nil .nil .nil .nil .nil .nil) (fun a0 a1 a2 a3 a4 a5 a6 a7 a8 a9 aa ab ac ad ae af => fun v => .mk a0 a1 a2 a3 a4 a5 a6 a7 v a9 aa ab ac ad ae af) x v
def A4.s9 (v : A3) (x : A4) : A4 := A4.rec (motive := fun _ => A3 → A4) (fun v => .mk .nil .nil .nil .nil .nil .nil .nil .nil .nil v .nil .nil .nil .nil .nil .nil) (fun a0 a1 a2 a3 a4 a5 a6 a7 a8 a9 aa ab ac ad ae af => fun v => .mk a0 a1 a2 a3 a4 a5 a6 a7 a8 v aa ab ac ad ae af) x v
def A4.sa (v : A3) (x : A4) : A4 := A4.rec (motive := fun _ => A3 → A4) (fun v => .mk .nil .nil .nil .nil .nil .nil .nil .nil .nil .nil v .nil .nil .nil .nil .nil) (fun a0 a1 a2 a3 a4 a5 a6 a7 a8 a9 aa ab ac ad ae af => fun v => .mk a0 a1 a2 a3 a4 a5 a6 a7 a8 a9 v ab ac ad ae af) x v
def A4.sb (v : A3) (x : A4) : A4 := A4.rec (motive := fun _ => A3 → A4) (fun v => .mk .nil .nil .nil .nil .nil .nil .nil .nil .nil .nil .nil v .nil .nil .nil .nil) (fun a0 a1 a2 a3 a4 a5 a6 a7 a8 a9 aa ab ac ad ae af => fun v => .mk a0 a1 a2 a3 a4 a5 a6 a7 a8 a9 aa v ac ad ae af) x v
def A4.sc (v : A3) (x : A4) : A4 := A4.rec (motive := fun _ => A3 → A4) (fun v => .mk .nil .nil .nil .nil .nil .nil .nil .nil .nil .nil .nil .nil v .nil .nil .nil) (fun a0 a1 a2 a3 a4 a5 a6 a7 a8 a9 aa ab ac ad ae af => fun v => .mk a0 a1 a2 a3 a4 a5 a6 a7 a8 a9 aa ab v ad ae af) x v
def A4.sd (v : A3) (x : A4) : A4 := A4.rec (motive := fun _ => A3 → A4) (fun v => .mk .nil .nil .nil .nil .nil .nil .nil .nil .nil .nil .nil .nil .nil v .nil .nil) (fun a0 a1 a2 a3 a4 a5 a6 a7 a8 a9 aa ab ac ad ae af => fun v => .mk a0 a1 a2 a3 a4 a5 a6 a7 a8 a9 aa ab ac v ae af) x v
def A4.se (v : A3) (x : A4) : A4 := A4.rec (motive := fun _ => A3 → A4) (fun v => .mk .nil .nil .nil .nil .nil .nil .nil .nil .nil .nil .nil .nil .nil .nil v .nil) (fun a0 a1 a2 a3 a4 a5 a6 a7 a8 a9 aa ab ac ad ae af => fun v => .mk a0 a1 a2 a3 a4 a5 a6 a7 a8 a9 aa ab ac ad v af) x v
def A4.sf (v : A3) (x : A4) : A4 := A4.rec (motive := fun _ => A3 → A4) (fun v => .mk .nil .nil .nil .nil .nil .nil .nil .nil .nil .nil .nil .nil .nil .nil .nil v) (fun a0 a1 a2 a3 a4 a5 a6 a7 a8 a9 aa ab ac ad ae af => fun v => .mk a0 a1 a2 a3 a4 a5 a6 a7 a8 a9 aa ab ac ad ae v) x v
def A4.set (d : H) : A3 → A4 → A4 := H.rec (motive := fun _ => A3 → A4 → A4) A4.s0 A4.s1 A4.s2 A4.s3 A4.s4 A4.s5 A4.s6 A4.s7 A4.s8 A4.s9 A4.sa A4.sb A4.sc A4.sd A4.se A4.sf d
inductive Cl where
 | k1 (x : A1)
 | k2 (x : A2)
 | k3 (x : A3)
 | k4 (x : A4)
 | kf (m : Nat) (f : Nat → AV)
inductive Fl where
 | plain
 | mark
 | Ba
 | ro
inductive Obj where
 | none
 | dead
 | cells (el n : Nat) (ex : Bool) (fl : Fl) (c : Cl)
 | map (l : List KV) (clock : Nat)
 | Cy (s : List Nat) (pos : Nat)
 | vx (m : P4) (since : Nat) (seen : List Nat) (last : Nat)
 | Cz
inductive O1 where
 | nil
 | mk (a0 a1 a2 a3 a4 a5 a6 a7 a8 a9 aa ab ac ad ae af : Obj)
def O1.g0 (x : O1) : Obj := O1.rec .none (fun a0 a1 a2 a3 a4 a5 a6 a7 a8 a9 aa ab ac ad ae af => a0) x
def O1.g1 (x : O1) : Obj := O1.rec .none (fun a0 a1 a2 a3 a4 a5 a6 a7 a8 a9 aa ab ac ad ae af => a1) x
def O1.g2 (x : O1) : Obj := O1.rec .none (fun a0 a1 a2 a3 a4 a5 a6 a7 a8 a9 aa ab ac ad ae af => a2) x
def O1.g3 (x : O1) : Obj := O1.rec .none (fun a0 a1 a2 a3 a4 a5 a6 a7 a8 a9 aa ab ac ad ae af => a3) x
def O1.g4 (x : O1) : Obj := O1.rec .none (fun a0 a1 a2 a3 a4 a5 a6 a7 a8 a9 aa ab ac ad ae af => a4) x
def O1.g5 (x : O1) : Obj := O1.rec .none (fun a0 a1 a2 a3 a4 a5 a6 a7 a8 a9 aa ab ac ad ae af => a5) x
def O1.g6 (x : O1) : Obj := O1.rec .none (fun a0 a1 a2 a3 a4 a5 a6 a7 a8 a9 aa ab ac ad ae af => a6) x
def O1.g7 (x : O1) : Obj := O1.rec .none (fun a0 a1 a2 a3 a4 a5 a6 a7 a8 a9 aa ab ac ad ae af => a7) x
def O1.g8 (x : O1) : Obj := O1.rec .none (fun a0 a1 a2 a3 a4 a5 a6 a7 a8 a9 aa ab ac ad ae af => a8) x
def O1.g9 (x : O1) : Obj := O1.rec .none (fun a0 a1 a2 a3 a4 a5 a6 a7 a8 a9 aa ab ac ad ae af => a9) x
def O1.ga (x : O1) : Obj := O1.rec .none (fun a0 a1 a2 a3 a4 a5 a6 a7 a8 a9 aa ab ac ad ae af => aa) x
def O1.gb (x : O1) : Obj := O1.rec .none (fun a0 a1 a2 a3 a4 a5 a6 a7 a8 a9 aa ab ac ad ae af => ab) x
def O1.gc (x : O1) : Obj := O1.rec .none (fun a0 a1 a2 a3 a4 a5 a6 a7 a8 a9 aa ab ac ad ae af => ac) x
def O1.gd (x : O1) : Obj := O1.rec .none (fun a0 a1 a2 a3 a4 a5 a6 a7 a8 a9 aa ab ac ad ae af => ad) x
def O1.ge (x : O1) : Obj := O1.rec .none (fun a0 a1 a2 a3 a4 a5 a6 a7 a8 a9 aa ab ac ad ae af => ae) x
def O1.gf (x : O1) : Obj := O1.rec .none (fun a0 a1 a2 a3 a4 a5 a6 a7 a8 a9 aa ab ac ad ae af => af) x
def O1.get (d : H) : O1 → Obj := H.rec (motive := fun _ => O1 → Obj) O1.g0 O1.g1 O1.g2 O1.g3 O1.g4 O1.g5 O1.g6 O1.g7 O1.g8 O1.g9 O1.ga O1.gb O1.gc O1.gd O1.ge O1.gf d
def O1.s0 (v : Obj) (x : O1) : O1 := O1.rec (motive := fun _ => Obj → O1) (fun v => .mk v .none .none .none .none .none .none .none .none .none .none .none .none .none .none .none) (fun a0 a1 a2 a3 a4 a5 a6 a7 a8 a9 aa ab ac ad ae af => fun v => .mk v a1 a2 a3 a4 a5 a6 a7 a8 a9 aa ab ac ad ae af) x v
def O1.s1 (v : Obj) (x : O1) : O1 := O1.rec (motive := fun _ => Obj → O1) (fun v => .mk .none v .none .none .none .none .none .none .none .none .none .none .none .none .none .none) (fun a0 a1 a2 a3 a4 a5 a6 a7 a8 a9 aa ab ac ad ae af => fun v => .mk a0 v a2 a3 a4 a5 a6 a7 a8 a9 aa ab ac ad ae af) x v
def O1.s2 (v : Obj) (x : O1) : O1 := O1.rec (motive := fun _ => Obj → O1) (fun v => .mk .none .none v .none .none .none .none .none .none .none .none .none .none .none .none .none) (fun a0 a1 a2 a3 a4 a5 a6 a7 a8 a9 aa ab ac ad ae af => fun v => .mk a0 a1 v a3 a4 a5 a6 a7 a8 a9 aa ab ac ad ae af) x v
def O1.s3 (v : Obj) (x : O1) : O1 := O1.rec (motive := fun _ => Obj → O1) (fun v => .mk .none .none .none v .none .none .none .none .none .none .none .none .none .none .none .none) (fun a0 a1 a2 a3 a4 a5 a6 a7 a8 a9 aa ab ac ad ae af => fun v => .mk a0 a1 a2 v a4 a5 a6 a7 a8 a9 aa ab ac ad ae af) x v
def O1.s4 (v : Obj) (x : O1) : O1 := O1.rec (motive := fun _ => Obj → O1) (fun v => .mk .none .none .none .none v .none .none .none .none .none .none .none .none .none .none .none) (fun a0 a1 a2 a3 a4 a5 a6 a7 a8 a9 aa ab ac ad ae af => fun v => .mk a0 a1 a2 a3 v a5 a6 a7 a8 a9 aa ab ac ad ae af) x v
def O1.s5 (v : Obj) (x : O1) : O1 := O1.rec (motive := fun _ => Obj → O1) (fun v => .mk .none .none .none .none .none v .none .none .none .none .none .none .none .none .none .none) (fun a0 a1 a2 a3 a4 a5 a6 a7 a8 a9 aa ab ac ad ae af => fun v => .mk a0 a1 a2 a3 a4 v a6 a7 a8 a9 aa ab ac ad ae af) x v
def O1.s6 (v : Obj) (x : O1) : O1 := O1.rec (motive := fun _ => Obj → O1) (fun v => .mk .none .none .none .none .none .none v .none .none .none .none .none .none .none .none .none) (fun a0 a1 a2 a3 a4 a5 a6 a7 a8 a9 aa ab ac ad ae af => fun v => .mk a0 a1 a2 a3 a4 a5 v a7 a8 a9 aa ab ac ad ae af) x v
def O1.s7 (v : Obj) (x : O1) : O1 := O1.rec (motive := fun _ => Obj → O1) (fun v => .mk .none .none .none .none .none .none .none v .none .none .none .none .none .none .none .none) (fun a0 a1 a2 a3 a4 a5 a6 a7 a8 a9 aa ab ac ad ae af => fun v => .mk a0 a1 a2 a3 a4 a5 a6 v a8 a9 aa ab ac ad ae af) x v
def O1.s8 (v : Obj) (x : O1) : O1 := O1.rec (motive := fun _ => Obj → O1) (fun v => .mk .none .none .none .none .none .none .none .none v .none .none .none .none .none .none .none) (fun a0 a1 a2 a3 a4 a5 a6 a7 a8 a9 aa ab ac ad ae af => fun v => .mk a0 a1 a2 a3 a4 a5 a6 a7 v a9 aa ab ac ad ae af) x v
def O1.s9 (v : Obj) (x : O1) : O1 := O1.rec (motive := fun _ => Obj → O1) (fun v => .mk .none .none .none .none .none .none .none .none .none v .none .none .none .none .none .none) (fun a0 a1 a2 a3 a4 a5 a6 a7 a8 a9 aa ab ac ad ae af => fun v => .mk a0 a1 a2 a3 a4 a5 a6 a7 a8 v aa ab ac ad ae af) x v
def O1.sa (v : Obj) (x : O1) : O1 := O1.rec (motive := fun _ => Obj → O1) (fun v => .mk .none .none .none .none .none .none .none .none .none .none v .none .none .none .none .none) (fun a0 a1 a2 a3 a4 a5 a6 a7 a8 a9 aa ab ac ad ae af => fun v => .mk a0 a1 a2 a3 a4 a5 a6 a7 a8 a9 v ab ac ad ae af) x v
def O1.sb (v : Obj) (x : O1) : O1 := O1.rec (motive := fun _ => Obj → O1) (fun v => .mk .none .none .none .none .none .none .none .none .none .none .none v .none .none .none .none) (fun a0 a1 a2 a3 a4 a5 a6 a7 a8 a9 aa ab ac ad ae af => fun v => .mk a0 a1 a2 a3 a4 a5 a6 a7 a8 a9 aa v ac ad ae af) x v
def O1.sc (v : Obj) (x : O1) : O1 := O1.rec (motive := fun _ => Obj → O1) (fun v => .mk .none .none .none .none .none .none .none .none .none .none .none .none v .none .none .none) (fun a0 a1 a2 a3 a4 a5 a6 a7 a8 a9 aa ab ac ad ae af => fun v => .mk a0 a1 a2 a3 a4 a5 a6 a7 a8 a9 aa ab v ad ae af) x v
def O1.sd (v : Obj) (x : O1) : O1 := O1.rec (motive := fun _ => Obj → O1) (fun v => .mk .none .none .none .none .none .none .none .none .none .none .none .none .none v .none .none) (fun a0 a1 a2 a3 a4 a5 a6 a7 a8 a9 aa ab ac ad ae af => fun v => .mk a0 a1 a2 a3 a4 a5 a6 a7 a8 a9 aa ab ac v ae af) x v
def O1.se (v : Obj) (x : O1) : O1 := O1.rec (motive := fun _ => Obj → O1) (fun v => .mk .none .none .none .none .none .none .none .none .none .none .none .none .none .none v .none) (fun a0 a1 a2 a3 a4 a5 a6 a7 a8 a9 aa ab ac ad ae af => fun v => .mk a0 a1 a2 a3 a4 a5 a6 a7 a8 a9 aa ab ac ad v af) x v
def O1.sf (v : Obj) (x : O1) : O1 := O1.rec (motive := fun _ => Obj → O1) (fun v => .mk .none .none .none .none .none .none .none .none .none .none .none .none .none .none .none v) (fun a0 a1 a2 a3 a4 a5 a6 a7 a8 a9 aa ab ac ad ae af => fun v => .mk a0 a1 a2 a3 a4 a5 a6 a7 a8 a9 aa ab ac ad ae v) x v
def O1.set (d : H) : Obj → O1 → O1 := H.rec (motive := fun _ => Obj → O1 → O1) O1.s0 O1.s1 O1.s2 O1.s3 O1.s4 O1.s5 O1.s6 O1.s7 O1.s8 O1.s9 O1.sa O1.sb O1.sc O1.sd O1.se O1.sf d
inductive O2 where
 | nil
 | mk (a0 a1 a2 a3 a4 a5 a6 a7 a8 a9 aa ab ac ad ae af : O1)
def O2.g0 (x : O2) : O1 := O2.rec .nil (fun a0 a1 a2 a3 a4 a5 a6 a7 a8 a9 aa ab ac ad ae af => a0) x
def O2.g1 (x : O2) : O1 := O2.rec .nil (fun a0 a1 a2 a3 a4 a5 a6 a7 a8 a9 aa ab ac ad ae af => a1) x
def O2.g2 (x : O2) : O1 := O2.rec .nil (fun a0 a1 a2 a3 a4 a5 a6 a7 a8 a9 aa ab ac ad ae af => a2) x
def O2.g3 (x : O2) : O1 := O2.rec .nil (fun a0 a1 a2 a3 a4 a5 a6 a7 a8 a9 aa ab ac ad ae af => a3) x
def O2.g4 (x : O2) : O1 := O2.rec .nil (fun a0 a1 a2 a3 a4 a5 a6 a7 a8 a9 aa ab ac ad ae af => a4) x
def O2.g5 (x : O2) : O1 := O2.rec .nil (fun a0 a1 a2 a3 a4 a5 a6 a7 a8 a9 aa ab ac ad ae af => a5) x
def O2.g6 (x : O2) : O1 := O2.rec .nil (fun a0 a1 a2 a3 a4 a5 a6 a7 a8 a9 aa ab ac ad ae af => a6) x
def O2.g7 (x : O2) : O1 := O2.rec .nil (fun a0 a1 a2 a3 a4 a5 a6 a7 a8 a9 aa ab ac ad ae af => a7) x
def O2.g8 (x : O2) : O1 := O2.rec .nil (fun a0 a1 a2 a3 a4 a5 a6 a7 a8 a9 aa ab ac ad ae af => a8) x
def O2.g9 (x : O2) : O1 := O2.rec .nil (fun a0 a1 a2 a3 a4 a5 a6 a7 a8 a9 aa ab ac ad ae af => a9) x
def O2.ga (x : O2) : O1 := O2.rec .nil (fun a0 a1 a2 a3 a4 a5 a6 a7 a8 a9 aa ab ac ad ae af => aa) x
def O2.gb (x : O2) : O1 := O2.rec .nil (fun a0 a1 a2 a3 a4 a5 a6 a7 a8 a9 aa ab ac ad ae af => ab) x
def O2.gc (x : O2) : O1 := O2.rec .nil (fun a0 a1 a2 a3 a4 a5 a6 a7 a8 a9 aa ab ac ad ae af => ac) x
def O2.gd (x : O2) : O1 := O2.rec .nil (fun a0 a1 a2 a3 a4 a5 a6 a7 a8 a9 aa ab ac ad ae af => ad) x
def O2.ge (x : O2) : O1 := O2.rec .nil (fun a0 a1 a2 a3 a4 a5 a6 a7 a8 a9 aa ab ac ad ae af => ae) x
def O2.gf (x : O2) : O1 := O2.rec .nil (fun a0 a1 a2 a3 a4 a5 a6 a7 a8 a9 aa ab ac ad ae af => af) x
def O2.get (d : H) : O2 → O1 := H.rec (motive := fun _ => O2 → O1) O2.g0 O2.g1 O2.g2 O2.g3 O2.g4 O2.g5 O2.g6 O2.g7 O2.g8 O2.g9 O2.ga O2.gb O2.gc O2.gd O2.ge O2.gf d
def O2.s0 (v : O1) (x : O2) : O2 := O2.rec (motive := fun _ => O1 → O2) (fun v => .mk v .nil .nil .nil .nil .nil .nil .nil .nil .nil .nil .nil .nil .nil .nil .nil) (fun a0 a1 a2 a3 a4 a5 a6 a7 a8 a9 aa ab ac ad ae af => fun v => .mk v a1 a2 a3 a4 a5 a6 a7 a8 a9 aa ab ac ad ae af) x v
def O2.s1 (v : O1) (x : O2) : O2 := O2.rec (motive := fun _ => O1 → O2) (fun v => .mk .nil v .nil .nil .nil .nil .nil .nil .nil .nil .nil .nil .nil .nil .nil .nil) (fun a0 a1 a2 a3 a4 a5 a6 a7 a8 a9 aa ab ac ad ae af => fun v => .mk a0 v a2 a3 a4 a5 a6 a7 a8 a9 aa ab ac ad ae af) x v
def O2.s2 (v : O1) (x : O2) : O2 := O2.rec (motive := fun _ => O1 → O2) (fun v => .mk .nil .nil v .nil .nil .nil .nil .nil .nil .nil .nil .nil .nil .nil .nil .nil) (fun a0 a1 a2 a3 a4 a5 a6 a7 a8 a9 aa ab ac ad ae af => fun v => .mk a0 a1 v a3 a4 a5 a6 a7 a8 a9 aa ab ac ad ae af) x v
def O2.s3 (v : O1) (x : O2) : O2 := O2.rec (motive := fun _ => O1 → O2) (fun v => .mk .nil .nil .nil v .nil .nil .nil .nil .nil .nil .nil .nil .nil .nil .nil .nil) (fun a0 a1 a2 a3 a4 a5 a6 a7 a8 a9 aa ab ac ad ae af => fun v => .mk a0 a1 a2 v a4 a5 a6 a7 a8 a9 aa ab ac ad ae af) x v
def O2.s4 (v : O1) (x : O2) : O2 := O2.rec (motive := fun _ => O1 → O2) (fun v => .mk .nil .nil .nil .nil v .nil .nil .nil .nil .nil .nil .nil .nil .nil .nil .nil) (fun a0 a1 a2 a3 a4 a5 a6 a7 a8 a9 aa ab ac ad ae af => fun v => .mk a0 a1 a2 a3 v a5 a6 a7 a8 a9 aa ab ac ad ae af) x v
def O2.s5 (v : O1) (x : O2) : O2 := O2.rec (motive := fun _ => O1 → O2) (fun v => .mk .nil .nil .nil .nil .nil v .nil .nil .nil .nil .nil .nil .nil .nil .nil .nil) (fun a0 a1 a2 a3 a4 a5 a6 a7 a8 a9 aa ab ac ad ae af => fun v => .mk a0 a1 a2 a3 a4 v a6 a7 a8 a9 aa ab ac ad ae af) x v
def O2.s6 (v : O1) (x : O2) : O2 := O2.rec (motive := fun _ => O1 → O2) (fun v => .mk .nil .nil .nil .nil .nil .nil v .nil .nil .nil .nil .nil .nil .nil .nil .nil) (fun a0 a1 a2 a3 a4 a5 a6 a7 a8 a9 aa ab ac ad ae af => fun v => .mk a0 a1 a2 a3 a4 a5 v a7 a8 a9 aa ab ac ad ae af) x v
def O2.s7 (v : O1) (x : O2) : O2 := O2.rec (motive := fun _ => O1 → O2) (fun v => .mk .nil .nil .nil .nil .nil .nil .nil v .nil .nil .nil .nil .nil .nil .nil .nil) (fun a0 a1 a2 a3 a4 a5 a6 a7 a8 a9 aa ab ac ad ae af => fun v => .mk a0 a1 a2 a3 a4 a5 a6 v a8 a9 aa ab ac ad ae af) x v
def O2.s8 (v : O1) (x : O2) : O2 := O2.rec (motive := fun _ => O1 → O2) (fun v => .mk .nil .nil .nil .nil .nil .nil .nil .nil v .nil .nil .nil .nil .nil .nil .nil) (fun a0 a1 a2 a3 a4 a5 a6 a7 a8 a9 aa ab ac ad ae af => fun v => .mk a0 a1 a2 a3 a4 a5 a6 a7 v a9 aa ab ac ad ae af) x v
def O2.s9 (v : O1) (x : O2) : O2 := O2.rec (motive := fun _ => O1 → O2) (fun v => .mk .nil .nil .nil .nil .nil .nil .nil .nil .nil v .nil .nil .nil .nil .nil .nil) (fun a0 a1 a2 a3 a4 a5 a6 a7 a8 a9 aa ab ac ad ae af => fun v => .mk a0 a1 a2 a3 a4 a5 a6 a7 a8 v aa ab ac ad ae af) x v
def O2.sa (v : O1) (x : O2) : O2 := O2.rec (motive := fun _ => O1 → O2) (fun v => .mk .nil .nil .nil .nil .nil .nil .nil .nil .nil .nil v .nil .nil .nil .nil .nil) (fun a0 a1 a2 a3 a4 a5 a6 a7 a8 a9 aa ab ac ad ae af => fun v => .mk a0 a1 a2 a3 a4 a5 a6 a7 a8 a9 v ab ac ad ae af) x v
def O2.sb (v : O1) (x : O2) : O2 := O2.rec (motive := fun _ => O1 → O2) (fun v => .mk .nil .nil .nil .nil .nil .nil .nil .nil .nil .nil .nil v .nil .nil .nil .nil) (fun a0 a1 a2 a3 a4 a5 a6 a7 a8 a9 aa ab ac ad ae af => fun v => .mk a0 a1 a2 a3 a4 a5 a6 a7 a8 a9 aa v ac ad ae af) x v
def O2.sc (v : O1) (x : O2) : O2 := O2.rec (motive := fun _ => O1 → O2) (fun v => .mk .nil .nil .nil .nil .nil .nil .nil .nil .nil .nil .nil .nil v .nil .nil .nil) (fun a0 a1 a2 a3 a4 a5 a6 a7 a8 a9 aa ab ac ad ae af => fun v => .mk a0 a1 a2 a3 a4 a5 a6 a7 a8 a9 aa ab v ad ae af) x v
def O2.sd (v : O1) (x : O2) : O2 := O2.rec (motive := fun _ => O1 → O2) (fun v => .mk .nil .nil .nil .nil .nil .nil .nil .nil .nil .nil .nil .nil .nil v .nil .nil) (fun a0 a1 a2 a3 a4 a5 a6 a7 a8 a9 aa ab ac ad ae af => fun v => .mk a0 a1 a2 a3 a4 a5 a6 a7 a8 a9 aa ab ac v ae af) x v
def O2.se (v : O1) (x : O2) : O2 := O2.rec (motive := fun _ => O1 → O2) (fun v => .mk .nil .nil .nil .nil .nil .nil .nil .nil .nil .nil .nil .nil .nil .nil v .nil) (fun a0 a1 a2 a3 a4 a5 a6 a7 a8 a9 aa ab ac ad ae af => fun v => .mk a0 a1 a2 a3 a4 a5 a6 a7 a8 a9 aa ab ac ad v af) x v
def O2.sf (v : O1) (x : O2) : O2 := O2.rec (motive := fun _ => O1 → O2) (fun v => .mk .nil .nil .nil .nil .nil .nil .nil .nil .nil .nil .nil .nil .nil .nil .nil v) (fun a0 a1 a2 a3 a4 a5 a6 a7 a8 a9 aa ab ac ad ae af => fun v => .mk a0 a1 a2 a3 a4 a5 a6 a7 a8 a9 aa ab ac ad ae v) x v
def O2.set (d : H) : O1 → O2 → O2 := H.rec (motive := fun _ => O1 → O2 → O2) O2.s0 O2.s1 O2.s2 O2.s3 O2.s4 O2.s5 O2.s6 O2.s7 O2.s8 O2.s9 O2.sa O2.sb O2.sc O2.sd O2.se O2.sf d
inductive O3 where
 | nil
 | mk (a0 a1 a2 a3 a4 a5 a6 a7 a8 a9 aa ab ac ad ae af : O2)
def O3.g0 (x : O3) : O2 := O3.rec .nil (fun a0 a1 a2 a3 a4 a5 a6 a7 a8 a9 aa ab ac ad ae af => a0) x
def O3.g1 (x : O3) : O2 := O3.rec .nil (fun a0 a1 a2 a3 a4 a5 a6 a7 a8 a9 aa ab ac ad ae af => a1) x
def O3.g2 (x : O3) : O2 := O3.rec .nil (fun a0 a1 a2 a3 a4 a5 a6 a7 a8 a9 aa ab ac ad ae af => a2) x
def O3.g3 (x : O3) : O2 := O3.rec .nil (fun a0 a1 a2 a3 a4 a5 a6 a7 a8 a9 aa ab ac ad ae af => a3) x
def O3.g4 (x : O3) : O2 := O3.rec .nil (fun a0 a1 a2 a3 a4 a5 a6 a7 a8 a9 aa ab ac ad ae af => a4) x
def O3.g5 (x : O3) : O2 := O3.rec .nil (fun a0 a1 a2 a3 a4 a5 a6 a7 a8 a9 aa ab ac ad ae af => a5) x
def O3.g6 (x : O3) : O2 := O3.rec .nil (fun a0 a1 a2 a3 a4 a5 a6 a7 a8 a9 aa ab ac ad ae af => a6) x
def O3.g7 (x : O3) : O2 := O3.rec .nil (fun a0 a1 a2 a3 a4 a5 a6 a7 a8 a9 aa ab ac ad ae af => a7) x
def O3.g8 (x : O3) : O2 := O3.rec .nil (fun a0 a1 a2 a3 a4 a5 a6 a7 a8 a9 aa ab ac ad ae af => a8) x
def O3.g9 (x : O3) : O2 := O3.rec .nil (fun a0 a1 a2 a3 a4 a5 a6 a7 a8 a9 aa ab ac ad ae af => a9) x
def O3.ga (x : O3) : O2 := O3.rec .nil (fun a0 a1 a2 a3 a4 a5 a6 a7 a8 a9 aa ab ac ad ae af => aa) x
def O3.gb (x : O3) : O2 := O3.rec .nil (fun a0 a1 a2 a3 a4 a5 a6 a7 a8 a9 aa ab ac ad ae af => ab) x
def O3.gc (x : O3) : O2 := O3.rec .nil (fun a0 a1 a2 a3 a4 a5 a6 a7 a8 a9 aa ab ac ad ae af => ac) x
def O3.gd (x : O3) : O2 := O3.rec .nil (fun a0 a1 a2 a3 a4 a5 a6 a7 a8 a9 aa ab ac ad ae af => ad) x
def O3.ge (x : O3) : O2 := O3.rec .nil (fun a0 a1 a2 a3 a4 a5 a6 a7 a8 a9 aa ab ac ad ae af => ae) x
def O3.gf (x : O3) : O2 := O3.rec .nil (fun a0 a1 a2 a3 a4 a5 a6 a7 a8 a9 aa ab ac ad ae af => af) x
def O3.get (d : H) : O3 → O2 := H.rec (motive := fun _ => O3 → O2) O3.g0 O3.g1 O3.g2 O3.g3 O3.g4 O3.g5 O3.g6 O3.g7 O3.g8 O3.g9 O3.ga O3.gb O3.gc O3.gd O3.ge O3.gf d
def O3.s0 (v : O2) (x : O3) : O3 := O3.rec (motive := fun _ => O2 → O3) (fun v => .mk v .nil .nil .nil .nil .nil .nil .nil .nil .nil .nil .nil .nil .nil .nil .nil) (fun a0 a1 a2 a3 a4 a5 a6 a7 a8 a9 aa ab ac ad ae af => fun v => .mk v a1 a2 a3 a4 a5 a6 a7 a8 a9 aa ab ac ad ae af) x v
def O3.s1 (v : O2) (x : O3) : O3 := O3.rec (motive := fun _ => O2 → O3) (fun v => .mk .nil v .nil .nil .nil .nil .nil .nil .nil .nil .nil .nil .nil .nil .nil .nil) (fun a0 a1 a2 a3 a4 a5 a6 a7 a8 a9 aa ab ac ad ae af => fun v => .mk a0 v a2 a3 a4 a5 a6 a7 a8 a9 aa ab ac ad ae af) x v
def O3.s2 (v : O2) (x : O3) : O3 := O3.rec (motive := fun _ => O2 → O3) (fun v => .mk .nil .nil v .nil .nil .nil .nil .nil .nil .nil .nil .nil .nil .nil .nil .nil) (fun a0 a1 a2 a3 a4 a5 a6 a7 a8 a9 aa ab ac ad ae af => fun v => .mk a0 a1 v a3 a4 a5 a6 a7 a8 a9 aa ab ac ad ae af) x v
def O3.s3 (v : O2) (x : O3) : O3 := O3.rec (motive := fun _ => O2 → O3) (fun v => .mk .nil .nil .nil v .nil .nil .nil .nil .nil .nil .nil .nil .nil .nil .nil .nil) (fun a0 a1 a2 a3 a4 a5 a6 a7 a8 a9 aa ab ac ad ae af => fun v => .mk a0 a1 a2 v a4 a5 a6 a7 a8 a9 aa ab ac ad ae af) x v
def O3.s4 (v : O2) (x : O3) : O3 := O3.rec (motive := fun _ => O2 → O3) (fun v => .mk .nil .nil .nil .nil v .nil .nil .nil .nil .nil .nil .nil .nil .nil .nil .nil) (fun a0 a1 a2 a3 a4 a5 a6 a7 a8 a9 aa ab ac ad ae af => fun v => .mk a0 a1 a2 a3 v a5 a6 a7 a8 a9 aa ab ac ad ae af) x v
def O3.s5 (v : O2) (x : O3) : O3 := O3.rec (motive := fun _ => O2 → O3) (fun v => .mk .nil .nil .nil .nil .nil v .nil .nil .nil .nil .nil .nil .nil .nil .nil .nil) (fun a0 a1 a2 a3 a4 a5 a6 a7 a8 a9 aa ab ac ad ae af => fun v => .mk a0 a1 a2 a3 a4 v a6 a7 a8 a9 aa ab ac ad ae af) x v
def O3.s6 (v : O2) (x : O3) : O3 := O3.rec (motive := fun _ => O2 → O3) (fun v => .mk .nil .nil .nil .nil .nil .nil v .nil .nil .nil .nil .nil .nil .nil .nil .nil) (fun a0 a1 a2 a3 a4 a5 a6 a7 a8 a9 aa ab ac ad ae af => fun v => .mk a0 a1 a2 a3 a4 a5 v a7 a8 a9 aa ab ac ad ae af) x v
def O3.s7 (v : O2) (x : O3) : O3 := O3.rec (motive := fun _ => O2 → O3) (fun v => .mk .nil .nil .nil .nil .nil .nil .nil v .nil .nil .nil .nil .nil .nil .nil .nil) (fun a0 a1 a2 a3 a4 a5 a6 a7 a8 a9 aa ab ac ad ae af => fun v => .mk a0 a1 a2 a3 a4 a5 a6 v a8 a9 aa ab ac ad ae af) x v
def O3.s8 (v : O2) (x : O3) : O3 := O3.rec (motive := fun _ => O2 → O3) (fun v => .mk .nil .nil .nil .nil .nil .nil .nil .nil v .nil .nil .nil .nil .nil .nil .nil) (fun a0 a1 a2 a3 a4 a5 a6 a7 a8 a9 aa ab ac ad ae af => fun v => .mk a0 a1 a2 a3 a4 a5 a6 a7 v a9 aa ab ac ad ae af) x v
def O3.s9 (v : O2) (x : O3) : O3 := O3.rec (motive := fun _ => O2 → O3) (fun v => .mk .nil .nil .nil .nil .nil .nil .nil .nil .nil v .nil .nil .nil .nil .nil .nil) (fun a0 a1 a2 a3 a4 a5 a6 a7 a8 a9 aa ab ac ad ae af => fun v => .mk a0 a1 a2 a3 a4 a5 a6 a7 a8 v aa ab ac ad ae af) x v
def O3.sa (v : O2) (x : O3) : O3 := O3.rec (motive := fun _ => O2 → O3) (fun v => .mk .nil .nil .nil .nil .nil .nil .nil .nil .nil .nil v .nil .nil .nil .nil .nil) (fun a0 a1 a2 a3 a4 a5 a6 a7 a8 a9 aa ab ac ad ae af => fun v => .mk a0 a1 a2 a3 a4 a5 a6 a7 a8 a9 v ab ac ad ae af) x v
def O3.sb (v : O2) (x : O3) : O3 := O3.rec (motive := fun _ => O2 → O3) (fun v => .mk .nil .nil .nil .nil .nil .nil .nil .nil .nil .nil .nil v .nil .nil .nil .nil) (fun a0 a1 a2 a3 a4 a5 a6 a7 a8 a9 aa ab ac ad ae af => fun v => .mk a0 a1 a2 a3 a4 a5 a6 a7 a8 a9 aa v ac ad ae af) x v
def O3.sc (v : O2) (x : O3) : O3 := O3.rec (motive := fun _ => O2 → O3) (fun v => .mk .nil .nil .nil .nil .nil .nil .nil .nil .nil .nil .nil .nil v .nil .nil .nil) (fun a0 a1 a2 a3 a4 a5 a6 a7 a8 a9 aa ab ac ad ae af => fun v => .mk a0 a1 a2 a3 a4 a5 a6 a7 a8 a9 aa ab v ad ae af) x v
def O3.sd (v : O2) (x : O3) : O3 := O3.rec (motive := fun _ => O2 → O3) (fun v => .mk .nil .nil .nil .nil .nil .nil .nil .nil .nil .nil .nil .nil .nil v .nil .nil) (fun a0 a1 a2 a3 a4 a5 a6 a7 a8 a9 aa ab ac ad ae af => fun v => .mk a0 a1 a2 a3 a4 a5 a6 a7 a8 a9 aa ab ac v ae af) x v
def O3.se (v : O2) (x : O3) : O3 := O3.rec (motive := fun _ => O2 → O3) (fun v => .mk .nil .nil .nil .nil .nil .nil .nil .nil .nil .nil .nil .nil .nil .nil v .nil) (fun a0 a1 a2 a3 a4 a5 a6 a7 a8 a9 aa ab ac ad ae af => fun v => .mk a0 a1 a2 a3 a4 a5 a6 a7 a8 a9 aa ab ac ad v af) x v
def O3.sf (v : O2) (x : O3) : O3 := O3.rec (motive := fun _ => O2 → O3) (fun v => .mk .nil .nil .nil .nil .nil .nil .nil .nil .nil .nil .nil .nil .nil .nil .nil v) (fun a0 a1 a2 a3 a4 a5 a6 a7 a8 a9 aa ab ac ad ae af => fun v => .mk a0 a1 a2 a3 a4 a5 a6 a7 a8 a9 aa ab ac ad ae v) x v
def O3.set (d : H) : O2 → O3 → O3 := H.rec (motive := fun _ => O2 → O3 → O3) O3.s0 O3.s1 O3.s2 O3.s3 O3.s4 O3.s5 O3.s6 O3.s7 O3.s8 O3.s9 O3.sa O3.sb O3.sc O3.sd O3.se O3.sf d
inductive O4 where
 | nil
 | mk (a0 a1 a2 a3 a4 a5 a6 a7 a8 a9 aa ab ac ad ae af : O3)
def O4.g0 (x : O4) : O3 := O4.rec .nil (fun a0 a1 a2 a3 a4 a5 a6 a7 a8 a9 aa ab ac ad ae af => a0) x
def O4.g1 (x : O4) : O3 := O4.rec .nil (fun a0 a1 a2 a3 a4 a5 a6 a7 a8 a9 aa ab ac ad ae af => a1) x
def O4.g2 (x : O4) : O3 := O4.rec .nil (fun a0 a1 a2 a3 a4 a5 a6 a7 a8 a9 aa ab ac ad ae af => a2) x
def O4.g3 (x : O4) : O3 := O4.rec .nil (fun a0 a1 a2 a3 a4 a5 a6 a7 a8 a9 aa ab ac ad ae af => a3) x
def O4.g4 (x : O4) : O3 := O4.rec .nil (fun a0 a1 a2 a3 a4 a5 a6 a7 a8 a9 aa ab ac ad ae af => a4) x
def O4.g5 (x : O4) : O3 := O4.rec .nil (fun a0 a1 a2 a3 a4 a5 a6 a7 a8 a9 aa ab ac ad ae af => a5) x
def O4.g6 (x : O4) : O3 := O4.rec .nil (fun a0 a1 a2 a3 a4 a5 a6 a7 a8 a9 aa ab ac ad ae af => a6) x
def O4.g7 (x : O4) : O3 := O4.rec .nil (fun a0 a1 a2 a3 a4 a5 a6 a7 a8 a9 aa ab ac ad ae af => a7) x
def O4.g8 (x : O4) : O3 := O4.rec .nil (fun a0 a1 a2 a3 a4 a5 a6 a7 a8 a9 aa ab ac ad ae af => a8) x
def O4.g9 (x : O4) : O3 := O4.rec .nil (fun a0 a1 a2 a3 a4 a5 a6 a7 a8 a9 aa ab ac ad ae af => a9) x
def O4.ga (x : O4) : O3 := O4.rec .nil (fun a0 a1 a2 a3 a4 a5 a6 a7 a8 a9 aa ab ac ad ae af => aa) x
def O4.gb (x : O4) : O3 := O4.rec .nil (fun a0 a1 a2 a3 a4 a5 a6 a7 a8 a9 aa ab ac ad ae af => ab) x
def O4.gc (x : O4) : O3 := O4.rec .nil (fun a0 a1 a2 a3 a4 a5 a6 a7 a8 a9 aa ab ac ad ae af => ac) x
def O4.gd (x : O4) : O3 := O4.rec .nil (fun a0 a1 a2 a3 a4 a5 a6 a7 a8 a9 aa ab ac ad ae af => ad) x
def O4.ge (x : O4) : O3 := O4.rec .nil (fun a0 a1 a2 a3 a4 a5 a6 a7 a8 a9 aa ab ac ad ae af => ae) x
def O4.gf (x : O4) : O3 := O4.rec .nil (fun a0 a1 a2 a3 a4 a5 a6 a7 a8 a9 aa ab ac ad ae af => af) x
def O4.get (d : H) : O4 → O3 := H.rec (motive := fun _ => O4 → O3) O4.g0 O4.g1 O4.g2 O4.g3 O4.g4 O4.g5 O4.g6 O4.g7 O4.g8 O4.g9 O4.ga O4.gb O4.gc O4.gd O4.ge O4.gf d
def O4.s0 (v : O3) (x : O4) : O4 := O4.rec (motive := fun _ => O3 → O4) (fun v => .mk v .nil .nil .nil .nil .nil .nil .nil .nil .nil .nil .nil .nil .nil .nil .nil) (fun a0 a1 a2 a3 a4 a5 a6 a7 a8 a9 aa ab ac ad ae af => fun v => .mk v a1 a2 a3 a4 a5 a6 a7 a8 a9 aa ab ac ad ae af) x v
def O4.s1 (v : O3) (x : O4) : O4 := O4.rec (motive := fun _ => O3 → O4) (fun v => .mk .nil v .nil .nil .nil .nil .nil .nil .nil .nil .nil .nil .nil .nil .nil .nil) (fun a0 a1 a2 a3 a4 a5 a6 a7 a8 a9 aa ab ac ad ae af => fun v => .mk a0 v a2 a3 a4 a5 a6 a7 a8 a9 aa ab ac ad ae af) x v
def O4.s2 (v : O3) (x : O4) : O4 := O4.rec (motive := fun _ => O3 → O4) (fun v => .mk .nil .nil v .nil .nil .nil .nil .nil .nil .nil .nil .nil .nil .nil .nil .nil) (fun a0 a1 a2 a3 a4 a5 a6 a7 a8 a9 aa ab ac ad ae af => fun v => .mk a0 a1 v a3 a4 a5 a6 a7 a8 a9 aa ab ac ad ae af) x v
def O4.s3 (v : O3) (x : O4) : O4 := O4.rec (motive := fun _ => O3 → O4) (fun v => .mk .nil .nil .nil v .nil .nil .nil .nil .nil .nil .nil .nil .nil .nil .nil .nil) (fun a0 a1 a2 a3 a4 a5 a6 a7 a8 a9 aa ab ac ad ae af => fun v => .mk a0 a1 a2 v a4 a5 a6 a7 a8 a9 aa ab ac ad ae af) x v
def O4.s4 (v : O3) (x : O4) : O4 := O4.rec (motive := fun _ => O3 → O4) (fun v => .mk .nil .nil .nil .nil v .nil .nil .nil .nil .nil .nil .nil .nil .nil .nil .nil) (fun a0 a1 a2 a3 a4 a5 a6 a7 a8 a9 aa ab ac ad ae af => fun v => .mk a0 a1 a2 a3 v a5 a6 a7 a8 a9 aa ab ac ad ae af) x v
def O4.s5 (v : O3) (x : O4) : O4 := O4.rec (motive := fun _ => O3 → O4) (fun v => .mk .nil .nil .nil .nil .nil v .nil .nil .nil .nil .nil .nil .nil .nil .nil .nil) (fun a0 a1 a2 a3 a4 a5 a6 a7 a8 a9 aa ab ac ad ae af => fun v => .mk a0 a1 a2 a3 a4 v a6 a7 a8 a9 aa ab ac ad ae af) x v
def O4.s6 (v : O3) (x : O4) : O4 := O4.rec (motive := fun _ => O3 → O4) (fun v => .mk .nil .nil .nil .nil .nil .nil v .nil .nil .nil .nil .nil .nil .nil .nil .nil) (fun a0 a1 a2 a3 a4 a5 a6 a7 a8 a9 aa ab ac ad ae af => fun v => .mk a0 a1 a2 a3 a4 a5 v a7 a8 a9 aa ab ac ad ae af) x v
def O4.s7 (v : O3) (x : O4) : O4 := O4.rec (motive := fun _ => O3 → O4) (fun v => .mk .nil .nil .nil .nil .nil .nil .nil v .nil .nil .nil .nil .nil .nil .nil .nil) (fun a0 a1 a2 a3 a4 a5 a6 a7 a8 a9 aa ab ac ad ae af => fun v => .mk a0 a1 a2 a3 a4 a5 a6 v a8 a9 aa ab ac ad ae af) x v
def O4.s8 (v : O3) (x : O4) : O4 := O4.rec (motive := fun _ => O3 → O4) (fun v => .mk .nil .nil .nil .nil .nil .nil .nil .nil v .nil .nil .nil .nil .nil .nil .nil) (fun a0 a1 a2 a3 a4 a5 a6 a7 a8 a9 aa ab ac ad ae af => fun v => .mk a0 a1 a2 a3 a4 a5 a6 a7 v a9 aa ab ac ad ae af) x v
def O4.s9 (v : O3) (x : O4) : O4 := O4.rec (motive := fun _ => O3 → O4) (fun v => .mk .nil .nil .nil .nil .nil .nil .nil .nil .nil v .nil .nil .nil .nil .nil .nil) (fun a0 a1 a2 a3 a4 a5 a6 a7 a8 a9 aa ab ac ad ae af => fun v => .mk a0 a1 a2 a3 a4 a5 a6 a7 a8 v aa ab ac ad ae af) x v
def O4.sa (v : O3) (x : O4) : O4 := O4.rec (motive := fun _ => O3 → O4) (fun v => .mk .nil .nil .nil .nil .nil .nil .nil .nil .nil .nil v .nil .nil .nil .nil .nil) (fun a0 a1 a2 a3 a4 a5 a6 a7 a8 a9 aa ab ac ad ae af => fun v => .mk a0 a1 a2 a3 a4 a5 a6 a7 a8 a9 v ab ac ad ae af) x v
def O4.sb (v : O3) (x : O4) : O4 := O4.rec (motive := fun _ => O3 → O4) (fun v => .mk .nil .nil .nil .nil .nil .nil .nil .nil .nil .nil .nil v .nil .nil .nil .nil) (fun a0 a1 a2 a3 a4 a5 a6 a7 a8 a9 aa ab ac ad ae af => fun v => .mk a0 a1 a2 a3 a4 a5 a6 a7 a8 a9 aa v ac ad ae af) x v
def O4.sc (v : O3) (x : O4) : O4 := O4.rec (motive := fun _ => O3 → O4) (fun v => .mk .nil .nil .nil .nil .nil .nil .nil .nil .nil .nil .nil .nil v .nil .nil .nil) (fun a0 a1 a2 a3 a4 a5 a6 a7 a8 a9 aa ab ac ad ae af => fun v => .mk a0 a1 a2 a3 a4 a5 a6 a7 a8 a9 aa ab v ad ae af) x v
def O4.sd (v : O3) (x : O4) : O4 := O4.rec (motive := fun _ => O3 → O4) (fun v => .mk .nil .nil .nil .nil .nil .nil .nil .nil .nil .nil .nil .nil .nil v .nil .nil) (fun a0 a1 a2 a3 a4 a5 a6 a7 a8 a9 aa ab ac ad ae af => fun v => .mk a0 a1 a2 a3 a4 a5 a6 a7 a8 a9 aa ab ac v ae af) x v
def O4.se (v : O3) (x : O4) : O4 := O4.rec (motive := fun _ => O3 → O4) (fun v => .mk .nil .nil .nil .nil .nil .nil .nil .nil .nil .nil .nil .nil .nil .nil v .nil) (fun a0 a1 a2 a3 a4 a5 a6 a7 a8 a9 aa ab ac ad ae af => fun v => .mk a0 a1 a2 a3 a4 a5 a6 a7 a8 a9 aa ab ac ad v af) x v
def O4.sf (v : O3) (x : O4) : O4 := O4.rec (motive := fun _ => O3 → O4) (fun v => .mk .nil .nil .nil .nil .nil .nil .nil .nil .nil .nil .nil .nil .nil .nil .nil v) (fun a0 a1 a2 a3 a4 a5 a6 a7 a8 a9 aa ab ac ad ae af => fun v => .mk a0 a1 a2 a3 a4 a5 a6 a7 a8 a9 aa ab ac ad ae v) x v
def O4.set (d : H) : O3 → O4 → O4 := H.rec (motive := fun _ => O3 → O4 → O4) O4.s0 O4.s1 O4.s2 O4.s3 O4.s4 O4.s5 O4.s6 O4.s7 O4.s8 O4.s9 O4.sa O4.sb O4.sc O4.sd O4.se O4.sf d
inductive T4 where
 | mk (t : O4) (f : Nat → Nat → Obj)
inductive Hp where
 | mk (t : T4) (nx : P4)
inductive RV where
 | ok (v : AV) (h : Hp)
 | err (n : Nat)
inductive RT where
 | ok (v : AV) (h : Hp)
 | err (n : Nat)
 | ch (n : Nat) (k : Nat → RT)
inductive RS where
 | nm (r : A2) (h : Hp)
 | ex (i : Nat) (r : A2) (h : Hp)
 | go (l : Nat) (r : A2) (h : Hp)
 | ret (r : A2) (h : Hp)
 | err (n : Nat)
 | ch (n : Nat) (k : Nat → RS)
def RT.elim {β : Type} (f : AV → Hp → β) (e : Nat → β) (c : Nat → (Nat → β) → β) (x : RT) : β := RT.rec f e (fun n _ ih => c n ih) x
def RS.elim {β : Type} (f1 : A2 → Hp → β) (f2 : Nat → A2 → Hp → β) (f3 : Nat → A2 → Hp → β) (f4 : A2 → Hp → β) (e : Nat → β) (c : Nat → (Nat → β) → β) (x : RS) : β := RS.rec f1 f2 f3 f4 e (fun n _ ih => c n ih) x
def wL {β : Type} (z : β) (s : Nat → β → β) (n : Nat) : β := Nat.rec z s n
def P4.succ (p : P4) : P4 := P4.rec (fun a b c d =>
 Bool.rec (.mk a b c d.succ) (Bool.rec (.mk a b c.succ .h0) (Bool.rec (.mk a b.succ .h0 .h0) (.mk a.succ .h0 .h0 .h0) b.last) c.last) d.last) (fun b _ => .ft (Nat.succ b) 0) p
def cL (p : P4) (t : T4) : Obj := T4.rec (fun t f => P4.rec (fun a b c d => O1.get d (O2.get c (O3.get b (O4.get a t)))) (fun b o => f b o) p) t
def Hp.tree (h : Hp) : T4 := Hp.rec (fun t _ => t) h
def Hp.next (h : Hp) : P4 := Hp.rec (fun _ n => n) h
def ah (p : P4) (h : Hp) : Obj := cL p h.tree
def Oe (a b c d : H) (o : Obj) (t4 : O4) (t3 : O3) (t2 : O2) : O4 := O4.set a (O3.set b (O2.set c (O1.set d o (O2.get c t2)) t2) t3) t4
def Og (a b c d : H) (o : Obj) (t4 : O4) (t3 : O3) : O4 := Oe a b c d o t4 t3 (O3.get b t3)
def SI (b c : Nat) (o : Obj) (f : Nat → Nat → Obj) (m n : Nat) : Obj := Bool.rec (f m n) (Bool.rec (f m n) o (Nat.beq n c)) (Nat.beq m b)
def dt (p : P4) (o : Obj) (t : T4) : T4 := T4.rec (fun t f => P4.rec (fun a b c d => .mk (Og a b c d o t (O4.get a t)) f) (fun b c => .mk t (SI b c o f)) p) t
def cB (p : P4) (o : Obj) (h : Hp) : Hp := .mk (dt p o h.tree) h.next
def isNone (o : Obj) : Bool := Obj.rec true false (fun _ _ _ _ _ => false) (fun _ _ => false) (fun _ _ => false) (fun _ _ _ _ => false) false o
def iw (o : Obj) (h : Hp) (k : P4 → Hp → RV) : RV := Hp.rec (fun t nx =>
 Bool.rec (.err 1) (k nx (.mk (dt nx o t) nx.succ)) (isNone (cL nx t))) h
def aq (a b : H) (r : A2) : AV := A1.get b (A2.get a r)
def jn (a b : H) (v : AV) (r : A2) : A2 := A2.set a (A1.set b v (A2.get a r)) r
def g2 (i : Nat) (x : A2) : AV := A1.get (dC (Nat.mod i 16)) (A2.get (dC (Nat.div i 16)) x)
def g3 (i : Nat) (x : A3) : AV := g2 (Nat.mod i 256) (A3.get (dC (Nat.div i 256)) x)
def g4 (i : Nat) (x : A4) : AV := g3 (Nat.mod i 4096) (A4.get (dC (Nat.div i 4096)) x)
def g1 (i : Nat) (x : A1) : AV := A1.get (dC i) x
def eI (i : Nat) (c : Cl) : AV := Cl.rec (motive := fun _ => Nat → AV) (fun x i => g1 i x) (fun x i => g2 i x) (fun x i => g3 i x) (fun x i => g4 i x) (fun _ f i => f i) c i
def t1 (i : Nat) (v : AV) (x : A1) : A1 := A1.set (dC i) v x
def TB (d : H) (i : Nat) (v : AV) (x : A2) : A2 := A2.set d (t1 i v (A2.get d x)) x
def t2 (i : Nat) (v : AV) (x : A2) : A2 := TB (dC (Nat.div i 16)) (Nat.mod i 16) v x
def TC (d : H) (i : Nat) (v : AV) (x : A3) : A3 := A3.set d (t2 i v (A3.get d x)) x
def t3 (i : Nat) (v : AV) (x : A3) : A3 := TC (dC (Nat.div i 256)) (Nat.mod i 256) v x
def TD (d : H) (i : Nat) (v : AV) (x : A4) : A4 := A4.set d (t3 i v (A4.get d x)) x
def t4 (i : Nat) (v : AV) (x : A4) : A4 := TD (dC (Nat.div i 4096)) (Nat.mod i 4096) v x
def SJ (i : Nat) (v : AV) (f : Nat → AV) (j : Nat) : AV := Bool.rec (f j) v (Nat.beq j i)
def lh (i : Nat) (v : AV) (c : Cl) : Cl := Cl.rec (motive := fun _ => Nat → AV → Cl) (fun x i v => .k1 (t1 i v x)) (fun x i v => .k2 (t2 i v x)) (fun x i v => .k3 (t3 i v x)) (fun x i v => .k4 (t4 i v x)) (fun m f i v => .kf m (SJ i v f)) c i v
def bw (c : Cl) : Nat := Cl.rec (fun _ => 16) (fun _ => 256) (fun _ => 4096) (fun _ => 65536) (fun m _ => m) c
def Bb (c : Cl) : Nat := Cl.rec (fun _ => 16) (fun _ => 256) (fun _ => 4096) (fun _ => 65536) (fun m _ => Bool.rec 0 m (Nat.ble m 16777216)) c
def bz (c : Cl) : Cl := Cl.rec (fun x => .k2 (A2.s0 x .nil)) (fun x => .k3 (A3.s0 x .nil)) (fun x => .k4 (A4.s0 x .nil)) (fun x => .kf 16777216 (fun i => g4 i x)) (fun m f => .kf m f) c
def jV (n : Nat) (c : Cl) : Cl := Bool.rec (Bool.rec (Bool.rec (Bool.rec (bz (bz (bz (bz c)))) (bz (bz (bz c))) (Nat.ble n (bw (bz (bz (bz c)))))) (bz (bz c)) (Nat.ble n (bw (bz (bz c))))) (bz c) (Nat.ble n (bw (bz c)))) c (Nat.ble n (bw c))
def bU (l : List AV) : Nat → Cl → Cl := dT (fun _ c => c) (fun v _ ih i c => ih (Nat.succ i) (lh i v c)) l
def FO : Cl := .k1 .nil
def mE (l : List AV) : Cl := bU l 0 (jV l.length FO)
def bH (n : Nat) : Cl → Nat → List AV := Nat.rec (fun _ _ => .nil) (fun _ ih c i => .cons (eI i c) (ih c (Nat.succ i))) n
inductive AO where
 | t (a b : H)
 | c (v : AV)
def ev (x : AO) (r : A2) : AV := AO.rec (motive := fun _ => A2 → AV) aq (fun v _ => v) x r
def Oh (a b : Int) : Int := Int.rec (motive := fun _ => Int → Int) (fun m b => Int.rec (fun n => .ofNat (Nat.add m n)) (fun n => Int.subNatNat m (Nat.succ n)) b) (fun m b => Int.rec (fun n => Int.subNatNat n (Nat.succ m)) (fun n => .negSucc (Nat.succ (Nat.add m n))) b) a b
def KD (a : Int) : Int := Int.rec (fun m => Int.negOfNat m) (fun m => .ofNat (Nat.succ m)) a
def KE (a b : Int) : Int := Int.rec (motive := fun _ => Int → Int) (fun m b => Int.rec (fun n => .ofNat (Nat.mul m n)) (fun n => Int.mul (.ofNat m) (.negSucc n)) b) (fun m b => Int.mul (.negSucc m) b) a b
def Oi (a b : Int) : Int := Int.rec (motive := fun _ => Int → Int) (fun m b => Int.rec (fun n => .ofNat (Nat.div m n)) (fun n => Int.tdiv (.ofNat m) (.negSucc n)) b) (fun m b => Int.tdiv (.negSucc m) b) a b
def Bc (a b : Int) : Int := Int.rec (motive := fun _ => Int → Int) (fun m b => Int.rec (fun n => .ofNat (Nat.mod m n)) (fun n => Int.tmod (.ofNat m) (.negSucc n)) b) (fun m b => Int.tmod (.negSucc m) b) a b
def QJ (a b : Int) : Bool := Int.rec (motive := fun _ => Int → Bool) (fun m b => Int.rec (fun n => Nat.ble m n) (fun _ => false) b) (fun m b => Int.rec (fun _ => true) (fun n => Nat.ble n m) b) a b
def FP (a b : Int) : Bool := Int.rec (motive := fun _ => Int → Bool) (fun m b => Int.rec (fun n => Nat.ble (Nat.succ m) n) (fun _ => false) b) (fun m b => Int.rec (fun _ => true) (fun n => Nat.ble (Nat.succ n) m) b) a b
def sI (a b : Int) : Bool := Int.rec (motive := fun _ => Int → Bool) (fun m b => Int.rec (fun n => Nat.beq m n) (fun _ => false) b) (fun m b => Int.rec (fun _ => false) (fun n => Nat.beq m n) b) a b
def wS (k : IntKind) (top : Nat) (n : Int) : Int := Int.rec (fun m => Bool.rec (k.wrap (.ofNat m)) (.ofNat m) (Nat.ble m top)) (fun m => Bool.rec (k.wrap (.negSucc m)) (.negSucc m) (Nat.ble m top)) n
def wU (k : IntKind) (size : Nat) (n : Int) : Int := Int.rec (fun m => .ofNat (Nat.mod m size)) (fun m => k.wrap (.negSucc m)) n
def iy (k : IntKind) : Int → Int := IntKind.rec (motive := fun _ => Int → Int) (wS .i8 127) (wS .i16 32767) (wS .i32 2147483647) (wS .i64 9223372036854775807) (wU .u8 256) (wU .u16 65536) (wU .u32 4294967296) (wU .u64 18446744073709551616) k
def lj (k : IntKind) : Nat := IntKind.rec 8 16 32 64 8 16 32 64 k
def TE (k : IntKind) : Nat := IntKind.rec 0 1 2 3 4 5 6 7 k
def ll (a b : IntKind) : Bool := Nat.beq (TE a) (TE b)
def CB (f : Nat → Nat → Nat) (k : IntKind) (a b : Int) : AV := Int.rec (fun m => Int.rec (fun n => .int k (iy k (.ofNat (f (Nat.mod m (Nat.pow 2 (lj k))) (Nat.mod n (Nat.pow 2 (lj k))))))) (fun _ => .undef) b) (fun _ => .undef) a
inductive OI where
 | no
 | yes (k : IntKind) (n : Int)
inductive OB where
 | no
 | yes (b : Bool)
inductive OS where
 | no
 | yes (l : List Nat)
inductive OP where
 | no
 | yes (i : P4) (o : Nat)
inductive OL where
 | no
 | yes (l : List AV)
inductive OM where
 | no
 | nil
 | yes (i : P4)
inductive OC where
 | no
 | yes (k : FloatKind) (a b : Nat)
inductive OF where
 | no
 | yes (k : FloatKind) (a : Nat)
inductive SK where
 | no
 | nil
 | ex (i : P4) (o n c : Nat)
 | rs (i : P4) (o n e : Nat)
inductive TF where
 | no
 | yes (el n : Nat) (ex : Bool) (fl : Fl) (c : Cl)
inductive SL where
 | no
 | yes (l : List KV) (clock : Nat)
inductive SC where
 | no
 | yes (f : Nat) (cs : List AV)
inductive SD where
 | no
 | nil
 | yes (t : Nat) (v : AV)
def AV.asInt (x : AV) : OI := AV.rec (motive_2 := fun _ => PUnit) .no (fun _ => .no) (fun k n => .yes k n) (fun _ => .no) (fun _ _ => .no) (fun _ _ _ => .no) (fun _ _ => .no) .no (fun _ _ _ _ => .no) (fun _ _ _ _ => .no) .no (fun _ => .no) .no (fun _ _ _ => .no) .no (fun _ _ _ => .no) .no (fun _ _ => .no) (fun _ _ => .no) (fun _ => .no) PUnit.unit (fun _ _ _ _ => PUnit.unit) x
def AV.asBool (x : AV) : OB := AV.rec (motive_2 := fun _ => PUnit) .no (fun b => .yes b) (fun _ _ => .no) (fun _ => .no) (fun _ _ => .no) (fun _ _ _ => .no) (fun _ _ => .no) .no (fun _ _ _ _ => .no) (fun _ _ _ _ => .no) .no (fun _ => .no) .no (fun _ _ _ => .no) .no (fun _ _ _ => .no) .no (fun _ _ => .no) (fun _ _ => .no) (fun _ => .no) PUnit.unit (fun _ _ _ _ => PUnit.unit) x
def AV.CC (x : AV) : OS := AV.rec (motive_2 := fun _ => PUnit) .no (fun _ => .no) (fun _ _ => .no) (fun l => .yes l) (fun _ _ => .no) (fun _ _ _ => .no) (fun _ _ => .no) .no (fun _ _ _ _ => .no) (fun _ _ _ _ => .no) .no (fun _ => .no) .no (fun _ _ _ => .no) .no (fun _ _ _ => .no) .no (fun _ _ => .no) (fun _ _ => .no) (fun _ => .no) PUnit.unit (fun _ _ _ _ => PUnit.unit) x
def AV.hM (x : AV) : OP := AV.rec (motive_2 := fun _ => PUnit) .no (fun _ => .no) (fun _ _ => .no) (fun _ => .no) (fun _ _ => .no) (fun _ _ _ => .no) (fun i o => .yes i o) .no (fun _ _ _ _ => .no) (fun _ _ _ _ => .no) .no (fun _ => .no) .no (fun _ _ _ => .no) .no (fun _ _ _ => .no) .no (fun _ _ => .no) (fun _ _ => .no) (fun _ => .no) PUnit.unit (fun _ _ _ _ => PUnit.unit) x
def AV.asAgg (x : AV) : OL := AV.rec (motive_2 := fun _ => PUnit) .no (fun _ => .no) (fun _ _ => .no) (fun _ => .no) (fun _ _ => .no) (fun _ _ _ => .no) (fun _ _ => .no) .no (fun _ _ _ _ => .no) (fun _ _ _ _ => .no) .no (fun _ => .no) .no (fun _ _ _ => .no) .no (fun _ _ _ => .no) .no (fun l _ => .yes l) (fun _ _ => .no) (fun _ => .no) PUnit.unit (fun _ _ _ _ => PUnit.unit) x
def AV.FQ (x : AV) : OL := AV.rec (motive_2 := fun _ => PUnit) .no (fun _ => .no) (fun _ _ => .no) (fun _ => .no) (fun _ _ => .no) (fun _ _ _ => .no) (fun _ _ => .no) .no (fun _ _ _ _ => .no) (fun _ _ _ _ => .no) .no (fun _ => .no) .no (fun _ _ _ => .no) .no (fun _ _ _ => .no) .no (fun _ _ => .no) (fun l _ => .yes l) (fun _ => .no) PUnit.unit (fun _ _ _ _ => PUnit.unit) x
def AV.yo (x : AV) : OM := AV.rec (motive_2 := fun _ => PUnit) .no (fun _ => .no) (fun _ _ => .no) (fun _ => .no) (fun _ _ => .no) (fun _ _ _ => .no) (fun _ _ => .no) .no (fun _ _ _ _ => .no) (fun _ _ _ _ => .no) .no (fun i => .yes i) .nil (fun _ _ _ => .no) .no (fun _ _ _ => .no) .no (fun _ _ => .no) (fun _ _ => .no) (fun _ => .no) PUnit.unit (fun _ _ _ _ => PUnit.unit) x
def AV.Oj (x : AV) : OC := AV.rec (motive_2 := fun _ => PUnit) .no (fun _ => .no) (fun _ _ => .no) (fun _ => .no) (fun _ _ => .no) (fun k a b => .yes k a b) (fun _ _ => .no) .no (fun _ _ _ _ => .no) (fun _ _ _ _ => .no) .no (fun _ => .no) .no (fun _ _ _ => .no) .no (fun _ _ _ => .no) .no (fun _ _ => .no) (fun _ _ => .no) (fun _ => .no) PUnit.unit (fun _ _ _ _ => PUnit.unit) x
def AV.QK (x : AV) : OF := AV.rec (motive_2 := fun _ => PUnit) .no (fun _ => .no) (fun _ _ => .no) (fun _ => .no) (fun k a => .yes k a) (fun _ _ _ => .no) (fun _ _ => .no) .no (fun _ _ _ _ => .no) (fun _ _ _ _ => .no) .no (fun _ => .no) .no (fun _ _ _ => .no) .no (fun _ _ _ => .no) .no (fun _ _ => .no) (fun _ _ => .no) (fun _ => .no) PUnit.unit (fun _ _ _ _ => PUnit.unit) x
def AV.QL (x : AV) : SK := AV.rec (motive_2 := fun _ => PUnit) .no (fun _ => .no) (fun _ _ => .no) (fun _ => .no) (fun _ _ => .no) (fun _ _ _ => .no) (fun _ _ => .no) .no (fun i o n c => .ex i o n c) (fun i o n e => .rs i o n e) .nil (fun _ => .no) .no (fun _ _ _ => .no) .no (fun _ _ _ => .no) .no (fun _ _ => .no) (fun _ _ => .no) (fun _ => .no) PUnit.unit (fun _ _ _ _ => PUnit.unit) x
def AV.Ok (x : AV) : SC := AV.rec (motive_2 := fun _ => PUnit) .no (fun _ => .no) (fun _ _ => .no) (fun _ => .no) (fun _ _ => .no) (fun _ _ _ => .no) (fun _ _ => .no) .no (fun _ _ _ _ => .no) (fun _ _ _ _ => .no) .no (fun _ => .no) .no (fun f cs _ => .yes f cs) .no (fun _ _ _ => .no) .no (fun _ _ => .no) (fun _ _ => .no) (fun _ => .no) PUnit.unit (fun _ _ _ _ => PUnit.unit) x
def AV.Ol (x : AV) : SD := AV.rec (motive_2 := fun _ => PUnit) .no (fun _ => .no) (fun _ _ => .no) (fun _ => .no) (fun _ _ => .no) (fun _ _ _ => .no) (fun _ _ => .no) .no (fun _ _ _ _ => .no) (fun _ _ _ _ => .no) .no (fun _ => .no) .no (fun _ _ _ => .no) .no (fun t v _ => .yes t v) .nil (fun _ _ => .no) (fun _ _ => .no) (fun _ => .no) PUnit.unit (fun _ _ _ _ => PUnit.unit) x
inductive EB where
 | yes
 | no
 | bad
def AV.isNil (x : AV) : EB := AV.rec (motive_2 := fun _ => PUnit) .bad (fun _ => .bad) (fun _ _ => .bad) (fun _ => .bad) (fun _ _ => .bad) (fun _ _ _ => .bad) (fun _ _ => .no) .yes (fun _ _ _ _ => .no) (fun _ _ _ _ => .no) .yes (fun _ => .no) .yes (fun _ _ _ => .no) .yes (fun _ _ _ => .no) .yes (fun _ _ => .bad) (fun _ _ => .bad) (fun _ => .bad) PUnit.unit (fun _ _ _ _ => PUnit.unit) x
def Obj.KG (o : Obj) : TF := Obj.rec .no .no (fun a b c d e => .yes a b c d e) (fun _ _ => .no) (fun _ _ => .no) (fun _ _ _ _ => .no) .no o
def Obj.yo (o : Obj) : SL := Obj.rec .no .no (fun _ _ _ _ _ => .no) (fun a b => .yes a b) (fun _ _ => .no) (fun _ _ _ _ => .no) .no o
def AV.dN {β : Type} (x : AV) (k : IntKind → Int → β) (e : β) : β := OI.rec e k x.asInt
def AV.bn {β : Type} (x : AV) (k : Bool → β) (e : β) : β := OB.rec e k x.asBool
def AV.iY {β : Type} (x : AV) (k : List Nat → β) (e : β) : β := OS.rec e k x.CC
def AV.fu {β : Type} (x : AV) (k : P4 → Nat → β) (e : β) : β := OP.rec e k x.hM
def AV.nu {β : Type} (x : AV) (k : List AV → β) (e : β) : β := OL.rec e k x.asAgg
def AV.CD {β : Type} (x : AV) (k : List AV → β) (e : β) : β := OL.rec e k x.FQ
def AV.eP {β : Type} (x : AV) (k : P4 → β) (n e : β) : β := OM.rec e n k x.yo
def AV.sJ {β : Type} (x : AV) (k : FloatKind → Nat → Nat → β) (e : β) : β := OC.rec e k x.Oj
def AV.rj {β : Type} (x : AV) (k : FloatKind → Nat → β) (e : β) : β := OF.rec e k x.QK
def AV.lq {β : Type} (x : AV) (k k' : P4 → Nat → Nat → Nat → β) (n e : β) : β := SK.rec e n k k' x.QL
def AV.FR {β : Type} (x : AV) (k : Nat → List AV → β) (e : β) : β := SC.rec e k x.Ok
def AV.Bd {β : Type} (x : AV) (k : Nat → AV → β) (n e : β) : β := SD.rec e n k x.Ol
def Obj.aN {β : Type} (o : Obj) (k : Nat → Nat → Bool → Fl → Cl → β) (e : β) : β := TF.rec e k o.KG
def Obj.eP {β : Type} (o : Obj) (k : List KV → Nat → β) (e : β) : β := SL.rec e k o.yo
def AV.one (x : AV) : Bool := AV.rec (motive_2 := fun _ => PUnit) false (fun _ => true) (fun _ _ => true) (fun _ => true) (fun _ _ => true) (fun _ _ _ => true) (fun _ _ => true) true (fun _ _ _ _ => true) (fun _ _ _ _ => true) true (fun _ => true) true (fun _ _ _ => true) true (fun _ _ _ => true) true (fun _ _ => false) (fun _ _ => false) (fun _ => false) PUnit.unit (fun _ _ _ _ => PUnit.unit) x
def AV.cs (x : AV) : List AV := OL.rec (.cons x .nil) (fun l => l) x.asAgg
def kT (a b : List Nat) : Bool := dT (β := List Nat → Bool) (fun b => List.rec true (fun _ _ _ => false) b)
 (fun x _ ih b => List.rec false (fun y b _ => Bool.rec false (ih b) (Nat.beq x y)) b) a b
def vy (a b : List Nat) : Bool := dT (β := List Nat → Bool) (fun b => List.rec false (fun _ _ _ => true) b)
 (fun x _ ih b => List.rec false (fun y b _ => Bool.rec (Nat.ble x y) (ih b) (Nat.beq x y)) b) a b
def oO (a b : H) : Bool := Nat.beq a.nat b.nat
def oP (a b : P4) : Bool := P4.rec (fun a1 a2 a3 a4 => P4.rec (fun b1 b2 b3 b4 =>
 Bool.rec false (Bool.rec false (Bool.rec false (oO a1 b1) (oO a2 b2)) (oO a3 b3)) (oO a4 b4)) (fun _ _ => false) b) (fun m n => P4.rec (fun _ _ _ _ => false) (fun m2 n2 => Bool.rec false (Nat.beq n n2) (Nat.beq m m2)) b) a
def jW (a b : Bool) : Bool := Bool.rec (Bool.rec true false b) b a
def EB.of (b : Bool) : EB := Bool.rec .no .yes b
def fE (o : Obj) : Bool := Obj.aN o (fun _ _ _ fl _ => Fl.rec true false false false fl) false
inductive KK where
 | b | i | s | p
def SE (x y : AV) : EB := OB.rec .bad (fun a => OB.rec .bad (fun b => .of (jW a b)) y.asBool) x.asBool
def Ue (x y : AV) : EB := OI.rec .bad (fun k a => OI.rec .bad (fun k' b => Bool.rec .bad (.of (sI a b)) (ll k k')) y.asInt) x.asInt
def Uf (x y : AV) : EB := OS.rec .bad (fun a => OS.rec .bad (fun b => .of (kT a b)) y.CC) x.CC
def fF (x : AV) : Bool := AV.rec (motive_2 := fun _ => PUnit) false (fun _ => false) (fun _ _ => false) (fun _ => false) (fun _ _ => false) (fun _ _ _ => false) (fun _ _ => false) true (fun _ _ _ _ => false) (fun _ _ _ _ => false) false (fun _ => false) false (fun _ _ _ => false) false (fun _ _ _ => false) false (fun _ _ => false) (fun _ _ => false) (fun _ => false) PUnit.unit (fun _ _ _ _ => PUnit.unit) x
def Om (h : Hp) (x y : AV) : EB := OP.rec (Bool.rec .bad (OP.rec (Bool.rec .bad .yes (fF y)) (fun _ _ => .no) y.hM) (fF x)) (fun i o => OP.rec (Bool.rec .bad .no (fF y)) (fun j q => Bool.rec (Bool.rec .bad (Bool.rec .bad .no (fE (ah j h))) (fE (ah i h))) (.of (Nat.beq o q)) (oP i j)) y.hM) x.hM
def Kw (k : KK) (h : Hp) (x y : AV) : EB := KK.rec (SE x y) (Ue x y) (Uf x y) (Om h x y) k
def yp (ks : List KK) (h : Hp) (a b : List AV) : EB := dT (β := List AV → List AV → EB) (fun a b => List.rec (List.rec .yes (fun _ _ _ => .bad) b) (fun _ _ _ => .bad) a)
 (fun k _ ih a b => List.rec .bad (fun x a _ => List.rec .bad (fun y b _ => EB.rec (ih a b) (EB.rec .no .no .bad (ih a b)) .bad (Kw k h x y)) b) a) ks a b
def EB.rv (neg : Bool) (h : Hp) (e : EB) : RV := EB.rec (.ok (.bool (Bool.not neg)) h) (.ok (.bool neg) h) (.err 2) e
def QM (_ : Hp) (x y : AV) : EB := AV.Bd x (fun t _ => AV.Bd y (fun u _ => Bool.rec .no .bad (Nat.beq t u)) .no .bad)
 (AV.Bd y (fun _ _ => .no) .bad .bad) .bad
inductive Part where
 | mk (off sz : Nat) (x : AO)
inductive NK where
 | s | m | f | i
def Oo (x : AV) : EB := AV.rec (motive_2 := fun _ => PUnit) .bad (fun _ => .bad) (fun _ _ => .bad) (fun _ => .bad) (fun _ _ => .bad) (fun _ _ _ => .bad) (fun _ _ => .bad) .bad (fun _ _ _ _ => .bad) (fun _ _ _ _ => .bad) .bad (fun _ => .bad) .bad (fun _ _ _ => .no) .yes (fun _ _ _ => .bad) .bad (fun _ _ => .bad) (fun _ _ => .bad) (fun _ => .bad) PUnit.unit (fun _ _ _ _ => PUnit.unit) x
def sK (k : NK) (x : AV) : EB := NK.rec (SK.rec .bad .yes (fun _ _ _ _ => .no) (fun _ _ _ _ => .no) x.QL) (OM.rec .bad .yes (fun _ => .no) x.yo) (Oo x) (SD.rec .bad .yes (fun _ _ => .no) x.Ol) k
inductive BK where
 | add | sub | mul | quo | rem | and | or | xor | QN | shl | shr
 | eq | ne | lt | le | gt | ge
 | seq | QO | slt | sle | TG | TH | cat
 | beq | bne | oP | SM | gE (k : NK) | rk (k : NK)
 | Oq (ks : List KK) | QP (ks : List KK)
 | TI (op : BinOp)
 | TJ (op : BinOp)
 | sI | Ug
inductive UK where
 | not | neg | SN
inductive CK where
 | same | toInt (k : IntKind) | SO (el : Nat) | KH | Uu | Uh (k : FloatKind) | Ui (k : IntKind) | Uj (el : Nat) | TK | Nc (u sz : Nat)
inductive OA where
 | none
 | some (x : AO)
def FT (v : AV) (h : Hp) : RV := EB.rec (.ok v h) (.err 3) (.err 3) (OI.rec (OB.rec .bad (fun _ => .yes) v.asBool) (fun _ _ => .yes) v.asInt)
def Be (f : IntKind → Int → Int → AV) (x y : AV) (h : Hp) : RV := AV.dN x (fun k a => AV.dN y (fun k' b => Bool.rec (.err 4) (.ok (f k a b) h) (ll k k')) (.err 4)) (.err 4)
def KI (f : IntKind → Int → Int → AV) (x y : AV) (h : Hp) : RV := AV.dN x (fun k a => AV.dN y (fun k' b => Bool.rec (.err 4) (FT (f k a b) h) (ll k k')) (.err 4)) (.err 4)
def KJ (f : List Nat → List Nat → AV) (x y : AV) (h : Hp) : RV := AV.iY x (fun a => AV.iY y (fun b => .ok (f a b) h) (.err 5)) (.err 5)
def Qz (f : IntKind → Int → Int → AV) (x y : AV) (h : Hp) : RV := AV.dN x (fun k a => AV.dN y (fun _ b => FT (f k a b) h) (.err 6)) (.err 6)
def Ot (k : IntKind) (a b : Int) : AV := Int.rec (fun n => .int k (iy k (KE a (.ofNat (Nat.pow 2 (Nat.min n (lj k))))))) (fun _ => .undef) b
def Ou (k : IntKind) (a b : Int) : AV := Int.rec (fun n => Int.rec (fun m => .int k (.ofNat (Nat.div m (Nat.pow 2 (Nat.min n (lj k)))))) (fun m => .int k (Int.fdiv (.negSucc m) (2 ^ (Nat.min n (lj k))))) a) (fun _ => .undef) b
def KL (k : FloatKind) (op : BinOp) (a b : Nat) (h : Hp) : RV :=
 let c := k.format.order a b
 match op with
 | .eql => .ok (.bool (c == some .eq)) h
 | .neq => .ok (.bool (c != some .eq)) h
 | .lss => .ok (.bool (c == some .lt)) h
 | .leq => .ok (.bool (c == some .lt || c == some .eq)) h
 | .gtr => .ok (.bool (c == some .gt)) h
 | .geq => .ok (.bool (c == some .gt || c == some .eq)) h
 | .add => match k.format.add a b with | some r => .ok (.qd k r) h | none => .err 7
 | .sub => match k.format.sub a b with | some r => .ok (.qd k r) h | none => .err 7
 | .mul => match k.format.mul a b with | some r => .ok (.qd k r) h | none => .err 7
 | .quo => match k.format.div a b with | some r => .ok (.qd k r) h | none => .err 7
 | _ => .err 7
def CE (k : FloatKind) (op : BinOp) (a b c d : Nat) (h : Hp) : RV :=
 match op with
 | .add => match k.format.add a c, k.format.add b d with | some r, some s => .ok (.iu k r s) h | _, _ => .err 8
 | .sub => match k.format.sub a c, k.format.sub b d with | some r, some s => .ok (.iu k r s) h | _, _ => .err 8
 | .eql => .ok (.bool (k.format.order a c == some .eq && k.format.order b d == some .eq)) h
 | .neq => .ok (.bool (!(k.format.order a c == some .eq && k.format.order b d == some .eq))) h
 | _ => .err 8
def wM (a b : FloatKind) : Bool := FloatKind.rec (FloatKind.rec true false b) (FloatKind.rec false true b) a
def fX : AV → AV → Hp → RV := Be (fun k a b => .int k (iy k (Oh a b)))
def hR : AV → AV → Hp → RV := Be (fun k a b => .int k (iy k (Oh a (KD b))))
def vz : AV → AV → Hp → RV := Be (fun k a b => .int k (iy k (KE a b)))
def FU : AV → AV → Hp → RV := KI (fun k a b => Bool.rec (.int k (iy k (Oi a b))) .undef (sI b (.ofNat 0)))
def vA : AV → AV → Hp → RV := KI (fun k a b => Bool.rec (.int k (Bc a b)) .undef (sI b (.ofNat 0)))
def sL : AV → AV → Hp → RV := KI (CB Nat.land)
def KM : AV → AV → Hp → RV := KI (CB Nat.lor)
def nv : AV → AV → Hp → RV := KI (CB Nat.xor)
def FV : AV → AV → Hp → RV := Be (fun k a b => .int k (k.wrap (BitVec.ofInt k.bits a &&& ~~~BitVec.ofInt k.bits b).toNat))
def wN : AV → AV → Hp → RV := Be (fun _ a b => .bool (sI a b))
def gF : AV → AV → Hp → RV := Be (fun _ a b => .bool (Bool.not (sI a b)))
def mY : AV → AV → Hp → RV := Be (fun _ a b => .bool (FP a b))
def KN : AV → AV → Hp → RV := Be (fun _ a b => .bool (QJ a b))
def fj : AV → AV → Hp → RV := Be (fun _ a b => .bool (FP b a))
def kY : AV → AV → Hp → RV := Be (fun _ a b => .bool (QJ b a))
def Nd : AV → AV → Hp → RV := KJ (fun a b => .bool (kT a b))
def sM : AV → AV → Hp → RV := KJ (fun a b => .bool (Bool.not (kT a b)))
def Nf : AV → AV → Hp → RV := KJ (fun a b => .bool (vy a b))
def Ng : AV → AV → Hp → RV := KJ (fun a b => .bool (Bool.not (vy b a)))
def Nh : AV → AV → Hp → RV := KJ (fun a b => .bool (vy b a))
def Ni : AV → AV → Hp → RV := KJ (fun a b => .bool (Bool.not (vy a b)))
def FW (x y : AV) (h : Hp) : RV := AV.iY x (fun a => AV.iY y (fun b => Bool.rec (.err 135) (.ok (.str (List.append a b)) h) (Nat.ble (Nat.add a.length b.length) 4294967296)) (.err 5)) (.err 5)
def yq (neg : Bool) (ks : List KK) (x y : AV) (h : Hp) : RV := AV.nu x (fun a => AV.nu y (fun b => EB.rv neg h (yp ks h a b)) (.err 10)) (.err 10)
def FX (op : BinOp) (x y : AV) (h : Hp) : RV := AV.rj x (fun k a => AV.rj y (fun k' b => Bool.rec (.err 7) (KL k op a b h) (wM k k')) (.err 7)) (.err 7)
def FY (op : BinOp) (x y : AV) (h : Hp) : RV := AV.sJ x (fun k a b => AV.sJ y (fun k' c d => Bool.rec (.err 8) (CE k op a b c d h) (wM k k')) (.err 8)) (.err 8)
def bK (op : BK) : AV → AV → Hp → RV := BK.rec (motive := fun _ => AV → AV → Hp → RV) fX hR vz FU vA sL KM nv FV (Qz Ot) (Qz Ou) wN gF mY KN fj kY Nd sM Nf Ng Nh Ni FW (fun x y h => EB.rv false h (SE x y)) (fun x y h => EB.rv true h (SE x y)) (fun x y h => EB.rv false h (Om h x y)) (fun x y h => EB.rv true h (Om h x y)) (fun k x _ h => EB.rv false h (sK k x)) (fun k x _ h => EB.rv true h (sK k x)) (yq false) (yq true) FX FY (fun x y h => EB.rv false h (QM h x y)) (fun x y h => EB.rv true h (QM h x y)) op
def Nj (op : BK) (x y : AO) (r : A2) (h : Hp) : RV := bK op (ev x r) (ev y r) h
def eS (x : AV) (h : Hp) : RV := AV.bn x (fun b => .ok (.bool (Bool.not b)) h) (.err 11)
def vB (x : AV) (h : Hp) : RV := AV.dN x (fun k n => .ok (.int k (iy k (KD n))) h) (.err 11)
def sO (x : AV) (h : Hp) : RV := AV.dN x (fun k n => .ok (.int k (k.wrap (BitVec.ofInt k.bits (if k.signed then -1 else k.max) ^^^ BitVec.ofInt k.bits n).toNat)) h) (.err 11)
def KP (op : UK) (x : AO) (r : A2) (h : Hp) : RV := UK.rec (motive := fun _ => AV → Hp → RV) eS vB sO op (ev x r) h
def KQ (x : AO) (r : A2) (h : Hp) : RV := .ok (ev x r) h
def gZ (c a b : AO) (r : A2) (h : Hp) : RV := AV.bn (ev c r) (fun t => .ok (Bool.rec (ev b r) (ev a r) t) h) (.err 12)
def nU : P4 → Hp → RV := fun i h => .ok (.ptr i 0) h
def fB (el : Nat) (ex : Bool) (fl : Fl) (n : Nat) (c : Cl) (h : Hp) (k : P4 → Hp → RV) : RV := Bool.rec (.err 130) (iw (.cells el n ex fl c) h k) (Nat.ble n (Bb c))
def FZ (el : Nat) (l : List AV) (h : Hp) : RV := fB el true .plain l.length (mE l) h nU
def CF (el n : Nat) (c : Cl) (_ : A2) (h : Hp) : RV := fB el true .plain n c h nU
def yr (el : Nat) (x : AO) (r : A2) (h : Hp) : RV := OL.rec (Bool.rec (.err 134) (FZ el (.cons (ev x r) .nil) h) (ev x r).one) (fun l => FZ el l h) (ev x r).asAgg
def KR (l : List AV) (i : Nat) (v : AV) : List AV := dT (β := Nat → List AV) (fun _ => .nil)
 (fun x t ih i => Nat.rec (.cons v t) (fun i _ => .cons x (ih i)) i) l i
def ny (vs : List AV) : Nat → List AV → List AV := dT (fun _ l => l) (fun v _ ih i l => ih (Nat.succ i) (KR l i v)) vs
def fill (ps : List Part) (r : A2) : List AV → List AV := dT (fun l => l)
 (fun p _ ih l => Part.rec (fun off _ x => ih (ny (AV.cs (ev x r)) off l)) p) ps
def fits (ps : List Part) (r : A2) : Bool := dT true (fun p _ ih => Part.rec (fun _ sz x => OL.rec (Bool.rec false ih (Bool.and (ev x r).one (Nat.beq sz 1))) (fun l => Bool.rec false ih (Nat.beq l.length sz)) (ev x r).asAgg) p) ps
def jX (z : List AV) (ps : List Part) (r : A2) (h : Hp) : RV := Bool.rec (.err 132) (.ok (.agg (fill ps r z)) h) (fits ps r)
def CG (el n : Nat) (l : List AV) (h : Hp) : RV := fB el true .plain l.length (mE l) h (fun i h => .ok (.slice i 0 n n) h)
def gH (el es n : Nat) (z : List AV) (ps : List Part) (r : A2) (h : Hp) : RV := Bool.rec (.err 133) (CG el n (fill ps r z) h) (fits ps r)
def FK (i n : Nat) : Bool := Nat.ble (Nat.succ i) n
def jB (x : AO) (r : A2) (h : Hp) : RV := AV.fu (ev x r) (fun i o => Obj.aN (ah i h) (fun _ n _ _ c =>
 Bool.rec (.err 13) (.ok (eI o c) h) (FK o n)) (.err 14)) (.err 15)
def rp (m : Nat) (x : AO) (r : A2) (h : Hp) : RV := AV.fu (ev x r) (fun i o => Obj.aN (ah i h) (fun _ n _ _ c =>
 Bool.rec (.err 16) (.ok (.agg (bH m c o)) h) (Nat.ble (Nat.add o m) n)) (.err 17)) (.err 18)
def wr (fl : Fl) : Bool := Fl.rec true true false false fl
def Ga (fl : Fl) : Bool := Fl.rec false false false true fl
def sP (x y : AO) (r : A2) (h : Hp) : RV := AV.fu (ev x r) (fun i o => Obj.aN (ah i h) (fun el n ex fl c =>
 Bool.rec (.err 19) (Bool.rec (.err 20) (.ok .undef (cB i (.cells el n ex fl (lh o (ev y r) c)) h)) (Bool.and (FK o n) (ev y r).one)) (wr fl)) (.err 21)) (.err 22)
def yt (m : Nat) (x y : AO) (r : A2) (h : Hp) : RV := AV.fu (ev x r) (fun i o => Obj.aN (ah i h) (fun el n ex fl c =>
 Bool.rec (.err 23) (Bool.rec (.err 24) (AV.nu (ev y r) (fun l => Bool.rec (.err 25) (.ok .undef (cB i (.cells el n ex fl (bU l o c)) h)) (Nat.beq l.length m)) (.err 26)) (Nat.ble (Nat.add o m) n)) (wr fl)) (.err 27)) (.err 28)
def dk (x : AV) (h : Hp) : RV := EB.rec (.err 30) (.ok x h) (.err 29) x.isNil
def qh (x : AO) (r : A2) (h : Hp) : RV := OP.rec (dk (ev x r) h) (fun i o => .ok (.ptr i o) h) (ev x r).hM
def QQ (k : IntKind) : Bool := IntKind.rec false false false false true false false false k
def CH (k : IntKind) : Bool := IntKind.rec false false false true false false false false k
def dG (l : List AV) (k : List Nat → RV) (e : RV) : RV := dT (β := (List Nat → RV) → RV) (fun k => k .nil)
 (fun x _ ih k => AV.dN x (fun kd n => Bool.rec e (Int.rec (fun m => Bool.rec e (ih (fun s => k (.cons m s))) (Nat.ble m 255)) (fun _ => e) n) (QQ kd)) e) l k
def byteCells (s : List Nat) : List AV := dT .nil (fun b _ ih => .cons (.int .u8 (.ofNat b)) ih) s
def fG (es : Nat) (i : P4) (o n : Nat) (h : Hp) (k : List AV → RV) (e : RV) : RV := Nat.rec (k .nil) (fun n _ => Obj.aN (ah i h) (fun _ m _ _ c => Bool.rec e (k (bH (Nat.mul (Nat.succ n) es) c o)) (Nat.ble (Nat.add o (Nat.mul (Nat.succ n) es)) m)) e) n
def elems (es : Nat) (x : AV) (h : Hp) (k : List AV → RV) (e : RV) : RV := AV.lq x
 (fun i o n _ => fG es i o n h k e)
 (fun i o n es' => Bool.rec e (fG es i o n h k e) (Nat.beq es es'))
 (k .nil) e
def oQ (el : Nat) (fl : Fl) (es : Nat) (n : Nat) (l : List AV) (h : Hp) : RV := fB el false fl l.length (mE l) h (fun i h => .ok (.cA i 0 n es) h)
def KS (s : List Nat) : List AV := (Conv.runesFrom ⟨(s.map UInt8.ofNat).toArray⟩ s.length 0 #[]).toList.filterMap fun | .int _ n => some (.int .i32 n) | _ => none
def Gb (el : Nat) (l : List AV) (h : Hp) : RV := oQ el .plain 1 l.length l h
def Nk (el : Nat) (x : AV) (h : Hp) : RV := AV.iY x (fun s => oQ el .mark 1 s.length (byteCells s) h) (.err 32)
def wO (k : IntKind) (x : AV) (h : Hp) : RV := AV.dN x (fun _ n => .ok (.int k (iy k n)) h) (.err 31)
def Gc (x : AV) (h : Hp) : RV := elems 1 x h (fun l => dG l (fun s => .ok (.str s) h) (.err 33)) (.err 34)
def Nl (x : AV) (h : Hp) : RV := AV.dN x (fun _ n => .ok (.str ((Utf8.encode n).data.toList.map (·.toNat))) h) (.err 35)
def Ge (k : FloatKind) (x : AV) (h : Hp) : RV := AV.dN x (fun _ n => .ok (.qd k (k.nearest n)) h) (.err 36)
def Gf (k : IntKind) (x : AV) (h : Hp) : RV := AV.rj x (fun s b => match (s.decode b).toInt .zero with | some n => if k.min ≤ n ∧ n ≤ k.max then .ok (.int k n) h else .err 37 | none => .err 37) (.err 37)
def QR (el : Nat) (x : AV) (h : Hp) : RV := AV.iY x (fun s => Gb el (KS s) h) (.err 38)
def Gg (x : AV) (h : Hp) : RV := AV.iY x (fun s => .ok (.str s) h) (.err 38)
def Gh (x : AV) (h : Hp) : RV := OP.rec (Bool.rec (.err 190) (.ok x h) (fF x)) (fun i o => Obj.aN (ah i h) (fun _ n ex _ _ => Bool.rec (.err 191) (.ok x h) (Bool.and ex (FK o n))) (.err 192)) x.hM
def wP (u sz : Nat) (x : AV) (h : Hp) : RV := OP.rec (Bool.rec (.err 190) (.ok x h) (fF x)) (fun i o => Obj.aN (ah i h) (fun el n ex _ _ => Bool.rec (.err 193) (.ok x h) (Bool.and ex (Bool.and (Nat.beq o 0) (Bool.and (Nat.beq el u) (Nat.beq n sz))))) (.err 194)) x.hM
def cK (op : CK) : AV → Hp → RV := CK.rec (motive := fun _ => AV → Hp → RV) Gg wO Nk Gc Nl Ge Gf QR Gh wP op
def sQ (op : CK) (x : AO) (r : A2) (h : Hp) : RV := cK op (ev x r) h
def yu (t : Nat) (x : AO) (r : A2) (h : Hp) : RV := .ok (.iface t (ev x r)) h
def fY (xs : List AO) (r : A2) : List AV := dT .nil (fun x _ ih => .cons (ev x r) ih) xs
def yv (f : Nat) (xs : List AO) (r : A2) (h : Hp) : RV := .ok (.fn f (fY xs r)) h
def rU (_ : A2) (h : Hp) : RV := iw (.map .nil 0) h (fun i h => .ok (.map i) h)
def fk (n : Nat) (z : List AV) : List AV := Nat.rec .nil (fun _ ih => List.append z ih) n
def eQ (x : AV) (k : Nat → RV) (e : RV) : RV := AV.dN x (fun _ n => Int.rec k (fun _ => e) n) e
def QS (el l c : Nat) (v : List AV) (h : Hp) : RV := fB el true .plain v.length (mE v) h (fun i h => .ok (.slice i 0 l c) h)
def ic (el : Nat) (z : List AV) (l c : AO) (r : A2) (h : Hp) : RV := eQ (ev l r) (fun l => eQ (ev c r) (fun c =>
 Bool.rec (.err 39) (Bool.rec (.err 40) (QS el l c (fk c z) h) (Nat.ble c 1048576)) (Nat.ble l c)) (.err 41)) (.err 41)
def fZ (x : OA) (d : Nat) (r : A2) (k : Nat → RV) (e : RV) : RV := OA.rec (k d) (fun x => eQ (ev x r) k e) x
def isSome (x : OA) : Bool := OA.rec false (fun _ => true) x
def Gi (es : Nat) (i : P4) (o a b m cap : Nat) (h : Hp) : RV := Bool.rec (.err 42) (Bool.rec (.err 42) (Bool.rec (.err 42) (.ok (.slice i (Bool.rec (Nat.add o (Nat.mul a es)) o (Nat.beq m a)) (Nat.sub b a) (Nat.sub m a)) h) (Nat.ble m cap)) (Nat.ble b m)) (Nat.ble a b)
def CI (es : Nat) (i : P4) (o a b : Nat) (h : Hp) : RV := Bool.rec (.err 42) (Obj.aN (ah i h) (fun _ k _ _ _ =>
 Bool.rec (.err 45) (.ok (.cA i (Nat.add o (Nat.mul a es)) (Nat.sub b a) es) h) (Nat.ble (Nat.add o (Nat.mul b es)) k)) (.err 46)) (Nat.ble a b)
def Gj (es : Nat) (i : P4) (o a b m : Nat) (h : Hp) : RV := Bool.rec (.err 42) (Bool.rec (.err 42) (Obj.aN (ah i h) (fun _ k _ _ _ =>
 Bool.rec (.err 45) (.ok (.slice i (Bool.rec (Nat.add o (Nat.mul a es)) o (Nat.beq m a)) (Nat.sub b a) (Nat.sub m a)) h) (Nat.ble (Nat.add o (Nat.mul m es)) k)) (.err 46)) (Bool.and (Nat.ble 1 m) (Nat.ble b m))) (Nat.ble a b)
def cY (es : Nat) (x : AO) (lo hi mx : OA) (r : A2) (h : Hp) : RV := AV.lq (ev x r)
 (fun i o n cap => fZ mx cap r (fun m => fZ hi n r (fun b => fZ lo 0 r (fun a => Gi es i o a b m cap h) (.err 43)) (.err 43)) (.err 43))
 (fun i o n es' => Bool.rec (.err 44) (fZ hi n r (fun b => fZ lo 0 r (fun a => Bool.rec (CI es i o a b h) (fZ mx 0 r (fun m => Gj es i o a b m h) (.err 43)) (isSome mx)) (.err 43)) (.err 43)) (Nat.beq es es'))
 (fZ mx 0 r (fun m => fZ hi 0 r (fun b => fZ lo 0 r (fun a => Bool.rec (.err 47) (.ok .al h) (Nat.beq (Nat.add m (Nat.add a b)) 0)) (.err 43)) (.err 43)) (.err 43))
 (.err 48)
def jo (x : AO) (lo hi : OA) (r : A2) (h : Hp) : RV := AV.iY (ev x r) (fun s => fZ hi s.length r (fun b => fZ lo 0 r (fun a =>
 Bool.rec (.err 49) (Bool.rec (.err 49) (.ok (.str (List.take (Nat.sub b a) (List.drop a s))) h) (Nat.ble b s.length)) (Nat.ble a b)) (.err 49)) (.err 49)) (.err 49)
def qi (len es : Nat) (x : AO) (lo hi mx : OA) (r : A2) (h : Hp) : RV := AV.fu (ev x r) (fun i o => fZ mx len r (fun m => fZ hi len r (fun b => fZ lo 0 r (fun a => Gi es i o a b m len h) (.err 43)) (.err 43)) (.err 43)) (.err 50)
def sR (d : Nat) (x : AO) (r : A2) (h : Hp) : RV := AV.fu (ev x r) (fun i o => .ok (.ptr i (Nat.add o d)) h) (.err 51)
def qk (d : Nat) (x : AO) (r : A2) (h : Hp) : RV := AV.nu (ev x r) (fun l => List.rec (.err 52) (fun v _ _ => .ok v h) (List.drop d l)) (.err 52)
def qm (d n : Nat) (x : AO) (r : A2) (h : Hp) : RV := AV.nu (ev x r) (fun l => Bool.rec (.err 53) (.ok (.agg (List.take n (List.drop d l))) h) (Nat.ble (Nat.add d n) l.length)) (.err 53)
def Bg (es : Nat) (i : P4) (o n k : Nat) (h : Hp) : RV := Bool.rec (.err 54) (.ok (.ptr i (Nat.add o (Nat.mul k es))) h) (FK k n)
def sS (es : Nat) (x y : AO) (r : A2) (h : Hp) : RV := eQ (ev y r) (fun k => AV.lq (ev x r)
 (fun i o n _ => Bg es i o n k h) (fun i o n _ => Bg es i o n k h) (.err 54) (.err 55)) (.err 55)
def vC (len es : Nat) (x y : AO) (r : A2) (h : Hp) : RV := eQ (ev y r) (fun k => AV.fu (ev x r) (fun i o => Bg es i o len k h) (.err 56)) (.err 56)
def lu (x y : AO) (r : A2) (h : Hp) : RV := eQ (ev y r) (fun k => AV.iY (ev x r) (fun s => List.rec (.err 57) (fun b _ _ => .ok (.int .u8 (.ofNat b)) h) (List.drop k s)) (.err 57)) (.err 57)
def qn (len es : Nat) (agg : Bool) (x y : AO) (r : A2) (h : Hp) : RV := eQ (ev y r) (fun k => AV.nu (ev x r) (fun l => Bool.rec (.err 58) (Bool.rec (List.rec (.err 58) (fun v _ _ => .ok v h) (List.drop (Nat.mul k es) l)) (Bool.rec (.err 58) (.ok (.agg (List.take es (List.drop (Nat.mul k es) l))) h) (Nat.ble (Nat.add (Nat.mul k es) es) l.length)) agg) (FK k len)) (.err 58)) (.err 58)
def vD (i : Nat) (x : AO) (r : A2) (h : Hp) : RV := AV.CD (ev x r) (fun l => List.rec (.err 59) (fun v _ _ => .ok v h) (List.drop i l)) (.err 59)
inductive KT where
 | one (k : KK)
 | agg (ks : List KK)
def DY (t : KT) (a b : AV) (h : Hp) : EB := KT.rec (fun k => Kw k h a b) (fun ks => OL.rec .bad (fun l => OL.rec .bad (fun m => yp ks h l m) b.asAgg) a.asAgg) t
def yw (kt : KT) (x : AV) (l : List KV) (h : Hp) (k : Nat → AV → Nat → RV) (n e : RV) : RV := dT (β := Nat → RV) (fun _ => n)
 (fun y _ ih i => KV.rec (fun a v born => EB.rec (k i v born) (ih (Nat.succ i)) e (DY kt x a h)) y) l 0
def wQ (i : Nat) (key v : AV) (l : List KV) : List KV := dT (β := Nat → List KV) (fun _ => .nil)
 (fun y t ih i => Nat.rec (KV.rec (fun _ _ born => .cons (.mk key v born) t) y) (fun i _ => .cons y (ih i)) i) l i
def Ov (i : Nat) (l : List KV) : List KV := dT (β := Nat → List KV) (fun _ => .nil) (fun y t ih i => Nat.rec t (fun i _ => .cons y (ih i)) i) l i
def snoc (l : List KV) (y : KV) : List KV := dT (.cons y .nil) (fun x _ ih => .cons x ih) l
def CJ (ok found : Bool) (v : AV) (h : Hp) : RV := .ok (Bool.rec v (.gh (.cons v (.cons (.bool found) .nil))) ok) h
def sU (t : KT) (x : AV) (h : Hp) : Bool := EB.rec true true false (DY t x x h)
def uZ (t : KT) (z : AV) (ok : Bool) (x k : AV) (h : Hp) : RV := Bool.rec (.err 60) (AV.eP x (fun i => Obj.eP (ah i h) (fun l _ => yw t k l h (fun _ v _ => CJ ok true v h) (CJ ok false z h) (.err 61)) (.err 62)) (CJ ok false z h) (.err 63)) (sU t k h)
def CL (t : KT) (z : AV) (ok : Bool) (x y : AO) (r : A2) (h : Hp) : RV := uZ t z ok (ev x r) (ev y r) h
def yj (t : KT) (x k v : AV) (h : Hp) : RV := Bool.rec (.err 64) (AV.eP x (fun i => Obj.eP (ah i h) (fun l c => yw t k l h
   (fun j _ _ => .ok .undef (cB i (.map (wQ j k v l) c) h)) (.ok .undef (cB i (.map (snoc l (.mk k v c)) (Nat.succ c)) h)) (.err 65)) (.err 66))
  (.err 67) (.err 68)) (sU t k h)
def CM (t : KT) (x y z : AO) (r : A2) (h : Hp) : RV := yj t (ev x r) (ev y r) (ev z r) h
def yx (t : KT) (z x k : AV) (h : Hp) : RV := Bool.rec (.err 220) (AV.eP x (fun i => Obj.eP (ah i h) (fun l c => yw t k l h
   (fun j v b => .ok (.gh (.cons v (.cons (.int .i64 (.ofNat b)) .nil))) (cB i (.map (wQ j k v l) c) h)) (.ok (.gh (.cons z (.cons (.int .i64 (.ofNat c)) .nil))) (cB i (.map (snoc l (.mk k z c)) (Nat.succ c)) h)) (.err 221)) (.err 222))
  (.err 223) (.err 224)) (sU t k h)
def wR (t : KT) (z : AV) (x y : AO) (r : A2) (h : Hp) : RV := yx t z (ev x r) (ev y r) h
def QT (b : Nat) (l : List KV) (k : Nat → AV → RV) (e : RV) : RV := dT (β := Nat → RV) (fun _ => e) (fun y _ ih i => KV.rec (fun a _ c => Bool.rec (ih (Nat.succ i)) (k i a) (Nat.beq b c)) y) l 0
def yy (x s v : AV) (h : Hp) : RV := AV.eP x (fun i => Obj.eP (ah i h) (fun l c => eQ s (fun b => QT b l (fun j a => .ok .undef (cB i (.map (wQ j a v l) c) h)) (.err 225)) (.err 226)) (.err 227)) (.err 228) (.err 229)
def wT (x y z : AO) (r : A2) (h : Hp) : RV := yy (ev x r) (ev y r) (ev z r) h
def aH : AV := .gh .nil
def del (t : KT) (x k : AV) (h : Hp) : RV := Bool.rec (.err 69) (AV.eP x (fun i => Obj.eP (ah i h) (fun l c => yw t k l h
   (fun j _ _ => .ok aH (cB i (.map (Ov j l) c) h)) (.ok aH h) (.err 70)) (.err 71))
  (.ok aH h) (.err 72)) (sU t k h)
def CN (t : KT) (x y : AO) (r : A2) (h : Hp) : RV := del t (ev x r) (ev y r) h
def eT (n : Nat) : AV := .int .i64 (.ofNat n)
def nV (x : AO) (r : A2) (h : Hp) : RV := AV.eP (ev x r) (fun i => Obj.eP (ah i h) (fun l _ => .ok (eT l.length) h) (.err 73)) (.ok (eT 0) h) (.err 73)
def len (x : AV) (h : Hp) : RV := AV.lq x (fun _ _ n _ => .ok (eT n) h) (fun _ _ n _ => .ok (eT n) h) (.ok (eT 0) h) (.err 74)
def lx (x : AV) (h : Hp) : RV := AV.iY x (fun s => .ok (eT s.length) h) (.err 74)
def CP (x : AO) (r : A2) (h : Hp) : RV := len (ev x r) h
def wV (x : AO) (r : A2) (h : Hp) : RV := lx (ev x r) h
def vE (x : AO) (r : A2) (h : Hp) : RV := AV.lq (ev x r) (fun _ _ _ c => .ok (eT c) h) (fun _ _ _ _ => .err 75) (.ok (eT 0) h) (.err 75)
def Bh (mn : Bool) (a b : Int) : Int := Bool.rec (Bool.rec a b (FP a b)) (Bool.rec a b (FP b a)) mn
def yz (mn : Bool) (k : IntKind) (h : Hp) (l : List AV) : Int → RV := dT (β := Int → RV) (fun a => .ok (.int k a) h) (fun y _ ih a => AV.dN y (fun k' b => Bool.rec (.err 76) (ih (Bh mn a b)) (ll k k')) (.err 76)) l
def fW (mn : Bool) (l : List AV) (h : Hp) : RV := List.rec (.err 76) (fun x xs _ => AV.dN x (fun k a => yz mn k h xs a) (.err 76)) l
def yA (mn : Bool) (xs : List AO) (r : A2) (h : Hp) : RV := fW mn (fY xs r) h
def jY (i : P4) (o : Nat) (l : List AV) (h : Hp) (k : Hp → RV) : RV := Obj.aN (ah i h) (fun el n ex fl c => Bool.rec (.err 78) (Bool.rec (.err 79) (k (cB i (.cells el n ex fl (bU l o c)) h)) (Nat.ble (Nat.add o l.length) n)) (wr fl)) (.err 80)
def jq (el es n m : Nat) (old new : List AV) (h : Hp) : RV := oQ el .plain es (Nat.add n m) (List.append old new) h
def ly (i : P4) (el k : Nat) (fl : Fl) (c : Cl) (n es : Nat) (h : Hp) : RV := fB el false fl k c (cB i .dead h) (fun j h => .ok (.cA j 0 n es) h)
def CQ (elt es m : Nat) (new : List AV) (i : P4) (o n : Nat) (h : Hp) : RV := Obj.aN (ah i h) (fun el k ex fl c => Bool.rec (.err 82) (Bool.rec (Bool.rec (.err 83) (Bool.rec (Bool.rec (ly i el (Nat.mul (Nat.add n m) es) fl (mE (List.append (bH (Nat.mul n es) c o) new)) (Nat.add n m) es h) (ly i el (Nat.mul (Nat.add n m) es) fl (bU new k (jV (Nat.mul (Nat.add n m) es) c)) (Nat.add n m) es h) (Bool.and (Nat.beq o 0) (Nat.beq (Nat.mul n es) k))) (.err 81) (Bool.or ex (Bool.not (Nat.beq elt el)))) (Nat.ble (Nat.add o (Nat.mul n es)) k)) (.ok (.cA i o (Nat.add n m) es) (cB i (.cells el k ex fl (bU new (Nat.add o (Nat.mul n es)) c)) h)) (Nat.ble (Nat.add o (Nat.mul (Nat.add n m) es)) k)) (wr fl)) (.err 84)
def jC (el es m : Nat) (new : List AV) (s : AV) (h : Hp) : RV := AV.lq s
 (fun i o n cap => Bool.rec (fG es i o n h (fun old => jq el es n m old new h) (.err 77)) (Nat.rec (.ok (.slice i o n cap) h) (fun m _ => jY i (Nat.add o (Nat.mul n es)) new h (fun h => .ok (.slice i o (Nat.add n (Nat.succ m)) cap) h)) m) (Nat.ble (Nat.add n m) cap))
 (fun i o n es' => Bool.rec (.err 81) (Nat.rec (.ok (.cA i o n es) h) (fun m _ => CQ el es (Nat.succ m) new i o n h) m) (Nat.beq es es'))
 (Nat.rec (.ok .al h) (fun m _ => jq el es 0 (Nat.succ m) .nil new h) m) (.err 85)
def oS (x : AV) (k : Nat → RV) (e : RV) : RV := AV.lq x (fun _ _ n _ => k n) (fun _ _ n _ => k n) (k 0) e
def eJ (el es : Nat) (x y : AV) (h : Hp) : RV := oS y (fun m => Bool.rec (.err 86) (elems es y h (fun new => jC el es m new x h) (.err 87)) (Nat.ble (Nat.mul m es) 4294967296)) (.err 88)
def vF (el es : Nat) (x y : AO) (r : A2) (h : Hp) : RV := eJ el es (ev x r) (ev y r) h
def qo (el es : Nat) (z : List AV) (x y : AO) (r : A2) (h : Hp) : RV := eQ (ev y r) (fun n => Bool.rec (.err 230) (jC el es n (fk n z) (ev x r) h) (Nat.ble (Nat.mul n es) 1048576)) (.err 231)
def nX (el : Nat) (x y : AO) (r : A2) (h : Hp) : RV := AV.iY (ev y r) (fun s => jC el 1 s.length (byteCells s) (ev x r) h) (.err 89)
def yB (l : List AV) (s : AV) (h : Hp) (k : Hp → RV) : RV := List.rec (k h) (fun a t _ => AV.lq s
 (fun i o _ _ => jY i o (.cons a t) h k) (fun i o _ _ => jY i o (.cons a t) h k) (.err 93) (.err 93)) l
def QU (es : Nat) (x y : AV) (h : Hp) : RV := oS x (fun n => OS.rec (oS y (fun m => elems es y h (fun l => yB (List.take (Nat.mul n es) l) x h (fun h => .ok (eT (Nat.min m n)) h)) (.err 94)) (.err 94)) (fun s => Bool.rec (.err 94) (yB (byteCells (List.take n s)) x h (fun h => .ok (eT (Nat.min s.length n)) h)) (Nat.beq es 1)) y.CC) (.err 94)
def vG (es : Nat) (x y : AO) (r : A2) (h : Hp) : RV := QU es (ev x r) (ev y r) h
def QV (z : List AV) (x : AV) (h : Hp) : RV := oS x (fun n => yB (fk n z) x h (fun h => .ok aH h)) (.err 95)
def nB (z : List AV) (x : AO) (r : A2) (h : Hp) : RV := QV z (ev x r) h
def wW (x : AO) (r : A2) (h : Hp) : RV := AV.iY (ev x r) (fun s => iw (.Cy s 0) h nU) (.err 96)
def jZ (x : AO) (r : A2) (h : Hp) : RV := AV.eP (ev x r) (fun m => Obj.eP (ah m h) (fun _ c => iw (.vx m c .nil c) h nU) (.err 97)) (iw .Cz h nU) (.err 97)
def QW (d : Nat × Nat) (k : Nat → Nat → RV) : RV := k d.1 d.2
def QX (s : List Nat) (k : Nat → Nat → RV) (e : RV) : RV := List.rec e (fun b t _ => Bool.rec (QW (Utf8.decode ⟨((b :: t).map UInt8.ofNat).toArray⟩ 0) k) (k b 1) (Nat.ble b 127)) s
def KU (x : Nat) (l : List Nat) : Bool := dT false (fun y _ ih => Bool.rec ih true (Nat.beq x y)) l
def js (seen : List Nat) (l : List KV) : List KV := dT .nil (fun y _ ih => KV.rec (fun _ _ b => Bool.rec (.cons y ih) ih (KU b seen)) y) l
def qp (since : Nat) (l : List KV) : Bool := dT false (fun y _ ih => KV.rec (fun _ _ b => Bool.rec ih true (Nat.ble since b)) y) l
def over (h : Hp) : RV := .ok (.gh (.cons (.bool false) .nil)) h
def qq (last : Nat) (l : List KV) : Bool := dT true (fun y _ ih => KV.rec (fun _ _ b => Bool.rec false ih (Nat.ble last b)) y) l
def Uk (i : P4) (s : List Nat) (pos : Nat) (h : Hp) : RV := List.rec (over h) (fun b t _ => QX (.cons b t) (fun c n => .ok (.gh (.cons (.bool true) (.cons (eT pos) (.cons (.int .i32 (.ofNat c)) .nil)))) (cB i (.Cy s (Nat.add pos n)) h)) (.err 99)) (List.drop pos s)
def RV.iU (v : RV) : RT := RV.rec (fun v h => .ok v h) (fun n => .err n) v
def nth {α β : Type} (l : List α) (k : α → β) (e : β) : Nat → β := dT (β := Nat → β) (fun _ => e) (fun a _ ih i => Nat.rec (k a) (fun i _ => ih i) i) l
def nE {α : Type} (l : List α) : Bool := List.rec true (fun _ _ _ => false) l
def vH (i m : P4) (since : Nat) (seen : List Nat) (clock : Nat) (h : Hp) (y : KV) : RT := KV.rec (fun k v b => .ok (.gh (.cons (.bool true) (.cons k (.cons v .nil)))) (cB i (.vx m since (List.append seen (.cons b .nil)) clock) h)) y
def QA (f : KV → RT) (h : Hp) (u : List KV) : RT := List.rec (over h).iU (fun y t _ => List.rec (f y) (fun _ _ _ => .ch (List.length u) (nth u f (.err 102))) t) u
def QB (i m : P4) (since : Nat) (seen : List Nat) (last : Nat) (h : Hp) : RT := SL.rec (.err 98) (fun l clock => Bool.rec (Bool.rec (QA (vH i m since seen clock h) h (js seen l)) (.err 100) (Bool.and (Bool.not (nE seen)) (Bool.and (Bool.not (nE l)) (qq last l)))) (.err 103) (qp since l)) (ah m h).yo
def QY (x : AV) (h : Hp) : RT := OP.rec (.err 98) (fun i o => Nat.rec (Obj.rec (.err 98) (.err 98) (fun _ _ _ _ _ => .err 98) (fun _ _ => .err 98) (fun s pos => (Uk i s pos h).iU) (fun _ _ _ _ => .err 98) (.err 98) (ah i h)) (fun _ _ => .err 98) o) x.hM
def Gk (x : AV) (h : Hp) : RT := OP.rec (.err 98) (fun i o => Nat.rec (Obj.rec (.err 98) (.err 98) (fun _ _ _ _ _ => .err 98) (fun _ _ => .err 98) (fun _ _ => .err 98) (fun m since seen last => QB i m since seen last h) (over h).iU (ah i h)) (fun _ _ => .err 98) o) x.hM
def iZ (s : Bool) (x : AV) (h : Hp) : RT := Bool.rec (Gk x h) (QY x h) s
def Gm (b : Nat) (l : List KV) (k : AV → AV → RV) (e : RV) : RV := dT e (fun y _ ih => KV.rec (fun a v c => Bool.rec ih (k a v) (Nat.beq b c)) y) l
def Gn (l : List Nat) (k : Nat → RV) (e : RV) : RV := dT e (fun x t ih => List.rec (k x) (fun _ _ _ => ih) t) l
def Ow (m : P4) (seen : List Nat) (stepped : Nat) (h : Hp) : RV := Gn seen (fun b => Obj.eP (ah m h) (fun l clock => Bool.rec (.err 105) (Gm b l (fun k v => .ok (.gh (.cons k (.cons v .nil))) h) (.err 106)) (Nat.beq clock stepped)) (.err 104)) (.err 107)
def oU (x : AO) (r : A2) (h : Hp) : RV := AV.fu (ev x r) (fun i o => Nat.rec (Obj.rec (.err 104) (.err 104) (fun _ _ _ _ _ => .err 104) (fun _ _ => .err 104) (fun _ _ => .err 104) (fun m _ seen stepped => Ow m seen stepped h) (.err 104) (ah i h)) (fun _ _ => .err 104) o) (.err 104)
def Nm (t : Nat) (z : AV) (ok : Bool) (x : AV) (h : Hp) : RV := AV.Bd x
 (fun u v => Bool.rec (Bool.rec (.err 109) (CJ true false z h) ok) (CJ ok true v h) (Nat.beq t u))
 (Bool.rec (.err 109) (CJ true false z h) ok) (.err 108)
def CR (t : Nat) (z : AV) (ok : Bool) (x : AO) (r : A2) (h : Hp) : RV := Nm t z ok (ev x r) h
def qt (k : FloatKind) (x y : AO) (r : A2) (h : Hp) : RV := AV.rj (ev x r) (fun k1 a => AV.rj (ev y r) (fun k2 b => Bool.rec (.err 110) (.ok (.iu k a b) h) (Bool.and (wM k k1) (wM k k2))) (.err 110)) (.err 110)
def nY (im : Bool) (x : AO) (r : A2) (h : Hp) : RV := AV.sJ (ev x r) (fun k a b => .ok (.qd k (Bool.rec a b im)) h) (.err 111)
def nZ (x : AO) (r : A2) (h : Hp) : RV := AV.lq (ev x r) (fun i o _ c => Nat.rec (.err 112) (fun _ _ => .ok (.ptr i o) h) c) (fun i o n _ => Nat.rec (.err 112) (fun _ _ => .ok (.ptr i o) h) n) (.ok .da h) (.err 112)
def qu (el : Nat) (x y : AO) (r : A2) (h : Hp) : RV := eQ (ev y r) (fun n => Nat.rec (OP.rec (Bool.rec (.err 113) (.ok (.str .nil) h) (fF (ev x r))) (fun _ _ => .ok (.str .nil) h) (ev x r).hM) (fun n _ => AV.fu (ev x r) (fun i o => Obj.aN (ah i h) (fun el' m ex fl c => Bool.rec (Bool.rec (.err 114) (dG (bH (Nat.succ n) c o) (fun s => .ok (.str s) (cB i (.cells el' m ex .Ba c) h)) (.err 115)) (Bool.and (Nat.ble n 1048576) (Bool.and (Nat.beq el el') (Nat.ble (Nat.add o (Nat.succ n)) m)))) (.err 119) (Ga fl)) (.err 116)) (.err 117)) n) (.err 118)
inductive la where
 | mv (x : AO)
 | pick (c a b : AO)
 | alloc (el n : Nat) (c : Cl)
 | box (el : Nat) (x : AO)
 | build (z : List AV) (ps : List Part)
 | dU (el es n : Nat) (z : List AV) (ps : List Part)
 | eU (x : AO)
 | ja (m : Nat) (x : AO)
 | QC (x y : AO)
 | CS (m : Nat) (x y : AO)
 | dk (x : AO)
 | bin (op : BK) (x y : AO)
 | un (op : UK) (x : AO)
 | conv (op : CK) (x : AO)
 | QZ (t : Nat) (x : AO)
 | Ra (f : Nat) (xs : List AO)
 | nF
 | mF (el : Nat) (z : List AV) (l c : AO)
 | FL (es : Nat) (x : AO) (lo hi mx : OA)
 | Gp (x : AO) (lo hi : OA)
 | KW (len es : Nat) (x : AO) (lo hi mx : OA)
 | ig (d : Nat) (x : AO)
 | KX (d : Nat) (x : AO)
 | KY (d n : Nat) (x : AO)
 | AQ (es : Nat) (x y : AO)
 | FM (len es : Nat) (x y : AO)
 | idxs (x y : AO)
 | KZ (len es : Nat) (agg : Bool) (x y : AO)
 | ext (i : Nat) (x : AO)
 | uZ (t : KT) (z : AV) (ok : Bool) (x y : AO)
 | yj (t : KT) (x y z : AO)
 | del (t : KT) (x y : AO)
 | DZ (x : AO)
 | len (x : AO)
 | lx (x : AO)
 | cap (x : AO)
 | max (mn : Bool) (xs : List AO)
 | app (el es : Nat) (x y : AO)
 | apps (el : Nat) (x y : AO)
 | Rb (es : Nat) (x y : AO)
 | Rc (z : List AV) (x : AO)
 | La (x : AO)
 | Ea (x : AO)
 | QD (x : AO)
 | Nm (t : Nat) (z : AV) (ok : Bool) (x : AO)
 | iu (k : FloatKind) (x y : AO)
 | real (im : Bool) (x : AO)
 | Lc (x : AO)
 | Gq (el : Nat) (x y : AO)
 | yx (t : KT) (z : AV) (x y : AO)
 | yy (x y z : AO)
 | Gr (el es : Nat) (z : List AV) (x y : AO)
 | bad (n : Nat)
def la.run (op : la) : A2 → Hp → RV := la.rec (motive := fun _ => A2 → Hp → RV) KQ gZ CF yr jX gH jB rp sP yt qh Nj KP sQ yu yv rU ic cY jo qi sR qk qm sS vC lu qn vD CL CM CN nV CP wV vE yA vF nX vG nB wW jZ oU CR qt nY nZ qu wR wT qo (fun n _ _ => .err n) op
inductive AI where
 | op (o : la)
 | yk (s : Bool) (x : AO)
 | call (f : Nat) (xs : List AO)
 | lz (x : AO) (xs : List AO)
 | inv (name : Nat) (x : AO) (xs : List AO)
inductive aQ where
 | no
 | t (a b : H)
inductive GI where
 | o (d : aQ) (i : AI)
 | g (a b : H) (w : Bool) (d : aQ) (i : AI)
inductive Bk where
 | dL
 | rd (n : Nat)
 | new
inductive DI where
 | mk (b : Bk) (g : GI)
abbrev Cf := Nat → List AV → Hp → RT
abbrev Iv := Nat → AV → List AV → Hp → RT
inductive AC where
 | skip
 | ops (l : List GI)
 | eH (l : List DI)
 | seq (a b : AC)
 | cond (c : AO) (a b : AC)
 | block (i : Nat) (a : AC)
 | loop (a : AC)
 | scope (a : AC)
 | sat (a c : AC)
 | exit (i : Nat)
 | goto (l : Nat)
 | label (l : Nat)
 | ret
 | join (a : AC)
 | bad (n : Nat)
 | ag (f : Cf → Iv → (A2 → Hp → RS) → A2 → Hp → RS) (x : AC)
 | alt (a b : AC)
 | Ox (q : Nat) (l : List GI)
inductive Rs where
 | t (a b : H)
 | one (a b : H)
 | agg (n : Nat) (a b : H)
inductive SW where
 | mk (i : P4) (r : Nat)
inductive PK where
 | Rf
 | put (el : Nat)
 | get
 | Uv (l : List SW)
 | TL
 | Ul (el : Nat)
 | TM
 | Oy (f : Nat) (l0 l1 k0 kn k2 k3 ra rb l4 : List GI)
 | ins (el es : Nat)
 | fn (g : List AV → Hp → RT)
def od (c : Nat) : Nat := Nat.xor (Nat.shiftRight c 1) (Nat.mul (Nat.land c 1) 3988292384)
def Bi (c : Nat) : Nat := od (od (od (od (od (od (od (od c)))))))
def Gs (s : List Nat) : Nat → Nat := dT (β := Nat → Nat) (fun c => c) (fun b _ ih c => ih (Bi (Nat.xor c b))) s
def sV (s : List Nat) : Nat := Nat.xor 4294967295 (Gs s 4294967295)
def vI (x : AV) (h : Hp) : RV := oS x (fun n => Bool.rec (.err 141) (elems 1 x h (fun l => dG l (fun s => .ok (.int .u32 (.ofNat (sV s))) h) (.err 140)) (.err 141)) (Nat.ble n 4611686018427387904)) (.err 141)
def rq (v : RV) (k : AV → Hp → RV) : RV := RV.rec k (fun n => .err n) v
def SP (el : Nat) (p : AV) (b : Nat) (h : Hp) : RV := rq (jB (.c p) .nil h) (fun s h => rq (jC el 1 1 (.cons (.int .u8 (.ofNat b)) .nil) s h) (fun v h => sP (.c p) (.c v) .nil h))
def SQ (el : Nat) (p : AV) (m : Nat) : Nat → Hp → RV := Nat.rec (fun _ h => .ok aH h) (fun _ ih n h => rq (SP el p (Nat.mod n 256) h) (fun _ h => ih (Nat.div n 256) h)) m
def Rg (el : Nat) (p n m : AV) (h : Hp) : RV := AV.fu p (fun i o => eQ n (fun n => eQ m (fun m => SQ el (.ptr i o) m n h) (.err 142)) (.err 142)) (.err 142)
def Um (s : List Nat) : Nat := dT 0 (fun b _ ih => Nat.add (Nat.mul 256 ih) b) s
def Oz (i : P4) (o m a : Nat) (s : AV) (h : Hp) : RV := rq (cY 1 (.c s) (.some (.c (.int .i64 (.ofNat a)))) (.some (.c (.int .i64 (.ofNat (Nat.add a m))))) .none .nil h) (fun x _ =>
 elems 1 x h (fun l => dG l (fun b => rq (sP (.c (.ptr i (Nat.add o 1))) (.c (.int .i64 (.ofNat (Nat.add a m)))) .nil h) (fun _ h => .ok (.int .u64 (.ofNat (Um b))) h)) (.err 143)) (.err 144))
def OD (i : P4) (o m : Nat) (h : Hp) : RV := rq (jB (.c (.ptr i (Nat.add o 2))) .nil h) (fun w _ => AV.dN w (fun _ n => Bool.rec (.err 145) (rq (jB (.c (.ptr i (Nat.add o 1))) .nil h) (fun a _ => eQ a (fun a => rq (jB (.c (.ptr i o)) .nil h) (fun s _ => oS s (fun n => Bool.rec (.err 146) (Oz i o m a s h) (Nat.ble (Nat.add a m) n)) (.err 147))) (.err 148))) (sI n (.ofNat 0))) (.err 145))
def Rh (p m : AV) (h : Hp) : RV := AV.fu p (fun i o => eQ m (fun m => Bool.rec (.err 149) (OD i o m h) (Nat.ble m 8)) (.err 149)) (.err 149)
def bN (d : aQ) : AV → A2 → A2 := aQ.rec (motive := fun _ => AV → A2 → A2) (fun _ r => r) jn d
def aR (l : List AV) : Nat → A2 → A2 := dT (fun _ r => r) (fun v _ ih i r => ih (Nat.succ i) (jn (dC (Nat.div i 16)) (dC (Nat.mod i 16)) v r)) l
def fC (k : A2 → Hp → RT) (l : List GI) : A2 → Hp → RT := dT (β := A2 → Hp → RT) k (fun i _ ih r h => GI.rec (fun d i => AI.rec (fun op => RV.rec (fun v h => ih (bN d v r) h) (fun n => .err n) (op.run r h)) (fun s x => RT.elim (fun v h => ih (bN d v r) h) (fun n => .err n) (fun n f => .ch n f) (iZ s (ev x r) h)) (fun _ _ => .err 161) (fun _ _ => .err 161) (fun _ _ _ => .err 161) i) (fun _ _ _ _ _ => .err 161) i) l
def rV (x : AV) (k : Bool → RT) (e : RT) : RT := OB.rec e k x.asBool
def Gt (x : AV) (k : Nat → List AV → RT) (e : RT) : RT := SC.rec e k x.Ok
def vJ (l4 : List GI) (r : A2) (h : Hp) : RT := fC (fun r h => .ok (aq .h0 .h4 r) h) l4 r h
def CT (k : A2 → Hp → RT) (kn k2 k3 ra rb : List GI) (r q : A2) (h : Hp) : RT := fC (fun q h => fC (fun q h => fC (fun r2 h => fC (fun _ h => fC k kn (jn .h0 .hd .undef (jn .h0 .hc .undef q)) h) rb r2 h) ra (jn .h0 .h7 (aq .h0 .hb q) r) h) k3 (jn .h0 .ha .undef q) h) k2 q h
def Bj (kn k2 k3 ra rb l4 : List GI) (r : A2) : Nat → A2 → Hp → RT := wL (β := A2 → Hp → RT) (fun _ _ => .err 155)
 (fun _ ih q h => rV (aq .h0 .h7 q) (fun t => Bool.rec (vJ l4 r h) (CT ih kn k2 k3 ra rb r q h) t) (.err 156))
def Bl (k0 kn k2 k3 ra rb l4 : List GI) (r : A2) (c : AV) (h : Hp) : RT := fC (fun q h => fC (Bj kn k2 k3 ra rb l4 r 12) kn q h) k0 (aR (.cons .undef (.cons c .nil)) 0 .nil) h
def Nn (f : Nat) (k0 kn k2 k3 ra rb l4 : List GI) (r : A2) (h : Hp) : RT := Gt (aq .h0 .h6 r) (fun g cs => Bool.rec (.err 153) (List.rec (.err 153) (fun c t _ => List.rec (Bl k0 kn k2 k3 ra rb l4 r c h) (fun _ _ _ => .err 153) t) cs) (Nat.beq f g)) (.err 153)
def wX (f : Nat) (l0 l1 k0 kn k2 k3 ra rb l4 : List GI) (s x : AV) (h : Hp) : RT := fC (fun r h => fC (Nn f k0 kn k2 k3 ra rb l4) l1 r h) l0 (aR (.cons s (.cons x .nil)) 0 .nil) h
def yC (l : List AV) (k : AV → RV) : RV := List.rec (.err 154) (fun a t _ => List.rec (k a) (fun _ _ _ => .err 154) t) l
def Np (l : List AV) (k : AV → AV → RV) : RV := List.rec (.err 154) (fun a t _ => yC t (fun b => k a b)) l
def Gu (l : List AV) (k : AV → AV → AV → RV) : RV := List.rec (.err 154) (fun a t _ => Np t (fun b c => k a b c)) l
def OE (l : List AV) (k : AV → AV → RT) : RT := List.rec (.err 154) (fun a t _ => List.rec (.err 154) (fun b t _ => List.rec (k a b) (fun _ _ _ => .err 154) t) t) l
def OG (l : List SW) (i : P4) : RV → (Nat → RV) → RV := dT (β := RV → (Nat → RV) → RV) (fun e _ => e) (fun y _ ih e k => SW.rec (fun j r => Bool.rec (ih e k) (k r) (oP i j)) y) l
def Ri (l : List SW) (x lo hi : AV) (h : Hp) : RV := AV.rec (motive_2 := fun _ => PUnit) (.err 170) (fun _ => .err 170) (fun _ _ => .err 170) (fun _ => .err 170) (fun _ _ => .err 170) (fun _ _ _ => .err 170) (fun _ _ => .err 170) (.err 170) (fun _ _ _ _ => .err 170) (fun _ _ _ _ => .err 170) (.err 170) (fun _ => .err 170) (.err 170) (fun _ _ _ => .err 170) (.err 170) (fun _ _ _ => .err 170) (.err 170) (fun _ _ => .err 170) (fun _ _ => .err 170) (fun i => AV.dN lo (fun kl lo => AV.dN hi (fun kh hi => Bool.rec (.err 171) (Bool.rec (.err 171) (Bool.rec (.err 171) (Bool.rec (.err 171) (OG l i (.err 172) (fun r => .ok (.int .i64 (.ofNat r)) h)) (sI hi (.ofNat 4))) (sI lo (.ofNat 0))) (CH kh)) (CH kl)) (.err 171)) (.err 171)) PUnit.unit (fun _ _ _ _ => PUnit.unit) x
def OH (el : Nat) (x : AV) (h : Hp) : RV := AV.dN x (fun k n => Bool.rec (.err 195) (Int.rec (fun n => Bool.rec (.err 196) (oQ el .plain 1 n (fk n (.cons .undef .nil)) h) (Nat.ble n 65536)) (fun _ => .err 196) n) (CH k)) (.err 195)
def OJ (x : Nat) (h : Hp) : RV := match FloatKind.f64.decode x with
 | .nan _ _ => .err 180
 | d => .ok (.qd .f64 (FloatKind.f64.encode (d.integral .zero))) h
def Rj (k : FloatKind) : Bool := FloatKind.rec false true k
def Ld (x : AV) (h : Hp) : RV := AV.rj x (fun k n => Bool.rec (.err 181) (OJ n h) (Rj k)) (.err 181)
def Le (f : Fl) : Bool := Fl.rec true false false false f
def OK (el es : Nat) (i : P4) (n q m : Nat) (new : List AV) (h : Hp) : RV := Obj.aN (ah i h) (fun el' k ex fl c => Bool.rec (.err 247) (Bool.rec (.err 247) (Bool.rec (.err 247) (Bool.rec (.err 247) (ly i el (Nat.mul (Nat.add n m) es) fl (mE (List.append (List.take (Nat.mul q es) (bH (Nat.mul n es) c 0)) (List.append new (List.drop (Nat.mul q es) (bH (Nat.mul n es) c 0))))) (Nat.add n m) es h) (Nat.beq (Nat.mul n es) k)) (Nat.beq el el')) (Bool.not ex)) (wr fl)) (.err 248)
def OO (el es : Nat) (i : P4) (o n es' q : Nat) (j : P4) (o2 m : Nat) (h : Hp) : RV := Bool.rec (.err 241) (Bool.rec (.err 241) (Bool.rec (.err 242) (Bool.rec (.err 242) (Bool.rec (.err 243) (Obj.aN (ah j h) (fun _ k2 _ fl2 c2 => Bool.rec (.err 244) (Bool.rec (.err 245) (OK el es i n q m (bH (Nat.mul m es) c2 o2) h) (Nat.ble (Nat.add o2 (Nat.mul m es)) k2)) (Le fl2)) (.err 246)) (Bool.not (oP i j))) (Nat.ble 1 m)) (Nat.ble (Nat.succ q) n)) (Nat.beq o 0)) (Nat.beq es es')
def Rk (el es : Nat) (s x y : AV) (h : Hp) : RV := AV.lq s (fun _ _ _ _ => .err 240) (fun i o n es' => AV.dN x (fun kd z => Bool.rec (.err 249) (Int.rec (fun q => AV.lq y (fun j o2 m _ => OO el es i o n es' q j o2 m h) (fun _ _ _ _ => .err 240) (.err 240) (.err 240)) (fun _ => .err 249) z) (CH kd)) (.err 249)) (.err 240) (.err 240)
def du (k : PK) (args : List AV) (h : Hp) : RT := PK.rec (yC args (fun x => vI x h)).iU (fun el => (Gu args (fun p n m => Rg el p n m h)).iU) (Np args (fun p m => Rh p m h)).iU (fun l => (Gu args (fun x lo hi => Ri l x lo hi h)).iU) (yC args (fun x => .ok x h)).iU (fun el => (yC args (fun x => OH el x h)).iU) (yC args (fun x => Ld x h)).iU (fun f l0 l1 k0 kn k2 k3 ra rb l4 => OE args (fun s x => wX f l0 l1 k0 kn k2 k3 ra rb l4 s x h)) (fun el es => (Gu args (fun s x y => Rk el es s x y h)).iU) (fun g => g args h) k
inductive AF where
 | none
 | mk (body : AC) (res : List Rs)
 | oV (k : PK) (body : AC) (res : List Rs)
 | Nq (body : AC) (res : List Rs)
 | ext (k : PK)
inductive F1 where
 | nil
 | mk (a0 a1 a2 a3 a4 a5 a6 a7 a8 a9 aa ab ac ad ae af : AF)
def F1.g0 (x : F1) : AF := F1.rec .none (fun a0 a1 a2 a3 a4 a5 a6 a7 a8 a9 aa ab ac ad ae af => a0) x
def F1.g1 (x : F1) : AF := F1.rec .none (fun a0 a1 a2 a3 a4 a5 a6 a7 a8 a9 aa ab ac ad ae af => a1) x
def F1.g2 (x : F1) : AF := F1.rec .none (fun a0 a1 a2 a3 a4 a5 a6 a7 a8 a9 aa ab ac ad ae af => a2) x
def F1.g3 (x : F1) : AF := F1.rec .none (fun a0 a1 a2 a3 a4 a5 a6 a7 a8 a9 aa ab ac ad ae af => a3) x
def F1.g4 (x : F1) : AF := F1.rec .none (fun a0 a1 a2 a3 a4 a5 a6 a7 a8 a9 aa ab ac ad ae af => a4) x
def F1.g5 (x : F1) : AF := F1.rec .none (fun a0 a1 a2 a3 a4 a5 a6 a7 a8 a9 aa ab ac ad ae af => a5) x
def F1.g6 (x : F1) : AF := F1.rec .none (fun a0 a1 a2 a3 a4 a5 a6 a7 a8 a9 aa ab ac ad ae af => a6) x
def F1.g7 (x : F1) : AF := F1.rec .none (fun a0 a1 a2 a3 a4 a5 a6 a7 a8 a9 aa ab ac ad ae af => a7) x
def F1.g8 (x : F1) : AF := F1.rec .none (fun a0 a1 a2 a3 a4 a5 a6 a7 a8 a9 aa ab ac ad ae af => a8) x
def F1.g9 (x : F1) : AF := F1.rec .none (fun a0 a1 a2 a3 a4 a5 a6 a7 a8 a9 aa ab ac ad ae af => a9) x
def F1.ga (x : F1) : AF := F1.rec .none (fun a0 a1 a2 a3 a4 a5 a6 a7 a8 a9 aa ab ac ad ae af => aa) x
def F1.gb (x : F1) : AF := F1.rec .none (fun a0 a1 a2 a3 a4 a5 a6 a7 a8 a9 aa ab ac ad ae af => ab) x
def F1.gc (x : F1) : AF := F1.rec .none (fun a0 a1 a2 a3 a4 a5 a6 a7 a8 a9 aa ab ac ad ae af => ac) x
def F1.gd (x : F1) : AF := F1.rec .none (fun a0 a1 a2 a3 a4 a5 a6 a7 a8 a9 aa ab ac ad ae af => ad) x
def F1.ge (x : F1) : AF := F1.rec .none (fun a0 a1 a2 a3 a4 a5 a6 a7 a8 a9 aa ab ac ad ae af => ae) x
def F1.gf (x : F1) : AF := F1.rec .none (fun a0 a1 a2 a3 a4 a5 a6 a7 a8 a9 aa ab ac ad ae af => af) x
def F1.get (d : H) : F1 → AF := H.rec (motive := fun _ => F1 → AF) F1.g0 F1.g1 F1.g2 F1.g3 F1.g4 F1.g5 F1.g6 F1.g7 F1.g8 F1.g9 F1.ga F1.gb F1.gc F1.gd F1.ge F1.gf d
inductive F2 where
 | nil
 | mk (a0 a1 a2 a3 a4 a5 a6 a7 a8 a9 aa ab ac ad ae af : F1)
def F2.g0 (x : F2) : F1 := F2.rec .nil (fun a0 a1 a2 a3 a4 a5 a6 a7 a8 a9 aa ab ac ad ae af => a0) x
def F2.g1 (x : F2) : F1 := F2.rec .nil (fun a0 a1 a2 a3 a4 a5 a6 a7 a8 a9 aa ab ac ad ae af => a1) x
def F2.g2 (x : F2) : F1 := F2.rec .nil (fun a0 a1 a2 a3 a4 a5 a6 a7 a8 a9 aa ab ac ad ae af => a2) x
def F2.g3 (x : F2) : F1 := F2.rec .nil (fun a0 a1 a2 a3 a4 a5 a6 a7 a8 a9 aa ab ac ad ae af => a3) x
def F2.g4 (x : F2) : F1 := F2.rec .nil (fun a0 a1 a2 a3 a4 a5 a6 a7 a8 a9 aa ab ac ad ae af => a4) x
def F2.g5 (x : F2) : F1 := F2.rec .nil (fun a0 a1 a2 a3 a4 a5 a6 a7 a8 a9 aa ab ac ad ae af => a5) x
def F2.g6 (x : F2) : F1 := F2.rec .nil (fun a0 a1 a2 a3 a4 a5 a6 a7 a8 a9 aa ab ac ad ae af => a6) x
def F2.g7 (x : F2) : F1 := F2.rec .nil (fun a0 a1 a2 a3 a4 a5 a6 a7 a8 a9 aa ab ac ad ae af => a7) x
def F2.g8 (x : F2) : F1 := F2.rec .nil (fun a0 a1 a2 a3 a4 a5 a6 a7 a8 a9 aa ab ac ad ae af => a8) x
def F2.g9 (x : F2) : F1 := F2.rec .nil (fun a0 a1 a2 a3 a4 a5 a6 a7 a8 a9 aa ab ac ad ae af => a9) x
def F2.ga (x : F2) : F1 := F2.rec .nil (fun a0 a1 a2 a3 a4 a5 a6 a7 a8 a9 aa ab ac ad ae af => aa) x
def F2.gb (x : F2) : F1 := F2.rec .nil (fun a0 a1 a2 a3 a4 a5 a6 a7 a8 a9 aa ab ac ad ae af => ab) x
def F2.gc (x : F2) : F1 := F2.rec .nil (fun a0 a1 a2 a3 a4 a5 a6 a7 a8 a9 aa ab ac ad ae af => ac) x
def F2.gd (x : F2) : F1 := F2.rec .nil (fun a0 a1 a2 a3 a4 a5 a6 a7 a8 a9 aa ab ac ad ae af => ad) x
def F2.ge (x : F2) : F1 := F2.rec .nil (fun a0 a1 a2 a3 a4 a5 a6 a7 a8 a9 aa ab ac ad ae af => ae) x
def F2.gf (x : F2) : F1 := F2.rec .nil (fun a0 a1 a2 a3 a4 a5 a6 a7 a8 a9 aa ab ac ad ae af => af) x
def F2.get (d : H) : F2 → F1 := H.rec (motive := fun _ => F2 → F1) F2.g0 F2.g1 F2.g2 F2.g3 F2.g4 F2.g5 F2.g6 F2.g7 F2.g8 F2.g9 F2.ga F2.gb F2.gc F2.gd F2.ge F2.gf d
inductive F3 where
 | nil
 | mk (a0 a1 a2 a3 a4 a5 a6 a7 a8 a9 aa ab ac ad ae af : F2)
def F3.g0 (x : F3) : F2 := F3.rec .nil (fun a0 a1 a2 a3 a4 a5 a6 a7 a8 a9 aa ab ac ad ae af => a0) x
def F3.g1 (x : F3) : F2 := F3.rec .nil (fun a0 a1 a2 a3 a4 a5 a6 a7 a8 a9 aa ab ac ad ae af => a1) x
def F3.g2 (x : F3) : F2 := F3.rec .nil (fun a0 a1 a2 a3 a4 a5 a6 a7 a8 a9 aa ab ac ad ae af => a2) x
def F3.g3 (x : F3) : F2 := F3.rec .nil (fun a0 a1 a2 a3 a4 a5 a6 a7 a8 a9 aa ab ac ad ae af => a3) x
def F3.g4 (x : F3) : F2 := F3.rec .nil (fun a0 a1 a2 a3 a4 a5 a6 a7 a8 a9 aa ab ac ad ae af => a4) x
def F3.g5 (x : F3) : F2 := F3.rec .nil (fun a0 a1 a2 a3 a4 a5 a6 a7 a8 a9 aa ab ac ad ae af => a5) x
def F3.g6 (x : F3) : F2 := F3.rec .nil (fun a0 a1 a2 a3 a4 a5 a6 a7 a8 a9 aa ab ac ad ae af => a6) x
def F3.g7 (x : F3) : F2 := F3.rec .nil (fun a0 a1 a2 a3 a4 a5 a6 a7 a8 a9 aa ab ac ad ae af => a7) x
def F3.g8 (x : F3) : F2 := F3.rec .nil (fun a0 a1 a2 a3 a4 a5 a6 a7 a8 a9 aa ab ac ad ae af => a8) x
def F3.g9 (x : F3) : F2 := F3.rec .nil (fun a0 a1 a2 a3 a4 a5 a6 a7 a8 a9 aa ab ac ad ae af => a9) x
def F3.ga (x : F3) : F2 := F3.rec .nil (fun a0 a1 a2 a3 a4 a5 a6 a7 a8 a9 aa ab ac ad ae af => aa) x
def F3.gb (x : F3) : F2 := F3.rec .nil (fun a0 a1 a2 a3 a4 a5 a6 a7 a8 a9 aa ab ac ad ae af => ab) x
def F3.gc (x : F3) : F2 := F3.rec .nil (fun a0 a1 a2 a3 a4 a5 a6 a7 a8 a9 aa ab ac ad ae af => ac) x
def F3.gd (x : F3) : F2 := F3.rec .nil (fun a0 a1 a2 a3 a4 a5 a6 a7 a8 a9 aa ab ac ad ae af => ad) x
def F3.ge (x : F3) : F2 := F3.rec .nil (fun a0 a1 a2 a3 a4 a5 a6 a7 a8 a9 aa ab ac ad ae af => ae) x
def F3.gf (x : F3) : F2 := F3.rec .nil (fun a0 a1 a2 a3 a4 a5 a6 a7 a8 a9 aa ab ac ad ae af => af) x
def F3.get (d : H) : F3 → F2 := H.rec (motive := fun _ => F3 → F2) F3.g0 F3.g1 F3.g2 F3.g3 F3.g4 F3.g5 F3.g6 F3.g7 F3.g8 F3.g9 F3.ga F3.gb F3.gc F3.gd F3.ge F3.gf d
inductive MR where
 | mk (t name f : Nat)
inductive Pg where
 | mk (fs : F3) (ms : List MR)
def ar (f : Nat) (p : F3) : AF := F1.get (dC (Nat.mod f 16)) (F2.get (dC (Nat.mod (Nat.div f 16) 16)) (F3.get (dC (Nat.div f 256)) p))
def Pg.fs (p : Pg) : F3 := Pg.rec (fun a _ => a) p
def Pg.ms (p : Pg) : List MR := Pg.rec (fun _ a => a) p
def lA (t name : Nat) (l : List MR) (k : Nat → RT) (e : RT) : RT := dT e (fun y _ ih => MR.rec (fun t' n' f => Bool.rec ih (Bool.rec ih (k f) (Nat.beq name n')) (Nat.beq t t')) y) l
def OQ (x : AV) : AV → Bool := AV.rec (motive_1 := fun _ => AV → Bool) (motive_2 := fun _ => PUnit) (fun _ => false) (fun a y => AV.bn y (fun b => jW a b) false) (fun k a y => AV.dN y (fun k' b => Bool.rec false (sI a b) (ll k k')) false) (fun a y => AV.iY y (fun b => kT a b) false) (fun k a y => AV.rj y (fun k' b => Bool.and (wM k k') (Nat.beq a b)) false) (fun k a b y => AV.sJ y (fun k' c d => Bool.and (wM k k') (Bool.and (Nat.beq a c) (Nat.beq b d))) false) (fun i o y => AV.fu y (fun j q => Bool.and (oP i j) (Nat.beq o q)) false) (fun y => AV.rec (motive_2 := fun _ => PUnit) false (fun _ => false) (fun _ _ => false) (fun _ => false) (fun _ _ => false) (fun _ _ _ => false) (fun _ _ => false) true (fun _ _ _ _ => false) (fun _ _ _ _ => false) false (fun _ => false) false (fun _ _ _ => false) false (fun _ _ _ => false) false (fun _ _ => false) (fun _ _ => false) (fun _ => false) PUnit.unit (fun _ _ _ _ => PUnit.unit) y) (fun i a b c y => AV.lq y (fun j d e f => Bool.and (oP i j) (Bool.and (Nat.beq a d) (Bool.and (Nat.beq b e) (Nat.beq c f)))) (fun _ _ _ _ => false) false false) (fun i a b c y => AV.lq y (fun _ _ _ _ => false) (fun j d e f => Bool.and (oP i j) (Bool.and (Nat.beq a d) (Bool.and (Nat.beq b e) (Nat.beq c f)))) false false) (fun y => AV.lq y (fun _ _ _ _ => false) (fun _ _ _ _ => false) true false) (fun i y => AV.eP y (fun j => oP i j) false false) (fun y => AV.eP y (fun _ => false) true false) (fun _ _ _ _ => false) (fun y => AV.rec (motive_2 := fun _ => PUnit) false (fun _ => false) (fun _ _ => false) (fun _ => false) (fun _ _ => false) (fun _ _ _ => false) (fun _ _ => false) false (fun _ _ _ _ => false) (fun _ _ _ _ => false) false (fun _ => false) false (fun _ _ _ => false) true (fun _ _ _ => false) false (fun _ _ => false) (fun _ _ => false) (fun _ => false) PUnit.unit (fun _ _ _ _ => PUnit.unit) y) (fun _ _ _ _ => false) (fun y => AV.Bd y (fun _ _ => false) true false) (fun _ _ _ => false) (fun _ _ _ => false) (fun _ _ => false) PUnit.unit (fun _ _ _ _ => PUnit.unit) x
def ru (x y : AV) : Bool := OQ x y
def yD (a b : List AV) : Bool := dT (β := List AV → Bool) (fun b => List.rec true (fun _ _ _ => false) b)
 (fun x _ ih b => List.rec false (fun y b _ => Bool.rec false (ih b) (ru x y)) b) a b
def sW (x y : AV) : Bool := OL.rec (ru x y) (fun a => AV.nu y (fun b => yD a b) false) x.asAgg
def vK (x y : AV) : Bool := SC.rec (SD.rec (sW x y) (sW x y) (fun t a => AV.Bd y (fun u b => Bool.and (Nat.beq t u) (sW a b)) false false) x.Ol) (fun f a => AV.FR y (fun g b => Bool.and (Nat.beq f g) (yD a b)) false) x.Ok
def Gv (a b : List AV) : Bool := dT (β := List AV → Bool) (fun b => List.rec true (fun _ _ _ => false) b)
 (fun x _ ih b => List.rec false (fun y b _ => Bool.rec false (ih b) (vK x y)) b) a b
def same (x y : AV) : Bool := OL.rec (vK x y) (fun a => AV.CD y (fun b => Gv a b) false) x.FQ
def OT (x : AV) : Bool := AV.rec (motive_2 := fun _ => PUnit) true (fun _ => false) (fun _ _ => false) (fun _ => false) (fun _ _ => false) (fun _ _ _ => false) (fun _ _ => false) false (fun _ _ _ _ => false) (fun _ _ _ _ => false) false (fun _ => false) false (fun _ _ _ => false) false (fun _ _ _ => false) false (fun _ _ => false) (fun _ _ => false) (fun _ => false) PUnit.unit (fun _ _ _ _ => PUnit.unit) x
def yl (x y : AV) : Bool := Bool.rec (same x y) (OT y) (OT x)
def gY (x y : AV) : AV := Bool.rec .undef x (same x y)
def A1.eq (x y : A1) : Bool := A1.rec (A1.rec true (fun _ _ _ _ _ _ _ _ _ _ _ _ _ _ _ _ => false) y) (fun a0 a1 a2 a3 a4 a5 a6 a7 a8 a9 aa ab ac ad ae af => A1.rec false (fun b0 b1 b2 b3 b4 b5 b6 b7 b8 b9 ba bb bc bd be bf => (Bool.rec false (Bool.rec false (Bool.rec false (Bool.rec false (Bool.rec false (Bool.rec false (Bool.rec false (Bool.rec false (Bool.rec false (Bool.rec false (Bool.rec false (Bool.rec false (Bool.rec false (Bool.rec false (Bool.rec false (yl af bf) (yl ae be)) (yl ad bd)) (yl ac bc)) (yl ab bb)) (yl aa ba)) (yl a9 b9)) (yl a8 b8)) (yl a7 b7)) (yl a6 b6)) (yl a5 b5)) (yl a4 b4)) (yl a3 b3)) (yl a2 b2)) (yl a1 b1)) (yl a0 b0))) y) x
def A2.eq (x y : A2) : Bool := A2.rec (A2.rec true (fun _ _ _ _ _ _ _ _ _ _ _ _ _ _ _ _ => false) y) (fun a0 a1 a2 a3 a4 a5 a6 a7 a8 a9 aa ab ac ad ae af => A2.rec false (fun b0 b1 b2 b3 b4 b5 b6 b7 b8 b9 ba bb bc bd be bf => (Bool.rec false (Bool.rec false (Bool.rec false (Bool.rec false (Bool.rec false (Bool.rec false (Bool.rec false (Bool.rec false (Bool.rec false (Bool.rec false (Bool.rec false (Bool.rec false (Bool.rec false (Bool.rec false (Bool.rec false (A1.eq af bf) (A1.eq ae be)) (A1.eq ad bd)) (A1.eq ac bc)) (A1.eq ab bb)) (A1.eq aa ba)) (A1.eq a9 b9)) (A1.eq a8 b8)) (A1.eq a7 b7)) (A1.eq a6 b6)) (A1.eq a5 b5)) (A1.eq a4 b4)) (A1.eq a3 b3)) (A1.eq a2 b2)) (A1.eq a1 b1)) (A1.eq a0 b0))) y) x
def A3.eq (x y : A3) : Bool := A3.rec (A3.rec true (fun _ _ _ _ _ _ _ _ _ _ _ _ _ _ _ _ => false) y) (fun a0 a1 a2 a3 a4 a5 a6 a7 a8 a9 aa ab ac ad ae af => A3.rec false (fun b0 b1 b2 b3 b4 b5 b6 b7 b8 b9 ba bb bc bd be bf => (Bool.rec false (Bool.rec false (Bool.rec false (Bool.rec false (Bool.rec false (Bool.rec false (Bool.rec false (Bool.rec false (Bool.rec false (Bool.rec false (Bool.rec false (Bool.rec false (Bool.rec false (Bool.rec false (Bool.rec false (A2.eq af bf) (A2.eq ae be)) (A2.eq ad bd)) (A2.eq ac bc)) (A2.eq ab bb)) (A2.eq aa ba)) (A2.eq a9 b9)) (A2.eq a8 b8)) (A2.eq a7 b7)) (A2.eq a6 b6)) (A2.eq a5 b5)) (A2.eq a4 b4)) (A2.eq a3 b3)) (A2.eq a2 b2)) (A2.eq a1 b1)) (A2.eq a0 b0))) y) x
def A4.eq (x y : A4) : Bool := A4.rec (A4.rec true (fun _ _ _ _ _ _ _ _ _ _ _ _ _ _ _ _ => false) y) (fun a0 a1 a2 a3 a4 a5 a6 a7 a8 a9 aa ab ac ad ae af => A4.rec false (fun b0 b1 b2 b3 b4 b5 b6 b7 b8 b9 ba bb bc bd be bf => (Bool.rec false (Bool.rec false (Bool.rec false (Bool.rec false (Bool.rec false (Bool.rec false (Bool.rec false (Bool.rec false (Bool.rec false (Bool.rec false (Bool.rec false (Bool.rec false (Bool.rec false (Bool.rec false (Bool.rec false (A3.eq af bf) (A3.eq ae be)) (A3.eq ad bd)) (A3.eq ac bc)) (A3.eq ab bb)) (A3.eq aa ba)) (A3.eq a9 b9)) (A3.eq a8 b8)) (A3.eq a7 b7)) (A3.eq a6 b6)) (A3.eq a5 b5)) (A3.eq a4 b4)) (A3.eq a3 b3)) (A3.eq a2 b2)) (A3.eq a1 b1)) (A3.eq a0 b0))) y) x
def A1.mg (x y : A1) : A1 := A1.rec (A1.rec .nil (fun b0 b1 b2 b3 b4 b5 b6 b7 b8 b9 ba bb bc bd be bf => .mk (gY AV.undef b0) (gY AV.undef b1) (gY AV.undef b2) (gY AV.undef b3) (gY AV.undef b4) (gY AV.undef b5) (gY AV.undef b6) (gY AV.undef b7) (gY AV.undef b8) (gY AV.undef b9) (gY AV.undef ba) (gY AV.undef bb) (gY AV.undef bc) (gY AV.undef bd) (gY AV.undef be) (gY AV.undef bf)) y) (fun a0 a1 a2 a3 a4 a5 a6 a7 a8 a9 aa ab ac ad ae af => A1.rec (.mk (gY a0 AV.undef) (gY a1 AV.undef) (gY a2 AV.undef) (gY a3 AV.undef) (gY a4 AV.undef) (gY a5 AV.undef) (gY a6 AV.undef) (gY a7 AV.undef) (gY a8 AV.undef) (gY a9 AV.undef) (gY aa AV.undef) (gY ab AV.undef) (gY ac AV.undef) (gY ad AV.undef) (gY ae AV.undef) (gY af AV.undef)) (fun b0 b1 b2 b3 b4 b5 b6 b7 b8 b9 ba bb bc bd be bf => .mk (gY a0 b0) (gY a1 b1) (gY a2 b2) (gY a3 b3) (gY a4 b4) (gY a5 b5) (gY a6 b6) (gY a7 b7) (gY a8 b8) (gY a9 b9) (gY aa ba) (gY ab bb) (gY ac bc) (gY ad bd) (gY ae be) (gY af bf)) y) x
def A2.mg (x y : A2) : A2 := A2.rec (A2.rec .nil (fun b0 b1 b2 b3 b4 b5 b6 b7 b8 b9 ba bb bc bd be bf => .mk (A1.mg A1.nil b0) (A1.mg A1.nil b1) (A1.mg A1.nil b2) (A1.mg A1.nil b3) (A1.mg A1.nil b4) (A1.mg A1.nil b5) (A1.mg A1.nil b6) (A1.mg A1.nil b7) (A1.mg A1.nil b8) (A1.mg A1.nil b9) (A1.mg A1.nil ba) (A1.mg A1.nil bb) (A1.mg A1.nil bc) (A1.mg A1.nil bd) (A1.mg A1.nil be) (A1.mg A1.nil bf)) y) (fun a0 a1 a2 a3 a4 a5 a6 a7 a8 a9 aa ab ac ad ae af => A2.rec (.mk (A1.mg a0 A1.nil) (A1.mg a1 A1.nil) (A1.mg a2 A1.nil) (A1.mg a3 A1.nil) (A1.mg a4 A1.nil) (A1.mg a5 A1.nil) (A1.mg a6 A1.nil) (A1.mg a7 A1.nil) (A1.mg a8 A1.nil) (A1.mg a9 A1.nil) (A1.mg aa A1.nil) (A1.mg ab A1.nil) (A1.mg ac A1.nil) (A1.mg ad A1.nil) (A1.mg ae A1.nil) (A1.mg af A1.nil)) (fun b0 b1 b2 b3 b4 b5 b6 b7 b8 b9 ba bb bc bd be bf => .mk (A1.mg a0 b0) (A1.mg a1 b1) (A1.mg a2 b2) (A1.mg a3 b3) (A1.mg a4 b4) (A1.mg a5 b5) (A1.mg a6 b6) (A1.mg a7 b7) (A1.mg a8 b8) (A1.mg a9 b9) (A1.mg aa ba) (A1.mg ab bb) (A1.mg ac bc) (A1.mg ad bd) (A1.mg ae be) (A1.mg af bf)) y) x
def Cl.eq (x y : Cl) : Bool := Cl.rec (fun a => Cl.rec (fun b => A1.eq a b) (fun _ => false) (fun _ => false) (fun _ => false) (fun _ _ => false) y) (fun a => Cl.rec (fun _ => false) (fun b => A2.eq a b) (fun _ => false) (fun _ => false) (fun _ _ => false) y) (fun a => Cl.rec (fun _ => false) (fun _ => false) (fun b => A3.eq a b) (fun _ => false) (fun _ _ => false) y) (fun a => Cl.rec (fun _ => false) (fun _ => false) (fun _ => false) (fun b => A4.eq a b) (fun _ _ => false) y) (fun _ _ => false) x
def Fl.eq (x y : Fl) : Bool := Fl.rec (Fl.rec true false false false y) (Fl.rec false true false false y) (Fl.rec false false true false y) (Fl.rec false false false true y) x
def OU (x y : KV) : Bool := KV.rec (fun k v b => KV.rec (fun k' v' b' => Bool.rec false (Bool.rec false (yl v v') (same k k')) (Nat.beq b b')) y) x
def Gw (a b : List KV) : Bool := dT (β := List KV → Bool) (fun b => nE b) (fun x _ ih b => List.rec false (fun y b _ => Bool.rec false (ih b) (OU x y)) b) a b
def yE (x y : Obj) : Bool := Obj.rec (isNone y) false (fun el n ex fl c => Obj.aN y (fun el' n' ex' fl' c' => Bool.rec false (Bool.rec false (Bool.rec false (Bool.rec false (Cl.eq c c') (Fl.eq fl fl')) (jW ex ex')) (Nat.beq n n')) (Nat.beq el el')) false) (fun l ck => Obj.eP y (fun l' ck' => Bool.rec false (Gw l l') (Nat.beq ck ck')) false) (fun _ _ => false) (fun _ _ _ _ => false) false x
def bp (x y : Obj) : Obj := Bool.rec .dead x (yE x y)
def O1.mg (x y : O1) : O1 := O1.rec (O1.rec .nil (fun b0 b1 b2 b3 b4 b5 b6 b7 b8 b9 ba bb bc bd be bf => .mk (bp Obj.none b0) (bp Obj.none b1) (bp Obj.none b2) (bp Obj.none b3) (bp Obj.none b4) (bp Obj.none b5) (bp Obj.none b6) (bp Obj.none b7) (bp Obj.none b8) (bp Obj.none b9) (bp Obj.none ba) (bp Obj.none bb) (bp Obj.none bc) (bp Obj.none bd) (bp Obj.none be) (bp Obj.none bf)) y) (fun a0 a1 a2 a3 a4 a5 a6 a7 a8 a9 aa ab ac ad ae af => O1.rec (.mk (bp a0 Obj.none) (bp a1 Obj.none) (bp a2 Obj.none) (bp a3 Obj.none) (bp a4 Obj.none) (bp a5 Obj.none) (bp a6 Obj.none) (bp a7 Obj.none) (bp a8 Obj.none) (bp a9 Obj.none) (bp aa Obj.none) (bp ab Obj.none) (bp ac Obj.none) (bp ad Obj.none) (bp ae Obj.none) (bp af Obj.none)) (fun b0 b1 b2 b3 b4 b5 b6 b7 b8 b9 ba bb bc bd be bf => .mk (bp a0 b0) (bp a1 b1) (bp a2 b2) (bp a3 b3) (bp a4 b4) (bp a5 b5) (bp a6 b6) (bp a7 b7) (bp a8 b8) (bp a9 b9) (bp aa ba) (bp ab bb) (bp ac bc) (bp ad bd) (bp ae be) (bp af bf)) y) x
def O2.mg (x y : O2) : O2 := O2.rec (O2.rec .nil (fun b0 b1 b2 b3 b4 b5 b6 b7 b8 b9 ba bb bc bd be bf => .mk (O1.mg O1.nil b0) (O1.mg O1.nil b1) (O1.mg O1.nil b2) (O1.mg O1.nil b3) (O1.mg O1.nil b4) (O1.mg O1.nil b5) (O1.mg O1.nil b6) (O1.mg O1.nil b7) (O1.mg O1.nil b8) (O1.mg O1.nil b9) (O1.mg O1.nil ba) (O1.mg O1.nil bb) (O1.mg O1.nil bc) (O1.mg O1.nil bd) (O1.mg O1.nil be) (O1.mg O1.nil bf)) y) (fun a0 a1 a2 a3 a4 a5 a6 a7 a8 a9 aa ab ac ad ae af => O2.rec (.mk (O1.mg a0 O1.nil) (O1.mg a1 O1.nil) (O1.mg a2 O1.nil) (O1.mg a3 O1.nil) (O1.mg a4 O1.nil) (O1.mg a5 O1.nil) (O1.mg a6 O1.nil) (O1.mg a7 O1.nil) (O1.mg a8 O1.nil) (O1.mg a9 O1.nil) (O1.mg aa O1.nil) (O1.mg ab O1.nil) (O1.mg ac O1.nil) (O1.mg ad O1.nil) (O1.mg ae O1.nil) (O1.mg af O1.nil)) (fun b0 b1 b2 b3 b4 b5 b6 b7 b8 b9 ba bb bc bd be bf => .mk (O1.mg a0 b0) (O1.mg a1 b1) (O1.mg a2 b2) (O1.mg a3 b3) (O1.mg a4 b4) (O1.mg a5 b5) (O1.mg a6 b6) (O1.mg a7 b7) (O1.mg a8 b8) (O1.mg a9 b9) (O1.mg aa ba) (O1.mg ab bb) (O1.mg ac bc) (O1.mg ad bd) (O1.mg ae be) (O1.mg af bf)) y) x
def O3.mg (x y : O3) : O3 := O3.rec (O3.rec .nil (fun b0 b1 b2 b3 b4 b5 b6 b7 b8 b9 ba bb bc bd be bf => .mk (O2.mg O2.nil b0) (O2.mg O2.nil b1) (O2.mg O2.nil b2) (O2.mg O2.nil b3) (O2.mg O2.nil b4) (O2.mg O2.nil b5) (O2.mg O2.nil b6) (O2.mg O2.nil b7) (O2.mg O2.nil b8) (O2.mg O2.nil b9) (O2.mg O2.nil ba) (O2.mg O2.nil bb) (O2.mg O2.nil bc) (O2.mg O2.nil bd) (O2.mg O2.nil be) (O2.mg O2.nil bf)) y) (fun a0 a1 a2 a3 a4 a5 a6 a7 a8 a9 aa ab ac ad ae af => O3.rec (.mk (O2.mg a0 O2.nil) (O2.mg a1 O2.nil) (O2.mg a2 O2.nil) (O2.mg a3 O2.nil) (O2.mg a4 O2.nil) (O2.mg a5 O2.nil) (O2.mg a6 O2.nil) (O2.mg a7 O2.nil) (O2.mg a8 O2.nil) (O2.mg a9 O2.nil) (O2.mg aa O2.nil) (O2.mg ab O2.nil) (O2.mg ac O2.nil) (O2.mg ad O2.nil) (O2.mg ae O2.nil) (O2.mg af O2.nil)) (fun b0 b1 b2 b3 b4 b5 b6 b7 b8 b9 ba bb bc bd be bf => .mk (O2.mg a0 b0) (O2.mg a1 b1) (O2.mg a2 b2) (O2.mg a3 b3) (O2.mg a4 b4) (O2.mg a5 b5) (O2.mg a6 b6) (O2.mg a7 b7) (O2.mg a8 b8) (O2.mg a9 b9) (O2.mg aa ba) (O2.mg ab bb) (O2.mg ac bc) (O2.mg ad bd) (O2.mg ae be) (O2.mg af bf)) y) x
def O4.mg (x y : O4) : O4 := O4.rec (O4.rec .nil (fun b0 b1 b2 b3 b4 b5 b6 b7 b8 b9 ba bb bc bd be bf => .mk (O3.mg O3.nil b0) (O3.mg O3.nil b1) (O3.mg O3.nil b2) (O3.mg O3.nil b3) (O3.mg O3.nil b4) (O3.mg O3.nil b5) (O3.mg O3.nil b6) (O3.mg O3.nil b7) (O3.mg O3.nil b8) (O3.mg O3.nil b9) (O3.mg O3.nil ba) (O3.mg O3.nil bb) (O3.mg O3.nil bc) (O3.mg O3.nil bd) (O3.mg O3.nil be) (O3.mg O3.nil bf)) y) (fun a0 a1 a2 a3 a4 a5 a6 a7 a8 a9 aa ab ac ad ae af => O4.rec (.mk (O3.mg a0 O3.nil) (O3.mg a1 O3.nil) (O3.mg a2 O3.nil) (O3.mg a3 O3.nil) (O3.mg a4 O3.nil) (O3.mg a5 O3.nil) (O3.mg a6 O3.nil) (O3.mg a7 O3.nil) (O3.mg a8 O3.nil) (O3.mg a9 O3.nil) (O3.mg aa O3.nil) (O3.mg ab O3.nil) (O3.mg ac O3.nil) (O3.mg ad O3.nil) (O3.mg ae O3.nil) (O3.mg af O3.nil)) (fun b0 b1 b2 b3 b4 b5 b6 b7 b8 b9 ba bb bc bd be bf => .mk (O3.mg a0 b0) (O3.mg a1 b1) (O3.mg a2 b2) (O3.mg a3 b3) (O3.mg a4 b4) (O3.mg a5 b5) (O3.mg a6 b6) (O3.mg a7 b7) (O3.mg a8 b8) (O3.mg a9 b9) (O3.mg aa ba) (O3.mg ab bb) (O3.mg ac bc) (O3.mg ad bd) (O3.mg ae be) (O3.mg af bf)) y) x
def ij (x y : AV) : Bool := Bool.rec (same x y) true (OT x)
def A1.le (x y : A1) : Bool := A1.rec (A1.rec true (fun b0 b1 b2 b3 b4 b5 b6 b7 b8 b9 ba bb bc bd be bf => (Bool.rec false (Bool.rec false (Bool.rec false (Bool.rec false (Bool.rec false (Bool.rec false (Bool.rec false (Bool.rec false (Bool.rec false (Bool.rec false (Bool.rec false (Bool.rec false (Bool.rec false (Bool.rec false (Bool.rec false (ij AV.undef bf) (ij AV.undef be)) (ij AV.undef bd)) (ij AV.undef bc)) (ij AV.undef bb)) (ij AV.undef ba)) (ij AV.undef b9)) (ij AV.undef b8)) (ij AV.undef b7)) (ij AV.undef b6)) (ij AV.undef b5)) (ij AV.undef b4)) (ij AV.undef b3)) (ij AV.undef b2)) (ij AV.undef b1)) (ij AV.undef b0))) y) (fun a0 a1 a2 a3 a4 a5 a6 a7 a8 a9 aa ab ac ad ae af => A1.rec (Bool.rec false (Bool.rec false (Bool.rec false (Bool.rec false (Bool.rec false (Bool.rec false (Bool.rec false (Bool.rec false (Bool.rec false (Bool.rec false (Bool.rec false (Bool.rec false (Bool.rec false (Bool.rec false (Bool.rec false (ij af AV.undef) (ij ae AV.undef)) (ij ad AV.undef)) (ij ac AV.undef)) (ij ab AV.undef)) (ij aa AV.undef)) (ij a9 AV.undef)) (ij a8 AV.undef)) (ij a7 AV.undef)) (ij a6 AV.undef)) (ij a5 AV.undef)) (ij a4 AV.undef)) (ij a3 AV.undef)) (ij a2 AV.undef)) (ij a1 AV.undef)) (ij a0 AV.undef)) (fun b0 b1 b2 b3 b4 b5 b6 b7 b8 b9 ba bb bc bd be bf => (Bool.rec false (Bool.rec false (Bool.rec false (Bool.rec false (Bool.rec false (Bool.rec false (Bool.rec false (Bool.rec false (Bool.rec false (Bool.rec false (Bool.rec false (Bool.rec false (Bool.rec false (Bool.rec false (Bool.rec false (ij af bf) (ij ae be)) (ij ad bd)) (ij ac bc)) (ij ab bb)) (ij aa ba)) (ij a9 b9)) (ij a8 b8)) (ij a7 b7)) (ij a6 b6)) (ij a5 b5)) (ij a4 b4)) (ij a3 b3)) (ij a2 b2)) (ij a1 b1)) (ij a0 b0))) y) x
def A2.le (x y : A2) : Bool := A2.rec (A2.rec true (fun b0 b1 b2 b3 b4 b5 b6 b7 b8 b9 ba bb bc bd be bf => (Bool.rec false (Bool.rec false (Bool.rec false (Bool.rec false (Bool.rec false (Bool.rec false (Bool.rec false (Bool.rec false (Bool.rec false (Bool.rec false (Bool.rec false (Bool.rec false (Bool.rec false (Bool.rec false (Bool.rec false (A1.le A1.nil bf) (A1.le A1.nil be)) (A1.le A1.nil bd)) (A1.le A1.nil bc)) (A1.le A1.nil bb)) (A1.le A1.nil ba)) (A1.le A1.nil b9)) (A1.le A1.nil b8)) (A1.le A1.nil b7)) (A1.le A1.nil b6)) (A1.le A1.nil b5)) (A1.le A1.nil b4)) (A1.le A1.nil b3)) (A1.le A1.nil b2)) (A1.le A1.nil b1)) (A1.le A1.nil b0))) y) (fun a0 a1 a2 a3 a4 a5 a6 a7 a8 a9 aa ab ac ad ae af => A2.rec (Bool.rec false (Bool.rec false (Bool.rec false (Bool.rec false (Bool.rec false (Bool.rec false (Bool.rec false (Bool.rec false (Bool.rec false (Bool.rec false (Bool.rec false (Bool.rec false (Bool.rec false (Bool.rec false (Bool.rec false (A1.le af A1.nil) (A1.le ae A1.nil)) (A1.le ad A1.nil)) (A1.le ac A1.nil)) (A1.le ab A1.nil)) (A1.le aa A1.nil)) (A1.le a9 A1.nil)) (A1.le a8 A1.nil)) (A1.le a7 A1.nil)) (A1.le a6 A1.nil)) (A1.le a5 A1.nil)) (A1.le a4 A1.nil)) (A1.le a3 A1.nil)) (A1.le a2 A1.nil)) (A1.le a1 A1.nil)) (A1.le a0 A1.nil)) (fun b0 b1 b2 b3 b4 b5 b6 b7 b8 b9 ba bb bc bd be bf => (Bool.rec false (Bool.rec false (Bool.rec false (Bool.rec false (Bool.rec false (Bool.rec false (Bool.rec false (Bool.rec false (Bool.rec false (Bool.rec false (Bool.rec false (Bool.rec false (Bool.rec false (Bool.rec false (Bool.rec false (A1.le af bf) (A1.le ae be)) (A1.le ad bd)) (A1.le ac bc)) (A1.le ab bb)) (A1.le aa ba)) (A1.le a9 b9)) (A1.le a8 b8)) (A1.le a7 b7)) (A1.le a6 b6)) (A1.le a5 b5)) (A1.le a4 b4)) (A1.le a3 b3)) (A1.le a2 b2)) (A1.le a1 b1)) (A1.le a0 b0))) y) x
def wY (x y : T4) : T4 := T4.rec (fun t f => T4.rec (fun u g => .mk (O4.mg t u) (fun m n => bp (f m n) (g m n))) y) x
def SR (x y : Hp) (k : Hp → RS) : RS := Hp.rec (fun t n => Hp.rec (fun u m => Bool.rec (.err 301) (k (.mk (wY t u) n)) (oP n m)) y) x
def Bm (x y : RS) : RS := RS.rec (fun r h => RS.rec (fun r' h' => SR h h' (fun h => .nm (A2.mg r r') h)) (fun _ _ _ => .err 302) (fun _ _ _ => .err 302) (fun _ _ => .err 302) (fun n => .err n) (fun _ _ _ => .err 302) y) (fun _ _ _ => .err 303) (fun _ _ _ => .err 303) (fun _ _ => .err 303) (fun n => .err n) (fun _ _ _ => .err 303) x
def Gx (n : Nat) (f : Nat → RS) : RS := Nat.rec (.err 304) (fun n _ => wL (f 0) (fun m ih => Bm ih (f (Nat.succ m))) n) n
def dP (x : RS) : RS := RS.elim (fun r h => .nm r h) (fun i r h => .ex i r h) (fun l r h => .go l r h) (fun r h => .ret r h) (fun n => .err n) Gx x
def sX (x : RS) : RS := RS.elim (fun r h => .nm r h) (fun i r h => .ex i r h) (fun l r h => .go l r h) (fun r h => .nm r h) (fun n => .err n) (fun n ih => .ch n ih) x
abbrev iV := AC → A2 → Hp → RS
def Lf (s : Rs) (r : A2) (h : Hp) : RV := Rs.rec (fun a b => .ok (aq a b r) h) (fun a b => jB (.t a b) r h) (fun n a b => rp n (.t a b) r h) s
def OV (l : List Rs) (r : A2) (h : Hp) (k : List AV → RV) : RV := dT (β := (List AV → RV) → RV) (fun k => k .nil)
 (fun s _ ih k => RV.rec (fun v _ => ih (fun vs => k (.cons v vs))) (fun n => .err n) (Lf s r h)) l k
def Gy (h : Hp) (l : List AV) : RV := List.rec (.ok aH h) (fun v t _ => List.rec (.ok v h) (fun x y _ => .ok (.gh (.cons v (.cons x y))) h) t) l
def sY (res : List Rs) (r : A2) (h : Hp) : RV := OV res r h (Gy h)
def dQ (res : List Rs) (s : RS) : RT := RS.elim (fun r h => (sY res r h).iU) (fun _ _ _ => .err 200) (fun _ _ _ => .err 201) (fun r h => (sY res r h).iU) (fun n => .err n) (fun n ih => .ch n ih) s
def aw (p : Pg) (run : iV) (f : Nat) (args : List AV) (h : Hp) : RT := AF.rec (.err (Nat.add 1000 f)) (fun body res => Bool.rec (.err 207) (dQ res (run body (aR args 0 .nil) h)) (Nat.ble args.length 256)) (fun k body res => RT.rec (fun v h => RT.ok v h) (fun _ => Bool.rec (.err 207) (dQ res (run body (aR args 0 .nil) h)) (Nat.ble args.length 256)) (fun n k _ => .ch n k) (du k args h)) (fun body res => Bool.rec (.err 207) (dQ res (dP (sX (run body (aR args 0 .nil) h)))) (Nat.ble args.length 256)) (fun k => du k args h) (ar f p.fs)
def kU (p : Pg) (run : iV) (x : AV) (args : List AV) (h : Hp) : RT := AV.FR x (fun f cs => aw p run f (List.append args cs) h) (.err 202)
def aF (p : Pg) (run : iV) (name : Nat) (x : AV) (args : List AV) (h : Hp) : RT := AV.Bd x
 (fun t v => lA t name p.ms (fun f => aw p run f (.cons v args) h) (.err 206)) (.err 205) (.err 204)
def CU (d : aQ) (k : A2 → Hp → RS) (r : A2) (v : RV) : RS := RV.rec (fun v h => k (bN d v r) h) (fun n => .err n) v
def stepT (d : aQ) (k : A2 → Hp → RS) (r : A2) (v : RT) : RS := RT.elim (fun v h => k (bN d v r) h) (fun n => .err n) (fun n ih => .ch n ih) v
def AI.exec (i : AI) (p : Pg) (run : iV) (d : aQ) (k : A2 → Hp → RS) (r : A2) (h : Hp) : RS := AI.rec (fun op => CU d k r (op.run r h)) (fun s x => stepT d k r (iZ s (ev x r) h)) (fun f xs => stepT d k r (aw p run f (fY xs r) h)) (fun x xs => stepT d k r (kU p run (ev x r) (fY xs r) h)) (fun n x xs => stepT d k r (aF p run n (ev x r) (fY xs r) h)) i
def gb (w : Bool) (x : AV) : AV := OL.rec x (fun l => List.rec (.bool (Bool.not w)) (fun _ _ _ => .undef) l) x.FQ
def iz (d : aQ) (k : A2 → Hp → RS) (r : A2) (h : Hp) (i : AI) (p : Pg) (run : iV) (w t : Bool) : RS :=
 Bool.rec (k (bN d aH r) h) (i.exec p run d k r h) (jW t w)
def GI.exec (i : GI) (p : Pg) (run : iV) (k : A2 → Hp → RS) (r : A2) (h : Hp) : RS := GI.rec (fun d i => i.exec p run d k r h) (fun a b w d i => AV.bn (gb w (aq a b r)) (iz d k r h i p run w) (.err 210)) i
def eR (p : Pg) (run : iV) (l : List GI) : A2 → Hp → RS := dT (β := A2 → Hp → RS) (fun r h => .nm r h) (fun i _ ih => i.exec p run ih) l
def ei (op : la) (r : A2) (v : AV) (l : List Hp) : Nat → Bool := dT (β := Nat → Bool) (fun n => Nat.rec true (fun _ _ => false) n)
 (fun h _ ih n => Nat.rec true (fun n _ => RV.rec (fun v' _ => Bool.rec false (ih n) (same v v')) (fun _ => false) (op.run r h)) n) l
abbrev DK := A2 → Hp → Hp → List Hp → RS
def mZ (d : aQ) (k : DK) (r : A2) (g : Hp) (hs : List Hp) (v : RT) : RS := RT.rec (fun v h' => k (bN d v r) h' h' (.cons g hs)) (fun n => .err n) (fun _ _ _ => .err 213) v
def wZ (d : aQ) (op : la) (n : Nat) (k : DK) (r : A2) (h g : Hp) (hs : List Hp) (v : RV) : RS := RV.rec (fun v _ => Bool.rec (.err 211) (k (bN d v r) h g hs) (ei op r v hs n)) (fun n => .err n) v
def Gz (d : aQ) (k : DK) (r : A2) (g : Hp) (hs : List Hp) (v : RV) : RS := RV.rec (fun v h' => k (bN d v r) h' g hs) (fun n => .err n) v
def vg (b : Bk) (d : aQ) (i : AI) (p : Pg) (run : iV) (k : DK) (r : A2) (h g : Hp) (hs : List Hp) : RS := AI.rec (fun op => Bk.rec (mZ d k r g hs (op.run r h).iU) (fun n => wZ d op n k r h g hs (op.run r g)) (Gz d k r g hs (op.run r h)) b) (fun s x => mZ d k r g hs (iZ s (ev x r) h)) (fun f xs => mZ d k r g hs (aw p run f (fY xs r) h)) (fun x xs => mZ d k r g hs (kU p run (ev x r) (fY xs r) h)) (fun n x xs => mZ d k r g hs (aF p run n (ev x r) (fY xs r) h)) i
def Lg (b : Bk) (d : aQ) (k : DK) (r : A2) (h g : Hp) (hs : List Hp) : RS := Bk.rec (k (bN d aH r) h h (.cons g hs)) (fun _ => k (bN d aH r) h g hs) (.err 214) b
def Bn (b : Bk) (d : aQ) (i : AI) (k : DK) (r : A2) (h g : Hp) (hs : List Hp) (p : Pg) (run : iV) (w t : Bool) : RS :=
 Bool.rec (Lg b d k r h g hs) (vg b d i p run k r h g hs) (jW t w)
def DI.exec (i : DI) (p : Pg) (run : iV) (k : DK) (r : A2) (h g : Hp) (hs : List Hp) : RS := DI.rec (fun b y => GI.rec (fun d i => vg b d i p run k r h g hs) (fun x y w d i => AV.bn (gb w (aq x y r)) (Bn b d i k r h g hs p run w) (.err 212)) y) i
def dn (p : Pg) (run : iV) (l : List DI) : DK := dT (β := DK) (fun r h _ _ => .nm r h) (fun i _ ih => i.exec p run ih) l
def cZ : AC → Nat → Option AC
 | .seq a b, l => match cZ a l with
  | some c => some (.seq c b)
  | none => cZ b l
 | .label l', l => if Nat.beq l' l then some .skip else none
 | .ag _ x, l => cZ x l
 | _, _ => none
def RS.bind (x : RS) (kn : A2 → Hp → RS) (ke : Nat → A2 → Hp → RS) (kg : Nat → A2 → Hp → RS) : RS := RS.elim kn ke kg (fun r h => .ret r h) (fun n => .err n) (fun n ih => .ch n ih) x
def CV (a b : AC) (run : iV) (r : A2) (h : Hp) : RS := RS.bind (run a r h) (fun r h => run b r h) (fun i r h => .ex i r h) (fun l r h => .go l r h)
def OW (c : AO) (a b : AC) (run : iV) (r : A2) (h : Hp) : RS := AV.bn (ev c r) (fun t => Bool.rec (run b r h) (run a r h) t) (.err 213)
def rW (i : Nat) (a : AC) (run : iV) (r : A2) (h : Hp) : RS := RS.bind (run a r h) (fun r h => .nm r h) (fun j r h => Bool.rec (.ex j r h) (.nm r h) (Nat.beq j i)) (fun l r h => .go l r h)
def xa (a : AC) (run : iV) (r : A2) (h : Hp) : RS := RS.bind (run a r h) (fun r h => run (.loop a) r h) (fun i r h => .ex i r h) (fun l r h => .go l r h)
def yF (a c : AC) (run : iV) (r : A2) (h : Hp) : RS := RS.bind (run c r h) (fun r h => .nm r h) (fun i r h => .ex i r h)
 (fun l r h => Option.rec (.go l r h) (fun c => run (.sat a c) r h) (cZ a l))
def OX (a : AC) (run : iV) (r : A2) (h : Hp) : RS := dP (run a r h)
def Lh (n : Nat) (f : Nat → Bool) : Bool := wL true (fun m ih => Bool.rec false ih (f m)) n
abbrev Ex := Pg → iV → A2 → Hp → RS
def ym (q : Nat) (r : A2) (i : Nat) : A1 := Bool.rec (A2.get (dC i) r) (Bool.rec (A2.get (dC (Nat.succ i)) r) .nil (Nat.beq i 15)) (Nat.ble q i)
def sZ (q : Nat) (r : A2) : A2 := .mk (ym q r 0) (ym q r 1) (ym q r 2) (ym q r 3) (ym q r 4) (ym q r 5) (ym q r 6) (ym q r 7) (ym q r 8) (ym q r 9) (ym q r 10) (ym q r 11) (ym q r 12) (ym q r 13) (ym q r 14) (ym q r 15)
def yn (q : Nat) (r : A2) (i : Nat) : A1 := Bool.rec (A2.get (dC (Nat.pred i)) r) (Bool.rec (A2.get (dC i) r) .nil (Nat.beq i q)) (Nat.ble i q)
def Bo (q : Nat) (r : A2) : A2 := .mk (yn q r 0) (yn q r 1) (yn q r 2) (yn q r 3) (yn q r 4) (yn q r 5) (yn q r 6) (yn q r 7) (yn q r 8) (yn q r 9) (yn q r 10) (yn q r 11) (yn q r 12) (yn q r 13) (yn q r 14) (yn q r 15)
def OY (x y : RS) : Bool := RS.rec (fun r _ => RS.rec (fun r' _ => A2.le r r') (fun _ _ _ => false) (fun _ _ _ => false) (fun _ _ => false) (fun _ => false) (fun _ _ _ => false) y) (fun _ _ _ => false) (fun _ _ _ => false) (fun _ _ => false) (fun _ => false) (fun _ _ _ => false) x
def xb (x y : RS) : RS := Bool.rec (.ch 2 (fun i => Nat.rec x (fun _ _ => y) i)) (dP (.ch 2 (fun i => Nat.rec x (fun _ _ => y) i))) (OY x y)
def xc (q : Nat) (l : List GI) (p : Pg) (run : iV) (r : A2) (h : Hp) : RS := RS.bind (eR p run l (sZ q r) h) (fun r h => .nm (Bo q r) h) (fun i r h => .ex i r h) (fun l r h => .go l r h)
def ta (c : AC) : Ex := AC.rec (motive := fun _ => Ex) (fun _ _ r h => .nm r h) (fun l p run r h => eR p run l r h) (fun l p run r h => dn p run l r h h .nil) (fun a b _ _ => fun _ run r h => CV a b run r h) (fun c a b _ _ => fun _ run r h => OW c a b run r h) (fun i a _ => fun _ run r h => rW i a run r h) (fun a _ => fun _ run r h => xa a run r h) (fun a _ => fun _ run r h => yF a a run r h) (fun a c _ _ => fun _ run r h => yF a c run r h) (fun i => fun _ _ r h => .ex i r h) (fun l => fun _ _ r h => .go l r h) (fun _ => fun _ _ r h => .nm r h) (fun _ _ r h => .ret r h) (fun a _ => fun _ run r h => OX a run r h) (fun n => fun _ _ _ _ => .err n) (fun f x _ => fun p run r h => f (aw p run) (aF p run) (fun r h => run x r h) r h) (fun a b _ _ => fun _ run r h => xb (run a r h) (run b r h)) (fun q l p run r h => xc q l p run r h) c
def exec (p : Pg) (n : Nat) : iV := Nat.rec (fun _ _ _ => .err 300) (fun _ ih c => ta c p ih) n
def TN : Hp := .mk (.mk .nil (fun _ _ => .none)) (.mk .h0 .h0 .h0 .h0)
def rounds (k : Nat) (f : A2 → Hp → RS) : A2 → Hp → RS := wL (β := A2 → Hp → RS) (fun r h => .nm r h) (fun _ ih r h => RS.bind (f r h) ih (fun i r h => .ex i r h) (fun l r h => .go l r h)) k
def fg (v : RT) : Bool := RT.elim (fun v _ => AV.bn v (fun b => b) false) (fun _ => false) Lh v
end
end Go.Am
