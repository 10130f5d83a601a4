/- The abstract machine: its states, its operations, its run. Nothing is asked. -/
import GoSem.Core.Value
import GoSem.Core.Ast
import GoSem.Core.Float
import GoSem.Op.IntArith
import GoSem.Conv.StringToRunes
import GoSem.Core.Utf8
set_option linter.all false
namespace Go.Am
noncomputable section
inductive H where
 | h0 | h1 | h2 | h3 | h4 | h5 | h6 | h7 | h8 | h9 | ha | hb | hc | hd | he | hf
def H.succ (d : H) : H := H.rec H.h1 H.h2 H.h3 H.h4 H.h5 H.h6 H.h7 H.h8 H.h9 H.ha H.hb H.hc H.hd H.he H.hf H.h0 d
def H.last (d : H) : Bool := H.rec false false false false false false false false false false false false false false false true d
def H.nat (d : H) : Nat := H.rec 0 1 2 3 4 5 6 7 8 9 10 11 12 13 14 15 d
def dz (n : Nat) : H := (Nat.rec H.h0 (fun n1 _ => (Nat.rec H.h1 (fun n2 _ => (Nat.rec H.h2 (fun n3 _ => (Nat.rec H.h3 (fun n4 _ => (Nat.rec H.h4 (fun n5 _ => (Nat.rec H.h5 (fun n6 _ => (Nat.rec H.h6 (fun n7 _ => (Nat.rec H.h7 (fun n8 _ => (Nat.rec H.h8 (fun n9 _ => (Nat.rec H.h9 (fun n10 _ => (Nat.rec H.ha (fun n11 _ => (Nat.rec H.hb (fun n12 _ => (Nat.rec H.hc (fun n13 _ => (Nat.rec H.hd (fun n14 _ => (Nat.rec H.he (fun n15 _ => H.hf) n14)) n13)) n12)) n11)) n10)) n9)) n8)) n7)) n6)) n5)) n4)) n3)) n2)) n1)) n)
def dI {α β : Type} (n : β) (c : α → List α → β → β) (l : List α) : β := List.rec n c l
inductive P4 where
 | mk (a b c d : H)
 | eI (b o : Nat)
inductive AV where
 | undef
 | bool (b : Bool)
 | int (k : IntKind) (n : Int)
 | str (l : List Nat)
 | pX (k : FloatKind) (n : Nat)
 | gU (k : FloatKind) (re im : Nat)
 | ptr (i : P4) (off : Nat)
 | cL
 | slice (i : P4) (off len cap : Nat)
 | eR (i : P4) (off len es : Nat)
 | ai
 | map (i : P4)
 | lA
 | fn (f : Nat) (cs : List AV)
 | Ej
 | iface (t : Nat) (v : AV)
 | ym
 | agg (cs : List AV)
 | jx (vs : List AV)
 | sym (i : P4)
inductive KV where
 | mk (k v : AV) (born : Nat)
inductive A1 where
 | nil
 | mk (a0 a1 a2 a3 a4 a5 a6 a7 a8 a9 aa ab ac ad ae af : AV)
def A1.g0 (x : A1) : AV := A1.rec .undef (fun a0 a1 a2 a3 a4 a5 a6 a7 a8 a9 aa ab ac ad ae af => a0) x
def A1.g1 (x : A1) : AV := A1.rec .undef (fun a0 a1 a2 a3 a4 a5 a6 a7 a8 a9 aa ab ac ad ae af => a1) x
def A1.g2 (x : A1) : AV := A1.rec .undef (fun a0 a1 a2 a3 a4 a5 a6 a7 a8 a9 aa ab ac ad ae af => a2) x
def A1.g3 (x : A1) : AV := A1.rec .undef (fun a0 a1 a2 a3 a4 a5 a6 a7 a8 a9 aa ab ac ad ae af => a3) x
def A1.g4 (x : A1) : AV := A1.rec .undef (fun a0 a1 a2 a3 a4 a5 a6 a7 a8 a9 aa ab ac ad ae af => a4) x
def A1.g5 (x : A1) : AV := A1.rec .undef (fun a0 a1 a2 a3 a4 a5 a6 a7 a8 a9 aa ab ac ad ae af => a5) x
def A1.g6 (x : A1) : AV := A1.rec .undef (fun a0 a1 a2 a3 a4 a5 a6 a7 a8 a9 aa ab ac ad ae af => a6) x
def A1.g7 (x : A1) : AV := A1.rec .undef (fun a0 a1 a2 a3 a4 a5 a6 a7 a8 a9 aa ab ac ad ae af => a7) x
def A1.g8 (x : A1) : AV := A1.rec .undef (fun a0 a1 a2 a3 a4 a5 a6 a7 a8 a9 aa ab ac ad ae af => a8) x
def A1.g9 (x : A1) : AV := A1.rec .undef (fun a0 a1 a2 a3 a4 a5 a6 a7 a8 a9 aa ab ac ad ae af => a9) x
def A1.ga (x : A1) : AV := A1.rec .undef (fun a0 a1 a2 a3 a4 a5 a6 a7 a8 a9 aa ab ac ad ae af => aa) x
def A1.gb (x : A1) : AV := A1.rec .undef (fun a0 a1 a2 a3 a4 a5 a6 a7 a8 a9 aa ab ac ad ae af => ab) x
def A1.gc (x : A1) : AV := A1.rec .undef (fun a0 a1 a2 a3 a4 a5 a6 a7 a8 a9 aa ab ac ad ae af => ac) x
def A1.gd (x : A1) : AV := A1.rec .undef (fun a0 a1 a2 a3 a4 a5 a6 a7 a8 a9 aa ab ac ad ae af => ad) x
def A1.ge (x : A1) : AV := A1.rec .undef (fun a0 a1 a2 a3 a4 a5 a6 a7 a8 a9 aa ab ac ad ae af => ae) x
def A1.gf (x : A1) : AV := A1.rec .undef (fun a0 a1 a2 a3 a4 a5 a6 a7 a8 a9 aa ab ac ad ae af => af) x
def A1.get (d : H) : A1 → AV := H.rec (motive := fun _ => A1 → AV) A1.g0 A1.g1 A1.g2 A1.g3 A1.g4 A1.g5 A1.g6 A1.g7 A1.g8 A1.g9 A1.ga A1.gb A1.gc A1.gd A1.ge A1.gf d
def A1.s0 (v : AV) (x : A1) : A1 := A1.rec (motive := fun _ => AV → A1) (fun v => .mk v .undef .undef .undef .undef .undef .undef .undef .undef .undef .undef .undef .undef .undef .undef .undef) (fun a0 a1 a2 a3 a4 a5 a6 a7 a8 a9 aa ab ac ad ae af => fun v => .mk v a1 a2 a3 a4 a5 a6 a7 a8 a9 aa ab ac ad ae af) x v
def A1.s1 (v : AV) (x : A1) : A1 := A1.rec (motive := fun _ => AV → A1) (fun v => .mk .undef v .undef .undef .undef .undef .undef .undef .undef .undef .undef .undef .undef .undef .undef .undef) (fun a0 a1 a2 a3 a4 a5 a6 a7 a8 a9 aa ab ac ad ae af => fun v => .mk a0 v a2 a3 a4 a5 a6 a7 a8 a9 aa ab ac ad ae af) x v
def A1.s2 (v : AV) (x : A1) : A1 := A1.rec (motive := fun _ => AV → A1) (fun v => .mk .undef .undef v .undef .undef .undef .undef .undef .undef .undef .undef .undef .undef .undef .undef .undef) (fun a0 a1 a2 a3 a4 a5 a6 a7 a8 a9 aa ab ac ad ae af => fun v => .mk a0 a1 v a3 a4 a5 a6 a7 a8 a9 aa ab ac ad ae af) x v
def A1.s3 (v : AV) (x : A1) : A1 := A1.rec (motive := fun _ => AV → A1) (fun v => .mk .undef .undef .undef v .undef .undef .undef .undef .undef .undef .undef .undef .undef .undef .undef .undef) (fun a0 a1 a2 a3 a4 a5 a6 a7 a8 a9 aa ab ac ad ae af => fun v => .mk a0 a1 a2 v a4 a5 a6 a7 a8 a9 aa ab ac ad ae af) x v
def A1.s4 (v : AV) (x : A1) : A1 := A1.rec (motive := fun _ => AV → A1) (fun v => .mk .undef .undef .undef .undef v .undef .undef .undef .undef .undef .undef .undef .undef .undef .undef .undef) (fun a0 a1 a2 a3 a4 a5 a6 a7 a8 a9 aa ab ac ad ae af => fun v => .mk a0 a1 a2 a3 v a5 a6 a7 a8 a9 aa ab ac ad ae af) x v
def A1.s5 (v : AV) (x : A1) : A1 := A1.rec (motive := fun _ => AV → A1) (fun v => .mk .undef .undef .undef .undef .undef v .undef .undef .undef .undef .undef .undef .undef .undef .undef .undef) (fun a0 a1 a2 a3 a4 a5 a6 a7 a8 a9 aa ab ac ad ae af => fun v => .mk a0 a1 a2 a3 a4 v a6 a7 a8 a9 aa ab ac ad ae af) x v
def A1.s6 (v : AV) (x : A1) : A1 := A1.rec (motive := fun _ => AV → A1) (fun v => .mk .undef .undef .undef .undef .undef .undef v .undef .undef .undef .undef .undef .undef .undef .undef .undef) (fun a0 a1 a2 a3 a4 a5 a6 a7 a8 a9 aa ab ac ad ae af => fun v => .mk a0 a1 a2 a3 a4 a5 v a7 a8 a9 aa ab ac ad ae af) x v
def A1.s7 (v : AV) (x : A1) : A1 := A1.rec (motive := fun _ => AV → A1) (fun v => .mk .undef .undef .undef .undef .undef .undef .undef v .undef .undef .undef .undef .undef .undef .undef .undef) (fun a0 a1 a2 a3 a4 a5 a6 a7 a8 a9 aa ab ac ad ae af => fun v => .mk a0 a1 a2 a3 a4 a5 a6 v a8 a9 aa ab ac ad ae af) x v
def A1.s8 (v : AV) (x : A1) : A1 := A1.rec (motive := fun _ => AV → A1) (fun v => .mk .undef .undef .undef .undef .undef .undef .undef .undef v .undef .undef .undef .undef .undef .undef .undef) (fun a0 a1 a2 a3 a4 a5 a6 a7 a8 a9 aa ab ac ad ae af => fun v => .mk a0 a1 a2 a3 a4 a5 a6 a7 v a9 aa ab ac ad ae af) x v
def A1.s9 (v : AV) (x : A1) : A1 := A1.rec (motive := fun _ => AV → A1) (fun v => .mk .undef .undef .undef .undef .undef .undef .undef .undef .undef v .undef .undef .undef .undef .undef .undef) (fun a0 a1 a2 a3 a4 a5 a6 a7 a8 a9 aa ab ac ad ae af => fun v => .mk a0 a1 a2 a3 a4 a5 a6 a7 a8 v aa ab ac ad ae af) x v
def A1.sa (v : AV) (x : A1) : A1 := A1.rec (motive := fun _ => AV → A1) (fun v => .mk .undef .undef .undef .undef .undef .undef .undef .undef .undef .undef v .undef .undef .undef .undef .undef) (fun a0 a1 a2 a3 a4 a5 a6 a7 a8 a9 aa ab ac ad ae af => fun v => .mk a0 a1 a2 a3 a4 a5 a6 a7 a8 a9 v ab ac ad ae af) x v
def A1.sb (v : AV) (x : A1) : A1 := A1.rec (motive := fun _ => AV → A1) (fun v => .mk .undef .undef .undef .undef .undef .undef .undef .undef .undef .undef .undef v .undef .undef .undef .undef) (fun a0 a1 a2 a3 a4 a5 a6 a7 a8 a9 aa ab ac ad ae af => fun v => .mk a0 a1 a2 a3 a4 a5 a6 a7 a8 a9 aa v ac ad ae af) x v
def A1.sc (v : AV) (x : A1) : A1 := A1.rec (motive := fun _ => AV → A1) (fun v => .mk .undef .undef .undef .undef .undef .undef .undef .undef .undef .undef .undef .undef v .undef .undef .undef) (fun a0 a1 a2 a3 a4 a5 a6 a7 a8 a9 aa ab ac ad ae af => fun v => .mk a0 a1 a2 a3 a4 a5 a6 a7 a8 a9 aa ab v ad ae af) x v
def A1.sd (v : AV) (x : A1) : A1 := A1.rec (motive := fun _ => AV → A1) (fun v => .mk .undef .undef .undef .undef .undef .undef .undef .undef .undef .undef .undef .undef .undef v .undef .undef) (fun a0 a1 a2 a3 a4 a5 a6 a7 a8 a9 aa ab ac ad ae af => fun v => .mk a0 a1 a2 a3 a4 a5 a6 a7 a8 a9 aa ab ac v ae af) x v
def A1.se (v : AV) (x : A1) : A1 := A1.rec (motive := fun _ => AV → A1) (fun v => .mk .undef .undef .undef .undef .undef .undef .undef .undef .undef .undef .undef .undef .undef .undef v .undef) (fun a0 a1 a2 a3 a4 a5 a6 a7 a8 a9 aa ab ac ad ae af => fun v => .mk a0 a1 a2 a3 a4 a5 a6 a7 a8 a9 aa ab ac ad v af) x v
def A1.sf (v : AV) (x : A1) : A1 := A1.rec (motive := fun _ => AV → A1) (fun v => .mk .undef .undef .undef .undef .undef .undef .undef .undef .undef .undef .undef .undef .undef .undef .undef v) (fun a0 a1 a2 a3 a4 a5 a6 a7 a8 a9 aa ab ac ad ae af => fun v => .mk a0 a1 a2 a3 a4 a5 a6 a7 a8 a9 aa ab ac ad ae v) x v
def A1.set (d : H) : AV → A1 → A1 := H.rec (motive := fun _ => AV → A1 → A1) A1.s0 A1.s1 A1.s2 A1.s3 A1.s4 A1.s5 A1.s6 A1.s7 A1.s8 A1.s9 A1.sa A1.sb A1.sc A1.sd A1.se A1.sf d
inductive A2 where
 | nil
 | mk (a0 a1 a2 a3 a4 a5 a6 a7 a8 a9 aa ab ac ad ae af : A1)
def A2.g0 (x : A2) : A1 := A2.rec .nil (fun a0 a1 a2 a3 a4 a5 a6 a7 a8 a9 aa ab ac ad ae af => a0) x
def A2.g1 (x : A2) : A1 := A2.rec .nil (fun a0 a1 a2 a3 a4 a5 a6 a7 a8 a9 aa ab ac ad ae af => a1) x
def A2.g2 (x : A2) : A1 := A2.rec .nil (fun a0 a1 a2 a3 a4 a5 a6 a7 a8 a9 aa ab ac ad ae af => a2) x
def A2.g3 (x : A2) : A1 := A2.rec .nil (fun a0 a1 a2 a3 a4 a5 a6 a7 a8 a9 aa ab ac ad ae af => a3) x
def A2.g4 (x : A2) : A1 := A2.rec .nil (fun a0 a1 a2 a3 a4 a5 a6 a7 a8 a9 aa ab ac ad ae af => a4) x
def A2.g5 (x : A2) : A1 := A2.rec .nil (fun a0 a1 a2 a3 a4 a5 a6 a7 a8 a9 aa ab ac ad ae af => a5) x
def A2.g6 (x : A2) : A1 := A2.rec .nil (fun a0 a1 a2 a3 a4 a5 a6 a7 a8 a9 aa ab ac ad ae af => a6) x
def A2.g7 (x : A2) : A1 := A2.rec .nil (fun a0 a1 a2 a3 a4 a5 a6 a7 a8 a9 aa ab ac ad ae af => a7) x
def A2.g8 (x : A2) : A1 := A2.rec .nil (fun a0 a1 a2 a3 a4 a5 a6 a7 a8 a9 aa ab ac ad ae af => a8) x
def A2.g9 (x : A2) : A1 := A2.rec .nil (fun a0 a1 a2 a3 a4 a5 a6 a7 a8 a9 aa ab ac ad ae af => a9) x
def A2.ga (x : A2) : A1 := A2.rec .nil (fun a0 a1 a2 a3 a4 a5 a6 a7 a8 a9 aa ab ac ad ae af => aa) x
def A2.gb (x : A2) : A1 := A2.rec .nil (fun a0 a1 a2 a3 a4 a5 a6 a7 a8 a9 aa ab ac ad ae af => ab) x
def A2.gc (x : A2) : A1 := A2.rec .nil (fun a0 a1 a2 a3 a4 a5 a6 a7 a8 a9 aa ab ac ad ae af => ac) x
def A2.gd (x : A2) : A1 := A2.rec .nil (fun a0 a1 a2 a3 a4 a5 a6 a7 a8 a9 aa ab ac ad ae af => ad) x
def A2.ge (x : A2) : A1 := A2.rec .nil (fun a0 a1 a2 a3 a4 a5 a6 a7 a8 a9 aa ab ac ad ae af => ae) x
def A2.gf (x : A2) : A1 := A2.rec .nil (fun a0 a1 a2 a3 a4 a5 a6 a7 a8 a9 aa ab ac ad ae af => af) x
def A2.get (d : H) : A2 → A1 := H.rec (motive := fun _ => A2 → A1) A2.g0 A2.g1 A2.g2 A2.g3 A2.g4 A2.g5 A2.g6 A2.g7 A2.g8 A2.g9 A2.ga A2.gb A2.gc A2.gd A2.ge A2.gf d
def A2.s0 (v : A1) (x : A2) : A2 := A2.rec (motive := fun _ => A1 → A2) (fun v => .mk v .nil .nil .nil .nil .nil .nil .nil .nil .nil .nil .nil .nil .nil .nil .nil) (fun a0 a1 a2 a3 a4 a5 a6 a7 a8 a9 aa ab ac ad ae af => fun v => .mk v a1 a2 a3 a4 a5 a6 a7 a8 a9 aa ab ac ad ae af) x v
def A2.s1 (v : A1) (x : A2) : A2 := A2.rec (motive := fun _ => A1 → A2) (fun v => .mk .nil v .nil .nil .nil .nil .nil .nil .nil .nil .nil .nil .nil .nil .nil .nil) (fun a0 a1 a2 a3 a4 a5 a6 a7 a8 a9 aa ab ac ad ae af => fun v => .mk a0 v a2 a3 a4 a5 a6 a7 a8 a9 aa ab ac ad ae af) x v
def A2.s2 (v : A1) (x : A2) : A2 := A2.rec (motive := fun _ => A1 → A2) (fun v => .mk .nil .nil v .nil .nil .nil .nil .nil .nil .nil .nil .nil .nil .nil .nil .nil) (fun a0 a1 a2 a3 a4 a5 a6 a7 a8 a9 aa ab ac ad ae af => fun v => .mk a0 a1 v a3 a4 a5 a6 a7 a8 a9 aa ab ac ad ae af) x v
def A2.s3 (v : A1) (x : A2) : A2 := A2.rec (motive := fun _ => A1 → A2) (fun v => .mk .nil .nil .nil v .nil .nil .nil .nil .nil .nil .nil .nil .nil .nil .nil .nil) (fun a0 a1 a2 a3 a4 a5 a6 a7 a8 a9 aa ab ac ad ae af => fun v => .mk a0 a1 a2 v a4 a5 a6 a7 a8 a9 aa ab ac ad ae af) x v
def A2.s4 (v : A1) (x : A2) : A2 := A2.rec (motive := fun _ => A1 → A2) (fun v => .mk .nil .nil .nil .nil v .nil .nil .nil .nil .nil .nil .nil .nil .nil .nil .nil) (fun a0 a1 a2 a3 a4 a5 a6 a7 a8 a9 aa ab ac ad ae af => fun v => .mk a0 a1 a2 a3 v a5 a6 a7 a8 a9 aa ab ac ad ae af) x v
def A2.s5 (v : A1) (x : A2) : A2 := A2.rec (motive := fun _ => A1 → A2) (fun v => .mk .nil .nil .nil .nil .nil v .nil .nil .nil .nil .nil .nil .nil .nil .nil .nil) (fun a0 a1 a2 a3 a4 a5 a6 a7 a8 a9 aa ab ac ad ae af => fun v => .mk a0 a1 a2 a3 a4 v a6 a7 a8 a9 aa ab ac ad ae af) x v
def A2.s6 (v : A1) (x : A2) : A2 := A2.rec (motive := fun _ => A1 → A2) (fun v => .mk .nil .nil .nil .nil .nil .nil v .nil .nil .nil .nil .nil .nil .nil .nil .nil) (fun a0 a1 a2 a3 a4 a5 a6 a7 a8 a9 aa ab ac ad ae af => fun v => .mk a0 a1 a2 a3 a4 a5 v a7 a8 a9 aa ab ac ad ae af) x v
def A2.s7 (v : A1) (x : A2) : A2 := A2.rec (motive := fun _ => A1 → A2) (fun v => .mk .nil .nil .nil .nil .nil .nil .nil v .nil .nil .nil .nil .nil .nil .nil .nil) (fun a0 a1 a2 a3 a4 a5 a6 a7 a8 a9 aa ab ac ad ae af => fun v => .mk a0 a1 a2 a3 a4 a5 a6 v a8 a9 aa ab ac ad ae af) x v
def A2.s8 (v : A1) (x : A2) : A2 := A2.rec (motive := fun _ => A1 → A2) (fun v => .mk .nil .nil .nil .nil .nil .nil .nil .nil v .nil .nil .nil .nil .nil .nil .nil) (fun a0 a1 a2 a3 a4 a5 a6 a7 a8 a9 aa ab ac ad ae af => fun v => .mk a0 a1 a2 a3 a4 a5 a6 a7 v a9 aa ab ac ad ae af) x v
def A2.s9 (v : A1) (x : A2) : A2 := A2.rec (motive := fun _ => A1 → A2) (fun v => .mk .nil .nil .nil .nil .nil .nil .nil .nil .nil v .nil .nil .nil .nil .nil .nil) (fun a0 a1 a2 a3 a4 a5 a6 a7 a8 a9 aa ab ac ad ae af => fun v => .mk a0 a1 a2 a3 a4 a5 a6 a7 a8 v aa ab ac ad ae af) x v
def A2.sa (v : A1) (x : A2) : A2 := A2.rec (motive := fun _ => A1 → A2) (fun v => .mk .nil .nil .nil .nil .nil .nil .nil .nil .nil .nil v .nil .nil .nil .nil .nil) (fun a0 a1 a2 a3 a4 a5 a6 a7 a8 a9 aa ab ac ad ae af => fun v => .mk a0 a1 a2 a3 a4 a5 a6 a7 a8 a9 v ab ac ad ae af) x v
def A2.sb (v : A1) (x : A2) : A2 := A2.rec (motive := fun _ => A1 → A2) (fun v => .mk .nil .nil .nil .nil .nil .nil .nil .nil .nil .nil .nil v .nil .nil .nil .nil) (fun a0 a1 a2 a3 a4 a5 a6 a7 a8 a9 aa ab ac ad ae af => fun v => .mk a0 a1 a2 a3 a4 a5 a6 a7 a8 a9 aa v ac ad ae af) x v
def A2.sc (v : A1) (x : A2) : A2 := A2.rec (motive := fun _ => A1 → A2) (fun v => .mk .nil .nil .nil .nil .nil .nil .nil .nil .nil .nil .nil .nil v .nil .nil .nil) (fun a0 a1 a2 a3 a4 a5 a6 a7 a8 a9 aa ab ac ad ae af => fun v => .mk a0 a1 a2 a3 a4 a5 a6 a7 a8 a9 aa ab v ad ae af) x v
def A2.sd (v : A1) (x : A2) : A2 := A2.rec (motive := fun _ => A1 → A2) (fun v => .mk .nil .nil .nil .nil .nil .nil .nil .nil .nil .nil .nil .nil .nil v .nil .nil) (fun a0 a1 a2 a3 a4 a5 a6 a7 a8 a9 aa ab ac ad ae af => fun v => .mk a0 a1 a2 a3 a4 a5 a6 a7 a8 a9 aa ab ac v ae af) x v
def A2.se (v : A1) (x : A2) : A2 := A2.rec (motive := fun _ => A1 → A2) (fun v => .mk .nil .nil .nil .nil .nil .nil .nil .nil .nil .nil .nil .nil .nil .nil v .nil) (fun a0 a1 a2 a3 a4 a5 a6 a7 a8 a9 aa ab ac ad ae af => fun v => .mk a0 a1 a2 a3 a4 a5 a6 a7 a8 a9 aa ab ac ad v af) x v
def A2.sf (v : A1) (x : A2) : A2 := A2.rec (motive := fun _ => A1 → A2) (fun v => .mk .nil .nil .nil .nil .nil .nil .nil .nil .nil .nil .nil .nil .nil .nil .nil v) (fun a0 a1 a2 a3 a4 a5 a6 a7 a8 a9 aa ab ac ad ae af => fun v => .mk a0 a1 a2 a3 a4 a5 a6 a7 a8 a9 aa ab ac ad ae v) x v
def A2.set (d : H) : A1 → A2 → A2 := H.rec (motive := fun _ => A1 → A2 → A2) A2.s0 A2.s1 A2.s2 A2.s3 A2.s4 A2.s5 A2.s6 A2.s7 A2.s8 A2.s9 A2.sa A2.sb A2.sc A2.sd A2.se A2.sf d
inductive A3 where
 | nil
 | mk (a0 a1 a2 a3 a4 a5 a6 a7 a8 a9 aa ab ac ad ae af : A2)
def A3.g0 (x : A3) : A2 := A3.rec .nil (fun a0 a1 a2 a3 a4 a5 a6 a7 a8 a9 aa ab ac ad ae af => a0) x
def A3.g1 (x : A3) : A2 := A3.rec .nil (fun a0 a1 a2 a3 a4 a5 a6 a7 a8 a9 aa ab ac ad ae af => a1) x
def A3.g2 (x : A3) : A2 := A3.rec .nil (fun a0 a1 a2 a3 a4 a5 a6 a7 a8 a9 aa ab ac ad ae af => a2) x
def A3.g3 (x : A3) : A2 := A3.rec .nil (fun a0 a1 a2 a3 a4 a5 a6 a7 a8 a9 aa ab ac ad ae af => a3) x
def A3.g4 (x : A3) : A2 := A3.rec .nil (fun a0 a1 a2 a3 a4 a5 a6 a7 a8 a9 aa ab ac ad ae af => a4) x
def A3.g5 (x : A3) : A2 := A3.rec .nil (fun a0 a1 a2 a3 a4 a5 a6 a7 a8 a9 aa ab ac ad ae af => a5) x
def A3.g6 (x : A3) : A2 := A3.rec .nil (fun a0 a1 a2 a3 a4 a5 a6 a7 a8 a9 aa ab ac ad ae af => a6) x
def A3.g7 (x : A3) : A2 := A3.rec .nil (fun a0 a1 a2 a3 a4 a5 a6 a7 a8 a9 aa ab ac ad ae af => a7) x
def A3.g8 (x : A3) : A2 := A3.rec .nil (fun a0 a1 a2 a3 a4 a5 a6 a7 a8 a9 aa ab ac ad ae af => a8) x
def A3.g9 (x : A3) : A2 := A3.rec .nil (fun a0 a1 a2 a3 a4 a5 a6 a7 a8 a9 aa ab ac ad ae af => a9) x
def A3.ga (x : A3) : A2 := A3.rec .nil (fun a0 a1 a2 a3 a4 a5 a6 a7 a8 a9 aa ab ac ad ae af => aa) x
def A3.gb (x : A3) : A2 := A3.rec .nil (fun a0 a1 a2 a3 a4 a5 a6 a7 a8 a9 aa ab ac ad ae af => ab) x
def A3.gc (x : A3) : A2 := A3.rec .nil (fun a0 a1 a2 a3 a4 a5 a6 a7 a8 a9 aa ab ac ad ae af => ac) x
def A3.gd (x : A3) : A2 := A3.rec .nil (fun a0 a1 a2 a3 a4 a5 a6 a7 a8 a9 aa ab ac ad ae af => ad) x
def A3.ge (x : A3) : A2 := A3.rec .nil (fun a0 a1 a2 a3 a4 a5 a6 a7 a8 a9 aa ab ac ad ae af => ae) x
def A3.gf (x : A3) : A2 := A3.rec .nil (fun a0 a1 a2 a3 a4 a5 a6 a7 a8 a9 aa ab ac ad ae af => af) x
def A3.get (d : H) : A3 → A2 := H.rec (motive := fun _ => A3 → A2) A3.g0 A3.g1 A3.g2 A3.g3 A3.g4 A3.g5 A3.g6 A3.g7 A3.g8 A3.g9 A3.ga A3.gb A3.gc A3.gd A3.ge A3.gf d
def A3.s0 (v : A2) (x : A3) : A3 := A3.rec (motive := fun _ => A2 → A3) (fun v => .mk v .nil .nil .nil .nil .nil .nil .nil .nil .nil .nil .nil .nil .nil .nil .nil) (fun a0 a1 a2 a3 a4 a5 a6 a7 a8 a9 aa ab ac ad ae af => fun v => .mk v a1 a2 a3 a4 a5 a6 a7 a8 a9 aa ab ac ad ae af) x v
def A3.s1 (v : A2) (x : A3) : A3 := A3.rec (motive := fun _ => A2 → A3) (fun v => .mk .nil v .nil .nil .nil .nil .nil .nil .nil .nil .nil .nil .nil .nil .nil .nil) (fun a0 a1 a2 a3 a4 a5 a6 a7 a8 a9 aa ab ac ad ae af => fun v => .mk a0 v a2 a3 a4 a5 a6 a7 a8 a9 aa ab ac ad ae af) x v
def A3.s2 (v : A2) (x : A3) : A3 := A3.rec (motive := fun _ => A2 → A3) (fun v => .mk .nil .nil v .nil .nil .nil .nil .nil .nil .nil .nil .nil .nil .nil .nil .nil) (fun a0 a1 a2 a3 a4 a5 a6 a7 a8 a9 aa ab ac ad ae af => fun v => .mk a0 a1 v a3 a4 a5 a6 a7 a8 a9 aa ab ac ad ae af) x v
def A3.s3 (v : A2) (x : A3) : A3 := A3.rec (motive := fun _ => A2 → A3) (fun v => .mk .nil .nil .nil v .nil .nil .nil .nil .nil .nil .nil .nil .nil .nil .nil .nil) (fun a0 a1 a2 a3 a4 a5 a6 a7 a8 a9 aa ab ac ad ae af => fun v => .mk a0 a1 a2 v a4 a5 a6 a7 a8 a9 aa ab ac ad ae af) x v
def A3.s4 (v : A2) (x : A3) : A3 := A3.rec (motive := fun _ => A2 → A3) (fun v => .mk .nil .nil .nil .nil v .nil .nil .nil .nil .nil .nil .nil .nil .nil .nil .nil) (fun a0 a1 a2 a3 a4 a5 a6 a7 a8 a9 aa ab ac ad ae af => fun v => .mk a0 a1 a2 a3 v a5 a6 a7 a8 a9 aa ab ac ad ae af) x v
def A3.s5 (v : A2) (x : A3) : A3 := A3.rec (motive := fun _ => A2 → A3) (fun v => .mk .nil .nil .nil .nil .nil v .nil .nil .nil .nil .nil .nil .nil .nil .nil .nil) (fun a0 a1 a2 a3 a4 a5 a6 a7 a8 a9 aa ab ac ad ae af => fun v => .mk a0 a1 a2 a3 a4 v a6 a7 a8 a9 aa ab ac ad ae af) x v
def A3.s6 (v : A2) (x : A3) : A3 := A3.rec (motive := fun _ => A2 → A3) (fun v => .mk .nil .nil .nil .nil .nil .nil v .nil .nil .nil .nil .nil .nil .nil .nil .nil) (fun a0 a1 a2 a3 a4 a5 a6 a7 a8 a9 aa ab ac ad ae af => fun v => .mk a0 a1 a2 a3 a4 a5 v a7 a8 a9 aa ab ac ad ae af) x v
def A3.s7 (v : A2) (x : A3) : A3 := A3.rec (motive := fun _ => A2 → A3) (fun v => .mk .nil .nil .nil .nil .nil .nil .nil v .nil .nil .nil .nil .nil .nil .nil .nil) (fun a0 a1 a2 a3 a4 a5 a6 a7 a8 a9 aa ab ac ad ae af => fun v => .mk a0 a1 a2 a3 a4 a5 a6 v a8 a9 aa ab ac ad ae af) x v
def A3.s8 (v : A2) (x : A3) : A3 := A3.rec (motive := fun _ => A2 → A3) (fun v => .mk .nil .nil .nil .nil .nil .nil .nil .nil v .nil .nil .nil .nil .nil .nil .nil) (fun a0 a1 a2 a3 a4 a5 a6 a7 a8 a9 aa ab ac ad ae af => fun v => .mk a0 a1 a2 a3 a4 a5 a6 a7 v a9 aa ab ac ad ae af) x v
def A3.s9 (v : A2) (x : A3) : A3 := A3.rec (motive := fun _ => A2 → A3) (fun v => .mk .nil .nil .nil .nil .nil .nil .nil .nil .nil v .nil .nil .nil .nil .nil .nil) (fun a0 a1 a2 a3 a4 a5 a6 a7 a8 a9 aa ab ac ad ae af => fun v => .mk a0 a1 a2 a3 a4 a5 a6 a7 a8 v aa ab ac ad ae af) x v
def A3.sa (v : A2) (x : A3) : A3 := A3.rec (motive := fun _ => A2 → A3) (fun v => .mk .nil .nil .nil .nil .nil .nil .nil .nil .nil .nil v .nil .nil .nil .nil .nil) (fun a0 a1 a2 a3 a4 a5 a6 a7 a8 a9 aa ab ac ad ae af => fun v => .mk a0 a1 a2 a3 a4 a5 a6 a7 a8 a9 v ab ac ad ae af) x v
def A3.sb (v : A2) (x : A3) : A3 := A3.rec (motive := fun _ => A2 → A3) (fun v => .mk .nil .nil .nil .nil .nil .nil .nil .nil .nil .nil .nil v .nil .nil .nil .nil) (fun a0 a1 a2 a3 a4 a5 a6 a7 a8 a9 aa ab ac ad ae af => fun v => .mk a0 a1 a2 a3 a4 a5 a6 a7 a8 a9 aa v ac ad ae af) x v
def A3.sc (v : A2) (x : A3) : A3 := A3.rec (motive := fun _ => A2 → A3) (fun v => .mk .nil .nil .nil .nil .nil .nil .nil .nil .nil .nil .nil .nil v .nil .nil .nil) (fun a0 a1 a2 a3 a4 a5 a6 a7 a8 a9 aa ab ac ad ae af => fun v => .mk a0 a1 a2 a3 a4 a5 a6 a7 a8 a9 aa ab v ad ae af) x v
def A3.sd (v : A2) (x : A3) : A3 := A3.rec (motive := fun _ => A2 → A3) (fun v => .mk .nil .nil .nil .nil .nil .nil .nil .nil .nil .nil .nil .nil .nil v .nil .nil) (fun a0 a1 a2 a3 a4 a5 a6 a7 a8 a9 aa ab ac ad ae af => fun v => .mk a0 a1 a2 a3 a4 a5 a6 a7 a8 a9 aa ab ac v ae af) x v
def A3.se (v : A2) (x : A3) : A3 := A3.rec (motive := fun _ => A2 → A3) (fun v => .mk .nil .nil .nil .nil .nil .nil .nil .nil .nil .nil .nil .nil .nil .nil v .nil) (fun a0 a1 a2 a3 a4 a5 a6 a7 a8 a9 aa ab ac ad ae af => fun v => .mk a0 a1 a2 a3 a4 a5 a6 a7 a8 a9 aa ab ac ad v af) x v
def A3.sf (v : A2) (x : A3) : A3 := A3.rec (motive := fun _ => A2 → A3) (fun v => .mk .nil .nil .nil .nil .nil .nil .nil .nil .nil .nil .nil .nil .nil .nil .nil v) (fun a0 a1 a2 a3 a4 a5 a6 a7 a8 a9 aa ab ac ad ae af => fun v => .mk a0 a1 a2 a3 a4 a5 a6 a7 a8 a9 aa ab ac ad ae v) x v
def A3.set (d : H) : A2 → A3 → A3 := H.rec (motive := fun _ => A2 → A3 → A3) A3.s0 A3.s1 A3.s2 A3.s3 A3.s4 A3.s5 A3.s6 A3.s7 A3.s8 A3.s9 A3.sa A3.sb A3.sc A3.sd A3.se A3.sf d
inductive A4 where
 | nil
 | mk (a0 a1 a2 a3 a4 a5 a6 a7 a8 a9 aa ab ac ad ae af : A3)
def A4.g0 (x : A4) : A3 := A4.rec .nil (fun a0 a1 a2 a3 a4 a5 a6 a7 a8 a9 aa ab ac ad ae af => a0) x
def A4.g1 (x : A4) : A3 := A4.rec .nil (fun a0 a1 a2 a3 a4 a5 a6 a7 a8 a9 aa ab ac ad ae af => a1) x
def A4.g2 (x : A4) : A3 := A4.rec .nil (fun a0 a1 a2 a3 a4 a5 a6 a7 a8 a9 aa ab ac ad ae af => a2) x
def A4.g3 (x : A4) : A3 := A4.rec .nil (fun a0 a1 a2 a3 a4 a5 a6 a7 a8 a9 aa ab ac ad ae af => a3) x
def A4.g4 (x : A4) : A3 := A4.rec .nil (fun a0 a1 a2 a3 a4 a5 a6 a7 a8 a9 aa ab ac ad ae af => a4) x
def A4.g5 (x : A4) : A3 := A4.rec .nil (fun a0 a1 a2 a3 a4 a5 a6 a7 a8 a9 aa ab ac ad ae af => a5) x
def A4.g6 (x : A4) : A3 := A4.rec .nil (fun a0 a1 a2 a3 a4 a5 a6 a7 a8 a9 aa ab ac ad ae af => a6) x
def A4.g7 (x : A4) : A3 := A4.rec .nil (fun a0 a1 a2 a3 a4 a5 a6 a7 a8 a9 aa ab ac ad ae af => a7) x
def A4.g8 (x : A4) : A3 := A4.rec .nil (fun a0 a1 a2 a3 a4 a5 a6 a7 a8 a9 aa ab ac ad ae af => a8) x
def A4.g9 (x : A4) : A3 := A4.rec .nil (fun a0 a1 a2 a3 a4 a5 a6 a7 a8 a9 aa ab ac ad ae af => a9) x
def A4.ga (x : A4) : A3 := A4.rec .nil (fun a0 a1 a2 a3 a4 a5 a6 a7 a8 a9 aa ab ac ad ae af => aa) x
def A4.gb (x : A4) : A3 := A4.rec .nil (fun a0 a1 a2 a3 a4 a5 a6 a7 a8 a9 aa ab ac ad ae af => ab) x
def A4.gc (x : A4) : A3 := A4.rec .nil (fun a0 a1 a2 a3 a4 a5 a6 a7 a8 a9 aa ab ac ad ae af => ac) x
def A4.gd (x : A4) : A3 := A4.rec .nil (fun a0 a1 a2 a3 a4 a5 a6 a7 a8 a9 aa ab ac ad ae af => ad) x
def A4.ge (x : A4) : A3 := A4.rec .nil (fun a0 a1 a2 a3 a4 a5 a6 a7 a8 a9 aa ab ac ad ae af => ae) x
def A4.gf (x : A4) : A3 := A4.rec .nil (fun a0 a1 a2 a3 a4 a5 a6 a7 a8 a9 aa ab ac ad ae af => af) x
def A4.get (d : H) : A4 → A3 := H.rec (motive := fun _ => A4 → A3) A4.g0 A4.g1 A4.g2 A4.g3 A4.g4 A4.g5 A4.g6 A4.g7 A4.g8 A4.g9 A4.ga A4.gb A4.gc A4.gd A4.ge A4.gf d
def A4.s0 (v : A3) (x : A4) : A4 := A4.rec (motive := fun _ => A3 → A4) (fun v => .mk v .nil .nil .nil .nil .nil .nil .nil .nil .nil .nil .nil .nil .nil .nil .nil) (fun a0 a1 a2 a3 a4 a5 a6 a7 a8 a9 aa ab ac ad ae af => fun v => .mk v a1 a2 a3 a4 a5 a6 a7 a8 a9 aa ab ac ad ae af) x v
def A4.s1 (v : A3) (x : A4) : A4 := A4.rec (motive := fun _ => A3 → A4) (fun v => .mk .nil v .nil .nil .nil .nil .nil .nil .nil .nil .nil .nil .nil .nil .nil .nil) (fun a0 a1 a2 a3 a4 a5 a6 a7 a8 a9 aa ab ac ad ae af => fun v => .mk a0 v a2 a3 a4 a5 a6 a7 a8 a9 aa ab ac ad ae af) x v
def A4.s2 (v : A3) (x : A4) : A4 := A4.rec (motive := fun _ => A3 → A4) (fun v => .mk .nil .nil v .nil .nil .nil .nil .nil .nil .nil .nil .nil .nil .nil .nil .nil) (fun a0 a1 a2 a3 a4 a5 a6 a7 a8 a9 aa ab ac ad ae af => fun v => .mk a0 a1 v a3 a4 a5 a6 a7 a8 a9 aa ab ac ad ae af) x v
def A4.s3 (v : A3) (x : A4) : A4 := A4.rec (motive := fun _ => A3 → A4) (fun v => .mk .nil .nil .nil v .nil .nil .nil .nil .nil .nil .nil .nil .nil .nil .nil .nil) (fun a0 a1 a2 a3 a4 a5 a6 a7 a8 a9 aa ab ac ad ae af => fun v => .mk a0 a1 a2 v a4 a5 a6 a7 a8 a9 aa ab ac ad ae af) x v
def A4.s4 (v : A3) (x : A4) : A4 := A4.rec (motive := fun _ => A3 → A4) (fun v => .mk .nil .nil .nil .nil v .nil .nil .nil .nil .nil .nil .nil .nil .nil .nil .nil) (fun a0 a1 a2 a3 a4 a5 a6 a7 a8 a9 aa ab ac ad ae af => fun v => .mk a0 a1 a2 a3 v a5 a6 a7 a8 a9 aa ab ac ad ae af) x v
def A4.s5 (v : A3) (x : A4) : A4 := A4.rec (motive := fun _ => A3 → A4) (fun v => .mk .nil .nil .nil .nil .nil v .nil .nil .nil .nil .nil .nil .nil .nil .nil .nil) (fun a0 a1 a2 a3 a4 a5 a6 a7 a8 a9 aa ab ac ad ae af => fun v => .mk a0 a1 a2 a3 a4 v a6 a7 a8 a9 aa ab ac ad ae af) x v
def A4.s6 (v : A3) (x : A4) : A4 := A4.rec (motive := fun _ => A3 → A4) (fun v => .mk .nil .nil .nil .nil .nil .nil v .nil .nil .nil .nil .nil .nil .nil .nil .nil) (fun a0 a1 a2 a3 a4 a5 a6 a7 a8 a9 aa ab ac ad ae af => fun v => .mk a0 a1 a2 a3 a4 a5 v a7 a8 a9 aa ab ac ad ae af) x v
def A4.s7 (v : A3) (x : A4) : A4 := A4.rec (motive := fun _ => A3 → A4) (fun v => .mk .nil .nil .nil .nil .nil .nil .nil v .nil .nil .nil .nil .nil .nil .nil .nil) (fun a0 a1 a2 a3 a4 a5 a6 a7 a8 a9 aa ab ac ad ae af => fun v => .mk a0 a1 a2 a3 a4 a5 a6 v a8 a9 aa ab ac ad ae af) x v
def A4.s8 (v : A3) (x : A4) : A4 := A4.rec (motive := fun _ => A3 → A4) (fun v => .mk .nil .nil .nil .nil .nil .nil .nil .nil v .nil .nil .nil .nil .nil .nil .nil) (fun a0 a1 a2 a3 a4 a5 a6 a7 a8 a9 aa ab ac ad ae af => fun v => .mk a0 a1 a2 a3 a4 a5 a6 a7 v a9 aa ab ac ad ae af) x v
def A4.s9 (v : A3) (x : A4) : A4 := A4.rec (motive := fun _ => A3 → A4) (fun v => .mk .nil .nil .nil .nil .nil .nil .nil .nil .nil v .nil .nil .nil .nil .nil .nil) (fun a0 a1 a2 a3 a4 a5 a6 a7 a8 a9 aa ab ac ad ae af => fun v => .mk a0 a1 a2 a3 a4 a5 a6 a7 a8 v aa ab ac ad ae af) x v
def A4.sa (v : A3) (x : A4) : A4 := A4.rec (motive := fun _ => A3 → A4) (fun v => .mk .nil .nil .nil .nil .nil .nil .nil .nil .nil .nil v .nil .nil .nil .nil .nil) (fun a0 a1 a2 a3 a4 a5 a6 a7 a8 a9 aa ab ac ad ae af => fun v => .mk a0 a1 a2 a3 a4 a5 a6 a7 a8 a9 v ab ac ad ae af) x v
def A4.sb (v : A3) (x : A4) : A4 := A4.rec (motive := fun _ => A3 → A4) (fun v => .mk .nil .nil .nil .nil .nil .nil .nil .nil .nil .nil .nil v .nil .nil .nil .nil) (fun a0 a1 a2 a3 a4 a5 a6 a7 a8 a9 aa ab ac ad ae af => fun v => .mk a0 a1 a2 a3 a4 a5 a6 a7 a8 a9 aa v ac ad ae af) x v
def A4.sc (v : A3) (x : A4) : A4 := A4.rec (motive := fun _ => A3 → A4) (fun v => .mk .nil .nil .nil .nil .nil .nil .nil .nil .nil .nil .nil .nil v .nil .nil .nil) (fun a0 a1 a2 a3 a4 a5 a6 a7 a8 a9 aa ab ac ad ae af => fun v => .mk a0 a1 a2 a3 a4 a5 a6 a7 a8 a9 aa ab v ad ae af) x v
def A4.sd (v : A3) (x : A4) : A4 := A4.rec (motive := fun _ => A3 → A4) (fun v => .mk .nil .nil .nil .nil .nil .nil .nil .nil .nil .nil .nil .nil .nil v .nil .nil) (fun a0 a1 a2 a3 a4 a5 a6 a7 a8 a9 aa ab ac ad ae af => fun v => .mk a0 a1 a2 a3 a4 a5 a6 a7 a8 a9 aa ab ac v ae af) x v
def A4.se (v : A3) (x : A4) : A4 := A4.rec (motive := fun _ => A3 → A4) (fun v => .mk .nil .nil .nil .nil .nil .nil .nil .nil .nil .nil .nil .nil .nil .nil v .nil) (fun a0 a1 a2 a3 a4 a5 a6 a7 a8 a9 aa ab ac ad ae af => fun v => .mk a0 a1 a2 a3 a4 a5 a6 a7 a8 a9 aa ab ac ad v af) x v
def A4.sf (v : A3) (x : A4) : A4 := A4.rec (motive := fun _ => A3 → A4) (fun v => .mk .nil .nil .nil .nil .nil .nil .nil .nil .nil .nil .nil .nil .nil .nil .nil v) (fun a0 a1 a2 a3 a4 a5 a6 a7 a8 a9 aa ab ac ad ae af => fun v => .mk a0 a1 a2 a3 a4 a5 a6 a7 a8 a9 aa ab ac ad ae v) x v
def A4.set (d : H) : A3 → A4 → A4 := H.rec (motive := fun _ => A3 → A4 → A4) A4.s0 A4.s1 A4.s2 A4.s3 A4.s4 A4.s5 A4.s6 A4.s7 A4.s8 A4.s9 A4.sa A4.sb A4.sc A4.sd A4.se A4.sf d
inductive Cl where
 | k1 (x : A1)
 | k2 (x : A2)
 | k3 (x : A3)
 | k4 (x : A4)
 | kf (m : Nat) (f : Nat → AV)
inductive Fl where
 | plain
 | mark
 | Bc
 | ro
inductive Obj where
 | none
 | dead
 | cells (el n : Nat) (ex : Bool) (fl : Fl) (c : Cl)
 | map (l : List KV) (clock : Nat)
 | CB (s : List Nat) (pos : Nat)
 | vj (m : P4) (since : Nat) (seen : List Nat) (last : Nat)
 | CC
inductive O1 where
 | nil
 | mk (a0 a1 a2 a3 a4 a5 a6 a7 a8 a9 aa ab ac ad ae af : Obj)
def O1.g0 (x : O1) : Obj := O1.rec .none (fun a0 a1 a2 a3 a4 a5 a6 a7 a8 a9 aa ab ac ad ae af => a0) x
def O1.g1 (x : O1) : Obj := O1.rec .none (fun a0 a1 a2 a3 a4 a5 a6 a7 a8 a9 aa ab ac ad ae af => a1) x
def O1.g2 (x : O1) : Obj := O1.rec .none (fun a0 a1 a2 a3 a4 a5 a6 a7 a8 a9 aa ab ac ad ae af => a2) x
def O1.g3 (x : O1) : Obj := O1.rec .none (fun a0 a1 a2 a3 a4 a5 a6 a7 a8 a9 aa ab ac ad ae af => a3) x
def O1.g4 (x : O1) : Obj := O1.rec .none (fun a0 a1 a2 a3 a4 a5 a6 a7 a8 a9 aa ab ac ad ae af => a4) x
def O1.g5 (x : O1) : Obj := O1.rec .none (fun a0 a1 a2 a3 a4 a5 a6 a7 a8 a9 aa ab ac ad ae af => a5) x
def O1.g6 (x : O1) : Obj := O1.rec .none (fun a0 a1 a2 a3 a4 a5 a6 a7 a8 a9 aa ab ac ad ae af => a6) x
def O1.g7 (x : O1) : Obj := O1.rec .none (fun a0 a1 a2 a3 a4 a5 a6 a7 a8 a9 aa ab ac ad ae af => a7) x
def O1.g8 (x : O1) : Obj := O1.rec .none (fun a0 a1 a2 a3 a4 a5 a6 a7 a8 a9 aa ab ac ad ae af => a8) x
def O1.g9 (x : O1) : Obj := O1.rec .none (fun a0 a1 a2 a3 a4 a5 a6 a7 a8 a9 aa ab ac ad ae af => a9) x
def O1.ga (x : O1) : Obj := O1.rec .none (fun a0 a1 a2 a3 a4 a5 a6 a7 a8 a9 aa ab ac ad ae af => aa) x
def O1.gb (x : O1) : Obj := O1.rec .none (fun a0 a1 a2 a3 a4 a5 a6 a7 a8 a9 aa ab ac ad ae af => ab) x
def O1.gc (x : O1) : Obj := O1.rec .none (fun a0 a1 a2 a3 a4 a5 a6 a7 a8 a9 aa ab ac ad ae af => ac) x
def O1.gd (x : O1) : Obj := O1.rec .none (fun a0 a1 a2 a3 a4 a5 a6 a7 a8 a9 aa ab ac ad ae af => ad) x
def O1.ge (x : O1) : Obj := O1.rec .none (fun a0 a1 a2 a3 a4 a5 a6 a7 a8 a9 aa ab ac ad ae af => ae) x
def O1.gf (x : O1) : Obj := O1.rec .none (fun a0 a1 a2 a3 a4 a5 a6 a7 a8 a9 aa ab ac ad ae af => af) x
def O1.get (d : H) : O1 → Obj := H.rec (motive := fun _ => O1 → Obj) O1.g0 O1.g1 O1.g2 O1.g3 O1.g4 O1.g5 O1.g6 O1.g7 O1.g8 O1.g9 O1.ga O1.gb O1.gc O1.gd O1.ge O1.gf d
def O1.s0 (v : Obj) (x : O1) : O1 := O1.rec (motive := fun _ => Obj → O1) (fun v => .mk v .none .none .none .none .none .none .none .none .none .none .none .none .none .none .none) (fun a0 a1 a2 a3 a4 a5 a6 a7 a8 a9 aa ab ac ad ae af => fun v => .mk v a1 a2 a3 a4 a5 a6 a7 a8 a9 aa ab ac ad ae af) x v
def O1.s1 (v : Obj) (x : O1) : O1 := O1.rec (motive := fun _ => Obj → O1) (fun v => .mk .none v .none .none .none .none .none .none .none .none .none .none .none .none .none .none) (fun a0 a1 a2 a3 a4 a5 a6 a7 a8 a9 aa ab ac ad ae af => fun v => .mk a0 v a2 a3 a4 a5 a6 a7 a8 a9 aa ab ac ad ae af) x v
def O1.s2 (v : Obj) (x : O1) : O1 := O1.rec (motive := fun _ => Obj → O1) (fun v => .mk .none .none v .none .none .none .none .none .none .none .none .none .none .none .none .none) (fun a0 a1 a2 a3 a4 a5 a6 a7 a8 a9 aa ab ac ad ae af => fun v => .mk a0 a1 v a3 a4 a5 a6 a7 a8 a9 aa ab ac ad ae af) x v
def O1.s3 (v : Obj) (x : O1) : O1 := O1.rec (motive := fun _ => Obj → O1) (fun v => .mk .none .none .none v .none .none .none .none .none .none .none .none .none .none .none .none) (fun a0 a1 a2 a3 a4 a5 a6 a7 a8 a9 aa ab ac ad ae af => fun v => .mk a0 a1 a2 v a4 a5 a6 a7 a8 a9 aa ab ac ad ae af) x v
def O1.s4 (v : Obj) (x : O1) : O1 := O1.rec (motive := fun _ => Obj → O1) (fun v => .mk .none .none .none .none v .none .none .none .none .none .none .none .none .none .none .none) (fun a0 a1 a2 a3 a4 a5 a6 a7 a8 a9 aa ab ac ad ae af => fun v => .mk a0 a1 a2 a3 v a5 a6 a7 a8 a9 aa ab ac ad ae af) x v
def O1.s5 (v : Obj) (x : O1) : O1 := O1.rec (motive := fun _ => Obj → O1) (fun v => .mk .none .none .none .none .none v .none .none .none .none .none .none .none .none .none .none) (fun a0 a1 a2 a3 a4 a5 a6 a7 a8 a9 aa ab ac ad ae af => fun v => .mk a0 a1 a2 a3 a4 v a6 a7 a8 a9 aa ab ac ad ae af) x v
def O1.s6 (v : Obj) (x : O1) : O1 := O1.rec (motive := fun _ => Obj → O1) (fun v => .mk .none .none .none .none .none .none v .none .none .none .none .none .none .none .none .none) (fun a0 a1 a2 a3 a4 a5 a6 a7 a8 a9 aa ab ac ad ae af => fun v => .mk a0 a1 a2 a3 a4 a5 v a7 a8 a9 aa ab ac ad ae af) x v
def O1.s7 (v : Obj) (x : O1) : O1 := O1.rec (motive := fun _ => Obj → O1) (fun v => .mk .none .none .none .none .none .none .none v .none .none .none .none .none .none .none .none) (fun a0 a1 a2 a3 a4 a5 a6 a7 a8 a9 aa ab ac ad ae af => fun v => .mk a0 a1 a2 a3 a4 a5 a6 v a8 a9 aa ab ac ad ae af) x v
def O1.s8 (v : Obj) (x : O1) : O1 := O1.rec (motive := fun _ => Obj → O1) (fun v => .mk .none .none .none .none .none .none .none .none v .none .none .none .none .none .none .none) (fun a0 a1 a2 a3 a4 a5 a6 a7 a8 a9 aa ab ac ad ae af => fun v => .mk a0 a1 a2 a3 a4 a5 a6 a7 v a9 aa ab ac ad ae af) x v
def O1.s9 (v : Obj) (x : O1) : O1 := O1.rec (motive := fun _ => Obj → O1) (fun v => .mk .none .none .none .none .none .none .none .none .none v .none .none .none .none .none .none) (fun a0 a1 a2 a3 a4 a5 a6 a7 a8 a9 aa ab ac ad ae af => fun v => .mk a0 a1 a2 a3 a4 a5 a6 a7 a8 v aa ab ac ad ae af) x v
def O1.sa (v : Obj) (x : O1) : O1 := O1.rec (motive := fun _ => Obj → O1) (fun v => .mk .none .none .none .none .none .none .none .none .none .none v .none .none .none .none .none) (fun a0 a1 a2 a3 a4 a5 a6 a7 a8 a9 aa ab ac ad ae af => fun v => .mk a0 a1 a2 a3 a4 a5 a6 a7 a8 a9 v ab ac ad ae af) x v
def O1.sb (v : Obj) (x : O1) : O1 := O1.rec (motive := fun _ => Obj → O1) (fun v => .mk .none .none .none .none .none .none .none .none .none .none .none v .none .none .none .none) (fun a0 a1 a2 a3 a4 a5 a6 a7 a8 a9 aa ab ac ad ae af => fun v => .mk a0 a1 a2 a3 a4 a5 a6 a7 a8 a9 aa v ac ad ae af) x v
def O1.sc (v : Obj) (x : O1) : O1 := O1.rec (motive := fun _ => Obj → O1) (fun v => .mk .none .none .none .none .none .none .none .none .none .none .none .none v .none .none .none) (fun a0 a1 a2 a3 a4 a5 a6 a7 a8 a9 aa ab ac ad ae af => fun v => .mk a0 a1 a2 a3 a4 a5 a6 a7 a8 a9 aa ab v ad ae af) x v
def O1.sd (v : Obj) (x : O1) : O1 := O1.rec (motive := fun _ => Obj → O1) (fun v => .mk .none .none .none .none .none .none .none .none .none .none .none .none .none v .none .none) (fun a0 a1 a2 a3 a4 a5 a6 a7 a8 a9 aa ab ac ad ae af => fun v => .mk a0 a1 a2 a3 a4 a5 a6 a7 a8 a9 aa ab ac v ae af) x v
def O1.se (v : Obj) (x : O1) : O1 := O1.rec (motive := fun _ => Obj → O1) (fun v => .mk .none .none .none .none .none .none .none .none .none .none .none .none .none .none v .none) (fun a0 a1 a2 a3 a4 a5 a6 a7 a8 a9 aa ab ac ad ae af => fun v => .mk a0 a1 a2 a3 a4 a5 a6 a7 a8 a9 aa ab ac ad v af) x v
def O1.sf (v : Obj) (x : O1) : O1 := O1.rec (motive := fun _ => Obj → O1) (fun v => .mk .none .none .none .none .none .none .none .none .none .none .none .none .none .none .none v) (fun a0 a1 a2 a3 a4 a5 a6 a7 a8 a9 aa ab ac ad ae af => fun v => .mk a0 a1 a2 a3 a4 a5 a6 a7 a8 a9 aa ab ac ad ae v) x v
def O1.set (d : H) : Obj → O1 → O1 := H.rec (motive := fun _ => Obj → O1 → O1) O1.s0 O1.s1 O1.s2 O1.s3 O1.s4 O1.s5 O1.s6 O1.s7 O1.s8 O1.s9 O1.sa O1.sb O1.sc O1.sd O1.se O1.sf d
inductive O2 where
 | nil
 | mk (a0 a1 a2 a3 a4 a5 a6 a7 a8 a9 aa ab ac ad ae af : O1)
def O2.g0 (x : O2) : O1 := O2.rec .nil (fun a0 a1 a2 a3 a4 a5 a6 a7 a8 a9 aa ab ac ad ae af => a0) x
def O2.g1 (x : O2) : O1 := O2.rec .nil (fun a0 a1 a2 a3 a4 a5 a6 a7 a8 a9 aa ab ac ad ae af => a1) x
def O2.g2 (x : O2) : O1 := O2.rec .nil (fun a0 a1 a2 a3 a4 a5 a6 a7 a8 a9 aa ab ac ad ae af => a2) x
def O2.g3 (x : O2) : O1 := O2.rec .nil (fun a0 a1 a2 a3 a4 a5 a6 a7 a8 a9 aa ab ac ad ae af => a3) x
def O2.g4 (x : O2) : O1 := O2.rec .nil (fun a0 a1 a2 a3 a4 a5 a6 a7 a8 a9 aa ab ac ad ae af => a4) x
def O2.g5 (x : O2) : O1 := O2.rec .nil (fun a0 a1 a2 a3 a4 a5 a6 a7 a8 a9 aa ab ac ad ae af => a5) x
def O2.g6 (x : O2) : O1 := O2.rec .nil (fun a0 a1 a2 a3 a4 a5 a6 a7 a8 a9 aa ab ac ad ae af => a6) x
def O2.g7 (x : O2) : O1 := O2.rec .nil (fun a0 a1 a2 a3 a4 a5 a6 a7 a8 a9 aa ab ac ad ae af => a7) x
def O2.g8 (x : O2) : O1 := O2.rec .nil (fun a0 a1 a2 a3 a4 a5 a6 a7 a8 a9 aa ab ac ad ae af => a8) x
def O2.g9 (x : O2) : O1 := O2.rec .nil (fun a0 a1 a2 a3 a4 a5 a6 a7 a8 a9 aa ab ac ad ae af => a9) x
def O2.ga (x : O2) : O1 := O2.rec .nil (fun a0 a1 a2 a3 a4 a5 a6 a7 a8 a9 aa ab ac ad ae af => aa) x
def O2.gb (x : O2) : O1 := O2.rec .nil (fun a0 a1 a2 a3 a4 a5 a6 a7 a8 a9 aa ab ac ad ae af => ab) x
def O2.gc (x : O2) : O1 := O2.rec .nil (fun a0 a1 a2 a3 a4 a5 a6 a7 a8 a9 aa ab ac ad ae af => ac) x
def O2.gd (x : O2) : O1 := O2.rec .nil (fun a0 a1 a2 a3 a4 a5 a6 a7 a8 a9 aa ab ac ad ae af => ad) x
def O2.ge (x : O2) : O1 := O2.rec .nil (fun a0 a1 a2 a3 a4 a5 a6 a7 a8 a9 aa ab ac ad ae af => ae) x
def O2.gf (x : O2) : O1 := O2.rec .nil (fun a0 a1 a2 a3 a4 a5 a6 a7 a8 a9 aa ab ac ad ae af => af) x
def O2.get (d : H) : O2 → O1 := H.rec (motive := fun _ => O2 → O1) O2.g0 O2.g1 O2.g2 O2.g3 O2.g4 O2.g5 O2.g6 O2.g7 O2.g8 O2.g9 O2.ga O2.gb O2.gc O2.gd O2.ge O2.gf d
def O2.s0 (v : O1) (x : O2) : O2 := O2.rec (motive := fun _ => O1 → O2) (fun v => .mk v .nil .nil .nil .nil .nil .nil .nil .nil .nil .nil .nil .nil .nil .nil .nil) (fun a0 a1 a2 a3 a4 a5 a6 a7 a8 a9 aa ab ac ad ae af => fun v => .mk v a1 a2 a3 a4 a5 a6 a7 a8 a9 aa ab ac ad ae af) x v
def O2.s1 (v : O1) (x : O2) : O2 := O2.rec (motive := fun _ => O1 → O2) (fun v => .mk .nil v .nil .nil .nil .nil .nil .nil .nil .nil .nil .nil .nil .nil .nil .nil) (fun a0 a1 a2 a3 a4 a5 a6 a7 a8 a9 aa ab ac ad ae af => fun v => .mk a0 v a2 a3 a4 a5 a6 a7 a8 a9 aa ab ac ad ae af) x v
def O2.s2 (v : O1) (x : O2) : O2 := O2.rec (motive := fun _ => O1 → O2) (fun v => .mk .nil .nil v .nil .nil .nil .nil .nil .nil .nil .nil .nil .nil .nil .nil .nil) (fun a0 a1 a2 a3 a4 a5 a6 a7 a8 a9 aa ab ac ad ae af => fun v => .mk a0 a1 v a3 a4 a5 a6 a7 a8 a9 aa ab ac ad ae af) x v
def O2.s3 (v : O1) (x : O2) : O2 := O2.rec (motive := fun _ => O1 → O2) (fun v => .mk .nil .nil .nil v .nil .nil .nil .nil .nil .nil .nil .nil .nil .nil .nil .nil) (fun a0 a1 a2 a3 a4 a5 a6 a7 a8 a9 aa ab ac ad ae af => fun v => .mk a0 a1 a2 v a4 a5 a6 a7 a8 a9 aa ab ac ad ae af) x v
def O2.s4 (v : O1) (x : O2) : O2 := O2.rec (motive := fun _ => O1 → O2) (fun v => .mk .nil .nil .nil .nil v .nil .nil .nil .nil .nil .nil .nil .nil .nil .nil .nil) (fun a0 a1 a2 a3 a4 a5 a6 a7 a8 a9 aa ab ac ad ae af => fun v => .mk a0 a1 a2 a3 v a5 a6 a7 a8 a9 aa ab ac ad ae af) x v
def O2.s5 (v : O1) (x : O2) : O2 := O2.rec (motive := fun _ => O1 → O2) (fun v => .mk .nil .nil .nil .nil .nil v .nil .nil .nil .nil .nil .nil .nil .nil .nil .nil) (fun a0 a1 a2 a3 a4 a5 a6 a7 a8 a9 aa ab ac ad ae af => fun v => .mk a0 a1 a2 a3 a4 v a6 a7 a8 a9 aa ab ac ad ae af) x v
def O2.s6 (v : O1) (x : O2) : O2 := O2.rec (motive := fun _ => O1 → O2) (fun v => .mk .nil .nil .nil .nil .nil .nil v .nil .nil .nil .nil .nil .nil .nil .nil .nil) (fun a0 a1 a2 a3 a4 a5 a6 a7 a8 a9 aa ab ac ad ae af => fun v => .mk a0 a1 a2 a3 a4 a5 v a7 a8 a9 aa ab ac ad ae af) x v
def O2.s7 (v : O1) (x : O2) : O2 := O2.rec (motive := fun _ => O1 → O2) (fun v => .mk .nil .nil .nil .nil .nil .nil .nil v .nil .nil .nil .nil .nil .nil .nil .nil) (fun a0 a1 a2 a3 a4 a5 a6 a7 a8 a9 aa ab ac ad ae af => fun v => .mk a0 a1 a2 a3 a4 a5 a6 v a8 a9 aa ab ac ad ae af) x v
def O2.s8 (v : O1) (x : O2) : O2 := O2.rec (motive := fun _ => O1 → O2) (fun v => .mk .nil .nil .nil .nil .nil .nil .nil .nil v .nil .nil .nil .nil .nil .nil .nil) (fun a0 a1 a2 a3 a4 a5 a6 a7 a8 a9 aa ab ac ad ae af => fun v => .mk a0 a1 a2 a3 a4 a5 a6 a7 v a9 aa ab ac ad ae af) x v
def O2.s9 (v : O1) (x : O2) : O2 := O2.rec (motive := fun _ => O1 → O2) (fun v => .mk .nil .nil .nil .nil .nil .nil .nil .nil .nil v .nil .nil .nil .nil .nil .nil) (fun a0 a1 a2 a3 a4 a5 a6 a7 a8 a9 aa ab ac ad ae af => fun v => .mk a0 a1 a2 a3 a4 a5 a6 a7 a8 v aa ab ac ad ae af) x v
def O2.sa (v : O1) (x : O2) : O2 := O2.rec (motive := fun _ => O1 → O2) (fun v => .mk .nil .nil .nil .nil .nil .nil .nil .nil .nil .nil v .nil .nil .nil .nil .nil) (fun a0 a1 a2 a3 a4 a5 a6 a7 a8 a9 aa ab ac ad ae af => fun v => .mk a0 a1 a2 a3 a4 a5 a6 a7 a8 a9 v ab ac ad ae af) x v
def O2.sb (v : O1) (x : O2) : O2 := O2.rec (motive := fun _ => O1 → O2) (fun v => .mk .nil .nil .nil .nil .nil .nil .nil .nil .nil .nil .nil v .nil .nil .nil .nil) (fun a0 a1 a2 a3 a4 a5 a6 a7 a8 a9 aa ab ac ad ae af => fun v => .mk a0 a1 a2 a3 a4 a5 a6 a7 a8 a9 aa v ac ad ae af) x v
def O2.sc (v : O1) (x : O2) : O2 := O2.rec (motive := fun _ => O1 → O2) (fun v => .mk .nil .nil .nil .nil .nil .nil .nil .nil .nil .nil .nil .nil v .nil .nil .nil) (fun a0 a1 a2 a3 a4 a5 a6 a7 a8 a9 aa ab ac ad ae af => fun v => .mk a0 a1 a2 a3 a4 a5 a6 a7 a8 a9 aa ab v ad ae af) x v
def O2.sd (v : O1) (x : O2) : O2 := O2.rec (motive := fun _ => O1 → O2) (fun v => .mk .nil .nil .nil .nil .nil .nil .nil .nil .nil .nil .nil .nil .nil v .nil .nil) (fun a0 a1 a2 a3 a4 a5 a6 a7 a8 a9 aa ab ac ad ae af => fun v => .mk a0 a1 a2 a3 a4 a5 a6 a7 a8 a9 aa ab ac v ae af) x v
def O2.se (v : O1) (x : O2) : O2 := O2.rec (motive := fun _ => O1 → O2) (fun v => .mk .nil .nil .nil .nil .nil .nil .nil .nil .nil .nil .nil .nil .nil .nil v .nil) (fun a0 a1 a2 a3 a4 a5 a6 a7 a8 a9 aa ab ac ad ae af => fun v => .mk a0 a1 a2 a3 a4 a5 a6 a7 a8 a9 aa ab ac ad v af) x v
def O2.sf (v : O1) (x : O2) : O2 := O2.rec (motive := fun _ => O1 → O2) (fun v => .mk .nil .nil .nil .nil .nil .nil .nil .nil .nil .nil .nil .nil .nil .nil .nil v) (fun a0 a1 a2 a3 a4 a5 a6 a7 a8 a9 aa ab ac ad ae af => fun v => .mk a0 a1 a2 a3 a4 a5 a6 a7 a8 a9 aa ab ac ad ae v) x v
def O2.set (d : H) : O1 → O2 → O2 := H.rec (motive := fun _ => O1 → O2 → O2) O2.s0 O2.s1 O2.s2 O2.s3 O2.s4 O2.s5 O2.s6 O2.s7 O2.s8 O2.s9 O2.sa O2.sb O2.sc O2.sd O2.se O2.sf d
inductive O3 where
 | nil
 | mk (a0 a1 a2 a3 a4 a5 a6 a7 a8 a9 aa ab ac ad ae af : O2)
def O3.g0 (x : O3) : O2 := O3.rec .nil (fun a0 a1 a2 a3 a4 a5 a6 a7 a8 a9 aa ab ac ad ae af => a0) x
def O3.g1 (x : O3) : O2 := O3.rec .nil (fun a0 a1 a2 a3 a4 a5 a6 a7 a8 a9 aa ab ac ad ae af => a1) x
def O3.g2 (x : O3) : O2 := O3.rec .nil (fun a0 a1 a2 a3 a4 a5 a6 a7 a8 a9 aa ab ac ad ae af => a2) x
def O3.g3 (x : O3) : O2 := O3.rec .nil (fun a0 a1 a2 a3 a4 a5 a6 a7 a8 a9 aa ab ac ad ae af => a3) x
def O3.g4 (x : O3) : O2 := O3.rec .nil (fun a0 a1 a2 a3 a4 a5 a6 a7 a8 a9 aa ab ac ad ae af => a4) x
def O3.g5 (x : O3) : O2 := O3.rec .nil (fun a0 a1 a2 a3 a4 a5 a6 a7 a8 a9 aa ab ac ad ae af => a5) x
def O3.g6 (x : O3) : O2 := O3.rec .nil (fun a0 a1 a2 a3 a4 a5 a6 a7 a8 a9 aa ab ac ad ae af => a6) x
def O3.g7 (x : O3) : O2 := O3.rec .nil (fun a0 a1 a2 a3 a4 a5 a6 a7 a8 a9 aa ab ac ad ae af => a7) x
def O3.g8 (x : O3) : O2 := O3.rec .nil (fun a0 a1 a2 a3 a4 a5 a6 a7 a8 a9 aa ab ac ad ae af => a8) x
def O3.g9 (x : O3) : O2 := O3.rec .nil (fun a0 a1 a2 a3 a4 a5 a6 a7 a8 a9 aa ab ac ad ae af => a9) x
def O3.ga (x : O3) : O2 := O3.rec .nil (fun a0 a1 a2 a3 a4 a5 a6 a7 a8 a9 aa ab ac ad ae af => aa) x
def O3.gb (x : O3) : O2 := O3.rec .nil (fun a0 a1 a2 a3 a4 a5 a6 a7 a8 a9 aa ab ac ad ae af => ab) x
def O3.gc (x : O3) : O2 := O3.rec .nil (fun a0 a1 a2 a3 a4 a5 a6 a7 a8 a9 aa ab ac ad ae af => ac) x
def O3.gd (x : O3) : O2 := O3.rec .nil (fun a0 a1 a2 a3 a4 a5 a6 a7 a8 a9 aa ab ac ad ae af => ad) x
def O3.ge (x : O3) : O2 := O3.rec .nil (fun a0 a1 a2 a3 a4 a5 a6 a7 a8 a9 aa ab ac ad ae af => ae) x
def O3.gf (x : O3) : O2 := O3.rec .nil (fun a0 a1 a2 a3 a4 a5 a6 a7 a8 a9 aa ab ac ad ae af => af) x
def O3.get (d : H) : O3 → O2 := H.rec (motive := fun _ => O3 → O2) O3.g0 O3.g1 O3.g2 O3.g3 O3.g4 O3.g5 O3.g6 O3.g7 O3.g8 O3.g9 O3.ga O3.gb O3.gc O3.gd O3.ge O3.gf d
def O3.s0 (v : O2) (x : O3) : O3 := O3.rec (motive := fun _ => O2 → O3) (fun v => .mk v .nil .nil .nil .nil .nil .nil .nil .nil .nil .nil .nil .nil .nil .nil .nil) (fun a0 a1 a2 a3 a4 a5 a6 a7 a8 a9 aa ab ac ad ae af => fun v => .mk v a1 a2 a3 a4 a5 a6 a7 a8 a9 aa ab ac ad ae af) x v
def O3.s1 (v : O2) (x : O3) : O3 := O3.rec (motive := fun _ => O2 → O3) (fun v => .mk .nil v .nil .nil .nil .nil .nil .nil .nil .nil .nil .nil .nil .nil .nil .nil) (fun a0 a1 a2 a3 a4 a5 a6 a7 a8 a9 aa ab ac ad ae af => fun v => .mk a0 v a2 a3 a4 a5 a6 a7 a8 a9 aa ab ac ad ae af) x v
def O3.s2 (v : O2) (x : O3) : O3 := O3.rec (motive := fun _ => O2 → O3) (fun v => .mk .nil .nil v .nil .nil .nil .nil .nil .nil .nil .nil .nil .nil .nil .nil .nil) (fun a0 a1 a2 a3 a4 a5 a6 a7 a8 a9 aa ab ac ad ae af => fun v => .mk a0 a1 v a3 a4 a5 a6 a7 a8 a9 aa ab ac ad ae af) x v
def O3.s3 (v : O2) (x : O3) : O3 := O3.rec (motive := fun _ => O2 → O3) (fun v => .mk .nil .nil .nil v .nil .nil .nil .nil .nil .nil .nil .nil .nil .nil .nil .nil) (fun a0 a1 a2 a3 a4 a5 a6 a7 a8 a9 aa ab ac ad ae af => fun v => .mk a0 a1 a2 v a4 a5 a6 a7 a8 a9 aa ab ac ad ae af) x v
def O3.s4 (v : O2) (x : O3) : O3 := O3.rec (motive := fun _ => O2 → O3) (fun v => .mk .nil .nil .nil .nil v .nil .nil .nil .nil .nil .nil .nil .nil .nil .nil .nil) (fun a0 a1 a2 a3 a4 a5 a6 a7 a8 a9 aa ab ac ad ae af => fun v => .mk a0 a1 a2 a3 v a5 a6 a7 a8 a9 aa ab ac ad ae af) x v
def O3.s5 (v : O2) (x : O3) : O3 := O3.rec (motive := fun _ => O2 → O3) (fun v => .mk .nil .nil .nil .nil .nil v .nil .nil .nil .nil .nil .nil .nil .nil .nil .nil) (fun a0 a1 a2 a3 a4 a5 a6 a7 a8 a9 aa ab ac ad ae af => fun v => .mk a0 a1 a2 a3 a4 v a6 a7 a8 a9 aa ab ac ad ae af) x v
def O3.s6 (v : O2) (x : O3) : O3 := O3.rec (motive := fun _ => O2 → O3) (fun v => .mk .nil .nil .nil .nil .nil .nil v .nil .nil .nil .nil .nil .nil .nil .nil .nil) (fun a0 a1 a2 a3 a4 a5 a6 a7 a8 a9 aa ab ac ad ae af => fun v => .mk a0 a1 a2 a3 a4 a5 v a7 a8 a9 aa ab ac ad ae af) x v
def O3.s7 (v : O2) (x : O3) : O3 := O3.rec (motive := fun _ => O2 → O3) (fun v => .mk .nil .nil .nil .nil .nil .nil .nil v .nil .nil .nil .nil .nil .nil .nil .nil) (fun a0 a1 a2 a3 a4 a5 a6 a7 a8 a9 aa ab ac ad ae af => fun v => .mk a0 a1 a2 a3 a4 a5 a6 v a8 a9 aa ab ac ad ae af) x v
def O3.s8 (v : O2) (x : O3) : O3 := O3.rec (motive := fun _ => O2 → O3) (fun v => .mk .nil .nil .nil .nil .nil .nil .nil .nil v .nil .nil .nil .nil .nil .nil .nil) (fun a0 a1 a2 a3 a4 a5 a6 a7 a8 a9 aa ab ac ad ae af => fun v => .mk a0 a1 a2 a3 a4 a5 a6 a7 v a9 aa ab ac ad ae af) x v
def O3.s9 (v : O2) (x : O3) : O3 := O3.rec (motive := fun _ => O2 → O3) (fun v => .mk .nil .nil .nil .nil .nil .nil .nil .nil .nil v .nil .nil .nil .nil .nil .nil) (fun a0 a1 a2 a3 a4 a5 a6 a7 a8 a9 aa ab ac ad ae af => fun v => .mk a0 a1 a2 a3 a4 a5 a6 a7 a8 v aa ab ac ad ae af) x v
def O3.sa (v : O2) (x : O3) : O3 := O3.rec (motive := fun _ => O2 → O3) (fun v => .mk .nil .nil .nil .nil .nil .nil .nil .nil .nil .nil v .nil .nil .nil .nil .nil) (fun a0 a1 a2 a3 a4 a5 a6 a7 a8 a9 aa ab ac ad ae af => fun v => .mk a0 a1 a2 a3 a4 a5 a6 a7 a8 a9 v ab ac ad ae af) x v
def O3.sb (v : O2) (x : O3) : O3 := O3.rec (motive := fun _ => O2 → O3) (fun v => .mk .nil .nil .nil .nil .nil .nil .nil .nil .nil .nil .nil v .nil .nil .nil .nil) (fun a0 a1 a2 a3 a4 a5 a6 a7 a8 a9 aa ab ac ad ae af => fun v => .mk a0 a1 a2 a3 a4 a5 a6 a7 a8 a9 aa v ac ad ae af) x v
def O3.sc (v : O2) (x : O3) : O3 := O3.rec (motive := fun _ => O2 → O3) (fun v => .mk .nil .nil .nil .nil .nil .nil .nil .nil .nil .nil .nil .nil v .nil .nil .nil) (fun a0 a1 a2 a3 a4 a5 a6 a7 a8 a9 aa ab ac ad ae af => fun v => .mk a0 a1 a2 a3 a4 a5 a6 a7 a8 a9 aa ab v ad ae af) x v
def O3.sd (v : O2) (x : O3) : O3 := O3.rec (motive := fun _ => O2 → O3) (fun v => .mk .nil .nil .nil .nil .nil .nil .nil .nil .nil .nil .nil .nil .nil v .nil .nil) (fun a0 a1 a2 a3 a4 a5 a6 a7 a8 a9 aa ab ac ad ae af => fun v => .mk a0 a1 a2 a3 a4 a5 a6 a7 a8 a9 aa ab ac v ae af) x v
def O3.se (v : O2) (x : O3) : O3 := O3.rec (motive := fun _ => O2 → O3) (fun v => .mk .nil .nil .nil .nil .nil .nil .nil .nil .nil .nil .nil .nil .nil .nil v .nil) (fun a0 a1 a2 a3 a4 a5 a6 a7 a8 a9 aa ab ac ad ae af => fun v => .mk a0 a1 a2 a3 a4 a5 a6 a7 a8 a9 aa ab ac ad v af) x v
def O3.sf (v : O2) (x : O3) : O3 := O3.rec (motive := fun _ => O2 → O3) (fun v => .mk .nil .nil .nil .nil .nil .nil .nil .nil .nil .nil .nil .nil .nil .nil .nil v) (fun a0 a1 a2 a3 a4 a5 a6 a7 a8 a9 aa ab ac ad ae af => fun v => .mk a0 a1 a2 a3 a4 a5 a6 a7 a8 a9 aa ab ac ad ae v) x v
def O3.set (d : H) : O2 → O3 → O3 := H.rec (motive := fun _ => O2 → O3 → O3) O3.s0 O3.s1 O3.s2 O3.s3 O3.s4 O3.s5 O3.s6 O3.s7 O3.s8 O3.s9 O3.sa O3.sb O3.sc O3.sd O3.se O3.sf d
inductive O4 where
 | nil
 | mk (a0 a1 a2 a3 a4 a5 a6 a7 a8 a9 aa ab ac ad ae af : O3)
def O4.g0 (x : O4) : O3 := O4.rec .nil (fun a0 a1 a2 a3 a4 a5 a6 a7 a8 a9 aa ab ac ad ae af => a0) x
def O4.g1 (x : O4) : O3 := O4.rec .nil (fun a0 a1 a2 a3 a4 a5 a6 a7 a8 a9 aa ab ac ad ae af => a1) x
def O4.g2 (x : O4) : O3 := O4.rec .nil (fun a0 a1 a2 a3 a4 a5 a6 a7 a8 a9 aa ab ac ad ae af => a2) x
def O4.g3 (x : O4) : O3 := O4.rec .nil (fun a0 a1 a2 a3 a4 a5 a6 a7 a8 a9 aa ab ac ad ae af => a3) x
def O4.g4 (x : O4) : O3 := O4.rec .nil (fun a0 a1 a2 a3 a4 a5 a6 a7 a8 a9 aa ab ac ad ae af => a4) x
def O4.g5 (x : O4) : O3 := O4.rec .nil (fun a0 a1 a2 a3 a4 a5 a6 a7 a8 a9 aa ab ac ad ae af => a5) x
def O4.g6 (x : O4) : O3 := O4.rec .nil (fun a0 a1 a2 a3 a4 a5 a6 a7 a8 a9 aa ab ac ad ae af => a6) x
def O4.g7 (x : O4) : O3 := O4.rec .nil (fun a0 a1 a2 a3 a4 a5 a6 a7 a8 a9 aa ab ac ad ae af => a7) x
def O4.g8 (x : O4) : O3 := O4.rec .nil (fun a0 a1 a2 a3 a4 a5 a6 a7 a8 a9 aa ab ac ad ae af => a8) x
def O4.g9 (x : O4) : O3 := O4.rec .nil (fun a0 a1 a2 a3 a4 a5 a6 a7 a8 a9 aa ab ac ad ae af => a9) x
def O4.ga (x : O4) : O3 := O4.rec .nil (fun a0 a1 a2 a3 a4 a5 a6 a7 a8 a9 aa ab ac ad ae af => aa) x
def O4.gb (x : O4) : O3 := O4.rec .nil (fun a0 a1 a2 a3 a4 a5 a6 a7 a8 a9 aa ab ac ad ae af => ab) x
def O4.gc (x : O4) : O3 := O4.rec .nil (fun a0 a1 a2 a3 a4 a5 a6 a7 a8 a9 aa ab ac ad ae af => ac) x
def O4.gd (x : O4) : O3 := O4.rec .nil (fun a0 a1 a2 a3 a4 a5 a6 a7 a8 a9 aa ab ac ad ae af => ad) x
def O4.ge (x : O4) : O3 := O4.rec .nil (fun a0 a1 a2 a3 a4 a5 a6 a7 a8 a9 aa ab ac ad ae af => ae) x
def O4.gf (x : O4) : O3 := O4.rec .nil (fun a0 a1 a2 a3 a4 a5 a6 a7 a8 a9 aa ab ac ad ae af => af) x
def O4.get (d : H) : O4 → O3 := H.rec (motive := fun _ => O4 → O3) O4.g0 O4.g1 O4.g2 O4.g3 O4.g4 O4.g5 O4.g6 O4.g7 O4.g8 O4.g9 O4.ga O4.gb O4.gc O4.gd O4.ge O4.gf d
def O4.s0 (v : O3) (x : O4) : O4 := O4.rec (motive := fun _ => O3 → O4) (fun v => .mk v .nil .nil .nil .nil .nil .nil .nil .nil .nil .nil .nil .nil .nil .nil .nil) (fun a0 a1 a2 a3 a4 a5 a6 a7 a8 a9 aa ab ac ad ae af => fun v => .mk v a1 a2 a3 a4 a5 a6 a7 a8 a9 aa ab ac ad ae af) x v
def O4.s1 (v : O3) (x : O4) : O4 := O4.rec (motive := fun _ => O3 → O4) (fun v => .mk .nil v .nil .nil .nil .nil .nil .nil .nil .nil .nil .nil .nil .nil .nil .nil) (fun a0 a1 a2 a3 a4 a5 a6 a7 a8 a9 aa ab ac ad ae af => fun v => .mk a0 v a2 a3 a4 a5 a6 a7 a8 a9 aa ab ac ad ae af) x v
def O4.s2 (v : O3) (x : O4) : O4 := O4.rec (motive := fun _ => O3 → O4) (fun v => .mk .nil .nil v .nil .nil .nil .nil .nil .nil .nil .nil .nil .nil .nil .nil .nil) (fun a0 a1 a2 a3 a4 a5 a6 a7 a8 a9 aa ab ac ad ae af => fun v => .mk a0 a1 v a3 a4 a5 a6 a7 a8 a9 aa ab ac ad ae af) x v
def O4.s3 (v : O3) (x : O4) : O4 := O4.rec (motive := fun _ => O3 → O4) (fun v => .mk .nil .nil .nil v .nil .nil .nil .nil .nil .nil .nil .nil .nil .nil .nil .nil) (fun a0 a1 a2 a3 a4 a5 a6 a7 a8 a9 aa ab ac ad ae af => fun v => .mk a0 a1 a2 v a4 a5 a6 a7 a8 a9 aa ab ac ad ae af) x v
def O4.s4 (v : O3) (x : O4) : O4 := O4.rec (motive := fun _ => O3 → O4) (fun v => .mk .nil .nil .nil .nil v .nil .nil .nil .nil .nil .nil .nil .nil .nil .nil .nil) (fun a0 a1 a2 a3 a4 a5 a6 a7 a8 a9 aa ab ac ad ae af => fun v => .mk a0 a1 a2 a3 v a5 a6 a7 a8 a9 aa ab ac ad ae af) x v
def O4.s5 (v : O3) (x : O4) : O4 := O4.rec (motive := fun _ => O3 → O4) (fun v => .mk .nil .nil .nil .nil .nil v .nil .nil .nil .nil .nil .nil .nil .nil .nil .nil) (fun a0 a1 a2 a3 a4 a5 a6 a7 a8 a9 aa ab ac ad ae af => fun v => .mk a0 a1 a2 a3 a4 v a6 a7 a8 a9 aa ab ac ad ae af) x v
def O4.s6 (v : O3) (x : O4) : O4 := O4.rec (motive := fun _ => O3 → O4) (fun v => .mk .nil .nil .nil .nil .nil .nil v .nil .nil .nil .nil .nil .nil .nil .nil .nil) (fun a0 a1 a2 a3 a4 a5 a6 a7 a8 a9 aa ab ac ad ae af => fun v => .mk a0 a1 a2 a3 a4 a5 v a7 a8 a9 aa ab ac ad ae af) x v
def O4.s7 (v : O3) (x : O4) : O4 := O4.rec (motive := fun _ => O3 → O4) (fun v => .mk .nil .nil .nil .nil .nil .nil .nil v .nil .nil .nil .nil .nil .nil .nil .nil) (fun a0 a1 a2 a3 a4 a5 a6 a7 a8 a9 aa ab ac ad ae af => fun v => .mk a0 a1 a2 a3 a4 a5 a6 v a8 a9 aa ab ac ad ae af) x v
def O4.s8 (v : O3) (x : O4) : O4 := O4.rec (motive := fun _ => O3 → O4) (fun v => .mk .nil .nil .nil .nil .nil .nil .nil .nil v .nil .nil .nil .nil .nil .nil .nil) (fun a0 a1 a2 a3 a4 a5 a6 a7 a8 a9 aa ab ac ad ae af => fun v => .mk a0 a1 a2 a3 a4 a5 a6 a7 v a9 aa ab ac ad ae af) x v
def O4.s9 (v : O3) (x : O4) : O4 := O4.rec (motive := fun _ => O3 → O4) (fun v => .mk .nil .nil .nil .nil .nil .nil .nil .nil .nil v .nil .nil .nil .nil .nil .nil) (fun a0 a1 a2 a3 a4 a5 a6 a7 a8 a9 aa ab ac ad ae af => fun v => .mk a0 a1 a2 a3 a4 a5 a6 a7 a8 v aa ab ac ad ae af) x v
def O4.sa (v : O3) (x : O4) : O4 := O4.rec (motive := fun _ => O3 → O4) (fun v => .mk .nil .nil .nil .nil .nil .nil .nil .nil .nil .nil v .nil .nil .nil .nil .nil) (fun a0 a1 a2 a3 a4 a5 a6 a7 a8 a9 aa ab ac ad ae af => fun v => .mk a0 a1 a2 a3 a4 a5 a6 a7 a8 a9 v ab ac ad ae af) x v
def O4.sb (v : O3) (x : O4) : O4 := O4.rec (motive := fun _ => O3 → O4) (fun v => .mk .nil .nil .nil .nil .nil .nil .nil .nil .nil .nil .nil v .nil .nil .nil .nil) (fun a0 a1 a2 a3 a4 a5 a6 a7 a8 a9 aa ab ac ad ae af => fun v => .mk a0 a1 a2 a3 a4 a5 a6 a7 a8 a9 aa v ac ad ae af) x v
def O4.sc (v : O3) (x : O4) : O4 := O4.rec (motive := fun _ => O3 → O4) (fun v => .mk .nil .nil .nil .nil .nil .nil .nil .nil .nil .nil .nil .nil v .nil .nil .nil) (fun a0 a1 a2 a3 a4 a5 a6 a7 a8 a9 aa ab ac ad ae af => fun v => .mk a0 a1 a2 a3 a4 a5 a6 a7 a8 a9 aa ab v ad ae af) x v
def O4.sd (v : O3) (x : O4) : O4 := O4.rec (motive := fun _ => O3 → O4) (fun v => .mk .nil .nil .nil .nil .nil .nil .nil .nil .nil .nil .nil .nil .nil v .nil .nil) (fun a0 a1 a2 a3 a4 a5 a6 a7 a8 a9 aa ab ac ad ae af => fun v => .mk a0 a1 a2 a3 a4 a5 a6 a7 a8 a9 aa ab ac v ae af) x v
def O4.se (v : O3) (x : O4) : O4 := O4.rec (motive := fun _ => O3 → O4) (fun v => .mk .nil .nil .nil .nil .nil .nil .nil .nil .nil .nil .nil .nil .nil .nil v .nil) (fun a0 a1 a2 a3 a4 a5 a6 a7 a8 a9 aa ab ac ad ae af => fun v => .mk a0 a1 a2 a3 a4 a5 a6 a7 a8 a9 aa ab ac ad v af) x v
def O4.sf (v : O3) (x : O4) : O4 := O4.rec (motive := fun _ => O3 → O4) (fun v => .mk .nil .nil .nil .nil .nil .nil .nil .nil .nil .nil .nil .nil .nil .nil .nil v) (fun a0 a1 a2 a3 a4 a5 a6 a7 a8 a9 aa ab ac ad ae af => fun v => .mk a0 a1 a2 a3 a4 a5 a6 a7 a8 a9 aa ab ac ad ae v) x v
def O4.set (d : H) : O3 → O4 → O4 := H.rec (motive := fun _ => O3 → O4 → O4) O4.s0 O4.s1 O4.s2 O4.s3 O4.s4 O4.s5 O4.s6 O4.s7 O4.s8 O4.s9 O4.sa O4.sb O4.sc O4.sd O4.se O4.sf d
inductive T4 where
 | mk (t : O4) (f : Nat → Nat → Obj)
inductive Hp where
 | mk (t : T4) (nx : P4)
inductive RV where
 | ok (v : AV) (h : Hp)
 | err (n : Nat)
inductive RT where
 | ok (v : AV) (h : Hp)
 | err (n : Nat)
 | ch (n : Nat) (k : Nat → RT)
inductive RS where
 | nm (r : A2) (h : Hp)
 | ex (i : Nat) (r : A2) (h : Hp)
 | go (l : Nat) (r : A2) (h : Hp)
 | ret (r : A2) (h : Hp)
 | err (n : Nat)
 | ch (n : Nat) (k : Nat → RS)
def RT.elim {β : Type} (f : AV → Hp → β) (e : Nat → β) (c : Nat → (Nat → β) → β) (x : RT) : β := RT.rec f e (fun n _ ih => c n ih) x
def RS.elim {β : Type} (f1 : A2 → Hp → β) (f2 : Nat → A2 → Hp → β) (f3 : Nat → A2 → Hp → β) (f4 : A2 → Hp → β) (e : Nat → β) (c : Nat → (Nat → β) → β) (x : RS) : β := RS.rec f1 f2 f3 f4 e (fun n _ ih => c n ih) x
def zj {β : Type} (z : β) (s : Nat → β → β) (n : Nat) : β := Nat.rec z s n
def P4.succ (p : P4) : P4 := P4.rec (fun a b c d =>
 Bool.rec (.mk a b c d.succ) (Bool.rec (.mk a b c.succ .h0) (Bool.rec (.mk a b.succ .h0 .h0) (.mk a.succ .h0 .h0 .h0) b.last) c.last) d.last) (fun b _ => .eI (Nat.succ b) 0) p
def cD (p : P4) (t : T4) : Obj := T4.rec (fun t f => P4.rec (fun a b c d => O1.get d (O2.get c (O3.get b (O4.get a t)))) (fun b o => f b o) p) t
def Hp.tree (h : Hp) : T4 := Hp.rec (fun t _ => t) h
def Hp.next (h : Hp) : P4 := Hp.rec (fun _ n => n) h
def ag (p : P4) (h : Hp) : Obj := cD p h.tree
def Pk (a b c d : H) (o : Obj) (t4 : O4) (t3 : O3) (t2 : O2) : O4 := O4.set a (O3.set b (O2.set c (O1.set d o (O2.get c t2)) t2) t3) t4
def OG (a b c d : H) (o : Obj) (t4 : O4) (t3 : O3) : O4 := Pk a b c d o t4 t3 (O3.get b t3)
def Tk (b c : Nat) (o : Obj) (f : Nat → Nat → Obj) (m n : Nat) : Obj := Bool.rec (f m n) (Bool.rec (f m n) o (Nat.beq n c)) (Nat.beq m b)
def de (p : P4) (o : Obj) (t : T4) : T4 := T4.rec (fun t f => P4.rec (fun a b c d => .mk (OG a b c d o t (O4.get a t)) f) (fun b c => .mk t (Tk b c o f)) p) t
def cU (p : P4) (o : Obj) (h : Hp) : Hp := .mk (de p o h.tree) h.next
def isNone (o : Obj) : Bool := Obj.rec true false (fun _ _ _ _ _ => false) (fun _ _ => false) (fun _ _ => false) (fun _ _ _ _ => false) false o
def jq (o : Obj) (h : Hp) (k : P4 → Hp → RV) : RV := Hp.rec (fun t nx =>
 Bool.rec (.err 1) (k nx (.mk (de nx o t) nx.succ)) (isNone (cD nx t))) h
def az (a b : H) (r : A2) : AV := A1.get b (A2.get a r)
def nT (a b : H) (v : AV) (r : A2) : A2 := A2.set a (A1.set b v (A2.get a r)) r
def g2 (i : Nat) (x : A2) : AV := A1.get (dz (Nat.mod i 16)) (A2.get (dz (Nat.div i 16)) x)
def g3 (i : Nat) (x : A3) : AV := g2 (Nat.mod i 256) (A3.get (dz (Nat.div i 256)) x)
def g4 (i : Nat) (x : A4) : AV := g3 (Nat.mod i 4096) (A4.get (dz (Nat.div i 4096)) x)
def g1 (i : Nat) (x : A1) : AV := A1.get (dz i) x
def eV (i : Nat) (c : Cl) : AV := Cl.rec (motive := fun _ => Nat → AV) (fun x i => g1 i x) (fun x i => g2 i x) (fun x i => g3 i x) (fun x i => g4 i x) (fun _ f i => f i) c i
def t1 (i : Nat) (v : AV) (x : A1) : A1 := A1.set (dz i) v x
def Ua (d : H) (i : Nat) (v : AV) (x : A2) : A2 := A2.set d (t1 i v (A2.get d x)) x
def t2 (i : Nat) (v : AV) (x : A2) : A2 := Ua (dz (Nat.div i 16)) (Nat.mod i 16) v x
def Ub (d : H) (i : Nat) (v : AV) (x : A3) : A3 := A3.set d (t2 i v (A3.get d x)) x
def t3 (i : Nat) (v : AV) (x : A3) : A3 := Ub (dz (Nat.div i 256)) (Nat.mod i 256) v x
def Uc (d : H) (i : Nat) (v : AV) (x : A4) : A4 := A4.set d (t3 i v (A4.get d x)) x
def t4 (i : Nat) (v : AV) (x : A4) : A4 := Uc (dz (Nat.div i 4096)) (Nat.mod i 4096) v x
def Tl (i : Nat) (v : AV) (f : Nat → AV) (j : Nat) : AV := Bool.rec (f j) v (Nat.beq j i)
def lJ (i : Nat) (v : AV) (c : Cl) : Cl := Cl.rec (motive := fun _ => Nat → AV → Cl) (fun x i v => .k1 (t1 i v x)) (fun x i v => .k2 (t2 i v x)) (fun x i v => .k3 (t3 i v x)) (fun x i v => .k4 (t4 i v x)) (fun m f i v => .kf m (Tl i v f)) c i v
def bA (c : Cl) : Nat := Cl.rec (fun _ => 16) (fun _ => 256) (fun _ => 4096) (fun _ => 65536) (fun m _ => m) c
def AU (c : Cl) : Nat := Cl.rec (fun _ => 16) (fun _ => 256) (fun _ => 4096) (fun _ => 65536) (fun m _ => Bool.rec 0 m (Nat.ble m 16777216)) c
def bF (c : Cl) : Cl := Cl.rec (fun x => .k2 (A2.s0 x .nil)) (fun x => .k3 (A3.s0 x .nil)) (fun x => .k4 (A4.s0 x .nil)) (fun x => .kf 16777216 (fun i => g4 i x)) (fun m f => .kf m f) c
def kj (n : Nat) (c : Cl) : Cl := Bool.rec (Bool.rec (Bool.rec (Bool.rec (bF (bF (bF (bF c)))) (bF (bF (bF c))) (Nat.ble n (bA (bF (bF (bF c)))))) (bF (bF c)) (Nat.ble n (bA (bF (bF c))))) (bF c) (Nat.ble n (bA (bF c)))) c (Nat.ble n (bA c))
def cZ (l : List AV) : Nat → Cl → Cl := dI (fun _ c => c) (fun v _ ih i c => ih (Nat.succ i) (lJ i v c)) l
def Ge : Cl := .k1 .nil
def nQ (l : List AV) : Cl := cZ l 0 (kj l.length Ge)
def bG (n : Nat) : Cl → Nat → List AV := Nat.rec (fun _ _ => .nil) (fun _ ih c i => .cons (eV i c) (ih c (Nat.succ i))) n
inductive AO where
 | t (a b : H)
 | c (v : AV)
def ev (x : AO) (r : A2) : AV := AO.rec (motive := fun _ => A2 → AV) az (fun v _ => v) x r
def OX (a b : Int) : Int := Int.rec (motive := fun _ => Int → Int) (fun m b => Int.rec (fun n => .ofNat (Nat.add m n)) (fun n => Int.subNatNat m (Nat.succ n)) b) (fun m b => Int.rec (fun n => Int.subNatNat n (Nat.succ m)) (fun n => .negSucc (Nat.succ (Nat.add m n))) b) a b
def OY (a : Int) : Int := Int.rec (fun m => Int.negOfNat m) (fun m => .ofNat (Nat.succ m)) a
def Lg (a b : Int) : Int := Int.rec (motive := fun _ => Int → Int) (fun m b => Int.rec (fun n => .ofNat (Nat.mul m n)) (fun n => Int.mul (.ofNat m) (.negSucc n)) b) (fun m b => Int.mul (.negSucc m) b) a b
def OZ (a b : Int) : Int := Int.rec (motive := fun _ => Int → Int) (fun m b => Int.rec (fun n => .ofNat (Nat.div m n)) (fun n => Int.tdiv (.ofNat m) (.negSucc n)) b) (fun m b => Int.tdiv (.negSucc m) b) a b
def Gx (a b : Int) : Int := Int.rec (motive := fun _ => Int → Int) (fun m b => Int.rec (fun n => .ofNat (Nat.mod m n)) (fun n => Int.tmod (.ofNat m) (.negSucc n)) b) (fun m b => Int.tmod (.negSucc m) b) a b
def Rr (a b : Int) : Bool := Int.rec (motive := fun _ => Int → Bool) (fun m b => Int.rec (fun n => Nat.ble m n) (fun _ => false) b) (fun m b => Int.rec (fun _ => true) (fun n => Nat.ble n m) b) a b
def Lj (a b : Int) : Bool := Int.rec (motive := fun _ => Int → Bool) (fun m b => Int.rec (fun n => Nat.ble (Nat.succ m) n) (fun _ => false) b) (fun m b => Int.rec (fun _ => true) (fun n => Nat.ble (Nat.succ n) m) b) a b
def uN (a b : Int) : Bool := Int.rec (motive := fun _ => Int → Bool) (fun m b => Int.rec (fun n => Nat.beq m n) (fun _ => false) b) (fun m b => Int.rec (fun _ => false) (fun n => Nat.beq m n) b) a b
def wS (k : IntKind) (top : Nat) (n : Int) : Int := Int.rec (fun m => Bool.rec (k.wrap (.ofNat m)) (.ofNat m) (Nat.ble m top)) (fun m => Bool.rec (k.wrap (.negSucc m)) (.negSucc m) (Nat.ble m top)) n
def wU (k : IntKind) (size : Nat) (n : Int) : Int := Int.rec (fun m => .ofNat (Nat.mod m size)) (fun m => k.wrap (.negSucc m)) n
def jd (k : IntKind) : Int → Int := IntKind.rec (motive := fun _ => Int → Int) (wS .i8 127) (wS .i16 32767) (wS .i32 2147483647) (wS .i64 9223372036854775807) (wU .u8 256) (wU .u16 65536) (wU .u32 4294967296) (wU .u64 18446744073709551616) k
def lU (k : IntKind) : Nat := IntKind.rec 8 16 32 64 8 16 32 64 k
def Uh (k : IntKind) : Nat := IntKind.rec 0 1 2 3 4 5 6 7 k
def ng (a b : IntKind) : Bool := Nat.beq (Uh a) (Uh b)
def CM (f : Nat → Nat → Nat) (k : IntKind) (a b : Int) : AV := Int.rec (fun m => Int.rec (fun n => .int k (jd k (.ofNat (f (Nat.mod m (Nat.pow 2 (lU k))) (Nat.mod n (Nat.pow 2 (lU k))))))) (fun _ => .undef) b) (fun _ => .undef) a
inductive OI where
 | no
 | yes (k : IntKind) (n : Int)
inductive OB where
 | no
 | yes (b : Bool)
inductive OS where
 | no
 | yes (l : List Nat)
inductive OP where
 | no
 | yes (i : P4) (o : Nat)
inductive OL where
 | no
 | yes (l : List AV)
inductive OM where
 | no
 | nil
 | yes (i : P4)
inductive OC where
 | no
 | yes (k : FloatKind) (a b : Nat)
inductive OF where
 | no
 | yes (k : FloatKind) (a : Nat)
inductive Tm where
 | no
 | nil
 | ex (i : P4) (o n c : Nat)
 | rs (i : P4) (o n e : Nat)
inductive Ui where
 | no
 | yes (el n : Nat) (ex : Bool) (fl : Fl) (c : Cl)
inductive Tn where
 | no
 | yes (l : List KV) (clock : Nat)
inductive SS where
 | no
 | yes (f : Nat) (cs : List AV)
inductive SU where
 | no
 | nil
 | yes (t : Nat) (v : AV)
def AV.asInt (x : AV) : OI := AV.rec (motive_2 := fun _ => PUnit) .no (fun _ => .no) (fun k n => .yes k n) (fun _ => .no) (fun _ _ => .no) (fun _ _ _ => .no) (fun _ _ => .no) .no (fun _ _ _ _ => .no) (fun _ _ _ _ => .no) .no (fun _ => .no) .no (fun _ _ _ => .no) .no (fun _ _ _ => .no) .no (fun _ _ => .no) (fun _ _ => .no) (fun _ => .no) PUnit.unit (fun _ _ _ _ => PUnit.unit) x
def AV.asBool (x : AV) : OB := AV.rec (motive_2 := fun _ => PUnit) .no (fun b => .yes b) (fun _ _ => .no) (fun _ => .no) (fun _ _ => .no) (fun _ _ _ => .no) (fun _ _ => .no) .no (fun _ _ _ _ => .no) (fun _ _ _ _ => .no) .no (fun _ => .no) .no (fun _ _ _ => .no) .no (fun _ _ _ => .no) .no (fun _ _ => .no) (fun _ _ => .no) (fun _ => .no) PUnit.unit (fun _ _ _ _ => PUnit.unit) x
def AV.CX (x : AV) : OS := AV.rec (motive_2 := fun _ => PUnit) .no (fun _ => .no) (fun _ _ => .no) (fun l => .yes l) (fun _ _ => .no) (fun _ _ _ => .no) (fun _ _ => .no) .no (fun _ _ _ _ => .no) (fun _ _ _ _ => .no) .no (fun _ => .no) .no (fun _ _ _ => .no) .no (fun _ _ _ => .no) .no (fun _ _ => .no) (fun _ _ => .no) (fun _ => .no) PUnit.unit (fun _ _ _ _ => PUnit.unit) x
def AV.gQ (x : AV) : OP := AV.rec (motive_2 := fun _ => PUnit) .no (fun _ => .no) (fun _ _ => .no) (fun _ => .no) (fun _ _ => .no) (fun _ _ _ => .no) (fun i o => .yes i o) .no (fun _ _ _ _ => .no) (fun _ _ _ _ => .no) .no (fun _ => .no) .no (fun _ _ _ => .no) .no (fun _ _ _ => .no) .no (fun _ _ => .no) (fun _ _ => .no) (fun _ => .no) PUnit.unit (fun _ _ _ _ => PUnit.unit) x
def AV.asAgg (x : AV) : OL := AV.rec (motive_2 := fun _ => PUnit) .no (fun _ => .no) (fun _ _ => .no) (fun _ => .no) (fun _ _ => .no) (fun _ _ _ => .no) (fun _ _ => .no) .no (fun _ _ _ _ => .no) (fun _ _ _ _ => .no) .no (fun _ => .no) .no (fun _ _ _ => .no) .no (fun _ _ _ => .no) .no (fun l _ => .yes l) (fun _ _ => .no) (fun _ => .no) PUnit.unit (fun _ _ _ _ => PUnit.unit) x
def AV.Ik (x : AV) : OL := AV.rec (motive_2 := fun _ => PUnit) .no (fun _ => .no) (fun _ _ => .no) (fun _ => .no) (fun _ _ => .no) (fun _ _ _ => .no) (fun _ _ => .no) .no (fun _ _ _ _ => .no) (fun _ _ _ _ => .no) .no (fun _ => .no) .no (fun _ _ _ => .no) .no (fun _ _ _ => .no) .no (fun _ _ => .no) (fun l _ => .yes l) (fun _ => .no) PUnit.unit (fun _ _ _ _ => PUnit.unit) x
def AV.zk (x : AV) : OM := AV.rec (motive_2 := fun _ => PUnit) .no (fun _ => .no) (fun _ _ => .no) (fun _ => .no) (fun _ _ => .no) (fun _ _ _ => .no) (fun _ _ => .no) .no (fun _ _ _ _ => .no) (fun _ _ _ _ => .no) .no (fun i => .yes i) .nil (fun _ _ _ => .no) .no (fun _ _ _ => .no) .no (fun _ _ => .no) (fun _ _ => .no) (fun _ => .no) PUnit.unit (fun _ _ _ _ => PUnit.unit) x
def AV.Pl (x : AV) : OC := AV.rec (motive_2 := fun _ => PUnit) .no (fun _ => .no) (fun _ _ => .no) (fun _ => .no) (fun _ _ => .no) (fun k a b => .yes k a b) (fun _ _ => .no) .no (fun _ _ _ _ => .no) (fun _ _ _ _ => .no) .no (fun _ => .no) .no (fun _ _ _ => .no) .no (fun _ _ _ => .no) .no (fun _ _ => .no) (fun _ _ => .no) (fun _ => .no) PUnit.unit (fun _ _ _ _ => PUnit.unit) x
def AV.RH (x : AV) : OF := AV.rec (motive_2 := fun _ => PUnit) .no (fun _ => .no) (fun _ _ => .no) (fun _ => .no) (fun k a => .yes k a) (fun _ _ _ => .no) (fun _ _ => .no) .no (fun _ _ _ _ => .no) (fun _ _ _ _ => .no) .no (fun _ => .no) .no (fun _ _ _ => .no) .no (fun _ _ _ => .no) .no (fun _ _ => .no) (fun _ _ => .no) (fun _ => .no) PUnit.unit (fun _ _ _ _ => PUnit.unit) x
def AV.RI (x : AV) : Tm := AV.rec (motive_2 := fun _ => PUnit) .no (fun _ => .no) (fun _ _ => .no) (fun _ => .no) (fun _ _ => .no) (fun _ _ _ => .no) (fun _ _ => .no) .no (fun i o n c => .ex i o n c) (fun i o n e => .rs i o n e) .nil (fun _ => .no) .no (fun _ _ _ => .no) .no (fun _ _ _ => .no) .no (fun _ _ => .no) (fun _ _ => .no) (fun _ => .no) PUnit.unit (fun _ _ _ _ => PUnit.unit) x
def AV.Pm (x : AV) : SS := AV.rec (motive_2 := fun _ => PUnit) .no (fun _ => .no) (fun _ _ => .no) (fun _ => .no) (fun _ _ => .no) (fun _ _ _ => .no) (fun _ _ => .no) .no (fun _ _ _ _ => .no) (fun _ _ _ _ => .no) .no (fun _ => .no) .no (fun f cs _ => .yes f cs) .no (fun _ _ _ => .no) .no (fun _ _ => .no) (fun _ _ => .no) (fun _ => .no) PUnit.unit (fun _ _ _ _ => PUnit.unit) x
def AV.Pn (x : AV) : SU := AV.rec (motive_2 := fun _ => PUnit) .no (fun _ => .no) (fun _ _ => .no) (fun _ => .no) (fun _ _ => .no) (fun _ _ _ => .no) (fun _ _ => .no) .no (fun _ _ _ _ => .no) (fun _ _ _ _ => .no) .no (fun _ => .no) .no (fun _ _ _ => .no) .no (fun t v _ => .yes t v) .nil (fun _ _ => .no) (fun _ _ => .no) (fun _ => .no) PUnit.unit (fun _ _ _ _ => PUnit.unit) x
inductive EB where
 | yes
 | no
 | bad
def AV.isNil (x : AV) : EB := AV.rec (motive_2 := fun _ => PUnit) .bad (fun _ => .bad) (fun _ _ => .bad) (fun _ => .bad) (fun _ _ => .bad) (fun _ _ _ => .bad) (fun _ _ => .no) .yes (fun _ _ _ _ => .no) (fun _ _ _ _ => .no) .yes (fun _ => .no) .yes (fun _ _ _ => .no) .yes (fun _ _ _ => .no) .yes (fun _ _ => .bad) (fun _ _ => .bad) (fun _ => .bad) PUnit.unit (fun _ _ _ _ => PUnit.unit) x
def Obj.LG (o : Obj) : Ui := Obj.rec .no .no (fun a b c d e => .yes a b c d e) (fun _ _ => .no) (fun _ _ => .no) (fun _ _ _ _ => .no) .no o
def Obj.zk (o : Obj) : Tn := Obj.rec .no .no (fun _ _ _ _ _ => .no) (fun a b => .yes a b) (fun _ _ => .no) (fun _ _ _ _ => .no) .no o
def AV.dB {β : Type} (x : AV) (k : IntKind → Int → β) (e : β) : β := OI.rec e k x.asInt
def AV.bB {β : Type} (x : AV) (k : Bool → β) (e : β) : β := OB.rec e k x.asBool
def AV.iZ {β : Type} (x : AV) (k : List Nat → β) (e : β) : β := OS.rec e k x.CX
def AV.fc {β : Type} (x : AV) (k : P4 → Nat → β) (e : β) : β := OP.rec e k x.gQ
def AV.nv {β : Type} (x : AV) (k : List AV → β) (e : β) : β := OL.rec e k x.asAgg
def AV.Ct {β : Type} (x : AV) (k : List AV → β) (e : β) : β := OL.rec e k x.Ik
def AV.eM {β : Type} (x : AV) (k : P4 → β) (n e : β) : β := OM.rec e n k x.zk
def AV.sR {β : Type} (x : AV) (k : FloatKind → Nat → Nat → β) (e : β) : β := OC.rec e k x.Pl
def AV.rf {β : Type} (x : AV) (k : FloatKind → Nat → β) (e : β) : β := OF.rec e k x.RH
def AV.lK {β : Type} (x : AV) (k k' : P4 → Nat → Nat → Nat → β) (n e : β) : β := Tm.rec e n k k' x.RI
def AV.Gg {β : Type} (x : AV) (k : Nat → List AV → β) (e : β) : β := SS.rec e k x.Pm
def AV.Bw {β : Type} (x : AV) (k : Nat → AV → β) (n e : β) : β := SU.rec e n k x.Pn
def Obj.aR {β : Type} (o : Obj) (k : Nat → Nat → Bool → Fl → Cl → β) (e : β) : β := Ui.rec e k o.LG
def Obj.eM {β : Type} (o : Obj) (k : List KV → Nat → β) (e : β) : β := Tn.rec e k o.zk
def AV.one (x : AV) : Bool := AV.rec (motive_2 := fun _ => PUnit) false (fun _ => true) (fun _ _ => true) (fun _ => true) (fun _ _ => true) (fun _ _ _ => true) (fun _ _ => true) true (fun _ _ _ _ => true) (fun _ _ _ _ => true) true (fun _ => true) true (fun _ _ _ => true) true (fun _ _ _ => true) true (fun _ _ => false) (fun _ _ => false) (fun _ => false) PUnit.unit (fun _ _ _ _ => PUnit.unit) x
def AV.cs (x : AV) : List AV := OL.rec (.cons x .nil) (fun l => l) x.asAgg
def jg (a b : List Nat) : Bool := dI (β := List Nat → Bool) (fun b => List.rec true (fun _ _ _ => false) b)
 (fun x _ ih b => List.rec false (fun y b _ => Bool.rec false (ih b) (Nat.beq x y)) b) a b
def vo (a b : List Nat) : Bool := dI (β := List Nat → Bool) (fun b => List.rec false (fun _ _ _ => true) b)
 (fun x _ ih b => List.rec false (fun y b _ => Bool.rec (Nat.ble x y) (ih b) (Nat.beq x y)) b) a b
def oZ (a b : H) : Bool := Nat.beq a.nat b.nat
def qc (a b : P4) : Bool := P4.rec (fun a1 a2 a3 a4 => P4.rec (fun b1 b2 b3 b4 =>
 Bool.rec false (Bool.rec false (Bool.rec false (oZ a1 b1) (oZ a2 b2)) (oZ a3 b3)) (oZ a4 b4)) (fun _ _ => false) b) (fun m n => P4.rec (fun _ _ _ _ => false) (fun m2 n2 => Bool.rec false (Nat.beq n n2) (Nat.beq m m2)) b) a
def ko (a b : Bool) : Bool := Bool.rec (Bool.rec true false b) b a
def EB.of (b : Bool) : EB := Bool.rec .no .yes b
def fp (o : Obj) : Bool := Obj.aR o (fun _ _ _ fl _ => Fl.rec true false false false fl) false
inductive KK where
 | b | i | s | p
def SQ (x y : AV) : EB := OB.rec .bad (fun a => OB.rec .bad (fun b => .of (ko a b)) y.asBool) x.asBool
def Us (x y : AV) : EB := OI.rec .bad (fun k a => OI.rec .bad (fun k' b => Bool.rec .bad (.of (uN a b)) (ng k k')) y.asInt) x.asInt
def Ut (x y : AV) : EB := OS.rec .bad (fun a => OS.rec .bad (fun b => .of (jg a b)) y.CX) x.CX
def fy (x : AV) : Bool := AV.rec (motive_2 := fun _ => PUnit) false (fun _ => false) (fun _ _ => false) (fun _ => false) (fun _ _ => false) (fun _ _ _ => false) (fun _ _ => false) true (fun _ _ _ _ => false) (fun _ _ _ _ => false) false (fun _ => false) false (fun _ _ _ => false) false (fun _ _ _ => false) false (fun _ _ => false) (fun _ _ => false) (fun _ => false) PUnit.unit (fun _ _ _ _ => PUnit.unit) x
def Pa (h : Hp) (x y : AV) : EB := OP.rec (Bool.rec .bad (OP.rec (Bool.rec .bad .yes (fy y)) (fun _ _ => .no) y.gQ) (fy x)) (fun i o => OP.rec (Bool.rec .bad .no (fy y)) (fun j q => Bool.rec (Bool.rec .bad (Bool.rec .bad .no (fp (ag j h))) (fp (ag i h))) (.of (Nat.beq o q)) (qc i j)) y.gQ) x.gQ
def CP (k : KK) (h : Hp) (x y : AV) : EB := KK.rec (SQ x y) (Us x y) (Ut x y) (Pa h x y) k
def rX (ks : List KK) (h : Hp) (a b : List AV) : EB := dI (β := List AV → List AV → EB) (fun a b => List.rec (List.rec .yes (fun _ _ _ => .bad) b) (fun _ _ _ => .bad) a)
 (fun k _ ih a b => List.rec .bad (fun x a _ => List.rec .bad (fun y b _ => EB.rec (ih a b) (EB.rec .no .no .bad (ih a b)) .bad (CP k h x y)) b) a) ks a b
def EB.rv (neg : Bool) (h : Hp) (e : EB) : RV := EB.rec (.ok (.bool (Bool.not neg)) h) (.ok (.bool neg) h) (.err 2) e
def RJ (_ : Hp) (x y : AV) : EB := AV.Bw x (fun t _ => AV.Bw y (fun u _ => Bool.rec .no .bad (Nat.beq t u)) .no .bad)
 (AV.Bw y (fun _ _ => .no) .bad .bad) .bad
inductive Part where
 | mk (off sz : Nat) (x : AO)
inductive NK where
 | s | m | f | i
def Po (x : AV) : EB := AV.rec (motive_2 := fun _ => PUnit) .bad (fun _ => .bad) (fun _ _ => .bad) (fun _ => .bad) (fun _ _ => .bad) (fun _ _ _ => .bad) (fun _ _ => .bad) .bad (fun _ _ _ _ => .bad) (fun _ _ _ _ => .bad) .bad (fun _ => .bad) .bad (fun _ _ _ => .no) .yes (fun _ _ _ => .bad) .bad (fun _ _ => .bad) (fun _ _ => .bad) (fun _ => .bad) PUnit.unit (fun _ _ _ _ => PUnit.unit) x
def tz (k : NK) (x : AV) : EB := NK.rec (Tm.rec .bad .yes (fun _ _ _ _ => .no) (fun _ _ _ _ => .no) x.RI) (OM.rec .bad .yes (fun _ => .no) x.zk) (Po x) (SU.rec .bad .yes (fun _ _ => .no) x.Pn) k
inductive BK where
 | add | sub | mul | quo | rem | and | or | xor | Ro | shl | shr
 | eq | ne | lt | le | gt | ge
 | seq | SO | slt | sle | TS | TU | cat
 | beq | bne | qc | Td | jD (k : NK) | qY (k : NK)
 | TV (ks : List KK) | OJ (ks : List KK)
 | TW (op : BinOp)
 | TX (op : BinOp)
 | uN | Uu
inductive UK where
 | not | neg | TY
inductive CK where
 | same | toInt (k : IntKind) | Rp (el : Nat) | Le | UE | Up (k : FloatKind) | Uq (k : IntKind) | Ur (el : Nat) | Te | Gn (u sz : Nat)
inductive OA where
 | none
 | some (x : AO)
def Lk (v : AV) (h : Hp) : RV := EB.rec (.ok v h) (.err 3) (.err 3) (OI.rec (OB.rec .bad (fun _ => .yes) v.asBool) (fun _ _ => .yes) v.asInt)
def Bg (f : IntKind → Int → Int → AV) (x y : AV) (h : Hp) : RV := AV.dB x (fun k a => AV.dB y (fun k' b => Bool.rec (.err 4) (.ok (f k a b) h) (ng k k')) (.err 4)) (.err 4)
def Ll (f : IntKind → Int → Int → AV) (x y : AV) (h : Hp) : RV := AV.dB x (fun k a => AV.dB y (fun k' b => Bool.rec (.err 4) (Lk (f k a b) h) (ng k k')) (.err 4)) (.err 4)
def Ly (f : List Nat → List Nat → AV) (x y : AV) (h : Hp) : RV := AV.iZ x (fun a => AV.iZ y (fun b => .ok (f a b) h) (.err 5)) (.err 5)
def QW (f : IntKind → Int → Int → AV) (x y : AV) (h : Hp) : RV := AV.dB x (fun k a => AV.dB y (fun _ b => Lk (f k a b) h) (.err 6)) (.err 6)
def Pe (k : IntKind) (a b : Int) : AV := Int.rec (fun n => .int k (jd k (Lg a (.ofNat (Nat.pow 2 (Nat.min n (lU k))))))) (fun _ => .undef) b
def Pf (k : IntKind) (a b : Int) : AV := Int.rec (fun n => Int.rec (fun m => .int k (.ofNat (Nat.div m (Nat.pow 2 (Nat.min n (lU k)))))) (fun m => .int k (Int.fdiv (.negSucc m) (2 ^ (Nat.min n (lU k))))) a) (fun _ => .undef) b
def LD (k : FloatKind) (op : BinOp) (a b : Nat) (h : Hp) : RV :=
 let c := k.format.order a b
 match op with
 | .eql => .ok (.bool (c == some .eq)) h
 | .neq => .ok (.bool (c != some .eq)) h
 | .lss => .ok (.bool (c == some .lt)) h
 | .leq => .ok (.bool (c == some .lt || c == some .eq)) h
 | .gtr => .ok (.bool (c == some .gt)) h
 | .geq => .ok (.bool (c == some .gt || c == some .eq)) h
 | .add => match k.format.add a b with | some r => .ok (.pX k r) h | none => .err 7
 | .sub => match k.format.sub a b with | some r => .ok (.pX k r) h | none => .err 7
 | .mul => match k.format.mul a b with | some r => .ok (.pX k r) h | none => .err 7
 | .quo => match k.format.div a b with | some r => .ok (.pX k r) h | none => .err 7
 | _ => .err 7
def CU (k : FloatKind) (op : BinOp) (a b c d : Nat) (h : Hp) : RV :=
 match op with
 | .add => match k.format.add a c, k.format.add b d with | some r, some s => .ok (.gU k r s) h | _, _ => .err 8
 | .sub => match k.format.sub a c, k.format.sub b d with | some r, some s => .ok (.gU k r s) h | _, _ => .err 8
 | .eql => .ok (.bool (k.format.order a c == some .eq && k.format.order b d == some .eq)) h
 | .neq => .ok (.bool (!(k.format.order a c == some .eq && k.format.order b d == some .eq))) h
 | _ => .err 8
def xf (a b : FloatKind) : Bool := FloatKind.rec (FloatKind.rec true false b) (FloatKind.rec false true b) a
def yj : AV → AV → Hp → RV := Bg (fun k a b => .int k (jd k (OX a b)))
def ny : AV → AV → Hp → RV := Bg (fun k a b => .int k (jd k (OX a (OY b))))
def CJ : AV → AV → Hp → RV := Bg (fun k a b => .int k (jd k (Lg a b)))
def NI : AV → AV → Hp → RV := Ll (fun k a b => Bool.rec (.int k (jd k (OZ a b))) .undef (uN b (.ofNat 0)))
def CL : AV → AV → Hp → RV := Ll (fun k a b => Bool.rec (.int k (Gx a b)) .undef (uN b (.ofNat 0)))
def GJ : AV → AV → Hp → RV := Ll (CM Nat.land)
def Ln : AV → AV → Hp → RV := Ll (CM Nat.lor)
def CN : AV → AV → Hp → RV := Ll (CM Nat.xor)
def GL : AV → AV → Hp → RV := Bg (fun k a b => .int k (k.wrap (BitVec.ofInt k.bits a &&& ~~~BitVec.ofInt k.bits b).toNat))
def Ei : AV → AV → Hp → RV := Bg (fun _ a b => .bool (uN a b))
def kF : AV → AV → Hp → RV := Bg (fun _ a b => .bool (Bool.not (uN a b)))
def wR : AV → AV → Hp → RV := Bg (fun _ a b => .bool (Lj a b))
def Bh : AV → AV → Hp → RV := Bg (fun _ a b => .bool (Rr a b))
def dj : AV → AV → Hp → RV := Bg (fun _ a b => .bool (Lj b a))
def Lw : AV → AV → Hp → RV := Bg (fun _ a b => .bool (Rr b a))
def yr : AV → AV → Hp → RV := Ly (fun a b => .bool (jg a b))
def yt : AV → AV → Hp → RV := Ly (fun a b => .bool (Bool.not (jg a b)))
def NJ : AV → AV → Hp → RV := Ly (fun a b => .bool (vo a b))
def NM : AV → AV → Hp → RV := Ly (fun a b => .bool (Bool.not (vo b a)))
def NL : AV → AV → Hp → RV := Ly (fun a b => .bool (vo b a))
def NN : AV → AV → Hp → RV := Ly (fun a b => .bool (Bool.not (vo a b)))
def GV (x y : AV) (h : Hp) : RV := AV.iZ x (fun a => AV.iZ y (fun b => Bool.rec (.err 135) (.ok (.str (List.append a b)) h) (Nat.ble (Nat.add a.length b.length) 4294967296)) (.err 5)) (.err 5)
def yy (neg : Bool) (ks : List KK) (x y : AV) (h : Hp) : RV := AV.nv x (fun a => AV.nv y (fun b => EB.rv neg h (rX ks h a b)) (.err 10)) (.err 10)
def HN (op : BinOp) (x y : AV) (h : Hp) : RV := AV.rf x (fun k a => AV.rf y (fun k' b => Bool.rec (.err 7) (LD k op a b h) (xf k k')) (.err 7)) (.err 7)
def HQ (op : BinOp) (x y : AV) (h : Hp) : RV := AV.sR x (fun k a b => AV.sR y (fun k' c d => Bool.rec (.err 8) (CU k op a b c d h) (xf k k')) (.err 8)) (.err 8)
def bK (op : BK) : AV → AV → Hp → RV := BK.rec (motive := fun _ => AV → AV → Hp → RV) yj ny CJ NI CL GJ Ln CN GL (QW Pe) (QW Pf) Ei kF wR Bh dj Lw yr yt NJ NM NL NN GV (fun x y h => EB.rv false h (SQ x y)) (fun x y h => EB.rv true h (SQ x y)) (fun x y h => EB.rv false h (Pa h x y)) (fun x y h => EB.rv true h (Pa h x y)) (fun k x _ h => EB.rv false h (tz k x)) (fun k x _ h => EB.rv true h (tz k x)) (yy false) (yy true) HN HQ (fun x y h => EB.rv false h (RJ h x y)) (fun x y h => EB.rv true h (RJ h x y)) op
def NQ (op : BK) (x y : AO) (r : A2) (h : Hp) : RV := bK op (ev x r) (ev y r) h
def lW (x : AV) (h : Hp) : RV := AV.bB x (fun b => .ok (.bool (Bool.not b)) h) (.err 11)
def CQ (x : AV) (h : Hp) : RV := AV.dB x (fun k n => .ok (.int k (jd k (OY n))) h) (.err 11)
def CR (x : AV) (h : Hp) : RV := AV.dB x (fun k n => .ok (.int k (k.wrap (BitVec.ofInt k.bits (if k.signed then -1 else k.max) ^^^ BitVec.ofInt k.bits n).toNat)) h) (.err 11)
def LH (op : UK) (x : AO) (r : A2) (h : Hp) : RV := UK.rec (motive := fun _ => AV → Hp → RV) lW CQ CR op (ev x r) h
def LI (x : AO) (r : A2) (h : Hp) : RV := .ok (ev x r) h
def ei (c a b : AO) (r : A2) (h : Hp) : RV := AV.bB (ev c r) (fun t => .ok (Bool.rec (ev b r) (ev a r) t) h) (.err 12)
def qb : P4 → Hp → RV := fun i h => .ok (.ptr i 0) h
def ik (el : Nat) (ex : Bool) (fl : Fl) (n : Nat) (c : Cl) (h : Hp) (k : P4 → Hp → RV) : RV := Bool.rec (.err 130) (jq (.cells el n ex fl c) h k) (Nat.ble n (AU c))
def KU (el : Nat) (l : List AV) (h : Hp) : RV := ik el true .plain l.length (nQ l) h qb
def CE (el n : Nat) (c : Cl) (_ : A2) (h : Hp) : RV := ik el true .plain n c h qb
def yp (el : Nat) (x : AO) (r : A2) (h : Hp) : RV := OL.rec (Bool.rec (.err 134) (KU el (.cons (ev x r) .nil) h) (ev x r).one) (fun l => KU el l h) (ev x r).asAgg
def LA (l : List AV) (i : Nat) (v : AV) : List AV := dI (β := Nat → List AV) (fun _ => .nil)
 (fun x t ih i => Nat.rec (.cons v t) (fun i _ => .cons x (ih i)) i) l i
def nE (vs : List AV) : Nat → List AV → List AV := dI (fun _ l => l) (fun v _ ih i l => ih (Nat.succ i) (LA l i v)) vs
def fill (ps : List Part) (r : A2) : List AV → List AV := dI (fun l => l)
 (fun p _ ih l => Part.rec (fun off _ x => ih (nE (AV.cs (ev x r)) off l)) p) ps
def fits (ps : List Part) (r : A2) : Bool := dI true (fun p _ ih => Part.rec (fun _ sz x => OL.rec (Bool.rec false ih (Bool.and (ev x r).one (Nat.beq sz 1))) (fun l => Bool.rec false ih (Nat.beq l.length sz)) (ev x r).asAgg) p) ps
def kq (z : List AV) (ps : List Part) (r : A2) (h : Hp) : RV := Bool.rec (.err 132) (.ok (.agg (fill ps r z)) h) (fits ps r)
def CY (el n : Nat) (l : List AV) (h : Hp) : RV := ik el true .plain l.length (nQ l) h (fun i h => .ok (.slice i 0 n n) h)
def gw (el es n : Nat) (z : List AV) (ps : List Part) (r : A2) (h : Hp) : RV := Bool.rec (.err 133) (CY el n (fill ps r z) h) (fits ps r)
def Gf (i n : Nat) : Bool := Nat.ble (Nat.succ i) n
def lq (x : AO) (r : A2) (h : Hp) : RV := AV.fc (ev x r) (fun i o => Obj.aR (ag i h) (fun _ n _ _ c =>
 Bool.rec (.err 13) (.ok (eV o c) h) (Gf o n)) (.err 14)) (.err 15)
def rh (m : Nat) (x : AO) (r : A2) (h : Hp) : RV := AV.fc (ev x r) (fun i o => Obj.aR (ag i h) (fun _ n _ _ c =>
 Bool.rec (.err 16) (.ok (.agg (bG m c o)) h) (Nat.ble (Nat.add o m) n)) (.err 17)) (.err 18)
def wr (fl : Fl) : Bool := Fl.rec true true false false fl
def Gq (fl : Fl) : Bool := Fl.rec false false false true fl
def sV (x y : AO) (r : A2) (h : Hp) : RV := AV.fc (ev x r) (fun i o => Obj.aR (ag i h) (fun el n ex fl c =>
 Bool.rec (.err 19) (Bool.rec (.err 20) (.ok .undef (cU i (.cells el n ex fl (lJ o (ev y r) c)) h)) (Bool.and (Gf o n) (ev y r).one)) (wr fl)) (.err 21)) (.err 22)
def yq (m : Nat) (x y : AO) (r : A2) (h : Hp) : RV := AV.fc (ev x r) (fun i o => Obj.aR (ag i h) (fun el n ex fl c =>
 Bool.rec (.err 23) (Bool.rec (.err 24) (AV.nv (ev y r) (fun l => Bool.rec (.err 25) (.ok .undef (cU i (.cells el n ex fl (cZ l o c)) h)) (Nat.beq l.length m)) (.err 26)) (Nat.ble (Nat.add o m) n)) (wr fl)) (.err 27)) (.err 28)
def qa (x : AV) (h : Hp) : RV := EB.rec (.err 30) (.ok x h) (.err 29) x.isNil
def qn (x : AO) (r : A2) (h : Hp) : RV := OP.rec (qa (ev x r) h) (fun i o => .ok (.ptr i o) h) (ev x r).gQ
def Rt (k : IntKind) : Bool := IntKind.rec false false false false true false false false k
def CZ (k : IntKind) : Bool := IntKind.rec false false false true false false false false k
def fx (l : List AV) (k : List Nat → RV) (e : RV) : RV := dI (β := (List Nat → RV) → RV) (fun k => k .nil)
 (fun x _ ih k => AV.dB x (fun kd n => Bool.rec e (Int.rec (fun m => Bool.rec e (ih (fun s => k (.cons m s))) (Nat.ble m 255)) (fun _ => e) n) (Rt kd)) e) l k
def byteCells (s : List Nat) : List AV := dI .nil (fun b _ ih => .cons (.int .u8 (.ofNat b)) ih) s
def ji (es : Nat) (i : P4) (o n : Nat) (h : Hp) (k : List AV → RV) (e : RV) : RV := Nat.rec (k .nil) (fun n _ => Obj.aR (ag i h) (fun _ m _ _ c => Bool.rec e (k (bG (Nat.mul (Nat.succ n) es) c o)) (Nat.ble (Nat.add o (Nat.mul (Nat.succ n) es)) m)) e) n
def elems (es : Nat) (x : AV) (h : Hp) (k : List AV → RV) (e : RV) : RV := AV.lK x
 (fun i o n _ => ji es i o n h k e)
 (fun i o n es' => Bool.rec e (ji es i o n h k e) (Nat.beq es es'))
 (k .nil) e
def mP (el : Nat) (fl : Fl) (es : Nat) (n : Nat) (l : List AV) (h : Hp) : RV := ik el false fl l.length (nQ l) h (fun i h => .ok (.eR i 0 n es) h)
def LJ (s : List Nat) : List AV := (Conv.runesFrom ⟨(s.map UInt8.ofNat).toArray⟩ s.length 0 #[]).toList.filterMap fun | .int _ n => some (.int .i32 n) | _ => none
def Il (el : Nat) (l : List AV) (h : Hp) : RV := mP el .plain 1 l.length l h
def NO (el : Nat) (x : AV) (h : Hp) : RV := AV.iZ x (fun s => mP el .mark 1 s.length (byteCells s) h) (.err 32)
def xd (k : IntKind) (x : AV) (h : Hp) : RV := AV.dB x (fun _ n => .ok (.int k (jd k n)) h) (.err 31)
def Hl (x : AV) (h : Hp) : RV := elems 1 x h (fun l => fx l (fun s => .ok (.str s) h) (.err 33)) (.err 34)
def Oe (x : AV) (h : Hp) : RV := AV.dB x (fun _ n => .ok (.str ((Utf8.encode n).data.toList.map (·.toNat))) h) (.err 35)
def HT (k : FloatKind) (x : AV) (h : Hp) : RV := AV.dB x (fun _ n => .ok (.pX k (k.nearest n)) h) (.err 36)
def HV (k : IntKind) (x : AV) (h : Hp) : RV := AV.rf x (fun s b => match (s.decode b).toInt .zero with | some n => if k.min ≤ n ∧ n ≤ k.max then .ok (.int k n) h else .err 37 | none => .err 37) (.err 37)
def RK (el : Nat) (x : AV) (h : Hp) : RV := AV.iZ x (fun s => Il el (LJ s) h) (.err 38)
def Im (x : AV) (h : Hp) : RV := AV.iZ x (fun s => .ok (.str s) h) (.err 38)
def Io (x : AV) (h : Hp) : RV := OP.rec (Bool.rec (.err 190) (.ok x h) (fy x)) (fun i o => Obj.aR (ag i h) (fun _ n ex _ _ => Bool.rec (.err 191) (.ok x h) (Bool.and ex (Gf o n))) (.err 192)) x.gQ
def xn (u sz : Nat) (x : AV) (h : Hp) : RV := OP.rec (Bool.rec (.err 190) (.ok x h) (fy x)) (fun i o => Obj.aR (ag i h) (fun el n ex _ _ => Bool.rec (.err 193) (.ok x h) (Bool.and ex (Bool.and (Nat.beq o 0) (Bool.and (Nat.beq el u) (Nat.beq n sz))))) (.err 194)) x.gQ
def cK (op : CK) : AV → Hp → RV := CK.rec (motive := fun _ => AV → Hp → RV) Im xd NO Hl Oe HT HV RK Io xn op
def tU (op : CK) (x : AO) (r : A2) (h : Hp) : RV := cK op (ev x r) h
def yH (t : Nat) (x : AO) (r : A2) (h : Hp) : RV := .ok (.iface t (ev x r)) h
def fL (xs : List AO) (r : A2) : List AV := dI .nil (fun x _ ih => .cons (ev x r) ih) xs
def yI (f : Nat) (xs : List AO) (r : A2) (h : Hp) : RV := .ok (.fn f (fL xs r)) h
def rQ (_ : A2) (h : Hp) : RV := jq (.map .nil 0) h (fun i h => .ok (.map i) h)
def fJ (n : Nat) (z : List AV) : List AV := Nat.rec .nil (fun _ ih => List.append z ih) n
def eE (x : AV) (k : Nat → RV) (e : RV) : RV := AV.dB x (fun _ n => Int.rec k (fun _ => e) n) e
def Tp (el l c : Nat) (v : List AV) (h : Hp) : RV := ik el true .plain v.length (nQ v) h (fun i h => .ok (.slice i 0 l c) h)
def hY (el : Nat) (z : List AV) (l c : AO) (r : A2) (h : Hp) : RV := eE (ev l r) (fun l => eE (ev c r) (fun c =>
 Bool.rec (.err 39) (Bool.rec (.err 40) (Tp el l c (fJ c z) h) (Nat.ble c 1048576)) (Nat.ble l c)) (.err 41)) (.err 41)
def fM (x : OA) (d : Nat) (r : A2) (k : Nat → RV) (e : RV) : RV := OA.rec (k d) (fun x => eE (ev x r) k e) x
def isSome (x : OA) : Bool := OA.rec false (fun _ => true) x
def Ip (es : Nat) (i : P4) (o a b m cap : Nat) (h : Hp) : RV := Bool.rec (.err 42) (Bool.rec (.err 42) (Bool.rec (.err 42) (.ok (.slice i (Bool.rec (Nat.add o (Nat.mul a es)) o (Nat.beq m a)) (Nat.sub b a) (Nat.sub m a)) h) (Nat.ble m cap)) (Nat.ble b m)) (Nat.ble a b)
def Og (es : Nat) (i : P4) (o a b : Nat) (h : Hp) : RV := Bool.rec (.err 42) (Obj.aR (ag i h) (fun _ k _ _ _ =>
 Bool.rec (.err 45) (.ok (.eR i (Nat.add o (Nat.mul a es)) (Nat.sub b a) es) h) (Nat.ble (Nat.add o (Nat.mul b es)) k)) (.err 46)) (Nat.ble a b)
def Oh (es : Nat) (i : P4) (o a b m : Nat) (h : Hp) : RV := Bool.rec (.err 42) (Bool.rec (.err 42) (Obj.aR (ag i h) (fun _ k _ _ _ =>
 Bool.rec (.err 45) (.ok (.slice i (Bool.rec (Nat.add o (Nat.mul a es)) o (Nat.beq m a)) (Nat.sub b a) (Nat.sub m a)) h) (Nat.ble (Nat.add o (Nat.mul m es)) k)) (.err 46)) (Bool.and (Nat.ble 1 m) (Nat.ble b m))) (Nat.ble a b)
def fu (es : Nat) (x : AO) (lo hi mx : OA) (r : A2) (h : Hp) : RV := AV.lK (ev x r)
 (fun i o n cap => fM mx cap r (fun m => fM hi n r (fun b => fM lo 0 r (fun a => Ip es i o a b m cap h) (.err 43)) (.err 43)) (.err 43))
 (fun i o n es' => Bool.rec (.err 44) (fM hi n r (fun b => fM lo 0 r (fun a => Bool.rec (Og es i o a b h) (fM mx 0 r (fun m => Oh es i o a b m h) (.err 43)) (isSome mx)) (.err 43)) (.err 43)) (Nat.beq es es'))
 (fM mx 0 r (fun m => fM hi 0 r (fun b => fM lo 0 r (fun a => Bool.rec (.err 47) (.ok .ai h) (Nat.beq (Nat.add m (Nat.add a b)) 0)) (.err 43)) (.err 43)) (.err 43))
 (.err 48)
def fw (x : AO) (lo hi : OA) (r : A2) (h : Hp) : RV := AV.iZ (ev x r) (fun s => fM hi s.length r (fun b => fM lo 0 r (fun a =>
 Bool.rec (.err 49) (Bool.rec (.err 49) (.ok (.str (List.take (Nat.sub b a) (List.drop a s))) h) (Nat.ble b s.length)) (Nat.ble a b)) (.err 49)) (.err 49)) (.err 49)
def kK (len es : Nat) (x : AO) (lo hi mx : OA) (r : A2) (h : Hp) : RV := AV.fc (ev x r) (fun i o => fM mx len r (fun m => fM hi len r (fun b => fM lo 0 r (fun a => Ip es i o a b m len h) (.err 43)) (.err 43)) (.err 43)) (.err 50)
def sK (d : Nat) (x : AO) (r : A2) (h : Hp) : RV := AV.fc (ev x r) (fun i o => .ok (.ptr i (Nat.add o d)) h) (.err 51)
def qA (d : Nat) (x : AO) (r : A2) (h : Hp) : RV := AV.nv (ev x r) (fun l => List.rec (.err 52) (fun v _ _ => .ok v h) (List.drop d l)) (.err 52)
def qB (d n : Nat) (x : AO) (r : A2) (h : Hp) : RV := AV.nv (ev x r) (fun l => Bool.rec (.err 53) (.ok (.agg (List.take n (List.drop d l))) h) (Nat.ble (Nat.add d n) l.length)) (.err 53)
def Eh (es : Nat) (i : P4) (o n k : Nat) (h : Hp) : RV := Bool.rec (.err 54) (.ok (.ptr i (Nat.add o (Nat.mul k es))) h) (Gf k n)
def vu (es : Nat) (x y : AO) (r : A2) (h : Hp) : RV := eE (ev y r) (fun k => AV.lK (ev x r)
 (fun i o n _ => Eh es i o n k h) (fun i o n _ => Eh es i o n k h) (.err 54) (.err 55)) (.err 55)
def vt (len es : Nat) (x y : AO) (r : A2) (h : Hp) : RV := eE (ev y r) (fun k => AV.fc (ev x r) (fun i o => Eh es i o len k h) (.err 56)) (.err 56)
def qo (x y : AO) (r : A2) (h : Hp) : RV := eE (ev y r) (fun k => AV.iZ (ev x r) (fun s => List.rec (.err 57) (fun b _ _ => .ok (.int .u8 (.ofNat b)) h) (List.drop k s)) (.err 57)) (.err 57)
def oo (len es : Nat) (agg : Bool) (x y : AO) (r : A2) (h : Hp) : RV := eE (ev y r) (fun k => AV.nv (ev x r) (fun l => Bool.rec (.err 58) (Bool.rec (List.rec (.err 58) (fun v _ _ => .ok v h) (List.drop (Nat.mul k es) l)) (Bool.rec (.err 58) (.ok (.agg (List.take es (List.drop (Nat.mul k es) l))) h) (Nat.ble (Nat.add (Nat.mul k es) es) l.length)) agg) (Gf k len)) (.err 58)) (.err 58)
def vq (i : Nat) (x : AO) (r : A2) (h : Hp) : RV := AV.Ct (ev x r) (fun l => List.rec (.err 59) (fun v _ _ => .ok v h) (List.drop i l)) (.err 59)
inductive KT where
 | one (k : KK)
 | agg (ks : List KK)
def EG (t : KT) (a b : AV) (h : Hp) : EB := KT.rec (fun k => CP k h a b) (fun ks => OL.rec .bad (fun l => OL.rec .bad (fun m => rX ks h l m) b.asAgg) a.asAgg) t
def yF (kt : KT) (x : AV) (l : List KV) (h : Hp) (k : Nat → AV → Nat → RV) (n e : RV) : RV := dI (β := Nat → RV) (fun _ => n)
 (fun y _ ih i => KV.rec (fun a v born => EB.rec (k i v born) (ih (Nat.succ i)) e (EG kt x a h)) y) l 0
def xi (i : Nat) (key v : AV) (l : List KV) : List KV := dI (β := Nat → List KV) (fun _ => .nil)
 (fun y t ih i => Nat.rec (KV.rec (fun _ _ born => .cons (.mk key v born) t) y) (fun i _ => .cons y (ih i)) i) l i
def Pd (i : Nat) (l : List KV) : List KV := dI (β := Nat → List KV) (fun _ => .nil) (fun y t ih i => Nat.rec t (fun i _ => .cons y (ih i)) i) l i
def snoc (l : List KV) (y : KV) : List KV := dI (.cons y .nil) (fun x _ ih => .cons x ih) l
def CS (ok found : Bool) (v : AV) (h : Hp) : RV := .ok (Bool.rec v (.jx (.cons v (.cons (.bool found) .nil))) ok) h
def tr (t : KT) (x : AV) (h : Hp) : Bool := EB.rec true true false (EG t x x h)
def FP (t : KT) (z : AV) (ok : Bool) (x k : AV) (h : Hp) : RV := Bool.rec (.err 60) (AV.eM x (fun i => Obj.eM (ag i h) (fun l _ => yF t k l h (fun _ v _ => CS ok true v h) (CS ok false z h) (.err 61)) (.err 62)) (CS ok false z h) (.err 63)) (tr t k h)
def Da (t : KT) (z : AV) (ok : Bool) (x y : AO) (r : A2) (h : Hp) : RV := FP t z ok (ev x r) (ev y r) h
def Ny (t : KT) (x k v : AV) (h : Hp) : RV := Bool.rec (.err 64) (AV.eM x (fun i => Obj.eM (ag i h) (fun l c => yF t k l h
   (fun j _ _ => .ok .undef (cU i (.map (xi j k v l) c) h)) (.ok .undef (cU i (.map (snoc l (.mk k v c)) (Nat.succ c)) h)) (.err 65)) (.err 66))
  (.err 67) (.err 68)) (tr t k h)
def Db (t : KT) (x y z : AO) (r : A2) (h : Hp) : RV := Ny t (ev x r) (ev y r) (ev z r) h
def yk (t : KT) (z x k : AV) (h : Hp) : RV := Bool.rec (.err 220) (AV.eM x (fun i => Obj.eM (ag i h) (fun l c => yF t k l h
   (fun j v b => .ok (.jx (.cons v (.cons (.int .i64 (.ofNat b)) .nil))) (cU i (.map (xi j k v l) c) h)) (.ok (.jx (.cons z (.cons (.int .i64 (.ofNat c)) .nil))) (cU i (.map (snoc l (.mk k z c)) (Nat.succ c)) h)) (.err 221)) (.err 222))
  (.err 223) (.err 224)) (tr t k h)
def xo (t : KT) (z : AV) (x y : AO) (r : A2) (h : Hp) : RV := yk t z (ev x r) (ev y r) h
def Rx (b : Nat) (l : List KV) (k : Nat → AV → RV) (e : RV) : RV := dI (β := Nat → RV) (fun _ => e) (fun y _ ih i => KV.rec (fun a _ c => Bool.rec (ih (Nat.succ i)) (k i a) (Nat.beq b c)) y) l 0
def yl (x s v : AV) (h : Hp) : RV := AV.eM x (fun i => Obj.eM (ag i h) (fun l c => eE s (fun b => Rx b l (fun j a => .ok .undef (cU i (.map (xi j a v l) c) h)) (.err 225)) (.err 226)) (.err 227)) (.err 228) (.err 229)
def xp (x y z : AO) (r : A2) (h : Hp) : RV := yl (ev x r) (ev y r) (ev z r) h
def cm : AV := .jx .nil
def del (t : KT) (x k : AV) (h : Hp) : RV := Bool.rec (.err 69) (AV.eM x (fun i => Obj.eM (ag i h) (fun l c => yF t k l h
   (fun j _ _ => .ok cm (cU i (.map (Pd j l) c) h)) (.ok cm h) (.err 70)) (.err 71))
  (.ok cm h) (.err 72)) (tr t k h)
def Dc (t : KT) (x y : AO) (r : A2) (h : Hp) : RV := del t (ev x r) (ev y r) h
def jM (n : Nat) : AV := .int .i64 (.ofNat n)
def qw (x : AO) (r : A2) (h : Hp) : RV := AV.eM (ev x r) (fun i => Obj.eM (ag i h) (fun l _ => .ok (jM l.length) h) (.err 73)) (.ok (jM 0) h) (.err 73)
def len (x : AV) (h : Hp) : RV := AV.lK x (fun _ _ n _ => .ok (jM n) h) (fun _ _ n _ => .ok (jM n) h) (.ok (jM 0) h) (.err 74)
def kr (x : AV) (h : Hp) : RV := AV.iZ x (fun s => .ok (jM s.length) h) (.err 74)
def Dd (x : AO) (r : A2) (h : Hp) : RV := len (ev x r) h
def xq (x : AO) (r : A2) (h : Hp) : RV := kr (ev x r) h
def vB (x : AO) (r : A2) (h : Hp) : RV := AV.lK (ev x r) (fun _ _ _ c => .ok (jM c) h) (fun _ _ _ _ => .err 75) (.ok (jM 0) h) (.err 75)
def Bq (mn : Bool) (a b : Int) : Int := Bool.rec (Bool.rec a b (Lj a b)) (Bool.rec a b (Lj b a)) mn
def yJ (mn : Bool) (k : IntKind) (h : Hp) (l : List AV) : Int → RV := dI (β := Int → RV) (fun a => .ok (.int k a) h) (fun y _ ih a => AV.dB y (fun k' b => Bool.rec (.err 76) (ih (Bq mn a b)) (ng k k')) (.err 76)) l
def HC (mn : Bool) (l : List AV) (h : Hp) : RV := List.rec (.err 76) (fun x xs _ => AV.dB x (fun k a => yJ mn k h xs a) (.err 76)) l
def yL (mn : Bool) (xs : List AO) (r : A2) (h : Hp) : RV := HC mn (fL xs r) h
def kH (i : P4) (o : Nat) (l : List AV) (h : Hp) (k : Hp → RV) : RV := Obj.aR (ag i h) (fun el n ex fl c => Bool.rec (.err 78) (Bool.rec (.err 79) (k (cU i (.cells el n ex fl (cZ l o c)) h)) (Nat.ble (Nat.add o l.length) n)) (wr fl)) (.err 80)
def qt (el es n m : Nat) (old new : List AV) (h : Hp) : RV := mP el .plain es (Nat.add n m) (List.append old new) h
def lZ (i : P4) (el k : Nat) (fl : Fl) (c : Cl) (n es : Nat) (h : Hp) : RV := ik el false fl k c (cU i .dead h) (fun j h => .ok (.eR j 0 n es) h)
def Hg (elt es m : Nat) (new : List AV) (i : P4) (o n : Nat) (h : Hp) : RV := Obj.aR (ag i h) (fun el k ex fl c => Bool.rec (.err 82) (Bool.rec (Bool.rec (.err 83) (Bool.rec (Bool.rec (lZ i el (Nat.mul (Nat.add n m) es) fl (nQ (List.append (bG (Nat.mul n es) c o) new)) (Nat.add n m) es h) (lZ i el (Nat.mul (Nat.add n m) es) fl (cZ new k (kj (Nat.mul (Nat.add n m) es) c)) (Nat.add n m) es h) (Bool.and (Nat.beq o 0) (Nat.beq (Nat.mul n es) k))) (.err 81) (Bool.or ex (Bool.not (Nat.beq elt el)))) (Nat.ble (Nat.add o (Nat.mul n es)) k)) (.ok (.eR i o (Nat.add n m) es) (cU i (.cells el k ex fl (cZ new (Nat.add o (Nat.mul n es)) c)) h)) (Nat.ble (Nat.add o (Nat.mul (Nat.add n m) es)) k)) (wr fl)) (.err 84)
def lB (el es m : Nat) (new : List AV) (s : AV) (h : Hp) : RV := AV.lK s
 (fun i o n cap => Bool.rec (ji es i o n h (fun old => qt el es n m old new h) (.err 77)) (Nat.rec (.ok (.slice i o n cap) h) (fun m _ => kH i (Nat.add o (Nat.mul n es)) new h (fun h => .ok (.slice i o (Nat.add n (Nat.succ m)) cap) h)) m) (Nat.ble (Nat.add n m) cap))
 (fun i o n es' => Bool.rec (.err 81) (Nat.rec (.ok (.eR i o n es) h) (fun m _ => Hg el es (Nat.succ m) new i o n h) m) (Nat.beq es es'))
 (Nat.rec (.ok .ai h) (fun m _ => qt el es 0 (Nat.succ m) .nil new h) m) (.err 85)
def rk (x : AV) (k : Nat → RV) (e : RV) : RV := AV.lK x (fun _ _ n _ => k n) (fun _ _ n _ => k n) (k 0) e
def eF (el es : Nat) (x y : AV) (h : Hp) : RV := rk y (fun m => Bool.rec (.err 86) (elems es y h (fun new => lB el es m new x h) (.err 87)) (Nat.ble (Nat.mul m es) 4294967296)) (.err 88)
def vx (el es : Nat) (x y : AO) (r : A2) (h : Hp) : RV := eF el es (ev x r) (ev y r) h
def qH (el es : Nat) (z : List AV) (x y : AO) (r : A2) (h : Hp) : RV := eE (ev y r) (fun n => Bool.rec (.err 230) (lB el es n (fJ n z) (ev x r) h) (Nat.ble (Nat.mul n es) 1048576)) (.err 231)
def ma (el : Nat) (x y : AO) (r : A2) (h : Hp) : RV := AV.iZ (ev y r) (fun s => lB el 1 s.length (byteCells s) (ev x r) h) (.err 89)
def yD (l : List AV) (s : AV) (h : Hp) (k : Hp → RV) : RV := List.rec (k h) (fun a t _ => AV.lK s
 (fun i o _ _ => kH i o (.cons a t) h k) (fun i o _ _ => kH i o (.cons a t) h k) (.err 93) (.err 93)) l
def Ru (es : Nat) (x y : AV) (h : Hp) : RV := rk x (fun n => OS.rec (rk y (fun m => elems es y h (fun l => yD (List.take (Nat.mul n es) l) x h (fun h => .ok (jM (Nat.min m n)) h)) (.err 94)) (.err 94)) (fun s => Bool.rec (.err 94) (yD (byteCells (List.take n s)) x h (fun h => .ok (jM (Nat.min s.length n)) h)) (Nat.beq es 1)) y.CX) (.err 94)
def vy (es : Nat) (x y : AO) (r : A2) (h : Hp) : RV := Ru es (ev x r) (ev y r) h
def Rv (z : List AV) (x : AV) (h : Hp) : RV := rk x (fun n => yD (fJ n z) x h (fun h => .ok cm h)) (.err 95)
def vA (z : List AV) (x : AO) (r : A2) (h : Hp) : RV := Rv z (ev x r) h
def xr (x : AO) (r : A2) (h : Hp) : RV := AV.iZ (ev x r) (fun s => jq (.CB s 0) h qb) (.err 96)
def tA (x : AO) (r : A2) (h : Hp) : RV := AV.eM (ev x r) (fun m => Obj.eM (ag m h) (fun _ c => jq (.vj m c .nil c) h qb) (.err 97)) (jq .CC h qb) (.err 97)
def RL (d : Nat × Nat) (k : Nat → Nat → RV) : RV := k d.1 d.2
def RN (s : List Nat) (k : Nat → Nat → RV) (e : RV) : RV := List.rec e (fun b t _ => Bool.rec (RL (Utf8.decode ⟨((b :: t).map UInt8.ofNat).toArray⟩ 0) k) (k b 1) (Nat.ble b 127)) s
def LB (x : Nat) (l : List Nat) : Bool := dI false (fun y _ ih => Bool.rec ih true (Nat.beq x y)) l
def jz (seen : List Nat) (l : List KV) : List KV := dI .nil (fun y _ ih => KV.rec (fun _ _ b => Bool.rec (.cons y ih) ih (LB b seen)) y) l
def qC (since : Nat) (l : List KV) : Bool := dI false (fun y _ ih => KV.rec (fun _ _ b => Bool.rec ih true (Nat.ble since b)) y) l
def over (h : Hp) : RV := .ok (.jx (.cons (.bool false) .nil)) h
def qD (last : Nat) (l : List KV) : Bool := dI true (fun y _ ih => KV.rec (fun _ _ b => Bool.rec false ih (Nat.ble last b)) y) l
def Uv (i : P4) (s : List Nat) (pos : Nat) (h : Hp) : RV := List.rec (over h) (fun b t _ => RN (.cons b t) (fun c n => .ok (.jx (.cons (.bool true) (.cons (jM pos) (.cons (.int .i32 (.ofNat c)) .nil)))) (cU i (.CB s (Nat.add pos n)) h)) (.err 99)) (List.drop pos s)
def RV.lH (v : RV) : RT := RV.rec (fun v h => .ok v h) (fun n => .err n) v
def nth {α β : Type} (l : List α) (k : α → β) (e : β) : Nat → β := dI (β := Nat → β) (fun _ => e) (fun a _ ih i => Nat.rec (k a) (fun i _ => ih i) i) l
def nH {α : Type} (l : List α) : Bool := List.rec true (fun _ _ _ => false) l
def vE (i m : P4) (since : Nat) (seen : List Nat) (clock : Nat) (h : Hp) (y : KV) : RT := KV.rec (fun k v b => .ok (.jx (.cons (.bool true) (.cons k (.cons v .nil)))) (cU i (.vj m since (List.append seen (.cons b .nil)) clock) h)) y
def QX (f : KV → RT) (h : Hp) (u : List KV) : RT := List.rec (over h).lH (fun y t _ => List.rec (f y) (fun _ _ _ => .ch (List.length u) (nth u f (.err 102))) t) u
def QY (i m : P4) (since : Nat) (seen : List Nat) (last : Nat) (h : Hp) : RT := Tn.rec (.err 98) (fun l clock => Bool.rec (Bool.rec (QX (vE i m since seen clock h) h (jz seen l)) (.err 100) (Bool.and (Bool.not (nH seen)) (Bool.and (Bool.not (nH l)) (qD last l)))) (.err 103) (qC since l)) (ag m h).zk
def RO (x : AV) (h : Hp) : RT := OP.rec (.err 98) (fun i o => Nat.rec (Obj.rec (.err 98) (.err 98) (fun _ _ _ _ _ => .err 98) (fun _ _ => .err 98) (fun s pos => (Uv i s pos h).lH) (fun _ _ _ _ => .err 98) (.err 98) (ag i h)) (fun _ _ => .err 98) o) x.gQ
def HI (x : AV) (h : Hp) : RT := OP.rec (.err 98) (fun i o => Nat.rec (Obj.rec (.err 98) (.err 98) (fun _ _ _ _ _ => .err 98) (fun _ _ => .err 98) (fun _ _ => .err 98) (fun m since seen last => QY i m since seen last h) (over h).lH (ag i h)) (fun _ _ => .err 98) o) x.gQ
def lN (s : Bool) (x : AV) (h : Hp) : RT := Bool.rec (HI x h) (RO x h) s
def HK (b : Nat) (l : List KV) (k : AV → AV → RV) (e : RV) : RV := dI e (fun y _ ih => KV.rec (fun a v c => Bool.rec ih (k a v) (Nat.beq b c)) y) l
def HJ (l : List Nat) (k : Nat → RV) (e : RV) : RV := dI e (fun x t ih => List.rec (k x) (fun _ _ _ => ih) t) l
def Ph (m : P4) (seen : List Nat) (stepped : Nat) (h : Hp) : RV := HJ seen (fun b => Obj.eM (ag m h) (fun l clock => Bool.rec (.err 105) (HK b l (fun k v => .ok (.jx (.cons k (.cons v .nil))) h) (.err 106)) (Nat.beq clock stepped)) (.err 104)) (.err 107)
def yS (x : AO) (r : A2) (h : Hp) : RV := AV.fc (ev x r) (fun i o => Nat.rec (Obj.rec (.err 104) (.err 104) (fun _ _ _ _ _ => .err 104) (fun _ _ => .err 104) (fun _ _ => .err 104) (fun m _ seen stepped => Ph m seen stepped h) (.err 104) (ag i h)) (fun _ _ => .err 104) o) (.err 104)
def NA (t : Nat) (z : AV) (ok : Bool) (x : AV) (h : Hp) : RV := AV.Bw x
 (fun u v => Bool.rec (Bool.rec (.err 109) (CS true false z h) ok) (CS ok true v h) (Nat.beq t u))
 (Bool.rec (.err 109) (CS true false z h) ok) (.err 108)
def De (t : Nat) (z : AV) (ok : Bool) (x : AO) (r : A2) (h : Hp) : RV := NA t z ok (ev x r) h
def qx (k : FloatKind) (x y : AO) (r : A2) (h : Hp) : RV := AV.rf (ev x r) (fun k1 a => AV.rf (ev y r) (fun k2 b => Bool.rec (.err 110) (.ok (.gU k a b) h) (Bool.and (xf k k1) (xf k k2))) (.err 110)) (.err 110)
def ot (im : Bool) (x : AO) (r : A2) (h : Hp) : RV := AV.sR (ev x r) (fun k a b => .ok (.pX k (Bool.rec a b im)) h) (.err 111)
def mf (x : AO) (r : A2) (h : Hp) : RV := AV.lK (ev x r) (fun i o _ c => Nat.rec (.err 112) (fun _ _ => .ok (.ptr i o) h) c) (fun i o n _ => Nat.rec (.err 112) (fun _ _ => .ok (.ptr i o) h) n) (.ok .cL h) (.err 112)
def ou (el : Nat) (x y : AO) (r : A2) (h : Hp) : RV := eE (ev y r) (fun n => Nat.rec (OP.rec (Bool.rec (.err 113) (.ok (.str .nil) h) (fy (ev x r))) (fun _ _ => .ok (.str .nil) h) (ev x r).gQ) (fun n _ => AV.fc (ev x r) (fun i o => Obj.aR (ag i h) (fun el' m ex fl c => Bool.rec (Bool.rec (.err 114) (fx (bG (Nat.succ n) c o) (fun s => .ok (.str s) (cU i (.cells el' m ex .Bc c) h)) (.err 115)) (Bool.and (Nat.ble n 1048576) (Bool.and (Nat.beq el el') (Nat.ble (Nat.add o (Nat.succ n)) m)))) (.err 119) (Gq fl)) (.err 116)) (.err 117)) n) (.err 118)
inductive oG where
 | mv (x : AO)
 | pick (c a b : AO)
 | alloc (el n : Nat) (c : Cl)
 | box (el : Nat) (x : AO)
 | build (z : List AV) (ps : List Part)
 | cI (el es n : Nat) (z : List AV) (ps : List Part)
 | gT (x : AO)
 | pY (m : Nat) (x : AO)
 | QS (x y : AO)
 | KA (m : Nat) (x y : AO)
 | qa (x : AO)
 | bin (op : BK) (x y : AO)
 | un (op : UK) (x : AO)
 | conv (op : CK) (x : AO)
 | Rj (t : Nat) (x : AO)
 | SN (f : Nat) (xs : List AO)
 | oP
 | oQ (el : Nat) (z : List AV) (l c : AO)
 | Rk (es : Nat) (x : AO) (lo hi mx : OA)
 | KW (x : AO) (lo hi : OA)
 | KX (len es : Nat) (x : AO) (lo hi mx : OA)
 | gS (d : Nat) (x : AO)
 | KY (d : Nat) (x : AO)
 | KZ (d n : Nat) (x : AO)
 | FO (es : Nat) (x y : AO)
 | OH (len es : Nat) (x y : AO)
 | idxs (x y : AO)
 | La (len es : Nat) (agg : Bool) (x y : AO)
 | ext (i : Nat) (x : AO)
 | FP (t : KT) (z : AV) (ok : Bool) (x y : AO)
 | Ny (t : KT) (x y z : AO)
 | del (t : KT) (x y : AO)
 | Gh (x : AO)
 | len (x : AO)
 | kr (x : AO)
 | cap (x : AO)
 | max (mn : Bool) (xs : List AO)
 | app (el es : Nat) (x y : AO)
 | apps (el : Nat) (x y : AO)
 | Rl (es : Nat) (x y : AO)
 | Rm (z : List AV) (x : AO)
 | Lc (x : AO)
 | Gi (x : AO)
 | Nz (x : AO)
 | NA (t : Nat) (z : AV) (ok : Bool) (x : AO)
 | gU (k : FloatKind) (x y : AO)
 | real (im : Bool) (x : AO)
 | Ld (x : AO)
 | Gj (el : Nat) (x y : AO)
 | yk (t : KT) (z : AV) (x y : AO)
 | yl (x y z : AO)
 | Gk (el es : Nat) (z : List AV) (x y : AO)
 | bad (n : Nat)
def oG.run (op : oG) : A2 → Hp → RV := oG.rec (motive := fun _ => A2 → Hp → RV) LI ei CE yp kq gw lq rh sV yq qn NQ LH tU yH yI rQ hY fu fw kK sK qA qB vu vt qo oo vq Da Db Dc qw Dd xq vB yL vx ma vy vA xr tA yS De qx ot mf ou xo xp qH (fun n _ _ => .err n) op
inductive AI where
 | op (o : oG)
 | KB (s : Bool) (x : AO)
 | call (f : Nat) (xs : List AO)
 | nz (x : AO) (xs : List AO)
 | inv (name : Nat) (x : AO) (xs : List AO)
inductive bV where
 | no
 | t (a b : H)
inductive GI where
 | o (d : bV) (i : AI)
 | g (a b : H) (w : Bool) (d : bV) (i : AI)
inductive Bk where
 | ef
 | rd (n : Nat)
 | new
inductive DI where
 | mk (b : Bk) (g : GI)
abbrev Cf := Nat → List AV → Hp → RT
abbrev Iv := Nat → AV → List AV → Hp → RT
inductive AC where
 | skip
 | ops (l : List GI)
 | rS (l : List DI)
 | seq (a b : AC)
 | cond (c : AO) (a b : AC)
 | block (i : Nat) (a : AC)
 | loop (a : AC)
 | scope (a : AC)
 | sat (a c : AC)
 | exit (i : Nat)
 | goto (l : Nat)
 | label (l : Nat)
 | ret
 | join (a : AC)
 | bad (n : Nat)
 | ah (f : Cf → Iv → (A2 → Hp → RS) → A2 → Hp → RS) (x : AC)
 | alt (a b : AC)
 | OQ (q : Nat) (l : List GI)
inductive Rs where
 | t (a b : H)
 | one (a b : H)
 | agg (n : Nat) (a b : H)
inductive SW where
 | mk (i : P4) (r : Nat)
inductive PK where
 | UF
 | put (el : Nat)
 | get
 | UG (l : List SW)
 | FZ
 | Uw (el : Nat)
 | Uj
 | Ux (f : Nat) (l0 l1 k0 kn k2 k3 ra rb l4 : List GI)
 | ins (el es : Nat)
 | fn (g : List AV → Hp → RT)
def zl (c : Nat) : Nat := Nat.xor (Nat.shiftRight c 1) (Nat.mul (Nat.land c 1) 3988292384)
def Tq (c : Nat) : Nat := zl (zl (zl (zl (zl (zl (zl (zl c)))))))
def Tr (s : List Nat) : Nat → Nat := dI (β := Nat → Nat) (fun c => c) (fun b _ ih c => ih (Tq (Nat.xor c b))) s
def Ts (s : List Nat) : Nat := Nat.xor 4294967295 (Tr s 4294967295)
def RQ (x : AV) (h : Hp) : RV := rk x (fun n => Bool.rec (.err 141) (elems 1 x h (fun l => fx l (fun s => .ok (.int .u32 (.ofNat (Ts s))) h) (.err 140)) (.err 141)) (Nat.ble n 4611686018427387904)) (.err 141)
def rm (v : RV) (k : AV → Hp → RV) : RV := RV.rec k (fun n => .err n) v
def Tt (el : Nat) (p : AV) (b : Nat) (h : Hp) : RV := rm (lq (.c p) .nil h) (fun s h => rm (lB el 1 1 (.cons (.int .u8 (.ofNat b)) .nil) s h) (fun v h => sV (.c p) (.c v) .nil h))
def Tu (el : Nat) (p : AV) (m : Nat) : Nat → Hp → RV := Nat.rec (fun _ h => .ok cm h) (fun _ ih n h => rm (Tt el p (Nat.mod n 256) h) (fun _ h => ih (Nat.div n 256) h)) m
def RR (el : Nat) (p n m : AV) (h : Hp) : RV := AV.fc p (fun i o => eE n (fun n => eE m (fun m => Tu el (.ptr i o) m n h) (.err 142)) (.err 142)) (.err 142)
def Uy (s : List Nat) : Nat := dI 0 (fun b _ ih => Nat.add (Nat.mul 256 ih) b) s
def Pp (i : P4) (o m a : Nat) (s : AV) (h : Hp) : RV := rm (fu 1 (.c s) (.some (.c (.int .i64 (.ofNat a)))) (.some (.c (.int .i64 (.ofNat (Nat.add a m))))) .none .nil h) (fun x _ =>
 elems 1 x h (fun l => fx l (fun b => rm (sV (.c (.ptr i (Nat.add o 1))) (.c (.int .i64 (.ofNat (Nat.add a m)))) .nil h) (fun _ h => .ok (.int .u64 (.ofNat (Uy b))) h)) (.err 143)) (.err 144))
def Pq (i : P4) (o m : Nat) (h : Hp) : RV := rm (lq (.c (.ptr i (Nat.add o 2))) .nil h) (fun w _ => AV.dB w (fun _ n => Bool.rec (.err 145) (rm (lq (.c (.ptr i (Nat.add o 1))) .nil h) (fun a _ => eE a (fun a => rm (lq (.c (.ptr i o)) .nil h) (fun s _ => rk s (fun n => Bool.rec (.err 146) (Pp i o m a s h) (Nat.ble (Nat.add a m) n)) (.err 147))) (.err 148))) (uN n (.ofNat 0))) (.err 145))
def RU (p m : AV) (h : Hp) : RV := AV.fc p (fun i o => eE m (fun m => Bool.rec (.err 149) (Pq i o m h) (Nat.ble m 8)) (.err 149)) (.err 149)
def da (d : bV) : AV → A2 → A2 := bV.rec (motive := fun _ => AV → A2 → A2) (fun _ r => r) nT d
def bt (l : List AV) : Nat → A2 → A2 := dI (fun _ r => r) (fun v _ ih i r => ih (Nat.succ i) (nT (dz (Nat.div i 16)) (dz (Nat.mod i 16)) v r)) l
def uV (k : A2 → Hp → RT) (l : List GI) : A2 → Hp → RT := dI (β := A2 → Hp → RT) k (fun i _ ih r h => GI.rec (fun d i => AI.rec (fun op => RV.rec (fun v h => ih (da d v r) h) (fun n => .err n) (op.run r h)) (fun s x => RT.elim (fun v h => ih (da d v r) h) (fun n => .err n) (fun n f => .ch n f) (lN s (ev x r) h)) (fun _ _ => .err 161) (fun _ _ => .err 161) (fun _ _ _ => .err 161) i) (fun _ _ _ _ _ => .err 161) i) l
def LK (x : AV) (k : Bool → RT) (e : RT) : RT := OB.rec e k x.asBool
def RW (x : AV) (k : Nat → List AV → RT) (e : RT) : RT := SS.rec e k x.Pm
def RX (l4 : List GI) (r : A2) (h : Hp) : RT := uV (fun r h => .ok (az .h0 .h4 r) h) l4 r h
def LM (k : A2 → Hp → RT) (kn k2 k3 ra rb : List GI) (r q : A2) (h : Hp) : RT := uV (fun q h => uV (fun q h => uV (fun r2 h => uV (fun _ h => uV k kn (nT .h0 .hd .undef (nT .h0 .hc .undef q)) h) rb r2 h) ra (nT .h0 .h7 (az .h0 .hb q) r) h) k3 (nT .h0 .ha .undef q) h) k2 q h
def Pr (kn k2 k3 ra rb l4 : List GI) (r : A2) : Nat → A2 → Hp → RT := zj (β := A2 → Hp → RT) (fun _ _ => .err 155)
 (fun _ ih q h => LK (az .h0 .h7 q) (fun t => Bool.rec (RX l4 r h) (LM ih kn k2 k3 ra rb r q h) t) (.err 156))
def Ps (k0 kn k2 k3 ra rb l4 : List GI) (r : A2) (c : AV) (h : Hp) : RT := uV (fun q h => uV (Pr kn k2 k3 ra rb l4 r 12) kn q h) k0 (bt (.cons .undef (.cons c .nil)) 0 .nil) h
def RY (f : Nat) (k0 kn k2 k3 ra rb l4 : List GI) (r : A2) (h : Hp) : RT := RW (az .h0 .h6 r) (fun g cs => Bool.rec (.err 153) (List.rec (.err 153) (fun c t _ => List.rec (Ps k0 kn k2 k3 ra rb l4 r c h) (fun _ _ _ => .err 153) t) cs) (Nat.beq f g)) (.err 153)
def Pt (f : Nat) (l0 l1 k0 kn k2 k3 ra rb l4 : List GI) (s x : AV) (h : Hp) : RT := uV (fun r h => uV (RY f k0 kn k2 k3 ra rb l4) l1 r h) l0 (bt (.cons s (.cons x .nil)) 0 .nil) h
def sD (l : List AV) (k : AV → RV) : RV := List.rec (.err 154) (fun a t _ => List.rec (k a) (fun _ _ _ => .err 154) t) l
def Oi (l : List AV) (k : AV → AV → RV) : RV := List.rec (.err 154) (fun a t _ => sD t (fun b => k a b)) l
def Iq (l : List AV) (k : AV → AV → AV → RV) : RV := List.rec (.err 154) (fun a t _ => Oi t (fun b c => k a b c)) l
def Pu (l : List AV) (k : AV → AV → RT) : RT := List.rec (.err 154) (fun a t _ => List.rec (.err 154) (fun b t _ => List.rec (k a b) (fun _ _ _ => .err 154) t) t) l
def Pv (l : List SW) (i : P4) : RV → (Nat → RV) → RV := dI (β := RV → (Nat → RV) → RV) (fun e _ => e) (fun y _ ih e k => SW.rec (fun j r => Bool.rec (ih e k) (k r) (qc i j)) y) l
def RZ (l : List SW) (x lo hi : AV) (h : Hp) : RV := AV.rec (motive_2 := fun _ => PUnit) (.err 170) (fun _ => .err 170) (fun _ _ => .err 170) (fun _ => .err 170) (fun _ _ => .err 170) (fun _ _ _ => .err 170) (fun _ _ => .err 170) (.err 170) (fun _ _ _ _ => .err 170) (fun _ _ _ _ => .err 170) (.err 170) (fun _ => .err 170) (.err 170) (fun _ _ _ => .err 170) (.err 170) (fun _ _ _ => .err 170) (.err 170) (fun _ _ => .err 170) (fun _ _ => .err 170) (fun i => AV.dB lo (fun kl lo => AV.dB hi (fun kh hi => Bool.rec (.err 171) (Bool.rec (.err 171) (Bool.rec (.err 171) (Bool.rec (.err 171) (Pv l i (.err 172) (fun r => .ok (.int .i64 (.ofNat r)) h)) (uN hi (.ofNat 4))) (uN lo (.ofNat 0))) (CZ kh)) (CZ kl)) (.err 171)) (.err 171)) PUnit.unit (fun _ _ _ _ => PUnit.unit) x
def Pw (el : Nat) (x : AV) (h : Hp) : RV := AV.dB x (fun k n => Bool.rec (.err 195) (Int.rec (fun n => Bool.rec (.err 196) (mP el .plain 1 n (fJ n (.cons .undef .nil)) h) (Nat.ble n 65536)) (fun _ => .err 196) n) (CZ k)) (.err 195)
def Px (x : Nat) (h : Hp) : RV := match FloatKind.f64.decode x with
 | .nan _ _ => .err 180
 | d => .ok (.pX .f64 (FloatKind.f64.encode (d.integral .zero))) h
def Sa (k : FloatKind) : Bool := FloatKind.rec false true k
def LN (x : AV) (h : Hp) : RV := AV.rf x (fun k n => Bool.rec (.err 181) (Px n h) (Sa k)) (.err 181)
def LO (f : Fl) : Bool := Fl.rec true false false false f
def Py (el es : Nat) (i : P4) (n q m : Nat) (new : List AV) (h : Hp) : RV := Obj.aR (ag i h) (fun el' k ex fl c => Bool.rec (.err 247) (Bool.rec (.err 247) (Bool.rec (.err 247) (Bool.rec (.err 247) (lZ i el (Nat.mul (Nat.add n m) es) fl (nQ (List.append (List.take (Nat.mul q es) (bG (Nat.mul n es) c 0)) (List.append new (List.drop (Nat.mul q es) (bG (Nat.mul n es) c 0))))) (Nat.add n m) es h) (Nat.beq (Nat.mul n es) k)) (Nat.beq el el')) (Bool.not ex)) (wr fl)) (.err 248)
def Pz (el es : Nat) (i : P4) (o n es' q : Nat) (j : P4) (o2 m : Nat) (h : Hp) : RV := Bool.rec (.err 241) (Bool.rec (.err 241) (Bool.rec (.err 242) (Bool.rec (.err 242) (Bool.rec (.err 243) (Obj.aR (ag j h) (fun _ k2 _ fl2 c2 => Bool.rec (.err 244) (Bool.rec (.err 245) (Py el es i n q m (bG (Nat.mul m es) c2 o2) h) (Nat.ble (Nat.add o2 (Nat.mul m es)) k2)) (LO fl2)) (.err 246)) (Bool.not (qc i j))) (Nat.ble 1 m)) (Nat.ble (Nat.succ q) n)) (Nat.beq o 0)) (Nat.beq es es')
def Sb (el es : Nat) (s x y : AV) (h : Hp) : RV := AV.lK s (fun _ _ _ _ => .err 240) (fun i o n es' => AV.dB x (fun kd z => Bool.rec (.err 249) (Int.rec (fun q => AV.lK y (fun j o2 m _ => Pz el es i o n es' q j o2 m h) (fun _ _ _ _ => .err 240) (.err 240) (.err 240)) (fun _ => .err 249) z) (CZ kd)) (.err 249)) (.err 240) (.err 240)
def fj (k : PK) (args : List AV) (h : Hp) : RT := PK.rec (sD args (fun x => RQ x h)).lH (fun el => (Iq args (fun p n m => RR el p n m h)).lH) (Oi args (fun p m => RU p m h)).lH (fun l => (Iq args (fun x lo hi => RZ l x lo hi h)).lH) (sD args (fun x => .ok x h)).lH (fun el => (sD args (fun x => Pw el x h)).lH) (sD args (fun x => LN x h)).lH (fun f l0 l1 k0 kn k2 k3 ra rb l4 => Pu args (fun s x => Pt f l0 l1 k0 kn k2 k3 ra rb l4 s x h)) (fun el es => (Iq args (fun s x y => Sb el es s x y h)).lH) (fun g => g args h) k
inductive AF where
 | none
 | mk (body : AC) (res : List Rs)
 | uP (k : PK) (body : AC) (res : List Rs)
 | QU (body : AC) (res : List Rs)
 | ext (k : PK)
inductive F1 where
 | nil
 | mk (a0 a1 a2 a3 a4 a5 a6 a7 a8 a9 aa ab ac ad ae af : AF)
def F1.g0 (x : F1) : AF := F1.rec .none (fun a0 a1 a2 a3 a4 a5 a6 a7 a8 a9 aa ab ac ad ae af => a0) x
def F1.g1 (x : F1) : AF := F1.rec .none (fun a0 a1 a2 a3 a4 a5 a6 a7 a8 a9 aa ab ac ad ae af => a1) x
def F1.g2 (x : F1) : AF := F1.rec .none (fun a0 a1 a2 a3 a4 a5 a6 a7 a8 a9 aa ab ac ad ae af => a2) x
def F1.g3 (x : F1) : AF := F1.rec .none (fun a0 a1 a2 a3 a4 a5 a6 a7 a8 a9 aa ab ac ad ae af => a3) x
def F1.g4 (x : F1) : AF := F1.rec .none (fun a0 a1 a2 a3 a4 a5 a6 a7 a8 a9 aa ab ac ad ae af => a4) x
def F1.g5 (x : F1) : AF := F1.rec .none (fun a0 a1 a2 a3 a4 a5 a6 a7 a8 a9 aa ab ac ad ae af => a5) x
def F1.g6 (x : F1) : AF := F1.rec .none (fun a0 a1 a2 a3 a4 a5 a6 a7 a8 a9 aa ab ac ad ae af => a6) x
def F1.g7 (x : F1) : AF := F1.rec .none (fun a0 a1 a2 a3 a4 a5 a6 a7 a8 a9 aa ab ac ad ae af => a7) x
def F1.g8 (x : F1) : AF := F1.rec .none (fun a0 a1 a2 a3 a4 a5 a6 a7 a8 a9 aa ab ac ad ae af => a8) x
def F1.g9 (x : F1) : AF := F1.rec .none (fun a0 a1 a2 a3 a4 a5 a6 a7 a8 a9 aa ab ac ad ae af => a9) x
def F1.ga (x : F1) : AF := F1.rec .none (fun a0 a1 a2 a3 a4 a5 a6 a7 a8 a9 aa ab ac ad ae af => aa) x
def F1.gb (x : F1) : AF := F1.rec .none (fun a0 a1 a2 a3 a4 a5 a6 a7 a8 a9 aa ab ac ad ae af => ab) x
def F1.gc (x : F1) : AF := F1.rec .none (fun a0 a1 a2 a3 a4 a5 a6 a7 a8 a9 aa ab ac ad ae af => ac) x
def F1.gd (x : F1) : AF := F1.rec .none (fun a0 a1 a2 a3 a4 a5 a6 a7 a8 a9 aa ab ac ad ae af => ad) x
def F1.ge (x : F1) : AF := F1.rec .none (fun a0 a1 a2 a3 a4 a5 a6 a7 a8 a9 aa ab ac ad ae af => ae) x
def F1.gf (x : F1) : AF := F1.rec .none (fun a0 a1 a2 a3 a4 a5 a6 a7 a8 a9 aa ab ac ad ae af => af) x
def F1.get (d : H) : F1 → AF := H.rec (motive := fun _ => F1 → AF) F1.g0 F1.g1 F1.g2 F1.g3 F1.g4 F1.g5 F1.g6 F1.g7 F1.g8 F1.g9 F1.ga F1.gb F1.gc F1.gd F1.ge F1.gf d
inductive F2 where
 | nil
 | mk (a0 a1 a2 a3 a4 a5 a6 a7 a8 a9 aa ab ac ad ae af : F1)
def F2.g0 (x : F2) : F1 := F2.rec .nil (fun a0 a1 a2 a3 a4 a5 a6 a7 a8 a9 aa ab ac ad ae af => a0) x
def F2.g1 (x : F2) : F1 := F2.rec .nil (fun a0 a1 a2 a3 a4 a5 a6 a7 a8 a9 aa ab ac ad ae af => a1) x
def F2.g2 (x : F2) : F1 := F2.rec .nil (fun a0 a1 a2 a3 a4 a5 a6 a7 a8 a9 aa ab ac ad ae af => a2) x
def F2.g3 (x : F2) : F1 := F2.rec .nil (fun a0 a1 a2 a3 a4 a5 a6 a7 a8 a9 aa ab ac ad ae af => a3) x
def F2.g4 (x : F2) : F1 := F2.rec .nil (fun a0 a1 a2 a3 a4 a5 a6 a7 a8 a9 aa ab ac ad ae af => a4) x
def F2.g5 (x : F2) : F1 := F2.rec .nil (fun a0 a1 a2 a3 a4 a5 a6 a7 a8 a9 aa ab ac ad ae af => a5) x
def F2.g6 (x : F2) : F1 := F2.rec .nil (fun a0 a1 a2 a3 a4 a5 a6 a7 a8 a9 aa ab ac ad ae af => a6) x
def F2.g7 (x : F2) : F1 := F2.rec .nil (fun a0 a1 a2 a3 a4 a5 a6 a7 a8 a9 aa ab ac ad ae af => a7) x
def F2.g8 (x : F2) : F1 := F2.rec .nil (fun a0 a1 a2 a3 a4 a5 a6 a7 a8 a9 aa ab ac ad ae af => a8) x
def F2.g9 (x : F2) : F1 := F2.rec .nil (fun a0 a1 a2 a3 a4 a5 a6 a7 a8 a9 aa ab ac ad ae af => a9) x
def F2.ga (x : F2) : F1 := F2.rec .nil (fun a0 a1 a2 a3 a4 a5 a6 a7 a8 a9 aa ab ac ad ae af => aa) x
def F2.gb (x : F2) : F1 := F2.rec .nil (fun a0 a1 a2 a3 a4 a5 a6 a7 a8 a9 aa ab ac ad ae af => ab) x
def F2.gc (x : F2) : F1 := F2.rec .nil (fun a0 a1 a2 a3 a4 a5 a6 a7 a8 a9 aa ab ac ad ae af => ac) x
def F2.gd (x : F2) : F1 := F2.rec .nil (fun a0 a1 a2 a3 a4 a5 a6 a7 a8 a9 aa ab ac ad ae af => ad) x
def F2.ge (x : F2) : F1 := F2.rec .nil (fun a0 a1 a2 a3 a4 a5 a6 a7 a8 a9 aa ab ac ad ae af => ae) x
def F2.gf (x : F2) : F1 := F2.rec .nil (fun a0 a1 a2 a3 a4 a5 a6 a7 a8 a9 aa ab ac ad ae af => af) x
def F2.get (d : H) : F2 → F1 := H.rec (motive := fun _ => F2 → F1) F2.g0 F2.g1 F2.g2 F2.g3 F2.g4 F2.g5 F2.g6 F2.g7 F2.g8 F2.g9 F2.ga F2.gb F2.gc F2.gd F2.ge F2.gf d
inductive F3 where
 | nil
 | mk (a0 a1 a2 a3 a4 a5 a6 a7 a8 a9 aa ab ac ad ae af : F2)
def F3.g0 (x : F3) : F2 := F3.rec .nil (fun a0 a1 a2 a3 a4 a5 a6 a7 a8 a9 aa ab ac ad ae af => a0) x
def F3.g1 (x : F3) : F2 := F3.rec .nil (fun a0 a1 a2 a3 a4 a5 a6 a7 a8 a9 aa ab ac ad ae af => a1) x
def F3.g2 (x : F3) : F2 := F3.rec .nil (fun a0 a1 a2 a3 a4 a5 a6 a7 a8 a9 aa ab ac ad ae af => a2) x
def F3.g3 (x : F3) : F2 := F3.rec .nil (fun a0 a1 a2 a3 a4 a5 a6 a7 a8 a9 aa ab ac ad ae af => a3) x
def F3.g4 (x : F3) : F2 := F3.rec .nil (fun a0 a1 a2 a3 a4 a5 a6 a7 a8 a9 aa ab ac ad ae af => a4) x
def F3.g5 (x : F3) : F2 := F3.rec .nil (fun a0 a1 a2 a3 a4 a5 a6 a7 a8 a9 aa ab ac ad ae af => a5) x
def F3.g6 (x : F3) : F2 := F3.rec .nil (fun a0 a1 a2 a3 a4 a5 a6 a7 a8 a9 aa ab ac ad ae af => a6) x
def F3.g7 (x : F3) : F2 := F3.rec .nil (fun a0 a1 a2 a3 a4 a5 a6 a7 a8 a9 aa ab ac ad ae af => a7) x
def F3.g8 (x : F3) : F2 := F3.rec .nil (fun a0 a1 a2 a3 a4 a5 a6 a7 a8 a9 aa ab ac ad ae af => a8) x
def F3.g9 (x : F3) : F2 := F3.rec .nil (fun a0 a1 a2 a3 a4 a5 a6 a7 a8 a9 aa ab ac ad ae af => a9) x
def F3.ga (x : F3) : F2 := F3.rec .nil (fun a0 a1 a2 a3 a4 a5 a6 a7 a8 a9 aa ab ac ad ae af => aa) x
def F3.gb (x : F3) : F2 := F3.rec .nil (fun a0 a1 a2 a3 a4 a5 a6 a7 a8 a9 aa ab ac ad ae af => ab) x
def F3.gc (x : F3) : F2 := F3.rec .nil (fun a0 a1 a2 a3 a4 a5 a6 a7 a8 a9 aa ab ac ad ae af => ac) x
def F3.gd (x : F3) : F2 := F3.rec .nil (fun a0 a1 a2 a3 a4 a5 a6 a7 a8 a9 aa ab ac ad ae af => ad) x
def F3.ge (x : F3) : F2 := F3.rec .nil (fun a0 a1 a2 a3 a4 a5 a6 a7 a8 a9 aa ab ac ad ae af => ae) x
def F3.gf (x : F3) : F2 := F3.rec .nil (fun a0 a1 a2 a3 a4 a5 a6 a7 a8 a9 aa ab ac ad ae af => af) x
def F3.get (d : H) : F3 → F2 := H.rec (motive := fun _ => F3 → F2) F3.g0 F3.g1 F3.g2 F3.g3 F3.g4 F3.g5 F3.g6 F3.g7 F3.g8 F3.g9 F3.ga F3.gb F3.gc F3.gd F3.ge F3.gf d
inductive MR where
 | mk (t name f : Nat)
inductive Pg where
 | mk (fs : F3) (ms : List MR)
def ar (f : Nat) (p : F3) : AF := F1.get (dz (Nat.mod f 16)) (F2.get (dz (Nat.mod (Nat.div f 16) 16)) (F3.get (dz (Nat.div f 256)) p))
def Pg.fs (p : Pg) : F3 := Pg.rec (fun a _ => a) p
def Pg.ms (p : Pg) : List MR := Pg.rec (fun _ a => a) p
def pw (t name : Nat) (l : List MR) (k : Nat → RT) (e : RT) : RT := dI e (fun y _ ih => MR.rec (fun t' n' f => Bool.rec ih (Bool.rec ih (k f) (Nat.beq name n')) (Nat.beq t t')) y) l
def PA (x : AV) : AV → Bool := AV.rec (motive_1 := fun _ => AV → Bool) (motive_2 := fun _ => PUnit) (fun _ => false) (fun a y => AV.bB y (fun b => ko a b) false) (fun k a y => AV.dB y (fun k' b => Bool.rec false (uN a b) (ng k k')) false) (fun a y => AV.iZ y (fun b => jg a b) false) (fun k a y => AV.rf y (fun k' b => Bool.and (xf k k') (Nat.beq a b)) false) (fun k a b y => AV.sR y (fun k' c d => Bool.and (xf k k') (Bool.and (Nat.beq a c) (Nat.beq b d))) false) (fun i o y => AV.fc y (fun j q => Bool.and (qc i j) (Nat.beq o q)) false) (fun y => AV.rec (motive_2 := fun _ => PUnit) false (fun _ => false) (fun _ _ => false) (fun _ => false) (fun _ _ => false) (fun _ _ _ => false) (fun _ _ => false) true (fun _ _ _ _ => false) (fun _ _ _ _ => false) false (fun _ => false) false (fun _ _ _ => false) false (fun _ _ _ => false) false (fun _ _ => false) (fun _ _ => false) (fun _ => false) PUnit.unit (fun _ _ _ _ => PUnit.unit) y) (fun i a b c y => AV.lK y (fun j d e f => Bool.and (qc i j) (Bool.and (Nat.beq a d) (Bool.and (Nat.beq b e) (Nat.beq c f)))) (fun _ _ _ _ => false) false false) (fun i a b c y => AV.lK y (fun _ _ _ _ => false) (fun j d e f => Bool.and (qc i j) (Bool.and (Nat.beq a d) (Bool.and (Nat.beq b e) (Nat.beq c f)))) false false) (fun y => AV.lK y (fun _ _ _ _ => false) (fun _ _ _ _ => false) true false) (fun i y => AV.eM y (fun j => qc i j) false false) (fun y => AV.eM y (fun _ => false) true false) (fun _ _ _ _ => false) (fun y => AV.rec (motive_2 := fun _ => PUnit) false (fun _ => false) (fun _ _ => false) (fun _ => false) (fun _ _ => false) (fun _ _ _ => false) (fun _ _ => false) false (fun _ _ _ _ => false) (fun _ _ _ _ => false) false (fun _ => false) false (fun _ _ _ => false) true (fun _ _ _ => false) false (fun _ _ => false) (fun _ _ => false) (fun _ => false) PUnit.unit (fun _ _ _ _ => PUnit.unit) y) (fun _ _ _ _ => false) (fun y => AV.Bw y (fun _ _ => false) true false) (fun _ _ _ => false) (fun _ _ _ => false) (fun _ _ => false) PUnit.unit (fun _ _ _ _ => PUnit.unit) x
def tY (x y : AV) : Bool := PA x y
def zm (a b : List AV) : Bool := dI (β := List AV → Bool) (fun b => List.rec true (fun _ _ _ => false) b)
 (fun x _ ih b => List.rec false (fun y b _ => Bool.rec false (ih b) (tY x y)) b) a b
def tZ (x y : AV) : Bool := OL.rec (tY x y) (fun a => AV.nv y (fun b => zm a b) false) x.asAgg
def vH (x y : AV) : Bool := SS.rec (SU.rec (tZ x y) (tZ x y) (fun t a => AV.Bw y (fun u b => Bool.and (Nat.beq t u) (tZ a b)) false false) x.Pn) (fun f a => AV.Gg y (fun g b => Bool.and (Nat.beq f g) (zm a b)) false) x.Pm
def Ir (a b : List AV) : Bool := dI (β := List AV → Bool) (fun b => List.rec true (fun _ _ _ => false) b)
 (fun x _ ih b => List.rec false (fun y b _ => Bool.rec false (ih b) (vH x y)) b) a b
def same (x y : AV) : Bool := OL.rec (vH x y) (fun a => AV.Ct y (fun b => Ir a b) false) x.Ik
def PB (x : AV) : Bool := AV.rec (motive_2 := fun _ => PUnit) true (fun _ => false) (fun _ _ => false) (fun _ => false) (fun _ _ => false) (fun _ _ _ => false) (fun _ _ => false) false (fun _ _ _ _ => false) (fun _ _ _ _ => false) false (fun _ => false) false (fun _ _ _ => false) false (fun _ _ _ => false) false (fun _ _ => false) (fun _ _ => false) (fun _ => false) PUnit.unit (fun _ _ _ _ => PUnit.unit) x
def xY (x y : AV) : Bool := Bool.rec (same x y) (PB y) (PB x)
def gI (x y : AV) : AV := Bool.rec .undef x (same x y)
def A1.eq (x y : A1) : Bool := A1.rec (A1.rec true (fun _ _ _ _ _ _ _ _ _ _ _ _ _ _ _ _ => false) y) (fun a0 a1 a2 a3 a4 a5 a6 a7 a8 a9 aa ab ac ad ae af => A1.rec false (fun b0 b1 b2 b3 b4 b5 b6 b7 b8 b9 ba bb bc bd be bf => (Bool.rec false (Bool.rec false (Bool.rec false (Bool.rec false (Bool.rec false (Bool.rec false (Bool.rec false (Bool.rec false (Bool.rec false (Bool.rec false (Bool.rec false (Bool.rec false (Bool.rec false (Bool.rec false (Bool.rec false (xY af bf) (xY ae be)) (xY ad bd)) (xY ac bc)) (xY ab bb)) (xY aa ba)) (xY a9 b9)) (xY a8 b8)) (xY a7 b7)) (xY a6 b6)) (xY a5 b5)) (xY a4 b4)) (xY a3 b3)) (xY a2 b2)) (xY a1 b1)) (xY a0 b0))) y) x
def A2.eq (x y : A2) : Bool := A2.rec (A2.rec true (fun _ _ _ _ _ _ _ _ _ _ _ _ _ _ _ _ => false) y) (fun a0 a1 a2 a3 a4 a5 a6 a7 a8 a9 aa ab ac ad ae af => A2.rec false (fun b0 b1 b2 b3 b4 b5 b6 b7 b8 b9 ba bb bc bd be bf => (Bool.rec false (Bool.rec false (Bool.rec false (Bool.rec false (Bool.rec false (Bool.rec false (Bool.rec false (Bool.rec false (Bool.rec false (Bool.rec false (Bool.rec false (Bool.rec false (Bool.rec false (Bool.rec false (Bool.rec false (A1.eq af bf) (A1.eq ae be)) (A1.eq ad bd)) (A1.eq ac bc)) (A1.eq ab bb)) (A1.eq aa ba)) (A1.eq a9 b9)) (A1.eq a8 b8)) (A1.eq a7 b7)) (A1.eq a6 b6)) (A1.eq a5 b5)) (A1.eq a4 b4)) (A1.eq a3 b3)) (A1.eq a2 b2)) (A1.eq a1 b1)) (A1.eq a0 b0))) y) x
def A3.eq (x y : A3) : Bool := A3.rec (A3.rec true (fun _ _ _ _ _ _ _ _ _ _ _ _ _ _ _ _ => false) y) (fun a0 a1 a2 a3 a4 a5 a6 a7 a8 a9 aa ab ac ad ae af => A3.rec false (fun b0 b1 b2 b3 b4 b5 b6 b7 b8 b9 ba bb bc bd be bf => (Bool.rec false (Bool.rec false (Bool.rec false (Bool.rec false (Bool.rec false (Bool.rec false (Bool.rec false (Bool.rec false (Bool.rec false (Bool.rec false (Bool.rec false (Bool.rec false (Bool.rec false (Bool.rec false (Bool.rec false (A2.eq af bf) (A2.eq ae be)) (A2.eq ad bd)) (A2.eq ac bc)) (A2.eq ab bb)) (A2.eq aa ba)) (A2.eq a9 b9)) (A2.eq a8 b8)) (A2.eq a7 b7)) (A2.eq a6 b6)) (A2.eq a5 b5)) (A2.eq a4 b4)) (A2.eq a3 b3)) (A2.eq a2 b2)) (A2.eq a1 b1)) (A2.eq a0 b0))) y) x
def A4.eq (x y : A4) : Bool := A4.rec (A4.rec true (fun _ _ _ _ _ _ _ _ _ _ _ _ _ _ _ _ => false) y) (fun a0 a1 a2 a3 a4 a5 a6 a7 a8 a9 aa ab ac ad ae af => A4.rec false (fun b0 b1 b2 b3 b4 b5 b6 b7 b8 b9 ba bb bc bd be bf => (Bool.rec false (Bool.rec false (Bool.rec false (Bool.rec false (Bool.rec false (Bool.rec false (Bool.rec false (Bool.rec false (Bool.rec false (Bool.rec false (Bool.rec false (Bool.rec false (Bool.rec false (Bool.rec false (Bool.rec false (A3.eq af bf) (A3.eq ae be)) (A3.eq ad bd)) (A3.eq ac bc)) (A3.eq ab bb)) (A3.eq aa ba)) (A3.eq a9 b9)) (A3.eq a8 b8)) (A3.eq a7 b7)) (A3.eq a6 b6)) (A3.eq a5 b5)) (A3.eq a4 b4)) (A3.eq a3 b3)) (A3.eq a2 b2)) (A3.eq a1 b1)) (A3.eq a0 b0))) y) x
def A1.mg (x y : A1) : A1 := A1.rec (A1.rec .nil (fun b0 b1 b2 b3 b4 b5 b6 b7 b8 b9 ba bb bc bd be bf => .mk (gI AV.undef b0) (gI AV.undef b1) (gI AV.undef b2) (gI AV.undef b3) (gI AV.undef b4) (gI AV.undef b5) (gI AV.undef b6) (gI AV.undef b7) (gI AV.undef b8) (gI AV.undef b9) (gI AV.undef ba) (gI AV.undef bb) (gI AV.undef bc) (gI AV.undef bd) (gI AV.undef be) (gI AV.undef bf)) y) (fun a0 a1 a2 a3 a4 a5 a6 a7 a8 a9 aa ab ac ad ae af => A1.rec (.mk (gI a0 AV.undef) (gI a1 AV.undef) (gI a2 AV.undef) (gI a3 AV.undef) (gI a4 AV.undef) (gI a5 AV.undef) (gI a6 AV.undef) (gI a7 AV.undef) (gI a8 AV.undef) (gI a9 AV.undef) (gI aa AV.undef) (gI ab AV.undef) (gI ac AV.undef) (gI ad AV.undef) (gI ae AV.undef) (gI af AV.undef)) (fun b0 b1 b2 b3 b4 b5 b6 b7 b8 b9 ba bb bc bd be bf => .mk (gI a0 b0) (gI a1 b1) (gI a2 b2) (gI a3 b3) (gI a4 b4) (gI a5 b5) (gI a6 b6) (gI a7 b7) (gI a8 b8) (gI a9 b9) (gI aa ba) (gI ab bb) (gI ac bc) (gI ad bd) (gI ae be) (gI af bf)) y) x
def A2.mg (x y : A2) : A2 := A2.rec (A2.rec .nil (fun b0 b1 b2 b3 b4 b5 b6 b7 b8 b9 ba bb bc bd be bf => .mk (A1.mg A1.nil b0) (A1.mg A1.nil b1) (A1.mg A1.nil b2) (A1.mg A1.nil b3) (A1.mg A1.nil b4) (A1.mg A1.nil b5) (A1.mg A1.nil b6) (A1.mg A1.nil b7) (A1.mg A1.nil b8) (A1.mg A1.nil b9) (A1.mg A1.nil ba) (A1.mg A1.nil bb) (A1.mg A1.nil bc) (A1.mg A1.nil bd) (A1.mg A1.nil be) (A1.mg A1.nil bf)) y) (fun a0 a1 a2 a3 a4 a5 a6 a7 a8 a9 aa ab ac ad ae af => A2.rec (.mk (A1.mg a0 A1.nil) (A1.mg a1 A1.nil) (A1.mg a2 A1.nil) (A1.mg a3 A1.nil) (A1.mg a4 A1.nil) (A1.mg a5 A1.nil) (A1.mg a6 A1.nil) (A1.mg a7 A1.nil) (A1.mg a8 A1.nil) (A1.mg a9 A1.nil) (A1.mg aa A1.nil) (A1.mg ab A1.nil) (A1.mg ac A1.nil) (A1.mg ad A1.nil) (A1.mg ae A1.nil) (A1.mg af A1.nil)) (fun b0 b1 b2 b3 b4 b5 b6 b7 b8 b9 ba bb bc bd be bf => .mk (A1.mg a0 b0) (A1.mg a1 b1) (A1.mg a2 b2) (A1.mg a3 b3) (A1.mg a4 b4) (A1.mg a5 b5) (A1.mg a6 b6) (A1.mg a7 b7) (A1.mg a8 b8) (A1.mg a9 b9) (A1.mg aa ba) (A1.mg ab bb) (A1.mg ac bc) (A1.mg ad bd) (A1.mg ae be) (A1.mg af bf)) y) x
def Cl.eq (x y : Cl) : Bool := Cl.rec (fun a => Cl.rec (fun b => A1.eq a b) (fun _ => false) (fun _ => false) (fun _ => false) (fun _ _ => false) y) (fun a => Cl.rec (fun _ => false) (fun b => A2.eq a b) (fun _ => false) (fun _ => false) (fun _ _ => false) y) (fun a => Cl.rec (fun _ => false) (fun _ => false) (fun b => A3.eq a b) (fun _ => false) (fun _ _ => false) y) (fun a => Cl.rec (fun _ => false) (fun _ => false) (fun _ => false) (fun b => A4.eq a b) (fun _ _ => false) y) (fun _ _ => false) x
def Fl.eq (x y : Fl) : Bool := Fl.rec (Fl.rec true false false false y) (Fl.rec false true false false y) (Fl.rec false false true false y) (Fl.rec false false false true y) x
def PC (x y : KV) : Bool := KV.rec (fun k v b => KV.rec (fun k' v' b' => Bool.rec false (Bool.rec false (xY v v') (same k k')) (Nat.beq b b')) y) x
def It (a b : List KV) : Bool := dI (β := List KV → Bool) (fun b => nH b) (fun x _ ih b => List.rec false (fun y b _ => Bool.rec false (ih b) (PC x y)) b) a b
def zn (x y : Obj) : Bool := Obj.rec (isNone y) false (fun el n ex fl c => Obj.aR y (fun el' n' ex' fl' c' => Bool.rec false (Bool.rec false (Bool.rec false (Bool.rec false (Cl.eq c c') (Fl.eq fl fl')) (ko ex ex')) (Nat.beq n n')) (Nat.beq el el')) false) (fun l ck => Obj.eM y (fun l' ck' => Bool.rec false (It l l') (Nat.beq ck ck')) false) (fun _ _ => false) (fun _ _ _ _ => false) false x
def bg (x y : Obj) : Obj := Bool.rec .dead x (zn x y)
def O1.mg (x y : O1) : O1 := O1.rec (O1.rec .nil (fun b0 b1 b2 b3 b4 b5 b6 b7 b8 b9 ba bb bc bd be bf => .mk (bg Obj.none b0) (bg Obj.none b1) (bg Obj.none b2) (bg Obj.none b3) (bg Obj.none b4) (bg Obj.none b5) (bg Obj.none b6) (bg Obj.none b7) (bg Obj.none b8) (bg Obj.none b9) (bg Obj.none ba) (bg Obj.none bb) (bg Obj.none bc) (bg Obj.none bd) (bg Obj.none be) (bg Obj.none bf)) y) (fun a0 a1 a2 a3 a4 a5 a6 a7 a8 a9 aa ab ac ad ae af => O1.rec (.mk (bg a0 Obj.none) (bg a1 Obj.none) (bg a2 Obj.none) (bg a3 Obj.none) (bg a4 Obj.none) (bg a5 Obj.none) (bg a6 Obj.none) (bg a7 Obj.none) (bg a8 Obj.none) (bg a9 Obj.none) (bg aa Obj.none) (bg ab Obj.none) (bg ac Obj.none) (bg ad Obj.none) (bg ae Obj.none) (bg af Obj.none)) (fun b0 b1 b2 b3 b4 b5 b6 b7 b8 b9 ba bb bc bd be bf => .mk (bg a0 b0) (bg a1 b1) (bg a2 b2) (bg a3 b3) (bg a4 b4) (bg a5 b5) (bg a6 b6) (bg a7 b7) (bg a8 b8) (bg a9 b9) (bg aa ba) (bg ab bb) (bg ac bc) (bg ad bd) (bg ae be) (bg af bf)) y) x
def O2.mg (x y : O2) : O2 := O2.rec (O2.rec .nil (fun b0 b1 b2 b3 b4 b5 b6 b7 b8 b9 ba bb bc bd be bf => .mk (O1.mg O1.nil b0) (O1.mg O1.nil b1) (O1.mg O1.nil b2) (O1.mg O1.nil b3) (O1.mg O1.nil b4) (O1.mg O1.nil b5) (O1.mg O1.nil b6) (O1.mg O1.nil b7) (O1.mg O1.nil b8) (O1.mg O1.nil b9) (O1.mg O1.nil ba) (O1.mg O1.nil bb) (O1.mg O1.nil bc) (O1.mg O1.nil bd) (O1.mg O1.nil be) (O1.mg O1.nil bf)) y) (fun a0 a1 a2 a3 a4 a5 a6 a7 a8 a9 aa ab ac ad ae af => O2.rec (.mk (O1.mg a0 O1.nil) (O1.mg a1 O1.nil) (O1.mg a2 O1.nil) (O1.mg a3 O1.nil) (O1.mg a4 O1.nil) (O1.mg a5 O1.nil) (O1.mg a6 O1.nil) (O1.mg a7 O1.nil) (O1.mg a8 O1.nil) (O1.mg a9 O1.nil) (O1.mg aa O1.nil) (O1.mg ab O1.nil) (O1.mg ac O1.nil) (O1.mg ad O1.nil) (O1.mg ae O1.nil) (O1.mg af O1.nil)) (fun b0 b1 b2 b3 b4 b5 b6 b7 b8 b9 ba bb bc bd be bf => .mk (O1.mg a0 b0) (O1.mg a1 b1) (O1.mg a2 b2) (O1.mg a3 b3) (O1.mg a4 b4) (O1.mg a5 b5) (O1.mg a6 b6) (O1.mg a7 b7) (O1.mg a8 b8) (O1.mg a9 b9) (O1.mg aa ba) (O1.mg ab bb) (O1.mg ac bc) (O1.mg ad bd) (O1.mg ae be) (O1.mg af bf)) y) x
def O3.mg (x y : O3) : O3 := O3.rec (O3.rec .nil (fun b0 b1 b2 b3 b4 b5 b6 b7 b8 b9 ba bb bc bd be bf => .mk (O2.mg O2.nil b0) (O2.mg O2.nil b1) (O2.mg O2.nil b2) (O2.mg O2.nil b3) (O2.mg O2.nil b4) (O2.mg O2.nil b5) (O2.mg O2.nil b6) (O2.mg O2.nil b7) (O2.mg O2.nil b8) (O2.mg O2.nil b9) (O2.mg O2.nil ba) (O2.mg O2.nil bb) (O2.mg O2.nil bc) (O2.mg O2.nil bd) (O2.mg O2.nil be) (O2.mg O2.nil bf)) y) (fun a0 a1 a2 a3 a4 a5 a6 a7 a8 a9 aa ab ac ad ae af => O3.rec (.mk (O2.mg a0 O2.nil) (O2.mg a1 O2.nil) (O2.mg a2 O2.nil) (O2.mg a3 O2.nil) (O2.mg a4 O2.nil) (O2.mg a5 O2.nil) (O2.mg a6 O2.nil) (O2.mg a7 O2.nil) (O2.mg a8 O2.nil) (O2.mg a9 O2.nil) (O2.mg aa O2.nil) (O2.mg ab O2.nil) (O2.mg ac O2.nil) (O2.mg ad O2.nil) (O2.mg ae O2.nil) (O2.mg af O2.nil)) (fun b0 b1 b2 b3 b4 b5 b6 b7 b8 b9 ba bb bc bd be bf => .mk (O2.mg a0 b0) (O2.mg a1 b1) (O2.mg a2 b2) (O2.mg a3 b3) (O2.mg a4 b4) (O2.mg a5 b5) (O2.mg a6 b6) (O2.mg a7 b7) (O2.mg a8 b8) (O2.mg a9 b9) (O2.mg aa ba) (O2.mg ab bb) (O2.mg ac bc) (O2.mg ad bd) (O2.mg ae be) (O2.mg af bf)) y) x
def O4.mg (x y : O4) : O4 := O4.rec (O4.rec .nil (fun b0 b1 b2 b3 b4 b5 b6 b7 b8 b9 ba bb bc bd be bf => .mk (O3.mg O3.nil b0) (O3.mg O3.nil b1) (O3.mg O3.nil b2) (O3.mg O3.nil b3) (O3.mg O3.nil b4) (O3.mg O3.nil b5) (O3.mg O3.nil b6) (O3.mg O3.nil b7) (O3.mg O3.nil b8) (O3.mg O3.nil b9) (O3.mg O3.nil ba) (O3.mg O3.nil bb) (O3.mg O3.nil bc) (O3.mg O3.nil bd) (O3.mg O3.nil be) (O3.mg O3.nil bf)) y) (fun a0 a1 a2 a3 a4 a5 a6 a7 a8 a9 aa ab ac ad ae af => O4.rec (.mk (O3.mg a0 O3.nil) (O3.mg a1 O3.nil) (O3.mg a2 O3.nil) (O3.mg a3 O3.nil) (O3.mg a4 O3.nil) (O3.mg a5 O3.nil) (O3.mg a6 O3.nil) (O3.mg a7 O3.nil) (O3.mg a8 O3.nil) (O3.mg a9 O3.nil) (O3.mg aa O3.nil) (O3.mg ab O3.nil) (O3.mg ac O3.nil) (O3.mg ad O3.nil) (O3.mg ae O3.nil) (O3.mg af O3.nil)) (fun b0 b1 b2 b3 b4 b5 b6 b7 b8 b9 ba bb bc bd be bf => .mk (O3.mg a0 b0) (O3.mg a1 b1) (O3.mg a2 b2) (O3.mg a3 b3) (O3.mg a4 b4) (O3.mg a5 b5) (O3.mg a6 b6) (O3.mg a7 b7) (O3.mg a8 b8) (O3.mg a9 b9) (O3.mg aa ba) (O3.mg ab bb) (O3.mg ac bc) (O3.mg ad bd) (O3.mg ae be) (O3.mg af bf)) y) x
def ic (x y : AV) : Bool := Bool.rec (same x y) true (PB x)
def A1.le (x y : A1) : Bool := A1.rec (A1.rec true (fun b0 b1 b2 b3 b4 b5 b6 b7 b8 b9 ba bb bc bd be bf => (Bool.rec false (Bool.rec false (Bool.rec false (Bool.rec false (Bool.rec false (Bool.rec false (Bool.rec false (Bool.rec false (Bool.rec false (Bool.rec false (Bool.rec false (Bool.rec false (Bool.rec false (Bool.rec false (Bool.rec false (ic AV.undef bf) (ic AV.undef be)) (ic AV.undef bd)) (ic AV.undef bc)) (ic AV.undef bb)) (ic AV.undef ba)) (ic AV.undef b9)) (ic AV.undef b8)) (ic AV.undef b7)) (ic AV.undef b6)) (ic AV.undef b5)) (ic AV.undef b4)) (ic AV.undef b3)) (ic AV.undef b2)) (ic AV.undef b1)) (ic AV.undef b0))) y) (fun a0 a1 a2 a3 a4 a5 a6 a7 a8 a9 aa ab ac ad ae af => A1.rec (Bool.rec false (Bool.rec false (Bool.rec false (Bool.rec false (Bool.rec false (Bool.rec false (Bool.rec false (Bool.rec false (Bool.rec false (Bool.rec false (Bool.rec false (Bool.rec false (Bool.rec false (Bool.rec false (Bool.rec false (ic af AV.undef) (ic ae AV.undef)) (ic ad AV.undef)) (ic ac AV.undef)) (ic ab AV.undef)) (ic aa AV.undef)) (ic a9 AV.undef)) (ic a8 AV.undef)) (ic a7 AV.undef)) (ic a6 AV.undef)) (ic a5 AV.undef)) (ic a4 AV.undef)) (ic a3 AV.undef)) (ic a2 AV.undef)) (ic a1 AV.undef)) (ic a0 AV.undef)) (fun b0 b1 b2 b3 b4 b5 b6 b7 b8 b9 ba bb bc bd be bf => (Bool.rec false (Bool.rec false (Bool.rec false (Bool.rec false (Bool.rec false (Bool.rec false (Bool.rec false (Bool.rec false (Bool.rec false (Bool.rec false (Bool.rec false (Bool.rec false (Bool.rec false (Bool.rec false (Bool.rec false (ic af bf) (ic ae be)) (ic ad bd)) (ic ac bc)) (ic ab bb)) (ic aa ba)) (ic a9 b9)) (ic a8 b8)) (ic a7 b7)) (ic a6 b6)) (ic a5 b5)) (ic a4 b4)) (ic a3 b3)) (ic a2 b2)) (ic a1 b1)) (ic a0 b0))) y) x
def A2.le (x y : A2) : Bool := A2.rec (A2.rec true (fun b0 b1 b2 b3 b4 b5 b6 b7 b8 b9 ba bb bc bd be bf => (Bool.rec false (Bool.rec false (Bool.rec false (Bool.rec false (Bool.rec false (Bool.rec false (Bool.rec false (Bool.rec false (Bool.rec false (Bool.rec false (Bool.rec false (Bool.rec false (Bool.rec false (Bool.rec false (Bool.rec false (A1.le A1.nil bf) (A1.le A1.nil be)) (A1.le A1.nil bd)) (A1.le A1.nil bc)) (A1.le A1.nil bb)) (A1.le A1.nil ba)) (A1.le A1.nil b9)) (A1.le A1.nil b8)) (A1.le A1.nil b7)) (A1.le A1.nil b6)) (A1.le A1.nil b5)) (A1.le A1.nil b4)) (A1.le A1.nil b3)) (A1.le A1.nil b2)) (A1.le A1.nil b1)) (A1.le A1.nil b0))) y) (fun a0 a1 a2 a3 a4 a5 a6 a7 a8 a9 aa ab ac ad ae af => A2.rec (Bool.rec false (Bool.rec false (Bool.rec false (Bool.rec false (Bool.rec false (Bool.rec false (Bool.rec false (Bool.rec false (Bool.rec false (Bool.rec false (Bool.rec false (Bool.rec false (Bool.rec false (Bool.rec false (Bool.rec false (A1.le af A1.nil) (A1.le ae A1.nil)) (A1.le ad A1.nil)) (A1.le ac A1.nil)) (A1.le ab A1.nil)) (A1.le aa A1.nil)) (A1.le a9 A1.nil)) (A1.le a8 A1.nil)) (A1.le a7 A1.nil)) (A1.le a6 A1.nil)) (A1.le a5 A1.nil)) (A1.le a4 A1.nil)) (A1.le a3 A1.nil)) (A1.le a2 A1.nil)) (A1.le a1 A1.nil)) (A1.le a0 A1.nil)) (fun b0 b1 b2 b3 b4 b5 b6 b7 b8 b9 ba bb bc bd be bf => (Bool.rec false (Bool.rec false (Bool.rec false (Bool.rec false (Bool.rec false (Bool.rec false (Bool.rec false (Bool.rec false (Bool.rec false (Bool.rec false (Bool.rec false (Bool.rec false (Bool.rec false (Bool.rec false (Bool.rec false (A1.le af bf) (A1.le ae be)) (A1.le ad bd)) (A1.le ac bc)) (A1.le ab bb)) (A1.le aa ba)) (A1.le a9 b9)) (A1.le a8 b8)) (A1.le a7 b7)) (A1.le a6 b6)) (A1.le a5 b5)) (A1.le a4 b4)) (A1.le a3 b3)) (A1.le a2 b2)) (A1.le a1 b1)) (A1.le a0 b0))) y) x
def xu (x y : T4) : T4 := T4.rec (fun t f => T4.rec (fun u g => .mk (O4.mg t u) (fun m n => bg (f m n) (g m n))) y) x
def Tv (x y : Hp) (k : Hp → RS) : RS := Hp.rec (fun t n => Hp.rec (fun u m => Bool.rec (.err 301) (k (.mk (xu t u) n)) (qc n m)) y) x
def Bx (x y : RS) : RS := RS.rec (fun r h => RS.rec (fun r' h' => Tv h h' (fun h => .nm (A2.mg r r') h)) (fun _ _ _ => .err 302) (fun _ _ _ => .err 302) (fun _ _ => .err 302) (fun n => .err n) (fun _ _ _ => .err 302) y) (fun _ _ _ => .err 303) (fun _ _ _ => .err 303) (fun _ _ => .err 303) (fun n => .err n) (fun _ _ _ => .err 303) x
def Iu (n : Nat) (f : Nat → RS) : RS := Nat.rec (.err 304) (fun n _ => zj (f 0) (fun m ih => Bx ih (f (Nat.succ m))) n) n
def dC (x : RS) : RS := RS.elim (fun r h => .nm r h) (fun i r h => .ex i r h) (fun l r h => .go l r h) (fun r h => .ret r h) (fun n => .err n) Iu x
def ua (x : RS) : RS := RS.elim (fun r h => .nm r h) (fun i r h => .ex i r h) (fun l r h => .go l r h) (fun r h => .nm r h) (fun n => .err n) (fun n ih => .ch n ih) x
abbrev iU := AC → A2 → Hp → RS
def LP (s : Rs) (r : A2) (h : Hp) : RV := Rs.rec (fun a b => .ok (az a b r) h) (fun a b => lq (.t a b) r h) (fun n a b => rh n (.t a b) r h) s
def PD (l : List Rs) (r : A2) (h : Hp) (k : List AV → RV) : RV := dI (β := (List AV → RV) → RV) (fun k => k .nil)
 (fun s _ ih k => RV.rec (fun v _ => ih (fun vs => k (.cons v vs))) (fun n => .err n) (LP s r h)) l k
def Iw (h : Hp) (l : List AV) : RV := List.rec (.ok cm h) (fun v t _ => List.rec (.ok v h) (fun x y _ => .ok (.jx (.cons v (.cons x y))) h) t) l
def rG (res : List Rs) (r : A2) (h : Hp) : RV := PD res r h (Iw h)
def eD (res : List Rs) (s : RS) : RT := RS.elim (fun r h => (rG res r h).lH) (fun _ _ _ => .err 200) (fun _ _ _ => .err 201) (fun r h => (rG res r h).lH) (fun n => .err n) (fun n ih => .ch n ih) s
def aw (p : Pg) (run : iU) (f : Nat) (args : List AV) (h : Hp) : RT := AF.rec (.err (Nat.add 1000 f)) (fun body res => Bool.rec (.err 207) (eD res (run body (bt args 0 .nil) h)) (Nat.ble args.length 256)) (fun k body res => RT.rec (fun v h => RT.ok v h) (fun _ => Bool.rec (.err 207) (eD res (run body (bt args 0 .nil) h)) (Nat.ble args.length 256)) (fun n k _ => .ch n k) (fj k args h)) (fun body res => Bool.rec (.err 207) (eD res (dC (ua (run body (bt args 0 .nil) h)))) (Nat.ble args.length 256)) (fun k => fj k args h) (ar f p.fs)
def lu (p : Pg) (run : iU) (x : AV) (args : List AV) (h : Hp) : RT := AV.Gg x (fun f cs => aw p run f (List.append args cs) h) (.err 202)
def aG (p : Pg) (run : iU) (name : Nat) (x : AV) (args : List AV) (h : Hp) : RT := AV.Bw x
 (fun t v => pw t name p.ms (fun f => aw p run f (.cons v args) h) (.err 206)) (.err 205) (.err 204)
def Cy (d : bV) (k : A2 → Hp → RS) (r : A2) (v : RV) : RS := RV.rec (fun v h => k (da d v r) h) (fun n => .err n) v
def stepT (d : bV) (k : A2 → Hp → RS) (r : A2) (v : RT) : RS := RT.elim (fun v h => k (da d v r) h) (fun n => .err n) (fun n ih => .ch n ih) v
def AI.exec (i : AI) (p : Pg) (run : iU) (d : bV) (k : A2 → Hp → RS) (r : A2) (h : Hp) : RS := AI.rec (fun op => Cy d k r (op.run r h)) (fun s x => stepT d k r (lN s (ev x r) h)) (fun f xs => stepT d k r (aw p run f (fL xs r) h)) (fun x xs => stepT d k r (lu p run (ev x r) (fL xs r) h)) (fun n x xs => stepT d k r (aG p run n (ev x r) (fL xs r) h)) i
def gb (w : Bool) (x : AV) : AV := OL.rec x (fun l => List.rec (.bool (Bool.not w)) (fun _ _ _ => .undef) l) x.Ik
def jA (d : bV) (k : A2 → Hp → RS) (r : A2) (h : Hp) (i : AI) (p : Pg) (run : iU) (w t : Bool) : RS :=
 Bool.rec (k (da d cm r) h) (i.exec p run d k r h) (ko t w)
def GI.exec (i : GI) (p : Pg) (run : iU) (k : A2 → Hp → RS) (r : A2) (h : Hp) : RS := GI.rec (fun d i => i.exec p run d k r h) (fun a b w d i => AV.bB (gb w (az a b r)) (jA d k r h i p run w) (.err 210)) i
def eX (p : Pg) (run : iU) (l : List GI) : A2 → Hp → RS := dI (β := A2 → Hp → RS) (fun r h => .nm r h) (fun i _ ih => i.exec p run ih) l
def gM (op : oG) (r : A2) (v : AV) (l : List Hp) : Nat → Bool := dI (β := Nat → Bool) (fun n => Nat.rec true (fun _ _ => false) n)
 (fun h _ ih n => Nat.rec true (fun n _ => RV.rec (fun v' _ => Bool.rec false (ih n) (same v v')) (fun _ => false) (op.run r h)) n) l
abbrev DK := A2 → Hp → Hp → List Hp → RS
def nd (d : bV) (k : DK) (r : A2) (g : Hp) (hs : List Hp) (v : RT) : RS := RT.rec (fun v h' => k (da d v r) h' h' (.cons g hs)) (fun n => .err n) (fun _ _ _ => .err 213) v
def AY (d : bV) (op : oG) (n : Nat) (k : DK) (r : A2) (h g : Hp) (hs : List Hp) (v : RV) : RS := RV.rec (fun v _ => Bool.rec (.err 211) (k (da d v r) h g hs) (gM op r v hs n)) (fun n => .err n) v
def Gp (d : bV) (k : DK) (r : A2) (g : Hp) (hs : List Hp) (v : RV) : RS := RV.rec (fun v h' => k (da d v r) h' g hs) (fun n => .err n) v
def uW (b : Bk) (d : bV) (i : AI) (p : Pg) (run : iU) (k : DK) (r : A2) (h g : Hp) (hs : List Hp) : RS := AI.rec (fun op => Bk.rec (nd d k r g hs (op.run r h).lH) (fun n => AY d op n k r h g hs (op.run r g)) (Gp d k r g hs (op.run r h)) b) (fun s x => nd d k r g hs (lN s (ev x r) h)) (fun f xs => nd d k r g hs (aw p run f (fL xs r) h)) (fun x xs => nd d k r g hs (lu p run (ev x r) (fL xs r) h)) (fun n x xs => nd d k r g hs (aG p run n (ev x r) (fL xs r) h)) i
def Lf (b : Bk) (d : bV) (k : DK) (r : A2) (h g : Hp) (hs : List Hp) : RS := Bk.rec (k (da d cm r) h h (.cons g hs)) (fun _ => k (da d cm r) h g hs) (.err 214) b
def ES (b : Bk) (d : bV) (i : AI) (k : DK) (r : A2) (h g : Hp) (hs : List Hp) (p : Pg) (run : iU) (w t : Bool) : RS :=
 Bool.rec (Lf b d k r h g hs) (uW b d i p run k r h g hs) (ko t w)
def DI.exec (i : DI) (p : Pg) (run : iU) (k : DK) (r : A2) (h g : Hp) (hs : List Hp) : RS := DI.rec (fun b y => GI.rec (fun d i => uW b d i p run k r h g hs) (fun x y w d i => AV.bB (gb w (az x y r)) (ES b d i k r h g hs p run w) (.err 212)) y) i
def eG (p : Pg) (run : iU) (l : List DI) : DK := dI (β := DK) (fun r h _ _ => .nm r h) (fun i _ ih => i.exec p run ih) l
def cS : AC → Nat → Option AC
 | .seq a b, l => match cS a l with
  | some c => some (.seq c b)
  | none => cS b l
 | .label l', l => if Nat.beq l' l then some .skip else none
 | .ah _ x, l => cS x l
 | _, _ => none
def RS.bind (x : RS) (kn : A2 → Hp → RS) (ke : Nat → A2 → Hp → RS) (kg : Nat → A2 → Hp → RS) : RS := RS.elim kn ke kg (fun r h => .ret r h) (fun n => .err n) (fun n ih => .ch n ih) x
def Df (a b : AC) (run : iU) (r : A2) (h : Hp) : RS := RS.bind (run a r h) (fun r h => run b r h) (fun i r h => .ex i r h) (fun l r h => .go l r h)
def PE (c : AO) (a b : AC) (run : iU) (r : A2) (h : Hp) : RS := AV.bB (ev c r) (fun t => Bool.rec (run b r h) (run a r h) t) (.err 213)
def rY (i : Nat) (a : AC) (run : iU) (r : A2) (h : Hp) : RS := RS.bind (run a r h) (fun r h => .nm r h) (fun j r h => Bool.rec (.ex j r h) (.nm r h) (Nat.beq j i)) (fun l r h => .go l r h)
def xw (a : AC) (run : iU) (r : A2) (h : Hp) : RS := RS.bind (run a r h) (fun r h => run (.loop a) r h) (fun i r h => .ex i r h) (fun l r h => .go l r h)
def zo (a c : AC) (run : iU) (r : A2) (h : Hp) : RS := RS.bind (run c r h) (fun r h => .nm r h) (fun i r h => .ex i r h)
 (fun l r h => Option.rec (.go l r h) (fun c => run (.sat a c) r h) (cS a l))
def PF (a : AC) (run : iU) (r : A2) (h : Hp) : RS := dC (run a r h)
def KI (n : Nat) (f : Nat → Bool) : Bool := zj true (fun m ih => Bool.rec false ih (f m)) n
abbrev Ex := Pg → iU → A2 → Hp → RS
def xZ (q : Nat) (r : A2) (i : Nat) : A1 := Bool.rec (A2.get (dz i) r) (Bool.rec (A2.get (dz (Nat.succ i)) r) .nil (Nat.beq i 15)) (Nat.ble q i)
def ub (q : Nat) (r : A2) : A2 := .mk (xZ q r 0) (xZ q r 1) (xZ q r 2) (xZ q r 3) (xZ q r 4) (xZ q r 5) (xZ q r 6) (xZ q r 7) (xZ q r 8) (xZ q r 9) (xZ q r 10) (xZ q r 11) (xZ q r 12) (xZ q r 13) (xZ q r 14) (xZ q r 15)
def ya (q : Nat) (r : A2) (i : Nat) : A1 := Bool.rec (A2.get (dz (Nat.pred i)) r) (Bool.rec (A2.get (dz i) r) .nil (Nat.beq i q)) (Nat.ble i q)
def Bz (q : Nat) (r : A2) : A2 := .mk (ya q r 0) (ya q r 1) (ya q r 2) (ya q r 3) (ya q r 4) (ya q r 5) (ya q r 6) (ya q r 7) (ya q r 8) (ya q r 9) (ya q r 10) (ya q r 11) (ya q r 12) (ya q r 13) (ya q r 14) (ya q r 15)
def PG (x y : RS) : Bool := RS.rec (fun r _ => RS.rec (fun r' _ => A2.le r r') (fun _ _ _ => false) (fun _ _ _ => false) (fun _ _ => false) (fun _ => false) (fun _ _ _ => false) y) (fun _ _ _ => false) (fun _ _ _ => false) (fun _ _ => false) (fun _ => false) (fun _ _ _ => false) x
def xy (x y : RS) : RS := Bool.rec (.ch 2 (fun i => Nat.rec x (fun _ _ => y) i)) (dC (.ch 2 (fun i => Nat.rec x (fun _ _ => y) i))) (PG x y)
def xz (q : Nat) (l : List GI) (p : Pg) (run : iU) (r : A2) (h : Hp) : RS := RS.bind (eX p run l (ub q r) h) (fun r h => .nm (Bz q r) h) (fun i r h => .ex i r h) (fun l r h => .go l r h)
def uc (c : AC) : Ex := AC.rec (motive := fun _ => Ex) (fun _ _ r h => .nm r h) (fun l p run r h => eX p run l r h) (fun l p run r h => eG p run l r h h .nil) (fun a b _ _ => fun _ run r h => Df a b run r h) (fun c a b _ _ => fun _ run r h => PE c a b run r h) (fun i a _ => fun _ run r h => rY i a run r h) (fun a _ => fun _ run r h => xw a run r h) (fun a _ => fun _ run r h => zo a a run r h) (fun a c _ _ => fun _ run r h => zo a c run r h) (fun i => fun _ _ r h => .ex i r h) (fun l => fun _ _ r h => .go l r h) (fun _ => fun _ _ r h => .nm r h) (fun _ _ r h => .ret r h) (fun a _ => fun _ run r h => PF a run r h) (fun n => fun _ _ _ _ => .err n) (fun f x _ => fun p run r h => f (aw p run) (aG p run) (fun r h => run x r h) r h) (fun a b _ _ => fun _ run r h => xy (run a r h) (run b r h)) (fun q l p run r h => xz q l p run r h) c
def exec (p : Pg) (n : Nat) : iU := Nat.rec (fun _ _ _ => .err 300) (fun _ ih c => uc c p ih) n
def Ug : Hp := .mk (.mk .nil (fun _ _ => .none)) (.mk .h0 .h0 .h0 .h0)
def eQ (v : RT) : Bool := RT.elim (fun v _ => AV.bB v (fun b => b) false) (fun _ => false) KI v
end
end Go.Am
