/- The abstract machine: its states, its operations, its run. Nothing is asked. -/
import GoSem.Core.Value
import GoSem.Core.Ast
import GoSem.Core.Float
import GoSem.Op.IntArith
import GoSem.Conv.StringToRunes
import GoSem.Core.Utf8
set_option linter.all false
namespace Go.Am
noncomputable section
inductive H where
 | h0 | h1 | h2 | h3 | h4 | h5 | h6 | h7 | h8 | h9 | ha | hb | hc | hd | he | hf
def H.succ (d : H) : H := H.rec H.h1 H.h2 H.h3 H.h4 H.h5 H.h6 H.h7 H.h8 H.h9 H.ha H.hb H.hc H.hd H.he H.hf H.h0 d
def H.last (d : H) : Bool := H.rec false false false false false false false false false false false false false false false true d
def H.nat (d : H) : Nat := H.rec 0 1 2 3 4 5 6 7 8 9 10 11 12 13 14 15 d
def dG (n : Nat) : H := (Nat.rec H.h0 (fun n1 _ => (Nat.rec H.h1 (fun n2 _ => (Nat.rec H.h2 (fun n3 _ => (Nat.rec H.h3 (fun n4 _ => (Nat.rec H.h4 (fun n5 _ => (Nat.rec H.h5 (fun n6 _ => (Nat.rec H.h6 (fun n7 _ => (Nat.rec H.h7 (fun n8 _ => (Nat.rec H.h8 (fun n9 _ => (Nat.rec H.h9 (fun n10 _ => (Nat.rec H.ha (fun n11 _ => (Nat.rec H.hb (fun n12 _ => (Nat.rec H.hc (fun n13 _ => (Nat.rec H.hd (fun n14 _ => (Nat.rec H.he (fun n15 _ => H.hf) n14)) n13)) n12)) n11)) n10)) n9)) n8)) n7)) n6)) n5)) n4)) n3)) n2)) n1)) n)
def gG {α β : Type} (n : β) (c : α → List α → β → β) (l : List α) : β := List.rec n c l
inductive P4 where
 | mk (a b c d : H)
 | eL (b o : Nat)
inductive AV where
 | undef
 | bool (b : Bool)
 | int (k : IntKind) (n : Int)
 | str (l : List Nat)
 | qP (k : FloatKind) (n : Nat)
 | gN (k : FloatKind) (re im : Nat)
 | ptr (i : P4) (off : Nat)
 | cV
 | slice (i : P4) (off len cap : Nat)
 | ft (i : P4) (off len es : Nat)
 | ai
 | map (i : P4)
 | ll
 | fn (f : Nat) (cs : List AV)
 | DF
 | iface (t : Nat) (v : AV)
 | xP
 | agg (cs : List AV)
 | nZ (vs : List AV)
 | sym (i : P4)
inductive KV where
 | mk (k v : AV) (born : Nat)
inductive A1 where
 | nil
 | mk (a0 a1 a2 a3 a4 a5 a6 a7 a8 a9 aa ab ac ad ae af : AV)
def A1.g0 (x : A1) : AV := A1.rec .undef (fun a0 a1 a2 a3 a4 a5 a6 a7 a8 a9 aa ab ac ad ae af => a0) x
def A1.g1 (x : A1) : AV := A1.rec .undef (fun a0 a1 a2 a3 a4 a5 a6 a7 a8 a9 aa ab ac ad ae af => a1) x
def A1.g2 (x : A1) : AV := A1.rec .undef (fun a0 a1 a2 a3 a4 a5 a6 a7 a8 a9 aa ab ac ad ae af => a2) x
def A1.g3 (x : A1) : AV := A1.rec .undef (fun a0 a1 a2 a3 a4 a5 a6 a7 a8 a9 aa ab ac ad ae af => a3) x
def A1.g4 (x : A1) : AV := A1.rec .undef (fun a0 a1 a2 a3 a4 a5 a6 a7 a8 a9 aa ab ac ad ae af => a4) x
def A1.g5 (x : A1) : AV := A1.rec .undef (fun a0 a1 a2 a3 a4 a5 a6 a7 a8 a9 aa ab ac ad ae af => a5) x
def A1.g6 (x : A1) : AV := A1.rec .undef (fun a0 a1 a2 a3 a4 a5 a6 a7 a8 a9 aa ab ac ad ae af => a6) x
def A1.g7 (x : A1) : AV := A1.rec .undef (fun a0 a1 a2 a3 a4 a5 a6 a7 a8 a9 aa ab ac ad ae af => a7) x
def A1.g8 (x : A1) : AV := A1.rec .undef (fun a0 a1 a2 a3 a4 a5 a6 a7 a8 a9 aa ab ac ad ae af => a8) x
def A1.g9 (x : A1) : AV := A1.rec .undef (fun a0 a1 a2 a3 a4 a5 a6 a7 a8 a9 aa ab ac ad ae af => a9) x
def A1.ga (x : A1) : AV := A1.rec .undef (fun a0 a1 a2 a3 a4 a5 a6 a7 a8 a9 aa ab ac ad ae af => aa) x
def A1.gb (x : A1) : AV := A1.rec .undef (fun a0 a1 a2 a3 a4 a5 a6 a7 a8 a9 aa ab ac ad ae af => ab) x
def A1.gc (x : A1) : AV := A1.rec .undef (fun a0 a1 a2 a3 a4 a5 a6 a7 a8 a9 aa ab ac ad ae af => ac) x
def A1.gd (x : A1) : AV := A1.rec .undef (fun a0 a1 a2 a3 a4 a5 a6 a7 a8 a9 aa ab ac ad ae af => ad) x
def A1.ge (x : A1) : AV := A1.rec .undef (fun a0 a1 a2 a3 a4 a5 a6 a7 a8 a9 aa ab ac ad ae af => ae) x
def A1.gf (x : A1) : AV := A1.rec .undef (fun a0 a1 a2 a3 a4 a5 a6 a7 a8 a9 aa ab ac ad ae af => af) x
def A1.get (d : H) : A1 → AV := H.rec (motive := fun _ => A1 → AV) A1.g0 A1.g1 A1.g2 A1.g3 A1.g4 A1.g5 A1.g6 A1.g7 A1.g8 A1.g9 A1.ga A1.gb A1.gc A1.gd A1.ge A1.gf d
def A1.s0 (v : AV) (x : A1) : A1 := A1.rec (motive := fun _ => AV → A1) (fun v => .mk v .undef .undef .undef .undef .undef .undef .undef .undef .undef .undef .undef .undef .undef .undef .undef) (fun a0 a1 a2 a3 a4 a5 a6 a7 a8 a9 aa ab ac ad ae af => fun v => .mk v a1 a2 a3 a4 a5 a6 a7 a8 a9 aa ab ac ad ae af) x v
def A1.s1 (v : AV) (x : A1) : A1 := A1.rec (motive := fun _ => AV → A1) (fun v => .mk .undef v .undef .undef .undef .undef .undef .undef .undef .undef .undef .undef .undef .undef .undef .undef) (fun a0 a1 a2 a3 a4 a5 a6 a7 a8 a9 aa ab ac ad ae af => fun v => .mk a0 v a2 a3 a4 a5 a6 a7 a8 a9 aa ab ac ad ae af) x v
def A1.s2 (v : AV) (x : A1) : A1 := A1.rec (motive := fun _ => AV → A1) (fun v => .mk .undef .undef v .undef .undef .undef .undef .undef .undef .undef .undef .undef .undef .undef .undef .undef) (fun a0 a1 a2 a3 a4 a5 a6 a7 a8 a9 aa ab ac ad ae af => fun v => .mk a0 a1 v a3 a4 a5 a6 a7 a8 a9 aa ab ac ad ae af) x v
def A1.s3 (v : AV) (x : A1) : A1 := A1.rec (motive := fun _ => AV → A1) (fun v => .mk .undef .undef .undef v .undef .undef .undef .undef .undef .undef .undef .undef .undef .undef .undef .undef) (fun a0 a1 a2 a3 a4 a5 a6 a7 a8 a9 aa ab ac ad ae af => fun v => .mk a0 a1 a2 v a4 a5 a6 a7 a8 a9 aa ab ac ad ae af) x v
def A1.s4 (v : AV) (x : A1) : A1 := A1.rec (motive := fun _ => AV → A1) (fun v => .mk .undef .undef .undef .undef v .undef .undef .undef .undef .undef .undef .undef .undef .undef .undef .undef) (fun a0 a1 a2 a3 a4 a5 a6 a7 a8 a9 aa ab ac ad ae af => fun v => .mk a0 a1 a2 a3 v a5 a6 a7 a8 a9 aa ab ac ad ae af) x v
def A1.s5 (v : AV) (x : A1) : A1 := A1.rec (motive := fun _ => AV → A1) (fun v => .mk .undef .undef .undef .undef .undef v .undef .undef .undef .undef .undef .undef .undef .undef .undef .undef) (fun a0 a1 a2 a3 a4 a5 a6 a7 a8 a9 aa ab ac ad ae af => fun v => .mk a0 a1 a2 a3 a4 v a6 a7 a8 a9 aa ab ac ad ae af) x v
def A1.s6 (v : AV) (x : A1) : A1 := A1.rec (motive := fun _ => AV → A1) (fun v => .mk .undef .undef .undef .undef .undef .undef v .undef .undef .undef .undef .undef .undef .undef .undef .undef) (fun a0 a1 a2 a3 a4 a5 a6 a7 a8 a9 aa ab ac ad ae af => fun v => .mk a0 a1 a2 a3 a4 a5 v a7 a8 a9 aa ab ac ad ae af) x v
def A1.s7 (v : AV) (x : A1) : A1 := A1.rec (motive := fun _ => AV → A1) (fun v => .mk .undef .undef .undef .undef .undef .undef .undef v .undef .undef .undef .undef .undef .undef .undef .undef) (fun a0 a1 a2 a3 a4 a5 a6 a7 a8 a9 aa ab ac ad ae af => fun v => .mk a0 a1 a2 a3 a4 a5 a6 v a8 a9 aa ab ac ad ae af) x v
def A1.s8 (v : AV) (x : A1) : A1 := A1.rec (motive := fun _ => AV → A1) (fun v => .mk .undef .undef .undef .undef .undef .undef .undef .undef v .undef .undef .undef .undef .undef .undef .undef) (fun a0 a1 a2 a3 a4 a5 a6 a7 a8 a9 aa ab ac ad ae af => fun v => .mk a0 a1 a2 a3 a4 a5 a6 a7 v a9 aa ab ac ad ae af) x v
def A1.s9 (v : AV) (x : A1) : A1 := A1.rec (motive := fun _ => AV → A1) (fun v => .mk .undef .undef .undef .undef .undef .undef .undef .undef .undef v .undef .undef .undef .undef .undef .undef) (fun a0 a1 a2 a3 a4 a5 a6 a7 a8 a9 aa ab ac ad ae af => fun v => .mk a0 a1 a2 a3 a4 a5 a6 a7 a8 v aa ab ac ad ae af) x v
def A1.sa (v : AV) (x : A1) : A1 := A1.rec (motive := fun _ => AV → A1) (fun v => .mk .undef .undef .undef .undef .undef .undef .undef .undef .undef .undef v .undef .undef .undef .undef .undef) (fun a0 a1 a2 a3 a4 a5 a6 a7 a8 a9 aa ab ac ad ae af => fun v => .mk a0 a1 a2 a3 a4 a5 a6 a7 a8 a9 v ab ac ad ae af) x v
def A1.sb (v : AV) (x : A1) : A1 := A1.rec (motive := fun _ => AV → A1) (fun v => .mk .undef .undef .undef .undef .undef .undef .undef .undef .undef .undef .undef v .undef .undef .undef .undef) (fun a0 a1 a2 a3 a4 a5 a6 a7 a8 a9 aa ab ac ad ae af => fun v => .mk a0 a1 a2 a3 a4 a5 a6 a7 a8 a9 aa v ac ad ae af) x v
def A1.sc (v : AV) (x : A1) : A1 := A1.rec (motive := fun _ => AV → A1) (fun v => .mk .undef .undef .undef .undef .undef .undef .undef .undef .undef .undef .undef .undef v .undef .undef .undef) (fun a0 a1 a2 a3 a4 a5 a6 a7 a8 a9 aa ab ac ad ae af => fun v => .mk a0 a1 a2 a3 a4 a5 a6 a7 a8 a9 aa ab v ad ae af) x v
def A1.sd (v : AV) (x : A1) : A1 := A1.rec (motive := fun _ => AV → A1) (fun v => .mk .undef .undef .undef .undef .undef .undef .undef .undef .undef .undef .undef .undef .undef v .undef .undef) (fun a0 a1 a2 a3 a4 a5 a6 a7 a8 a9 aa ab ac ad ae af => fun v => .mk a0 a1 a2 a3 a4 a5 a6 a7 a8 a9 aa ab ac v ae af) x v
def A1.se (v : AV) (x : A1) : A1 := A1.rec (motive := fun _ => AV → A1) (fun v => .mk .undef .undef .undef .undef .undef .undef .undef .undef .undef .undef .undef .undef .undef .undef v .undef) (fun a0 a1 a2 a3 a4 a5 a6 a7 a8 a9 aa ab ac ad ae af => fun v => .mk a0 a1 a2 a3 a4 a5 a6 a7 a8 a9 aa ab ac ad v af) x v
def A1.sf (v : AV) (x : A1) : A1 := A1.rec (motive := fun _ => AV → A1) (fun v => .mk .undef .undef .undef .undef .undef .undef .undef .undef .undef .undef .undef .undef .undef .undef .undef v) (fun a0 a1 a2 a3 a4 a5 a6 a7 a8 a9 aa ab ac ad ae af => fun v => .mk a0 a1 a2 a3 a4 a5 a6 a7 a8 a9 aa ab ac ad ae v) x v
def A1.set (d : H) : AV → A1 → A1 := H.rec (motive := fun _ => AV → A1 → A1) A1.s0 A1.s1 A1.s2 A1.s3 A1.s4 A1.s5 A1.s6 A1.s7 A1.s8 A1.s9 A1.sa A1.sb A1.sc A1.sd A1.se A1.sf d
inductive A2 where
 | nil
 | mk (a0 a1 a2 a3 a4 a5 a6 a7 a8 a9 aa ab ac ad ae af : A1)
def A2.g0 (x : A2) : A1 := A2.rec .nil (fun a0 a1 a2 a3 a4 a5 a6 a7 a8 a9 aa ab ac ad ae af => a0) x
def A2.g1 (x : A2) : A1 := A2.rec .nil (fun a0 a1 a2 a3 a4 a5 a6 a7 a8 a9 aa ab ac ad ae af => a1) x
def A2.g2 (x : A2) : A1 := A2.rec .nil (fun a0 a1 a2 a3 a4 a5 a6 a7 a8 a9 aa ab ac ad ae af => a2) x
def A2.g3 (x : A2) : A1 := A2.rec .nil (fun a0 a1 a2 a3 a4 a5 a6 a7 a8 a9 aa ab ac ad ae af => a3) x
def A2.g4 (x : A2) : A1 := A2.rec .nil (fun a0 a1 a2 a3 a4 a5 a6 a7 a8 a9 aa ab ac ad ae af => a4) x
def A2.g5 (x : A2) : A1 := A2.rec .nil (fun a0 a1 a2 a3 a4 a5 a6 a7 a8 a9 aa ab ac ad ae af => a5) x
def A2.g6 (x : A2) : A1 := A2.rec .nil (fun a0 a1 a2 a3 a4 a5 a6 a7 a8 a9 aa ab ac ad ae af => a6) x
def A2.g7 (x : A2) : A1 := A2.rec .nil (fun a0 a1 a2 a3 a4 a5 a6 a7 a8 a9 aa ab ac ad ae af => a7) x
def A2.g8 (x : A2) : A1 := A2.rec .nil (fun a0 a1 a2 a3 a4 a5 a6 a7 a8 a9 aa ab ac ad ae af => a8) x
def A2.g9 (x : A2) : A1 := A2.rec .nil (fun a0 a1 a2 a3 a4 a5 a6 a7 a8 a9 aa ab ac ad ae af => a9) x
def A2.ga (x : A2) : A1 := A2.rec .nil (fun a0 a1 a2 a3 a4 a5 a6 a7 a8 a9 aa ab ac ad ae af => aa) x
def A2.gb (x : A2) : A1 := A2.rec .nil (fun a0 a1 a2 a3 a4 a5 a6 a7 a8 a9 aa ab ac ad ae af => ab) x
def A2.gc (x : A2) : A1 := A2.rec .nil (fun a0 a1 a2 a3 a4 a5 a6 a7 a8 a9 aa ab ac ad ae af => ac) x
def A2.gd (x : A2) : A1 := A2.rec .nil (fun a0 a1 a2 a3 a4 a5 a6 a7 a8 a9 aa ab ac ad ae af => ad) x
def A2.ge (x : A2) : A1 := A2.rec .nil (fun a0 a1 a2 a3 a4 a5 a6 a7 a8 a9 aa ab ac ad ae af => ae) x
def A2.gf (x : A2) : A1 := A2.rec .nil (fun a0 a1 a2 a3 a4 a5 a6 a7 a8 a9 aa ab ac ad ae af => af) x
def A2.get (d : H) : A2 → A1 := H.rec (motive := fun _ => A2 → A1) A2.g0 A2.g1 A2.g2 A2.g3 A2.g4 A2.g5 A2.g6 A2.g7 A2.g8 A2.g9 A2.ga A2.gb A2.gc A2.gd A2.ge A2.gf d
def A2.s0 (v : A1) (x : A2) : A2 := A2.rec (motive := fun _ => A1 → A2) (fun v => .mk v .nil .nil .nil .nil .nil .nil .nil .nil .nil .nil .nil .nil .nil .nil .nil) (fun a0 a1 a2 a3 a4 a5 a6 a7 a8 a9 aa ab ac ad ae af => fun v => .mk v a1 a2 a3 a4 a5 a6 a7 a8 a9 aa ab ac ad ae af) x v
def A2.s1 (v : A1) (x : A2) : A2 := A2.rec (motive := fun _ => A1 → A2) (fun v => .mk .nil v .nil .nil .nil .nil .nil .nil .nil .nil .nil .nil .nil .nil .nil .nil) (fun a0 a1 a2 a3 a4 a5 a6 a7 a8 a9 aa ab ac ad ae af => fun v => .mk a0 v a2 a3 a4 a5 a6 a7 a8 a9 aa ab ac ad ae af) x v
def A2.s2 (v : A1) (x : A2) : A2 := A2.rec (motive := fun _ => A1 → A2) (fun v => .mk .nil .nil v .nil .nil .nil .nil .nil .nil .nil .nil .nil .nil .nil .nil .nil) (fun a0 a1 a2 a3 a4 a5 a6 a7 a8 a9 aa ab ac ad ae af => fun v => .mk a0 a1 v a3 a4 a5 a6 a7 a8 a9 aa ab ac ad ae af) x v
def A2.s3 (v : A1) (x : A2) : A2 := A2.rec (motive := fun _ => A1 → A2) (fun v => .mk .nil .nil .nil v .nil .nil .nil .nil .nil .nil .nil .nil .nil .nil .nil .nil) (fun a0 a1 a2 a3 a4 a5 a6 a7 a8 a9 aa ab ac ad ae af => fun v => .mk a0 a1 a2 v a4 a5 a6 a7 a8 a9 aa ab ac ad ae af) x v
def A2.s4 (v : A1) (x : A2) : A2 := A2.rec (motive := fun _ => A1 → A2) (fun v => .mk .nil .nil .nil .nil v .nil .nil .nil .nil .nil .nil .nil .nil .nil .nil .nil) (fun a0 a1 a2 a3 a4 a5 a6 a7 a8 a9 aa ab ac ad ae af => fun v => .mk a0 a1 a2 a3 v a5 a6 a7 a8 a9 aa ab ac ad ae af) x v
def A2.s5 (v : A1) (x : A2) : A2 := A2.rec (motive := fun _ => A1 → A2) (fun v => .mk .nil .nil .nil .nil .nil v .nil .nil .nil .nil .nil .nil .nil .nil .nil .nil) (fun a0 a1 a2 a3 a4 a5 a6 a7 a8 a9 aa ab ac ad ae af => fun v => .mk a0 a1 a2 a3 a4 v a6 a7 a8 a9 aa ab ac ad ae af) x v
def A2.s6 (v : A1) (x : A2) : A2 := A2.rec (motive := fun _ => A1 → A2) (fun v => .mk .nil .nil .nil .nil .nil .nil v .nil .nil .nil .nil .nil .nil .nil .nil .nil) (fun a0 a1 a2 a3 a4 a5 a6 a7 a8 a9 aa ab ac ad ae af => fun v => .mk a0 a1 a2 a3 a4 a5 v a7 a8 a9 aa ab ac ad ae af) x v
def A2.s7 (v : A1) (x : A2) : A2 := A2.rec (motive := fun _ => A1 → A2) (fun v => .mk .nil .nil .nil .nil .nil .nil .nil v .nil .nil .nil .nil .nil .nil .nil .nil) (fun a0 a1 a2 a3 a4 a5 a6 a7 a8 a9 aa ab ac ad ae af => fun v => .mk a0 a1 a2 a3 a4 a5 a6 v a8 a9 aa ab ac ad ae af) x v
def A2.s8 (v : A1) (x : A2) : A2 := A2.rec (motive := fun _ => A1 → A2) (fun v => .mk .nil .nil .nil .nil .nil .nil .nil .nil v .nil .nil .nil .nil .nil .nil .nil) (fun a0 a1 a2 a3 a4 a5 a6 a7 a8 a9 aa ab ac ad ae af => fun v => .mk a0 a1 a2 a3 a4 a5 a6 a7 v a9 aa ab ac ad ae af) x v
def A2.s9 (v : A1) (x : A2) : A2 := A2.rec (motive := fun _ => A1 → A2) (fun v => .mk .nil .nil .nil .nil .nil .nil .nil .nil .nil v .nil .nil .nil .nil .nil .nil) (fun a0 a1 a2 a3 a4 a5 a6 a7 a8 a9 aa ab ac ad ae af => fun v => .mk a0 a1 a2 a3 a4 a5 a6 a7 a8 v aa ab ac ad ae af) x v
def A2.sa (v : A1) (x : A2) : A2 := A2.rec (motive := fun _ => A1 → A2) (fun v => .mk .nil .nil .nil .nil .nil .nil .nil .nil .nil .nil v .nil .nil .nil .nil .nil) (fun a0 a1 a2 a3 a4 a5 a6 a7 a8 a9 aa ab ac ad ae af => fun v => .mk a0 a1 a2 a3 a4 a5 a6 a7 a8 a9 v ab ac ad ae af) x v
def A2.sb (v : A1) (x : A2) : A2 := A2.rec (motive := fun _ => A1 → A2) (fun v => .mk .nil .nil .nil .nil .nil .nil .nil .nil .nil .nil .nil v .nil .nil .nil .nil) (fun a0 a1 a2 a3 a4 a5 a6 a7 a8 a9 aa ab ac ad ae af => fun v => .mk a0 a1 a2 a3 a4 a5 a6 a7 a8 a9 aa v ac ad ae af) x v
def A2.sc (v : A1) (x : A2) : A2 := A2.rec (motive := fun _ => A1 → A2) (fun v => .mk .nil .nil .nil .nil .nil .nil .nil .nil .nil .nil .nil .nil v .nil .nil .nil) (fun a0 a1 a2 a3 a4 a5 a6 a7 a8 a9 aa ab ac ad ae af => fun v => .mk a0 a1 a2 a3 a4 a5 a6 a7 a8 a9 aa ab v ad ae af) x v
def A2.sd (v : A1) (x : A2) : A2 := A2.rec (motive := fun _ => A1 → A2) (fun v => .mk .nil .nil .nil .nil .nil .nil .nil .nil .nil .nil .nil .nil .nil v .nil .nil) (fun a0 a1 a2 a3 a4 a5 a6 a7 a8 a9 aa ab ac ad ae af => fun v => .mk a0 a1 a2 a3 a4 a5 a6 a7 a8 a9 aa ab ac v ae af) x v
def A2.se (v : A1) (x : A2) : A2 := A2.rec (motive := fun _ => A1 → A2) (fun v => .mk .nil .nil .nil .nil .nil .nil .nil .nil .nil .nil .nil .nil .nil .nil v .nil) (fun a0 a1 a2 a3 a4 a5 a6 a7 a8 a9 aa ab ac ad ae af => fun v => .mk a0 a1 a2 a3 a4 a5 a6 a7 a8 a9 aa ab ac ad v af) x v
def A2.sf (v : A1) (x : A2) : A2 := A2.rec (motive := fun _ => A1 → A2) (fun v => .mk .nil .nil .nil .nil .nil .nil .nil .nil .nil .nil .nil .nil .nil .nil .nil v) (fun a0 a1 a2 a3 a4 a5 a6 a7 a8 a9 aa ab ac ad ae af => fun v => .mk a0 a1 a2 a3 a4 a5 a6 a7 a8 a9 aa ab ac ad ae v) x v
def A2.set (d : H) : A1 → A2 → A2 := H.rec (motive := fun _ => A1 → A2 → A2) A2.s0 A2.s1 A2.s2 A2.s3 A2.s4 A2.s5 A2.s6 A2.s7 A2.s8 A2.s9 A2.sa A2.sb A2.sc A2.sd A2.se A2.sf d
inductive A3 where
 | nil
 | mk (a0 a1 a2 a3 a4 a5 a6 a7 a8 a9 aa ab ac ad ae af : A2)
def A3.g0 (x : A3) : A2 := A3.rec .nil (fun a0 a1 a2 a3 a4 a5 a6 a7 a8 a9 aa ab ac ad ae af => a0) x
def A3.g1 (x : A3) : A2 := A3.rec .nil (fun a0 a1 a2 a3 a4 a5 a6 a7 a8 a9 aa ab ac ad ae af => a1) x
def A3.g2 (x : A3) : A2 := A3.rec .nil (fun a0 a1 a2 a3 a4 a5 a6 a7 a8 a9 aa ab ac ad ae af => a2) x
def A3.g3 (x : A3) : A2 := A3.rec .nil (fun a0 a1 a2 a3 a4 a5 a6 a7 a8 a9 aa ab ac ad ae af => a3) x
def A3.g4 (x : A3) : A2 := A3.rec .nil (fun a0 a1 a2 a3 a4 a5 a6 a7 a8 a9 aa ab ac ad ae af => a4) x
def A3.g5 (x : A3) : A2 := A3.rec .nil (fun a0 a1 a2 a3 a4 a5 a6 a7 a8 a9 aa ab ac ad ae af => a5) x
def A3.g6 (x : A3) : A2 := A3.rec .nil (fun a0 a1 a2 a3 a4 a5 a6 a7 a8 a9 aa ab ac ad ae af => a6) x
def A3.g7 (x : A3) : A2 := A3.rec .nil (fun a0 a1 a2 a3 a4 a5 a6 a7 a8 a9 aa ab ac ad ae af => a7) x
def A3.g8 (x : A3) : A2 := A3.rec .nil (fun a0 a1 a2 a3 a4 a5 a6 a7 a8 a9 aa ab ac ad ae af => a8) x
def A3.g9 (x : A3) : A2 := A3.rec .nil (fun a0 a1 a2 a3 a4 a5 a6 a7 a8 a9 aa ab ac ad ae af => a9) x
def A3.ga (x : A3) : A2 := A3.rec .nil (fun a0 a1 a2 a3 a4 a5 a6 a7 a8 a9 aa ab ac ad ae af => aa) x
def A3.gb (x : A3) : A2 := A3.rec .nil (fun a0 a1 a2 a3 a4 a5 a6 a7 a8 a9 aa ab ac ad ae af => ab) x
def A3.gc (x : A3) : A2 := A3.rec .nil (fun a0 a1 a2 a3 a4 a5 a6 a7 a8 a9 aa ab ac ad ae af => ac) x
def A3.gd (x : A3) : A2 := A3.rec .nil (fun a0 a1 a2 a3 a4 a5 a6 a7 a8 a9 aa ab ac ad ae af => ad) x
def A3.ge (x : A3) : A2 := A3.rec .nil (fun a0 a1 a2 a3 a4 a5 a6 a7 a8 a9 aa ab ac ad ae af => ae) x
def A3.gf (x : A3) : A2 := A3.rec .nil (fun a0 a1 a2 a3 a4 a5 a6 a7 a8 a9 aa ab ac ad ae af => af) x
def A3.get (d : H) : A3 → A2 := H.rec (motive := fun _ => A3 → A2) A3.g0 A3.g1 A3.g2 A3.g3 A3.g4 A3.g5 A3.g6 A3.g7 A3.g8 A3.g9 A3.ga A3.gb A3.gc A3.gd A3.ge A3.gf d
def A3.s0 (v : A2) (x : A3) : A3 := A3.rec (motive := fun _ => A2 → A3) (fun v => .mk v .nil .nil .nil .nil .nil .nil .nil .nil .nil .nil .nil .nil .nil .nil .nil) (fun a0 a1 a2 a3 a4 a5 a6 a7 a8 a9 aa ab ac ad ae af => fun v => .mk v a1 a2 a3 a4 a5 a6 a7 a8 a9 aa ab ac ad ae af) x v
def A3.s1 (v : A2) (x : A3) : A3 := A3.rec (motive := fun _ => A2 → A3) (fun v => .mk .nil v .nil .nil .nil .nil .nil .nil .nil .nil .nil .nil .nil .nil .nil .nil) (fun a0 a1 a2 a3 a4 a5 a6 a7 a8 a9 aa ab ac ad ae af => fun v => .mk a0 v a2 a3 a4 a5 a6 a7 a8 a9 aa ab ac ad ae af) x v
def A3.s2 (v : A2) (x : A3) : A3 := A3.rec (motive := fun _ => A2 → A3) (fun v => .mk .nil .nil v .nil .nil .nil .nil .nil .nil .nil .nil .nil .nil .nil .nil .nil) (fun a0 a1 a2 a3 a4 a5 a6 a7 a8 a9 aa ab ac ad ae af => fun v => .mk a0 a1 v a3 a4 a5 a6 a7 a8 a9 aa ab ac ad ae af) x v
def A3.s3 (v : A2) (x : A3) : A3 := A3.rec (motive := fun _ => A2 → A3) (fun v => .mk .nil .nil .nil v .nil .nil .nil .nil .nil .nil .nil .nil .nil .nil .nil .nil) (fun a0 a1 a2 a3 a4 a5 a6 a7 a8 a9 aa ab ac ad ae af => fun v => .mk a0 a1 a2 v a4 a5 a6 a7 a8 a9 aa ab ac ad ae af) x v
def A3.s4 (v : A2) (x : A3) : A3 := A3.rec (motive := fun _ => A2 → A3) (fun v => .mk .nil .nil .nil .nil v .nil .nil .nil .nil .nil .nil .nil .nil .nil .nil .nil) (fun a0 a1 a2 a3 a4 a5 a6 a7 a8 a9 aa ab ac ad ae af => fun v => .mk a0 a1 a2 a3 v a5 a6 a7 a8 a9 aa ab ac ad ae af) x v
def A3.s5 (v : A2) (x : A3) : A3 := A3.rec (motive := fun _ => A2 → A3) (fun v => .mk .nil .nil .nil .nil .nil v .nil .nil .nil .nil .nil .nil .nil .nil .nil .nil) (fun a0 a1 a2 a3 a4 a5 a6 a7 a8 a9 aa ab ac ad ae af => fun v => .mk a0 a1 a2 a3 a4 v a6 a7 a8 a9 aa ab ac ad ae af) x v
def A3.s6 (v : A2) (x : A3) : A3 := A3.rec (motive := fun _ => A2 → A3) (fun v => .mk .nil .nil .nil .nil .nil .nil v .nil .nil .nil .nil .nil .nil .nil .nil .nil) (fun a0 a1 a2 a3 a4 a5 a6 a7 a8 a9 aa ab ac ad ae af => fun v => .mk a0 a1 a2 a3 a4 a5 v a7 a8 a9 aa ab ac ad ae af) x v
def A3.s7 (v : A2) (x : A3) : A3 := A3.rec (motive := fun _ => A2 → A3) (fun v => .mk .nil .nil .nil .nil .nil .nil .nil v .nil .nil .nil .nil .nil .nil .nil .nil) (fun a0 a1 a2 a3 a4 a5 a6 a7 a8 a9 aa ab ac ad ae af => fun v => .mk a0 a1 a2 a3 a4 a5 a6 v a8 a9 aa ab ac ad ae af) x v
def A3.s8 (v : A2) (x : A3) : A3 := A3.rec (motive := fun _ => A2 → A3) (fun v => .mk .nil .nil .nil .nil .nil .nil .nil .nil v .nil .nil .nil .nil .nil .nil .nil) (fun a0 a1 a2 a3 a4 a5 a6 a7 a8 a9 aa ab ac ad ae af => fun v => .mk a0 a1 a2 a3 a4 a5 a6 a7 v a9 aa ab ac ad ae af) x v
def A3.s9 (v : A2) (x : A3) : A3 := A3.rec (motive := fun _ => A2 → A3) (fun v => .mk .nil .nil .nil .nil .nil .nil .nil .nil .nil v .nil .nil .nil .nil .nil .nil) (fun a0 a1 a2 a3 a4 a5 a6 a7 a8 a9 aa ab ac ad ae af => fun v => .mk a0 a1 a2 a3 a4 a5 a6 a7 a8 v aa ab ac ad ae af) x v
def A3.sa (v : A2) (x : A3) : A3 := A3.rec (motive := fun _ => A2 → A3) (fun v => .mk .nil .nil .nil .nil .nil .nil .nil .nil .nil .nil v .nil .nil .nil .nil .nil) (fun a0 a1 a2 a3 a4 a5 a6 a7 a8 a9 aa ab ac ad ae af => fun v => .mk a0 a1 a2 a3 a4 a5 a6 a7 a8 a9 v ab ac ad ae af) x v
def A3.sb (v : A2) (x : A3) : A3 := A3.rec (motive := fun _ => A2 → A3) (fun v => .mk .nil .nil .nil .nil .nil .nil .nil .nil .nil .nil .nil v .nil .nil .nil .nil) (fun a0 a1 a2 a3 a4 a5 a6 a7 a8 a9 aa ab ac ad ae af => fun v => .mk a0 a1 a2 a3 a4 a5 a6 a7 a8 a9 aa v ac ad ae af) x v
def A3.sc (v : A2) (x : A3) : A3 := A3.rec (motive := fun _ => A2 → A3) (fun v => .mk .nil .nil .nil .nil .nil .nil .nil .nil .nil .nil .nil .nil v .nil .nil .nil) (fun a0 a1 a2 a3 a4 a5 a6 a7 a8 a9 aa ab ac ad ae af => fun v => .mk a0 a1 a2 a3 a4 a5 a6 a7 a8 a9 aa ab v ad ae af) x v
def A3.sd (v : A2) (x : A3) : A3 := A3.rec (motive := fun _ => A2 → A3) (fun v => .mk .nil .nil .nil .nil .nil .nil .nil .nil .nil .nil .nil .nil .nil v .nil .nil) (fun a0 a1 a2 a3 a4 a5 a6 a7 a8 a9 aa ab ac ad ae af => fun v => .mk a0 a1 a2 a3 a4 a5 a6 a7 a8 a9 aa ab ac v ae af) x v
def A3.se (v : A2) (x : A3) : A3 := A3.rec (motive := fun _ => A2 → A3) (fun v => .mk .nil .nil .nil .nil .nil .nil .nil .nil .nil .nil .nil .nil .nil .nil v .nil) (fun a0 a1 a2 a3 a4 a5 a6 a7 a8 a9 aa ab ac ad ae af => fun v => .mk a0 a1 a2 a3 a4 a5 a6 a7 a8 a9 aa ab ac ad v af) x v
def A3.sf (v : A2) (x : A3) : A3 := A3.rec (motive := fun _ => A2 → A3) (fun v => .mk .nil .nil .nil .nil .nil .nil .nil .nil .nil .nil .nil .nil .nil .nil .nil v) (fun a0 a1 a2 a3 a4 a5 a6 a7 a8 a9 aa ab ac ad ae af => fun v => .mk a0 a1 a2 a3 a4 a5 a6 a7 a8 a9 aa ab ac ad ae v) x v
def A3.set (d : H) : A2 → A3 → A3 := H.rec (motive := fun _ => A2 → A3 → A3) A3.s0 A3.s1 A3.s2 A3.s3 A3.s4 A3.s5 A3.s6 A3.s7 A3.s8 A3.s9 A3.sa A3.sb A3.sc A3.sd A3.se A3.sf d
inductive A4 where
 | nil
 | mk (a0 a1 a2 a3 a4 a5 a6 a7 a8 a9 aa ab ac ad ae af : A3)
def A4.g0 (x : A4) : A3 := A4.rec .nil (fun a0 a1 a2 a3 a4 a5 a6 a7 a8 a9 aa ab ac ad ae af => a0) x
def A4.g1 (x : A4) : A3 := A4.rec .nil (fun a0 a1 a2 a3 a4 a5 a6 a7 a8 a9 aa ab ac ad ae af => a1) x
def A4.g2 (x : A4) : A3 := A4.rec .nil (fun a0 a1 a2 a3 a4 a5 a6 a7 a8 a9 aa ab ac ad ae af => a2) x
def A4.g3 (x : A4) : A3 := A4.rec .nil (fun a0 a1 a2 a3 a4 a5 a6 a7 a8 a9 aa ab ac ad ae af => a3) x
def A4.g4 (x : A4) : A3 := A4.rec .nil (fun a0 a1 a2 a3 a4 a5 a6 a7 a8 a9 aa ab ac ad ae af => a4) x
def A4.g5 (x : A4) : A3 := A4.rec .nil (fun a0 a1 a2 a3 a4 a5 a6 a7 a8 a9 aa ab ac ad ae af => a5) x
def A4.g6 (x : A4) : A3 := A4.rec .nil (fun a0 a1 a2 a3 a4 a5 a6 a7 a8 a9 aa ab ac ad ae af => a6) x
def A4.g7 (x : A4) : A3 := A4.rec .nil (fun a0 a1 a2 a3 a4 a5 a6 a7 a8 a9 aa ab ac ad ae af => a7) x
def A4.g8 (x : A4) : A3 := A4.rec .nil (fun a0 a1 a2 a3 a4 a5 a6 a7 a8 a9 aa ab ac ad ae af => a8) x
def A4.g9 (x : A4) : A3 := A4.rec .nil (fun a0 a1 a2 a3 a4 a5 a6 a7 a8 a9 aa ab ac ad ae af => a9) x
def A4.ga (x : A4) : A3 := A4.rec .nil (fun a0 a1 a2 a3 a4 a5 a6 a7 a8 a9 aa ab ac ad ae af => aa) x
def A4.gb (x : A4) : A3 := A4.rec .nil (fun a0 a1 a2 a3 a4 a5 a6 a7 a8 a9 aa ab ac ad ae af => ab) x
def A4.gc (x : A4) : A3 := A4.rec .nil (fun a0 a1 a2 a3 a4 a5 a6 a7 a8 a9 aa ab ac ad ae af => ac) x
def A4.gd (x : A4) : A3 := A4.rec .nil (fun a0 a1 a2 a3 a4 a5 a6 a7 a8 a9 aa ab ac ad ae af => ad) x
def A4.ge (x : A4) : A3 := A4.rec .nil (fun a0 a1 a2 a3 a4 a5 a6 a7 a8 a9 aa ab ac ad ae af => ae) x
def A4.gf (x : A4) : A3 := A4.rec .nil (fun a0 a1 a2 a3 a4 a5 a6 a7 a8 a9 aa ab ac ad ae af => af) x
def A4.get (d : H) : A4 → A3 := H.rec (motive := fun _ => A4 → A3) A4.g0 A4.g1 A4.g2 A4.g3 A4.g4 A4.g5 A4.g6 A4.g7 A4.g8 A4.g9 A4.ga A4.gb A4.gc A4.gd A4.ge A4.gf d
def A4.s0 (v : A3) (x : A4) : A4 := A4.rec (motive := fun _ => A3 → A4) (fun v => .mk v .nil .nil .nil .nil .nil .nil .nil .nil .nil .nil .nil .nil .nil .nil .nil) (fun a0 a1 a2 a3 a4 a5 a6 a7 a8 a9 aa ab ac ad ae af => fun v => .mk v a1 a2 a3 a4 a5 a6 a7 a8 a9 aa ab ac ad ae af) x v
def A4.s1 (v : A3) (x : A4) : A4 := A4.rec (motive := fun _ => A3 → A4) (fun v => .mk .nil v .nil .nil .nil .nil .nil .nil .nil .nil .nil .nil .nil .nil .nil .nil) (fun a0 a1 a2 a3 a4 a5 a6 a7 a8 a9 aa ab ac ad ae af => fun v => .mk a0 v a2 a3 a4 a5 a6 a7 a8 a9 aa ab ac ad ae af) x v
def A4.s2 (v : A3) (x : A4) : A4 := A4.rec (motive := fun _ => A3 → A4) (fun v => .mk .nil .nil v .nil .nil .nil .nil .nil .nil .nil .nil .nil .nil .nil .nil .nil) (fun a0 a1 a2 a3 a4 a5 a6 a7 a8 a9 aa ab ac ad ae af => fun v => .mk a0 a1 v a3 a4 a5 a6 a7 a8 a9 aa ab ac ad ae af) x v
def A4.s3 (v : A3) (x : A4) : A4 := A4.rec (motive := fun _ => A3 → A4) (fun v => .mk .nil .nil .nil v .nil .nil .nil .nil .nil .nil .nil .nil .nil .nil .nil .nil) (fun a0 a1 a2 a3 a4 a5 a6 a7 a8 a9 aa ab ac ad ae af => fun v => .mk a0 a1 a2 v a4 a5 a6 a7 a8 a9 aa ab ac ad ae af) x v
def A4.s4 (v : A3) (x : A4) : A4 := A4.rec (motive := fun _ => A3 → A4) (fun v => .mk .nil .nil .nil .nil v .nil .nil .nil .nil .nil .nil .nil .nil .nil .nil .nil) (fun a0 a1 a2 a3 a4 a5 a6 a7 a8 a9 aa ab ac ad ae af => fun v => .mk a0 a1 a2 a3 v a5 a6 a7 a8 a9 aa ab ac ad ae af) x v
def A4.s5 (v : A3) (x : A4) : A4 := A4.rec (motive := fun _ => A3 → A4) (fun v => .mk .nil .nil .nil .nil .nil v .nil .nil .nil .nil .nil .nil .nil .nil .nil .nil) (fun a0 a1 a2 a3 a4 a5 a6 a7 a8 a9 aa ab ac ad ae af => fun v => .mk a0 a1 a2 a3 a4 v a6 a7 a8 a9 aa ab ac ad ae af) x v
def A4.s6 (v : A3) (x : A4) : A4 := A4.rec (motive := fun _ => A3 → A4) (fun v => .mk .nil .nil .nil .nil .nil .nil v .nil .nil .nil .nil .nil .nil .nil .nil .nil) (fun a0 a1 a2 a3 a4 a5 a6 a7 a8 a9 aa ab ac ad ae af => fun v => .mk a0 a1 a2 a3 a4 a5 v a7 a8 a9 aa ab ac ad ae af) x v
def A4.s7 (v : A3) (x : A4) : A4 := A4.rec (motive := fun _ => A3 → A4) (fun v => .mk .nil .nil .nil .nil .nil .nil .nil v .nil .nil .nil .nil .nil .nil .nil .nil) (fun a0 a1 a2 a3 a4 a5 a6 a7 a8 a9 aa ab ac ad ae af => fun v => .mk a0 a1 a2 a3 a4 a5 a6 v a8 a9 aa ab ac ad ae af) x v
def A4.s8 (v : A3) (x : A4) : A4 := A4.rec (motive := fun _ => A3 → A4) (fun v => .mk .nil .nil .nil .nil .nil .nil .nil .nil v .nil .nil .nil .nil .nil .nil .nil) (fun a0 a1 a2 a3 a4 a5 a6 a7 a8 a9 aa ab ac ad ae af => fun v => .mk a0 a1 a2 a3 a4 a5 a6 a7 v a9 aa ab ac ad ae af) x v
def A4.s9 (v : A3) (x : A4) : A4 := A4.rec (motive := fun _ => A3 → A4) (fun v => .mk .nil .nil .nil .nil .nil .nil .nil .nil .nil v .nil .nil .nil .nil .nil .nil) (fun a0 a1 a2 a3 a4 a5 a6 a7 a8 a9 aa ab ac ad ae af => fun v => .mk a0 a1 a2 a3 a4 a5 a6 a7 a8 v aa ab ac ad ae af) x v
def A4.sa (v : A3) (x : A4) : A4 := A4.rec (motive := fun _ => A3 → A4) (fun v => .mk .nil .nil .nil .nil .nil .nil .nil .nil .nil .nil v .nil .nil .nil .nil .nil) (fun a0 a1 a2 a3 a4 a5 a6 a7 a8 a9 aa ab ac ad ae af => fun v => .mk a0 a1 a2 a3 a4 a5 a6 a7 a8 a9 v ab ac ad ae af) x v
def A4.sb (v : A3) (x : A4) : A4 := A4.rec (motive := fun _ => A3 → A4) (fun v => .mk .nil .nil .nil .nil .nil .nil .nil .nil .nil .nil .nil v .nil .nil .nil .nil) (fun a0 a1 a2 a3 a4 a5 a6 a7 a8 a9 aa ab ac ad ae af => fun v => .mk a0 a1 a2 a3 a4 a5 a6 a7 a8 a9 aa v ac ad ae af) x v
def A4.sc (v : A3) (x : A4) : A4 := A4.rec (motive := fun _ => A3 → A4) (fun v => .mk .nil .nil .nil .nil .nil .nil .nil .nil .nil .nil .nil .nil v .nil .nil .nil) (fun a0 a1 a2 a3 a4 a5 a6 a7 a8 a9 aa ab ac ad ae af => fun v => .mk a0 a1 a2 a3 a4 a5 a6 a7 a8 a9 aa ab v ad ae af) x v
def A4.sd (v : A3) (x : A4) : A4 := A4.rec (motive := fun _ => A3 → A4) (fun v => .mk .nil .nil .nil .nil .nil .nil .nil .nil .nil .nil .nil .nil .nil v .nil .nil) (fun a0 a1 a2 a3 a4 a5 a6 a7 a8 a9 aa ab ac ad ae af => fun v => .mk a0 a1 a2 a3 a4 a5 a6 a7 a8 a9 aa ab ac v ae af) x v
def A4.se (v : A3) (x : A4) : A4 := A4.rec (motive := fun _ => A3 → A4) (fun v => .mk .nil .nil .nil .nil .nil .nil .nil .nil .nil .nil .nil .nil .nil .nil v .nil) (fun a0 a1 a2 a3 a4 a5 a6 a7 a8 a9 aa ab ac ad ae af => fun v => .mk a0 a1 a2 a3 a4 a5 a6 a7 a8 a9 aa ab ac ad v af) x v
def A4.sf (v : A3) (x : A4) : A4 := A4.rec (motive := fun _ => A3 → A4) (fun v => .mk .nil .nil .nil .nil .nil .nil .nil .nil .nil .nil .nil .nil .nil .nil .nil v) (fun a0 a1 a2 a3 a4 a5 a6 a7 a8 a9 aa ab ac ad ae af => fun v => .mk a0 a1 a2 a3 a4 a5 a6 a7 a8 a9 aa ab ac ad ae v) x v
def A4.set (d : H) : A3 → A4 → A4 := H.rec (motive := fun _ => A3 → A4 → A4) A4.s0 A4.s1 A4.s2 A4.s3 A4.s4 A4.s5 A4.s6 A4.s7 A4.s8 A4.s9 A4.sa A4.sb A4.sc A4.sd A4.se A4.sf d
inductive Cl where
 | k1 (x : A1)
 | k2 (x : A2)
 | k3 (x : A3)
 | k4 (x : A4)
 | kf (m : Nat) (f : Nat → AV)
inductive Fl where
 | plain
 | mark
 | An
 | ro
inductive Obj where
 | none
 | dead
 | cells (el n : Nat) (ex : Bool) (fl : Fl) (c : Cl)
 | map (l : List KV) (clock : Nat)
 | Ni (s : List Nat) (pos : Nat)
 | Nj (m : P4) (since : Nat) (seen : List Nat) (last : Nat)
 | Nk
inductive O1 where
 | nil
 | mk (a0 a1 a2 a3 a4 a5 a6 a7 a8 a9 aa ab ac ad ae af : Obj)
def O1.g0 (x : O1) : Obj := O1.rec .none (fun a0 a1 a2 a3 a4 a5 a6 a7 a8 a9 aa ab ac ad ae af => a0) x
def O1.g1 (x : O1) : Obj := O1.rec .none (fun a0 a1 a2 a3 a4 a5 a6 a7 a8 a9 aa ab ac ad ae af => a1) x
def O1.g2 (x : O1) : Obj := O1.rec .none (fun a0 a1 a2 a3 a4 a5 a6 a7 a8 a9 aa ab ac ad ae af => a2) x
def O1.g3 (x : O1) : Obj := O1.rec .none (fun a0 a1 a2 a3 a4 a5 a6 a7 a8 a9 aa ab ac ad ae af => a3) x
def O1.g4 (x : O1) : Obj := O1.rec .none (fun a0 a1 a2 a3 a4 a5 a6 a7 a8 a9 aa ab ac ad ae af => a4) x
def O1.g5 (x : O1) : Obj := O1.rec .none (fun a0 a1 a2 a3 a4 a5 a6 a7 a8 a9 aa ab ac ad ae af => a5) x
def O1.g6 (x : O1) : Obj := O1.rec .none (fun a0 a1 a2 a3 a4 a5 a6 a7 a8 a9 aa ab ac ad ae af => a6) x
def O1.g7 (x : O1) : Obj := O1.rec .none (fun a0 a1 a2 a3 a4 a5 a6 a7 a8 a9 aa ab ac ad ae af => a7) x
def O1.g8 (x : O1) : Obj := O1.rec .none (fun a0 a1 a2 a3 a4 a5 a6 a7 a8 a9 aa ab ac ad ae af => a8) x
def O1.g9 (x : O1) : Obj := O1.rec .none (fun a0 a1 a2 a3 a4 a5 a6 a7 a8 a9 aa ab ac ad ae af => a9) x
def O1.ga (x : O1) : Obj := O1.rec .none (fun a0 a1 a2 a3 a4 a5 a6 a7 a8 a9 aa ab ac ad ae af => aa) x
def O1.gb (x : O1) : Obj := O1.rec .none (fun a0 a1 a2 a3 a4 a5 a6 a7 a8 a9 aa ab ac ad ae af => ab) x
def O1.gc (x : O1) : Obj := O1.rec .none (fun a0 a1 a2 a3 a4 a5 a6 a7 a8 a9 aa ab ac ad ae af => ac) x
def O1.gd (x : O1) : Obj := O1.rec .none (fun a0 a1 a2 a3 a4 a5 a6 a7 a8 a9 aa ab ac ad ae af => ad) x
def O1.ge (x : O1) : Obj := O1.rec .none (fun a0 a1 a2 a3 a4 a5 a6 a7 a8 a9 aa ab ac ad ae af => ae) x
def O1.gf (x : O1) : Obj := O1.rec .none (fun a0 a1 a2 a3 a4 a5 a6 a7 a8 a9 aa ab ac ad ae af => af) x
def O1.get (d : H) : O1 → Obj := H.rec (motive := fun _ => O1 → Obj) O1.g0 O1.g1 O1.g2 O1.g3 O1.g4 O1.g5 O1.g6 O1.g7 O1.g8 O1.g9 O1.ga O1.gb O1.gc O1.gd O1.ge O1.gf d
def O1.s0 (v : Obj) (x : O1) : O1 := O1.rec (motive := fun _ => Obj → O1) (fun v => .mk v .none .none .none .none .none .none .none .none .none .none .none .none .none .none .none) (fun a0 a1 a2 a3 a4 a5 a6 a7 a8 a9 aa ab ac ad ae af => fun v => .mk v a1 a2 a3 a4 a5 a6 a7 a8 a9 aa ab ac ad ae af) x v
def O1.s1 (v : Obj) (x : O1) : O1 := O1.rec (motive := fun _ => Obj → O1) (fun v => .mk .none v .none .none .none .none .none .none .none .none .none .none .none .none .none .none) (fun a0 a1 a2 a3 a4 a5 a6 a7 a8 a9 aa ab ac ad ae af => fun v => .mk a0 v a2 a3 a4 a5 a6 a7 a8 a9 aa ab ac ad ae af) x v
def O1.s2 (v : Obj) (x : O1) : O1 := O1.rec (motive := fun _ => Obj → O1) (fun v => .mk .none .none v .none .none .none .none .none .none .none .none .none .none .none .none .none) (fun a0 a1 a2 a3 a4 a5 a6 a7 a8 a9 aa ab ac ad ae af => fun v => .mk a0 a1 v a3 a4 a5 a6 a7 a8 a9 aa ab ac ad ae af) x v
def O1.s3 (v : Obj) (x : O1) : O1 := O1.rec (motive := fun _ => Obj → O1) (fun v => .mk .none .none .none v .none .none .none .none .none .none .none .none .none .none .none .none) (fun a0 a1 a2 a3 a4 a5 a6 a7 a8 a9 aa ab ac ad ae af => fun v => .mk a0 a1 a2 v a4 a5 a6 a7 a8 a9 aa ab ac ad ae af) x v
def O1.s4 (v : Obj) (x : O1) : O1 := O1.rec (motive := fun _ => Obj → O1) (fun v => .mk .none .none .none .none v .none .none .none .none .none .none .none .none .none .none .none) (fun a0 a1 a2 a3 a4 a5 a6 a7 a8 a9 aa ab ac ad ae af => fun v => .mk a0 a1 a2 a3 v a5 a6 a7 a8 a9 aa ab ac ad ae af) x v
def O1.s5 (v : Obj) (x : O1) : O1 := O1.rec (motive := fun _ => Obj → O1) (fun v => .mk .none .none .none .none .none v .none .none .none .none .none .none .none .none .none .none) (fun a0 a1 a2 a3 a4 a5 a6 a7 a8 a9 aa ab ac ad ae af => fun v => .mk a0 a1 a2 a3 a4 v a6 a7 a8 a9 aa ab ac ad ae af) x v
def O1.s6 (v : Obj) (x : O1) : O1 := O1.rec (motive := fun _ => Obj → O1) (fun v => .mk .none .none .none .none .none .none v .none .none .none .none .none .none .none .none .none) (fun a0 a1 a2 a3 a4 a5 a6 a7 a8 a9 aa ab ac ad ae af => fun v => .mk a0 a1 a2 a3 a4 a5 v a7 a8 a9 aa ab ac ad ae af) x v
def O1.s7 (v : Obj) (x : O1) : O1 := O1.rec (motive := fun _ => Obj → O1) (fun v => .mk .none .none .none .none .none .none .none v .none .none .none .none .none .none .none .none) (fun a0 a1 a2 a3 a4 a5 a6 a7 a8 a9 aa ab ac ad ae af => fun v => .mk a0 a1 a2 a3 a4 a5 a6 v a8 a9 aa ab ac ad ae af) x v
def O1.s8 (v : Obj) (x : O1) : O1 := O1.rec (motive := fun _ => Obj → O1) (fun v => .mk .none .none .none .none .none .none .none .none v .none .none .none .none .none .none .none) (fun a0 a1 a2 a3 a4 a5 a6 a7 a8 a9 aa ab ac ad ae af => fun v => .mk a0 a1 a2 a3 a4 a5 a6 a7 v a9 aa ab ac ad ae af) x v
def O1.s9 (v : Obj) (x : O1) : O1 := O1.rec (motive := fun _ => Obj → O1) (fun v => .mk .none .none .none .none .none .none .none .none .none v .none .none .none .none .none .none) (fun a0 a1 a2 a3 a4 a5 a6 a7 a8 a9 aa ab ac ad ae af => fun v => .mk a0 a1 a2 a3 a4 a5 a6 a7 a8 v aa ab ac ad ae af) x v
def O1.sa (v : Obj) (x : O1) : O1 := O1.rec (motive := fun _ => Obj → O1) (fun v => .mk .none .none .none .none .none .none .none .none .none .none v .none .none .none .none .none) (fun a0 a1 a2 a3 a4 a5 a6 a7 a8 a9 aa ab ac ad ae af => fun v => .mk a0 a1 a2 a3 a4 a5 a6 a7 a8 a9 v ab ac ad ae af) x v
def O1.sb (v : Obj) (x : O1) : O1 := O1.rec (motive := fun _ => Obj → O1) (fun v => .mk .none .none .none .none .none .none .none .none .none .none .none v .none .none .none .none) (fun a0 a1 a2 a3 a4 a5 a6 a7 a8 a9 aa ab ac ad ae af => fun v => .mk a0 a1 a2 a3 a4 a5 a6 a7 a8 a9 aa v ac ad ae af) x v
def O1.sc (v : Obj) (x : O1) : O1 := O1.rec (motive := fun _ => Obj → O1) (fun v => .mk .none .none .none .none .none .none .none .none .none .none .none .none v .none .none .none) (fun a0 a1 a2 a3 a4 a5 a6 a7 a8 a9 aa ab ac ad ae af => fun v => .mk a0 a1 a2 a3 a4 a5 a6 a7 a8 a9 aa ab v ad ae af) x v
def O1.sd (v : Obj) (x : O1) : O1 := O1.rec (motive := fun _ => Obj → O1) (fun v => .mk .none .none .none .none .none .none .none .none .none .none .none .none .none v .none .none) (fun a0 a1 a2 a3 a4 a5 a6 a7 a8 a9 aa ab ac ad ae af => fun v => .mk a0 a1 a2 a3 a4 a5 a6 a7 a8 a9 aa ab ac v ae af) x v
def O1.se (v : Obj) (x : O1) : O1 := O1.rec (motive := fun _ => Obj → O1) (fun v => .mk .none .none .none .none .none .none .none .none .none .none .none .none .none .none v .none) (fun a0 a1 a2 a3 a4 a5 a6 a7 a8 a9 aa ab ac ad ae af => fun v => .mk a0 a1 a2 a3 a4 a5 a6 a7 a8 a9 aa ab ac ad v af) x v
def O1.sf (v : Obj) (x : O1) : O1 := O1.rec (motive := fun _ => Obj → O1) (fun v => .mk .none .none .none .none .none .none .none .none .none .none .none .none .none .none .none v) (fun a0 a1 a2 a3 a4 a5 a6 a7 a8 a9 aa ab ac ad ae af => fun v => .mk a0 a1 a2 a3 a4 a5 a6 a7 a8 a9 aa ab ac ad ae v) x v
def O1.set (d : H) : Obj → O1 → O1 := H.rec (motive := fun _ => Obj → O1 → O1) O1.s0 O1.s1 O1.s2 O1.s3 O1.s4 O1.s5 O1.s6 O1.s7 O1.s8 O1.s9 O1.sa O1.sb O1.sc O1.sd O1.se O1.sf d
inductive O2 where
 | nil
 | mk (a0 a1 a2 a3 a4 a5 a6 a7 a8 a9 aa ab ac ad ae af : O1)
def O2.g0 (x : O2) : O1 := O2.rec .nil (fun a0 a1 a2 a3 a4 a5 a6 a7 a8 a9 aa ab ac ad ae af => a0) x
def O2.g1 (x : O2) : O1 := O2.rec .nil (fun a0 a1 a2 a3 a4 a5 a6 a7 a8 a9 aa ab ac ad ae af => a1) x
def O2.g2 (x : O2) : O1 := O2.rec .nil (fun a0 a1 a2 a3 a4 a5 a6 a7 a8 a9 aa ab ac ad ae af => a2) x
def O2.g3 (x : O2) : O1 := O2.rec .nil (fun a0 a1 a2 a3 a4 a5 a6 a7 a8 a9 aa ab ac ad ae af => a3) x
def O2.g4 (x : O2) : O1 := O2.rec .nil (fun a0 a1 a2 a3 a4 a5 a6 a7 a8 a9 aa ab ac ad ae af => a4) x
def O2.g5 (x : O2) : O1 := O2.rec .nil (fun a0 a1 a2 a3 a4 a5 a6 a7 a8 a9 aa ab ac ad ae af => a5) x
def O2.g6 (x : O2) : O1 := O2.rec .nil (fun a0 a1 a2 a3 a4 a5 a6 a7 a8 a9 aa ab ac ad ae af => a6) x
def O2.g7 (x : O2) : O1 := O2.rec .nil (fun a0 a1 a2 a3 a4 a5 a6 a7 a8 a9 aa ab ac ad ae af => a7) x
def O2.g8 (x : O2) : O1 := O2.rec .nil (fun a0 a1 a2 a3 a4 a5 a6 a7 a8 a9 aa ab ac ad ae af => a8) x
def O2.g9 (x : O2) : O1 := O2.rec .nil (fun a0 a1 a2 a3 a4 a5 a6 a7 a8 a9 aa ab ac ad ae af => a9) x
def O2.ga (x : O2) : O1 := O2.rec .nil (fun a0 a1 a2 a3 a4 a5 a6 a7 a8 a9 aa ab ac ad ae af => aa) x
def O2.gb (x : O2) : O1 := O2.rec .nil (fun a0 a1 a2 a3 a4 a5 a6 a7 a8 a9 aa ab ac ad ae af => ab) x
def O2.gc (x : O2) : O1 := O2.rec .nil (fun a0 a1 a2 a3 a4 a5 a6 a7 a8 a9 aa ab ac ad ae af => ac) x
def O2.gd (x : O2) : O1 := O2.rec .nil (fun a0 a1 a2 a3 a4 a5 a6 a7 a8 a9 aa ab ac ad ae af => ad) x
def O2.ge (x : O2) : O1 := O2.rec .nil (fun a0 a1 a2 a3 a4 a5 a6 a7 a8 a9 aa ab ac ad ae af => ae) x
def O2.gf (x : O2) : O1 := O2.rec .nil (fun a0 a1 a2 a3 a4 a5 a6 a7 a8 a9 aa ab ac ad ae af => af) x
def O2.get (d : H) : O2 → O1 := H.rec (motive := fun _ => O2 → O1) O2.g0 O2.g1 O2.g2 O2.g3 O2.g4 O2.g5 O2.g6 O2.g7 O2.g8 O2.g9 O2.ga O2.gb O2.gc O2.gd O2.ge O2.gf d
def O2.s0 (v : O1) (x : O2) : O2 := O2.rec (motive := fun _ => O1 → O2) (fun v => .mk v .nil .nil .nil .nil .nil .nil .nil .nil .nil .nil .nil .nil .nil .nil .nil) (fun a0 a1 a2 a3 a4 a5 a6 a7 a8 a9 aa ab ac ad ae af => fun v => .mk v a1 a2 a3 a4 a5 a6 a7 a8 a9 aa ab ac ad ae af) x v
def O2.s1 (v : O1) (x : O2) : O2 := O2.rec (motive := fun _ => O1 → O2) (fun v => .mk .nil v .nil .nil .nil .nil .nil .nil .nil .nil .nil .nil .nil .nil .nil .nil) (fun a0 a1 a2 a3 a4 a5 a6 a7 a8 a9 aa ab ac ad ae af => fun v => .mk a0 v a2 a3 a4 a5 a6 a7 a8 a9 aa ab ac ad ae af) x v
def O2.s2 (v : O1) (x : O2) : O2 := O2.rec (motive := fun _ => O1 → O2) (fun v => .mk .nil .nil v .nil .nil .nil .nil .nil .nil .nil .nil .nil .nil .nil .nil .nil) (fun a0 a1 a2 a3 a4 a5 a6 a7 a8 a9 aa ab ac ad ae af => fun v => .mk a0 a1 v a3 a4 a5 a6 a7 a8 a9 aa ab ac ad ae af) x v
def O2.s3 (v : O1) (x : O2) : O2 := O2.rec (motive := fun _ => O1 → O2) (fun v => .mk .nil .nil .nil v .nil .nil .nil .nil .nil .nil .nil .nil .nil .nil .nil .nil) (fun a0 a1 a2 a3 a4 a5 a6 a7 a8 a9 aa ab ac ad ae af => fun v => .mk a0 a1 a2 v a4 a5 a6 a7 a8 a9 aa ab ac ad ae af) x v
def O2.s4 (v : O1) (x : O2) : O2 := O2.rec (motive := fun _ => O1 → O2) (fun v => .mk .nil .nil .nil .nil v .nil .nil .nil .nil .nil .nil .nil .nil .nil .nil .nil) (fun a0 a1 a2 a3 a4 a5 a6 a7 a8 a9 aa ab ac ad ae af => fun v => .mk a0 a1 a2 a3 v a5 a6 a7 a8 a9 aa ab ac ad ae af) x v
def O2.s5 (v : O1) (x : O2) : O2 := O2.rec (motive := fun _ => O1 → O2) (fun v => .mk .nil .nil .nil .nil .nil v .nil .nil .nil .nil .nil .nil .nil .nil .nil .nil) (fun a0 a1 a2 a3 a4 a5 a6 a7 a8 a9 aa ab ac ad ae af => fun v => .mk a0 a1 a2 a3 a4 v a6 a7 a8 a9 aa ab ac ad ae af) x v
def O2.s6 (v : O1) (x : O2) : O2 := O2.rec (motive := fun _ => O1 → O2) (fun v => .mk .nil .nil .nil .nil .nil .nil v .nil .nil .nil .nil .nil .nil .nil .nil .nil) (fun a0 a1 a2 a3 a4 a5 a6 a7 a8 a9 aa ab ac ad ae af => fun v => .mk a0 a1 a2 a3 a4 a5 v a7 a8 a9 aa ab ac ad ae af) x v
def O2.s7 (v : O1) (x : O2) : O2 := O2.rec (motive := fun _ => O1 → O2) (fun v => .mk .nil .nil .nil .nil .nil .nil .nil v .nil .nil .nil .nil .nil .nil .nil .nil) (fun a0 a1 a2 a3 a4 a5 a6 a7 a8 a9 aa ab ac ad ae af => fun v => .mk a0 a1 a2 a3 a4 a5 a6 v a8 a9 aa ab ac ad ae af) x v
def O2.s8 (v : O1) (x : O2) : O2 := O2.rec (motive := fun _ => O1 → O2) (fun v => .mk .nil .nil .nil .nil .nil .nil .nil .nil v .nil .nil .nil .nil .nil .nil .nil) (fun a0 a1 a2 a3 a4 a5 a6 a7 a8 a9 aa ab ac ad ae af => fun v => .mk a0 a1 a2 a3 a4 a5 a6 a7 v a9 aa ab ac ad ae af) x v
def O2.s9 (v : O1) (x : O2) : O2 := O2.rec (motive := fun _ => O1 → O2) (fun v => .mk .nil .nil .nil .nil .nil .nil .nil .nil .nil v .nil .nil .nil .nil .nil .nil) (fun a0 a1 a2 a3 a4 a5 a6 a7 a8 a9 aa ab ac ad ae af => fun v => .mk a0 a1 a2 a3 a4 a5 a6 a7 a8 v aa ab ac ad ae af) x v
def O2.sa (v : O1) (x : O2) : O2 := O2.rec (motive := fun _ => O1 → O2) (fun v => .mk .nil .nil .nil .nil .nil .nil .nil .nil .nil .nil v .nil .nil .nil .nil .nil) (fun a0 a1 a2 a3 a4 a5 a6 a7 a8 a9 aa ab ac ad ae af => fun v => .mk a0 a1 a2 a3 a4 a5 a6 a7 a8 a9 v ab ac ad ae af) x v
def O2.sb (v : O1) (x : O2) : O2 := O2.rec (motive := fun _ => O1 → O2) (fun v => .mk .nil .nil .nil .nil .nil .nil .nil .nil .nil .nil .nil v .nil .nil .nil .nil) (fun a0 a1 a2 a3 a4 a5 a6 a7 a8 a9 aa ab ac ad ae af => fun v => .mk a0 a1 a2 a3 a4 a5 a6 a7 a8 a9 aa v ac ad ae af) x v
def O2.sc (v : O1) (x : O2) : O2 := O2.rec (motive := fun _ => O1 → O2) (fun v => .mk .nil .nil .nil .nil .nil .nil .nil .nil .nil .nil .nil .nil v .nil .nil .nil) (fun a0 a1 a2 a3 a4 a5 a6 a7 a8 a9 aa ab ac ad ae af => fun v => .mk a0 a1 a2 a3 a4 a5 a6 a7 a8 a9 aa ab v ad ae af) x v
def O2.sd (v : O1) (x : O2) : O2 := O2.rec (motive := fun _ => O1 → O2) (fun v => .mk .nil .nil .nil .nil .nil .nil .nil .nil .nil .nil .nil .nil .nil v .nil .nil) (fun a0 a1 a2 a3 a4 a5 a6 a7 a8 a9 aa ab ac ad ae af => fun v => .mk a0 a1 a2 a3 a4 a5 a6 a7 a8 a9 aa ab ac v ae af) x v
def O2.se (v : O1) (x : O2) : O2 := O2.rec (motive := fun _ => O1 → O2) (fun v => .mk .nil .nil .nil .nil .nil .nil .nil .nil .nil .nil .nil .nil .nil .nil v .nil) (fun a0 a1 a2 a3 a4 a5 a6 a7 a8 a9 aa ab ac ad ae af => fun v => .mk a0 a1 a2 a3 a4 a5 a6 a7 a8 a9 aa ab ac ad v af) x v
def O2.sf (v : O1) (x : O2) : O2 := O2.rec (motive := fun _ => O1 → O2) (fun v => .mk .nil .nil .nil .nil .nil .nil .nil .nil .nil .nil .nil .nil .nil .nil .nil v) (fun a0 a1 a2 a3 a4 a5 a6 a7 a8 a9 aa ab ac ad ae af => fun v => .mk a0 a1 a2 a3 a4 a5 a6 a7 a8 a9 aa ab ac ad ae v) x v
def O2.set (d : H) : O1 → O2 → O2 := H.rec (motive := fun _ => O1 → O2 → O2) O2.s0 O2.s1 O2.s2 O2.s3 O2.s4 O2.s5 O2.s6 O2.s7 O2.s8 O2.s9 O2.sa O2.sb O2.sc O2.sd O2.se O2.sf d
inductive O3 where
 | nil
 | mk (a0 a1 a2 a3 a4 a5 a6 a7 a8 a9 aa ab ac ad ae af : O2)
def O3.g0 (x : O3) : O2 := O3.rec .nil (fun a0 a1 a2 a3 a4 a5 a6 a7 a8 a9 aa ab ac ad ae af => a0) x
def O3.g1 (x : O3) : O2 := O3.rec .nil (fun a0 a1 a2 a3 a4 a5 a6 a7 a8 a9 aa ab ac ad ae af => a1) x
def O3.g2 (x : O3) : O2 := O3.rec .nil (fun a0 a1 a2 a3 a4 a5 a6 a7 a8 a9 aa ab ac ad ae af => a2) x
def O3.g3 (x : O3) : O2 := O3.rec .nil (fun a0 a1 a2 a3 a4 a5 a6 a7 a8 a9 aa ab ac ad ae af => a3) x
def O3.g4 (x : O3) : O2 := O3.rec .nil (fun a0 a1 a2 a3 a4 a5 a6 a7 a8 a9 aa ab ac ad ae af => a4) x
def O3.g5 (x : O3) : O2 := O3.rec .nil (fun a0 a1 a2 a3 a4 a5 a6 a7 a8 a9 aa ab ac ad ae af => a5) x
def O3.g6 (x : O3) : O2 := O3.rec .nil (fun a0 a1 a2 a3 a4 a5 a6 a7 a8 a9 aa ab ac ad ae af => a6) x
def O3.g7 (x : O3) : O2 := O3.rec .nil (fun a0 a1 a2 a3 a4 a5 a6 a7 a8 a9 aa ab ac ad ae af => a7) x
def O3.g8 (x : O3) : O2 := O3.rec .nil (fun a0 a1 a2 a3 a4 a5 a6 a7 a8 a9 aa ab ac ad ae af => a8) x
def O3.g9 (x : O3) : O2 := O3.rec .nil (fun a0 a1 a2 a3 a4 a5 a6 a7 a8 a9 aa ab ac ad ae af => a9) x
def O3.ga (x : O3) : O2 := O3.rec .nil (fun a0 a1 a2 a3 a4 a5 a6 a7 a8 a9 aa ab ac ad ae af => aa) x
def O3.gb (x : O3) : O2 := O3.rec .nil (fun a0 a1 a2 a3 a4 a5 a6 a7 a8 a9 aa ab ac ad ae af => ab) x
def O3.gc (x : O3) : O2 := O3.rec .nil (fun a0 a1 a2 a3 a4 a5 a6 a7 a8 a9 aa ab ac ad ae af => ac) x
def O3.gd (x : O3) : O2 := O3.rec .nil (fun a0 a1 a2 a3 a4 a5 a6 a7 a8 a9 aa ab ac ad ae af => ad) x
def O3.ge (x : O3) : O2 := O3.rec .nil (fun a0 a1 a2 a3 a4 a5 a6 a7 a8 a9 aa ab ac ad ae af => ae) x
def O3.gf (x : O3) : O2 := O3.rec .nil (fun a0 a1 a2 a3 a4 a5 a6 a7 a8 a9 aa ab ac ad ae af => af) x
def O3.get (d : H) : O3 → O2 := H.rec (motive := fun _ => O3 → O2) O3.g0 O3.g1 O3.g2 O3.g3 O3.g4 O3.g5 O3.g6 O3.g7 O3.g8 O3.g9 O3.ga O3.gb O3.gc O3.gd O3.ge O3.gf d
def O3.s0 (v : O2) (x : O3) : O3 := O3.rec (motive := fun _ => O2 → O3) (fun v => .mk v .nil .nil .nil .nil .nil .nil .nil .nil .nil .nil .nil .nil .nil .nil .nil) (fun a0 a1 a2 a3 a4 a5 a6 a7 a8 a9 aa ab ac ad ae af => fun v => .mk v a1 a2 a3 a4 a5 a6 a7 a8 a9 aa ab ac ad ae af) x v
def O3.s1 (v : O2) (x : O3) : O3 := O3.rec (motive := fun _ => O2 → O3) (fun v => .mk .nil v .nil .nil .nil .nil .nil .nil .nil .nil .nil .nil .nil .nil .nil .nil) (fun a0 a1 a2 a3 a4 a5 a6 a7 a8 a9 aa ab ac ad ae af => fun v => .mk a0 v a2 a3 a4 a5 a6 a7 a8 a9 aa ab ac ad ae af) x v
def O3.s2 (v : O2) (x : O3) : O3 := O3.rec (motive := fun _ => O2 → O3) (fun v => .mk .nil .nil v .nil .nil .nil .nil .nil .nil .nil .nil .nil .nil .nil .nil .nil) (fun a0 a1 a2 a3 a4 a5 a6 a7 a8 a9 aa ab ac ad ae af => fun v => .mk a0 a1 v a3 a4 a5 a6 a7 a8 a9 aa ab ac ad ae af) x v
def O3.s3 (v : O2) (x : O3) : O3 := O3.rec (motive := fun _ => O2 → O3) (fun v => .mk .nil .nil .nil v .nil .nil .nil .nil .nil .nil .nil .nil .nil .nil .nil .nil) (fun a0 a1 a2 a3 a4 a5 a6 a7 a8 a9 aa ab ac ad ae af => fun v => .mk a0 a1 a2 v a4 a5 a6 a7 a8 a9 aa ab ac ad ae af) x v
def O3.s4 (v : O2) (x : O3) : O3 := O3.rec (motive := fun _ => O2 → O3) (fun v => .mk .nil .nil .nil .nil v .nil .nil .nil .nil .nil .nil .nil .nil .nil .nil .nil) (fun a0 a1 a2 a3 a4 a5 a6 a7 a8 a9 aa ab ac ad ae af => fun v => .mk a0 a1 a2 a3 v a5 a6 a7 a8 a9 aa ab ac ad ae af) x v
def O3.s5 (v : O2) (x : O3) : O3 := O3.rec (motive := fun _ => O2 → O3) (fun v => .mk .nil .nil .nil .nil .nil v .nil .nil .nil .nil .nil .nil .nil .nil .nil .nil) (fun a0 a1 a2 a3 a4 a5 a6 a7 a8 a9 aa ab ac ad ae af => fun v => .mk a0 a1 a2 a3 a4 v a6 a7 a8 a9 aa ab ac ad ae af) x v
def O3.s6 (v : O2) (x : O3) : O3 := O3.rec (motive := fun _ => O2 → O3) (fun v => .mk .nil .nil .nil .nil .nil .nil v .nil .nil .nil .nil .nil .nil .nil .nil .nil) (fun a0 a1 a2 a3 a4 a5 a6 a7 a8 a9 aa ab ac ad ae af => fun v => .mk a0 a1 a2 a3 a4 a5 v a7 a8 a9 aa ab ac ad ae af) x v
def O3.s7 (v : O2) (x : O3) : O3 := O3.rec (motive := fun _ => O2 → O3) (fun v => .mk .nil .nil .nil .nil .nil .nil .nil v .nil .nil .nil .nil .nil .nil .nil .nil) (fun a0 a1 a2 a3 a4 a5 a6 a7 a8 a9 aa ab ac ad ae af => fun v => .mk a0 a1 a2 a3 a4 a5 a6 v a8 a9 aa ab ac ad ae af) x v
def O3.s8 (v : O2) (x : O3) : O3 := O3.rec (motive := fun _ => O2 → O3) (fun v => .mk .nil .nil .nil .nil .nil .nil .nil .nil v .nil .nil .nil .nil .nil .nil .nil) (fun a0 a1 a2 a3 a4 a5 a6 a7 a8 a9 aa ab ac ad ae af => fun v => .mk a0 a1 a2 a3 a4 a5 a6 a7 v a9 aa ab ac ad ae af) x v
def O3.s9 (v : O2) (x : O3) : O3 := O3.rec (motive := fun _ => O2 → O3) (fun v => .mk .nil .nil .nil .nil .nil .nil .nil .nil .nil v .nil .nil .nil .nil .nil .nil) (fun a0 a1 a2 a3 a4 a5 a6 a7 a8 a9 aa ab ac ad ae af => fun v => .mk a0 a1 a2 a3 a4 a5 a6 a7 a8 v aa ab ac ad ae af) x v
def O3.sa (v : O2) (x : O3) : O3 := O3.rec (motive := fun _ => O2 → O3) (fun v => .mk .nil .nil .nil .nil .nil .nil .nil .nil .nil .nil v .nil .nil .nil .nil .nil) (fun a0 a1 a2 a3 a4 a5 a6 a7 a8 a9 aa ab ac ad ae af => fun v => .mk a0 a1 a2 a3 a4 a5 a6 a7 a8 a9 v ab ac ad ae af) x v
def O3.sb (v : O2) (x : O3) : O3 := O3.rec (motive := fun _ => O2 → O3) (fun v => .mk .nil .nil .nil .nil .nil .nil .nil .nil .nil .nil .nil v .nil .nil .nil .nil) (fun a0 a1 a2 a3 a4 a5 a6 a7 a8 a9 aa ab ac ad ae af => fun v => .mk a0 a1 a2 a3 a4 a5 a6 a7 a8 a9 aa v ac ad ae af) x v
def O3.sc (v : O2) (x : O3) : O3 := O3.rec (motive := fun _ => O2 → O3) (fun v => .mk .nil .nil .nil .nil .nil .nil .nil .nil .nil .nil .nil .nil v .nil .nil .nil) (fun a0 a1 a2 a3 a4 a5 a6 a7 a8 a9 aa ab ac ad ae af => fun v => .mk a0 a1 a2 a3 a4 a5 a6 a7 a8 a9 aa ab v ad ae af) x v
def O3.sd (v : O2) (x : O3) : O3 := O3.rec (motive := fun _ => O2 → O3) (fun v => .mk .nil .nil .nil .nil .nil .nil .nil .nil .nil .nil .nil .nil .nil v .nil .nil) (fun a0 a1 a2 a3 a4 a5 a6 a7 a8 a9 aa ab ac ad ae af => fun v => .mk a0 a1 a2 a3 a4 a5 a6 a7 a8 a9 aa ab ac v ae af) x v
def O3.se (v : O2) (x : O3) : O3 := O3.rec (motive := fun _ => O2 → O3) (fun v => .mk .nil .nil .nil .nil .nil .nil .nil .nil .nil .nil .nil .nil .nil .nil v .nil) (fun a0 a1 a2 a3 a4 a5 a6 a7 a8 a9 aa ab ac ad ae af => fun v => .mk a0 a1 a2 a3 a4 a5 a6 a7 a8 a9 aa ab ac ad v af) x v
def O3.sf (v : O2) (x : O3) : O3 := O3.rec (motive := fun _ => O2 → O3) (fun v => .mk .nil .nil .nil .nil .nil .nil .nil .nil .nil .nil .nil .nil .nil .nil .nil v) (fun a0 a1 a2 a3 a4 a5 a6 a7 a8 a9 aa ab ac ad ae af => fun v => .mk a0 a1 a2 a3 a4 a5 a6 a7 a8 a9 aa ab ac ad ae v) x v
def O3.set (d : H) : O2 → O3 → O3 := H.rec (motive := fun _ => O2 → O3 → O3) O3.s0 O3.s1 O3.s2 O3.s3 O3.s4 O3.s5 O3.s6 O3.s7 O3.s8 O3.s9 O3.sa O3.sb O3.sc O3.sd O3.se O3.sf d
inductive O4 where
 | nil
 | mk (a0 a1 a2 a3 a4 a5 a6 a7 a8 a9 aa ab ac ad ae af : O3)
def O4.g0 (x : O4) : O3 := O4.rec .nil (fun a0 a1 a2 a3 a4 a5 a6 a7 a8 a9 aa ab ac ad ae af => a0) x
def O4.g1 (x : O4) : O3 := O4.rec .nil (fun a0 a1 a2 a3 a4 a5 a6 a7 a8 a9 aa ab ac ad ae af => a1) x
def O4.g2 (x : O4) : O3 := O4.rec .nil (fun a0 a1 a2 a3 a4 a5 a6 a7 a8 a9 aa ab ac ad ae af => a2) x
def O4.g3 (x : O4) : O3 := O4.rec .nil (fun a0 a1 a2 a3 a4 a5 a6 a7 a8 a9 aa ab ac ad ae af => a3) x
def O4.g4 (x : O4) : O3 := O4.rec .nil (fun a0 a1 a2 a3 a4 a5 a6 a7 a8 a9 aa ab ac ad ae af => a4) x
def O4.g5 (x : O4) : O3 := O4.rec .nil (fun a0 a1 a2 a3 a4 a5 a6 a7 a8 a9 aa ab ac ad ae af => a5) x
def O4.g6 (x : O4) : O3 := O4.rec .nil (fun a0 a1 a2 a3 a4 a5 a6 a7 a8 a9 aa ab ac ad ae af => a6) x
def O4.g7 (x : O4) : O3 := O4.rec .nil (fun a0 a1 a2 a3 a4 a5 a6 a7 a8 a9 aa ab ac ad ae af => a7) x
def O4.g8 (x : O4) : O3 := O4.rec .nil (fun a0 a1 a2 a3 a4 a5 a6 a7 a8 a9 aa ab ac ad ae af => a8) x
def O4.g9 (x : O4) : O3 := O4.rec .nil (fun a0 a1 a2 a3 a4 a5 a6 a7 a8 a9 aa ab ac ad ae af => a9) x
def O4.ga (x : O4) : O3 := O4.rec .nil (fun a0 a1 a2 a3 a4 a5 a6 a7 a8 a9 aa ab ac ad ae af => aa) x
def O4.gb (x : O4) : O3 := O4.rec .nil (fun a0 a1 a2 a3 a4 a5 a6 a7 a8 a9 aa ab ac ad ae af => ab) x
def O4.gc (x : O4) : O3 := O4.rec .nil (fun a0 a1 a2 a3 a4 a5 a6 a7 a8 a9 aa ab ac ad ae af => ac) x
def O4.gd (x : O4) : O3 := O4.rec .nil (fun a0 a1 a2 a3 a4 a5 a6 a7 a8 a9 aa ab ac ad ae af => ad) x
def O4.ge (x : O4) : O3 := O4.rec .nil (fun a0 a1 a2 a3 a4 a5 a6 a7 a8 a9 aa ab ac ad ae af => ae) x
def O4.gf (x : O4) : O3 := O4.rec .nil (fun a0 a1 a2 a3 a4 a5 a6 a7 a8 a9 aa ab ac ad ae af => af) x
def O4.get (d : H) : O4 → O3 := H.rec (motive := fun _ => O4 → O3) O4.g0 O4.g1 O4.g2 O4.g3 O4.g4 O4.g5 O4.g6 O4.g7 O4.g8 O4.g9 O4.ga O4.gb O4.gc O4.gd O4.ge O4.gf d
def O4.s0 (v : O3) (x : O4) : O4 := O4.rec (motive := fun _ => O3 → O4) (fun v => .mk v .nil .nil .nil .nil .nil .nil .nil .nil .nil .nil .nil .nil .nil .nil .nil) (fun a0 a1 a2 a3 a4 a5 a6 a7 a8 a9 aa ab ac ad ae af => fun v => .mk v a1 a2 a3 a4 a5 a6 a7 a8 a9 aa ab ac ad ae af) x v
def O4.s1 (v : O3) (x : O4) : O4 := O4.rec (motive := fun _ => O3 → O4) (fun v => .mk .nil v .nil .nil .nil .nil .nil .nil .nil .nil .nil .nil .nil .nil .nil .nil) (fun a0 a1 a2 a3 a4 a5 a6 a7 a8 a9 aa ab ac ad ae af => fun v => .mk a0 v a2 a3 a4 a5 a6 a7 a8 a9 aa ab ac ad ae af) x v
def O4.s2 (v : O3) (x : O4) : O4 := O4.rec (motive := fun _ => O3 → O4) (fun v => .mk .nil .nil v .nil .nil .nil .nil .nil .nil .nil .nil .nil .nil .nil .nil .nil) (fun a0 a1 a2 a3 a4 a5 a6 a7 a8 a9 aa ab ac ad ae af => fun v => .mk a0 a1 v a3 a4 a5 a6 a7 a8 a9 aa ab ac ad ae af) x v
def O4.s3 (v : O3) (x : O4) : O4 := O4.rec (motive := fun _ => O3 → O4) (fun v => .mk .nil .nil .nil v .nil .nil .nil .nil .nil .nil .nil .nil .nil .nil .nil .nil) (fun a0 a1 a2 a3 a4 a5 a6 a7 a8 a9 aa ab ac ad ae af => fun v => .mk a0 a1 a2 v a4 a5 a6 a7 a8 a9 aa ab ac ad ae af) x v
def O4.s4 (v : O3) (x : O4) : O4 := O4.rec (motive := fun _ => O3 → O4) (fun v => .mk .nil .nil .nil .nil v .nil .nil .nil .nil .nil .nil .nil .nil .nil .nil .nil) (fun a0 a1 a2 a3 a4 a5 a6 a7 a8 a9 aa ab ac ad ae af => fun v => .mk a0 a1 a2 a3 v a5 a6 a7 a8 a9 aa ab ac ad ae af) x v
def O4.s5 (v : O3) (x : O4) : O4 := O4.rec (motive := fun _ => O3 → O4) (fun v => .mk .nil .nil .nil .nil .nil v .nil .nil .nil .nil .nil .nil .nil .nil .nil .nil) (fun a0 a1 a2 a3 a4 a5 a6 a7 a8 a9 aa ab ac ad ae af => fun v => .mk a0 a1 a2 a3 a4 v a6 a7 a8 a9 aa ab ac ad ae af) x v
def O4.s6 (v : O3) (x : O4) : O4 := O4.rec (motive := fun _ => O3 → O4) (fun v => .mk .nil .nil .nil .nil .nil .nil v .nil .nil .nil .nil .nil .nil .nil .nil .nil) (fun a0 a1 a2 a3 a4 a5 a6 a7 a8 a9 aa ab ac ad ae af => fun v => .mk a0 a1 a2 a3 a4 a5 v a7 a8 a9 aa ab ac ad ae af) x v
def O4.s7 (v : O3) (x : O4) : O4 := O4.rec (motive := fun _ => O3 → O4) (fun v => .mk .nil .nil .nil .nil .nil .nil .nil v .nil .nil .nil .nil .nil .nil .nil .nil) (fun a0 a1 a2 a3 a4 a5 a6 a7 a8 a9 aa ab ac ad ae af => fun v => .mk a0 a1 a2 a3 a4 a5 a6 v a8 a9 aa ab ac ad ae af) x v
def O4.s8 (v : O3) (x : O4) : O4 := O4.rec (motive := fun _ => O3 → O4) (fun v => .mk .nil .nil .nil .nil .nil .nil .nil .nil v .nil .nil .nil .nil .nil .nil .nil) (fun a0 a1 a2 a3 a4 a5 a6 a7 a8 a9 aa ab ac ad ae af => fun v => .mk a0 a1 a2 a3 a4 a5 a6 a7 v a9 aa ab ac ad ae af) x v
def O4.s9 (v : O3) (x : O4) : O4 := O4.rec (motive := fun _ => O3 → O4) (fun v => .mk .nil .nil .nil .nil .nil .nil .nil .nil .nil v .nil .nil .nil .nil .nil .nil) (fun a0 a1 a2 a3 a4 a5 a6 a7 a8 a9 aa ab ac ad ae af => fun v => .mk a0 a1 a2 a3 a4 a5 a6 a7 a8 v aa ab ac ad ae af) x v
def O4.sa (v : O3) (x : O4) : O4 := O4.rec (motive := fun _ => O3 → O4) (fun v => .mk .nil .nil .nil .nil .nil .nil .nil .nil .nil .nil v .nil .nil .nil .nil .nil) (fun a0 a1 a2 a3 a4 a5 a6 a7 a8 a9 aa ab ac ad ae af => fun v => .mk a0 a1 a2 a3 a4 a5 a6 a7 a8 a9 v ab ac ad ae af) x v
def O4.sb (v : O3) (x : O4) : O4 := O4.rec (motive := fun _ => O3 → O4) (fun v => .mk .nil .nil .nil .nil .nil .nil .nil .nil .nil .nil .nil v .nil .nil .nil .nil) (fun a0 a1 a2 a3 a4 a5 a6 a7 a8 a9 aa ab ac ad ae af => fun v => .mk a0 a1 a2 a3 a4 a5 a6 a7 a8 a9 aa v ac ad ae af) x v
def O4.sc (v : O3) (x : O4) : O4 := O4.rec (motive := fun _ => O3 → O4) (fun v => .mk .nil .nil .nil .nil .nil .nil .nil .nil .nil .nil .nil .nil v .nil .nil .nil) (fun a0 a1 a2 a3 a4 a5 a6 a7 a8 a9 aa ab ac ad ae af => fun v => .mk a0 a1 a2 a3 a4 a5 a6 a7 a8 a9 aa ab v ad ae af) x v
def O4.sd (v : O3) (x : O4) : O4 := O4.rec (motive := fun _ => O3 → O4) (fun v => .mk .nil .nil .nil .nil .nil .nil .nil .nil .nil .nil .nil .nil .nil v .nil .nil) (fun a0 a1 a2 a3 a4 a5 a6 a7 a8 a9 aa ab ac ad ae af => fun v => .mk a0 a1 a2 a3 a4 a5 a6 a7 a8 a9 aa ab ac v ae af) x v
def O4.se (v : O3) (x : O4) : O4 := O4.rec (motive := fun _ => O3 → O4) (fun v => .mk .nil .nil .nil .nil .nil .nil .nil .nil .nil .nil .nil .nil .nil .nil v .nil) (fun a0 a1 a2 a3 a4 a5 a6 a7 a8 a9 aa ab ac ad ae af => fun v => .mk a0 a1 a2 a3 a4 a5 a6 a7 a8 a9 aa ab ac ad v af) x v
def O4.sf (v : O3) (x : O4) : O4 := O4.rec (motive := fun _ => O3 → O4) (fun v => .mk .nil .nil .nil .nil .nil .nil .nil .nil .nil .nil .nil .nil .nil .nil .nil v) (fun a0 a1 a2 a3 a4 a5 a6 a7 a8 a9 aa ab ac ad ae af => fun v => .mk a0 a1 a2 a3 a4 a5 a6 a7 a8 a9 aa ab ac ad ae v) x v
def O4.set (d : H) : O3 → O4 → O4 := H.rec (motive := fun _ => O3 → O4 → O4) O4.s0 O4.s1 O4.s2 O4.s3 O4.s4 O4.s5 O4.s6 O4.s7 O4.s8 O4.s9 O4.sa O4.sb O4.sc O4.sd O4.se O4.sf d
inductive T4 where
 | mk (t : O4) (f : Nat → Nat → Obj)
inductive Hp where
 | mk (t : T4) (nx : P4)
inductive RV where
 | ok (v : AV) (h : Hp)
 | err (n : Nat)
inductive RT where
 | ok (v : AV) (h : Hp)
 | err (n : Nat)
 | ch (n : Nat) (k : Nat → RT)
inductive RS where
 | nm (r : A2) (h : Hp)
 | ex (i : Nat) (r : A2) (h : Hp)
 | go (l : Nat) (r : A2) (h : Hp)
 | ret (r : A2) (h : Hp)
 | err (n : Nat)
 | ch (n : Nat) (k : Nat → RS)
def RT.elim {β : Type} (f : AV → Hp → β) (e : Nat → β) (c : Nat → (Nat → β) → β) (x : RT) : β := RT.rec f e (fun n _ ih => c n ih) x
def RS.elim {β : Type} (f1 : A2 → Hp → β) (f2 : Nat → A2 → Hp → β) (f3 : Nat → A2 → Hp → β) (f4 : A2 → Hp → β) (e : Nat → β) (c : Nat → (Nat → β) → β) (x : RS) : β := RS.rec f1 f2 f3 f4 e (fun n _ ih => c n ih) x
def Ao {β : Type} (z : β) (s : Nat → β → β) (n : Nat) : β := Nat.rec z s n
def P4.succ (p : P4) : P4 := P4.rec (fun a b c d =>
 Bool.rec (.mk a b c d.succ) (Bool.rec (.mk a b c.succ .h0) (Bool.rec (.mk a b.succ .h0 .h0) (.mk a.succ .h0 .h0 .h0) b.last) c.last) d.last) (fun b _ => .eL (Nat.succ b) 0) p
def cL (p : P4) (t : T4) : Obj := T4.rec (fun t f => P4.rec (fun a b c d => O1.get d (O2.get c (O3.get b (O4.get a t)))) (fun b o => f b o) p) t
def Hp.tree (h : Hp) : T4 := Hp.rec (fun t _ => t) h
def Hp.next (h : Hp) : P4 := Hp.rec (fun _ n => n) h
def ah (p : P4) (h : Hp) : Obj := cL p h.tree
def Om (a b c d : H) (o : Obj) (t4 : O4) (t3 : O3) (t2 : O2) : O4 := O4.set a (O3.set b (O2.set c (O1.set d o (O2.get c t2)) t2) t3) t4
def Oo (a b c d : H) (o : Obj) (t4 : O4) (t3 : O3) : O4 := Om a b c d o t4 t3 (O3.get b t3)
def SF (b c : Nat) (o : Obj) (f : Nat → Nat → Obj) (m n : Nat) : Obj := Bool.rec (f m n) (Bool.rec (f m n) o (Nat.beq n c)) (Nat.beq m b)
def dy (p : P4) (o : Obj) (t : T4) : T4 := T4.rec (fun t f => P4.rec (fun a b c d => .mk (Oo a b c d o t (O4.get a t)) f) (fun b c => .mk t (SF b c o f)) p) t
def dY (p : P4) (o : Obj) (h : Hp) : Hp := .mk (dy p o h.tree) h.next
def isNone (o : Obj) : Bool := Obj.rec true false (fun _ _ _ _ _ => false) (fun _ _ => false) (fun _ _ => false) (fun _ _ _ _ => false) false o
def nd (o : Obj) (h : Hp) (k : P4 → Hp → RV) : RV := Hp.rec (fun t nx =>
 Bool.rec (.err 1) (k nx (.mk (dy nx o t) nx.succ)) (isNone (cL nx t))) h
def aC (a b : H) (r : A2) : AV := A1.get b (A2.get a r)
def rM (a b : H) (v : AV) (r : A2) : A2 := A2.set a (A1.set b v (A2.get a r)) r
def g2 (i : Nat) (x : A2) : AV := A1.get (dG (Nat.mod i 16)) (A2.get (dG (Nat.div i 16)) x)
def g3 (i : Nat) (x : A3) : AV := g2 (Nat.mod i 256) (A3.get (dG (Nat.div i 256)) x)
def g4 (i : Nat) (x : A4) : AV := g3 (Nat.mod i 4096) (A4.get (dG (Nat.div i 4096)) x)
def g1 (i : Nat) (x : A1) : AV := A1.get (dG i) x
def eP (i : Nat) (c : Cl) : AV := Cl.rec (motive := fun _ => Nat → AV) (fun x i => g1 i x) (fun x i => g2 i x) (fun x i => g3 i x) (fun x i => g4 i x) (fun _ f i => f i) c i
def t1 (i : Nat) (v : AV) (x : A1) : A1 := A1.set (dG i) v x
def Tp (d : H) (i : Nat) (v : AV) (x : A2) : A2 := A2.set d (t1 i v (A2.get d x)) x
def t2 (i : Nat) (v : AV) (x : A2) : A2 := Tp (dG (Nat.div i 16)) (Nat.mod i 16) v x
def Tq (d : H) (i : Nat) (v : AV) (x : A3) : A3 := A3.set d (t2 i v (A3.get d x)) x
def t3 (i : Nat) (v : AV) (x : A3) : A3 := Tq (dG (Nat.div i 256)) (Nat.mod i 256) v x
def Tr (d : H) (i : Nat) (v : AV) (x : A4) : A4 := A4.set d (t3 i v (A4.get d x)) x
def t4 (i : Nat) (v : AV) (x : A4) : A4 := Tr (dG (Nat.div i 4096)) (Nat.mod i 4096) v x
def SG (i : Nat) (v : AV) (f : Nat → AV) (j : Nat) : AV := Bool.rec (f j) v (Nat.beq j i)
def lu (i : Nat) (v : AV) (c : Cl) : Cl := Cl.rec (motive := fun _ => Nat → AV → Cl) (fun x i v => .k1 (t1 i v x)) (fun x i v => .k2 (t2 i v x)) (fun x i v => .k3 (t3 i v x)) (fun x i v => .k4 (t4 i v x)) (fun m f i v => .kf m (SG i v f)) c i v
def bM (c : Cl) : Nat := Cl.rec (fun _ => 16) (fun _ => 256) (fun _ => 4096) (fun _ => 65536) (fun m _ => m) c
def Ap (c : Cl) : Nat := Cl.rec (fun _ => 16) (fun _ => 256) (fun _ => 4096) (fun _ => 65536) (fun m _ => Bool.rec 0 m (Nat.ble m 16777216)) c
def bO (c : Cl) : Cl := Cl.rec (fun x => .k2 (A2.s0 x .nil)) (fun x => .k3 (A3.s0 x .nil)) (fun x => .k4 (A4.s0 x .nil)) (fun x => .kf 16777216 (fun i => g4 i x)) (fun m f => .kf m f) c
def jV (n : Nat) (c : Cl) : Cl := Bool.rec (Bool.rec (Bool.rec (Bool.rec (bO (bO (bO (bO c)))) (bO (bO (bO c))) (Nat.ble n (bM (bO (bO (bO c)))))) (bO (bO c)) (Nat.ble n (bM (bO (bO c))))) (bO c) (Nat.ble n (bM (bO c)))) c (Nat.ble n (bM c))
def cH (l : List AV) : Nat → Cl → Cl := gG (fun _ c => c) (fun v _ ih i c => ih (Nat.succ i) (lu i v c)) l
def FM : Cl := .k1 .nil
def ng (l : List AV) : Cl := cH l 0 (jV l.length FM)
def bP (n : Nat) : Cl → Nat → List AV := Nat.rec (fun _ _ => .nil) (fun _ ih c i => .cons (eP i c) (ih c (Nat.succ i))) n
inductive AO where
 | t (a b : H)
 | c (v : AV)
def ev (x : AO) (r : A2) : AV := AO.rec (motive := fun _ => A2 → AV) aC (fun v _ => v) x r
def Oq (a b : Int) : Int := Int.rec (motive := fun _ => Int → Int) (fun m b => Int.rec (fun n => .ofNat (Nat.add m n)) (fun n => Int.subNatNat m (Nat.succ n)) b) (fun m b => Int.rec (fun n => Int.subNatNat n (Nat.succ m)) (fun n => .negSucc (Nat.succ (Nat.add m n))) b) a b
def Ot (a : Int) : Int := Int.rec (fun m => Int.negOfNat m) (fun m => .ofNat (Nat.succ m)) a
def Kq (a b : Int) : Int := Int.rec (motive := fun _ => Int → Int) (fun m b => Int.rec (fun n => .ofNat (Nat.mul m n)) (fun n => Int.mul (.ofNat m) (.negSucc n)) b) (fun m b => Int.mul (.negSucc m) b) a b
def Ou (a b : Int) : Int := Int.rec (motive := fun _ => Int → Int) (fun m b => Int.rec (fun n => .ofNat (Nat.div m n)) (fun n => Int.tdiv (.ofNat m) (.negSucc n)) b) (fun m b => Int.tdiv (.negSucc m) b) a b
def FN (a b : Int) : Int := Int.rec (motive := fun _ => Int → Int) (fun m b => Int.rec (fun n => .ofNat (Nat.mod m n)) (fun n => Int.tmod (.ofNat m) (.negSucc n)) b) (fun m b => Int.tmod (.negSucc m) b) a b
def QM (a b : Int) : Bool := Int.rec (motive := fun _ => Int → Bool) (fun m b => Int.rec (fun n => Nat.ble m n) (fun _ => false) b) (fun m b => Int.rec (fun _ => true) (fun n => Nat.ble n m) b) a b
def Kr (a b : Int) : Bool := Int.rec (motive := fun _ => Int → Bool) (fun m b => Int.rec (fun n => Nat.ble (Nat.succ m) n) (fun _ => false) b) (fun m b => Int.rec (fun _ => true) (fun n => Nat.ble (Nat.succ n) m) b) a b
def xB (a b : Int) : Bool := Int.rec (motive := fun _ => Int → Bool) (fun m b => Int.rec (fun n => Nat.beq m n) (fun _ => false) b) (fun m b => Int.rec (fun _ => false) (fun n => Nat.beq m n) b) a b
def wS (k : IntKind) (top : Nat) (n : Int) : Int := Int.rec (fun m => Bool.rec (k.wrap (.ofNat m)) (.ofNat m) (Nat.ble m top)) (fun m => Bool.rec (k.wrap (.negSucc m)) (.negSucc m) (Nat.ble m top)) n
def wU (k : IntKind) (size : Nat) (n : Int) : Int := Int.rec (fun m => .ofNat (Nat.mod m size)) (fun m => k.wrap (.negSucc m)) n
def iR (k : IntKind) : Int → Int := IntKind.rec (motive := fun _ => Int → Int) (wS .i8 127) (wS .i16 32767) (wS .i32 2147483647) (wS .i64 9223372036854775807) (wU .u8 256) (wU .u16 65536) (wU .u32 4294967296) (wU .u64 18446744073709551616) k
def iT (k : IntKind) : Nat := IntKind.rec 8 16 32 64 8 16 32 64 k
def Ts (k : IntKind) : Nat := IntKind.rec 0 1 2 3 4 5 6 7 k
def nh (a b : IntKind) : Bool := Nat.beq (Ts a) (Ts b)
def Ce (f : Nat → Nat → Nat) (k : IntKind) (a b : Int) : AV := Int.rec (fun m => Int.rec (fun n => .int k (iR k (.ofNat (f (Nat.mod m (Nat.pow 2 (iT k))) (Nat.mod n (Nat.pow 2 (iT k))))))) (fun _ => .undef) b) (fun _ => .undef) a
inductive OI where
 | no
 | yes (k : IntKind) (n : Int)
inductive OB where
 | no
 | yes (b : Bool)
inductive OS where
 | no
 | yes (l : List Nat)
inductive OP where
 | no
 | yes (i : P4) (o : Nat)
inductive OL where
 | no
 | yes (l : List AV)
inductive OM where
 | no
 | nil
 | yes (i : P4)
inductive OC where
 | no
 | yes (k : FloatKind) (a b : Nat)
inductive OF where
 | no
 | yes (k : FloatKind) (a : Nat)
inductive SH where
 | no
 | nil
 | ex (i : P4) (o n c : Nat)
 | rs (i : P4) (o n e : Nat)
inductive Tt where
 | no
 | yes (el n : Nat) (ex : Bool) (fl : Fl) (c : Cl)
inductive Tu where
 | no
 | yes (l : List KV) (clock : Nat)
inductive SI where
 | no
 | yes (f : Nat) (cs : List AV)
inductive Sq where
 | no
 | nil
 | yes (t : Nat) (v : AV)
def AV.asInt (x : AV) : OI := AV.rec (motive_2 := fun _ => PUnit) .no (fun _ => .no) (fun k n => .yes k n) (fun _ => .no) (fun _ _ => .no) (fun _ _ _ => .no) (fun _ _ => .no) .no (fun _ _ _ _ => .no) (fun _ _ _ _ => .no) .no (fun _ => .no) .no (fun _ _ _ => .no) .no (fun _ _ _ => .no) .no (fun _ _ => .no) (fun _ _ => .no) (fun _ => .no) PUnit.unit (fun _ _ _ _ => PUnit.unit) x
def AV.asBool (x : AV) : OB := AV.rec (motive_2 := fun _ => PUnit) .no (fun b => .yes b) (fun _ _ => .no) (fun _ => .no) (fun _ _ => .no) (fun _ _ _ => .no) (fun _ _ => .no) .no (fun _ _ _ _ => .no) (fun _ _ _ _ => .no) .no (fun _ => .no) .no (fun _ _ _ => .no) .no (fun _ _ _ => .no) .no (fun _ _ => .no) (fun _ _ => .no) (fun _ => .no) PUnit.unit (fun _ _ _ _ => PUnit.unit) x
def AV.Cg (x : AV) : OS := AV.rec (motive_2 := fun _ => PUnit) .no (fun _ => .no) (fun _ _ => .no) (fun l => .yes l) (fun _ _ => .no) (fun _ _ _ => .no) (fun _ _ => .no) .no (fun _ _ _ _ => .no) (fun _ _ _ _ => .no) .no (fun _ => .no) .no (fun _ _ _ => .no) .no (fun _ _ _ => .no) .no (fun _ _ => .no) (fun _ _ => .no) (fun _ => .no) PUnit.unit (fun _ _ _ _ => PUnit.unit) x
def AV.kV (x : AV) : OP := AV.rec (motive_2 := fun _ => PUnit) .no (fun _ => .no) (fun _ _ => .no) (fun _ => .no) (fun _ _ => .no) (fun _ _ _ => .no) (fun i o => .yes i o) .no (fun _ _ _ _ => .no) (fun _ _ _ _ => .no) .no (fun _ => .no) .no (fun _ _ _ => .no) .no (fun _ _ _ => .no) .no (fun _ _ => .no) (fun _ _ => .no) (fun _ => .no) PUnit.unit (fun _ _ _ _ => PUnit.unit) x
def AV.asAgg (x : AV) : OL := AV.rec (motive_2 := fun _ => PUnit) .no (fun _ => .no) (fun _ _ => .no) (fun _ => .no) (fun _ _ => .no) (fun _ _ _ => .no) (fun _ _ => .no) .no (fun _ _ _ _ => .no) (fun _ _ _ _ => .no) .no (fun _ => .no) .no (fun _ _ _ => .no) .no (fun _ _ _ => .no) .no (fun l _ => .yes l) (fun _ _ => .no) (fun _ => .no) PUnit.unit (fun _ _ _ _ => PUnit.unit) x
def AV.FO (x : AV) : OL := AV.rec (motive_2 := fun _ => PUnit) .no (fun _ => .no) (fun _ _ => .no) (fun _ => .no) (fun _ _ => .no) (fun _ _ _ => .no) (fun _ _ => .no) .no (fun _ _ _ _ => .no) (fun _ _ _ _ => .no) .no (fun _ => .no) .no (fun _ _ _ => .no) .no (fun _ _ _ => .no) .no (fun _ _ => .no) (fun l _ => .yes l) (fun _ => .no) PUnit.unit (fun _ _ _ _ => PUnit.unit) x
def AV.Ch (x : AV) : OM := AV.rec (motive_2 := fun _ => PUnit) .no (fun _ => .no) (fun _ _ => .no) (fun _ => .no) (fun _ _ => .no) (fun _ _ _ => .no) (fun _ _ => .no) .no (fun _ _ _ _ => .no) (fun _ _ _ _ => .no) .no (fun i => .yes i) .nil (fun _ _ _ => .no) .no (fun _ _ _ => .no) .no (fun _ _ => .no) (fun _ _ => .no) (fun _ => .no) PUnit.unit (fun _ _ _ _ => PUnit.unit) x
def AV.Ov (x : AV) : OC := AV.rec (motive_2 := fun _ => PUnit) .no (fun _ => .no) (fun _ _ => .no) (fun _ => .no) (fun _ _ => .no) (fun k a b => .yes k a b) (fun _ _ => .no) .no (fun _ _ _ _ => .no) (fun _ _ _ _ => .no) .no (fun _ => .no) .no (fun _ _ _ => .no) .no (fun _ _ _ => .no) .no (fun _ _ => .no) (fun _ _ => .no) (fun _ => .no) PUnit.unit (fun _ _ _ _ => PUnit.unit) x
def AV.QN (x : AV) : OF := AV.rec (motive_2 := fun _ => PUnit) .no (fun _ => .no) (fun _ _ => .no) (fun _ => .no) (fun k a => .yes k a) (fun _ _ _ => .no) (fun _ _ => .no) .no (fun _ _ _ _ => .no) (fun _ _ _ _ => .no) .no (fun _ => .no) .no (fun _ _ _ => .no) .no (fun _ _ _ => .no) .no (fun _ _ => .no) (fun _ _ => .no) (fun _ => .no) PUnit.unit (fun _ _ _ _ => PUnit.unit) x
def AV.QO (x : AV) : SH := AV.rec (motive_2 := fun _ => PUnit) .no (fun _ => .no) (fun _ _ => .no) (fun _ => .no) (fun _ _ => .no) (fun _ _ _ => .no) (fun _ _ => .no) .no (fun i o n c => .ex i o n c) (fun i o n e => .rs i o n e) .nil (fun _ => .no) .no (fun _ _ _ => .no) .no (fun _ _ _ => .no) .no (fun _ _ => .no) (fun _ _ => .no) (fun _ => .no) PUnit.unit (fun _ _ _ _ => PUnit.unit) x
def AV.QP (x : AV) : SI := AV.rec (motive_2 := fun _ => PUnit) .no (fun _ => .no) (fun _ _ => .no) (fun _ => .no) (fun _ _ => .no) (fun _ _ _ => .no) (fun _ _ => .no) .no (fun _ _ _ _ => .no) (fun _ _ _ _ => .no) .no (fun _ => .no) .no (fun f cs _ => .yes f cs) .no (fun _ _ _ => .no) .no (fun _ _ => .no) (fun _ _ => .no) (fun _ => .no) PUnit.unit (fun _ _ _ _ => PUnit.unit) x
def AV.Ow (x : AV) : Sq := AV.rec (motive_2 := fun _ => PUnit) .no (fun _ => .no) (fun _ _ => .no) (fun _ => .no) (fun _ _ => .no) (fun _ _ _ => .no) (fun _ _ => .no) .no (fun _ _ _ _ => .no) (fun _ _ _ _ => .no) .no (fun _ => .no) .no (fun _ _ _ => .no) .no (fun t v _ => .yes t v) .nil (fun _ _ => .no) (fun _ _ => .no) (fun _ => .no) PUnit.unit (fun _ _ _ _ => PUnit.unit) x
inductive EB where
 | yes
 | no
 | bad
def AV.isNil (x : AV) : EB := AV.rec (motive_2 := fun _ => PUnit) .bad (fun _ => .bad) (fun _ _ => .bad) (fun _ => .bad) (fun _ _ => .bad) (fun _ _ _ => .bad) (fun _ _ => .no) .yes (fun _ _ _ _ => .no) (fun _ _ _ _ => .no) .yes (fun _ => .no) .yes (fun _ _ _ => .no) .yes (fun _ _ _ => .no) .yes (fun _ _ => .bad) (fun _ _ => .bad) (fun _ => .bad) PUnit.unit (fun _ _ _ _ => PUnit.unit) x
def Obj.Ks (o : Obj) : Tt := Obj.rec .no .no (fun a b c d e => .yes a b c d e) (fun _ _ => .no) (fun _ _ => .no) (fun _ _ _ _ => .no) .no o
def Obj.Ch (o : Obj) : Tu := Obj.rec .no .no (fun _ _ _ _ _ => .no) (fun a b => .yes a b) (fun _ _ => .no) (fun _ _ _ _ => .no) .no o
def AV.eI {β : Type} (x : AV) (k : IntKind → Int → β) (e : β) : β := OI.rec e k x.asInt
def AV.bN {β : Type} (x : AV) (k : Bool → β) (e : β) : β := OB.rec e k x.asBool
def AV.kW {β : Type} (x : AV) (k : List Nat → β) (e : β) : β := OS.rec e k x.Cg
def AV.gn {β : Type} (x : AV) (k : P4 → Nat → β) (e : β) : β := OP.rec e k x.kV
def AV.qn {β : Type} (x : AV) (k : List AV → β) (e : β) : β := OL.rec e k x.asAgg
def AV.Ci {β : Type} (x : AV) (k : List AV → β) (e : β) : β := OL.rec e k x.FO
def AV.qo {β : Type} (x : AV) (k : P4 → β) (n e : β) : β := OM.rec e n k x.Ch
def AV.wg {β : Type} (x : AV) (k : FloatKind → Nat → Nat → β) (e : β) : β := OC.rec e k x.Ov
def AV.qp {β : Type} (x : AV) (k : FloatKind → Nat → β) (e : β) : β := OF.rec e k x.QN
def AV.oa {β : Type} (x : AV) (k k' : P4 → Nat → Nat → Nat → β) (n e : β) : β := SH.rec e n k k' x.QO
def AV.FP {β : Type} (x : AV) (k : Nat → List AV → β) (e : β) : β := SI.rec e k x.QP
def AV.DG {β : Type} (x : AV) (k : Nat → AV → β) (n e : β) : β := Sq.rec e n k x.Ow
def Obj.bp {β : Type} (o : Obj) (k : Nat → Nat → Bool → Fl → Cl → β) (e : β) : β := Tt.rec e k o.Ks
def Obj.qo {β : Type} (o : Obj) (k : List KV → Nat → β) (e : β) : β := Tu.rec e k o.Ch
def AV.one (x : AV) : Bool := AV.rec (motive_2 := fun _ => PUnit) false (fun _ => true) (fun _ _ => true) (fun _ => true) (fun _ _ => true) (fun _ _ _ => true) (fun _ _ => true) true (fun _ _ _ _ => true) (fun _ _ _ _ => true) true (fun _ => true) true (fun _ _ _ => true) true (fun _ _ _ => true) true (fun _ _ => false) (fun _ _ => false) (fun _ => false) PUnit.unit (fun _ _ _ _ => PUnit.unit) x
def AV.cs (x : AV) : List AV := OL.rec (.cons x .nil) (fun l => l) x.asAgg
def iU (a b : List Nat) : Bool := gG (β := List Nat → Bool) (fun b => List.rec true (fun _ _ _ => false) b)
 (fun x _ ih b => List.rec false (fun y b _ => Bool.rec false (ih b) (Nat.beq x y)) b) a b
def uM (a b : List Nat) : Bool := gG (β := List Nat → Bool) (fun b => List.rec false (fun _ _ _ => true) b)
 (fun x _ ih b => List.rec false (fun y b _ => Bool.rec (Nat.ble x y) (ih b) (Nat.beq x y)) b) a b
def od (a b : H) : Bool := Nat.beq a.nat b.nat
def rL (a b : P4) : Bool := P4.rec (fun a1 a2 a3 a4 => P4.rec (fun b1 b2 b3 b4 =>
 Bool.rec false (Bool.rec false (Bool.rec false (od a1 b1) (od a2 b2)) (od a3 b3)) (od a4 b4)) (fun _ _ => false) b) (fun m n => P4.rec (fun _ _ _ _ => false) (fun m2 n2 => Bool.rec false (Nat.beq n n2) (Nat.beq m m2)) b) a
def jW (a b : Bool) : Bool := Bool.rec (Bool.rec true false b) b a
def EB.of (b : Bool) : EB := Bool.rec .no .yes b
def jX (o : Obj) : Bool := Obj.bp o (fun _ _ _ fl _ => Fl.rec true false false false fl) false
inductive KK where
 | b | i | s | p
def Sr (x y : AV) : EB := OB.rec .bad (fun a => OB.rec .bad (fun b => .of (jW a b)) y.asBool) x.asBool
def TH (x y : AV) : EB := OI.rec .bad (fun k a => OI.rec .bad (fun k' b => Bool.rec .bad (.of (xB a b)) (nh k k')) y.asInt) x.asInt
def TI (x y : AV) : EB := OS.rec .bad (fun a => OS.rec .bad (fun b => .of (iU a b)) y.Cg) x.Cg
def pr (x : AV) : Bool := AV.rec (motive_2 := fun _ => PUnit) false (fun _ => false) (fun _ _ => false) (fun _ => false) (fun _ _ => false) (fun _ _ _ => false) (fun _ _ => false) true (fun _ _ _ _ => false) (fun _ _ _ _ => false) false (fun _ => false) false (fun _ _ _ => false) false (fun _ _ _ => false) false (fun _ _ => false) (fun _ _ => false) (fun _ => false) PUnit.unit (fun _ _ _ _ => PUnit.unit) x
def QQ (h : Hp) (x y : AV) : EB := OP.rec (Bool.rec .bad (OP.rec (Bool.rec .bad .yes (pr y)) (fun _ _ => .no) y.kV) (pr x)) (fun i o => OP.rec (Bool.rec .bad .no (pr y)) (fun j q => Bool.rec (Bool.rec .bad (Bool.rec .bad .no (jX (ah j h))) (jX (ah i h))) (.of (Nat.beq o q)) (rL i j)) y.kV) x.kV
def FQ (k : KK) (h : Hp) (x y : AV) : EB := KK.rec (Sr x y) (TH x y) (TI x y) (QQ h x y) k
def uN (ks : List KK) (h : Hp) (a b : List AV) : EB := gG (β := List AV → List AV → EB) (fun a b => List.rec (List.rec .yes (fun _ _ _ => .bad) b) (fun _ _ _ => .bad) a)
 (fun k _ ih a b => List.rec .bad (fun x a _ => List.rec .bad (fun y b _ => EB.rec (ih a b) (EB.rec .no .no .bad (ih a b)) .bad (FQ k h x y)) b) a) ks a b
def EB.rv (neg : Bool) (h : Hp) (e : EB) : RV := EB.rec (.ok (.bool (Bool.not neg)) h) (.ok (.bool neg) h) (.err 2) e
def QR (_ : Hp) (x y : AV) : EB := AV.DG x (fun t _ => AV.DG y (fun u _ => Bool.rec .no .bad (Nat.beq t u)) .no .bad)
 (AV.DG y (fun _ _ => .no) .bad .bad) .bad
inductive Part where
 | mk (off sz : Nat) (x : AO)
inductive NK where
 | s | m | f | i
def Ox (x : AV) : EB := AV.rec (motive_2 := fun _ => PUnit) .bad (fun _ => .bad) (fun _ _ => .bad) (fun _ => .bad) (fun _ _ => .bad) (fun _ _ _ => .bad) (fun _ _ => .bad) .bad (fun _ _ _ _ => .bad) (fun _ _ _ _ => .bad) .bad (fun _ => .bad) .bad (fun _ _ _ => .no) .yes (fun _ _ _ => .bad) .bad (fun _ _ => .bad) (fun _ _ => .bad) (fun _ => .bad) PUnit.unit (fun _ _ _ _ => PUnit.unit) x
def rN (k : NK) (x : AV) : EB := NK.rec (SH.rec .bad .yes (fun _ _ _ _ => .no) (fun _ _ _ _ => .no) x.QO) (OM.rec .bad .yes (fun _ => .no) x.Ch) (Ox x) (Sq.rec .bad .yes (fun _ _ => .no) x.Ow) k
inductive BK where
 | add | sub | mul | quo | rem | and | or | xor | QS | shl | shr
 | eq | ne | lt | le | gt | ge
 | seq | So | slt | sle | Tv | Tw | cat
 | beq | bne | rL | SE | jB (k : NK) | qt (k : NK)
 | Tx (ks : List KK) | Oi (ks : List KK)
 | Ty (op : BinOp)
 | Tz (op : BinOp)
 | xB | TJ
inductive UK where
 | not | neg | TA
inductive CK where
 | same | toInt (k : IntKind) | Qy (el : Nat) | Kh | TX | TK (k : FloatKind) | TL (k : IntKind) | TM (el : Nat) | SD | FB (u sz : Nat)
inductive OA where
 | none
 | some (x : AO)
def Ku (v : AV) (h : Hp) : RV := EB.rec (.ok v h) (.err 3) (.err 3) (OI.rec (OB.rec .bad (fun _ => .yes) v.asBool) (fun _ _ => .yes) v.asInt)
def Aq (f : IntKind → Int → Int → AV) (x y : AV) (h : Hp) : RV := AV.eI x (fun k a => AV.eI y (fun k' b => Bool.rec (.err 4) (.ok (f k a b) h) (nh k k')) (.err 4)) (.err 4)
def Kv (f : IntKind → Int → Int → AV) (x y : AV) (h : Hp) : RV := AV.eI x (fun k a => AV.eI y (fun k' b => Bool.rec (.err 4) (Ku (f k a b) h) (nh k k')) (.err 4)) (.err 4)
def Kw (f : List Nat → List Nat → AV) (x y : AV) (h : Hp) : RV := AV.kW x (fun a => AV.kW y (fun b => .ok (f a b) h) (.err 5)) (.err 5)
def Qz (f : IntKind → Int → Int → AV) (x y : AV) (h : Hp) : RV := AV.eI x (fun k a => AV.eI y (fun _ b => Ku (f k a b) h) (.err 6)) (.err 6)
def Oy (k : IntKind) (a b : Int) : AV := Int.rec (fun n => .int k (iR k (Kq a (.ofNat (Nat.pow 2 (Nat.min n (iT k))))))) (fun _ => .undef) b
def Oz (k : IntKind) (a b : Int) : AV := Int.rec (fun n => Int.rec (fun m => .int k (.ofNat (Nat.div m (Nat.pow 2 (Nat.min n (iT k)))))) (fun m => .int k (Int.fdiv (.negSucc m) (2 ^ (Nat.min n (iT k))))) a) (fun _ => .undef) b
def Kx (k : FloatKind) (op : BinOp) (a b : Nat) (h : Hp) : RV :=
 let c := k.format.order a b
 match op with
 | .eql => .ok (.bool (c == some .eq)) h
 | .neq => .ok (.bool (c != some .eq)) h
 | .lss => .ok (.bool (c == some .lt)) h
 | .leq => .ok (.bool (c == some .lt || c == some .eq)) h
 | .gtr => .ok (.bool (c == some .gt)) h
 | .geq => .ok (.bool (c == some .gt || c == some .eq)) h
 | .add => match k.format.add a b with | some r => .ok (.qP k r) h | none => .err 7
 | .sub => match k.format.sub a b with | some r => .ok (.qP k r) h | none => .err 7
 | .mul => match k.format.mul a b with | some r => .ok (.qP k r) h | none => .err 7
 | .quo => match k.format.div a b with | some r => .ok (.qP k r) h | none => .err 7
 | _ => .err 7
def Cj (k : FloatKind) (op : BinOp) (a b c d : Nat) (h : Hp) : RV :=
 match op with
 | .add => match k.format.add a c, k.format.add b d with | some r, some s => .ok (.gN k r s) h | _, _ => .err 8
 | .sub => match k.format.sub a c, k.format.sub b d with | some r, some s => .ok (.gN k r s) h | _, _ => .err 8
 | .eql => .ok (.bool (k.format.order a c == some .eq && k.format.order b d == some .eq)) h
 | .neq => .ok (.bool (!(k.format.order a c == some .eq && k.format.order b d == some .eq))) h
 | _ => .err 8
def wi (a b : FloatKind) : Bool := FloatKind.rec (FloatKind.rec true false b) (FloatKind.rec false true b) a
def qu : AV → AV → Hp → RV := Aq (fun k a b => .int k (iR k (Oq a b)))
def kU : AV → AV → Hp → RV := Aq (fun k a b => .int k (iR k (Oq a (Ot b))))
def uF : AV → AV → Hp → RV := Aq (fun k a b => .int k (iR k (Kq a b)))
def Nl : AV → AV → Hp → RV := Kv (fun k a b => Bool.rec (.int k (iR k (Ou a b))) .undef (xB b (.ofNat 0)))
def BZ : AV → AV → Hp → RV := Kv (fun k a b => Bool.rec (.int k (FN a b)) .undef (xB b (.ofNat 0)))
def FE : AV → AV → Hp → RV := Kv (Ce Nat.land)
def Fy : AV → AV → Hp → RV := Kv (Ce Nat.lor)
def rK : AV → AV → Hp → RV := Kv (Ce Nat.xor)
def FR : AV → AV → Hp → RV := Aq (fun k a b => .int k (k.wrap (BitVec.ofInt k.bits a &&& ~~~BitVec.ofInt k.bits b).toNat))
def DH : AV → AV → Hp → RV := Aq (fun _ a b => .bool (xB a b))
def ig : AV → AV → Hp → RV := Aq (fun _ a b => .bool (Bool.not (xB a b)))
def pq : AV → AV → Hp → RV := Aq (fun _ a b => .bool (Kr a b))
def FC : AV → AV → Hp → RV := Aq (fun _ a b => .bool (QM a b))
def cB : AV → AV → Hp → RV := Aq (fun _ a b => .bool (Kr b a))
def we : AV → AV → Hp → RV := Aq (fun _ a b => .bool (QM b a))
def xO : AV → AV → Hp → RV := Kw (fun a b => .bool (iU a b))
def xQ : AV → AV → Hp → RV := Kw (fun a b => .bool (Bool.not (iU a b)))
def Nm : AV → AV → Hp → RV := Kw (fun a b => .bool (uM a b))
def Nn : AV → AV → Hp → RV := Kw (fun a b => .bool (Bool.not (uM b a)))
def Np : AV → AV → Hp → RV := Kw (fun a b => .bool (uM b a))
def Nq : AV → AV → Hp → RV := Kw (fun a b => .bool (Bool.not (uM a b)))
def FT (x y : AV) (h : Hp) : RV := AV.kW x (fun a => AV.kW y (fun b => Bool.rec (.err 135) (.ok (.str (List.append a b)) h) (Nat.ble (Nat.add a.length b.length) 4294967296)) (.err 5)) (.err 5)
def xT (neg : Bool) (ks : List KK) (x y : AV) (h : Hp) : RV := AV.qn x (fun a => AV.qn y (fun b => EB.rv neg h (uN ks h a b)) (.err 10)) (.err 10)
def FU (op : BinOp) (x y : AV) (h : Hp) : RV := AV.qp x (fun k a => AV.qp y (fun k' b => Bool.rec (.err 7) (Kx k op a b h) (wi k k')) (.err 7)) (.err 7)
def FV (op : BinOp) (x y : AV) (h : Hp) : RV := AV.wg x (fun k a b => AV.wg y (fun k' c d => Bool.rec (.err 8) (Cj k op a b c d h) (wi k k')) (.err 8)) (.err 8)
def bK (op : BK) : AV → AV → Hp → RV := BK.rec (motive := fun _ => AV → AV → Hp → RV) qu kU uF Nl BZ FE Fy rK FR (Qz Oy) (Qz Oz) DH ig pq FC cB we xO xQ Nm Nn Np Nq FT (fun x y h => EB.rv false h (Sr x y)) (fun x y h => EB.rv true h (Sr x y)) (fun x y h => EB.rv false h (QQ h x y)) (fun x y h => EB.rv true h (QQ h x y)) (fun k x _ h => EB.rv false h (rN k x)) (fun k x _ h => EB.rv true h (rN k x)) (xT false) (xT true) FU FV (fun x y h => EB.rv false h (QR h x y)) (fun x y h => EB.rv true h (QR h x y)) op
def Nr (op : BK) (x y : AO) (r : A2) (h : Hp) : RV := bK op (ev x r) (ev y r) h
def jz (x : AV) (h : Hp) : RV := AV.bN x (fun b => .ok (.bool (Bool.not b)) h) (.err 11)
def Ca (x : AV) (h : Hp) : RV := AV.eI x (fun k n => .ok (.int k (iR k (Ot n))) h) (.err 11)
def Cb (x : AV) (h : Hp) : RV := AV.eI x (fun k n => .ok (.int k (k.wrap (BitVec.ofInt k.bits (if k.signed then -1 else k.max) ^^^ BitVec.ofInt k.bits n).toNat)) h) (.err 11)
def Ky (op : UK) (x : AO) (r : A2) (h : Hp) : RV := UK.rec (motive := fun _ => AV → Hp → RV) jz Ca Cb op (ev x r) h
def Kz (x : AO) (r : A2) (h : Hp) : RV := .ok (ev x r) h
def dX (c a b : AO) (r : A2) (h : Hp) : RV := AV.bN (ev c r) (fun t => .ok (Bool.rec (ev b r) (ev a r) t) h) (.err 12)
def um : P4 → Hp → RV := fun i h => .ok (.ptr i 0) h
def ij (el : Nat) (ex : Bool) (fl : Fl) (n : Nat) (c : Cl) (h : Hp) (k : P4 → Hp → RV) : RV := Bool.rec (.err 130) (nd (.cells el n ex fl c) h k) (Nat.ble n (Ap c))
def KA (el : Nat) (l : List AV) (h : Hp) : RV := ij el true .plain l.length (ng l) h um
def Ck (el n : Nat) (c : Cl) (_ : A2) (h : Hp) : RV := ij el true .plain n c h um
def xU (el : Nat) (x : AO) (r : A2) (h : Hp) : RV := OL.rec (Bool.rec (.err 134) (KA el (.cons (ev x r) .nil) h) (ev x r).one) (fun l => KA el l h) (ev x r).asAgg
def KB (l : List AV) (i : Nat) (v : AV) : List AV := gG (β := Nat → List AV) (fun _ => .nil)
 (fun x t ih i => Nat.rec (.cons v t) (fun i _ => .cons x (ih i)) i) l i
def mM (vs : List AV) : Nat → List AV → List AV := gG (fun _ l => l) (fun v _ ih i l => ih (Nat.succ i) (KB l i v)) vs
def fill (ps : List Part) (r : A2) : List AV → List AV := gG (fun l => l)
 (fun p _ ih l => Part.rec (fun off _ x => ih (mM (AV.cs (ev x r)) off l)) p) ps
def fits (ps : List Part) (r : A2) : Bool := gG true (fun p _ ih => Part.rec (fun _ sz x => OL.rec (Bool.rec false ih (Bool.and (ev x r).one (Nat.beq sz 1))) (fun l => Bool.rec false ih (Nat.beq l.length sz)) (ev x r).asAgg) p) ps
def jY (z : List AV) (ps : List Part) (r : A2) (h : Hp) : RV := Bool.rec (.err 132) (.ok (.agg (fill ps r z)) h) (fits ps r)
def Cm (el n : Nat) (l : List AV) (h : Hp) : RV := ij el true .plain l.length (ng l) h (fun i h => .ok (.slice i 0 n n) h)
def gp (el es n : Nat) (z : List AV) (ps : List Part) (r : A2) (h : Hp) : RV := Bool.rec (.err 133) (Cm el n (fill ps r z) h) (fits ps r)
def FW (i n : Nat) : Bool := Nat.ble (Nat.succ i) n
def qv (x : AO) (r : A2) (h : Hp) : RV := AV.gn (ev x r) (fun i o => Obj.bp (ah i h) (fun _ n _ _ c =>
 Bool.rec (.err 13) (.ok (eP o c) h) (FW o n)) (.err 14)) (.err 15)
def qw (m : Nat) (x : AO) (r : A2) (h : Hp) : RV := AV.gn (ev x r) (fun i o => Obj.bp (ah i h) (fun _ n _ _ c =>
 Bool.rec (.err 16) (.ok (.agg (bP m c o)) h) (Nat.ble (Nat.add o m) n)) (.err 17)) (.err 18)
def wr (fl : Fl) : Bool := Fl.rec true true false false fl
def FX (fl : Fl) : Bool := Fl.rec false false false true fl
def xV (x y : AO) (r : A2) (h : Hp) : RV := AV.gn (ev x r) (fun i o => Obj.bp (ah i h) (fun el n ex fl c =>
 Bool.rec (.err 19) (Bool.rec (.err 20) (.ok .undef (dY i (.cells el n ex fl (lu o (ev y r) c)) h)) (Bool.and (FW o n) (ev y r).one)) (wr fl)) (.err 21)) (.err 22)
def xW (m : Nat) (x y : AO) (r : A2) (h : Hp) : RV := AV.gn (ev x r) (fun i o => Obj.bp (ah i h) (fun el n ex fl c =>
 Bool.rec (.err 23) (Bool.rec (.err 24) (AV.qn (ev y r) (fun l => Bool.rec (.err 25) (.ok .undef (dY i (.cells el n ex fl (cH l o c)) h)) (Nat.beq l.length m)) (.err 26)) (Nat.ble (Nat.add o m) n)) (wr fl)) (.err 27)) (.err 28)
def qQ (x : AV) (h : Hp) : RV := EB.rec (.err 30) (.ok x h) (.err 29) x.isNil
def pv (x : AO) (r : A2) (h : Hp) : RV := OP.rec (qQ (ev x r) h) (fun i o => .ok (.ptr i o) h) (ev x r).kV
def QT (k : IntKind) : Bool := IntKind.rec false false false false true false false false k
def QU (k : IntKind) : Bool := IntKind.rec false false false true false false false false k
def gO (l : List AV) (k : List Nat → RV) (e : RV) : RV := gG (β := (List Nat → RV) → RV) (fun k => k .nil)
 (fun x _ ih k => AV.eI x (fun kd n => Bool.rec e (Int.rec (fun m => Bool.rec e (ih (fun s => k (.cons m s))) (Nat.ble m 255)) (fun _ => e) n) (QT kd)) e) l k
def byteCells (s : List Nat) : List AV := gG .nil (fun b _ ih => .cons (.int .u8 (.ofNat b)) ih) s
def iV (es : Nat) (i : P4) (o n : Nat) (h : Hp) (k : List AV → RV) (e : RV) : RV := Nat.rec (k .nil) (fun n _ => Obj.bp (ah i h) (fun _ m _ _ c => Bool.rec e (k (bP (Nat.mul (Nat.succ n) es) c o)) (Nat.ble (Nat.add o (Nat.mul (Nat.succ n) es)) m)) e) n
def elems (es : Nat) (x : AV) (h : Hp) (k : List AV → RV) (e : RV) : RV := AV.oa x
 (fun i o n _ => iV es i o n h k e)
 (fun i o n es' => Bool.rec e (iV es i o n h k e) (Nat.beq es es'))
 (k .nil) e
def ma (el : Nat) (fl : Fl) (es : Nat) (n : Nat) (l : List AV) (h : Hp) : RV := ij el false fl l.length (ng l) h (fun i h => .ok (.ft i 0 n es) h)
def KC (s : List Nat) : List AV := (Conv.runesFrom ⟨(s.map UInt8.ofNat).toArray⟩ s.length 0 #[]).toList.filterMap fun | .int _ n => some (.int .i32 n) | _ => none
def FY (el : Nat) (l : List AV) (h : Hp) : RV := ma el .plain 1 l.length l h
def Ns (el : Nat) (x : AV) (h : Hp) : RV := AV.kW x (fun s => ma el .mark 1 s.length (byteCells s) h) (.err 32)
def wj (k : IntKind) (x : AV) (h : Hp) : RV := AV.eI x (fun _ n => .ok (.int k (iR k n)) h) (.err 31)
def FZ (x : AV) (h : Hp) : RV := elems 1 x h (fun l => gO l (fun s => .ok (.str s) h) (.err 33)) (.err 34)
def Nt (x : AV) (h : Hp) : RV := AV.eI x (fun _ n => .ok (.str ((Utf8.encode n).data.toList.map (·.toNat))) h) (.err 35)
def Ga (k : FloatKind) (x : AV) (h : Hp) : RV := AV.eI x (fun _ n => .ok (.qP k (k.nearest n)) h) (.err 36)
def Gb (k : IntKind) (x : AV) (h : Hp) : RV := AV.qp x (fun s b => match (s.decode b).toInt .zero with | some n => if k.min ≤ n ∧ n ≤ k.max then .ok (.int k n) h else .err 37 | none => .err 37) (.err 37)
def QV (el : Nat) (x : AV) (h : Hp) : RV := AV.kW x (fun s => FY el (KC s) h) (.err 38)
def Gc (x : AV) (h : Hp) : RV := AV.kW x (fun s => .ok (.str s) h) (.err 38)
def Ge (x : AV) (h : Hp) : RV := OP.rec (Bool.rec (.err 190) (.ok x h) (pr x)) (fun i o => Obj.bp (ah i h) (fun _ n ex _ _ => Bool.rec (.err 191) (.ok x h) (Bool.and ex (FW o n))) (.err 192)) x.kV
def wk (u sz : Nat) (x : AV) (h : Hp) : RV := OP.rec (Bool.rec (.err 190) (.ok x h) (pr x)) (fun i o => Obj.bp (ah i h) (fun el n ex _ _ => Bool.rec (.err 193) (.ok x h) (Bool.and ex (Bool.and (Nat.beq o 0) (Bool.and (Nat.beq el u) (Nat.beq n sz))))) (.err 194)) x.kV
def cK (op : CK) : AV → Hp → RV := CK.rec (motive := fun _ => AV → Hp → RV) Gc wj Ns FZ Nt Ga Gb QV Ge wk op
def rO (op : CK) (x : AO) (r : A2) (h : Hp) : RV := cK op (ev x r) h
def xX (t : Nat) (x : AO) (r : A2) (h : Hp) : RV := .ok (.iface t (ev x r)) h
def fR (xs : List AO) (r : A2) : List AV := gG .nil (fun x _ ih => .cons (ev x r) ih) xs
def xY (f : Nat) (xs : List AO) (r : A2) (h : Hp) : RV := .ok (.fn f (fR xs r)) h
def ri (_ : A2) (h : Hp) : RV := nd (.map .nil 0) h (fun i h => .ok (.map i) h)
def fc (n : Nat) (z : List AV) : List AV := Nat.rec .nil (fun _ ih => List.append z ih) n
def ik (x : AV) (k : Nat → RV) (e : RV) : RV := AV.eI x (fun _ n => Int.rec k (fun _ => e) n) e
def QW (el l c : Nat) (v : List AV) (h : Hp) : RV := ij el true .plain v.length (ng v) h (fun i h => .ok (.slice i 0 l c) h)
def fh (el : Nat) (z : List AV) (l c : AO) (r : A2) (h : Hp) : RV := ik (ev l r) (fun l => ik (ev c r) (fun c =>
 Bool.rec (.err 39) (Bool.rec (.err 40) (QW el l c (fc c z) h) (Nat.ble c 1048576)) (Nat.ble l c)) (.err 41)) (.err 41)
def fS (x : OA) (d : Nat) (r : A2) (k : Nat → RV) (e : RV) : RV := OA.rec (k d) (fun x => ik (ev x r) k e) x
def isSome (x : OA) : Bool := OA.rec false (fun _ => true) x
def Gf (es : Nat) (i : P4) (o a b m cap : Nat) (h : Hp) : RV := Bool.rec (.err 42) (Bool.rec (.err 42) (Bool.rec (.err 42) (.ok (.slice i (Bool.rec (Nat.add o (Nat.mul a es)) o (Nat.beq m a)) (Nat.sub b a) (Nat.sub m a)) h) (Nat.ble m cap)) (Nat.ble b m)) (Nat.ble a b)
def Nu (es : Nat) (i : P4) (o a b : Nat) (h : Hp) : RV := Bool.rec (.err 42) (Obj.bp (ah i h) (fun _ k _ _ _ =>
 Bool.rec (.err 45) (.ok (.ft i (Nat.add o (Nat.mul a es)) (Nat.sub b a) es) h) (Nat.ble (Nat.add o (Nat.mul b es)) k)) (.err 46)) (Nat.ble a b)
def Nv (es : Nat) (i : P4) (o a b m : Nat) (h : Hp) : RV := Bool.rec (.err 42) (Bool.rec (.err 42) (Obj.bp (ah i h) (fun _ k _ _ _ =>
 Bool.rec (.err 45) (.ok (.slice i (Bool.rec (Nat.add o (Nat.mul a es)) o (Nat.beq m a)) (Nat.sub b a) (Nat.sub m a)) h) (Nat.ble (Nat.add o (Nat.mul m es)) k)) (.err 46)) (Bool.and (Nat.ble 1 m) (Nat.ble b m))) (Nat.ble a b)
def fu (es : Nat) (x : AO) (lo hi mx : OA) (r : A2) (h : Hp) : RV := AV.oa (ev x r)
 (fun i o n cap => fS mx cap r (fun m => fS hi n r (fun b => fS lo 0 r (fun a => Gf es i o a b m cap h) (.err 43)) (.err 43)) (.err 43))
 (fun i o n es' => Bool.rec (.err 44) (fS hi n r (fun b => fS lo 0 r (fun a => Bool.rec (Nu es i o a b h) (fS mx 0 r (fun m => Nv es i o a b m h) (.err 43)) (isSome mx)) (.err 43)) (.err 43)) (Nat.beq es es'))
 (fS mx 0 r (fun m => fS hi 0 r (fun b => fS lo 0 r (fun a => Bool.rec (.err 47) (.ok .ai h) (Nat.beq (Nat.add m (Nat.add a b)) 0)) (.err 43)) (.err 43)) (.err 43))
 (.err 48)
def fw (x : AO) (lo hi : OA) (r : A2) (h : Hp) : RV := AV.kW (ev x r) (fun s => fS hi s.length r (fun b => fS lo 0 r (fun a =>
 Bool.rec (.err 49) (Bool.rec (.err 49) (.ok (.str (List.take (Nat.sub b a) (List.drop a s))) h) (Nat.ble b s.length)) (Nat.ble a b)) (.err 49)) (.err 49)) (.err 49)
def jU (len es : Nat) (x : AO) (lo hi mx : OA) (r : A2) (h : Hp) : RV := AV.gn (ev x r) (fun i o => fS mx len r (fun m => fS hi len r (fun b => fS lo 0 r (fun a => Gf es i o a b m len h) (.err 43)) (.err 43)) (.err 43)) (.err 50)
def rP (d : Nat) (x : AO) (r : A2) (h : Hp) : RV := AV.gn (ev x r) (fun i o => .ok (.ptr i (Nat.add o d)) h) (.err 51)
def Gg (d : Nat) (x : AO) (r : A2) (h : Hp) : RV := .err 9
def Gh (d n : Nat) (x : AO) (r : A2) (h : Hp) : RV := .err 9
def DJ (es : Nat) (i : P4) (o n k : Nat) (h : Hp) : RV := Bool.rec (.err 54) (.ok (.ptr i (Nat.add o (Nat.mul k es))) h) (FW k n)
def uO (es : Nat) (x y : AO) (r : A2) (h : Hp) : RV := ik (ev y r) (fun k => AV.oa (ev x r)
 (fun i o n _ => DJ es i o n k h) (fun i o n _ => DJ es i o n k h) (.err 54) (.err 55)) (.err 55)
def uP (len es : Nat) (x y : AO) (r : A2) (h : Hp) : RV := ik (ev y r) (fun k => AV.gn (ev x r) (fun i o => DJ es i o len k h) (.err 56)) (.err 56)
def Gi (x y : AO) (r : A2) (h : Hp) : RV := .err 9
def nc (len es : Nat) (agg : Bool) (x y : AO) (r : A2) (h : Hp) : RV := ik (ev y r) (fun k => AV.qn (ev x r) (fun l => Bool.rec (.err 58) (Bool.rec (List.rec (.err 58) (fun v _ _ => .ok v h) (List.drop (Nat.mul k es) l)) (Bool.rec (.err 58) (.ok (.agg (List.take es (List.drop (Nat.mul k es) l))) h) (Nat.ble (Nat.add (Nat.mul k es) es) l.length)) agg) (FW k len)) (.err 58)) (.err 58)
def uQ (i : Nat) (x : AO) (r : A2) (h : Hp) : RV := AV.Ci (ev x r) (fun l => List.rec (.err 59) (fun v _ _ => .ok v h) (List.drop i l)) (.err 59)
inductive KT where
 | one (k : KK)
 | agg (ks : List KK)
def Fs (t : KT) (a b : AV) (h : Hp) : EB := KT.rec (fun k => FQ k h a b) (fun ks => OL.rec .bad (fun l => OL.rec .bad (fun m => uN ks h l m) b.asAgg) a.asAgg) t
def Nw (kt : KT) (x : AV) (l : List KV) (h : Hp) (k : Nat → AV → Nat → RV) (n e : RV) : RV := gG (β := Nat → RV) (fun _ => n)
 (fun y _ ih i => KV.rec (fun a v born => EB.rec (k i v born) (ih (Nat.succ i)) e (Fs kt x a h)) y) l 0
def SJ (i : Nat) (key v : AV) (l : List KV) : List KV := gG (β := Nat → List KV) (fun _ => .nil)
 (fun y t ih i => Nat.rec (KV.rec (fun _ _ born => .cons (.mk key v born) t) y) (fun i _ => .cons y (ih i)) i) l i
def SK (i : Nat) (l : List KV) : List KV := gG (β := Nat → List KV) (fun _ => .nil) (fun y t ih i => Nat.rec t (fun i _ => .cons y (ih i)) i) l i
def QX (ok found : Bool) (v : AV) (h : Hp) : RV := .ok (Bool.rec v (.nZ (.cons v (.cons (.bool found) .nil))) ok) h
def Cn (t : KT) (x : AV) (h : Hp) : Bool := EB.rec true true false (Fs t x x h)
def Fq (t : KT) (z : AV) (ok : Bool) (x k : AV) (h : Hp) : RV := Bool.rec (.err 60) (AV.qo x (fun i => Obj.qo (ah i h) (fun l _ => Nw t k l h (fun _ v _ => QX ok true v h) (QX ok false z h) (.err 61)) (.err 62)) (QX ok false z h) (.err 63)) (Cn t k h)
def Co (t : KT) (z : AV) (ok : Bool) (x y : AO) (r : A2) (h : Hp) : RV := Fq t z ok (ev x r) (ev y r) h
def OE (t : KT) (x k v : AV) (h : Hp) : RV := .err 9
def QY (t : KT) (x y z : AO) (r : A2) (h : Hp) : RV := .err 9
def Ar (t : KT) (z x k : AV) (h : Hp) : RV := .err 9
def OG (t : KT) (z : AV) (x y : AO) (r : A2) (h : Hp) : RV := .err 9
def Au (x s v : AV) (h : Hp) : RV := .err 9
def OH (x y z : AO) (r : A2) (h : Hp) : RV := .err 9
def cM : AV := .nZ .nil
def del (t : KT) (x k : AV) (h : Hp) : RV := .err 9
def QZ (t : KT) (x y : AO) (r : A2) (h : Hp) : RV := .err 9
def iW (n : Nat) : AV := .int .i64 (.ofNat n)
def Gj (x : AO) (r : A2) (h : Hp) : RV := .err 9
def len (x : AV) (h : Hp) : RV := AV.oa x (fun _ _ n _ => .ok (iW n) h) (fun _ _ n _ => .ok (iW n) h) (.ok (iW 0) h) (.err 74)
def jA (x : AV) (h : Hp) : RV := AV.kW x (fun s => .ok (iW s.length) h) (.err 74)
def Cp (x : AO) (r : A2) (h : Hp) : RV := len (ev x r) h
def wm (x : AO) (r : A2) (h : Hp) : RV := jA (ev x r) h
def Nx (x : AO) (r : A2) (h : Hp) : RV := .err 9
def Av (mn : Bool) (a b : Int) : Int := Bool.rec (Bool.rec a b (Kr a b)) (Bool.rec a b (Kr b a)) mn
def xZ (mn : Bool) (k : IntKind) (h : Hp) (l : List AV) : Int → RV := gG (β := Int → RV) (fun a => .ok (.int k a) h) (fun y _ ih a => AV.eI y (fun k' b => Bool.rec (.err 76) (ih (Av mn a b)) (nh k k')) (.err 76)) l
def FD (mn : Bool) (l : List AV) (h : Hp) : RV := List.rec (.err 76) (fun x xs _ => AV.eI x (fun k a => xZ mn k h xs a) (.err 76)) l
def ya (mn : Bool) (xs : List AO) (r : A2) (h : Hp) : RV := FD mn (fR xs r) h
def jZ (i : P4) (o : Nat) (l : List AV) (h : Hp) (k : Hp → RV) : RV := Obj.bp (ah i h) (fun el n ex fl c => Bool.rec (.err 78) (Bool.rec (.err 79) (k (dY i (.cells el n ex fl (cH l o c)) h)) (Nat.ble (Nat.add o l.length) n)) (wr fl)) (.err 80)
def pw (el es n m : Nat) (old new : List AV) (h : Hp) : RV := ma el .plain es (Nat.add n m) (List.append old new) h
def mN (i : P4) (el k : Nat) (fl : Fl) (c : Cl) (n es : Nat) (h : Hp) : RV := ij el false fl k c (dY i .dead h) (fun j h => .ok (.ft j 0 n es) h)
def Gk (elt es m : Nat) (new : List AV) (i : P4) (o n : Nat) (h : Hp) : RV := Obj.bp (ah i h) (fun el k ex fl c => Bool.rec (.err 82) (Bool.rec (Bool.rec (.err 83) (Bool.rec (Bool.rec (mN i el (Nat.mul (Nat.add n m) es) fl (ng (List.append (bP (Nat.mul n es) c o) new)) (Nat.add n m) es h) (mN i el (Nat.mul (Nat.add n m) es) fl (cH new k (jV (Nat.mul (Nat.add n m) es) c)) (Nat.add n m) es h) (Bool.and (Nat.beq o 0) (Nat.beq (Nat.mul n es) k))) (.err 81) (Bool.or ex (Bool.not (Nat.beq elt el)))) (Nat.ble (Nat.add o (Nat.mul n es)) k)) (.ok (.ft i o (Nat.add n m) es) (dY i (.cells el k ex fl (cH new (Nat.add o (Nat.mul n es)) c)) h)) (Nat.ble (Nat.add o (Nat.mul (Nat.add n m) es)) k)) (wr fl)) (.err 84)
def mD (el es m : Nat) (new : List AV) (s : AV) (h : Hp) : RV := AV.oa s
 (fun i o n cap => Bool.rec (iV es i o n h (fun old => pw el es n m old new h) (.err 77)) (Nat.rec (.ok (.slice i o n cap) h) (fun m _ => jZ i (Nat.add o (Nat.mul n es)) new h (fun h => .ok (.slice i o (Nat.add n (Nat.succ m)) cap) h)) m) (Nat.ble (Nat.add n m) cap))
 (fun i o n es' => Bool.rec (.err 81) (Nat.rec (.ok (.ft i o n es) h) (fun m _ => Gk el es (Nat.succ m) new i o n h) m) (Nat.beq es es'))
 (Nat.rec (.ok .ai h) (fun m _ => pw el es 0 (Nat.succ m) .nil new h) m) (.err 85)
def yb (x : AV) (k : Nat → RV) (e : RV) : RV := AV.oa x (fun _ _ n _ => k n) (fun _ _ n _ => k n) (k 0) e
def df (el es : Nat) (x y : AV) (h : Hp) : RV := yb y (fun m => Bool.rec (.err 86) (elems es y h (fun new => mD el es m new x h) (.err 87)) (Nat.ble (Nat.mul m es) 4294967296)) (.err 88)
def uR (el es : Nat) (x y : AO) (r : A2) (h : Hp) : RV := df el es (ev x r) (ev y r) h
def Gm (el es : Nat) (z : List AV) (x y : AO) (r : A2) (h : Hp) : RV := .err 9
def jj (el : Nat) (x y : AO) (r : A2) (h : Hp) : RV := AV.kW (ev y r) (fun s => mD el 1 s.length (byteCells s) (ev x r) h) (.err 89)
def rQ (l : List AV) (s : AV) (h : Hp) (k : Hp → RV) : RV := List.rec (k h) (fun a t _ => AV.oa s
 (fun i o _ _ => jZ i o (.cons a t) h k) (fun i o _ _ => jZ i o (.cons a t) h k) (.err 93) (.err 93)) l
def FA (es : Nat) (x y : AV) (h : Hp) : RV := yb x (fun n => OS.rec (yb y (fun m => elems es y h (fun l => rQ (List.take (Nat.mul n es) l) x h (fun h => .ok (iW (Nat.min m n)) h)) (.err 94)) (.err 94)) (fun s => Bool.rec (.err 94) (rQ (byteCells (List.take n s)) x h (fun h => .ok (iW (Nat.min s.length n)) h)) (Nat.beq es 1)) y.Cg) (.err 94)
def uS (es : Nat) (x y : AO) (r : A2) (h : Hp) : RV := FA es (ev x r) (ev y r) h
def Ny (z : List AV) (x : AO) (r : A2) (h : Hp) : RV := .err 9
def OJ (x : AO) (r : A2) (h : Hp) : RV := .err 9
def Gn (x : AO) (r : A2) (h : Hp) : RV := .err 9
def over (h : Hp) : RV := .ok (.nZ (.cons (.bool false) .nil)) h
def RV.nU (v : RV) : RT := RV.rec (fun v h => .ok v h) (fun n => .err n) v
def Ra {α : Type} (l : List α) : Bool := List.rec true (fun _ _ _ => false) l
def qx (s : Bool) (x : AV) (h : Hp) : RT := .err 9
def Nz (x : AO) (r : A2) (h : Hp) : RV := .err 9
def QA (t : Nat) (z : AV) (ok : Bool) (x : AV) (h : Hp) : RV := .err 9
def Rb (t : Nat) (z : AV) (ok : Bool) (x : AO) (r : A2) (h : Hp) : RV := .err 9
def px (k : FloatKind) (x y : AO) (r : A2) (h : Hp) : RV := AV.qp (ev x r) (fun k1 a => AV.qp (ev y r) (fun k2 b => Bool.rec (.err 110) (.ok (.gN k a b) h) (Bool.and (wi k k1) (wi k k2))) (.err 110)) (.err 110)
def Aw (im : Bool) (x : AO) (r : A2) (h : Hp) : RV := .err 9
def lr (x : AO) (r : A2) (h : Hp) : RV := AV.oa (ev x r) (fun i o _ c => Nat.rec (.err 112) (fun _ _ => .ok (.ptr i o) h) c) (fun i o n _ => Nat.rec (.err 112) (fun _ _ => .ok (.ptr i o) h) n) (.ok .cV h) (.err 112)
def na (el : Nat) (x y : AO) (r : A2) (h : Hp) : RV := ik (ev y r) (fun n => Nat.rec (OP.rec (Bool.rec (.err 113) (.ok (.str .nil) h) (pr (ev x r))) (fun _ _ => .ok (.str .nil) h) (ev x r).kV) (fun n _ => AV.gn (ev x r) (fun i o => Obj.bp (ah i h) (fun el' m ex fl c => Bool.rec (Bool.rec (.err 114) (gO (bP (Nat.succ n) c o) (fun s => .ok (.str s) (dY i (.cells el' m ex .An c) h)) (.err 115)) (Bool.and (Nat.ble n 1048576) (Bool.and (Nat.beq el el') (Nat.ble (Nat.add o (Nat.succ n)) m)))) (.err 119) (FX fl)) (.err 116)) (.err 117)) n) (.err 118)
inductive nV where
 | mv (x : AO)
 | pick (c a b : AO)
 | alloc (el n : Nat) (c : Cl)
 | box (el : Nat) (x : AO)
 | build (z : List AV) (ps : List Part)
 | cG (el es n : Nat) (z : List AV) (ps : List Part)
 | fQ (x : AO)
 | pk (m : Nat) (x : AO)
 | Ki (x y : AO)
 | Kj (m : Nat) (x y : AO)
 | qQ (x : AO)
 | bin (op : BK) (x y : AO)
 | un (op : UK) (x : AO)
 | conv (op : CK) (x : AO)
 | Rg (t : Nat) (x : AO)
 | Ss (f : Nat) (xs : List AO)
 | oh
 | om (el : Nat) (z : List AV) (l c : AO)
 | Oj (es : Nat) (x : AO) (lo hi mx : OA)
 | KD (x : AO) (lo hi : OA)
 | KE (len es : Nat) (x : AO) (lo hi mx : OA)
 | fP (d : Nat) (x : AO)
 | KG (d : Nat) (x : AO)
 | KH (d n : Nat) (x : AO)
 | Fp (es : Nat) (x y : AO)
 | Ok (len es : Nat) (x y : AO)
 | idxs (x y : AO)
 | KI (len es : Nat) (agg : Bool) (x y : AO)
 | ext (i : Nat) (x : AO)
 | Fq (t : KT) (z : AV) (ok : Bool) (x y : AO)
 | OE (t : KT) (x y z : AO)
 | del (t : KT) (x y : AO)
 | Gp (x : AO)
 | len (x : AO)
 | jA (x : AO)
 | cap (x : AO)
 | max (mn : Bool) (xs : List AO)
 | app (el es : Nat) (x y : AO)
 | apps (el : Nat) (x y : AO)
 | Rh (es : Nat) (x y : AO)
 | Ri (z : List AV) (x : AO)
 | KJ (x : AO)
 | Gq (x : AO)
 | NA (x : AO)
 | QA (t : Nat) (z : AV) (ok : Bool) (x : AO)
 | gN (k : FloatKind) (x y : AO)
 | real (im : Bool) (x : AO)
 | KL (x : AO)
 | Gr (el : Nat) (x y : AO)
 | Ar (t : KT) (z : AV) (x y : AO)
 | Au (x y z : AO)
 | Gs (el es : Nat) (z : List AV) (x y : AO)
 | bad (n : Nat)
def nV.run (op : nV) : A2 → Hp → RV := nV.rec (motive := fun _ => A2 → Hp → RV) Kz dX Ck xU jY gp qv qw xV xW pv Nr Ky rO xX xY ri fh fu fw jU rP Gg Gh uO uP Gi nc uQ Co QY QZ Gj Cp wm Nx ya uR jj uS Ny OJ Gn Nz Rb px Aw lr na OG OH Gm (fun n _ _ => .err n) op
inductive AI where
 | op (o : nV)
 | KM (s : Bool) (x : AO)
 | call (f : Nat) (xs : List AO)
 | mO (x : AO) (xs : List AO)
 | inv (name : Nat) (x : AO) (xs : List AO)
inductive bX where
 | no
 | t (a b : H)
inductive GI where
 | o (d : bX) (i : AI)
 | g (a b : H) (w : Bool) (d : bX) (i : AI)
inductive Bk where
 | dZ
 | rd (n : Nat)
 | new
inductive DI where
 | mk (b : Bk) (g : GI)
abbrev Cf := Nat → List AV → Hp → RT
abbrev Iv := Nat → AV → List AV → Hp → RT
inductive AC where
 | skip
 | ops (l : List GI)
 | nT (l : List DI)
 | seq (a b : AC)
 | cond (c : AO) (a b : AC)
 | block (i : Nat) (a : AC)
 | loop (a : AC)
 | scope (a : AC)
 | sat (a c : AC)
 | exit (i : Nat)
 | goto (l : Nat)
 | label (l : Nat)
 | ret
 | join (a : AC)
 | bad (n : Nat)
 | ag (f : Cf → Iv → (A2 → Hp → RS) → A2 → Hp → RS) (x : AC)
 | alt (a b : AC)
 | OK (q : Nat) (l : List GI)
inductive Rs where
 | t (a b : H)
 | one (a b : H)
 | agg (n : Nat) (a b : H)
inductive SW where
 | mk (i : P4) (r : Nat)
inductive PK where
 | TY
 | put (el : Nat)
 | get
 | TZ (l : List SW)
 | Fv
 | TN (el : Nat)
 | TB
 | TP (f : Nat) (l0 l1 k0 kn k2 k3 ra rb l4 : List GI)
 | ins (el es : Nat)
 | fn (g : List AV → Hp → RT)
def Rj (x : AV) (h : Hp) : RV := .err 9
def Rk (el : Nat) (p n m : AV) (h : Hp) : RV := .err 9
def Rl (p m : AV) (h : Hp) : RV := .err 9
def dg (d : bX) : AV → A2 → A2 := bX.rec (motive := fun _ => AV → A2 → A2) (fun _ r => r) rM d
def bE (l : List AV) : Nat → A2 → A2 := gG (fun _ r => r) (fun v _ ih i r => ih (Nat.succ i) (rM (dG (Nat.div i 16)) (dG (Nat.mod i 16)) v r)) l
def OO (f : Nat) (l0 l1 k0 kn k2 k3 ra rb l4 : List GI) (s x : AV) (h : Hp) : RT := .err 9
def rR (l : List AV) (k : AV → RV) : RV := List.rec (.err 154) (fun a t _ => List.rec (k a) (fun _ _ _ => .err 154) t) l
def NC (l : List AV) (k : AV → AV → RV) : RV := List.rec (.err 154) (fun a t _ => rR t (fun b => k a b)) l
def Gt (l : List AV) (k : AV → AV → AV → RV) : RV := List.rec (.err 154) (fun a t _ => NC t (fun b c => k a b c)) l
def OQ (l : List AV) (k : AV → AV → RT) : RT := List.rec (.err 154) (fun a t _ => List.rec (.err 154) (fun b t _ => List.rec (k a b) (fun _ _ _ => .err 154) t) t) l
def Rm (l : List SW) (x lo hi : AV) (h : Hp) : RV := .err 9
def OT (el : Nat) (x : AV) (h : Hp) : RV := AV.eI x (fun k n => Bool.rec (.err 195) (Int.rec (fun n => Bool.rec (.err 196) (ma el .plain 1 n (fc n (.cons .undef .nil)) h) (Nat.ble n 65536)) (fun _ => .err 196) n) (QU k)) (.err 195)
def OU (x : Nat) (h : Hp) : RV := match FloatKind.f64.decode x with
 | .nan _ _ => .err 180
 | d => .ok (.qP .f64 (FloatKind.f64.encode (d.integral .zero))) h
def Ro (k : FloatKind) : Bool := FloatKind.rec false true k
def KN (x : AV) (h : Hp) : RV := AV.qp x (fun k n => Bool.rec (.err 181) (OU n h) (Ro k)) (.err 181)
def Rp (el es : Nat) (s x y : AV) (h : Hp) : RV := .err 9
def fx (k : PK) (args : List AV) (h : Hp) : RT := PK.rec (rR args (fun x => Rj x h)).nU (fun el => (Gt args (fun p n m => Rk el p n m h)).nU) (NC args (fun p m => Rl p m h)).nU (fun l => (Gt args (fun x lo hi => Rm l x lo hi h)).nU) (rR args (fun x => .ok x h)).nU (fun el => (rR args (fun x => OT el x h)).nU) (rR args (fun x => KN x h)).nU (fun f l0 l1 k0 kn k2 k3 ra rb l4 => OQ args (fun s x => OO f l0 l1 k0 kn k2 k3 ra rb l4 s x h)) (fun el es => (Gt args (fun s x y => Rp el es s x y h)).nU) (fun g => g args h) k
inductive AF where
 | none
 | mk (body : AC) (res : List Rs)
 | uo (k : PK) (body : AC) (res : List Rs)
 | QB (body : AC) (res : List Rs)
 | ext (k : PK)
inductive F1 where
 | nil
 | mk (a0 a1 a2 a3 a4 a5 a6 a7 a8 a9 aa ab ac ad ae af : AF)
def F1.g0 (x : F1) : AF := F1.rec .none (fun a0 a1 a2 a3 a4 a5 a6 a7 a8 a9 aa ab ac ad ae af => a0) x
def F1.g1 (x : F1) : AF := F1.rec .none (fun a0 a1 a2 a3 a4 a5 a6 a7 a8 a9 aa ab ac ad ae af => a1) x
def F1.g2 (x : F1) : AF := F1.rec .none (fun a0 a1 a2 a3 a4 a5 a6 a7 a8 a9 aa ab ac ad ae af => a2) x
def F1.g3 (x : F1) : AF := F1.rec .none (fun a0 a1 a2 a3 a4 a5 a6 a7 a8 a9 aa ab ac ad ae af => a3) x
def F1.g4 (x : F1) : AF := F1.rec .none (fun a0 a1 a2 a3 a4 a5 a6 a7 a8 a9 aa ab ac ad ae af => a4) x
def F1.g5 (x : F1) : AF := F1.rec .none (fun a0 a1 a2 a3 a4 a5 a6 a7 a8 a9 aa ab ac ad ae af => a5) x
def F1.g6 (x : F1) : AF := F1.rec .none (fun a0 a1 a2 a3 a4 a5 a6 a7 a8 a9 aa ab ac ad ae af => a6) x
def F1.g7 (x : F1) : AF := F1.rec .none (fun a0 a1 a2 a3 a4 a5 a6 a7 a8 a9 aa ab ac ad ae af => a7) x
def F1.g8 (x : F1) : AF := F1.rec .none (fun a0 a1 a2 a3 a4 a5 a6 a7 a8 a9 aa ab ac ad ae af => a8) x
def F1.g9 (x : F1) : AF := F1.rec .none (fun a0 a1 a2 a3 a4 a5 a6 a7 a8 a9 aa ab ac ad ae af => a9) x
def F1.ga (x : F1) : AF := F1.rec .none (fun a0 a1 a2 a3 a4 a5 a6 a7 a8 a9 aa ab ac ad ae af => aa) x
def F1.gb (x : F1) : AF := F1.rec .none (fun a0 a1 a2 a3 a4 a5 a6 a7 a8 a9 aa ab ac ad ae af => ab) x
def F1.gc (x : F1) : AF := F1.rec .none (fun a0 a1 a2 a3 a4 a5 a6 a7 a8 a9 aa ab ac ad ae af => ac) x
def F1.gd (x : F1) : AF := F1.rec .none (fun a0 a1 a2 a3 a4 a5 a6 a7 a8 a9 aa ab ac ad ae af => ad) x
def F1.ge (x : F1) : AF := F1.rec .none (fun a0 a1 a2 a3 a4 a5 a6 a7 a8 a9 aa ab ac ad ae af => ae) x
def F1.gf (x : F1) : AF := F1.rec .none (fun a0 a1 a2 a3 a4 a5 a6 a7 a8 a9 aa ab ac ad ae af => af) x
def F1.get (d : H) : F1 → AF := H.rec (motive := fun _ => F1 → AF) F1.g0 F1.g1 F1.g2 F1.g3 F1.g4 F1.g5 F1.g6 F1.g7 F1.g8 F1.g9 F1.ga F1.gb F1.gc F1.gd F1.ge F1.gf d
inductive F2 where
 | nil
 | mk (a0 a1 a2 a3 a4 a5 a6 a7 a8 a9 aa ab ac ad ae af : F1)
def F2.g0 (x : F2) : F1 := F2.rec .nil (fun a0 a1 a2 a3 a4 a5 a6 a7 a8 a9 aa ab ac ad ae af => a0) x
def F2.g1 (x : F2) : F1 := F2.rec .nil (fun a0 a1 a2 a3 a4 a5 a6 a7 a8 a9 aa ab ac ad ae af => a1) x
def F2.g2 (x : F2) : F1 := F2.rec .nil (fun a0 a1 a2 a3 a4 a5 a6 a7 a8 a9 aa ab ac ad ae af => a2) x
def F2.g3 (x : F2) : F1 := F2.rec .nil (fun a0 a1 a2 a3 a4 a5 a6 a7 a8 a9 aa ab ac ad ae af => a3) x
def F2.g4 (x : F2) : F1 := F2.rec .nil (fun a0 a1 a2 a3 a4 a5 a6 a7 a8 a9 aa ab ac ad ae af => a4) x
def F2.g5 (x : F2) : F1 := F2.rec .nil (fun a0 a1 a2 a3 a4 a5 a6 a7 a8 a9 aa ab ac ad ae af => a5) x
def F2.g6 (x : F2) : F1 := F2.rec .nil (fun a0 a1 a2 a3 a4 a5 a6 a7 a8 a9 aa ab ac ad ae af => a6) x
def F2.g7 (x : F2) : F1 := F2.rec .nil (fun a0 a1 a2 a3 a4 a5 a6 a7 a8 a9 aa ab ac ad ae af => a7) x
def F2.g8 (x : F2) : F1 := F2.rec .nil (fun a0 a1 a2 a3 a4 a5 a6 a7 a8 a9 aa ab ac ad ae af => a8) x
def F2.g9 (x : F2) : F1 := F2.rec .nil (fun a0 a1 a2 a3 a4 a5 a6 a7 a8 a9 aa ab ac ad ae af => a9) x
def F2.ga (x : F2) : F1 := F2.rec .nil (fun a0 a1 a2 a3 a4 a5 a6 a7 a8 a9 aa ab ac ad ae af => aa) x
def F2.gb (x : F2) : F1 := F2.rec .nil (fun a0 a1 a2 a3 a4 a5 a6 a7 a8 a9 aa ab ac ad ae af => ab) x
def F2.gc (x : F2) : F1 := F2.rec .nil (fun a0 a1 a2 a3 a4 a5 a6 a7 a8 a9 aa ab ac ad ae af => ac) x
def F2.gd (x : F2) : F1 := F2.rec .nil (fun a0 a1 a2 a3 a4 a5 a6 a7 a8 a9 aa ab ac ad ae af => ad) x
def F2.ge (x : F2) : F1 := F2.rec .nil (fun a0 a1 a2 a3 a4 a5 a6 a7 a8 a9 aa ab ac ad ae af => ae) x
def F2.gf (x : F2) : F1 := F2.rec .nil (fun a0 a1 a2 a3 a4 a5 a6 a7 a8 a9 aa ab ac ad ae af => af) x
def F2.get (d : H) : F2 → F1 := H.rec (motive := fun _ => F2 → F1) F2.g0 F2.g1 F2.g2 F2.g3 F2.g4 F2.g5 F2.g6 F2.g7 F2.g8 F2.g9 F2.ga F2.gb F2.gc F2.gd F2.ge F2.gf d
inductive F3 where
 | nil
 | mk (a0 a1 a2 a3 a4 a5 a6 a7 a8 a9 aa ab ac ad ae af : F2)
def F3.g0 (x : F3) : F2 := F3.rec .nil (fun a0 a1 a2 a3 a4 a5 a6 a7 a8 a9 aa ab ac ad ae af => a0) x
def F3.g1 (x : F3) : F2 := F3.rec .nil (fun a0 a1 a2 a3 a4 a5 a6 a7 a8 a9 aa ab ac ad ae af => a1) x
def F3.g2 (x : F3) : F2 := F3.rec .nil (fun a0 a1 a2 a3 a4 a5 a6 a7 a8 a9 aa ab ac ad ae af => a2) x
def F3.g3 (x : F3) : F2 := F3.rec .nil (fun a0 a1 a2 a3 a4 a5 a6 a7 a8 a9 aa ab ac ad ae af => a3) x
def F3.g4 (x : F3) : F2 := F3.rec .nil (fun a0 a1 a2 a3 a4 a5 a6 a7 a8 a9 aa ab ac ad ae af => a4) x
def F3.g5 (x : F3) : F2 := F3.rec .nil (fun a0 a1 a2 a3 a4 a5 a6 a7 a8 a9 aa ab ac ad ae af => a5) x
def F3.g6 (x : F3) : F2 := F3.rec .nil (fun a0 a1 a2 a3 a4 a5 a6 a7 a8 a9 aa ab ac ad ae af => a6) x
def F3.g7 (x : F3) : F2 := F3.rec .nil (fun a0 a1 a2 a3 a4 a5 a6 a7 a8 a9 aa ab ac ad ae af => a7) x
def F3.g8 (x : F3) : F2 := F3.rec .nil (fun a0 a1 a2 a3 a4 a5 a6 a7 a8 a9 aa ab ac ad ae af => a8) x
def F3.g9 (x : F3) : F2 := F3.rec .nil (fun a0 a1 a2 a3 a4 a5 a6 a7 a8 a9 aa ab ac ad ae af => a9) x
def F3.ga (x : F3) : F2 := F3.rec .nil (fun a0 a1 a2 a3 a4 a5 a6 a7 a8 a9 aa ab ac ad ae af => aa) x
def F3.gb (x : F3) : F2 := F3.rec .nil (fun a0 a1 a2 a3 a4 a5 a6 a7 a8 a9 aa ab ac ad ae af => ab) x
def F3.gc (x : F3) : F2 := F3.rec .nil (fun a0 a1 a2 a3 a4 a5 a6 a7 a8 a9 aa ab ac ad ae af => ac) x
def F3.gd (x : F3) : F2 := F3.rec .nil (fun a0 a1 a2 a3 a4 a5 a6 a7 a8 a9 aa ab ac ad ae af => ad) x
def F3.ge (x : F3) : F2 := F3.rec .nil (fun a0 a1 a2 a3 a4 a5 a6 a7 a8 a9 aa ab ac ad ae af => ae) x
def F3.gf (x : F3) : F2 := F3.rec .nil (fun a0 a1 a2 a3 a4 a5 a6 a7 a8 a9 aa ab ac ad ae af => af) x
def F3.get (d : H) : F3 → F2 := H.rec (motive := fun _ => F3 → F2) F3.g0 F3.g1 F3.g2 F3.g3 F3.g4 F3.g5 F3.g6 F3.g7 F3.g8 F3.g9 F3.ga F3.gb F3.gc F3.gd F3.ge F3.gf d
inductive MR where
 | mk (t name f : Nat)
inductive Pg where
 | mk (fs : F3) (ms : List MR)
def ak (f : Nat) (p : F3) : AF := F1.get (dG (Nat.mod f 16)) (F2.get (dG (Nat.mod (Nat.div f 16) 16)) (F3.get (dG (Nat.div f 256)) p))
def Pg.fs (p : Pg) : F3 := Pg.rec (fun a _ => a) p
def Pg.ms (p : Pg) : List MR := Pg.rec (fun _ a => a) p
def oq (t name : Nat) (l : List MR) (k : Nat → RT) (e : RT) : RT := gG e (fun y _ ih => MR.rec (fun t' n' f => Bool.rec ih (Bool.rec ih (k f) (Nat.beq name n')) (Nat.beq t t')) y) l
def OV (x : AV) : AV → Bool := AV.rec (motive_1 := fun _ => AV → Bool) (motive_2 := fun _ => PUnit) (fun _ => false) (fun a y => AV.bN y (fun b => jW a b) false) (fun k a y => AV.eI y (fun k' b => Bool.rec false (xB a b) (nh k k')) false) (fun a y => AV.kW y (fun b => iU a b) false) (fun k a y => AV.qp y (fun k' b => Bool.and (wi k k') (Nat.beq a b)) false) (fun k a b y => AV.wg y (fun k' c d => Bool.and (wi k k') (Bool.and (Nat.beq a c) (Nat.beq b d))) false) (fun i o y => AV.gn y (fun j q => Bool.and (rL i j) (Nat.beq o q)) false) (fun y => AV.rec (motive_2 := fun _ => PUnit) false (fun _ => false) (fun _ _ => false) (fun _ => false) (fun _ _ => false) (fun _ _ _ => false) (fun _ _ => false) true (fun _ _ _ _ => false) (fun _ _ _ _ => false) false (fun _ => false) false (fun _ _ _ => false) false (fun _ _ _ => false) false (fun _ _ => false) (fun _ _ => false) (fun _ => false) PUnit.unit (fun _ _ _ _ => PUnit.unit) y) (fun i a b c y => AV.oa y (fun j d e f => Bool.and (rL i j) (Bool.and (Nat.beq a d) (Bool.and (Nat.beq b e) (Nat.beq c f)))) (fun _ _ _ _ => false) false false) (fun i a b c y => AV.oa y (fun _ _ _ _ => false) (fun j d e f => Bool.and (rL i j) (Bool.and (Nat.beq a d) (Bool.and (Nat.beq b e) (Nat.beq c f)))) false false) (fun y => AV.oa y (fun _ _ _ _ => false) (fun _ _ _ _ => false) true false) (fun i y => AV.qo y (fun j => rL i j) false false) (fun y => AV.qo y (fun _ => false) true false) (fun _ _ _ _ => false) (fun y => AV.rec (motive_2 := fun _ => PUnit) false (fun _ => false) (fun _ _ => false) (fun _ => false) (fun _ _ => false) (fun _ _ _ => false) (fun _ _ => false) false (fun _ _ _ _ => false) (fun _ _ _ _ => false) false (fun _ => false) false (fun _ _ _ => false) true (fun _ _ _ => false) false (fun _ _ => false) (fun _ _ => false) (fun _ => false) PUnit.unit (fun _ _ _ _ => PUnit.unit) y) (fun _ _ _ _ => false) (fun y => AV.DG y (fun _ _ => false) true false) (fun _ _ _ => false) (fun _ _ _ => false) (fun _ _ => false) PUnit.unit (fun _ _ _ _ => PUnit.unit) x
def kX (x y : AV) : Bool := OV x y
def qy (a b : List AV) : Bool := gG (β := List AV → Bool) (fun b => List.rec true (fun _ _ _ => false) b)
 (fun x _ ih b => List.rec false (fun y b _ => Bool.rec false (ih b) (kX x y)) b) a b
def rS (x y : AV) : Bool := OL.rec (kX x y) (fun a => AV.qn y (fun b => qy a b) false) x.asAgg
def uT (x y : AV) : Bool := SI.rec (Sq.rec (rS x y) (rS x y) (fun t a => AV.DG y (fun u b => Bool.and (Nat.beq t u) (rS a b)) false false) x.Ow) (fun f a => AV.FP y (fun g b => Bool.and (Nat.beq f g) (qy a b)) false) x.QP
def Gu (a b : List AV) : Bool := gG (β := List AV → Bool) (fun b => List.rec true (fun _ _ _ => false) b)
 (fun x _ ih b => List.rec false (fun y b _ => Bool.rec false (ih b) (uT x y)) b) a b
def same (x y : AV) : Bool := OL.rec (uT x y) (fun a => AV.Ci y (fun b => Gu a b) false) x.FO
def OW (x : AV) : Bool := AV.rec (motive_2 := fun _ => PUnit) true (fun _ => false) (fun _ _ => false) (fun _ => false) (fun _ _ => false) (fun _ _ _ => false) (fun _ _ => false) false (fun _ _ _ _ => false) (fun _ _ _ _ => false) false (fun _ => false) false (fun _ _ _ => false) false (fun _ _ _ => false) false (fun _ _ => false) (fun _ _ => false) (fun _ => false) PUnit.unit (fun _ _ _ _ => PUnit.unit) x
def xC (x y : AV) : Bool := Bool.rec (same x y) (OW y) (OW x)
def gE (x y : AV) : AV := Bool.rec .undef x (same x y)
def A1.eq (x y : A1) : Bool := A1.rec (A1.rec true (fun _ _ _ _ _ _ _ _ _ _ _ _ _ _ _ _ => false) y) (fun a0 a1 a2 a3 a4 a5 a6 a7 a8 a9 aa ab ac ad ae af => A1.rec false (fun b0 b1 b2 b3 b4 b5 b6 b7 b8 b9 ba bb bc bd be bf => (Bool.rec false (Bool.rec false (Bool.rec false (Bool.rec false (Bool.rec false (Bool.rec false (Bool.rec false (Bool.rec false (Bool.rec false (Bool.rec false (Bool.rec false (Bool.rec false (Bool.rec false (Bool.rec false (Bool.rec false (xC af bf) (xC ae be)) (xC ad bd)) (xC ac bc)) (xC ab bb)) (xC aa ba)) (xC a9 b9)) (xC a8 b8)) (xC a7 b7)) (xC a6 b6)) (xC a5 b5)) (xC a4 b4)) (xC a3 b3)) (xC a2 b2)) (xC a1 b1)) (xC a0 b0))) y) x
def A2.eq (x y : A2) : Bool := A2.rec (A2.rec true (fun _ _ _ _ _ _ _ _ _ _ _ _ _ _ _ _ => false) y) (fun a0 a1 a2 a3 a4 a5 a6 a7 a8 a9 aa ab ac ad ae af => A2.rec false (fun b0 b1 b2 b3 b4 b5 b6 b7 b8 b9 ba bb bc bd be bf => (Bool.rec false (Bool.rec false (Bool.rec false (Bool.rec false (Bool.rec false (Bool.rec false (Bool.rec false (Bool.rec false (Bool.rec false (Bool.rec false (Bool.rec false (Bool.rec false (Bool.rec false (Bool.rec false (Bool.rec false (A1.eq af bf) (A1.eq ae be)) (A1.eq ad bd)) (A1.eq ac bc)) (A1.eq ab bb)) (A1.eq aa ba)) (A1.eq a9 b9)) (A1.eq a8 b8)) (A1.eq a7 b7)) (A1.eq a6 b6)) (A1.eq a5 b5)) (A1.eq a4 b4)) (A1.eq a3 b3)) (A1.eq a2 b2)) (A1.eq a1 b1)) (A1.eq a0 b0))) y) x
def A3.eq (x y : A3) : Bool := A3.rec (A3.rec true (fun _ _ _ _ _ _ _ _ _ _ _ _ _ _ _ _ => false) y) (fun a0 a1 a2 a3 a4 a5 a6 a7 a8 a9 aa ab ac ad ae af => A3.rec false (fun b0 b1 b2 b3 b4 b5 b6 b7 b8 b9 ba bb bc bd be bf => (Bool.rec false (Bool.rec false (Bool.rec false (Bool.rec false (Bool.rec false (Bool.rec false (Bool.rec false (Bool.rec false (Bool.rec false (Bool.rec false (Bool.rec false (Bool.rec false (Bool.rec false (Bool.rec false (Bool.rec false (A2.eq af bf) (A2.eq ae be)) (A2.eq ad bd)) (A2.eq ac bc)) (A2.eq ab bb)) (A2.eq aa ba)) (A2.eq a9 b9)) (A2.eq a8 b8)) (A2.eq a7 b7)) (A2.eq a6 b6)) (A2.eq a5 b5)) (A2.eq a4 b4)) (A2.eq a3 b3)) (A2.eq a2 b2)) (A2.eq a1 b1)) (A2.eq a0 b0))) y) x
def A4.eq (x y : A4) : Bool := A4.rec (A4.rec true (fun _ _ _ _ _ _ _ _ _ _ _ _ _ _ _ _ => false) y) (fun a0 a1 a2 a3 a4 a5 a6 a7 a8 a9 aa ab ac ad ae af => A4.rec false (fun b0 b1 b2 b3 b4 b5 b6 b7 b8 b9 ba bb bc bd be bf => (Bool.rec false (Bool.rec false (Bool.rec false (Bool.rec false (Bool.rec false (Bool.rec false (Bool.rec false (Bool.rec false (Bool.rec false (Bool.rec false (Bool.rec false (Bool.rec false (Bool.rec false (Bool.rec false (Bool.rec false (A3.eq af bf) (A3.eq ae be)) (A3.eq ad bd)) (A3.eq ac bc)) (A3.eq ab bb)) (A3.eq aa ba)) (A3.eq a9 b9)) (A3.eq a8 b8)) (A3.eq a7 b7)) (A3.eq a6 b6)) (A3.eq a5 b5)) (A3.eq a4 b4)) (A3.eq a3 b3)) (A3.eq a2 b2)) (A3.eq a1 b1)) (A3.eq a0 b0))) y) x
def A1.mg (x y : A1) : A1 := A1.rec (A1.rec .nil (fun b0 b1 b2 b3 b4 b5 b6 b7 b8 b9 ba bb bc bd be bf => .mk (gE AV.undef b0) (gE AV.undef b1) (gE AV.undef b2) (gE AV.undef b3) (gE AV.undef b4) (gE AV.undef b5) (gE AV.undef b6) (gE AV.undef b7) (gE AV.undef b8) (gE AV.undef b9) (gE AV.undef ba) (gE AV.undef bb) (gE AV.undef bc) (gE AV.undef bd) (gE AV.undef be) (gE AV.undef bf)) y) (fun a0 a1 a2 a3 a4 a5 a6 a7 a8 a9 aa ab ac ad ae af => A1.rec (.mk (gE a0 AV.undef) (gE a1 AV.undef) (gE a2 AV.undef) (gE a3 AV.undef) (gE a4 AV.undef) (gE a5 AV.undef) (gE a6 AV.undef) (gE a7 AV.undef) (gE a8 AV.undef) (gE a9 AV.undef) (gE aa AV.undef) (gE ab AV.undef) (gE ac AV.undef) (gE ad AV.undef) (gE ae AV.undef) (gE af AV.undef)) (fun b0 b1 b2 b3 b4 b5 b6 b7 b8 b9 ba bb bc bd be bf => .mk (gE a0 b0) (gE a1 b1) (gE a2 b2) (gE a3 b3) (gE a4 b4) (gE a5 b5) (gE a6 b6) (gE a7 b7) (gE a8 b8) (gE a9 b9) (gE aa ba) (gE ab bb) (gE ac bc) (gE ad bd) (gE ae be) (gE af bf)) y) x
def A2.mg (x y : A2) : A2 := A2.rec (A2.rec .nil (fun b0 b1 b2 b3 b4 b5 b6 b7 b8 b9 ba bb bc bd be bf => .mk (A1.mg A1.nil b0) (A1.mg A1.nil b1) (A1.mg A1.nil b2) (A1.mg A1.nil b3) (A1.mg A1.nil b4) (A1.mg A1.nil b5) (A1.mg A1.nil b6) (A1.mg A1.nil b7) (A1.mg A1.nil b8) (A1.mg A1.nil b9) (A1.mg A1.nil ba) (A1.mg A1.nil bb) (A1.mg A1.nil bc) (A1.mg A1.nil bd) (A1.mg A1.nil be) (A1.mg A1.nil bf)) y) (fun a0 a1 a2 a3 a4 a5 a6 a7 a8 a9 aa ab ac ad ae af => A2.rec (.mk (A1.mg a0 A1.nil) (A1.mg a1 A1.nil) (A1.mg a2 A1.nil) (A1.mg a3 A1.nil) (A1.mg a4 A1.nil) (A1.mg a5 A1.nil) (A1.mg a6 A1.nil) (A1.mg a7 A1.nil) (A1.mg a8 A1.nil) (A1.mg a9 A1.nil) (A1.mg aa A1.nil) (A1.mg ab A1.nil) (A1.mg ac A1.nil) (A1.mg ad A1.nil) (A1.mg ae A1.nil) (A1.mg af A1.nil)) (fun b0 b1 b2 b3 b4 b5 b6 b7 b8 b9 ba bb bc bd be bf => .mk (A1.mg a0 b0) (A1.mg a1 b1) (A1.mg a2 b2) (A1.mg a3 b3) (A1.mg a4 b4) (A1.mg a5 b5) (A1.mg a6 b6) (A1.mg a7 b7) (A1.mg a8 b8) (A1.mg a9 b9) (A1.mg aa ba) (A1.mg ab bb) (A1.mg ac bc) (A1.mg ad bd) (A1.mg ae be) (A1.mg af bf)) y) x
def Cl.eq (x y : Cl) : Bool := Cl.rec (fun a => Cl.rec (fun b => A1.eq a b) (fun _ => false) (fun _ => false) (fun _ => false) (fun _ _ => false) y) (fun a => Cl.rec (fun _ => false) (fun b => A2.eq a b) (fun _ => false) (fun _ => false) (fun _ _ => false) y) (fun a => Cl.rec (fun _ => false) (fun _ => false) (fun b => A3.eq a b) (fun _ => false) (fun _ _ => false) y) (fun a => Cl.rec (fun _ => false) (fun _ => false) (fun _ => false) (fun b => A4.eq a b) (fun _ _ => false) y) (fun _ _ => false) x
def Fl.eq (x y : Fl) : Bool := Fl.rec (Fl.rec true false false false y) (Fl.rec false true false false y) (Fl.rec false false true false y) (Fl.rec false false false true y) x
def OX (x y : KV) : Bool := KV.rec (fun k v b => KV.rec (fun k' v' b' => Bool.rec false (Bool.rec false (xC v v') (same k k')) (Nat.beq b b')) y) x
def Gv (a b : List KV) : Bool := gG (β := List KV → Bool) (fun b => Ra b) (fun x _ ih b => List.rec false (fun y b _ => Bool.rec false (ih b) (OX x y)) b) a b
def yd (x y : Obj) : Bool := Obj.rec (isNone y) false (fun el n ex fl c => Obj.bp y (fun el' n' ex' fl' c' => Bool.rec false (Bool.rec false (Bool.rec false (Bool.rec false (Cl.eq c c') (Fl.eq fl fl')) (jW ex ex')) (Nat.beq n n')) (Nat.beq el el')) false) (fun l ck => Obj.qo y (fun l' ck' => Bool.rec false (Gv l l') (Nat.beq ck ck')) false) (fun _ _ => false) (fun _ _ _ _ => false) false x
def bF (x y : Obj) : Obj := Bool.rec .dead x (yd x y)
def O1.mg (x y : O1) : O1 := O1.rec (O1.rec .nil (fun b0 b1 b2 b3 b4 b5 b6 b7 b8 b9 ba bb bc bd be bf => .mk (bF Obj.none b0) (bF Obj.none b1) (bF Obj.none b2) (bF Obj.none b3) (bF Obj.none b4) (bF Obj.none b5) (bF Obj.none b6) (bF Obj.none b7) (bF Obj.none b8) (bF Obj.none b9) (bF Obj.none ba) (bF Obj.none bb) (bF Obj.none bc) (bF Obj.none bd) (bF Obj.none be) (bF Obj.none bf)) y) (fun a0 a1 a2 a3 a4 a5 a6 a7 a8 a9 aa ab ac ad ae af => O1.rec (.mk (bF a0 Obj.none) (bF a1 Obj.none) (bF a2 Obj.none) (bF a3 Obj.none) (bF a4 Obj.none) (bF a5 Obj.none) (bF a6 Obj.none) (bF a7 Obj.none) (bF a8 Obj.none) (bF a9 Obj.none) (bF aa Obj.none) (bF ab Obj.none) (bF ac Obj.none) (bF ad Obj.none) (bF ae Obj.none) (bF af Obj.none)) (fun b0 b1 b2 b3 b4 b5 b6 b7 b8 b9 ba bb bc bd be bf => .mk (bF a0 b0) (bF a1 b1) (bF a2 b2) (bF a3 b3) (bF a4 b4) (bF a5 b5) (bF a6 b6) (bF a7 b7) (bF a8 b8) (bF a9 b9) (bF aa ba) (bF ab bb) (bF ac bc) (bF ad bd) (bF ae be) (bF af bf)) y) x
def O2.mg (x y : O2) : O2 := O2.rec (O2.rec .nil (fun b0 b1 b2 b3 b4 b5 b6 b7 b8 b9 ba bb bc bd be bf => .mk (O1.mg O1.nil b0) (O1.mg O1.nil b1) (O1.mg O1.nil b2) (O1.mg O1.nil b3) (O1.mg O1.nil b4) (O1.mg O1.nil b5) (O1.mg O1.nil b6) (O1.mg O1.nil b7) (O1.mg O1.nil b8) (O1.mg O1.nil b9) (O1.mg O1.nil ba) (O1.mg O1.nil bb) (O1.mg O1.nil bc) (O1.mg O1.nil bd) (O1.mg O1.nil be) (O1.mg O1.nil bf)) y) (fun a0 a1 a2 a3 a4 a5 a6 a7 a8 a9 aa ab ac ad ae af => O2.rec (.mk (O1.mg a0 O1.nil) (O1.mg a1 O1.nil) (O1.mg a2 O1.nil) (O1.mg a3 O1.nil) (O1.mg a4 O1.nil) (O1.mg a5 O1.nil) (O1.mg a6 O1.nil) (O1.mg a7 O1.nil) (O1.mg a8 O1.nil) (O1.mg a9 O1.nil) (O1.mg aa O1.nil) (O1.mg ab O1.nil) (O1.mg ac O1.nil) (O1.mg ad O1.nil) (O1.mg ae O1.nil) (O1.mg af O1.nil)) (fun b0 b1 b2 b3 b4 b5 b6 b7 b8 b9 ba bb bc bd be bf => .mk (O1.mg a0 b0) (O1.mg a1 b1) (O1.mg a2 b2) (O1.mg a3 b3) (O1.mg a4 b4) (O1.mg a5 b5) (O1.mg a6 b6) (O1.mg a7 b7) (O1.mg a8 b8) (O1.mg a9 b9) (O1.mg aa ba) (O1.mg ab bb) (O1.mg ac bc) (O1.mg ad bd) (O1.mg ae be) (O1.mg af bf)) y) x
def O3.mg (x y : O3) : O3 := O3.rec (O3.rec .nil (fun b0 b1 b2 b3 b4 b5 b6 b7 b8 b9 ba bb bc bd be bf => .mk (O2.mg O2.nil b0) (O2.mg O2.nil b1) (O2.mg O2.nil b2) (O2.mg O2.nil b3) (O2.mg O2.nil b4) (O2.mg O2.nil b5) (O2.mg O2.nil b6) (O2.mg O2.nil b7) (O2.mg O2.nil b8) (O2.mg O2.nil b9) (O2.mg O2.nil ba) (O2.mg O2.nil bb) (O2.mg O2.nil bc) (O2.mg O2.nil bd) (O2.mg O2.nil be) (O2.mg O2.nil bf)) y) (fun a0 a1 a2 a3 a4 a5 a6 a7 a8 a9 aa ab ac ad ae af => O3.rec (.mk (O2.mg a0 O2.nil) (O2.mg a1 O2.nil) (O2.mg a2 O2.nil) (O2.mg a3 O2.nil) (O2.mg a4 O2.nil) (O2.mg a5 O2.nil) (O2.mg a6 O2.nil) (O2.mg a7 O2.nil) (O2.mg a8 O2.nil) (O2.mg a9 O2.nil) (O2.mg aa O2.nil) (O2.mg ab O2.nil) (O2.mg ac O2.nil) (O2.mg ad O2.nil) (O2.mg ae O2.nil) (O2.mg af O2.nil)) (fun b0 b1 b2 b3 b4 b5 b6 b7 b8 b9 ba bb bc bd be bf => .mk (O2.mg a0 b0) (O2.mg a1 b1) (O2.mg a2 b2) (O2.mg a3 b3) (O2.mg a4 b4) (O2.mg a5 b5) (O2.mg a6 b6) (O2.mg a7 b7) (O2.mg a8 b8) (O2.mg a9 b9) (O2.mg aa ba) (O2.mg ab bb) (O2.mg ac bc) (O2.mg ad bd) (O2.mg ae be) (O2.mg af bf)) y) x
def O4.mg (x y : O4) : O4 := O4.rec (O4.rec .nil (fun b0 b1 b2 b3 b4 b5 b6 b7 b8 b9 ba bb bc bd be bf => .mk (O3.mg O3.nil b0) (O3.mg O3.nil b1) (O3.mg O3.nil b2) (O3.mg O3.nil b3) (O3.mg O3.nil b4) (O3.mg O3.nil b5) (O3.mg O3.nil b6) (O3.mg O3.nil b7) (O3.mg O3.nil b8) (O3.mg O3.nil b9) (O3.mg O3.nil ba) (O3.mg O3.nil bb) (O3.mg O3.nil bc) (O3.mg O3.nil bd) (O3.mg O3.nil be) (O3.mg O3.nil bf)) y) (fun a0 a1 a2 a3 a4 a5 a6 a7 a8 a9 aa ab ac ad ae af => O4.rec (.mk (O3.mg a0 O3.nil) (O3.mg a1 O3.nil) (O3.mg a2 O3.nil) (O3.mg a3 O3.nil) (O3.mg a4 O3.nil) (O3.mg a5 O3.nil) (O3.mg a6 O3.nil) (O3.mg a7 O3.nil) (O3.mg a8 O3.nil) (O3.mg a9 O3.nil) (O3.mg aa O3.nil) (O3.mg ab O3.nil) (O3.mg ac O3.nil) (O3.mg ad O3.nil) (O3.mg ae O3.nil) (O3.mg af O3.nil)) (fun b0 b1 b2 b3 b4 b5 b6 b7 b8 b9 ba bb bc bd be bf => .mk (O3.mg a0 b0) (O3.mg a1 b1) (O3.mg a2 b2) (O3.mg a3 b3) (O3.mg a4 b4) (O3.mg a5 b5) (O3.mg a6 b6) (O3.mg a7 b7) (O3.mg a8 b8) (O3.mg a9 b9) (O3.mg aa ba) (O3.mg ab bb) (O3.mg ac bc) (O3.mg ad bd) (O3.mg ae be) (O3.mg af bf)) y) x
def gY (x y : AV) : Bool := Bool.rec (same x y) true (OW x)
def A1.le (x y : A1) : Bool := A1.rec (A1.rec true (fun b0 b1 b2 b3 b4 b5 b6 b7 b8 b9 ba bb bc bd be bf => (Bool.rec false (Bool.rec false (Bool.rec false (Bool.rec false (Bool.rec false (Bool.rec false (Bool.rec false (Bool.rec false (Bool.rec false (Bool.rec false (Bool.rec false (Bool.rec false (Bool.rec false (Bool.rec false (Bool.rec false (gY AV.undef bf) (gY AV.undef be)) (gY AV.undef bd)) (gY AV.undef bc)) (gY AV.undef bb)) (gY AV.undef ba)) (gY AV.undef b9)) (gY AV.undef b8)) (gY AV.undef b7)) (gY AV.undef b6)) (gY AV.undef b5)) (gY AV.undef b4)) (gY AV.undef b3)) (gY AV.undef b2)) (gY AV.undef b1)) (gY AV.undef b0))) y) (fun a0 a1 a2 a3 a4 a5 a6 a7 a8 a9 aa ab ac ad ae af => A1.rec (Bool.rec false (Bool.rec false (Bool.rec false (Bool.rec false (Bool.rec false (Bool.rec false (Bool.rec false (Bool.rec false (Bool.rec false (Bool.rec false (Bool.rec false (Bool.rec false (Bool.rec false (Bool.rec false (Bool.rec false (gY af AV.undef) (gY ae AV.undef)) (gY ad AV.undef)) (gY ac AV.undef)) (gY ab AV.undef)) (gY aa AV.undef)) (gY a9 AV.undef)) (gY a8 AV.undef)) (gY a7 AV.undef)) (gY a6 AV.undef)) (gY a5 AV.undef)) (gY a4 AV.undef)) (gY a3 AV.undef)) (gY a2 AV.undef)) (gY a1 AV.undef)) (gY a0 AV.undef)) (fun b0 b1 b2 b3 b4 b5 b6 b7 b8 b9 ba bb bc bd be bf => (Bool.rec false (Bool.rec false (Bool.rec false (Bool.rec false (Bool.rec false (Bool.rec false (Bool.rec false (Bool.rec false (Bool.rec false (Bool.rec false (Bool.rec false (Bool.rec false (Bool.rec false (Bool.rec false (Bool.rec false (gY af bf) (gY ae be)) (gY ad bd)) (gY ac bc)) (gY ab bb)) (gY aa ba)) (gY a9 b9)) (gY a8 b8)) (gY a7 b7)) (gY a6 b6)) (gY a5 b5)) (gY a4 b4)) (gY a3 b3)) (gY a2 b2)) (gY a1 b1)) (gY a0 b0))) y) x
def A2.le (x y : A2) : Bool := A2.rec (A2.rec true (fun b0 b1 b2 b3 b4 b5 b6 b7 b8 b9 ba bb bc bd be bf => (Bool.rec false (Bool.rec false (Bool.rec false (Bool.rec false (Bool.rec false (Bool.rec false (Bool.rec false (Bool.rec false (Bool.rec false (Bool.rec false (Bool.rec false (Bool.rec false (Bool.rec false (Bool.rec false (Bool.rec false (A1.le A1.nil bf) (A1.le A1.nil be)) (A1.le A1.nil bd)) (A1.le A1.nil bc)) (A1.le A1.nil bb)) (A1.le A1.nil ba)) (A1.le A1.nil b9)) (A1.le A1.nil b8)) (A1.le A1.nil b7)) (A1.le A1.nil b6)) (A1.le A1.nil b5)) (A1.le A1.nil b4)) (A1.le A1.nil b3)) (A1.le A1.nil b2)) (A1.le A1.nil b1)) (A1.le A1.nil b0))) y) (fun a0 a1 a2 a3 a4 a5 a6 a7 a8 a9 aa ab ac ad ae af => A2.rec (Bool.rec false (Bool.rec false (Bool.rec false (Bool.rec false (Bool.rec false (Bool.rec false (Bool.rec false (Bool.rec false (Bool.rec false (Bool.rec false (Bool.rec false (Bool.rec false (Bool.rec false (Bool.rec false (Bool.rec false (A1.le af A1.nil) (A1.le ae A1.nil)) (A1.le ad A1.nil)) (A1.le ac A1.nil)) (A1.le ab A1.nil)) (A1.le aa A1.nil)) (A1.le a9 A1.nil)) (A1.le a8 A1.nil)) (A1.le a7 A1.nil)) (A1.le a6 A1.nil)) (A1.le a5 A1.nil)) (A1.le a4 A1.nil)) (A1.le a3 A1.nil)) (A1.le a2 A1.nil)) (A1.le a1 A1.nil)) (A1.le a0 A1.nil)) (fun b0 b1 b2 b3 b4 b5 b6 b7 b8 b9 ba bb bc bd be bf => (Bool.rec false (Bool.rec false (Bool.rec false (Bool.rec false (Bool.rec false (Bool.rec false (Bool.rec false (Bool.rec false (Bool.rec false (Bool.rec false (Bool.rec false (Bool.rec false (Bool.rec false (Bool.rec false (Bool.rec false (A1.le af bf) (A1.le ae be)) (A1.le ad bd)) (A1.le ac bc)) (A1.le ab bb)) (A1.le aa ba)) (A1.le a9 b9)) (A1.le a8 b8)) (A1.le a7 b7)) (A1.le a6 b6)) (A1.le a5 b5)) (A1.le a4 b4)) (A1.le a3 b3)) (A1.le a2 b2)) (A1.le a1 b1)) (A1.le a0 b0))) y) x
def wo (x y : T4) : T4 := T4.rec (fun t f => T4.rec (fun u g => .mk (O4.mg t u) (fun m n => bF (f m n) (g m n))) y) x
def SL (x y : Hp) (k : Hp → RS) : RS := Hp.rec (fun t n => Hp.rec (fun u m => Bool.rec (.err 301) (k (.mk (wo t u) n)) (rL n m)) y) x
def Ax (x y : RS) : RS := RS.rec (fun r h => RS.rec (fun r' h' => SL h h' (fun h => .nm (A2.mg r r') h)) (fun _ _ _ => .err 302) (fun _ _ _ => .err 302) (fun _ _ => .err 302) (fun n => .err n) (fun _ _ _ => .err 302) y) (fun _ _ _ => .err 303) (fun _ _ _ => .err 303) (fun _ _ => .err 303) (fun n => .err n) (fun _ _ _ => .err 303) x
def Gw (n : Nat) (f : Nat → RS) : RS := Nat.rec (.err 304) (fun n _ => Ao (f 0) (fun m ih => Ax ih (f (Nat.succ m))) n) n
def dH (x : RS) : RS := RS.elim (fun r h => .nm r h) (fun i r h => .ex i r h) (fun l r h => .go l r h) (fun r h => .ret r h) (fun n => .err n) Gw x
def rT (x : RS) : RS := RS.elim (fun r h => .nm r h) (fun i r h => .ex i r h) (fun l r h => .go l r h) (fun r h => .nm r h) (fun n => .err n) (fun n ih => .ch n ih) x
abbrev iP := AC → A2 → Hp → RS
def KP (s : Rs) (r : A2) (h : Hp) : RV := Rs.rec (fun a b => .ok (aC a b r) h) (fun a b => qv (.t a b) r h) (fun n a b => qw n (.t a b) r h) s
def OY (l : List Rs) (r : A2) (h : Hp) (k : List AV → RV) : RV := gG (β := (List AV → RV) → RV) (fun k => k .nil)
 (fun s _ ih k => RV.rec (fun v _ => ih (fun vs => k (.cons v vs))) (fun n => .err n) (KP s r h)) l k
def Gx (h : Hp) (l : List AV) : RV := List.rec (.ok cM h) (fun v t _ => List.rec (.ok v h) (fun x y _ => .ok (.nZ (.cons v (.cons x y))) h) t) l
def qR (res : List Rs) (r : A2) (h : Hp) : RV := OY res r h (Gx h)
def eJ (res : List Rs) (s : RS) : RT := RS.elim (fun r h => (qR res r h).nU) (fun _ _ _ => .err 200) (fun _ _ _ => .err 201) (fun r h => (qR res r h).nU) (fun n => .err n) (fun n ih => .ch n ih) s
def aB (p : Pg) (run : iP) (f : Nat) (args : List AV) (h : Hp) : RT := AF.rec (.err (Nat.add 1000 f)) (fun body res => Bool.rec (.err 207) (eJ res (run body (bE args 0 .nil) h)) (Nat.ble args.length 256)) (fun k body res => RT.rec (fun v h => RT.ok v h) (fun _ => Bool.rec (.err 207) (eJ res (run body (bE args 0 .nil) h)) (Nat.ble args.length 256)) (fun n k _ => .ch n k) (fx k args h)) (fun body res => Bool.rec (.err 207) (eJ res (dH (rT (run body (bE args 0 .nil) h)))) (Nat.ble args.length 256)) (fun k => fx k args h) (ak f p.fs)
def kY (p : Pg) (run : iP) (x : AV) (args : List AV) (h : Hp) : RT := AV.FP x (fun f cs => aB p run f (List.append args cs) h) (.err 202)
def aH (p : Pg) (run : iP) (name : Nat) (x : AV) (args : List AV) (h : Hp) : RT := AV.DG x
 (fun t v => oq t name p.ms (fun f => aB p run f (.cons v args) h) (.err 206)) (.err 205) (.err 204)
def Cq (d : bX) (k : A2 → Hp → RS) (r : A2) (v : RV) : RS := RV.rec (fun v h => k (dg d v r) h) (fun n => .err n) v
def stepT (d : bX) (k : A2 → Hp → RS) (r : A2) (v : RT) : RS := RT.elim (fun v h => k (dg d v r) h) (fun n => .err n) (fun n ih => .ch n ih) v
def AI.exec (i : AI) (p : Pg) (run : iP) (d : bX) (k : A2 → Hp → RS) (r : A2) (h : Hp) : RS := AI.rec (fun op => Cq d k r (op.run r h)) (fun s x => stepT d k r (qx s (ev x r) h)) (fun f xs => stepT d k r (aB p run f (fR xs r) h)) (fun x xs => stepT d k r (kY p run (ev x r) (fR xs r) h)) (fun n x xs => stepT d k r (aH p run n (ev x r) (fR xs r) h)) i
def gb (w : Bool) (x : AV) : AV := OL.rec x (fun l => List.rec (.bool (Bool.not w)) (fun _ _ _ => .undef) l) x.FO
def jm (d : bX) (k : A2 → Hp → RS) (r : A2) (h : Hp) (i : AI) (p : Pg) (run : iP) (w t : Bool) : RS :=
 Bool.rec (k (dg d cM r) h) (i.exec p run d k r h) (jW t w)
def GI.exec (i : GI) (p : Pg) (run : iP) (k : A2 → Hp → RS) (r : A2) (h : Hp) : RS := GI.rec (fun d i => i.exec p run d k r h) (fun a b w d i => AV.bN (gb w (aC a b r)) (jm d k r h i p run w) (.err 210)) i
def fe (p : Pg) (run : iP) (l : List GI) : A2 → Hp → RS := gG (β := A2 → Hp → RS) (fun r h => .nm r h) (fun i _ ih => i.exec p run ih) l
def fy (op : nV) (r : A2) (v : AV) (l : List Hp) : Nat → Bool := gG (β := Nat → Bool) (fun n => Nat.rec true (fun _ _ => false) n)
 (fun h _ ih n => Nat.rec true (fun n _ => RV.rec (fun v' _ => Bool.rec false (ih n) (same v v')) (fun _ => false) (op.run r h)) n) l
abbrev DK := A2 → Hp → Hp → List Hp → RS
def mE (d : bX) (k : DK) (r : A2) (g : Hp) (hs : List Hp) (v : RT) : RS := RT.rec (fun v h' => k (dg d v r) h' h' (.cons g hs)) (fun n => .err n) (fun _ _ _ => .err 213) v
def ye (d : bX) (op : nV) (n : Nat) (k : DK) (r : A2) (h g : Hp) (hs : List Hp) (v : RV) : RS := RV.rec (fun v _ => Bool.rec (.err 211) (k (dg d v r) h g hs) (fy op r v hs n)) (fun n => .err n) v
def Gy (d : bX) (k : DK) (r : A2) (g : Hp) (hs : List Hp) (v : RV) : RS := RV.rec (fun v h' => k (dg d v r) h' g hs) (fun n => .err n) v
def uq (b : Bk) (d : bX) (i : AI) (p : Pg) (run : iP) (k : DK) (r : A2) (h g : Hp) (hs : List Hp) : RS := AI.rec (fun op => Bk.rec (mE d k r g hs (op.run r h).nU) (fun n => ye d op n k r h g hs (op.run r g)) (Gy d k r g hs (op.run r h)) b) (fun s x => mE d k r g hs (qx s (ev x r) h)) (fun f xs => mE d k r g hs (aB p run f (fR xs r) h)) (fun x xs => mE d k r g hs (kY p run (ev x r) (fR xs r) h)) (fun n x xs => mE d k r g hs (aH p run n (ev x r) (fR xs r) h)) i
def KQ (b : Bk) (d : bX) (k : DK) (r : A2) (h g : Hp) (hs : List Hp) : RS := Bk.rec (k (dg d cM r) h h (.cons g hs)) (fun _ => k (dg d cM r) h g hs) (.err 214) b
def DL (b : Bk) (d : bX) (i : AI) (k : DK) (r : A2) (h g : Hp) (hs : List Hp) (p : Pg) (run : iP) (w t : Bool) : RS :=
 Bool.rec (KQ b d k r h g hs) (uq b d i p run k r h g hs) (jW t w)
def DI.exec (i : DI) (p : Pg) (run : iP) (k : DK) (r : A2) (h g : Hp) (hs : List Hp) : RS := DI.rec (fun b y => GI.rec (fun d i => uq b d i p run k r h g hs) (fun x y w d i => AV.bN (gb w (aC x y r)) (DL b d i k r h g hs p run w) (.err 212)) y) i
def dK (p : Pg) (run : iP) (l : List DI) : DK := gG (β := DK) (fun r h _ _ => .nm r h) (fun i _ ih => i.exec p run ih) l
def cY : AC → Nat → Option AC
 | .seq a b, l => match cY a l with
  | some c => some (.seq c b)
  | none => cY b l
 | .label l', l => if Nat.beq l' l then some .skip else none
 | .ag _ x, l => cY x l
 | _, _ => none
def RS.bind (x : RS) (kn : A2 → Hp → RS) (ke : Nat → A2 → Hp → RS) (kg : Nat → A2 → Hp → RS) : RS := RS.elim kn ke kg (fun r h => .ret r h) (fun n => .err n) (fun n ih => .ch n ih) x
def Cr (a b : AC) (run : iP) (r : A2) (h : Hp) : RS := RS.bind (run a r h) (fun r h => run b r h) (fun i r h => .ex i r h) (fun l r h => .go l r h)
def OZ (c : AO) (a b : AC) (run : iP) (r : A2) (h : Hp) : RS := AV.bN (ev c r) (fun t => Bool.rec (run b r h) (run a r h) t) (.err 213)
def rj (i : Nat) (a : AC) (run : iP) (r : A2) (h : Hp) : RS := RS.bind (run a r h) (fun r h => .nm r h) (fun j r h => Bool.rec (.ex j r h) (.nm r h) (Nat.beq j i)) (fun l r h => .go l r h)
def wq (a : AC) (run : iP) (r : A2) (h : Hp) : RS := RS.bind (run a r h) (fun r h => run (.loop a) r h) (fun i r h => .ex i r h) (fun l r h => .go l r h)
def yf (a c : AC) (run : iP) (r : A2) (h : Hp) : RS := RS.bind (run c r h) (fun r h => .nm r h) (fun i r h => .ex i r h)
 (fun l r h => Option.rec (.go l r h) (fun c => run (.sat a c) r h) (cY a l))
def Pa (a : AC) (run : iP) (r : A2) (h : Hp) : RS := dH (run a r h)
def KR (n : Nat) (f : Nat → Bool) : Bool := Ao true (fun m ih => Bool.rec false ih (f m)) n
abbrev Ex := Pg → iP → A2 → Hp → RS
def xD (q : Nat) (r : A2) (i : Nat) : A1 := Bool.rec (A2.get (dG i) r) (Bool.rec (A2.get (dG (Nat.succ i)) r) .nil (Nat.beq i 15)) (Nat.ble q i)
def rU (q : Nat) (r : A2) : A2 := .mk (xD q r 0) (xD q r 1) (xD q r 2) (xD q r 3) (xD q r 4) (xD q r 5) (xD q r 6) (xD q r 7) (xD q r 8) (xD q r 9) (xD q r 10) (xD q r 11) (xD q r 12) (xD q r 13) (xD q r 14) (xD q r 15)
def xE (q : Nat) (r : A2) (i : Nat) : A1 := Bool.rec (A2.get (dG (Nat.pred i)) r) (Bool.rec (A2.get (dG i) r) .nil (Nat.beq i q)) (Nat.ble i q)
def Ay (q : Nat) (r : A2) : A2 := .mk (xE q r 0) (xE q r 1) (xE q r 2) (xE q r 3) (xE q r 4) (xE q r 5) (xE q r 6) (xE q r 7) (xE q r 8) (xE q r 9) (xE q r 10) (xE q r 11) (xE q r 12) (xE q r 13) (xE q r 14) (xE q r 15)
def Pb (x y : RS) : Bool := RS.rec (fun r _ => RS.rec (fun r' _ => A2.le r r') (fun _ _ _ => false) (fun _ _ _ => false) (fun _ _ => false) (fun _ => false) (fun _ _ _ => false) y) (fun _ _ _ => false) (fun _ _ _ => false) (fun _ _ => false) (fun _ => false) (fun _ _ _ => false) x
def wu (x y : RS) : RS := Bool.rec (.ch 2 (fun i => Nat.rec x (fun _ _ => y) i)) (dH (.ch 2 (fun i => Nat.rec x (fun _ _ => y) i))) (Pb x y)
def wv (q : Nat) (l : List GI) (p : Pg) (run : iP) (r : A2) (h : Hp) : RS := RS.bind (fe p run l (rU q r) h) (fun r h => .nm (Ay q r) h) (fun i r h => .ex i r h) (fun l r h => .go l r h)
def rV (c : AC) : Ex := AC.rec (motive := fun _ => Ex) (fun _ _ r h => .nm r h) (fun l p run r h => fe p run l r h) (fun l p run r h => dK p run l r h h .nil) (fun a b _ _ => fun _ run r h => Cr a b run r h) (fun c a b _ _ => fun _ run r h => OZ c a b run r h) (fun i a _ => fun _ run r h => rj i a run r h) (fun a _ => fun _ run r h => wq a run r h) (fun a _ => fun _ run r h => yf a a run r h) (fun a c _ _ => fun _ run r h => yf a c run r h) (fun i => fun _ _ r h => .ex i r h) (fun l => fun _ _ r h => .go l r h) (fun _ => fun _ _ r h => .nm r h) (fun _ _ r h => .ret r h) (fun a _ => fun _ run r h => Pa a run r h) (fun n => fun _ _ _ _ => .err n) (fun f x _ => fun p run r h => f (aB p run) (aH p run) (fun r h => run x r h) r h) (fun a b _ _ => fun _ run r h => wu (run a r h) (run b r h)) (fun q l p run r h => wv q l p run r h) c
def exec (p : Pg) (n : Nat) : iP := Nat.rec (fun _ _ _ => .err 300) (fun _ ih c => rV c p ih) n
def eW (v : RT) : Bool := RT.elim (fun v _ => AV.bN v (fun b => b) false) (fun _ => false) KR v
end
end Go.Am
