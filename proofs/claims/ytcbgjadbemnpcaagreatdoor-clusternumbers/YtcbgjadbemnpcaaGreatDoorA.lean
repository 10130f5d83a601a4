/- The abstract machine: its states, its operations, its run. Nothing is asked. -/
import GoSem.Core.Value
import GoSem.Core.Ast
import GoSem.Core.Float
import GoSem.Op.IntArith
import GoSem.Conv.StringToRunes
import GoSem.Core.Utf8
set_option linter.all false
namespace Go.Am
set_option linter.unusedVariables false
noncomputable section
inductive H where
  | h0 | h1 | h2 | h3 | h4 | h5 | h6 | h7 | h8 | h9 | ha | hb | hc | hd | he | hf
def H.succ (d : H) : H := H.rec H.h1 H.h2 H.h3 H.h4 H.h5 H.h6 H.h7 H.h8 H.h9 H.ha H.hb H.hc H.hd H.he H.hf H.h0 d
def H.last (d : H) : Bool := H.rec false false false false false false false false false false false false false false false true d
def H.nat (d : H) : Nat := H.rec 0 1 2 3 4 5 6 7 8 9 10 11 12 13 14 15 d
def dig (n : Nat) : H := (Nat.rec H.h0 (fun n1 _ => (Nat.rec H.h1 (fun n2 _ => (Nat.rec H.h2 (fun n3 _ => (Nat.rec H.h3 (fun n4 _ => (Nat.rec H.h4 (fun n5 _ => (Nat.rec H.h5 (fun n6 _ => (Nat.rec H.h6 (fun n7 _ => (Nat.rec H.h7 (fun n8 _ => (Nat.rec H.h8 (fun n9 _ => (Nat.rec H.h9 (fun n10 _ => (Nat.rec H.ha (fun n11 _ => (Nat.rec H.hb (fun n12 _ => (Nat.rec H.hc (fun n13 _ => (Nat.rec H.hd (fun n14 _ => (Nat.rec H.he (fun n15 _ => H.hf) n14)) n13)) n12)) n11)) n10)) n9)) n8)) n7)) n6)) n5)) n4)) n3)) n2)) n1)) n)

def lrecI {α β : Type} (n : β) (c : α → List α → β → β) : List α → β
  | [] => n
  | a :: l => c a l (lrecI n c l)
def lrec {α β : Type} (n : β) (c : α → List α → β → β) (l : List α) : β := List.rec n c l

inductive P4 where
  | mk (a b c d : H)

inductive AV where
  | undef
  | bool (b : Bool)
  | int (k : IntKind) (n : Int)
  | str (l : List Nat)
  | flt (k : FloatKind) (n : Nat)
  | cplx (k : FloatKind) (re im : Nat)
  | ptr (i : P4) (off : Nat)
  | nilp
  | slice (i : P4) (off len cap : Nat)
  | slr (i : P4) (off len es : Nat)
  | nils
  | map (i : P4)
  | nilm
  | fn (f : Nat) (cs : List AV)
  | nilf
  | iface (t : Nat) (v : AV)
  | nili
  | agg (cs : List AV)
  | tup (vs : List AV)
  | sym (i : P4)

inductive KV where
  | mk (k v : AV) (born : Nat)

inductive A1 where
  | nil
  | mk (a0 a1 a2 a3 a4 a5 a6 a7 a8 a9 aa ab ac ad ae af : AV)
def A1.g0 (x : A1) : AV := A1.rec .undef (fun a0 a1 a2 a3 a4 a5 a6 a7 a8 a9 aa ab ac ad ae af => a0) x
def A1.g1 (x : A1) : AV := A1.rec .undef (fun a0 a1 a2 a3 a4 a5 a6 a7 a8 a9 aa ab ac ad ae af => a1) x
def A1.g2 (x : A1) : AV := A1.rec .undef (fun a0 a1 a2 a3 a4 a5 a6 a7 a8 a9 aa ab ac ad ae af => a2) x
def A1.g3 (x : A1) : AV := A1.rec .undef (fun a0 a1 a2 a3 a4 a5 a6 a7 a8 a9 aa ab ac ad ae af => a3) x
def A1.g4 (x : A1) : AV := A1.rec .undef (fun a0 a1 a2 a3 a4 a5 a6 a7 a8 a9 aa ab ac ad ae af => a4) x
def A1.g5 (x : A1) : AV := A1.rec .undef (fun a0 a1 a2 a3 a4 a5 a6 a7 a8 a9 aa ab ac ad ae af => a5) x
def A1.g6 (x : A1) : AV := A1.rec .undef (fun a0 a1 a2 a3 a4 a5 a6 a7 a8 a9 aa ab ac ad ae af => a6) x
def A1.g7 (x : A1) : AV := A1.rec .undef (fun a0 a1 a2 a3 a4 a5 a6 a7 a8 a9 aa ab ac ad ae af => a7) x
def A1.g8 (x : A1) : AV := A1.rec .undef (fun a0 a1 a2 a3 a4 a5 a6 a7 a8 a9 aa ab ac ad ae af => a8) x
def A1.g9 (x : A1) : AV := A1.rec .undef (fun a0 a1 a2 a3 a4 a5 a6 a7 a8 a9 aa ab ac ad ae af => a9) x
def A1.ga (x : A1) : AV := A1.rec .undef (fun a0 a1 a2 a3 a4 a5 a6 a7 a8 a9 aa ab ac ad ae af => aa) x
def A1.gb (x : A1) : AV := A1.rec .undef (fun a0 a1 a2 a3 a4 a5 a6 a7 a8 a9 aa ab ac ad ae af => ab) x
def A1.gc (x : A1) : AV := A1.rec .undef (fun a0 a1 a2 a3 a4 a5 a6 a7 a8 a9 aa ab ac ad ae af => ac) x
def A1.gd (x : A1) : AV := A1.rec .undef (fun a0 a1 a2 a3 a4 a5 a6 a7 a8 a9 aa ab ac ad ae af => ad) x
def A1.ge (x : A1) : AV := A1.rec .undef (fun a0 a1 a2 a3 a4 a5 a6 a7 a8 a9 aa ab ac ad ae af => ae) x
def A1.gf (x : A1) : AV := A1.rec .undef (fun a0 a1 a2 a3 a4 a5 a6 a7 a8 a9 aa ab ac ad ae af => af) x
def A1.get (d : H) : A1 → AV := H.rec (motive := fun _ => A1 → AV) A1.g0 A1.g1 A1.g2 A1.g3 A1.g4 A1.g5 A1.g6 A1.g7 A1.g8 A1.g9 A1.ga A1.gb A1.gc A1.gd A1.ge A1.gf d
def A1.s0 (v : AV) (x : A1) : A1 := A1.rec (motive := fun _ => AV → A1) (fun v => .mk v .undef .undef .undef .undef .undef .undef .undef .undef .undef .undef .undef .undef .undef .undef .undef) (fun a0 a1 a2 a3 a4 a5 a6 a7 a8 a9 aa ab ac ad ae af => fun v => .mk v a1 a2 a3 a4 a5 a6 a7 a8 a9 aa ab ac ad ae af) x v
def A1.s1 (v : AV) (x : A1) : A1 := A1.rec (motive := fun _ => AV → A1) (fun v => .mk .undef v .undef .undef .undef .undef .undef .undef .undef .undef .undef .undef .undef .undef .undef .undef) (fun a0 a1 a2 a3 a4 a5 a6 a7 a8 a9 aa ab ac ad ae af => fun v => .mk a0 v a2 a3 a4 a5 a6 a7 a8 a9 aa ab ac ad ae af) x v
def A1.s2 (v : AV) (x : A1) : A1 := A1.rec (motive := fun _ => AV → A1) (fun v => .mk .undef .undef v .undef .undef .undef .undef .undef .undef .undef .undef .undef .undef .undef .undef .undef) (fun a0 a1 a2 a3 a4 a5 a6 a7 a8 a9 aa ab ac ad ae af => fun v => .mk a0 a1 v a3 a4 a5 a6 a7 a8 a9 aa ab ac ad ae af) x v
def A1.s3 (v : AV) (x : A1) : A1 := A1.rec (motive := fun _ => AV → A1) (fun v => .mk .undef .undef .undef v .undef .undef .undef .undef .undef .undef .undef .undef .undef .undef .undef .undef) (fun a0 a1 a2 a3 a4 a5 a6 a7 a8 a9 aa ab ac ad ae af => fun v => .mk a0 a1 a2 v a4 a5 a6 a7 a8 a9 aa ab ac ad ae af) x v
def A1.s4 (v : AV) (x : A1) : A1 := A1.rec (motive := fun _ => AV → A1) (fun v => .mk .undef .undef .undef .undef v .undef .undef .undef .undef .undef .undef .undef .undef .undef .undef .undef) (fun a0 a1 a2 a3 a4 a5 a6 a7 a8 a9 aa ab ac ad ae af => fun v => .mk a0 a1 a2 a3 v a5 a6 a7 a8 a9 aa ab ac ad ae af) x v
def A1.s5 (v : AV) (x : A1) : A1 := A1.rec (motive := fun _ => AV → A1) (fun v => .mk .undef .undef .undef .undef .undef v .undef .undef .undef .undef .undef .undef .undef .undef .undef .undef) (fun a0 a1 a2 a3 a4 a5 a6 a7 a8 a9 aa ab ac ad ae af => fun v => .mk a0 a1 a2 a3 a4 v a6 a7 a8 a9 aa ab ac ad ae af) x v
def A1.s6 (v : AV) (x : A1) : A1 := A1.rec (motive := fun _ => AV → A1) (fun v => .mk .undef .undef .undef .undef .undef .undef v .undef .undef .undef .undef .undef .undef .undef .undef .undef) (fun a0 a1 a2 a3 a4 a5 a6 a7 a8 a9 aa ab ac ad ae af => fun v => .mk a0 a1 a2 a3 a4 a5 v a7 a8 a9 aa ab ac ad ae af) x v
def A1.s7 (v : AV) (x : A1) : A1 := A1.rec (motive := fun _ => AV → A1) (fun v => .mk .undef .undef .undef .undef .undef .undef .undef v .undef .undef .undef .undef .undef .undef .undef .undef) (fun a0 a1 a2 a3 a4 a5 a6 a7 a8 a9 aa ab ac ad ae af => fun v => .mk a0 a1 a2 a3 a4 a5 a6 v a8 a9 aa ab ac ad ae af) x v
def A1.s8 (v : AV) (x : A1) : A1 := A1.rec (motive := fun _ => AV → A1) (fun v => .mk .undef .undef .undef .undef .undef .undef .undef .undef v .undef .undef .undef .undef .undef .undef .undef) (fun a0 a1 a2 a3 a4 a5 a6 a7 a8 a9 aa ab ac ad ae af => fun v => .mk a0 a1 a2 a3 a4 a5 a6 a7 v a9 aa ab ac ad ae af) x v
def A1.s9 (v : AV) (x : A1) : A1 := A1.rec (motive := fun _ => AV → A1) (fun v => .mk .undef .undef .undef .undef .undef .undef .undef .undef .undef v .undef .undef .undef .undef .undef .undef) (fun a0 a1 a2 a3 a4 a5 a6 a7 a8 a9 aa ab ac ad ae af => fun v => .mk a0 a1 a2 a3 a4 a5 a6 a7 a8 v aa ab ac ad ae af) x v
def A1.sa (v : AV) (x : A1) : A1 := A1.rec (motive := fun _ => AV → A1) (fun v => .mk .undef .undef .undef .undef .undef .undef .undef .undef .undef .undef v .undef .undef .undef .undef .undef) (fun a0 a1 a2 a3 a4 a5 a6 a7 a8 a9 aa ab ac ad ae af => fun v => .mk a0 a1 a2 a3 a4 a5 a6 a7 a8 a9 v ab ac ad ae af) x v
def A1.sb (v : AV) (x : A1) : A1 := A1.rec (motive := fun _ => AV → A1) (fun v => .mk .undef .undef .undef .undef .undef .undef .undef .undef .undef .undef .undef v .undef .undef .undef .undef) (fun a0 a1 a2 a3 a4 a5 a6 a7 a8 a9 aa ab ac ad ae af => fun v => .mk a0 a1 a2 a3 a4 a5 a6 a7 a8 a9 aa v ac ad ae af) x v
def A1.sc (v : AV) (x : A1) : A1 := A1.rec (motive := fun _ => AV → A1) (fun v => .mk .undef .undef .undef .undef .undef .undef .undef .undef .undef .undef .undef .undef v .undef .undef .undef) (fun a0 a1 a2 a3 a4 a5 a6 a7 a8 a9 aa ab ac ad ae af => fun v => .mk a0 a1 a2 a3 a4 a5 a6 a7 a8 a9 aa ab v ad ae af) x v
def A1.sd (v : AV) (x : A1) : A1 := A1.rec (motive := fun _ => AV → A1) (fun v => .mk .undef .undef .undef .undef .undef .undef .undef .undef .undef .undef .undef .undef .undef v .undef .undef) (fun a0 a1 a2 a3 a4 a5 a6 a7 a8 a9 aa ab ac ad ae af => fun v => .mk a0 a1 a2 a3 a4 a5 a6 a7 a8 a9 aa ab ac v ae af) x v
def A1.se (v : AV) (x : A1) : A1 := A1.rec (motive := fun _ => AV → A1) (fun v => .mk .undef .undef .undef .undef .undef .undef .undef .undef .undef .undef .undef .undef .undef .undef v .undef) (fun a0 a1 a2 a3 a4 a5 a6 a7 a8 a9 aa ab ac ad ae af => fun v => .mk a0 a1 a2 a3 a4 a5 a6 a7 a8 a9 aa ab ac ad v af) x v
def A1.sf (v : AV) (x : A1) : A1 := A1.rec (motive := fun _ => AV → A1) (fun v => .mk .undef .undef .undef .undef .undef .undef .undef .undef .undef .undef .undef .undef .undef .undef .undef v) (fun a0 a1 a2 a3 a4 a5 a6 a7 a8 a9 aa ab ac ad ae af => fun v => .mk a0 a1 a2 a3 a4 a5 a6 a7 a8 a9 aa ab ac ad ae v) x v
def A1.set (d : H) : AV → A1 → A1 := H.rec (motive := fun _ => AV → A1 → A1) A1.s0 A1.s1 A1.s2 A1.s3 A1.s4 A1.s5 A1.s6 A1.s7 A1.s8 A1.s9 A1.sa A1.sb A1.sc A1.sd A1.se A1.sf d

inductive A2 where
  | nil
  | mk (a0 a1 a2 a3 a4 a5 a6 a7 a8 a9 aa ab ac ad ae af : A1)
def A2.g0 (x : A2) : A1 := A2.rec .nil (fun a0 a1 a2 a3 a4 a5 a6 a7 a8 a9 aa ab ac ad ae af => a0) x
def A2.g1 (x : A2) : A1 := A2.rec .nil (fun a0 a1 a2 a3 a4 a5 a6 a7 a8 a9 aa ab ac ad ae af => a1) x
def A2.g2 (x : A2) : A1 := A2.rec .nil (fun a0 a1 a2 a3 a4 a5 a6 a7 a8 a9 aa ab ac ad ae af => a2) x
def A2.g3 (x : A2) : A1 := A2.rec .nil (fun a0 a1 a2 a3 a4 a5 a6 a7 a8 a9 aa ab ac ad ae af => a3) x
def A2.g4 (x : A2) : A1 := A2.rec .nil (fun a0 a1 a2 a3 a4 a5 a6 a7 a8 a9 aa ab ac ad ae af => a4) x
def A2.g5 (x : A2) : A1 := A2.rec .nil (fun a0 a1 a2 a3 a4 a5 a6 a7 a8 a9 aa ab ac ad ae af => a5) x
def A2.g6 (x : A2) : A1 := A2.rec .nil (fun a0 a1 a2 a3 a4 a5 a6 a7 a8 a9 aa ab ac ad ae af => a6) x
def A2.g7 (x : A2) : A1 := A2.rec .nil (fun a0 a1 a2 a3 a4 a5 a6 a7 a8 a9 aa ab ac ad ae af => a7) x
def A2.g8 (x : A2) : A1 := A2.rec .nil (fun a0 a1 a2 a3 a4 a5 a6 a7 a8 a9 aa ab ac ad ae af => a8) x
def A2.g9 (x : A2) : A1 := A2.rec .nil (fun a0 a1 a2 a3 a4 a5 a6 a7 a8 a9 aa ab ac ad ae af => a9) x
def A2.ga (x : A2) : A1 := A2.rec .nil (fun a0 a1 a2 a3 a4 a5 a6 a7 a8 a9 aa ab ac ad ae af => aa) x
def A2.gb (x : A2) : A1 := A2.rec .nil (fun a0 a1 a2 a3 a4 a5 a6 a7 a8 a9 aa ab ac ad ae af => ab) x
def A2.gc (x : A2) : A1 := A2.rec .nil (fun a0 a1 a2 a3 a4 a5 a6 a7 a8 a9 aa ab ac ad ae af => ac) x
def A2.gd (x : A2) : A1 := A2.rec .nil (fun a0 a1 a2 a3 a4 a5 a6 a7 a8 a9 aa ab ac ad ae af => ad) x
def A2.ge (x : A2) : A1 := A2.rec .nil (fun a0 a1 a2 a3 a4 a5 a6 a7 a8 a9 aa ab ac ad ae af => ae) x
def A2.gf (x : A2) : A1 := A2.rec .nil (fun a0 a1 a2 a3 a4 a5 a6 a7 a8 a9 aa ab ac ad ae af => af) x
def A2.get (d : H) : A2 → A1 := H.rec (motive := fun _ => A2 → A1) A2.g0 A2.g1 A2.g2 A2.g3 A2.g4 A2.g5 A2.g6 A2.g7 A2.g8 A2.g9 A2.ga A2.gb A2.gc A2.gd A2.ge A2.gf d
def A2.s0 (v : A1) (x : A2) : A2 := A2.rec (motive := fun _ => A1 → A2) (fun v => .mk v .nil .nil .nil .nil .nil .nil .nil .nil .nil .nil .nil .nil .nil .nil .nil) (fun a0 a1 a2 a3 a4 a5 a6 a7 a8 a9 aa ab ac ad ae af => fun v => .mk v a1 a2 a3 a4 a5 a6 a7 a8 a9 aa ab ac ad ae af) x v
def A2.s1 (v : A1) (x : A2) : A2 := A2.rec (motive := fun _ => A1 → A2) (fun v => .mk .nil v .nil .nil .nil .nil .nil .nil .nil .nil .nil .nil .nil .nil .nil .nil) (fun a0 a1 a2 a3 a4 a5 a6 a7 a8 a9 aa ab ac ad ae af => fun v => .mk a0 v a2 a3 a4 a5 a6 a7 a8 a9 aa ab ac ad ae af) x v
def A2.s2 (v : A1) (x : A2) : A2 := A2.rec (motive := fun _ => A1 → A2) (fun v => .mk .nil .nil v .nil .nil .nil .nil .nil .nil .nil .nil .nil .nil .nil .nil .nil) (fun a0 a1 a2 a3 a4 a5 a6 a7 a8 a9 aa ab ac ad ae af => fun v => .mk a0 a1 v a3 a4 a5 a6 a7 a8 a9 aa ab ac ad ae af) x v
def A2.s3 (v : A1) (x : A2) : A2 := A2.rec (motive := fun _ => A1 → A2) (fun v => .mk .nil .nil .nil v .nil .nil .nil .nil .nil .nil .nil .nil .nil .nil .nil .nil) (fun a0 a1 a2 a3 a4 a5 a6 a7 a8 a9 aa ab ac ad ae af => fun v => .mk a0 a1 a2 v a4 a5 a6 a7 a8 a9 aa ab ac ad ae af) x v
def A2.s4 (v : A1) (x : A2) : A2 := A2.rec (motive := fun _ => A1 → A2) (fun v => .mk .nil .nil .nil .nil v .nil .nil .nil .nil .nil .nil .nil .nil .nil .nil .nil) (fun a0 a1 a2 a3 a4 a5 a6 a7 a8 a9 aa ab ac ad ae af => fun v => .mk a0 a1 a2 a3 v a5 a6 a7 a8 a9 aa ab ac ad ae af) x v
def A2.s5 (v : A1) (x : A2) : A2 := A2.rec (motive := fun _ => A1 → A2) (fun v => .mk .nil .nil .nil .nil .nil v .nil .nil .nil .nil .nil .nil .nil .nil .nil .nil) (fun a0 a1 a2 a3 a4 a5 a6 a7 a8 a9 aa ab ac ad ae af => fun v => .mk a0 a1 a2 a3 a4 v a6 a7 a8 a9 aa ab ac ad ae af) x v
def A2.s6 (v : A1) (x : A2) : A2 := A2.rec (motive := fun _ => A1 → A2) (fun v => .mk .nil .nil .nil .nil .nil .nil v .nil .nil .nil .nil .nil .nil .nil .nil .nil) (fun a0 a1 a2 a3 a4 a5 a6 a7 a8 a9 aa ab ac ad ae af => fun v => .mk a0 a1 a2 a3 a4 a5 v a7 a8 a9 aa ab ac ad ae af) x v
def A2.s7 (v : A1) (x : A2) : A2 := A2.rec (motive := fun _ => A1 → A2) (fun v => .mk .nil .nil .nil .nil .nil .nil .nil v .nil .nil .nil .nil .nil .nil .nil .nil) (fun a0 a1 a2 a3 a4 a5 a6 a7 a8 a9 aa ab ac ad ae af => fun v => .mk a0 a1 a2 a3 a4 a5 a6 v a8 a9 aa ab ac ad ae af) x v
def A2.s8 (v : A1) (x : A2) : A2 := A2.rec (motive := fun _ => A1 → A2) (fun v => .mk .nil .nil .nil .nil .nil .nil .nil .nil v .nil .nil .nil .nil .nil .nil .nil) (fun a0 a1 a2 a3 a4 a5 a6 a7 a8 a9 aa ab ac ad ae af => fun v => .mk a0 a1 a2 a3 a4 a5 a6 a7 v a9 aa ab ac ad ae af) x v
def A2.s9 (v : A1) (x : A2) : A2 := A2.rec (motive := fun _ => A1 → A2) (fun v => .mk .nil .nil .nil .nil .nil .nil .nil .nil .nil v .nil .nil .nil .nil .nil .nil) (fun a0 a1 a2 a3 a4 a5 a6 a7 a8 a9 aa ab ac ad ae af => fun v => .mk a0 a1 a2 a3 a4 a5 a6 a7 a8 v aa ab ac ad ae af) x v
def A2.sa (v : A1) (x : A2) : A2 := A2.rec (motive := fun _ => A1 → A2) (fun v => .mk .nil .nil .nil .nil .nil .nil .nil .nil .nil .nil v .nil .nil .nil .nil .nil) (fun a0 a1 a2 a3 a4 a5 a6 a7 a8 a9 aa ab ac ad ae af => fun v => .mk a0 a1 a2 a3 a4 a5 a6 a7 a8 a9 v ab ac ad ae af) x v
def A2.sb (v : A1) (x : A2) : A2 := A2.rec (motive := fun _ => A1 → A2) (fun v => .mk .nil .nil .nil .nil .nil .nil .nil .nil .nil .nil .nil v .nil .nil .nil .nil) (fun a0 a1 a2 a3 a4 a5 a6 a7 a8 a9 aa ab ac ad ae af => fun v => .mk a0 a1 a2 a3 a4 a5 a6 a7 a8 a9 aa v ac ad ae af) x v
def A2.sc (v : A1) (x : A2) : A2 := A2.rec (motive := fun _ => A1 → A2) (fun v => .mk .nil .nil .nil .nil .nil .nil .nil .nil .nil .nil .nil .nil v .nil .nil .nil) (fun a0 a1 a2 a3 a4 a5 a6 a7 a8 a9 aa ab ac ad ae af => fun v => .mk a0 a1 a2 a3 a4 a5 a6 a7 a8 a9 aa ab v ad ae af) x v
def A2.sd (v : A1) (x : A2) : A2 := A2.rec (motive := fun _ => A1 → A2) (fun v => .mk .nil .nil .nil .nil .nil .nil .nil .nil .nil .nil .nil .nil .nil v .nil .nil) (fun a0 a1 a2 a3 a4 a5 a6 a7 a8 a9 aa ab ac ad ae af => fun v => .mk a0 a1 a2 a3 a4 a5 a6 a7 a8 a9 aa ab ac v ae af) x v
def A2.se (v : A1) (x : A2) : A2 := A2.rec (motive := fun _ => A1 → A2) (fun v => .mk .nil .nil .nil .nil .nil .nil .nil .nil .nil .nil .nil .nil .nil .nil v .nil) (fun a0 a1 a2 a3 a4 a5 a6 a7 a8 a9 aa ab ac ad ae af => fun v => .mk a0 a1 a2 a3 a4 a5 a6 a7 a8 a9 aa ab ac ad v af) x v
def A2.sf (v : A1) (x : A2) : A2 := A2.rec (motive := fun _ => A1 → A2) (fun v => .mk .nil .nil .nil .nil .nil .nil .nil .nil .nil .nil .nil .nil .nil .nil .nil v) (fun a0 a1 a2 a3 a4 a5 a6 a7 a8 a9 aa ab ac ad ae af => fun v => .mk a0 a1 a2 a3 a4 a5 a6 a7 a8 a9 aa ab ac ad ae v) x v
def A2.set (d : H) : A1 → A2 → A2 := H.rec (motive := fun _ => A1 → A2 → A2) A2.s0 A2.s1 A2.s2 A2.s3 A2.s4 A2.s5 A2.s6 A2.s7 A2.s8 A2.s9 A2.sa A2.sb A2.sc A2.sd A2.se A2.sf d

inductive A3 where
  | nil
  | mk (a0 a1 a2 a3 a4 a5 a6 a7 a8 a9 aa ab ac ad ae af : A2)
def A3.g0 (x : A3) : A2 := A3.rec .nil (fun a0 a1 a2 a3 a4 a5 a6 a7 a8 a9 aa ab ac ad ae af => a0) x
def A3.g1 (x : A3) : A2 := A3.rec .nil (fun a0 a1 a2 a3 a4 a5 a6 a7 a8 a9 aa ab ac ad ae af => a1) x
def A3.g2 (x : A3) : A2 := A3.rec .nil (fun a0 a1 a2 a3 a4 a5 a6 a7 a8 a9 aa ab ac ad ae af => a2) x
def A3.g3 (x : A3) : A2 := A3.rec .nil (fun a0 a1 a2 a3 a4 a5 a6 a7 a8 a9 aa ab ac ad ae af => a3) x
def A3.g4 (x : A3) : A2 := A3.rec .nil (fun a0 a1 a2 a3 a4 a5 a6 a7 a8 a9 aa ab ac ad ae af => a4) x
def A3.g5 (x : A3) : A2 := A3.rec .nil (fun a0 a1 a2 a3 a4 a5 a6 a7 a8 a9 aa ab ac ad ae af => a5) x
def A3.g6 (x : A3) : A2 := A3.rec .nil (fun a0 a1 a2 a3 a4 a5 a6 a7 a8 a9 aa ab ac ad ae af => a6) x
def A3.g7 (x : A3) : A2 := A3.rec .nil (fun a0 a1 a2 a3 a4 a5 a6 a7 a8 a9 aa ab ac ad ae af => a7) x
def A3.g8 (x : A3) : A2 := A3.rec .nil (fun a0 a1 a2 a3 a4 a5 a6 a7 a8 a9 aa ab ac ad ae af => a8) x
def A3.g9 (x : A3) : A2 := A3.rec .nil (fun a0 a1 a2 a3 a4 a5 a6 a7 a8 a9 aa ab ac ad ae af => a9) x
def A3.ga (x : A3) : A2 := A3.rec .nil (fun a0 a1 a2 a3 a4 a5 a6 a7 a8 a9 aa ab ac ad ae af => aa) x
def A3.gb (x : A3) : A2 := A3.rec .nil (fun a0 a1 a2 a3 a4 a5 a6 a7 a8 a9 aa ab ac ad ae af => ab) x
def A3.gc (x : A3) : A2 := A3.rec .nil (fun a0 a1 a2 a3 a4 a5 a6 a7 a8 a9 aa ab ac ad ae af => ac) x
def A3.gd (x : A3) : A2 := A3.rec .nil (fun a0 a1 a2 a3 a4 a5 a6 a7 a8 a9 aa ab ac ad ae af => ad) x
def A3.ge (x : A3) : A2 := A3.rec .nil (fun a0 a1 a2 a3 a4 a5 a6 a7 a8 a9 aa ab ac ad ae af => ae) x
def A3.gf (x : A3) : A2 := A3.rec .nil (fun a0 a1 a2 a3 a4 a5 a6 a7 a8 a9 aa ab ac ad ae af => af) x
def A3.get (d : H) : A3 → A2 := H.rec (motive := fun _ => A3 → A2) A3.g0 A3.g1 A3.g2 A3.g3 A3.g4 A3.g5 A3.g6 A3.g7 A3.g8 A3.g9 A3.ga A3.gb A3.gc A3.gd A3.ge A3.gf d
def A3.s0 (v : A2) (x : A3) : A3 := A3.rec (motive := fun _ => A2 → A3) (fun v => .mk v .nil .nil .nil .nil .nil .nil .nil .nil .nil .nil .nil .nil .nil .nil .nil) (fun a0 a1 a2 a3 a4 a5 a6 a7 a8 a9 aa ab ac ad ae af => fun v => .mk v a1 a2 a3 a4 a5 a6 a7 a8 a9 aa ab ac ad ae af) x v
def A3.s1 (v : A2) (x : A3) : A3 := A3.rec (motive := fun _ => A2 → A3) (fun v => .mk .nil v .nil .nil .nil .nil .nil .nil .nil .nil .nil .nil .nil .nil .nil .nil) (fun a0 a1 a2 a3 a4 a5 a6 a7 a8 a9 aa ab ac ad ae af => fun v => .mk a0 v a2 a3 a4 a5 a6 a7 a8 a9 aa ab ac ad ae af) x v
def A3.s2 (v : A2) (x : A3) : A3 := A3.rec (motive := fun _ => A2 → A3) (fun v => .mk .nil .nil v .nil .nil .nil .nil .nil .nil .nil .nil .nil .nil .nil .nil .nil) (fun a0 a1 a2 a3 a4 a5 a6 a7 a8 a9 aa ab ac ad ae af => fun v => .mk a0 a1 v a3 a4 a5 a6 a7 a8 a9 aa ab ac ad ae af) x v
def A3.s3 (v : A2) (x : A3) : A3 := A3.rec (motive := fun _ => A2 → A3) (fun v => .mk .nil .nil .nil v .nil .nil .nil .nil .nil .nil .nil .nil .nil .nil .nil .nil) (fun a0 a1 a2 a3 a4 a5 a6 a7 a8 a9 aa ab ac ad ae af => fun v => .mk a0 a1 a2 v a4 a5 a6 a7 a8 a9 aa ab ac ad ae af) x v
def A3.s4 (v : A2) (x : A3) : A3 := A3.rec (motive := fun _ => A2 → A3) (fun v => .mk .nil .nil .nil .nil v .nil .nil .nil .nil .nil .nil .nil .nil .nil .nil .nil) (fun a0 a1 a2 a3 a4 a5 a6 a7 a8 a9 aa ab ac ad ae af => fun v => .mk a0 a1 a2 a3 v a5 a6 a7 a8 a9 aa ab ac ad ae af) x v
def A3.s5 (v : A2) (x : A3) : A3 := A3.rec (motive := fun _ => A2 → A3) (fun v => .mk .nil .nil .nil .nil .nil v .nil .nil .nil .nil .nil .nil .nil .nil .nil .nil) (fun a0 a1 a2 a3 a4 a5 a6 a7 a8 a9 aa ab ac ad ae af => fun v => .mk a0 a1 a2 a3 a4 v a6 a7 a8 a9 aa ab ac ad ae af) x v
def A3.s6 (v : A2) (x : A3) : A3 := A3.rec (motive := fun _ => A2 → A3) (fun v => .mk .nil .nil .nil .nil .nil .nil v .nil .nil .nil .nil .nil .nil .nil .nil .nil) (fun a0 a1 a2 a3 a4 a5 a6 a7 a8 a9 aa ab ac ad ae af => fun v => .mk a0 a1 a2 a3 a4 a5 v a7 a8 a9 aa ab ac ad ae af) x v
def A3.s7 (v : A2) (x : A3) : A3 := A3.rec (motive := fun _ => A2 → A3) (fun v => .mk .nil .nil .nil .nil .nil .nil .nil v .nil .nil .nil .nil .nil .nil .nil .nil) (fun a0 a1 a2 a3 a4 a5 a6 a7 a8 a9 aa ab ac ad ae af => fun v => .mk a0 a1 a2 a3 a4 a5 a6 v a8 a9 aa ab ac ad ae af) x v
def A3.s8 (v : A2) (x : A3) : A3 := A3.rec (motive := fun _ => A2 → A3) (fun v => .mk .nil .nil .nil .nil .nil .nil .nil .nil v .nil .nil .nil .nil .nil .nil .nil) (fun a0 a1 a2 a3 a4 a5 a6 a7 a8 a9 aa ab ac ad ae af => fun v => .mk a0 a1 a2 a3 a4 a5 a6 a7 v a9 aa ab ac ad ae af) x v
def A3.s9 (v : A2) (x : A3) : A3 := A3.rec (motive := fun _ => A2 → A3) (fun v => .mk .nil .nil .nil .nil .nil .nil .nil .nil .nil v .nil .nil .nil .nil .nil .nil) (fun a0 a1 a2 a3 a4 a5 a6 a7 a8 a9 aa ab ac ad ae af => fun v => .mk a0 a1 a2 a3 a4 a5 a6 a7 a8 v aa ab ac ad ae af) x v
def A3.sa (v : A2) (x : A3) : A3 := A3.rec (motive := fun _ => A2 → A3) (fun v => .mk .nil .nil .nil .nil .nil .nil .nil .nil .nil .nil v .nil .nil .nil .nil .nil) (fun a0 a1 a2 a3 a4 a5 a6 a7 a8 a9 aa ab ac ad ae af => fun v => .mk a0 a1 a2 a3 a4 a5 a6 a7 a8 a9 v ab ac ad ae af) x v
def A3.sb (v : A2) (x : A3) : A3 := A3.rec (motive := fun _ => A2 → A3) (fun v => .mk .nil .nil .nil .nil .nil .nil .nil .nil .nil .nil .nil v .nil .nil .nil .nil) (fun a0 a1 a2 a3 a4 a5 a6 a7 a8 a9 aa ab ac ad ae af => fun v => .mk a0 a1 a2 a3 a4 a5 a6 a7 a8 a9 aa v ac ad ae af) x v
def A3.sc (v : A2) (x : A3) : A3 := A3.rec (motive := fun _ => A2 → A3) (fun v => .mk .nil .nil .nil .nil .nil .nil .nil .nil .nil .nil .nil .nil v .nil .nil .nil) (fun a0 a1 a2 a3 a4 a5 a6 a7 a8 a9 aa ab ac ad ae af => fun v => .mk a0 a1 a2 a3 a4 a5 a6 a7 a8 a9 aa ab v ad ae af) x v
def A3.sd (v : A2) (x : A3) : A3 := A3.rec (motive := fun _ => A2 → A3) (fun v => .mk .nil .nil .nil .nil .nil .nil .nil .nil .nil .nil .nil .nil .nil v .nil .nil) (fun a0 a1 a2 a3 a4 a5 a6 a7 a8 a9 aa ab ac ad ae af => fun v => .mk a0 a1 a2 a3 a4 a5 a6 a7 a8 a9 aa ab ac v ae af) x v
def A3.se (v : A2) (x : A3) : A3 := A3.rec (motive := fun _ => A2 → A3) (fun v => .mk .nil .nil .nil .nil .nil .nil .nil .nil .nil .nil .nil .nil .nil .nil v .nil) (fun a0 a1 a2 a3 a4 a5 a6 a7 a8 a9 aa ab ac ad ae af => fun v => .mk a0 a1 a2 a3 a4 a5 a6 a7 a8 a9 aa ab ac ad v af) x v
def A3.sf (v : A2) (x : A3) : A3 := A3.rec (motive := fun _ => A2 → A3) (fun v => .mk .nil .nil .nil .nil .nil .nil .nil .nil .nil .nil .nil .nil .nil .nil .nil v) (fun a0 a1 a2 a3 a4 a5 a6 a7 a8 a9 aa ab ac ad ae af => fun v => .mk a0 a1 a2 a3 a4 a5 a6 a7 a8 a9 aa ab ac ad ae v) x v
def A3.set (d : H) : A2 → A3 → A3 := H.rec (motive := fun _ => A2 → A3 → A3) A3.s0 A3.s1 A3.s2 A3.s3 A3.s4 A3.s5 A3.s6 A3.s7 A3.s8 A3.s9 A3.sa A3.sb A3.sc A3.sd A3.se A3.sf d

inductive A4 where
  | nil
  | mk (a0 a1 a2 a3 a4 a5 a6 a7 a8 a9 aa ab ac ad ae af : A3)
def A4.g0 (x : A4) : A3 := A4.rec .nil (fun a0 a1 a2 a3 a4 a5 a6 a7 a8 a9 aa ab ac ad ae af => a0) x
def A4.g1 (x : A4) : A3 := A4.rec .nil (fun a0 a1 a2 a3 a4 a5 a6 a7 a8 a9 aa ab ac ad ae af => a1) x
def A4.g2 (x : A4) : A3 := A4.rec .nil (fun a0 a1 a2 a3 a4 a5 a6 a7 a8 a9 aa ab ac ad ae af => a2) x
def A4.g3 (x : A4) : A3 := A4.rec .nil (fun a0 a1 a2 a3 a4 a5 a6 a7 a8 a9 aa ab ac ad ae af => a3) x
def A4.g4 (x : A4) : A3 := A4.rec .nil (fun a0 a1 a2 a3 a4 a5 a6 a7 a8 a9 aa ab ac ad ae af => a4) x
def A4.g5 (x : A4) : A3 := A4.rec .nil (fun a0 a1 a2 a3 a4 a5 a6 a7 a8 a9 aa ab ac ad ae af => a5) x
def A4.g6 (x : A4) : A3 := A4.rec .nil (fun a0 a1 a2 a3 a4 a5 a6 a7 a8 a9 aa ab ac ad ae af => a6) x
def A4.g7 (x : A4) : A3 := A4.rec .nil (fun a0 a1 a2 a3 a4 a5 a6 a7 a8 a9 aa ab ac ad ae af => a7) x
def A4.g8 (x : A4) : A3 := A4.rec .nil (fun a0 a1 a2 a3 a4 a5 a6 a7 a8 a9 aa ab ac ad ae af => a8) x
def A4.g9 (x : A4) : A3 := A4.rec .nil (fun a0 a1 a2 a3 a4 a5 a6 a7 a8 a9 aa ab ac ad ae af => a9) x
def A4.ga (x : A4) : A3 := A4.rec .nil (fun a0 a1 a2 a3 a4 a5 a6 a7 a8 a9 aa ab ac ad ae af => aa) x
def A4.gb (x : A4) : A3 := A4.rec .nil (fun a0 a1 a2 a3 a4 a5 a6 a7 a8 a9 aa ab ac ad ae af => ab) x
def A4.gc (x : A4) : A3 := A4.rec .nil (fun a0 a1 a2 a3 a4 a5 a6 a7 a8 a9 aa ab ac ad ae af => ac) x
def A4.gd (x : A4) : A3 := A4.rec .nil (fun a0 a1 a2 a3 a4 a5 a6 a7 a8 a9 aa ab ac ad ae af => ad) x
def A4.ge (x : A4) : A3 := A4.rec .nil (fun a0 a1 a2 a3 a4 a5 a6 a7 a8 a9 aa ab ac ad ae af => ae) x
def A4.gf (x : A4) : A3 := A4.rec .nil (fun a0 a1 a2 a3 a4 a5 a6 a7 a8 a9 aa ab ac ad ae af => af) x
def A4.get (d : H) : A4 → A3 := H.rec (motive := fun _ => A4 → A3) A4.g0 A4.g1 A4.g2 A4.g3 A4.g4 A4.g5 A4.g6 A4.g7 A4.g8 A4.g9 A4.ga A4.gb A4.gc A4.gd A4.ge A4.gf d
def A4.s0 (v : A3) (x : A4) : A4 := A4.rec (motive := fun _ => A3 → A4) (fun v => .mk v .nil .nil .nil .nil .nil .nil .nil .nil .nil .nil .nil .nil .nil .nil .nil) (fun a0 a1 a2 a3 a4 a5 a6 a7 a8 a9 aa ab ac ad ae af => fun v => .mk v a1 a2 a3 a4 a5 a6 a7 a8 a9 aa ab ac ad ae af) x v
def A4.s1 (v : A3) (x : A4) : A4 := A4.rec (motive := fun _ => A3 → A4) (fun v => .mk .nil v .nil .nil .nil .nil .nil .nil .nil .nil .nil .nil .nil .nil .nil .nil) (fun a0 a1 a2 a3 a4 a5 a6 a7 a8 a9 aa ab ac ad ae af => fun v => .mk a0 v a2 a3 a4 a5 a6 a7 a8 a9 aa ab ac ad ae af) x v
def A4.s2 (v : A3) (x : A4) : A4 := A4.rec (motive := fun _ => A3 → A4) (fun v => .mk .nil .nil v .nil .nil .nil .nil .nil .nil .nil .nil .nil .nil .nil .nil .nil) (fun a0 a1 a2 a3 a4 a5 a6 a7 a8 a9 aa ab ac ad ae af => fun v => .mk a0 a1 v a3 a4 a5 a6 a7 a8 a9 aa ab ac ad ae af) x v
def A4.s3 (v : A3) (x : A4) : A4 := A4.rec (motive := fun _ => A3 → A4) (fun v => .mk .nil .nil .nil v .nil .nil .nil .nil .nil .nil .nil .nil .nil .nil .nil .nil) (fun a0 a1 a2 a3 a4 a5 a6 a7 a8 a9 aa ab ac ad ae af => fun v => .mk a0 a1 a2 v a4 a5 a6 a7 a8 a9 aa ab ac ad ae af) x v
def A4.s4 (v : A3) (x : A4) : A4 := A4.rec (motive := fun _ => A3 → A4) (fun v => .mk .nil .nil .nil .nil v .nil .nil .nil .nil .nil .nil .nil .nil .nil .nil .nil) (fun a0 a1 a2 a3 a4 a5 a6 a7 a8 a9 aa ab ac ad ae af => fun v => .mk a0 a1 a2 a3 v a5 a6 a7 a8 a9 aa ab ac ad ae af) x v
def A4.s5 (v : A3) (x : A4) : A4 := A4.rec (motive := fun _ => A3 → A4) (fun v => .mk .nil .nil .nil .nil .nil v .nil .nil .nil .nil .nil .nil .nil .nil .nil .nil) (fun a0 a1 a2 a3 a4 a5 a6 a7 a8 a9 aa ab ac ad ae af => fun v => .mk a0 a1 a2 a3 a4 v a6 a7 a8 a9 aa ab ac ad ae af) x v
def A4.s6 (v : A3) (x : A4) : A4 := A4.rec (motive := fun _ => A3 → A4) (fun v => .mk .nil .nil .nil .nil .nil .nil v .nil .nil .nil .nil .nil .nil .nil .nil .nil) (fun a0 a1 a2 a3 a4 a5 a6 a7 a8 a9 aa ab ac ad ae af => fun v => .mk a0 a1 a2 a3 a4 a5 v a7 a8 a9 aa ab ac ad ae af) x v
def A4.s7 (v : A3) (x : A4) : A4 := A4.rec (motive := fun _ => A3 → A4) (fun v => .mk .nil .nil .nil .nil .nil .nil .nil v .nil .nil .nil .nil .nil .nil .nil .nil) (fun a0 a1 a2 a3 a4 a5 a6 a7 a8 a9 aa ab ac ad ae af => fun v => .mk a0 a1 a2 a3 a4 a5 a6 v a8 a9 aa ab ac ad ae af) x v
def A4.s8 (v : A3) (x : A4) : A4 := A4.rec (motive := fun _ => A3 → A4) (fun v => .mk .nil .nil .nil .nil .nil .nil .nil .nil v .nil .nil .nil .nil .nil .nil .nil) (fun a0 a1 a2 a3 a4 a5 a6 a7 a8 a9 aa ab ac ad ae af => fun v => .mk a0 a1 a2 a3 a4 a5 a6 a7 v a9 aa ab ac ad ae af) x v
def A4.s9 (v : A3) (x : A4) : A4 := A4.rec (motive := fun _ => A3 → A4) (fun v => .mk .nil .nil .nil .nil .nil .nil .nil .nil .nil v .nil .nil .nil .nil .nil .nil) (fun a0 a1 a2 a3 a4 a5 a6 a7 a8 a9 aa ab ac ad ae af => fun v => .mk a0 a1 a2 a3 a4 a5 a6 a7 a8 v aa ab ac ad ae af) x v
def A4.sa (v : A3) (x : A4) : A4 := A4.rec (motive := fun _ => A3 → A4) (fun v => .mk .nil .nil .nil .nil .nil .nil .nil .nil .nil .nil v .nil .nil .nil .nil .nil) (fun a0 a1 a2 a3 a4 a5 a6 a7 a8 a9 aa ab ac ad ae af => fun v => .mk a0 a1 a2 a3 a4 a5 a6 a7 a8 a9 v ab ac ad ae af) x v
def A4.sb (v : A3) (x : A4) : A4 := A4.rec (motive := fun _ => A3 → A4) (fun v => .mk .nil .nil .nil .nil .nil .nil .nil .nil .nil .nil .nil v .nil .nil .nil .nil) (fun a0 a1 a2 a3 a4 a5 a6 a7 a8 a9 aa ab ac ad ae af => fun v => .mk a0 a1 a2 a3 a4 a5 a6 a7 a8 a9 aa v ac ad ae af) x v
def A4.sc (v : A3) (x : A4) : A4 := A4.rec (motive := fun _ => A3 → A4) (fun v => .mk .nil .nil .nil .nil .nil .nil .nil .nil .nil .nil .nil .nil v .nil .nil .nil) (fun a0 a1 a2 a3 a4 a5 a6 a7 a8 a9 aa ab ac ad ae af => fun v => .mk a0 a1 a2 a3 a4 a5 a6 a7 a8 a9 aa ab v ad ae af) x v
def A4.sd (v : A3) (x : A4) : A4 := A4.rec (motive := fun _ => A3 → A4) (fun v => .mk .nil .nil .nil .nil .nil .nil .nil .nil .nil .nil .nil .nil .nil v .nil .nil) (fun a0 a1 a2 a3 a4 a5 a6 a7 a8 a9 aa ab ac ad ae af => fun v => .mk a0 a1 a2 a3 a4 a5 a6 a7 a8 a9 aa ab ac v ae af) x v
def A4.se (v : A3) (x : A4) : A4 := A4.rec (motive := fun _ => A3 → A4) (fun v => .mk .nil .nil .nil .nil .nil .nil .nil .nil .nil .nil .nil .nil .nil .nil v .nil) (fun a0 a1 a2 a3 a4 a5 a6 a7 a8 a9 aa ab ac ad ae af => fun v => .mk a0 a1 a2 a3 a4 a5 a6 a7 a8 a9 aa ab ac ad v af) x v
def A4.sf (v : A3) (x : A4) : A4 := A4.rec (motive := fun _ => A3 → A4) (fun v => .mk .nil .nil .nil .nil .nil .nil .nil .nil .nil .nil .nil .nil .nil .nil .nil v) (fun a0 a1 a2 a3 a4 a5 a6 a7 a8 a9 aa ab ac ad ae af => fun v => .mk a0 a1 a2 a3 a4 a5 a6 a7 a8 a9 aa ab ac ad ae v) x v
def A4.set (d : H) : A3 → A4 → A4 := H.rec (motive := fun _ => A3 → A4 → A4) A4.s0 A4.s1 A4.s2 A4.s3 A4.s4 A4.s5 A4.s6 A4.s7 A4.s8 A4.s9 A4.sa A4.sb A4.sc A4.sd A4.se A4.sf d


inductive Cl where
  | k1 (x : A1)
  | k2 (x : A2)
  | k3 (x : A3)
  | k4 (x : A4)

inductive Fl where
  | plain
  | mark
  | froz

inductive Obj where
  | none
  | dead
  | cells (el n : Nat) (ex : Bool) (fl : Fl) (c : Cl)
  | map (l : List KV) (clock : Nat)
  | siter (s : List Nat) (pos : Nat)
  | miter (m : P4) (since : Nat) (seen : List Nat) (last : Nat)
  | niter

inductive O1 where
  | nil
  | mk (a0 a1 a2 a3 a4 a5 a6 a7 a8 a9 aa ab ac ad ae af : Obj)
def O1.g0 (x : O1) : Obj := O1.rec .none (fun a0 a1 a2 a3 a4 a5 a6 a7 a8 a9 aa ab ac ad ae af => a0) x
def O1.g1 (x : O1) : Obj := O1.rec .none (fun a0 a1 a2 a3 a4 a5 a6 a7 a8 a9 aa ab ac ad ae af => a1) x
def O1.g2 (x : O1) : Obj := O1.rec .none (fun a0 a1 a2 a3 a4 a5 a6 a7 a8 a9 aa ab ac ad ae af => a2) x
def O1.g3 (x : O1) : Obj := O1.rec .none (fun a0 a1 a2 a3 a4 a5 a6 a7 a8 a9 aa ab ac ad ae af => a3) x
def O1.g4 (x : O1) : Obj := O1.rec .none (fun a0 a1 a2 a3 a4 a5 a6 a7 a8 a9 aa ab ac ad ae af => a4) x
def O1.g5 (x : O1) : Obj := O1.rec .none (fun a0 a1 a2 a3 a4 a5 a6 a7 a8 a9 aa ab ac ad ae af => a5) x
def O1.g6 (x : O1) : Obj := O1.rec .none (fun a0 a1 a2 a3 a4 a5 a6 a7 a8 a9 aa ab ac ad ae af => a6) x
def O1.g7 (x : O1) : Obj := O1.rec .none (fun a0 a1 a2 a3 a4 a5 a6 a7 a8 a9 aa ab ac ad ae af => a7) x
def O1.g8 (x : O1) : Obj := O1.rec .none (fun a0 a1 a2 a3 a4 a5 a6 a7 a8 a9 aa ab ac ad ae af => a8) x
def O1.g9 (x : O1) : Obj := O1.rec .none (fun a0 a1 a2 a3 a4 a5 a6 a7 a8 a9 aa ab ac ad ae af => a9) x
def O1.ga (x : O1) : Obj := O1.rec .none (fun a0 a1 a2 a3 a4 a5 a6 a7 a8 a9 aa ab ac ad ae af => aa) x
def O1.gb (x : O1) : Obj := O1.rec .none (fun a0 a1 a2 a3 a4 a5 a6 a7 a8 a9 aa ab ac ad ae af => ab) x
def O1.gc (x : O1) : Obj := O1.rec .none (fun a0 a1 a2 a3 a4 a5 a6 a7 a8 a9 aa ab ac ad ae af => ac) x
def O1.gd (x : O1) : Obj := O1.rec .none (fun a0 a1 a2 a3 a4 a5 a6 a7 a8 a9 aa ab ac ad ae af => ad) x
def O1.ge (x : O1) : Obj := O1.rec .none (fun a0 a1 a2 a3 a4 a5 a6 a7 a8 a9 aa ab ac ad ae af => ae) x
def O1.gf (x : O1) : Obj := O1.rec .none (fun a0 a1 a2 a3 a4 a5 a6 a7 a8 a9 aa ab ac ad ae af => af) x
def O1.get (d : H) : O1 → Obj := H.rec (motive := fun _ => O1 → Obj) O1.g0 O1.g1 O1.g2 O1.g3 O1.g4 O1.g5 O1.g6 O1.g7 O1.g8 O1.g9 O1.ga O1.gb O1.gc O1.gd O1.ge O1.gf d
def O1.s0 (v : Obj) (x : O1) : O1 := O1.rec (motive := fun _ => Obj → O1) (fun v => .mk v .none .none .none .none .none .none .none .none .none .none .none .none .none .none .none) (fun a0 a1 a2 a3 a4 a5 a6 a7 a8 a9 aa ab ac ad ae af => fun v => .mk v a1 a2 a3 a4 a5 a6 a7 a8 a9 aa ab ac ad ae af) x v
def O1.s1 (v : Obj) (x : O1) : O1 := O1.rec (motive := fun _ => Obj → O1) (fun v => .mk .none v .none .none .none .none .none .none .none .none .none .none .none .none .none .none) (fun a0 a1 a2 a3 a4 a5 a6 a7 a8 a9 aa ab ac ad ae af => fun v => .mk a0 v a2 a3 a4 a5 a6 a7 a8 a9 aa ab ac ad ae af) x v
def O1.s2 (v : Obj) (x : O1) : O1 := O1.rec (motive := fun _ => Obj → O1) (fun v => .mk .none .none v .none .none .none .none .none .none .none .none .none .none .none .none .none) (fun a0 a1 a2 a3 a4 a5 a6 a7 a8 a9 aa ab ac ad ae af => fun v => .mk a0 a1 v a3 a4 a5 a6 a7 a8 a9 aa ab ac ad ae af) x v
def O1.s3 (v : Obj) (x : O1) : O1 := O1.rec (motive := fun _ => Obj → O1) (fun v => .mk .none .none .none v .none .none .none .none .none .none .none .none .none .none .none .none) (fun a0 a1 a2 a3 a4 a5 a6 a7 a8 a9 aa ab ac ad ae af => fun v => .mk a0 a1 a2 v a4 a5 a6 a7 a8 a9 aa ab ac ad ae af) x v
def O1.s4 (v : Obj) (x : O1) : O1 := O1.rec (motive := fun _ => Obj → O1) (fun v => .mk .none .none .none .none v .none .none .none .none .none .none .none .none .none .none .none) (fun a0 a1 a2 a3 a4 a5 a6 a7 a8 a9 aa ab ac ad ae af => fun v => .mk a0 a1 a2 a3 v a5 a6 a7 a8 a9 aa ab ac ad ae af) x v
def O1.s5 (v : Obj) (x : O1) : O1 := O1.rec (motive := fun _ => Obj → O1) (fun v => .mk .none .none .none .none .none v .none .none .none .none .none .none .none .none .none .none) (fun a0 a1 a2 a3 a4 a5 a6 a7 a8 a9 aa ab ac ad ae af => fun v => .mk a0 a1 a2 a3 a4 v a6 a7 a8 a9 aa ab ac ad ae af) x v
def O1.s6 (v : Obj) (x : O1) : O1 := O1.rec (motive := fun _ => Obj → O1) (fun v => .mk .none .none .none .none .none .none v .none .none .none .none .none .none .none .none .none) (fun a0 a1 a2 a3 a4 a5 a6 a7 a8 a9 aa ab ac ad ae af => fun v => .mk a0 a1 a2 a3 a4 a5 v a7 a8 a9 aa ab ac ad ae af) x v
def O1.s7 (v : Obj) (x : O1) : O1 := O1.rec (motive := fun _ => Obj → O1) (fun v => .mk .none .none .none .none .none .none .none v .none .none .none .none .none .none .none .none) (fun a0 a1 a2 a3 a4 a5 a6 a7 a8 a9 aa ab ac ad ae af => fun v => .mk a0 a1 a2 a3 a4 a5 a6 v a8 a9 aa ab ac ad ae af) x v
def O1.s8 (v : Obj) (x : O1) : O1 := O1.rec (motive := fun _ => Obj → O1) (fun v => .mk .none .none .none .none .none .none .none .none v .none .none .none .none .none .none .none) (fun a0 a1 a2 a3 a4 a5 a6 a7 a8 a9 aa ab ac ad ae af => fun v => .mk a0 a1 a2 a3 a4 a5 a6 a7 v a9 aa ab ac ad ae af) x v
def O1.s9 (v : Obj) (x : O1) : O1 := O1.rec (motive := fun _ => Obj → O1) (fun v => .mk .none .none .none .none .none .none .none .none .none v .none .none .none .none .none .none) (fun a0 a1 a2 a3 a4 a5 a6 a7 a8 a9 aa ab ac ad ae af => fun v => .mk a0 a1 a2 a3 a4 a5 a6 a7 a8 v aa ab ac ad ae af) x v
def O1.sa (v : Obj) (x : O1) : O1 := O1.rec (motive := fun _ => Obj → O1) (fun v => .mk .none .none .none .none .none .none .none .none .none .none v .none .none .none .none .none) (fun a0 a1 a2 a3 a4 a5 a6 a7 a8 a9 aa ab ac ad ae af => fun v => .mk a0 a1 a2 a3 a4 a5 a6 a7 a8 a9 v ab ac ad ae af) x v
def O1.sb (v : Obj) (x : O1) : O1 := O1.rec (motive := fun _ => Obj → O1) (fun v => .mk .none .none .none .none .none .none .none .none .none .none .none v .none .none .none .none) (fun a0 a1 a2 a3 a4 a5 a6 a7 a8 a9 aa ab ac ad ae af => fun v => .mk a0 a1 a2 a3 a4 a5 a6 a7 a8 a9 aa v ac ad ae af) x v
def O1.sc (v : Obj) (x : O1) : O1 := O1.rec (motive := fun _ => Obj → O1) (fun v => .mk .none .none .none .none .none .none .none .none .none .none .none .none v .none .none .none) (fun a0 a1 a2 a3 a4 a5 a6 a7 a8 a9 aa ab ac ad ae af => fun v => .mk a0 a1 a2 a3 a4 a5 a6 a7 a8 a9 aa ab v ad ae af) x v
def O1.sd (v : Obj) (x : O1) : O1 := O1.rec (motive := fun _ => Obj → O1) (fun v => .mk .none .none .none .none .none .none .none .none .none .none .none .none .none v .none .none) (fun a0 a1 a2 a3 a4 a5 a6 a7 a8 a9 aa ab ac ad ae af => fun v => .mk a0 a1 a2 a3 a4 a5 a6 a7 a8 a9 aa ab ac v ae af) x v
def O1.se (v : Obj) (x : O1) : O1 := O1.rec (motive := fun _ => Obj → O1) (fun v => .mk .none .none .none .none .none .none .none .none .none .none .none .none .none .none v .none) (fun a0 a1 a2 a3 a4 a5 a6 a7 a8 a9 aa ab ac ad ae af => fun v => .mk a0 a1 a2 a3 a4 a5 a6 a7 a8 a9 aa ab ac ad v af) x v
def O1.sf (v : Obj) (x : O1) : O1 := O1.rec (motive := fun _ => Obj → O1) (fun v => .mk .none .none .none .none .none .none .none .none .none .none .none .none .none .none .none v) (fun a0 a1 a2 a3 a4 a5 a6 a7 a8 a9 aa ab ac ad ae af => fun v => .mk a0 a1 a2 a3 a4 a5 a6 a7 a8 a9 aa ab ac ad ae v) x v
def O1.set (d : H) : Obj → O1 → O1 := H.rec (motive := fun _ => Obj → O1 → O1) O1.s0 O1.s1 O1.s2 O1.s3 O1.s4 O1.s5 O1.s6 O1.s7 O1.s8 O1.s9 O1.sa O1.sb O1.sc O1.sd O1.se O1.sf d

inductive O2 where
  | nil
  | mk (a0 a1 a2 a3 a4 a5 a6 a7 a8 a9 aa ab ac ad ae af : O1)
def O2.g0 (x : O2) : O1 := O2.rec .nil (fun a0 a1 a2 a3 a4 a5 a6 a7 a8 a9 aa ab ac ad ae af => a0) x
def O2.g1 (x : O2) : O1 := O2.rec .nil (fun a0 a1 a2 a3 a4 a5 a6 a7 a8 a9 aa ab ac ad ae af => a1) x
def O2.g2 (x : O2) : O1 := O2.rec .nil (fun a0 a1 a2 a3 a4 a5 a6 a7 a8 a9 aa ab ac ad ae af => a2) x
def O2.g3 (x : O2) : O1 := O2.rec .nil (fun a0 a1 a2 a3 a4 a5 a6 a7 a8 a9 aa ab ac ad ae af => a3) x
def O2.g4 (x : O2) : O1 := O2.rec .nil (fun a0 a1 a2 a3 a4 a5 a6 a7 a8 a9 aa ab ac ad ae af => a4) x
def O2.g5 (x : O2) : O1 := O2.rec .nil (fun a0 a1 a2 a3 a4 a5 a6 a7 a8 a9 aa ab ac ad ae af => a5) x
def O2.g6 (x : O2) : O1 := O2.rec .nil (fun a0 a1 a2 a3 a4 a5 a6 a7 a8 a9 aa ab ac ad ae af => a6) x
def O2.g7 (x : O2) : O1 := O2.rec .nil (fun a0 a1 a2 a3 a4 a5 a6 a7 a8 a9 aa ab ac ad ae af => a7) x
def O2.g8 (x : O2) : O1 := O2.rec .nil (fun a0 a1 a2 a3 a4 a5 a6 a7 a8 a9 aa ab ac ad ae af => a8) x
def O2.g9 (x : O2) : O1 := O2.rec .nil (fun a0 a1 a2 a3 a4 a5 a6 a7 a8 a9 aa ab ac ad ae af => a9) x
def O2.ga (x : O2) : O1 := O2.rec .nil (fun a0 a1 a2 a3 a4 a5 a6 a7 a8 a9 aa ab ac ad ae af => aa) x
def O2.gb (x : O2) : O1 := O2.rec .nil (fun a0 a1 a2 a3 a4 a5 a6 a7 a8 a9 aa ab ac ad ae af => ab) x
def O2.gc (x : O2) : O1 := O2.rec .nil (fun a0 a1 a2 a3 a4 a5 a6 a7 a8 a9 aa ab ac ad ae af => ac) x
def O2.gd (x : O2) : O1 := O2.rec .nil (fun a0 a1 a2 a3 a4 a5 a6 a7 a8 a9 aa ab ac ad ae af => ad) x
def O2.ge (x : O2) : O1 := O2.rec .nil (fun a0 a1 a2 a3 a4 a5 a6 a7 a8 a9 aa ab ac ad ae af => ae) x
def O2.gf (x : O2) : O1 := O2.rec .nil (fun a0 a1 a2 a3 a4 a5 a6 a7 a8 a9 aa ab ac ad ae af => af) x
def O2.get (d : H) : O2 → O1 := H.rec (motive := fun _ => O2 → O1) O2.g0 O2.g1 O2.g2 O2.g3 O2.g4 O2.g5 O2.g6 O2.g7 O2.g8 O2.g9 O2.ga O2.gb O2.gc O2.gd O2.ge O2.gf d
def O2.s0 (v : O1) (x : O2) : O2 := O2.rec (motive := fun _ => O1 → O2) (fun v => .mk v .nil .nil .nil .nil .nil .nil .nil .nil .nil .nil .nil .nil .nil .nil .nil) (fun a0 a1 a2 a3 a4 a5 a6 a7 a8 a9 aa ab ac ad ae af => fun v => .mk v a1 a2 a3 a4 a5 a6 a7 a8 a9 aa ab ac ad ae af) x v
def O2.s1 (v : O1) (x : O2) : O2 := O2.rec (motive := fun _ => O1 → O2) (fun v => .mk .nil v .nil .nil .nil .nil .nil .nil .nil .nil .nil .nil .nil .nil .nil .nil) (fun a0 a1 a2 a3 a4 a5 a6 a7 a8 a9 aa ab ac ad ae af => fun v => .mk a0 v a2 a3 a4 a5 a6 a7 a8 a9 aa ab ac ad ae af) x v
def O2.s2 (v : O1) (x : O2) : O2 := O2.rec (motive := fun _ => O1 → O2) (fun v => .mk .nil .nil v .nil .nil .nil .nil .nil .nil .nil .nil .nil .nil .nil .nil .nil) (fun a0 a1 a2 a3 a4 a5 a6 a7 a8 a9 aa ab ac ad ae af => fun v => .mk a0 a1 v a3 a4 a5 a6 a7 a8 a9 aa ab ac ad ae af) x v
def O2.s3 (v : O1) (x : O2) : O2 := O2.rec (motive := fun _ => O1 → O2) (fun v => .mk .nil .nil .nil v .nil .nil .nil .nil .nil .nil .nil .nil .nil .nil .nil .nil) (fun a0 a1 a2 a3 a4 a5 a6 a7 a8 a9 aa ab ac ad ae af => fun v => .mk a0 a1 a2 v a4 a5 a6 a7 a8 a9 aa ab ac ad ae af) x v
def O2.s4 (v : O1) (x : O2) : O2 := O2.rec (motive := fun _ => O1 → O2) (fun v => .mk .nil .nil .nil .nil v .nil .nil .nil .nil .nil .nil .nil .nil .nil .nil .nil) (fun a0 a1 a2 a3 a4 a5 a6 a7 a8 a9 aa ab ac ad ae af => fun v => .mk a0 a1 a2 a3 v a5 a6 a7 a8 a9 aa ab ac ad ae af) x v
def O2.s5 (v : O1) (x : O2) : O2 := O2.rec (motive := fun _ => O1 → O2) (fun v => .mk .nil .nil .nil .nil .nil v .nil .nil .nil .nil .nil .nil .nil .nil .nil .nil) (fun a0 a1 a2 a3 a4 a5 a6 a7 a8 a9 aa ab ac ad ae af => fun v => .mk a0 a1 a2 a3 a4 v a6 a7 a8 a9 aa ab ac ad ae af) x v
def O2.s6 (v : O1) (x : O2) : O2 := O2.rec (motive := fun _ => O1 → O2) (fun v => .mk .nil .nil .nil .nil .nil .nil v .nil .nil .nil .nil .nil .nil .nil .nil .nil) (fun a0 a1 a2 a3 a4 a5 a6 a7 a8 a9 aa ab ac ad ae af => fun v => .mk a0 a1 a2 a3 a4 a5 v a7 a8 a9 aa ab ac ad ae af) x v
def O2.s7 (v : O1) (x : O2) : O2 := O2.rec (motive := fun _ => O1 → O2) (fun v => .mk .nil .nil .nil .nil .nil .nil .nil v .nil .nil .nil .nil .nil .nil .nil .nil) (fun a0 a1 a2 a3 a4 a5 a6 a7 a8 a9 aa ab ac ad ae af => fun v => .mk a0 a1 a2 a3 a4 a5 a6 v a8 a9 aa ab ac ad ae af) x v
def O2.s8 (v : O1) (x : O2) : O2 := O2.rec (motive := fun _ => O1 → O2) (fun v => .mk .nil .nil .nil .nil .nil .nil .nil .nil v .nil .nil .nil .nil .nil .nil .nil) (fun a0 a1 a2 a3 a4 a5 a6 a7 a8 a9 aa ab ac ad ae af => fun v => .mk a0 a1 a2 a3 a4 a5 a6 a7 v a9 aa ab ac ad ae af) x v
def O2.s9 (v : O1) (x : O2) : O2 := O2.rec (motive := fun _ => O1 → O2) (fun v => .mk .nil .nil .nil .nil .nil .nil .nil .nil .nil v .nil .nil .nil .nil .nil .nil) (fun a0 a1 a2 a3 a4 a5 a6 a7 a8 a9 aa ab ac ad ae af => fun v => .mk a0 a1 a2 a3 a4 a5 a6 a7 a8 v aa ab ac ad ae af) x v
def O2.sa (v : O1) (x : O2) : O2 := O2.rec (motive := fun _ => O1 → O2) (fun v => .mk .nil .nil .nil .nil .nil .nil .nil .nil .nil .nil v .nil .nil .nil .nil .nil) (fun a0 a1 a2 a3 a4 a5 a6 a7 a8 a9 aa ab ac ad ae af => fun v => .mk a0 a1 a2 a3 a4 a5 a6 a7 a8 a9 v ab ac ad ae af) x v
def O2.sb (v : O1) (x : O2) : O2 := O2.rec (motive := fun _ => O1 → O2) (fun v => .mk .nil .nil .nil .nil .nil .nil .nil .nil .nil .nil .nil v .nil .nil .nil .nil) (fun a0 a1 a2 a3 a4 a5 a6 a7 a8 a9 aa ab ac ad ae af => fun v => .mk a0 a1 a2 a3 a4 a5 a6 a7 a8 a9 aa v ac ad ae af) x v
def O2.sc (v : O1) (x : O2) : O2 := O2.rec (motive := fun _ => O1 → O2) (fun v => .mk .nil .nil .nil .nil .nil .nil .nil .nil .nil .nil .nil .nil v .nil .nil .nil) (fun a0 a1 a2 a3 a4 a5 a6 a7 a8 a9 aa ab ac ad ae af => fun v => .mk a0 a1 a2 a3 a4 a5 a6 a7 a8 a9 aa ab v ad ae af) x v
def O2.sd (v : O1) (x : O2) : O2 := O2.rec (motive := fun _ => O1 → O2) (fun v => .mk .nil .nil .nil .nil .nil .nil .nil .nil .nil .nil .nil .nil .nil v .nil .nil) (fun a0 a1 a2 a3 a4 a5 a6 a7 a8 a9 aa ab ac ad ae af => fun v => .mk a0 a1 a2 a3 a4 a5 a6 a7 a8 a9 aa ab ac v ae af) x v
def O2.se (v : O1) (x : O2) : O2 := O2.rec (motive := fun _ => O1 → O2) (fun v => .mk .nil .nil .nil .nil .nil .nil .nil .nil .nil .nil .nil .nil .nil .nil v .nil) (fun a0 a1 a2 a3 a4 a5 a6 a7 a8 a9 aa ab ac ad ae af => fun v => .mk a0 a1 a2 a3 a4 a5 a6 a7 a8 a9 aa ab ac ad v af) x v
def O2.sf (v : O1) (x : O2) : O2 := O2.rec (motive := fun _ => O1 → O2) (fun v => .mk .nil .nil .nil .nil .nil .nil .nil .nil .nil .nil .nil .nil .nil .nil .nil v) (fun a0 a1 a2 a3 a4 a5 a6 a7 a8 a9 aa ab ac ad ae af => fun v => .mk a0 a1 a2 a3 a4 a5 a6 a7 a8 a9 aa ab ac ad ae v) x v
def O2.set (d : H) : O1 → O2 → O2 := H.rec (motive := fun _ => O1 → O2 → O2) O2.s0 O2.s1 O2.s2 O2.s3 O2.s4 O2.s5 O2.s6 O2.s7 O2.s8 O2.s9 O2.sa O2.sb O2.sc O2.sd O2.se O2.sf d

inductive O3 where
  | nil
  | mk (a0 a1 a2 a3 a4 a5 a6 a7 a8 a9 aa ab ac ad ae af : O2)
def O3.g0 (x : O3) : O2 := O3.rec .nil (fun a0 a1 a2 a3 a4 a5 a6 a7 a8 a9 aa ab ac ad ae af => a0) x
def O3.g1 (x : O3) : O2 := O3.rec .nil (fun a0 a1 a2 a3 a4 a5 a6 a7 a8 a9 aa ab ac ad ae af => a1) x
def O3.g2 (x : O3) : O2 := O3.rec .nil (fun a0 a1 a2 a3 a4 a5 a6 a7 a8 a9 aa ab ac ad ae af => a2) x
def O3.g3 (x : O3) : O2 := O3.rec .nil (fun a0 a1 a2 a3 a4 a5 a6 a7 a8 a9 aa ab ac ad ae af => a3) x
def O3.g4 (x : O3) : O2 := O3.rec .nil (fun a0 a1 a2 a3 a4 a5 a6 a7 a8 a9 aa ab ac ad ae af => a4) x
def O3.g5 (x : O3) : O2 := O3.rec .nil (fun a0 a1 a2 a3 a4 a5 a6 a7 a8 a9 aa ab ac ad ae af => a5) x
def O3.g6 (x : O3) : O2 := O3.rec .nil (fun a0 a1 a2 a3 a4 a5 a6 a7 a8 a9 aa ab ac ad ae af => a6) x
def O3.g7 (x : O3) : O2 := O3.rec .nil (fun a0 a1 a2 a3 a4 a5 a6 a7 a8 a9 aa ab ac ad ae af => a7) x
def O3.g8 (x : O3) : O2 := O3.rec .nil (fun a0 a1 a2 a3 a4 a5 a6 a7 a8 a9 aa ab ac ad ae af => a8) x
def O3.g9 (x : O3) : O2 := O3.rec .nil (fun a0 a1 a2 a3 a4 a5 a6 a7 a8 a9 aa ab ac ad ae af => a9) x
def O3.ga (x : O3) : O2 := O3.rec .nil (fun a0 a1 a2 a3 a4 a5 a6 a7 a8 a9 aa ab ac ad ae af => aa) x
def O3.gb (x : O3) : O2 := O3.rec .nil (fun a0 a1 a2 a3 a4 a5 a6 a7 a8 a9 aa ab ac ad ae af => ab) x
def O3.gc (x : O3) : O2 := O3.rec .nil (fun a0 a1 a2 a3 a4 a5 a6 a7 a8 a9 aa ab ac ad ae af => ac) x
def O3.gd (x : O3) : O2 := O3.rec .nil (fun a0 a1 a2 a3 a4 a5 a6 a7 a8 a9 aa ab ac ad ae af => ad) x
def O3.ge (x : O3) : O2 := O3.rec .nil (fun a0 a1 a2 a3 a4 a5 a6 a7 a8 a9 aa ab ac ad ae af => ae) x
def O3.gf (x : O3) : O2 := O3.rec .nil (fun a0 a1 a2 a3 a4 a5 a6 a7 a8 a9 aa ab ac ad ae af => af) x
def O3.get (d : H) : O3 → O2 := H.rec (motive := fun _ => O3 → O2) O3.g0 O3.g1 O3.g2 O3.g3 O3.g4 O3.g5 O3.g6 O3.g7 O3.g8 O3.g9 O3.ga O3.gb O3.gc O3.gd O3.ge O3.gf d
def O3.s0 (v : O2) (x : O3) : O3 := O3.rec (motive := fun _ => O2 → O3) (fun v => .mk v .nil .nil .nil .nil .nil .nil .nil .nil .nil .nil .nil .nil .nil .nil .nil) (fun a0 a1 a2 a3 a4 a5 a6 a7 a8 a9 aa ab ac ad ae af => fun v => .mk v a1 a2 a3 a4 a5 a6 a7 a8 a9 aa ab ac ad ae af) x v
def O3.s1 (v : O2) (x : O3) : O3 := O3.rec (motive := fun _ => O2 → O3) (fun v => .mk .nil v .nil .nil .nil .nil .nil .nil .nil .nil .nil .nil .nil .nil .nil .nil) (fun a0 a1 a2 a3 a4 a5 a6 a7 a8 a9 aa ab ac ad ae af => fun v => .mk a0 v a2 a3 a4 a5 a6 a7 a8 a9 aa ab ac ad ae af) x v
def O3.s2 (v : O2) (x : O3) : O3 := O3.rec (motive := fun _ => O2 → O3) (fun v => .mk .nil .nil v .nil .nil .nil .nil .nil .nil .nil .nil .nil .nil .nil .nil .nil) (fun a0 a1 a2 a3 a4 a5 a6 a7 a8 a9 aa ab ac ad ae af => fun v => .mk a0 a1 v a3 a4 a5 a6 a7 a8 a9 aa ab ac ad ae af) x v
def O3.s3 (v : O2) (x : O3) : O3 := O3.rec (motive := fun _ => O2 → O3) (fun v => .mk .nil .nil .nil v .nil .nil .nil .nil .nil .nil .nil .nil .nil .nil .nil .nil) (fun a0 a1 a2 a3 a4 a5 a6 a7 a8 a9 aa ab ac ad ae af => fun v => .mk a0 a1 a2 v a4 a5 a6 a7 a8 a9 aa ab ac ad ae af) x v
def O3.s4 (v : O2) (x : O3) : O3 := O3.rec (motive := fun _ => O2 → O3) (fun v => .mk .nil .nil .nil .nil v .nil .nil .nil .nil .nil .nil .nil .nil .nil .nil .nil) (fun a0 a1 a2 a3 a4 a5 a6 a7 a8 a9 aa ab ac ad ae af => fun v => .mk a0 a1 a2 a3 v a5 a6 a7 a8 a9 aa ab ac ad ae af) x v
def O3.s5 (v : O2) (x : O3) : O3 := O3.rec (motive := fun _ => O2 → O3) (fun v => .mk .nil .nil .nil .nil .nil v .nil .nil .nil .nil .nil .nil .nil .nil .nil .nil) (fun a0 a1 a2 a3 a4 a5 a6 a7 a8 a9 aa ab ac ad ae af => fun v => .mk a0 a1 a2 a3 a4 v a6 a7 a8 a9 aa ab ac ad ae af) x v
def O3.s6 (v : O2) (x : O3) : O3 := O3.rec (motive := fun _ => O2 → O3) (fun v => .mk .nil .nil .nil .nil .nil .nil v .nil .nil .nil .nil .nil .nil .nil .nil .nil) (fun a0 a1 a2 a3 a4 a5 a6 a7 a8 a9 aa ab ac ad ae af => fun v => .mk a0 a1 a2 a3 a4 a5 v a7 a8 a9 aa ab ac ad ae af) x v
def O3.s7 (v : O2) (x : O3) : O3 := O3.rec (motive := fun _ => O2 → O3) (fun v => .mk .nil .nil .nil .nil .nil .nil .nil v .nil .nil .nil .nil .nil .nil .nil .nil) (fun a0 a1 a2 a3 a4 a5 a6 a7 a8 a9 aa ab ac ad ae af => fun v => .mk a0 a1 a2 a3 a4 a5 a6 v a8 a9 aa ab ac ad ae af) x v
def O3.s8 (v : O2) (x : O3) : O3 := O3.rec (motive := fun _ => O2 → O3) (fun v => .mk .nil .nil .nil .nil .nil .nil .nil .nil v .nil .nil .nil .nil .nil .nil .nil) (fun a0 a1 a2 a3 a4 a5 a6 a7 a8 a9 aa ab ac ad ae af => fun v => .mk a0 a1 a2 a3 a4 a5 a6 a7 v a9 aa ab ac ad ae af) x v
def O3.s9 (v : O2) (x : O3) : O3 := O3.rec (motive := fun _ => O2 → O3) (fun v => .mk .nil .nil .nil .nil .nil .nil .nil .nil .nil v .nil .nil .nil .nil .nil .nil) (fun a0 a1 a2 a3 a4 a5 a6 a7 a8 a9 aa ab ac ad ae af => fun v => .mk a0 a1 a2 a3 a4 a5 a6 a7 a8 v aa ab ac ad ae af) x v
def O3.sa (v : O2) (x : O3) : O3 := O3.rec (motive := fun _ => O2 → O3) (fun v => .mk .nil .nil .nil .nil .nil .nil .nil .nil .nil .nil v .nil .nil .nil .nil .nil) (fun a0 a1 a2 a3 a4 a5 a6 a7 a8 a9 aa ab ac ad ae af => fun v => .mk a0 a1 a2 a3 a4 a5 a6 a7 a8 a9 v ab ac ad ae af) x v
def O3.sb (v : O2) (x : O3) : O3 := O3.rec (motive := fun _ => O2 → O3) (fun v => .mk .nil .nil .nil .nil .nil .nil .nil .nil .nil .nil .nil v .nil .nil .nil .nil) (fun a0 a1 a2 a3 a4 a5 a6 a7 a8 a9 aa ab ac ad ae af => fun v => .mk a0 a1 a2 a3 a4 a5 a6 a7 a8 a9 aa v ac ad ae af) x v
def O3.sc (v : O2) (x : O3) : O3 := O3.rec (motive := fun _ => O2 → O3) (fun v => .mk .nil .nil .nil .nil .nil .nil .nil .nil .nil .nil .nil .nil v .nil .nil .nil) (fun a0 a1 a2 a3 a4 a5 a6 a7 a8 a9 aa ab ac ad ae af => fun v => .mk a0 a1 a2 a3 a4 a5 a6 a7 a8 a9 aa ab v ad ae af) x v
def O3.sd (v : O2) (x : O3) : O3 := O3.rec (motive := fun _ => O2 → O3) (fun v => .mk .nil .nil .nil .nil .nil .nil .nil .nil .nil .nil .nil .nil .nil v .nil .nil) (fun a0 a1 a2 a3 a4 a5 a6 a7 a8 a9 aa ab ac ad ae af => fun v => .mk a0 a1 a2 a3 a4 a5 a6 a7 a8 a9 aa ab ac v ae af) x v
def O3.se (v : O2) (x : O3) : O3 := O3.rec (motive := fun _ => O2 → O3) (fun v => .mk .nil .nil .nil .nil .nil .nil .nil .nil .nil .nil .nil .nil .nil .nil v .nil) (fun a0 a1 a2 a3 a4 a5 a6 a7 a8 a9 aa ab ac ad ae af => fun v => .mk a0 a1 a2 a3 a4 a5 a6 a7 a8 a9 aa ab ac ad v af) x v
def O3.sf (v : O2) (x : O3) : O3 := O3.rec (motive := fun _ => O2 → O3) (fun v => .mk .nil .nil .nil .nil .nil .nil .nil .nil .nil .nil .nil .nil .nil .nil .nil v) (fun a0 a1 a2 a3 a4 a5 a6 a7 a8 a9 aa ab ac ad ae af => fun v => .mk a0 a1 a2 a3 a4 a5 a6 a7 a8 a9 aa ab ac ad ae v) x v
def O3.set (d : H) : O2 → O3 → O3 := H.rec (motive := fun _ => O2 → O3 → O3) O3.s0 O3.s1 O3.s2 O3.s3 O3.s4 O3.s5 O3.s6 O3.s7 O3.s8 O3.s9 O3.sa O3.sb O3.sc O3.sd O3.se O3.sf d

inductive O4 where
  | nil
  | mk (a0 a1 a2 a3 a4 a5 a6 a7 a8 a9 aa ab ac ad ae af : O3)
def O4.g0 (x : O4) : O3 := O4.rec .nil (fun a0 a1 a2 a3 a4 a5 a6 a7 a8 a9 aa ab ac ad ae af => a0) x
def O4.g1 (x : O4) : O3 := O4.rec .nil (fun a0 a1 a2 a3 a4 a5 a6 a7 a8 a9 aa ab ac ad ae af => a1) x
def O4.g2 (x : O4) : O3 := O4.rec .nil (fun a0 a1 a2 a3 a4 a5 a6 a7 a8 a9 aa ab ac ad ae af => a2) x
def O4.g3 (x : O4) : O3 := O4.rec .nil (fun a0 a1 a2 a3 a4 a5 a6 a7 a8 a9 aa ab ac ad ae af => a3) x
def O4.g4 (x : O4) : O3 := O4.rec .nil (fun a0 a1 a2 a3 a4 a5 a6 a7 a8 a9 aa ab ac ad ae af => a4) x
def O4.g5 (x : O4) : O3 := O4.rec .nil (fun a0 a1 a2 a3 a4 a5 a6 a7 a8 a9 aa ab ac ad ae af => a5) x
def O4.g6 (x : O4) : O3 := O4.rec .nil (fun a0 a1 a2 a3 a4 a5 a6 a7 a8 a9 aa ab ac ad ae af => a6) x
def O4.g7 (x : O4) : O3 := O4.rec .nil (fun a0 a1 a2 a3 a4 a5 a6 a7 a8 a9 aa ab ac ad ae af => a7) x
def O4.g8 (x : O4) : O3 := O4.rec .nil (fun a0 a1 a2 a3 a4 a5 a6 a7 a8 a9 aa ab ac ad ae af => a8) x
def O4.g9 (x : O4) : O3 := O4.rec .nil (fun a0 a1 a2 a3 a4 a5 a6 a7 a8 a9 aa ab ac ad ae af => a9) x
def O4.ga (x : O4) : O3 := O4.rec .nil (fun a0 a1 a2 a3 a4 a5 a6 a7 a8 a9 aa ab ac ad ae af => aa) x
def O4.gb (x : O4) : O3 := O4.rec .nil (fun a0 a1 a2 a3 a4 a5 a6 a7 a8 a9 aa ab ac ad ae af => ab) x
def O4.gc (x : O4) : O3 := O4.rec .nil (fun a0 a1 a2 a3 a4 a5 a6 a7 a8 a9 aa ab ac ad ae af => ac) x
def O4.gd (x : O4) : O3 := O4.rec .nil (fun a0 a1 a2 a3 a4 a5 a6 a7 a8 a9 aa ab ac ad ae af => ad) x
def O4.ge (x : O4) : O3 := O4.rec .nil (fun a0 a1 a2 a3 a4 a5 a6 a7 a8 a9 aa ab ac ad ae af => ae) x
def O4.gf (x : O4) : O3 := O4.rec .nil (fun a0 a1 a2 a3 a4 a5 a6 a7 a8 a9 aa ab ac ad ae af => af) x
def O4.get (d : H) : O4 → O3 := H.rec (motive := fun _ => O4 → O3) O4.g0 O4.g1 O4.g2 O4.g3 O4.g4 O4.g5 O4.g6 O4.g7 O4.g8 O4.g9 O4.ga O4.gb O4.gc O4.gd O4.ge O4.gf d
def O4.s0 (v : O3) (x : O4) : O4 := O4.rec (motive := fun _ => O3 → O4) (fun v => .mk v .nil .nil .nil .nil .nil .nil .nil .nil .nil .nil .nil .nil .nil .nil .nil) (fun a0 a1 a2 a3 a4 a5 a6 a7 a8 a9 aa ab ac ad ae af => fun v => .mk v a1 a2 a3 a4 a5 a6 a7 a8 a9 aa ab ac ad ae af) x v
def O4.s1 (v : O3) (x : O4) : O4 := O4.rec (motive := fun _ => O3 → O4) (fun v => .mk .nil v .nil .nil .nil .nil .nil .nil .nil .nil .nil .nil .nil .nil .nil .nil) (fun a0 a1 a2 a3 a4 a5 a6 a7 a8 a9 aa ab ac ad ae af => fun v => .mk a0 v a2 a3 a4 a5 a6 a7 a8 a9 aa ab ac ad ae af) x v
def O4.s2 (v : O3) (x : O4) : O4 := O4.rec (motive := fun _ => O3 → O4) (fun v => .mk .nil .nil v .nil .nil .nil .nil .nil .nil .nil .nil .nil .nil .nil .nil .nil) (fun a0 a1 a2 a3 a4 a5 a6 a7 a8 a9 aa ab ac ad ae af => fun v => .mk a0 a1 v a3 a4 a5 a6 a7 a8 a9 aa ab ac ad ae af) x v
def O4.s3 (v : O3) (x : O4) : O4 := O4.rec (motive := fun _ => O3 → O4) (fun v => .mk .nil .nil .nil v .nil .nil .nil .nil .nil .nil .nil .nil .nil .nil .nil .nil) (fun a0 a1 a2 a3 a4 a5 a6 a7 a8 a9 aa ab ac ad ae af => fun v => .mk a0 a1 a2 v a4 a5 a6 a7 a8 a9 aa ab ac ad ae af) x v
def O4.s4 (v : O3) (x : O4) : O4 := O4.rec (motive := fun _ => O3 → O4) (fun v => .mk .nil .nil .nil .nil v .nil .nil .nil .nil .nil .nil .nil .nil .nil .nil .nil) (fun a0 a1 a2 a3 a4 a5 a6 a7 a8 a9 aa ab ac ad ae af => fun v => .mk a0 a1 a2 a3 v a5 a6 a7 a8 a9 aa ab ac ad ae af) x v
def O4.s5 (v : O3) (x : O4) : O4 := O4.rec (motive := fun _ => O3 → O4) (fun v => .mk .nil .nil .nil .nil .nil v .nil .nil .nil .nil .nil .nil .nil .nil .nil .nil) (fun a0 a1 a2 a3 a4 a5 a6 a7 a8 a9 aa ab ac ad ae af => fun v => .mk a0 a1 a2 a3 a4 v a6 a7 a8 a9 aa ab ac ad ae af) x v
def O4.s6 (v : O3) (x : O4) : O4 := O4.rec (motive := fun _ => O3 → O4) (fun v => .mk .nil .nil .nil .nil .nil .nil v .nil .nil .nil .nil .nil .nil .nil .nil .nil) (fun a0 a1 a2 a3 a4 a5 a6 a7 a8 a9 aa ab ac ad ae af => fun v => .mk a0 a1 a2 a3 a4 a5 v a7 a8 a9 aa ab ac ad ae af) x v
def O4.s7 (v : O3) (x : O4) : O4 := O4.rec (motive := fun _ => O3 → O4) (fun v => .mk .nil .nil .nil .nil .nil .nil .nil v .nil .nil .nil .nil .nil .nil .nil .nil) (fun a0 a1 a2 a3 a4 a5 a6 a7 a8 a9 aa ab ac ad ae af => fun v => .mk a0 a1 a2 a3 a4 a5 a6 v a8 a9 aa ab ac ad ae af) x v
def O4.s8 (v : O3) (x : O4) : O4 := O4.rec (motive := fun _ => O3 → O4) (fun v => .mk .nil .nil .nil .nil .nil .nil .nil .nil v .nil .nil .nil .nil .nil .nil .nil) (fun a0 a1 a2 a3 a4 a5 a6 a7 a8 a9 aa ab ac ad ae af => fun v => .mk a0 a1 a2 a3 a4 a5 a6 a7 v a9 aa ab ac ad ae af) x v
def O4.s9 (v : O3) (x : O4) : O4 := O4.rec (motive := fun _ => O3 → O4) (fun v => .mk .nil .nil .nil .nil .nil .nil .nil .nil .nil v .nil .nil .nil .nil .nil .nil) (fun a0 a1 a2 a3 a4 a5 a6 a7 a8 a9 aa ab ac ad ae af => fun v => .mk a0 a1 a2 a3 a4 a5 a6 a7 a8 v aa ab ac ad ae af) x v
def O4.sa (v : O3) (x : O4) : O4 := O4.rec (motive := fun _ => O3 → O4) (fun v => .mk .nil .nil .nil .nil .nil .nil .nil .nil .nil .nil v .nil .nil .nil .nil .nil) (fun a0 a1 a2 a3 a4 a5 a6 a7 a8 a9 aa ab ac ad ae af => fun v => .mk a0 a1 a2 a3 a4 a5 a6 a7 a8 a9 v ab ac ad ae af) x v
def O4.sb (v : O3) (x : O4) : O4 := O4.rec (motive := fun _ => O3 → O4) (fun v => .mk .nil .nil .nil .nil .nil .nil .nil .nil .nil .nil .nil v .nil .nil .nil .nil) (fun a0 a1 a2 a3 a4 a5 a6 a7 a8 a9 aa ab ac ad ae af => fun v => .mk a0 a1 a2 a3 a4 a5 a6 a7 a8 a9 aa v ac ad ae af) x v
def O4.sc (v : O3) (x : O4) : O4 := O4.rec (motive := fun _ => O3 → O4) (fun v => .mk .nil .nil .nil .nil .nil .nil .nil .nil .nil .nil .nil .nil v .nil .nil .nil) (fun a0 a1 a2 a3 a4 a5 a6 a7 a8 a9 aa ab ac ad ae af => fun v => .mk a0 a1 a2 a3 a4 a5 a6 a7 a8 a9 aa ab v ad ae af) x v
def O4.sd (v : O3) (x : O4) : O4 := O4.rec (motive := fun _ => O3 → O4) (fun v => .mk .nil .nil .nil .nil .nil .nil .nil .nil .nil .nil .nil .nil .nil v .nil .nil) (fun a0 a1 a2 a3 a4 a5 a6 a7 a8 a9 aa ab ac ad ae af => fun v => .mk a0 a1 a2 a3 a4 a5 a6 a7 a8 a9 aa ab ac v ae af) x v
def O4.se (v : O3) (x : O4) : O4 := O4.rec (motive := fun _ => O3 → O4) (fun v => .mk .nil .nil .nil .nil .nil .nil .nil .nil .nil .nil .nil .nil .nil .nil v .nil) (fun a0 a1 a2 a3 a4 a5 a6 a7 a8 a9 aa ab ac ad ae af => fun v => .mk a0 a1 a2 a3 a4 a5 a6 a7 a8 a9 aa ab ac ad v af) x v
def O4.sf (v : O3) (x : O4) : O4 := O4.rec (motive := fun _ => O3 → O4) (fun v => .mk .nil .nil .nil .nil .nil .nil .nil .nil .nil .nil .nil .nil .nil .nil .nil v) (fun a0 a1 a2 a3 a4 a5 a6 a7 a8 a9 aa ab ac ad ae af => fun v => .mk a0 a1 a2 a3 a4 a5 a6 a7 a8 a9 aa ab ac ad ae v) x v
def O4.set (d : H) : O3 → O4 → O4 := H.rec (motive := fun _ => O3 → O4 → O4) O4.s0 O4.s1 O4.s2 O4.s3 O4.s4 O4.s5 O4.s6 O4.s7 O4.s8 O4.s9 O4.sa O4.sb O4.sc O4.sd O4.se O4.sf d


inductive Hp where
  | mk (t : O4) (nx : P4)

inductive RV where
  | ok (v : AV) (h : Hp)
  | err (n : Nat)

inductive RT where
  | ok (v : AV) (h : Hp)
  | err (n : Nat)
  | ch (n : Nat) (k : Nat → RT)
inductive RS where
  | nm (r : A2) (h : Hp)
  | ex (i : Nat) (r : A2) (h : Hp)
  | go (l : Nat) (r : A2) (h : Hp)
  | ret (r : A2) (h : Hp)
  | err (n : Nat)
  | ch (n : Nat) (k : Nat → RS)

def RT.elimI {β : Type} (f : AV → Hp → β) (e : Nat → β) (c : Nat → (Nat → β) → β) : RT → β
  | .ok v h => f v h
  | .err n => e n
  | .ch n k => c n (fun i => RT.elimI f e c (k i))
def RT.elim {β : Type} (f : AV → Hp → β) (e : Nat → β) (c : Nat → (Nat → β) → β) (x : RT) : β := RT.rec f e (fun n _ ih => c n ih) x
def RS.elimI {β : Type} (f1 : A2 → Hp → β) (f2 : Nat → A2 → Hp → β) (f3 : Nat → A2 → Hp → β) (f4 : A2 → Hp → β) (e : Nat → β) (c : Nat → (Nat → β) → β) : RS → β
  | .nm r h => f1 r h
  | .ex i r h => f2 i r h
  | .go i r h => f3 i r h
  | .ret r h => f4 r h
  | .err n => e n
  | .ch n k => c n (fun i => RS.elimI f1 f2 f3 f4 e c (k i))
def RS.elim {β : Type} (f1 : A2 → Hp → β) (f2 : Nat → A2 → Hp → β) (f3 : Nat → A2 → Hp → β) (f4 : A2 → Hp → β) (e : Nat → β) (c : Nat → (Nat → β) → β) (x : RS) : β := RS.rec f1 f2 f3 f4 e (fun n _ ih => c n ih) x
def nrecI {β : Type} (z : β) (s : Nat → β → β) : Nat → β
  | 0 => z
  | n + 1 => s n (nrecI z s n)
def nrec {β : Type} (z : β) (s : Nat → β → β) (n : Nat) : β := Nat.rec z s n
def P4.succ (p : P4) : P4 := P4.rec (fun a b c d =>
  Bool.rec (.mk a b c d.succ) (Bool.rec (.mk a b c.succ .h0) (Bool.rec (.mk a b.succ .h0 .h0) (.mk a.succ .h0 .h0 .h0) b.last) c.last) d.last) p

def hgetT (p : P4) (t : O4) : Obj := P4.rec (fun a b c d => O1.get d (O2.get c (O3.get b (O4.get a t)))) p
def Hp.tree (h : Hp) : O4 := Hp.rec (fun t _ => t) h
def Hp.next (h : Hp) : P4 := Hp.rec (fun _ n => n) h
def hget (p : P4) (h : Hp) : Obj := hgetT p h.tree
def hs1 (a b c d : H) (o : Obj) (t4 : O4) (t3 : O3) (t2 : O2) : O4 := O4.set a (O3.set b (O2.set c (O1.set d o (O2.get c t2)) t2) t3) t4
def hs2 (a b c d : H) (o : Obj) (t4 : O4) (t3 : O3) : O4 := hs1 a b c d o t4 t3 (O3.get b t3)
def hsetT (p : P4) (o : Obj) (t : O4) : O4 := P4.rec (fun a b c d => hs2 a b c d o t (O4.get a t)) p
def hset (p : P4) (o : Obj) (h : Hp) : Hp := .mk (hsetT p o h.tree) h.next
def isNone (o : Obj) : Bool := Obj.rec true false (fun _ _ _ _ _ => false) (fun _ _ => false) (fun _ _ => false) (fun _ _ _ _ => false) false o
def halloc (o : Obj) (h : Hp) (k : P4 → Hp → RV) : RV := Hp.rec (fun t nx =>
  Bool.rec (.err 1) (k nx (.mk (hsetT nx o t) nx.succ)) (isNone (hgetT nx t))) h

def rget (a b : H) (r : A2) : AV := A1.get b (A2.get a r)
def rset (a b : H) (v : AV) (r : A2) : A2 := A2.set a (A1.set b v (A2.get a r)) r

def g2 (i : Nat) (x : A2) : AV := A1.get (dig (Nat.mod i 16)) (A2.get (dig (Nat.div i 16)) x)
def g3 (i : Nat) (x : A3) : AV := g2 (Nat.mod i 256) (A3.get (dig (Nat.div i 256)) x)
def g4 (i : Nat) (x : A4) : AV := g3 (Nat.mod i 4096) (A4.get (dig (Nat.div i 4096)) x)
def g1 (i : Nat) (x : A1) : AV := A1.get (dig i) x
def cget (i : Nat) (c : Cl) : AV := Cl.rec (motive := fun _ => Nat → AV) (fun x i => g1 i x) (fun x i => g2 i x) (fun x i => g3 i x) (fun x i => g4 i x) c i
def t1 (i : Nat) (v : AV) (x : A1) : A1 := A1.set (dig i) v x
def t2d (d : H) (i : Nat) (v : AV) (x : A2) : A2 := A2.set d (t1 i v (A2.get d x)) x
def t2 (i : Nat) (v : AV) (x : A2) : A2 := t2d (dig (Nat.div i 16)) (Nat.mod i 16) v x
def t3d (d : H) (i : Nat) (v : AV) (x : A3) : A3 := A3.set d (t2 i v (A3.get d x)) x
def t3 (i : Nat) (v : AV) (x : A3) : A3 := t3d (dig (Nat.div i 256)) (Nat.mod i 256) v x
def t4d (d : H) (i : Nat) (v : AV) (x : A4) : A4 := A4.set d (t3 i v (A4.get d x)) x
def t4 (i : Nat) (v : AV) (x : A4) : A4 := t4d (dig (Nat.div i 4096)) (Nat.mod i 4096) v x
def cset (i : Nat) (v : AV) (c : Cl) : Cl := Cl.rec (motive := fun _ => Nat → AV → Cl) (fun x i v => .k1 (t1 i v x)) (fun x i v => .k2 (t2 i v x)) (fun x i v => .k3 (t3 i v x)) (fun x i v => .k4 (t4 i v x)) c i v
def croom (c : Cl) : Nat := Cl.rec (fun _ => 16) (fun _ => 256) (fun _ => 4096) (fun _ => 65536) c
def cgrow (c : Cl) : Cl := Cl.rec (fun x => .k2 (A2.s0 x .nil)) (fun x => .k3 (A3.s0 x .nil)) (fun x => .k4 (A4.s0 x .nil)) (fun x => .k4 x) c
def cfit (n : Nat) (c : Cl) : Cl := Bool.rec (Bool.rec (Bool.rec (cgrow (cgrow (cgrow c))) (cgrow (cgrow c)) (Nat.ble n (croom (cgrow (cgrow c))))) (cgrow c) (Nat.ble n (croom (cgrow c)))) c (Nat.ble n (croom c))
def cputs (l : List AV) : Nat → Cl → Cl := lrec (fun _ c => c) (fun v _ ih i c => ih (Nat.succ i) (cset i v c)) l
def cempty : Cl := .k1 .nil
def cof (l : List AV) : Cl := cputs l 0 (cfit l.length cempty)
def cgetsI (n : Nat) (c : Cl) (i : Nat) : List AV := (List.range n).map fun k => cget (i + k) c
def cgets (n : Nat) : Cl → Nat → List AV := Nat.rec (fun _ _ => .nil) (fun _ ih c i => .cons (cget i c) (ih c (Nat.succ i))) n

inductive AO where
  | t (a b : H)
  | c (v : AV)
def ev (x : AO) (r : A2) : AV := AO.rec (motive := fun _ => A2 → AV) rget (fun v _ => v) x r

def iadd (a b : Int) : Int := Int.rec (motive := fun _ => Int → Int) (fun m b => Int.rec (fun n => .ofNat (Nat.add m n)) (fun n => Int.subNatNat m (Nat.succ n)) b) (fun m b => Int.rec (fun n => Int.subNatNat n (Nat.succ m)) (fun n => .negSucc (Nat.succ (Nat.add m n))) b) a b
def ineg (a : Int) : Int := Int.rec (fun m => Int.negOfNat m) (fun m => .ofNat (Nat.succ m)) a
def imul (a b : Int) : Int := Int.rec (motive := fun _ => Int → Int) (fun m b => Int.rec (fun n => .ofNat (Nat.mul m n)) (fun n => Int.mul (.ofNat m) (.negSucc n)) b) (fun m b => Int.mul (.negSucc m) b) a b
def iquo (a b : Int) : Int := Int.rec (motive := fun _ => Int → Int) (fun m b => Int.rec (fun n => .ofNat (Nat.div m n)) (fun n => Int.tdiv (.ofNat m) (.negSucc n)) b) (fun m b => Int.tdiv (.negSucc m) b) a b
def irem (a b : Int) : Int := Int.rec (motive := fun _ => Int → Int) (fun m b => Int.rec (fun n => .ofNat (Nat.mod m n)) (fun n => Int.tmod (.ofNat m) (.negSucc n)) b) (fun m b => Int.tmod (.negSucc m) b) a b
def ile (a b : Int) : Bool := Int.rec (motive := fun _ => Int → Bool) (fun m b => Int.rec (fun n => Nat.ble m n) (fun _ => false) b) (fun m b => Int.rec (fun _ => true) (fun n => Nat.ble n m) b) a b
def ilt (a b : Int) : Bool := Int.rec (motive := fun _ => Int → Bool) (fun m b => Int.rec (fun n => Nat.ble (Nat.succ m) n) (fun _ => false) b) (fun m b => Int.rec (fun _ => true) (fun n => Nat.ble (Nat.succ n) m) b) a b
def ieq (a b : Int) : Bool := Int.rec (motive := fun _ => Int → Bool) (fun m b => Int.rec (fun n => Nat.beq m n) (fun _ => false) b) (fun m b => Int.rec (fun _ => false) (fun n => Nat.beq m n) b) a b
def wS (k : IntKind) (top : Nat) (n : Int) : Int := Int.rec (fun m => Bool.rec (k.wrap (.ofNat m)) (.ofNat m) (Nat.ble m top)) (fun m => Bool.rec (k.wrap (.negSucc m)) (.negSucc m) (Nat.ble m top)) n
def wU (k : IntKind) (size : Nat) (n : Int) : Int := Int.rec (fun m => .ofNat (Nat.mod m size)) (fun m => k.wrap (.negSucc m)) n
def wrapK (k : IntKind) : Int → Int := IntKind.rec (motive := fun _ => Int → Int) (wS .i8 127) (wS .i16 32767) (wS .i32 2147483647) (wS .i64 9223372036854775807) (wU .u8 256) (wU .u16 65536) (wU .u32 4294967296) (wU .u64 18446744073709551616) k
def kbits (k : IntKind) : Nat := IntKind.rec 8 16 32 64 8 16 32 64 k
def kno (k : IntKind) : Nat := IntKind.rec 0 1 2 3 4 5 6 7 k
def keqK (a b : IntKind) : Bool := Nat.beq (kno a) (kno b)
def ibits (f : Nat → Nat → Nat) (k : IntKind) (a b : Int) : AV := Int.rec (fun m => Int.rec (fun n => .int k (wrapK k (.ofNat (f (Nat.mod m (Nat.pow 2 (kbits k))) (Nat.mod n (Nat.pow 2 (kbits k))))))) (fun _ => .undef) b) (fun _ => .undef) a

inductive OI where
  | no
  | yes (k : IntKind) (n : Int)
inductive OB where
  | no
  | yes (b : Bool)
inductive OS where
  | no
  | yes (l : List Nat)
inductive OP where
  | no
  | yes (i : P4) (o : Nat)
inductive OL where
  | no
  | yes (l : List AV)
inductive OM where
  | no
  | nil
  | yes (i : P4)
inductive OC where
  | no
  | yes (k : FloatKind) (a b : Nat)
inductive OF where
  | no
  | yes (k : FloatKind) (a : Nat)
inductive OSl where
  | no
  | nil
  | ex (i : P4) (o n c : Nat)
  | rs (i : P4) (o n e : Nat)
inductive OCl where
  | no
  | yes (el n : Nat) (ex : Bool) (fl : Fl) (c : Cl)
inductive OMp where
  | no
  | yes (l : List KV) (clock : Nat)
inductive OFn where
  | no
  | yes (f : Nat) (cs : List AV)
inductive OIf where
  | no
  | nil
  | yes (t : Nat) (v : AV)
def AV.asInt (x : AV) : OI := AV.rec (motive_2 := fun _ => PUnit) .no (fun _ => .no) (fun k n => .yes k n) (fun _ => .no) (fun _ _ => .no) (fun _ _ _ => .no) (fun _ _ => .no) .no (fun _ _ _ _ => .no) (fun _ _ _ _ => .no) .no (fun _ => .no) .no (fun _ _ _ => .no) .no (fun _ _ _ => .no) .no (fun _ _ => .no) (fun _ _ => .no) (fun _ => .no) PUnit.unit (fun _ _ _ _ => PUnit.unit) x
def AV.asBool (x : AV) : OB := AV.rec (motive_2 := fun _ => PUnit) .no (fun b => .yes b) (fun _ _ => .no) (fun _ => .no) (fun _ _ => .no) (fun _ _ _ => .no) (fun _ _ => .no) .no (fun _ _ _ _ => .no) (fun _ _ _ _ => .no) .no (fun _ => .no) .no (fun _ _ _ => .no) .no (fun _ _ _ => .no) .no (fun _ _ => .no) (fun _ _ => .no) (fun _ => .no) PUnit.unit (fun _ _ _ _ => PUnit.unit) x
def AV.asStr (x : AV) : OS := AV.rec (motive_2 := fun _ => PUnit) .no (fun _ => .no) (fun _ _ => .no) (fun l => .yes l) (fun _ _ => .no) (fun _ _ _ => .no) (fun _ _ => .no) .no (fun _ _ _ _ => .no) (fun _ _ _ _ => .no) .no (fun _ => .no) .no (fun _ _ _ => .no) .no (fun _ _ _ => .no) .no (fun _ _ => .no) (fun _ _ => .no) (fun _ => .no) PUnit.unit (fun _ _ _ _ => PUnit.unit) x
def AV.asPtr (x : AV) : OP := AV.rec (motive_2 := fun _ => PUnit) .no (fun _ => .no) (fun _ _ => .no) (fun _ => .no) (fun _ _ => .no) (fun _ _ _ => .no) (fun i o => .yes i o) .no (fun _ _ _ _ => .no) (fun _ _ _ _ => .no) .no (fun _ => .no) .no (fun _ _ _ => .no) .no (fun _ _ _ => .no) .no (fun _ _ => .no) (fun _ _ => .no) (fun _ => .no) PUnit.unit (fun _ _ _ _ => PUnit.unit) x
def AV.asAgg (x : AV) : OL := AV.rec (motive_2 := fun _ => PUnit) .no (fun _ => .no) (fun _ _ => .no) (fun _ => .no) (fun _ _ => .no) (fun _ _ _ => .no) (fun _ _ => .no) .no (fun _ _ _ _ => .no) (fun _ _ _ _ => .no) .no (fun _ => .no) .no (fun _ _ _ => .no) .no (fun _ _ _ => .no) .no (fun l _ => .yes l) (fun _ _ => .no) (fun _ => .no) PUnit.unit (fun _ _ _ _ => PUnit.unit) x
def AV.asTup (x : AV) : OL := AV.rec (motive_2 := fun _ => PUnit) .no (fun _ => .no) (fun _ _ => .no) (fun _ => .no) (fun _ _ => .no) (fun _ _ _ => .no) (fun _ _ => .no) .no (fun _ _ _ _ => .no) (fun _ _ _ _ => .no) .no (fun _ => .no) .no (fun _ _ _ => .no) .no (fun _ _ _ => .no) .no (fun _ _ => .no) (fun l _ => .yes l) (fun _ => .no) PUnit.unit (fun _ _ _ _ => PUnit.unit) x
def AV.asMap (x : AV) : OM := AV.rec (motive_2 := fun _ => PUnit) .no (fun _ => .no) (fun _ _ => .no) (fun _ => .no) (fun _ _ => .no) (fun _ _ _ => .no) (fun _ _ => .no) .no (fun _ _ _ _ => .no) (fun _ _ _ _ => .no) .no (fun i => .yes i) .nil (fun _ _ _ => .no) .no (fun _ _ _ => .no) .no (fun _ _ => .no) (fun _ _ => .no) (fun _ => .no) PUnit.unit (fun _ _ _ _ => PUnit.unit) x
def AV.asCplx (x : AV) : OC := AV.rec (motive_2 := fun _ => PUnit) .no (fun _ => .no) (fun _ _ => .no) (fun _ => .no) (fun _ _ => .no) (fun k a b => .yes k a b) (fun _ _ => .no) .no (fun _ _ _ _ => .no) (fun _ _ _ _ => .no) .no (fun _ => .no) .no (fun _ _ _ => .no) .no (fun _ _ _ => .no) .no (fun _ _ => .no) (fun _ _ => .no) (fun _ => .no) PUnit.unit (fun _ _ _ _ => PUnit.unit) x
def AV.asFlt (x : AV) : OF := AV.rec (motive_2 := fun _ => PUnit) .no (fun _ => .no) (fun _ _ => .no) (fun _ => .no) (fun k a => .yes k a) (fun _ _ _ => .no) (fun _ _ => .no) .no (fun _ _ _ _ => .no) (fun _ _ _ _ => .no) .no (fun _ => .no) .no (fun _ _ _ => .no) .no (fun _ _ _ => .no) .no (fun _ _ => .no) (fun _ _ => .no) (fun _ => .no) PUnit.unit (fun _ _ _ _ => PUnit.unit) x
def AV.asSl (x : AV) : OSl := AV.rec (motive_2 := fun _ => PUnit) .no (fun _ => .no) (fun _ _ => .no) (fun _ => .no) (fun _ _ => .no) (fun _ _ _ => .no) (fun _ _ => .no) .no (fun i o n c => .ex i o n c) (fun i o n e => .rs i o n e) .nil (fun _ => .no) .no (fun _ _ _ => .no) .no (fun _ _ _ => .no) .no (fun _ _ => .no) (fun _ _ => .no) (fun _ => .no) PUnit.unit (fun _ _ _ _ => PUnit.unit) x
def AV.asFn (x : AV) : OFn := AV.rec (motive_2 := fun _ => PUnit) .no (fun _ => .no) (fun _ _ => .no) (fun _ => .no) (fun _ _ => .no) (fun _ _ _ => .no) (fun _ _ => .no) .no (fun _ _ _ _ => .no) (fun _ _ _ _ => .no) .no (fun _ => .no) .no (fun f cs _ => .yes f cs) .no (fun _ _ _ => .no) .no (fun _ _ => .no) (fun _ _ => .no) (fun _ => .no) PUnit.unit (fun _ _ _ _ => PUnit.unit) x
def AV.asIf (x : AV) : OIf := AV.rec (motive_2 := fun _ => PUnit) .no (fun _ => .no) (fun _ _ => .no) (fun _ => .no) (fun _ _ => .no) (fun _ _ _ => .no) (fun _ _ => .no) .no (fun _ _ _ _ => .no) (fun _ _ _ _ => .no) .no (fun _ => .no) .no (fun _ _ _ => .no) .no (fun t v _ => .yes t v) .nil (fun _ _ => .no) (fun _ _ => .no) (fun _ => .no) PUnit.unit (fun _ _ _ _ => PUnit.unit) x
inductive EB where
  | yes
  | no
  | bad
def AV.isNil (x : AV) : EB := AV.rec (motive_2 := fun _ => PUnit) .bad (fun _ => .bad) (fun _ _ => .bad) (fun _ => .bad) (fun _ _ => .bad) (fun _ _ _ => .bad) (fun _ _ => .no) .yes (fun _ _ _ _ => .no) (fun _ _ _ _ => .no) .yes (fun _ => .no) .yes (fun _ _ _ => .no) .yes (fun _ _ _ => .no) .yes (fun _ _ => .bad) (fun _ _ => .bad) (fun _ => .bad) PUnit.unit (fun _ _ _ _ => PUnit.unit) x
def Obj.asCells (o : Obj) : OCl := Obj.rec .no .no (fun a b c d e => .yes a b c d e) (fun _ _ => .no) (fun _ _ => .no) (fun _ _ _ _ => .no) .no o
def Obj.asMap (o : Obj) : OMp := Obj.rec .no .no (fun _ _ _ _ _ => .no) (fun a b => .yes a b) (fun _ _ => .no) (fun _ _ _ _ => .no) .no o
def AV.onInt {β : Type} (x : AV) (k : IntKind → Int → β) (e : β) : β := OI.rec e k x.asInt
def AV.onBool {β : Type} (x : AV) (k : Bool → β) (e : β) : β := OB.rec e k x.asBool
def AV.onStr {β : Type} (x : AV) (k : List Nat → β) (e : β) : β := OS.rec e k x.asStr
def AV.onPtr {β : Type} (x : AV) (k : P4 → Nat → β) (e : β) : β := OP.rec e k x.asPtr
def AV.onAgg {β : Type} (x : AV) (k : List AV → β) (e : β) : β := OL.rec e k x.asAgg
def AV.onTup {β : Type} (x : AV) (k : List AV → β) (e : β) : β := OL.rec e k x.asTup
def AV.onMap {β : Type} (x : AV) (k : P4 → β) (n e : β) : β := OM.rec e n k x.asMap
def AV.onCplx {β : Type} (x : AV) (k : FloatKind → Nat → Nat → β) (e : β) : β := OC.rec e k x.asCplx
def AV.onFlt {β : Type} (x : AV) (k : FloatKind → Nat → β) (e : β) : β := OF.rec e k x.asFlt
def AV.onSl {β : Type} (x : AV) (k k' : P4 → Nat → Nat → Nat → β) (n e : β) : β := OSl.rec e n k k' x.asSl
def AV.onFn {β : Type} (x : AV) (k : Nat → List AV → β) (e : β) : β := OFn.rec e k x.asFn
def AV.onIf {β : Type} (x : AV) (k : Nat → AV → β) (n e : β) : β := OIf.rec e n k x.asIf
def Obj.onCells {β : Type} (o : Obj) (k : Nat → Nat → Bool → Fl → Cl → β) (e : β) : β := OCl.rec e k o.asCells
def Obj.onMap {β : Type} (o : Obj) (k : List KV → Nat → β) (e : β) : β := OMp.rec e k o.asMap

def AV.one (x : AV) : Bool := AV.rec (motive_2 := fun _ => PUnit) false (fun _ => true) (fun _ _ => true) (fun _ => true) (fun _ _ => true) (fun _ _ _ => true) (fun _ _ => true) true (fun _ _ _ _ => true) (fun _ _ _ _ => true) true (fun _ => true) true (fun _ _ _ => true) true (fun _ _ _ => true) true (fun _ _ => false) (fun _ _ => false) (fun _ => false) PUnit.unit (fun _ _ _ _ => PUnit.unit) x
def AV.cs (x : AV) : List AV := OL.rec (.cons x .nil) (fun l => l) x.asAgg

def nlist (a b : List Nat) : Bool := lrec (β := List Nat → Bool) (fun b => List.rec true (fun _ _ _ => false) b)
  (fun x _ ih b => List.rec false (fun y b _ => Bool.rec false (ih b) (Nat.beq x y)) b) a b
def nless (a b : List Nat) : Bool := lrec (β := List Nat → Bool) (fun b => List.rec false (fun _ _ _ => true) b)
  (fun x _ ih b => List.rec false (fun y b _ => Bool.rec (Nat.ble x y) (ih b) (Nat.beq x y)) b) a b
def heq1 (a b : H) : Bool := Nat.beq a.nat b.nat
def peq (a b : P4) : Bool := P4.rec (fun a1 a2 a3 a4 => P4.rec (fun b1 b2 b3 b4 =>
  Bool.rec false (Bool.rec false (Bool.rec false (heq1 a1 b1) (heq1 a2 b2)) (heq1 a3 b3)) (heq1 a4 b4)) b) a
def beq1 (a b : Bool) : Bool := Bool.rec (Bool.rec true false b) b a
def EB.of (b : Bool) : EB := Bool.rec .no .yes b
def isPlain (o : Obj) : Bool := Obj.onCells o (fun _ _ _ fl _ => Fl.rec true false false fl) false
inductive KK where
  | b | i | s | p
def eqB (x y : AV) : EB := OB.rec .bad (fun a => OB.rec .bad (fun b => .of (beq1 a b)) y.asBool) x.asBool
def eqI (x y : AV) : EB := OI.rec .bad (fun k a => OI.rec .bad (fun k' b => Bool.rec .bad (.of (ieq a b)) (keqK k k')) y.asInt) x.asInt
def eqS (x y : AV) : EB := OS.rec .bad (fun a => OS.rec .bad (fun b => .of (nlist a b)) y.asStr) x.asStr
def isNilP (x : AV) : Bool := AV.rec (motive_2 := fun _ => PUnit) false (fun _ => false) (fun _ _ => false) (fun _ => false) (fun _ _ => false) (fun _ _ _ => false) (fun _ _ => false) true (fun _ _ _ _ => false) (fun _ _ _ _ => false) false (fun _ => false) false (fun _ _ _ => false) false (fun _ _ _ => false) false (fun _ _ => false) (fun _ _ => false) (fun _ => false) PUnit.unit (fun _ _ _ _ => PUnit.unit) x
def eqP (h : Hp) (x y : AV) : EB := OP.rec (Bool.rec .bad (OP.rec (Bool.rec .bad .yes (isNilP y)) (fun _ _ => .no) y.asPtr) (isNilP x)) (fun i o => OP.rec (Bool.rec .bad .no (isNilP y)) (fun j q => Bool.rec (Bool.rec .bad (Bool.rec .bad .no (isPlain (hget j h))) (isPlain (hget i h))) (.of (Nat.beq o q)) (peq i j)) y.asPtr) x.asPtr
def eqK (k : KK) (h : Hp) (x y : AV) : EB := KK.rec (eqB x y) (eqI x y) (eqS x y) (eqP h x y) k
def eqa (ks : List KK) (h : Hp) (a b : List AV) : EB := lrec (β := List AV → List AV → EB) (fun a b => List.rec (List.rec .yes (fun _ _ _ => .bad) b) (fun _ _ _ => .bad) a)
  (fun k _ ih a b => List.rec .bad (fun x a _ => List.rec .bad (fun y b _ => EB.rec (ih a b) (EB.rec .no .no .bad (ih a b)) .bad (eqK k h x y)) b) a) ks a b
def EB.rv (neg : Bool) (h : Hp) (e : EB) : RV := EB.rec (.ok (.bool (Bool.not neg)) h) (.ok (.bool neg) h) (.err 2) e
def ifEq (_ : Hp) (x y : AV) : EB := AV.onIf x (fun t _ => AV.onIf y (fun u _ => Bool.rec .no .bad (Nat.beq t u)) .no .bad)
  (AV.onIf y (fun _ _ => .no) .bad .bad) .bad

inductive Part where
  | mk (off sz : Nat) (x : AO)
inductive NK where
  | s | m | f | i
def isNilf (x : AV) : EB := AV.rec (motive_2 := fun _ => PUnit) .bad (fun _ => .bad) (fun _ _ => .bad) (fun _ => .bad) (fun _ _ => .bad) (fun _ _ _ => .bad) (fun _ _ => .bad) .bad (fun _ _ _ _ => .bad) (fun _ _ _ _ => .bad) .bad (fun _ => .bad) .bad (fun _ _ _ => .no) .yes (fun _ _ _ => .bad) .bad (fun _ _ => .bad) (fun _ _ => .bad) (fun _ => .bad) PUnit.unit (fun _ _ _ _ => PUnit.unit) x
def nilOf (k : NK) (x : AV) : EB := NK.rec (OSl.rec .bad .yes (fun _ _ _ _ => .no) (fun _ _ _ _ => .no) x.asSl) (OM.rec .bad .yes (fun _ => .no) x.asMap) (isNilf x) (OIf.rec .bad .yes (fun _ _ => .no) x.asIf) k
inductive BK where
  | add | sub | mul | quo | rem | and | or | xor | andn | shl | shr
  | eq | ne | lt | le | gt | ge
  | seq | sne | slt | sle | sgt | sge | cat
  | beq | bne | peq | pne | isnil (k : NK) | nonil (k : NK)
  | aeq (ks : List KK) | ane (ks : List KK)
  | fop (op : BinOp)
  | cop (op : BinOp)
  | ieq | ine
inductive UK where
  | not | neg | com
inductive CK where
  | same | toInt (k : IntKind) | s2b (el : Nat) | b2s | i2s | i2f (k : FloatKind) | f2i (k : IntKind) | s2r (el : Nat) | uto | ufrom (u sz : Nat)
inductive OA where
  | none
  | some (x : AO)

def rvOf (v : AV) (h : Hp) : RV := EB.rec (.ok v h) (.err 3) (.err 3) (OI.rec (OB.rec .bad (fun _ => .yes) v.asBool) (fun _ _ => .yes) v.asInt)
def bII (f : IntKind → Int → Int → AV) (x y : AV) (h : Hp) : RV := AV.onInt x (fun k a => AV.onInt y (fun k' b => Bool.rec (.err 4) (.ok (f k a b) h) (keqK k k')) (.err 4)) (.err 4)
def bIU (f : IntKind → Int → Int → AV) (x y : AV) (h : Hp) : RV := AV.onInt x (fun k a => AV.onInt y (fun k' b => Bool.rec (.err 4) (rvOf (f k a b) h) (keqK k k')) (.err 4)) (.err 4)
def bSS (f : List Nat → List Nat → AV) (x y : AV) (h : Hp) : RV := AV.onStr x (fun a => AV.onStr y (fun b => .ok (f a b) h) (.err 5)) (.err 5)
def bSH (f : IntKind → Int → Int → AV) (x y : AV) (h : Hp) : RV := AV.onInt x (fun k a => AV.onInt y (fun _ b => rvOf (f k a b) h) (.err 6)) (.err 6)
def bshl (k : IntKind) (a b : Int) : AV := Int.rec (fun n => .int k (wrapK k (imul a (.ofNat (Nat.pow 2 (Nat.min n (kbits k))))))) (fun _ => .undef) b
def bshr (k : IntKind) (a b : Int) : AV := Int.rec (fun n => Int.rec (fun m => .int k (.ofNat (Nat.div m (Nat.pow 2 (Nat.min n (kbits k)))))) (fun m => .int k (Int.fdiv (.negSucc m) (2 ^ (Nat.min n (kbits k))))) a) (fun _ => .undef) b
def fltB (k : FloatKind) (op : BinOp) (a b : Nat) (h : Hp) : RV :=
  let c := k.format.order a b
  match op with
  | .eql => .ok (.bool (c == some .eq)) h
  | .neq => .ok (.bool (c != some .eq)) h
  | .lss => .ok (.bool (c == some .lt)) h
  | .leq => .ok (.bool (c == some .lt || c == some .eq)) h
  | .gtr => .ok (.bool (c == some .gt)) h
  | .geq => .ok (.bool (c == some .gt || c == some .eq)) h
  | .add => match k.format.add a b with | some r => .ok (.flt k r) h | none => .err 7
  | .sub => match k.format.sub a b with | some r => .ok (.flt k r) h | none => .err 7
  | .mul => match k.format.mul a b with | some r => .ok (.flt k r) h | none => .err 7
  | .quo => match k.format.div a b with | some r => .ok (.flt k r) h | none => .err 7
  | _ => .err 7
def cplxB (k : FloatKind) (op : BinOp) (a b c d : Nat) (h : Hp) : RV :=
  match op with
  | .add => match k.format.add a c, k.format.add b d with | some r, some s => .ok (.cplx k r s) h | _, _ => .err 8
  | .sub => match k.format.sub a c, k.format.sub b d with | some r, some s => .ok (.cplx k r s) h | _, _ => .err 8
  | .eql => .ok (.bool (k.format.order a c == some .eq && k.format.order b d == some .eq)) h
  | .neq => .ok (.bool (!(k.format.order a c == some .eq && k.format.order b d == some .eq))) h
  | _ => .err 8
def keqF (a b : FloatKind) : Bool := FloatKind.rec (FloatKind.rec true false b) (FloatKind.rec false true b) a
def b_add : AV → AV → Hp → RV := bII (fun k a b => .int k (wrapK k (iadd a b)))
def b_sub : AV → AV → Hp → RV := bII (fun k a b => .int k (wrapK k (iadd a (ineg b))))
def b_mul : AV → AV → Hp → RV := bII (fun k a b => .int k (wrapK k (imul a b)))
def b_quo : AV → AV → Hp → RV := bIU (fun k a b => Bool.rec (.int k (wrapK k (iquo a b))) .undef (ieq b (.ofNat 0)))
def b_rem : AV → AV → Hp → RV := bIU (fun k a b => Bool.rec (.int k (irem a b)) .undef (ieq b (.ofNat 0)))
def b_and : AV → AV → Hp → RV := bIU (ibits Nat.land)
def b_or : AV → AV → Hp → RV := bIU (ibits Nat.lor)
def b_xor : AV → AV → Hp → RV := bIU (ibits Nat.xor)
def b_andn : AV → AV → Hp → RV := bII (fun k a b => .int k (k.wrap (BitVec.ofInt k.bits a &&& ~~~BitVec.ofInt k.bits b).toNat))
def b_eq : AV → AV → Hp → RV := bII (fun _ a b => .bool (ieq a b))
def b_ne : AV → AV → Hp → RV := bII (fun _ a b => .bool (Bool.not (ieq a b)))
def b_lt : AV → AV → Hp → RV := bII (fun _ a b => .bool (ilt a b))
def b_le : AV → AV → Hp → RV := bII (fun _ a b => .bool (ile a b))
def b_gt : AV → AV → Hp → RV := bII (fun _ a b => .bool (ilt b a))
def b_ge : AV → AV → Hp → RV := bII (fun _ a b => .bool (ile b a))
def b_seq : AV → AV → Hp → RV := bSS (fun a b => .bool (nlist a b))
def b_sne : AV → AV → Hp → RV := bSS (fun a b => .bool (Bool.not (nlist a b)))
def b_slt : AV → AV → Hp → RV := bSS (fun a b => .bool (nless a b))
def b_sle : AV → AV → Hp → RV := bSS (fun a b => .bool (Bool.not (nless b a)))
def b_sgt : AV → AV → Hp → RV := bSS (fun a b => .bool (nless b a))
def b_sge : AV → AV → Hp → RV := bSS (fun a b => .bool (Bool.not (nless a b)))
def b_cat (x y : AV) (h : Hp) : RV := AV.onStr x (fun a => AV.onStr y (fun b => Bool.rec (.err 135) (.ok (.str (List.append a b)) h) (Nat.ble (Nat.add a.length b.length) 4294967296)) (.err 5)) (.err 5)
def b_agg (neg : Bool) (ks : List KK) (x y : AV) (h : Hp) : RV := AV.onAgg x (fun a => AV.onAgg y (fun b => EB.rv neg h (eqa ks h a b)) (.err 10)) (.err 10)
def b_fop (op : BinOp) (x y : AV) (h : Hp) : RV := AV.onFlt x (fun k a => AV.onFlt y (fun k' b => Bool.rec (.err 7) (fltB k op a b h) (keqF k k')) (.err 7)) (.err 7)
def b_cop (op : BinOp) (x y : AV) (h : Hp) : RV := AV.onCplx x (fun k a b => AV.onCplx y (fun k' c d => Bool.rec (.err 8) (cplxB k op a b c d h) (keqF k k')) (.err 8)) (.err 8)
def bK (op : BK) : AV → AV → Hp → RV := BK.rec (motive := fun _ => AV → AV → Hp → RV) b_add b_sub b_mul b_quo b_rem b_and b_or b_xor b_andn (bSH bshl) (bSH bshr) b_eq b_ne b_lt b_le b_gt b_ge b_seq b_sne b_slt b_sle b_sgt b_sge b_cat (fun x y h => EB.rv false h (eqB x y)) (fun x y h => EB.rv true h (eqB x y)) (fun x y h => EB.rv false h (eqP h x y)) (fun x y h => EB.rv true h (eqP h x y)) (fun k x _ h => EB.rv false h (nilOf k x)) (fun k x _ h => EB.rv true h (nilOf k x)) (b_agg false) (b_agg true) b_fop b_cop (fun x y h => EB.rv false h (ifEq h x y)) (fun x y h => EB.rv true h (ifEq h x y)) op
def o_bin (op : BK) (x y : AO) (r : A2) (h : Hp) : RV := bK op (ev x r) (ev y r) h
def u_not (x : AV) (h : Hp) : RV := AV.onBool x (fun b => .ok (.bool (Bool.not b)) h) (.err 11)
def u_neg (x : AV) (h : Hp) : RV := AV.onInt x (fun k n => .ok (.int k (wrapK k (ineg n))) h) (.err 11)
def u_com (x : AV) (h : Hp) : RV := AV.onInt x (fun k n => .ok (.int k (k.wrap (BitVec.ofInt k.bits (if k.signed then -1 else k.max) ^^^ BitVec.ofInt k.bits n).toNat)) h) (.err 11)
def o_un (op : UK) (x : AO) (r : A2) (h : Hp) : RV := UK.rec (motive := fun _ => AV → Hp → RV) u_not u_neg u_com op (ev x r) h
def o_mv (x : AO) (r : A2) (h : Hp) : RV := .ok (ev x r) h
def o_pick (c a b : AO) (r : A2) (h : Hp) : RV := AV.onBool (ev c r) (fun t => .ok (Bool.rec (ev b r) (ev a r) t) h) (.err 12)
def kptr : P4 → Hp → RV := fun i h => .ok (.ptr i 0) h
def hnew (el : Nat) (ex : Bool) (fl : Fl) (n : Nat) (c : Cl) (h : Hp) (k : P4 → Hp → RV) : RV := Bool.rec (.err 130) (halloc (.cells el n ex fl c) h k) (Nat.ble n (croom c))
def boxL (el : Nat) (l : List AV) (h : Hp) : RV := hnew el true .plain l.length (cof l) h kptr
def o_alloc (el n : Nat) (c : Cl) (_ : A2) (h : Hp) : RV := hnew el true .plain n c h kptr
def o_box (el : Nat) (x : AO) (r : A2) (h : Hp) : RV := OL.rec (Bool.rec (.err 134) (boxL el (.cons (ev x r) .nil) h) (ev x r).one) (fun l => boxL el l h) (ev x r).asAgg
def lput (l : List AV) (i : Nat) (v : AV) : List AV := lrec (β := Nat → List AV) (fun _ => .nil)
  (fun x t ih i => Nat.rec (.cons v t) (fun i _ => .cons x (ih i)) i) l i
def lputs (vs : List AV) : Nat → List AV → List AV := lrec (fun _ l => l) (fun v _ ih i l => ih (Nat.succ i) (lput l i v)) vs
def fill (ps : List Part) (r : A2) : List AV → List AV := lrec (fun l => l)
  (fun p _ ih l => Part.rec (fun off _ x => ih (lputs (AV.cs (ev x r)) off l)) p) ps
def fits (ps : List Part) (r : A2) : Bool := lrec true (fun p _ ih => Part.rec (fun _ sz x => OL.rec (Bool.rec false ih (Bool.and (ev x r).one (Nat.beq sz 1))) (fun l => Bool.rec false ih (Nat.beq l.length sz)) (ev x r).asAgg) p) ps
def o_build (z : List AV) (ps : List Part) (r : A2) (h : Hp) : RV := Bool.rec (.err 132) (.ok (.agg (fill ps r z)) h) (fits ps r)
def bsliceL (el n : Nat) (l : List AV) (h : Hp) : RV := hnew el true .plain l.length (cof l) h (fun i h => .ok (.slice i 0 n n) h)
def o_bslice (el es n : Nat) (z : List AV) (ps : List Part) (r : A2) (h : Hp) : RV := Bool.rec (.err 133) (bsliceL el n (fill ps r z) h) (fits ps r)
def inb (i n : Nat) : Bool := Nat.ble (Nat.succ i) n
def o_ld1 (x : AO) (r : A2) (h : Hp) : RV := AV.onPtr (ev x r) (fun i o => Obj.onCells (hget i h) (fun _ n _ _ c =>
  Bool.rec (.err 13) (.ok (cget o c) h) (inb o n)) (.err 14)) (.err 15)
def o_ldn (m : Nat) (x : AO) (r : A2) (h : Hp) : RV := AV.onPtr (ev x r) (fun i o => Obj.onCells (hget i h) (fun _ n _ _ c =>
  Bool.rec (.err 16) (.ok (.agg (cgets m c o)) h) (Nat.ble (Nat.add o m) n)) (.err 17)) (.err 18)
def wr (fl : Fl) : Bool := Fl.rec true true false fl
def o_st1 (x y : AO) (r : A2) (h : Hp) : RV := AV.onPtr (ev x r) (fun i o => Obj.onCells (hget i h) (fun el n ex fl c =>
  Bool.rec (.err 19) (Bool.rec (.err 20) (.ok .undef (hset i (.cells el n ex fl (cset o (ev y r) c)) h)) (Bool.and (inb o n) (ev y r).one)) (wr fl)) (.err 21)) (.err 22)
def o_stn (m : Nat) (x y : AO) (r : A2) (h : Hp) : RV := AV.onPtr (ev x r) (fun i o => Obj.onCells (hget i h) (fun el n ex fl c =>
  Bool.rec (.err 23) (Bool.rec (.err 24) (AV.onAgg (ev y r) (fun l => Bool.rec (.err 25) (.ok .undef (hset i (.cells el n ex fl (cputs l o c)) h)) (Nat.beq l.length m)) (.err 26)) (Nat.ble (Nat.add o m) n)) (wr fl)) (.err 27)) (.err 28)
def nilc (x : AV) (h : Hp) : RV := EB.rec (.err 30) (.ok x h) (.err 29) x.isNil
def o_nilc (x : AO) (r : A2) (h : Hp) : RV := OP.rec (nilc (ev x r) h) (fun i o => .ok (.ptr i o) h) (ev x r).asPtr
def isU8 (k : IntKind) : Bool := IntKind.rec false false false false true false false false k
def isI64 (k : IntKind) : Bool := IntKind.rec false false false true false false false false k
def bytesIn (l : List AV) (k : List Nat → RV) (e : RV) : RV := lrec (β := (List Nat → RV) → RV) (fun k => k .nil)
  (fun x _ ih k => AV.onInt x (fun kd n => Bool.rec e (Int.rec (fun m => Bool.rec e (ih (fun s => k (.cons m s))) (Nat.ble m 255)) (fun _ => e) n) (isU8 kd)) e) l k
def byteCells (s : List Nat) : List AV := lrec .nil (fun b _ ih => .cons (.int .u8 (.ofNat b)) ih) s
def elemsAt (es : Nat) (i : P4) (o n : Nat) (h : Hp) (k : List AV → RV) (e : RV) : RV := Nat.rec (k .nil) (fun n _ => Obj.onCells (hget i h) (fun _ m _ _ c => Bool.rec e (k (cgets (Nat.mul (Nat.succ n) es) c o)) (Nat.ble (Nat.add o (Nat.mul (Nat.succ n) es)) m)) e) n
def elems (es : Nat) (x : AV) (h : Hp) (k : List AV → RV) (e : RV) : RV := AV.onSl x
  (fun i o n _ => elemsAt es i o n h k e)
  (fun i o n es' => Bool.rec e (elemsAt es i o n h k e) (Nat.beq es es'))
  (k .nil) e
def newRest (el : Nat) (fl : Fl) (es : Nat) (n : Nat) (l : List AV) (h : Hp) : RV := hnew el false fl l.length (cof l) h (fun i h => .ok (.slr i 0 n es) h)
def runesAV (s : List Nat) : List AV := (Conv.runesFrom ⟨(s.map UInt8.ofNat).toArray⟩ s.length 0 #[]).toList.filterMap fun | .int _ n => some (.int .i32 n) | _ => none
def runesNew (el : Nat) (l : List AV) (h : Hp) : RV := newRest el .plain 1 l.length l h
def c_s2b (el : Nat) (x : AV) (h : Hp) : RV := AV.onStr x (fun s => newRest el .mark 1 s.length (byteCells s) h) (.err 32)
def c_toInt (k : IntKind) (x : AV) (h : Hp) : RV := AV.onInt x (fun _ n => .ok (.int k (wrapK k n)) h) (.err 31)
def c_b2s (x : AV) (h : Hp) : RV := elems 1 x h (fun l => bytesIn l (fun s => .ok (.str s) h) (.err 33)) (.err 34)
def c_i2s (x : AV) (h : Hp) : RV := AV.onInt x (fun _ n => .ok (.str ((Utf8.encode n).data.toList.map (·.toNat))) h) (.err 35)
def c_i2f (k : FloatKind) (x : AV) (h : Hp) : RV := AV.onInt x (fun _ n => .ok (.flt k (k.nearest n)) h) (.err 36)
def c_f2i (k : IntKind) (x : AV) (h : Hp) : RV := AV.onFlt x (fun s b => match (s.decode b).toInt .zero with | some n => if k.min ≤ n ∧ n ≤ k.max then .ok (.int k n) h else .err 37 | none => .err 37) (.err 37)
def c_s2r (el : Nat) (x : AV) (h : Hp) : RV := AV.onStr x (fun s => runesNew el (runesAV s) h) (.err 38)
def c_same (x : AV) (h : Hp) : RV := AV.onStr x (fun s => .ok (.str s) h) (.err 38)
def c_uto (x : AV) (h : Hp) : RV := OP.rec (Bool.rec (.err 190) (.ok x h) (isNilP x)) (fun i o => Obj.onCells (hget i h) (fun _ n ex _ _ => Bool.rec (.err 191) (.ok x h) (Bool.and ex (inb o n))) (.err 192)) x.asPtr
def c_ufrom (u sz : Nat) (x : AV) (h : Hp) : RV := OP.rec (Bool.rec (.err 190) (.ok x h) (isNilP x)) (fun i o => Obj.onCells (hget i h) (fun el n ex _ _ => Bool.rec (.err 193) (.ok x h) (Bool.and ex (Bool.and (Nat.beq o 0) (Bool.and (Nat.beq el u) (Nat.beq n sz))))) (.err 194)) x.asPtr
def cK (op : CK) : AV → Hp → RV := CK.rec (motive := fun _ => AV → Hp → RV) c_same c_toInt c_s2b c_b2s c_i2s c_i2f c_f2i c_s2r c_uto c_ufrom op
def o_conv (op : CK) (x : AO) (r : A2) (h : Hp) : RV := cK op (ev x r) h
def o_mki (t : Nat) (x : AO) (r : A2) (h : Hp) : RV := .ok (.iface t (ev x r)) h
def evs (xs : List AO) (r : A2) : List AV := lrec .nil (fun x _ ih => .cons (ev x r) ih) xs
def o_mkf (f : Nat) (xs : List AO) (r : A2) (h : Hp) : RV := .ok (.fn f (evs xs r)) h
def o_mkmap (_ : A2) (h : Hp) : RV := halloc (.map .nil 0) h (fun i h => .ok (.map i) h)
def lrepI (n : Nat) (z : List AV) : List AV := (List.replicate n z).flatten
def lrep (n : Nat) (z : List AV) : List AV := Nat.rec .nil (fun _ ih => List.append z ih) n
def natOf (x : AV) (k : Nat → RV) (e : RV) : RV := AV.onInt x (fun _ n => Int.rec k (fun _ => e) n) e
def mkSl (el l c : Nat) (v : List AV) (h : Hp) : RV := hnew el true .plain v.length (cof v) h (fun i h => .ok (.slice i 0 l c) h)
def o_mkslice (el : Nat) (z : List AV) (l c : AO) (r : A2) (h : Hp) : RV := natOf (ev l r) (fun l => natOf (ev c r) (fun c =>
  Bool.rec (.err 39) (Bool.rec (.err 40) (mkSl el l c (lrep c z) h) (Nat.ble c 1048576)) (Nat.ble l c)) (.err 41)) (.err 41)
def oaNat (x : OA) (d : Nat) (r : A2) (k : Nat → RV) (e : RV) : RV := OA.rec (k d) (fun x => natOf (ev x r) k e) x
def isSome (x : OA) : Bool := OA.rec false (fun _ => true) x
def cutEx (es : Nat) (i : P4) (o a b m cap : Nat) (h : Hp) : RV := Bool.rec (.err 42) (Bool.rec (.err 42) (Bool.rec (.err 42) (.ok (.slice i (Bool.rec (Nat.add o (Nat.mul a es)) o (Nat.beq m a)) (Nat.sub b a) (Nat.sub m a)) h) (Nat.ble m cap)) (Nat.ble b m)) (Nat.ble a b)
def cutRs (es : Nat) (i : P4) (o a b : Nat) (h : Hp) : RV := Bool.rec (.err 42) (Obj.onCells (hget i h) (fun _ k _ _ _ =>
  Bool.rec (.err 45) (.ok (.slr i (Nat.add o (Nat.mul a es)) (Nat.sub b a) es) h) (Nat.ble (Nat.add o (Nat.mul b es)) k)) (.err 46)) (Nat.ble a b)
def cutRx (es : Nat) (i : P4) (o a b m : Nat) (h : Hp) : RV := Bool.rec (.err 42) (Bool.rec (.err 42) (Obj.onCells (hget i h) (fun _ k _ _ _ =>
  Bool.rec (.err 45) (.ok (.slice i (Bool.rec (Nat.add o (Nat.mul a es)) o (Nat.beq m a)) (Nat.sub b a) (Nat.sub m a)) h) (Nat.ble (Nat.add o (Nat.mul m es)) k)) (.err 46)) (Bool.and (Nat.ble 1 m) (Nat.ble b m))) (Nat.ble a b)
def o_slc (es : Nat) (x : AO) (lo hi mx : OA) (r : A2) (h : Hp) : RV := AV.onSl (ev x r)
  (fun i o n cap => oaNat mx cap r (fun m => oaNat hi n r (fun b => oaNat lo 0 r (fun a => cutEx es i o a b m cap h) (.err 43)) (.err 43)) (.err 43))
  (fun i o n es' => Bool.rec (.err 44) (oaNat hi n r (fun b => oaNat lo 0 r (fun a => Bool.rec (cutRs es i o a b h) (oaNat mx 0 r (fun m => cutRx es i o a b m h) (.err 43)) (isSome mx)) (.err 43)) (.err 43)) (Nat.beq es es'))
  (oaNat mx 0 r (fun m => oaNat hi 0 r (fun b => oaNat lo 0 r (fun a => Bool.rec (.err 47) (.ok .nils h) (Nat.beq (Nat.add m (Nat.add a b)) 0)) (.err 43)) (.err 43)) (.err 43))
  (.err 48)
def o_slcs (x : AO) (lo hi : OA) (r : A2) (h : Hp) : RV := AV.onStr (ev x r) (fun s => oaNat hi s.length r (fun b => oaNat lo 0 r (fun a =>
  Bool.rec (.err 49) (Bool.rec (.err 49) (.ok (.str (List.take (Nat.sub b a) (List.drop a s))) h) (Nat.ble b s.length)) (Nat.ble a b)) (.err 49)) (.err 49)) (.err 49)
def o_slca (len es : Nat) (x : AO) (lo hi mx : OA) (r : A2) (h : Hp) : RV := AV.onPtr (ev x r) (fun i o => oaNat mx len r (fun m => oaNat hi len r (fun b => oaNat lo 0 r (fun a => cutEx es i o a b m len h) (.err 43)) (.err 43)) (.err 43)) (.err 50)
def o_fad (d : Nat) (x : AO) (r : A2) (h : Hp) : RV := AV.onPtr (ev x r) (fun i o => .ok (.ptr i (Nat.add o d)) h) (.err 51)
def o_fld1 (d : Nat) (x : AO) (r : A2) (h : Hp) : RV := AV.onAgg (ev x r) (fun l => List.rec (.err 52) (fun v _ _ => .ok v h) (List.drop d l)) (.err 52)
def o_fldn (d n : Nat) (x : AO) (r : A2) (h : Hp) : RV := AV.onAgg (ev x r) (fun l => Bool.rec (.err 53) (.ok (.agg (List.take n (List.drop d l))) h) (Nat.ble (Nat.add d n) l.length)) (.err 53)
def ixAt (es : Nat) (i : P4) (o n k : Nat) (h : Hp) : RV := Bool.rec (.err 54) (.ok (.ptr i (Nat.add o (Nat.mul k es))) h) (inb k n)
def o_ixs (es : Nat) (x y : AO) (r : A2) (h : Hp) : RV := natOf (ev y r) (fun k => AV.onSl (ev x r)
  (fun i o n _ => ixAt es i o n k h) (fun i o n _ => ixAt es i o n k h) (.err 54) (.err 55)) (.err 55)
def o_ixa (len es : Nat) (x y : AO) (r : A2) (h : Hp) : RV := natOf (ev y r) (fun k => AV.onPtr (ev x r) (fun i o => ixAt es i o len k h) (.err 56)) (.err 56)
def o_idxs (x y : AO) (r : A2) (h : Hp) : RV := natOf (ev y r) (fun k => AV.onStr (ev x r) (fun s => List.rec (.err 57) (fun b _ _ => .ok (.int .u8 (.ofNat b)) h) (List.drop k s)) (.err 57)) (.err 57)
def o_idxa (len es : Nat) (agg : Bool) (x y : AO) (r : A2) (h : Hp) : RV := natOf (ev y r) (fun k => AV.onAgg (ev x r) (fun l => Bool.rec (.err 58) (Bool.rec (List.rec (.err 58) (fun v _ _ => .ok v h) (List.drop (Nat.mul k es) l)) (Bool.rec (.err 58) (.ok (.agg (List.take es (List.drop (Nat.mul k es) l))) h) (Nat.ble (Nat.add (Nat.mul k es) es) l.length)) agg) (inb k len)) (.err 58)) (.err 58)
def o_ext (i : Nat) (x : AO) (r : A2) (h : Hp) : RV := AV.onTup (ev x r) (fun l => List.rec (.err 59) (fun v _ _ => .ok v h) (List.drop i l)) (.err 59)
inductive KT where
  | one (k : KK)
  | agg (ks : List KK)
def keq (t : KT) (a b : AV) (h : Hp) : EB := KT.rec (fun k => eqK k h a b) (fun ks => OL.rec .bad (fun l => OL.rec .bad (fun m => eqa ks h l m) b.asAgg) a.asAgg) t
def kfind (kt : KT) (x : AV) (l : List KV) (h : Hp) (k : Nat → AV → Nat → RV) (n e : RV) : RV := lrec (β := Nat → RV) (fun _ => n)
  (fun y _ ih i => KV.rec (fun a v born => EB.rec (k i v born) (ih (Nat.succ i)) e (keq kt x a h)) y) l 0
def kset (i : Nat) (key v : AV) (l : List KV) : List KV := lrec (β := Nat → List KV) (fun _ => .nil)
  (fun y t ih i => Nat.rec (KV.rec (fun _ _ born => .cons (.mk key v born) t) y) (fun i _ => .cons y (ih i)) i) l i
def kdel (i : Nat) (l : List KV) : List KV := lrec (β := Nat → List KV) (fun _ => .nil) (fun y t ih i => Nat.rec t (fun i _ => .cons y (ih i)) i) l i
def snoc (l : List KV) (y : KV) : List KV := lrec (.cons y .nil) (fun x _ ih => .cons x ih) l
def okv (ok found : Bool) (v : AV) (h : Hp) : RV := .ok (Bool.rec v (.tup (.cons v (.cons (.bool found) .nil))) ok) h
def okKey (t : KT) (x : AV) (h : Hp) : Bool := EB.rec true true false (keq t x x h)
def lkp (t : KT) (z : AV) (ok : Bool) (x k : AV) (h : Hp) : RV := Bool.rec (.err 60) (AV.onMap x (fun i => Obj.onMap (hget i h) (fun l _ => kfind t k l h (fun _ v _ => okv ok true v h) (okv ok false z h) (.err 61)) (.err 62)) (okv ok false z h) (.err 63)) (okKey t k h)
def o_lkp (t : KT) (z : AV) (ok : Bool) (x y : AO) (r : A2) (h : Hp) : RV := lkp t z ok (ev x r) (ev y r) h
def mup (t : KT) (x k v : AV) (h : Hp) : RV := Bool.rec (.err 64) (AV.onMap x (fun i => Obj.onMap (hget i h) (fun l c => kfind t k l h
      (fun j _ _ => .ok .undef (hset i (.map (kset j k v l) c) h)) (.ok .undef (hset i (.map (snoc l (.mk k v c)) (Nat.succ c)) h)) (.err 65)) (.err 66))
    (.err 67) (.err 68)) (okKey t k h)
def o_mup (t : KT) (x y z : AO) (r : A2) (h : Hp) : RV := mup t (ev x r) (ev y r) (ev z r) h
def ment (t : KT) (z x k : AV) (h : Hp) : RV := Bool.rec (.err 220) (AV.onMap x (fun i => Obj.onMap (hget i h) (fun l c => kfind t k l h
      (fun j v b => .ok (.tup (.cons v (.cons (.int .i64 (.ofNat b)) .nil))) (hset i (.map (kset j k v l) c) h)) (.ok (.tup (.cons z (.cons (.int .i64 (.ofNat c)) .nil))) (hset i (.map (snoc l (.mk k z c)) (Nat.succ c)) h)) (.err 221)) (.err 222))
    (.err 223) (.err 224)) (okKey t k h)
def o_ment (t : KT) (z : AV) (x y : AO) (r : A2) (h : Hp) : RV := ment t z (ev x r) (ev y r) h
def bidx (b : Nat) (l : List KV) (k : Nat → AV → RV) (e : RV) : RV := lrec (β := Nat → RV) (fun _ => e) (fun y _ ih i => KV.rec (fun a _ c => Bool.rec (ih (Nat.succ i)) (k i a) (Nat.beq b c)) y) l 0
def esto (x s v : AV) (h : Hp) : RV := AV.onMap x (fun i => Obj.onMap (hget i h) (fun l c => natOf s (fun b => bidx b l (fun j a => .ok .undef (hset i (.map (kset j a v l) c) h)) (.err 225)) (.err 226)) (.err 227)) (.err 228) (.err 229)
def o_esto (x y z : AO) (r : A2) (h : Hp) : RV := esto (ev x r) (ev y r) (ev z r) h
def unitV : AV := .tup .nil
def del (t : KT) (x k : AV) (h : Hp) : RV := Bool.rec (.err 69) (AV.onMap x (fun i => Obj.onMap (hget i h) (fun l c => kfind t k l h
      (fun j _ _ => .ok unitV (hset i (.map (kdel j l) c) h)) (.ok unitV h) (.err 70)) (.err 71))
    (.ok unitV h) (.err 72)) (okKey t k h)
def o_del (t : KT) (x y : AO) (r : A2) (h : Hp) : RV := del t (ev x r) (ev y r) h
def nat64 (n : Nat) : AV := .int .i64 (.ofNat n)
def o_lenm (x : AO) (r : A2) (h : Hp) : RV := AV.onMap (ev x r) (fun i => Obj.onMap (hget i h) (fun l _ => .ok (nat64 l.length) h) (.err 73)) (.ok (nat64 0) h) (.err 73)
def len (x : AV) (h : Hp) : RV := AV.onSl x (fun _ _ n _ => .ok (nat64 n) h) (fun _ _ n _ => .ok (nat64 n) h) (.ok (nat64 0) h) (.err 74)
def lent (x : AV) (h : Hp) : RV := AV.onStr x (fun s => .ok (nat64 s.length) h) (.err 74)
def o_len (x : AO) (r : A2) (h : Hp) : RV := len (ev x r) h
def o_lent (x : AO) (r : A2) (h : Hp) : RV := lent (ev x r) h
def o_cap (x : AO) (r : A2) (h : Hp) : RV := AV.onSl (ev x r) (fun _ _ _ c => .ok (nat64 c) h) (fun _ _ _ _ => .err 75) (.ok (nat64 0) h) (.err 75)
def best (mn : Bool) (a b : Int) : Int := Bool.rec (Bool.rec a b (ilt a b)) (Bool.rec a b (ilt b a)) mn
def maxL (mn : Bool) (k : IntKind) (h : Hp) (l : List AV) : Int → RV := lrec (β := Int → RV) (fun a => .ok (.int k a) h) (fun y _ ih a => AV.onInt y (fun k' b => Bool.rec (.err 76) (ih (best mn a b)) (keqK k k')) (.err 76)) l
def maxV (mn : Bool) (l : List AV) (h : Hp) : RV := List.rec (.err 76) (fun x xs _ => AV.onInt x (fun k a => maxL mn k h xs a) (.err 76)) l
def o_max (mn : Bool) (xs : List AO) (r : A2) (h : Hp) : RV := maxV mn (evs xs r) h
def writeAt (i : P4) (o : Nat) (l : List AV) (h : Hp) (k : Hp → RV) : RV := Obj.onCells (hget i h) (fun el n ex fl c => Bool.rec (.err 78) (Bool.rec (.err 79) (k (hset i (.cells el n ex fl (cputs l o c)) h)) (Nat.ble (Nat.add o l.length) n)) (wr fl)) (.err 80)
def appNew (el es n m : Nat) (old new : List AV) (h : Hp) : RV := newRest el .plain es (Nat.add n m) (List.append old new) h
def moved (i : P4) (el k : Nat) (fl : Fl) (c : Cl) (n es : Nat) (h : Hp) : RV := hnew el false fl k c (hset i .dead h) (fun j h => .ok (.slr j 0 n es) h)
def appRs (elt es m : Nat) (new : List AV) (i : P4) (o n : Nat) (h : Hp) : RV := Obj.onCells (hget i h) (fun el k ex fl c => Bool.rec (.err 82) (Bool.rec (Bool.rec (.err 83) (Bool.rec (Bool.rec (moved i el (Nat.mul (Nat.add n m) es) fl (cof (List.append (cgets (Nat.mul n es) c o) new)) (Nat.add n m) es h) (moved i el (Nat.mul (Nat.add n m) es) fl (cputs new k (cfit (Nat.mul (Nat.add n m) es) c)) (Nat.add n m) es h) (Bool.and (Nat.beq o 0) (Nat.beq (Nat.mul n es) k))) (.err 81) (Bool.or ex (Bool.not (Nat.beq elt el)))) (Nat.ble (Nat.add o (Nat.mul n es)) k)) (.ok (.slr i o (Nat.add n m) es) (hset i (.cells el k ex fl (cputs new (Nat.add o (Nat.mul n es)) c)) h)) (Nat.ble (Nat.add o (Nat.mul (Nat.add n m) es)) k)) (wr fl)) (.err 84)
def appL (el es m : Nat) (new : List AV) (s : AV) (h : Hp) : RV := AV.onSl s
  (fun i o n cap => Bool.rec (elemsAt es i o n h (fun old => appNew el es n m old new h) (.err 77)) (Nat.rec (.ok (.slice i o n cap) h) (fun m _ => writeAt i (Nat.add o (Nat.mul n es)) new h (fun h => .ok (.slice i o (Nat.add n (Nat.succ m)) cap) h)) m) (Nat.ble (Nat.add n m) cap))
  (fun i o n es' => Bool.rec (.err 81) (Nat.rec (.ok (.slr i o n es) h) (fun m _ => appRs el es (Nat.succ m) new i o n h) m) (Nat.beq es es'))
  (Nat.rec (.ok .nils h) (fun m _ => appNew el es 0 (Nat.succ m) .nil new h) m) (.err 85)
def lenEl (x : AV) (k : Nat → RV) (e : RV) : RV := AV.onSl x (fun _ _ n _ => k n) (fun _ _ n _ => k n) (k 0) e
def appV (el es : Nat) (x y : AV) (h : Hp) : RV := lenEl y (fun m => Bool.rec (.err 86) (elems es y h (fun new => appL el es m new x h) (.err 87)) (Nat.ble (Nat.mul m es) 4294967296)) (.err 88)
def o_app (el es : Nat) (x y : AO) (r : A2) (h : Hp) : RV := appV el es (ev x r) (ev y r) h
def o_appz (el es : Nat) (z : List AV) (x y : AO) (r : A2) (h : Hp) : RV := natOf (ev y r) (fun n => Bool.rec (.err 230) (appL el es n (lrep n z) (ev x r) h) (Nat.ble (Nat.mul n es) 1048576)) (.err 231)
def o_apps (el : Nat) (x y : AO) (r : A2) (h : Hp) : RV := AV.onStr (ev y r) (fun s => appL el 1 s.length (byteCells s) (ev x r) h) (.err 89)
def putSl (l : List AV) (s : AV) (h : Hp) (k : Hp → RV) : RV := List.rec (k h) (fun a t _ => AV.onSl s
  (fun i o _ _ => writeAt i o (.cons a t) h k) (fun i o _ _ => writeAt i o (.cons a t) h k) (.err 93) (.err 93)) l
def cpyV (es : Nat) (x y : AV) (h : Hp) : RV := lenEl x (fun n => OS.rec (lenEl y (fun m => elems es y h (fun l => putSl (List.take (Nat.mul n es) l) x h (fun h => .ok (nat64 (Nat.min m n)) h)) (.err 94)) (.err 94)) (fun s => Bool.rec (.err 94) (putSl (byteCells (List.take n s)) x h (fun h => .ok (nat64 (Nat.min s.length n)) h)) (Nat.beq es 1)) y.asStr) (.err 94)
def o_cpy (es : Nat) (x y : AO) (r : A2) (h : Hp) : RV := cpyV es (ev x r) (ev y r) h
def clrV (z : List AV) (x : AV) (h : Hp) : RV := lenEl x (fun n => putSl (lrep n z) x h (fun h => .ok unitV h)) (.err 95)
def o_clr (z : List AV) (x : AO) (r : A2) (h : Hp) : RV := clrV z (ev x r) h
def o_rngs (x : AO) (r : A2) (h : Hp) : RV := AV.onStr (ev x r) (fun s => halloc (.siter s 0) h kptr) (.err 96)
def o_rngm (x : AO) (r : A2) (h : Hp) : RV := AV.onMap (ev x r) (fun m => Obj.onMap (hget m h) (fun _ c => halloc (.miter m c .nil c) h kptr) (.err 97)) (halloc .niter h kptr) (.err 97)
def rune2 (d : Nat × Nat) (k : Nat → Nat → RV) : RV := k d.1 d.2
def rune1 (s : List Nat) (k : Nat → Nat → RV) (e : RV) : RV := List.rec e (fun b t _ => Bool.rec (rune2 (Utf8.decode ⟨((b :: t).map UInt8.ofNat).toArray⟩ 0) k) (k b 1) (Nat.ble b 127)) s
def nmem (x : Nat) (l : List Nat) : Bool := lrec false (fun y _ ih => Bool.rec ih true (Nat.beq x y)) l
def unseen (seen : List Nat) (l : List KV) : List KV := lrec .nil (fun y _ ih => KV.rec (fun _ _ b => Bool.rec (.cons y ih) ih (nmem b seen)) y) l
def anyNew (since : Nat) (l : List KV) : Bool := lrec false (fun y _ ih => KV.rec (fun _ _ b => Bool.rec ih true (Nat.ble since b)) y) l
def over (h : Hp) : RV := .ok (.tup (.cons (.bool false) .nil)) h
def allNew (last : Nat) (l : List KV) : Bool := lrec true (fun y _ ih => KV.rec (fun _ _ b => Bool.rec false ih (Nat.ble last b)) y) l
def nxS (i : P4) (s : List Nat) (pos : Nat) (h : Hp) : RV := List.rec (over h) (fun b t _ => rune1 (.cons b t) (fun c n => .ok (.tup (.cons (.bool true) (.cons (nat64 pos) (.cons (.int .i32 (.ofNat c)) .nil)))) (hset i (.siter s (Nat.add pos n)) h)) (.err 99)) (List.drop pos s)
def RV.toT (v : RV) : RT := RV.rec (fun v h => .ok v h) (fun n => .err n) v
def nth {α β : Type} (l : List α) (k : α → β) (e : β) : Nat → β := lrec (β := Nat → β) (fun _ => e) (fun a _ ih i => Nat.rec (k a) (fun i _ => ih i) i) l
def isEmp {α : Type} (l : List α) : Bool := List.rec true (fun _ _ _ => false) l
def pickM (i m : P4) (since : Nat) (seen : List Nat) (clock : Nat) (h : Hp) (y : KV) : RT := KV.rec (fun k v b => .ok (.tup (.cons (.bool true) (.cons k (.cons v .nil)))) (hset i (.miter m since (List.append seen (.cons b .nil)) clock) h)) y
def nxL (f : KV → RT) (h : Hp) (u : List KV) : RT := List.rec (over h).toT (fun y t _ => List.rec (f y) (fun _ _ _ => .ch (List.length u) (nth u f (.err 102))) t) u
def nxM (i m : P4) (since : Nat) (seen : List Nat) (last : Nat) (h : Hp) : RT := OMp.rec (.err 98) (fun l clock => Bool.rec (Bool.rec (nxL (pickM i m since seen clock h) h (unseen seen l)) (.err 100) (Bool.and (Bool.not (isEmp seen)) (Bool.and (Bool.not (isEmp l)) (allNew last l)))) (.err 103) (anyNew since l)) (hget m h).asMap
def nextS (x : AV) (h : Hp) : RT := OP.rec (.err 98) (fun i o => Nat.rec (Obj.rec (.err 98) (.err 98) (fun _ _ _ _ _ => .err 98) (fun _ _ => .err 98) (fun s pos => (nxS i s pos h).toT) (fun _ _ _ _ => .err 98) (.err 98) (hget i h)) (fun _ _ => .err 98) o) x.asPtr
def nextM (x : AV) (h : Hp) : RT := OP.rec (.err 98) (fun i o => Nat.rec (Obj.rec (.err 98) (.err 98) (fun _ _ _ _ _ => .err 98) (fun _ _ => .err 98) (fun _ _ => .err 98) (fun m since seen last => nxM i m since seen last h) (over h).toT (hget i h)) (fun _ _ => .err 98) o) x.asPtr
def nextT (s : Bool) (x : AV) (h : Hp) : RT := Bool.rec (nextM x h) (nextS x h) s
def bfind (b : Nat) (l : List KV) (k : AV → AV → RV) (e : RV) : RV := lrec e (fun y _ ih => KV.rec (fun a v c => Bool.rec ih (k a v) (Nat.beq b c)) y) l
def last1 (l : List Nat) (k : Nat → RV) (e : RV) : RV := lrec e (fun x t ih => List.rec (k x) (fun _ _ _ => ih) t) l
def entM (m : P4) (seen : List Nat) (stepped : Nat) (h : Hp) : RV := last1 seen (fun b => Obj.onMap (hget m h) (fun l clock => Bool.rec (.err 105) (bfind b l (fun k v => .ok (.tup (.cons k (.cons v .nil))) h) (.err 106)) (Nat.beq clock stepped)) (.err 104)) (.err 107)
def o_ent (x : AO) (r : A2) (h : Hp) : RV := AV.onPtr (ev x r) (fun i o => Nat.rec (Obj.rec (.err 104) (.err 104) (fun _ _ _ _ _ => .err 104) (fun _ _ => .err 104) (fun _ _ => .err 104) (fun m _ seen stepped => entM m seen stepped h) (.err 104) (hget i h)) (fun _ _ => .err 104) o) (.err 104)
def tas (t : Nat) (z : AV) (ok : Bool) (x : AV) (h : Hp) : RV := AV.onIf x
  (fun u v => Bool.rec (Bool.rec (.err 109) (okv true false z h) ok) (okv ok true v h) (Nat.beq t u))
  (Bool.rec (.err 109) (okv true false z h) ok) (.err 108)
def o_tas (t : Nat) (z : AV) (ok : Bool) (x : AO) (r : A2) (h : Hp) : RV := tas t z ok (ev x r) h
def o_cplx (k : FloatKind) (x y : AO) (r : A2) (h : Hp) : RV := AV.onFlt (ev x r) (fun k1 a => AV.onFlt (ev y r) (fun k2 b => Bool.rec (.err 110) (.ok (.cplx k a b) h) (Bool.and (keqF k k1) (keqF k k2))) (.err 110)) (.err 110)
def o_real (im : Bool) (x : AO) (r : A2) (h : Hp) : RV := AV.onCplx (ev x r) (fun k a b => .ok (.flt k (Bool.rec a b im)) h) (.err 111)
def o_ussd (x : AO) (r : A2) (h : Hp) : RV := AV.onSl (ev x r) (fun i o _ c => Nat.rec (.err 112) (fun _ _ => .ok (.ptr i o) h) c) (fun i o n _ => Nat.rec (.err 112) (fun _ _ => .ok (.ptr i o) h) n) (.ok .nilp h) (.err 112)
def o_ustr (el : Nat) (x y : AO) (r : A2) (h : Hp) : RV := natOf (ev y r) (fun n => Nat.rec (OP.rec (Bool.rec (.err 113) (.ok (.str .nil) h) (isNilP (ev x r))) (fun _ _ => .ok (.str .nil) h) (ev x r).asPtr) (fun n _ => AV.onPtr (ev x r) (fun i o => Obj.onCells (hget i h) (fun el' m ex _ c => Bool.rec (.err 114) (bytesIn (cgets (Nat.succ n) c o) (fun s => .ok (.str s) (hset i (.cells el' m ex .froz c) h)) (.err 115)) (Bool.and (Nat.ble n 1048576) (Bool.and (Nat.beq el el') (Nat.ble (Nat.add o (Nat.succ n)) m)))) (.err 116)) (.err 117)) n) (.err 118)

inductive AOp where
  | mv (x : AO)
  | pick (c a b : AO)
  | alloc (el n : Nat) (c : Cl)
  | box (el : Nat) (x : AO)
  | build (z : List AV) (ps : List Part)
  | bslice (el es n : Nat) (z : List AV) (ps : List Part)
  | ld1 (x : AO)
  | ldn (m : Nat) (x : AO)
  | st1 (x y : AO)
  | stn (m : Nat) (x y : AO)
  | nilc (x : AO)
  | bin (op : BK) (x y : AO)
  | un (op : UK) (x : AO)
  | conv (op : CK) (x : AO)
  | mki (t : Nat) (x : AO)
  | mkf (f : Nat) (xs : List AO)
  | mkmap
  | mkslice (el : Nat) (z : List AV) (l c : AO)
  | slc (es : Nat) (x : AO) (lo hi mx : OA)
  | slcs (x : AO) (lo hi : OA)
  | slca (len es : Nat) (x : AO) (lo hi mx : OA)
  | fad (d : Nat) (x : AO)
  | fld1 (d : Nat) (x : AO)
  | fldn (d n : Nat) (x : AO)
  | ixs (es : Nat) (x y : AO)
  | ixa (len es : Nat) (x y : AO)
  | idxs (x y : AO)
  | idxa (len es : Nat) (agg : Bool) (x y : AO)
  | ext (i : Nat) (x : AO)
  | lkp (t : KT) (z : AV) (ok : Bool) (x y : AO)
  | mup (t : KT) (x y z : AO)
  | del (t : KT) (x y : AO)
  | lenm (x : AO)
  | len (x : AO)
  | lent (x : AO)
  | cap (x : AO)
  | max (mn : Bool) (xs : List AO)
  | app (el es : Nat) (x y : AO)
  | apps (el : Nat) (x y : AO)
  | cpy (es : Nat) (x y : AO)
  | clr (z : List AV) (x : AO)
  | rngs (x : AO)
  | rngm (x : AO)
  | ent (x : AO)
  | tas (t : Nat) (z : AV) (ok : Bool) (x : AO)
  | cplx (k : FloatKind) (x y : AO)
  | real (im : Bool) (x : AO)
  | ussd (x : AO)
  | ustr (el : Nat) (x y : AO)
  | ment (t : KT) (z : AV) (x y : AO)
  | esto (x y z : AO)
  | appz (el es : Nat) (z : List AV) (x y : AO)
  | bad (n : Nat)
def AOp.run (op : AOp) : A2 → Hp → RV := AOp.rec (motive := fun _ => A2 → Hp → RV) o_mv o_pick o_alloc o_box o_build o_bslice o_ld1 o_ldn o_st1 o_stn o_nilc o_bin o_un o_conv o_mki o_mkf o_mkmap o_mkslice o_slc o_slcs o_slca o_fad o_fld1 o_fldn o_ixs o_ixa o_idxs o_idxa o_ext o_lkp o_mup o_del o_lenm o_len o_lent o_cap o_max o_app o_apps o_cpy o_clr o_rngs o_rngm o_ent o_tas o_cplx o_real o_ussd o_ustr o_ment o_esto o_appz (fun n _ _ => .err n) op
inductive AI where
  | op (o : AOp)
  | nxt (s : Bool) (x : AO)
  | call (f : Nat) (xs : List AO)
  | calld (x : AO) (xs : List AO)
  | inv (name : Nat) (x : AO) (xs : List AO)
inductive Dst where
  | no
  | t (a b : H)
inductive GI where
  | o (d : Dst) (i : AI)
  | g (a b : H) (w : Bool) (d : Dst) (i : AI)
inductive Bk where
  | eff
  | rd (n : Nat)
  | new
inductive DI where
  | mk (b : Bk) (g : GI)
abbrev Cf := Nat → List AV → Hp → RT
abbrev Iv := Nat → AV → List AV → Hp → RT
inductive AC where
  | skip
  | ops (l : List GI)
  | drw (l : List DI)
  | seq (a b : AC)
  | cond (c : AO) (a b : AC)
  | block (i : Nat) (a : AC)
  | loop (a : AC)
  | scope (a : AC)
  | sat (a c : AC)
  | exit (i : Nat)
  | goto (l : Nat)
  | label (l : Nat)
  | ret
  | join (a : AC)
  | bad (n : Nat)
  | shal (f : Cf → Iv → (A2 → Hp → RS) → A2 → Hp → RS) (x : AC)
  | alt (a b : AC)
  | opsb (q : Nat) (l : List GI)
inductive Rs where
  | t (a b : H)
  | one (a b : H)
  | agg (n : Nat) (a b : H)
inductive SW where
  | mk (i : P4) (r : Nat)
inductive PK where
  | crc
  | put (el : Nat)
  | get
  | wit (l : List SW)
  | noesc
  | mknz (el : Nat)
  | trunc
  | coll (f : Nat) (l0 l1 k0 kn k2 k3 ra rb l4 : List GI)
  | ins (el es : Nat)
def crc1 (c : Nat) : Nat := Nat.xor (Nat.shiftRight c 1) (Nat.mul (Nat.land c 1) 3988292384)
def crc8 (c : Nat) : Nat := crc1 (crc1 (crc1 (crc1 (crc1 (crc1 (crc1 (crc1 c)))))))
def crcL (s : List Nat) : Nat → Nat := lrec (β := Nat → Nat) (fun c => c) (fun b _ ih c => ih (crc8 (Nat.xor c b))) s
def crcN (s : List Nat) : Nat := Nat.xor 4294967295 (crcL s 4294967295)
def p_crc (x : AV) (h : Hp) : RV := elems 1 x h (fun l => bytesIn l (fun s => .ok (.int .u32 (.ofNat (crcN s))) h) (.err 140)) (.err 141)
def thenR (v : RV) (k : AV → Hp → RV) : RV := RV.rec k (fun n => .err n) v
def put1 (el : Nat) (p : AV) (b : Nat) (h : Hp) : RV := thenR (o_ld1 (.c p) .nil h) (fun s h => thenR (appL el 1 1 (.cons (.int .u8 (.ofNat b)) .nil) s h) (fun v h => o_st1 (.c p) (.c v) .nil h))
def putNI (el : Nat) (p : AV) : Nat → Nat → Hp → RV
  | 0 => fun _ h => .ok unitV h
  | m + 1 => fun n h => thenR (put1 el p (Nat.mod n 256) h) (fun _ h => putNI el p m (Nat.div n 256) h)
def putN (el : Nat) (p : AV) (m : Nat) : Nat → Hp → RV := Nat.rec (fun _ h => .ok unitV h) (fun _ ih n h => thenR (put1 el p (Nat.mod n 256) h) (fun _ h => ih (Nat.div n 256) h)) m
def p_put (el : Nat) (p n m : AV) (h : Hp) : RV := AV.onPtr p (fun i o => natOf n (fun n => natOf m (fun m => putN el (.ptr i o) m n h) (.err 142)) (.err 142)) (.err 142)
def leN (s : List Nat) : Nat := lrec 0 (fun b _ ih => Nat.add (Nat.mul 256 ih) b) s
def p_get3 (i : P4) (o m a : Nat) (s : AV) (h : Hp) : RV := thenR (o_slc 1 (.c s) (.some (.c (.int .i64 (.ofNat a)))) (.some (.c (.int .i64 (.ofNat (Nat.add a m))))) .none .nil h) (fun x _ =>
  elems 1 x h (fun l => bytesIn l (fun b => thenR (o_st1 (.c (.ptr i (Nat.add o 1))) (.c (.int .i64 (.ofNat (Nat.add a m)))) .nil h) (fun _ h => .ok (.int .u64 (.ofNat (leN b))) h)) (.err 143)) (.err 144))
def p_get2 (i : P4) (o m : Nat) (h : Hp) : RV := thenR (o_ld1 (.c (.ptr i (Nat.add o 2))) .nil h) (fun w _ => AV.onInt w (fun _ n => Bool.rec (.err 145) (thenR (o_ld1 (.c (.ptr i (Nat.add o 1))) .nil h) (fun a _ => natOf a (fun a => thenR (o_ld1 (.c (.ptr i o)) .nil h) (fun s _ => lenEl s (fun n => Bool.rec (.err 146) (p_get3 i o m a s h) (Nat.ble (Nat.add a m) n)) (.err 147))) (.err 148))) (ieq n (.ofNat 0))) (.err 145))
def p_get (p m : AV) (h : Hp) : RV := AV.onPtr p (fun i o => natOf m (fun m => Bool.rec (.err 149) (p_get2 i o m h) (Nat.ble m 8)) (.err 149)) (.err 149)
def dset (d : Dst) : AV → A2 → A2 := Dst.rec (motive := fun _ => AV → A2 → A2) (fun _ r => r) rset d
def rputs (l : List AV) : Nat → A2 → A2 := lrec (fun _ r => r) (fun v _ ih i r => ih (Nat.succ i) (rset (dig (Nat.div i 16)) (dig (Nat.mod i 16)) v r)) l
def runP (k : A2 → Hp → RT) (l : List GI) : A2 → Hp → RT := lrec (β := A2 → Hp → RT) k (fun i _ ih r h => GI.rec (fun d i => AI.rec (fun op => RV.rec (fun v h => ih (dset d v r) h) (fun n => .err n) (op.run r h)) (fun s x => RT.elim (fun v h => ih (dset d v r) h) (fun n => .err n) (fun n f => .ch n f) (nextT s (ev x r) h)) (fun _ _ => .err 161) (fun _ _ => .err 161) (fun _ _ _ => .err 161) i) (fun _ _ _ _ _ => .err 161) i) l
def onBoolT (x : AV) (k : Bool → RT) (e : RT) : RT := OB.rec e k x.asBool
def onFnT (x : AV) (k : Nat → List AV → RT) (e : RT) : RT := OFn.rec e k x.asFn
def p_fin (l4 : List GI) (r : A2) (h : Hp) : RT := runP (fun r h => .ok (rget .h0 .h4 r) h) l4 r h
def p_round (k : A2 → Hp → RT) (kn k2 k3 ra rb : List GI) (r q : A2) (h : Hp) : RT := runP (fun q h => runP (fun q h => runP (fun r2 h => runP (fun _ h => runP k kn (rset .h0 .hd .undef (rset .h0 .hc .undef q)) h) rb r2 h) ra (rset .h0 .h7 (rget .h0 .hb q) r) h) k3 (rset .h0 .ha .undef q) h) k2 q h
def p_loop (kn k2 k3 ra rb l4 : List GI) (r : A2) : Nat → A2 → Hp → RT := nrec (β := A2 → Hp → RT) (fun _ _ => .err 155)
  (fun _ ih q h => onBoolT (rget .h0 .h7 q) (fun t => Bool.rec (p_fin l4 r h) (p_round ih kn k2 k3 ra rb r q h) t) (.err 156))
def p_iter (k0 kn k2 k3 ra rb l4 : List GI) (r : A2) (c : AV) (h : Hp) : RT := runP (fun q h => runP (p_loop kn k2 k3 ra rb l4 r 12) kn q h) k0 (rputs (.cons .undef (.cons c .nil)) 0 .nil) h
def p_seq (f : Nat) (k0 kn k2 k3 ra rb l4 : List GI) (r : A2) (h : Hp) : RT := onFnT (rget .h0 .h6 r) (fun g cs => Bool.rec (.err 153) (List.rec (.err 153) (fun c t _ => List.rec (p_iter k0 kn k2 k3 ra rb l4 r c h) (fun _ _ _ => .err 153) t) cs) (Nat.beq f g)) (.err 153)
def p_coll (f : Nat) (l0 l1 k0 kn k2 k3 ra rb l4 : List GI) (s x : AV) (h : Hp) : RT := runP (fun r h => runP (p_seq f k0 kn k2 k3 ra rb l4) l1 r h) l0 (rputs (.cons s (.cons x .nil)) 0 .nil) h
def args1 (l : List AV) (k : AV → RV) : RV := List.rec (.err 154) (fun a t _ => List.rec (k a) (fun _ _ _ => .err 154) t) l
def args2 (l : List AV) (k : AV → AV → RV) : RV := List.rec (.err 154) (fun a t _ => args1 t (fun b => k a b)) l
def args3 (l : List AV) (k : AV → AV → AV → RV) : RV := List.rec (.err 154) (fun a t _ => args2 t (fun b c => k a b c)) l
def args2T (l : List AV) (k : AV → AV → RT) : RT := List.rec (.err 154) (fun a t _ => List.rec (.err 154) (fun b t _ => List.rec (k a b) (fun _ _ _ => .err 154) t) t) l
def swFind (l : List SW) (i : P4) : RV → (Nat → RV) → RV := lrec (β := RV → (Nat → RV) → RV) (fun e _ => e) (fun y _ ih e k => SW.rec (fun j r => Bool.rec (ih e k) (k r) (peq i j)) y) l
def p_wit (l : List SW) (x lo hi : AV) (h : Hp) : RV := AV.rec (motive_2 := fun _ => PUnit) (.err 170) (fun _ => .err 170) (fun _ _ => .err 170) (fun _ => .err 170) (fun _ _ => .err 170) (fun _ _ _ => .err 170) (fun _ _ => .err 170) (.err 170) (fun _ _ _ _ => .err 170) (fun _ _ _ _ => .err 170) (.err 170) (fun _ => .err 170) (.err 170) (fun _ _ _ => .err 170) (.err 170) (fun _ _ _ => .err 170) (.err 170) (fun _ _ => .err 170) (fun _ _ => .err 170) (fun i => AV.onInt lo (fun kl lo => AV.onInt hi (fun kh hi => Bool.rec (.err 171) (Bool.rec (.err 171) (Bool.rec (.err 171) (Bool.rec (.err 171) (swFind l i (.err 172) (fun r => .ok (.int .i64 (.ofNat r)) h)) (ieq hi (.ofNat 4))) (ieq lo (.ofNat 0))) (isI64 kh)) (isI64 kl)) (.err 171)) (.err 171)) PUnit.unit (fun _ _ _ _ => PUnit.unit) x
def p_mknz (el : Nat) (x : AV) (h : Hp) : RV := AV.onInt x (fun k n => Bool.rec (.err 195) (Int.rec (fun n => Bool.rec (.err 196) (newRest el .plain 1 n (lrep n (.cons .undef .nil)) h) (Nat.ble n 65536)) (fun _ => .err 196) n) (isI64 k)) (.err 195)
def truncN (x : Nat) (h : Hp) : RV := match FloatKind.f64.decode x with
  | .nan _ _ => .err 180
  | d => .ok (.flt .f64 (FloatKind.f64.encode (d.integral .zero))) h
def isF64 (k : FloatKind) : Bool := FloatKind.rec false true k
def p_trunc (x : AV) (h : Hp) : RV := AV.onFlt x (fun k n => Bool.rec (.err 181) (truncN n h) (isF64 k)) (.err 181)
def plainFl (f : Fl) : Bool := Fl.rec true false false f
def p_ins2 (el es : Nat) (i : P4) (n q m : Nat) (new : List AV) (h : Hp) : RV := Obj.onCells (hget i h) (fun el' k ex fl c => Bool.rec (.err 247) (Bool.rec (.err 247) (Bool.rec (.err 247) (Bool.rec (.err 247) (moved i el (Nat.mul (Nat.add n m) es) fl (cof (List.append (List.take (Nat.mul q es) (cgets (Nat.mul n es) c 0)) (List.append new (List.drop (Nat.mul q es) (cgets (Nat.mul n es) c 0))))) (Nat.add n m) es h) (Nat.beq (Nat.mul n es) k)) (Nat.beq el el')) (Bool.not ex)) (wr fl)) (.err 248)
def p_ins1 (el es : Nat) (i : P4) (o n es' q : Nat) (j : P4) (o2 m : Nat) (h : Hp) : RV := Bool.rec (.err 241) (Bool.rec (.err 241) (Bool.rec (.err 242) (Bool.rec (.err 242) (Bool.rec (.err 243) (Obj.onCells (hget j h) (fun _ k2 _ fl2 c2 => Bool.rec (.err 244) (Bool.rec (.err 245) (p_ins2 el es i n q m (cgets (Nat.mul m es) c2 o2) h) (Nat.ble (Nat.add o2 (Nat.mul m es)) k2)) (plainFl fl2)) (.err 246)) (Bool.not (peq i j))) (Nat.ble 1 m)) (Nat.ble (Nat.succ q) n)) (Nat.beq o 0)) (Nat.beq es es')
def p_ins (el es : Nat) (s x y : AV) (h : Hp) : RV := AV.onSl s (fun _ _ _ _ => .err 240) (fun i o n es' => AV.onInt x (fun kd z => Bool.rec (.err 249) (Int.rec (fun q => AV.onSl y (fun j o2 m _ => p_ins1 el es i o n es' q j o2 m h) (fun _ _ _ _ => .err 240) (.err 240) (.err 240)) (fun _ => .err 249) z) (isI64 kd)) (.err 249)) (.err 240) (.err 240)
def primRun (k : PK) (args : List AV) (h : Hp) : RT := PK.rec (args1 args (fun x => p_crc x h)).toT (fun el => (args3 args (fun p n m => p_put el p n m h)).toT) (args2 args (fun p m => p_get p m h)).toT (fun l => (args3 args (fun x lo hi => p_wit l x lo hi h)).toT) (args1 args (fun x => .ok x h)).toT (fun el => (args1 args (fun x => p_mknz el x h)).toT) (args1 args (fun x => p_trunc x h)).toT (fun f l0 l1 k0 kn k2 k3 ra rb l4 => args2T args (fun s x => p_coll f l0 l1 k0 kn k2 k3 ra rb l4 s x h)) (fun el es => (args3 args (fun s x y => p_ins el es s x y h)).toT) k
inductive AF where
  | none
  | mk (body : AC) (res : List Rs)
  | prim (k : PK) (body : AC) (res : List Rs)
  | mkj (body : AC) (res : List Rs)
  | ext (k : PK)
inductive F1 where
  | nil
  | mk (a0 a1 a2 a3 a4 a5 a6 a7 a8 a9 aa ab ac ad ae af : AF)
def F1.g0 (x : F1) : AF := F1.rec .none (fun a0 a1 a2 a3 a4 a5 a6 a7 a8 a9 aa ab ac ad ae af => a0) x
def F1.g1 (x : F1) : AF := F1.rec .none (fun a0 a1 a2 a3 a4 a5 a6 a7 a8 a9 aa ab ac ad ae af => a1) x
def F1.g2 (x : F1) : AF := F1.rec .none (fun a0 a1 a2 a3 a4 a5 a6 a7 a8 a9 aa ab ac ad ae af => a2) x
def F1.g3 (x : F1) : AF := F1.rec .none (fun a0 a1 a2 a3 a4 a5 a6 a7 a8 a9 aa ab ac ad ae af => a3) x
def F1.g4 (x : F1) : AF := F1.rec .none (fun a0 a1 a2 a3 a4 a5 a6 a7 a8 a9 aa ab ac ad ae af => a4) x
def F1.g5 (x : F1) : AF := F1.rec .none (fun a0 a1 a2 a3 a4 a5 a6 a7 a8 a9 aa ab ac ad ae af => a5) x
def F1.g6 (x : F1) : AF := F1.rec .none (fun a0 a1 a2 a3 a4 a5 a6 a7 a8 a9 aa ab ac ad ae af => a6) x
def F1.g7 (x : F1) : AF := F1.rec .none (fun a0 a1 a2 a3 a4 a5 a6 a7 a8 a9 aa ab ac ad ae af => a7) x
def F1.g8 (x : F1) : AF := F1.rec .none (fun a0 a1 a2 a3 a4 a5 a6 a7 a8 a9 aa ab ac ad ae af => a8) x
def F1.g9 (x : F1) : AF := F1.rec .none (fun a0 a1 a2 a3 a4 a5 a6 a7 a8 a9 aa ab ac ad ae af => a9) x
def F1.ga (x : F1) : AF := F1.rec .none (fun a0 a1 a2 a3 a4 a5 a6 a7 a8 a9 aa ab ac ad ae af => aa) x
def F1.gb (x : F1) : AF := F1.rec .none (fun a0 a1 a2 a3 a4 a5 a6 a7 a8 a9 aa ab ac ad ae af => ab) x
def F1.gc (x : F1) : AF := F1.rec .none (fun a0 a1 a2 a3 a4 a5 a6 a7 a8 a9 aa ab ac ad ae af => ac) x
def F1.gd (x : F1) : AF := F1.rec .none (fun a0 a1 a2 a3 a4 a5 a6 a7 a8 a9 aa ab ac ad ae af => ad) x
def F1.ge (x : F1) : AF := F1.rec .none (fun a0 a1 a2 a3 a4 a5 a6 a7 a8 a9 aa ab ac ad ae af => ae) x
def F1.gf (x : F1) : AF := F1.rec .none (fun a0 a1 a2 a3 a4 a5 a6 a7 a8 a9 aa ab ac ad ae af => af) x
def F1.get (d : H) : F1 → AF := H.rec (motive := fun _ => F1 → AF) F1.g0 F1.g1 F1.g2 F1.g3 F1.g4 F1.g5 F1.g6 F1.g7 F1.g8 F1.g9 F1.ga F1.gb F1.gc F1.gd F1.ge F1.gf d
def F1.s0 (v : AF) (x : F1) : F1 := F1.rec (motive := fun _ => AF → F1) (fun v => .mk v .none .none .none .none .none .none .none .none .none .none .none .none .none .none .none) (fun a0 a1 a2 a3 a4 a5 a6 a7 a8 a9 aa ab ac ad ae af => fun v => .mk v a1 a2 a3 a4 a5 a6 a7 a8 a9 aa ab ac ad ae af) x v
def F1.s1 (v : AF) (x : F1) : F1 := F1.rec (motive := fun _ => AF → F1) (fun v => .mk .none v .none .none .none .none .none .none .none .none .none .none .none .none .none .none) (fun a0 a1 a2 a3 a4 a5 a6 a7 a8 a9 aa ab ac ad ae af => fun v => .mk a0 v a2 a3 a4 a5 a6 a7 a8 a9 aa ab ac ad ae af) x v
def F1.s2 (v : AF) (x : F1) : F1 := F1.rec (motive := fun _ => AF → F1) (fun v => .mk .none .none v .none .none .none .none .none .none .none .none .none .none .none .none .none) (fun a0 a1 a2 a3 a4 a5 a6 a7 a8 a9 aa ab ac ad ae af => fun v => .mk a0 a1 v a3 a4 a5 a6 a7 a8 a9 aa ab ac ad ae af) x v
def F1.s3 (v : AF) (x : F1) : F1 := F1.rec (motive := fun _ => AF → F1) (fun v => .mk .none .none .none v .none .none .none .none .none .none .none .none .none .none .none .none) (fun a0 a1 a2 a3 a4 a5 a6 a7 a8 a9 aa ab ac ad ae af => fun v => .mk a0 a1 a2 v a4 a5 a6 a7 a8 a9 aa ab ac ad ae af) x v
def F1.s4 (v : AF) (x : F1) : F1 := F1.rec (motive := fun _ => AF → F1) (fun v => .mk .none .none .none .none v .none .none .none .none .none .none .none .none .none .none .none) (fun a0 a1 a2 a3 a4 a5 a6 a7 a8 a9 aa ab ac ad ae af => fun v => .mk a0 a1 a2 a3 v a5 a6 a7 a8 a9 aa ab ac ad ae af) x v
def F1.s5 (v : AF) (x : F1) : F1 := F1.rec (motive := fun _ => AF → F1) (fun v => .mk .none .none .none .none .none v .none .none .none .none .none .none .none .none .none .none) (fun a0 a1 a2 a3 a4 a5 a6 a7 a8 a9 aa ab ac ad ae af => fun v => .mk a0 a1 a2 a3 a4 v a6 a7 a8 a9 aa ab ac ad ae af) x v
def F1.s6 (v : AF) (x : F1) : F1 := F1.rec (motive := fun _ => AF → F1) (fun v => .mk .none .none .none .none .none .none v .none .none .none .none .none .none .none .none .none) (fun a0 a1 a2 a3 a4 a5 a6 a7 a8 a9 aa ab ac ad ae af => fun v => .mk a0 a1 a2 a3 a4 a5 v a7 a8 a9 aa ab ac ad ae af) x v
def F1.s7 (v : AF) (x : F1) : F1 := F1.rec (motive := fun _ => AF → F1) (fun v => .mk .none .none .none .none .none .none .none v .none .none .none .none .none .none .none .none) (fun a0 a1 a2 a3 a4 a5 a6 a7 a8 a9 aa ab ac ad ae af => fun v => .mk a0 a1 a2 a3 a4 a5 a6 v a8 a9 aa ab ac ad ae af) x v
def F1.s8 (v : AF) (x : F1) : F1 := F1.rec (motive := fun _ => AF → F1) (fun v => .mk .none .none .none .none .none .none .none .none v .none .none .none .none .none .none .none) (fun a0 a1 a2 a3 a4 a5 a6 a7 a8 a9 aa ab ac ad ae af => fun v => .mk a0 a1 a2 a3 a4 a5 a6 a7 v a9 aa ab ac ad ae af) x v
def F1.s9 (v : AF) (x : F1) : F1 := F1.rec (motive := fun _ => AF → F1) (fun v => .mk .none .none .none .none .none .none .none .none .none v .none .none .none .none .none .none) (fun a0 a1 a2 a3 a4 a5 a6 a7 a8 a9 aa ab ac ad ae af => fun v => .mk a0 a1 a2 a3 a4 a5 a6 a7 a8 v aa ab ac ad ae af) x v
def F1.sa (v : AF) (x : F1) : F1 := F1.rec (motive := fun _ => AF → F1) (fun v => .mk .none .none .none .none .none .none .none .none .none .none v .none .none .none .none .none) (fun a0 a1 a2 a3 a4 a5 a6 a7 a8 a9 aa ab ac ad ae af => fun v => .mk a0 a1 a2 a3 a4 a5 a6 a7 a8 a9 v ab ac ad ae af) x v
def F1.sb (v : AF) (x : F1) : F1 := F1.rec (motive := fun _ => AF → F1) (fun v => .mk .none .none .none .none .none .none .none .none .none .none .none v .none .none .none .none) (fun a0 a1 a2 a3 a4 a5 a6 a7 a8 a9 aa ab ac ad ae af => fun v => .mk a0 a1 a2 a3 a4 a5 a6 a7 a8 a9 aa v ac ad ae af) x v
def F1.sc (v : AF) (x : F1) : F1 := F1.rec (motive := fun _ => AF → F1) (fun v => .mk .none .none .none .none .none .none .none .none .none .none .none .none v .none .none .none) (fun a0 a1 a2 a3 a4 a5 a6 a7 a8 a9 aa ab ac ad ae af => fun v => .mk a0 a1 a2 a3 a4 a5 a6 a7 a8 a9 aa ab v ad ae af) x v
def F1.sd (v : AF) (x : F1) : F1 := F1.rec (motive := fun _ => AF → F1) (fun v => .mk .none .none .none .none .none .none .none .none .none .none .none .none .none v .none .none) (fun a0 a1 a2 a3 a4 a5 a6 a7 a8 a9 aa ab ac ad ae af => fun v => .mk a0 a1 a2 a3 a4 a5 a6 a7 a8 a9 aa ab ac v ae af) x v
def F1.se (v : AF) (x : F1) : F1 := F1.rec (motive := fun _ => AF → F1) (fun v => .mk .none .none .none .none .none .none .none .none .none .none .none .none .none .none v .none) (fun a0 a1 a2 a3 a4 a5 a6 a7 a8 a9 aa ab ac ad ae af => fun v => .mk a0 a1 a2 a3 a4 a5 a6 a7 a8 a9 aa ab ac ad v af) x v
def F1.sf (v : AF) (x : F1) : F1 := F1.rec (motive := fun _ => AF → F1) (fun v => .mk .none .none .none .none .none .none .none .none .none .none .none .none .none .none .none v) (fun a0 a1 a2 a3 a4 a5 a6 a7 a8 a9 aa ab ac ad ae af => fun v => .mk a0 a1 a2 a3 a4 a5 a6 a7 a8 a9 aa ab ac ad ae v) x v
def F1.set (d : H) : AF → F1 → F1 := H.rec (motive := fun _ => AF → F1 → F1) F1.s0 F1.s1 F1.s2 F1.s3 F1.s4 F1.s5 F1.s6 F1.s7 F1.s8 F1.s9 F1.sa F1.sb F1.sc F1.sd F1.se F1.sf d

inductive F2 where
  | nil
  | mk (a0 a1 a2 a3 a4 a5 a6 a7 a8 a9 aa ab ac ad ae af : F1)
def F2.g0 (x : F2) : F1 := F2.rec .nil (fun a0 a1 a2 a3 a4 a5 a6 a7 a8 a9 aa ab ac ad ae af => a0) x
def F2.g1 (x : F2) : F1 := F2.rec .nil (fun a0 a1 a2 a3 a4 a5 a6 a7 a8 a9 aa ab ac ad ae af => a1) x
def F2.g2 (x : F2) : F1 := F2.rec .nil (fun a0 a1 a2 a3 a4 a5 a6 a7 a8 a9 aa ab ac ad ae af => a2) x
def F2.g3 (x : F2) : F1 := F2.rec .nil (fun a0 a1 a2 a3 a4 a5 a6 a7 a8 a9 aa ab ac ad ae af => a3) x
def F2.g4 (x : F2) : F1 := F2.rec .nil (fun a0 a1 a2 a3 a4 a5 a6 a7 a8 a9 aa ab ac ad ae af => a4) x
def F2.g5 (x : F2) : F1 := F2.rec .nil (fun a0 a1 a2 a3 a4 a5 a6 a7 a8 a9 aa ab ac ad ae af => a5) x
def F2.g6 (x : F2) : F1 := F2.rec .nil (fun a0 a1 a2 a3 a4 a5 a6 a7 a8 a9 aa ab ac ad ae af => a6) x
def F2.g7 (x : F2) : F1 := F2.rec .nil (fun a0 a1 a2 a3 a4 a5 a6 a7 a8 a9 aa ab ac ad ae af => a7) x
def F2.g8 (x : F2) : F1 := F2.rec .nil (fun a0 a1 a2 a3 a4 a5 a6 a7 a8 a9 aa ab ac ad ae af => a8) x
def F2.g9 (x : F2) : F1 := F2.rec .nil (fun a0 a1 a2 a3 a4 a5 a6 a7 a8 a9 aa ab ac ad ae af => a9) x
def F2.ga (x : F2) : F1 := F2.rec .nil (fun a0 a1 a2 a3 a4 a5 a6 a7 a8 a9 aa ab ac ad ae af => aa) x
def F2.gb (x : F2) : F1 := F2.rec .nil (fun a0 a1 a2 a3 a4 a5 a6 a7 a8 a9 aa ab ac ad ae af => ab) x
def F2.gc (x : F2) : F1 := F2.rec .nil (fun a0 a1 a2 a3 a4 a5 a6 a7 a8 a9 aa ab ac ad ae af => ac) x
def F2.gd (x : F2) : F1 := F2.rec .nil (fun a0 a1 a2 a3 a4 a5 a6 a7 a8 a9 aa ab ac ad ae af => ad) x
def F2.ge (x : F2) : F1 := F2.rec .nil (fun a0 a1 a2 a3 a4 a5 a6 a7 a8 a9 aa ab ac ad ae af => ae) x
def F2.gf (x : F2) : F1 := F2.rec .nil (fun a0 a1 a2 a3 a4 a5 a6 a7 a8 a9 aa ab ac ad ae af => af) x
def F2.get (d : H) : F2 → F1 := H.rec (motive := fun _ => F2 → F1) F2.g0 F2.g1 F2.g2 F2.g3 F2.g4 F2.g5 F2.g6 F2.g7 F2.g8 F2.g9 F2.ga F2.gb F2.gc F2.gd F2.ge F2.gf d
def F2.s0 (v : F1) (x : F2) : F2 := F2.rec (motive := fun _ => F1 → F2) (fun v => .mk v .nil .nil .nil .nil .nil .nil .nil .nil .nil .nil .nil .nil .nil .nil .nil) (fun a0 a1 a2 a3 a4 a5 a6 a7 a8 a9 aa ab ac ad ae af => fun v => .mk v a1 a2 a3 a4 a5 a6 a7 a8 a9 aa ab ac ad ae af) x v
def F2.s1 (v : F1) (x : F2) : F2 := F2.rec (motive := fun _ => F1 → F2) (fun v => .mk .nil v .nil .nil .nil .nil .nil .nil .nil .nil .nil .nil .nil .nil .nil .nil) (fun a0 a1 a2 a3 a4 a5 a6 a7 a8 a9 aa ab ac ad ae af => fun v => .mk a0 v a2 a3 a4 a5 a6 a7 a8 a9 aa ab ac ad ae af) x v
def F2.s2 (v : F1) (x : F2) : F2 := F2.rec (motive := fun _ => F1 → F2) (fun v => .mk .nil .nil v .nil .nil .nil .nil .nil .nil .nil .nil .nil .nil .nil .nil .nil) (fun a0 a1 a2 a3 a4 a5 a6 a7 a8 a9 aa ab ac ad ae af => fun v => .mk a0 a1 v a3 a4 a5 a6 a7 a8 a9 aa ab ac ad ae af) x v
def F2.s3 (v : F1) (x : F2) : F2 := F2.rec (motive := fun _ => F1 → F2) (fun v => .mk .nil .nil .nil v .nil .nil .nil .nil .nil .nil .nil .nil .nil .nil .nil .nil) (fun a0 a1 a2 a3 a4 a5 a6 a7 a8 a9 aa ab ac ad ae af => fun v => .mk a0 a1 a2 v a4 a5 a6 a7 a8 a9 aa ab ac ad ae af) x v
def F2.s4 (v : F1) (x : F2) : F2 := F2.rec (motive := fun _ => F1 → F2) (fun v => .mk .nil .nil .nil .nil v .nil .nil .nil .nil .nil .nil .nil .nil .nil .nil .nil) (fun a0 a1 a2 a3 a4 a5 a6 a7 a8 a9 aa ab ac ad ae af => fun v => .mk a0 a1 a2 a3 v a5 a6 a7 a8 a9 aa ab ac ad ae af) x v
def F2.s5 (v : F1) (x : F2) : F2 := F2.rec (motive := fun _ => F1 → F2) (fun v => .mk .nil .nil .nil .nil .nil v .nil .nil .nil .nil .nil .nil .nil .nil .nil .nil) (fun a0 a1 a2 a3 a4 a5 a6 a7 a8 a9 aa ab ac ad ae af => fun v => .mk a0 a1 a2 a3 a4 v a6 a7 a8 a9 aa ab ac ad ae af) x v
def F2.s6 (v : F1) (x : F2) : F2 := F2.rec (motive := fun _ => F1 → F2) (fun v => .mk .nil .nil .nil .nil .nil .nil v .nil .nil .nil .nil .nil .nil .nil .nil .nil) (fun a0 a1 a2 a3 a4 a5 a6 a7 a8 a9 aa ab ac ad ae af => fun v => .mk a0 a1 a2 a3 a4 a5 v a7 a8 a9 aa ab ac ad ae af) x v
def F2.s7 (v : F1) (x : F2) : F2 := F2.rec (motive := fun _ => F1 → F2) (fun v => .mk .nil .nil .nil .nil .nil .nil .nil v .nil .nil .nil .nil .nil .nil .nil .nil) (fun a0 a1 a2 a3 a4 a5 a6 a7 a8 a9 aa ab ac ad ae af => fun v => .mk a0 a1 a2 a3 a4 a5 a6 v a8 a9 aa ab ac ad ae af) x v
def F2.s8 (v : F1) (x : F2) : F2 := F2.rec (motive := fun _ => F1 → F2) (fun v => .mk .nil .nil .nil .nil .nil .nil .nil .nil v .nil .nil .nil .nil .nil .nil .nil) (fun a0 a1 a2 a3 a4 a5 a6 a7 a8 a9 aa ab ac ad ae af => fun v => .mk a0 a1 a2 a3 a4 a5 a6 a7 v a9 aa ab ac ad ae af) x v
def F2.s9 (v : F1) (x : F2) : F2 := F2.rec (motive := fun _ => F1 → F2) (fun v => .mk .nil .nil .nil .nil .nil .nil .nil .nil .nil v .nil .nil .nil .nil .nil .nil) (fun a0 a1 a2 a3 a4 a5 a6 a7 a8 a9 aa ab ac ad ae af => fun v => .mk a0 a1 a2 a3 a4 a5 a6 a7 a8 v aa ab ac ad ae af) x v
def F2.sa (v : F1) (x : F2) : F2 := F2.rec (motive := fun _ => F1 → F2) (fun v => .mk .nil .nil .nil .nil .nil .nil .nil .nil .nil .nil v .nil .nil .nil .nil .nil) (fun a0 a1 a2 a3 a4 a5 a6 a7 a8 a9 aa ab ac ad ae af => fun v => .mk a0 a1 a2 a3 a4 a5 a6 a7 a8 a9 v ab ac ad ae af) x v
def F2.sb (v : F1) (x : F2) : F2 := F2.rec (motive := fun _ => F1 → F2) (fun v => .mk .nil .nil .nil .nil .nil .nil .nil .nil .nil .nil .nil v .nil .nil .nil .nil) (fun a0 a1 a2 a3 a4 a5 a6 a7 a8 a9 aa ab ac ad ae af => fun v => .mk a0 a1 a2 a3 a4 a5 a6 a7 a8 a9 aa v ac ad ae af) x v
def F2.sc (v : F1) (x : F2) : F2 := F2.rec (motive := fun _ => F1 → F2) (fun v => .mk .nil .nil .nil .nil .nil .nil .nil .nil .nil .nil .nil .nil v .nil .nil .nil) (fun a0 a1 a2 a3 a4 a5 a6 a7 a8 a9 aa ab ac ad ae af => fun v => .mk a0 a1 a2 a3 a4 a5 a6 a7 a8 a9 aa ab v ad ae af) x v
def F2.sd (v : F1) (x : F2) : F2 := F2.rec (motive := fun _ => F1 → F2) (fun v => .mk .nil .nil .nil .nil .nil .nil .nil .nil .nil .nil .nil .nil .nil v .nil .nil) (fun a0 a1 a2 a3 a4 a5 a6 a7 a8 a9 aa ab ac ad ae af => fun v => .mk a0 a1 a2 a3 a4 a5 a6 a7 a8 a9 aa ab ac v ae af) x v
def F2.se (v : F1) (x : F2) : F2 := F2.rec (motive := fun _ => F1 → F2) (fun v => .mk .nil .nil .nil .nil .nil .nil .nil .nil .nil .nil .nil .nil .nil .nil v .nil) (fun a0 a1 a2 a3 a4 a5 a6 a7 a8 a9 aa ab ac ad ae af => fun v => .mk a0 a1 a2 a3 a4 a5 a6 a7 a8 a9 aa ab ac ad v af) x v
def F2.sf (v : F1) (x : F2) : F2 := F2.rec (motive := fun _ => F1 → F2) (fun v => .mk .nil .nil .nil .nil .nil .nil .nil .nil .nil .nil .nil .nil .nil .nil .nil v) (fun a0 a1 a2 a3 a4 a5 a6 a7 a8 a9 aa ab ac ad ae af => fun v => .mk a0 a1 a2 a3 a4 a5 a6 a7 a8 a9 aa ab ac ad ae v) x v
def F2.set (d : H) : F1 → F2 → F2 := H.rec (motive := fun _ => F1 → F2 → F2) F2.s0 F2.s1 F2.s2 F2.s3 F2.s4 F2.s5 F2.s6 F2.s7 F2.s8 F2.s9 F2.sa F2.sb F2.sc F2.sd F2.se F2.sf d

inductive F3 where
  | nil
  | mk (a0 a1 a2 a3 a4 a5 a6 a7 a8 a9 aa ab ac ad ae af : F2)
def F3.g0 (x : F3) : F2 := F3.rec .nil (fun a0 a1 a2 a3 a4 a5 a6 a7 a8 a9 aa ab ac ad ae af => a0) x
def F3.g1 (x : F3) : F2 := F3.rec .nil (fun a0 a1 a2 a3 a4 a5 a6 a7 a8 a9 aa ab ac ad ae af => a1) x
def F3.g2 (x : F3) : F2 := F3.rec .nil (fun a0 a1 a2 a3 a4 a5 a6 a7 a8 a9 aa ab ac ad ae af => a2) x
def F3.g3 (x : F3) : F2 := F3.rec .nil (fun a0 a1 a2 a3 a4 a5 a6 a7 a8 a9 aa ab ac ad ae af => a3) x
def F3.g4 (x : F3) : F2 := F3.rec .nil (fun a0 a1 a2 a3 a4 a5 a6 a7 a8 a9 aa ab ac ad ae af => a4) x
def F3.g5 (x : F3) : F2 := F3.rec .nil (fun a0 a1 a2 a3 a4 a5 a6 a7 a8 a9 aa ab ac ad ae af => a5) x
def F3.g6 (x : F3) : F2 := F3.rec .nil (fun a0 a1 a2 a3 a4 a5 a6 a7 a8 a9 aa ab ac ad ae af => a6) x
def F3.g7 (x : F3) : F2 := F3.rec .nil (fun a0 a1 a2 a3 a4 a5 a6 a7 a8 a9 aa ab ac ad ae af => a7) x
def F3.g8 (x : F3) : F2 := F3.rec .nil (fun a0 a1 a2 a3 a4 a5 a6 a7 a8 a9 aa ab ac ad ae af => a8) x
def F3.g9 (x : F3) : F2 := F3.rec .nil (fun a0 a1 a2 a3 a4 a5 a6 a7 a8 a9 aa ab ac ad ae af => a9) x
def F3.ga (x : F3) : F2 := F3.rec .nil (fun a0 a1 a2 a3 a4 a5 a6 a7 a8 a9 aa ab ac ad ae af => aa) x
def F3.gb (x : F3) : F2 := F3.rec .nil (fun a0 a1 a2 a3 a4 a5 a6 a7 a8 a9 aa ab ac ad ae af => ab) x
def F3.gc (x : F3) : F2 := F3.rec .nil (fun a0 a1 a2 a3 a4 a5 a6 a7 a8 a9 aa ab ac ad ae af => ac) x
def F3.gd (x : F3) : F2 := F3.rec .nil (fun a0 a1 a2 a3 a4 a5 a6 a7 a8 a9 aa ab ac ad ae af => ad) x
def F3.ge (x : F3) : F2 := F3.rec .nil (fun a0 a1 a2 a3 a4 a5 a6 a7 a8 a9 aa ab ac ad ae af => ae) x
def F3.gf (x : F3) : F2 := F3.rec .nil (fun a0 a1 a2 a3 a4 a5 a6 a7 a8 a9 aa ab ac ad ae af => af) x
def F3.get (d : H) : F3 → F2 := H.rec (motive := fun _ => F3 → F2) F3.g0 F3.g1 F3.g2 F3.g3 F3.g4 F3.g5 F3.g6 F3.g7 F3.g8 F3.g9 F3.ga F3.gb F3.gc F3.gd F3.ge F3.gf d
def F3.s0 (v : F2) (x : F3) : F3 := F3.rec (motive := fun _ => F2 → F3) (fun v => .mk v .nil .nil .nil .nil .nil .nil .nil .nil .nil .nil .nil .nil .nil .nil .nil) (fun a0 a1 a2 a3 a4 a5 a6 a7 a8 a9 aa ab ac ad ae af => fun v => .mk v a1 a2 a3 a4 a5 a6 a7 a8 a9 aa ab ac ad ae af) x v
def F3.s1 (v : F2) (x : F3) : F3 := F3.rec (motive := fun _ => F2 → F3) (fun v => .mk .nil v .nil .nil .nil .nil .nil .nil .nil .nil .nil .nil .nil .nil .nil .nil) (fun a0 a1 a2 a3 a4 a5 a6 a7 a8 a9 aa ab ac ad ae af => fun v => .mk a0 v a2 a3 a4 a5 a6 a7 a8 a9 aa ab ac ad ae af) x v
def F3.s2 (v : F2) (x : F3) : F3 := F3.rec (motive := fun _ => F2 → F3) (fun v => .mk .nil .nil v .nil .nil .nil .nil .nil .nil .nil .nil .nil .nil .nil .nil .nil) (fun a0 a1 a2 a3 a4 a5 a6 a7 a8 a9 aa ab ac ad ae af => fun v => .mk a0 a1 v a3 a4 a5 a6 a7 a8 a9 aa ab ac ad ae af) x v
def F3.s3 (v : F2) (x : F3) : F3 := F3.rec (motive := fun _ => F2 → F3) (fun v => .mk .nil .nil .nil v .nil .nil .nil .nil .nil .nil .nil .nil .nil .nil .nil .nil) (fun a0 a1 a2 a3 a4 a5 a6 a7 a8 a9 aa ab ac ad ae af => fun v => .mk a0 a1 a2 v a4 a5 a6 a7 a8 a9 aa ab ac ad ae af) x v
def F3.s4 (v : F2) (x : F3) : F3 := F3.rec (motive := fun _ => F2 → F3) (fun v => .mk .nil .nil .nil .nil v .nil .nil .nil .nil .nil .nil .nil .nil .nil .nil .nil) (fun a0 a1 a2 a3 a4 a5 a6 a7 a8 a9 aa ab ac ad ae af => fun v => .mk a0 a1 a2 a3 v a5 a6 a7 a8 a9 aa ab ac ad ae af) x v
def F3.s5 (v : F2) (x : F3) : F3 := F3.rec (motive := fun _ => F2 → F3) (fun v => .mk .nil .nil .nil .nil .nil v .nil .nil .nil .nil .nil .nil .nil .nil .nil .nil) (fun a0 a1 a2 a3 a4 a5 a6 a7 a8 a9 aa ab ac ad ae af => fun v => .mk a0 a1 a2 a3 a4 v a6 a7 a8 a9 aa ab ac ad ae af) x v
def F3.s6 (v : F2) (x : F3) : F3 := F3.rec (motive := fun _ => F2 → F3) (fun v => .mk .nil .nil .nil .nil .nil .nil v .nil .nil .nil .nil .nil .nil .nil .nil .nil) (fun a0 a1 a2 a3 a4 a5 a6 a7 a8 a9 aa ab ac ad ae af => fun v => .mk a0 a1 a2 a3 a4 a5 v a7 a8 a9 aa ab ac ad ae af) x v
def F3.s7 (v : F2) (x : F3) : F3 := F3.rec (motive := fun _ => F2 → F3) (fun v => .mk .nil .nil .nil .nil .nil .nil .nil v .nil .nil .nil .nil .nil .nil .nil .nil) (fun a0 a1 a2 a3 a4 a5 a6 a7 a8 a9 aa ab ac ad ae af => fun v => .mk a0 a1 a2 a3 a4 a5 a6 v a8 a9 aa ab ac ad ae af) x v
def F3.s8 (v : F2) (x : F3) : F3 := F3.rec (motive := fun _ => F2 → F3) (fun v => .mk .nil .nil .nil .nil .nil .nil .nil .nil v .nil .nil .nil .nil .nil .nil .nil) (fun a0 a1 a2 a3 a4 a5 a6 a7 a8 a9 aa ab ac ad ae af => fun v => .mk a0 a1 a2 a3 a4 a5 a6 a7 v a9 aa ab ac ad ae af) x v
def F3.s9 (v : F2) (x : F3) : F3 := F3.rec (motive := fun _ => F2 → F3) (fun v => .mk .nil .nil .nil .nil .nil .nil .nil .nil .nil v .nil .nil .nil .nil .nil .nil) (fun a0 a1 a2 a3 a4 a5 a6 a7 a8 a9 aa ab ac ad ae af => fun v => .mk a0 a1 a2 a3 a4 a5 a6 a7 a8 v aa ab ac ad ae af) x v
def F3.sa (v : F2) (x : F3) : F3 := F3.rec (motive := fun _ => F2 → F3) (fun v => .mk .nil .nil .nil .nil .nil .nil .nil .nil .nil .nil v .nil .nil .nil .nil .nil) (fun a0 a1 a2 a3 a4 a5 a6 a7 a8 a9 aa ab ac ad ae af => fun v => .mk a0 a1 a2 a3 a4 a5 a6 a7 a8 a9 v ab ac ad ae af) x v
def F3.sb (v : F2) (x : F3) : F3 := F3.rec (motive := fun _ => F2 → F3) (fun v => .mk .nil .nil .nil .nil .nil .nil .nil .nil .nil .nil .nil v .nil .nil .nil .nil) (fun a0 a1 a2 a3 a4 a5 a6 a7 a8 a9 aa ab ac ad ae af => fun v => .mk a0 a1 a2 a3 a4 a5 a6 a7 a8 a9 aa v ac ad ae af) x v
def F3.sc (v : F2) (x : F3) : F3 := F3.rec (motive := fun _ => F2 → F3) (fun v => .mk .nil .nil .nil .nil .nil .nil .nil .nil .nil .nil .nil .nil v .nil .nil .nil) (fun a0 a1 a2 a3 a4 a5 a6 a7 a8 a9 aa ab ac ad ae af => fun v => .mk a0 a1 a2 a3 a4 a5 a6 a7 a8 a9 aa ab v ad ae af) x v
def F3.sd (v : F2) (x : F3) : F3 := F3.rec (motive := fun _ => F2 → F3) (fun v => .mk .nil .nil .nil .nil .nil .nil .nil .nil .nil .nil .nil .nil .nil v .nil .nil) (fun a0 a1 a2 a3 a4 a5 a6 a7 a8 a9 aa ab ac ad ae af => fun v => .mk a0 a1 a2 a3 a4 a5 a6 a7 a8 a9 aa ab ac v ae af) x v
def F3.se (v : F2) (x : F3) : F3 := F3.rec (motive := fun _ => F2 → F3) (fun v => .mk .nil .nil .nil .nil .nil .nil .nil .nil .nil .nil .nil .nil .nil .nil v .nil) (fun a0 a1 a2 a3 a4 a5 a6 a7 a8 a9 aa ab ac ad ae af => fun v => .mk a0 a1 a2 a3 a4 a5 a6 a7 a8 a9 aa ab ac ad v af) x v
def F3.sf (v : F2) (x : F3) : F3 := F3.rec (motive := fun _ => F2 → F3) (fun v => .mk .nil .nil .nil .nil .nil .nil .nil .nil .nil .nil .nil .nil .nil .nil .nil v) (fun a0 a1 a2 a3 a4 a5 a6 a7 a8 a9 aa ab ac ad ae af => fun v => .mk a0 a1 a2 a3 a4 a5 a6 a7 a8 a9 aa ab ac ad ae v) x v
def F3.set (d : H) : F2 → F3 → F3 := H.rec (motive := fun _ => F2 → F3 → F3) F3.s0 F3.s1 F3.s2 F3.s3 F3.s4 F3.s5 F3.s6 F3.s7 F3.s8 F3.s9 F3.sa F3.sb F3.sc F3.sd F3.se F3.sf d

inductive MR where
  | mk (t name f : Nat)
inductive Pg where
  | mk (fs : F3) (ms : List MR)
def fgetT (f : Nat) (p : F3) : AF := F1.get (dig (Nat.mod f 16)) (F2.get (dig (Nat.mod (Nat.div f 16) 16)) (F3.get (dig (Nat.div f 256)) p))
def Pg.fs (p : Pg) : F3 := Pg.rec (fun a _ => a) p
def Pg.ms (p : Pg) : List MR := Pg.rec (fun _ a => a) p
def mfind (t name : Nat) (l : List MR) (k : Nat → RT) (e : RT) : RT := lrec e (fun y _ ih => MR.rec (fun t' n' f => Bool.rec ih (Bool.rec ih (k f) (Nat.beq name n')) (Nat.beq t t')) y) l

def same1M (x : AV) : AV → Bool := AV.rec (motive_1 := fun _ => AV → Bool) (motive_2 := fun _ => PUnit) (fun _ => false) (fun a y => AV.onBool y (fun b => beq1 a b) false) (fun k a y => AV.onInt y (fun k' b => Bool.rec false (ieq a b) (keqK k k')) false) (fun a y => AV.onStr y (fun b => nlist a b) false) (fun k a y => AV.onFlt y (fun k' b => Bool.and (keqF k k') (Nat.beq a b)) false) (fun k a b y => AV.onCplx y (fun k' c d => Bool.and (keqF k k') (Bool.and (Nat.beq a c) (Nat.beq b d))) false) (fun i o y => AV.onPtr y (fun j q => Bool.and (peq i j) (Nat.beq o q)) false) (fun y => AV.rec (motive_2 := fun _ => PUnit) false (fun _ => false) (fun _ _ => false) (fun _ => false) (fun _ _ => false) (fun _ _ _ => false) (fun _ _ => false) true (fun _ _ _ _ => false) (fun _ _ _ _ => false) false (fun _ => false) false (fun _ _ _ => false) false (fun _ _ _ => false) false (fun _ _ => false) (fun _ _ => false) (fun _ => false) PUnit.unit (fun _ _ _ _ => PUnit.unit) y) (fun i a b c y => AV.onSl y (fun j d e f => Bool.and (peq i j) (Bool.and (Nat.beq a d) (Bool.and (Nat.beq b e) (Nat.beq c f)))) (fun _ _ _ _ => false) false false) (fun i a b c y => AV.onSl y (fun _ _ _ _ => false) (fun j d e f => Bool.and (peq i j) (Bool.and (Nat.beq a d) (Bool.and (Nat.beq b e) (Nat.beq c f)))) false false) (fun y => AV.onSl y (fun _ _ _ _ => false) (fun _ _ _ _ => false) true false) (fun i y => AV.onMap y (fun j => peq i j) false false) (fun y => AV.onMap y (fun _ => false) true false) (fun _ _ _ _ => false) (fun y => AV.rec (motive_2 := fun _ => PUnit) false (fun _ => false) (fun _ _ => false) (fun _ => false) (fun _ _ => false) (fun _ _ _ => false) (fun _ _ => false) false (fun _ _ _ _ => false) (fun _ _ _ _ => false) false (fun _ => false) false (fun _ _ _ => false) true (fun _ _ _ => false) false (fun _ _ => false) (fun _ _ => false) (fun _ => false) PUnit.unit (fun _ _ _ _ => PUnit.unit) y) (fun _ _ _ _ => false) (fun y => AV.onIf y (fun _ _ => false) true false) (fun _ _ _ => false) (fun _ _ _ => false) (fun _ _ => false) PUnit.unit (fun _ _ _ _ => PUnit.unit) x
def same1 (x y : AV) : Bool := same1M x y
def sameL (a b : List AV) : Bool := lrec (β := List AV → Bool) (fun b => List.rec true (fun _ _ _ => false) b)
  (fun x _ ih b => List.rec false (fun y b _ => Bool.rec false (ih b) (same1 x y)) b) a b
def sameA (x y : AV) : Bool := OL.rec (same1 x y) (fun a => AV.onAgg y (fun b => sameL a b) false) x.asAgg
def same2 (x y : AV) : Bool := OFn.rec (OIf.rec (sameA x y) (sameA x y) (fun t a => AV.onIf y (fun u b => Bool.and (Nat.beq t u) (sameA a b)) false false) x.asIf) (fun f a => AV.onFn y (fun g b => Bool.and (Nat.beq f g) (sameL a b)) false) x.asFn
def sameT (a b : List AV) : Bool := lrec (β := List AV → Bool) (fun b => List.rec true (fun _ _ _ => false) b)
  (fun x _ ih b => List.rec false (fun y b _ => Bool.rec false (ih b) (same2 x y)) b) a b
def same (x y : AV) : Bool := OL.rec (same2 x y) (fun a => AV.onTup y (fun b => sameT a b) false) x.asTup
def isU (x : AV) : Bool := AV.rec (motive_2 := fun _ => PUnit) true (fun _ => false) (fun _ _ => false) (fun _ => false) (fun _ _ => false) (fun _ _ _ => false) (fun _ _ => false) false (fun _ _ _ _ => false) (fun _ _ _ _ => false) false (fun _ => false) false (fun _ _ _ => false) false (fun _ _ _ => false) false (fun _ _ => false) (fun _ _ => false) (fun _ => false) PUnit.unit (fun _ _ _ _ => PUnit.unit) x
def eqV (x y : AV) : Bool := Bool.rec (same x y) (isU y) (isU x)
def mgV (x y : AV) : AV := Bool.rec .undef x (same x y)
def A1.eq (x y : A1) : Bool := A1.rec (A1.rec true (fun _ _ _ _ _ _ _ _ _ _ _ _ _ _ _ _ => false) y) (fun a0 a1 a2 a3 a4 a5 a6 a7 a8 a9 aa ab ac ad ae af => A1.rec false (fun b0 b1 b2 b3 b4 b5 b6 b7 b8 b9 ba bb bc bd be bf => (Bool.rec false (Bool.rec false (Bool.rec false (Bool.rec false (Bool.rec false (Bool.rec false (Bool.rec false (Bool.rec false (Bool.rec false (Bool.rec false (Bool.rec false (Bool.rec false (Bool.rec false (Bool.rec false (Bool.rec false (eqV af bf) (eqV ae be)) (eqV ad bd)) (eqV ac bc)) (eqV ab bb)) (eqV aa ba)) (eqV a9 b9)) (eqV a8 b8)) (eqV a7 b7)) (eqV a6 b6)) (eqV a5 b5)) (eqV a4 b4)) (eqV a3 b3)) (eqV a2 b2)) (eqV a1 b1)) (eqV a0 b0))) y) x

def A2.eq (x y : A2) : Bool := A2.rec (A2.rec true (fun _ _ _ _ _ _ _ _ _ _ _ _ _ _ _ _ => false) y) (fun a0 a1 a2 a3 a4 a5 a6 a7 a8 a9 aa ab ac ad ae af => A2.rec false (fun b0 b1 b2 b3 b4 b5 b6 b7 b8 b9 ba bb bc bd be bf => (Bool.rec false (Bool.rec false (Bool.rec false (Bool.rec false (Bool.rec false (Bool.rec false (Bool.rec false (Bool.rec false (Bool.rec false (Bool.rec false (Bool.rec false (Bool.rec false (Bool.rec false (Bool.rec false (Bool.rec false (A1.eq af bf) (A1.eq ae be)) (A1.eq ad bd)) (A1.eq ac bc)) (A1.eq ab bb)) (A1.eq aa ba)) (A1.eq a9 b9)) (A1.eq a8 b8)) (A1.eq a7 b7)) (A1.eq a6 b6)) (A1.eq a5 b5)) (A1.eq a4 b4)) (A1.eq a3 b3)) (A1.eq a2 b2)) (A1.eq a1 b1)) (A1.eq a0 b0))) y) x

def A3.eq (x y : A3) : Bool := A3.rec (A3.rec true (fun _ _ _ _ _ _ _ _ _ _ _ _ _ _ _ _ => false) y) (fun a0 a1 a2 a3 a4 a5 a6 a7 a8 a9 aa ab ac ad ae af => A3.rec false (fun b0 b1 b2 b3 b4 b5 b6 b7 b8 b9 ba bb bc bd be bf => (Bool.rec false (Bool.rec false (Bool.rec false (Bool.rec false (Bool.rec false (Bool.rec false (Bool.rec false (Bool.rec false (Bool.rec false (Bool.rec false (Bool.rec false (Bool.rec false (Bool.rec false (Bool.rec false (Bool.rec false (A2.eq af bf) (A2.eq ae be)) (A2.eq ad bd)) (A2.eq ac bc)) (A2.eq ab bb)) (A2.eq aa ba)) (A2.eq a9 b9)) (A2.eq a8 b8)) (A2.eq a7 b7)) (A2.eq a6 b6)) (A2.eq a5 b5)) (A2.eq a4 b4)) (A2.eq a3 b3)) (A2.eq a2 b2)) (A2.eq a1 b1)) (A2.eq a0 b0))) y) x

def A4.eq (x y : A4) : Bool := A4.rec (A4.rec true (fun _ _ _ _ _ _ _ _ _ _ _ _ _ _ _ _ => false) y) (fun a0 a1 a2 a3 a4 a5 a6 a7 a8 a9 aa ab ac ad ae af => A4.rec false (fun b0 b1 b2 b3 b4 b5 b6 b7 b8 b9 ba bb bc bd be bf => (Bool.rec false (Bool.rec false (Bool.rec false (Bool.rec false (Bool.rec false (Bool.rec false (Bool.rec false (Bool.rec false (Bool.rec false (Bool.rec false (Bool.rec false (Bool.rec false (Bool.rec false (Bool.rec false (Bool.rec false (A3.eq af bf) (A3.eq ae be)) (A3.eq ad bd)) (A3.eq ac bc)) (A3.eq ab bb)) (A3.eq aa ba)) (A3.eq a9 b9)) (A3.eq a8 b8)) (A3.eq a7 b7)) (A3.eq a6 b6)) (A3.eq a5 b5)) (A3.eq a4 b4)) (A3.eq a3 b3)) (A3.eq a2 b2)) (A3.eq a1 b1)) (A3.eq a0 b0))) y) x

def A1.mg (x y : A1) : A1 := A1.rec (A1.rec .nil (fun b0 b1 b2 b3 b4 b5 b6 b7 b8 b9 ba bb bc bd be bf => .mk (mgV AV.undef b0) (mgV AV.undef b1) (mgV AV.undef b2) (mgV AV.undef b3) (mgV AV.undef b4) (mgV AV.undef b5) (mgV AV.undef b6) (mgV AV.undef b7) (mgV AV.undef b8) (mgV AV.undef b9) (mgV AV.undef ba) (mgV AV.undef bb) (mgV AV.undef bc) (mgV AV.undef bd) (mgV AV.undef be) (mgV AV.undef bf)) y) (fun a0 a1 a2 a3 a4 a5 a6 a7 a8 a9 aa ab ac ad ae af => A1.rec (.mk (mgV a0 AV.undef) (mgV a1 AV.undef) (mgV a2 AV.undef) (mgV a3 AV.undef) (mgV a4 AV.undef) (mgV a5 AV.undef) (mgV a6 AV.undef) (mgV a7 AV.undef) (mgV a8 AV.undef) (mgV a9 AV.undef) (mgV aa AV.undef) (mgV ab AV.undef) (mgV ac AV.undef) (mgV ad AV.undef) (mgV ae AV.undef) (mgV af AV.undef)) (fun b0 b1 b2 b3 b4 b5 b6 b7 b8 b9 ba bb bc bd be bf => .mk (mgV a0 b0) (mgV a1 b1) (mgV a2 b2) (mgV a3 b3) (mgV a4 b4) (mgV a5 b5) (mgV a6 b6) (mgV a7 b7) (mgV a8 b8) (mgV a9 b9) (mgV aa ba) (mgV ab bb) (mgV ac bc) (mgV ad bd) (mgV ae be) (mgV af bf)) y) x

def A2.mg (x y : A2) : A2 := A2.rec (A2.rec .nil (fun b0 b1 b2 b3 b4 b5 b6 b7 b8 b9 ba bb bc bd be bf => .mk (A1.mg A1.nil b0) (A1.mg A1.nil b1) (A1.mg A1.nil b2) (A1.mg A1.nil b3) (A1.mg A1.nil b4) (A1.mg A1.nil b5) (A1.mg A1.nil b6) (A1.mg A1.nil b7) (A1.mg A1.nil b8) (A1.mg A1.nil b9) (A1.mg A1.nil ba) (A1.mg A1.nil bb) (A1.mg A1.nil bc) (A1.mg A1.nil bd) (A1.mg A1.nil be) (A1.mg A1.nil bf)) y) (fun a0 a1 a2 a3 a4 a5 a6 a7 a8 a9 aa ab ac ad ae af => A2.rec (.mk (A1.mg a0 A1.nil) (A1.mg a1 A1.nil) (A1.mg a2 A1.nil) (A1.mg a3 A1.nil) (A1.mg a4 A1.nil) (A1.mg a5 A1.nil) (A1.mg a6 A1.nil) (A1.mg a7 A1.nil) (A1.mg a8 A1.nil) (A1.mg a9 A1.nil) (A1.mg aa A1.nil) (A1.mg ab A1.nil) (A1.mg ac A1.nil) (A1.mg ad A1.nil) (A1.mg ae A1.nil) (A1.mg af A1.nil)) (fun b0 b1 b2 b3 b4 b5 b6 b7 b8 b9 ba bb bc bd be bf => .mk (A1.mg a0 b0) (A1.mg a1 b1) (A1.mg a2 b2) (A1.mg a3 b3) (A1.mg a4 b4) (A1.mg a5 b5) (A1.mg a6 b6) (A1.mg a7 b7) (A1.mg a8 b8) (A1.mg a9 b9) (A1.mg aa ba) (A1.mg ab bb) (A1.mg ac bc) (A1.mg ad bd) (A1.mg ae be) (A1.mg af bf)) y) x

def Cl.eq (x y : Cl) : Bool := Cl.rec (fun a => Cl.rec (fun b => A1.eq a b) (fun _ => false) (fun _ => false) (fun _ => false) y) (fun a => Cl.rec (fun _ => false) (fun b => A2.eq a b) (fun _ => false) (fun _ => false) y) (fun a => Cl.rec (fun _ => false) (fun _ => false) (fun b => A3.eq a b) (fun _ => false) y) (fun a => Cl.rec (fun _ => false) (fun _ => false) (fun _ => false) (fun b => A4.eq a b) y) x
def Fl.eq (x y : Fl) : Bool := Fl.rec (Fl.rec true false false y) (Fl.rec false true false y) (Fl.rec false false true y) x
def eqKV (x y : KV) : Bool := KV.rec (fun k v b => KV.rec (fun k' v' b' => Bool.rec false (Bool.rec false (eqV v v') (same k k')) (Nat.beq b b')) y) x
def eqKVs (a b : List KV) : Bool := lrec (β := List KV → Bool) (fun b => isEmp b) (fun x _ ih b => List.rec false (fun y b _ => Bool.rec false (ih b) (eqKV x y)) b) a b
def eqObj (x y : Obj) : Bool := Obj.rec (isNone y) false (fun el n ex fl c => Obj.onCells y (fun el' n' ex' fl' c' => Bool.rec false (Bool.rec false (Bool.rec false (Bool.rec false (Cl.eq c c') (Fl.eq fl fl')) (beq1 ex ex')) (Nat.beq n n')) (Nat.beq el el')) false) (fun l ck => Obj.onMap y (fun l' ck' => Bool.rec false (eqKVs l l') (Nat.beq ck ck')) false) (fun _ _ => false) (fun _ _ _ _ => false) false x
def mgObj (x y : Obj) : Obj := Bool.rec .dead x (eqObj x y)
def O1.mg (x y : O1) : O1 := O1.rec (O1.rec .nil (fun b0 b1 b2 b3 b4 b5 b6 b7 b8 b9 ba bb bc bd be bf => .mk (mgObj Obj.none b0) (mgObj Obj.none b1) (mgObj Obj.none b2) (mgObj Obj.none b3) (mgObj Obj.none b4) (mgObj Obj.none b5) (mgObj Obj.none b6) (mgObj Obj.none b7) (mgObj Obj.none b8) (mgObj Obj.none b9) (mgObj Obj.none ba) (mgObj Obj.none bb) (mgObj Obj.none bc) (mgObj Obj.none bd) (mgObj Obj.none be) (mgObj Obj.none bf)) y) (fun a0 a1 a2 a3 a4 a5 a6 a7 a8 a9 aa ab ac ad ae af => O1.rec (.mk (mgObj a0 Obj.none) (mgObj a1 Obj.none) (mgObj a2 Obj.none) (mgObj a3 Obj.none) (mgObj a4 Obj.none) (mgObj a5 Obj.none) (mgObj a6 Obj.none) (mgObj a7 Obj.none) (mgObj a8 Obj.none) (mgObj a9 Obj.none) (mgObj aa Obj.none) (mgObj ab Obj.none) (mgObj ac Obj.none) (mgObj ad Obj.none) (mgObj ae Obj.none) (mgObj af Obj.none)) (fun b0 b1 b2 b3 b4 b5 b6 b7 b8 b9 ba bb bc bd be bf => .mk (mgObj a0 b0) (mgObj a1 b1) (mgObj a2 b2) (mgObj a3 b3) (mgObj a4 b4) (mgObj a5 b5) (mgObj a6 b6) (mgObj a7 b7) (mgObj a8 b8) (mgObj a9 b9) (mgObj aa ba) (mgObj ab bb) (mgObj ac bc) (mgObj ad bd) (mgObj ae be) (mgObj af bf)) y) x

def O2.mg (x y : O2) : O2 := O2.rec (O2.rec .nil (fun b0 b1 b2 b3 b4 b5 b6 b7 b8 b9 ba bb bc bd be bf => .mk (O1.mg O1.nil b0) (O1.mg O1.nil b1) (O1.mg O1.nil b2) (O1.mg O1.nil b3) (O1.mg O1.nil b4) (O1.mg O1.nil b5) (O1.mg O1.nil b6) (O1.mg O1.nil b7) (O1.mg O1.nil b8) (O1.mg O1.nil b9) (O1.mg O1.nil ba) (O1.mg O1.nil bb) (O1.mg O1.nil bc) (O1.mg O1.nil bd) (O1.mg O1.nil be) (O1.mg O1.nil bf)) y) (fun a0 a1 a2 a3 a4 a5 a6 a7 a8 a9 aa ab ac ad ae af => O2.rec (.mk (O1.mg a0 O1.nil) (O1.mg a1 O1.nil) (O1.mg a2 O1.nil) (O1.mg a3 O1.nil) (O1.mg a4 O1.nil) (O1.mg a5 O1.nil) (O1.mg a6 O1.nil) (O1.mg a7 O1.nil) (O1.mg a8 O1.nil) (O1.mg a9 O1.nil) (O1.mg aa O1.nil) (O1.mg ab O1.nil) (O1.mg ac O1.nil) (O1.mg ad O1.nil) (O1.mg ae O1.nil) (O1.mg af O1.nil)) (fun b0 b1 b2 b3 b4 b5 b6 b7 b8 b9 ba bb bc bd be bf => .mk (O1.mg a0 b0) (O1.mg a1 b1) (O1.mg a2 b2) (O1.mg a3 b3) (O1.mg a4 b4) (O1.mg a5 b5) (O1.mg a6 b6) (O1.mg a7 b7) (O1.mg a8 b8) (O1.mg a9 b9) (O1.mg aa ba) (O1.mg ab bb) (O1.mg ac bc) (O1.mg ad bd) (O1.mg ae be) (O1.mg af bf)) y) x

def O3.mg (x y : O3) : O3 := O3.rec (O3.rec .nil (fun b0 b1 b2 b3 b4 b5 b6 b7 b8 b9 ba bb bc bd be bf => .mk (O2.mg O2.nil b0) (O2.mg O2.nil b1) (O2.mg O2.nil b2) (O2.mg O2.nil b3) (O2.mg O2.nil b4) (O2.mg O2.nil b5) (O2.mg O2.nil b6) (O2.mg O2.nil b7) (O2.mg O2.nil b8) (O2.mg O2.nil b9) (O2.mg O2.nil ba) (O2.mg O2.nil bb) (O2.mg O2.nil bc) (O2.mg O2.nil bd) (O2.mg O2.nil be) (O2.mg O2.nil bf)) y) (fun a0 a1 a2 a3 a4 a5 a6 a7 a8 a9 aa ab ac ad ae af => O3.rec (.mk (O2.mg a0 O2.nil) (O2.mg a1 O2.nil) (O2.mg a2 O2.nil) (O2.mg a3 O2.nil) (O2.mg a4 O2.nil) (O2.mg a5 O2.nil) (O2.mg a6 O2.nil) (O2.mg a7 O2.nil) (O2.mg a8 O2.nil) (O2.mg a9 O2.nil) (O2.mg aa O2.nil) (O2.mg ab O2.nil) (O2.mg ac O2.nil) (O2.mg ad O2.nil) (O2.mg ae O2.nil) (O2.mg af O2.nil)) (fun b0 b1 b2 b3 b4 b5 b6 b7 b8 b9 ba bb bc bd be bf => .mk (O2.mg a0 b0) (O2.mg a1 b1) (O2.mg a2 b2) (O2.mg a3 b3) (O2.mg a4 b4) (O2.mg a5 b5) (O2.mg a6 b6) (O2.mg a7 b7) (O2.mg a8 b8) (O2.mg a9 b9) (O2.mg aa ba) (O2.mg ab bb) (O2.mg ac bc) (O2.mg ad bd) (O2.mg ae be) (O2.mg af bf)) y) x

def O4.mg (x y : O4) : O4 := O4.rec (O4.rec .nil (fun b0 b1 b2 b3 b4 b5 b6 b7 b8 b9 ba bb bc bd be bf => .mk (O3.mg O3.nil b0) (O3.mg O3.nil b1) (O3.mg O3.nil b2) (O3.mg O3.nil b3) (O3.mg O3.nil b4) (O3.mg O3.nil b5) (O3.mg O3.nil b6) (O3.mg O3.nil b7) (O3.mg O3.nil b8) (O3.mg O3.nil b9) (O3.mg O3.nil ba) (O3.mg O3.nil bb) (O3.mg O3.nil bc) (O3.mg O3.nil bd) (O3.mg O3.nil be) (O3.mg O3.nil bf)) y) (fun a0 a1 a2 a3 a4 a5 a6 a7 a8 a9 aa ab ac ad ae af => O4.rec (.mk (O3.mg a0 O3.nil) (O3.mg a1 O3.nil) (O3.mg a2 O3.nil) (O3.mg a3 O3.nil) (O3.mg a4 O3.nil) (O3.mg a5 O3.nil) (O3.mg a6 O3.nil) (O3.mg a7 O3.nil) (O3.mg a8 O3.nil) (O3.mg a9 O3.nil) (O3.mg aa O3.nil) (O3.mg ab O3.nil) (O3.mg ac O3.nil) (O3.mg ad O3.nil) (O3.mg ae O3.nil) (O3.mg af O3.nil)) (fun b0 b1 b2 b3 b4 b5 b6 b7 b8 b9 ba bb bc bd be bf => .mk (O3.mg a0 b0) (O3.mg a1 b1) (O3.mg a2 b2) (O3.mg a3 b3) (O3.mg a4 b4) (O3.mg a5 b5) (O3.mg a6 b6) (O3.mg a7 b7) (O3.mg a8 b8) (O3.mg a9 b9) (O3.mg aa ba) (O3.mg ab bb) (O3.mg ac bc) (O3.mg ad bd) (O3.mg ae be) (O3.mg af bf)) y) x

def leV (x y : AV) : Bool := Bool.rec (same x y) true (isU x)
def isDead (x : Obj) : Bool := Obj.rec false true (fun _ _ _ _ _ => false) (fun _ _ => false) (fun _ _ => false) (fun _ _ _ _ => false) false x
def leObj (x y : Obj) : Bool := Bool.rec (eqObj x y) true (isDead x)
def A1.le (x y : A1) : Bool := A1.rec (A1.rec true (fun b0 b1 b2 b3 b4 b5 b6 b7 b8 b9 ba bb bc bd be bf => (Bool.rec false (Bool.rec false (Bool.rec false (Bool.rec false (Bool.rec false (Bool.rec false (Bool.rec false (Bool.rec false (Bool.rec false (Bool.rec false (Bool.rec false (Bool.rec false (Bool.rec false (Bool.rec false (Bool.rec false (leV AV.undef bf) (leV AV.undef be)) (leV AV.undef bd)) (leV AV.undef bc)) (leV AV.undef bb)) (leV AV.undef ba)) (leV AV.undef b9)) (leV AV.undef b8)) (leV AV.undef b7)) (leV AV.undef b6)) (leV AV.undef b5)) (leV AV.undef b4)) (leV AV.undef b3)) (leV AV.undef b2)) (leV AV.undef b1)) (leV AV.undef b0))) y) (fun a0 a1 a2 a3 a4 a5 a6 a7 a8 a9 aa ab ac ad ae af => A1.rec (Bool.rec false (Bool.rec false (Bool.rec false (Bool.rec false (Bool.rec false (Bool.rec false (Bool.rec false (Bool.rec false (Bool.rec false (Bool.rec false (Bool.rec false (Bool.rec false (Bool.rec false (Bool.rec false (Bool.rec false (leV af AV.undef) (leV ae AV.undef)) (leV ad AV.undef)) (leV ac AV.undef)) (leV ab AV.undef)) (leV aa AV.undef)) (leV a9 AV.undef)) (leV a8 AV.undef)) (leV a7 AV.undef)) (leV a6 AV.undef)) (leV a5 AV.undef)) (leV a4 AV.undef)) (leV a3 AV.undef)) (leV a2 AV.undef)) (leV a1 AV.undef)) (leV a0 AV.undef)) (fun b0 b1 b2 b3 b4 b5 b6 b7 b8 b9 ba bb bc bd be bf => (Bool.rec false (Bool.rec false (Bool.rec false (Bool.rec false (Bool.rec false (Bool.rec false (Bool.rec false (Bool.rec false (Bool.rec false (Bool.rec false (Bool.rec false (Bool.rec false (Bool.rec false (Bool.rec false (Bool.rec false (leV af bf) (leV ae be)) (leV ad bd)) (leV ac bc)) (leV ab bb)) (leV aa ba)) (leV a9 b9)) (leV a8 b8)) (leV a7 b7)) (leV a6 b6)) (leV a5 b5)) (leV a4 b4)) (leV a3 b3)) (leV a2 b2)) (leV a1 b1)) (leV a0 b0))) y) x

def A2.le (x y : A2) : Bool := A2.rec (A2.rec true (fun b0 b1 b2 b3 b4 b5 b6 b7 b8 b9 ba bb bc bd be bf => (Bool.rec false (Bool.rec false (Bool.rec false (Bool.rec false (Bool.rec false (Bool.rec false (Bool.rec false (Bool.rec false (Bool.rec false (Bool.rec false (Bool.rec false (Bool.rec false (Bool.rec false (Bool.rec false (Bool.rec false (A1.le A1.nil bf) (A1.le A1.nil be)) (A1.le A1.nil bd)) (A1.le A1.nil bc)) (A1.le A1.nil bb)) (A1.le A1.nil ba)) (A1.le A1.nil b9)) (A1.le A1.nil b8)) (A1.le A1.nil b7)) (A1.le A1.nil b6)) (A1.le A1.nil b5)) (A1.le A1.nil b4)) (A1.le A1.nil b3)) (A1.le A1.nil b2)) (A1.le A1.nil b1)) (A1.le A1.nil b0))) y) (fun a0 a1 a2 a3 a4 a5 a6 a7 a8 a9 aa ab ac ad ae af => A2.rec (Bool.rec false (Bool.rec false (Bool.rec false (Bool.rec false (Bool.rec false (Bool.rec false (Bool.rec false (Bool.rec false (Bool.rec false (Bool.rec false (Bool.rec false (Bool.rec false (Bool.rec false (Bool.rec false (Bool.rec false (A1.le af A1.nil) (A1.le ae A1.nil)) (A1.le ad A1.nil)) (A1.le ac A1.nil)) (A1.le ab A1.nil)) (A1.le aa A1.nil)) (A1.le a9 A1.nil)) (A1.le a8 A1.nil)) (A1.le a7 A1.nil)) (A1.le a6 A1.nil)) (A1.le a5 A1.nil)) (A1.le a4 A1.nil)) (A1.le a3 A1.nil)) (A1.le a2 A1.nil)) (A1.le a1 A1.nil)) (A1.le a0 A1.nil)) (fun b0 b1 b2 b3 b4 b5 b6 b7 b8 b9 ba bb bc bd be bf => (Bool.rec false (Bool.rec false (Bool.rec false (Bool.rec false (Bool.rec false (Bool.rec false (Bool.rec false (Bool.rec false (Bool.rec false (Bool.rec false (Bool.rec false (Bool.rec false (Bool.rec false (Bool.rec false (Bool.rec false (A1.le af bf) (A1.le ae be)) (A1.le ad bd)) (A1.le ac bc)) (A1.le ab bb)) (A1.le aa ba)) (A1.le a9 b9)) (A1.le a8 b8)) (A1.le a7 b7)) (A1.le a6 b6)) (A1.le a5 b5)) (A1.le a4 b4)) (A1.le a3 b3)) (A1.le a2 b2)) (A1.le a1 b1)) (A1.le a0 b0))) y) x

def O1.le (x y : O1) : Bool := O1.rec (O1.rec true (fun b0 b1 b2 b3 b4 b5 b6 b7 b8 b9 ba bb bc bd be bf => (Bool.rec false (Bool.rec false (Bool.rec false (Bool.rec false (Bool.rec false (Bool.rec false (Bool.rec false (Bool.rec false (Bool.rec false (Bool.rec false (Bool.rec false (Bool.rec false (Bool.rec false (Bool.rec false (Bool.rec false (leObj Obj.none bf) (leObj Obj.none be)) (leObj Obj.none bd)) (leObj Obj.none bc)) (leObj Obj.none bb)) (leObj Obj.none ba)) (leObj Obj.none b9)) (leObj Obj.none b8)) (leObj Obj.none b7)) (leObj Obj.none b6)) (leObj Obj.none b5)) (leObj Obj.none b4)) (leObj Obj.none b3)) (leObj Obj.none b2)) (leObj Obj.none b1)) (leObj Obj.none b0))) y) (fun a0 a1 a2 a3 a4 a5 a6 a7 a8 a9 aa ab ac ad ae af => O1.rec (Bool.rec false (Bool.rec false (Bool.rec false (Bool.rec false (Bool.rec false (Bool.rec false (Bool.rec false (Bool.rec false (Bool.rec false (Bool.rec false (Bool.rec false (Bool.rec false (Bool.rec false (Bool.rec false (Bool.rec false (leObj af Obj.none) (leObj ae Obj.none)) (leObj ad Obj.none)) (leObj ac Obj.none)) (leObj ab Obj.none)) (leObj aa Obj.none)) (leObj a9 Obj.none)) (leObj a8 Obj.none)) (leObj a7 Obj.none)) (leObj a6 Obj.none)) (leObj a5 Obj.none)) (leObj a4 Obj.none)) (leObj a3 Obj.none)) (leObj a2 Obj.none)) (leObj a1 Obj.none)) (leObj a0 Obj.none)) (fun b0 b1 b2 b3 b4 b5 b6 b7 b8 b9 ba bb bc bd be bf => (Bool.rec false (Bool.rec false (Bool.rec false (Bool.rec false (Bool.rec false (Bool.rec false (Bool.rec false (Bool.rec false (Bool.rec false (Bool.rec false (Bool.rec false (Bool.rec false (Bool.rec false (Bool.rec false (Bool.rec false (leObj af bf) (leObj ae be)) (leObj ad bd)) (leObj ac bc)) (leObj ab bb)) (leObj aa ba)) (leObj a9 b9)) (leObj a8 b8)) (leObj a7 b7)) (leObj a6 b6)) (leObj a5 b5)) (leObj a4 b4)) (leObj a3 b3)) (leObj a2 b2)) (leObj a1 b1)) (leObj a0 b0))) y) x

def O2.le (x y : O2) : Bool := O2.rec (O2.rec true (fun b0 b1 b2 b3 b4 b5 b6 b7 b8 b9 ba bb bc bd be bf => (Bool.rec false (Bool.rec false (Bool.rec false (Bool.rec false (Bool.rec false (Bool.rec false (Bool.rec false (Bool.rec false (Bool.rec false (Bool.rec false (Bool.rec false (Bool.rec false (Bool.rec false (Bool.rec false (Bool.rec false (O1.le O1.nil bf) (O1.le O1.nil be)) (O1.le O1.nil bd)) (O1.le O1.nil bc)) (O1.le O1.nil bb)) (O1.le O1.nil ba)) (O1.le O1.nil b9)) (O1.le O1.nil b8)) (O1.le O1.nil b7)) (O1.le O1.nil b6)) (O1.le O1.nil b5)) (O1.le O1.nil b4)) (O1.le O1.nil b3)) (O1.le O1.nil b2)) (O1.le O1.nil b1)) (O1.le O1.nil b0))) y) (fun a0 a1 a2 a3 a4 a5 a6 a7 a8 a9 aa ab ac ad ae af => O2.rec (Bool.rec false (Bool.rec false (Bool.rec false (Bool.rec false (Bool.rec false (Bool.rec false (Bool.rec false (Bool.rec false (Bool.rec false (Bool.rec false (Bool.rec false (Bool.rec false (Bool.rec false (Bool.rec false (Bool.rec false (O1.le af O1.nil) (O1.le ae O1.nil)) (O1.le ad O1.nil)) (O1.le ac O1.nil)) (O1.le ab O1.nil)) (O1.le aa O1.nil)) (O1.le a9 O1.nil)) (O1.le a8 O1.nil)) (O1.le a7 O1.nil)) (O1.le a6 O1.nil)) (O1.le a5 O1.nil)) (O1.le a4 O1.nil)) (O1.le a3 O1.nil)) (O1.le a2 O1.nil)) (O1.le a1 O1.nil)) (O1.le a0 O1.nil)) (fun b0 b1 b2 b3 b4 b5 b6 b7 b8 b9 ba bb bc bd be bf => (Bool.rec false (Bool.rec false (Bool.rec false (Bool.rec false (Bool.rec false (Bool.rec false (Bool.rec false (Bool.rec false (Bool.rec false (Bool.rec false (Bool.rec false (Bool.rec false (Bool.rec false (Bool.rec false (Bool.rec false (O1.le af bf) (O1.le ae be)) (O1.le ad bd)) (O1.le ac bc)) (O1.le ab bb)) (O1.le aa ba)) (O1.le a9 b9)) (O1.le a8 b8)) (O1.le a7 b7)) (O1.le a6 b6)) (O1.le a5 b5)) (O1.le a4 b4)) (O1.le a3 b3)) (O1.le a2 b2)) (O1.le a1 b1)) (O1.le a0 b0))) y) x

def O3.le (x y : O3) : Bool := O3.rec (O3.rec true (fun b0 b1 b2 b3 b4 b5 b6 b7 b8 b9 ba bb bc bd be bf => (Bool.rec false (Bool.rec false (Bool.rec false (Bool.rec false (Bool.rec false (Bool.rec false (Bool.rec false (Bool.rec false (Bool.rec false (Bool.rec false (Bool.rec false (Bool.rec false (Bool.rec false (Bool.rec false (Bool.rec false (O2.le O2.nil bf) (O2.le O2.nil be)) (O2.le O2.nil bd)) (O2.le O2.nil bc)) (O2.le O2.nil bb)) (O2.le O2.nil ba)) (O2.le O2.nil b9)) (O2.le O2.nil b8)) (O2.le O2.nil b7)) (O2.le O2.nil b6)) (O2.le O2.nil b5)) (O2.le O2.nil b4)) (O2.le O2.nil b3)) (O2.le O2.nil b2)) (O2.le O2.nil b1)) (O2.le O2.nil b0))) y) (fun a0 a1 a2 a3 a4 a5 a6 a7 a8 a9 aa ab ac ad ae af => O3.rec (Bool.rec false (Bool.rec false (Bool.rec false (Bool.rec false (Bool.rec false (Bool.rec false (Bool.rec false (Bool.rec false (Bool.rec false (Bool.rec false (Bool.rec false (Bool.rec false (Bool.rec false (Bool.rec false (Bool.rec false (O2.le af O2.nil) (O2.le ae O2.nil)) (O2.le ad O2.nil)) (O2.le ac O2.nil)) (O2.le ab O2.nil)) (O2.le aa O2.nil)) (O2.le a9 O2.nil)) (O2.le a8 O2.nil)) (O2.le a7 O2.nil)) (O2.le a6 O2.nil)) (O2.le a5 O2.nil)) (O2.le a4 O2.nil)) (O2.le a3 O2.nil)) (O2.le a2 O2.nil)) (O2.le a1 O2.nil)) (O2.le a0 O2.nil)) (fun b0 b1 b2 b3 b4 b5 b6 b7 b8 b9 ba bb bc bd be bf => (Bool.rec false (Bool.rec false (Bool.rec false (Bool.rec false (Bool.rec false (Bool.rec false (Bool.rec false (Bool.rec false (Bool.rec false (Bool.rec false (Bool.rec false (Bool.rec false (Bool.rec false (Bool.rec false (Bool.rec false (O2.le af bf) (O2.le ae be)) (O2.le ad bd)) (O2.le ac bc)) (O2.le ab bb)) (O2.le aa ba)) (O2.le a9 b9)) (O2.le a8 b8)) (O2.le a7 b7)) (O2.le a6 b6)) (O2.le a5 b5)) (O2.le a4 b4)) (O2.le a3 b3)) (O2.le a2 b2)) (O2.le a1 b1)) (O2.le a0 b0))) y) x

def O4.le (x y : O4) : Bool := O4.rec (O4.rec true (fun b0 b1 b2 b3 b4 b5 b6 b7 b8 b9 ba bb bc bd be bf => (Bool.rec false (Bool.rec false (Bool.rec false (Bool.rec false (Bool.rec false (Bool.rec false (Bool.rec false (Bool.rec false (Bool.rec false (Bool.rec false (Bool.rec false (Bool.rec false (Bool.rec false (Bool.rec false (Bool.rec false (O3.le O3.nil bf) (O3.le O3.nil be)) (O3.le O3.nil bd)) (O3.le O3.nil bc)) (O3.le O3.nil bb)) (O3.le O3.nil ba)) (O3.le O3.nil b9)) (O3.le O3.nil b8)) (O3.le O3.nil b7)) (O3.le O3.nil b6)) (O3.le O3.nil b5)) (O3.le O3.nil b4)) (O3.le O3.nil b3)) (O3.le O3.nil b2)) (O3.le O3.nil b1)) (O3.le O3.nil b0))) y) (fun a0 a1 a2 a3 a4 a5 a6 a7 a8 a9 aa ab ac ad ae af => O4.rec (Bool.rec false (Bool.rec false (Bool.rec false (Bool.rec false (Bool.rec false (Bool.rec false (Bool.rec false (Bool.rec false (Bool.rec false (Bool.rec false (Bool.rec false (Bool.rec false (Bool.rec false (Bool.rec false (Bool.rec false (O3.le af O3.nil) (O3.le ae O3.nil)) (O3.le ad O3.nil)) (O3.le ac O3.nil)) (O3.le ab O3.nil)) (O3.le aa O3.nil)) (O3.le a9 O3.nil)) (O3.le a8 O3.nil)) (O3.le a7 O3.nil)) (O3.le a6 O3.nil)) (O3.le a5 O3.nil)) (O3.le a4 O3.nil)) (O3.le a3 O3.nil)) (O3.le a2 O3.nil)) (O3.le a1 O3.nil)) (O3.le a0 O3.nil)) (fun b0 b1 b2 b3 b4 b5 b6 b7 b8 b9 ba bb bc bd be bf => (Bool.rec false (Bool.rec false (Bool.rec false (Bool.rec false (Bool.rec false (Bool.rec false (Bool.rec false (Bool.rec false (Bool.rec false (Bool.rec false (Bool.rec false (Bool.rec false (Bool.rec false (Bool.rec false (Bool.rec false (O3.le af bf) (O3.le ae be)) (O3.le ad bd)) (O3.le ac bc)) (O3.le ab bb)) (O3.le aa ba)) (O3.le a9 b9)) (O3.le a8 b8)) (O3.le a7 b7)) (O3.le a6 b6)) (O3.le a5 b5)) (O3.le a4 b4)) (O3.le a3 b3)) (O3.le a2 b2)) (O3.le a1 b1)) (O3.le a0 b0))) y) x

def leHp (x y : Hp) : Bool := Hp.rec (fun t _ => Hp.rec (fun u _ => O4.le t u) y) x
def leSt (r' : A2) (h' : Hp) (r : A2) (h : Hp) : Bool := Bool.rec false (leHp h' h) (A2.le r' r)
def mgHp (x y : Hp) (k : Hp → RS) : RS := Hp.rec (fun t n => Hp.rec (fun u m => Bool.rec (.err 301) (k (.mk (O4.mg t u) n)) (peq n m)) y) x
def mgRS (x y : RS) : RS := RS.rec (fun r h => RS.rec (fun r' h' => mgHp h h' (fun h => .nm (A2.mg r r') h)) (fun _ _ _ => .err 302) (fun _ _ _ => .err 302) (fun _ _ => .err 302) (fun n => .err n) (fun _ _ _ => .err 302) y) (fun _ _ _ => .err 303) (fun _ _ _ => .err 303) (fun _ _ => .err 303) (fun n => .err n) (fun _ _ _ => .err 303) x
def mgAll (n : Nat) (f : Nat → RS) : RS := Nat.rec (.err 304) (fun n _ => nrec (f 0) (fun m ih => mgRS ih (f (Nat.succ m))) n) n
def joinT (x : RS) : RS := RS.elim (fun r h => .nm r h) (fun i r h => .ex i r h) (fun l r h => .go l r h) (fun r h => .ret r h) (fun n => .err n) mgAll x
def retN (x : RS) : RS := RS.elim (fun r h => .nm r h) (fun i r h => .ex i r h) (fun l r h => .go l r h) (fun r h => .nm r h) (fun n => .err n) (fun n ih => .ch n ih) x
abbrev Run := AC → A2 → Hp → RS
def res1 (s : Rs) (r : A2) (h : Hp) : RV := Rs.rec (fun a b => .ok (rget a b r) h) (fun a b => o_ld1 (.t a b) r h) (fun n a b => o_ldn n (.t a b) r h) s
def resL (l : List Rs) (r : A2) (h : Hp) (k : List AV → RV) : RV := lrec (β := (List AV → RV) → RV) (fun k => k .nil)
  (fun s _ ih k => RV.rec (fun v _ => ih (fun vs => k (.cons v vs))) (fun n => .err n) (res1 s r h)) l k
def resultOf (h : Hp) (l : List AV) : RV := List.rec (.ok unitV h) (fun v t _ => List.rec (.ok v h) (fun x y _ => .ok (.tup (.cons v (.cons x y))) h) t) l
def retF (res : List Rs) (r : A2) (h : Hp) : RV := resL res r h (resultOf h)
def callR (res : List Rs) (s : RS) : RT := RS.elim (fun r h => (retF res r h).toT) (fun _ _ _ => .err 200) (fun _ _ _ => .err 201) (fun r h => (retF res r h).toT) (fun n => .err n) (fun n ih => .ch n ih) s
def callF (p : Pg) (run : Run) (f : Nat) (args : List AV) (h : Hp) : RT := AF.rec (.err (Nat.add 1000 f)) (fun body res => Bool.rec (.err 207) (callR res (run body (rputs args 0 .nil) h)) (Nat.ble args.length 256)) (fun k body res => RT.rec (fun v h => RT.ok v h) (fun _ => Bool.rec (.err 207) (callR res (run body (rputs args 0 .nil) h)) (Nat.ble args.length 256)) (fun n k _ => .ch n k) (primRun k args h)) (fun body res => Bool.rec (.err 207) (callR res (joinT (retN (run body (rputs args 0 .nil) h)))) (Nat.ble args.length 256)) (fun k => primRun k args h) (fgetT f p.fs)
def callD (p : Pg) (run : Run) (x : AV) (args : List AV) (h : Hp) : RT := AV.onFn x (fun f cs => callF p run f (List.append args cs) h) (.err 202)
def callI (p : Pg) (run : Run) (name : Nat) (x : AV) (args : List AV) (h : Hp) : RT := AV.onIf x
  (fun t v => mfind t name p.ms (fun f => callF p run f (.cons v args) h) (.err 206)) (.err 205) (.err 204)
def stepK (d : Dst) (k : A2 → Hp → RS) (r : A2) (v : RV) : RS := RV.rec (fun v h => k (dset d v r) h) (fun n => .err n) v
def stepT (d : Dst) (k : A2 → Hp → RS) (r : A2) (v : RT) : RS := RT.elim (fun v h => k (dset d v r) h) (fun n => .err n) (fun n ih => .ch n ih) v
def AI.exec (i : AI) (p : Pg) (run : Run) (d : Dst) (k : A2 → Hp → RS) (r : A2) (h : Hp) : RS := AI.rec (fun op => stepK d k r (op.run r h)) (fun s x => stepT d k r (nextT s (ev x r) h)) (fun f xs => stepT d k r (callF p run f (evs xs r) h)) (fun x xs => stepT d k r (callD p run (ev x r) (evs xs r) h)) (fun n x xs => stepT d k r (callI p run n (ev x r) (evs xs r) h)) i
def gb (w : Bool) (x : AV) : AV := OL.rec x (fun l => List.rec (.bool (Bool.not w)) (fun _ _ _ => .undef) l) x.asTup
def guardK (d : Dst) (k : A2 → Hp → RS) (r : A2) (h : Hp) (i : AI) (p : Pg) (run : Run) (w t : Bool) : RS :=
  Bool.rec (k (dset d unitV r) h) (i.exec p run d k r h) (beq1 t w)
def GI.exec (i : GI) (p : Pg) (run : Run) (k : A2 → Hp → RS) (r : A2) (h : Hp) : RS := GI.rec (fun d i => i.exec p run d k r h) (fun a b w d i => AV.onBool (gb w (rget a b r)) (guardK d k r h i p run w) (.err 210)) i
def runOps (p : Pg) (run : Run) (l : List GI) : A2 → Hp → RS := lrec (β := A2 → Hp → RS) (fun r h => .nm r h) (fun i _ ih => i.exec p run ih) l
def reread (op : AOp) (r : A2) (v : AV) (l : List Hp) : Nat → Bool := lrec (β := Nat → Bool) (fun n => Nat.rec true (fun _ _ => false) n)
  (fun h _ ih n => Nat.rec true (fun n _ => RV.rec (fun v' _ => Bool.rec false (ih n) (same v v')) (fun _ => false) (op.run r h)) n) l
abbrev DK := A2 → Hp → Hp → List Hp → RS
def drwE (d : Dst) (k : DK) (r : A2) (g : Hp) (hs : List Hp) (v : RT) : RS := RT.rec (fun v h' => k (dset d v r) h' h' (.cons g hs)) (fun n => .err n) (fun _ _ _ => .err 213) v
def drwR (d : Dst) (op : AOp) (n : Nat) (k : DK) (r : A2) (h g : Hp) (hs : List Hp) (v : RV) : RS := RV.rec (fun v _ => Bool.rec (.err 211) (k (dset d v r) h g hs) (reread op r v hs n)) (fun n => .err n) v
def drwN (d : Dst) (k : DK) (r : A2) (g : Hp) (hs : List Hp) (v : RV) : RS := RV.rec (fun v h' => k (dset d v r) h' g hs) (fun n => .err n) v
def drwI (b : Bk) (d : Dst) (i : AI) (p : Pg) (run : Run) (k : DK) (r : A2) (h g : Hp) (hs : List Hp) : RS := AI.rec (fun op => Bk.rec (drwE d k r g hs (op.run r h).toT) (fun n => drwR d op n k r h g hs (op.run r g)) (drwN d k r g hs (op.run r h)) b) (fun s x => drwE d k r g hs (nextT s (ev x r) h)) (fun f xs => drwE d k r g hs (callF p run f (evs xs r) h)) (fun x xs => drwE d k r g hs (callD p run (ev x r) (evs xs r) h)) (fun n x xs => drwE d k r g hs (callI p run n (ev x r) (evs xs r) h)) i
def drwS (b : Bk) (d : Dst) (k : DK) (r : A2) (h g : Hp) (hs : List Hp) : RS := Bk.rec (k (dset d unitV r) h h (.cons g hs)) (fun _ => k (dset d unitV r) h g hs) (.err 214) b
def drwG (b : Bk) (d : Dst) (i : AI) (k : DK) (r : A2) (h g : Hp) (hs : List Hp) (p : Pg) (run : Run) (w t : Bool) : RS :=
  Bool.rec (drwS b d k r h g hs) (drwI b d i p run k r h g hs) (beq1 t w)
def DI.exec (i : DI) (p : Pg) (run : Run) (k : DK) (r : A2) (h g : Hp) (hs : List Hp) : RS := DI.rec (fun b y => GI.rec (fun d i => drwI b d i p run k r h g hs) (fun x y w d i => AV.onBool (gb w (rget x y r)) (drwG b d i k r h g hs p run w) (.err 212)) y) i
def runDrw (p : Pg) (run : Run) (l : List DI) : DK := lrec (β := DK) (fun r h _ _ => .nm r h) (fun i _ ih => i.exec p run ih) l
def findL : AC → Nat → Option AC
  | .seq a b, l => match findL a l with
    | some c => some (.seq c b)
    | none => findL b l
  | .label l', l => if Nat.beq l' l then some .skip else none
  | .shal _ x, l => findL x l
  | _, _ => none
def RS.bind (x : RS) (kn : A2 → Hp → RS) (ke : Nat → A2 → Hp → RS) (kg : Nat → A2 → Hp → RS) : RS := RS.elim kn ke kg (fun r h => .ret r h) (fun n => .err n) (fun n ih => .ch n ih) x
def x_seq (a b : AC) (run : Run) (r : A2) (h : Hp) : RS := RS.bind (run a r h) (fun r h => run b r h) (fun i r h => .ex i r h) (fun l r h => .go l r h)
def x_cond (c : AO) (a b : AC) (run : Run) (r : A2) (h : Hp) : RS := AV.onBool (ev c r) (fun t => Bool.rec (run b r h) (run a r h) t) (.err 213)
def x_block (i : Nat) (a : AC) (run : Run) (r : A2) (h : Hp) : RS := RS.bind (run a r h) (fun r h => .nm r h) (fun j r h => Bool.rec (.ex j r h) (.nm r h) (Nat.beq j i)) (fun l r h => .go l r h)
def x_loop (a : AC) (run : Run) (r : A2) (h : Hp) : RS := RS.bind (run a r h) (fun r h => run (.loop a) r h) (fun i r h => .ex i r h) (fun l r h => .go l r h)
def x_sat (a c : AC) (run : Run) (r : A2) (h : Hp) : RS := RS.bind (run c r h) (fun r h => .nm r h) (fun i r h => .ex i r h)
  (fun l r h => Option.rec (.go l r h) (fun c => run (.sat a c) r h) (findL a l))
def x_join (a : AC) (run : Run) (r : A2) (h : Hp) : RS := joinT (run a r h)
def allN (n : Nat) (f : Nat → Bool) : Bool := nrec true (fun m ih => Bool.rec false ih (f m)) n
abbrev Ex := Pg → Run → A2 → Hp → RS
def pgD (q : Nat) (r : A2) (i : Nat) : A1 := Bool.rec (A2.get (dig i) r) (Bool.rec (A2.get (dig (Nat.succ i)) r) .nil (Nat.beq i 15)) (Nat.ble q i)
def dropP (q : Nat) (r : A2) : A2 := .mk (pgD q r 0) (pgD q r 1) (pgD q r 2) (pgD q r 3) (pgD q r 4) (pgD q r 5) (pgD q r 6) (pgD q r 7) (pgD q r 8) (pgD q r 9) (pgD q r 10) (pgD q r 11) (pgD q r 12) (pgD q r 13) (pgD q r 14) (pgD q r 15)
def pgI (q : Nat) (r : A2) (i : Nat) : A1 := Bool.rec (A2.get (dig (Nat.pred i)) r) (Bool.rec (A2.get (dig i) r) .nil (Nat.beq i q)) (Nat.ble i q)
def insP (q : Nat) (r : A2) : A2 := .mk (pgI q r 0) (pgI q r 1) (pgI q r 2) (pgI q r 3) (pgI q r 4) (pgI q r 5) (pgI q r 6) (pgI q r 7) (pgI q r 8) (pgI q r 9) (pgI q r 10) (pgI q r 11) (pgI q r 12) (pgI q r 13) (pgI q r 14) (pgI q r 15)
def altE (x y : RS) : Bool := RS.rec (fun r _ => RS.rec (fun r' _ => A2.le r r') (fun _ _ _ => false) (fun _ _ _ => false) (fun _ _ => false) (fun _ => false) (fun _ _ _ => false) y) (fun _ _ _ => false) (fun _ _ _ => false) (fun _ _ => false) (fun _ => false) (fun _ _ _ => false) x
def altJ (x y : RS) : RS := Bool.rec (.ch 2 (fun i => Nat.rec x (fun _ _ => y) i)) (joinT (.ch 2 (fun i => Nat.rec x (fun _ _ => y) i))) (altE x y)
def x_opsb (q : Nat) (l : List GI) (p : Pg) (run : Run) (r : A2) (h : Hp) : RS := RS.bind (runOps p run l (dropP q r) h) (fun r h => .nm (insP q r) h) (fun i r h => .ex i r h) (fun l r h => .go l r h)
def execS (c : AC) : Ex := AC.rec (motive := fun _ => Ex) (fun _ _ r h => .nm r h) (fun l p run r h => runOps p run l r h) (fun l p run r h => runDrw p run l r h h .nil) (fun a b _ _ => fun _ run r h => x_seq a b run r h) (fun c a b _ _ => fun _ run r h => x_cond c a b run r h) (fun i a _ => fun _ run r h => x_block i a run r h) (fun a _ => fun _ run r h => x_loop a run r h) (fun a _ => fun _ run r h => x_sat a a run r h) (fun a c _ _ => fun _ run r h => x_sat a c run r h) (fun i => fun _ _ r h => .ex i r h) (fun l => fun _ _ r h => .go l r h) (fun _ => fun _ _ r h => .nm r h) (fun _ _ r h => .ret r h) (fun a _ => fun _ run r h => x_join a run r h) (fun n => fun _ _ _ _ => .err n) (fun f x _ => fun p run r h => f (callF p run) (callI p run) (fun r h => run x r h) r h) (fun a b _ _ => fun _ run r h => altJ (run a r h) (run b r h)) (fun q l p run r h => x_opsb q l p run r h) c
def execI (p : Pg) : Nat → Run
  | 0 => fun _ _ _ => .err 300
  | n + 1 => fun c r h => execS c p (execI p n) r h
def exec (p : Pg) (n : Nat) : Run := Nat.rec (fun _ _ _ => .err 300) (fun _ ih c => execS c p ih) n
def hp0 : Hp := .mk .nil (.mk .h0 .h0 .h0 .h0)
def runMain (p : Pg) (n f : Nat) (h : Hp) : RT := callF p (exec p n) f .nil h
def covN (ps : List RS) (r : A2) (h : Hp) : Bool := lrec false (fun q _ ih => RS.rec (fun r' h' => Bool.rec ih true (leSt r' h' r h)) (fun _ _ _ => ih) (fun _ _ _ => ih) (fun _ _ => ih) (fun _ => ih) (fun _ _ _ => ih) q) ps
def covE (ps : List RS) (i : Nat) (r : A2) (h : Hp) : Bool := lrec false (fun q _ ih => RS.rec (fun _ _ => ih) (fun j r' h' => Bool.rec ih (Bool.rec ih true (leSt r' h' r h)) (Nat.beq j i)) (fun _ _ _ => ih) (fun _ _ => ih) (fun _ => ih) (fun _ _ _ => ih) q) ps
def covR (ps : List RS) (r : A2) (h : Hp) : Bool := lrec false (fun q _ ih => RS.rec (fun _ _ => ih) (fun _ _ _ => ih) (fun _ _ _ => ih) (fun r' h' => Bool.rec ih true (leSt r' h' r h)) (fun _ => ih) (fun _ _ _ => ih) q) ps
def cov (ps : List RS) (x : RS) : Bool := RS.elim (fun r h => covN ps r h) (fun i r h => covE ps i r h) (fun _ _ _ => false) (fun r h => covR ps r h) (fun _ => false) allN x
def rounds (k : Nat) (f : A2 → Hp → RS) : A2 → Hp → RS := nrec (β := A2 → Hp → RS) (fun r h => .nm r h) (fun _ ih r h => RS.bind (f r h) ih (fun i r h => .ex i r h) (fun l r h => .go l r h)) k
def isTrueT (v : RT) : Bool := RT.elim (fun v _ => AV.onBool v (fun b => b) false) (fun _ => false) allN v
end
end Go.Am
