/- What code of the abstract machine a Go function is, and what loop-free code means. Nothing is asked. -/
import Derived.Test.YtdknlglpmcchlaaGreatDoorA
import GoSem.Step
import Derived.Orders
import Derived.KernelRfl
set_option linter.all false
namespace Go.Am
noncomputable section
def AO.aH : AO → List Nat
 | .t a b => [16 * a.nat + b.nat]
 | .c _ => []
def OA.aH : OA → List Nat
 | .none => []
 | .some x => x.aH
def Part.aH : Part → List Nat
 | .mk _ _ x => x.aH
def sL (l : List AO) : List Nat := l.flatMap AO.aH
def oG.aH : oG → List Nat
 | .mv x => x.aH
 | .pick c a b => c.aH ++ (a.aH ++ b.aH)
 | .alloc .. => []
 | .box _ x => x.aH
 | .build _ ps => ps.flatMap Part.aH
 | .cI _ _ _ _ ps => ps.flatMap Part.aH
 | .gT x => x.aH
 | .pY _ x => x.aH
 | .QS x y => x.aH ++ y.aH
 | .KA _ x y => x.aH ++ y.aH
 | .qa x => x.aH
 | .bin _ x y => x.aH ++ y.aH
 | .un _ x => x.aH
 | .conv _ x => x.aH
 | .Rj _ x => x.aH
 | .SN _ xs => sL xs
 | .oP => []
 | .oQ _ _ l c => l.aH ++ c.aH
 | .Rk _ x lo hi mx => x.aH ++ (lo.aH ++ (hi.aH ++ mx.aH))
 | .KW x lo hi => x.aH ++ (lo.aH ++ hi.aH)
 | .KX _ _ x lo hi mx => x.aH ++ (lo.aH ++ (hi.aH ++ mx.aH))
 | .gS _ x => x.aH
 | .KY _ x => x.aH
 | .KZ _ _ x => x.aH
 | .FO _ x y => x.aH ++ y.aH
 | .OH _ _ x y => x.aH ++ y.aH
 | .idxs x y => x.aH ++ y.aH
 | .La _ _ _ x y => x.aH ++ y.aH
 | .ext _ x => x.aH
 | .FP _ _ _ x y => x.aH ++ y.aH
 | .Ny _ x y z => x.aH ++ (y.aH ++ z.aH)
 | .del _ x y => x.aH ++ y.aH
 | .Gh x => x.aH
 | .len x => x.aH
 | .kr x => x.aH
 | .cap x => x.aH
 | .max _ xs => sL xs
 | .app _ _ x y => x.aH ++ y.aH
 | .apps _ x y => x.aH ++ y.aH
 | .Rl _ x y => x.aH ++ y.aH
 | .Rm _ x => x.aH
 | .Lc x => x.aH
 | .Gi x => x.aH
 | .Nz x => x.aH
 | .NA _ _ _ x => x.aH
 | .gU _ x y => x.aH ++ y.aH
 | .real _ x => x.aH
 | .Ld x => x.aH
 | .Gj _ x y => x.aH ++ y.aH
 | .yk _ _ x y => x.aH ++ y.aH
 | .yl x y z => x.aH ++ y.aH ++ z.aH
 | .Gk _ _ _ x y => x.aH ++ y.aH
 | .bad _ => []
def AI.aH : AI → List Nat
 | .op o => o.aH
 | .KB _ x => x.aH
 | .call _ xs => sL xs
 | .nz x xs => x.aH ++ sL xs
 | .inv _ x xs => x.aH ++ sL xs
def GI.aH : GI → List Nat
 | .o _ i => i.aH
 | .g a b _ _ i => (16 * a.nat + b.nat) :: i.aH
structure Gl where
 n : Nat
 sy : List (P4 × Nat)
 b : Option Nat
instance : OfNat Gl 0 := ⟨⟨0, [], none⟩⟩
def Gl.sl (G : Gl) (t : Nat) : Option Nat := match G.b with
 | none => if t < 256 then some t else none
 | some q => if t < 16 * q then (if t < 256 then some t else none) else if t < 16 * q + 16 then none else if t < 272 then some (t - 16) else none
def Gl.tm (G : Gl) (s : Nat) : Nat := match G.b with
 | none => s
 | some q => if s < 16 * q then s else s + 16
section
variable (P : Program) (G : Gl)
def hi (n : Nat) : H := dz (n / 16)
def lo (n : Nat) : H := dz (n % 16)
def P4.of (n : Nat) : P4 := .mk (dz (n / 4096)) (dz (n / 256 % 16)) (dz (n / 16 % 16)) (dz (n % 16))
def AX : Value → Option AV
 | .bool b => some (.bool b)
 | .int k n => some (.int k n)
 | .float k n => some (.pX k n)
 | .complex k a b => some (.gU k a b)
 | .string s => some (.str (s.data.toList.map (·.toNat)))
 | .pointer none => some .cL
 | .slice none 0 0 => some .ai
 | .map none => some .lA
 | .func (.func f) ⟨[]⟩ ⟨[]⟩ => some (.fn f [])
 | .nilFunc => some .Ej
 | .nilIface => some .ym
 | _ => none
def Cu (v : Value) : Option AV :=
 match v with
 | .agg cs => (cs.toList.mapM AX).map .agg
 | .iface t v => (AX v).map (.iface t)
 | v => AX v
def cO : Operand → Option AO
 | .tmp t => (G.sl t).map fun s => .t (hi s) (lo s)
 | .const v => (Cu v).map .c
 | .global g => if g < G.n then some (.c (.ptr (P4.of g) 0)) else none
 | .func f => some (.c (.fn f []))
def KC : Option Operand → Option OA
 | none => some .none
 | some x => (cO G x).map .some
def ku (t : TypeId) : TypeDesc := (P.underlying t).getD .invalid
def rR (t : TypeId) : Bool := match ku P t with | .struct _ | .array .. => true | _ => false
def bp (t : TypeId) : Nat := P.cellsOf t
def gx (t : TypeId) : Option (List AV) := ((P.info? t).bind (·.zero)).bind fun z => z.cells.toList.mapM AX
def kv (t : TypeId) : Option AV := ((P.info? t).bind (·.zero)).bind Cu
def uQ : NK → Operand → Bool
 | .s, .const (.slice none 0 0) => true
 | .m, .const (.map none) => true
 | .f, .const .nilFunc => true
 | .i, .const .nilIface => true
 | _, _ => false
def jt (e : TypeId) : Bool := match P.info? e with
 | some i => (match i.zero with | some z => z.cells.size == i.size | none => false) && Nat.ble i.bytes 1048576
 | none => false
def Cw (t : TypeId) : Option KK := match P.underlying t with
 | some .bool => some .b
 | some (.int _) => some .i
 | some .string => some .s
 | some (.pointer e) => match P.info? e with
  | some ie => if ie.size = 0 then none else some .p
  | none => none
 | _ => none
def nA : List Field → Nat → Option (List KK)
 | [], _ => some []
 | f :: fs, i => if f.name = "_" ∨ f.offset ≠ i then none else
  match Cw P f.type, nA fs (i + 1) with
  | some k, some ks => some (k :: ks)
  | _, _ => none
def sM (t : TypeId) : Option (List KK) := match P.underlying t with
 | some (.struct fs) => if P.stoodInHeld t then none else nA P fs.toList 0
 | _ => none
def nR (t : TypeId) : Option KT := match P.underlying t with
 | some .bool => some (.one .b)
 | some (.int _) => some (.one .i)
 | some .string => some (.one .s)
 | some (.struct _) => (sM P t).map .agg
 | _ => none
def Ek (t : TypeId) : Option KT := match P.underlying t with
 | some (.map k _) => nR P k
 | _ => none
def El (op : BinOp) (t : TypeId) (x y : Operand) : Option BK :=
 match ku P t, op with
 | .int _, .add => some .add | .int _, .sub => some .sub | .int _, .mul => some .mul | .int _, .quo => some .quo | .int _, .rem => some .rem
 | .int _, .and => some .and | .int _, .or => some .or | .int _, .xor => some .xor | .int _, .andNot => some .Ro | .int _, .shl => some .shl | .int _, .shr => some .shr
 | .int _, .eql => some .eq | .int _, .neq => some .ne | .int _, .lss => some .lt | .int _, .leq => some .le | .int _, .gtr => some .gt | .int _, .geq => some .ge
 | .string, .eql => some .seq | .string, .neq => some .SO | .string, .lss => some .slt | .string, .leq => some .sle | .string, .gtr => some .TS | .string, .geq => some .TU | .string, .add => some .cat
 | .bool, .eql => some .beq
 | .bool, .neq => some .bne
 | .pointer e, .eql => if bp P e = 0 then none else some .qc
 | .pointer e, .neq => if bp P e = 0 then none else some .Td
 | .slice _, .eql => if uQ .s y then some (.jD .s) else none
 | .slice _, .neq => if uQ .s y then some (.qY .s) else none
 | .map .., .eql => if uQ .m y then some (.jD .m) else none
 | .map .., .neq => if uQ .m y then some (.qY .m) else none
 | .func .., .eql => if uQ .f y then some (.jD .f) else none
 | .func .., .neq => if uQ .f y then some (.qY .f) else none
 | .interface _, .eql => if uQ .i y then some (.jD .i) else none
 | .interface _, .neq => if uQ .i y then some (.qY .i) else none
 | .struct _, .eql => if P.eqGuardType P.depth t then none else (sM P t).map .TV
 | .struct _, .neq => if P.eqGuardType P.depth t then none else (sM P t).map .OJ
 | .float _, op => some (.TW op)
 | .complex _, op => some (.TX op)
 | _, _ => none
def qd (n : Nat) (place : Nat → Option (Nat × Nat)) (ps : List (Nat × Operand)) : Option (List Part) :=
 ps.mapM fun (i, x) => do
  let (off, sz) ← place i
  if off + sz ≤ n then some (.mk off sz (← cO G x)) else none
def Gm (s d : TypeId) : Option CK :=
 match ku P s, ku P d with
 | .int _, .int k => some (.toInt k)
 | .string, .string => some .same
 | .pointer e, .unsafePointer => if bp P e = 0 then none else some .Te
 | .unsafePointer, .pointer u => if bp P u = 0 || !liesAt P P.depth u 1 0 u 1 then none else some (.Gn u (bp P u))
 | .string, .slice e => match ku P e with | .int .u8 => some (.Rp e) | _ => none
 | .slice e, .string => match ku P e with | .int .u8 => some .Le | _ => none
 | .int _, .float k => some (.Up k)
 | .float _, .int k => some (.Uq k)
 | _, _ => none
def jE (b : Builtin) (ts : List TypeId) (xs : List AO) : Option oG :=
 match b, ts, xs with
 | .len, t :: _, [x] => match ku P t with
  | .string => some (.kr x)
  | .slice _ => some (.len x)
  | .map .. => some (.Gh x)
  | .array n _ => some (.mv (.c (.int .i64 n)))
  | .pointer a => match ku P a with | .array n _ => some (.mv (.c (.int .i64 n))) | _ => none
  | _ => none
 | .cap, t :: _, [x] => match ku P t with
  | .slice _ => some (.cap x)
  | .array n _ => some (.mv (.c (.int .i64 n)))
  | _ => none
 | .append, [t, u], [x, y] => match ku P t, ku P u with
  | .slice e, .string => if bp P e = 1 && jt P e then some (.apps e x y) else none
  | .slice e, .slice _ => if bp P e = 0 || !jt P e then none else some (.app e (bp P e) x y)
  | .slice e, .int _ => if bp P e = 0 || !jt P e then none else (gx P e).bind fun z => if z.length ≠ bp P e then none else some (.Gk e (bp P e) z x y)
  | _, _ => none
 | .copy, t :: _, [x, y] => match ku P t with | .slice e => if bp P e = 0 then none else some (.Rl (bp P e) x y) | _ => none
 | .clear, t :: _, [x] => match ku P t with | .slice e => if bp P e = 0 then none else (gx P e).bind fun z => if z.length ≠ bp P e then none else some (.Rm z x) | _ => none
 | .delete, t :: _, [x, y] => do some (.del (← Ek P t) x y)
 | .max, _, xs => some (.max false xs)
 | .min, _, xs => some (.max true xs)
 | .unsafeSliceData, _, [x] => some (.Ld x)
 | .real, _, [x] => some (.real false x)
 | .imag, _, [x] => some (.real true x)
 | .unsafeString, t :: _, [x, y] => match ku P t with | .pointer e => if bp P e = 1 then some (.Gj e x y) else none | _ => none
 | .complex, t :: _, [x, y] => match ku P t with | .float k => some (.gU k x y) | _ => none
 | _, _, _ => none
def wT (names : List String) (s : String) : Option Nat := names.findIdx? (· == s)
def cE (names : List String) (o : Oper) : Option AI :=
 match o.op with
 | .move x | .assign x => do some (.op <| .mv (← cO G x))
 | .pick c a b => do some (.op <| .pick (← cO G c) (← cO G a) (← cO G b))
 | .alloc e => do let z ← gx P e; some (.op <| .alloc e z.length (nQ z))
 | .box e x => do some (.op <| .box e (← cO G x))
 | .build t ps => do
  let z ← gx P t
  match ku P t with
  | .struct fs => do if fs.all (fun f => (P.info? f.type).isSome) then some (.op <| .build z (← qd G z.length (fun i => (fs[i]?).map fun f => (f.offset, bp P f.type)) ps.toList)) else none
  | .array _ e => do if (P.info? e).isSome then some (.op <| .build z (← qd G z.length (fun i => some (i * bp P e, bp P e)) ps.toList)) else none
  | _ => none
 | .buildSlice t n ps => do
  let .slice e := ku P t | none
  let z ← gx P e
  if bp P e = 0 ∨ z.length ≠ bp P e then none
  some (.op <| .cI e (bp P e) n (fJ n z) (← qd G (n * bp P e) (fun i => some (i * bp P e, bp P e)) ps.toList))
 | .load t x => do
  if (P.underlying t).isNone then none
  if rR P t then some (.op <| .pY (bp P t) (← cO G x)) else some (.op <| .gT (← cO G x))
 | .store t x y => do
  if (P.info? t).isNone then none
  if rR P t then some (.op <| .KA (bp P t) (← cO G x) (← cO G y)) else if bp P t = 1 then some (.op <| .QS (← cO G x) (← cO G y)) else none
 | .nilCheck x => do some (.op <| .qa (← cO G x))
 | .binOp op t x y _ => match El P op t x y with
  | some k => do some (.op <| .bin k (← cO G x) (← cO G y))
  | none => match El P op t y x with
   | some (.jD k) => do some (.op <| .bin (.jD k) (← cO G y) (← cO G x))
   | some (.qY k) => do some (.op <| .bin (.qY k) (← cO G y) (← cO G x))
   | _ => none
 | .unOp op _ x => match op with
  | .not => do some (.op <| .un .not (← cO G x))
  | .neg => do some (.op <| .un .neg (← cO G x))
  | .xor => do some (.op <| .un .TY (← cO G x))
  | .plus => none
 | .convert s d x => do some (.op <| .conv (← Gm P s d) (← cO G x))
 | .makeInterface t x => match P.underlying t with
  | none | some (.interface _) => none
  | _ => do some (.op <| .Rj t (← cO G x))
 | .makeFunc (.func f) first captured => do if first.isEmpty then some (.op <| .SN f (← captured.toList.mapM (cO G))) else none
 | .makeMap _ none => some (.op .oP)
 | .makeMap t (some (.const (.int _ _))) => match ku P t with | .map .. => some (.op .oP) | _ => none
 | .makeSlice t l c => do
  let .slice e := ku P t | none
  let z ← gx P e
  if bp P e = 0 ∨ z.length ≠ bp P e ∨ jt P e = false then none
  some (.op <| .oQ e z (← cO G l) (← cO G c))
 | .slice t x l h m => match ku P t with
  | .string => do if m.isSome then none else some (.op <| .KW (← cO G x) (← KC G l) (← KC G h))
  | .slice e => do if bp P e = 0 ∨ (m.isSome ∧ h.isNone) then none else some (.op <| .Rk (bp P e) (← cO G x) (← KC G l) (← KC G h) (← KC G m))
  | .array n e => do if (m.isSome ∧ h.isNone) ∨ (P.info? e).isNone then none else some (.op <| .KX n (bp P e) (← cO G x) (← KC G l) (← KC G h) (← KC G m))
  | _ => none
 | .fieldAddr t x f => do
  let .struct fs := ku P t | none
  let fd ← fs[f]?
  if bp P fd.type = 0 then none
  some (.op <| .gS fd.offset (← cO G x))
 | .field t x f => do
  let .struct fs := ku P t | none
  let fd ← fs[f]?
  if (P.underlying fd.type).isNone then none
  if rR P fd.type then some (.op <| .KZ fd.offset (bp P fd.type) (← cO G x)) else some (.op <| .KY fd.offset (← cO G x))
 | .indexAddr t x i => match ku P t with
  | .array n e => do if (P.info? e).isNone then none else some (.op <| .OH n (bp P e) (← cO G x) (← cO G i))
  | .slice e => do if (P.info? e).isNone then none else some (.op <| .FO (bp P e) (← cO G x) (← cO G i))
  | _ => none
 | .index t x i => match ku P t with
  | .string => do some (.op <| .idxs (← cO G x) (← cO G i))
  | .array n e => do if (P.underlying e).isNone then none else some (.op <| .La n (bp P e) (rR P e) (← cO G x) (← cO G i))
  | _ => none
 | .lookup t x i ok => do
  let .map _ e := ku P t | none
  some (.op <| .FP (← Ek P t) (← kv P e) ok (← cO G x) (← cO G i))
 | .mapUpdate t m k x | .insert t m k x => do some (.op <| .Ny (← Ek P t) (← cO G m) (← cO G k) (← cO G x))
 | .range t x => match ku P t with
  | .map .. => do some (.op <| .Gi (← cO G x))
  | _ => none
 | .next x s => do if s then none else some (.KB s (← cO G x))
 | .entry x => do some (.op <| .Nz (← cO G x))
 | .typeAssert x _ t ok => do
  if (ku P t matches .interface _) ∨ (P.underlying t).isNone then none
  some (.op <| .NA t (← kv P t) ok (← cO G x))
 | .extract x i => do some (.op <| .ext i (← cO G x))
 | .call c => do
  let xs ← c.args.toList.mapM (cO G)
  match c.callee with
  | .builtin b => (jE P b c.argTypes.toList xs).map .op
  | .value (.func f) => some (AI.call f xs)
  | .value x => do some (AI.nz (← cO G x) xs)
  | .invoke x name => do some (AI.inv (← wT names name) (← cO G x) xs)
 | .mapEntry t m k => do
  let .map _ e := ku P t | none
  some (.op <| .yk (← Ek P t) (← kv P e) (← cO G m) (← cO G k))
 | .entryStore _ m k x => do some (.op <| .yl (← cO G m) (← cO G k) (← cO G x))
 | _ => none
inductive KO where
 | pure | read | make | ef
 deriving DecidableEq
def OK : oG → KO
 | .gT _ | .pY .. | .FP .. | .Gh _ => .read
 | .conv .Le _ => .read
 | .conv .Te _ | .conv (.Gn ..) _ => .read
 | .alloc .. | .box .. | .cI .. | .oP | .oQ .. | .Lc _ | .Gi _ => .make
 | .conv (.Rp _) _ | .conv (.Ur _) _ => .make
 | .QS .. | .KA .. | .Ny .. | .del .. | .app .. | .apps .. | .Rl .. | .Rm .. | .Nz _ | .Gj .. | .yk .. | .yl .. | .Gk .. => .ef
 | .bad _ => .ef
 | _ => .pure
def qe : AI → Bool
 | .op o => match OK o with | .pure | .read => true | _ => false
 | _ => false
section
variable (n : Nat)
def oS : Option Tmp → Option bV
 | none => some .no
 | some t => match G.sl t with
  | some s => if t < n then some (.t (hi s) (lo s)) else none
  | none => none
def qZ : GI := .o .no (.op (.bad 400))
def qg (names : List String) (ops : Array Oper) (o : Oper) : GI :=
 match oS G n o.dst, cE P G names o with
 | some d, some op => match o.guard with
  | none => .o d op
  | some (j, w) => match (ops[j]?).bind (·.dst) with
   | some t => match G.sl t with
    | some s => .g (hi s) (lo s) w d op
    | none => qZ
   | none => qZ
 | _, _ => qZ
def sN (prev : List Nat) : List Oper → List Nat → List Nat
 | [], acc => acc
 | o :: os, acc => sN prev os (acc ++ [o.after.toList.foldl (fun s e => if Region.binds .any e then s ||| 2 ^ e.on ||| (if e.on < acc.length then acc.getD e.on 0 else prev.getD e.on 0) else s) 0])
def oT (os : List Oper) : List Nat := sN (sN (sN [] os []) os []) os []
def looks (n : Nat) (names : List String) (ops : Array Oper) (o : Oper) : List Nat := (qg P G n names ops o).aH
def Cx : AI → Bool
 | .op (.alloc ..) | .op .oP | .op (.cI ..) => true
 | _ => false
def order (news : Nat) (names : List String) (ops : Array Oper) : List (Nat × Bk) :=
 let n := ops.size
 let os := ops.toList
 let fl := os.map fun o => match cE P G names o with | some i => qe i | none => false
 let b := oT os
 let le (i j : Nat) : Bool := (b.getD j 0).testBit i
 let mk := os.map fun o => o.guard.isNone && (match cE P G names o with | some i => Cx i | none => false)
 let base := (List.range n).filter fun i => !fl.getD i false && !mk.getD i false
 let nw := mk.zipIdx.map fun (m, i) => m && (match news with | 0 => false | 1 => base.any fun e => !le e i && !le i e | _ => true)
 let effs0 := (List.range n).filter fun i => !fl.getD i false && !nw.getD i false
 let gy := (List.range effs0.length).filterMap fun k => effs0.find? fun i => (effs0.filter fun e => e != i && le e i).length == k
 let hiOf (i : Nat) : Nat := ((gy.zipIdx.find? fun (e, _) => le i e).map (·.2)).getD gy.length
 let loOf (i : Nat) : Nat := (gy.zipIdx.foldl (fun m (e, k) => if le e i then k + 1 else m) 0)
 let stage (j : Nat) : List (Nat × Bk) := (((List.range n).filter fun i => fl.getD i false && hiOf i == j).map fun i => (i, .rd (j - loOf i))) ++ (((List.range n).filter fun i => nw.getD i false && hiOf i == j).map fun i => (i, .new))
 (gy.zipIdx.flatMap fun (e, j) => stage j ++ [(e, .ef)]) ++ stage gy.length
end
def NC : Bk → Bool
 | .ef => true
 | _ => false
def iY (le : Nat → Nat → Bool) : Bool → List (Nat × Bk) → List Nat → Bool
 | _, [], _ => true
 | _, (i, .ef) :: l, gy => (match gy with | [] => true | e :: _ => le e i) && iY le true l (i :: gy)
 | fl, (i, .rd n) :: l, gy => fl && (match gy.drop n with | [] => n == gy.length | e :: _ => le e i) && (match l.find? (fun x => NC x.2) with | some (e, _) => le i e | none => true) && iY le true l gy
 | _, (i, .new) :: l, gy => (match l.find? (fun x => NC x.2) with | some (e, _) => le i e | none => true) && iY le false l gy
def sO (n : Nat) (names : List String) (ops : Array Oper) (l : List (Nat × Bk)) (i : Nat) : Bk → Bool
 | .ef => true
 | .rd _ => match cE P G names (ops.getD i default) with | some x => qe x | none => false
 | .new => (ops.getD i default).guard.isNone && (match cE P G names (ops.getD i default) with | some x => Cx x | none => false) &&
  (ops.getD i default).dst.all fun t => l.all fun (j, k) => NC k || !(looks P G n names ops (ops.getD j default)).contains t
def kx (n : Nat) (names : List String) (ops : Array Oper) (l : List (Nat × Bk)) : Bool :=
 let b := oT ops.toList
 let le (i j : Nat) : Bool := (b.getD j 0).testBit i
 l.length == ops.size && (l.all fun (i, _) => decide (i < ops.size)) && (List.range ops.size).all (fun i => l.any (·.1 == i)) && (l.zipIdx.all fun ((i, _), p) => l.zipIdx.all fun ((j, _), q) => i != j || p == q) &&
 (ops.toList.zipIdx.all fun (o, i) => o.after.all fun e => !Region.binds .any e || (decide (e.on < ops.size) && decide (b.getD e.on 0 < b.getD i 0))) &&
 (l.zipIdx.all fun ((i, k), p) => l.zipIdx.all fun ((j, k'), q) => !le i j || decide (p < q) || ((k matches .new) && (k' matches .rd _))) &&
 (l.all fun (i, k) => sO P G n names ops l i k) &&
 iY le true l [] &&
 (ops.toList.zipIdx.all fun (o, i) => (o.dst.all fun t => ops.toList.zipIdx.all fun (o', j) => i == j || o'.dst != some t)) &&
 (ops.toList.zipIdx.all fun (o, i) => (looks P G n names ops o).all fun t => ops.toList.zipIdx.all fun (o', j) => o'.dst != some t || i == j || le i j || le j i) &&
 (l.all fun (i, k) => !(k matches .new) || (looks P G n names ops (ops.getD i default)).all fun t => ops.toList.zipIdx.all fun (o', j) => o'.dst != some t || le j i)
def hasNext : Code → Bool
 | .region _ ops _ => ops.any fun o => match o.op with | .next _ false => true | _ => false
 | .seq a _ => hasNext a
 | _ => false
def fW (x y : Nat) (ops : Array Oper) : Array Oper := ops.modify y fun o => { o with after := o.after.push ⟨x, .data⟩ }
def wV : Op → Bool
 | .call c => match c.callee with | .builtin b => (match b with | .print | .println | .recover | .unsafeSizeof => false | _ => true) | _ => false
 | .go _ | .defer _ | .send .. | .recv .. | .select .. | .panic _ => false
 | _ => true
def OO (names : List String) (o : Oper) : Bool := match cE P G names o with | some i => !qe i | none => true
def loose (names : List String) (ops : Array Oper) : Option (Nat × Nat) :=
 let b := oT ops.toList
 let le (i j : Nat) : Bool := (b.getD j 0).testBit i
 let gy := (List.range ops.size).filter fun i => (ops[i]?).any (OO P G names)
 gy.findSome? fun i => gy.findSome? fun j => if i < j && !le i j && !le j i then some (i, j) else none
def jv (bad : Array Oper → AC) (n : Nat) (names : List String) (ops : Array Oper) : AC :=
 let l := order P G 0 names ops
 if kx P G n names ops l then .rS (l.map fun (i, b) => .mk b (qg P G n names ops (ops.getD i default))) else
 let l := order P G 1 names ops
 if kx P G n names ops l then .rS (l.map fun (i, b) => .mk b (qg P G n names ops (ops.getD i default))) else
 let l := order P G 2 names ops
 if kx P G n names ops l then .rS (l.map fun (i, b) => .mk b (qg P G n names ops (ops.getD i default))) else bad ops
def lL (next : Array Oper → AC) (names : List String) (ops : Array Oper) : AC := match loose P G names ops with
 | some (x, y) => if ops.all (fun o => wV o.op) && x != y && decide (x < ops.size) && decide (y < ops.size) then .alt (next (fW x y ops)) (next (fW y x ops)) else .bad 404
 | none => .bad 404
def oU (n : Nat) (names : List String) (ops : Array Oper) : AC := jv P G (lL P G (jv P G (lL P G (jv P G (fun _ => .bad 404) n names) names) n names) names) n names ops
def nS (n : Nat) (names : List String) (ops : Array Oper) (o : Oper) : GI := match cE P G names o, o.guard, oS G n o.dst with
 | none, some (j, w), some d => match (ops[j]?).bind (·.dst) with
  | some t => match G.sl t with
   | some s => .g (hi s) (lo s) w d (.op (.bad 405))
   | none => qZ
  | none => qZ
 | _, _, _ => qg P G n names ops o
def Tf : GI → Bool
 | .o .no (.op (.bad 400)) => true
 | _ => false
def Tg : GI → Bool
 | .o .no (.op (.bad 400)) => true
 | .g _ _ _ _ (.op (.bad 405)) => true
 | _ => false
def rH (n : Nat) (names : List String) (ops : Array Oper) : AC :=
 let l := ops.toList.map fun o => nS P G n names ops o
 if l.any Tf && G.b.isNone then
  match (List.range 16).find? fun q => !((ops.toList.map fun o => nS P { G with b := some q } n names ops o).any Tg) with
  | some q => .OQ q (ops.toList.map fun o => nS P { G with b := some q } n names ops o)
  | none => .ops l
 else .ops l
def cC (n : Nat) (names : List String) : Code → AC
 | .skip => .skip
 | .region _ ops false => rH P G n names ops
 | .region _ ops true => oU P G n names ops
 | .seq a b => .seq (cC n names a) (cC n names b)
 | .cond c a b => match cO G c with | some c => .cond c (cC n names a) (cC n names b) | none => .bad 401
 | .block i a => match a with
  | .loop b => if hasNext b then .join (.block i (.loop (cC n names b))) else .block i (.loop (cC n names b))
  | a => .block i (cC n names a)
 | .loop a => .loop (cC n names a)
 | .scope a => .scope (cC n names a)
 | .exit i => .exit i
 | .goto l => .goto l
 | .label l => .label l
 | .ret => .ret
 | .rangeFunc .. => .bad 402
 | .refuse _ => .bad 403
def QT (n : Nat) (r : ResultVar) : Option Rs :=
 match r with
 | .tmp t => if t < 256 then some (.t (hi t) (lo t)) else none
 | .cell t ty => if (P.underlying ty).isNone then none else if t < 256 then some (if rR P ty then .agg (bp P ty) (hi t) (lo t) else .one (hi t) (lo t)) else none
def cF (names : List String) (f : Func) : AF :=
 match f.body, f.results.toList.mapM (QT P f.ntmps) with
 | some c, some rs => if f.name == "runtime.NumGoroutine" then .none else .mk (cC P G f.ntmps names c) rs
 | _, _ => .none
end
end
noncomputable section
structure Kt where
 n : A2 → Hp → RS
 e : Nat → A2 → Hp → RS
 g : Nat → A2 → Hp → RS
 r : A2 → Hp → RS
def AI.lM (cf : Cf) (iv : Iv) (d : bV) (k : A2 → Hp → RS) (r : A2) (h : Hp) : AI → RS
 | .op y => Cy d k r (y.run r h)
 | .KB s x => stepT d k r (lN s (ev x r) h)
 | .call f xs => stepT d k r (cf f (fL xs r) h)
 | .nz x xs => stepT d k r (AV.Gg (ev x r) (fun f cs => cf f (List.append (fL xs r) cs) h) (.err 202))
 | .inv n x xs => stepT d k r (iv n (ev x r) (fL xs r) h)
def GI.lM (cf : Cf) (iv : Iv) (k : A2 → Hp → RS) (r : A2) (h : Hp) : GI → RS
 | .o d i => i.lM cf iv d k r h
 | .g a b w d i => AV.bB (gb w (az a b r)) (fun t => @Bool.rec (fun _ => RS) (k (da d cm r) h) (i.lM cf iv d k r h) (ko t w)) (.err 210)
def uR (cf : Cf) (iv : Iv) (k : A2 → Hp → RS) : List GI → A2 → Hp → RS
 | [] => k
 | i :: l => fun r h => i.lM cf iv (uR cf iv k l) r h
def ND (cf : Cf) (iv : Iv) (b : Bk) (d : bV) (k : DK) (r : A2) (h g : Hp) (hs : List Hp) : AI → RS
 | .op y => @Bk.rec (fun _ => RS) (nd d k r g hs (y.run r h).lH) (fun n => AY d y n k r h g hs (y.run r g)) (Gp d k r g hs (y.run r h)) b
 | .KB s x => nd d k r g hs (lN s (ev x r) h)
 | .call f xs => nd d k r g hs (cf f (fL xs r) h)
 | .nz x xs => nd d k r g hs (AV.Gg (ev x r) (fun f cs => cf f (List.append (fL xs r) cs) h) (.err 202))
 | .inv n x xs => nd d k r g hs (iv n (ev x r) (fL xs r) h)
def DI.lM (cf : Cf) (iv : Iv) (k : DK) (r : A2) (h g : Hp) (hs : List Hp) : DI → RS
 | .mk b (.o d i) => ND cf iv b d k r h g hs i
 | .mk b (.g x y w d i) => AV.bB (gb w (az x y r)) (fun t => @Bool.rec (fun _ => RS) (Lf b d k r h g hs) (ND cf iv b d k r h g hs i) (ko t w)) (.err 212)
def oV (cf : Cf) (iv : Iv) (k : A2 → Hp → RS) : List DI → DK
 | [] => fun r h _ _ => k r h
 | i :: l => fun r h g hs => i.lM cf iv (oV cf iv k l) r h g hs
def den (cf : Cf) (iv : Iv) : AC → Kt → A2 → Hp → RS
 | .skip, K => K.n
 | .ops l, K => uR cf iv K.n l
 | .rS l, K => fun r h => oV cf iv K.n l r h h []
 | .seq a b, K => den cf iv a ⟨den cf iv b K, K.e, K.g, K.r⟩
 | .cond c a b, K => fun r h => AV.bB (ev c r) (fun t => @Bool.rec (fun _ => RS) (den cf iv b K r h) (den cf iv a K r h) t) (.err 213)
 | .block i a, K => den cf iv a ⟨K.n, fun j r h => @Bool.rec (fun _ => RS) (K.e j r h) (K.n r h) (Nat.beq j i), K.g, K.r⟩
 | .exit i, K => K.e i
 | .goto l, K => K.g l
 | .ret, K => K.r
 | _, _ => fun _ _ => .err 310
def wW (cf : Cf) (iv : Iv) (K : Kt) (T : A2 → Hp → RS) : Nat → AC → A2 → Hp → RS
 | 0, _ => T
 | k + 1, .seq a b => den cf iv a ⟨wW cf iv K T k b, K.e, K.g, K.r⟩
 | _ + 1, c => den cf iv c K
def ky : Nat → AC → AC
 | 0, c => c
 | k + 1, .seq _ b => ky k b
 | _ + 1, _ => .skip
def sP : AC → Bool
 | .seq a b => sP a && sP b
 | .label _ => false
 | .ah _ _ => false
 | _ => true
def lO : Nat → AC → Bool
 | 0, _ => true
 | k + 1, .seq a b => sP a && lO k b
 | _ + 1, c => sP c
def bS (r : A2) : List Nat → A2
 | [] => .nil
 | t :: L => if t < 256 then nT (dz (t / 16)) (dz (t % 16)) (az (dz (t / 16)) (dz (t % 16)) r) (bS r L) else bS r L
def nU (L Lr : List Nat) : Kt := ⟨fun r h => .nm (bS r L) h, fun i r h => .ex i (bS r L) h, fun l r h => .go l (bS r L) h, fun r h => .ret (bS r Lr) h⟩
def sQ (c : AC) (k : Nat) (Lin L Lr Lx : List Nat) : Cf → Iv → (A2 → Hp → RS) → A2 → Hp → RS :=
 fun cf iv rx r h => wW cf iv (nU L Lr) (fun r h => rx (bS r Lx) h) k c (bS r Lin) h
inductive Impl : AC → AC → Prop
 | refl (c : AC) : Impl c c
 | seq {a a' b b' : AC} : Impl a a' → Impl b b' → Impl (.seq a b) (.seq a' b')
 | cond {o : AO} {a a' b b' : AC} : Impl a a' → Impl b b' → Impl (.cond o a b) (.cond o a' b')
 | block {i : Nat} {a a' : AC} : Impl a a' → Impl (.block i a) (.block i a')
 | loop {a a' : AC} : Impl a a' → Impl (.loop a) (.loop a')
 | scope {a a' : AC} : Impl a a' → Impl (.scope a) (.scope a')
 | join {i : Nat} {a a' : AC} : Impl a a' → Impl (.join (.block i (.loop a))) (.join (.block i (.loop a')))
 | TZ {i : Nat} {a a' : AC} : Impl a a' → Impl (.join (.block i a)) (.block i a')
 | bad {c : AC} (n : Nat) : sP c = true → Impl c (.bad n)
 | ah {c x : AC} {f : Cf → Iv → (A2 → Hp → RS) → A2 → Hp → RS} (k : Nat) (Lin L Lr Lx : List Nat) : lO k c = true → f = sQ c k Lin L Lr Lx → Impl (ky k c) x → Impl c (.ah f x)
end
noncomputable section
def OT (x : AF) : AC := match x with | .none => .skip | .mk b _ => b | .uP _ b _ => b | .QU b _ => b | .ext _ => .skip
def gL (c : AC) : AC := match c with | .seq a _ => a | .cond _ a _ => a | .block _ a => a | .loop a => a | .scope a => a | .join a => a | c => c
def gR (c : AC) : AC := match c with | .seq _ b => b | .cond _ _ b => b | c => c
theorem db {c a' b' : AC} (a b : AC) (ha : Impl a a') (hb : Impl b b') (e : c = .seq a b := by kernel_rfl) : Impl c (.seq a' b') := e ▸ .seq ha hb
theorem SP {o : AO} {c a' b' : AC} (a b : AC) (ha : Impl a a') (hb : Impl b b') (e : c = .cond o a b := by kernel_rfl) : Impl c (.cond o a' b') := e ▸ .cond ha hb
theorem fg {i : Nat} {c a' : AC} (a : AC) (ha : Impl a a') (e : c = .block i a := by kernel_rfl) : Impl c (.block i a') := e ▸ .block ha
theorem jw {c a' : AC} (a : AC) (ha : Impl a a') (e : c = .loop a := by kernel_rfl) : Impl c (.loop a') := e ▸ .loop ha
theorem Th {c a a' : AC} (e : c = .scope a) (ha : Impl a a') : Impl c (.scope a') := e ▸ .scope ha
theorem jF {c x : AC} (e : c = x := by kernel_rfl) : Impl c x := e ▸ .refl _
theorem bw {c x : AC} {f : Cf → Iv → (A2 → Hp → RS) → A2 → Hp → RS} (d : AC) (k : Nat) (Lin L Lr Lx : List Nat) (h : Impl d x) (e : (lO k c, ky k c, f) = (true, d, sQ c k Lin L Lr Lx) := by kernel_rfl) : Impl c (.ah f x) := by
 have e1 : lO k c = true := congrArg (·.1) e
 have e2 : ky k c = d := congrArg (·.2.1) e
 have e3 : f = sQ c k Lin L Lr Lx := congrArg (·.2.2) e
 exact .ah k Lin L Lr Lx e1 e3 (e2 ▸ h)
theorem bI {c : AC} {f : Cf → Iv → (A2 → Hp → RS) → A2 → Hp → RS} (k : Nat) (Lin L Lr Lx : List Nat) (e : (lO k c, ky k c, f) = (true, .skip, sQ c k Lin L Lr Lx) := by kernel_rfl) : Impl c (.ah f .skip) := bw .skip k Lin L Lr Lx (.refl _) e
end
end Go.Am
