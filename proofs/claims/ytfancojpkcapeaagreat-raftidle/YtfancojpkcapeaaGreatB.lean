/- What code of the abstract machine a Go function is, and what loop-free code means. Nothing is asked. -/
import Derived.Test.YtfancojpkcapeaaGreatA
import GoSem.Step
import Derived.Orders
import Derived.KernelRfl
set_option linter.all false
namespace Go.Am
noncomputable section
def AO.aE : AO → List Nat
 | .t a b => [16 * a.nat + b.nat]
 | .c _ => []
def OA.aE : OA → List Nat
 | .none => []
 | .some x => x.aE
def Part.aE : Part → List Nat
 | .mk _ _ x => x.aE
def tw (l : List AO) : List Nat := l.flatMap AO.aE
def la.aE : la → List Nat
 | .mv x => x.aE
 | .pick c a b => c.aE ++ (a.aE ++ b.aE)
 | .alloc .. => []
 | .box _ x => x.aE
 | .build _ ps => ps.flatMap Part.aE
 | .dU _ _ _ _ ps => ps.flatMap Part.aE
 | .eU x => x.aE
 | .ja _ x => x.aE
 | .QC x y => x.aE ++ y.aE
 | .CS _ x y => x.aE ++ y.aE
 | .dk x => x.aE
 | .bin _ x y => x.aE ++ y.aE
 | .un _ x => x.aE
 | .conv _ x => x.aE
 | .QZ _ x => x.aE
 | .Ra _ xs => tw xs
 | .nF => []
 | .mF _ _ l c => l.aE ++ c.aE
 | .FL _ x lo hi mx => x.aE ++ (lo.aE ++ (hi.aE ++ mx.aE))
 | .Gp x lo hi => x.aE ++ (lo.aE ++ hi.aE)
 | .KW _ _ x lo hi mx => x.aE ++ (lo.aE ++ (hi.aE ++ mx.aE))
 | .ig _ x => x.aE
 | .KX _ x => x.aE
 | .KY _ _ x => x.aE
 | .AQ _ x y => x.aE ++ y.aE
 | .FM _ _ x y => x.aE ++ y.aE
 | .idxs x y => x.aE ++ y.aE
 | .KZ _ _ _ x y => x.aE ++ y.aE
 | .ext _ x => x.aE
 | .uZ _ _ _ x y => x.aE ++ y.aE
 | .yj _ x y z => x.aE ++ (y.aE ++ z.aE)
 | .del _ x y => x.aE ++ y.aE
 | .DZ x => x.aE
 | .len x => x.aE
 | .lx x => x.aE
 | .cap x => x.aE
 | .max _ xs => tw xs
 | .app _ _ x y => x.aE ++ y.aE
 | .apps _ x y => x.aE ++ y.aE
 | .Rb _ x y => x.aE ++ y.aE
 | .Rc _ x => x.aE
 | .La x => x.aE
 | .Ea x => x.aE
 | .QD x => x.aE
 | .Nm _ _ _ x => x.aE
 | .iu _ x y => x.aE ++ y.aE
 | .real _ x => x.aE
 | .Lc x => x.aE
 | .Gq _ x y => x.aE ++ y.aE
 | .yx _ _ x y => x.aE ++ y.aE
 | .yy x y z => x.aE ++ y.aE ++ z.aE
 | .Gr _ _ _ x y => x.aE ++ y.aE
 | .bad _ => []
def AI.aE : AI → List Nat
 | .op o => o.aE
 | .yk _ x => x.aE
 | .call _ xs => tw xs
 | .lz x xs => x.aE ++ tw xs
 | .inv _ x xs => x.aE ++ tw xs
def GI.aE : GI → List Nat
 | .o _ i => i.aE
 | .g a b _ _ i => (16 * a.nat + b.nat) :: i.aE
structure Gl where
 n : Nat
 sy : List (P4 × Nat)
 b : Option Nat
instance : OfNat Gl 0 := ⟨⟨0, [], none⟩⟩
def Gl.sl (G : Gl) (t : Nat) : Option Nat := match G.b with
 | none => if t < 256 then some t else none
 | some q => if t < 16 * q then (if t < 256 then some t else none) else if t < 16 * q + 16 then none else if t < 272 then some (t - 16) else none
def Gl.tm (G : Gl) (s : Nat) : Nat := match G.b with
 | none => s
 | some q => if s < 16 * q then s else s + 16
section
variable (P : Program) (G : Gl)
def hi (n : Nat) : H := dC (n / 16)
def lo (n : Nat) : H := dC (n % 16)
def P4.of (n : Nat) : P4 := .mk (dC (n / 4096)) (dC (n / 256 % 16)) (dC (n / 16 % 16)) (dC (n % 16))
def Cg : Value → Option AV
 | .bool b => some (.bool b)
 | .int k n => some (.int k n)
 | .float k n => some (.qd k n)
 | .complex k a b => some (.iu k a b)
 | .string s => some (.str (s.data.toList.map (·.toNat)))
 | .pointer none => some .da
 | .slice none 0 0 => some .al
 | .map none => some .db
 | .func (.func f) ⟨[]⟩ ⟨[]⟩ => some (.fn f [])
 | .nilFunc => some .DX
 | .nilIface => some .AZ
 | _ => none
def DD (v : Value) : Option AV :=
 match v with
 | .agg cs => (cs.toList.mapM Cg).map .agg
 | .iface t v => (Cg v).map (.iface t)
 | v => Cg v
def cO : Operand → Option AO
 | .tmp t => (G.sl t).map fun s => .t (hi s) (lo s)
 | .const v => (DD v).map .c
 | .global g => if g < G.n then some (.c (.ptr (P4.of g) 0)) else none
 | .func f => some (.c (.fn f []))
def Kx : Option Operand → Option OA
 | none => some .none
 | some x => (cO G x).map .some
def kj (t : TypeId) : TypeDesc := (P.underlying t).getD .invalid
def sj (t : TypeId) : Bool := match kj P t with | .struct _ | .array .. => true | _ => false
def bq (t : TypeId) : Nat := P.cellsOf t
def gJ (t : TypeId) : Option (List AV) := ((P.info? t).bind (·.zero)).bind fun z => z.cells.toList.mapM Cg
def kN (t : TypeId) : Option AV := ((P.info? t).bind (·.zero)).bind DD
def vq : NK → Operand → Bool
 | .s, .const (.slice none 0 0) => true
 | .m, .const (.map none) => true
 | .f, .const .nilFunc => true
 | .i, .const .nilIface => true
 | _, _ => false
def jt (e : TypeId) : Bool := match P.info? e with
 | some i => (match i.zero with | some z => z.cells.size == i.size | none => false) && Nat.ble i.bytes 1048576
 | none => false
def DJ (t : TypeId) : Option KK := match P.underlying t with
 | some .bool => some .b
 | some (.int _) => some .i
 | some .string => some .s
 | some (.pointer e) => match P.info? e with
  | some ie => if ie.size = 0 then none else some .p
  | none => none
 | _ => none
def nO : List Field → Nat → Option (List KK)
 | [], _ => some []
 | f :: fs, i => if f.name = "_" ∨ f.offset ≠ i then none else
  match DJ P f.type, nO fs (i + 1) with
  | some k, some ks => some (k :: ks)
  | _, _ => none
def uv (t : TypeId) : Option (List KK) := match P.underlying t with
 | some (.struct fs) => if P.stoodInHeld t then none else nO P fs.toList 0
 | _ => none
def og (t : TypeId) : Option KT := match P.underlying t with
 | some .bool => some (.one .b)
 | some (.int _) => some (.one .i)
 | some .string => some (.one .s)
 | some (.struct _) => (uv P t).map .agg
 | _ => none
def Ej (t : TypeId) : Option KT := match P.underlying t with
 | some (.map k _) => og P k
 | _ => none
def Ed (op : BinOp) (t : TypeId) (x y : Operand) : Option BK :=
 match kj P t, op with
 | .int _, .add => some .add | .int _, .sub => some .sub | .int _, .mul => some .mul | .int _, .quo => some .quo | .int _, .rem => some .rem
 | .int _, .and => some .and | .int _, .or => some .or | .int _, .xor => some .xor | .int _, .andNot => some .QN | .int _, .shl => some .shl | .int _, .shr => some .shr
 | .int _, .eql => some .eq | .int _, .neq => some .ne | .int _, .lss => some .lt | .int _, .leq => some .le | .int _, .gtr => some .gt | .int _, .geq => some .ge
 | .string, .eql => some .seq | .string, .neq => some .QO | .string, .lss => some .slt | .string, .leq => some .sle | .string, .gtr => some .TG | .string, .geq => some .TH | .string, .add => some .cat
 | .bool, .eql => some .beq
 | .bool, .neq => some .bne
 | .pointer e, .eql => if bq P e = 0 then none else some .oP
 | .pointer e, .neq => if bq P e = 0 then none else some .SM
 | .slice _, .eql => if vq .s y then some (.gE .s) else none
 | .slice _, .neq => if vq .s y then some (.rk .s) else none
 | .map .., .eql => if vq .m y then some (.gE .m) else none
 | .map .., .neq => if vq .m y then some (.rk .m) else none
 | .func .., .eql => if vq .f y then some (.gE .f) else none
 | .func .., .neq => if vq .f y then some (.rk .f) else none
 | .interface _, .eql => if vq .i y then some (.gE .i) else none
 | .interface _, .neq => if vq .i y then some (.rk .i) else none
 | .struct _, .eql => if P.eqGuardType P.depth t then none else (uv P t).map .Oq
 | .struct _, .neq => if P.eqGuardType P.depth t then none else (uv P t).map .QP
 | .float _, op => some (.TI op)
 | .complex _, op => some (.TJ op)
 | _, _ => none
def qR (n : Nat) (place : Nat → Option (Nat × Nat)) (ps : List (Nat × Operand)) : Option (List Part) :=
 ps.mapM fun (i, x) => do
  let (off, sz) ← place i
  if off + sz ≤ n then some (.mk off sz (← cO G x)) else none
def GF (s d : TypeId) : Option CK :=
 match kj P s, kj P d with
 | .int _, .int k => some (.toInt k)
 | .string, .string => some .same
 | .pointer e, .unsafePointer => if bq P e = 0 then none else some .TK
 | .unsafePointer, .pointer u => if bq P u = 0 || !liesAt P P.depth u 1 0 u 1 then none else some (.Nc u (bq P u))
 | .string, .slice e => match kj P e with | .int .u8 => some (.SO e) | _ => none
 | .slice e, .string => match kj P e with | .int .u8 => some .KH | _ => none
 | .int _, .float k => some (.Uh k)
 | .float _, .int k => some (.Ui k)
 | _, _ => none
def jE (b : Builtin) (ts : List TypeId) (xs : List AO) : Option la :=
 match b, ts, xs with
 | .len, t :: _, [x] => match kj P t with
  | .string => some (.lx x)
  | .slice _ => some (.len x)
  | .map .. => some (.DZ x)
  | .array n _ => some (.mv (.c (.int .i64 n)))
  | .pointer a => match kj P a with | .array n _ => some (.mv (.c (.int .i64 n))) | _ => none
  | _ => none
 | .cap, t :: _, [x] => match kj P t with
  | .slice _ => some (.cap x)
  | .array n _ => some (.mv (.c (.int .i64 n)))
  | _ => none
 | .append, [t, u], [x, y] => match kj P t, kj P u with
  | .slice e, .string => if bq P e = 1 && jt P e then some (.apps e x y) else none
  | .slice e, .slice _ => if bq P e = 0 || !jt P e then none else some (.app e (bq P e) x y)
  | .slice e, .int _ => if bq P e = 0 || !jt P e then none else (gJ P e).bind fun z => if z.length ≠ bq P e then none else some (.Gr e (bq P e) z x y)
  | _, _ => none
 | .copy, t :: _, [x, y] => match kj P t with | .slice e => if bq P e = 0 then none else some (.Rb (bq P e) x y) | _ => none
 | .clear, t :: _, [x] => match kj P t with | .slice e => if bq P e = 0 then none else (gJ P e).bind fun z => if z.length ≠ bq P e then none else some (.Rc z x) | _ => none
 | .delete, t :: _, [x, y] => do some (.del (← Ej P t) x y)
 | .max, _, xs => some (.max false xs)
 | .min, _, xs => some (.max true xs)
 | .unsafeSliceData, _, [x] => some (.Lc x)
 | .real, _, [x] => some (.real false x)
 | .imag, _, [x] => some (.real true x)
 | .unsafeString, t :: _, [x, y] => match kj P t with | .pointer e => if bq P e = 1 then some (.Gq e x y) else none | _ => none
 | .complex, t :: _, [x, y] => match kj P t with | .float k => some (.iu k x y) | _ => none
 | _, _, _ => none
def xh (names : List String) (s : String) : Option Nat := names.findIdx? (· == s)
def cE (names : List String) (o : Oper) : Option AI :=
 match o.op with
 | .move x | .assign x => do some (.op <| .mv (← cO G x))
 | .pick c a b => do some (.op <| .pick (← cO G c) (← cO G a) (← cO G b))
 | .alloc e => do let z ← gJ P e; some (.op <| .alloc e z.length (mE z))
 | .box e x => do some (.op <| .box e (← cO G x))
 | .build t ps => do
  let z ← gJ P t
  match kj P t with
  | .struct fs => do if fs.all (fun f => (P.info? f.type).isSome) then some (.op <| .build z (← qR G z.length (fun i => (fs[i]?).map fun f => (f.offset, bq P f.type)) ps.toList)) else none
  | .array _ e => do if (P.info? e).isSome then some (.op <| .build z (← qR G z.length (fun i => some (i * bq P e, bq P e)) ps.toList)) else none
  | _ => none
 | .buildSlice t n ps => do
  let .slice e := kj P t | none
  let z ← gJ P e
  if bq P e = 0 ∨ z.length ≠ bq P e then none
  some (.op <| .dU e (bq P e) n (fk n z) (← qR G (n * bq P e) (fun i => some (i * bq P e, bq P e)) ps.toList))
 | .load t x => do
  if (P.underlying t).isNone then none
  if sj P t then some (.op <| .ja (bq P t) (← cO G x)) else some (.op <| .eU (← cO G x))
 | .store t x y => do
  if (P.info? t).isNone then none
  if sj P t then some (.op <| .CS (bq P t) (← cO G x) (← cO G y)) else if bq P t = 1 then some (.op <| .QC (← cO G x) (← cO G y)) else none
 | .nilCheck x => do some (.op <| .dk (← cO G x))
 | .binOp op t x y _ => match Ed P op t x y with
  | some k => do some (.op <| .bin k (← cO G x) (← cO G y))
  | none => match Ed P op t y x with
   | some (.gE k) => do some (.op <| .bin (.gE k) (← cO G y) (← cO G x))
   | some (.rk k) => do some (.op <| .bin (.rk k) (← cO G y) (← cO G x))
   | _ => none
 | .unOp op _ x => match op with
  | .not => do some (.op <| .un .not (← cO G x))
  | .neg => do some (.op <| .un .neg (← cO G x))
  | .xor => do some (.op <| .un .SN (← cO G x))
  | .plus => none
 | .convert s d x => do some (.op <| .conv (← GF P s d) (← cO G x))
 | .makeInterface t x => match P.underlying t with
  | none | some (.interface _) => none
  | _ => do some (.op <| .QZ t (← cO G x))
 | .makeFunc (.func f) first captured => do if first.isEmpty then some (.op <| .Ra f (← captured.toList.mapM (cO G))) else none
 | .makeMap _ none => some (.op .nF)
 | .makeMap t (some (.const (.int _ _))) => match kj P t with | .map .. => some (.op .nF) | _ => none
 | .makeSlice t l c => do
  let .slice e := kj P t | none
  let z ← gJ P e
  if bq P e = 0 ∨ z.length ≠ bq P e ∨ jt P e = false then none
  some (.op <| .mF e z (← cO G l) (← cO G c))
 | .slice t x l h m => match kj P t with
  | .string => do if m.isSome then none else some (.op <| .Gp (← cO G x) (← Kx G l) (← Kx G h))
  | .slice e => do if bq P e = 0 ∨ (m.isSome ∧ h.isNone) then none else some (.op <| .FL (bq P e) (← cO G x) (← Kx G l) (← Kx G h) (← Kx G m))
  | .array n e => do if (m.isSome ∧ h.isNone) ∨ (P.info? e).isNone then none else some (.op <| .KW n (bq P e) (← cO G x) (← Kx G l) (← Kx G h) (← Kx G m))
  | _ => none
 | .fieldAddr t x f => do
  let .struct fs := kj P t | none
  let fd ← fs[f]?
  if bq P fd.type = 0 then none
  some (.op <| .ig fd.offset (← cO G x))
 | .field t x f => do
  let .struct fs := kj P t | none
  let fd ← fs[f]?
  if (P.underlying fd.type).isNone then none
  if sj P fd.type then some (.op <| .KY fd.offset (bq P fd.type) (← cO G x)) else some (.op <| .KX fd.offset (← cO G x))
 | .indexAddr t x i => match kj P t with
  | .array n e => do if (P.info? e).isNone then none else some (.op <| .FM n (bq P e) (← cO G x) (← cO G i))
  | .slice e => do if (P.info? e).isNone then none else some (.op <| .AQ (bq P e) (← cO G x) (← cO G i))
  | _ => none
 | .index t x i => match kj P t with
  | .string => do some (.op <| .idxs (← cO G x) (← cO G i))
  | .array n e => do if (P.underlying e).isNone then none else some (.op <| .KZ n (bq P e) (sj P e) (← cO G x) (← cO G i))
  | _ => none
 | .lookup t x i ok => do
  let .map _ e := kj P t | none
  some (.op <| .uZ (← Ej P t) (← kN P e) ok (← cO G x) (← cO G i))
 | .mapUpdate t m k x | .insert t m k x => do some (.op <| .yj (← Ej P t) (← cO G m) (← cO G k) (← cO G x))
 | .range t x => match kj P t with
  | .map .. => do some (.op <| .Ea (← cO G x))
  | _ => none
 | .next x s => do if s then none else some (.yk s (← cO G x))
 | .entry x => do some (.op <| .QD (← cO G x))
 | .typeAssert x _ t ok => do
  if (kj P t matches .interface _) ∨ (P.underlying t).isNone then none
  some (.op <| .Nm t (← kN P t) ok (← cO G x))
 | .extract x i => do some (.op <| .ext i (← cO G x))
 | .call c => do
  let xs ← c.args.toList.mapM (cO G)
  match c.callee with
  | .builtin b => (jE P b c.argTypes.toList xs).map .op
  | .value (.func f) => some (AI.call f xs)
  | .value x => do some (AI.lz (← cO G x) xs)
  | .invoke x name => do some (AI.inv (← xh names name) (← cO G x) xs)
 | .mapEntry t m k => do
  let .map _ e := kj P t | none
  some (.op <| .yx (← Ej P t) (← kN P e) (← cO G m) (← cO G k))
 | .entryStore _ m k x => do some (.op <| .yy (← cO G m) (← cO G k) (← cO G x))
 | _ => none
inductive KO where
 | pure | read | make | dL
 deriving DecidableEq
def Qx : la → KO
 | .eU _ | .ja .. | .uZ .. | .DZ _ => .read
 | .conv .KH _ => .read
 | .conv .TK _ | .conv (.Nc ..) _ => .read
 | .alloc .. | .box .. | .dU .. | .nF | .mF .. | .La _ | .Ea _ => .make
 | .conv (.SO _) _ | .conv (.Uj _) _ => .make
 | .QC .. | .CS .. | .yj .. | .del .. | .app .. | .apps .. | .Rb .. | .Rc .. | .QD _ | .Gq .. | .yx .. | .yy .. | .Gr .. => .dL
 | .bad _ => .dL
 | _ => .pure
def qz : AI → Bool
 | .op o => match Qx o with | .pure | .read => true | _ => false
 | _ => false
section
variable (n : Nat)
def kp : Option Tmp → Option aQ
 | none => some .no
 | some t => match G.sl t with
  | some s => if t < n then some (.t (hi s) (lo s)) else none
  | none => none
def ry : GI := .o .no (.op (.bad 400))
def iA (names : List String) (ops : Array Oper) (o : Oper) : GI :=
 match kp G n o.dst, cE P G names o with
 | some d, some op => match o.guard with
  | none => .o d op
  | some (j, w) => match (ops[j]?).bind (·.dst) with
   | some t => match G.sl t with
    | some s => .g (hi s) (lo s) w d op
    | none => ry
   | none => ry
 | _, _ => ry
def tA (prev : List Nat) : List Oper → List Nat → List Nat
 | [], acc => acc
 | o :: os, acc => tA prev os (acc ++ [o.after.toList.foldl (fun s e => if Region.binds .any e then s ||| 2 ^ e.on ||| (if e.on < acc.length then acc.getD e.on 0 else prev.getD e.on 0) else s) 0])
def pv (os : List Oper) : List Nat := tA (tA (tA [] os []) os []) os []
def looks (n : Nat) (names : List String) (ops : Array Oper) (o : Oper) : List Nat := (iA P G n names ops o).aE
def Dn : AI → Bool
 | .op (.alloc ..) | .op .nF | .op (.dU ..) => true
 | _ => false
def order (news : Nat) (names : List String) (ops : Array Oper) : List (Nat × Bk) :=
 let n := ops.size
 let os := ops.toList
 let fl := os.map fun o => match cE P G names o with | some i => qz i | none => false
 let b := pv os
 let le (i j : Nat) : Bool := (b.getD j 0).testBit i
 let mk := os.map fun o => o.guard.isNone && (match cE P G names o with | some i => Dn i | none => false)
 let base := (List.range n).filter fun i => !fl.getD i false && !mk.getD i false
 let nw := mk.zipIdx.map fun (m, i) => m && (match news with | 0 => false | 1 => base.any fun e => !le e i && !le i e | _ => true)
 let effs0 := (List.range n).filter fun i => !fl.getD i false && !nw.getD i false
 let gO := (List.range effs0.length).filterMap fun k => effs0.find? fun i => (effs0.filter fun e => e != i && le e i).length == k
 let hiOf (i : Nat) : Nat := ((gO.zipIdx.find? fun (e, _) => le i e).map (·.2)).getD gO.length
 let loOf (i : Nat) : Nat := (gO.zipIdx.foldl (fun m (e, k) => if le e i then k + 1 else m) 0)
 let stage (j : Nat) : List (Nat × Bk) := (((List.range n).filter fun i => fl.getD i false && hiOf i == j).map fun i => (i, .rd (j - loOf i))) ++ (((List.range n).filter fun i => nw.getD i false && hiOf i == j).map fun i => (i, .new))
 (gO.zipIdx.flatMap fun (e, j) => stage j ++ [(e, .dL)]) ++ stage gO.length
end
def Ny : Bk → Bool
 | .dL => true
 | _ => false
def jf (le : Nat → Nat → Bool) : Bool → List (Nat × Bk) → List Nat → Bool
 | _, [], _ => true
 | _, (i, .dL) :: l, gO => (match gO with | [] => true | e :: _ => le e i) && jf le true l (i :: gO)
 | fl, (i, .rd n) :: l, gO => fl && (match gO.drop n with | [] => n == gO.length | e :: _ => le e i) && (match l.find? (fun x => Ny x.2) with | some (e, _) => le i e | none => true) && jf le true l gO
 | _, (i, .new) :: l, gO => (match l.find? (fun x => Ny x.2) with | some (e, _) => le i e | none => true) && jf le false l gO
def tD (n : Nat) (names : List String) (ops : Array Oper) (l : List (Nat × Bk)) (i : Nat) : Bk → Bool
 | .dL => true
 | .rd _ => match cE P G names (ops.getD i default) with | some x => qz x | none => false
 | .new => (ops.getD i default).guard.isNone && (match cE P G names (ops.getD i default) with | some x => Dn x | none => false) &&
  (ops.getD i default).dst.all fun t => l.all fun (j, k) => Ny k || !(looks P G n names ops (ops.getD j default)).contains t
def kx (n : Nat) (names : List String) (ops : Array Oper) (l : List (Nat × Bk)) : Bool :=
 let b := pv ops.toList
 let le (i j : Nat) : Bool := (b.getD j 0).testBit i
 l.length == ops.size && (l.all fun (i, _) => decide (i < ops.size)) && (List.range ops.size).all (fun i => l.any (·.1 == i)) && (l.zipIdx.all fun ((i, _), p) => l.zipIdx.all fun ((j, _), q) => i != j || p == q) &&
 (ops.toList.zipIdx.all fun (o, i) => o.after.all fun e => !Region.binds .any e || (decide (e.on < ops.size) && decide (b.getD e.on 0 < b.getD i 0))) &&
 (l.zipIdx.all fun ((i, k), p) => l.zipIdx.all fun ((j, k'), q) => !le i j || decide (p < q) || ((k matches .new) && (k' matches .rd _))) &&
 (l.all fun (i, k) => tD P G n names ops l i k) &&
 jf le true l [] &&
 (ops.toList.zipIdx.all fun (o, i) => (o.dst.all fun t => ops.toList.zipIdx.all fun (o', j) => i == j || o'.dst != some t)) &&
 (ops.toList.zipIdx.all fun (o, i) => (looks P G n names ops o).all fun t => ops.toList.zipIdx.all fun (o', j) => o'.dst != some t || i == j || le i j || le j i) &&
 (l.all fun (i, k) => !(k matches .new) || (looks P G n names ops (ops.getD i default)).all fun t => ops.toList.zipIdx.all fun (o', j) => o'.dst != some t || le j i)
def hasNext : Code → Bool
 | .region _ ops _ => ops.any fun o => match o.op with | .next _ false => true | _ => false
 | .seq a _ => hasNext a
 | _ => false
def gi (x y : Nat) (ops : Array Oper) : Array Oper := ops.modify y fun o => { o with after := o.after.push ⟨x, .data⟩ }
def xo : Op → Bool
 | .call c => match c.callee with | .builtin b => (match b with | .print | .println | .recover | .unsafeSizeof => false | _ => true) | _ => false
 | .go _ | .defer _ | .send .. | .recv .. | .select .. | .panic _ => false
 | _ => true
def Qy (names : List String) (o : Oper) : Bool := match cE P G names o with | some i => !qz i | none => true
def loose (names : List String) (ops : Array Oper) : Option (Nat × Nat) :=
 let b := pv ops.toList
 let le (i j : Nat) : Bool := (b.getD j 0).testBit i
 let gO := (List.range ops.size).filter fun i => (ops[i]?).any (Qy P G names)
 gO.findSome? fun i => gO.findSome? fun j => if i < j && !le i j && !le j i then some (i, j) else none
def ju (bad : Array Oper → AC) (n : Nat) (names : List String) (ops : Array Oper) : AC :=
 let l := order P G 0 names ops
 if kx P G n names ops l then .eH (l.map fun (i, b) => .mk b (iA P G n names ops (ops.getD i default))) else
 let l := order P G 1 names ops
 if kx P G n names ops l then .eH (l.map fun (i, b) => .mk b (iA P G n names ops (ops.getD i default))) else
 let l := order P G 2 names ops
 if kx P G n names ops l then .eH (l.map fun (i, b) => .mk b (iA P G n names ops (ops.getD i default))) else bad ops
def lI (next : Array Oper → AC) (names : List String) (ops : Array Oper) : AC := match loose P G names ops with
 | some (x, y) => if ops.all (fun o => xo o.op) && x != y && decide (x < ops.size) && decide (y < ops.size) then .alt (next (gi x y ops)) (next (gi y x ops)) else .bad 404
 | none => .bad 404
def pk (n : Nat) (names : List String) (ops : Array Oper) : AC := ju P G (lI P G (ju P G (lI P G (ju P G (fun _ => .bad 404) n names) names) n names) names) n names ops
def oo (n : Nat) (names : List String) (ops : Array Oper) (o : Oper) : GI := match cE P G names o, o.guard, kp G n o.dst with
 | none, some (j, w), some d => match (ops[j]?).bind (·.dst) with
  | some t => match G.sl t with
   | some s => .g (hi s) (lo s) w d (.op (.bad 405))
   | none => ry
  | none => ry
 | _, _, _ => iA P G n names ops o
def Tz : GI → Bool
 | .o .no (.op (.bad 400)) => true
 | _ => false
def TA : GI → Bool
 | .o .no (.op (.bad 400)) => true
 | .g _ _ _ _ (.op (.bad 405)) => true
 | _ => false
def rO (n : Nat) (names : List String) (ops : Array Oper) : AC :=
 let l := ops.toList.map fun o => oo P G n names ops o
 if l.any Tz && G.b.isNone then
  match (List.range 16).find? fun q => !((ops.toList.map fun o => oo P { G with b := some q } n names ops o).any TA) with
  | some q => .Ox q (ops.toList.map fun o => oo P { G with b := some q } n names ops o)
  | none => .ops l
 else .ops l
def cC (n : Nat) (names : List String) : Code → AC
 | .skip => .skip
 | .region _ ops false => rO P G n names ops
 | .region _ ops true => pk P G n names ops
 | .seq a b => .seq (cC n names a) (cC n names b)
 | .cond c a b => match cO G c with | some c => .cond c (cC n names a) (cC n names b) | none => .bad 401
 | .block i a => match a with
  | .loop b => if hasNext b then .join (.block i (.loop (cC n names b))) else .block i (.loop (cC n names b))
  | a => .block i (cC n names a)
 | .loop a => .loop (cC n names a)
 | .scope a => .scope (cC n names a)
 | .exit i => .exit i
 | .goto l => .goto l
 | .label l => .label l
 | .ret => .ret
 | .rangeFunc .. => .bad 402
 | .refuse _ => .bad 403
def Nv (n : Nat) (r : ResultVar) : Option Rs :=
 match r with
 | .tmp t => if t < 256 then some (.t (hi t) (lo t)) else none
 | .cell t ty => if (P.underlying ty).isNone then none else if t < 256 then some (if sj P ty then .agg (bq P ty) (hi t) (lo t) else .one (hi t) (lo t)) else none
def cF (names : List String) (f : Func) : AF :=
 match f.body, f.results.toList.mapM (Nv P f.ntmps) with
 | some c, some rs => if f.name == "runtime.NumGoroutine" then .none else .mk (cC P G f.ntmps names c) rs
 | _, _ => .none
end
end
noncomputable section
structure Kt where
 n : A2 → Hp → RS
 e : Nat → A2 → Hp → RS
 g : Nat → A2 → Hp → RS
 r : A2 → Hp → RS
def AI.lK (cf : Cf) (iv : Iv) (d : aQ) (k : A2 → Hp → RS) (r : A2) (h : Hp) : AI → RS
 | .op y => CU d k r (y.run r h)
 | .yk s x => stepT d k r (iZ s (ev x r) h)
 | .call f xs => stepT d k r (cf f (fY xs r) h)
 | .lz x xs => stepT d k r (AV.FR (ev x r) (fun f cs => cf f (List.append (fY xs r) cs) h) (.err 202))
 | .inv n x xs => stepT d k r (iv n (ev x r) (fY xs r) h)
def GI.lK (cf : Cf) (iv : Iv) (k : A2 → Hp → RS) (r : A2) (h : Hp) : GI → RS
 | .o d i => i.lK cf iv d k r h
 | .g a b w d i => AV.bn (gb w (aq a b r)) (fun t => @Bool.rec (fun _ => RS) (k (bN d aH r) h) (i.lK cf iv d k r h) (jW t w)) (.err 210)
def vi (cf : Cf) (iv : Iv) (k : A2 → Hp → RS) : List GI → A2 → Hp → RS
 | [] => k
 | i :: l => fun r h => i.lK cf iv (vi cf iv k l) r h
def Od (cf : Cf) (iv : Iv) (b : Bk) (d : aQ) (k : DK) (r : A2) (h g : Hp) (hs : List Hp) : AI → RS
 | .op y => @Bk.rec (fun _ => RS) (mZ d k r g hs (y.run r h).iU) (fun n => wZ d y n k r h g hs (y.run r g)) (Gz d k r g hs (y.run r h)) b
 | .yk s x => mZ d k r g hs (iZ s (ev x r) h)
 | .call f xs => mZ d k r g hs (cf f (fY xs r) h)
 | .lz x xs => mZ d k r g hs (AV.FR (ev x r) (fun f cs => cf f (List.append (fY xs r) cs) h) (.err 202))
 | .inv n x xs => mZ d k r g hs (iv n (ev x r) (fY xs r) h)
def DI.lK (cf : Cf) (iv : Iv) (k : DK) (r : A2) (h g : Hp) (hs : List Hp) : DI → RS
 | .mk b (.o d i) => Od cf iv b d k r h g hs i
 | .mk b (.g x y w d i) => AV.bn (gb w (aq x y r)) (fun t => @Bool.rec (fun _ => RS) (Lg b d k r h g hs) (Od cf iv b d k r h g hs i) (jW t w)) (.err 212)
def pf (cf : Cf) (iv : Iv) (k : A2 → Hp → RS) : List DI → DK
 | [] => fun r h _ _ => k r h
 | i :: l => fun r h g hs => i.lK cf iv (pf cf iv k l) r h g hs
def den (cf : Cf) (iv : Iv) : AC → Kt → A2 → Hp → RS
 | .skip, K => K.n
 | .ops l, K => vi cf iv K.n l
 | .eH l, K => fun r h => pf cf iv K.n l r h h []
 | .seq a b, K => den cf iv a ⟨den cf iv b K, K.e, K.g, K.r⟩
 | .cond c a b, K => fun r h => AV.bn (ev c r) (fun t => @Bool.rec (fun _ => RS) (den cf iv b K r h) (den cf iv a K r h) t) (.err 213)
 | .block i a, K => den cf iv a ⟨K.n, fun j r h => @Bool.rec (fun _ => RS) (K.e j r h) (K.n r h) (Nat.beq j i), K.g, K.r⟩
 | .exit i, K => K.e i
 | .goto l, K => K.g l
 | .ret, K => K.r
 | _, _ => fun _ _ => .err 310
def xv (cf : Cf) (iv : Iv) (K : Kt) (T : A2 → Hp → RS) : Nat → AC → A2 → Hp → RS
 | 0, _ => T
 | k + 1, .seq a b => den cf iv a ⟨xv cf iv K T k b, K.e, K.g, K.r⟩
 | _ + 1, c => den cf iv c K
def kA : Nat → AC → AC
 | 0, c => c
 | k + 1, .seq _ b => kA k b
 | _ + 1, _ => .skip
def rA : AC → Bool
 | .seq a b => rA a && rA b
 | .label _ => false
 | .ag _ _ => false
 | _ => true
def lJ : Nat → AC → Bool
 | 0, _ => true
 | k + 1, .seq a b => rA a && lJ k b
 | _ + 1, c => rA c
def bM (r : A2) : List Nat → A2
 | [] => .nil
 | t :: L => if t < 256 then jn (dC (t / 16)) (dC (t % 16)) (aq (dC (t / 16)) (dC (t % 16)) r) (bM r L) else bM r L
def ou (L Lr : List Nat) : Kt := ⟨fun r h => .nm (bM r L) h, fun i r h => .ex i (bM r L) h, fun l r h => .go l (bM r L) h, fun r h => .ret (bM r Lr) h⟩
def hG (c : AC) (k : Nat) (Lin L Lr Lx : List Nat) : Cf → Iv → (A2 → Hp → RS) → A2 → Hp → RS :=
 fun cf iv rx r h => xv cf iv (ou L Lr) (fun r h => rx (bM r Lx) h) k c (bM r Lin) h
inductive Impl : AC → AC → Prop
 | refl (c : AC) : Impl c c
 | seq {a a' b b' : AC} : Impl a a' → Impl b b' → Impl (.seq a b) (.seq a' b')
 | cond {o : AO} {a a' b b' : AC} : Impl a a' → Impl b b' → Impl (.cond o a b) (.cond o a' b')
 | block {i : Nat} {a a' : AC} : Impl a a' → Impl (.block i a) (.block i a')
 | loop {a a' : AC} : Impl a a' → Impl (.loop a) (.loop a')
 | scope {a a' : AC} : Impl a a' → Impl (.scope a) (.scope a')
 | join {i : Nat} {a a' : AC} : Impl a a' → Impl (.join (.block i (.loop a))) (.join (.block i (.loop a')))
 | SX {i : Nat} {a a' : AC} : Impl a a' → Impl (.join (.block i a)) (.block i a')
 | bad {c : AC} (n : Nat) : rA c = true → Impl c (.bad n)
 | ag {c x : AC} {f : Cf → Iv → (A2 → Hp → RS) → A2 → Hp → RS} (k : Nat) (Lin L Lr Lx : List Nat) : lJ k c = true → f = hG c k Lin L Lr Lx → Impl (kA k c) x → Impl c (.ag f x)
end
noncomputable section
def PH (x : AF) : AC := match x with | .none => .skip | .mk b _ => b | .oV _ b _ => b | .Nq b _ => b | .ext _ => .skip
def gL (c : AC) : AC := match c with | .seq a _ => a | .cond _ a _ => a | .block _ a => a | .loop a => a | .scope a => a | .join a => a | c => c
def gR (c : AC) : AC := match c with | .seq _ b => b | .cond _ _ b => b | c => c
theorem aZ {c a' b' : AC} (a b : AC) (ha : Impl a a') (hb : Impl b b') (e : c = .seq a b := by kernel_rfl) : Impl c (.seq a' b') := e ▸ .seq ha hb
theorem IK {o : AO} {c a' b' : AC} (a b : AC) (ha : Impl a a') (hb : Impl b b') (e : c = .cond o a b := by kernel_rfl) : Impl c (.cond o a' b') := e ▸ .cond ha hb
theorem fD {i : Nat} {c a' : AC} (a : AC) (ha : Impl a a') (e : c = .block i a := by kernel_rfl) : Impl c (.block i a') := e ▸ .block ha
theorem ji {c a' : AC} (a : AC) (ha : Impl a a') (e : c = .loop a := by kernel_rfl) : Impl c (.loop a') := e ▸ .loop ha
theorem Sf {c a a' : AC} (e : c = .scope a) (ha : Impl a a') : Impl c (.scope a') := e ▸ .scope ha
theorem TS {i : Nat} {c a a' : AC} (e : c = .join (.block i (.loop a))) (ha : Impl a a') : Impl c (.join (.block i (.loop a'))) := e ▸ .join ha
theorem TU {i : Nat} {c a a' : AC} (e : c = .join (.block i a)) (ha : Impl a a') : Impl c (.block i a') := e ▸ .SX ha
theorem cq {c x : AC} (e : c = x := by kernel_rfl) : Impl c x := e ▸ .refl _
theorem TT {c : AC} {n : Nat} (e : rA c = true) : Impl c (.bad n) := .bad n e
theorem aL {c x : AC} {f : Cf → Iv → (A2 → Hp → RS) → A2 → Hp → RS} (d : AC) (k : Nat) (Lin L Lr Lx : List Nat) (h : Impl d x) (e : (lJ k c, kA k c, f) = (true, d, hG c k Lin L Lr Lx) := by kernel_rfl) : Impl c (.ag f x) := by
 have e1 : lJ k c = true := congrArg (·.1) e
 have e2 : kA k c = d := congrArg (·.2.1) e
 have e3 : f = hG c k Lin L Lr Lx := congrArg (·.2.2) e
 exact .ag k Lin L Lr Lx e1 e3 (e2 ▸ h)
theorem aI {c : AC} {f : Cf → Iv → (A2 → Hp → RS) → A2 → Hp → RS} (k : Nat) (Lin L Lr Lx : List Nat) (e : (lJ k c, kA k c, f) = (true, .skip, hG c k Lin L Lr Lx) := by kernel_rfl) : Impl c (.ag f .skip) := aL .skip k Lin L Lr Lx (.refl _) e
end
end Go.Am
