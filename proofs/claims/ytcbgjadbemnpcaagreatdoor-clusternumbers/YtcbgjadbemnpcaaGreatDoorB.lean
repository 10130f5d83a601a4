/- What code of the abstract machine a Go function is, and what loop-free code means. Nothing is asked. -/
import Derived.Test.YtcbgjadbemnpcaaGreatDoorA
import GoSem.Step
import Derived.Orders
import Derived.KernelRfl
set_option linter.all false
namespace Go.Am
set_option linter.unusedVariables false
noncomputable section
def AO.regs : AO → List Nat
  | .t a b => [16 * a.nat + b.nat]
  | .c _ => []
def OA.regs : OA → List Nat
  | .none => []
  | .some x => x.regs
def Part.regs : Part → List Nat
  | .mk _ _ x => x.regs
def regsL (l : List AO) : List Nat := l.flatMap AO.regs
def AOp.regs : AOp → List Nat
  | .mv x => x.regs
  | .pick c a b => c.regs ++ (a.regs ++ b.regs)
  | .alloc .. => []
  | .box _ x => x.regs
  | .build _ ps => ps.flatMap Part.regs
  | .bslice _ _ _ _ ps => ps.flatMap Part.regs
  | .ld1 x => x.regs
  | .ldn _ x => x.regs
  | .st1 x y => x.regs ++ y.regs
  | .stn _ x y => x.regs ++ y.regs
  | .nilc x => x.regs
  | .bin _ x y => x.regs ++ y.regs
  | .un _ x => x.regs
  | .conv _ x => x.regs
  | .mki _ x => x.regs
  | .mkf _ xs => regsL xs
  | .mkmap => []
  | .mkslice _ _ l c => l.regs ++ c.regs
  | .slc _ x lo hi mx => x.regs ++ (lo.regs ++ (hi.regs ++ mx.regs))
  | .slcs x lo hi => x.regs ++ (lo.regs ++ hi.regs)
  | .slca _ _ x lo hi mx => x.regs ++ (lo.regs ++ (hi.regs ++ mx.regs))
  | .fad _ x => x.regs
  | .fld1 _ x => x.regs
  | .fldn _ _ x => x.regs
  | .ixs _ x y => x.regs ++ y.regs
  | .ixa _ _ x y => x.regs ++ y.regs
  | .idxs x y => x.regs ++ y.regs
  | .idxa _ _ _ x y => x.regs ++ y.regs
  | .ext _ x => x.regs
  | .lkp _ _ _ x y => x.regs ++ y.regs
  | .mup _ x y z => x.regs ++ (y.regs ++ z.regs)
  | .del _ x y => x.regs ++ y.regs
  | .lenm x => x.regs
  | .len x => x.regs
  | .lent x => x.regs
  | .cap x => x.regs
  | .max _ xs => regsL xs
  | .app _ _ x y => x.regs ++ y.regs
  | .apps _ x y => x.regs ++ y.regs
  | .cpy _ x y => x.regs ++ y.regs
  | .clr _ x => x.regs
  | .rngs x => x.regs
  | .rngm x => x.regs
  | .ent x => x.regs
  | .tas _ _ _ x => x.regs
  | .cplx _ x y => x.regs ++ y.regs
  | .real _ x => x.regs
  | .ussd x => x.regs
  | .ustr _ x y => x.regs ++ y.regs
  | .ment _ _ x y => x.regs ++ y.regs
  | .esto x y z => x.regs ++ y.regs ++ z.regs
  | .appz _ _ _ x y => x.regs ++ y.regs
  | .bad _ => []
def AI.regs : AI → List Nat
  | .op o => o.regs
  | .nxt _ x => x.regs
  | .call _ xs => regsL xs
  | .calld x xs => x.regs ++ regsL xs
  | .inv _ x xs => x.regs ++ regsL xs
def GI.regs : GI → List Nat
  | .o _ i => i.regs
  | .g a b _ _ i => (16 * a.nat + b.nat) :: i.regs
structure Gl where
  n : Nat
  sy : List (P4 × Nat)
  b : Option Nat
instance : OfNat Gl 0 := ⟨⟨0, [], none⟩⟩
def Gl.sl (G : Gl) (t : Nat) : Option Nat := match G.b with
  | none => if t < 256 then some t else none
  | some q => if t < 16 * q then (if t < 256 then some t else none) else if t < 16 * q + 16 then none else if t < 272 then some (t - 16) else none
def Gl.tm (G : Gl) (s : Nat) : Nat := match G.b with
  | none => s
  | some q => if s < 16 * q then s else s + 16
section
variable (P : Program) (G : Gl)
def hi (n : Nat) : H := dig (n / 16)
def lo (n : Nat) : H := dig (n % 16)
def P4.of (n : Nat) : P4 := .mk (dig (n / 4096)) (dig (n / 256 % 16)) (dig (n / 16 % 16)) (dig (n % 16))
def toAV : Value → Option AV
  | .bool b => some (.bool b)
  | .int k n => some (.int k n)
  | .float k n => some (.flt k n)
  | .complex k a b => some (.cplx k a b)
  | .string s => some (.str (s.data.toList.map (·.toNat)))
  | .pointer none => some .nilp
  | .slice none 0 0 => some .nils
  | .map none => some .nilm
  | .func (.func f) ⟨[]⟩ ⟨[]⟩ => some (.fn f [])
  | .nilFunc => some .nilf
  | .nilIface => some .nili
  | _ => none
def toAV2 (v : Value) : Option AV :=
  match v with
  | .agg cs => (cs.toList.mapM toAV).map .agg
  | .iface t v => (toAV v).map (.iface t)
  | v => toAV v
def cO : Operand → Option AO
  | .tmp t => (G.sl t).map fun s => .t (hi s) (lo s)
  | .const v => (toAV2 v).map .c
  | .global g => if g < G.n then some (.c (.ptr (P4.of g) 0)) else none
  | .func f => some (.c (.fn f []))
def cOA : Option Operand → Option OA
  | none => some .none
  | some x => (cO G x).map .some
def und (t : TypeId) : TypeDesc := (P.underlying t).getD .invalid
def isA (t : TypeId) : Bool := match und P t with | .struct _ | .array .. => true | _ => false
def szOf (t : TypeId) : Nat := P.cellsOf t
def zeros (t : TypeId) : Option (List AV) := ((P.info? t).bind (·.zero)).bind fun z => z.cells.toList.mapM toAV
def zeroAV (t : TypeId) : Option AV := ((P.info? t).bind (·.zero)).bind toAV2
def nilC : Operand → Bool
  | .const .nilIface | .const (.pointer none) | .const (.slice none 0 0) | .const (.map none) | .const .nilFunc => true
  | _ => false
def nilK : NK → Operand → Bool
  | .s, .const (.slice none 0 0) => true
  | .m, .const (.map none) => true
  | .f, .const .nilFunc => true
  | .i, .const .nilIface => true
  | _, _ => false
def growOK (e : TypeId) : Bool := match P.info? e with
  | some i => (match i.zero with | some z => z.cells.size == i.size | none => false) && Nat.ble i.bytes 1048576
  | none => false
def kindT (t : TypeId) : Option KK := match P.underlying t with
  | some .bool => some .b
  | some (.int _) => some .i
  | some .string => some .s
  | some (.pointer e) => match P.info? e with
    | some ie => if ie.size = 0 then none else some .p
    | none => none
  | _ => none
def flatF : List Field → Nat → Option (List KK)
  | [], _ => some []
  | f :: fs, i => if f.name = "_" ∨ f.offset ≠ i then none else
    match kindT P f.type, flatF fs (i + 1) with
    | some k, some ks => some (k :: ks)
    | _, _ => none
def flatK (t : TypeId) : Option (List KK) := match P.underlying t with
  | some (.struct fs) => if P.stoodInHeld t then none else flatF P fs.toList 0
  | _ => none
def keyT (t : TypeId) : Option KT := match P.underlying t with
  | some .bool => some (.one .b)
  | some (.int _) => some (.one .i)
  | some .string => some (.one .s)
  | some (.struct _) => (flatK P t).map .agg
  | _ => none
def mapK (t : TypeId) : Option KT := match P.underlying t with
  | some (.map k _) => keyT P k
  | _ => none
def cBin (op : BinOp) (t : TypeId) (x y : Operand) : Option BK :=
  match und P t, op with
  | .int _, .add => some .add | .int _, .sub => some .sub | .int _, .mul => some .mul | .int _, .quo => some .quo | .int _, .rem => some .rem
  | .int _, .and => some .and | .int _, .or => some .or | .int _, .xor => some .xor | .int _, .andNot => some .andn | .int _, .shl => some .shl | .int _, .shr => some .shr
  | .int _, .eql => some .eq | .int _, .neq => some .ne | .int _, .lss => some .lt | .int _, .leq => some .le | .int _, .gtr => some .gt | .int _, .geq => some .ge
  | .string, .eql => some .seq | .string, .neq => some .sne | .string, .lss => some .slt | .string, .leq => some .sle | .string, .gtr => some .sgt | .string, .geq => some .sge | .string, .add => some .cat
  | .bool, .eql => some .beq
  | .bool, .neq => some .bne
  | .pointer e, .eql => if szOf P e = 0 then none else some .peq
  | .pointer e, .neq => if szOf P e = 0 then none else some .pne
  | .slice _, .eql => if nilK .s y then some (.isnil .s) else none
  | .slice _, .neq => if nilK .s y then some (.nonil .s) else none
  | .map .., .eql => if nilK .m y then some (.isnil .m) else none
  | .map .., .neq => if nilK .m y then some (.nonil .m) else none
  | .func .., .eql => if nilK .f y then some (.isnil .f) else none
  | .func .., .neq => if nilK .f y then some (.nonil .f) else none
  | .interface _, .eql => if nilK .i y then some (.isnil .i) else none
  | .interface _, .neq => if nilK .i y then some (.nonil .i) else none
  | .struct _, .eql => if P.eqGuardType P.depth t then none else (flatK P t).map .aeq
  | .struct _, .neq => if P.eqGuardType P.depth t then none else (flatK P t).map .ane
  | .float _, op => some (.fop op)
  | .complex _, op => some (.cop op)
  | _, _ => none
def cParts (n : Nat) (place : Nat → Option (Nat × Nat)) (ps : List (Nat × Operand)) : Option (List Part) :=
  ps.mapM fun (i, x) => do
    let (off, sz) ← place i
    if off + sz ≤ n then some (.mk off sz (← cO G x)) else none
def cConv (s d : TypeId) : Option CK :=
  match und P s, und P d with
  | .int _, .int k => some (.toInt k)
  | .string, .string => some .same
  | .pointer e, .unsafePointer => if szOf P e = 0 then none else some .uto
  | .unsafePointer, .pointer u => if szOf P u = 0 || !liesAt P P.depth u 1 0 u 1 then none else some (.ufrom u (szOf P u))
  | .string, .slice e => match und P e with | .int .u8 => some (.s2b e) | _ => none
  | .slice e, .string => match und P e with | .int .u8 => some .b2s | _ => none
  | .int _, .float k => some (.i2f k)
  | .float _, .int k => some (.f2i k)
  | _, _ => none
def cBuiltin (b : Builtin) (ts : List TypeId) (xs : List AO) : Option AOp :=
  match b, ts, xs with
  | .len, t :: _, [x] => match und P t with
    | .string => some (.lent x)
    | .slice _ => some (.len x)
    | .map .. => some (.lenm x)
    | .array n _ => some (.mv (.c (.int .i64 n)))
    | .pointer a => match und P a with | .array n _ => some (.mv (.c (.int .i64 n))) | _ => none
    | _ => none
  | .cap, t :: _, [x] => match und P t with
    | .slice _ => some (.cap x)
    | .array n _ => some (.mv (.c (.int .i64 n)))
    | _ => none
  | .append, [t, u], [x, y] => match und P t, und P u with
    | .slice e, .string => if szOf P e = 1 && growOK P e then some (.apps e x y) else none
    | .slice e, .slice _ => if szOf P e = 0 || !growOK P e then none else some (.app e (szOf P e) x y)
    | .slice e, .int _ => if szOf P e = 0 || !growOK P e then none else (zeros P e).bind fun z => if z.length ≠ szOf P e then none else some (.appz e (szOf P e) z x y)
    | _, _ => none
  | .copy, t :: _, [x, y] => match und P t with | .slice e => if szOf P e = 0 then none else some (.cpy (szOf P e) x y) | _ => none
  | .clear, t :: _, [x] => match und P t with | .slice e => if szOf P e = 0 then none else (zeros P e).bind fun z => if z.length ≠ szOf P e then none else some (.clr z x) | _ => none
  | .delete, t :: _, [x, y] => do some (.del (← mapK P t) x y)
  | .max, _, xs => some (.max false xs)
  | .min, _, xs => some (.max true xs)
  | .unsafeSliceData, _, [x] => some (.ussd x)
  | .real, _, [x] => some (.real false x)
  | .imag, _, [x] => some (.real true x)
  | .unsafeString, t :: _, [x, y] => match und P t with | .pointer e => if szOf P e = 1 then some (.ustr e x y) else none | _ => none
  | .complex, t :: _, [x, y] => match und P t with | .float k => some (.cplx k x y) | _ => none
  | _, _, _ => none
def nameNo (names : List String) (s : String) : Option Nat := names.findIdx? (· == s)
def cOp (names : List String) (o : Oper) : Option AI :=
  match o.op with
  | .move x | .assign x => do some (.op <| .mv (← cO G x))
  | .pick c a b => do some (.op <| .pick (← cO G c) (← cO G a) (← cO G b))
  | .alloc e => do let z ← zeros P e; some (.op <| .alloc e z.length (cof z))
  | .box e x => do some (.op <| .box e (← cO G x))
  | .build t ps => do
    let z ← zeros P t
    match und P t with
    | .struct fs => do if fs.all (fun f => (P.info? f.type).isSome) then some (.op <| .build z (← cParts G z.length (fun i => (fs[i]?).map fun f => (f.offset, szOf P f.type)) ps.toList)) else none
    | .array _ e => do if (P.info? e).isSome then some (.op <| .build z (← cParts G z.length (fun i => some (i * szOf P e, szOf P e)) ps.toList)) else none
    | _ => none
  | .buildSlice t n ps => do
    let .slice e := und P t | none
    let z ← zeros P e
    if szOf P e = 0 ∨ z.length ≠ szOf P e then none
    some (.op <| .bslice e (szOf P e) n (lrep n z) (← cParts G (n * szOf P e) (fun i => some (i * szOf P e, szOf P e)) ps.toList))
  | .load t x => do
    if (P.underlying t).isNone then none
    if isA P t then some (.op <| .ldn (szOf P t) (← cO G x)) else some (.op <| .ld1 (← cO G x))
  | .store t x y => do
    if (P.info? t).isNone then none
    if isA P t then some (.op <| .stn (szOf P t) (← cO G x) (← cO G y)) else if szOf P t = 1 then some (.op <| .st1 (← cO G x) (← cO G y)) else none
  | .nilCheck x => do some (.op <| .nilc (← cO G x))
  | .binOp op t x y _ => match cBin P op t x y with
    | some k => do some (.op <| .bin k (← cO G x) (← cO G y))
    | none => match cBin P op t y x with
      | some (.isnil k) => do some (.op <| .bin (.isnil k) (← cO G y) (← cO G x))
      | some (.nonil k) => do some (.op <| .bin (.nonil k) (← cO G y) (← cO G x))
      | _ => none
  | .unOp op _ x => match op with
    | .not => do some (.op <| .un .not (← cO G x))
    | .neg => do some (.op <| .un .neg (← cO G x))
    | .xor => do some (.op <| .un .com (← cO G x))
    | .plus => none
  | .convert s d x => do some (.op <| .conv (← cConv P s d) (← cO G x))
  | .makeInterface t x => match P.underlying t with
    | none | some (.interface _) => none
    | _ => do some (.op <| .mki t (← cO G x))
  | .makeFunc (.func f) first captured => do if first.isEmpty then some (.op <| .mkf f (← captured.toList.mapM (cO G))) else none
  | .makeMap _ none => some (.op .mkmap)
  | .makeMap t (some (.const (.int _ _))) => match und P t with | .map .. => some (.op .mkmap) | _ => none
  | .makeSlice t l c => do
    let .slice e := und P t | none
    let z ← zeros P e
    if szOf P e = 0 ∨ z.length ≠ szOf P e ∨ growOK P e = false then none
    some (.op <| .mkslice e z (← cO G l) (← cO G c))
  | .slice t x l h m => match und P t with
    | .string => do if m.isSome then none else some (.op <| .slcs (← cO G x) (← cOA G l) (← cOA G h))
    | .slice e => do if szOf P e = 0 ∨ (m.isSome ∧ h.isNone) then none else some (.op <| .slc (szOf P e) (← cO G x) (← cOA G l) (← cOA G h) (← cOA G m))
    | .array n e => do if (m.isSome ∧ h.isNone) ∨ (P.info? e).isNone then none else some (.op <| .slca n (szOf P e) (← cO G x) (← cOA G l) (← cOA G h) (← cOA G m))
    | _ => none
  | .fieldAddr t x f => do
    let .struct fs := und P t | none
    let fd ← fs[f]?
    if szOf P fd.type = 0 then none
    some (.op <| .fad fd.offset (← cO G x))
  | .field t x f => do
    let .struct fs := und P t | none
    let fd ← fs[f]?
    if (P.underlying fd.type).isNone then none
    if isA P fd.type then some (.op <| .fldn fd.offset (szOf P fd.type) (← cO G x)) else some (.op <| .fld1 fd.offset (← cO G x))
  | .indexAddr t x i => match und P t with
    | .array n e => do if (P.info? e).isNone then none else some (.op <| .ixa n (szOf P e) (← cO G x) (← cO G i))
    | .slice e => do if (P.info? e).isNone then none else some (.op <| .ixs (szOf P e) (← cO G x) (← cO G i))
    | _ => none
  | .index t x i => match und P t with
    | .string => do some (.op <| .idxs (← cO G x) (← cO G i))
    | .array n e => do if (P.underlying e).isNone then none else some (.op <| .idxa n (szOf P e) (isA P e) (← cO G x) (← cO G i))
    | _ => none
  | .lookup t x i ok => do
    let .map _ e := und P t | none
    some (.op <| .lkp (← mapK P t) (← zeroAV P e) ok (← cO G x) (← cO G i))
  | .mapUpdate t m k x | .insert t m k x => do some (.op <| .mup (← mapK P t) (← cO G m) (← cO G k) (← cO G x))
  | .range t x => match und P t with
    | .map .. => do some (.op <| .rngm (← cO G x))
    | _ => none
  | .next x s => do if s then none else some (.nxt s (← cO G x))
  | .entry x => do some (.op <| .ent (← cO G x))
  | .typeAssert x _ t ok => do
    if (und P t matches .interface _) ∨ (P.underlying t).isNone then none
    some (.op <| .tas t (← zeroAV P t) ok (← cO G x))
  | .extract x i => do some (.op <| .ext i (← cO G x))
  | .call c => do
    let xs ← c.args.toList.mapM (cO G)
    match c.callee with
    | .builtin b => (cBuiltin P b c.argTypes.toList xs).map .op
    | .value (.func f) => some (AI.call f xs)
    | .value x => do some (AI.calld (← cO G x) xs)
    | .invoke x name => do some (AI.inv (← nameNo names name) (← cO G x) xs)
  | .mapEntry t m k => do
    let .map _ e := und P t | none
    some (.op <| .ment (← mapK P t) (← zeroAV P e) (← cO G m) (← cO G k))
  | .entryStore _ m k x => do some (.op <| .esto (← cO G m) (← cO G k) (← cO G x))
  | _ => none
inductive KO where
  | pure | read | make | eff
  deriving DecidableEq
def kindOp : AOp → KO
  | .ld1 _ | .ldn .. | .lkp .. | .lenm _ => .read
  | .conv .b2s _ => .read
  | .conv .uto _ | .conv (.ufrom ..) _ => .read
  | .alloc .. | .box .. | .bslice .. | .mkmap | .mkslice .. | .rngs _ | .rngm _ => .make
  | .conv (.s2b _) _ | .conv (.s2r _) _ => .make
  | .st1 .. | .stn .. | .mup .. | .del .. | .app .. | .apps .. | .cpy .. | .clr .. | .ent _ | .ustr .. | .ment .. | .esto .. | .appz .. => .eff
  | .bad _ => .eff
  | _ => .pure
def kindI : AI → KO
  | .op o => kindOp o
  | _ => .eff
def floats : AI → Bool
  | .op o => match kindOp o with | .pure | .read => true | _ => false
  | _ => false
section
variable (n : Nat)
def cDst : Option Tmp → Option Dst
  | none => some .no
  | some t => match G.sl t with
    | some s => if t < n then some (.t (hi s) (lo s)) else none
    | none => none
def badGI : GI := .o .no (.op (.bad 400))
def cGI (names : List String) (ops : Array Oper) (o : Oper) : GI :=
  match cDst G n o.dst, cOp P G names o with
  | some d, some op => match o.guard with
    | none => .o d op
    | some (j, w) => match (ops[j]?).bind (·.dst) with
      | some t => match G.sl t with
        | some s => .g (hi s) (lo s) w d op
        | none => badGI
      | none => badGI
  | _, _ => badGI
def masksP (prev : List Nat) : List Oper → List Nat → List Nat
  | [], acc => acc
  | o :: os, acc => masksP prev os (acc ++ [o.after.toList.foldl (fun s e => if Region.binds .any e then s ||| 2 ^ e.on ||| (if e.on < acc.length then acc.getD e.on 0 else prev.getD e.on 0) else s) 0])
def masks (os : List Oper) : List Nat := masksP (masksP (masksP [] os []) os []) os []
def looks (n : Nat) (names : List String) (ops : Array Oper) (o : Oper) : List Nat := (cGI P G n names ops o).regs
def isNew : AI → Bool
  | .op (.alloc ..) | .op .mkmap | .op (.bslice ..) => true
  | _ => false
def order (news : Nat) (names : List String) (ops : Array Oper) : List (Nat × Bk) :=
  let n := ops.size
  let os := ops.toList
  let fl := os.map fun o => match cOp P G names o with | some i => floats i | none => false
  let b := masks os
  let le (i j : Nat) : Bool := (b.getD j 0).testBit i
  let mk := os.map fun o => o.guard.isNone && (match cOp P G names o with | some i => isNew i | none => false)
  let base := (List.range n).filter fun i => !fl.getD i false && !mk.getD i false
  let nw := mk.zipIdx.map fun (m, i) => m && (match news with | 0 => false | 1 => base.any fun e => !le e i && !le i e | _ => true)
  let effs0 := (List.range n).filter fun i => !fl.getD i false && !nw.getD i false
  let effs := (List.range effs0.length).filterMap fun k => effs0.find? fun i => (effs0.filter fun e => e != i && le e i).length == k
  let hiOf (i : Nat) : Nat := ((effs.zipIdx.find? fun (e, _) => le i e).map (·.2)).getD effs.length
  let loOf (i : Nat) : Nat := (effs.zipIdx.foldl (fun m (e, k) => if le e i then k + 1 else m) 0)
  let stage (j : Nat) : List (Nat × Bk) := (((List.range n).filter fun i => fl.getD i false && hiOf i == j).map fun i => (i, .rd (j - loOf i))) ++ (((List.range n).filter fun i => nw.getD i false && hiOf i == j).map fun i => (i, .new))
  (effs.zipIdx.flatMap fun (e, j) => stage j ++ [(e, .eff)]) ++ stage effs.length
end
def isE : Bk → Bool
  | .eff => true
  | _ => false
def okSeq (le : Nat → Nat → Bool) : Bool → List (Nat × Bk) → List Nat → Bool
  | _, [], _ => true
  | _, (i, .eff) :: l, effs => (match effs with | [] => true | e :: _ => le e i) && okSeq le true l (i :: effs)
  | fl, (i, .rd n) :: l, effs => fl && (match effs.drop n with | [] => n == effs.length | e :: _ => le e i) && (match l.find? (fun x => isE x.2) with | some (e, _) => le i e | none => true) && okSeq le true l effs
  | _, (i, .new) :: l, effs => (match l.find? (fun x => isE x.2) with | some (e, _) => le i e | none => true) && okSeq le false l effs
def okKind (n : Nat) (names : List String) (ops : Array Oper) (l : List (Nat × Bk)) (i : Nat) : Bk → Bool
  | .eff => true
  | .rd _ => match cOp P G names (ops.getD i default) with | some x => floats x | none => false
  | .new => (ops.getD i default).guard.isNone && (match cOp P G names (ops.getD i default) with | some x => isNew x | none => false) &&
    (ops.getD i default).dst.all fun t => l.all fun (j, k) => isE k || !(looks P G n names ops (ops.getD j default)).contains t
def okDraw (n : Nat) (names : List String) (ops : Array Oper) (l : List (Nat × Bk)) : Bool :=
  let b := masks ops.toList
  let le (i j : Nat) : Bool := (b.getD j 0).testBit i
  l.length == ops.size && (l.all fun (i, _) => decide (i < ops.size)) && (List.range ops.size).all (fun i => l.any (·.1 == i)) && (l.zipIdx.all fun ((i, _), p) => l.zipIdx.all fun ((j, _), q) => i != j || p == q) &&
  (ops.toList.zipIdx.all fun (o, i) => o.after.all fun e => !Region.binds .any e || (decide (e.on < ops.size) && decide (b.getD e.on 0 < b.getD i 0))) &&
  (l.zipIdx.all fun ((i, k), p) => l.zipIdx.all fun ((j, k'), q) => !le i j || decide (p < q) || ((k matches .new) && (k' matches .rd _))) &&
  (l.all fun (i, k) => okKind P G n names ops l i k) &&
  okSeq le true l [] &&
  (ops.toList.zipIdx.all fun (o, i) => (o.dst.all fun t => ops.toList.zipIdx.all fun (o', j) => i == j || o'.dst != some t)) &&
  (ops.toList.zipIdx.all fun (o, i) => (looks P G n names ops o).all fun t => ops.toList.zipIdx.all fun (o', j) => o'.dst != some t || i == j || le i j || le j i) &&
  (l.all fun (i, k) => !(k matches .new) || (looks P G n names ops (ops.getD i default)).all fun t => ops.toList.zipIdx.all fun (o', j) => o'.dst != some t || le j i)
def hasNext : Code → Bool
  | .region _ ops _ => ops.any fun o => match o.op with | .next _ false => true | _ => false
  | .seq a _ => hasNext a
  | _ => false
def edge (x y : Nat) (ops : Array Oper) : Array Oper := ops.modify y fun o => { o with after := o.after.push ⟨x, .data⟩ }
def flatOp : Op → Bool
  | .call c => match c.callee with | .builtin b => (match b with | .print | .println | .recover | .unsafeSizeof => false | _ => true) | _ => false
  | .go _ | .defer _ | .send .. | .recv .. | .select .. | .panic _ => false
  | _ => true
def isEffO (names : List String) (o : Oper) : Bool := match cOp P G names o with | some i => !floats i | none => true
def loose (names : List String) (ops : Array Oper) : Option (Nat × Nat) :=
  let b := masks ops.toList
  let le (i j : Nat) : Bool := (b.getD j 0).testBit i
  let effs := (List.range ops.size).filter fun i => (ops[i]?).any (isEffO P G names)
  effs.findSome? fun i => effs.findSome? fun j => if i < j && !le i j && !le j i then some (i, j) else none
def dalX (bad : Array Oper → AC) (n : Nat) (names : List String) (ops : Array Oper) : AC :=
  let l := order P G 0 names ops
  if okDraw P G n names ops l then .drw (l.map fun (i, b) => .mk b (cGI P G n names ops (ops.getD i default))) else
  let l := order P G 1 names ops
  if okDraw P G n names ops l then .drw (l.map fun (i, b) => .mk b (cGI P G n names ops (ops.getD i default))) else
  let l := order P G 2 names ops
  if okDraw P G n names ops l then .drw (l.map fun (i, b) => .mk b (cGI P G n names ops (ops.getD i default))) else bad ops
def dalA (next : Array Oper → AC) (names : List String) (ops : Array Oper) : AC := match loose P G names ops with
  | some (x, y) => if ops.all (fun o => flatOp o.op) && x != y && decide (x < ops.size) && decide (y < ops.size) then .alt (next (edge x y ops)) (next (edge y x ops)) else .bad 404
  | none => .bad 404
def dalC (n : Nat) (names : List String) (ops : Array Oper) : AC := dalX P G (dalA P G (dalX P G (dalA P G (dalX P G (fun _ => .bad 404) n names) names) n names) names) n names ops
def cGJ (n : Nat) (names : List String) (ops : Array Oper) (o : Oper) : GI := match cOp P G names o, o.guard, cDst G n o.dst with
  | none, some (j, w), some d => match (ops[j]?).bind (·.dst) with
    | some t => match G.sl t with
      | some s => .g (hi s) (lo s) w d (.op (.bad 405))
      | none => badGI
    | none => badGI
  | _, _, _ => cGI P G n names ops o
def badG : GI → Bool
  | .o .no (.op (.bad 400)) => true
  | _ => false
def badJ : GI → Bool
  | .o .no (.op (.bad 400)) => true
  | .g _ _ _ _ (.op (.bad 405)) => true
  | _ => false
def regC (n : Nat) (names : List String) (ops : Array Oper) : AC :=
  let l := ops.toList.map fun o => cGJ P G n names ops o
  if l.any badG && G.b.isNone then
    match (List.range 16).find? fun q => !((ops.toList.map fun o => cGJ P { G with b := some q } n names ops o).any badJ) with
    | some q => .opsb q (ops.toList.map fun o => cGJ P { G with b := some q } n names ops o)
    | none => .ops l
  else .ops l
def cC (n : Nat) (names : List String) : Code → AC
  | .skip => .skip
  | .region _ ops false => regC P G n names ops
  | .region _ ops true => dalC P G n names ops
  | .seq a b => .seq (cC n names a) (cC n names b)
  | .cond c a b => match cO G c with | some c => .cond c (cC n names a) (cC n names b) | none => .bad 401
  | .block i a => match a with
    | .loop b => if hasNext b then .join (.block i (.loop (cC n names b))) else .block i (.loop (cC n names b))
    | a => .block i (cC n names a)
  | .loop a => .loop (cC n names a)
  | .scope a => .scope (cC n names a)
  | .exit i => .exit i
  | .goto l => .goto l
  | .label l => .label l
  | .ret => .ret
  | .rangeFunc .. => .bad 402
  | .refuse _ => .bad 403
def cRs (n : Nat) (r : ResultVar) : Option Rs :=
  match r with
  | .tmp t => if t < 256 then some (.t (hi t) (lo t)) else none
  | .cell t ty => if (P.underlying ty).isNone then none else if t < 256 then some (if isA P ty then .agg (szOf P ty) (hi t) (lo t) else .one (hi t) (lo t)) else none
def cF (names : List String) (f : Func) : AF :=
  match f.body, f.results.toList.mapM (cRs P f.ntmps) with
  | some c, some rs => if f.name == "runtime.NumGoroutine" then .none else .mk (cC P G f.ntmps names c) rs
  | _, _ => .none
end
end
end Go.Am
namespace Go.Am
noncomputable section
structure Kt where
  n : A2 → Hp → RS
  e : Nat → A2 → Hp → RS
  g : Nat → A2 → Hp → RS
  r : A2 → Hp → RS
def AI.execC (cf : Cf) (iv : Iv) (d : Dst) (k : A2 → Hp → RS) (r : A2) (h : Hp) : AI → RS
  | .op y => stepK d k r (y.run r h)
  | .nxt s x => stepT d k r (nextT s (ev x r) h)
  | .call f xs => stepT d k r (cf f (evs xs r) h)
  | .calld x xs => stepT d k r (AV.onFn (ev x r) (fun f cs => cf f (List.append (evs xs r) cs) h) (.err 202))
  | .inv n x xs => stepT d k r (iv n (ev x r) (evs xs r) h)
def GI.execC (cf : Cf) (iv : Iv) (k : A2 → Hp → RS) (r : A2) (h : Hp) : GI → RS
  | .o d i => i.execC cf iv d k r h
  | .g a b w d i => AV.onBool (gb w (rget a b r)) (fun t => @Bool.rec (fun _ => RS) (k (dset d unitV r) h) (i.execC cf iv d k r h) (beq1 t w)) (.err 210)
def opsC (cf : Cf) (iv : Iv) (k : A2 → Hp → RS) : List GI → A2 → Hp → RS
  | [] => k
  | i :: l => fun r h => i.execC cf iv (opsC cf iv k l) r h
def drwIC (cf : Cf) (iv : Iv) (b : Bk) (d : Dst) (k : DK) (r : A2) (h g : Hp) (hs : List Hp) : AI → RS
  | .op y => @Bk.rec (fun _ => RS) (drwE d k r g hs (y.run r h).toT) (fun n => drwR d y n k r h g hs (y.run r g)) (drwN d k r g hs (y.run r h)) b
  | .nxt s x => drwE d k r g hs (nextT s (ev x r) h)
  | .call f xs => drwE d k r g hs (cf f (evs xs r) h)
  | .calld x xs => drwE d k r g hs (AV.onFn (ev x r) (fun f cs => cf f (List.append (evs xs r) cs) h) (.err 202))
  | .inv n x xs => drwE d k r g hs (iv n (ev x r) (evs xs r) h)
def DI.execC (cf : Cf) (iv : Iv) (k : DK) (r : A2) (h g : Hp) (hs : List Hp) : DI → RS
  | .mk b (.o d i) => drwIC cf iv b d k r h g hs i
  | .mk b (.g x y w d i) => AV.onBool (gb w (rget x y r)) (fun t => @Bool.rec (fun _ => RS) (drwS b d k r h g hs) (drwIC cf iv b d k r h g hs i) (beq1 t w)) (.err 212)
def drwC (cf : Cf) (iv : Iv) (k : A2 → Hp → RS) : List DI → DK
  | [] => fun r h _ _ => k r h
  | i :: l => fun r h g hs => i.execC cf iv (drwC cf iv k l) r h g hs
def den (cf : Cf) (iv : Iv) : AC → Kt → A2 → Hp → RS
  | .skip, K => K.n
  | .ops l, K => opsC cf iv K.n l
  | .drw l, K => fun r h => drwC cf iv K.n l r h h []
  | .seq a b, K => den cf iv a ⟨den cf iv b K, K.e, K.g, K.r⟩
  | .cond c a b, K => fun r h => AV.onBool (ev c r) (fun t => @Bool.rec (fun _ => RS) (den cf iv b K r h) (den cf iv a K r h) t) (.err 213)
  | .block i a, K => den cf iv a ⟨K.n, fun j r h => @Bool.rec (fun _ => RS) (K.e j r h) (K.n r h) (Nat.beq j i), K.g, K.r⟩
  | .exit i, K => K.e i
  | .goto l, K => K.g l
  | .ret, K => K.r
  | _, _ => fun _ _ => .err 310
def denS (cf : Cf) (iv : Iv) (K : Kt) (T : A2 → Hp → RS) : Nat → AC → A2 → Hp → RS
  | 0, _ => T
  | k + 1, .seq a b => den cf iv a ⟨denS cf iv K T k b, K.e, K.g, K.r⟩
  | _ + 1, c => den cf iv c K
def tailOf : Nat → AC → AC
  | 0, c => c
  | k + 1, .seq _ b => tailOf k b
  | _ + 1, _ => .skip
def noLab : AC → Bool
  | .seq a b => noLab a && noLab b
  | .label _ => false
  | .shal _ _ => false
  | _ => true
def noLabs : Nat → AC → Bool
  | 0, _ => true
  | k + 1, .seq a b => noLab a && noLabs k b
  | _ + 1, c => noLab c
def restr (r : A2) : List Nat → A2
  | [] => .nil
  | t :: L => if t < 256 then rset (dig (t / 16)) (dig (t % 16)) (rget (dig (t / 16)) (dig (t % 16)) r) (restr r L) else restr r L
def topK (L Lr : List Nat) : Kt := ⟨fun r h => .nm (restr r L) h, fun i r h => .ex i (restr r L) h, fun l r h => .go l (restr r L) h, fun r h => .ret (restr r Lr) h⟩
def denTop (c : AC) (k : Nat) (Lin L Lr Lx : List Nat) : Cf → Iv → (A2 → Hp → RS) → A2 → Hp → RS :=
  fun cf iv rx r h => denS cf iv (topK L Lr) (fun r h => rx (restr r Lx) h) k c (restr r Lin) h
inductive Impl : AC → AC → Prop
  | refl (c : AC) : Impl c c
  | seq {a a' b b' : AC} : Impl a a' → Impl b b' → Impl (.seq a b) (.seq a' b')
  | cond {o : AO} {a a' b b' : AC} : Impl a a' → Impl b b' → Impl (.cond o a b) (.cond o a' b')
  | block {i : Nat} {a a' : AC} : Impl a a' → Impl (.block i a) (.block i a')
  | loop {a a' : AC} : Impl a a' → Impl (.loop a) (.loop a')
  | scope {a a' : AC} : Impl a a' → Impl (.scope a) (.scope a')
  | join {i : Nat} {a a' : AC} : Impl a a' → Impl (.join (.block i (.loop a))) (.join (.block i (.loop a')))
  | unj {i : Nat} {a a' : AC} : Impl a a' → Impl (.join (.block i a)) (.block i a')
  | bad {c : AC} (n : Nat) : noLab c = true → Impl c (.bad n)
  | shal {c x : AC} {f : Cf → Iv → (A2 → Hp → RS) → A2 → Hp → RS} (k : Nat) (Lin L Lr Lx : List Nat) : noLabs k c = true → f = denTop c k Lin L Lr Lx → Impl (tailOf k c) x → Impl c (.shal f x)
end
end Go.Am
namespace Go.Am
noncomputable section
def bodyOf (x : AF) : AC := match x with | .none => .skip | .mk b _ => b | .prim _ b _ => b | .mkj b _ => b | .ext _ => .skip
def gL (c : AC) : AC := match c with | .seq a _ => a | .cond _ a _ => a | .block _ a => a | .loop a => a | .scope a => a | .join a => a | c => c
def gR (c : AC) : AC := match c with | .seq _ b => b | .cond _ _ b => b | c => c
theorem sqI {c a' b' : AC} (a b : AC) (ha : Impl a a') (hb : Impl b b') (e : c = .seq a b := by kernel_rfl) : Impl c (.seq a' b') := e ▸ .seq ha hb
theorem cdI {o : AO} {c a' b' : AC} (a b : AC) (ha : Impl a a') (hb : Impl b b') (e : c = .cond o a b := by kernel_rfl) : Impl c (.cond o a' b') := e ▸ .cond ha hb
theorem bkI {i : Nat} {c a' : AC} (a : AC) (ha : Impl a a') (e : c = .block i a := by kernel_rfl) : Impl c (.block i a') := e ▸ .block ha
theorem lpI {c a' : AC} (a : AC) (ha : Impl a a') (e : c = .loop a := by kernel_rfl) : Impl c (.loop a') := e ▸ .loop ha
theorem scI {c a a' : AC} (e : c = .scope a) (ha : Impl a a') : Impl c (.scope a') := e ▸ .scope ha
theorem jnI {i : Nat} {c a a' : AC} (e : c = .join (.block i (.loop a))) (ha : Impl a a') : Impl c (.join (.block i (.loop a'))) := e ▸ .join ha
theorem ujI {i : Nat} {c a a' : AC} (e : c = .join (.block i a)) (ha : Impl a a') : Impl c (.block i a') := e ▸ .unj ha
theorem rfI {c x : AC} (e : c = x := by kernel_rfl) : Impl c x := e ▸ .refl _
theorem bdI {c : AC} {n : Nat} (e : noLab c = true) : Impl c (.bad n) := .bad n e
theorem shI {c x : AC} {f : Cf → Iv → (A2 → Hp → RS) → A2 → Hp → RS} (d : AC) (k : Nat) (Lin L Lr Lx : List Nat) (h : Impl d x) (e : (noLabs k c, tailOf k c, f) = (true, d, denTop c k Lin L Lr Lx) := by kernel_rfl) : Impl c (.shal f x) := by
  have e1 : noLabs k c = true := congrArg (·.1) e
  have e2 : tailOf k c = d := congrArg (·.2.1) e
  have e3 : f = denTop c k Lin L Lr Lx := congrArg (·.2.2) e
  exact .shal k Lin L Lr Lx e1 e3 (e2 ▸ h)
theorem shW {c : AC} {f : Cf → Iv → (A2 → Hp → RS) → A2 → Hp → RS} (k : Nat) (Lin L Lr Lx : List Nat) (e : (noLabs k c, tailOf k c, f) = (true, .skip, denTop c k Lin L Lr Lx) := by kernel_rfl) : Impl c (.shal f .skip) := shI .skip k Lin L Lr Lx (.refl _) e
end
end Go.Am
