/- What code of the abstract machine a Go function is, and what loop-free code means. Nothing is asked. -/
import Derived.Test.YtjnmlmmfnbcnjaaGreatDoorA
import GoSem.Step
import Derived.Orders
import Derived.KernelRfl
set_option linter.all false
namespace Go.Am
noncomputable section
def AO.aE : AO → List Nat
 | .t a b => [16 * a.nat + b.nat]
 | .c _ => []
def OA.aE : OA → List Nat
 | .none => []
 | .some x => x.aE
def Part.aE : Part → List Nat
 | .mk _ _ x => x.aE
def tr (l : List AO) : List Nat := l.flatMap AO.aE
def oZ.aE : oZ → List Nat
 | .mv x => x.aE
 | .pick c a b => c.aE ++ (a.aE ++ b.aE)
 | .alloc .. => []
 | .box _ x => x.aE
 | .build _ ps => ps.flatMap Part.aE
 | .cu _ _ _ _ ps => ps.flatMap Part.aE
 | .lP x => x.aE
 | .lR _ x => x.aE
 | .LN x y => x.aE ++ y.aE
 | .EW _ x y => x.aE ++ y.aE
 | .sA x => x.aE
 | .bin _ x y => x.aE ++ y.aE
 | .un _ x => x.aE
 | .conv _ x => x.aE
 | .OK _ x => x.aE
 | .Ua _ xs => tr xs
 | .pc => []
 | .pf _ _ l c => l.aE ++ c.aE
 | .Sh _ x lo hi mx => x.aE ++ (lo.aE ++ (hi.aE ++ mx.aE))
 | .GM x lo hi => x.aE ++ (lo.aE ++ hi.aE)
 | .LX _ _ x lo hi mx => x.aE ++ (lo.aE ++ (hi.aE ++ mx.aE))
 | .lS _ x => x.aE
 | .LY _ x => x.aE
 | .LZ _ _ x => x.aE
 | .zg _ x y => x.aE ++ y.aE
 | .Su _ _ x y => x.aE ++ y.aE
 | .idxs x y => x.aE ++ y.aE
 | .Ma _ _ _ x y => x.aE ++ y.aE
 | .ext _ x => x.aE
 | .Mb _ _ _ x y => x.aE ++ y.aE
 | .OO _ x y z => x.aE ++ (y.aE ++ z.aE)
 | .del _ x y => x.aE ++ y.aE
 | .GN x => x.aE
 | .len x => x.aE
 | .fQ x => x.aE
 | .cap x => x.aE
 | .max _ xs => tr xs
 | .app _ _ x y => x.aE ++ y.aE
 | .apps _ x y => x.aE ++ y.aE
 | .Sv _ x y => x.aE ++ y.aE
 | .Sw _ x => x.aE
 | .Mc x => x.aE
 | .EX x => x.aE
 | .Md x => x.aE
 | .OQ _ _ _ x => x.aE
 | .iq _ x y => x.aE ++ y.aE
 | .real _ x => x.aE
 | .Me x => x.aE
 | .GO _ x y => x.aE ++ y.aE
 | .zh _ _ x y => x.aE ++ y.aE
 | .zi x y z => x.aE ++ y.aE ++ z.aE
 | .GP _ _ _ x y => x.aE ++ y.aE
 | .bad _ => []
def AI.aE : AI → List Nat
 | .op o => o.aE
 | .Dc _ x => x.aE
 | .call _ xs => tr xs
 | .lE x xs => x.aE ++ tr xs
 | .inv _ x xs => x.aE ++ tr xs
def GI.aE : GI → List Nat
 | .o _ i => i.aE
 | .g a b _ _ i => (16 * a.nat + b.nat) :: i.aE
structure Gl where
 n : Nat
 sy : List (P4 × Nat)
 b : Option Nat
instance : OfNat Gl 0 := ⟨⟨0, [], none⟩⟩
def Gl.sl (G : Gl) (t : Nat) : Option Nat := match G.b with
 | none => if t < 256 then some t else none
 | some q => if t < 16 * q then (if t < 256 then some t else none) else if t < 16 * q + 16 then none else if t < 272 then some (t - 16) else none
def Gl.tm (G : Gl) (s : Nat) : Nat := match G.b with
 | none => s
 | some q => if s < 16 * q then s else s + 16
section
variable (P : Program) (G : Gl)
def hi (n : Nat) : H := dw (n / 16)
def lo (n : Nat) : H := dw (n % 16)
def P4.of (n : Nat) : P4 := .mk (dw (n / 4096)) (dw (n / 256 % 16)) (dw (n / 16 % 16)) (dw (n % 16))
def Bq : Value → Option AV
 | .bool b => some (.bool b)
 | .int k n => some (.int k n)
 | .float k n => some (.nG k n)
 | .complex k a b => some (.iq k a b)
 | .string s => some (.str (s.data.toList.map (·.toNat)))
 | .pointer none => some .fo
 | .slice none 0 0 => some .ar
 | .map none => some .zj
 | .func (.func f) ⟨[]⟩ ⟨[]⟩ => some (.fn f [])
 | .nilFunc => some .EY
 | .nilIface => some .Br
 | _ => none
def Dd (v : Value) : Option AV :=
 match v with
 | .agg cs => (cs.toList.mapM Bq).map .agg
 | .iface t v => (Bq v).map (.iface t)
 | v => Bq v
def cO : Operand → Option AO
 | .tmp t => (G.sl t).map fun s => .t (hi s) (lo s)
 | .const v => (Dd v).map .c
 | .global g => if g < G.n then some (.c (.ptr (P4.of g) 0)) else none
 | .func f => some (.c (.fn f []))
def LO : Option Operand → Option OA
 | none => some .none
 | some x => (cO G x).map .some
def kH (t : TypeId) : TypeDesc := (P.underlying t).getD .invalid
def sN (t : TypeId) : Bool := match kH P t with | .struct _ | .array .. => true | _ => false
def bp (t : TypeId) : Nat := P.cellsOf t
def gw (t : TypeId) : Option (List AV) := ((P.info? t).bind (·.zero)).bind fun z => z.cells.toList.mapM Bq
def kI (t : TypeId) : Option AV := ((P.info? t).bind (·.zero)).bind Dd
def vF : NK → Operand → Bool
 | .s, .const (.slice none 0 0) => true
 | .m, .const (.map none) => true
 | .f, .const .nilFunc => true
 | .i, .const .nilIface => true
 | _, _ => false
def jE (e : TypeId) : Bool := match P.info? e with
 | some i => (match i.zero with | some z => z.cells.size == i.size | none => false) && Nat.ble i.bytes 1048576
 | none => false
def De (t : TypeId) : Option KK := match P.underlying t with
 | some .bool => some .b
 | some (.int _) => some .i
 | some .string => some .s
 | some (.pointer e) => match P.info? e with
  | some ie => if ie.size = 0 then none else some .p
  | none => none
 | _ => none
def nN : List Field → Nat → Option (List KK)
 | [], _ => some []
 | f :: fs, i => if f.name = "_" ∨ f.offset ≠ i then none else
  match De P f.type, nN fs (i + 1) with
  | some k, some ks => some (k :: ks)
  | _, _ => none
def tu (t : TypeId) : Option (List KK) := match P.underlying t with
 | some (.struct fs) => if P.stoodInHeld t then none else nN P fs.toList 0
 | _ => none
def ov (t : TypeId) : Option KT := match P.underlying t with
 | some .bool => some (.one .b)
 | some (.int _) => some (.one .i)
 | some .string => some (.one .s)
 | some (.struct _) => (tu P t).map .agg
 | _ => none
def EZ (t : TypeId) : Option KT := match P.underlying t with
 | some (.map k _) => ov P k
 | _ => none
def Fa (op : BinOp) (t : TypeId) (x y : Operand) : Option BK :=
 match kH P t, op with
 | .int _, .add => some .add | .int _, .sub => some .sub | .int _, .mul => some .mul | .int _, .quo => some .quo | .int _, .rem => some .rem
 | .int _, .and => some .and | .int _, .or => some .or | .int _, .xor => some .xor | .int _, .andNot => some .Sx | .int _, .shl => some .shl | .int _, .shr => some .shr
 | .int _, .eql => some .eq | .int _, .neq => some .ne | .int _, .lss => some .lt | .int _, .leq => some .le | .int _, .gtr => some .gt | .int _, .geq => some .ge
 | .string, .eql => some .seq | .string, .neq => some .Si | .string, .lss => some .slt | .string, .leq => some .sle | .string, .gtr => some .UU | .string, .geq => some .UW | .string, .add => some .cat
 | .bool, .eql => some .beq
 | .bool, .neq => some .bne
 | .pointer e, .eql => if bp P e = 0 then none else some .qw
 | .pointer e, .neq => if bp P e = 0 then none else some .Uk
 | .slice _, .eql => if vF .s y then some (.jR .s) else none
 | .slice _, .neq => if vF .s y then some (.rM .s) else none
 | .map .., .eql => if vF .m y then some (.jR .m) else none
 | .map .., .neq => if vF .m y then some (.rM .m) else none
 | .func .., .eql => if vF .f y then some (.jR .f) else none
 | .func .., .neq => if vF .f y then some (.rM .f) else none
 | .interface _, .eql => if vF .i y then some (.jR .i) else none
 | .interface _, .neq => if vF .i y then some (.rM .i) else none
 | .struct _, .eql => if P.eqGuardType P.depth t then none else (tu P t).map .UX
 | .struct _, .neq => if P.eqGuardType P.depth t then none else (tu P t).map .PX
 | .float _, op => some (.Sy op)
 | .complex _, op => some (.UY op)
 | _, _ => none
def qx (n : Nat) (place : Nat → Option (Nat × Nat)) (ps : List (Nat × Operand)) : Option (List Part) :=
 ps.mapM fun (i, x) => do
  let (off, sz) ← place i
  if off + sz ≤ n then some (.mk off sz (← cO G x)) else none
def GQ (s d : TypeId) : Option CK :=
 match kH P s, kH P d with
 | .int _, .int k => some (.toInt k)
 | .string, .string => some .same
 | .pointer e, .unsafePointer => if bp P e = 0 then none else some .Ul
 | .unsafePointer, .pointer u => if bp P u = 0 || !liesAt P P.depth u 1 0 u 1 then none else some (.GR u (bp P u))
 | .string, .slice e => match kH P e with | .int .u8 => some (.UZ e) | _ => none
 | .slice e, .string => match kH P e with | .int .u8 => some .LP | _ => none
 | .int _, .float k => some (.Um k)
 | .float _, .int k => some (.Un k)
 | _, _ => none
def jS (b : Builtin) (ts : List TypeId) (xs : List AO) : Option oZ :=
 match b, ts, xs with
 | .len, t :: _, [x] => match kH P t with
  | .string => some (.fQ x)
  | .slice _ => some (.len x)
  | .map .. => some (.GN x)
  | .array n _ => some (.mv (.c (.int .i64 n)))
  | .pointer a => match kH P a with | .array n _ => some (.mv (.c (.int .i64 n))) | _ => none
  | _ => none
 | .cap, t :: _, [x] => match kH P t with
  | .slice _ => some (.cap x)
  | .array n _ => some (.mv (.c (.int .i64 n)))
  | _ => none
 | .append, [t, u], [x, y] => match kH P t, kH P u with
  | .slice e, .string => if bp P e = 1 && jE P e then some (.apps e x y) else none
  | .slice e, .slice _ => if bp P e = 0 || !jE P e then none else some (.app e (bp P e) x y)
  | .slice e, .int _ => if bp P e = 0 || !jE P e then none else (gw P e).bind fun z => if z.length ≠ bp P e then none else some (.GP e (bp P e) z x y)
  | _, _ => none
 | .copy, t :: _, [x, y] => match kH P t with | .slice e => if bp P e = 0 then none else some (.Sv (bp P e) x y) | _ => none
 | .clear, t :: _, [x] => match kH P t with | .slice e => if bp P e = 0 then none else (gw P e).bind fun z => if z.length ≠ bp P e then none else some (.Sw z x) | _ => none
 | .delete, t :: _, [x, y] => do some (.del (← EZ P t) x y)
 | .max, _, xs => some (.max false xs)
 | .min, _, xs => some (.max true xs)
 | .unsafeSliceData, _, [x] => some (.Me x)
 | .real, _, [x] => some (.real false x)
 | .imag, _, [x] => some (.real true x)
 | .unsafeString, t :: _, [x, y] => match kH P t with | .pointer e => if bp P e = 1 then some (.GO e x y) else none | _ => none
 | .complex, t :: _, [x, y] => match kH P t with | .float k => some (.iq k x y) | _ => none
 | _, _, _ => none
def xI (names : List String) (s : String) : Option Nat := names.findIdx? (· == s)
def cE (names : List String) (o : Oper) : Option AI :=
 match o.op with
 | .move x | .assign x => do some (.op <| .mv (← cO G x))
 | .pick c a b => do some (.op <| .pick (← cO G c) (← cO G a) (← cO G b))
 | .alloc e => do let z ← gw P e; some (.op <| .alloc e z.length (ox z))
 | .box e x => do some (.op <| .box e (← cO G x))
 | .build t ps => do
  let z ← gw P t
  match kH P t with
  | .struct fs => do if fs.all (fun f => (P.info? f.type).isSome) then some (.op <| .build z (← qx G z.length (fun i => (fs[i]?).map fun f => (f.offset, bp P f.type)) ps.toList)) else none
  | .array _ e => do if (P.info? e).isSome then some (.op <| .build z (← qx G z.length (fun i => some (i * bp P e, bp P e)) ps.toList)) else none
  | _ => none
 | .buildSlice t n ps => do
  let .slice e := kH P t | none
  let z ← gw P e
  if bp P e = 0 ∨ z.length ≠ bp P e then none
  some (.op <| .cu e (bp P e) n (dM n z) (← qx G (n * bp P e) (fun i => some (i * bp P e, bp P e)) ps.toList))
 | .load t x => do
  if (P.underlying t).isNone then none
  if sN P t then some (.op <| .lR (bp P t) (← cO G x)) else some (.op <| .lP (← cO G x))
 | .store t x y => do
  if (P.info? t).isNone then none
  if sN P t then some (.op <| .EW (bp P t) (← cO G x) (← cO G y)) else if bp P t = 1 then some (.op <| .LN (← cO G x) (← cO G y)) else none
 | .nilCheck x => do some (.op <| .sA (← cO G x))
 | .binOp op t x y _ => match Fa P op t x y with
  | some k => do some (.op <| .bin k (← cO G x) (← cO G y))
  | none => match Fa P op t y x with
   | some (.jR k) => do some (.op <| .bin (.jR k) (← cO G y) (← cO G x))
   | some (.rM k) => do some (.op <| .bin (.rM k) (← cO G y) (← cO G x))
   | _ => none
 | .unOp op _ x => match op with
  | .not => do some (.op <| .un .not (← cO G x))
  | .neg => do some (.op <| .un .neg (← cO G x))
  | .xor => do some (.op <| .un .Va (← cO G x))
  | .plus => none
 | .convert s d x => do some (.op <| .conv (← GQ P s d) (← cO G x))
 | .makeInterface t x => match P.underlying t with
  | none | some (.interface _) => none
  | _ => do some (.op <| .OK t (← cO G x))
 | .makeFunc (.func f) first captured => do if first.isEmpty then some (.op <| .Ua f (← captured.toList.mapM (cO G))) else none
 | .makeMap _ none => some (.op .pc)
 | .makeMap t (some (.const (.int _ _))) => match kH P t with | .map .. => some (.op .pc) | _ => none
 | .makeSlice t l c => do
  let .slice e := kH P t | none
  let z ← gw P e
  if bp P e = 0 ∨ z.length ≠ bp P e ∨ jE P e = false then none
  some (.op <| .pf e z (← cO G l) (← cO G c))
 | .slice t x l h m => match kH P t with
  | .string => do if m.isSome then none else some (.op <| .GM (← cO G x) (← LO G l) (← LO G h))
  | .slice e => do if bp P e = 0 ∨ (m.isSome ∧ h.isNone) then none else some (.op <| .Sh (bp P e) (← cO G x) (← LO G l) (← LO G h) (← LO G m))
  | .array n e => do if (m.isSome ∧ h.isNone) ∨ (P.info? e).isNone then none else some (.op <| .LX n (bp P e) (← cO G x) (← LO G l) (← LO G h) (← LO G m))
  | _ => none
 | .fieldAddr t x f => do
  let .struct fs := kH P t | none
  let fd ← fs[f]?
  if bp P fd.type = 0 then none
  some (.op <| .lS fd.offset (← cO G x))
 | .field t x f => do
  let .struct fs := kH P t | none
  let fd ← fs[f]?
  if (P.underlying fd.type).isNone then none
  if sN P fd.type then some (.op <| .LZ fd.offset (bp P fd.type) (← cO G x)) else some (.op <| .LY fd.offset (← cO G x))
 | .indexAddr t x i => match kH P t with
  | .array n e => do if (P.info? e).isNone then none else some (.op <| .Su n (bp P e) (← cO G x) (← cO G i))
  | .slice e => do if (P.info? e).isNone then none else some (.op <| .zg (bp P e) (← cO G x) (← cO G i))
  | _ => none
 | .index t x i => match kH P t with
  | .string => do some (.op <| .idxs (← cO G x) (← cO G i))
  | .array n e => do if (P.underlying e).isNone then none else some (.op <| .Ma n (bp P e) (sN P e) (← cO G x) (← cO G i))
  | _ => none
 | .lookup t x i ok => do
  let .map _ e := kH P t | none
  some (.op <| .Mb (← EZ P t) (← kI P e) ok (← cO G x) (← cO G i))
 | .mapUpdate t m k x | .insert t m k x => do some (.op <| .OO (← EZ P t) (← cO G m) (← cO G k) (← cO G x))
 | .range t x => match kH P t with
  | .map .. => do some (.op <| .EX (← cO G x))
  | _ => none
 | .next x s => do if s then none else some (.Dc s (← cO G x))
 | .entry x => do some (.op <| .Md (← cO G x))
 | .typeAssert x _ t ok => do
  if (kH P t matches .interface _) ∨ (P.underlying t).isNone then none
  some (.op <| .OQ t (← kI P t) ok (← cO G x))
 | .extract x i => do some (.op <| .ext i (← cO G x))
 | .call c => do
  let xs ← c.args.toList.mapM (cO G)
  match c.callee with
  | .builtin b => (jS P b c.argTypes.toList xs).map .op
  | .value (.func f) => some (AI.call f xs)
  | .value x => do some (AI.lE (← cO G x) xs)
  | .invoke x name => do some (AI.inv (← xI names name) (← cO G x) xs)
 | .mapEntry t m k => do
  let .map _ e := kH P t | none
  some (.op <| .zh (← EZ P t) (← kI P e) (← cO G m) (← cO G k))
 | .entryStore _ m k x => do some (.op <| .zi (← cO G m) (← cO G k) (← cO G x))
 | _ => none
inductive KO where
 | pure | read | make | dZ
 deriving DecidableEq
def PY : oZ → KO
 | .lP _ | .lR .. | .Mb .. | .GN _ => .read
 | .conv .LP _ => .read
 | .conv .Ul _ | .conv (.GR ..) _ => .read
 | .alloc .. | .box .. | .cu .. | .pc | .pf .. | .Mc _ | .EX _ => .make
 | .conv (.UZ _) _ | .conv (.Vo _) _ => .make
 | .LN .. | .EW .. | .OO .. | .del .. | .app .. | .apps .. | .Sv .. | .Sw .. | .Md _ | .GO .. | .zh .. | .zi .. | .GP .. => .dZ
 | .bad _ => .dZ
 | _ => .pure
def qy : AI → Bool
 | .op o => match PY o with | .pure | .read => true | _ => false
 | _ => false
section
variable (n : Nat)
def kJ : Option Tmp → Option bw
 | none => some .no
 | some t => match G.sl t with
  | some s => if t < n then some (.t (hi s) (lo s)) else none
  | none => none
def rN : GI := .o .no (.op (.bad 400))
def ir (names : List String) (ops : Array Oper) (o : Oper) : GI :=
 match kJ G n o.dst, cE P G names o with
 | some d, some op => match o.guard with
  | none => .o d op
  | some (j, w) => match (ops[j]?).bind (·.dst) with
   | some t => match G.sl t with
    | some s => .g (hi s) (lo s) w d op
    | none => rN
   | none => rN
 | _, _ => rN
def tv (prev : List Nat) : List Oper → List Nat → List Nat
 | [], acc => acc
 | o :: os, acc => tv prev os (acc ++ [o.after.toList.foldl (fun s e => if Region.binds .any e then s ||| 2 ^ e.on ||| (if e.on < acc.length then acc.getD e.on 0 else prev.getD e.on 0) else s) 0])
def ph (os : List Oper) : List Nat := tv (tv (tv [] os []) os []) os []
def looks (n : Nat) (names : List String) (ops : Array Oper) (o : Oper) : List Nat := (ir P G n names ops o).aE
def Df : AI → Bool
 | .op (.alloc ..) | .op .pc | .op (.cu ..) => true
 | _ => false
def order (news : Nat) (names : List String) (ops : Array Oper) : List (Nat × Bk) :=
 let n := ops.size
 let os := ops.toList
 let fl := os.map fun o => match cE P G names o with | some i => qy i | none => false
 let b := ph os
 let le (i j : Nat) : Bool := (b.getD j 0).testBit i
 let mk := os.map fun o => o.guard.isNone && (match cE P G names o with | some i => Df i | none => false)
 let base := (List.range n).filter fun i => !fl.getD i false && !mk.getD i false
 let nw := mk.zipIdx.map fun (m, i) => m && (match news with | 0 => false | 1 => base.any fun e => !le e i && !le i e | _ => true)
 let effs0 := (List.range n).filter fun i => !fl.getD i false && !nw.getD i false
 let gx := (List.range effs0.length).filterMap fun k => effs0.find? fun i => (effs0.filter fun e => e != i && le e i).length == k
 let hiOf (i : Nat) : Nat := ((gx.zipIdx.find? fun (e, _) => le i e).map (·.2)).getD gx.length
 let loOf (i : Nat) : Nat := (gx.zipIdx.foldl (fun m (e, k) => if le e i then k + 1 else m) 0)
 let stage (j : Nat) : List (Nat × Bk) := (((List.range n).filter fun i => fl.getD i false && hiOf i == j).map fun i => (i, .rd (j - loOf i))) ++ (((List.range n).filter fun i => nw.getD i false && hiOf i == j).map fun i => (i, .new))
 (gx.zipIdx.flatMap fun (e, j) => stage j ++ [(e, .dZ)]) ++ stage gx.length
end
def OT : Bk → Bool
 | .dZ => true
 | _ => false
def jg (le : Nat → Nat → Bool) : Bool → List (Nat × Bk) → List Nat → Bool
 | _, [], _ => true
 | _, (i, .dZ) :: l, gx => (match gx with | [] => true | e :: _ => le e i) && jg le true l (i :: gx)
 | fl, (i, .rd n) :: l, gx => fl && (match gx.drop n with | [] => n == gx.length | e :: _ => le e i) && (match l.find? (fun x => OT x.2) with | some (e, _) => le i e | none => true) && jg le true l gx
 | _, (i, .new) :: l, gx => (match l.find? (fun x => OT x.2) with | some (e, _) => le i e | none => true) && jg le false l gx
def tw (n : Nat) (names : List String) (ops : Array Oper) (l : List (Nat × Bk)) (i : Nat) : Bk → Bool
 | .dZ => true
 | .rd _ => match cE P G names (ops.getD i default) with | some x => qy x | none => false
 | .new => (ops.getD i default).guard.isNone && (match cE P G names (ops.getD i default) with | some x => Df x | none => false) &&
  (ops.getD i default).dst.all fun t => l.all fun (j, k) => OT k || !(looks P G n names ops (ops.getD j default)).contains t
def kK (n : Nat) (names : List String) (ops : Array Oper) (l : List (Nat × Bk)) : Bool :=
 let b := ph ops.toList
 let le (i j : Nat) : Bool := (b.getD j 0).testBit i
 l.length == ops.size && (l.all fun (i, _) => decide (i < ops.size)) && (List.range ops.size).all (fun i => l.any (·.1 == i)) && (l.zipIdx.all fun ((i, _), p) => l.zipIdx.all fun ((j, _), q) => i != j || p == q) &&
 (ops.toList.zipIdx.all fun (o, i) => o.after.all fun e => !Region.binds .any e || (decide (e.on < ops.size) && decide (b.getD e.on 0 < b.getD i 0))) &&
 (l.zipIdx.all fun ((i, k), p) => l.zipIdx.all fun ((j, k'), q) => !le i j || decide (p < q) || ((k matches .new) && (k' matches .rd _))) &&
 (l.all fun (i, k) => tw P G n names ops l i k) &&
 jg le true l [] &&
 (ops.toList.zipIdx.all fun (o, i) => (o.dst.all fun t => ops.toList.zipIdx.all fun (o', j) => i == j || o'.dst != some t)) &&
 (ops.toList.zipIdx.all fun (o, i) => (looks P G n names ops o).all fun t => ops.toList.zipIdx.all fun (o', j) => o'.dst != some t || i == j || le i j || le j i) &&
 (l.all fun (i, k) => !(k matches .new) || (looks P G n names ops (ops.getD i default)).all fun t => ops.toList.zipIdx.all fun (o', j) => o'.dst != some t || le j i)
def hasNext : Code → Bool
 | .region _ ops _ => ops.any fun o => match o.op with | .next _ false => true | _ => false
 | .seq a _ => hasNext a
 | _ => false
def fR (x y : Nat) (ops : Array Oper) : Array Oper := ops.modify y fun o => { o with after := o.after.push ⟨x, .data⟩ }
def xJ : Op → Bool
 | .call c => match c.callee with | .builtin b => (match b with | .print | .println | .recover | .unsafeSizeof => false | _ => true) | _ => false
 | .go _ | .defer _ | .send .. | .recv .. | .select .. | .panic _ => false
 | _ => true
def PZ (names : List String) (o : Oper) : Bool := match cE P G names o with | some i => !qy i | none => true
def loose (names : List String) (ops : Array Oper) : Option (Nat × Nat) :=
 let b := ph ops.toList
 let le (i j : Nat) : Bool := (b.getD j 0).testBit i
 let gx := (List.range ops.size).filter fun i => (ops[i]?).any (PZ P G names)
 gx.findSome? fun i => gx.findSome? fun j => if i < j && !le i j && !le j i then some (i, j) else none
def jF (bad : Array Oper → AC) (n : Nat) (names : List String) (ops : Array Oper) : AC :=
 let l := order P G 0 names ops
 if kK P G n names ops l then .qv (l.map fun (i, b) => .mk b (ir P G n names ops (ops.getD i default))) else
 let l := order P G 1 names ops
 if kK P G n names ops l then .qv (l.map fun (i, b) => .mk b (ir P G n names ops (ops.getD i default))) else
 let l := order P G 2 names ops
 if kK P G n names ops l then .qv (l.map fun (i, b) => .mk b (ir P G n names ops (ops.getD i default))) else bad ops
def lT (next : Array Oper → AC) (names : List String) (ops : Array Oper) : AC := match loose P G names ops with
 | some (x, y) => if ops.all (fun o => xJ o.op) && x != y && decide (x < ops.size) && decide (y < ops.size) then .alt (next (fR x y ops)) (next (fR y x ops)) else .bad 404
 | none => .bad 404
def pj (n : Nat) (names : List String) (ops : Array Oper) : AC := jF P G (lT P G (jF P G (lT P G (jF P G (fun _ => .bad 404) n names) names) n names) names) n names ops
def oy (n : Nat) (names : List String) (ops : Array Oper) (o : Oper) : GI := match cE P G names o, o.guard, kJ G n o.dst with
 | none, some (j, w), some d => match (ops[j]?).bind (·.dst) with
  | some t => match G.sl t with
   | some s => .g (hi s) (lo s) w d (.op (.bad 405))
   | none => rN
  | none => rN
 | _, _, _ => ir P G n names ops o
def Uo : GI → Bool
 | .o .no (.op (.bad 400)) => true
 | _ => false
def Up : GI → Bool
 | .o .no (.op (.bad 400)) => true
 | .g _ _ _ _ (.op (.bad 405)) => true
 | _ => false
def sB (n : Nat) (names : List String) (ops : Array Oper) : AC :=
 let l := ops.toList.map fun o => oy P G n names ops o
 if l.any Uo && G.b.isNone then
  match (List.range 16).find? fun q => !((ops.toList.map fun o => oy P { G with b := some q } n names ops o).any Up) with
  | some q => .Qa q (ops.toList.map fun o => oy P { G with b := some q } n names ops o)
  | none => .ops l
 else .ops l
def cC (n : Nat) (names : List String) : Code → AC
 | .skip => .skip
 | .region _ ops false => sB P G n names ops
 | .region _ ops true => pj P G n names ops
 | .seq a b => .seq (cC n names a) (cC n names b)
 | .cond c a b => match cO G c with | some c => .cond c (cC n names a) (cC n names b) | none => .bad 401
 | .block i a => match a with
  | .loop b => if hasNext b then .join (.block i (.loop (cC n names b))) else .block i (.loop (cC n names b))
  | a => .block i (cC n names a)
 | .loop a => .loop (cC n names a)
 | .scope a => .scope (cC n names a)
 | .exit i => .exit i
 | .goto l => .goto l
 | .label l => .label l
 | .ret => .ret
 | .rangeFunc .. => .bad 402
 | .refuse _ => .bad 403
def OU (n : Nat) (r : ResultVar) : Option Rs :=
 match r with
 | .tmp t => if t < 256 then some (.t (hi t) (lo t)) else none
 | .cell t ty => if (P.underlying ty).isNone then none else if t < 256 then some (if sN P ty then .agg (bp P ty) (hi t) (lo t) else .one (hi t) (lo t)) else none
def cF (names : List String) (f : Func) : AF :=
 match f.body, f.results.toList.mapM (OU P f.ntmps) with
 | some c, some rs => if f.name == "runtime.NumGoroutine" then .none else .mk (cC P G f.ntmps names c) rs
 | _, _ => .none
end
end
noncomputable section
structure Kt where
 n : A2 → Hp → RS
 e : Nat → A2 → Hp → RS
 g : Nat → A2 → Hp → RS
 r : A2 → Hp → RS
def AI.lU (cf : Cf) (iv : Iv) (d : bw) (k : A2 → Hp → RS) (r : A2) (h : Hp) : AI → RS
 | .op y => Dg d k r (y.run r h)
 | .Dc s x => stepT d k r (jh s (ev x r) h)
 | .call f xs => stepT d k r (cf f (fL xs r) h)
 | .lE x xs => stepT d k r (AV.GS (ev x r) (fun f cs => cf f (List.append (fL xs r) cs) h) (.err 202))
 | .inv n x xs => stepT d k r (iv n (ev x r) (fL xs r) h)
def GI.lU (cf : Cf) (iv : Iv) (k : A2 → Hp → RS) (r : A2) (h : Hp) : GI → RS
 | .o d i => i.lU cf iv d k r h
 | .g a b w d i => AV.bF (gb w (an a b r)) (fun t => @Bool.rec (fun _ => RS) (k (cm d cn r) h) (i.lU cf iv d k r h) (kL t w)) (.err 210)
def vG (cf : Cf) (iv : Iv) (k : A2 → Hp → RS) : List GI → A2 → Hp → RS
 | [] => k
 | i :: l => fun r h => i.lU cf iv (vG cf iv k l) r h
def OV (cf : Cf) (iv : Iv) (b : Bk) (d : bw) (k : DK) (r : A2) (h g : Hp) (hs : List Hp) : AI → RS
 | .op y => @Bk.rec (fun _ => RS) (nH d k r g hs (y.run r h).lL) (fun n => zk d y n k r h g hs (y.run r g)) (GU d k r g hs (y.run r h)) b
 | .Dc s x => nH d k r g hs (jh s (ev x r) h)
 | .call f xs => nH d k r g hs (cf f (fL xs r) h)
 | .lE x xs => nH d k r g hs (AV.GS (ev x r) (fun f cs => cf f (List.append (fL xs r) cs) h) (.err 202))
 | .inv n x xs => nH d k r g hs (iv n (ev x r) (fL xs r) h)
def DI.lU (cf : Cf) (iv : Iv) (k : DK) (r : A2) (h g : Hp) (hs : List Hp) : DI → RS
 | .mk b (.o d i) => OV cf iv b d k r h g hs i
 | .mk b (.g x y w d i) => AV.bF (gb w (an x y r)) (fun t => @Bool.rec (fun _ => RS) (Mf b d k r h g hs) (OV cf iv b d k r h g hs i) (kL t w)) (.err 212)
def pk (cf : Cf) (iv : Iv) (k : A2 → Hp → RS) : List DI → DK
 | [] => fun r h _ _ => k r h
 | i :: l => fun r h g hs => i.lU cf iv (pk cf iv k l) r h g hs
def den (cf : Cf) (iv : Iv) : AC → Kt → A2 → Hp → RS
 | .skip, K => K.n
 | .ops l, K => vG cf iv K.n l
 | .qv l, K => fun r h => pk cf iv K.n l r h h []
 | .seq a b, K => den cf iv a ⟨den cf iv b K, K.e, K.g, K.r⟩
 | .cond c a b, K => fun r h => AV.bF (ev c r) (fun t => @Bool.rec (fun _ => RS) (den cf iv b K r h) (den cf iv a K r h) t) (.err 213)
 | .block i a, K => den cf iv a ⟨K.n, fun j r h => @Bool.rec (fun _ => RS) (K.e j r h) (K.n r h) (Nat.beq j i), K.g, K.r⟩
 | .exit i, K => K.e i
 | .goto l, K => K.g l
 | .ret, K => K.r
 | _, _ => fun _ _ => .err 310
def xK (cf : Cf) (iv : Iv) (K : Kt) (T : A2 → Hp → RS) : Nat → AC → A2 → Hp → RS
 | 0, _ => T
 | k + 1, .seq a b => den cf iv a ⟨xK cf iv K T k b, K.e, K.g, K.r⟩
 | _ + 1, c => den cf iv c K
def kM : Nat → AC → AC
 | 0, c => c
 | k + 1, .seq _ b => kM k b
 | _ + 1, _ => .skip
def rO : AC → Bool
 | .seq a b => rO a && rO b
 | .label _ => false
 | .ah _ _ => false
 | _ => true
def lV : Nat → AC → Bool
 | 0, _ => true
 | k + 1, .seq a b => rO a && lV k b
 | _ + 1, c => rO c
def bQ (r : A2) : List Nat → A2
 | [] => .nil
 | t :: L => if t < 256 then jG (dw (t / 16)) (dw (t % 16)) (an (dw (t / 16)) (dw (t % 16)) r) (bQ r L) else bQ r L
def oA (L Lr : List Nat) : Kt := ⟨fun r h => .nm (bQ r L) h, fun i r h => .ex i (bQ r L) h, fun l r h => .go l (bQ r L) h, fun r h => .ret (bQ r Lr) h⟩
def tx (c : AC) (k : Nat) (Lin L Lr Lx : List Nat) : Cf → Iv → (A2 → Hp → RS) → A2 → Hp → RS :=
 fun cf iv rx r h => xK cf iv (oA L Lr) (fun r h => rx (bQ r Lx) h) k c (bQ r Lin) h
inductive Impl : AC → AC → Prop
 | refl (c : AC) : Impl c c
 | seq {a a' b b' : AC} : Impl a a' → Impl b b' → Impl (.seq a b) (.seq a' b')
 | cond {o : AO} {a a' b b' : AC} : Impl a a' → Impl b b' → Impl (.cond o a b) (.cond o a' b')
 | block {i : Nat} {a a' : AC} : Impl a a' → Impl (.block i a) (.block i a')
 | loop {a a' : AC} : Impl a a' → Impl (.loop a) (.loop a')
 | scope {a a' : AC} : Impl a a' → Impl (.scope a) (.scope a')
 | join {i : Nat} {a a' : AC} : Impl a a' → Impl (.join (.block i (.loop a))) (.join (.block i (.loop a')))
 | Vb {i : Nat} {a a' : AC} : Impl a a' → Impl (.join (.block i a)) (.block i a')
 | bad {c : AC} (n : Nat) : rO c = true → Impl c (.bad n)
 | ah {c x : AC} {f : Cf → Iv → (A2 → Hp → RS) → A2 → Hp → RS} (k : Nat) (Lin L Lr Lx : List Nat) : lV k c = true → f = tx c k Lin L Lr Lx → Impl (kM k c) x → Impl c (.ah f x)
end
noncomputable section
def Qb (x : AF) : AC := match x with | .none => .skip | .mk b _ => b | .tz _ b _ => b | .Qc b _ => b | .ext _ => .skip
def gL (c : AC) : AC := match c with | .seq a _ => a | .cond _ a _ => a | .block _ a => a | .loop a => a | .scope a => a | .join a => a | c => c
def gR (c : AC) : AC := match c with | .seq _ b => b | .cond _ _ b => b | c => c
theorem cU {c a' b' : AC} (a b : AC) (ha : Impl a a') (hb : Impl b b') (e : c = .seq a b := by kernel_rfl) : Impl c (.seq a' b') := e ▸ .seq ha hb
theorem Fb {o : AO} {c a' b' : AC} (a b : AC) (ha : Impl a a') (hb : Impl b b') (e : c = .cond o a b := by kernel_rfl) : Impl c (.cond o a' b') := e ▸ .cond ha hb
theorem gJ {i : Nat} {c a' : AC} (a : AC) (ha : Impl a a') (e : c = .block i a := by kernel_rfl) : Impl c (.block i a') := e ▸ .block ha
theorem nI {c a' : AC} (a : AC) (ha : Impl a a') (e : c = .loop a := by kernel_rfl) : Impl c (.loop a') := e ▸ .loop ha
theorem Vc {c a a' : AC} (e : c = .scope a) (ha : Impl a a') : Impl c (.scope a') := e ▸ .scope ha
theorem gi {c x : AC} (e : c = x := by kernel_rfl) : Impl c x := e ▸ .refl _
theorem Vp {c : AC} {n : Nat} (e : rO c = true) : Impl c (.bad n) := .bad n e
theorem bL {c x : AC} {f : Cf → Iv → (A2 → Hp → RS) → A2 → Hp → RS} (d : AC) (k : Nat) (Lin L Lr Lx : List Nat) (h : Impl d x) (e : (lV k c, kM k c, f) = (true, d, tx c k Lin L Lr Lx) := by kernel_rfl) : Impl c (.ah f x) := by
 have e1 : lV k c = true := congrArg (·.1) e
 have e2 : kM k c = d := congrArg (·.2.1) e
 have e3 : f = tx c k Lin L Lr Lx := congrArg (·.2.2) e
 exact .ah k Lin L Lr Lx e1 e3 (e2 ▸ h)
theorem bS {c : AC} {f : Cf → Iv → (A2 → Hp → RS) → A2 → Hp → RS} (k : Nat) (Lin L Lr Lx : List Nat) (e : (lV k c, kM k c, f) = (true, .skip, tx c k Lin L Lr Lx) := by kernel_rfl) : Impl c (.ah f .skip) := bL .skip k Lin L Lr Lx (.refl _) e
end
end Go.Am
