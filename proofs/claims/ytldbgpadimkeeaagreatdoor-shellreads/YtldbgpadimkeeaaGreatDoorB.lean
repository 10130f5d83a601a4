/- What code of the abstract machine a Go function is, and what loop-free code means. Nothing is asked. -/
import Derived.Test.YtldbgpadimkeeaaGreatDoorA
import GoSem.Step
import Derived.Orders
import Derived.KernelRfl
set_option linter.all false
namespace Go.Am
noncomputable section
def AO.aI : AO → List Nat
 | .t a b => [16 * a.nat + b.nat]
 | .c _ => []
def OA.aI : OA → List Nat
 | .none => []
 | .some x => x.aI
def Part.aI : Part → List Nat
 | .mk _ _ x => x.aI
def sD (l : List AO) : List Nat := l.flatMap AO.aI
def nV.aI : nV → List Nat
 | .mv x => x.aI
 | .pick c a b => c.aI ++ (a.aI ++ b.aI)
 | .alloc .. => []
 | .box _ x => x.aI
 | .build _ ps => ps.flatMap Part.aI
 | .cG _ _ _ _ ps => ps.flatMap Part.aI
 | .fQ x => x.aI
 | .pk _ x => x.aI
 | .Ki x y => x.aI ++ y.aI
 | .Kj _ x y => x.aI ++ y.aI
 | .qQ x => x.aI
 | .bin _ x y => x.aI ++ y.aI
 | .un _ x => x.aI
 | .conv _ x => x.aI
 | .Rg _ x => x.aI
 | .Ss _ xs => sD xs
 | .oh => []
 | .om _ _ l c => l.aI ++ c.aI
 | .Oj _ x lo hi mx => x.aI ++ (lo.aI ++ (hi.aI ++ mx.aI))
 | .KD x lo hi => x.aI ++ (lo.aI ++ hi.aI)
 | .KE _ _ x lo hi mx => x.aI ++ (lo.aI ++ (hi.aI ++ mx.aI))
 | .fP _ x => x.aI
 | .KG _ x => x.aI
 | .KH _ _ x => x.aI
 | .Fp _ x y => x.aI ++ y.aI
 | .Ok _ _ x y => x.aI ++ y.aI
 | .idxs x y => x.aI ++ y.aI
 | .KI _ _ _ x y => x.aI ++ y.aI
 | .ext _ x => x.aI
 | .Fq _ _ _ x y => x.aI ++ y.aI
 | .OE _ x y z => x.aI ++ (y.aI ++ z.aI)
 | .del _ x y => x.aI ++ y.aI
 | .Gp x => x.aI
 | .len x => x.aI
 | .jA x => x.aI
 | .cap x => x.aI
 | .max _ xs => sD xs
 | .app _ _ x y => x.aI ++ y.aI
 | .apps _ x y => x.aI ++ y.aI
 | .Rh _ x y => x.aI ++ y.aI
 | .Ri _ x => x.aI
 | .KJ x => x.aI
 | .Gq x => x.aI
 | .NA x => x.aI
 | .QA _ _ _ x => x.aI
 | .gN _ x y => x.aI ++ y.aI
 | .real _ x => x.aI
 | .KL x => x.aI
 | .Gr _ x y => x.aI ++ y.aI
 | .Ar _ _ x y => x.aI ++ y.aI
 | .Au x y z => x.aI ++ y.aI ++ z.aI
 | .Gs _ _ _ x y => x.aI ++ y.aI
 | .bad _ => []
def AI.aI : AI → List Nat
 | .op o => o.aI
 | .KM _ x => x.aI
 | .call _ xs => sD xs
 | .mO x xs => x.aI ++ sD xs
 | .inv _ x xs => x.aI ++ sD xs
def GI.aI : GI → List Nat
 | .o _ i => i.aI
 | .g a b _ _ i => (16 * a.nat + b.nat) :: i.aI
structure Gl where
 n : Nat
 sy : List (P4 × Nat)
 b : Option Nat
instance : OfNat Gl 0 := ⟨⟨0, [], none⟩⟩
def Gl.sl (G : Gl) (t : Nat) : Option Nat := match G.b with
 | none => if t < 256 then some t else none
 | some q => if t < 16 * q then (if t < 256 then some t else none) else if t < 16 * q + 16 then none else if t < 272 then some (t - 16) else none
def Gl.tm (G : Gl) (s : Nat) : Nat := match G.b with
 | none => s
 | some q => if s < 16 * q then s else s + 16
section
variable (P : Program) (G : Gl)
def hi (n : Nat) : H := dG (n / 16)
def lo (n : Nat) : H := dG (n % 16)
def P4.of (n : Nat) : P4 := .mk (dG (n / 4096)) (dG (n / 256 % 16)) (dG (n / 16 % 16)) (dG (n % 16))
def Bd : Value → Option AV
 | .bool b => some (.bool b)
 | .int k n => some (.int k n)
 | .float k n => some (.qP k n)
 | .complex k a b => some (.gN k a b)
 | .string s => some (.str (s.data.toList.map (·.toNat)))
 | .pointer none => some .cV
 | .slice none 0 0 => some .ai
 | .map none => some .ll
 | .func (.func f) ⟨[]⟩ ⟨[]⟩ => some (.fn f [])
 | .nilFunc => some .DF
 | .nilIface => some .xP
 | _ => none
def CV (v : Value) : Option AV :=
 match v with
 | .agg cs => (cs.toList.mapM Bd).map .agg
 | .iface t v => (Bd v).map (.iface t)
 | v => Bd v
def cO : Operand → Option AO
 | .tmp t => (G.sl t).map fun s => .t (hi s) (lo s)
 | .const v => (CV v).map .c
 | .global g => if g < G.n then some (.c (.ptr (P4.of g) 0)) else none
 | .func f => some (.c (.fn f []))
def Kl : Option Operand → Option OA
 | none => some .none
 | some x => (cO G x).map .some
def kc (t : TypeId) : TypeDesc := (P.underlying t).getD .invalid
def ry (t : TypeId) : Bool := match kc P t with | .struct _ | .array .. => true | _ => false
def bH (t : TypeId) : Nat := P.cellsOf t
def gv (t : TypeId) : Option (List AV) := ((P.info? t).bind (·.zero)).bind fun z => z.cells.toList.mapM Bd
def nI (t : TypeId) : Option AV := ((P.info? t).bind (·.zero)).bind CV
def uA : NK → Operand → Bool
 | .s, .const (.slice none 0 0) => true
 | .m, .const (.map none) => true
 | .f, .const .nilFunc => true
 | .i, .const .nilIface => true
 | _, _ => false
def jw (e : TypeId) : Bool := match P.info? e with
 | some i => (match i.zero with | some z => z.cells.size == i.size | none => false) && Nat.ble i.bytes 1048576
 | none => false
def Da (t : TypeId) : Option KK := match P.underlying t with
 | some .bool => some .b
 | some (.int _) => some .i
 | some .string => some .s
 | some (.pointer e) => match P.info? e with
  | some ie => if ie.size = 0 then none else some .p
  | none => none
 | _ => none
def mV : List Field → Nat → Option (List KK)
 | [], _ => some []
 | f :: fs, i => if f.name = "_" ∨ f.offset ≠ i then none else
  match Da P f.type, mV fs (i + 1) with
  | some k, some ks => some (k :: ks)
  | _, _ => none
def sU (t : TypeId) : Option (List KK) := match P.underlying t with
 | some (.struct fs) => if P.stoodInHeld t then none else mV P fs.toList 0
 | _ => none
def nH (t : TypeId) : Option KT := match P.underlying t with
 | some .bool => some (.one .b)
 | some (.int _) => some (.one .i)
 | some .string => some (.one .s)
 | some (.struct _) => (sU P t).map .agg
 | _ => none
def EN (t : TypeId) : Option KT := match P.underlying t with
 | some (.map k _) => nH P k
 | _ => none
def EH (op : BinOp) (t : TypeId) (x y : Operand) : Option BK :=
 match kc P t, op with
 | .int _, .add => some .add | .int _, .sub => some .sub | .int _, .mul => some .mul | .int _, .quo => some .quo | .int _, .rem => some .rem
 | .int _, .and => some .and | .int _, .or => some .or | .int _, .xor => some .xor | .int _, .andNot => some .QS | .int _, .shl => some .shl | .int _, .shr => some .shr
 | .int _, .eql => some .eq | .int _, .neq => some .ne | .int _, .lss => some .lt | .int _, .leq => some .le | .int _, .gtr => some .gt | .int _, .geq => some .ge
 | .string, .eql => some .seq | .string, .neq => some .So | .string, .lss => some .slt | .string, .leq => some .sle | .string, .gtr => some .Tv | .string, .geq => some .Tw | .string, .add => some .cat
 | .bool, .eql => some .beq
 | .bool, .neq => some .bne
 | .pointer e, .eql => if bH P e = 0 then none else some .rL
 | .pointer e, .neq => if bH P e = 0 then none else some .SE
 | .slice _, .eql => if uA .s y then some (.jB .s) else none
 | .slice _, .neq => if uA .s y then some (.qt .s) else none
 | .map .., .eql => if uA .m y then some (.jB .m) else none
 | .map .., .neq => if uA .m y then some (.qt .m) else none
 | .func .., .eql => if uA .f y then some (.jB .f) else none
 | .func .., .neq => if uA .f y then some (.qt .f) else none
 | .interface _, .eql => if uA .i y then some (.jB .i) else none
 | .interface _, .neq => if uA .i y then some (.qt .i) else none
 | .struct _, .eql => if P.eqGuardType P.depth t then none else (sU P t).map .Tx
 | .struct _, .neq => if P.eqGuardType P.depth t then none else (sU P t).map .Oi
 | .float _, op => some (.Ty op)
 | .complex _, op => some (.Tz op)
 | _, _ => none
def pS (n : Nat) (place : Nat → Option (Nat × Nat)) (ps : List (Nat × Operand)) : Option (List Part) :=
 ps.mapM fun (i, x) => do
  let (off, sz) ← place i
  if off + sz ≤ n then some (.mk off sz (← cO G x)) else none
def IP (s d : TypeId) : Option CK :=
 match kc P s, kc P d with
 | .int _, .int k => some (.toInt k)
 | .string, .string => some .same
 | .pointer e, .unsafePointer => if bH P e = 0 then none else some .SD
 | .unsafePointer, .pointer u => if bH P u = 0 || !liesAt P P.depth u 1 0 u 1 then none else some (.FB u (bH P u))
 | .string, .slice e => match kc P e with | .int .u8 => some (.Qy e) | _ => none
 | .slice e, .string => match kc P e with | .int .u8 => some .Kh | _ => none
 | .int _, .float k => some (.TK k)
 | .float _, .int k => some (.TL k)
 | _, _ => none
def jJ (b : Builtin) (ts : List TypeId) (xs : List AO) : Option nV :=
 match b, ts, xs with
 | .len, t :: _, [x] => match kc P t with
  | .string => some (.jA x)
  | .slice _ => some (.len x)
  | .map .. => some (.Gp x)
  | .array n _ => some (.mv (.c (.int .i64 n)))
  | .pointer a => match kc P a with | .array n _ => some (.mv (.c (.int .i64 n))) | _ => none
  | _ => none
 | .cap, t :: _, [x] => match kc P t with
  | .slice _ => some (.cap x)
  | .array n _ => some (.mv (.c (.int .i64 n)))
  | _ => none
 | .append, [t, u], [x, y] => match kc P t, kc P u with
  | .slice e, .string => if bH P e = 1 && jw P e then some (.apps e x y) else none
  | .slice e, .slice _ => if bH P e = 0 || !jw P e then none else some (.app e (bH P e) x y)
  | .slice e, .int _ => if bH P e = 0 || !jw P e then none else (gv P e).bind fun z => if z.length ≠ bH P e then none else some (.Gs e (bH P e) z x y)
  | _, _ => none
 | .copy, t :: _, [x, y] => match kc P t with | .slice e => if bH P e = 0 then none else some (.Rh (bH P e) x y) | _ => none
 | .clear, t :: _, [x] => match kc P t with | .slice e => if bH P e = 0 then none else (gv P e).bind fun z => if z.length ≠ bH P e then none else some (.Ri z x) | _ => none
 | .delete, t :: _, [x, y] => do some (.del (← EN P t) x y)
 | .max, _, xs => some (.max false xs)
 | .min, _, xs => some (.max true xs)
 | .unsafeSliceData, _, [x] => some (.KL x)
 | .real, _, [x] => some (.real false x)
 | .imag, _, [x] => some (.real true x)
 | .unsafeString, t :: _, [x, y] => match kc P t with | .pointer e => if bH P e = 1 then some (.Gr e x y) else none | _ => none
 | .complex, t :: _, [x, y] => match kc P t with | .float k => some (.gN k x y) | _ => none
 | _, _, _ => none
def wB (names : List String) (s : String) : Option Nat := names.findIdx? (· == s)
def cQ (names : List String) (o : Oper) : Option AI :=
 match o.op with
 | .move x | .assign x => do some (.op <| .mv (← cO G x))
 | .pick c a b => do some (.op <| .pick (← cO G c) (← cO G a) (← cO G b))
 | .alloc e => do let z ← gv P e; some (.op <| .alloc e z.length (ng z))
 | .box e x => do some (.op <| .box e (← cO G x))
 | .build t ps => do
  let z ← gv P t
  match kc P t with
  | .struct fs => do if fs.all (fun f => (P.info? f.type).isSome) then some (.op <| .build z (← pS G z.length (fun i => (fs[i]?).map fun f => (f.offset, bH P f.type)) ps.toList)) else none
  | .array _ e => do if (P.info? e).isSome then some (.op <| .build z (← pS G z.length (fun i => some (i * bH P e, bH P e)) ps.toList)) else none
  | _ => none
 | .buildSlice t n ps => do
  let .slice e := kc P t | none
  let z ← gv P e
  if bH P e = 0 ∨ z.length ≠ bH P e then none
  some (.op <| .cG e (bH P e) n (fc n z) (← pS G (n * bH P e) (fun i => some (i * bH P e, bH P e)) ps.toList))
 | .load t x => do
  if (P.underlying t).isNone then none
  if ry P t then some (.op <| .pk (bH P t) (← cO G x)) else some (.op <| .fQ (← cO G x))
 | .store t x y => do
  if (P.info? t).isNone then none
  if ry P t then some (.op <| .Kj (bH P t) (← cO G x) (← cO G y)) else if bH P t = 1 then some (.op <| .Ki (← cO G x) (← cO G y)) else none
 | .nilCheck x => do some (.op <| .qQ (← cO G x))
 | .binOp op t x y _ => match EH P op t x y with
  | some k => do some (.op <| .bin k (← cO G x) (← cO G y))
  | none => match EH P op t y x with
   | some (.jB k) => do some (.op <| .bin (.jB k) (← cO G y) (← cO G x))
   | some (.qt k) => do some (.op <| .bin (.qt k) (← cO G y) (← cO G x))
   | _ => none
 | .unOp op _ x => match op with
  | .not => do some (.op <| .un .not (← cO G x))
  | .neg => do some (.op <| .un .neg (← cO G x))
  | .xor => do some (.op <| .un .TA (← cO G x))
  | .plus => none
 | .convert s d x => do some (.op <| .conv (← IP P s d) (← cO G x))
 | .makeInterface t x => match P.underlying t with
  | none | some (.interface _) => none
  | _ => do some (.op <| .Rg t (← cO G x))
 | .makeFunc (.func f) first captured => do if first.isEmpty then some (.op <| .Ss f (← captured.toList.mapM (cO G))) else none
 | .makeMap _ none => some (.op .oh)
 | .makeMap t (some (.const (.int _ _))) => match kc P t with | .map .. => some (.op .oh) | _ => none
 | .makeSlice t l c => do
  let .slice e := kc P t | none
  let z ← gv P e
  if bH P e = 0 ∨ z.length ≠ bH P e ∨ jw P e = false then none
  some (.op <| .om e z (← cO G l) (← cO G c))
 | .slice t x l h m => match kc P t with
  | .string => do if m.isSome then none else some (.op <| .KD (← cO G x) (← Kl G l) (← Kl G h))
  | .slice e => do if bH P e = 0 ∨ (m.isSome ∧ h.isNone) then none else some (.op <| .Oj (bH P e) (← cO G x) (← Kl G l) (← Kl G h) (← Kl G m))
  | .array n e => do if (m.isSome ∧ h.isNone) ∨ (P.info? e).isNone then none else some (.op <| .KE n (bH P e) (← cO G x) (← Kl G l) (← Kl G h) (← Kl G m))
  | _ => none
 | .fieldAddr t x f => do
  let .struct fs := kc P t | none
  let fd ← fs[f]?
  if bH P fd.type = 0 then none
  some (.op <| .fP fd.offset (← cO G x))
 | .field t x f => do
  let .struct fs := kc P t | none
  let fd ← fs[f]?
  if (P.underlying fd.type).isNone then none
  if ry P fd.type then some (.op <| .KH fd.offset (bH P fd.type) (← cO G x)) else some (.op <| .KG fd.offset (← cO G x))
 | .indexAddr t x i => match kc P t with
  | .array n e => do if (P.info? e).isNone then none else some (.op <| .Ok n (bH P e) (← cO G x) (← cO G i))
  | .slice e => do if (P.info? e).isNone then none else some (.op <| .Fp (bH P e) (← cO G x) (← cO G i))
  | _ => none
 | .index t x i => match kc P t with
  | .string => do some (.op <| .idxs (← cO G x) (← cO G i))
  | .array n e => do if (P.underlying e).isNone then none else some (.op <| .KI n (bH P e) (ry P e) (← cO G x) (← cO G i))
  | _ => none
 | .lookup t x i ok => do
  let .map _ e := kc P t | none
  some (.op <| .Fq (← EN P t) (← nI P e) ok (← cO G x) (← cO G i))
 | .mapUpdate t m k x | .insert t m k x => do some (.op <| .OE (← EN P t) (← cO G m) (← cO G k) (← cO G x))
 | .range t x => match kc P t with
  | .map .. => do some (.op <| .Gq (← cO G x))
  | _ => none
 | .next x s => do if s then none else some (.KM s (← cO G x))
 | .entry x => do some (.op <| .NA (← cO G x))
 | .typeAssert x _ t ok => do
  if (kc P t matches .interface _) ∨ (P.underlying t).isNone then none
  some (.op <| .QA t (← nI P t) ok (← cO G x))
 | .extract x i => do some (.op <| .ext i (← cO G x))
 | .call c => do
  let xs ← c.args.toList.mapM (cO G)
  match c.callee with
  | .builtin b => (jJ P b c.argTypes.toList xs).map .op
  | .value (.func f) => some (AI.call f xs)
  | .value x => do some (AI.mO (← cO G x) xs)
  | .invoke x name => do some (AI.inv (← wB names name) (← cO G x) xs)
 | .mapEntry t m k => do
  let .map _ e := kc P t | none
  some (.op <| .Ar (← EN P t) (← nI P e) (← cO G m) (← cO G k))
 | .entryStore _ m k x => do some (.op <| .Au (← cO G m) (← cO G k) (← cO G x))
 | _ => none
inductive KO where
 | pure | read | make | dZ
 deriving DecidableEq
def Qv : nV → KO
 | .fQ _ | .pk .. | .Fq .. | .Gp _ => .read
 | .conv .Kh _ => .read
 | .conv .SD _ | .conv (.FB ..) _ => .read
 | .alloc .. | .box .. | .cG .. | .oh | .om .. | .KJ _ | .Gq _ => .make
 | .conv (.Qy _) _ | .conv (.TM _) _ => .make
 | .Ki .. | .Kj .. | .OE .. | .del .. | .app .. | .apps .. | .Rh .. | .Ri .. | .NA _ | .Gr .. | .Ar .. | .Au .. | .Gs .. => .dZ
 | .bad _ => .dZ
 | _ => .pure
def pA : AI → Bool
 | .op o => match Qv o with | .pure | .read => true | _ => false
 | _ => false
section
variable (n : Nat)
def ou : Option Tmp → Option bX
 | none => some .no
 | some t => match G.sl t with
  | some s => if t < n then some (.t (hi s) (lo s)) else none
  | none => none
def qz : GI := .o .no (.op (.bad 400))
def py (names : List String) (ops : Array Oper) (o : Oper) : GI :=
 match ou G n o.dst, cQ P G names o with
 | some d, some op => match o.guard with
  | none => .o d op
  | some (j, w) => match (ops[j]?).bind (·.dst) with
   | some t => match G.sl t with
    | some s => .g (hi s) (lo s) w d op
    | none => qz
   | none => qz
 | _, _ => qz
def sG (prev : List Nat) : List Oper → List Nat → List Nat
 | [], acc => acc
 | o :: os, acc => sG prev os (acc ++ [o.after.toList.foldl (fun s e => if Region.binds .any e then s ||| 2 ^ e.on ||| (if e.on < acc.length then acc.getD e.on 0 else prev.getD e.on 0) else s) 0])
def oC (os : List Oper) : List Nat := sG (sG (sG [] os []) os []) os []
def looks (n : Nat) (names : List String) (ops : Array Oper) (o : Oper) : List Nat := (py P G n names ops o).aI
def CN : AI → Bool
 | .op (.alloc ..) | .op .oh | .op (.cG ..) => true
 | _ => false
def order (news : Nat) (names : List String) (ops : Array Oper) : List (Nat × Bk) :=
 let n := ops.size
 let os := ops.toList
 let fl := os.map fun o => match cQ P G names o with | some i => pA i | none => false
 let b := oC os
 let le (i j : Nat) : Bool := (b.getD j 0).testBit i
 let mk := os.map fun o => o.guard.isNone && (match cQ P G names o with | some i => CN i | none => false)
 let base := (List.range n).filter fun i => !fl.getD i false && !mk.getD i false
 let nw := mk.zipIdx.map fun (m, i) => m && (match news with | 0 => false | 1 => base.any fun e => !le e i && !le i e | _ => true)
 let effs0 := (List.range n).filter fun i => !fl.getD i false && !nw.getD i false
 let gx := (List.range effs0.length).filterMap fun k => effs0.find? fun i => (effs0.filter fun e => e != i && le e i).length == k
 let hiOf (i : Nat) : Nat := ((gx.zipIdx.find? fun (e, _) => le i e).map (·.2)).getD gx.length
 let loOf (i : Nat) : Nat := (gx.zipIdx.foldl (fun m (e, k) => if le e i then k + 1 else m) 0)
 let stage (j : Nat) : List (Nat × Bk) := (((List.range n).filter fun i => fl.getD i false && hiOf i == j).map fun i => (i, .rd (j - loOf i))) ++ (((List.range n).filter fun i => nw.getD i false && hiOf i == j).map fun i => (i, .new))
 (gx.zipIdx.flatMap fun (e, j) => stage j ++ [(e, .dZ)]) ++ stage gx.length
end
def NG : Bk → Bool
 | .dZ => true
 | _ => false
def ja (le : Nat → Nat → Bool) : Bool → List (Nat × Bk) → List Nat → Bool
 | _, [], _ => true
 | _, (i, .dZ) :: l, gx => (match gx with | [] => true | e :: _ => le e i) && ja le true l (i :: gx)
 | fl, (i, .rd n) :: l, gx => fl && (match gx.drop n with | [] => n == gx.length | e :: _ => le e i) && (match l.find? (fun x => NG x.2) with | some (e, _) => le i e | none => true) && ja le true l gx
 | _, (i, .new) :: l, gx => (match l.find? (fun x => NG x.2) with | some (e, _) => le i e | none => true) && ja le false l gx
def sH (n : Nat) (names : List String) (ops : Array Oper) (l : List (Nat × Bk)) (i : Nat) : Bk → Bool
 | .dZ => true
 | .rd _ => match cQ P G names (ops.getD i default) with | some x => pA x | none => false
 | .new => (ops.getD i default).guard.isNone && (match cQ P G names (ops.getD i default) with | some x => CN x | none => false) &&
  (ops.getD i default).dst.all fun t => l.all fun (j, k) => NG k || !(looks P G n names ops (ops.getD j default)).contains t
def ku (n : Nat) (names : List String) (ops : Array Oper) (l : List (Nat × Bk)) : Bool :=
 let b := oC ops.toList
 let le (i j : Nat) : Bool := (b.getD j 0).testBit i
 l.length == ops.size && (l.all fun (i, _) => decide (i < ops.size)) && (List.range ops.size).all (fun i => l.any (·.1 == i)) && (l.zipIdx.all fun ((i, _), p) => l.zipIdx.all fun ((j, _), q) => i != j || p == q) &&
 (ops.toList.zipIdx.all fun (o, i) => o.after.all fun e => !Region.binds .any e || (decide (e.on < ops.size) && decide (b.getD e.on 0 < b.getD i 0))) &&
 (l.zipIdx.all fun ((i, k), p) => l.zipIdx.all fun ((j, k'), q) => !le i j || decide (p < q) || ((k matches .new) && (k' matches .rd _))) &&
 (l.all fun (i, k) => sH P G n names ops l i k) &&
 ja le true l [] &&
 (ops.toList.zipIdx.all fun (o, i) => (o.dst.all fun t => ops.toList.zipIdx.all fun (o', j) => i == j || o'.dst != some t)) &&
 (ops.toList.zipIdx.all fun (o, i) => (looks P G n names ops o).all fun t => ops.toList.zipIdx.all fun (o', j) => o'.dst != some t || i == j || le i j || le j i) &&
 (l.all fun (i, k) => !(k matches .new) || (looks P G n names ops (ops.getD i default)).all fun t => ops.toList.zipIdx.all fun (o', j) => o'.dst != some t || le j i)
def hasNext : Code → Bool
 | .region _ ops _ => ops.any fun o => match o.op with | .next _ false => true | _ => false
 | .seq a _ => hasNext a
 | _ => false
def fY (x y : Nat) (ops : Array Oper) : Array Oper := ops.modify y fun o => { o with after := o.after.push ⟨x, .data⟩ }
def wI : Op → Bool
 | .call c => match c.callee with | .builtin b => (match b with | .print | .println | .recover | .unsafeSizeof => false | _ => true) | _ => false
 | .go _ | .defer _ | .send .. | .recv .. | .select .. | .panic _ => false
 | _ => true
def Qw (names : List String) (o : Oper) : Bool := match cQ P G names o with | some i => !pA i | none => true
def loose (names : List String) (ops : Array Oper) : Option (Nat × Nat) :=
 let b := oC ops.toList
 let le (i j : Nat) : Bool := (b.getD j 0).testBit i
 let gx := (List.range ops.size).filter fun i => (ops[i]?).any (Qw P G names)
 gx.findSome? fun i => gx.findSome? fun j => if i < j && !le i j && !le j i then some (i, j) else none
def jo (bad : Array Oper → AC) (n : Nat) (names : List String) (ops : Array Oper) : AC :=
 let l := order P G 0 names ops
 if ku P G n names ops l then .nT (l.map fun (i, b) => .mk b (py P G n names ops (ops.getD i default))) else
 let l := order P G 1 names ops
 if ku P G n names ops l then .nT (l.map fun (i, b) => .mk b (py P G n names ops (ops.getD i default))) else
 let l := order P G 2 names ops
 if ku P G n names ops l then .nT (l.map fun (i, b) => .mk b (py P G n names ops (ops.getD i default))) else bad ops
def lA (next : Array Oper → AC) (names : List String) (ops : Array Oper) : AC := match loose P G names ops with
 | some (x, y) => if ops.all (fun o => wI o.op) && x != y && decide (x < ops.size) && decide (y < ops.size) then .alt (next (fY x y ops)) (next (fY y x ops)) else .bad 404
 | none => .bad 404
def oz (n : Nat) (names : List String) (ops : Array Oper) : AC := jo P G (lA P G (jo P G (lA P G (jo P G (fun _ => .bad 404) n names) names) n names) names) n names ops
def np (n : Nat) (names : List String) (ops : Array Oper) (o : Oper) : GI := match cQ P G names o, o.guard, ou G n o.dst with
 | none, some (j, w), some d => match (ops[j]?).bind (·.dst) with
  | some t => match G.sl t with
   | some s => .g (hi s) (lo s) w d (.op (.bad 405))
   | none => qz
  | none => qz
 | _, _, _ => py P G n names ops o
def Tk : GI → Bool
 | .o .no (.op (.bad 400)) => true
 | _ => false
def Tl : GI → Bool
 | .o .no (.op (.bad 400)) => true
 | .g _ _ _ _ (.op (.bad 405)) => true
 | _ => false
def qU (n : Nat) (names : List String) (ops : Array Oper) : AC :=
 let l := ops.toList.map fun o => np P G n names ops o
 if l.any Tk && G.b.isNone then
  match (List.range 16).find? fun q => !((ops.toList.map fun o => np P { G with b := some q } n names ops o).any Tl) with
  | some q => .OK q (ops.toList.map fun o => np P { G with b := some q } n names ops o)
  | none => .ops l
 else .ops l
def cC (n : Nat) (names : List String) : Code → AC
 | .skip => .skip
 | .region _ ops false => qU P G n names ops
 | .region _ ops true => oz P G n names ops
 | .seq a b => .seq (cC n names a) (cC n names b)
 | .cond c a b => match cO G c with | some c => .cond c (cC n names a) (cC n names b) | none => .bad 401
 | .block i a => match a with
  | .loop b => if hasNext b then .join (.block i (.loop (cC n names b))) else .block i (.loop (cC n names b))
  | a => .block i (cC n names a)
 | .loop a => .loop (cC n names a)
 | .scope a => .scope (cC n names a)
 | .exit i => .exit i
 | .goto l => .goto l
 | .label l => .label l
 | .ret => .ret
 | .rangeFunc .. => .bad 402
 | .refuse _ => .bad 403
def QC (n : Nat) (r : ResultVar) : Option Rs :=
 match r with
 | .tmp t => if t < 256 then some (.t (hi t) (lo t)) else none
 | .cell t ty => if (P.underlying ty).isNone then none else if t < 256 then some (if ry P ty then .agg (bH P ty) (hi t) (lo t) else .one (hi t) (lo t)) else none
def cF (names : List String) (f : Func) : AF :=
 match f.body, f.results.toList.mapM (QC P f.ntmps) with
 | some c, some rs => if f.name == "runtime.NumGoroutine" then .none else .mk (cC P G f.ntmps names c) rs
 | _, _ => .none
end
end
noncomputable section
structure Kt where
 n : A2 → Hp → RS
 e : Nat → A2 → Hp → RS
 g : Nat → A2 → Hp → RS
 r : A2 → Hp → RS
def AI.lC (cf : Cf) (iv : Iv) (d : bX) (k : A2 → Hp → RS) (r : A2) (h : Hp) : AI → RS
 | .op y => Cq d k r (y.run r h)
 | .KM s x => stepT d k r (qx s (ev x r) h)
 | .call f xs => stepT d k r (cf f (fR xs r) h)
 | .mO x xs => stepT d k r (AV.FP (ev x r) (fun f cs => cf f (List.append (fR xs r) cs) h) (.err 202))
 | .inv n x xs => stepT d k r (iv n (ev x r) (fR xs r) h)
def GI.lC (cf : Cf) (iv : Iv) (k : A2 → Hp → RS) (r : A2) (h : Hp) : GI → RS
 | .o d i => i.lC cf iv d k r h
 | .g a b w d i => AV.bN (gb w (aC a b r)) (fun t => @Bool.rec (fun _ => RS) (k (dg d cM r) h) (i.lC cf iv d k r h) (jW t w)) (.err 210)
def uv (cf : Cf) (iv : Iv) (k : A2 → Hp → RS) : List GI → A2 → Hp → RS
 | [] => k
 | i :: l => fun r h => i.lC cf iv (uv cf iv k l) r h
def Oh (cf : Cf) (iv : Iv) (b : Bk) (d : bX) (k : DK) (r : A2) (h g : Hp) (hs : List Hp) : AI → RS
 | .op y => @Bk.rec (fun _ => RS) (mE d k r g hs (y.run r h).nU) (fun n => ye d y n k r h g hs (y.run r g)) (Gy d k r g hs (y.run r h)) b
 | .KM s x => mE d k r g hs (qx s (ev x r) h)
 | .call f xs => mE d k r g hs (cf f (fR xs r) h)
 | .mO x xs => mE d k r g hs (AV.FP (ev x r) (fun f cs => cf f (List.append (fR xs r) cs) h) (.err 202))
 | .inv n x xs => mE d k r g hs (iv n (ev x r) (fR xs r) h)
def DI.lC (cf : Cf) (iv : Iv) (k : DK) (r : A2) (h g : Hp) (hs : List Hp) : DI → RS
 | .mk b (.o d i) => Oh cf iv b d k r h g hs i
 | .mk b (.g x y w d i) => AV.bN (gb w (aC x y r)) (fun t => @Bool.rec (fun _ => RS) (KQ b d k r h g hs) (Oh cf iv b d k r h g hs i) (jW t w)) (.err 212)
def ox (cf : Cf) (iv : Iv) (k : A2 → Hp → RS) : List DI → DK
 | [] => fun r h _ _ => k r h
 | i :: l => fun r h g hs => i.lC cf iv (ox cf iv k l) r h g hs
def den (cf : Cf) (iv : Iv) : AC → Kt → A2 → Hp → RS
 | .skip, K => K.n
 | .ops l, K => uv cf iv K.n l
 | .nT l, K => fun r h => ox cf iv K.n l r h h []
 | .seq a b, K => den cf iv a ⟨den cf iv b K, K.e, K.g, K.r⟩
 | .cond c a b, K => fun r h => AV.bN (ev c r) (fun t => @Bool.rec (fun _ => RS) (den cf iv b K r h) (den cf iv a K r h) t) (.err 213)
 | .block i a, K => den cf iv a ⟨K.n, fun j r h => @Bool.rec (fun _ => RS) (K.e j r h) (K.n r h) (Nat.beq j i), K.g, K.r⟩
 | .exit i, K => K.e i
 | .goto l, K => K.g l
 | .ret, K => K.r
 | _, _ => fun _ _ => .err 310
def wN (cf : Cf) (iv : Iv) (K : Kt) (T : A2 → Hp → RS) : Nat → AC → A2 → Hp → RS
 | 0, _ => T
 | k + 1, .seq a b => den cf iv a ⟨wN cf iv K T k b, K.e, K.g, K.r⟩
 | _ + 1, c => den cf iv c K
def ky : Nat → AC → AC
 | 0, c => c
 | k + 1, .seq _ b => ky k b
 | _ + 1, _ => .skip
def qB : AC → Bool
 | .seq a b => qB a && qB b
 | .label _ => false
 | .ag _ _ => false
 | _ => true
def lB : Nat → AC → Bool
 | 0, _ => true
 | k + 1, .seq a b => qB a && lB k b
 | _ + 1, c => qB c
def bV (r : A2) : List Nat → A2
 | [] => .nil
 | t :: L => if t < 256 then rM (dG (t / 16)) (dG (t % 16)) (aC (dG (t / 16)) (dG (t % 16)) r) (bV r L) else bV r L
def nt (L Lr : List Nat) : Kt := ⟨fun r h => .nm (bV r L) h, fun i r h => .ex i (bV r L) h, fun l r h => .go l (bV r L) h, fun r h => .ret (bV r Lr) h⟩
def sB (c : AC) (k : Nat) (Lin L Lr Lx : List Nat) : Cf → Iv → (A2 → Hp → RS) → A2 → Hp → RS :=
 fun cf iv rx r h => wN cf iv (nt L Lr) (fun r h => rx (bV r Lx) h) k c (bV r Lin) h
inductive Impl : AC → AC → Prop
 | refl (c : AC) : Impl c c
 | seq {a a' b b' : AC} : Impl a a' → Impl b b' → Impl (.seq a b) (.seq a' b')
 | cond {o : AO} {a a' b b' : AC} : Impl a a' → Impl b b' → Impl (.cond o a b) (.cond o a' b')
 | block {i : Nat} {a a' : AC} : Impl a a' → Impl (.block i a) (.block i a')
 | loop {a a' : AC} : Impl a a' → Impl (.loop a) (.loop a')
 | scope {a a' : AC} : Impl a a' → Impl (.scope a) (.scope a')
 | join {i : Nat} {a a' : AC} : Impl a a' → Impl (.join (.block i (.loop a))) (.join (.block i (.loop a')))
 | TC {i : Nat} {a a' : AC} : Impl a a' → Impl (.join (.block i a)) (.block i a')
 | bad {c : AC} (n : Nat) : qB c = true → Impl c (.bad n)
 | ag {c x : AC} {f : Cf → Iv → (A2 → Hp → RS) → A2 → Hp → RS} (k : Nat) (Lin L Lr Lx : List Nat) : lB k c = true → f = sB c k Lin L Lr Lx → Impl (ky k c) x → Impl c (.ag f x)
end
noncomputable section
def Qx (x : AF) : AC := match x with | .none => .skip | .mk b _ => b | .uo _ b _ => b | .QB b _ => b | .ext _ => .skip
def gL (c : AC) : AC := match c with | .seq a _ => a | .cond _ a _ => a | .block _ a => a | .loop a => a | .scope a => a | .join a => a | c => c
def gR (c : AC) : AC := match c with | .seq _ b => b | .cond _ _ b => b | c => c
theorem cD {c a' b' : AC} (a b : AC) (ha : Impl a a') (hb : Impl b b') (e : c = .seq a b := by kernel_rfl) : Impl c (.seq a' b') := e ▸ .seq ha hb
theorem Sx {o : AO} {c a' b' : AC} (a b : AC) (ha : Impl a a') (hb : Impl b b') (e : c = .cond o a b := by kernel_rfl) : Impl c (.cond o a' b') := e ▸ .cond ha hb
theorem eM {i : Nat} {c a' : AC} (a : AC) (ha : Impl a a') (e : c = .block i a := by kernel_rfl) : Impl c (.block i a') := e ▸ .block ha
theorem gS {c a' : AC} (a : AC) (ha : Impl a a') (e : c = .loop a := by kernel_rfl) : Impl c (.loop a') := e ▸ .loop ha
theorem SU {c a a' : AC} (e : c = .scope a) (ha : Impl a a') : Impl c (.scope a') := e ▸ .scope ha
theorem iB {c x : AC} (e : c = x := by kernel_rfl) : Impl c x := e ▸ .refl _
theorem TG {c : AC} {n : Nat} (e : qB c = true) : Impl c (.bad n) := .bad n e
theorem bq {c x : AC} {f : Cf → Iv → (A2 → Hp → RS) → A2 → Hp → RS} (d : AC) (k : Nat) (Lin L Lr Lx : List Nat) (h : Impl d x) (e : (lB k c, ky k c, f) = (true, d, sB c k Lin L Lr Lx) := by kernel_rfl) : Impl c (.ag f x) := by
 have e1 : lB k c = true := congrArg (·.1) e
 have e2 : ky k c = d := congrArg (·.2.1) e
 have e3 : f = sB c k Lin L Lr Lx := congrArg (·.2.2) e
 exact .ag k Lin L Lr Lx e1 e3 (e2 ▸ h)
theorem bz {c : AC} {f : Cf → Iv → (A2 → Hp → RS) → A2 → Hp → RS} (k : Nat) (Lin L Lr Lx : List Nat) (e : (lB k c, ky k c, f) = (true, .skip, sB c k Lin L Lr Lx) := by kernel_rfl) : Impl c (.ag f .skip) := bq .skip k Lin L Lr Lx (.refl _) e
end
end Go.Am
