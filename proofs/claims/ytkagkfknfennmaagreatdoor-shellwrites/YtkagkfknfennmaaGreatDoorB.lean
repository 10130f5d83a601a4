/- What code of the abstract machine a Go function is, and what loop-free code means. Nothing is asked. -/
import Derived.Test.YtkagkfknfennmaaGreatDoorA
import GoSem.Step
import Derived.Orders
import Derived.KernelRfl
set_option linter.all false
namespace Go.Am
noncomputable section
def AO.aA : AO → List Nat
 | .t a b => [16 * a.nat + b.nat]
 | .c _ => []
def OA.aA : OA → List Nat
 | .none => []
 | .some x => x.aA
def Part.aA : Part → List Nat
 | .mk _ _ x => x.aA
def qi (l : List AO) : List Nat := l.flatMap AO.aA
def mG.aA : mG → List Nat
 | .mv x => x.aA
 | .pick c a b => c.aA ++ (a.aA ++ b.aA)
 | .alloc .. => []
 | .box _ x => x.aA
 | .build _ ps => ps.flatMap Part.aA
 | .cB _ _ _ _ ps => ps.flatMap Part.aA
 | .jV x => x.aA
 | .xV _ x => x.aA
 | .He x y => x.aA ++ y.aA
 | .Hd _ x y => x.aA ++ y.aA
 | .nR x => x.aA
 | .bin _ x y => x.aA ++ y.aA
 | .un _ x => x.aA
 | .conv _ x => x.aA
 | .MP _ x => x.aA
 | .Oi _ xs => qi xs
 | .mH => []
 | .mI _ _ l c => l.aA ++ c.aA
 | .Oj _ x lo hi mx => x.aA ++ (lo.aA ++ (hi.aA ++ mx.aA))
 | .Ho x lo hi => x.aA ++ (lo.aA ++ hi.aA)
 | .Hq _ _ x lo hi mx => x.aA ++ (lo.aA ++ (hi.aA ++ mx.aA))
 | .ly _ x => x.aA
 | .Hr _ x => x.aA
 | .Hs _ _ x => x.aA
 | .My _ x y => x.aA ++ y.aA
 | .Kw _ _ x y => x.aA ++ y.aA
 | .idxs x y => x.aA ++ y.aA
 | .Ht _ _ _ x y => x.aA ++ y.aA
 | .ext _ x => x.aA
 | .Cr _ _ _ x y => x.aA ++ y.aA
 | .JO _ x y z => x.aA ++ (y.aA ++ z.aA)
 | .del _ x y => x.aA ++ y.aA
 | .CY x => x.aA
 | .len x => x.aA
 | .hX x => x.aA
 | .cap x => x.aA
 | .max _ xs => qi xs
 | .app _ _ x y => x.aA ++ y.aA
 | .apps _ x y => x.aA ++ y.aA
 | .MQ _ x y => x.aA ++ y.aA
 | .MS _ x => x.aA
 | .Hu x => x.aA
 | .CZ x => x.aA
 | .MT x => x.aA
 | .JP _ _ _ x => x.aA
 | .fZ _ x y => x.aA ++ y.aA
 | .real _ x => x.aA
 | .Hv x => x.aA
 | .Da _ x y => x.aA ++ y.aA
 | .vV _ _ x y => x.aA ++ y.aA
 | .vW x y z => x.aA ++ y.aA ++ z.aA
 | .Db _ _ _ x y => x.aA ++ y.aA
 | .bad _ => []
def AI.aA : AI → List Nat
 | .op o => o.aA
 | .Hf _ x => x.aA
 | .call _ xs => qi xs
 | .lI x xs => x.aA ++ qi xs
 | .inv _ x xs => x.aA ++ qi xs
def GI.aA : GI → List Nat
 | .o _ i => i.aA
 | .g a b _ _ i => (16 * a.nat + b.nat) :: i.aA
structure Gl where
 n : Nat
 sy : List (P4 × Nat)
 b : Option Nat
instance : OfNat Gl 0 := ⟨⟨0, [], none⟩⟩
def Gl.sl (G : Gl) (t : Nat) : Option Nat := match G.b with
 | none => if t < 256 then some t else none
 | some q => if t < 16 * q then (if t < 256 then some t else none) else if t < 16 * q + 16 then none else if t < 272 then some (t - 16) else none
def Gl.tm (G : Gl) (s : Nat) : Nat := match G.b with
 | none => s
 | some q => if s < 16 * q then s else s + 16
section
variable (P : Program) (G : Gl)
def hi (n : Nat) : H := dj (n / 16)
def lo (n : Nat) : H := dj (n % 16)
def P4.of (n : Nat) : P4 := .mk (dj (n / 4096)) (dj (n / 256 % 16)) (dj (n / 16 % 16)) (dj (n % 16))
def xX : Value → Option AV
 | .bool b => some (.bool b)
 | .int k n => some (.int k n)
 | .float k n => some (.nQ k n)
 | .complex k a b => some (.fZ k a b)
 | .string s => some (.str (s.data.toList.map (·.toNat)))
 | .pointer none => some .ct
 | .slice none 0 0 => some .ak
 | .map none => some .jQ
 | .func (.func f) ⟨[]⟩ ⟨[]⟩ => some (.fn f [])
 | .nilFunc => some .AL
 | .nilIface => some .vD
 | _ => none
def zl (v : Value) : Option AV :=
 match v with
 | .agg cs => (cs.toList.mapM xX).map .agg
 | .iface t v => (xX v).map (.iface t)
 | v => xX v
def cO : Operand → Option AO
 | .tmp t => (G.sl t).map fun s => .t (hi s) (lo s)
 | .const v => (zl v).map .c
 | .global g => if g < G.n then some (.c (.ptr (P4.of g) 0)) else none
 | .func f => some (.c (.fn f []))
def Hg : Option Operand → Option OA
 | none => some .none
 | some x => (cO G x).map .some
def jh (t : TypeId) : TypeDesc := (P.underlying t).getD .invalid
def pN (t : TypeId) : Bool := match jh P t with | .struct _ | .array .. => true | _ => false
def aY (t : TypeId) : Nat := P.cellsOf t
def fJ (t : TypeId) : Option (List AV) := ((P.info? t).bind (·.zero)).bind fun z => z.cells.toList.mapM xX
def ji (t : TypeId) : Option AV := ((P.info? t).bind (·.zero)).bind zl
def sr : NK → Operand → Bool
 | .s, .const (.slice none 0 0) => true
 | .m, .const (.map none) => true
 | .f, .const .nilFunc => true
 | .i, .const .nilIface => true
 | _, _ => false
def ic (e : TypeId) : Bool := match P.info? e with
 | some i => (match i.zero with | some z => z.cells.size == i.size | none => false) && Nat.ble i.bytes 1048576
 | none => false
def zm (t : TypeId) : Option KK := match P.underlying t with
 | some .bool => some .b
 | some (.int _) => some .i
 | some .string => some .s
 | some (.pointer e) => match P.info? e with
  | some ie => if ie.size = 0 then none else some .p
  | none => none
 | _ => none
def lJ : List Field → Nat → Option (List KK)
 | [], _ => some []
 | f :: fs, i => if f.name = "_" ∨ f.offset ≠ i then none else
  match zm P f.type, lJ fs (i + 1) with
  | some k, some ks => some (k :: ks)
  | _, _ => none
def qk (t : TypeId) : Option (List KK) := match P.underlying t with
 | some (.struct fs) => if P.stoodInHeld t then none else lJ P fs.toList 0
 | _ => none
def lZ (t : TypeId) : Option KT := match P.underlying t with
 | some .bool => some (.one .b)
 | some (.int _) => some (.one .i)
 | some .string => some (.one .s)
 | some (.struct _) => (qk P t).map .agg
 | _ => none
def AM (t : TypeId) : Option KT := match P.underlying t with
 | some (.map k _) => lZ P k
 | _ => none
def AN (op : BinOp) (t : TypeId) (x y : Operand) : Option BK :=
 match jh P t, op with
 | .int _, .add => some .add | .int _, .sub => some .sub | .int _, .mul => some .mul | .int _, .quo => some .quo | .int _, .rem => some .rem
 | .int _, .and => some .and | .int _, .or => some .or | .int _, .xor => some .xor | .int _, .andNot => some .MU | .int _, .shl => some .shl | .int _, .shr => some .shr
 | .int _, .eql => some .eq | .int _, .neq => some .ne | .int _, .lss => some .lt | .int _, .leq => some .le | .int _, .gtr => some .gt | .int _, .geq => some .ge
 | .string, .eql => some .seq | .string, .neq => some .Pw | .string, .lss => some .slt | .string, .leq => some .sle | .string, .gtr => some .Px | .string, .geq => some .Py | .string, .add => some .cat
 | .bool, .eql => some .beq
 | .bool, .neq => some .bne
 | .pointer e, .eql => if aY P e = 0 then none else some .nS
 | .pointer e, .neq => if aY P e = 0 then none else some .OE
 | .slice _, .eql => if sr .s y then some (.jW .s) else none
 | .slice _, .neq => if sr .s y then some (.pf .s) else none
 | .map .., .eql => if sr .m y then some (.jW .m) else none
 | .map .., .neq => if sr .m y then some (.pf .m) else none
 | .func .., .eql => if sr .f y then some (.jW .f) else none
 | .func .., .neq => if sr .f y then some (.pf .f) else none
 | .interface _, .eql => if sr .i y then some (.jW .i) else none
 | .interface _, .neq => if sr .i y then some (.pf .i) else none
 | .struct _, .eql => if P.eqGuardType P.depth t then none else (qk P t).map .Pz
 | .struct _, .neq => if P.eqGuardType P.depth t then none else (qk P t).map .PA
 | .float _, op => some (.PB op)
 | .complex _, op => some (.PC op)
 | _, _ => none
def nV (n : Nat) (place : Nat → Option (Nat × Nat)) (ps : List (Nat × Operand)) : Option (List Part) :=
 ps.mapM fun (i, x) => do
  let (off, sz) ← place i
  if off + sz ≤ n then some (.mk off sz (← cO G x)) else none
def Dc (s d : TypeId) : Option CK :=
 match jh P s, jh P d with
 | .int _, .int k => some (.toInt k)
 | .string, .string => some .same
 | .pointer e, .unsafePointer => if aY P e = 0 then none else some .Oz
 | .unsafePointer, .pointer u => if aY P u = 0 || !liesAt P P.depth u 1 0 u 1 then none else some (.CG u (aY P u))
 | .string, .slice e => match jh P e with | .int .u8 => some (.PD e) | _ => none
 | .slice e, .string => match jh P e with | .int .u8 => some .Hl | _ => none
 | .int _, .float k => some (.PU k)
 | .float _, .int k => some (.PV k)
 | _, _ => none
def iB (b : Builtin) (ts : List TypeId) (xs : List AO) : Option mG :=
 match b, ts, xs with
 | .len, t :: _, [x] => match jh P t with
  | .string => some (.hX x)
  | .slice _ => some (.len x)
  | .map .. => some (.CY x)
  | .array n _ => some (.mv (.c (.int .i64 n)))
  | .pointer a => match jh P a with | .array n _ => some (.mv (.c (.int .i64 n))) | _ => none
  | _ => none
 | .cap, t :: _, [x] => match jh P t with
  | .slice _ => some (.cap x)
  | .array n _ => some (.mv (.c (.int .i64 n)))
  | _ => none
 | .append, [t, u], [x, y] => match jh P t, jh P u with
  | .slice e, .string => if aY P e = 1 && ic P e then some (.apps e x y) else none
  | .slice e, .slice _ => if aY P e = 0 || !ic P e then none else some (.app e (aY P e) x y)
  | .slice e, .int _ => if aY P e = 0 || !ic P e then none else (fJ P e).bind fun z => if z.length ≠ aY P e then none else some (.Db e (aY P e) z x y)
  | _, _ => none
 | .copy, t :: _, [x, y] => match jh P t with | .slice e => if aY P e = 0 then none else some (.MQ (aY P e) x y) | _ => none
 | .clear, t :: _, [x] => match jh P t with | .slice e => if aY P e = 0 then none else (fJ P e).bind fun z => if z.length ≠ aY P e then none else some (.MS z x) | _ => none
 | .delete, t :: _, [x, y] => do some (.del (← AM P t) x y)
 | .max, _, xs => some (.max false xs)
 | .min, _, xs => some (.max true xs)
 | .unsafeSliceData, _, [x] => some (.Hv x)
 | .real, _, [x] => some (.real false x)
 | .imag, _, [x] => some (.real true x)
 | .unsafeString, t :: _, [x, y] => match jh P t with | .pointer e => if aY P e = 1 then some (.Da e x y) else none | _ => none
 | .complex, t :: _, [x, y] => match jh P t with | .float k => some (.fZ k x y) | _ => none
 | _, _, _ => none
def um (names : List String) (s : String) : Option Nat := names.findIdx? (· == s)
def bZ (names : List String) (o : Oper) : Option AI :=
 match o.op with
 | .move x | .assign x => do some (.op <| .mv (← cO G x))
 | .pick c a b => do some (.op <| .pick (← cO G c) (← cO G a) (← cO G b))
 | .alloc e => do let z ← fJ P e; some (.op <| .alloc e z.length (mJ z))
 | .box e x => do some (.op <| .box e (← cO G x))
 | .build t ps => do
  let z ← fJ P t
  match jh P t with
  | .struct fs => do if fs.all (fun f => (P.info? f.type).isSome) then some (.op <| .build z (← nV G z.length (fun i => (fs[i]?).map fun f => (f.offset, aY P f.type)) ps.toList)) else none
  | .array _ e => do if (P.info? e).isSome then some (.op <| .build z (← nV G z.length (fun i => some (i * aY P e, aY P e)) ps.toList)) else none
  | _ => none
 | .buildSlice t n ps => do
  let .slice e := jh P t | none
  let z ← fJ P e
  if aY P e = 0 ∨ z.length ≠ aY P e then none
  some (.op <| .cB e (aY P e) n (fj n z) (← nV G (n * aY P e) (fun i => some (i * aY P e, aY P e)) ps.toList))
 | .load t x => do
  if (P.underlying t).isNone then none
  if pN P t then some (.op <| .xV (aY P t) (← cO G x)) else some (.op <| .jV (← cO G x))
 | .store t x y => do
  if (P.info? t).isNone then none
  if pN P t then some (.op <| .Hd (aY P t) (← cO G x) (← cO G y)) else if aY P t = 1 then some (.op <| .He (← cO G x) (← cO G y)) else none
 | .nilCheck x => do some (.op <| .nR (← cO G x))
 | .binOp op t x y _ => match AN P op t x y with
  | some k => do some (.op <| .bin k (← cO G x) (← cO G y))
  | none => match AN P op t y x with
   | some (.jW k) => do some (.op <| .bin (.jW k) (← cO G y) (← cO G x))
   | some (.pf k) => do some (.op <| .bin (.pf k) (← cO G y) (← cO G x))
   | _ => none
 | .unOp op _ x => match op with
  | .not => do some (.op <| .un .not (← cO G x))
  | .neg => do some (.op <| .un .neg (← cO G x))
  | .xor => do some (.op <| .un .PE (← cO G x))
  | .plus => none
 | .convert s d x => do some (.op <| .conv (← Dc P s d) (← cO G x))
 | .makeInterface t x => match P.underlying t with
  | none | some (.interface _) => none
  | _ => do some (.op <| .MP t (← cO G x))
 | .makeFunc (.func f) first captured => do if first.isEmpty then some (.op <| .Oi f (← captured.toList.mapM (cO G))) else none
 | .makeMap _ none => some (.op .mH)
 | .makeMap t (some (.const (.int _ _))) => match jh P t with | .map .. => some (.op .mH) | _ => none
 | .makeSlice t l c => do
  let .slice e := jh P t | none
  let z ← fJ P e
  if aY P e = 0 ∨ z.length ≠ aY P e ∨ ic P e = false then none
  some (.op <| .mI e z (← cO G l) (← cO G c))
 | .slice t x l h m => match jh P t with
  | .string => do if m.isSome then none else some (.op <| .Ho (← cO G x) (← Hg G l) (← Hg G h))
  | .slice e => do if aY P e = 0 ∨ (m.isSome ∧ h.isNone) then none else some (.op <| .Oj (aY P e) (← cO G x) (← Hg G l) (← Hg G h) (← Hg G m))
  | .array n e => do if (m.isSome ∧ h.isNone) ∨ (P.info? e).isNone then none else some (.op <| .Hq n (aY P e) (← cO G x) (← Hg G l) (← Hg G h) (← Hg G m))
  | _ => none
 | .fieldAddr t x f => do
  let .struct fs := jh P t | none
  let fd ← fs[f]?
  if aY P fd.type = 0 then none
  some (.op <| .ly fd.offset (← cO G x))
 | .field t x f => do
  let .struct fs := jh P t | none
  let fd ← fs[f]?
  if (P.underlying fd.type).isNone then none
  if pN P fd.type then some (.op <| .Hs fd.offset (aY P fd.type) (← cO G x)) else some (.op <| .Hr fd.offset (← cO G x))
 | .indexAddr t x i => match jh P t with
  | .array n e => do if (P.info? e).isNone then none else some (.op <| .Kw n (aY P e) (← cO G x) (← cO G i))
  | .slice e => do if (P.info? e).isNone then none else some (.op <| .My (aY P e) (← cO G x) (← cO G i))
  | _ => none
 | .index t x i => match jh P t with
  | .string => do some (.op <| .idxs (← cO G x) (← cO G i))
  | .array n e => do if (P.underlying e).isNone then none else some (.op <| .Ht n (aY P e) (pN P e) (← cO G x) (← cO G i))
  | _ => none
 | .lookup t x i ok => do
  let .map _ e := jh P t | none
  some (.op <| .Cr (← AM P t) (← ji P e) ok (← cO G x) (← cO G i))
 | .mapUpdate t m k x | .insert t m k x => do some (.op <| .JO (← AM P t) (← cO G m) (← cO G k) (← cO G x))
 | .range t x => match jh P t with
  | .map .. => do some (.op <| .CZ (← cO G x))
  | _ => none
 | .next x s => do if s then none else some (.Hf s (← cO G x))
 | .entry x => do some (.op <| .MT (← cO G x))
 | .typeAssert x _ t ok => do
  if (jh P t matches .interface _) ∨ (P.underlying t).isNone then none
  some (.op <| .JP t (← ji P t) ok (← cO G x))
 | .extract x i => do some (.op <| .ext i (← cO G x))
 | .call c => do
  let xs ← c.args.toList.mapM (cO G)
  match c.callee with
  | .builtin b => (iB P b c.argTypes.toList xs).map .op
  | .value (.func f) => some (AI.call f xs)
  | .value x => do some (AI.lI (← cO G x) xs)
  | .invoke x name => do some (AI.inv (← um names name) (← cO G x) xs)
 | .mapEntry t m k => do
  let .map _ e := jh P t | none
  some (.op <| .vV (← AM P t) (← ji P e) (← cO G m) (← cO G k))
 | .entryStore _ m k x => do some (.op <| .vW (← cO G m) (← cO G k) (← cO G x))
 | _ => none
inductive KO where
 | pure | read | make | eg
 deriving DecidableEq
def Kz : mG → KO
 | .jV _ | .xV .. | .Cr .. | .CY _ => .read
 | .conv .Hl _ => .read
 | .conv .Oz _ | .conv (.CG ..) _ => .read
 | .alloc .. | .box .. | .cB .. | .mH | .mI .. | .Hu _ | .CZ _ => .make
 | .conv (.PD _) _ | .conv (.PW _) _ => .make
 | .He .. | .Hd .. | .JO .. | .del .. | .app .. | .apps .. | .MQ .. | .MS .. | .MT _ | .Da .. | .vV .. | .vW .. | .Db .. => .eg
 | .bad _ => .eg
 | _ => .pure
def nW : AI → Bool
 | .op o => match Kz o with | .pure | .read => true | _ => false
 | _ => false
section
variable (n : Nat)
def mK : Option Tmp → Option bO
 | none => some .no
 | some t => match G.sl t with
  | some s => if t < n then some (.t (hi s) (lo s)) else none
  | none => none
def ph : GI := .o .no (.op (.bad 400))
def nX (names : List String) (ops : Array Oper) (o : Oper) : GI :=
 match mK G n o.dst, bZ P G names o with
 | some d, some op => match o.guard with
  | none => .o d op
  | some (j, w) => match (ops[j]?).bind (·.dst) with
   | some t => match G.sl t with
    | some s => .g (hi s) (lo s) w d op
    | none => ph
   | none => ph
 | _, _ => ph
def qm (prev : List Nat) : List Oper → List Nat → List Nat
 | [], acc => acc
 | o :: os, acc => qm prev os (acc ++ [o.after.toList.foldl (fun s e => if Region.binds .any e then s ||| 2 ^ e.on ||| (if e.on < acc.length then acc.getD e.on 0 else prev.getD e.on 0) else s) 0])
def mL (os : List Oper) : List Nat := qm (qm (qm [] os []) os []) os []
def looks (n : Nat) (names : List String) (ops : Array Oper) (o : Oper) : List Nat := (nX P G n names ops o).aA
def zn : AI → Bool
 | .op (.alloc ..) | .op .mH | .op (.cB ..) => true
 | _ => false
def order (news : Nat) (names : List String) (ops : Array Oper) : List (Nat × Bk) :=
 let n := ops.size
 let os := ops.toList
 let fl := os.map fun o => match bZ P G names o with | some i => nW i | none => false
 let b := mL os
 let le (i j : Nat) : Bool := (b.getD j 0).testBit i
 let mk := os.map fun o => o.guard.isNone && (match bZ P G names o with | some i => zn i | none => false)
 let base := (List.range n).filter fun i => !fl.getD i false && !mk.getD i false
 let nw := mk.zipIdx.map fun (m, i) => m && (match news with | 0 => false | 1 => base.any fun e => !le e i && !le i e | _ => true)
 let effs0 := (List.range n).filter fun i => !fl.getD i false && !nw.getD i false
 let fK := (List.range effs0.length).filterMap fun k => effs0.find? fun i => (effs0.filter fun e => e != i && le e i).length == k
 let hiOf (i : Nat) : Nat := ((fK.zipIdx.find? fun (e, _) => le i e).map (·.2)).getD fK.length
 let loOf (i : Nat) : Nat := (fK.zipIdx.foldl (fun m (e, k) => if le e i then k + 1 else m) 0)
 let stage (j : Nat) : List (Nat × Bk) := (((List.range n).filter fun i => fl.getD i false && hiOf i == j).map fun i => (i, .rd (j - loOf i))) ++ (((List.range n).filter fun i => nw.getD i false && hiOf i == j).map fun i => (i, .new))
 (fK.zipIdx.flatMap fun (e, j) => stage j ++ [(e, .eg)]) ++ stage fK.length
end
def JQ : Bk → Bool
 | .eg => true
 | _ => false
def gT (le : Nat → Nat → Bool) : Bool → List (Nat × Bk) → List Nat → Bool
 | _, [], _ => true
 | _, (i, .eg) :: l, fK => (match fK with | [] => true | e :: _ => le e i) && gT le true l (i :: fK)
 | fl, (i, .rd n) :: l, fK => fl && (match fK.drop n with | [] => n == fK.length | e :: _ => le e i) && (match l.find? (fun x => JQ x.2) with | some (e, _) => le i e | none => true) && gT le true l fK
 | _, (i, .new) :: l, fK => (match l.find? (fun x => JQ x.2) with | some (e, _) => le i e | none => true) && gT le false l fK
def qn (n : Nat) (names : List String) (ops : Array Oper) (l : List (Nat × Bk)) (i : Nat) : Bk → Bool
 | .eg => true
 | .rd _ => match bZ P G names (ops.getD i default) with | some x => nW x | none => false
 | .new => (ops.getD i default).guard.isNone && (match bZ P G names (ops.getD i default) with | some x => zn x | none => false) &&
  (ops.getD i default).dst.all fun t => l.all fun (j, k) => JQ k || !(looks P G n names ops (ops.getD j default)).contains t
def jj (n : Nat) (names : List String) (ops : Array Oper) (l : List (Nat × Bk)) : Bool :=
 let b := mL ops.toList
 let le (i j : Nat) : Bool := (b.getD j 0).testBit i
 l.length == ops.size && (l.all fun (i, _) => decide (i < ops.size)) && (List.range ops.size).all (fun i => l.any (·.1 == i)) && (l.zipIdx.all fun ((i, _), p) => l.zipIdx.all fun ((j, _), q) => i != j || p == q) &&
 (ops.toList.zipIdx.all fun (o, i) => o.after.all fun e => !Region.binds .any e || (decide (e.on < ops.size) && decide (b.getD e.on 0 < b.getD i 0))) &&
 (l.zipIdx.all fun ((i, k), p) => l.zipIdx.all fun ((j, k'), q) => !le i j || decide (p < q) || ((k matches .new) && (k' matches .rd _))) &&
 (l.all fun (i, k) => qn P G n names ops l i k) &&
 gT le true l [] &&
 (ops.toList.zipIdx.all fun (o, i) => (o.dst.all fun t => ops.toList.zipIdx.all fun (o', j) => i == j || o'.dst != some t)) &&
 (ops.toList.zipIdx.all fun (o, i) => (looks P G n names ops o).all fun t => ops.toList.zipIdx.all fun (o', j) => o'.dst != some t || i == j || le i j || le j i) &&
 (l.all fun (i, k) => !(k matches .new) || (looks P G n names ops (ops.getD i default)).all fun t => ops.toList.zipIdx.all fun (o', j) => o'.dst != some t || le j i)
def hasNext : Code → Bool
 | .region _ ops _ => ops.any fun o => match o.op with | .next _ false => true | _ => false
 | .seq a _ => hasNext a
 | _ => false
def ft (x y : Nat) (ops : Array Oper) : Array Oper := ops.modify y fun o => { o with after := o.after.push ⟨x, .data⟩ }
def uo : Op → Bool
 | .call c => match c.callee with | .builtin b => (match b with | .print | .println | .recover | .unsafeSizeof => false | _ => true) | _ => false
 | .go _ | .defer _ | .send .. | .recv .. | .select .. | .panic _ => false
 | _ => true
def KA (names : List String) (o : Oper) : Bool := match bZ P G names o with | some i => !nW i | none => true
def loose (names : List String) (ops : Array Oper) : Option (Nat × Nat) :=
 let b := mL ops.toList
 let le (i j : Nat) : Bool := (b.getD j 0).testBit i
 let fK := (List.range ops.size).filter fun i => (ops[i]?).any (KA P G names)
 fK.findSome? fun i => fK.findSome? fun j => if i < j && !le i j && !le j i then some (i, j) else none
def ig (bad : Array Oper → AC) (n : Nat) (names : List String) (ops : Array Oper) : AC :=
 let l := order P G 0 names ops
 if jj P G n names ops l then .pL (l.map fun (i, b) => .mk b (nX P G n names ops (ops.getD i default))) else
 let l := order P G 1 names ops
 if jj P G n names ops l then .pL (l.map fun (i, b) => .mk b (nX P G n names ops (ops.getD i default))) else
 let l := order P G 2 names ops
 if jj P G n names ops l then .pL (l.map fun (i, b) => .mk b (nX P G n names ops (ops.getD i default))) else bad ops
def kc (next : Array Oper → AC) (names : List String) (ops : Array Oper) : AC := match loose P G names ops with
 | some (x, y) => if ops.all (fun o => uo o.op) && x != y && decide (x < ops.size) && decide (y < ops.size) then .alt (next (ft x y ops)) (next (ft y x ops)) else .bad 404
 | none => .bad 404
def mM (n : Nat) (names : List String) (ops : Array Oper) : AC := ig P G (kc P G (ig P G (kc P G (ig P G (fun _ => .bad 404) n names) names) n names) names) n names ops
def ma (n : Nat) (names : List String) (ops : Array Oper) (o : Oper) : GI := match bZ P G names o, o.guard, mK G n o.dst with
 | none, some (j, w), some d => match (ops[j]?).bind (·.dst) with
  | some t => match G.sl t with
   | some s => .g (hi s) (lo s) w d (.op (.bad 405))
   | none => ph
  | none => ph
 | _, _, _ => nX P G n names ops o
def OG : GI → Bool
 | .o .no (.op (.bad 400)) => true
 | _ => false
def OH : GI → Bool
 | .o .no (.op (.bad 400)) => true
 | .g _ _ _ _ (.op (.bad 405)) => true
 | _ => false
def pC (n : Nat) (names : List String) (ops : Array Oper) : AC :=
 let l := ops.toList.map fun o => ma P G n names ops o
 if l.any OG && G.b.isNone then
  match (List.range 16).find? fun q => !((ops.toList.map fun o => ma P { G with b := some q } n names ops o).any OH) with
  | some q => .KB q (ops.toList.map fun o => ma P { G with b := some q } n names ops o)
  | none => .ops l
 else .ops l
def cC (n : Nat) (names : List String) : Code → AC
 | .skip => .skip
 | .region _ ops false => pC P G n names ops
 | .region _ ops true => mM P G n names ops
 | .seq a b => .seq (cC n names a) (cC n names b)
 | .cond c a b => match cO G c with | some c => .cond c (cC n names a) (cC n names b) | none => .bad 401
 | .block i a => match a with
  | .loop b => if hasNext b then .join (.block i (.loop (cC n names b))) else .block i (.loop (cC n names b))
  | a => .block i (cC n names a)
 | .loop a => .loop (cC n names a)
 | .scope a => .scope (cC n names a)
 | .exit i => .exit i
 | .goto l => .goto l
 | .label l => .label l
 | .ret => .ret
 | .rangeFunc .. => .bad 402
 | .refuse _ => .bad 403
def Mz (n : Nat) (r : ResultVar) : Option Rs :=
 match r with
 | .tmp t => if t < 256 then some (.t (hi t) (lo t)) else none
 | .cell t ty => if (P.underlying ty).isNone then none else if t < 256 then some (if pN P ty then .agg (aY P ty) (hi t) (lo t) else .one (hi t) (lo t)) else none
def cF (names : List String) (f : Func) : AF :=
 match f.body, f.results.toList.mapM (Mz P f.ntmps) with
 | some c, some rs => if f.name == "runtime.NumGoroutine" then .none else .mk (cC P G f.ntmps names c) rs
 | _, _ => .none
end
end
noncomputable section
structure Kt where
 n : A2 → Hp → RS
 e : Nat → A2 → Hp → RS
 g : Nat → A2 → Hp → RS
 r : A2 → Hp → RS
def AI.kj (cf : Cf) (iv : Iv) (d : bO) (k : A2 → Hp → RS) (r : A2) (h : Hp) : AI → RS
 | .op y => zo d k r (y.run r h)
 | .Hf s x => stepT d k r (ko s (ev x r) h)
 | .call f xs => stepT d k r (cf f (fm xs r) h)
 | .lI x xs => stepT d k r (AV.CW (ev x r) (fun f cs => cf f (List.append (fm xs r) cs) h) (.err 202))
 | .inv n x xs => stepT d k r (iv n (ev x r) (fm xs r) h)
def GI.kj (cf : Cf) (iv : Iv) (k : A2 → Hp → RS) (r : A2) (h : Hp) : GI → RS
 | .o d i => i.kj cf iv d k r h
 | .g a b w d i => AV.bu (gb w (aq a b r)) (fun t => @Bool.rec (fun _ => RS) (k (cN d cu r) h) (i.kj cf iv d k r h) (jf t w)) (.err 210)
def su (cf : Cf) (iv : Iv) (k : A2 → Hp → RS) : List GI → A2 → Hp → RS
 | [] => k
 | i :: l => fun r h => i.kj cf iv (su cf iv k l) r h
def JR (cf : Cf) (iv : Iv) (b : Bk) (d : bO) (k : DK) (r : A2) (h g : Hp) (hs : List Hp) : AI → RS
 | .op y => @Bk.rec (fun _ => RS) (mb d k r g hs (y.run r h).kW) (fun n => vX d y n k r h g hs (y.run r g)) (Dd d k r g hs (y.run r h)) b
 | .Hf s x => mb d k r g hs (ko s (ev x r) h)
 | .call f xs => mb d k r g hs (cf f (fm xs r) h)
 | .lI x xs => mb d k r g hs (AV.CW (ev x r) (fun f cs => cf f (List.append (fm xs r) cs) h) (.err 202))
 | .inv n x xs => mb d k r g hs (iv n (ev x r) (fm xs r) h)
def DI.kj (cf : Cf) (iv : Iv) (k : DK) (r : A2) (h g : Hp) (hs : List Hp) : DI → RS
 | .mk b (.o d i) => JR cf iv b d k r h g hs i
 | .mk b (.g x y w d i) => AV.bu (gb w (aq x y r)) (fun t => @Bool.rec (fun _ => RS) (Hw b d k r h g hs) (JR cf iv b d k r h g hs i) (jf t w)) (.err 212)
def mN (cf : Cf) (iv : Iv) (k : A2 → Hp → RS) : List DI → DK
 | [] => fun r h _ _ => k r h
 | i :: l => fun r h g hs => i.kj cf iv (mN cf iv k l) r h g hs
def den (cf : Cf) (iv : Iv) : AC → Kt → A2 → Hp → RS
 | .skip, K => K.n
 | .ops l, K => su cf iv K.n l
 | .pL l, K => fun r h => mN cf iv K.n l r h h []
 | .seq a b, K => den cf iv a ⟨den cf iv b K, K.e, K.g, K.r⟩
 | .cond c a b, K => fun r h => AV.bu (ev c r) (fun t => @Bool.rec (fun _ => RS) (den cf iv b K r h) (den cf iv a K r h) t) (.err 213)
 | .block i a, K => den cf iv a ⟨K.n, fun j r h => @Bool.rec (fun _ => RS) (K.e j r h) (K.n r h) (Nat.beq j i), K.g, K.r⟩
 | .exit i, K => K.e i
 | .goto l, K => K.g l
 | .ret, K => K.r
 | _, _ => fun _ _ => .err 310
def uq (cf : Cf) (iv : Iv) (K : Kt) (T : A2 → Hp → RS) : Nat → AC → A2 → Hp → RS
 | 0, _ => T
 | k + 1, .seq a b => den cf iv a ⟨uq cf iv K T k b, K.e, K.g, K.r⟩
 | _ + 1, c => den cf iv c K
def jk : Nat → AC → AC
 | 0, c => c
 | k + 1, .seq _ b => jk k b
 | _ + 1, _ => .skip
def qo : AC → Bool
 | .seq a b => qo a && qo b
 | .label _ => false
 | .ag _ _ => false
 | _ => true
def kp : Nat → AC → Bool
 | 0, _ => true
 | k + 1, .seq a b => qo a && kp k b
 | _ + 1, c => qo c
def bF (r : A2) : List Nat → A2
 | [] => .nil
 | t :: L => if t < 256 then mc (dj (t / 16)) (dj (t % 16)) (aq (dj (t / 16)) (dj (t % 16)) r) (bF r L) else bF r L
def me (L Lr : List Nat) : Kt := ⟨fun r h => .nm (bF r L) h, fun i r h => .ex i (bF r L) h, fun l r h => .go l (bF r L) h, fun r h => .ret (bF r Lr) h⟩
def qp (c : AC) (k : Nat) (Lin L Lr Lx : List Nat) : Cf → Iv → (A2 → Hp → RS) → A2 → Hp → RS :=
 fun cf iv rx r h => uq cf iv (me L Lr) (fun r h => rx (bF r Lx) h) k c (bF r Lin) h
inductive Impl : AC → AC → Prop
 | refl (c : AC) : Impl c c
 | seq {a a' b b' : AC} : Impl a a' → Impl b b' → Impl (.seq a b) (.seq a' b')
 | cond {o : AO} {a a' b b' : AC} : Impl a a' → Impl b b' → Impl (.cond o a b) (.cond o a' b')
 | block {i : Nat} {a a' : AC} : Impl a a' → Impl (.block i a) (.block i a')
 | loop {a a' : AC} : Impl a a' → Impl (.loop a) (.loop a')
 | scope {a a' : AC} : Impl a a' → Impl (.scope a) (.scope a')
 | join {i : Nat} {a a' : AC} : Impl a a' → Impl (.join (.block i (.loop a))) (.join (.block i (.loop a')))
 | PF {i : Nat} {a a' : AC} : Impl a a' → Impl (.join (.block i a)) (.block i a')
 | bad {c : AC} (n : Nat) : qo c = true → Impl c (.bad n)
 | ag {c x : AC} {f : Cf → Iv → (A2 → Hp → RS) → A2 → Hp → RS} (k : Nat) (Lin L Lr Lx : List Nat) : kp k c = true → f = qp c k Lin L Lr Lx → Impl (jk k c) x → Impl c (.ag f x)
end
noncomputable section
def Ky (x : AF) : AC := match x with | .none => .skip | .mk b _ => b | .sw _ b _ => b | .MA b _ => b | .ext _ => .skip
def gL (c : AC) : AC := match c with | .seq a _ => a | .cond _ a _ => a | .block _ a => a | .loop a => a | .scope a => a | .join a => a | c => c
def gR (c : AC) : AC := match c with | .seq _ b => b | .cond _ _ b => b | c => c
theorem dr {c a' b' : AC} (a b : AC) (ha : Impl a a') (hb : Impl b b') (e : c = .seq a b := by kernel_rfl) : Impl c (.seq a' b') := e ▸ .seq ha hb
theorem Ok {o : AO} {c a' b' : AC} (a b : AC) (ha : Impl a a') (hb : Impl b b') (e : c = .cond o a b := by kernel_rfl) : Impl c (.cond o a' b') := e ▸ .cond ha hb
theorem fk {i : Nat} {c a' : AC} (a : AC) (ha : Impl a a') (e : c = .block i a := by kernel_rfl) : Impl c (.block i a') := e ▸ .block ha
theorem jb {c a' : AC} (a : AC) (ha : Impl a a') (e : c = .loop a := by kernel_rfl) : Impl c (.loop a') := e ▸ .loop ha
theorem PX {c a a' : AC} (e : c = .scope a) (ha : Impl a a') : Impl c (.scope a') := e ▸ .scope ha
theorem kX {c x : AC} (e : c = x := by kernel_rfl) : Impl c x := e ▸ .refl _
theorem bH {c x : AC} {f : Cf → Iv → (A2 → Hp → RS) → A2 → Hp → RS} (d : AC) (k : Nat) (Lin L Lr Lx : List Nat) (h : Impl d x) (e : (kp k c, jk k c, f) = (true, d, qp c k Lin L Lr Lx) := by kernel_rfl) : Impl c (.ag f x) := by
 have e1 : kp k c = true := congrArg (·.1) e
 have e2 : jk k c = d := congrArg (·.2.1) e
 have e3 : f = qp c k Lin L Lr Lx := congrArg (·.2.2) e
 exact .ag k Lin L Lr Lx e1 e3 (e2 ▸ h)
theorem bQ {c : AC} {f : Cf → Iv → (A2 → Hp → RS) → A2 → Hp → RS} (k : Nat) (Lin L Lr Lx : List Nat) (e : (kp k c, jk k c, f) = (true, .skip, qp c k Lin L Lr Lx) := by kernel_rfl) : Impl c (.ag f .skip) := bH .skip k Lin L Lr Lx (.refl _) e
end
end Go.Am
