/- What code of the abstract machine a Go function is, and what loop-free code means. Nothing is asked. -/
import Derived.Test.YtphjcbegmaekbaaGreatDoorA
import GoSem.Step
import Derived.Orders
import Derived.KernelRfl
set_option linter.all false
namespace Go.Am
noncomputable section
def AO.aF:AO→List Nat
 | .t a b=>[16 * a.nat+b.nat]
 | .c _=>[]
def OA.aF:OA→List Nat
 | .none=>[]
 | .some x=>x.aF
def Part.aF:Part→List Nat
 | .mk _ _ x=>x.aF
def tx (l:List AO):List Nat:=l.flatMap AO.aF
def ox.aF:ox→List Nat
 | .mv x=>x.aF
 | .pick c a b=>c.aF ++ (a.aF ++ b.aF)
 | .alloc ..=>[]
 | .box _ x=>x.aF
 | .build _ ps=>ps.flatMap Part.aF
 | .bD _ _ _ _ ps=>ps.flatMap Part.aF
 | .cY x=>x.aF
 | .kY _ x=>x.aF
 | .st1 x y=>x.aF ++ y.aF
 | .vg _ x y=>x.aF ++ y.aF
 | .qm x=>x.aF
 | .bin _ x y=>x.aF ++ y.aF
 | .un _ x=>x.aF
 | .conv _ x=>x.aF
 | .mki _ x=>x.aF
 | .mkf _ xs=>tx xs
 | .nd=>[]
 | .nf _ _ l c=>l.aF ++ c.aF
 | .slc _ x lo hi mx=>x.aF ++ (lo.aF ++ (hi.aF ++ mx.aF))
 | .LC x lo hi=>x.aF ++ (lo.aF ++ hi.aF)
 | .LF _ _ x lo hi mx=>x.aF ++ (lo.aF ++ (hi.aF ++ mx.aF))
 | .dh _ x=>x.aF
 | .LG _ x=>x.aF
 | .LH _ _ x=>x.aF
 | .dn _ x y=>x.aF ++ y.aF
 | .ixa _ _ x y=>x.aF ++ y.aF
 | .idxs x y=>x.aF ++ y.aF
 | .LI _ _ _ x y=>x.aF ++ y.aF
 | .ext _ x=>x.aF
 | .zH _ _ _ x y=>x.aF ++ y.aF
 | .Bj _ x y z=>x.aF ++ (y.aF ++ z.aF)
 | .del _ x y=>x.aF ++ y.aF
 | .Ge x=>x.aF
 | .len x=>x.aF
 | .gi x=>x.aF
 | .cap x=>x.aF
 | .max _ xs=>tx xs
 | .app _ _ x y=>x.aF ++ y.aF
 | .apps _ x y=>x.aF ++ y.aF
 | .cpy _ x y=>x.aF ++ y.aF
 | .clr _ x=>x.aF
 | .LJ x=>x.aF
 | .CP x=>x.aF
 | .RX x=>x.aF
 | .TP _ _ _ x=>x.aF
 | .aM _ x y=>x.aF ++ y.aF
 | .real _ x=>x.aF
 | .LK x=>x.aF
 | .Gf _ x y=>x.aF ++ y.aF
 | .yi _ _ x y=>x.aF ++ y.aF
 | .yj x y z=>x.aF ++ y.aF ++ z.aF
 | .Gg _ _ _ x y=>x.aF ++ y.aF
 | .bad _=>[]
def AI.aF:AI→List Nat
 | .op o=>o.aF
 | .xO _ x=>x.aF
 | .call _ xs=>tx xs
 | .jI x xs=>x.aF ++ tx xs
 | .inv _ x xs=>x.aF ++ tx xs
def GI.aF:GI→List Nat
 | .o _ i=>i.aF
 | .g a b _ _ i=>(16 * a.nat+b.nat)::i.aF
structure Gl where
 n:Nat
 sy:List (P4×Nat)
 b:Option Nat
instance:OfNat Gl 0:=⟨⟨0,[],none⟩⟩
def Gl.sl (G:Gl) (t:Nat):Option Nat:=match G.b with
 | none=>if t < 256 then some t else none
 | some q=>if t < 16 * q then (if t < 256 then some t else none) else if t < 16 * q+16 then none else if t < 272 then some (t - 16) else none
def Gl.tm (G:Gl) (s:Nat):Nat:=match G.b with
 | none=>s
 | some q=>if s < 16 * q then s else s+16
section
variable (P:Program) (G:Gl)
def hi (n:Nat):H:=bO (n / 16)
def lo (n:Nat):H:=bO (n % 16)
def P4.of (n:Nat):P4:=.mk (bO (n / 4096)) (bO (n / 256 % 16)) (bO (n / 16 % 16)) (bO (n % 16))
def AN:Value→Option AV
 | .bool b=>some (.bool b)
 | .int k n=>some (.int k n)
 | .float k n=>some (.gA k n)
 | .complex k a b=>some (.aM k a b)
 | .string s=>some (.str (s.data.toList.map (·.toNat)))
 | .pointer none=>some .dP
 | .slice none 0 0=>some .aj
 | .map none=>some .mX
 | .func (.func f) ⟨[]⟩ ⟨[]⟩=>some (.fn f [])
 | .nilFunc=>some .qn
 | .nilIface=>some .qQ
 | _=>none
def Cj (v:Value):Option AV:=
 match v with
 | .agg cs=>(cs.toList.mapM AN).map .agg
 | .iface t v=>(AN v).map (.iface t)
 | v=>AN v
def cO:Operand→Option AO
 | .tmp t=>(G.sl t).map fun s=>.t (hi s) (lo s)
 | .const v=>(Cj v).map .c
 | .global g=>if g < G.n then some (.c (.ptr (P4.of g) 0)) else none
 | .func f=>some (.c (.fn f []))
def Ko:Option Operand→Option OA
 | none=>some .none
 | some x=>(cO G x).map .some
def jg (t:TypeId):TypeDesc:=(P.underlying t).getD .invalid
def qE (t:TypeId):Bool:=match jg P t with|.struct _|.array ..=>true|_=>false
def bj (t:TypeId):Nat:=P.cellsOf t
def fS (t:TypeId):Option (List AV):=((P.info? t).bind (·.zero)).bind fun z=>z.cells.toList.mapM AN
def jm (t:TypeId):Option AV:=((P.info? t).bind (·.zero)).bind Cj
def uU:NK→Operand→Bool
 | .s,.const (.slice none 0 0)=>true
 | .m,.const (.map none)=>true
 | .f,.const .nilFunc=>true
 | .i,.const .nilIface=>true
 | _,_=>false
def iy (e:TypeId):Bool:=match P.info? e with
 | some i=>(match i.zero with|some z=>z.cells.size == i.size|none=>false)&&Nat.ble i.bytes 1048576
 | none=>false
def Ck (t:TypeId):Option KK:=match P.underlying t with
 | some .bool=>some .b
 | some (.int _)=>some .i
 | some .string=>some .s
 | some (.pointer e)=>match P.info? e with
  | some ie=>if ie.size=0 then none else some .p
  | none=>none
 | _=>none
def lW:List Field→Nat→Option (List KK)
 | [],_=>some []
 | f::fs,i=>if f.name = "_" ∨f.offset≠i then none else
  match Ck P f.type,lW fs (i+1) with
  | some k,some ks=>some (k::ks)
  | _,_=>none
def tV (t:TypeId):Option (List KK):=match P.underlying t with
 | some (.struct fs)=>if P.stoodInHeld t then none else lW P fs.toList 0
 | _=>none
def my (t:TypeId):Option KT:=match P.underlying t with
 | some .bool=>some (.one .b)
 | some (.int _)=>some (.one .i)
 | some .string=>some (.one .s)
 | some (.struct _)=>(tV P t).map .agg
 | _=>none
def De (t:TypeId):Option KT:=match P.underlying t with
 | some (.map k _)=>my P k
 | _=>none
def CX (op:BinOp) (t:TypeId) (x y:Operand):Option BK:=
 match jg P t,op with
 | .int _,.add=>some .add|.int _,.sub=>some .sub|.int _,.mul=>some .mul|.int _,.quo=>some .quo|.int _,.rem=>some .rem
 | .int _,.and=>some .and|.int _,.or=>some .or|.int _,.xor=>some .xor|.int _,.andNot=>some .anF|.int _,.shl=>some .shl|.int _,.shr=>some .shr
 | .int _,.eql=>some .eq|.int _,.neq=>some .ne|.int _,.lss=>some .lt|.int _,.leq=>some .le|.int _,.gtr=>some .gt|.int _,.geq=>some .ge
 | .string,.eql=>some .seq|.string,.neq=>some .sne|.string,.lss=>some .slt|.string,.leq=>some .sle|.string,.gtr=>some .sgt|.string,.geq=>some .sge|.string,.add=>some .cat
 | .bool,.eql=>some .beq
 | .bool,.neq=>some .bne
 | .pointer e,.eql=>if bj P e=0 then none else some .jM
 | .pointer e,.neq=>if bj P e=0 then none else some .pne
 | .slice _,.eql=>if uU .s y then some (.jR .s) else none
 | .slice _,.neq=>if uU .s y then some (.pS .s) else none
 | .map ..,.eql=>if uU .m y then some (.jR .m) else none
 | .map ..,.neq=>if uU .m y then some (.pS .m) else none
 | .func ..,.eql=>if uU .f y then some (.jR .f) else none
 | .func ..,.neq=>if uU .f y then some (.pS .f) else none
 | .interface _,.eql=>if uU .i y then some (.jR .i) else none
 | .interface _,.neq=>if uU .i y then some (.pS .i) else none
 | .struct _,.eql=>if P.eqGuardType P.depth t then none else (tV P t).map .aeq
 | .struct _,.neq=>if P.eqGuardType P.depth t then none else (tV P t).map .ane
 | .float _,op=>some (.RW op)
 | .complex _,op=>some (.cop op)
 | _,_=>none
def pH (n:Nat) (place:Nat→Option (Nat×Nat)) (ps:List (Nat×Operand)):Option (List Part):=
 ps.mapM fun (i,x)=>do
  let (off,sz)←place i
  if off+sz≤n then some (.mk off sz (←cO G x)) else none
def HC (s d:TypeId):Option CK:=
 match jg P s,jg P d with
 | .int _,.int k=>some (.toInt k)
 | .string,.string=>some .same
 | .pointer e,.unsafePointer=>if bj P e=0 then none else some .uto
 | .unsafePointer,.pointer u=>if bj P u=0 || !liesAt P P.depth u 1 0 u 1 then none else some (.TB u (bj P u))
 | .string,.slice e=>match jg P e with|.int .u8=>some (.s2b e)|_=>none
 | .slice e,.string=>match jg P e with|.int .u8=>some .b2s|_=>none
 | .slice e,.slice _=>match jg P e with|.int .u8=>if s=d then some (.s2r e) else none|_=>none
 | .int _,.float k=>some (.i2f k)
 | .float _,.int k=>some (.f2i k)
 | _,_=>none
def iJ (b:Builtin) (ts:List TypeId) (xs:List AO):Option ox:=
 match b,ts,xs with
 | .len,t::_,[x]=>match jg P t with
  | .string=>some (.gi x)
  | .slice _=>some (.len x)
  | .map ..=>some (.Ge x)
  | .array n _=>some (.mv (.c (.int .i64 n)))
  | .pointer a=>match jg P a with|.array n _=>some (.mv (.c (.int .i64 n)))|_=>none
  | _=>none
 | .cap,t::_,[x]=>match jg P t with
  | .slice _=>some (.cap x)
  | .array n _=>some (.mv (.c (.int .i64 n)))
  | _=>none
 | .append,[t,u],[x,y]=>match jg P t,jg P u with
  | .slice e,.string=>if bj P e=1&&iy P e then some (.apps e x y) else none
  | .slice e,.slice _=>if bj P e=0 || !iy P e then none else some (.app e (bj P e) x y)
  | .slice e,.int _=>if bj P e=0 || !iy P e then none else (fS P e).bind fun z=>if z.length≠bj P e then none else some (.Gg e (bj P e) z x y)
  | _,_=>none
 | .copy,t::_,[x,y]=>match jg P t with|.slice e=>if bj P e=0 then none else some (.cpy (bj P e) x y)|_=>none
 | .clear,t::_,[x]=>match jg P t with|.slice e=>if bj P e=0 then none else (fS P e).bind fun z=>if z.length≠bj P e then none else some (.clr z x)|_=>none
 | .delete,t::_,[x,y]=>do some (.del (←De P t) x y)
 | .max,_,xs=>some (.max false xs)
 | .min,_,xs=>some (.max true xs)
 | .unsafeSliceData,_,[x]=>some (.LK x)
 | .real,_,[x]=>some (.real false x)
 | .imag,_,[x]=>some (.real true x)
 | .unsafeString,t::_,[x,y]=>match jg P t with|.pointer e=>if bj P e=1 then some (.Gf e x y) else none|_=>none
 | .complex,t::_,[x,y]=>match jg P t with|.float k=>some (.aM k x y)|_=>none
 | _,_,_=>none
def wR (names:List String) (s:String):Option Nat:=names.findIdx? (· == s)
def bX (names:List String) (o:Oper):Option AI:=
 match o.op with
 | .move x|.assign x=>do some (.op <| .mv (←cO G x))
 | .pick c a b=>do some (.op <| .pick (←cO G c) (←cO G a) (←cO G b))
 | .alloc e=>do let z←fS P e;some (.op <| .alloc e z.length (lP z))
 | .box e x=>do some (.op <| .box e (←cO G x))
 | .build t ps=>do
  let z←fS P t
  match jg P t with
  | .struct fs=>do if fs.all (fun f=>(P.info? f.type).isSome) then some (.op <| .build z (←pH G z.length (fun i=>(fs[i]?).map fun f=>(f.offset,bj P f.type)) ps.toList)) else none
  | .array _ e=>do if (P.info? e).isSome then some (.op <| .build z (←pH G z.length (fun i=>some (i * bj P e,bj P e)) ps.toList)) else none
  | _=>none
 | .buildSlice t n ps=>do
  let .slice e:=jg P t|none
  let z←fS P e
  if bj P e=0∨z.length≠bj P e then none
  some (.op <| .bD e (bj P e) n (dS n z) (←pH G (n * bj P e) (fun i=>some (i * bj P e,bj P e)) ps.toList))
 | .load t x=>do
  if (P.underlying t).isNone then none
  if qE P t then some (.op <| .kY (bj P t) (←cO G x)) else some (.op <| .cY (←cO G x))
 | .store t x y=>do
  if (P.info? t).isNone then none
  if qE P t then some (.op <| .vg (bj P t) (←cO G x) (←cO G y)) else if bj P t=1 then some (.op <| .st1 (←cO G x) (←cO G y)) else none
 | .nilCheck x=>do some (.op <| .qm (←cO G x))
 | .binOp op t x y _=>match CX P op t x y with
  | some k=>do some (.op <| .bin k (←cO G x) (←cO G y))
  | none=>match CX P op t y x with
   | some (.jR k)=>do some (.op <| .bin (.jR k) (←cO G y) (←cO G x))
   | some (.pS k)=>do some (.op <| .bin (.pS k) (←cO G y) (←cO G x))
   | _=>none
 | .unOp op _ x=>match op with
  | .not=>do some (.op <| .un .not (←cO G x))
  | .neg=>do some (.op <| .un .neg (←cO G x))
  | .xor=>do some (.op <| .un .com (←cO G x))
  | .plus=>none
 | .convert s d x=>do some (.op <| .conv (←HC P s d) (←cO G x))
 | .makeInterface t x=>match P.underlying t with
  | none|some (.interface _)=>none
  | _=>do some (.op <| .mki t (←cO G x))
 | .makeFunc (.func f) first captured=>do if first.isEmpty then some (.op <| .mkf f (←captured.toList.mapM (cO G))) else none
 | .makeMap _ none=>some (.op .nd)
 | .makeMap t (some (.const (.int _ _)))=>match jg P t with|.map ..=>some (.op .nd)|_=>none
 | .makeSlice t l c=>do
  let .slice e:=jg P t|none
  let z←fS P e
  if bj P e=0∨z.length≠bj P e∨iy P e=false then none
  some (.op <| .nf e z (←cO G l) (←cO G c))
 | .slice t x l h m=>match jg P t with
  | .string=>do if m.isSome then none else some (.op <| .LC (←cO G x) (←Ko G l) (←Ko G h))
  | .slice e=>do if bj P e=0∨(m.isSome∧h.isNone) then none else some (.op <| .slc (bj P e) (←cO G x) (←Ko G l) (←Ko G h) (←Ko G m))
  | .array n e=>do if (m.isSome∧h.isNone)∨(P.info? e).isNone then none else some (.op <| .LF n (bj P e) (←cO G x) (←Ko G l) (←Ko G h) (←Ko G m))
  | _=>none
 | .fieldAddr t x f=>do
  let .struct fs:=jg P t|none
  let fd←fs[f]?
  if bj P fd.type=0 then none
  some (.op <| .dh fd.offset (←cO G x))
 | .field t x f=>do
  let .struct fs:=jg P t|none
  let fd←fs[f]?
  if (P.underlying fd.type).isNone then none
  if qE P fd.type then some (.op <| .LH fd.offset (bj P fd.type) (←cO G x)) else some (.op <| .LG fd.offset (←cO G x))
 | .indexAddr t x i=>match jg P t with
  | .array n e=>do if (P.info? e).isNone then none else some (.op <| .ixa n (bj P e) (←cO G x) (←cO G i))
  | .slice e=>do if (P.info? e).isNone then none else some (.op <| .dn (bj P e) (←cO G x) (←cO G i))
  | _=>none
 | .index t x i=>match jg P t with
  | .string=>do some (.op <| .idxs (←cO G x) (←cO G i))
  | .array n e=>do if (P.underlying e).isNone then none else some (.op <| .LI n (bj P e) (qE P e) (←cO G x) (←cO G i))
  | _=>none
 | .lookup t x i ok=>do
  let .map _ e:=jg P t|none
  some (.op <| .zH (←De P t) (←jm P e) ok (←cO G x) (←cO G i))
 | .mapUpdate t m k x|.insert t m k x=>do some (.op <| .Bj (←De P t) (←cO G m) (←cO G k) (←cO G x))
 | .range t x=>match jg P t with
  | .map ..=>do some (.op <| .CP (←cO G x))
  | _=>none
 | .next x s=>do if s then none else some (.xO s (←cO G x))
 | .entry x=>do some (.op <| .RX (←cO G x))
 | .typeAssert x _ t ok=>do
  if (jg P t matches .interface _)∨(P.underlying t).isNone then none
  some (.op <| .TP t (←jm P t) ok (←cO G x))
 | .extract x i=>do some (.op <| .ext i (←cO G x))
 | .call c=>do
  let xs←c.args.toList.mapM (cO G)
  match c.callee with
  | .builtin b=>(iJ P b c.argTypes.toList xs).map .op
  | .value (.func f)=>some (AI.call f xs)
  | .value x=>do some (AI.jI (←cO G x) xs)
  | .invoke x name=>do some (AI.inv (←wR names name) (←cO G x) xs)
 | .mapEntry t m k=>do
  let .map _ e:=jg P t|none
  some (.op <| .yi (←De P t) (←jm P e) (←cO G m) (←cO G k))
 | .entryStore _ m k x=>do some (.op <| .yj (←cO G m) (←cO G k) (←cO G x))
 | _=>none
inductive KO where
 | pure|read|make|dQ
 deriving DecidableEq
def ali:ox→KO
 | .cY _|.kY ..|.zH ..|.Ge _=>.read
 | .conv .b2s _=>.read
 | .conv .uto _|.conv (.TB ..) _=>.read
 | .alloc ..|.box ..|.bD ..|.nd|.nf ..|.LJ _|.CP _=>.make
 | .conv (.s2b _) _|.conv (.s2r _) _=>.make
 | .st1 ..|.vg ..|.Bj ..|.del ..|.app ..|.apps ..|.cpy ..|.clr ..|.RX _|.Gf ..|.yi ..|.yj ..|.Gg ..=>.dQ
 | .bad _=>.dQ
 | _=>.pure
def jz:AI→Bool
 | .op o=>match ali o with|.pure|.read=>true|_=>false
 | _=>false
section
variable (n:Nat)
def gG:Option Tmp→Option aL
 | none=>some .no
 | some t=>match G.sl t with
  | some s=>if t < n then some (.t (hi s) (lo s)) else none
  | none=>none
def nF:GI:=.o .no (.op (.bad 400))
def fL (names:List String) (ops:Array Oper) (o:Oper):GI:=
 match gG G n o.dst,bX P G names o with
 | some d,some op=>match o.guard with
  | none=>.o d op
  | some (j,w)=>match (ops[j]?).bind (·.dst) with
   | some t=>match G.sl t with
    | some s=>.g (hi s) (lo s) w d op
    | none=>nF
   | none=>nF
 | _,_=>nF
def tz (prev:List Nat):List Oper→List Nat→List Nat
 | [],acc=>acc
 | o::os,acc=>tz prev os (acc ++ [o.after.toList.foldl (fun s e=>if Region.binds .any e then s ||| 2 ^ e.on ||| (if e.on < acc.length then acc.getD e.on 0 else prev.getD e.on 0) else s) 0])
def nQ (os:List Oper):List Nat:=tz (tz (tz [] os []) os []) os []
def looks (n:Nat) (names:List String) (ops:Array Oper) (o:Oper):List Nat:=(fL P G n names ops o).aF
def Cm:AI→Bool
 | .op (.alloc ..)|.op .nd|.op (.bD ..)=>true
 | _=>false
def order (news:Nat) (names:List String) (ops:Array Oper):List (Nat×Bk):=
 let n:=ops.size
 let os:=ops.toList
 let fl:=os.map fun o=>match bX P G names o with|some i=>jz i|none=>false
 let b:=nQ os
 let le (i j:Nat):Bool:=(b.getD j 0).testBit i
 let mk:=os.map fun o=>o.guard.isNone&&(match bX P G names o with|some i=>Cm i|none=>false)
 let base:=(List.range n).filter fun i=>!fl.getD i false&&!mk.getD i false
 let nw:=mk.zipIdx.map fun (m,i)=>m&&(match news with|0=>false|1=>base.any fun e=>!le e i&&!le i e|_=>true)
 let effs0:=(List.range n).filter fun i=>!fl.getD i false&&!nw.getD i false
 let fY:=(List.range effs0.length).filterMap fun k=>effs0.find? fun i=>(effs0.filter fun e=>e != i&&le e i).length == k
 let hiOf (i:Nat):Nat:=((fY.zipIdx.find? fun (e,_)=>le i e).map (·.2)).getD fY.length
 let loOf (i:Nat):Nat:=(fY.zipIdx.foldl (fun m (e,k)=>if le e i then k+1 else m) 0)
 let stage (j:Nat):List (Nat×Bk):=(((List.range n).filter fun i=>fl.getD i false&&hiOf i == j).map fun i=>(i,.rd (j - loOf i))) ++ (((List.range n).filter fun i=>nw.getD i false&&hiOf i == j).map fun i=>(i,.new))
 (fY.zipIdx.flatMap fun (e,j)=>stage j ++ [(e,.dQ)]) ++ stage fY.length
end
def Wg:Bk→Bool
 | .dQ=>true
 | _=>false
def hY (le:Nat→Nat→Bool):Bool→List (Nat×Bk)→List Nat→Bool
 | _,[],_=>true
 | _,(i,.dQ)::l,fY=>(match fY with|[]=>true|e::_=>le e i)&&hY le true l (i::fY)
 | fl,(i,.rd n)::l,fY=>fl&&(match fY.drop n with|[]=>n == fY.length|e::_=>le e i)&&(match l.find? (fun x=>Wg x.2) with|some (e,_)=>le i e|none=>true)&&hY le true l fY
 | _,(i,.new)::l,fY=>(match l.find? (fun x=>Wg x.2) with|some (e,_)=>le i e|none=>true)&&hY le false l fY
def tC (n:Nat) (names:List String) (ops:Array Oper) (l:List (Nat×Bk)) (i:Nat):Bk→Bool
 | .dQ=>true
 | .rd _=>match bX P G names (ops.getD i default) with|some x=>jz x|none=>false
 | .new=>(ops.getD i default).guard.isNone&&(match bX P G names (ops.getD i default) with|some x=>Cm x|none=>false) &&
  (ops.getD i default).dst.all fun t=>l.all fun (j,k)=>Wg k || !(looks P G n names ops (ops.getD j default)).contains t
def dw (n:Nat) (names:List String) (ops:Array Oper) (l:List (Nat×Bk)):Bool:=
 let b:=nQ ops.toList
 let le (i j:Nat):Bool:=(b.getD j 0).testBit i
 l.length == ops.size&&(l.all fun (i,_)=>decide (i < ops.size))&&(List.range ops.size).all (fun i=>l.any (·.1 == i))&&(l.zipIdx.all fun ((i,_),p)=>l.zipIdx.all fun ((j,_),q)=>i != j || p == q) &&
 (ops.toList.zipIdx.all fun (o,i)=>o.after.all fun e=>!Region.binds .any e || (decide (e.on < ops.size)&&decide (b.getD e.on 0 < b.getD i 0))) &&
 (l.zipIdx.all fun ((i,k),p)=>l.zipIdx.all fun ((j,k'),q)=>!le i j || decide (p < q) || ((k matches .new)&&(k' matches .rd _))) &&
 (l.all fun (i,k)=>tC P G n names ops l i k) &&
 hY le true l [] &&
 (ops.toList.zipIdx.all fun (o,i)=>(o.dst.all fun t=>ops.toList.zipIdx.all fun (o',j)=>i == j || o'.dst != some t)) &&
 (ops.toList.zipIdx.all fun (o,i)=>(looks P G n names ops o).all fun t=>ops.toList.zipIdx.all fun (o',j)=>o'.dst != some t || i == j || le i j || le j i) &&
 (l.all fun (i,k)=>!(k matches .new) || (looks P G n names ops (ops.getD i default)).all fun t=>ops.toList.zipIdx.all fun (o',j)=>o'.dst != some t || le j i)
def hasNext:Code→Bool
 | .region _ ops _=>ops.any fun o=>match o.op with|.next _ false=>true|_=>false
 | .seq a _=>hasNext a
 | _=>false
def fE (x y:Nat) (ops:Array Oper):Array Oper:=ops.modify y fun o=>{o with after:=o.after.push ⟨x,.data⟩}
def xb:Op→Bool
 | .call c=>match c.callee with|.builtin b=>(match b with|.print|.println|.recover|.unsafeSizeof=>false|_=>true)|_=>false
 | .go _|.defer _|.send ..|.recv ..|.select ..|.panic _=>false
 | _=>true
def alj (names:List String) (o:Oper):Bool:=match bX P G names o with|some i=>!jz i|none=>true
def loose (names:List String) (ops:Array Oper):Option (Nat×Nat):=
 let b:=nQ ops.toList
 let le (i j:Nat):Bool:=(b.getD j 0).testBit i
 let fY:=(List.range ops.size).filter fun i=>(ops[i]?).any (alj P G names)
 fY.findSome? fun i=>fY.findSome? fun j=>if i < j&&!le i j&&!le j i then some (i,j) else none
def xc (l:List (Nat×Bk)):Bool:=l.all fun (_,b)=>match b with|.dQ=>true|.rd 0=>true|_=>false
def Aj (n:Nat) (names:List String) (ops:Array Oper) (l:List (Nat×Bk)):AC:=
 if xc l then .ops (l.map fun (i,_)=>fL P G n names ops (ops.getD i default)) else .jQ (l.map fun (i,b)=>.mk b (fL P G n names ops (ops.getD i default)))
def fo (bad:Array Oper→AC) (n:Nat) (names:List String) (ops:Array Oper):AC:=
 let l:=order P G 0 names ops
 if dw P G n names ops l then Aj P G n names ops l else
 let l:=order P G 1 names ops
 if dw P G n names ops l then Aj P G n names ops l else
 let l:=order P G 2 names ops
 if dw P G n names ops l then Aj P G n names ops l else bad ops
def kK (next:Array Oper→AC) (names:List String) (ops:Array Oper):AC:=match loose P G names ops with
 | some (x,y)=>if ops.all (fun o=>xb o.op)&&x != y&&decide (x < ops.size)&&decide (y < ops.size) then .alt (next (fE x y ops)) (next (fE y x ops)) else .bad 404
 | none=>.bad 404
def kL (n:Nat) (names:List String) (ops:Array Oper):AC:=fo P G (kK P G (fo P G (kK P G (fo P G (fun _=>.bad 404) n names) names) n names) names) n names ops
def mC (n:Nat) (names:List String) (ops:Array Oper) (o:Oper):GI:=match bX P G names o,o.guard,gG G n o.dst with
 | none,some (j,w),some d=>match (ops[j]?).bind (·.dst) with
  | some t=>match G.sl t with
   | some s=>.g (hi s) (lo s) w d (.op (.bad 405))
   | none=>nF
  | none=>nF
 | _,_,_=>fL P G n names ops o
def avv:GI→Bool
 | .o .no (.op (.bad 400))=>true
 | _=>false
def avw:GI→Bool
 | .o .no (.op (.bad 400))=>true
 | .g _ _ _ _ (.op (.bad 405))=>true
 | _=>false
def qq (n:Nat) (names:List String) (ops:Array Oper):AC:=
 let l:=ops.toList.map fun o=>mC P G n names ops o
 if l.any avv&&G.b.isNone then
  match (List.range 16).find? fun q=>!((ops.toList.map fun o=>mC P {G with b:=some q} n names ops o).any avw) with
  | some q=>.ahQ q (ops.toList.map fun o=>mC P {G with b:=some q} n names ops o)
  | none=>.ops l
 else .ops l
def cC (n:Nat) (names:List String):Code→AC
 | .skip=>.skip
 | .region _ ops false=>qq P G n names ops
 | .region _ ops true=>kL P G n names ops
 | .seq a b=>.seq (cC n names a) (cC n names b)
 | .cond c a b=>match cO G c with|some c=>.cond c (cC n names a) (cC n names b)|none=>.bad 401
 | .block i a=>match a with
  | .loop b=>if hasNext b then .join (.block i (.loop (cC n names b))) else .block i (.loop (cC n names b))
  | a=>.block i (cC n names a)
 | .loop a=>.loop (cC n names a)
 | .scope a=>.scope (cC n names a)
 | .exit i=>.exit i
 | .goto l=>.goto l
 | .label l=>.label l
 | .ret=>.ret
 | .rangeFunc ..=>.bad 402
 | .refuse _=>.bad 403
def Qz (n:Nat) (r:ResultVar):Option Rs:=
 match r with
 | .tmp t=>if t < 256 then some (.t (hi t) (lo t)) else none
 | .cell t ty=>if (P.underlying ty).isNone then none else if t < 256 then some (if qE P ty then .agg (bj P ty) (hi t) (lo t) else .one (hi t) (lo t)) else none
def cF (names:List String) (f:Func):AF:=
 match f.body,f.results.toList.mapM (Qz P f.ntmps) with
 | some c,some rs=>if f.name == "runtime.NumGoroutine" then .none else .mk (cC P G f.ntmps names c) rs
 | _,_=>.none
end
end
noncomputable section
structure Kt where
 n:A2→Hp→RS
 e:Nat→A2→Hp→RS
 g:Nat→A2→Hp→RS
 r:A2→Hp→RS
def AI.cE (cf:Cf) (iv:Iv) (d:aL) (k:A2→Hp→RS) (r:A2) (h:Hp):AI→RS
 | .op y=>yp d k r (y.run r h)
 | .xO s x=>stepT d k r (hE s (ev x r) h)
 | .call f xs=>stepT d k r (cf f (gg xs r) h)
 | .jI x xs=>stepT d k r (AV.EK (ev x r) (fun f cs=>cf f (List.append (gg xs r) cs) h) (.err 202))
 | .inv n x xs=>stepT d k r (iv n (ev x r) (gg xs r) h)
def GI.cE (cf:Cf) (iv:Iv) (k:A2→Hp→RS) (r:A2) (h:Hp):GI→RS
 | .o d i=>i.cE cf iv d k r h
 | .g a b w d i=>AV.bE (gb w (aw a b r)) (fun t=>@Bool.rec (fun _=>RS) (k (bI d cm r) h) (i.cE cf iv d k r h) (eK t w)) (.err 210)
def eB (cf:Cf) (iv:Iv) (k:A2→Hp→RS):List GI→A2→Hp→RS
 | []=>k
 | i::l=>fun r h=>i.cE cf iv (eB cf iv k l) r h
def Ww (cf:Cf) (iv:Iv) (b:Bk) (d:aL) (k:DK) (r:A2) (h g:Hp) (hs:List Hp):AI→RS
 | .op y=>@Bk.rec (fun _=>RS) (nh d k r g hs (y.run r h).jT) (fun n=>Gq d y n k r h g hs (y.run r g)) (Gr d k r g hs (y.run r h)) b
 | .xO s x=>nh d k r g hs (hE s (ev x r) h)
 | .call f xs=>nh d k r g hs (cf f (gg xs r) h)
 | .jI x xs=>nh d k r g hs (AV.EK (ev x r) (fun f cs=>cf f (List.append (gg xs r) cs) h) (.err 202))
 | .inv n x xs=>nh d k r g hs (iv n (ev x r) (gg xs r) h)
def DI.cE (cf:Cf) (iv:Iv) (k:DK) (r:A2) (h g:Hp) (hs:List Hp):DI→RS
 | .mk b (.o d i)=>Ww cf iv b d k r h g hs i
 | .mk b (.g x y w d i)=>AV.bE (gb w (aw x y r)) (fun t=>@Bool.rec (fun _=>RS) (LP b d k r h g hs) (Ww cf iv b d k r h g hs i) (eK t w)) (.err 212)
def nM (cf:Cf) (iv:Iv) (k:A2→Hp→RS):List DI→DK
 | []=>fun r h _ _=>k r h
 | i::l=>fun r h g hs=>i.cE cf iv (nM cf iv k l) r h g hs
def den (cf:Cf) (iv:Iv):AC→Kt→A2→Hp→RS
 | .skip,K=>K.n
 | .ops l,K=>eB cf iv K.n l
 | .jQ l,K=>fun r h=>nM cf iv K.n l r h h []
 | .seq a b,K=>den cf iv a ⟨den cf iv b K,K.e,K.g,K.r⟩
 | .cond c a b,K=>fun r h=>AV.bE (ev c r) (fun t=>@Bool.rec (fun _=>RS) (den cf iv b K r h) (den cf iv a K r h) t) (.err 213)
 | .block i a,K=>den cf iv a ⟨K.n,fun j r h=>@Bool.rec (fun _=>RS) (K.e j r h) (K.n r h) (Nat.beq j i),K.g,K.r⟩
 | .exit i,K=>K.e i
 | .goto l,K=>K.g l
 | .ret,K=>K.r
 | _,_=>fun _ _=>.err 310
def xg (cf:Cf) (iv:Iv) (K:Kt) (T:A2→Hp→RS):Nat→AC→A2→Hp→RS
 | 0,_=>T
 | k+1,.seq a b=>den cf iv a ⟨xg cf iv K T k b,K.e,K.g,K.r⟩
 | _+1,c=>den cf iv c K
def jx:Nat→AC→AC
 | 0,c=>c
 | k+1,.seq _ b=>jx k b
 | _+1,_=>.skip
def pY:AC→Bool
 | .seq a b=>pY a&&pY b
 | .label _=>false
 | .ah _ _=>false
 | _=>true
def kM:Nat→AC→Bool
 | 0,_=>true
 | k+1,.seq a b=>pY a&&kM k b
 | _+1,c=>pY c
def bB (r:A2):List Nat→A2
 | []=>.nil
 | t::L=>if t < 256 then eL (bO (t / 16)) (bO (t % 16)) (aw (bO (t / 16)) (bO (t % 16)) r) (bB r L) else bB r L
def mE (L Lr:List Nat):Kt:=⟨fun r h=>.nm (bB r L) h,fun i r h=>.ex i (bB r L) h,fun l r h=>.go l (bB r L) h,fun r h=>.ret (bB r Lr) h⟩
def tt (c:AC) (k:Nat) (Lin L Lr Lx:List Nat):Cf→Iv→(A2→Hp→RS)→A2→Hp→RS:=
 fun cf iv rx r h=>xg cf iv (mE L Lr) (fun r h=>rx (bB r Lx) h) k c (bB r Lin) h
inductive Impl:AC→AC→Prop
 | refl (c:AC):Impl c c
 | seq {a a' b b':AC}:Impl a a'→Impl b b'→Impl (.seq a b) (.seq a' b')
 | cond {o:AO} {a a' b b':AC}:Impl a a'→Impl b b'→Impl (.cond o a b) (.cond o a' b')
 | block {i:Nat} {a a':AC}:Impl a a'→Impl (.block i a) (.block i a')
 | loop {a a':AC}:Impl a a'→Impl (.loop a) (.loop a')
 | scope {a a':AC}:Impl a a'→Impl (.scope a) (.scope a')
 | join {i:Nat} {a a':AC}:Impl a a'→Impl (.join (.block i (.loop a))) (.join (.block i (.loop a')))
 | unj {i:Nat} {a a':AC}:Impl a a'→Impl (.join (.block i a)) (.block i a')
 | bad {c:AC} (n:Nat):pY c=true→Impl c (.bad n)
 | ah {c x:AC} {f:Cf→Iv→(A2→Hp→RS)→A2→Hp→RS} (k:Nat) (Lin L Lr Lx:List Nat):kM k c=true→f=tt c k Lin L Lr Lx→Impl (jx k c) x→Impl c (.ah f x)
end
noncomputable section
def alk (x:AF):AC:=match x with|.none=>.skip|.mk b _=>b|.mW _ b _=>b|.Es b _=>b|.ext _=>.skip
def gL (c:AC):AC:=match c with|.seq a _=>a|.cond _ a _=>a|.block _ a=>a|.loop a=>a|.scope a=>a|.join a=>a|c=>c
def gR (c:AC):AC:=match c with|.seq _ b=>b|.cond _ _ b=>b|c=>c
theorem aP {c a' b':AC} (a b:AC) (ha:Impl a a') (hb:Impl b b') (e:c=.seq a b:=by kernel_rfl):Impl c (.seq a' b'):=e▸.seq ha hb
theorem fm {o:AO} {c a' b':AC} (a b:AC) (ha:Impl a a') (hb:Impl b b') (e:c=.cond o a b:=by kernel_rfl):Impl c (.cond o a' b'):=e▸.cond ha hb
theorem bR {i:Nat} {c a':AC} (a:AC) (ha:Impl a a') (e:c=.block i a:=by kernel_rfl):Impl c (.block i a'):=e▸.block ha
theorem dA {c a':AC} (a:AC) (ha:Impl a a') (e:c=.loop a:=by kernel_rfl):Impl c (.loop a'):=e▸.loop ha
theorem scI {c a a':AC} (e:c=.scope a) (ha:Impl a a'):Impl c (.scope a'):=e▸.scope ha
theorem ujI {i:Nat} {c a a':AC} (e:c=.join (.block i a)) (ha:Impl a a'):Impl c (.block i a'):=e▸.unj ha
theorem bH {c x:AC} (e:c=x:=by kernel_rfl):Impl c x:=e▸.refl _
theorem bdI {c:AC} {n:Nat} (e:pY c=true):Impl c (.bad n):=.bad n e
theorem aB {c x:AC} {f:Cf→Iv→(A2→Hp→RS)→A2→Hp→RS} (d:AC) (k:Nat) (Lin L Lr Lx:List Nat) (h:Impl d x) (e:(kM k c,jx k c,f)=(true,d,tt c k Lin L Lr Lx):=by kernel_rfl):Impl c (.ah f x):=by
 have e1:kM k c=true:=congrArg (·.1) e
 have e2:jx k c=d:=congrArg (·.2.1) e
 have e3:f=tt c k Lin L Lr Lx:=congrArg (·.2.2) e
 exact .ah k Lin L Lr Lx e1 e3 (e2▸h)
theorem aI {c:AC} {f:Cf→Iv→(A2→Hp→RS)→A2→Hp→RS} (k:Nat) (Lin L Lr Lx:List Nat) (e:(kM k c,jx k c,f)=(true,.skip,tt c k Lin L Lr Lx):=by kernel_rfl):Impl c (.ah f .skip):=aB .skip k Lin L Lr Lx (.refl _) e
end
end Go.Am
