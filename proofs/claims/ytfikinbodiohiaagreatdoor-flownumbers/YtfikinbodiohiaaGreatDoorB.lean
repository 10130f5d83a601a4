/- What code of the abstract machine a Go function is, and what loop-free code means. Nothing is asked. -/
import Derived.Test.YtfikinbodiohiaaGreatDoorA
import GoSem.Step
import Derived.Orders
import Derived.KernelRfl
set_option linter.all false
namespace Go.Am
noncomputable section
def AO.aF:AO→List Nat
 | .t a b=>[16 * a.nat+b.nat]
 | .c _=>[]
def OA.aF:OA→List Nat
 | .none=>[]
 | .some x=>x.aF
def Part.aF:Part→List Nat
 | .mk _ _ x=>x.aF
def si (l:List AO):List Nat:=l.flatMap AO.aF
def oG.aF:oG→List Nat
 | .mv x=>x.aF
 | .pick c a b=>c.aF ++ (a.aF ++ b.aF)
 | .alloc ..=>[]
 | .box _ x=>x.aF
 | .build _ ps=>ps.flatMap Part.aF
 | .bN _ _ _ _ ps=>ps.flatMap Part.aF
 | .bZ x=>x.aF
 | .jO _ x=>x.aF
 | .Ub x y=>x.aF ++ y.aF
 | .uK _ x y=>x.aF ++ y.aF
 | .nq x=>x.aF
 | .bin _ x y=>x.aF ++ y.aF
 | .un _ x=>x.aF
 | .conv _ x=>x.aF
 | .QW _ x=>x.aF
 | .Vh _ xs=>si xs
 | .nt=>[]
 | .nu _ _ l c=>l.aF ++ c.aF
 | .Vi _ x lo hi mx=>x.aF ++ (lo.aF ++ (hi.aF ++ mx.aF))
 | .KM x lo hi=>x.aF ++ (lo.aF ++ hi.aF)
 | .KN _ _ x lo hi mx=>x.aF ++ (lo.aF ++ (hi.aF ++ mx.aF))
 | .cG _ x=>x.aF
 | .KP _ x=>x.aF
 | .KQ _ _ x=>x.aF
 | .cn _ x y=>x.aF ++ y.aF
 | .Up _ _ x y=>x.aF ++ y.aF
 | .idxs x y=>x.aF ++ y.aF
 | .KR _ _ _ x y=>x.aF ++ y.aF
 | .ext _ x=>x.aF
 | .wg _ _ _ x y=>x.aF ++ y.aF
 | .yn _ x y z=>x.aF ++ (y.aF ++ z.aF)
 | .del _ x y=>x.aF ++ y.aF
 | .FY x=>x.aF
 | .len x=>x.aF
 | .iw x=>x.aF
 | .cap x=>x.aF
 | .max _ xs=>si xs
 | .app _ _ x y=>x.aF ++ y.aF
 | .apps _ x y=>x.aF ++ y.aF
 | .Vj _ x y=>x.aF ++ y.aF
 | .Vk _ x=>x.aF
 | .KS x=>x.aF
 | .CT x=>x.aF
 | .ML x=>x.aF
 | .KU _ _ _ x=>x.aF
 | .aj _ x y=>x.aF ++ y.aF
 | .real _ x=>x.aF
 | .KW x=>x.aF
 | .FZ _ x y=>x.aF ++ y.aF
 | .yo _ _ x y=>x.aF ++ y.aF
 | .yp x y z=>x.aF ++ y.aF ++ z.aF
 | .Ga _ _ _ x y=>x.aF ++ y.aF
 | .bad _=>[]
def AI.aF:AI→List Nat
 | .op o=>o.aF
 | .uM _ x=>x.aF
 | .call _ xs=>si xs
 | .jK x xs=>x.aF ++ si xs
 | .inv _ x xs=>x.aF ++ si xs
def GI.aF:GI→List Nat
 | .o _ i=>i.aF
 | .g a b _ _ i=>(16 * a.nat+b.nat)::i.aF
structure Gl where
 n:Nat
 sy:List (P4×Nat)
 b:Option Nat
instance:OfNat Gl 0:=⟨⟨0,[],none⟩⟩
def Gl.sl (G:Gl) (t:Nat):Option Nat:=match G.b with
 | none=>if t < 256 then some t else none
 | some q=>if t < 16 * q then (if t < 256 then some t else none) else if t < 16 * q+16 then none else if t < 272 then some (t - 16) else none
def Gl.tm (G:Gl) (s:Nat):Nat:=match G.b with
 | none=>s
 | some q=>if s < 16 * q then s else s+16
section
variable (P:Program) (G:Gl)
def hi (n:Nat):H:=bR (n / 16)
def lo (n:Nat):H:=bR (n % 16)
def P4.of (n:Nat):P4:=.mk (bR (n / 4096)) (bR (n / 256 % 16)) (bR (n / 16 % 16)) (bR (n % 16))
def zX:Value→Option AV
 | .bool b=>some (.bool b)
 | .int k n=>some (.int k n)
 | .float k n=>some (.fi k n)
 | .complex k a b=>some (.aj k a b)
 | .string s=>some (.str (s.data.toList.map (·.toNat)))
 | .pointer none=>some .di
 | .slice none 0 0=>some .ai
 | .map none=>some .gg
 | .func (.func f) ⟨[]⟩ ⟨[]⟩=>some (.fn f [])
 | .nilFunc=>some .qi
 | .nilIface=>some .sj
 | _=>none
def Bx (v:Value):Option AV:=
 match v with
 | .agg cs=>(cs.toList.mapM zX).map .agg
 | .iface t v=>(zX v).map (.iface t)
 | v=>zX v
def cO:Operand→Option AO
 | .tmp t=>(G.sl t).map fun s=>.t (hi s) (lo s)
 | .const v=>(Bx v).map .c
 | .global g=>if g < G.n then some (.c (.ptr (P4.of g) 0)) else none
 | .func f=>some (.c (.fn f []))
def Ko:Option Operand→Option OA
 | none=>some .none
 | some x=>(cO G x).map .some
def jh (t:TypeId):TypeDesc:=(P.underlying t).getD .invalid
def qv (t:TypeId):Bool:=match jh P t with|.struct _|.array ..=>true|_=>false
def bp (t:TypeId):Nat:=P.cellsOf t
def fO (t:TypeId):Option (List AV):=((P.info? t).bind (·.zero)).bind fun z=>z.cells.toList.mapM zX
def jo (t:TypeId):Option AV:=((P.info? t).bind (·.zero)).bind Bx
def uj:NK→Operand→Bool
 | .s,.const (.slice none 0 0)=>true
 | .m,.const (.map none)=>true
 | .f,.const .nilFunc=>true
 | .i,.const .nilIface=>true
 | _,_=>false
def iy (e:TypeId):Bool:=match P.info? e with
 | some i=>(match i.zero with|some z=>z.cells.size == i.size|none=>false)&&Nat.ble i.bytes 1048576
 | none=>false
def Bz (t:TypeId):Option KK:=match P.underlying t with
 | some .bool=>some .b
 | some (.int _)=>some .i
 | some .string=>some .s
 | some (.pointer e)=>match P.info? e with
  | some ie=>if ie.size=0 then none else some .p
  | none=>none
 | _=>none
def lU:List Field→Nat→Option (List KK)
 | [],_=>some []
 | f::fs,i=>if f.name = "_" ∨f.offset≠i then none else
  match Bz P f.type,lU fs (i+1) with
  | some k,some ks=>some (k::ks)
  | _,_=>none
def sk (t:TypeId):Option (List KK):=match P.underlying t with
 | some (.struct fs)=>if P.stoodInHeld t then none else lU P fs.toList 0
 | _=>none
def mr (t:TypeId):Option KT:=match P.underlying t with
 | some .bool=>some (.one .b)
 | some (.int _)=>some (.one .i)
 | some .string=>some (.one .s)
 | some (.struct _)=>(sk P t).map .agg
 | _=>none
def CV (t:TypeId):Option KT:=match P.underlying t with
 | some (.map k _)=>mr P k
 | _=>none
def CW (op:BinOp) (t:TypeId) (x y:Operand):Option BK:=
 match jh P t,op with
 | .int _,.add=>some .add|.int _,.sub=>some .sub|.int _,.mul=>some .mul|.int _,.quo=>some .quo|.int _,.rem=>some .rem
 | .int _,.and=>some .and|.int _,.or=>some .or|.int _,.xor=>some .xor|.int _,.andNot=>some .Vl|.int _,.shl=>some .shl|.int _,.shr=>some .shr
 | .int _,.eql=>some .eq|.int _,.neq=>some .ne|.int _,.lss=>some .lt|.int _,.leq=>some .le|.int _,.gtr=>some .gt|.int _,.geq=>some .ge
 | .string,.eql=>some .seq|.string,.neq=>some .KX|.string,.lss=>some .slt|.string,.leq=>some .sle|.string,.gtr=>some .Zu|.string,.geq=>some .Zv|.string,.add=>some .cat
 | .bool,.eql=>some .beq
 | .bool,.neq=>some .bne
 | .pointer e,.eql=>if bp P e=0 then none else some .lk
 | .pointer e,.neq=>if bp P e=0 then none else some .XS
 | .slice _,.eql=>if uj .s y then some (.ku .s) else none
 | .slice _,.neq=>if uj .s y then some (.pO .s) else none
 | .map ..,.eql=>if uj .m y then some (.ku .m) else none
 | .map ..,.neq=>if uj .m y then some (.pO .m) else none
 | .func ..,.eql=>if uj .f y then some (.ku .f) else none
 | .func ..,.neq=>if uj .f y then some (.pO .f) else none
 | .interface _,.eql=>if uj .i y then some (.ku .i) else none
 | .interface _,.neq=>if uj .i y then some (.pO .i) else none
 | .struct _,.eql=>if P.eqGuardType P.depth t then none else (sk P t).map .Zw
 | .struct _,.neq=>if P.eqGuardType P.depth t then none else (sk P t).map .XT
 | .float _,op=>some (.Gb op)
 | .complex _,op=>some (.QX op)
 | _,_=>none
def oX (n:Nat) (place:Nat→Option (Nat×Nat)) (ps:List (Nat×Operand)):Option (List Part):=
 ps.mapM fun (i,x)=>do
  let (off,sz)←place i
  if off+sz≤n then some (.mk off sz (←cO G x)) else none
def Gc (s d:TypeId):Option CK:=
 match jh P s,jh P d with
 | .int _,.int k=>some (.toInt k)
 | .string,.string=>some .same
 | .pointer e,.unsafePointer=>if bp P e=0 then none else some .Zx
 | .unsafePointer,.pointer u=>if bp P u=0 || !liesAt P P.depth u 1 0 u 1 then none else some (.MZ u (bp P u))
 | .string,.slice e=>match jh P e with|.int .u8=>some (.Zy e)|_=>none
 | .slice e,.string=>match jh P e with|.int .u8=>some .Zz|_=>none
 | .slice e,.slice _=>match jh P e with|.int .u8=>if s=d then some (.Yb e) else none|_=>none
 | .int _,.float k=>some (.QY k)
 | .float _,.int k=>some (.Vm k)
 | _,_=>none
def iG (b:Builtin) (ts:List TypeId) (xs:List AO):Option oG:=
 match b,ts,xs with
 | .len,t::_,[x]=>match jh P t with
  | .string=>some (.iw x)
  | .slice _=>some (.len x)
  | .map ..=>some (.FY x)
  | .array n _=>some (.mv (.c (.int .i64 n)))
  | .pointer a=>match jh P a with|.array n _=>some (.mv (.c (.int .i64 n)))|_=>none
  | _=>none
 | .cap,t::_,[x]=>match jh P t with
  | .slice _=>some (.cap x)
  | .array n _=>some (.mv (.c (.int .i64 n)))
  | _=>none
 | .append,[t,u],[x,y]=>match jh P t,jh P u with
  | .slice e,.string=>if bp P e=1&&iy P e then some (.apps e x y) else none
  | .slice e,.slice _=>if bp P e=0 || !iy P e then none else some (.app e (bp P e) x y)
  | .slice e,.int _=>if bp P e=0 || !iy P e then none else (fO P e).bind fun z=>if z.length≠bp P e then none else some (.Ga e (bp P e) z x y)
  | _,_=>none
 | .copy,t::_,[x,y]=>match jh P t with|.slice e=>if bp P e=0 then none else some (.Vj (bp P e) x y)|_=>none
 | .clear,t::_,[x]=>match jh P t with|.slice e=>if bp P e=0 then none else (fO P e).bind fun z=>if z.length≠bp P e then none else some (.Vk z x)|_=>none
 | .delete,t::_,[x,y]=>do some (.del (←CV P t) x y)
 | .max,_,xs=>some (.max false xs)
 | .min,_,xs=>some (.max true xs)
 | .unsafeSliceData,_,[x]=>some (.KW x)
 | .real,_,[x]=>some (.real false x)
 | .imag,_,[x]=>some (.real true x)
 | .unsafeString,t::_,[x,y]=>match jh P t with|.pointer e=>if bp P e=1 then some (.FZ e x y) else none|_=>none
 | .complex,t::_,[x,y]=>match jh P t with|.float k=>some (.aj k x y)|_=>none
 | _,_,_=>none
def wh (names:List String) (s:String):Option Nat:=names.findIdx? (· == s)
def cq (names:List String) (o:Oper):Option AI:=
 match o.op with
 | .move x|.assign x=>do some (.op <| .mv (←cO G x))
 | .pick c a b=>do some (.op <| .pick (←cO G c) (←cO G a) (←cO G b))
 | .alloc e=>do let z←fO P e;some (.op <| .alloc e z.length (mu z))
 | .box e x=>do some (.op <| .box e (←cO G x))
 | .build t ps=>do
  let z←fO P t
  match jh P t with
  | .struct fs=>do if fs.all (fun f=>(P.info? f.type).isSome) then some (.op <| .build z (←oX G z.length (fun i=>(fs[i]?).map fun f=>(f.offset,bp P f.type)) ps.toList)) else none
  | .array _ e=>do if (P.info? e).isSome then some (.op <| .build z (←oX G z.length (fun i=>some (i * bp P e,bp P e)) ps.toList)) else none
  | _=>none
 | .buildSlice t n ps=>do
  let .slice e:=jh P t|none
  let z←fO P e
  if bp P e=0∨z.length≠bp P e then none
  some (.op <| .bN e (bp P e) n (dP n z) (←oX G (n * bp P e) (fun i=>some (i * bp P e,bp P e)) ps.toList))
 | .load t x=>do
  if (P.underlying t).isNone then none
  if qv P t then some (.op <| .jO (bp P t) (←cO G x)) else some (.op <| .bZ (←cO G x))
 | .store t x y=>do
  if (P.info? t).isNone then none
  if qv P t then some (.op <| .uK (bp P t) (←cO G x) (←cO G y)) else if bp P t=1 then some (.op <| .Ub (←cO G x) (←cO G y)) else none
 | .nilCheck x=>do some (.op <| .nq (←cO G x))
 | .binOp op t x y _=>match CW P op t x y with
  | some k=>do some (.op <| .bin k (←cO G x) (←cO G y))
  | none=>match CW P op t y x with
   | some (.ku k)=>do some (.op <| .bin (.ku k) (←cO G y) (←cO G x))
   | some (.pO k)=>do some (.op <| .bin (.pO k) (←cO G y) (←cO G x))
   | _=>none
 | .unOp op _ x=>match op with
  | .not=>do some (.op <| .un .not (←cO G x))
  | .neg=>do some (.op <| .un .neg (←cO G x))
  | .xor=>do some (.op <| .un .ZA (←cO G x))
  | .plus=>none
 | .convert s d x=>do some (.op <| .conv (←Gc P s d) (←cO G x))
 | .makeInterface t x=>match P.underlying t with
  | none|some (.interface _)=>none
  | _=>do some (.op <| .QW t (←cO G x))
 | .makeFunc (.func f) first captured=>do if first.isEmpty then some (.op <| .Vh f (←captured.toList.mapM (cO G))) else none
 | .makeMap _ none=>some (.op .nt)
 | .makeMap t (some (.const (.int _ _)))=>match jh P t with|.map ..=>some (.op .nt)|_=>none
 | .makeSlice t l c=>do
  let .slice e:=jh P t|none
  let z←fO P e
  if bp P e=0∨z.length≠bp P e∨iy P e=false then none
  some (.op <| .nu e z (←cO G l) (←cO G c))
 | .slice t x l h m=>match jh P t with
  | .string=>do if m.isSome then none else some (.op <| .KM (←cO G x) (←Ko G l) (←Ko G h))
  | .slice e=>do if bp P e=0∨(m.isSome∧h.isNone) then none else some (.op <| .Vi (bp P e) (←cO G x) (←Ko G l) (←Ko G h) (←Ko G m))
  | .array n e=>do if (m.isSome∧h.isNone)∨(P.info? e).isNone then none else some (.op <| .KN n (bp P e) (←cO G x) (←Ko G l) (←Ko G h) (←Ko G m))
  | _=>none
 | .fieldAddr t x f=>do
  let .struct fs:=jh P t|none
  let fd←fs[f]?
  if bp P fd.type=0 then none
  some (.op <| .cG fd.offset (←cO G x))
 | .field t x f=>do
  let .struct fs:=jh P t|none
  let fd←fs[f]?
  if (P.underlying fd.type).isNone then none
  if qv P fd.type then some (.op <| .KQ fd.offset (bp P fd.type) (←cO G x)) else some (.op <| .KP fd.offset (←cO G x))
 | .indexAddr t x i=>match jh P t with
  | .array n e=>do if (P.info? e).isNone then none else some (.op <| .Up n (bp P e) (←cO G x) (←cO G i))
  | .slice e=>do if (P.info? e).isNone then none else some (.op <| .cn (bp P e) (←cO G x) (←cO G i))
  | _=>none
 | .index t x i=>match jh P t with
  | .string=>do some (.op <| .idxs (←cO G x) (←cO G i))
  | .array n e=>do if (P.underlying e).isNone then none else some (.op <| .KR n (bp P e) (qv P e) (←cO G x) (←cO G i))
  | _=>none
 | .lookup t x i ok=>do
  let .map _ e:=jh P t|none
  some (.op <| .wg (←CV P t) (←jo P e) ok (←cO G x) (←cO G i))
 | .mapUpdate t m k x|.insert t m k x=>do some (.op <| .yn (←CV P t) (←cO G m) (←cO G k) (←cO G x))
 | .range t x=>match jh P t with
  | .map ..=>do some (.op <| .CT (←cO G x))
  | _=>none
 | .next x s=>do if s then none else some (.uM s (←cO G x))
 | .entry x=>do some (.op <| .ML (←cO G x))
 | .typeAssert x _ t ok=>do
  if (jh P t matches .interface _)∨(P.underlying t).isNone then none
  some (.op <| .KU t (←jo P t) ok (←cO G x))
 | .extract x i=>do some (.op <| .ext i (←cO G x))
 | .call c=>do
  let xs←c.args.toList.mapM (cO G)
  match c.callee with
  | .builtin b=>(iG P b c.argTypes.toList xs).map .op
  | .value (.func f)=>some (AI.call f xs)
  | .value x=>do some (AI.jK (←cO G x) xs)
  | .invoke x name=>do some (AI.inv (←wh names name) (←cO G x) xs)
 | .mapEntry t m k=>do
  let .map _ e:=jh P t|none
  some (.op <| .yo (←CV P t) (←jo P e) (←cO G m) (←cO G k))
 | .entryStore _ m k x=>do some (.op <| .yp (←cO G m) (←cO G k) (←cO G x))
 | _=>none
inductive KO where
 | pure|read|make|dM
 deriving DecidableEq
def QZ:oG→KO
 | .bZ _|.jO ..|.wg ..|.FY _=>.read
 | .conv .Zz _=>.read
 | .conv .Zx _|.conv (.MZ ..) _=>.read
 | .alloc ..|.box ..|.bN ..|.nt|.nu ..|.KS _|.CT _=>.make
 | .conv (.Zy _) _|.conv (.Yb _) _=>.make
 | .Ub ..|.uK ..|.yn ..|.del ..|.app ..|.apps ..|.Vj ..|.Vk ..|.ML _|.FZ ..|.yo ..|.yp ..|.Ga ..=>.dM
 | .bad _=>.dM
 | _=>.pure
def jq:AI→Bool
 | .op o=>match QZ o with|.pure|.read=>true|_=>false
 | _=>false
section
variable (n:Nat)
def gA:Option Tmp→Option aH
 | none=>some .no
 | some t=>match G.sl t with
  | some s=>if t < n then some (.t (hi s) (lo s)) else none
  | none=>none
def nv:GI:=.o .no (.op (.bad 400))
def fJ (names:List String) (ops:Array Oper) (o:Oper):GI:=
 match gA G n o.dst,cq P G names o with
 | some d,some op=>match o.guard with
  | none=>.o d op
  | some (j,w)=>match (ops[j]?).bind (·.dst) with
   | some t=>match G.sl t with
    | some s=>.g (hi s) (lo s) w d op
    | none=>nv
   | none=>nv
 | _,_=>nv
def sm (prev:List Nat):List Oper→List Nat→List Nat
 | [],acc=>acc
 | o::os,acc=>sm prev os (acc ++ [o.after.toList.foldl (fun s e=>if Region.binds .any e then s ||| 2 ^ e.on ||| (if e.on < acc.length then acc.getD e.on 0 else prev.getD e.on 0) else s) 0])
def ny (os:List Oper):List Nat:=sm (sm (sm [] os []) os []) os []
def looks (n:Nat) (names:List String) (ops:Array Oper) (o:Oper):List Nat:=(fJ P G n names ops o).aF
def BA:AI→Bool
 | .op (.alloc ..)|.op .nt|.op (.bN ..)=>true
 | _=>false
def order (news:Nat) (names:List String) (ops:Array Oper):List (Nat×Bk):=
 let n:=ops.size
 let os:=ops.toList
 let fl:=os.map fun o=>match cq P G names o with|some i=>jq i|none=>false
 let b:=ny os
 let le (i j:Nat):Bool:=(b.getD j 0).testBit i
 let mk:=os.map fun o=>o.guard.isNone&&(match cq P G names o with|some i=>BA i|none=>false)
 let base:=(List.range n).filter fun i=>!fl.getD i false&&!mk.getD i false
 let nw:=mk.zipIdx.map fun (m,i)=>m&&(match news with|0=>false|1=>base.any fun e=>!le e i&&!le i e|_=>true)
 let effs0:=(List.range n).filter fun i=>!fl.getD i false&&!nw.getD i false
 let fP:=(List.range effs0.length).filterMap fun k=>effs0.find? fun i=>(effs0.filter fun e=>e != i&&le e i).length == k
 let hiOf (i:Nat):Nat:=((fP.zipIdx.find? fun (e,_)=>le i e).map (·.2)).getD fP.length
 let loOf (i:Nat):Nat:=(fP.zipIdx.foldl (fun m (e,k)=>if le e i then k+1 else m) 0)
 let stage (j:Nat):List (Nat×Bk):=(((List.range n).filter fun i=>fl.getD i false&&hiOf i == j).map fun i=>(i,.rd (j - loOf i))) ++ (((List.range n).filter fun i=>nw.getD i false&&hiOf i == j).map fun i=>(i,.new))
 (fP.zipIdx.flatMap fun (e,j)=>stage j ++ [(e,.dM)]) ++ stage fP.length
end
def Na:Bk→Bool
 | .dM=>true
 | _=>false
def gZ (le:Nat→Nat→Bool):Bool→List (Nat×Bk)→List Nat→Bool
 | _,[],_=>true
 | _,(i,.dM)::l,fP=>(match fP with|[]=>true|e::_=>le e i)&&gZ le true l (i::fP)
 | fl,(i,.rd n)::l,fP=>fl&&(match fP.drop n with|[]=>n == fP.length|e::_=>le e i)&&(match l.find? (fun x=>Na x.2) with|some (e,_)=>le i e|none=>true)&&gZ le true l fP
 | _,(i,.new)::l,fP=>(match l.find? (fun x=>Na x.2) with|some (e,_)=>le i e|none=>true)&&gZ le false l fP
def sn (n:Nat) (names:List String) (ops:Array Oper) (l:List (Nat×Bk)) (i:Nat):Bk→Bool
 | .dM=>true
 | .rd _=>match cq P G names (ops.getD i default) with|some x=>jq x|none=>false
 | .new=>(ops.getD i default).guard.isNone&&(match cq P G names (ops.getD i default) with|some x=>BA x|none=>false) &&
  (ops.getD i default).dst.all fun t=>l.all fun (j,k)=>Na k || !(looks P G n names ops (ops.getD j default)).contains t
def dt (n:Nat) (names:List String) (ops:Array Oper) (l:List (Nat×Bk)):Bool:=
 let b:=ny ops.toList
 let le (i j:Nat):Bool:=(b.getD j 0).testBit i
 l.length == ops.size&&(l.all fun (i,_)=>decide (i < ops.size))&&(List.range ops.size).all (fun i=>l.any (·.1 == i))&&(l.zipIdx.all fun ((i,_),p)=>l.zipIdx.all fun ((j,_),q)=>i != j || p == q) &&
 (ops.toList.zipIdx.all fun (o,i)=>o.after.all fun e=>!Region.binds .any e || (decide (e.on < ops.size)&&decide (b.getD e.on 0 < b.getD i 0))) &&
 (l.zipIdx.all fun ((i,k),p)=>l.zipIdx.all fun ((j,k'),q)=>!le i j || decide (p < q) || ((k matches .new)&&(k' matches .rd _))) &&
 (l.all fun (i,k)=>sn P G n names ops l i k) &&
 gZ le true l [] &&
 (ops.toList.zipIdx.all fun (o,i)=>(o.dst.all fun t=>ops.toList.zipIdx.all fun (o',j)=>i == j || o'.dst != some t)) &&
 (ops.toList.zipIdx.all fun (o,i)=>(looks P G n names ops o).all fun t=>ops.toList.zipIdx.all fun (o',j)=>o'.dst != some t || i == j || le i j || le j i) &&
 (l.all fun (i,k)=>!(k matches .new) || (looks P G n names ops (ops.getD i default)).all fun t=>ops.toList.zipIdx.all fun (o',j)=>o'.dst != some t || le j i)
def hasNext:Code→Bool
 | .region _ ops _=>ops.any fun o=>match o.op with|.next _ false=>true|_=>false
 | .seq a _=>hasNext a
 | _=>false
def fw (x y:Nat) (ops:Array Oper):Array Oper:=ops.modify y fun o=>{o with after:=o.after.push ⟨x,.data⟩}
def wi:Op→Bool
 | .call c=>match c.callee with|.builtin b=>(match b with|.print|.println|.recover|.unsafeSizeof=>false|_=>true)|_=>false
 | .go _|.defer _|.send ..|.recv ..|.select ..|.panic _=>false
 | _=>true
def Ra (names:List String) (o:Oper):Bool:=match cq P G names o with|some i=>!jq i|none=>true
def loose (names:List String) (ops:Array Oper):Option (Nat×Nat):=
 let b:=ny ops.toList
 let le (i j:Nat):Bool:=(b.getD j 0).testBit i
 let fP:=(List.range ops.size).filter fun i=>(ops[i]?).any (Ra P G names)
 fP.findSome? fun i=>fP.findSome? fun j=>if i < j&&!le i j&&!le j i then some (i,j) else none
def wj (l:List (Nat×Bk)):Bool:=l.all fun (_,b)=>match b with|.dM=>true|.rd 0=>true|_=>false
def zY (n:Nat) (names:List String) (ops:Array Oper) (l:List (Nat×Bk)):AC:=
 if wj l then .ops (l.map fun (i,_)=>fJ P G n names ops (ops.getD i default)) else .iB (l.map fun (i,b)=>.mk b (fJ P G n names ops (ops.getD i default)))
def fk (bad:Array Oper→AC) (n:Nat) (names:List String) (ops:Array Oper):AC:=
 let l:=order P G 0 names ops
 if dt P G n names ops l then zY P G n names ops l else
 let l:=order P G 1 names ops
 if dt P G n names ops l then zY P G n names ops l else
 let l:=order P G 2 names ops
 if dt P G n names ops l then zY P G n names ops l else bad ops
def kv (next:Array Oper→AC) (names:List String) (ops:Array Oper):AC:=match loose P G names ops with
 | some (x,y)=>if ops.all (fun o=>wi o.op)&&x != y&&decide (x < ops.size)&&decide (y < ops.size) then .alt (next (fw x y ops)) (next (fw y x ops)) else .bad 404
 | none=>.bad 404
def kz (n:Nat) (names:List String) (ops:Array Oper):AC:=fk P G (kv P G (fk P G (kv P G (fk P G (fun _=>.bad 404) n names) names) n names) names) n names ops
def mw (n:Nat) (names:List String) (ops:Array Oper) (o:Oper):GI:=match cq P G names o,o.guard,gA G n o.dst with
 | none,some (j,w),some d=>match (ops[j]?).bind (·.dst) with
  | some t=>match G.sl t with
   | some s=>.g (hi s) (lo s) w d (.op (.bad 405))
   | none=>nv
  | none=>nv
 | _,_,_=>fJ P G n names ops o
def Yn:GI→Bool
 | .o .no (.op (.bad 400))=>true
 | _=>false
def Yo:GI→Bool
 | .o .no (.op (.bad 400))=>true
 | .g _ _ _ _ (.op (.bad 405))=>true
 | _=>false
def qk (n:Nat) (names:List String) (ops:Array Oper):AC:=
 let l:=ops.toList.map fun o=>mw P G n names ops o
 if l.any Yn&&G.b.isNone then
  match (List.range 16).find? fun q=>!((ops.toList.map fun o=>mw P {G with b:=some q} n names ops o).any Yo) with
  | some q=>.Rb q (ops.toList.map fun o=>mw P {G with b:=some q} n names ops o)
  | none=>.ops l
 else .ops l
def cC (n:Nat) (names:List String):Code→AC
 | .skip=>.skip
 | .region _ ops false=>qk P G n names ops
 | .region _ ops true=>kz P G n names ops
 | .seq a b=>.seq (cC n names a) (cC n names b)
 | .cond c a b=>match cO G c with|some c=>.cond c (cC n names a) (cC n names b)|none=>.bad 401
 | .block i a=>match a with
  | .loop b=>if hasNext b then .join (.block i (.loop (cC n names b))) else .block i (.loop (cC n names b))
  | a=>.block i (cC n names a)
 | .loop a=>.loop (cC n names a)
 | .scope a=>.scope (cC n names a)
 | .exit i=>.exit i
 | .goto l=>.goto l
 | .label l=>.label l
 | .ret=>.ret
 | .rangeFunc ..=>.bad 402
 | .refuse _=>.bad 403
def KY (n:Nat) (r:ResultVar):Option Rs:=
 match r with
 | .tmp t=>if t < 256 then some (.t (hi t) (lo t)) else none
 | .cell t ty=>if (P.underlying ty).isNone then none else if t < 256 then some (if qv P ty then .agg (bp P ty) (hi t) (lo t) else .one (hi t) (lo t)) else none
def cF (names:List String) (f:Func):AF:=
 match f.body,f.results.toList.mapM (KY P f.ntmps) with
 | some c,some rs=>if f.name == "runtime.NumGoroutine" then .none else .mk (cC P G f.ntmps names c) rs
 | _,_=>.none
end
end
noncomputable section
structure Kt where
 n:A2→Hp→RS
 e:Nat→A2→Hp→RS
 g:Nat→A2→Hp→RS
 r:A2→Hp→RS
def AI.cL (cf:Cf) (iv:Iv) (d:aH) (k:A2→Hp→RS) (r:A2) (h:Hp):AI→RS
 | .op y=>yq d k r (y.run r h)
 | .uM s x=>stepT d k r (hE s (ev x r) h)
 | .call f xs=>stepT d k r (cf f (fY xs r) h)
 | .jK x xs=>stepT d k r (AV.FV (ev x r) (fun f cs=>cf f (List.append (fY xs r) cs) h) (.err 202))
 | .inv n x xs=>stepT d k r (iv n (ev x r) (fY xs r) h)
def GI.cL (cf:Cf) (iv:Iv) (k:A2→Hp→RS) (r:A2) (h:Hp):GI→RS
 | .o d i=>i.cL cf iv d k r h
 | .g a b w d i=>AV.bH (gb w (ar a b r)) (fun t=>@Bool.rec (fun _=>RS) (k (bL d cA r) h) (i.cL cf iv d k r h) (eH t w)) (.err 210)
def ew (cf:Cf) (iv:Iv) (k:A2→Hp→RS):List GI→A2→Hp→RS
 | []=>k
 | i::l=>fun r h=>i.cL cf iv (ew cf iv k l) r h
def Nb (cf:Cf) (iv:Iv) (b:Bk) (d:aH) (k:DK) (r:A2) (h g:Hp) (hs:List Hp):AI→RS
 | .op y=>@Bk.rec (fun _=>RS) (nz d k r g hs (y.run r h).kr) (fun n=>Gd d y n k r h g hs (y.run r g)) (Ge d k r g hs (y.run r h)) b
 | .uM s x=>nz d k r g hs (hE s (ev x r) h)
 | .call f xs=>nz d k r g hs (cf f (fY xs r) h)
 | .jK x xs=>nz d k r g hs (AV.FV (ev x r) (fun f cs=>cf f (List.append (fY xs r) cs) h) (.err 202))
 | .inv n x xs=>nz d k r g hs (iv n (ev x r) (fY xs r) h)
def DI.cL (cf:Cf) (iv:Iv) (k:DK) (r:A2) (h g:Hp) (hs:List Hp):DI→RS
 | .mk b (.o d i)=>Nb cf iv b d k r h g hs i
 | .mk b (.g x y w d i)=>AV.bH (gb w (ar x y r)) (fun t=>@Bool.rec (fun _=>RS) (KZ b d k r h g hs) (Nb cf iv b d k r h g hs i) (eH t w)) (.err 212)
def nA (cf:Cf) (iv:Iv) (k:A2→Hp→RS):List DI→DK
 | []=>fun r h _ _=>k r h
 | i::l=>fun r h g hs=>i.cL cf iv (nA cf iv k l) r h g hs
def den (cf:Cf) (iv:Iv):AC→Kt→A2→Hp→RS
 | .skip,K=>K.n
 | .ops l,K=>ew cf iv K.n l
 | .iB l,K=>fun r h=>nA cf iv K.n l r h h []
 | .seq a b,K=>den cf iv a ⟨den cf iv b K,K.e,K.g,K.r⟩
 | .cond c a b,K=>fun r h=>AV.bH (ev c r) (fun t=>@Bool.rec (fun _=>RS) (den cf iv b K r h) (den cf iv a K r h) t) (.err 213)
 | .block i a,K=>den cf iv a ⟨K.n,fun j r h=>@Bool.rec (fun _=>RS) (K.e j r h) (K.n r h) (Nat.beq j i),K.g,K.r⟩
 | .exit i,K=>K.e i
 | .goto l,K=>K.g l
 | .ret,K=>K.r
 | _,_=>fun _ _=>.err 310
def wk (cf:Cf) (iv:Iv) (K:Kt) (T:A2→Hp→RS):Nat→AC→A2→Hp→RS
 | 0,_=>T
 | k+1,.seq a b=>den cf iv a ⟨wk cf iv K T k b,K.e,K.g,K.r⟩
 | _+1,c=>den cf iv c K
def jr:Nat→AC→AC
 | 0,c=>c
 | k+1,.seq _ b=>jr k b
 | _+1,_=>.skip
def pP:AC→Bool
 | .seq a b=>pP a&&pP b
 | .label _=>false
 | .ah _ _=>false
 | _=>true
def kA:Nat→AC→Bool
 | 0,_=>true
 | k+1,.seq a b=>pP a&&kA k b
 | _+1,c=>pP c
def bF (r:A2):List Nat→A2
 | []=>.nil
 | t::L=>if t < 256 then dj (bR (t / 16)) (bR (t % 16)) (ar (bR (t / 16)) (bR (t % 16)) r) (bF r L) else bF r L
def my (L Lr:List Nat):Kt:=⟨fun r h=>.nm (bF r L) h,fun i r h=>.ex i (bF r L) h,fun l r h=>.go l (bF r L) h,fun r h=>.ret (bF r Lr) h⟩
def sq (c:AC) (k:Nat) (Lin L Lr Lx:List Nat):Cf→Iv→(A2→Hp→RS)→A2→Hp→RS:=
 fun cf iv rx r h=>wk cf iv (my L Lr) (fun r h=>rx (bF r Lx) h) k c (bF r Lin) h
inductive Impl:AC→AC→Prop
 | refl (c:AC):Impl c c
 | seq {a a' b b':AC}:Impl a a'→Impl b b'→Impl (.seq a b) (.seq a' b')
 | cond {o:AO} {a a' b b':AC}:Impl a a'→Impl b b'→Impl (.cond o a b) (.cond o a' b')
 | block {i:Nat} {a a':AC}:Impl a a'→Impl (.block i a) (.block i a')
 | loop {a a':AC}:Impl a a'→Impl (.loop a) (.loop a')
 | scope {a a':AC}:Impl a a'→Impl (.scope a) (.scope a')
 | join {i:Nat} {a a':AC}:Impl a a'→Impl (.join (.block i (.loop a))) (.join (.block i (.loop a')))
 | Yp {i:Nat} {a a':AC}:Impl a a'→Impl (.join (.block i a)) (.block i a')
 | bad {c:AC} (n:Nat):pP c=true→Impl c (.bad n)
 | ah {c x:AC} {f:Cf→Iv→(A2→Hp→RS)→A2→Hp→RS} (k:Nat) (Lin L Lr Lx:List Nat):kA k c=true→f=sq c k Lin L Lr Lx→Impl (jr k c) x→Impl c (.ah f x)
end
noncomputable section
def NT (x:AF):AC:=match x with|.none=>.skip|.mk b _=>b|.oU _ b _=>b|.Ek b _=>b|.ext _=>.skip
def gL (c:AC):AC:=match c with|.seq a _=>a|.cond _ a _=>a|.block _ a=>a|.loop a=>a|.scope a=>a|.join a=>a|c=>c
def gR (c:AC):AC:=match c with|.seq _ b=>b|.cond _ _ b=>b|c=>c
theorem aE {c a' b':AC} (a b:AC) (ha:Impl a a') (hb:Impl b b') (e:c=.seq a b:=by kernel_rfl):Impl c (.seq a' b'):=e▸.seq ha hb
theorem eL {o:AO} {c a' b':AC} (a b:AC) (ha:Impl a a') (hb:Impl b b') (e:c=.cond o a b:=by kernel_rfl):Impl c (.cond o a' b'):=e▸.cond ha hb
theorem aY {i:Nat} {c a':AC} (a:AC) (ha:Impl a a') (e:c=.block i a:=by kernel_rfl):Impl c (.block i a'):=e▸.block ha
theorem bV {c a':AC} (a:AC) (ha:Impl a a') (e:c=.loop a:=by kernel_rfl):Impl c (.loop a'):=e▸.loop ha
theorem scI {c a a':AC} (e:c=.scope a) (ha:Impl a a'):Impl c (.scope a'):=e▸.scope ha
theorem ZB {i:Nat} {c a a':AC} (e:c=.join (.block i (.loop a))) (ha:Impl a a'):Impl c (.join (.block i (.loop a'))):=e▸.join ha
theorem XU {i:Nat} {c a a':AC} (e:c=.join (.block i a)) (ha:Impl a a'):Impl c (.block i a'):=e▸.Yp ha
theorem aV {c x:AC} (e:c=x:=by kernel_rfl):Impl c x:=e▸.refl _
theorem ZQ {c:AC} {n:Nat} (e:pP c=true):Impl c (.bad n):=.bad n e
theorem al {c x:AC} {f:Cf→Iv→(A2→Hp→RS)→A2→Hp→RS} (d:AC) (k:Nat) (Lin L Lr Lx:List Nat) (h:Impl d x) (e:(kA k c,jr k c,f)=(true,d,sq c k Lin L Lr Lx):=by kernel_rfl):Impl c (.ah f x):=by
 have e1:kA k c=true:=congrArg (·.1) e
 have e2:jr k c=d:=congrArg (·.2.1) e
 have e3:f=sq c k Lin L Lr Lx:=congrArg (·.2.2) e
 exact .ah k Lin L Lr Lx e1 e3 (e2▸h)
theorem aA {c:AC} {f:Cf→Iv→(A2→Hp→RS)→A2→Hp→RS} (k:Nat) (Lin L Lr Lx:List Nat) (e:(kA k c,jr k c,f)=(true,.skip,sq c k Lin L Lr Lx):=by kernel_rfl):Impl c (.ah f .skip):=al .skip k Lin L Lr Lx (.refl _) e
end
end Go.Am
