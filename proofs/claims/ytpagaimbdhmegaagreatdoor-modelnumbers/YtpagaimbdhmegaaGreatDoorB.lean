/- What code of the abstract machine a Go function is, and what loop-free code means. Nothing is asked. -/
import Derived.Test.YtpagaimbdhmegaaGreatDoorA
import GoSem.Step
import Derived.Orders
import Derived.KernelRfl
set_option linter.all false
namespace Go.Am
noncomputable section
def AO.aE:AO→List Nat
 | .t a b=>[16 * a.nat+b.nat]
 | .c _=>[]
def OA.aE:OA→List Nat
 | .none=>[]
 | .some x=>x.aE
def Part.aE:Part→List Nat
 | .mk _ _ x=>x.aE
def sX (l:List AO):List Nat:=l.flatMap AO.aE
def oB.aE:oB→List Nat
 | .mv x=>x.aE
 | .pick c a b=>c.aE ++ (a.aE ++ b.aE)
 | .alloc ..=>[]
 | .box _ x=>x.aE
 | .build _ ps=>ps.flatMap Part.aE
 | .aU _ _ _ _ ps=>ps.flatMap Part.aE
 | .bq x=>x.aE
 | .cV _ x=>x.aE
 | .Rp x y=>x.aE ++ y.aE
 | .gS _ x y=>x.aE ++ y.aE
 | .pR x=>x.aE
 | .bin _ x y=>x.aE ++ y.aE
 | .un _ x=>x.aE
 | .conv _ x=>x.aE
 | .Ie _ x=>x.aE
 | .TX _ xs=>sX xs
 | .mT=>[]
 | .mU _ _ l c=>l.aE ++ c.aE
 | .JZ _ x lo hi mx=>x.aE ++ (lo.aE ++ (hi.aE ++ mx.aE))
 | .DD x lo hi=>x.aE ++ (lo.aE ++ hi.aE)
 | .IE _ _ x lo hi mx=>x.aE ++ (lo.aE ++ (hi.aE ++ mx.aE))
 | .br _ x=>x.aE
 | .IG _ x=>x.aE
 | .IH _ _ x=>x.aE
 | .bF _ x y=>x.aE ++ y.aE
 | .AD _ _ x y=>x.aE ++ y.aE
 | .idxs x y=>x.aE ++ y.aE
 | .II _ _ _ x y=>x.aE ++ y.aE
 | .ext _ x=>x.aE
 | .IJ _ _ _ x y=>x.aE ++ y.aE
 | .Ka _ x y z=>x.aE ++ (y.aE ++ z.aE)
 | .del _ x y=>x.aE ++ y.aE
 | .DE x=>x.aE
 | .len x=>x.aE
 | .dI x=>x.aE
 | .cap x=>x.aE
 | .max _ xs=>sX xs
 | .app _ _ x y=>x.aE ++ y.aE
 | .apps _ x y=>x.aE ++ y.aE
 | .TY _ x y=>x.aE ++ y.aE
 | .TZ _ x=>x.aE
 | .IK x=>x.aE
 | .DF x=>x.aE
 | .NJ x=>x.aE
 | .Kb _ _ _ x=>x.aE
 | .cG _ x y=>x.aE ++ y.aE
 | .real _ x=>x.aE
 | .IL x=>x.aE
 | .DH _ x y=>x.aE ++ y.aE
 | .xv _ _ x y=>x.aE ++ y.aE
 | .xw x y z=>x.aE ++ y.aE ++ z.aE
 | .DG _ _ _ x y=>x.aE ++ y.aE
 | .bad _=>[]
def AI.aE:AI→List Nat
 | .op o=>o.aE
 | .FV _ x=>x.aE
 | .call _ xs=>sX xs
 | .jb x xs=>x.aE ++ sX xs
 | .inv _ x xs=>x.aE ++ sX xs
def GI.aE:GI→List Nat
 | .o _ i=>i.aE
 | .g a b _ _ i=>(16 * a.nat+b.nat)::i.aE
structure Gl where
 n:Nat
 sy:List (P4×Nat)
 b:Option Nat
instance:OfNat Gl 0:=⟨⟨0,[],none⟩⟩
def Gl.sl (G:Gl) (t:Nat):Option Nat:=match G.b with
 | none=>if t < 256 then some t else none
 | some q=>if t < 16 * q then (if t < 256 then some t else none) else if t < 16 * q+16 then none else if t < 272 then some (t - 16) else none
def Gl.tm (G:Gl) (s:Nat):Nat:=match G.b with
 | none=>s
 | some q=>if s < 16 * q then s else s+16
section
variable (P:Program) (G:Gl)
def hi (n:Nat):H:=bN (n / 16)
def lo (n:Nat):H:=bN (n % 16)
def P4.of (n:Nat):P4:=.mk (bN (n / 4096)) (bN (n / 256 % 16)) (bN (n / 16 % 16)) (bN (n % 16))
def yX:Value→Option AV
 | .bool b=>some (.bool b)
 | .int k n=>some (.int k n)
 | .float k n=>some (.ji k n)
 | .complex k a b=>some (.cG k a b)
 | .string s=>some (.str (s.data.toList.map (·.toNat)))
 | .pointer none=>some .dS
 | .slice none 0 0=>some .ah
 | .map none=>some .tv
 | .func (.func f) ⟨[]⟩ ⟨[]⟩=>some (.fn f [])
 | .nilFunc=>some .wq
 | .nilIface=>some .kQ
 | _=>none
def Ac (v:Value):Option AV:=
 match v with
 | .agg cs=>(cs.toList.mapM yX).map .agg
 | .iface t v=>(yX v).map (.iface t)
 | v=>yX v
def cO:Operand→Option AO
 | .tmp t=>(G.sl t).map fun s=>.t (hi s) (lo s)
 | .const v=>(Ac v).map .c
 | .global g=>if g < G.n then some (.c (.ptr (P4.of g) 0)) else none
 | .func f=>some (.c (.fn f []))
def FU:Option Operand→Option OA
 | none=>some .none
 | some x=>(cO G x).map .some
def iz (t:TypeId):TypeDesc:=(P.underlying t).getD .invalid
def qh (t:TypeId):Bool:=match iz P t with|.struct _|.array ..=>true|_=>false
def bk (t:TypeId):Nat:=P.cellsOf t
def ff (t:TypeId):Option (List AV):=((P.info? t).bind (·.zero)).bind fun z=>z.cells.toList.mapM yX
def iZ (t:TypeId):Option AV:=((P.info? t).bind (·.zero)).bind Ac
def uw:NK→Operand→Bool
 | .s,.const (.slice none 0 0)=>true
 | .m,.const (.map none)=>true
 | .f,.const .nilFunc=>true
 | .i,.const .nilIface=>true
 | _,_=>false
def gH (e:TypeId):Bool:=match P.info? e with
 | some i=>(match i.zero with|some z=>z.cells.size == i.size|none=>false)&&Nat.ble i.bytes 1048576
 | none=>false
def An (t:TypeId):Option KK:=match P.underlying t with
 | some .bool=>some .b
 | some (.int _)=>some .i
 | some .string=>some .s
 | some (.pointer e)=>match P.info? e with
  | some ie=>if ie.size=0 then none else some .p
  | none=>none
 | _=>none
def kZ:List Field→Nat→Option (List KK)
 | [],_=>some []
 | f::fs,i=>if f.name = "_" ∨f.offset≠i then none else
  match An P f.type,kZ fs (i+1) with
  | some k,some ks=>some (k::ks)
  | _,_=>none
def tG (t:TypeId):Option (List KK):=match P.underlying t with
 | some (.struct fs)=>if P.stoodInHeld t then none else kZ P fs.toList 0
 | _=>none
def lK (t:TypeId):Option KT:=match P.underlying t with
 | some .bool=>some (.one .b)
 | some (.int _)=>some (.one .i)
 | some .string=>some (.one .s)
 | some (.struct _)=>(tG P t).map .agg
 | _=>none
def AL (t:TypeId):Option KT:=match P.underlying t with
 | some (.map k _)=>lK P k
 | _=>none
def BQ (op:BinOp) (t:TypeId) (x y:Operand):Option BK:=
 match iz P t,op with
 | .int _,.add=>some .add|.int _,.sub=>some .sub|.int _,.mul=>some .mul|.int _,.quo=>some .quo|.int _,.rem=>some .rem
 | .int _,.and=>some .and|.int _,.or=>some .or|.int _,.xor=>some .xor|.int _,.andNot=>some .Ua|.int _,.shl=>some .shl|.int _,.shr=>some .shr
 | .int _,.eql=>some .eq|.int _,.neq=>some .ne|.int _,.lss=>some .lt|.int _,.leq=>some .le|.int _,.gtr=>some .gt|.int _,.geq=>some .ge
 | .string,.eql=>some .seq|.string,.neq=>some .Kd|.string,.lss=>some .slt|.string,.leq=>some .sle|.string,.gtr=>some .XS|.string,.geq=>some .XT|.string,.add=>some .cat
 | .bool,.eql=>some .beq
 | .bool,.neq=>some .bne
 | .pointer e,.eql=>if bk P e=0 then none else some .lO
 | .pointer e,.neq=>if bk P e=0 then none else some .WU
 | .slice _,.eql=>if uw .s y then some (.jO .s) else none
 | .slice _,.neq=>if uw .s y then some (.jP .s) else none
 | .map ..,.eql=>if uw .m y then some (.jO .m) else none
 | .map ..,.neq=>if uw .m y then some (.jP .m) else none
 | .func ..,.eql=>if uw .f y then some (.jO .f) else none
 | .func ..,.neq=>if uw .f y then some (.jP .f) else none
 | .interface _,.eql=>if uw .i y then some (.jO .i) else none
 | .interface _,.neq=>if uw .i y then some (.jP .i) else none
 | .struct _,.eql=>if P.eqGuardType P.depth t then none else (tG P t).map .WV
 | .struct _,.neq=>if P.eqGuardType P.depth t then none else (tG P t).map .Ru
 | .float _,op=>some (.DP op)
 | .complex _,op=>some (.NM op)
 | _,_=>none
def pj (n:Nat) (place:Nat→Option (Nat×Nat)) (ps:List (Nat×Operand)):Option (List Part):=
 ps.mapM fun (i,x)=>do
  let (off,sz)←place i
  if off+sz≤n then some (.mk off sz (←cO G x)) else none
def FF (s d:TypeId):Option CK:=
 match iz P s,iz P d with
 | .int _,.int k=>some (.toInt k)
 | .string,.string=>some .same
 | .pointer e,.unsafePointer=>if bk P e=0 then none else some .Xx
 | .unsafePointer,.pointer u=>if bk P u=0 || !liesAt P P.depth u 1 0 u 1 then none else some (.FM u (bk P u))
 | .string,.slice e=>match iz P e with|.int .u8=>some (.Xy e)|_=>none
 | .slice e,.string=>match iz P e with|.int .u8=>some .Wq|_=>none
 | .int _,.float k=>some (.Om k)
 | .float _,.int k=>some (.Um k)
 | _,_=>none
def gT (b:Builtin) (ts:List TypeId) (xs:List AO):Option oB:=
 match b,ts,xs with
 | .len,t::_,[x]=>match iz P t with
  | .string=>some (.dI x)
  | .slice _=>some (.len x)
  | .map ..=>some (.DE x)
  | .array n _=>some (.mv (.c (.int .i64 n)))
  | .pointer a=>match iz P a with|.array n _=>some (.mv (.c (.int .i64 n)))|_=>none
  | _=>none
 | .cap,t::_,[x]=>match iz P t with
  | .slice _=>some (.cap x)
  | .array n _=>some (.mv (.c (.int .i64 n)))
  | _=>none
 | .append,[t,u],[x,y]=>match iz P t,iz P u with
  | .slice e,.string=>if bk P e=1&&gH P e then some (.apps e x y) else none
  | .slice e,.slice _=>if bk P e=0 || !gH P e then none else some (.app e (bk P e) x y)
  | .slice e,.int _=>if bk P e=0 || !gH P e then none else (ff P e).bind fun z=>if z.length≠bk P e then none else some (.DG e (bk P e) z x y)
  | _,_=>none
 | .copy,t::_,[x,y]=>match iz P t with|.slice e=>if bk P e=0 then none else some (.TY (bk P e) x y)|_=>none
 | .clear,t::_,[x]=>match iz P t with|.slice e=>if bk P e=0 then none else (ff P e).bind fun z=>if z.length≠bk P e then none else some (.TZ z x)|_=>none
 | .delete,t::_,[x,y]=>do some (.del (←AL P t) x y)
 | .max,_,xs=>some (.max false xs)
 | .min,_,xs=>some (.max true xs)
 | .unsafeSliceData,_,[x]=>some (.IL x)
 | .real,_,[x]=>some (.real false x)
 | .imag,_,[x]=>some (.real true x)
 | .unsafeString,t::_,[x,y]=>match iz P t with|.pointer e=>if bk P e=1 then some (.DH e x y) else none|_=>none
 | .complex,t::_,[x,y]=>match iz P t with|.float k=>some (.cG k x y)|_=>none
 | _,_,_=>none
def vJ (names:List String) (s:String):Option Nat:=names.findIdx? (· == s)
def cj (names:List String) (o:Oper):Option AI:=
 match o.op with
 | .move x|.assign x=>do some (.op <| .mv (←cO G x))
 | .pick c a b=>do some (.op <| .pick (←cO G c) (←cO G a) (←cO G b))
 | .alloc e=>do let z←ff P e;some (.op <| .alloc e z.length (lW z))
 | .box e x=>do some (.op <| .box e (←cO G x))
 | .build t ps=>do
  let z←ff P t
  match iz P t with
  | .struct fs=>do if fs.all (fun f=>(P.info? f.type).isSome) then some (.op <| .build z (←pj G z.length (fun i=>(fs[i]?).map fun f=>(f.offset,bk P f.type)) ps.toList)) else none
  | .array _ e=>do if (P.info? e).isSome then some (.op <| .build z (←pj G z.length (fun i=>some (i * bk P e,bk P e)) ps.toList)) else none
  | _=>none
 | .buildSlice t n ps=>do
  let .slice e:=iz P t|none
  let z←ff P e
  if bk P e=0∨z.length≠bk P e then none
  some (.op <| .aU e (bk P e) n (dy n z) (←pj G (n * bk P e) (fun i=>some (i * bk P e,bk P e)) ps.toList))
 | .load t x=>do
  if (P.underlying t).isNone then none
  if qh P t then some (.op <| .cV (bk P t) (←cO G x)) else some (.op <| .bq (←cO G x))
 | .store t x y=>do
  if (P.info? t).isNone then none
  if qh P t then some (.op <| .gS (bk P t) (←cO G x) (←cO G y)) else if bk P t=1 then some (.op <| .Rp (←cO G x) (←cO G y)) else none
 | .nilCheck x=>do some (.op <| .pR (←cO G x))
 | .binOp op t x y _=>match BQ P op t x y with
  | some k=>do some (.op <| .bin k (←cO G x) (←cO G y))
  | none=>match BQ P op t y x with
   | some (.jO k)=>do some (.op <| .bin (.jO k) (←cO G y) (←cO G x))
   | some (.jP k)=>do some (.op <| .bin (.jP k) (←cO G y) (←cO G x))
   | _=>none
 | .unOp op _ x=>match op with
  | .not=>do some (.op <| .un .not (←cO G x))
  | .neg=>do some (.op <| .un .neg (←cO G x))
  | .xor=>do some (.op <| .un .XU (←cO G x))
  | .plus=>none
 | .convert s d x=>do some (.op <| .conv (←FF P s d) (←cO G x))
 | .makeInterface t x=>match P.underlying t with
  | none|some (.interface _)=>none
  | _=>do some (.op <| .Ie t (←cO G x))
 | .makeFunc (.func f) first captured=>do if first.isEmpty then some (.op <| .TX f (←captured.toList.mapM (cO G))) else none
 | .makeMap _ none=>some (.op .mT)
 | .makeMap t (some (.const (.int _ _)))=>match iz P t with|.map ..=>some (.op .mT)|_=>none
 | .makeSlice t l c=>do
  let .slice e:=iz P t|none
  let z←ff P e
  if bk P e=0∨z.length≠bk P e∨gH P e=false then none
  some (.op <| .mU e z (←cO G l) (←cO G c))
 | .slice t x l h m=>match iz P t with
  | .string=>do if m.isSome then none else some (.op <| .DD (←cO G x) (←FU G l) (←FU G h))
  | .slice e=>do if bk P e=0∨(m.isSome∧h.isNone) then none else some (.op <| .JZ (bk P e) (←cO G x) (←FU G l) (←FU G h) (←FU G m))
  | .array n e=>do if (m.isSome∧h.isNone)∨(P.info? e).isNone then none else some (.op <| .IE n (bk P e) (←cO G x) (←FU G l) (←FU G h) (←FU G m))
  | _=>none
 | .fieldAddr t x f=>do
  let .struct fs:=iz P t|none
  let fd←fs[f]?
  if bk P fd.type=0 then none
  some (.op <| .br fd.offset (←cO G x))
 | .field t x f=>do
  let .struct fs:=iz P t|none
  let fd←fs[f]?
  if (P.underlying fd.type).isNone then none
  if qh P fd.type then some (.op <| .IH fd.offset (bk P fd.type) (←cO G x)) else some (.op <| .IG fd.offset (←cO G x))
 | .indexAddr t x i=>match iz P t with
  | .array n e=>do if (P.info? e).isNone then none else some (.op <| .AD n (bk P e) (←cO G x) (←cO G i))
  | .slice e=>do if (P.info? e).isNone then none else some (.op <| .bF (bk P e) (←cO G x) (←cO G i))
  | _=>none
 | .index t x i=>match iz P t with
  | .string=>do some (.op <| .idxs (←cO G x) (←cO G i))
  | .array n e=>do if (P.underlying e).isNone then none else some (.op <| .II n (bk P e) (qh P e) (←cO G x) (←cO G i))
  | _=>none
 | .lookup t x i ok=>do
  let .map _ e:=iz P t|none
  some (.op <| .IJ (←AL P t) (←iZ P e) ok (←cO G x) (←cO G i))
 | .mapUpdate t m k x|.insert t m k x=>do some (.op <| .Ka (←AL P t) (←cO G m) (←cO G k) (←cO G x))
 | .range t x=>match iz P t with
  | .map ..=>do some (.op <| .DF (←cO G x))
  | _=>none
 | .next x s=>do if s then none else some (.FV s (←cO G x))
 | .entry x=>do some (.op <| .NJ (←cO G x))
 | .typeAssert x _ t ok=>do
  if (iz P t matches .interface _)∨(P.underlying t).isNone then none
  some (.op <| .Kb t (←iZ P t) ok (←cO G x))
 | .extract x i=>do some (.op <| .ext i (←cO G x))
 | .call c=>do
  let xs←c.args.toList.mapM (cO G)
  match c.callee with
  | .builtin b=>(gT P b c.argTypes.toList xs).map .op
  | .value (.func f)=>some (AI.call f xs)
  | .value x=>do some (AI.jb (←cO G x) xs)
  | .invoke x name=>do some (AI.inv (←vJ names name) (←cO G x) xs)
 | .mapEntry t m k=>do
  let .map _ e:=iz P t|none
  some (.op <| .xv (←AL P t) (←iZ P e) (←cO G m) (←cO G k))
 | .entryStore _ m k x=>do some (.op <| .xw (←cO G m) (←cO G k) (←cO G x))
 | _=>none
inductive KO where
 | pure|read|make|dQ
 deriving DecidableEq
def PE:oB→KO
 | .bq _|.cV ..|.IJ ..|.DE _=>.read
 | .conv .Wq _=>.read
 | .conv .Xx _|.conv (.FM ..) _=>.read
 | .alloc ..|.box ..|.aU ..|.mT|.mU ..|.IK _|.DF _=>.make
 | .conv (.Xy _) _|.conv (.Yt _) _=>.make
 | .Rp ..|.gS ..|.Ka ..|.del ..|.app ..|.apps ..|.TY ..|.TZ ..|.NJ _|.DH ..|.xv ..|.xw ..|.DG ..=>.dQ
 | .bad _=>.dQ
 | _=>.pure
def oW:AI→Bool
 | .op o=>match PE o with|.pure|.read=>true|_=>false
 | _=>false
section
variable (n:Nat)
def lL:Option Tmp→Option aF
 | none=>some .no
 | some t=>match G.sl t with
  | some s=>if t < n then some (.t (hi s) (lo s)) else none
  | none=>none
def pA:GI:=.o .no (.op (.bad 400))
def oH (names:List String) (ops:Array Oper) (o:Oper):GI:=
 match lL G n o.dst,cj P G names o with
 | some d,some op=>match o.guard with
  | none=>.o d op
  | some (j,w)=>match (ops[j]?).bind (·.dst) with
   | some t=>match G.sl t with
    | some s=>.g (hi s) (lo s) w d op
    | none=>pA
   | none=>pA
 | _,_=>pA
def td (prev:List Nat):List Oper→List Nat→List Nat
 | [],acc=>acc
 | o::os,acc=>td prev os (acc ++ [o.after.toList.foldl (fun s e=>if Region.binds .any e then s ||| 2 ^ e.on ||| (if e.on < acc.length then acc.getD e.on 0 else prev.getD e.on 0) else s) 0])
def mX (os:List Oper):List Nat:=td (td (td [] os []) os []) os []
def looks (n:Nat) (names:List String) (ops:Array Oper) (o:Oper):List Nat:=(oH P G n names ops o).aE
def zQ:AI→Bool
 | .op (.alloc ..)|.op .mT|.op (.aU ..)=>true
 | _=>false
def order (news:Nat) (names:List String) (ops:Array Oper):List (Nat×Bk):=
 let n:=ops.size
 let os:=ops.toList
 let fl:=os.map fun o=>match cj P G names o with|some i=>oW i|none=>false
 let b:=mX os
 let le (i j:Nat):Bool:=(b.getD j 0).testBit i
 let mk:=os.map fun o=>o.guard.isNone&&(match cj P G names o with|some i=>zQ i|none=>false)
 let base:=(List.range n).filter fun i=>!fl.getD i false&&!mk.getD i false
 let nw:=mk.zipIdx.map fun (m,i)=>m&&(match news with|0=>false|1=>base.any fun e=>!le e i&&!le i e|_=>true)
 let effs0:=(List.range n).filter fun i=>!fl.getD i false&&!nw.getD i false
 let fk:=(List.range effs0.length).filterMap fun k=>effs0.find? fun i=>(effs0.filter fun e=>e != i&&le e i).length == k
 let hiOf (i:Nat):Nat:=((fk.zipIdx.find? fun (e,_)=>le i e).map (·.2)).getD fk.length
 let loOf (i:Nat):Nat:=(fk.zipIdx.foldl (fun m (e,k)=>if le e i then k+1 else m) 0)
 let stage (j:Nat):List (Nat×Bk):=(((List.range n).filter fun i=>fl.getD i false&&hiOf i == j).map fun i=>(i,.rd (j - loOf i))) ++ (((List.range n).filter fun i=>nw.getD i false&&hiOf i == j).map fun i=>(i,.new))
 (fk.zipIdx.flatMap fun (e,j)=>stage j ++ [(e,.dQ)]) ++ stage fk.length
end
def Kh:Bk→Bool
 | .dQ=>true
 | _=>false
def gp (le:Nat→Nat→Bool):Bool→List (Nat×Bk)→List Nat→Bool
 | _,[],_=>true
 | _,(i,.dQ)::l,fk=>(match fk with|[]=>true|e::_=>le e i)&&gp le true l (i::fk)
 | fl,(i,.rd n)::l,fk=>fl&&(match fk.drop n with|[]=>n == fk.length|e::_=>le e i)&&(match l.find? (fun x=>Kh x.2) with|some (e,_)=>le i e|none=>true)&&gp le true l fk
 | _,(i,.new)::l,fk=>(match l.find? (fun x=>Kh x.2) with|some (e,_)=>le i e|none=>true)&&gp le false l fk
def te (n:Nat) (names:List String) (ops:Array Oper) (l:List (Nat×Bk)) (i:Nat):Bk→Bool
 | .dQ=>true
 | .rd _=>match cj P G names (ops.getD i default) with|some x=>oW x|none=>false
 | .new=>(ops.getD i default).guard.isNone&&(match cj P G names (ops.getD i default) with|some x=>zQ x|none=>false) &&
  (ops.getD i default).dst.all fun t=>l.all fun (j,k)=>Kh k || !(looks P G n names ops (ops.getD j default)).contains t
def iH (n:Nat) (names:List String) (ops:Array Oper) (l:List (Nat×Bk)):Bool:=
 let b:=mX ops.toList
 let le (i j:Nat):Bool:=(b.getD j 0).testBit i
 l.length == ops.size&&(l.all fun (i,_)=>decide (i < ops.size))&&(List.range ops.size).all (fun i=>l.any (·.1 == i))&&(l.zipIdx.all fun ((i,_),p)=>l.zipIdx.all fun ((j,_),q)=>i != j || p == q) &&
 (ops.toList.zipIdx.all fun (o,i)=>o.after.all fun e=>!Region.binds .any e || (decide (e.on < ops.size)&&decide (b.getD e.on 0 < b.getD i 0))) &&
 (l.zipIdx.all fun ((i,k),p)=>l.zipIdx.all fun ((j,k'),q)=>!le i j || decide (p < q) || ((k matches .new)&&(k' matches .rd _))) &&
 (l.all fun (i,k)=>te P G n names ops l i k) &&
 gp le true l [] &&
 (ops.toList.zipIdx.all fun (o,i)=>(o.dst.all fun t=>ops.toList.zipIdx.all fun (o',j)=>i == j || o'.dst != some t)) &&
 (ops.toList.zipIdx.all fun (o,i)=>(looks P G n names ops o).all fun t=>ops.toList.zipIdx.all fun (o',j)=>o'.dst != some t || i == j || le i j || le j i) &&
 (l.all fun (i,k)=>!(k matches .new) || (looks P G n names ops (ops.getD i default)).all fun t=>ops.toList.zipIdx.all fun (o',j)=>o'.dst != some t || le j i)
def hasNext:Code→Bool
 | .region _ ops _=>ops.any fun o=>match o.op with|.next _ false=>true|_=>false
 | .seq a _=>hasNext a
 | _=>false
def eR (x y:Nat) (ops:Array Oper):Array Oper:=ops.modify y fun o=>{o with after:=o.after.push ⟨x,.data⟩}
def vS:Op→Bool
 | .call c=>match c.callee with|.builtin b=>(match b with|.print|.println|.recover|.unsafeSizeof=>false|_=>true)|_=>false
 | .go _|.defer _|.send ..|.recv ..|.select ..|.panic _=>false
 | _=>true
def PF (names:List String) (o:Oper):Bool:=match cj P G names o with|some i=>!oW i|none=>true
def loose (names:List String) (ops:Array Oper):Option (Nat×Nat):=
 let b:=mX ops.toList
 let le (i j:Nat):Bool:=(b.getD j 0).testBit i
 let fk:=(List.range ops.size).filter fun i=>(ops[i]?).any (PF P G names)
 fk.findSome? fun i=>fk.findSome? fun j=>if i < j&&!le i j&&!le j i then some (i,j) else none
def gJ (bad:Array Oper→AC) (n:Nat) (names:List String) (ops:Array Oper):AC:=
 let l:=order P G 0 names ops
 if iH P G n names ops l then .da (l.map fun (i,b)=>.mk b (oH P G n names ops (ops.getD i default))) else
 let l:=order P G 1 names ops
 if iH P G n names ops l then .da (l.map fun (i,b)=>.mk b (oH P G n names ops (ops.getD i default))) else
 let l:=order P G 2 names ops
 if iH P G n names ops l then .da (l.map fun (i,b)=>.mk b (oH P G n names ops (ops.getD i default))) else bad ops
def jK (next:Array Oper→AC) (names:List String) (ops:Array Oper):AC:=match loose P G names ops with
 | some (x,y)=>if ops.all (fun o=>vS o.op)&&x != y&&decide (x < ops.size)&&decide (y < ops.size) then .alt (next (eR x y ops)) (next (eR y x ops)) else .bad 404
 | none=>.bad 404
def mQ (n:Nat) (names:List String) (ops:Array Oper):AC:=gJ P G (jK P G (gJ P G (jK P G (gJ P G (fun _=>.bad 404) n names) names) n names) names) n names ops
def lN (n:Nat) (names:List String) (ops:Array Oper) (o:Oper):GI:=match cj P G names o,o.guard,lL G n o.dst with
 | none,some (j,w),some d=>match (ops[j]?).bind (·.dst) with
  | some t=>match G.sl t with
   | some s=>.g (hi s) (lo s) w d (.op (.bad 405))
   | none=>pA
  | none=>pA
 | _,_,_=>oH P G n names ops o
def Xz:GI→Bool
 | .o .no (.op (.bad 400))=>true
 | _=>false
def XA:GI→Bool
 | .o .no (.op (.bad 400))=>true
 | .g _ _ _ _ (.op (.bad 405))=>true
 | _=>false
def pU (n:Nat) (names:List String) (ops:Array Oper):AC:=
 let l:=ops.toList.map fun o=>lN P G n names ops o
 if l.any Xz&&G.b.isNone then
  match (List.range 16).find? fun q=>!((ops.toList.map fun o=>lN P {G with b:=some q} n names ops o).any XA) with
  | some q=>.NH q (ops.toList.map fun o=>lN P {G with b:=some q} n names ops o)
  | none=>.ops l
 else .ops l
def cC (n:Nat) (names:List String):Code→AC
 | .skip=>.skip
 | .region _ ops false=>pU P G n names ops
 | .region _ ops true=>mQ P G n names ops
 | .seq a b=>.seq (cC n names a) (cC n names b)
 | .cond c a b=>match cO G c with|some c=>.cond c (cC n names a) (cC n names b)|none=>.bad 401
 | .block i a=>match a with
  | .loop b=>if hasNext b then .join (.block i (.loop (cC n names b))) else .block i (.loop (cC n names b))
  | a=>.block i (cC n names a)
 | .loop a=>.loop (cC n names a)
 | .scope a=>.scope (cC n names a)
 | .exit i=>.exit i
 | .goto l=>.goto l
 | .label l=>.label l
 | .ret=>.ret
 | .rangeFunc ..=>.bad 402
 | .refuse _=>.bad 403
def NC (n:Nat) (r:ResultVar):Option Rs:=
 match r with
 | .tmp t=>if t < 256 then some (.t (hi t) (lo t)) else none
 | .cell t ty=>if (P.underlying ty).isNone then none else if t < 256 then some (if qh P ty then .agg (bk P ty) (hi t) (lo t) else .one (hi t) (lo t)) else none
def cF (names:List String) (f:Func):AF:=
 match f.body,f.results.toList.mapM (NC P f.ntmps) with
 | some c,some rs=>if f.name == "runtime.NumGoroutine" then .none else .mk (cC P G f.ntmps names c) rs
 | _,_=>.none
end
end
noncomputable section
structure Kt where
 n:A2→Hp→RS
 e:Nat→A2→Hp→RS
 g:Nat→A2→Hp→RS
 r:A2→Hp→RS
def AI.jM (cf:Cf) (iv:Iv) (d:aF) (k:A2→Hp→RS) (r:A2) (h:Hp):AI→RS
 | .op y=>Dg d k r (y.run r h)
 | .FV s x=>stepT d k r (jD s (ev x r) h)
 | .call f xs=>stepT d k r (cf f (fu xs r) h)
 | .jb x xs=>stepT d k r (AV.BZ (ev x r) (fun f cs=>cf f (List.append (fu xs r) cs) h) (.err 202))
 | .inv n x xs=>stepT d k r (iv n (ev x r) (fu xs r) h)
def GI.jM (cf:Cf) (iv:Iv) (k:A2→Hp→RS) (r:A2) (h:Hp):GI→RS
 | .o d i=>i.jM cf iv d k r h
 | .g a b w d i=>AV.bI (gb w (aq a b r)) (fun t=>@Bool.rec (fun _=>RS) (k (dG d di r) h) (i.jM cf iv d k r h) (gP t w)) (.err 210)
def uk (cf:Cf) (iv:Iv) (k:A2→Hp→RS):List GI→A2→Hp→RS
 | []=>k
 | i::l=>fun r h=>i.jM cf iv (uk cf iv k l) r h
def KB (cf:Cf) (iv:Iv) (b:Bk) (d:aF) (k:DK) (r:A2) (h g:Hp) (hs:List Hp):AI→RS
 | .op y=>@Bk.rec (fun _=>RS) (na d k r g hs (y.run r h).gh) (fun n=>Eb d y n k r h g hs (y.run r g)) (Ec d k r g hs (y.run r h)) b
 | .FV s x=>na d k r g hs (jD s (ev x r) h)
 | .call f xs=>na d k r g hs (cf f (fu xs r) h)
 | .jb x xs=>na d k r g hs (AV.BZ (ev x r) (fun f cs=>cf f (List.append (fu xs r) cs) h) (.err 202))
 | .inv n x xs=>na d k r g hs (iv n (ev x r) (fu xs r) h)
def DI.jM (cf:Cf) (iv:Iv) (k:DK) (r:A2) (h g:Hp) (hs:List Hp):DI→RS
 | .mk b (.o d i)=>KB cf iv b d k r h g hs i
 | .mk b (.g x y w d i)=>AV.bI (gb w (aq x y r)) (fun t=>@Bool.rec (fun _=>RS) (Jb b d k r h g hs) (KB cf iv b d k r h g hs i) (gP t w)) (.err 212)
def mO (cf:Cf) (iv:Iv) (k:A2→Hp→RS):List DI→DK
 | []=>fun r h _ _=>k r h
 | i::l=>fun r h g hs=>i.jM cf iv (mO cf iv k l) r h g hs
def den (cf:Cf) (iv:Iv):AC→Kt→A2→Hp→RS
 | .skip,K=>K.n
 | .ops l,K=>uk cf iv K.n l
 | .da l,K=>fun r h=>mO cf iv K.n l r h h []
 | .seq a b,K=>den cf iv a ⟨den cf iv b K,K.e,K.g,K.r⟩
 | .cond c a b,K=>fun r h=>AV.bI (ev c r) (fun t=>@Bool.rec (fun _=>RS) (den cf iv b K r h) (den cf iv a K r h) t) (.err 213)
 | .block i a,K=>den cf iv a ⟨K.n,fun j r h=>@Bool.rec (fun _=>RS) (K.e j r h) (K.n r h) (Nat.beq j i),K.g,K.r⟩
 | .exit i,K=>K.e i
 | .goto l,K=>K.g l
 | .ret,K=>K.r
 | _,_=>fun _ _=>.err 310
def vW (cf:Cf) (iv:Iv) (K:Kt) (T:A2→Hp→RS):Nat→AC→A2→Hp→RS
 | 0,_=>T
 | k+1,.seq a b=>den cf iv a ⟨vW cf iv K T k b,K.e,K.g,K.r⟩
 | _+1,c=>den cf iv c K
def iK:Nat→AC→AC
 | 0,c=>c
 | k+1,.seq _ b=>iK k b
 | _+1,_=>.skip
def pD:AC→Bool
 | .seq a b=>pD a&&pD b
 | .label _=>false
 | .ag _ _=>false
 | _=>true
def jL:Nat→AC→Bool
 | 0,_=>true
 | k+1,.seq a b=>pD a&&jL k b
 | _+1,c=>pD c
def bD (r:A2):List Nat→A2
 | []=>.nil
 | t::L=>if t < 256 then eQ (bN (t / 16)) (bN (t % 16)) (aq (bN (t / 16)) (bN (t % 16)) r) (bD r L) else bD r L
def lR (L Lr:List Nat):Kt:=⟨fun r h=>.nm (bD r L) h,fun i r h=>.ex i (bD r L) h,fun l r h=>.go l (bD r L) h,fun r h=>.ret (bD r Lr) h⟩
def sQ (c:AC) (k:Nat) (Lin L Lr Lx:List Nat):Cf→Iv→(A2→Hp→RS)→A2→Hp→RS:=
 fun cf iv rx r h=>vW cf iv (lR L Lr) (fun r h=>rx (bD r Lx) h) k c (bD r Lin) h
inductive Impl:AC→AC→Prop
 | refl (c:AC):Impl c c
 | seq {a a' b b':AC}:Impl a a'→Impl b b'→Impl (.seq a b) (.seq a' b')
 | cond {o:AO} {a a' b b':AC}:Impl a a'→Impl b b'→Impl (.cond o a b) (.cond o a' b')
 | block {i:Nat} {a a':AC}:Impl a a'→Impl (.block i a) (.block i a')
 | loop {a a':AC}:Impl a a'→Impl (.loop a) (.loop a')
 | scope {a a':AC}:Impl a a'→Impl (.scope a) (.scope a')
 | join {i:Nat} {a a':AC}:Impl a a'→Impl (.join (.block i (.loop a))) (.join (.block i (.loop a')))
 | XR {i:Nat} {a a':AC}:Impl a a'→Impl (.join (.block i a)) (.block i a')
 | bad {c:AC} (n:Nat):pD c=true→Impl c (.bad n)
 | ag {c x:AC} {f:Cf→Iv→(A2→Hp→RS)→A2→Hp→RS} (k:Nat) (Lin L Lr Lx:List Nat):jL k c=true→f=sQ c k Lin L Lr Lx→Impl (iK k c) x→Impl c (.ag f x)
end
noncomputable section
def Ld (x:AF):AC:=match x with|.none=>.skip|.mk b _=>b|.oO _ b _=>b|.Dy b _=>b|.ext _=>.skip
def gL (c:AC):AC:=match c with|.seq a _=>a|.cond _ a _=>a|.block _ a=>a|.loop a=>a|.scope a=>a|.join a=>a|c=>c
def gR (c:AC):AC:=match c with|.seq _ b=>b|.cond _ _ b=>b|c=>c
theorem az {c a' b':AC} (a b:AC) (ha:Impl a a') (hb:Impl b b') (e:c=.seq a b:=by kernel_rfl):Impl c (.seq a' b'):=e▸.seq ha hb
theorem bL {o:AO} {c a' b':AC} (a b:AC) (ha:Impl a a') (hb:Impl b b') (e:c=.cond o a b:=by kernel_rfl):Impl c (.cond o a' b'):=e▸.cond ha hb
theorem aV {i:Nat} {c a':AC} (a:AC) (ha:Impl a a') (e:c=.block i a:=by kernel_rfl):Impl c (.block i a'):=e▸.block ha
theorem bO {c a':AC} (a:AC) (ha:Impl a a') (e:c=.loop a:=by kernel_rfl):Impl c (.loop a'):=e▸.loop ha
theorem Yo {c a a':AC} (e:c=.scope a) (ha:Impl a a'):Impl c (.scope a'):=e▸.scope ha
theorem aG {c x:AC} (e:c=x:=by kernel_rfl):Impl c x:=e▸.refl _
theorem JO {c:AC} {n:Nat} (e:pD c=true):Impl c (.bad n):=.bad n e
theorem ai {c x:AC} {f:Cf→Iv→(A2→Hp→RS)→A2→Hp→RS} (d:AC) (k:Nat) (Lin L Lr Lx:List Nat) (h:Impl d x) (e:(jL k c,iK k c,f)=(true,d,sQ c k Lin L Lr Lx):=by kernel_rfl):Impl c (.ag f x):=by
 have e1:jL k c=true:=congrArg (·.1) e
 have e2:iK k c=d:=congrArg (·.2.1) e
 have e3:f=sQ c k Lin L Lr Lx:=congrArg (·.2.2) e
 exact .ag k Lin L Lr Lx e1 e3 (e2▸h)
theorem ar {c:AC} {f:Cf→Iv→(A2→Hp→RS)→A2→Hp→RS} (k:Nat) (Lin L Lr Lx:List Nat) (e:(jL k c,iK k c,f)=(true,.skip,sQ c k Lin L Lr Lx):=by kernel_rfl):Impl c (.ag f .skip):=ai .skip k Lin L Lr Lx (.refl _) e
end
end Go.Am
