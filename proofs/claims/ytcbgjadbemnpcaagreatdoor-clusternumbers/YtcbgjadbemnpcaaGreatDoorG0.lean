/- Worlds of listed variables, and what a run of them is asked. Nothing is asked. -/
import Derived.Test.YtcbgjadbemnpcaaGreatDoorA
set_option linter.all false
namespace Go.Am
noncomputable section
def isTrueH (q : Hp → Bool) (v : RT) : Bool := RT.elim (fun v h => AV.onBool v (fun b => Bool.rec false (q h) b) false) (fun _ => false) allN v
def pof (n : Nat) : P4 := .mk (dig (n / 4096)) (dig (n / 256 % 16)) (dig (n / 16 % 16)) (dig (n % 16))
def trD (n : Nat) : O4 := Nat.rec .nil (fun j t => hsetT (pof j) .dead t) n
def gObj (el : Nat) (k : IntKind) (zs : List Int) : Obj := .cells el zs.length true .plain (cof (zs.map fun z => AV.int k z))
def hpG (n g : Nat) (o : Obj) : Hp := .mk (hsetT (pof g) o (trD n)) (pof n)
def avIs (k : IntKind) (z : Int) (v : AV) : Bool := match v with
  | .int k' z' => decide (k' = k) && decide (z' = z)
  | _ => false
def cellsAre (k : IntKind) : List Int → Nat → Cl → Bool
  | [], _, _ => true
  | z :: r, i, c => avIs k z (cget i c) && cellsAre k r (i + 1) c
def objIs (el : Nat) (k : IntKind) (zs : List Int) (o : Obj) : Bool := match o with
  | .cells e n true .plain c => decide (e = el) && decide (n = zs.length) && cellsAre k zs 0 c
  | _ => false
end
end Go.Am
