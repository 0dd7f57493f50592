/- The engine: small code, what it comes to, and that a program's calls come to it; part 1. No condition. -/
import GoSem.Core.Code
import GoSem.Core.World
import GoSem.Op.String
import Derived.Wp
import GoSem.Core.Layout
import GoSem.Core.Region
import GoSem.Op.Equal
import Derived.Below
import Derived.Calls
import Derived.WalkKit
import Derived.Orders
import Derived.WalkLawsBesides
import Derived.WalkSpells
import Derived.Laws.BytesArg
import Derived.Laws.IdiomStrings
set_option linter.unusedVariables false
set_option linter.unusedSimpArgs false
namespace Go.Proofs.YtmhdapjmndfkgaaGreatDoor.Eng
open Go
abbrev Key := Nat × Nat
structure Sz where
  n : Nat
  ty : Option TypeId
instance : DecidableEq Sz := fun a b => decidable_of_iff (a.n = b.n ∧ a.ty = b.ty) ⟨fun h => by cases a; cases b; simp at h; simp [h], fun h => by subst h; exact ⟨rfl, rfl⟩⟩
instance {n : Nat} : OfNat Sz n := ⟨⟨n, none⟩⟩
instance : Coe Sz Nat := ⟨Sz.n⟩
instance : Inhabited Sz := ⟨⟨0, none⟩⟩
def Sz.of (n : Nat) : Sz := ⟨n, none⟩
def tz (n : Nat) (T : TypeId) : Sz := ⟨n, some T⟩
inductive AV where
  | undef
  | v (x : Value)
  | nilsl
  | fsl (es : List (List AV))
  | asl (k : Key) (es : List (List AV))
  | ptr (k : Key) (off : Nat)
  | eptr (k : Key) (i off : Nat) (cs : List AV)
  | fptr (cs : List AV)
  | fn (f : FuncId) (caps : List AV)
  | iface (t : TypeId) (x : AV)
  | agg (cs : List AV)
  | tup (vs : List AV)
  | mp (k : Key)
  | it (k : Key)
  | own (sz : Sz) (mu : Bool) (es : List (List AV))
  | sub (k : Key) (lo n : Nat)
  | bnil (T : TypeId)
instance : Inhabited AV := ⟨.undef⟩
abbrev AV.int (n : Int) : AV := .v (.int .i64 n)
abbrev AV.bool (b : Bool) : AV := .v (.bool b)
abbrev AV.str (s : ByteArray) : AV := .v (.string s)
inductive Ob where
  | var (cs : List AV) (sealed : Bool)
  | tail (len : Nat) (sz : Sz) (mu shr : Bool)
  | map (es : List (AV × AV))
  | siter (s : ByteArray) (pos : Nat)
instance : Inhabited Ob := ⟨.var [] false⟩
structure St where
  t : List AV
  o : List (Key × Ob)
def closed : Value → Bool
  | .bool _ | .int _ _ | .float _ _ | .complex _ _ _ | .string _ | .pointer none | .map none | .chan none | .nilFunc | .nilIface | .slice none 0 0 => true
  | _ => false
def ofCell : Value → AV
  | .slice none 0 0 => .nilsl
  | .iface t x => if closed x then .iface t (.v x) else .undef
  | .func (.func f) ⟨[]⟩ ⟨[]⟩ => .fn f []
  | x => if closed x then .v x else .undef
def ofVal : Value → AV
  | .agg cs => if cs.toList.all Value.oneCell then .agg (cs.toList.map ofCell) else .undef
  | x => ofCell x
def frz1 : AV → Option AV
  | .v x => some (.v x)
  | .nilsl => some (.fsl [])
  | .fsl es => some (.fsl es)
  | .asl _ es => some (.fsl es)
  | .fptr cs => some (.fptr cs)
  | .fn f cs => some (.fn f cs)
  | .iface t x => some (.iface t x)
  | .bnil _ => some (.v (.pointer none))
  | _ => none
def keys1 : AV → List Key
  | .asl k _ => [k]
  | _ => []
def frzL : List AV → Option (List AV)
  | [] => some []
  | x :: l => (frz1 x).bind fun y => (frzL l).bind fun m => some (y :: m)
def frz : AV → Option AV
  | .agg cs => (frzL cs).bind fun l => some (.agg l)
  | x => frz1 x
def keys : AV → List Key
  | .agg cs => cs.flatMap keys1
  | x => keys1 x
def cellsOf : AV → List AV
  | .agg cs => cs
  | x => [x]
def atom : AV → Bool
  | .agg _ | .tup _ | .own _ _ _ => false
  | _ => true
def solid : AV → Bool
  | .undef | .tup _ | .own _ _ _ | .bnil _ | .agg (.bnil _ :: _) => false
  | _ => true
def tagB (t : TypeId) : List AV → List AV
  | .v (.pointer none) :: l => .bnil t :: l
  | l => l
def getO : List (Key × Ob) → Key → Option Ob
  | [], _ => none
  | (k, x) :: l, k' => if k = k' then some x else getO l k'
def setO : List (Key × Ob) → Key → Ob → List (Key × Ob)
  | [], k, x => [(k, x)]
  | (k, y) :: l, k', x => if k = k' then (k, x) :: l else (k, y) :: setO l k' x
def sealObj : Ob → Ob
  | .var cs _ => .var cs true
  | .tail n sz _ _ => .tail n sz false true
  | x => x
def seal1 (o : List (Key × Ob)) (k : Key) : List (Key × Ob) := match getO o k with
  | some x => setO o k (sealObj x)
  | none => o
def sealO (o : List (Key × Ob)) : List Key → List (Key × Ob)
  | [] => o
  | k :: ks => sealO (seal1 o k) ks
def countO (d : Nat) : List (Key × Ob) → Nat
  | [] => 0
  | (k, _) :: l => if k.1 = d then countO d l + 1 else countO d l
inductive CX where
  | t (i : Nat)
  | c (a : AV)
  | g (n : Nat)
instance : Inhabited CX := ⟨.t 0⟩
inductive COp where
  | mv (x : CX)
  | nil (sz : Sz)
  | pick (c a b : CX)
  | box (n : Nat) (sz : List Sz) (x : CX)
  | alloc (z : List AV) (sz : List Sz)
  | build (z : List AV) (parts : List (Nat × Nat × CX))
  | bsl (n : Nat) (sz : Sz) (z : List AV) (parts : List (Nat × CX))
  | mks (sz : Sz) (bytes : Nat) (z : List AV) (n c : CX)
  | ld (g : Bool) (n : Nat) (a : CX)
  | st (n : Nat) (a x : CX)
  | nck (x : CX)
  | bin (op : BinOp) (x y : CX)
  | eqb (neg : Bool) (x y : CX)
  | eqs (neg : Bool) (ks : List Nat) (x y : CX)
  | eqn (kd : Nat) (neg : Bool) (x : CX)
  | not (x : CX)
  | neg (x : CX)
  | cvi (k : IntKind) (x : CX)
  | b2s (x : CX)
  | mki (t : TypeId) (x : CX)
  | tas (x : CX) (t : TypeId) (ok : Bool) (z : AV)
  | mkf (f : FuncId) (caps : List CX)
  | fad (x : CX) (off : Nat)
  | fld (x : CX) (off n : Nat) (g : Bool)
  | ias (sz : Nat) (x i : CX)
  | iaa (len sz : Nat) (x i : CX)
  | ixs (x i : CX)
  | ixa (len n : Nat) (g : Bool) (x i : CX)
  | sls (x : CX) (lo hi : Option CX)
  | slc (sz : Nat) (x : CX) (lo hi : Option CX)
  | slv (sz : Nat) (x : CX) (lo hi : Option CX)
  | ext (x : CX) (i : Nat)
  | len (s : Bool) (x : CX)
  | app (str : Bool) (sz : Sz) (bytes : Nat) (x y : CX)
  | call (o : Bool) (f : FuncId) (args : List CX)
  | cal (o : Bool) (f : CX) (args : List CX)
  | lend (f : FuncId) (fs : List Bool) (args : List CX)
  | apd (h : Nat) (str : Bool) (sz : Sz) (bytes : Nat) (x y : CX)
  | cut (sz : Sz) (bytes : Nat) (s x y : CX)
  | cvu (ts : List TypeId) (x : CX)
  | eqp (neg : Bool) (x y : CX)
  | mm (mx : Bool) (x y : CX)
  | bad
instance : Inhabited COp := ⟨.bad⟩
structure CO where
  dst : Option Nat
  guard : Option (Nat × Bool)
  op : COp
instance : Inhabited CO := ⟨⟨none, none, .bad⟩⟩
inductive CC where
  | skip
  | reg (pre : List CO) (suf : List CO)
  | seq (a b : CC)
  | cond (c : CX) (a b : CC)
  | block (id : Nat) (a : CC)
  | loop (keep : List Nat) (a : CC)
  | exit (id : Nat)
  | ret
  | bad
instance : Inhabited CC := ⟨.skip⟩
structure R where
  x : AV
  new : List (Key × Ob) := []
  seals : List Key := []
abbrev Call := FuncId → List AV → Option AV
section
variable (t : List AV) (G : Nat → AV)
def ev : CX → AV
  | .t i => t.getD i .undef
  | .c a => a
  | .g n => G n
end
def binV (op : BinOp) : Value → Value → Option Value
  | .int k a, .int k' b => if k = k' then match op with
      | .add => some (.int k (k.wrap (a + b)))
      | .sub => some (.int k (k.wrap (a - b)))
      | .mul => some (.int k (k.wrap (a * b)))
      | .quo => if b = 0 then none else some (.int k (k.wrap (a.tdiv b)))
      | .rem => if b = 0 then none else some (.int k (a.tmod b))
      | .eql => some (.bool (a == b))
      | .neq => some (.bool (a != b))
      | .lss => some (.bool (decide (a < b)))
      | .leq => some (.bool (decide (a ≤ b)))
      | .gtr => some (.bool (decide (a > b)))
      | .geq => some (.bool (decide (a ≥ b)))
      | .and => some (.int k (k.wrap (BitVec.ofInt k.bits a &&& BitVec.ofInt k.bits b).toNat))
      | .or => some (.int k (k.wrap (BitVec.ofInt k.bits a ||| BitVec.ofInt k.bits b).toNat))
      | .xor => some (.int k (k.wrap (BitVec.ofInt k.bits a ^^^ BitVec.ofInt k.bits b).toNat))
      | .andNot => some (.int k (k.wrap (BitVec.ofInt k.bits a &&& ~~~ BitVec.ofInt k.bits b).toNat))
      | .shl => if b < 0 then none else some (.int k (k.wrap (a * 2 ^ (min b.toNat k.bits))))
      | .shr => if b < 0 then none else some (.int k (a.fdiv (2 ^ (min b.toNat k.bits))))
      else match op with
      | .shl => if b < 0 then none else some (.int k (k.wrap (a * 2 ^ (min b.toNat k.bits))))
      | .shr => if b < 0 then none else some (.int k (a.fdiv (2 ^ (min b.toNat k.bits))))
      | _ => none
  | .string a, .string b => match op with
      | .add => if a.size + b.size ≤ 9223372036854775807 then some (.string (a ++ b)) else none
      | .eql => some (.bool (a.toList == b.toList))
      | .neq => some (.bool !(a.toList == b.toList))
      | .lss => some (.bool (Op.bytesLess a.toList b.toList))
      | .leq => some (.bool (Op.bytesLess a.toList b.toList || a.toList == b.toList))
      | .gtr => some (.bool !(Op.bytesLess a.toList b.toList || a.toList == b.toList))
      | .geq => some (.bool !(Op.bytesLess a.toList b.toList))
      | _ => none
  | _, _ => none
def eqCell : Nat → AV → AV → Option Bool
  | 0, .v (.int k a), .v (.int k' b) => if k = k' then some (a == b) else none
  | 1, .v (.bool a), .v (.bool b) => some (a == b)
  | 2, .v (.string a), .v (.string b) => some (a.toList == b.toList)
  | _, _, _ => none
def eqCells : List Nat → List AV → List AV → Option Bool
  | [], [], [] => some true
  | q :: ks, x :: l, y :: m => (eqCell q x y).bind fun b => (eqCells ks l m).bind fun c => some (b && c)
  | _, _, _ => none
def mmV : Bool → Value → Value → Option Value
  | true, .int k x, .int k' y => if k = k' then some (.int k (if y > x then y else x)) else none
  | false, .int k x, .int k' y => if k = k' then some (.int k (if y < x then y else x)) else none
  | _, _, _ => none
def imp1 (d j : Nat) : AV → AV × List (Key × Ob)
  | .own sz mu es => (.asl (d, j) es, [((d, j), .tail es.length sz mu !mu)])
  | x => (x, [])
def impL (d : Nat) : Nat → List AV → List AV × List (Key × Ob)
  | _, [] => ([], [])
  | j, x :: l => let p := imp1 d j x; let q := impL d (j + 1) l; (p.1 :: q.1, p.2 ++ q.2)
def impA (d j : Nat) : AV → AV × List (Key × Ob)
  | .agg cs => let p := impL d j cs; (.agg p.1, p.2)
  | x => imp1 d j x
def impT (d : Nat) : Nat → List AV → List AV × List (Key × Ob)
  | _, [] => ([], [])
  | j, x :: l => let p := impA d j x; let q := impT d (j + 100) l; (p.1 :: q.1, p.2 ++ q.2)
def impU (d j : Nat) : AV → AV × List (Key × Ob)
  | .tup vs => let p := impT d j vs; (.tup p.1, p.2)
  | x => impA d j x
def dis1 : AV → AV
  | .own _ _ es => .fsl es
  | .asl _ _ | .ptr _ _ | .eptr _ _ _ _ | .mp _ | .it _ | .sub _ _ _ => .undef
  | x => x
def disA : AV → AV
  | .agg cs => .agg (cs.map dis1)
  | x => dis1 x
def dis : AV → AV
  | .tup vs => .tup (vs.map disA)
  | x => disA x
def imp (o : Bool) (d j : Nat) (x : AV) : AV × List (Key × Ob) := bif o then impU d j x else (dis x, [])
def adopt (d j : Nat) : List AV → List Sz → List AV × List (Key × Ob)
  | .nilsl :: l, s :: sz => let q := adopt d (j + 1) l sz; (.asl (d, j) [] :: q.1, ((d, j), .tail 0 s false false) :: q.2)
  | x :: l, _ :: sz => let q := adopt d (j + 1) l sz; (x :: q.1, q.2)
  | l, _ => (l, [])
def argsOf (t : List AV) (G : Nat → AV) : List CX → Option (List AV × List Key)
  | [] => some ([], [])
  | x :: l => (frz (ev t G x)).bind fun y => (argsOf t G l).bind fun q => some (y :: q.1, keys (ev t G x) ++ q.2)
def splice (cs : List AV) (off : Nat) (xs : List AV) : List AV := cs.take off ++ xs ++ cs.drop (off + xs.length)
def fill (cs : List AV) : List (Nat × Nat × AV) → Option (List AV)
  | [] => some cs
  | (off, n, x) :: l => if (cellsOf x).length = n ∧ off + n ≤ cs.length ∧ solid x = true then fill (splice cs off (cellsOf x)) l else none
def fillE (sz : Nat) (es : List (List AV)) : List (Nat × AV) → Option (List (List AV))
  | [] => some es
  | (i, x) :: l => if (cellsOf x).length = sz ∧ i < es.length then fillE sz (es.set i (cellsOf x)) l else none
def fzParts (t : List AV) (G : Nat → AV) : List (Nat × CX) → Option (List (Nat × AV) × List Key)
  | [] => some ([], [])
  | (i, x) :: l => (frz (ev t G x)).bind fun y => (fzParts t G l).bind fun q => some ((i, y) :: q.1, keys (ev t G x) ++ q.2)
def pack (g : Bool) (n : Nat) (cs : List AV) : Option AV :=
  if n ≤ cs.length then if g then some (.agg (cs.take n)) else match cs with | x :: _ => if n = 1 then some x else none | [] => none else none
def elemsOf : AV → Option (List (List AV))
  | .nilsl => some []
  | .fsl es => some es
  | .asl _ es => some es
  | _ => none
def numsOf : List (List AV) → Option (List Int)
  | [] => some []
  | [.v (.int .u8 n)] :: l => (numsOf l).map fun m => n :: m
  | _ => none
def bnd (n : Nat) : Option AV → Option Nat
  | none => none
  | some (.v (.int _ i)) => if 0 ≤ i ∧ i ≤ (n : Int) then some i.toNat else none
  | _ => none
def capOf (G : Nat → AV) (t : List AV) (g : Key → Option Ob) (c : CX) : Option (AV × List Key) := match ev t G c with
  | .ptr k 0 => match g k with
    | some (.var cs _) => (frzL cs).map fun l => (.fptr l, k :: cs.flatMap keys1)
    | _ => none
  | x => (frz1 x).map fun y => (y, keys1 x)
def capsOf (G : Nat → AV) (t : List AV) (g : Key → Option Ob) : List CX → Option (List AV × List Key)
  | [] => some ([], [])
  | c :: l => (capOf G t g c).bind fun p => (capsOf G t g l).bind fun q => some (p.1 :: q.1, p.2 ++ q.2)
def lenOk (sz : Nat) (es : List (List AV)) : Bool := es.all fun e => e.length == sz
def denX (call : Call) (G : Nat → AV) (t : List AV) (g : Key → Option Ob) (d j : Nat) : COp → Option R
  | .mv x => some { x := ev t G x }
  | .nil sz => some { x := .asl (d, j) [], new := [((d, j), .tail 0 sz false false)] }
  | .pick c a b => match ev t G c with
    | .v (.bool c) => match ev t G a, ev t G b with
      | .v (.bool x), .v (.bool y) => some { x := .v (.bool (bif c then x else y)) }
      | x, y => some { x := bif c then x else y }
    | _ => none
  | .box n sz x => if (cellsOf (ev t G x)).length = n ∧ solid (ev t G x) = true then let q := adopt d (j + 1) (cellsOf (ev t G x)) sz; some { x := .ptr (d, j) 0, new := ((d, j), .var q.1 false) :: q.2 } else none
  | .alloc z sz => let q := adopt d (j + 1) z sz; some { x := .ptr (d, j) 0, new := ((d, j), .var q.1 false) :: q.2 }
  | .build z ps => (fill z (ps.map fun p => (p.1, p.2.1, ev t G p.2.2))).bind fun cs => some { x := .agg cs }
  | .bsl n sz z ps => (fzParts t G ps).bind fun q => (fillE sz (List.replicate n z) q.1).bind fun es => some { x := .asl (d, j) es, new := [((d, j), .tail n sz true false)], seals := q.2 }
  | .mks sz bytes z n c => match ev t G n, ev t G c with
    | .v (.int .i64 n), .v (.int .i64 c) => if n = c ∧ 0 ≤ n ∧ bytes * n ≤ 70368744177664 then some { x := .asl (d, j) (List.replicate n.toNat z), new := [((d, j), .tail n.toNat sz true false)] } else none
    | _, _ => none
  | .ld ag n a => match ev t G a with
    | .fptr cs => (pack ag n cs).map fun x => { x }
    | .eptr _ _ _ cs => (pack ag n cs).map fun x => { x }
    | .ptr k off => match g k with
      | some (.var cs _) => (pack ag n (cs.drop off)).map fun x => { x }
      | _ => none
    | _ => none
  | .nck x => match ev t G x with
    | .ptr k o => some { x := .ptr k o }
    | .eptr k i o cs => some { x := .eptr k i o cs }
    | .fptr cs => some { x := .fptr cs }
    | .fn f cs => some { x := .fn f cs }
    | _ => none
  | .bin op x y => match ev t G x, ev t G y with
    | .v a, .v b => (binV op a b).map fun z => { x := .v z }
    | _, _ => none
  | .eqb ng x y => match ev t G x, ev t G y with
    | .v (.bool a), .v (.bool b) => some { x := .v (.bool ((a == b) != ng)) }
    | _, _ => none
  | .eqs ng ks x y => match ev t G x, ev t G y with
    | .agg a, .agg b => (eqCells ks a b).map fun e => { x := .v (.bool (e != ng)) }
    | _, _ => none
  | .eqn kd ng x => match kd, ev t G x with
    | 0, .nilsl => some { x := .v (.bool (true != ng)) }
    | 0, .fsl (_ :: _) => some { x := .v (.bool (false != ng)) }
    | 0, .asl _ (_ :: _) => some { x := .v (.bool (false != ng)) }
    | 1, .fn _ _ => some { x := .v (.bool (false != ng)) }
    | 1, .v .nilFunc => some { x := .v (.bool (true != ng)) }
    | 2, .v (.pointer none) => some { x := .v (.bool (true != ng)) }
    | 2, .ptr _ _ => some { x := .v (.bool (false != ng)) }
    | 2, .bnil _ => some { x := .v (.bool (true != ng)) }
    | 2, .fptr _ => some { x := .v (.bool (false != ng)) }
    | _, _ => none
  | .cvu ts x => match ev t G x with
    | .ptr k 0 => match g k with
      | some (.var [.bnil T, _] _) => if ts.contains T = true then some { x := .ptr k 0 } else none
      | _ => none
    | _ => none
  | .eqp ng x y => match ev t G x, ev t G y with
    | .ptr k a, .ptr k' b => if k = k' ∧ a = b then some { x := .v (.bool (true != ng)) } else none
    | _, _ => none
  | .mm mx x y => match ev t G x, ev t G y with
    | .v a, .v b => (mmV mx a b).map fun z => { x := .v z }
    | _, _ => none
  | .not x => match ev t G x with
    | .v (.bool b) => some { x := .v (.bool !b) }
    | _ => none
  | .neg x => match ev t G x with
    | .v (.int k n) => some { x := .v (.int k (k.wrap (0 - n))) }
    | _ => none
  | .cvi k x => match ev t G x with
    | .v (.int _ n) => some { x := .v (.int k (k.wrap n)) }
    | _ => none
  | .b2s x => (elemsOf (ev t G x)).bind fun es => (numsOf es).map fun ns => { x := .v (.string ⟨(ns.map fun n => UInt8.ofNat n.toNat).toArray⟩) }
  | .mki ty x => (frz (ev t G x)).bind fun y => some { x := .iface ty y, seals := keys (ev t G x) }
  | .tas x ty ok z => match ev t G x with
    | .iface u y => if u = ty then some { x := bif ok then .tup [y, .v (.bool true)] else y } else if ok then some { x := .tup [z, .v (.bool false)] } else none
    | .v .nilIface => if ok then some { x := .tup [z, .v (.bool false)] } else none
    | _ => none
  | .mkf f caps => (capsOf G t g caps).bind fun q => some { x := .fn f q.1, seals := q.2 }
  | .fad x off => match ev t G x with
    | .ptr k o => some { x := .ptr k (o + off) }
    | .eptr k i o cs => if off ≤ cs.length then some { x := .eptr k i (o + off) (cs.drop off) } else none
    | .fptr cs => some { x := .fptr (cs.drop off) }
    | _ => none
  | .fld x off n ag => match ev t G x with
    | .agg cs => (pack ag n (cs.drop off)).map fun x => { x }
    | _ => none
  | .ias sz x i => match ev t G i with
    | .v (.int _ i) => match ev t G x with
      | .fsl es => if 0 ≤ i then match es[i.toNat]? with | some e => if e.length = sz then some { x := .fptr e } else none | none => none else none
      | .asl k es => if 0 ≤ i then match es[i.toNat]? with | some e => if e.length = sz then some { x := .eptr k i.toNat 0 e } else none | none => none else none
      | _ => none
    | _ => none
  | .iaa len sz x i => match ev t G i with
    | .v (.int _ i) => if 0 ≤ i ∧ i < (len : Int) then match ev t G x with
      | .ptr k o => some { x := .ptr k (o + i.toNat * sz) }
      | .fptr cs => some { x := .fptr (cs.drop (i.toNat * sz)) }
      | .eptr k e o cs => if i.toNat * sz ≤ cs.length then some { x := .eptr k e (o + i.toNat * sz) (cs.drop (i.toNat * sz)) } else none
      | _ => none else none
    | _ => none
  | .ixs x i => match ev t G x, ev t G i with
    | .v (.string s), .v (.int _ i) => if 0 ≤ i then match s[i.toNat]? with | some b => some { x := .v (.int .u8 b.toNat) } | none => none else none
    | _, _ => none
  | .ixa len n ag x i => match ev t G x, ev t G i with
    | .agg cs, .v (.int _ i) => if 0 ≤ i ∧ i < (len : Int) then (pack ag n (cs.drop (i.toNat * n))).map fun x => { x } else none
    | _, _ => none
  | .sls x lo hi => match ev t G x with
    | .v (.string s) => match (match hi with | none => some s.size | some h => bnd s.size (some (ev t G h))) with
      | some h => match (match lo with | none => some 0 | some l => bnd h (some (ev t G l))) with
        | some l => some { x := .v (.string (s.extract l h)) }
        | none => none
      | none => none
    | _ => none
  | .slc sz x lo hi => match elemsOf (ev t G x) with
    | some es => if lenOk sz es then match (match hi with | none => some es.length | some h => bnd es.length (some (ev t G h))) with
      | some h => match (match lo with | none => some 0 | some l => bnd h (some (ev t G l))) with
        | some l => some { x := .fsl ((es.take h).drop l), seals := keys1 (ev t G x) }
        | none => none
      | none => none
      else none
    | none => none
  | .slv sz x lo hi => match ev t G x with
    | .asl k es => if lenOk sz es = true ∧ 0 < es.length then match (match hi with | none => some es.length | some h => bnd es.length (some (ev t G h))) with
      | some h => match (match lo with | none => some 0 | some l => bnd h (some (ev t G l))) with
        | some l => some { x := .sub k l (h - l) }
        | none => none
      | none => none
      else none
    | _ => none
  | .ext x i => match ev t G x with
    | .tup vs => (vs[i]?).map fun x => { x }
    | _ => none
  | .len true x => match ev t G x with
    | .v (.string s) => some { x := .v (.int .i64 s.size) }
    | _ => none
  | .len false x => (elemsOf (ev t G x)).map fun es => { x := .v (.int .i64 es.length) }
  | .call o f args => (argsOf t G args).bind fun q => (call f q.1).bind fun r => let p := imp o d j r; some { x := p.1, new := p.2, seals := q.2 }
  | .cal o f args => match ev t G f with
    | .fn f caps => (argsOf t G args).bind fun q => (call f (q.1 ++ caps)).bind fun r => let p := imp o d j r; some { x := p.1, new := p.2, seals := q.2 }
    | _ => none
  | _ => none
def put1 (k : Key) (i off : Nat) (xs : List AV) : AV → AV
  | .asl k' es => if k' = k then match es[i]? with | some e => .asl k' (es.set i (splice e off xs)) | none => .undef else .asl k' es
  | .eptr k' i' o cs => if k' = k then .undef else .eptr k' i' o cs
  | x => x
def putA (k : Key) (i off : Nat) (xs : List AV) : AV → AV
  | .agg cs => .agg (cs.map (put1 k i off xs))
  | x => put1 k i off xs x
def putT (k : Key) (i off : Nat) (xs : List AV) : AV → AV
  | .tup vs => .tup (vs.map (putA k i off xs))
  | x => putA k i off xs x
def putO (k : Key) (i off : Nat) (xs : List AV) : Ob → Ob
  | .var cs s => .var (cs.map (put1 k i off xs)) s
  | x => x
def St.put (σ : St) (d : Option Nat) (x : AV) : St := { σ with t := match d with | some d => σ.t.set d x | none => σ.t }
def St.app (σ : St) (d : Option Nat) (r : R) : St := { t := match d with | some d => σ.t.set d r.x | none => σ.t, o := sealO (σ.o ++ r.new) r.seals }
def srcOf (str : Bool) (sz : Nat) (y : AV) : Option (List (List AV)) := bif str then (match y with | .v (.string s) => if sz = 1 then some (s.toList.map fun (b : UInt8) => [AV.v (.int .u8 (b.toNat : Int))]) else none | _ => none) else elemsOf y
def mapO (f : AV → AV) : Ob → Ob
  | .var cs s => .var (cs.map f) s
  | x => x
def mapA (f : AV → AV) : AV → AV
  | .agg cs => .agg (cs.map f)
  | x => f x
def mapT (f : AV → AV) : AV → AV
  | .tup vs => .tup (vs.map (mapA f))
  | x => mapA f x
def subF (k : Key) : AV → AV
  | .asl k' es => if k' = k then .undef else .asl k' es
  | .eptr k' i o cs => if k' = k then .undef else .eptr k' i o cs
  | .sub k' l n => if k' = k then .undef else .sub k' l n
  | x => x
def cutV (o : List (Key × Ob)) (sz : Sz) (bytes : Nat) (s x y : AV) : Option ((AV → AV) × AV × List (Key × Ob)) := match s, x, y with
  | .asl k es, .sub k1 l1 m1, .sub k2 l2 m2 => match getO o k with
    | some (.tail n z true false) => if k1 = k ∧ k2 = k ∧ l1 = 0 ∧ z = sz ∧ n = es.length ∧ m1 + m2 < n ∧ l2 + m2 ≤ n ∧ lenOk sz es = true ∧ n * bytes ≤ 70368744177664 then some (mapT (subF k), .asl k (es.take m1 ++ (es.drop l2).take m2), setO (o.map fun p => (p.1, mapO (subF k) p.2)) k (.tail n sz false false)) else none
    | _ => none
  | _, _, _ => none
def denM (G : Nat → AV) (σ : St) (d : Option Nat) : COp → Option St
  | .cut sz bytes s x y => match d with
    | none => none
    | some d => (cutV σ.o sz bytes (ev σ.t G s) (ev σ.t G x) (ev σ.t G y)).map fun r => ⟨(σ.t.map r.1).set d r.2.1, r.2.2⟩
  | .st n a x => match ev σ.t G a with
    | .ptr k off => match getO σ.o k with
      | some (.var cs false) => let xs := cellsOf (ev σ.t G x); if xs.length = n ∧ off + n ≤ cs.length ∧ solid (ev σ.t G x) = true then some (St.put { σ with o := setO σ.o k (.var (splice cs off xs) false) } d (.tup [])) else none
      | _ => none
    | .eptr k i off cs => match getO σ.o k with
      | some (.tail _ _ true _) => (frz (ev σ.t G x)).bind fun y => let xs := cellsOf y; if xs.length = n ∧ n ≤ cs.length ∧ (keys (ev σ.t G x)).contains k = false then
          some (St.put { t := σ.t.map (putT k i off xs), o := sealO (σ.o.map fun p => (p.1, putO k i off xs p.2)) (keys (ev σ.t G x)) } d (.tup [])) else none
      | _ => none
    | _ => none
  | .app str sz bytes x y => match d with
    | none => none
    | some d => (srcOf str sz (ev σ.t G y)).bind fun ys =>
      match ev σ.t G x with
      | .asl k es => match getO σ.o k with
        | some (.tail n s _ shr) => if n = es.length ∧ s = sz ∧ (es.length + ys.length) * bytes ≤ 70368744177664 ∧ lenOk sz ys = true then
            some { t := σ.t.set d (.asl k (es ++ ys)), o := setO σ.o k (.tail (n + ys.length) s false shr) } else none
        | _ => none
      | .nilsl => if ys.length * bytes ≤ 70368744177664 ∧ lenOk sz ys = true ∧ getO σ.o (d, countO d σ.o) = none then
            some { t := σ.t.set d (.asl (d, countO d σ.o) ys), o := σ.o ++ [((d, countO d σ.o), Ob.tail ys.length sz false false)] } else none
      | _ => none
  | _ => none
def isX : COp → Bool
  | .st _ _ _ | .app _ _ _ _ _ | .lend _ _ _ | .apd _ _ _ _ _ _ | .cut _ _ _ _ _ => false
  | _ => true
def freshO (o : List (Key × Ob)) : List (Key × Ob) → Bool
  | [] => true
  | (k, x) :: l => (getO o k).isNone && freshO (o ++ [(k, x)]) l
def allKeys (l : List AV) : List Key := l.flatMap keys
def exp1 (o : List (Key × Ob)) (ks : List Key) : AV → Option AV
  | .asl k es => match getO o k with
    | some (.tail n sz _ shr) => some (if n = es.length ∧ ks.count k = 1 then .own sz (!shr) es else .fsl es)
    | _ => none
  | x => frz1 x
def expL (o : List (Key × Ob)) (ks : List Key) : List AV → Option (List AV)
  | [] => some []
  | x :: l => (exp1 o ks x).bind fun y => (expL o ks l).bind fun m => some (y :: m)
def expA (o : List (Key × Ob)) (ks : List Key) : AV → Option AV
  | .agg cs => (expL o ks cs).map AV.agg
  | x => exp1 o ks x
def expT (o : List (Key × Ob)) (ks : List Key) : List AV → Option (List AV)
  | [] => some []
  | x :: l => (expA o ks x).bind fun y => (expT o ks l).bind fun m => some (y :: m)
def live1 : AV → Bool
  | .ptr _ _ => true
  | _ => false
def ptrs1 : AV → List Key
  | .ptr k _ => [k]
  | _ => []
def reach (g : Key → Option Ob) : Nat → List Key → List Key → Option (List Key)
  | 0, _, _ => none
  | _ + 1, [], acc => some acc
  | n + 1, k :: l, acc => if acc.contains k then reach g n l acc else match g k with
    | some (.var cs false) => reach g n (l ++ cs.flatMap ptrs1) (acc ++ [k])
    | _ => none
def inR : List Key → Nat → Key → Option Key
  | [], _, _ => none
  | k :: l, i, k' => if k = k' then some (1000001, i) else inR l (i + 1) k'
def outR (who : List Key) (k : Key) : Key := if k.1 = 1000001 then who.getD k.2 k else k
def ren1 (ρ : Key → Key) : AV → AV
  | .ptr k off => .ptr (ρ k) off
  | x => x
def exp1R (ρ : Key → Option Key) (o : List (Key × Ob)) (ks : List Key) : AV → Option AV
  | .ptr k off => (ρ k).map fun k' => .ptr k' off
  | .bnil T => some (.bnil T)
  | x => exp1 o ks x
def expLR (ρ : Key → Option Key) (o : List (Key × Ob)) (ks : List Key) : List AV → Option (List AV)
  | [] => some []
  | x :: l => (exp1R ρ o ks x).bind fun y => (expLR ρ o ks l).bind fun m => some (y :: m)
def expAR (ρ : Key → Option Key) (o : List (Key × Ob)) (ks : List Key) : AV → Option AV
  | .agg cs => (expLR ρ o ks cs).map AV.agg
  | x => exp1R ρ o ks x
def expTR (ρ : Key → Option Key) (o : List (Key × Ob)) (ks : List Key) : List AV → Option (List AV)
  | [] => some []
  | x :: l => (expAR ρ o ks x).bind fun y => (expTR ρ o ks l).bind fun m => some (y :: m)
def lendV : Nat → List AV → List (Key × Ob)
  | _, [] => []
  | i, .agg cs :: l => ((1000001, i), .var cs false) :: lendV (i + 1) l
  | i, _ :: l => lendV (i + 1) l
def lendIn (ls : List AV) : List (Key × Ob) := lendV 0 (impT 1000000 0 ls).1 ++ (impT 1000000 0 ls).2
def lendBk (d j m : Nat) (l : List AV) : List (Key × Ob) := lendV 0 ((impT d j l).1.drop m) ++ (impT d j l).2
def isAgg1 : AV → Bool
  | .agg _ => true
  | _ => false
section
variable (t : List AV) (G : Nat → AV)
def lendKs : List Bool → List CX → List Key
  | _, [] => []
  | fs, x :: l => (bif fs.headD false || live1 (ev t G x) then [] else keys (ev t G x)) ++ lendKs fs.tail l
def lendPs : List Bool → List CX → List Key
  | _, [] => []
  | fs, x :: l => (bif fs.headD false then [] else ptrs1 (ev t G x)) ++ lendPs fs.tail l
def lendSs : List Bool → List CX → List AV
  | _, [] => []
  | fs, x :: l => (bif fs.headD false then [ev t G x] else []) ++ lendSs fs.tail l
def lendMk (who : List Key) (ls : List AV) : Nat → List Bool → List CX → Option (List AV)
  | _, _, [] => some []
  | j, fs, x :: l => bif fs.headD false then (match ls[j]? with
      | some y => (lendMk who ls (j + 1) fs.tail l).map fun q => (impA 1000000 (100 * j) y).1 :: q
      | none => none)
    else match ev t G x with
      | .ptr k off => (inR who 0 k).bind fun k' => (lendMk who ls j fs.tail l).map fun q => .ptr k' off :: q
      | y => (frz y).bind fun y => (lendMk who ls j fs.tail l).map fun q => y :: q
end
def lendCs (o : List (Key × Ob)) : List Key → Option (List AV)
  | [] => some []
  | k :: l => match getO o k with
    | some (.var cs false) => (lendCs o l).map fun m => .agg cs :: m
    | _ => none
def lendOk (o : List (Key × Ob)) (ss : List AV) : Bool := ss.all fun s => match s with
  | .asl k es => match getO o k with
    | some (.tail n _ _ _) => n == es.length
    | _ => false
  | _ => false
def lendSl : List AV → List AV → Key → Option (Nat × AV)
  | .asl k es :: ss, y :: ys, k' => if k = k' then some (es.length, y) else lendSl ss ys k'
  | _ :: ss, _ :: ys, k' => lendSl ss ys k'
  | _, _, _ => none
def isB : AV → Bool
  | .bnil _ => true
  | _ => false
def isSub : AV → Bool
  | .sub _ _ _ => true
  | _ => false
def lendF (drops : List Key) (sl : Key → Option (Nat × AV)) : AV → AV
  | .asl k es => if drops.contains k then (match sl k with
    | some (n, y) => if es.length = n ∧ atom y = true ∧ isB y = false then y else .undef
    | none => .undef) else .asl k es
  | .eptr k i off cs => if drops.contains k then .undef else .eptr k i off cs
  | .sub k l n => if drops.contains k then .undef else .sub k l n
  | x => x
def lendSet (o : List (Key × Ob)) : List Key → List AV → List (Key × Ob)
  | k :: who, .agg cs :: l => lendSet (setO o k (.var cs false)) who l
  | _, _ => o
def denL (call : Call) (G : Nat → AV) (σ : St) : Option Nat → COp → Option St
  | some d, .lend f fs args =>
    let o := sealO σ.o (lendKs σ.t G fs args)
    (reach (getO o) 64 (lendPs σ.t G fs args) []).bind fun who => (lendCs o who).bind fun cs =>
    let ss := lendSs σ.t G fs args
    let rs := cs ++ ss
    let K := allKeys rs
    (expTR (inR who 0) o K rs).bind fun ls => (lendMk σ.t G who ls who.length fs args).bind fun as => (call f (.tup ls :: as)).bind fun r => match r with
    | .tup l =>
      let m := l.length - rs.length
      let p := impT d (countO d o) l
      let bk := p.1.map (mapA (ren1 (outR who)))
      let φ := lendF K (lendSl ss (bk.drop (m + who.length)))
      let o' := lendSet ((o.filter fun x => !K.contains x.1).map fun x => (x.1, mapO φ x.2)) who (bk.drop m)
      if rs.length ≤ l.length ∧ lendOk o ss = true ∧ who.Nodup ∧ d < 1000000 ∧ (rs.all fun r => decide ((cellsOf r).length ≤ 100)) = true ∧ (bk.drop m).length = rs.length ∧ ((bk.drop m).take who.length).all isAgg1 = true ∧ freshO o' p.2 = true then
        some { t := (σ.t.map (mapT φ)).set d (match bk.take m with | [x] => x | xs => .tup xs), o := o' ++ p.2 }
      else none
    | _ => none
  | _, _ => none
def isL : COp → Bool
  | .lend _ _ _ => true
  | _ => false
def denO (call : Call) (G : Nat → AV) (σ : St) (op : COp) (d : Option Nat) : Option St :=
  if isX op then (denX call G σ.t (getO σ.o) (d.getD 0) (countO (d.getD 0) σ.o) op).bind fun r => if (d.isSome || r.new.isEmpty) && freshO σ.o r.new then some (σ.app d r) else none
  else if isL op then denL call G σ d op else denM G σ d op
def wants (t : List AV) : Option (Nat × Bool) → Option Bool
  | none => some true
  | some (i, b) => match t.getD i .undef with
    | .v (.bool c) => some (c == b)
    | .tup [] => some false
    | _ => none
def den1 (call : Call) (G : Nat → AV) (σ : St) (o : CO) : Option St :=
  (wants σ.t o.guard).bind fun w => bif w then denO call G σ o.op o.dst else some (σ.put o.dst (.tup []))
def denOs (call : Call) (G : Nat → AV) : List CO → St → Option St
  | [], σ => some σ
  | o :: l, σ => (den1 call G σ o).bind fun σ' => denOs call G l σ'
structure PD where
  d : Nat
  v : AV
  new : List (Key × Ob)
  seals : List Key
  upd : Option (Key × Nat)
def denP1 (call : Call) (G : Nat → AV) (o : List (Key × Ob)) (t : List AV) (c : CO) : Option PD :=
  match c.dst with
  | none => none
  | some d => (wants t c.guard).bind fun w => bif w then (if isX c.op then (denX call G t (getO o) d (countO d o) c.op).bind fun r => if freshO o r.new && r.new.all (fun p => p.1.1 == d) then some ⟨d, r.x, r.new, r.seals, none⟩ else none else none) else some ⟨d, .tup [], [], [], none⟩
def setLen (n : Nat) : Ob → Ob
  | .tail _ s _ shr => .tail n s false shr
  | x => x
def setLenO (o : List (Key × Ob)) (k : Key) (n : Nat) : List (Key × Ob) := o.map fun x => (x.1, if x.1 = k then setLen n x.2 else x.2)
def setLens (o : List (Key × Ob)) : List (Key × Nat) → List (Key × Ob)
  | [] => o
  | p :: l => setLenO (setLens o l) p.1 p.2
def lenOf : List (Key × Nat) → Key → Option Nat
  | [], _ => none
  | p :: l, k => if p.1 = k then some p.2 else lenOf l k
def denA (G : Nat → AV) (acc : List (Key × Ob)) (lens : List (Key × Nat)) (t : List AV) (c : CO) : Option PD :=
  match c.dst, c.op with
  | some d, .apd h str sz bytes x y => (wants t c.guard).bind fun w => bif w then (srcOf str sz (ev t G y)).bind fun ys => match ev t G x with
      | .asl k es => match getO acc k with
        | some (.tail n s _ _) => if k.1 = h ∧ (lenOf lens k).getD n = es.length ∧ s = sz ∧ (es.length + ys.length) * bytes ≤ 70368744177664 ∧ lenOk sz ys = true then some ⟨d, .asl k (es ++ ys), [], [], some (k, es.length + ys.length)⟩ else none
        | _ => none
      | _ => none
    else some ⟨d, .tup [], [], [], none⟩
  | _, _ => none
def isA : COp → Bool
  | .apd _ _ _ _ _ _ => true
  | _ => false
def denPA (call : Call) (G : Nat → AV) (o acc : List (Key × Ob)) (lens : List (Key × Nat)) (t : List AV) (c : CO) : Option PD := bif isA c.op then denA G acc lens t c else denP1 call G o t c
def denPs (call : Call) (G : Nat → AV) (o : List (Key × Ob)) : List CO → List AV → List (Key × Ob) → List (Key × Nat) → Option (List PD)
  | [], _, _, _ => some []
  | c :: l, t, acc, lens => (denPA call G o acc lens t c).bind fun p => (denPs call G o l (t.set p.d p.v) (acc ++ p.new) (p.upd.toList ++ lens)).bind fun D => some (p :: D)
def lensOf : List PD → List (Key × Nat) → List (Key × Nat)
  | [], acc => acc
  | p :: D, acc => lensOf D (p.upd.toList ++ acc)
def St.pds (σ : St) (D : List PD) : St := { t := D.foldl (fun t p => t.set p.d p.v) σ.t, o := setLens (sealO (σ.o ++ D.flatMap (·.new)) (D.flatMap (·.seals))) (lensOf D []) }
inductive XE where
  | normal | exit (id : Nat) | ret
instance : DecidableEq XE
  | .normal, .normal => isTrue rfl
  | .ret, .ret => isTrue rfl
  | .exit a, .exit b => if h : a = b then isTrue (by rw [h]) else isFalse (by intro e; cases e; exact h rfl)
  | .normal, .ret | .ret, .normal | .normal, .exit _ | .exit _, .normal | .ret, .exit _ | .exit _, .ret => isFalse (by intro e; cases e)
def inK (keep : List Nat) (n : Nat) : Bool := keep.contains n || decide (1000000 ≤ n)
def ok1 (keep : List Nat) : AV → Bool
  | .asl k _ | .ptr k _ | .eptr k _ _ _ | .mp k | .it k | .sub k _ _ => inK keep k.1
  | .own _ _ _ => false
  | _ => true
def okA (keep : List Nat) : AV → Bool
  | .agg cs => cs.all (ok1 keep)
  | x => ok1 keep x
def okT (keep : List Nat) : AV → Bool
  | .tup vs => vs.all (okA keep)
  | x => okA keep x
def maskT (keep : List Nat) : Nat → List AV → List AV
  | _, [] => []
  | i, x :: l => (if keep.contains i && okT keep x then x else .undef) :: maskT keep (i + 1) l
def maskO (keep : List Nat) : List (Key × Ob) → List (Key × Ob)
  | [] => []
  | (k, x) :: l => if inK keep k.1 = true then (k, match x with | .var cs s => .var (cs.map fun c => if ok1 keep c then c else .undef) s | x => x) :: maskO keep l else maskO keep l
def St.mask (keep : List Nat) (σ : St) : St := { t := maskT keep 0 σ.t, o := maskO keep σ.o }
def denC (call : Call) (G : Nat → AV) (n : Nat) : CC → St → Option (XE × St)
  | .skip, σ => some (.normal, σ)
  | .reg pre suf, σ => (denPs call G σ.o pre σ.t [] []).bind fun D => (denOs call G suf (σ.pds D)).bind fun σ' => some (.normal, σ')
  | .seq a b, σ => (denC call G n a σ).bind fun p => match p with
    | (.normal, σ') => denC call G n b σ'
    | p => some p
  | .cond c a b, σ => match ev σ.t G c with
    | .v (.bool c) => if c = true then denC call G n a σ else denC call G n b σ
    | _ => none
  | .block id a, σ => (denC call G n a σ).bind fun p => match p with
    | (.exit i, σ') => if i = id then some (.normal, σ') else some (.exit i, σ')
    | p => some p
  | .loop keep a, σ => rounds keep (denC call G n a) n σ
  | .exit id, σ => some (.exit id, σ)
  | .ret, σ => some (.ret, σ)
  | .bad, _ => none
  where rounds (keep : List Nat) (f : St → Option (XE × St)) : Nat → St → Option (XE × St)
  | 0, _ => none
  | m + 1, σ => (f (σ.mask keep)).bind fun p => match p with
    | (.normal, σ') => rounds keep f m σ'
    | p => some p
inductive CR where
  | t (i : Nat)
  | cell (a : Nat) (g : Bool) (n : Nat)
instance : Inhabited CR := ⟨.t 0⟩
def getR (σ : St) : CR → Option AV
  | .t i => some (σ.t.getD i .undef)
  | .cell a ag n => match σ.t.getD a .undef with
    | .ptr k off => match getO σ.o k with
      | some (.var cs _) => pack ag n (cs.drop off)
      | _ => none
    | _ => none
def getRs (σ : St) : List CR → Option (List AV)
  | [] => some []
  | r :: l => (getR σ r).bind fun x => (getRs σ l).bind fun m => some (x :: m)
structure CF where
  nargs : Nat
  ntmps : Nat
  code : CC
  res : List CR
def outF (σ : St) (rs : List AV) : Option AV :=
  if rs.all (fun r => decide ((cellsOf r).length ≤ 100)) then (expT σ.o (allKeys rs) rs).bind fun l => match l with
    | [x] => some x
    | l => some (.tup l)
  else none
def denF (call : Call) (G : Nat → AV) (n : Nat) (f : CF) (args : List AV) : Option AV :=
  if args.length = f.nargs then
    (denC call G n f.code { t := args ++ List.replicate (f.ntmps - args.length) .undef, o := [] }).bind fun p => match p with
      | (.exit _, _) => none
      | (_, σ) => (getRs σ f.res).bind fun rs => outF σ rs
  else none
def lent : AV → Bool
  | .tup _ => true
  | _ => false
def lendOut (o : List (Key × Ob)) : Nat → List AV → Option (List AV)
  | _, [] => some []
  | i, .agg _ :: l => match getO o (1000001, i) with
      | some (.var cs false) => (lendOut o (i + 1) l).map fun m => .agg cs :: m
      | _ => none
  | _, _ :: _ => none
def keepR (n : Nat) (k : Key) : Option Key := if k.1 = 1000001 ∧ k.2 < n then some k else none
def outB (σ : St) (ls rs : List AV) : Option AV :=
  if rs.all (fun r => decide ((cellsOf r).length ≤ 100)) then (expTR (keepR ls.length) σ.o (allKeys rs) rs).map AV.tup else none
def denB (call : Call) (G : Nat → AV) (n : Nat) (f : CF) : List AV → Option AV
  | .tup ls :: as =>
    if as.length = f.nargs then
      (denC call G n f.code { t := as ++ List.replicate (f.ntmps - as.length) .undef, o := lendIn ls }).bind fun p => match p with
        | (.exit _, _) => none
        | (_, σ) => (getRs σ f.res).bind fun rs => (lendOut σ.o 0 ls).bind fun bs => outB σ ls (rs ++ bs)
    else none
  | _ => none
def headL : List AV → Bool
  | .tup _ :: _ => true
  | _ => false
def denFB (call : Call) (G : Nat → AV) (n : Nat) (f : CF) (args : List AV) : Option AV := bif headL args then denB call G n f args else denF call G n f args
end Go.Proofs.YtmhdapjmndfkgaaGreatDoor.Eng
namespace Go.Proofs.YtmhdapjmndfkgaaGreatDoor.Eng
open Go
def cX : Operand → CX
  | .tmp t => .t t
  | .const x => .c (ofVal x)
  | .global g => .g g
  | .func f => .c (.fn f [])
section
variable (P : Program)
def szT (t : TypeId) : Option Nat := (P.info? t).map (·.size)
def bytesT (t : TypeId) : Option Nat := (P.info? t).map (·.bytes)
def aggT (t : TypeId) : Option Bool := (P.underlying t).map fun | .struct _ | .array _ _ => true | _ => false
def zeroT (t : TypeId) : Option (List AV) := ((P.info? t).bind (·.zero)).bind fun v => if v.cells.toList.all Value.oneCell then some (v.cells.toList.map ofCell) else none
def zeroF (t : TypeId) : Option (List AV) := (zeroT P t).bind frzL
def szG (own : Nat → Bool) (t : TypeId) : Option Sz := (szT P t).map fun n => ⟨n, bif own (10000000 + t) then some t else none⟩
def sizesT (own : Nat → Bool) : Nat → TypeId → List Sz
  | 0, _ => []
  | n + 1, t => match P.underlying t with
    | some (.slice e) => [(szG P own e).getD 0]
    | some (.struct fs) => fs.toList.flatMap fun f => sizesT own n f.type
    | some (.array k e) => (List.replicate k (sizesT own n e)).flatten
    | _ => [0]
def eqRow (g : TypeId → Option (List Nat)) : Nat → List Field → Option (List Nat)
  | _, [] => some []
  | off, f :: fs => (g f.type).bind fun ks => (aggT P f.type).bind fun ag => if f.name ≠ "_" ∧ f.offset = off ∧ szT P f.type = some ks.length ∧ (ag = true ∨ ks.length = 1) then (eqRow g (off + ks.length) fs).map fun m => ks ++ m else none
def eqKinds : Nat → TypeId → Option (List Nat)
  | 0, _ => none
  | n + 1, t => match P.underlying t with
    | some (.int _) => some [0]
    | some .bool => some [1]
    | some .string => some [2]
    | some (.struct fs) => if P.stoodInHeld t then none else eqRow P (eqKinds n) 0 fs.toList
    | _ => none
def cBin (op : BinOp) (t : TypeId) (x y : Operand) : Option COp :=
  match P.underlying t with
  | some (.int _) | some .string => some (.bin op (cX x) (cX y))
  | some .bool => match op with
    | .eql => some (.eqb false (cX x) (cX y))
    | .neq => some (.eqb true (cX x) (cX y))
    | _ => none
  | some (.slice _) => match op, y with
    | .eql, .const (.slice none _ _) => some (.eqn 0 false (cX x))
    | .neq, .const (.slice none _ _) => some (.eqn 0 true (cX x))
    | _, _ => none
  | some (.func _ _ _) => match op, y with
    | .eql, .const .nilFunc => some (.eqn 1 false (cX x))
    | .neq, .const .nilFunc => some (.eqn 1 true (cX x))
    | _, _ => none
  | some (.pointer pe) => match op, y with
    | .eql, .const (.pointer none) => some (.eqn 2 false (cX x))
    | .neq, .const (.pointer none) => some (.eqn 2 true (cX x))
    | .eql, _ => (szT P pe).map fun _ => .eqp false (cX x) (cX y)
    | .neq, _ => (szT P pe).map fun _ => .eqp true (cX x) (cX y)
    | _, _ => none
  | some (.struct _) => if P.eqGuardType P.depth t then none else match op with
    | .eql => (eqKinds P 20 t).map fun ks => .eqs false ks (cX x) (cX y)
    | .neq => (eqKinds P 20 t).map fun ks => .eqs true ks (cX x) (cX y)
    | _ => none
  | _ => none
def cParts (f : Nat → Option (Nat × Nat)) : List (Nat × Operand) → Option (List (Nat × Nat × CX))
  | [] => some []
  | (i, x) :: l => (f i).bind fun p => (cParts f l).bind fun m => some ((p.1, p.2, cX x) :: m)
def cBuild (t : TypeId) (ps : List (Nat × Operand)) : Option COp :=
  (zeroT P t).bind fun z => match P.underlying t with
    | some (.struct fs) => (fs.toList.mapM fun f => (P.info? f.type).map fun i => (f.offset, i.size)).bind fun pl => (cParts (fun i => pl[i]?) ps).map (.build z)
    | some (.array _ e) => (szT P e).bind fun s => (cParts (fun i => some (i * s, s)) ps).map (.build z)
    | _ => none
def cSlice (v : Bool) (t : TypeId) (x : Operand) (lo hi mx : Option Operand) : Option COp :=
  match mx with
  | some _ => none
  | none => match P.underlying t with
    | some .string => some (.sls (cX x) (lo.map cX) (hi.map cX))
    | some (.slice e) => if v = true then (szT P e).map fun s => .slv s (cX x) (lo.map cX) (hi.map cX) else (szT P e).map fun s => .slc s (cX x) (lo.map cX) (hi.map cX)
    | _ => none
def cXn (b : Bool) : Operand → CX
  | .const (.slice none 0 0) => bif b then .c (.v (.slice none 0 0)) else .c .nilsl
  | x => cX x
def cutS (own : Nat → Bool) (d : Nat) : Nat := ((List.range 1000).find? fun q => own (5000000 + 1000 * d + q)).getD 0
def bset (own : Nat → Bool) (u : TypeId) : List TypeId := (List.range 1000).filter fun T => own (9000000 + T) && liesAt P P.depth T (2 / P.cellsOf T) 0 u 1
def cNes (f : FuncId) (c : Go.Call) : Option COp := match P.funcs[f]? with
  | some fn => if fn.name = "internal/abi.NoEscape" ∧ fn.origin = "" ∧ fn.body.isNone = true then (match c.args.toList with | [x] => some (.mv (cX x)) | _ => none) else none
  | none => none
def cCall (own : Nat → Bool) (d : Option Tmp) (c : Go.Call) : Option COp :=
  match c.callee with
  | .value (.func f) => if own (8000000 + d.getD 0) = true then cNes P f c else if own (1000099 + 100 * d.getD 0) then some (.lend f ((List.range c.args.size).map fun i => own (1000000 + 100 * d.getD 0 + i)) (c.args.toList.map cX)) else some (.call (own (d.getD 0)) f (c.args.toList.map (cXn (own (3000000 + d.getD 0)))))
  | .value x => some (.cal (own (d.getD 0)) (cX x) (c.args.toList.map cX))
  | .builtin .len => match c.args.toList, (c.argTypes[0]?).bind P.underlying with
    | [x], some .string => some (.len true (cX x))
    | [x], some (.slice _) => some (.len false (cX x))
    | _, _ => none
  | .builtin .append => match c.args.toList, c.argTypes.toList with
    | [x, y], [t, tx] => match P.underlying t with
      | some (.slice e) => (szG P own e).bind fun s => (bytesT P e).bind fun b => (zeroT P e).bind fun z => if z.length = s.n ∧ 0 < s.n ∧ 0 < b then (match P.underlying tx with | some (.slice _) => if own (4000000 + d.getD 0) = true then some (.cut s b (.t (cutS own (d.getD 0))) (cX x) (cX y)) else some (.app false s b (cX x) (cX y)) | some .string => some (.app true s b (cX x) (cX y)) | _ => none) else none
      | _ => none
    | _, _ => none
  | .builtin .min => match c.args.toList with
    | [x, y] => some (.mm false (cX x) (cX y))
    | _ => none
  | .builtin .max => match c.args.toList with
    | [x, y] => some (.mm true (cX x) (cX y))
    | _ => none
  | _ => none
def cOp (own : Nat → Bool) (o : Oper) : Option COp :=
  match o.op with
  | .move x => some (.mv (cX x))
  | .assign x => match x with
    | .const (.slice none 0 0) => match P.underlying o.type with
      | some (.slice e) => (szG P own e).map .nil
      | _ => none
    | x => some (.mv (cX x))
  | .pick c a b => some (.pick (cX c) (cX a) (cX b))
  | .alloc t => (zeroT P t).map fun z => .alloc (bif own (7000000 + o.dst.getD 0) then tagB t z else z) (sizesT P own 20 t)
  | .box t x => (szT P t).map fun n => .box n (sizesT P own 20 t) (cX x)
  | .build t ps => cBuild P t ps.toList
  | .buildSlice t n ps => match P.underlying t with
    | some (.slice e) => (szT P e).bind fun s => (if n = 0 then some [] else zeroF P e).bind fun z => if n * s ≤ 16777216 ∧ 0 < s ∧ (n = 0 ∨ z.length = s) then some (.bsl n (.of s) z (ps.toList.map fun p => (p.1, cX p.2))) else none
    | _ => none
  | .load t a => (aggT P t).bind fun g => (szT P t).bind fun n => if g || n == 1 then some (.ld g n (cX a)) else none
  | .store t a x => (szT P t).map fun n => .st n (cX a) (cX x)
  | .nilCheck x => some (.nck (cX x))
  | .binOp op t x y _ => cBin P op t x y
  | .unOp .not _ x => some (.not (cX x))
  | .unOp .neg _ x => some (.neg (cX x))
  | .convert src dst x => match P.underlying src, P.underlying dst with
    | some (.int _), some (.int k) => some (.cvi k (cX x))
    | some (.slice e), some .string => (match P.underlying e with
      | some (.int .u8) => some (.b2s (cX x))
      | _ => none)
    | some (.pointer u), some .unsafePointer => (szT P u).bind fun n => if n = 0 then none else some (.cvu (bset P own u) (cX x))
    | some .unsafePointer, some (.pointer u) => (szT P u).map fun _ => .cvu (bset P own u) (cX x)
    | _, _ => none
  | .makeInterface t x => match P.underlying t with
    | some (.interface _) | none => none
    | _ => some (.mki t (cX x))
  | .typeAssert x _ t ok => match P.underlying t with
    | some (.interface _) | none => none
    | _ => ((P.info? t).bind (·.zero)).map fun z => .tas (cX x) t ok (ofVal z)
  | .makeFunc (.func f) first caps => if first.isEmpty then some (.mkf f (caps.toList.map cX)) else none
  | .makeSlice t n c => match P.underlying t with
    | some (.slice e) => (szT P e).bind fun s => (bytesT P e).bind fun b => (zeroF P e).bind fun z => if z.length = s ∧ 0 < s ∧ 0 < b then some (.mks (.of s) b z (cX n) (cX c)) else none
    | _ => none
  | .slice t x lo hi mx => cSlice P (own (4000000 + o.dst.getD 0)) t x lo hi mx
  | .fieldAddr s x f => match P.underlying s with
    | some (.struct fs) => (fs[f]?).bind fun f => (szT P f.type).bind fun n => if n = 0 then none else some (.fad (cX x) f.offset)
    | _ => none
  | .field s x f => match P.underlying s with
    | some (.struct fs) => (fs[f]?).bind fun f => (aggT P f.type).bind fun g => (szT P f.type).bind fun n => if g || n == 1 then some (.fld (cX x) f.offset n g) else none
    | _ => none
  | .indexAddr t x i => match P.underlying t with
    | some (.slice e) => (szT P e).map fun s => .ias s (cX x) (cX i)
    | some (.array n e) => (szT P e).map fun s => .iaa n s (cX x) (cX i)
    | _ => none
  | .index t x i => match P.underlying t with
    | some .string => some (.ixs (cX x) (cX i))
    | some (.array n e) => (aggT P e).bind fun g => (szT P e).bind fun s => if g || s == 1 then some (.ixa n s g (cX x) (cX i)) else none
    | _ => none
  | .extract x i => some (.ext (cX x) i)
  | .call c => cCall P own o.dst c
  | _ => none
def gslot (ops : Array Oper) : Option (Nat × Bool) → Option (Option (Nat × Bool))
  | none => some none
  | some (j, b) => match (ops[j]?).bind (·.dst) with
    | some t => some (some (t, b))
    | none => none
def cOs (own : Nat → Bool) (ops : Array Oper) : List Oper → Option (List CO)
  | [] => some []
  | o :: l => (gslot ops o.guard).bind fun g => (cOs own ops l).bind fun m => some ({ dst := o.dst, guard := g, op := (cOp P own o).getD .bad } :: m)
end
def waits (o : Oper) (i : Nat) : Bool := o.after.any fun e => Region.binds .any e && e.on == i
def masks : List Oper → List Nat → List Nat
  | [], acc => acc
  | o :: l, acc => masks l (acc ++ [o.after.foldl (fun s e => bif Region.binds .any e && decide (e.on < acc.length) then s ||| (2 ^ e.on ||| acc.getD e.on 0) else s) 0])
def barred (ms : List Nat) (m : Nat) : Bool := (List.range ms.length).all fun j => decide (j < m) || (List.range j).all fun i => (ms.getD j 0).testBit i
def leastM (ms : List Nat) : Nat → Nat → Nat
  | 0, m => m
  | n + 1, m => if barred ms m then m else leastM ms n (m + 1)
def xs1 : CX → List Nat
  | .t i => [i]
  | _ => []
def usesOp : COp → List Nat
  | .mv x | .box _ _ x | .ld _ _ x | .nck x | .eqn _ _ x | .not x | .neg x | .cvi _ x | .b2s x | .mki _ x | .tas x _ _ _ | .fad x _ | .fld x _ _ _ | .ext x _ | .len _ x | .cvu _ x => xs1 x
  | .nil _ | .alloc _ _ => []
  | .pick c a b => xs1 c ++ xs1 a ++ xs1 b
  | .build _ ps => ps.flatMap fun p => xs1 p.2.2
  | .bsl _ _ _ ps => ps.flatMap fun p => xs1 p.2
  | .bad => []
  | .mm _ x y | .eqp _ x y => xs1 x ++ xs1 y
  | .mks _ _ _ x y | .st _ x y | .bin _ x y | .eqb _ x y | .eqs _ _ x y | .ias _ x y | .iaa _ _ x y | .ixs x y | .ixa _ _ _ x y | .app _ _ _ x y | .apd _ _ _ _ x y => xs1 x ++ xs1 y
  | .cut _ _ s x y => xs1 s ++ xs1 x ++ xs1 y
  | .mkf _ l | .call _ _ l | .lend _ _ l => l.flatMap xs1
  | .cal _ f l => xs1 f ++ l.flatMap xs1
  | .sls x a b | .slc _ x a b | .slv _ x a b => xs1 x ++ (a.map xs1).getD [] ++ (b.map xs1).getD []
def usesO (c : CO) : List Nat := usesOp c.op ++ (match c.guard with | some (t, _) => [t] | none => [])
def preOk (l : List CO) (ms : List Nat) (m : Nat) : Bool :=
  decide (m ≤ l.length) && (List.range m).all fun j => match (l[j]?).bind (·.dst) with
    | none => false
    | some d => (List.range m).all fun i => i == j || match l[i]? with
      | none => false
      | some c => c.dst != some d && (!(usesO c).contains d || (decide (j < i) && (ms.getD i 0).testBit j))
def headOf (l : List CO) : Nat → Nat → Nat
  | 0, s => s
  | n + 1, s => match l.find? (fun c => c.dst == some s) with
    | some c => match c.op with
      | .app _ _ _ (.t s') _ => headOf l n s'
      | _ => s
    | none => s
def apdOf (l : List CO) (c : CO) : CO := match c.op with
  | .app str sz b (.t s) y => { c with op := .apd (headOf l l.length s) str sz b (.t s) y }
  | _ => c
def apdH : COp → Option Nat
  | .apd h _ _ _ _ _ => some h
  | _ => none
def apdOk (l : List CO) (ms : List Nat) (m : Nat) : Bool := (List.range m).all fun j => match (l[j]?).bind fun c => apdH c.op with
  | none => true
  | some h => (List.range j).any (fun i => (match l[i]? with | some c => c.dst == some h | none => false) && (ms.getD j 0).testBit i) &&
      (List.range j).all fun i => (match (l[i]?).bind fun c => apdH c.op with | some h' => h' != h | none => true) || (ms.getD j 0).testBit i
def backOk (ops : Array Oper) : Bool := (List.range ops.size).all fun i => match ops[i]? with
  | none => false
  | some o => o.after.all fun e => !Region.binds .any e || decide (e.on < i)
section
variable (P : Program)
def cReg (own : Nat → Bool) (ops : Array Oper) (draw : Bool) : Option CC :=
  (cOs P own ops ops.toList).bind fun l => bif draw then
    let ms := masks ops.toList []
    let m := leastM ms ops.size 0
    let l' := l.map (apdOf l)
    if preOk l' ms m && barred ms m && backOk ops && apdOk l' ms m then some (.reg (l'.take m) (l.drop m)) else none
  else some (.reg [] l)
def cC (own : Nat → Bool) : Code → CC
  | .skip => .skip
  | .region _ ops draw => (cReg P own ops draw).getD .bad
  | .seq a b => .seq (cC own a) (cC own b)
  | .cond c a b => .cond (cX c) (cC own a) (cC own b)
  | .block id a => .block id (cC own a)
  | .loop a => .loop [] (cC own a)
  | .exit id => .exit id
  | .ret => .ret
  | _ => .bad
def cR : List ResultVar → Option (List CR)
  | [] => some []
  | .tmp t :: l => (cR l).map fun m => .t t :: m
  | .cell a t :: l => (aggT P t).bind fun g => (szT P t).bind fun n => if g || n == 1 then (cR l).map fun m => .cell a g n :: m else none
def cF (own : Nat → Bool) (f : Func) : Option CF :=
  f.body.bind fun b => (cR P f.results.toList).bind fun r => if f.params.size + f.nfree ≤ f.ntmps then some { nargs := f.params.size + f.nfree, ntmps := f.ntmps, code := cC P own b, res := r } else none
end
def makes : COp → Bool
  | .nil _ | .box _ _ _ | .alloc _ _ | .bsl _ _ _ _ | .mks _ _ _ _ _ | .app _ _ _ _ _ | .lend _ _ _ | .apd _ _ _ _ _ _ | .cut _ _ _ _ _ => true
  | .call o _ _ | .cal o _ _ => o
  | _ => false
def un (a b : List Nat) : List Nat := a ++ b.filter fun x => !a.contains x
def liveOs : List CO → List Nat → List Nat
  | [], l => l
  | o :: r, l => let m := liveOs r l; un ((match o.dst with | some d => m.filter (· != d) | none => m)) (usesOp o.op ++ match o.guard with | some (t, _) => [t] | none => [])
def madeC : CC → List Nat
  | .reg a b => (a ++ b).filterMap fun o => if makes o.op then o.dst else none
  | .seq a b | .cond _ a b => madeC a ++ madeC b
  | .block _ a | .loop _ a => madeC a
  | _ => []
def liveC (made : List Nat) (ex : List (Nat × List Nat)) (ret : List Nat) : CC → List Nat → CC × List Nat
  | .skip, l => (.skip, l)
  | .reg a b, l => (.reg a b, liveOs (a ++ b) l)
  | .seq a b, l => let q := liveC made ex ret b l; let p := liveC made ex ret a q.2; (.seq p.1 q.1, p.2)
  | .cond c a b, l => let p := liveC made ex ret a l; let q := liveC made ex ret b l; (.cond c p.1 q.1, un (xs1 c) (un p.2 q.2))
  | .block id a, l => let p := liveC made ((id, l) :: ex) ret a l; (.block id p.1, p.2)
  | .loop _ a, _ =>
    let h1 := (liveC made ex ret a []).2; let h2 := (liveC made ex ret a h1).2; let p := liveC made ex ret a h2
    (.loop (un p.2 (made.filter fun s => !(madeC a).contains s)) p.1, p.2)
  | .exit id, _ => (.exit id, ((ex.find? (·.1 == id)).map (·.2)).getD [])
  | .ret, _ => (.ret, ret)
  | .bad, _ => (.bad, [])
def fillKeep (f : CF) : CF :=
  let ret := f.res.flatMap fun | .t i => [i] | .cell a _ _ => [a]
  { f with code := (liveC (madeC f.code) [] ret f.code ret).1 }
end Go.Proofs.YtmhdapjmndfkgaaGreatDoor.Eng
namespace Go.Proofs.YtmhdapjmndfkgaaGreatDoor.Eng
open Go Go.RowKit
inductive FRep (w : World) (S : Nat → Nat → Prop) : AV → Value → Prop
  | v {x : Value} (h : closed x = true) : FRep w S (.v x) x
  | nil : FRep w S (.fsl []) (.slice none 0 0)
  | emp {a : Addr} {cap : Nat} : FRep w S (.fsl []) (.slice (some a) 0 cap)
  | sl {es : List (List AV)} {b o cap sz : Nat} (X : Nat → Nat → Value) (hk : es.length ≤ cap)
      (hl : ∀ (i : Nat) (e : List AV), es[i]? = some e → e.length = sz)
      (hc : ∀ (i : Nat) (e : List AV) (j : Nat) (c : AV), es[i]? = some e → e[j]? = some c → S b (o + (i * sz + j)) ∧ w.cell? ⟨b, o + (i * sz + j), none⟩ = some (X i j) ∧ atom c = true)
      (hr : ∀ (i : Nat) (e : List AV) (j : Nat) (c : AV), es[i]? = some e → e[j]? = some c → FRep w S c (X i j)) :
      FRep w S (.fsl es) (.slice (some ⟨b, o, none⟩) es.length cap)
  | ptr {cs : List AV} {b o : Nat} (X : Nat → Value)
      (hc : ∀ (j : Nat) (c : AV), cs[j]? = some c → S b (o + j) ∧ w.cell? ⟨b, o + j, none⟩ = some (X j) ∧ atom c = true)
      (hr : ∀ (j : Nat) (c : AV), cs[j]? = some c → FRep w S c (X j)) :
      FRep w S (.fptr cs) (.pointer (some ⟨b, o, none⟩))
  | fn {f : FuncId} {cs : List AV} (X : Nat → Value) {vs : Array Value} (hn : vs.size = cs.length)
      (hv : ∀ (j : Nat) (c : AV), cs[j]? = some c → vs[j]? = some (X j))
      (hr : ∀ (j : Nat) (c : AV), cs[j]? = some c → FRep w S c (X j)) : FRep w S (.fn f cs) (.func (.func f) #[] vs)
  | iface {t : TypeId} {c : AV} {x : Value} (h : FRep w S c x) : FRep w S (.iface t c) (.iface t x)
  | agg {cs : List AV} (X : Nat → Value) {vs : Array Value} (hn : vs.size = cs.length)
      (hv : ∀ (j : Nat) (c : AV), cs[j]? = some c → vs[j]? = some (X j) ∧ atom c = true)
      (hr : ∀ (j : Nat) (c : AV), cs[j]? = some c → FRep w S c (X j)) : FRep w S (.agg cs) (.agg vs)
theorem FRep.mono {w w' : World} {S S' : Nat → Nat → Prop} (h : ∀ b i, S b i → S' b i ∧ w'.cell? ⟨b, i, none⟩ = w.cell? ⟨b, i, none⟩) {c : AV} {x : Value} (hr : FRep w S c x) : FRep w' S' c x := by
  induction hr with
  | v h => exact .v h
  | nil => exact .nil
  | emp => exact .emp
  | sl X hk hl hc _ ih => exact .sl X hk hl (fun i e j c h1 h2 => let ⟨a, b, d⟩ := hc i e j c h1 h2; ⟨(h _ _ a).1, by rw [(h _ _ a).2]; exact b, d⟩) ih
  | ptr X hc _ ih => exact .ptr X (fun j c h1 => let ⟨a, b, d⟩ := hc j c h1; ⟨(h _ _ a).1, by rw [(h _ _ a).2]; exact b, d⟩) ih
  | fn X hn hv _ ih => exact .fn X hn hv ih
  | iface _ ih => exact .iface ih
  | agg X hn hv _ ih => exact .agg X hn hv ih
theorem closed_oneCell {x : Value} (h : closed x = true) : x.oneCell = true := by cases x <;> simp_all [closed, Value.oneCell]
theorem FRep.oneCell {w : World} {S : Nat → Nat → Prop} {c : AV} {x : Value} (hr : FRep w S c x) (ha : atom c = true) : x.oneCell = true := by
  cases hr with
  | v h => exact closed_oneCell h
  | agg => simp [atom] at ha
  | _ => rfl
structure Ctx where
  w : World
  S : Nat → Nat → Prop
  g : Key → Option Ob
  μ : Key → Option (Nat × Nat)
def Own (C : Ctx) (k : Key) (b i : Nat) : Prop := ∃ base len sz mu shr, C.μ k = some (b, base) ∧ C.g k = some (.tail len sz mu shr) ∧ i < base + len * sz
def LRep1 (C : Ctx) : AV → Value → Prop
  | .undef, _ => True
  | .nilsl, y => y = .slice none 0 0
  | .bnil _, y => y = .pointer none
  | .asl k es, y => ∃ len sz mu shr, C.g k = some (.tail len sz mu shr) ∧ es.length ≤ len ∧ (mu = true → es.length = len) ∧ (∀ (i : Nat) (e : List AV), es[i]? = some e → e.length = sz) ∧
      ((y = .slice none 0 0 ∧ es = [] ∧ (len = 0 → C.μ k = none)) ∨
       ∃ b o cap, ∃ X : Nat → Nat → Value, y = .slice (some ⟨b, o, none⟩) es.length cap ∧ es.length ≤ cap ∧
        (es.length = len → C.μ k = some (b, o) ∧ ∃ xs T, C.w.heap[b]? = some (.cells xs T (0, 0)) ∧ o + cap * sz ≤ xs.size) ∧
        ∀ (i : Nat) (e : List AV) (j : Nat) (c : AV), es[i]? = some e → e[j]? = some c → (C.S b (o + (i * sz + j)) ∨ Own C k b (o + (i * sz + j))) ∧ C.w.cell? ⟨b, o + (i * sz + j), none⟩ = some (X i j) ∧ atom c = true ∧ FRep C.w C.S c (X i j))
  | .ptr k o, y => ∃ b cs s, C.g k = some (.var cs s) ∧ C.μ k = some (b, 0) ∧ y = .pointer (some ⟨b, o, none⟩)
  | .eptr k i o cs, y => ∃ b q len sz mu shr, ∃ X : Nat → Value, C.g k = some (.tail len sz mu shr) ∧ y = .pointer (some ⟨b, q, none⟩) ∧
      (mu = true → ∃ base, C.μ k = some (b, base) ∧ q = base + (i * sz + o) ∧ i < len ∧ o + cs.length = sz) ∧
      ∀ (j : Nat) (c : AV), cs[j]? = some c → (C.S b (q + j) ∨ Own C k b (q + j)) ∧ C.w.cell? ⟨b, q + j, none⟩ = some (X j) ∧ atom c = true ∧ FRep C.w C.S c (X j)
  | .sub k lo n, y => ∃ b o cap len sz mu shr, y = .slice (some ⟨b, o, none⟩) n cap ∧ C.g k = some (.tail len sz mu shr) ∧ (mu = true → ∃ base, C.μ k = some (b, base) ∧ (o = base + lo * sz ∨ (n = 0 ∧ 0 < lo)) ∧ lo + n ≤ len ∧ len ≤ lo + cap)
  | .mp _, _ => False
  | .it _, _ => False
  | .agg _, _ => False
  | .tup _, _ => False
  | .own _ _ _, _ => False
  | .v x, y => FRep C.w C.S (.v x) y
  | .fsl es, y => FRep C.w C.S (.fsl es) y
  | .fptr cs, y => FRep C.w C.S (.fptr cs) y
  | .fn f cs, y => FRep C.w C.S (.fn f cs) y
  | .iface t c, y => FRep C.w C.S (.iface t c) y
def LRepA (C : Ctx) : AV → Value → Prop
  | .agg cs, y => ∃ vs : Array Value, y = .agg vs ∧ vs.size = cs.length ∧ ∀ (j : Nat) (c : AV) (x : Value), cs[j]? = some c → vs[j]? = some x → LRep1 C c x ∧ x.oneCell = true
  | x, y => LRep1 C x y
def LRep (C : Ctx) : AV → Value → Prop
  | .tup cs, y => ∃ vs : Array Value, y = .tuple vs ∧ vs.size = cs.length ∧ ∀ (j : Nat) (c : AV) (x : Value), cs[j]? = some c → vs[j]? = some x → LRepA C c x
  | x, y => LRepA C x y
def tagOk (cs : List AV) (T : TypeId) : Prop := ∀ T', cs.head? = some (.bnil T') → T' = T
theorem tagOk.map {f : AV → AV} (hf : ∀ c T, f c = .bnil T → c = .bnil T) {cs : List AV} {T : TypeId} (h : tagOk cs T) : tagOk (cs.map f) T := by
  intro T' h'
  rw [List.head?_map, Option.map_eq_some_iff] at h'
  obtain ⟨c, hc, he⟩ := h'
  exact h T' (by rw [hc, hf c T' he])
def szOk (sz : Sz) (T : TypeId) : Prop := ∀ T', sz.ty = some T' → T' = T
def ObRep (C : Ctx) (k : Key) : Ob → Prop
  | .var cs _ => ∃ b xs T, C.μ k = some (b, 0) ∧ C.w.heap[b]? = some (.cells xs T (0, 0)) ∧ xs.size = cs.length ∧ (∀ (i : Nat) (c : AV) (x : Value), cs[i]? = some c → xs[i]? = some x → LRep1 C c x ∧ x.oneCell = true) ∧ tagOk cs T
  | .tail len sz mu shr => (mu = true → shr = false) ∧ ((C.μ k = none ∧ len = 0) ∨ ∃ b base xs T, C.μ k = some (b, base) ∧ C.w.heap[b]? = some (.cells xs T (0, 0)) ∧ base + len * sz ≤ xs.size ∧ szOk sz T)
  | _ => False
def Cov : Option Ob → Nat → Nat → Prop
  | some (.var _ s), _, _ => s = true
  | some (.tail len sz _ shr), base, i => shr = true ∧ i < base + len * sz
  | _, _, _ => False
structure Sb where
  S : Nat → Nat → Prop
  O : Nat → Prop
  R : Key → Nat → Prop
abbrev Sb.fix (S : Nat → Nat → Prop) : Sb := ⟨S, fun _ => False, fun _ _ => False⟩
def Mine (w0 : World) (s : Sb) (b : Nat) : Prop := w0.heap.size ≤ b ∨ s.O b
theorem Mine.fix {w : World} {S : Nat → Nat → Prop} {b : Nat} (h : Mine w (.fix S) b) : w.heap.size ≤ b := h.elim id False.elim
structure Bel (O : Nat → Prop) (w w' : World) : Prop where
  os : w'.os = w.os
  tape : w'.tape = w.tape
  output : w'.output = w.output
  size : w.heap.size ≤ w'.heap.size
  block : ∀ k, k < w.heap.size → ¬ O k → w'.heap[k]? = w.heap[k]?
theorem Bel.refl (O : Nat → Prop) (w : World) : Bel O w w := ⟨rfl, rfl, rfl, Nat.le_refl _, fun _ _ _ => rfl⟩
theorem Bel.trans {O : Nat → Prop} {a b c : World} (h : Bel O a b) (k : Bel O b c) : Bel O a c :=
  ⟨k.os.trans h.os, k.tape.trans h.tape, k.output.trans h.output, Nat.le_trans h.size k.size, fun i hi ho => (k.block i (Nat.lt_of_lt_of_le hi h.size) ho).trans (h.block i hi ho)⟩
theorem Bel.of {O : Nat → Prop} {w w' : World} (h : Below w.heap.size w w') : Bel O w w' := ⟨h.os, h.tape, h.output, h.size, fun k hk _ => h.block k hk⟩
theorem Bel.mono {O O' : Nat → Prop} {w w' : World} (h : Bel O w w') (hO : ∀ b, O b → O' b) : Bel O' w w' := ⟨h.os, h.tape, h.output, h.size, fun k hk ho => h.block k hk fun h' => ho (hO k h')⟩
theorem Bel.below {O : Nat → Prop} {w w' : World} (h : Bel O w w') (hO : ∀ b, ¬ O b) : Below w.heap.size w w' := ⟨h.os, h.tape, h.output, h.size, fun k hk => h.block k hk (hO k)⟩
theorem Bel.then {O : Nat → Prop} {a b c : World} (h : Bel O a b) (k : Below b.heap.size b c) : Bel O a c := h.trans (.of k)
def Stab (w0 : World) (S0 : Sb) (w : World) (g : Key → Option Ob) (μ : Key → Option (Nat × Nat)) (b i : Nat) : Prop :=
  ((b < w0.heap.size ∧ ¬ S0.O b) ∧ S0.S b i) ∨ (Mine w0 S0 b ∧ b < w.heap.size ∧ ∀ k base, μ k = some (b, base) → Cov (g k) base i)
def mkC (w0 : World) (S0 : Sb) (w : World) (g : Key → Option Ob) (μ : Key → Option (Nat × Nat)) : Ctx := ⟨w, Stab w0 S0 w g μ, g, μ⟩
def GX (G : Nat → AV) (w : World) : Prop := ∀ n cs, G n = .fptr cs → ∃ xs T fr, w.heap[n]? = some (.cells xs T fr) ∧ xs.size = cs.length
theorem GX.below {G : Nat → AV} {w w' : World} (h : GX G w) (hb : Below w.heap.size w w') : GX G w' := by
  intro n cs hn
  obtain ⟨xs, T, fr, h1, h2⟩ := h n cs hn
  refine ⟨xs, T, fr, ?_, h2⟩
  rw [hb.block n (by
    cases hl : decide (n < w.heap.size) with
    | true => exact of_decide_eq_true hl
    | false =>
      have : ¬ n < w.heap.size := of_decide_eq_false hl
      rw [Array.getElem?_eq_none (by omega)] at h1
      cases h1)]
  exact h1
theorem GX.bel {O : Nat → Prop} {G : Nat → AV} {w w' : World} (h : GX G w) (hO : ∀ n cs, G n = .fptr cs → ¬ O n) (hb : Bel O w w') : GX G w' := by
  intro n cs hn
  obtain ⟨xs, T, fr, h1, h2⟩ := h n cs hn
  refine ⟨xs, T, fr, ?_, h2⟩
  rw [hb.block n (by
    cases hl : decide (n < w.heap.size) with
    | true => exact of_decide_eq_true hl
    | false =>
      have : ¬ n < w.heap.size := of_decide_eq_false hl
      rw [Array.getElem?_eq_none (by omega)] at h1
      cases h1) (hO n cs hn)]
  exact h1
def GlobOk (G : Nat → AV) (w : World) (S : Nat → Nat → Prop) : Prop := (∀ n, G n = .undef ∨ FRep w S (G n) (.pointer (some ⟨n, 0, none⟩))) ∧ GX G w
structure Inv (G : Nat → AV) (w0 : World) (S0 : Sb) (T : List AV) (g : Key → Option Ob) (μ : Key → Option (Nat × Nat)) (a : Act) (w : World) : Prop where
  below : Bel S0.O w0 w
  len : T.length = a.tmps.size
  tmp : ∀ (i : Nat) (c : AV), T[i]? = some c → ∃ x, a.tmps[i]? = some x ∧ LRep (mkC w0 S0 w g μ) c x
  ob : ∀ k x, g k = some x → ObRep (mkC w0 S0 w g μ) k x
  pl : ∀ k b base, μ k = some (b, base) → (g k).isSome ∧ Mine w0 S0 b ∧ b < w.heap.size
  inj : ∀ k k' b i i', μ k = some (b, i) → μ k' = some (b, i') → k = k'
  df : a.defers = []
  laid : GX G w0
  unlent : ∀ n cs, G n = .fptr cs → ¬ S0.O n
  fz : ∀ b i, S0.O b → S0.S b i → Stab w0 S0 w g μ b i ∧ w.cell? ⟨b, i, none⟩ = w0.cell? ⟨b, i, none⟩
  root : ∀ k b, S0.R k b → 1000000 ≤ k.1 ∧ (∃ cs s, g k = some (.var cs s)) ∧ μ k = some (b, 0)
  gl : ∀ n, G n = .undef ∨ FRep w (Stab w0 S0 w g μ) (G n) (.pointer (some ⟨n, 0, none⟩))
def Le (x x' : Ob) : Prop := x' = x ∨ x' = sealObj x
theorem Le.refl (x : Ob) : Le x x := .inl rfl
theorem Le.cov {x x' : Ob} (h : Le x x') {base i : Nat} (hc : Cov (some x) base i) : Cov (some x') base i := by
  rcases h with rfl | rfl
  · exact hc
  · cases x <;> simp_all [Cov, sealObj]
theorem Le.tail {x' : Ob} {len : Nat} {sz : Sz} {mu shr : Bool} (h : Le (.tail len sz mu shr) x') : ∃ mu' shr', x' = .tail len sz mu' shr' ∧ (mu' = true → mu = true) := by
  rcases h with rfl | rfl
  · exact ⟨_, _, rfl, id⟩
  · exact ⟨_, _, rfl, fun h => by cases h⟩
theorem Le.var {x' : Ob} {cs : List AV} {s : Bool} (h : Le (.var cs s) x') : ∃ s', x' = .var cs s' := by
  rcases h with rfl | rfl
  · exact ⟨_, rfl⟩
  · exact ⟨_, rfl⟩
structure Ext (w0 : World) (S0 : Sb) (w : World) (g : Key → Option Ob) (μ : Key → Option (Nat × Nat)) (w' : World) (g' : Key → Option Ob) (μ' : Key → Option (Nat × Nat)) : Prop where
  below0 : w0.heap.size ≤ w.heap.size
  below : Below w.heap.size w w'
  gle : ∀ k x, g k = some x → ∃ x', g' k = some x' ∧ Le x x'
  μeq : ∀ k, (g k).isSome → μ' k = μ k
  new : ∀ k b base, μ' k = some (b, base) → g k = none → (g' k).isSome ∧ w.heap.size ≤ b ∧ b < w'.heap.size
  pl : ∀ k b base, μ k = some (b, base) → (g k).isSome ∧ Mine w0 S0 b ∧ b < w.heap.size
section
variable {G : Nat → AV} {w0 w w' : World} {S0 : Sb} {g g' : Key → Option Ob} {μ μ' : Key → Option (Nat × Nat)}
theorem Ext.stab (E : Ext w0 S0 w g μ w' g' μ') (b i : Nat) (h : Stab w0 S0 w g μ b i) : Stab w0 S0 w' g' μ' b i ∧ w'.cell? ⟨b, i, none⟩ = w.cell? ⟨b, i, none⟩ := by
  have hlt : b < w.heap.size := by
    rcases h with ⟨h, _⟩ | ⟨_, h, _⟩
    · exact Nat.lt_of_lt_of_le h.1 E.below0
    · exact h
  refine ⟨?_, E.below.cell (p := ⟨b, i, none⟩) hlt⟩
  rcases h with h | ⟨h1, h2, h3⟩
  · exact .inl h
  · refine .inr ⟨h1, Nat.lt_of_lt_of_le h2 E.below.size, fun k base hk => ?_⟩
    cases hg : g k with
    | none => exact absurd (E.new k b base hk hg).2.1 (by omega)
    | some x =>
      obtain ⟨x', hx', hle⟩ := E.gle k x hg
      rw [hx']
      have := h3 k base (by rw [← E.μeq k (by simp [hg])]; exact hk)
      rw [hg] at this
      exact hle.cov this
theorem Ext.frep (E : Ext w0 S0 w g μ w' g' μ') {c : AV} {x : Value} (h : FRep w (Stab w0 S0 w g μ) c x) : FRep w' (Stab w0 S0 w' g' μ') c x := h.mono E.stab
theorem Ext.own (E : Ext w0 S0 w g μ w' g' μ') {k : Key} {b i : Nat} (h : Own (mkC w0 S0 w g μ) k b i) : Own (mkC w0 S0 w' g' μ') k b i ∧ w'.cell? ⟨b, i, none⟩ = w.cell? ⟨b, i, none⟩ := by
  obtain ⟨base, len, sz, mu, shr, h1, h2, h3⟩ := h
  obtain ⟨x', hx', hle⟩ := E.gle k _ h2
  obtain ⟨mu', shr', rfl, _⟩ := hle.tail
  exact ⟨⟨base, len, sz, mu', shr', by rw [← h1]; exact E.μeq k (by show (g k).isSome = true; rw [show g k = _ from h2]; rfl), hx', h3⟩, E.below.cell (p := ⟨b, i, none⟩) (E.pl k b base h1).2.2⟩
theorem Ext.lrep1 (E : Ext w0 S0 w g μ w' g' μ') {c : AV} {x : Value} (h : LRep1 (mkC w0 S0 w g μ) c x) : LRep1 (mkC w0 S0 w' g' μ') c x := by
  have sc : ∀ {b i k c x}, (Stab w0 S0 w g μ b i ∨ Own (mkC w0 S0 w g μ) k b i) ∧ w.cell? ⟨b, i, none⟩ = some x ∧ atom c = true ∧ FRep w (Stab w0 S0 w g μ) c x →
      (Stab w0 S0 w' g' μ' b i ∨ Own (mkC w0 S0 w' g' μ') k b i) ∧ w'.cell? ⟨b, i, none⟩ = some x ∧ atom c = true ∧ FRep w' (Stab w0 S0 w' g' μ') c x := by
    rintro b i k c x ⟨h1, h2, h3, h4⟩
    refine ⟨?_, ?_, h3, E.frep h4⟩
    · rcases h1 with h1 | h1
      · exact .inl (E.stab _ _ h1).1
      · exact .inr (E.own h1).1
    · rcases h1 with h1 | h1
      · rw [(E.stab _ _ h1).2]; exact h2
      · rw [(E.own h1).2]; exact h2
  cases c with
  | undef => trivial
  | nilsl => exact h
  | bnil T => exact h
  | asl k es =>
    obtain ⟨len, sz, mu, shr, h1, h2, h3, h4, h5⟩ := h
    obtain ⟨x', hx', hle⟩ := E.gle k _ h1
    obtain ⟨mu', shr', rfl, hmu⟩ := hle.tail
    have hμ : μ' k = μ k := E.μeq k (by rw [show g k = _ from h1]; rfl)
    refine ⟨len, sz, mu', shr', hx', h2, fun h => h3 (hmu h), h4, ?_⟩
    rcases h5 with ⟨h5, h6, h7⟩ | ⟨b, o, cap, X, h5, hk, h6, h7⟩
    · exact .inl ⟨h5, h6, fun h => by show μ' k = none; rw [hμ]; exact h7 h⟩
    · refine .inr ⟨b, o, cap, X, h5, hk, fun h => ?_, fun i e j c he hc => sc (h7 i e j c he hc)⟩
      obtain ⟨h8, xs, T, h9, h10⟩ := h6 h
      exact ⟨by show μ' k = _; rw [hμ]; exact h8, xs, T, by show w'.heap[b]? = _; rw [E.below.block b (E.pl k b o h8).2.2]; exact h9, h10⟩
  | ptr k o =>
    obtain ⟨b, cs, s, h1, h2, h3⟩ := h
    obtain ⟨x', hx', hle⟩ := E.gle k _ h1
    obtain ⟨s', rfl⟩ := hle.var
    exact ⟨b, cs, s', hx', by show μ' k = _; rw [E.μeq k (by rw [show g k = _ from h1]; rfl)]; exact h2, h3⟩
  | eptr k i o cs =>
    obtain ⟨b, q, len, sz, mu, shr, X, h1, h2, h3, h4⟩ := h
    obtain ⟨x', hx', hle⟩ := E.gle k _ h1
    obtain ⟨mu', shr', rfl, hmu⟩ := hle.tail
    refine ⟨b, q, len, sz, mu', shr', X, hx', h2, fun h => ?_, fun j c hc => sc (h4 j c hc)⟩
    obtain ⟨base, h5, h6⟩ := h3 (hmu h)
    exact ⟨base, by show μ' k = _; rw [E.μeq k (by rw [show g k = _ from h1]; rfl)]; exact h5, h6⟩
  | sub k lo n =>
    obtain ⟨b, o, cap, len, sz, mu, shr, h0, h1, h3⟩ := h
    obtain ⟨x', hx', hle⟩ := E.gle k _ h1
    obtain ⟨mu', shr', rfl, hmu⟩ := hle.tail
    refine ⟨b, o, cap, len, sz, mu', shr', h0, hx', fun h => ?_⟩
    obtain ⟨base, h5, h6⟩ := h3 (hmu h)
    exact ⟨base, by show μ' k = _; rw [E.μeq k (by rw [show g k = _ from h1]; rfl)]; exact h5, h6⟩
  | mp k => exact h
  | it k => exact h
  | agg cs => exact h
  | tup cs => exact h
  | own sz m es => exact h
  | v y => exact E.frep h
  | fsl es => exact E.frep h
  | fptr cs => exact E.frep h
  | fn f cs => exact E.frep h
  | iface t y => exact E.frep h
theorem Ext.lrepA (E : Ext w0 S0 w g μ w' g' μ') {c : AV} {x : Value} (h : LRepA (mkC w0 S0 w g μ) c x) : LRepA (mkC w0 S0 w' g' μ') c x := by
  cases c with
  | agg cs => obtain ⟨vs, h1, h2, h3⟩ := h; exact ⟨vs, h1, h2, fun j c x hc hx => ⟨E.lrep1 (h3 j c x hc hx).1, (h3 j c x hc hx).2⟩⟩
  | _ => simp only [LRepA] at h ⊢; exact E.lrep1 h
theorem Ext.lrep (E : Ext w0 S0 w g μ w' g' μ') {c : AV} {x : Value} (h : LRep (mkC w0 S0 w g μ) c x) : LRep (mkC w0 S0 w' g' μ') c x := by
  cases c with
  | tup cs => obtain ⟨vs, h1, h2, h3⟩ := h; exact ⟨vs, h1, h2, fun j c x hc hx => E.lrepA (h3 j c x hc hx)⟩
  | _ => simp only [LRep] at h ⊢; exact E.lrepA h
theorem Ext.obrep (E : Ext w0 S0 w g μ w' g' μ') {k : Key} {x x' : Ob} (hg : g k = some x) (hle : Le x x') (h : ObRep (mkC w0 S0 w g μ) k x) : ObRep (mkC w0 S0 w' g' μ') k x' := by
  have hμ : μ' k = μ k := E.μeq k (by simp [hg])
  cases x with
  | var cs s =>
    obtain ⟨b, xs, T, h1, h2, h3, h4⟩ := h
    obtain ⟨s', rfl⟩ := hle.var
    exact ⟨b, xs, T, by show μ' k = _; rw [hμ]; exact h1, by show w'.heap[b]? = _; rw [E.below.block b (E.pl k b 0 h1).2.2]; exact h2, h3, fun i c x hc hx => ⟨E.lrep1 (h4.1 i c x hc hx).1, (h4.1 i c x hc hx).2⟩, h4.2⟩
  | tail len sz mu shr =>
    obtain ⟨h0, h⟩ := h
    have hm : ∃ mu' shr', x' = .tail len sz mu' shr' ∧ (mu' = true → shr' = false) := by
      rcases hle with rfl | rfl
      · exact ⟨_, _, rfl, h0⟩
      · exact ⟨_, _, rfl, fun h => by cases h⟩
    obtain ⟨mu', shr', rfl, h0'⟩ := hm
    refine ⟨h0', ?_⟩
    rcases h with ⟨h1, h2⟩ | ⟨b, base, xs, T, h1, h2, h3⟩
    · exact .inl ⟨by show μ' k = _; rw [hμ]; exact h1, h2⟩
    · exact .inr ⟨b, base, xs, T, by show μ' k = _; rw [hμ]; exact h1, by show w'.heap[b]? = _; rw [E.below.block b (E.pl k b base h1).2.2]; exact h2, h3⟩
  | map es => exact h.elim
  | siter s p => exact h.elim
theorem Inv.ext {T : List AV} {a : Act} (hI : Inv G w0 S0 T g μ a w) (E : Ext w0 S0 w g μ w' g' μ')
    (hinj : ∀ k k' b i i', μ' k = some (b, i) → μ' k' = some (b, i') → k = k')
    (hob : ∀ k x, g k = none → g' k = some x → ObRep (mkC w0 S0 w' g' μ') k x) : Inv G w0 S0 T g' μ' a w' where
  below := hI.below.then E.below
  len := hI.len
  tmp := fun i c h => let ⟨x, h1, h2⟩ := hI.tmp i c h; ⟨x, h1, E.lrep h2⟩
  ob := fun k x h => by
    cases hg : g k with
    | none => exact hob k x hg h
    | some y =>
      obtain ⟨x', hx', hle⟩ := E.gle k y hg
      rw [h] at hx'
      cases hx'
      exact E.obrep hg hle (hI.ob k y hg)
  pl := fun k b base h => by
    cases hg : g k with
    | none => have := E.new k b base h hg; exact ⟨this.1, .inl (Nat.le_trans hI.below.size this.2.1), this.2.2⟩
    | some y =>
      obtain ⟨x', hx', _⟩ := E.gle k y hg
      have := hI.pl k b base (by rw [← E.μeq k (by simp [hg])]; exact h)
      exact ⟨by simp [hx'], this.2.1, Nat.lt_of_lt_of_le this.2.2 E.below.size⟩
  inj := hinj
  df := hI.df
  laid := hI.laid
  unlent := hI.unlent
  fz := fun b i ho hs => let ⟨h1, h2⟩ := hI.fz b i ho hs; ⟨(E.stab b i h1).1, (E.stab b i h1).2.trans h2⟩
  root := fun k b h => by
    obtain ⟨h1, ⟨cs, s, h2⟩, h3⟩ := hI.root k b h
    obtain ⟨x', hx', hle⟩ := E.gle k _ h2
    obtain ⟨s', rfl⟩ := hle.var
    exact ⟨h1, ⟨cs, s', hx'⟩, by rw [E.μeq k (by rw [h2]; rfl)]; exact h3⟩
  gl := fun n => (hI.gl n).imp id fun h => E.frep h
theorem Inv.tySz {T : List AV} {a : Act} (hI : Inv G w0 S0 T g μ a w) {k : Key} {n : Nat} {sz : Sz} {mu shr : Bool} (hk : g k = some (.tail n sz mu shr)) {b q : Nat} (hm : μ k = some (b, q)) {xs : Array Value} {t : TypeId} (hx : w.heap[b]? = some (.cells xs t (0, 0))) : szOk sz t := by
  obtain ⟨_, hh⟩ := hI.ob k _ hk
  rcases hh with h | ⟨b', q', xs', t', h1, h2, h4, h3⟩
  · have h1 : μ k = none := h.1
    rw [h1] at hm; cases hm
  · have h1 : μ k = some (b', q') := h1
    rw [h1] at hm
    cases hm
    have h2 : w.heap[b]? = some (.cells xs' t' (0, 0)) := h2
    rw [h2] at hx
    cases hx
    exact h3
theorem Inv.noRoot {T : List AV} {a : Act} (hI : Inv G w0 S0 T g μ a w) {k : Key} {n : Nat} {sz : Sz} {mu shr : Bool} (hk : g k = some (.tail n sz mu shr)) {b : Nat} (h : S0.R k b) : False := by
  obtain ⟨_, ⟨cs, s, h2⟩, _⟩ := hI.root k b h
  rw [hk] at h2
  cases h2
theorem Inv.put {T : List AV} {a : Act} (hI : Inv G w0 S0 T g μ a w) (d : Nat) {c : AV} {x : Value} (h : LRep (mkC w0 S0 w g μ) c x) : Inv G w0 S0 (T.set d c) g μ (a.put (some d) x) w where
  below := hI.below
  len := by simp [Act.put, hI.len]
  tmp := fun i c' h' => by
    rw [List.getElem?_set] at h'
    simp only [Act.put]
    by_cases hd : d = i
    · subst hd
      simp only [if_true] at h'
      split at h'
      · rename_i hlt
        cases h'
        exact ⟨x, by rw [Array.getElem?_setIfInBounds_self_of_lt (by rw [← hI.len]; exact hlt)], h⟩
      · cases h'
    · rw [if_neg hd] at h'
      rw [Array.getElem?_setIfInBounds_ne hd]
      exact hI.tmp i c' h'
  ob := hI.ob
  pl := hI.pl
  inj := hI.inj
  df := hI.df
  laid := hI.laid
  unlent := hI.unlent
  fz := hI.fz
  root := hI.root
  gl := hI.gl
theorem Inv.putO {T : List AV} {a : Act} (hI : Inv G w0 S0 T g μ a w) (d : Option Nat) {c : AV} {x : Value} (h : LRep (mkC w0 S0 w g μ) c x) : Inv G w0 S0 (match d with | some d => T.set d c | none => T) g μ (a.put d x) w := by
  cases d with
  | some d => exact hI.put d h
  | none => exact hI
end
end Go.Proofs.YtmhdapjmndfkgaaGreatDoor.Eng
namespace Go.Proofs.YtmhdapjmndfkgaaGreatDoor.Eng
open Go Go.RowKit
section runs
variable {P : Program} {w : World}
theorem run_und {t : TypeId} {d : TypeDesc} (h : P.underlying t = some d) : (underlying t).run P w = .ok d w := run_underlying h w
theorem run_sizeOf {t : TypeId} {n : Nat} (h : szT P t = some n) : (sizeOf t).run P w = .ok n w := by
  unfold szT at h
  cases hi : P.info? t with
  | none => rw [hi] at h; cases h
  | some i => rw [hi] at h; simp at h; simp [sizeOf, typeInfo, program, Sem.run, hi, h]
theorem run_isAgg {t : TypeId} {g : Bool} (h : aggT P t = some g) : (isAgg t).run P w = .ok g w := by
  unfold aggT at h
  cases hu : P.underlying t with
  | none => rw [hu] at h; cases h
  | some d =>
    rw [hu] at h
    simp only [isAgg, Sem.run_bind, run_und hu, Result.andThen_ok]
    cases d <;> simp_all
theorem run_zero {t : TypeId} {z : Value} (h : (P.info? t).bind (·.zero) = some z) : (zeroValue t).run P w = .ok z w := by
  cases hi : P.info? t with
  | none => rw [hi] at h; cases h
  | some i => rw [hi] at h; simp at h; simp [zeroValue, typeInfo, program, Sem.run, hi, h]
theorem addr_add (b o n : Nat) : (⟨b, o, none⟩ : Addr).add n = ⟨b, o + n, none⟩ := by
  unfold Addr.add; split <;> simp_all
theorem run_loadVar_agg {t : TypeId} {n b o : Nat} {xs : List Value} (hg : aggT P t = some true) (hn : szT P t = some n) (hl : xs.length = n)
    (h : ∀ j x, xs[j]? = some x → w.cell? ⟨b, o + j, none⟩ = some x) : (loadVar t ⟨b, o, none⟩).run P w = .ok (.agg xs.toArray) w := by
  have := run_loadCells_list (w := w) (P := P) ⟨b, o, none⟩ xs (fun j v hv => by rw [addr_add]; exact h j v hv)
  rw [hl] at this
  simp [loadVar, run_isAgg hg, run_sizeOf hn, this]
theorem run_loadVar_one {t : TypeId} {b o : Nat} {x : Value} (hg : aggT P t = some false) (h : w.cell? ⟨b, o, none⟩ = some x) : (loadVar t ⟨b, o, none⟩).run P w = .ok x w := by
  simp [loadVar, run_isAgg hg, h]
end runs
section
variable {G : Nat → AV} {w0 w : World} {S0 : Sb} {T : List AV} {g : Key → Option Ob} {μ : Key → Option (Nat × Nat)} {a : Act}
theorem ofCell_rep (C : Ctx) (x : Value) : LRep1 C (ofCell x) x := by
  unfold ofCell
  split
  · rfl
  · rename_i t x
    split
    · rename_i h; exact .iface (.v h)
    · trivial
  · rename_i f
    exact .fn (fun _ => default) rfl (fun j c h => by simp at h) (fun j c h => by simp at h)
  · split
    · rename_i h; exact .v h
    · trivial
theorem ofCell_atom (x : Value) : atom (ofCell x) = true := by
  unfold ofCell
  split
  · rfl
  · split <;> rfl
  · rfl
  · split <;> rfl
theorem LRepA.of1 {C : Ctx} {c : AV} {x : Value} (ha : atom c = true) (h : LRep1 C c x) : LRepA C c x := by
  cases c <;> first | exact h | simp [atom] at ha
theorem LRep.of1 {C : Ctx} {c : AV} {x : Value} (ha : atom c = true) (h : LRep1 C c x) : LRep C c x := by
  cases c <;> first | exact h | simp [atom] at ha
theorem ofVal_rep (C : Ctx) (x : Value) : LRep C (ofVal x) x := by
  unfold ofVal
  split
  · rename_i cs
    split
    · rename_i h
      refine ⟨cs, rfl, by simp, fun j c x hc hx => ?_⟩
      simp only [List.getElem?_map, Array.getElem?_toList, hx, Option.map_some, Option.some.injEq] at hc
      subst hc
      exact ⟨ofCell_rep C x, List.all_eq_true.1 h x (List.mem_of_getElem? (by rw [Array.getElem?_toList]; exact hx))⟩
    · trivial
  · exact .of1 (ofCell_atom x) (ofCell_rep C x)
theorem Inv.ev (hI : Inv G w0 S0 T g μ a w) (x : Operand) : LRep (mkC w0 S0 w g μ) (Eng.ev T G (cX x)) (a.eval x) := by
  cases x with
  | tmp t =>
    simp only [cX, Eng.ev, Act.eval]
    cases h : T[t]? with
    | none => rw [List.getD_eq_getElem?_getD, h]; trivial
    | some c =>
      obtain ⟨y, h1, h2⟩ := hI.tmp t c h
      rw [List.getD_eq_getElem?_getD, h, Array.getD_eq_getD_getElem?, h1]
      exact h2
  | const v => exact ofVal_rep _ v
  | global n =>
    simp only [cX, Eng.ev, Act.eval]
    rcases hI.gl n with h | h
    · rw [h]; trivial
    · generalize G n = c at h
      cases h with
      | v h => exact .v h
      | ptr X hc hr => exact .ptr X hc hr
  | func f => exact .fn (fun _ => default) rfl (fun j c h => by simp at h) (fun j c h => by simp at h)
end
def gx (g : Key → Option Ob) (new : List (Key × Ob)) (ks : List Key) : Key → Option Ob := fun k =>
  if ks.contains k then ((g k).or (getO new k)).map sealObj else (g k).or (getO new k)
def μx (g : Key → Option Ob) (μ ν : Key → Option (Nat × Nat)) : Key → Option (Nat × Nat) := fun k => if (g k).isSome then μ k else ν k
structure Fx (w0 : World) (S0 : Sb) (g : Key → Option Ob) (μ : Key → Option (Nat × Nat)) (w : World) (r : R) (y : Value) (w' : World) (ν : Key → Option (Nat × Nat)) : Prop where
  below : Below w.heap.size w w'
  new : ∀ k b base, ν k = some (b, base) → (getO r.new k).isSome ∧ w.heap.size ≤ b ∧ b < w'.heap.size
  inj : ∀ k k' b i i', ν k = some (b, i) → ν k' = some (b, i') → k = k'
  ob : ∀ k x, g k = none → gx g r.new r.seals k = some x → ObRep (mkC w0 S0 w' (gx g r.new r.seals) (μx g μ ν)) k x
  rep : LRep (mkC w0 S0 w' (gx g r.new r.seals) (μx g μ ν)) r.x y
  sl : ∀ k ∈ r.seals, (g k).isSome
section
variable {G : Nat → AV} {w0 w w' : World} {S0 : Sb} {T : List AV} {g : Key → Option Ob} {μ ν : Key → Option (Nat × Nat)} {a : Act}
theorem gx_le (new : List (Key × Ob)) (ks : List Key) {k : Key} {x : Ob} (h : g k = some x) : ∃ x', gx g new ks k = some x' ∧ Le x x' := by
  unfold gx
  rw [h]
  simp only [Option.some_or, Option.map_some]
  split
  · exact ⟨_, rfl, .inr rfl⟩
  · exact ⟨_, rfl, .inl rfl⟩
theorem gx_new {new : List (Key × Ob)} {ks : List Key} {k : Key} (h : (getO new k).isSome) : (gx g new ks k).isSome := by
  unfold gx
  split <;> cases g k <;> simp_all
theorem Inv.gxE (hI : Inv G w0 S0 T g μ a w) {new : List (Key × Ob)} (ks : List Key) (hb : Below w.heap.size w w')
    (hν : ∀ k b base, ν k = some (b, base) → (getO new k).isSome ∧ w.heap.size ≤ b ∧ b < w'.heap.size) : Ext w0 S0 w g μ w' (gx g new ks) (μx g μ ν) where
  below0 := hI.below.size
  below := hb
  gle := fun k x h => gx_le new ks h
  μeq := fun k h => by simp [μx, h]
  new := fun k b base h hg => by
    have h' : ν k = some (b, base) := by simpa [μx, hg] using h
    exact ⟨gx_new (hν k b base h').1, (hν k b base h').2⟩
  pl := hI.pl
theorem Inv.μxInj (hI : Inv G w0 S0 T g μ a w) {new : List (Key × Ob)} (hν : ∀ k b base, ν k = some (b, base) → (getO new k).isSome ∧ w.heap.size ≤ b ∧ b < w'.heap.size)
    (hi : ∀ k k' b i i', ν k = some (b, i) → ν k' = some (b, i') → k = k') : ∀ k k' b i i', μx g μ ν k = some (b, i) → μx g μ ν k' = some (b, i') → k = k' := by
  intro k k' b i i' h h'
  unfold μx at h h'
  split at h <;> split at h'
  · exact hI.inj k k' b i i' h h'
  · have h1 := (hI.pl k b i h).2.2; have h2 := (hν k' b i' h').2.1; omega
  · have h1 := (hI.pl k' b i' h').2.2; have h2 := (hν k b i h).2.1; omega
  · exact hi k k' b i i' h h'
theorem Inv.fx (hI : Inv G w0 S0 T g μ a w) {r : R} {y : Value} (h : Fx w0 S0 g μ w r y w' ν) (d : Option Nat) :
    Inv G w0 S0 (match d with | some d => T.set d r.x | none => T) (gx g r.new r.seals) (μx g μ ν) (a.put d y) w' :=
  (hI.ext (hI.gxE r.seals h.below h.new) (hI.μxInj h.new h.inj) h.ob).putO d h.rep
theorem Inv.fxPure (hI : Inv G w0 S0 T g μ a w) {x : AV} {y : Value} (h : LRep (mkC w0 S0 w g μ) x y) : Fx w0 S0 g μ w { x } y w fun _ => none where
  below := .refl _ _
  new := fun k b base h => by cases h
  inj := fun k k' b i i' h => by cases h
  ob := fun k x h1 h2 => by simp [gx, h1, getO] at h2
  rep := (hI.gxE (new := []) [] (.refl _ _) (fun k b base h => by cases h)).lrep h
  sl := fun k h => by cases h
theorem frz1_rep {g' : Key → Option Ob} {μ' : Key → Option (Nat × Nat)} (E : Ext w0 S0 w g μ w' g' μ') (hinj : ∀ k k' b i i', μ' k = some (b, i) → μ' k' = some (b, i') → k = k')
    {c c' : AV} {x : Value} (hf : frz1 c = some c') (hk : ∀ k ∈ keys1 c, ∀ y, g k = some y → g' k = some (sealObj y)) (h : LRep1 (mkC w0 S0 w g μ) c x) : FRep w' (Stab w0 S0 w' g' μ') c' x := by
  cases c <;> simp only [frz1, Option.some.injEq, reduceCtorEq] at hf <;> try subst hf
  · exact E.frep h
  · obtain rfl : x = .slice none 0 0 := h
    exact .nil
  · exact E.frep h
  · rename_i k es
    obtain ⟨len, sz, mu, shr, h1, h2, h3, h4, h5⟩ := h
    rcases h5 with ⟨rfl, rfl, _⟩ | ⟨b, o, cap, X, rfl, hk', h6, h7⟩
    · exact .nil
    · have hg := hk k (by simp [keys1]) _ h1
      refine .sl X hk' h4 (fun i e j c he hc => ?_) (fun i e j c he hc => E.frep (h7 i e j c he hc).2.2.2)
      obtain ⟨h8, h9, h10, _⟩ := h7 i e j c he hc
      have hcell : w'.cell? ⟨b, o + (i * sz + j), none⟩ = some (X i j) := by
        rcases h8 with h8 | h8
        · rw [(E.stab _ _ h8).2]; exact h9
        · rw [(E.own h8).2]; exact h9
      refine ⟨?_, hcell, h10⟩
      rcases h8 with h8 | ⟨base, len', sz', mu', shr', h11, h12, h13⟩
      · exact (E.stab _ _ h8).1
      · have hg1 : g k = some (.tail len sz mu shr) := h1
        have h12' : g k = some (.tail len' sz' mu' shr') := h12
        rw [hg1] at h12'
        cases h12'
        have h11' : μ k = some (b, base) := h11
        have hpl := E.pl k b base h11'
        refine .inr ⟨hpl.2.1, Nat.lt_of_lt_of_le hpl.2.2 E.below.size, fun k' base' hk' => ?_⟩
        have hμ : μ' k = some (b, base) := by rw [E.μeq k (by rw [hg1]; rfl)]; exact h11'
        obtain rfl := hinj k' k b base' base hk' hμ
        rw [hμ] at hk'
        cases hk'
        rw [hg]
        exact ⟨rfl, h13⟩
  · exact E.frep h
  · exact E.frep h
  · exact E.frep h
  · obtain rfl : x = .pointer none := h
    exact .v rfl
theorem frz1_atom {c c' : AV} (hf : frz1 c = some c') : atom c' = true ∧ frz1 c' = some c' := by
  cases c <;> simp only [frz1, Option.some.injEq, reduceCtorEq] at hf <;> subst hf <;> exact ⟨rfl, rfl⟩
theorem FRep.l1 {C : Ctx} {c c' : AV} {x : Value} (hf : frz1 c = some c') (h : FRep C.w C.S c' x) : LRep1 C c' x := by
  cases c <;> simp only [frz1, Option.some.injEq, reduceCtorEq] at hf <;> subst hf <;> exact h
theorem frzL_get : ∀ {cs cs' : List AV}, frzL cs = some cs' → cs'.length = cs.length ∧ ∀ (j : Nat) (c' : AV), cs'[j]? = some c' → ∃ c, cs[j]? = some c ∧ frz1 c = some c'
  | [], cs', h => by simp [frzL] at h; subst h; exact ⟨rfl, fun j c' h => by simp at h⟩
  | c :: cs, cs', h => by
    simp only [frzL, Option.bind_eq_some_iff, Option.some.injEq] at h
    obtain ⟨y, h1, m, h2, rfl⟩ := h
    obtain ⟨h3, h4⟩ := frzL_get h2
    refine ⟨by simp [h3], fun j c' hj => ?_⟩
    cases j with
    | zero => simp at hj; subst hj; exact ⟨c, rfl, h1⟩
    | succ j => exact h4 j c' (by simpa using hj)
theorem frz_rep {g' : Key → Option Ob} {μ' : Key → Option (Nat × Nat)} (E : Ext w0 S0 w g μ w' g' μ') (hinj : ∀ k k' b i i', μ' k = some (b, i) → μ' k' = some (b, i') → k = k')
    {c c' : AV} {x : Value} (hf : frz c = some c') (hk : ∀ k ∈ keys c, ∀ y, g k = some y → g' k = some (sealObj y)) (h : LRep (mkC w0 S0 w g μ) c x) : FRep w' (Stab w0 S0 w' g' μ') c' x := by
  cases c with
  | agg cs =>
    simp only [frz, Option.bind_eq_some_iff, Option.some.injEq] at hf
    obtain ⟨cs', h1, rfl⟩ := hf
    obtain ⟨h2, h3⟩ := frzL_get h1
    obtain ⟨vs, rfl, h4, h5⟩ := h
    refine .agg (fun j => vs.getD j default) (by rw [h4, h2]) (fun j c' hj => ?_) (fun j c' hj => ?_)
    · obtain ⟨c, hc, hf⟩ := h3 j c' hj
      have hlt : j < vs.size := by rw [h4]; exact (List.getElem?_eq_some_iff.1 hc).1
      exact ⟨by simp [Array.getD, hlt], (frz1_atom hf).1⟩
    · obtain ⟨c, hc, hf⟩ := h3 j c' hj
      have hlt : j < vs.size := by rw [h4]; exact (List.getElem?_eq_some_iff.1 hc).1
      refine frz1_rep E hinj hf (fun k hk' => hk k ?_) (h5 j c _ hc (by simp [Array.getD, hlt])).1
      simp only [keys, List.mem_flatMap]
      exact ⟨c, List.mem_of_getElem? hc, hk'⟩
  | tup => simp [frz, frz1] at hf
  | _ => simp only [frz, keys, LRep, LRepA] at hf hk h; exact frz1_rep E hinj hf hk h
theorem FRep.lr {C : Ctx} {c c' : AV} {x : Value} (hf : frz c = some c') (h : FRep C.w C.S c' x) : LRep C c' x := by
  cases c with
  | agg cs =>
    simp only [frz, Option.bind_eq_some_iff, Option.some.injEq] at hf
    obtain ⟨cs', h1, rfl⟩ := hf
    obtain ⟨h2, h3⟩ := frzL_get h1
    cases h with
    | agg X hn hv hr =>
      refine ⟨_, rfl, hn, fun j c x hc hx => ?_⟩
      obtain ⟨h4, h5⟩ := hv j c hc
      rw [hx] at h4
      cases h4
      obtain ⟨c0, _, hf⟩ := h3 j c hc
      exact ⟨FRep.l1 hf (hr j c hc), (hr j c hc).oneCell h5⟩
  | tup => simp [frz, frz1] at hf
  | _ => simp only [frz] at hf; exact .of1 (frz1_atom hf).1 (FRep.l1 hf h)
theorem keys1_old {C : Ctx} {c : AV} {x : Value} (h : LRep1 C c x) : ∀ k ∈ keys1 c, (C.g k).isSome := by
  intro k hk
  cases c <;> simp only [keys1, List.mem_cons, List.not_mem_nil, or_false] at hk
  subst hk
  obtain ⟨len, sz, mu, shr, h1, _⟩ := h
  rw [h1]; rfl
theorem keys_old {C : Ctx} {c : AV} {x : Value} (h : LRep C c x) : ∀ k ∈ keys c, (C.g k).isSome := by
  intro k hk
  cases c with
  | agg cs =>
    simp only [keys, List.mem_flatMap] at hk
    obtain ⟨c, hc, hk⟩ := hk
    obtain ⟨j, hj, rfl⟩ := List.mem_iff_getElem.1 hc
    obtain ⟨vs, _, h2, h3⟩ := h
    exact keys1_old (h3 j _ vs[j] (List.getElem?_eq_getElem hj) (Array.getElem?_eq_getElem (by omega))).1 k hk
  | tup => simp [keys, keys1] at hk
  | _ => simp only [keys, LRep, LRepA] at hk h; exact keys1_old h k hk
theorem Inv.fxSeal (hI : Inv G w0 S0 T g μ a w) {x : AV} {y : Value} (ks : List Key) (hks : ∀ k ∈ ks, (g k).isSome)
    (h : ∀ {g' : Key → Option Ob} {μ' : Key → Option (Nat × Nat)}, Ext w0 S0 w g μ w g' μ' → (∀ k k' b i i', μ' k = some (b, i) → μ' k' = some (b, i') → k = k') → (∀ k ∈ ks, ∀ y, g k = some y → g' k = some (sealObj y)) → LRep (mkC w0 S0 w g' μ') x y) :
    Fx w0 S0 g μ w { x, seals := ks } y w fun _ => none where
  below := .refl _ _
  new := fun k b base h => by cases h
  inj := fun k k' b i i' h => by cases h
  ob := fun k x h1 h2 => by simp [gx, h1, getO] at h2
  rep := by
    refine h (hI.gxE (new := []) ks (.refl _ _) (fun k b base h => by cases h)) (hI.μxInj (w' := w) (new := []) (fun k b base h => by cases h) (fun k k' b i i' h => by cases h)) fun k hk y hy => ?_
    simp [gx, hy, hk]
  sl := hks
end
end Go.Proofs.YtmhdapjmndfkgaaGreatDoor.Eng
namespace Go.Proofs.YtmhdapjmndfkgaaGreatDoor.Eng
open Go Go.RowKit
def XRes (P : Program) (Φ : Value → World → Prop) (o : Oper) (a : Act) (w : World) : Prop :=
  (∃ y w', (execOp a.eval o).run P w = .ok (.value y) w' ∧ Φ y w') ∨
  (∃ f args, (execOp a.eval o).run P w = .ok (.enter f args) w ∧ Calls P f args w fun e w' => ∃ y, e = .returned y ∧ Φ y w')
section
variable {P : Program} {G : Nat → AV} {w0 w : World} {S0 : Sb} {T : List AV} {g : Key → Option Ob} {μ : Key → Option (Nat × Nat)} {a : Act} {o : Oper} {r : R} {call : Call} {g0 : Key → Option Ob} {d j : Nat}
abbrev Φx (w0 : World) (S0 : Sb) (g : Key → Option Ob) (μ : Key → Option (Nat × Nat)) (w : World) (r : R) : Value → World → Prop := fun y w' => ∃ ν, Fx w0 S0 g μ w r y w' ν
theorem XRes.pure (hI : Inv G w0 S0 T g μ a w) {x : AV} {y : Value} (hr : (execOp a.eval o).run P w = .ok (.value y) w) (h : LRep (mkC w0 S0 w g μ) x y) : XRes P (Φx w0 S0 g μ w { x }) o a w :=
  .inl ⟨y, w, hr, _, hI.fxPure h⟩
theorem LRep.v_inv {C : Ctx} {x y : Value} (h : LRep C (.v x) y) : y = x := by
  have h : FRep C.w C.S (.v x) y := h
  cases h; rfl
theorem LRep.v_mk {C : Ctx} {x : Value} (h : closed x = true) : LRep C (.v x) x := show FRep C.w C.S (.v x) x from .v h
theorem LRep.fptr_inv {C : Ctx} {cs : List AV} {y : Value} (h : LRep C (.fptr cs) y) : ∃ b o, ∃ X : Nat → Value, y = .pointer (some ⟨b, o, none⟩) ∧
    ∀ (j : Nat) (c : AV), cs[j]? = some c → C.S b (o + j) ∧ C.w.cell? ⟨b, o + j, none⟩ = some (X j) ∧ atom c = true ∧ FRep C.w C.S c (X j) := by
  have h : FRep C.w C.S (.fptr cs) y := h
  cases h with
  | ptr X hc hr => exact ⟨_, _, X, rfl, fun j c hj => ⟨(hc j c hj).1, (hc j c hj).2.1, (hc j c hj).2.2, hr j c hj⟩⟩
theorem LRep.fn_inv {C : Ctx} {f : FuncId} {cs : List AV} {y : Value} (h : LRep C (.fn f cs) y) : ∃ vs : Array Value, y = .func (.func f) #[] vs ∧ vs.size = cs.length ∧
    ∀ (j : Nat) (c : AV) (x : Value), cs[j]? = some c → vs[j]? = some x → FRep C.w C.S c x := by
  have h : FRep C.w C.S (.fn f cs) y := h
  cases h with
  | fn X hn hv hr => exact ⟨_, rfl, hn, fun j c x hj hx => by have := hv j c hj; rw [hx] at this; cases this; exact hr j c hj⟩
theorem LRep.fsl_inv {C : Ctx} {es : List (List AV)} {y : Value} (h : LRep C (.fsl es) y) : (y = .slice none 0 0 ∧ es = []) ∨ (∃ a cap, y = .slice (some a) 0 cap ∧ es = []) ∨ ∃ b o cap sz, ∃ X : Nat → Nat → Value, y = .slice (some ⟨b, o, none⟩) es.length cap ∧ es.length ≤ cap ∧
    (∀ (i : Nat) (e : List AV), es[i]? = some e → e.length = sz) ∧
    ∀ (i : Nat) (e : List AV) (j : Nat) (c : AV), es[i]? = some e → e[j]? = some c → C.S b (o + (i * sz + j)) ∧ C.w.cell? ⟨b, o + (i * sz + j), none⟩ = some (X i j) ∧ atom c = true ∧ FRep C.w C.S c (X i j) := by
  have h : FRep C.w C.S (.fsl es) y := h
  cases h with
  | nil => exact .inl ⟨rfl, rfl⟩
  | emp => exact .inr (.inl ⟨_, _, rfl, rfl⟩)
  | sl X hk hl hc hr => exact .inr <| .inr ⟨_, _, _, _, X, rfl, hk, hl, fun i e j c h1 h2 => ⟨(hc i e j c h1 h2).1, (hc i e j c h1 h2).2.1, (hc i e j c h1 h2).2.2, hr i e j c h1 h2⟩⟩
theorem x_mv (hI : Inv G w0 S0 T g μ a w) {x : Operand} (ho : o.op = .move x ∨ o.op = .assign x) (hd : denX call G T g0 d j (.mv (cX x)) = some r) : XRes P (Φx w0 S0 g μ w r) o a w := by
  simp only [denX, Option.some.injEq] at hd
  subst hd
  refine .pure hI (y := a.eval x) ?_ (hI.ev x)
  rcases ho with ho | ho <;> simp [execOp, ho]
theorem x_pick (hI : Inv G w0 S0 T g μ a w) {c x y : Operand} (ho : o.op = .pick c x y) (hd : denX call G T g0 d j (.pick (cX c) (cX x) (cX y)) = some r) : XRes P (Φx w0 S0 g μ w r) o a w := by
  simp only [denX] at hd
  have hc := hI.ev c
  split at hd
  · rename_i b hb
    rw [hb] at hc
    have hc := hc.v_inv
    have hx := hI.ev x
    have hy := hI.ev y
    have hrun : (execOp a.eval o).run P w = .ok (.value (if b = true then a.eval x else a.eval y)) w := by
      simp [execOp, ho, hc, asBool]
    split at hd
    · rename_i p q hp hq
      cases hd
      rw [hp] at hx; rw [hq] at hy
      refine .pure hI hrun ?_
      rw [hx.v_inv, hy.v_inv]
      cases b <;> exact LRep.v_mk rfl
    · cases hd
      refine .pure hI hrun ?_
      cases b
      · exact hy
      · exact hx
  · cases hd
theorem x_nck (hI : Inv G w0 S0 T g μ a w) {x : Operand} (ho : o.op = .nilCheck x) (hd : denX call G T g0 d j (.nck (cX x)) = some r) : XRes P (Φx w0 S0 g μ w r) o a w := by
  simp only [denX] at hd
  have hx := hI.ev x
  split at hd
  · rename_i h; cases hd; rw [h] at hx
    have hx' := hx
    obtain ⟨b, cs, s, _, _, h3⟩ := hx'
    refine .pure hI (y := a.eval x) ?_ hx
    simp [execOp, ho, h3]
  · rename_i h; cases hd; rw [h] at hx
    have hx' := hx
    obtain ⟨b, q, len, sz, mu, shr, X, _, h3, _⟩ := hx'
    refine .pure hI (y := a.eval x) ?_ hx
    simp [execOp, ho, h3]
  · rename_i h; cases hd; rw [h] at hx
    refine .pure hI (y := a.eval x) ?_ hx
    obtain ⟨b, o', X, hy, _⟩ := hx.fptr_inv
    simp [execOp, ho, hy]
  · rename_i h; cases hd; rw [h] at hx
    refine .pure hI (y := a.eval x) ?_ hx
    obtain ⟨vs, hy, _⟩ := hx.fn_inv
    simp [execOp, ho, hy]
  · cases hd
theorem eqGuard_run {op : BinOp} {t : TypeId} {x y : Operand} {u v : Value} (h : closed u = true ∧ u ≠ .nilIface ∨ closed v = true ∧ v ≠ .nilIface) : (eqGuard op t x y u v).run P w = .ok () w := by
  unfold eqGuard
  rw [Sem.run_ite]
  generalize (!_ : Bool) = q
  cases q
  · rw [if_neg (by simp)]
    cases u <;> cases v <;> first | rfl | (simp [closed] at h; done)
  · rfl
theorem binV_run {op : BinOp} {t : TypeId} {u v z : Value} (h : binV op u v = some z) : (binOp op t u v).run P w = .ok z w ∧ closed z = true ∧ (closed u = true ∧ u ≠ .nilIface) := by
  unfold binV at h
  split at h
  · rename_i k x k' y
    split at h
    · rename_i hk
      subst hk
      cases op <;> simp only [Option.some.injEq, Option.ite_none_left_eq_some] at h <;> first
        | (subst h; exact ⟨by simp [binOp, Op.intArith, Op.intBits, Op.intCmp], rfl, rfl, by simp⟩)
        | (obtain ⟨h0, rfl⟩ := h; exact ⟨by simp [binOp, Op.intDiv, Op.shift, h0], rfl, rfl, by simp⟩)
    · cases op <;> simp only [Option.some.injEq, Option.ite_none_left_eq_some, reduceCtorEq] at h
      all_goals (obtain ⟨h0, rfl⟩ := h; exact ⟨by simp [binOp, Op.shift, h0], rfl, rfl, by simp⟩)
  · rename_i x y
    cases op <;> simp only [Option.some.injEq, Option.ite_none_right_eq_some, reduceCtorEq] at h <;> first
      | (subst h; exact ⟨by simp [binOp, Op.stringOp], rfl, rfl, by simp⟩)
      | (obtain ⟨h0, rfl⟩ := h
         refine ⟨?_, rfl, rfl, by simp⟩
         have : ¬ ((x.size + y.size : Nat) : Int) > IntKind.i64.max := by simp [IntKind.max, IntKind.bits, IntKind.signed]; omega
         simp only [binOp, Op.stringOp, if_neg this]
         rfl)
  · cases h
theorem x_bin (hI : Inv G w0 S0 T g μ a w) {op : BinOp} {t yt : TypeId} {x y : Operand} (ho : o.op = .binOp op t x y yt) (hd : denX call G T g0 d j (.bin op (cX x) (cX y)) = some r) : XRes P (Φx w0 S0 g μ w r) o a w := by
  simp only [denX] at hd
  have hx := hI.ev x
  have hy := hI.ev y
  split at hd
  · rename_i u v hu hv
    rw [hu] at hx; rw [hv] at hy
    simp only [Option.map_eq_some_iff] at hd
    obtain ⟨z, hz, rfl⟩ := hd
    obtain ⟨h1, h2, h3⟩ := binV_run (P := P) (w := w) (t := t) hz
    refine .pure hI (y := z) ?_ (LRep.v_mk h2)
    simp [execOp, ho, hx.v_inv, hy.v_inv, eqGuard_run (P := P) (w := w) (.inl h3), h1]
  · cases hd
theorem x_eqb (hI : Inv G w0 S0 T g μ a w) {ng : Bool} {t yt : TypeId} {x y : Operand} (ht : P.underlying t = some .bool) (ho : o.op = .binOp (if ng then .neq else .eql) t x y yt) (hd : denX call G T g0 d j (.eqb ng (cX x) (cX y)) = some r) : XRes P (Φx w0 S0 g μ w r) o a w := by
  simp only [denX] at hd
  have hx := hI.ev x
  have hy := hI.ev y
  split at hd
  · rename_i u v hu hv
    rw [hu] at hx; rw [hv] at hy
    cases hd
    refine .pure hI (y := .bool ((u == v) != ng)) ?_ (LRep.v_mk rfl)
    have hg : ∀ op, (eqGuard op t x y (.bool u) (.bool v)).run P w = .ok () w := fun op => eqGuard_run (.inl ⟨rfl, by simp⟩)
    cases ng
    · simp [execOp, ho, hx.v_inv, hy.v_inv, hg, run_eql_bool (P := P) w t u v ht]
    · simp [execOp, ho, hx.v_inv, hy.v_inv, hg, run_neq_bool (P := P) w t u v ht]
  · cases hd
theorem x_not (hI : Inv G w0 S0 T g μ a w) {t : TypeId} {x : Operand} (ho : o.op = .unOp .not t x) (hd : denX call G T g0 d j (.not (cX x)) = some r) : XRes P (Φx w0 S0 g μ w r) o a w := by
  simp only [denX] at hd
  have hx := hI.ev x
  split at hd
  · rename_i u hu
    rw [hu] at hx
    cases hd
    exact .pure hI (y := .bool !u) (by simp [execOp, ho, hx.v_inv, Op.unary]) (LRep.v_mk rfl)
  · cases hd
theorem x_neg (hI : Inv G w0 S0 T g μ a w) {t : TypeId} {x : Operand} (ho : o.op = .unOp .neg t x) (hd : denX call G T g0 d j (.neg (cX x)) = some r) : XRes P (Φx w0 S0 g μ w r) o a w := by
  simp only [denX] at hd
  have hx := hI.ev x
  split at hd
  · rename_i k u hu
    rw [hu] at hx
    cases hd
    exact .pure hI (y := .int k (k.wrap (0 - u))) (by simp [execOp, ho, hx.v_inv, Op.unary, Op.intArith]) (LRep.v_mk rfl)
  · cases hd
theorem x_cvi (hI : Inv G w0 S0 T g μ a w) {s t : TypeId} {k : IntKind} {ks : IntKind} {x : Operand} (hs : P.underlying s = some (.int ks)) (ht : P.underlying t = some (.int k)) (ho : o.op = .convert s t x) (hd : denX call G T g0 d j (.cvi k (cX x)) = some r) : XRes P (Φx w0 S0 g μ w r) o a w := by
  simp only [denX] at hd
  have hx := hI.ev x
  split at hd
  · rename_i k' u hu
    rw [hu] at hx
    cases hd
    exact .pure hI (y := .int k (k.wrap u)) (by simp [execOp, ho, hx.v_inv, convert, run_und hs, run_und ht, Conv.intToInt]) (LRep.v_mk rfl)
  · cases hd
theorem LRep1.atom {C : Ctx} {c : AV} {x : Value} (h : LRep1 C c x) : atom c = true := by
  cases c <;> first | rfl | exact h.elim
theorem FRep.l1' {C : Ctx} {c : AV} {x : Value} (h : FRep C.w C.S c x) (ha : atom c = true) : LRep1 C c x := by
  cases h with
  | v h => exact FRep.v h
  | nil => exact FRep.nil
  | emp => exact FRep.emp
  | sl X hk hl hc hr => exact FRep.sl X hk hl hc hr
  | ptr X hc hr => exact FRep.ptr X hc hr
  | fn X hn hv hr => exact FRep.fn X hn hv hr
  | iface h => exact FRep.iface h
  | agg X hn hv hr => simp [Eng.atom] at ha
theorem pack_load {C : Ctx} {t : TypeId} {ag : Bool} {n b q : Nat} {cs : List AV} {X : Nat → Value} {v : AV} (hg : aggT P t = some ag) (hn : szT P t = some n)
    (hc : ∀ (j : Nat) (c : AV), cs[j]? = some c → C.w.cell? ⟨b, q + j, none⟩ = some (X j) ∧ LRep1 C c (X j) ∧ (X j).oneCell = true) (hp : pack ag n cs = some v) :
    ∃ y, (loadVar t ⟨b, q, none⟩).run P C.w = .ok y C.w ∧ LRep C v y := by
  unfold pack at hp
  split at hp
  · rename_i hle
    split at hp
    · rename_i ha
      cases hp
      subst ha
      refine ⟨_, run_loadVar_agg (xs := (List.range n).map X) hg hn (by simp) (fun j x hj => ?_), _, rfl, by simp; omega, fun j c x hj hx => ?_⟩
      · simp only [List.getElem?_map, Option.map_eq_some_iff] at hj
        obtain ⟨i, hi, rfl⟩ := hj
        have hi' := List.getElem?_eq_some_iff.1 hi
        obtain ⟨h1, h2⟩ := hi'
        simp at h1 h2
        subst h2
        have : cs[j]? = some cs[j] := List.getElem?_eq_getElem (by omega)
        exact (hc j _ this).1
      · have hjn : j < n := by
          have := (List.getElem?_eq_some_iff.1 hj).1
          simp at this; omega
        have hj' : cs[j]? = some c := by rw [List.getElem?_take_of_lt hjn] at hj; exact hj
        simp [hjn] at hx
        subst hx
        exact ⟨(hc j c hj').2.1, (hc j c hj').2.2⟩
    · rename_i ha
      split at hp
      · rename_i c cs'
        split at hp
        · cases hp
          have h0 := hc 0 v rfl
          exact ⟨_, run_loadVar_one (by rw [hg]; simp_all) (by simpa using h0.1), .of1 h0.2.1.atom h0.2.1⟩
        · cases hp
      · cases hp
  · cases hp
theorem drop_get {α : Type} {cs : List α} {n j : Nat} {c : α} (h : (cs.drop n)[j]? = some c) : cs[n + j]? = some c := by rwa [List.getElem?_drop] at h
theorem cell_of_heap {w : World} {b i : Nat} {xs : Array Value} {t : TypeId} {fr : Nat × Nat} {x : Value} (h : w.heap[b]? = some (.cells xs t fr)) (hx : xs[i]? = some x) : w.cell? ⟨b, i, none⟩ = some x := by
  unfold World.cell?
  rw [h]
  simpa using hx
theorem x_ld (hI : Inv G w0 S0 T g μ a w) (hg0 : ∀ k x, g0 k = some x → ∃ x', g k = some x' ∧ Le x x') {t : TypeId} {ag : Bool} {n : Nat} {x : Operand} (hag : aggT P t = some ag) (hn : szT P t = some n) (ho : o.op = .load t x) (hd : denX call G T g0 d j (.ld ag n (cX x)) = some r) : XRes P (Φx w0 S0 g μ w r) o a w := by
  simp only [denX] at hd
  have hx := hI.ev x
  have fin : ∀ {b q : Nat} {cs : List AV} {X : Nat → Value} {v : AV}, a.eval x = .pointer (some ⟨b, q, none⟩) →
      (∀ (j : Nat) (c : AV), cs[j]? = some c → w.cell? ⟨b, q + j, none⟩ = some (X j) ∧ LRep1 (mkC w0 S0 w g μ) c (X j) ∧ (X j).oneCell = true) → pack ag n cs = some v → XRes P (Φx w0 S0 g μ w { x := v }) o a w := by
    intro b q cs X v he hc hp
    obtain ⟨y, h1, h2⟩ := pack_load (C := mkC w0 S0 w g μ) (P := P) hag hn hc hp
    refine .pure hI (y := y) ?_ h2
    have h1 : (loadVar t ⟨b, q, none⟩).run P w = .ok y w := h1
    simp [execOp, ho, he, Instr.loadAt, Instr.sureAddr, h1]
  split at hd
  · rename_i cs h; rw [h] at hx
    simp only [Option.map_eq_some_iff] at hd
    obtain ⟨v, hv, rfl⟩ := hd
    obtain ⟨b, q, X, he, hc⟩ := hx.fptr_inv
    exact fin he (fun j c hj => ⟨(hc j c hj).2.1, FRep.l1' (C := mkC w0 S0 w g μ) (hc j c hj).2.2.2 (hc j c hj).2.2.1, (hc j c hj).2.2.2.oneCell (hc j c hj).2.2.1⟩) hv
  · rename_i k i off cs h; rw [h] at hx
    simp only [Option.map_eq_some_iff] at hd
    obtain ⟨v, hv, rfl⟩ := hd
    obtain ⟨b, q, len, sz, mu, shr, X, _, he, _, hc⟩ := hx
    exact fin he (fun j c hj => ⟨(hc j c hj).2.1, FRep.l1' (C := mkC w0 S0 w g μ) (hc j c hj).2.2.2 (hc j c hj).2.2.1, (hc j c hj).2.2.2.oneCell (hc j c hj).2.2.1⟩) hv
  · rename_i k off h; rw [h] at hx
    split at hd
    · rename_i cs s hk
      simp only [Option.map_eq_some_iff] at hd
      obtain ⟨v, hv, rfl⟩ := hd
      obtain ⟨x', hx', hle⟩ := hg0 k _ hk
      obtain ⟨s', rfl⟩ := hle.var
      obtain ⟨b, cs', s1, h1, h2, h3⟩ := hx
      obtain ⟨b', xs, ty, h4, h5, h6, h7⟩ := hI.ob k _ hx'
      have hb : b' = b := by
        have h2' : μ k = some (b, 0) := h2
        have h4' : μ k = some (b', 0) := h4
        rw [h2'] at h4'
        cases h4'; rfl
      subst hb
      refine fin h3 (cs := cs.drop off) (X := fun j => xs.getD (off + j) default) (fun j c hj => ?_) hv
      have hj' := drop_get hj
      have hlt : off + j < xs.size := by rw [h6]; exact (List.getElem?_eq_some_iff.1 hj').1
      have hxs : xs[off + j]? = some (xs.getD (off + j) default) := by simp [Array.getD, hlt]
      exact ⟨cell_of_heap h5 hxs, h7.1 _ _ _ hj' hxs⟩
    · cases hd
  · cases hd
end
end Go.Proofs.YtmhdapjmndfkgaaGreatDoor.Eng
namespace Go.Proofs.YtmhdapjmndfkgaaGreatDoor.Eng
open Go Go.RowKit
section
variable {P : Program} {G : Nat → AV} {w0 w : World} {S0 : Sb} {T : List AV} {g : Key → Option Ob} {μ : Key → Option (Nat × Nat)} {a : Act} {o : Oper} {r : R} {call : Call} {g0 : Key → Option Ob} {d j : Nat}
theorem run_fieldAt {s : TypeId} {fs : Array Field} {f : Nat} {fd : Field} {n b q : Nat} (hs : P.underlying s = some (.struct fs)) (hf : fs[f]? = some fd) (hn : szT P fd.type = some n) (h0 : n ≠ 0) :
    (Instr.fieldAt s (.pointer (some ⟨b, q, none⟩)) f).run P w = .ok (.pointer (some ⟨b, q + fd.offset, none⟩)) w := by
  simp [Instr.fieldAt, run_und hs, hf, Instr.sureAddr, fieldPlace, run_sizeOf hn, h0, addr_add]
theorem shift_rep {x y : AV} {off : Nat} (hx : (∃ k o, x = .ptr k o ∧ y = .ptr k (o + off)) ∨ (∃ k i o cs, x = .eptr k i o cs ∧ off ≤ cs.length ∧ y = .eptr k i (o + off) (cs.drop off)) ∨ (∃ cs, x = .fptr cs ∧ y = .fptr (cs.drop off)))
    {C : Ctx} {v : Value} (h : LRep C x v) : ∃ b q, v = .pointer (some ⟨b, q, none⟩) ∧ LRep C y (.pointer (some ⟨b, q + off, none⟩)) := by
  rcases hx with ⟨k, o, rfl, rfl⟩ | ⟨k, i, o, cs, rfl, hle, rfl⟩ | ⟨cs, rfl, rfl⟩
  · obtain ⟨b, cs, s, h1, h2, h3⟩ := h
    exact ⟨b, o, h3, b, cs, s, h1, h2, rfl⟩
  · obtain ⟨b, q, len, sz, mu, shr, X, h1, h2, h3, h4⟩ := h
    refine ⟨b, q, h2, b, q + off, len, sz, mu, shr, fun j => X (off + j), h1, rfl, fun hm => ?_, fun j c hj => ?_⟩
    · obtain ⟨base, h5, h6, h7, h8⟩ := h3 hm
      exact ⟨base, h5, by omega, h7, by rw [List.length_drop]; omega⟩
    · have := h4 _ c (drop_get hj)
      rw [Nat.add_assoc]; exact this
  · obtain ⟨b, q, X, h1, h2⟩ := h.fptr_inv
    refine ⟨b, q, h1, show FRep _ _ _ _ from .ptr (fun j => X (off + j)) (fun j c hj => ?_) (fun j c hj => (h2 _ c (drop_get hj)).2.2.2)⟩
    have := h2 _ c (drop_get hj)
    rw [Nat.add_assoc]; exact ⟨this.1, this.2.1, this.2.2.1⟩
theorem x_fad (hI : Inv G w0 S0 T g μ a w) {s : TypeId} {fs : Array Field} {f : Nat} {fd : Field} {n : Nat} {x : Operand} (hs : P.underlying s = some (.struct fs)) (hf : fs[f]? = some fd) (hn : szT P fd.type = some n) (h0 : n ≠ 0)
    (ho : o.op = .fieldAddr s x f) (hd : denX call G T g0 d j (.fad (cX x) fd.offset) = some r) : XRes P (Φx w0 S0 g μ w r) o a w := by
  simp only [denX] at hd
  have hx := hI.ev x
  have fin : ∀ {y : AV}, ((∃ k o, ev T G (cX x) = .ptr k o ∧ y = .ptr k (o + fd.offset)) ∨ (∃ k i o cs, ev T G (cX x) = .eptr k i o cs ∧ fd.offset ≤ cs.length ∧ y = .eptr k i (o + fd.offset) (cs.drop fd.offset)) ∨ (∃ cs, ev T G (cX x) = .fptr cs ∧ y = .fptr (cs.drop fd.offset))) →
      XRes P (Φx w0 S0 g μ w { x := y }) o a w := by
    intro y hy
    obtain ⟨b, q, h1, h2⟩ := shift_rep hy hx
    exact .pure hI (by simp [execOp, ho, h1, run_fieldAt hs hf hn h0]) h2
  split at hd
  · rename_i k o' h; cases hd; exact fin (.inl ⟨_, _, h, rfl⟩)
  · rename_i k i o' cs h
    split at hd
    · rename_i hle; cases hd; exact fin (.inr (.inl ⟨_, _, _, _, h, hle, rfl⟩))
    · cases hd
  · rename_i cs h; cases hd; exact fin (.inr (.inr ⟨_, h, rfl⟩))
  · cases hd
theorem run_part {t : TypeId} {ag : Bool} {n off : Nat} {cs : List AV} {vs : Array Value} {v : AV} {C : Ctx} (hg : aggT P t = some ag) (hn : szT P t = some n)
    (hs : vs.size = cs.length) (hc : ∀ (j : Nat) (c : AV) (x : Value), cs[j]? = some c → vs[j]? = some x → LRep1 C c x ∧ x.oneCell = true) (hp : pack ag n (cs.drop off) = some v) :
    ∃ y, (part t vs off).run P w = .ok y w ∧ LRep C v y := by
  unfold pack at hp
  split at hp
  · rename_i hle
    rw [List.length_drop] at hle
    split at hp
    · rename_i ha
      cases hp
      subst ha
      refine ⟨.agg (vs.extract off (off + n)), by simp [part, run_isAgg hg, run_sizeOf hn], _, rfl, ?_, fun j c x hj hx => ?_⟩
      · rw [List.length_take, List.length_drop, Array.size_extract]; omega
      · have hjn : j < n := by
          have := (List.getElem?_eq_some_iff.1 hj).1
          simp at this; omega
        have hj' : cs[off + j]? = some c := by rw [List.getElem?_take_of_lt hjn] at hj; exact drop_get hj
        have hx' : vs[off + j]? = some x := by
          rw [Array.getElem?_extract] at hx
          split at hx
          · exact hx
          · cases hx
        exact hc _ c x hj' hx'
    · rename_i ha
      split at hp
      · rename_i c cs' hcs
        split at hp
        · cases hp
          have hj : cs[off]? = some v := by
            have : (cs.drop off)[0]? = some v := by rw [hcs]; rfl
            simpa using drop_get this
          have hlt : off < vs.size := by rw [hs]; exact (List.getElem?_eq_some_iff.1 hj).1
          have hx : vs[off]? = some vs[off] := Array.getElem?_eq_getElem hlt
          have h0 := hc off v _ hj hx
          refine ⟨vs[off], ?_, .of1 h0.1.atom h0.1⟩
          have ha' : ag = false := by simpa using ha
          subst ha'
          simp [part, run_isAgg hg, hx]
        · cases hp
      · cases hp
  · cases hp
theorem x_fld (hI : Inv G w0 S0 T g μ a w) {s : TypeId} {fs : Array Field} {f : Nat} {fd : Field} {ag : Bool} {n : Nat} {x : Operand} (hs : P.underlying s = some (.struct fs)) (hf : fs[f]? = some fd) (hg : aggT P fd.type = some ag) (hn : szT P fd.type = some n)
    (ho : o.op = .field s x f) (hd : denX call G T g0 d j (.fld (cX x) fd.offset n ag) = some r) : XRes P (Φx w0 S0 g μ w r) o a w := by
  simp only [denX] at hd
  have hx := hI.ev x
  split at hd
  · rename_i cs h
    rw [h] at hx
    simp only [Option.map_eq_some_iff] at hd
    obtain ⟨v, hv, rfl⟩ := hd
    obtain ⟨vs, h1, h2, h3⟩ := hx
    obtain ⟨y, h4, h5⟩ := run_part (P := P) (w := w) hg hn h2 h3 hv
    exact .pure hI (y := y) (by simp [execOp, ho, h1, Instr.field, run_und hs, hf, asAgg, h4]) h5
  · cases hd
theorem x_ixa (hI : Inv G w0 S0 T g μ a w) {t e : TypeId} {len : Nat} {ag : Bool} {n : Nat} {x i : Operand} (ht : P.underlying t = some (.array len e)) (hg : aggT P e = some ag) (hn : szT P e = some n)
    (ho : o.op = .index t x i) (hd : denX call G T g0 d j (.ixa len n ag (cX x) (cX i)) = some r) : XRes P (Φx w0 S0 g μ w r) o a w := by
  simp only [denX] at hd
  have hx := hI.ev x
  have hi := hI.ev i
  split at hd
  · rename_i cs k q h hq
    rw [h] at hx; rw [hq] at hi
    split at hd
    · rename_i hlt
      simp only [Option.map_eq_some_iff] at hd
      obtain ⟨v, hv, rfl⟩ := hd
      obtain ⟨vs, h1, h2, h3⟩ := hx
      obtain ⟨y, h4, h5⟩ := run_part (P := P) (w := w) hg hn h2 h3 hv
      exact .pure hI (y := y) (by simp [execOp, ho, h1, hi.v_inv, Instr.index, run_und ht, asIntOf, hlt.1, hlt.2, run_sizeOf hn, h4]) h5
    · cases hd
  · cases hd
theorem x_ext (hI : Inv G w0 S0 T g μ a w) {i : Nat} {x : Operand} (ho : o.op = .extract x i) (hd : denX call G T g0 d j (.ext (cX x) i) = some r) : XRes P (Φx w0 S0 g μ w r) o a w := by
  simp only [denX] at hd
  have hx := hI.ev x
  split at hd
  · rename_i cs h
    rw [h] at hx
    simp only [Option.map_eq_some_iff] at hd
    obtain ⟨v, hv, rfl⟩ := hd
    obtain ⟨vs, h1, h2, h3⟩ := hx
    have hlt : i < vs.size := by rw [h2]; exact (List.getElem?_eq_some_iff.1 hv).1
    have hxi : vs[i]? = some vs[i] := Array.getElem?_eq_getElem hlt
    have h4 := h3 i v _ hv hxi
    refine .pure hI (y := vs[i]) (by simp [execOp, ho, h1, Instr.extract, hxi]) ?_
    cases v <;> first | exact h4 | exact h4.elim
  · cases hd
theorem x_ixs (hI : Inv G w0 S0 T g μ a w) {t : TypeId} {x i : Operand} (ht : P.underlying t = some .string)
    (ho : o.op = .index t x i) (hd : denX call G T g0 d j (.ixs (cX x) (cX i)) = some r) : XRes P (Φx w0 S0 g μ w r) o a w := by
  simp only [denX] at hd
  have hx := hI.ev x
  have hi := hI.ev i
  split at hd
  · rename_i s k q h hq
    rw [h] at hx; rw [hq] at hi
    split at hd
    · rename_i h0
      split at hd
      · rename_i b hb
        cases hd
        exact .pure hI (y := .int .u8 b.toNat) (by simp [execOp, ho, hx.v_inv, hi.v_inv, Instr.index, run_und ht, asIntOf, h0, hb]) (LRep.v_mk rfl)
      · cases hd
    · cases hd
  · cases hd
theorem bnd_run {n : Nat} {x : AV} {m : Nat} {C : Ctx} {y : Value} {code : BoundsCode} (h : bnd n (some x) = some m) (hy : LRep C x y) : (Instr.sliceBound y n code).run P w = .ok m w := by
  unfold bnd at h
  split at h
  · cases h
  · rename_i k i he
    cases he
    split at h
    · rename_i hlt
      cases h
      simp [hy.v_inv, Instr.sliceBound, asIntOf, hlt.1, hlt.2]
    · cases h
  · cases h
theorem bnd_mono {n m h : Nat} {x : AV} (hb : bnd n (some x) = some h) (hm : n ≤ m) : bnd m (some x) = some h := by
  unfold bnd at hb ⊢
  split at hb
  · rename_i he; cases he
  · rename_i k i he
    cases he
    split at hb
    · rename_i hlt; show (if _ then _ else _) = _; rw [if_pos ⟨hlt.1, by omega⟩]; exact hb
    · cases hb
  · cases hb
theorem bounds_run {isS : Bool} {n cap : Nat} {lo hi : Option Operand} (hI : Inv G w0 S0 T g μ a w) {l h : Nat} (hcap : n ≤ cap)
    (hh : (match hi.map cX with | none => some n | some x => bnd n (some (ev T G x))) = some h) (hl : (match lo.map cX with | none => some 0 | some x => bnd h (some (ev T G x))) = some l) :
    (Instr.sliceBounds isS n cap (lo.map a.eval) (hi.map a.eval) none).run P w = .ok (l, h, cap) w ∧ l ≤ h ∧ h ≤ n := by
  have bl : ∀ {m x r}, bnd m (some x) = some r → r ≤ m := by
    intro m x r hb
    unfold bnd at hb
    split at hb
    · cases hb
    · split at hb
      · cases hb; omega
      · cases hb
    · cases hb
  cases hi with
  | none =>
    simp only [Option.map_none, Option.some.injEq] at hh
    subst hh
    cases lo with
    | none => simp only [Option.map_none, Option.some.injEq] at hl; subst hl; exact ⟨by simp [Instr.sliceBounds], by omega, by omega⟩
    | some x => simp only [Option.map_some] at hl; exact ⟨by simp [Instr.sliceBounds, bnd_run (P := P) (w := w) hl (hI.ev x)], bl hl, by omega⟩
  | some y =>
    simp only [Option.map_some] at hh
    have hh' : bnd cap (some (ev T G (cX y))) = some h := bnd_mono hh hcap
    cases lo with
    | none => simp only [Option.map_none, Option.some.injEq] at hl; subst hl; exact ⟨by simp [Instr.sliceBounds, bnd_run (P := P) (w := w) hh' (hI.ev y)], by omega, bl hh⟩
    | some x => simp only [Option.map_some] at hl; exact ⟨by simp [Instr.sliceBounds, bnd_run (P := P) (w := w) hh' (hI.ev y), bnd_run (P := P) (w := w) hl (hI.ev x)], bl hl, bl hh⟩
theorem x_sls (hI : Inv G w0 S0 T g μ a w) {t : TypeId} {x : Operand} {lo hi : Option Operand} (ht : P.underlying t = some .string)
    (ho : o.op = .slice t x lo hi none) (hd : denX call G T g0 d j (.sls (cX x) (lo.map cX) (hi.map cX)) = some r) : XRes P (Φx w0 S0 g μ w r) o a w := by
  simp only [denX] at hd
  have hx := hI.ev x
  split at hd
  · rename_i s h
    rw [h] at hx
    split at hd
    · rename_i hh hhe
      split at hd
      · rename_i l hle
        cases hd
        obtain ⟨h1, _, _⟩ := bounds_run (P := P) (isS := false) (cap := s.size) hI (Nat.le_refl _) hhe hle
        exact .pure hI (y := .string (s.extract l hh)) (by simp [execOp, ho, hx.v_inv, Instr.sliceAt, run_und ht, Instr.slice, h1]) (LRep.v_mk rfl)
      · cases hd
    · cases hd
  · cases hd
end
end Go.Proofs.YtmhdapjmndfkgaaGreatDoor.Eng
namespace Go.Proofs.YtmhdapjmndfkgaaGreatDoor.Eng
open Go Go.RowKit
section
variable {P : Program} {G : Nat → AV} {w0 w : World} {S0 : Sb} {T : List AV} {g : Key → Option Ob} {μ : Key → Option (Nat × Nat)} {a : Act} {o : Oper} {r : R} {call : Call} {g0 : Key → Option Ob} {d j : Nat}
theorem slice_inv {C : Ctx} {x : AV} {es : List (List AV)} {y : Value} (he : elemsOf x = some es) (h : LRep C x y) :
    (y = .slice none 0 0 ∧ es = []) ∨ (∃ a cap, y = .slice (some a) 0 cap ∧ es = []) ∨ ∃ b o cap sz, ∃ X : Nat → Nat → Value, y = .slice (some ⟨b, o, none⟩) es.length cap ∧ es.length ≤ cap ∧ (∀ (i : Nat) (e : List AV), es[i]? = some e → e.length = sz) ∧
      ∀ (i : Nat) (e : List AV) (j : Nat) (c : AV), es[i]? = some e → e[j]? = some c → C.w.cell? ⟨b, o + (i * sz + j), none⟩ = some (X i j) ∧ atom c = true ∧ FRep C.w C.S c (X i j) := by
  cases x <;> simp only [elemsOf, Option.some.injEq, reduceCtorEq] at he <;> subst he
  · exact .inl ⟨h, rfl⟩
  · rcases h.fsl_inv with h | h | ⟨b, o, cap, sz, X, h1, hk, h2, h3⟩
    · exact .inl h
    · exact .inr (.inl h)
    · exact .inr <| .inr ⟨b, o, cap, sz, X, h1, hk, h2, fun i e j c he hc => (h3 i e j c he hc).2⟩
  · obtain ⟨len, sz, mu, shr, h1, h2, h3, h4, h5⟩ := h
    rcases h5 with ⟨h5, h6, _⟩ | ⟨b, o, cap, X, h5, hk, h6, h7⟩
    · exact .inl ⟨h5, h6⟩
    · exact .inr <| .inr ⟨b, o, cap, sz, X, h5, hk, h4, fun i e j c he hc => (h7 i e j c he hc).2⟩
theorem call1 {x : Operand} {c : Go.Call} {b : Builtin} {v : Value} (ho : o.op = .call c) (hc : c.callee = .builtin b) (ha : c.args.toList = [x]) (hv : ∀ cs, (builtin b c.argTypes o.type cs #[a.eval x]).run P w = .ok (.value v) w) : (execOp a.eval o).run P w = .ok (.value v) w := by
  have ha' : c.args = #[x] := by cases hh : c.args; simp_all
  simp only [execOp, ho, resolve, hc, ha', Sem.run_bind, Sem.run_pure, Result.andThen_ok, invoke]
  rw [show Array.map a.eval #[x] = #[a.eval x] by simp]
  exact hv _
theorem x_lenS (hI : Inv G w0 S0 T g μ a w) {x : Operand} {c : Go.Call} {t : TypeId} (ho : o.op = .call c) (hc : c.callee = .builtin .len) (ha : c.args.toList = [x]) (ht : c.argTypes[0]? = some t)
    (hu : P.underlying t = some .string) (hd : denX call G T g0 d j (.len true (cX x)) = some r) : XRes P (Φx w0 S0 g μ w r) o a w := by
  simp only [denX] at hd
  have hx := hI.ev x
  split at hd
  · rename_i s h
    rw [h] at hx
    cases hd
    exact .pure hI (y := .int .i64 s.size) (call1 ho hc ha (fun _ => by simp [builtin, Builtin.len_, ht, run_und hu, hx.v_inv, goInt])) (LRep.v_mk rfl)
  · cases hd
theorem x_lenA (hI : Inv G w0 S0 T g μ a w) {x : Operand} {c : Go.Call} {t e : TypeId} (ho : o.op = .call c) (hc : c.callee = .builtin .len) (ha : c.args.toList = [x]) (ht : c.argTypes[0]? = some t)
    (hu : P.underlying t = some (.slice e)) (hd : denX call G T g0 d j (.len false (cX x)) = some r) : XRes P (Φx w0 S0 g μ w r) o a w := by
  simp only [denX, Option.map_eq_some_iff] at hd
  obtain ⟨es, hes, rfl⟩ := hd
  refine .pure hI (y := .int .i64 es.length) (call1 ho hc ha (fun _ => ?_)) (LRep.v_mk rfl)
  rcases slice_inv hes (hI.ev x) with ⟨h1, rfl⟩ | ⟨a, cap, h1, rfl⟩ | ⟨b, q, cap, sz, X, h1, _⟩
  · simp [builtin, Builtin.len_, ht, run_und hu, h1, goInt]
  · simp [builtin, Builtin.len_, ht, run_und hu, h1, goInt]
  · simp [builtin, Builtin.len_, ht, run_und hu, h1, goInt]
theorem numsOf_get : ∀ {es : List (List AV)} {ns : List Int}, numsOf es = some ns → ns.length = es.length ∧ ∀ i, i < es.length → es[i]? = some [.v (.int .u8 (ns.getD i 0))]
  | [], ns, h => by cases h; exact ⟨rfl, fun i hi => by simp at hi⟩
  | e :: l, ns, h => by
    unfold numsOf at h
    split at h
    · rename_i h1; cases h1
    · rename_i n l' h1
      cases h1
      obtain ⟨m, hm, rfl⟩ := Option.map_eq_some_iff.1 h
      obtain ⟨h2, h3⟩ := numsOf_get hm
      refine ⟨by simp [h2], fun i hi => ?_⟩
      cases i with
      | zero => simp
      | succ i =>
        simp only [List.getElem?_cons_succ, List.getD_cons_succ]
        exact h3 i (by simpa using hi)
    · cases h
theorem x_b2s (hI : Inv G w0 S0 T g μ a w) {s t e : TypeId} {x : Operand} (hs : P.underlying s = some (.slice e)) (he : P.underlying e = some (.int .u8)) (ht : P.underlying t = some .string) (ho : o.op = .convert s t x) (hd : denX call G T g0 d j (.b2s (cX x)) = some r) : XRes P (Φx w0 S0 g μ w r) o a w := by
  simp only [denX, Option.bind_eq_some_iff] at hd
  obtain ⟨es, hes, hd⟩ := hd
  obtain ⟨ns, hns, rfl⟩ := Option.map_eq_some_iff.1 hd
  obtain ⟨h1, h2⟩ := numsOf_get hns
  have hrun : (convert s t (a.eval x)).run P w = .ok (.string (strOfNums ns)) w := by
    rcases slice_inv hes (hI.ev x) with ⟨h3, rfl⟩ | ⟨b, cap, h3, rfl⟩ | ⟨b, q, cap, sz, X, h3, _, h4, h5⟩
    · have : ns = [] := List.length_eq_zero_iff.1 h1
      subst this
      rw [h3]
      exact run_convert_bytes_nil w s e hs he 0 0 t ht
    · have : ns = [] := List.length_eq_zero_iff.1 h1
      subst this
      rw [h3]
      exact run_convert_bytes_back w s t e b cap [] hs he ht (fun j hj => by simp at hj)
    · rw [h3]
      refine run_convert_bytes_arg w s e hs he b q es.length cap ns h1 (fun i hi => ?_) t ht
      have hi2 := h2 i hi
      have hsz : sz = 1 := (h4 i _ hi2).symm
      subst hsz
      obtain ⟨c1, _, c3⟩ := h5 i _ 0 _ hi2 rfl
      rw [Nat.mul_one, Nat.add_zero] at c1
      have c1 : w.cell? ⟨b, q + i, none⟩ = some (X i 0) := c1
      cases hX : X i 0 with
      | _ =>
        rw [hX] at c3 c1
        first
        | (cases c3; exact c1)
        | (cases c3)
  exact .pure hI (y := .string (strOfNums ns)) (by simp [execOp, ho, hrun]) (LRep.v_mk rfl)
theorem eqGuard_run' {op : BinOp} {t : TypeId} {x y : Operand} {u v : Value} (h : u ≠ .nilIface ∧ ∀ cs, u ≠ .agg cs) : (eqGuard op t x y u v).run P w = .ok () w := by
  unfold eqGuard
  rw [Sem.run_ite]
  generalize (!_ : Bool) = q
  cases q
  · rw [if_neg (by simp)]
    cases u <;> first | rfl | (simp at h; done)
  · rfl
theorem eqn_run {ng : Bool} {t yt : TypeId} {x y : Operand} {b : Bool} (ho : o.op = .binOp (if ng then .neq else .eql) t x y yt) (hg : a.eval x ≠ .nilIface ∧ ∀ cs, a.eval x ≠ .agg cs)
    (h1 : (binOp .eql t (a.eval x) (a.eval y)).run P w = .ok (.bool b) w) (h2 : (binOp .neq t (a.eval x) (a.eval y)).run P w = .ok (.bool (!b)) w) : (execOp a.eval o).run P w = .ok (.value (.bool (b != ng))) w := by
  have hg' : ∀ op, (eqGuard op t x y (a.eval x) (a.eval y)).run P w = .ok () w := fun op => eqGuard_run' hg
  cases ng
  · simp [execOp, ho, hg', h1]
  · simp [execOp, ho, hg', h2]
theorem equalIn_slice {t e : TypeId} {n c n' c' dd : Nat} {p : Option Addr} (ht : P.underlying t = some (.slice e)) : (Op.equalIn (dd + 1) t (.slice p n' c') (.slice none n c)).run P w = .ok p.isNone w := by
  cases p <;> simp [Op.equalIn, run_und ht]
theorem equalIn_func {t : TypeId} {dd : Nat} {ps rs : Array TypeId} {v : Bool} {f : Fn} {x y : Array Value} (ht : P.underlying t = some (.func ps rs v)) : (Op.equalIn (dd + 1) t (.func f x y) .nilFunc).run P w = .ok false w := by
  simp [Op.equalIn, run_und ht]
theorem equalIn_func0 {t : TypeId} {dd : Nat} {ps rs : Array TypeId} {v : Bool} (ht : P.underlying t = some (.func ps rs v)) : (Op.equalIn (dd + 1) t .nilFunc .nilFunc).run P w = .ok true w := by
  simp [Op.equalIn, run_und ht]
theorem equalIn_ptr {t e : TypeId} {dd : Nat} {p : Option Addr} (ht : P.underlying t = some (.pointer e)) : (Op.equalIn (dd + 1) t (.pointer p) (.pointer none)).run P w = .ok p.isNone w := by
  cases p <;> simp [Op.equalIn, run_und ht]
theorem eql_of_equal {t : TypeId} {u v : Value} {b : Bool} (hu : (∃ p n c, u = .slice p n c) ∨ (∃ f x y, u = .func f x y) ∨ u = .nilFunc ∨ (∃ p, u = .pointer p)) (h : (Op.equal t u v).run P w = .ok b w) :
    (binOp .eql t u v).run P w = .ok (.bool b) w ∧ (binOp .neq t u v).run P w = .ok (.bool (!b)) w := by
  rcases hu with ⟨p, n, c, rfl⟩ | ⟨f, x, y, rfl⟩ | rfl | ⟨p, rfl⟩ <;> cases v <;> simp [binOp, h]
theorem x_eqn0 (hI : Inv G w0 S0 T g μ a w) {ng : Bool} {t yt e : TypeId} {x : Operand} {n c : Nat} (ht : P.underlying t = some (.slice e))
    (ho : o.op = .binOp (if ng then .neq else .eql) t x (.const (.slice none n c)) yt) (hd : denX call G T g0 d j (.eqn 0 ng (cX x)) = some r) : XRes P (Φx w0 S0 g μ w r) o a w := by
  have hx := hI.ev x
  have fin : ∀ (p : Option Addr) (n' c' : Nat), a.eval x = .slice p n' c' → XRes P (Φx w0 S0 g μ w { x := .v (.bool (p.isNone != ng)) }) o a w := by
    intro p n' c' hp
    have h := eql_of_equal (P := P) (w := w) (t := t) (u := a.eval x) (v := .slice none n c) (b := p.isNone) (.inl ⟨_, _, _, hp⟩) (by
      rw [hp]; exact equalIn_slice (dd := 9999) ht)
    exact .pure hI (eqn_run ho (by rw [hp]; simp) h.1 h.2) (LRep.v_mk rfl)
  simp only [denX] at hd
  split at hd
  · rename_i h; rw [h] at hx; cases hd; exact fin none 0 0 hx
  · rename_i h; rw [h] at hx; cases hd
    rcases slice_inv (x := .fsl _) rfl hx with ⟨_, h1⟩ | ⟨_, _, _, h1⟩ | ⟨b, q, cap, sz, X, h1, _⟩
    · cases h1
    · cases h1
    · exact fin _ _ _ h1
  · rename_i h; rw [h] at hx; cases hd
    rcases slice_inv (x := .asl _ _) rfl hx with ⟨_, h1⟩ | ⟨_, _, _, h1⟩ | ⟨b, q, cap, sz, X, h1, _⟩
    · cases h1
    · cases h1
    · exact fin _ _ _ h1
  all_goals first | (rename_i h0 _; cases h0; done) | (rename_i h0; cases h0; done) | cases hd
theorem x_eqn1 (hI : Inv G w0 S0 T g μ a w) {ng v : Bool} {t yt : TypeId} {ps rs : Array TypeId} {x : Operand} (ht : P.underlying t = some (.func ps rs v))
    (ho : o.op = .binOp (if ng then .neq else .eql) t x (.const .nilFunc) yt) (hd : denX call G T g0 d j (.eqn 1 ng (cX x)) = some r) : XRes P (Φx w0 S0 g μ w r) o a w := by
  have hx := hI.ev x
  simp only [denX] at hd
  split at hd
  all_goals first | (rename_i h0 _; cases h0; done) | (rename_i h0; cases h0; done) | skip
  · rename_i h; rw [h] at hx; cases hd
    obtain ⟨vs, h1, _⟩ := hx.fn_inv
    have h := eql_of_equal (P := P) (w := w) (t := t) (u := a.eval x) (v := .nilFunc) (b := false) (.inr (.inl ⟨_, _, _, h1⟩)) (by
      rw [h1]; exact equalIn_func (dd := 9999) ht)
    exact .pure hI (eqn_run ho (by rw [h1]; simp) h.1 h.2) (LRep.v_mk rfl)
  · rename_i h; rw [h] at hx; cases hd
    have h1 := hx.v_inv
    have h := eql_of_equal (P := P) (w := w) (t := t) (u := a.eval x) (v := .nilFunc) (b := true) (.inr (.inr (.inl h1))) (by
      rw [h1]; exact equalIn_func0 (dd := 9999) ht)
    exact .pure hI (eqn_run ho (by rw [h1]; simp) h.1 h.2) (LRep.v_mk rfl)
  · cases hd
theorem x_eqn2 (hI : Inv G w0 S0 T g μ a w) {ng : Bool} {t yt e : TypeId} {x : Operand} (ht : P.underlying t = some (.pointer e))
    (ho : o.op = .binOp (if ng then .neq else .eql) t x (.const (.pointer none)) yt) (hd : denX call G T g0 d j (.eqn 2 ng (cX x)) = some r) : XRes P (Φx w0 S0 g μ w r) o a w := by
  have hx := hI.ev x
  have fin : ∀ (p : Option Addr), a.eval x = .pointer p → XRes P (Φx w0 S0 g μ w { x := .v (.bool (p.isNone != ng)) }) o a w := by
    intro p hp
    have h := eql_of_equal (P := P) (w := w) (t := t) (u := a.eval x) (v := .pointer none) (b := p.isNone) (.inr (.inr (.inr ⟨_, hp⟩))) (by
      rw [hp]; exact equalIn_ptr (dd := 9999) ht)
    exact .pure hI (eqn_run ho (by rw [hp]; simp) h.1 h.2) (LRep.v_mk rfl)
  simp only [denX] at hd
  split at hd
  all_goals first | (rename_i h0 _; cases h0; done) | (rename_i h0; cases h0; done) | skip
  · rename_i h; rw [h] at hx; cases hd; exact fin none hx.v_inv
  · rename_i h; rw [h] at hx; cases hd; obtain ⟨b, cs, s, _, _, h3⟩ := hx; exact fin _ h3
  · rename_i h; rw [h] at hx; cases hd; exact fin none hx
  · rename_i h; rw [h] at hx; cases hd; obtain ⟨b, q, X, h3, _⟩ := hx.fptr_inv; exact fin _ h3
  · cases hd
theorem x_mki (hI : Inv G w0 S0 T g μ a w) {t : TypeId} {x : Operand} (ht : ∀ ms, P.underlying t ≠ some (.interface ms)) (hs : (P.underlying t).isSome) (ho : o.op = .makeInterface t x) (hd : denX call G T g0 d j (.mki t (cX x)) = some r) : XRes P (Φx w0 S0 g μ w r) o a w := by
  simp only [denX, Option.bind_eq_some_iff, Option.some.injEq] at hd
  obtain ⟨y, hy, rfl⟩ := hd
  cases hu : P.underlying t with
  | none => rw [hu] at hs; cases hs
  | some desc =>
  refine .inl ⟨.iface t (a.eval x), w, ?_, _, hI.fxSeal _ (keys_old (hI.ev x)) fun E hinj hk => ?_⟩
  · simp only [execOp, ho, Sem.run_bind, Instr.makeInterface, run_und hu, Result.andThen_ok]
    cases desc <;> first | rfl | exact absurd hu (ht _)
  · exact show FRep _ _ _ _ from .iface (frz_rep E hinj hy hk (hI.ev x))
theorem ofVal_repA (C : Ctx) (x : Value) : LRepA C (ofVal x) x ∧ ∀ vs, ofVal x ≠ .tup vs := by
  have h := ofVal_rep C x
  have hn : ∀ vs, ofVal x ≠ .tup vs := by
    intro vs
    unfold ofVal
    split
    · split <;> simp
    · intro h
      have := ofCell_atom x
      rw [h] at this
      cases this
  refine ⟨?_, hn⟩
  generalize ofVal x = q at h hn
  cases q <;> first | exact h | exact absurd rfl (hn _)
theorem LRepA.lr {C : Ctx} {c : AV} {x : Value} (h : LRepA C c x) : LRep C c x := by
  cases c <;> first | exact h | exact h.elim
theorem FRep.la {C : Ctx} {c : AV} {x : Value} (h : FRep C.w C.S c x) : LRepA C c x := by
  cases h with
  | v h => exact FRep.v h
  | nil => exact FRep.nil
  | emp => exact FRep.emp
  | sl X hk hl hc hr => exact FRep.sl X hk hl hc hr
  | ptr X hc hr => exact FRep.ptr X hc hr
  | fn X hn hv hr => exact FRep.fn X hn hv hr
  | iface h => exact FRep.iface h
  | agg X hn hv hr => exact ⟨_, rfl, hn, fun j c x hj hx => by
      obtain ⟨h1, h2⟩ := hv j c hj
      rw [hx] at h1; cases h1
      exact ⟨FRep.l1' (hr j c hj) h2, (hr j c hj).oneCell h2⟩⟩
theorem tup2 {C : Ctx} {c : AV} {x : Value} {b : Bool} (h : LRepA C c x) : LRep C (.tup [c, .v (.bool b)]) (.tuple #[x, .bool b]) := by
  refine ⟨_, rfl, rfl, fun j c x hj hx => ?_⟩
  match j with
  | 0 => simp at hj hx; subst hj hx; exact h
  | 1 => simp at hj hx; subst hj hx; exact FRep.v rfl
  | j + 2 => simp at hj
theorem LRep.iface_inv {C : Ctx} {t : TypeId} {c : AV} {y : Value} (h : LRep C (.iface t c) y) : ∃ x, y = .iface t x ∧ FRep C.w C.S c x := by
  have h : FRep C.w C.S (.iface t c) y := h
  cases h with
  | iface h9 => exact ⟨_, rfl, h9⟩
theorem x_tas (hI : Inv G w0 S0 T g μ a w) {xt t : TypeId} {ok : Bool} {x : Operand} {z : Value} (ht : ∀ ms, P.underlying t ≠ some (.interface ms)) (hs : (P.underlying t).isSome) (hz : (P.info? t).bind (·.zero) = some z)
    (ho : o.op = .typeAssert x xt t ok) (hd : denX call G T g0 d j (.tas (cX x) t ok (ofVal z)) = some r) : XRes P (Φx w0 S0 g μ w r) o a w := by
  cases hu : P.underlying t with
  | none => rw [hu] at hs; cases hs
  | some desc =>
  have hx := hI.ev x
  have no : ∀ ms, desc ≠ .interface ms := fun ms h => ht ms (by rw [hu, h])
  have hzr := (ofVal_repA (mkC w0 S0 w g μ) z).1
  have run : ∀ v, (Instr.typeAssert (a.eval x) xt t ok).run P w = .ok v w → (execOp a.eval o).run P w = .ok (.value v) w := by
    intro v hv
    simp [execOp, ho, hv]
  simp only [denX] at hd
  split at hd
  · rename_i u y h
    rw [h] at hx
    obtain ⟨vy, h1, h2⟩ := hx.iface_inv
    split at hd
    · rename_i hut
      cases hd
      subst hut
      cases ok
      · refine .pure hI (run vy ?_) (FRep.la (C := mkC w0 S0 w g μ) h2).lr
        simp only [Instr.typeAssert, h1, Sem.run_bind, run_und hu, Result.andThen_ok]
        cases desc <;> first | rfl | exact absurd rfl (no _) | simp
      · refine .pure hI (run (.tuple #[vy, .bool true]) ?_) (tup2 (FRep.la (C := mkC w0 S0 w g μ) h2))
        simp only [Instr.typeAssert, h1, Sem.run_bind, run_und hu, Result.andThen_ok]
        cases desc <;> first | rfl | exact absurd rfl (no _) | simp
    · rename_i hut
      split at hd
      · rename_i hok
        cases hd
        subst hok
        refine .pure hI (run (.tuple #[z, .bool false]) ?_) (tup2 hzr)
        simp only [Instr.typeAssert, h1, Sem.run_bind, run_und hu, Result.andThen_ok]
        cases desc <;> first | exact absurd rfl (no _) | simp [hut, run_zero hz]
      · cases hd
  · rename_i h
    rw [h] at hx
    split at hd
    · rename_i hok
      cases hd
      subst hok
      refine .pure hI (run (.tuple #[z, .bool false]) ?_) (tup2 hzr)
      simp only [Instr.typeAssert, hx.v_inv, Sem.run_bind, run_und hu, Result.andThen_ok]
      cases desc <;> first | exact absurd rfl (no _) | simp [run_zero hz]
    · cases hd
  · cases hd
theorem run_indexAt {t e : TypeId} {s n cap b q : Nat} {i : Int} {k : IntKind} (ht : P.underlying t = some (.slice e)) (hs : szT P e = some s) (h0 : 0 ≤ i) (h1 : i.toNat < n) :
    (Instr.indexAt t (.slice (some ⟨b, q, none⟩) n cap) (.int k i)).run P w = .ok (.pointer (some ⟨b, q + i.toNat * s, none⟩)) w := by
  have : i < (n : Int) := by omega
  simp [Instr.indexAt, asIntOf, run_und ht, h0, this, run_sizeOf hs, addr_add]
theorem x_ias (hI : Inv G w0 S0 T g μ a w) {t e : TypeId} {s : Nat} {x i : Operand} (ht : P.underlying t = some (.slice e)) (hs : szT P e = some s) (ho : o.op = .indexAddr t x i) (hd : denX call G T g0 d j (.ias s (cX x) (cX i)) = some r) : XRes P (Φx w0 S0 g μ w r) o a w := by
  have hx := hI.ev x
  have hi := hI.ev i
  simp only [denX] at hd
  split at hd
  · rename_i k q hq
    rw [hq] at hi
    have hiv := hi.v_inv
    split at hd
    · rename_i es h; rw [h] at hx
      split at hd
      · rename_i h0
        split at hd
        · rename_i el he
          split at hd
          · rename_i hl
            cases hd
            rcases hx.fsl_inv with ⟨_, rfl⟩ | ⟨_, _, _, rfl⟩ | ⟨b, p, cap, sz, X, h1, _, h2, h3⟩
            · simp at he
            · simp at he
            · have hsz : sz = s := by rw [← h2 _ _ he]; exact hl
              subst hsz
              refine .pure hI (y := .pointer (some ⟨b, p + q.toNat * sz, none⟩)) ?_ (show FRep _ _ _ _ from .ptr (fun j => X q.toNat j) (fun j c hj => ?_) (fun j c hj => (h3 _ _ _ _ he hj).2.2.2))
              · simp [execOp, ho, h1, hiv, run_indexAt ht hs h0 (List.getElem?_eq_some_iff.1 he).1]
              · have := h3 _ _ _ _ he hj
                rw [Nat.add_assoc]; exact ⟨this.1, this.2.1, this.2.2.1⟩
          · cases hd
        · cases hd
      · cases hd
    · rename_i k' es h; rw [h] at hx
      split at hd
      · rename_i h0
        split at hd
        · rename_i el he
          split at hd
          · rename_i hl
            cases hd
            obtain ⟨len, sz, mu, shr, h1, h2, h3, h4, h5⟩ := hx
            have hlt := (List.getElem?_eq_some_iff.1 he).1
            have hsz : sz = s := by rw [← h4 _ _ he]; exact hl
            subst hsz
            rcases h5 with ⟨_, rfl, _⟩ | ⟨b, p, cap, X, h5, _, h6, h7⟩
            · simp at he
            · refine .pure hI (y := .pointer (some ⟨b, p + q.toNat * sz, none⟩)) ?_ ⟨b, _, len, sz, mu, shr, fun j => X q.toNat j, h1, rfl, fun hm => ?_, fun j c hj => ?_⟩
              · simp [execOp, ho, h5, hiv, run_indexAt ht hs h0 hlt]
              · exact ⟨p, (h6 (h3 hm)).1, by omega, by omega, by omega⟩
              · have := h7 _ _ _ _ he hj
                rw [Nat.add_assoc]; exact this
          · cases hd
        · cases hd
      · cases hd
    · cases hd
  · cases hd
theorem x_iaa (hI : Inv G w0 S0 T g μ a w) {t e : TypeId} {s len : Nat} {x i : Operand} (ht : P.underlying t = some (.array len e)) (hs : szT P e = some s) (ho : o.op = .indexAddr t x i) (hd : denX call G T g0 d j (.iaa len s (cX x) (cX i)) = some r) : XRes P (Φx w0 S0 g μ w r) o a w := by
  have hx := hI.ev x
  have hi := hI.ev i
  simp only [denX] at hd
  split at hd
  · rename_i k q hq
    rw [hq] at hi
    have hiv := hi.v_inv
    split at hd
    · rename_i hlt
      have fin : ∀ {y : AV}, ((∃ k o, ev T G (cX x) = .ptr k o ∧ y = .ptr k (o + q.toNat * s)) ∨ (∃ k i o cs, ev T G (cX x) = .eptr k i o cs ∧ q.toNat * s ≤ cs.length ∧ y = .eptr k i (o + q.toNat * s) (cs.drop (q.toNat * s))) ∨ (∃ cs, ev T G (cX x) = .fptr cs ∧ y = .fptr (cs.drop (q.toNat * s)))) →
          XRes P (Φx w0 S0 g μ w { x := y }) o a w := by
        intro y hy
        obtain ⟨b, p, h1, h2⟩ := shift_rep hy hx
        exact .pure hI (by simp [execOp, ho, h1, hiv, Instr.indexAt, asIntOf, run_und ht, Instr.sureAddr, hlt.1, hlt.2, run_sizeOf hs, addr_add]) h2
      split at hd
      · rename_i k o' h; cases hd; exact fin (.inl ⟨_, _, h, rfl⟩)
      · rename_i cs h; cases hd; exact fin (.inr (.inr ⟨_, h, rfl⟩))
      · rename_i k i o' cs h
        split at hd
        · rename_i hle; cases hd; exact fin (.inr (.inl ⟨_, _, _, _, h, hle, rfl⟩))
        · cases hd
      · cases hd
    · cases hd
  · cases hd
end
end Go.Proofs.YtmhdapjmndfkgaaGreatDoor.Eng
