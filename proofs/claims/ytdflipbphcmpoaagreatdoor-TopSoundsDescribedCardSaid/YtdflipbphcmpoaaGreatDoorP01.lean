/- A part of the proof of TopSoundsDescribed (texts Xa Xb Xc Xd): an executor of the program's code, proved sound, and its runs. No condition. -/
import Derived.Calls
import Derived.Deep.AppendSrc
set_option linter.unusedSimpArgs false
set_option linter.unusedVariables false
set_option maxRecDepth 100000
namespace Go.Sx
inductive AV where
 | bool (b:Bool)
 | int (k:IntKind) (n:Int)
 | str (l:List Nat)
 | nilp
 | ptr (b off:Nat)
 | cp (cells:List AV)
 | nils
 | sl (t e n:Nat) (cells:List AV)
 | ms (b off n c:Nat)
 | fn (f:Nat) (first cap:List AV)
 | nilf
 | iface (t:Nat) (v:AV)
 | nili
 | agg (cs:List AV)
 | tup (vs:List AV)
 | any
 | yld (id:Nat) (ts:List Nat) (vs:List AV)
 deriving Inhabited
abbrev AV.undef:AV:=.tup []
def AV.cells:AV→List AV
 | .agg cs=>cs
 | v=>[v]
def oneB:AV→Bool
 | .agg _ | .tup _ | .any | .yld .. | .fn .. | .iface ..=>false
 | _=>true
def oneA:AV→Bool
 | .agg _ | .tup _ | .any | .yld ..=>false
 | .fn _ a b=>a.all oneB && b.all oneB
 | .iface _ v=>oneB v
 | _=>true
def noY:AV→Bool
 | .agg cs=>cs.all oneA
 | .any=>true
 | .tup _=>false
 | v=>oneA v
inductive Box where
 | cells (l:List AV)
 | iter (l:List Nat) (pos:Nat)
 deriving Inhabited
structure Mem where
 nb:Nat
 boxes:List (Nat × Box)
 nt:Nat
 toks:List (Nat × Nat × Nat)
 nl:Nat
 log:List Nat
 deriving Inhabited
def lookB:List (Nat × Box)→Nat→Option Box
 | [],_=>none
 | (j,x) :: r,i=>if Nat.beq j i then some x else lookB r i
def setB:List (Nat × Box)→Nat→Box→List (Nat × Box)
 | [],_,_=>[]
 | (j,x) :: r,i,y=>if Nat.beq j i then (j,y) :: r else (j,x) :: setB r i y
def dropB:List (Nat × Box)→Nat→List (Nat × Box)
 | [],_=>[]
 | (j,x) :: r,i=>if Nat.beq j i then dropB r i else (j,x) :: dropB r i
def Mem.get (M:Mem) (b:Nat):Option Box:=lookB M.boxes b
def Mem.set (M:Mem) (b:Nat) (x:Box):Mem:={ M with boxes:=setB M.boxes b x,nl:=M.nl + 1,log:=b :: M.log }
def Mem.new (M:Mem) (x:Box):Mem:={ M with nb:=M.nb + 1,boxes:=(M.nb,x) :: M.boxes }
def Mem.kill (M:Mem) (b:Nat):Mem:={ M with boxes:=dropB M.boxes b,nl:=M.nl + 1,log:=b :: M.log }
def hasT:List Nat→Nat→Bool
 | [],_=>false
 | j :: r,i=>if Nat.beq j i then true else hasT r i
def lookT:List (Nat × Nat × Nat)→Nat→Option (Nat × Nat)
 | [],_=>none
 | (j,x) :: r,i=>if Nat.beq j i then some x else lookT r i
def setT:List (Nat × Nat × Nat)→Nat→Nat→List (Nat × Nat × Nat)
 | [],_,_=>[]
 | (j,m,z) :: r,i,n=>if Nat.beq j i then (j,n,z) :: r else (j,m,z) :: setT r i n
def Mem.tok (M:Mem) (n z:Nat):Mem:={ M with nt:=M.nt + 1,toks:=(M.nt,n,z) :: M.toks }
def Mem.bump (M:Mem) (k n:Nat):Mem:={ M with toks:=setT M.toks k n }
def Mem.zero:Mem:=⟨0,[],0,[],0,[]⟩
def purC0:AV→Option AV
 | .sl t _ n cs=>some (.sl (if Nat.beq t 1 then 1 else 0) 0 n cs)
 | .ptr .. | .ms .. | .fn .. | .agg _ | .tup _ | .any | .yld ..=>none
 | .iface t v=>match v with
  | .int .. | .str _ | .bool _=>some (.iface t v)
  | _=>none
 | v=>some v
def purL0:List AV→Option (List AV)
 | []=>some []
 | v :: r=>(purC0 v).bind fun a=>(purL0 r).map (a :: ·)
def purC:AV→Option AV
 | .fn f a b=>(purL0 a).bind fun a=>(purL0 b).map fun b=>.fn f a b
 | v=>purC0 v
def purL:List AV→Option (List AV)
 | []=>some []
 | v :: r=>(purC v).bind fun a=>(purL r).map (a :: ·)
abbrev Tm:=List (Nat × AV)
def lk:Tm→Nat→AV
 | [],_=>.any
 | (j,v) :: r,i=>if Nat.beq j i then v else lk r i
def put (tm:Tm) (d:Option Nat) (v:AV):Tm:=
 match d with
 | some i=>(i,v) :: tm
 | none=>tm
def keepT (tm:Tm):List Nat→Tm
 | []=>[]
 | i :: r=>(i,lk tm i) :: keepT tm r
inductive Opd where
 | t (i:Nat)
 | c (v:AV)
 | g (i:Nat)
 deriving Inhabited
inductive AOp where
 | mv (x:Opd)
 | pick (c a b:Opd)
 | alloc (z:List AV)
 | box (x:Opd)
 | build (z:List AV) (parts:List (Nat × Nat × Opd))
 | mkS (n:Nat) (z:List AV) (parts:List (Nat × Nat × Opd))
 | mkSm (n:Nat) (z:List AV) (parts:List (Nat × Nat × Opd))
 | ldA (n:Nat) (x:Opd)
 | ld1 (x:Opd)
 | st (n:Nat) (a x:Opd)
 | nilck (x:Opd)
 | bin (op:BinOp) (x y:Opd)
 | binB (neg:Bool) (x y:Opd)
 | eqA (neg:Bool) (n:Nat) (x y:Opd)
 | isnil (neg:Bool) (k:Nat) (x:Opd)
 | un (op:UnOp) (x:Opd)
 | cvi (k:IntKind) (x:Opd)
 | s2b (x:Opd)
 | b2s (x:Opd)
 | r2s (x:Opd)
 | rs2s (x:Opd)
 | mkI (t:Nat) (x:Opd)
 | mkF (f:Nat) (first cap:List Opd)
 | mkM (esz bytes:Nat) (z:List AV) (l c:Opd)
 | slcS (x:Opd) (lo hi:Option Opd)
 | slc (esz:Nat) (x:Opd) (lo hi mx:Option Opd)
 | slcA (n esz:Nat) (x:Opd) (lo hi:Option Opd)
 | fa (off:Nat) (x:Opd)
 | ia (esz:Nat) (x i:Opd)
 | iaA (n esz:Nat) (x i:Opd)
 | ixS (x i:Opd)
 | ixA (n:Nat) (x i:Opd)
 | ext (i:Nat) (x:Opd)
 | len (str:Bool) (x:Opd)
 | min (x y:Opd)
 | call (ad:Bool) (f:Nat) (args:List Opd)
 | dyn (x:Opd) (args:List Opd)
 | app (mu:Bool) (esz bytes:Nat) (x y:Opd)
 | appZ (esz bytes:Nat) (z:List AV) (x y:Opd)
 | cap (x:Opd)
 | cpy (esz:Nat) (x y:Opd)
 | clr (esz:Nat) (z:List AV) (x:Opd)
 | cvb (x:Opd)
 | rng (x:Opd)
 | nxt (x:Opd)
 | stop
 deriving Inhabited
structure AOper where
 idx:Nat
 dst:Option Nat
 op:AOp
 guard:Option (Option Nat × Bool)
 un:List Nat
 deriving Inhabited
abbrev oi (i d:Nat) (op:AOp):AOper:=⟨i,some d,op,none,[]⟩
abbrev ou (i:Nat) (op:AOp):AOper:=⟨i,none,op,none,[]⟩
inductive AC where
 | skip
 | ops (draw:Bool) (l:List AOper) (keep:Option (List Nat))
 | seq (a b:AC)
 | cond (c:Opd) (a b:AC)
 | block (id:Nat) (c:AC)
 | loop (c:AC)
 | exit (id:Nat)
 | ret
 | acc (k:Nat) (c:AC)
 | stop
 deriving Inhabited
inductive ARes where
 | t (i:Nat)
 | cA (i n:Nat)
 | c1 (i:Nat)
 deriving Inhabited
structure AFun where
 np:Nat
 code:AC
 res:List ARes
 deriving Inhabited
inductive Mode where
 | shared
 | own
 deriving Inhabited
inductive AX where
 | normal
 | ret
 | exit (id:Nat)
 deriving Inhabited
structure Env where
 fns:Nat→Option AFun
 glo:Nat→Option (List AV)
 orc:Nat→List AV→Option AV
 mode:Nat→Mode
 acc:Nat→Tm→Mem→Option (AX × Tm × Mem)
 accs:Nat→Option AC
 yb:Nat→Option (List Nat × AC × AC)
 fit:Nat→Loop→Prop
inductive Out where
 | val (v:AV) (M:Mem)
 | call (ad:Bool) (f:Nat) (args:List AV)
 | yield (id:Nat) (ts:List Nat) (vs args:List AV)
 deriving Inhabited
section
variable (E:Env)
def Env.gx (E:Env):(Nat→Option (List AV)) × (Nat→Loop→Prop):=(E.glo,E.fit)
def evx (tm:Tm):Opd→Option AV
 | .t i=>some (lk tm i)
 | .c v=>some v
 | .g i=>(E.glo i).map .cp
def evxs (tm:Tm):List Opd→Option (List AV)
 | []=>some []
 | x :: r=>(evx E tm x).bind fun v=>(evxs tm r).map (v :: ·)
def evo (tm:Tm):Option Opd→Option (Option AV)
 | none=>some none
 | some x=>(evx E tm x).map some
def evparts (tm:Tm):List (Nat × Nat × Opd)→Option (List (Nat × Nat × AV))
 | []=>some []
 | (o,n,x) :: r=>(evx E tm x).bind fun v=>(evparts tm r).map ((o,n,v) :: ·)
def fillA (z:List AV):List (Nat × Nat × AV)→Option (List AV)
 | []=>some z
 | (o,n,v) :: r=>if Nat.beq v.cells.length n && Nat.ble (o + n) z.length && v.cells.all oneA then fillA (z.take o ++ v.cells ++ z.drop (o + n)) r else none
def intBin (op:BinOp) (k:IntKind) (a b:Int):Option AV:=
 match op with
 | .add=>some (.int k (k.wrap (a + b)))
 | .sub=>some (.int k (k.wrap (a - b)))
 | .mul=>some (.int k (k.wrap (a * b)))
 | .quo=>if b=0 then none else some (.int k (k.wrap (a.tdiv b)))
 | .rem=>if b=0 then none else some (.int k (a.tmod b))
 | .and=>some (.int k (k.wrap (BitVec.ofInt k.bits a &&& BitVec.ofInt k.bits b).toNat))
 | .or=>some (.int k (k.wrap (BitVec.ofInt k.bits a ||| BitVec.ofInt k.bits b).toNat))
 | .xor=>some (.int k (k.wrap (BitVec.ofInt k.bits a ^^^ BitVec.ofInt k.bits b).toNat))
 | .andNot=>some (.int k (k.wrap (BitVec.ofInt k.bits a &&& ~~~ BitVec.ofInt k.bits b).toNat))
 | .eql=>some (.bool (a == b))
 | .neq=>some (.bool (a != b))
 | .lss=>some (.bool (a < b))
 | .leq=>some (.bool (a≤b))
 | .gtr=>some (.bool (a > b))
 | .geq=>some (.bool (a ≥ b))
 | _=>none
def shBin (op:BinOp) (k:IntKind) (a b:Int):Option AV:=
 if b < 0 then none else
 match op with
 | .shl=>some (.int k (k.wrap (a * 2 ^ (Nat.min b.toNat k.bits))))
 | .shr=>some (.int k (a.fdiv (2 ^ (Nat.min b.toNat k.bits))))
 | _=>none
def natsLess:List Nat→List Nat→Bool
 | _,[]=>false
 | [],_ :: _=>true
 | a :: x,b :: y=>Nat.blt a b || (Nat.beq a b && natsLess x y)
def natsEq:List Nat→List Nat→Bool
 | [],[]=>true
 | a :: x,b :: y=>Nat.beq a b && natsEq x y
 | _,_=>false
def strBin (op:BinOp) (x y:List Nat):Option AV:=
 match op with
 | .add=>if x.length + y.length≤9223372036854775807 then some (.str (x ++ y)) else none
 | .eql=>some (.bool (natsEq x y))
 | .neq=>some (.bool (!natsEq x y))
 | .lss=>some (.bool (natsLess x y))
 | .leq=>some (.bool (natsLess x y || natsEq x y))
 | .gtr=>some (.bool (!(natsLess x y || natsEq x y)))
 | .geq=>some (.bool (!natsLess x y))
 | _=>none
def binA (op:BinOp) (x y:AV):Option AV:=
 match op,x,y with
 | .shl,.int k a,.int _ b=>shBin .shl k a b
 | .shr,.int k a,.int _ b=>shBin .shr k a b
 | op,.int k a,.int k' b=>if k=k' then intBin op k a b else none
 | op,.str a,.str b=>strBin op a b
 | _,_,_=>none
def intsEq:List AV→List AV→Option Bool
 | [],[]=>some true
 | .int k a :: x,.int k' b :: y=>if k=k' then (intsEq x y).map fun r=>(a == b) && r else none
 | _,_=>none
def isNilA:Nat→AV→Option Bool
 | 0,.nils | 1,.nilp | 2,.nili | 3,.nilf=>some true
 | 0,.sl .. | 0,.ms .. | 1,.ptr .. | 1,.cp .. | 2,.iface .. | 3,.fn ..=>some false
 | _,_=>none
def unA (op:UnOp) (x:AV):Option AV:=
 match op,x with
 | .not,.bool b=>some (.bool !b)
 | .neg,.int k n=>some (.int k (k.wrap (0 - n)))
 | .xor,.int k n=>some (.int k (k.wrap (BitVec.ofInt k.bits (if k.signed then -1 else k.max) ^^^ BitVec.ofInt k.bits n).toNat))
 | _,_=>none
def bytesOf:List AV→Option (List Nat)
 | []=>some []
 | .int .u8 n :: r=>if 0≤n∧n < 256 then (bytesOf r).map (n.toNat :: ·) else none
 | _=>none
def runesOf:List AV→Option (List Int)
 | []=>some []
 | .int .i32 n :: r=>(runesOf r).map (n :: ·)
 | _=>none
def byteCells (l:List Nat):List AV:=l.map fun (b:Nat)=>.int .u8 (b:Int)
def encRune (n:Int):List Nat:=(Utf8.encode n).data.toList.map UInt8.toNat
def elems (M:Mem) (esz:Nat):AV→Option (List AV)
 | .nils=>some []
 | .sl _ _ n cs=>if Nat.beq cs.length (n * esz) then some cs else none
 | .ms b off n _=>match M.get b with
  | some (.cells l)=>if Nat.ble (off + n * esz) l.length then some ((l.drop off).take (n * esz)) else none
  | _=>none
 | .str l=>if esz=1 then some (byteCells l) else none
 | _=>none
def elemsS (M:Mem) (x:AV):Option (List AV):=
 match x with
 | .str _=>none
 | x=>elems M 1 x
def lenA:AV→Option Nat
 | .nils=>some 0
 | .sl _ _ n _=>some n
 | .ms _ _ n _=>some n
 | .str l=>some l.length
 | _=>none
def lenK:Bool→AV→Option Nat
 | true,.str l=>some l.length
 | false,.nils=>some 0
 | false,.sl _ _ n _=>some n
 | false,.ms _ _ n _=>some n
 | _,_=>none
def natOf:AV→Option Nat
 | .int _ n=>if 0≤n then some n.toNat else none
 | _=>none
def bounds (len cap:Nat) (lo hi mx:Option AV):Option (Nat × Nat × Nat):=
 (match mx with | none=>some cap | some v=>(natOf v).bind fun m=>if m≤cap then some m else none).bind fun m=>
 (match hi with | none=>some len | some v=>(natOf v).bind fun h=>if h≤m then some h else none).bind fun h=>
 (match lo with | none=>some 0 | some v=>(natOf v).bind fun l=>if l≤h then some l else none).bind fun l=>
 some (l,h,m)
def slcV (esz:Nat) (x:AV) (lo hi mx:Option AV):Option AV:=
 match x with
 | .nils=>if mx.isSome && hi.isNone then none else (bounds 0 0 lo hi mx).map fun _=>.nils
 | .sl t e n cs=>
  if mx.isSome && hi.isNone then none else
  if !(Nat.beq cs.length (n * esz)) then none else
  (bounds n n lo hi mx).map fun (l,h,m)=>
   let t':=if mx.isSome && Nat.beq m h then 1 else if Nat.beq h n && !mx.isSome then t else 0
   .sl t' (if Nat.ble 2 t' then e else 0) (h - l) ((cs.drop (l * esz)).take ((h - l) * esz))
 | .ms b off n c=>if mx.isSome then none else
  (bounds n c lo hi mx).bind fun (l,h,m)=>if Nat.beq l 0 then some (.ms b off h m) else if Nat.ble (l + 1) m && Nat.ble 1 esz then some (.ms b (off + l * esz) (h - l) (m - l)) else if Nat.beq l m then some (.sl 0 0 0 []) else none
 | _=>none
def slcSt (l:List Nat) (lo hi:Option AV):Option AV:=
 (bounds l.length l.length lo hi none).map fun (a,b,_)=>.str ((l.drop a).take (b - a))
def appV (mu:Bool) (M:Mem) (esz bytes:Nat) (x:AV) (m:Nat) (ys:List AV):Option (AV × Mem):=
 if m=0 then (match x with | .nils | .sl .. | .ms ..=>some (x,M) | _=>none) else
 match x with
 | .nils=>if m * bytes≤140737488355328∧m≤140737488355328 then
   (if mu then (if ys.all oneA then some (.ms M.nb 0 m m,M.new (.cells ys)) else none) else (purL0 ys).map fun ys=>(.sl (M.nt + 2) m m ys,M.tok m esz)) else none
 | .sl t e n cs=>
  if !(Nat.beq cs.length (n * esz)) then none else
  if (n + m) * bytes≤140737488355328∧n + m≤140737488355328 then
   match t with
   | 0=>none
   | 1=>if mu then (if cs.all oneA && ys.all oneA then some (.ms M.nb 0 (n + m) (n + m),M.new (.cells (cs ++ ys))) else none) else (purL0 ys).map fun ys=>(.sl (M.nt + 2) (n + m) (n + m) (cs ++ ys),M.tok (n + m) esz)
   | k + 2=>match lookT M.toks k with
    | some (n',z)=>if Nat.beq n' e && Nat.beq z esz then (purL0 ys).map fun ys=>(.sl (k + 2) (e + m) (n + m) (cs ++ ys),M.bump k (e + m)) else none
    | none=>none
  else none
 | .ms b off n c=>
  if !(ys.all oneA) then none else
  match M.get b with
  | some (.cells l)=>
   if n + m≤c then
    if off + (n + m) * esz≤l.length then some (.ms b off (n + m) c,M.set b (.cells (l.take (off + n * esz) ++ ys ++ l.drop (off + (n + m) * esz)))) else none
   else if off=0∧n=c∧0 < n∧l.length=n * esz∧(n + m) * bytes≤140737488355328∧n + m≤140737488355328 then
    some (.ms M.nb 0 (n + m) (n + m),(M.kill b).new (.cells (l ++ ys)))
   else none
  | _=>none
 | _=>none
def nextRune (l:List Nat) (pos:Nat):Option (Option (Int × Nat)):=
 match l[pos]? with
 | none=>some none
 | some b=>if b < 128 then some (some ((b:Int),1)) else none
def stepOp (tm:Tm) (M:Mem) (op:AOp):Option Out:=
 let pure (v:AV):Option Out:=some (.val v M)
 let lift (v:Option AV):Option Out:=v.map fun v=>.val v M
 match op with
 | .mv x=>lift (evx E tm x)
 | .pick c a b=>(evx E tm c).bind fun c=>match c with
  | .bool t=>lift (if t then evx E tm a else evx E tm b)
  | _=>none
 | .alloc z=>some (.val (.ptr M.nb 0) (M.new (.cells z)))
 | .box x=>(evx E tm x).bind fun v=>if v.cells.all oneA then some (.val (.ptr M.nb 0) (M.new (.cells v.cells))) else none
 | .build z ps=>(evparts E tm ps).bind fun ps=>(fillA z ps).bind fun cs=>pure (.agg cs)
 | .mkS n z ps=>(evparts E tm ps).bind fun ps=>(fillA z ps).bind fun cs=>(purL0 cs).bind fun cs=>pure (.sl 1 0 n cs)
 | .mkSm n z ps=>(evparts E tm ps).bind fun ps=>(fillA z ps).bind fun cs=>if cs.all oneA then some (.val (.ms M.nb 0 n n) (M.new (.cells cs))) else none
 | .ldA n x=>(evx E tm x).bind fun a=>match a with
  | .ptr b off=>match M.get b with
   | some (.cells l)=>if Nat.ble (off + n) l.length then pure (.agg ((l.drop off).take n)) else none
   | _=>none
  | .cp cs=>if Nat.ble n cs.length then pure (.agg (cs.take n)) else none
  | _=>none
 | .ld1 x=>(evx E tm x).bind fun a=>match a with
  | .ptr b off=>match M.get b with
   | some (.cells l)=>lift l[off]?
   | _=>none
  | .cp (c :: _)=>pure c
  | _=>none
 | .st n a x=>(evx E tm a).bind fun a=>(evx E tm x).bind fun v=>match a with
  | .ptr b off=>match M.get b with
   | some (.cells l)=>if Nat.beq v.cells.length n && Nat.ble (off + n) l.length && v.cells.all oneA then
     some (.val .undef (M.set b (.cells (l.take off ++ v.cells ++ l.drop (off + n))))) else none
   | _=>none
  | _=>none
 | .nilck x=>(evx E tm x).bind fun v=>match v with
  | .ptr .. | .cp .. | .fn .. | .iface ..=>pure v
  | _=>none
 | .bin op x y=>(evx E tm x).bind fun x=>(evx E tm y).bind fun y=>lift (binA op x y)
 | .binB neg x y=>(evx E tm x).bind fun x=>(evx E tm y).bind fun y=>match x,y with
  | .bool a,.bool b=>pure (.bool (if neg then !(a == b) else a == b))
  | _,_=>none
 | .eqA neg n x y=>(evx E tm x).bind fun x=>(evx E tm y).bind fun y=>match x,y with
  | .agg a,.agg b=>if Nat.beq a.length n then (intsEq a b).bind fun r=>pure (.bool (if neg then !r else r)) else none
  | _,_=>none
 | .isnil neg k x=>(evx E tm x).bind fun x=>(isNilA k x).bind fun r=>pure (.bool (if neg then !r else r))
 | .un op x=>(evx E tm x).bind fun x=>lift (unA op x)
 | .cvi k x=>(evx E tm x).bind fun x=>match x with
  | .int _ n=>pure (.int k (k.wrap n))
  | _=>none
 | .s2b x=>(evx E tm x).bind fun x=>match x with
  | .str l=>pure (.sl 0 0 l.length (byteCells l))
  | _=>none
 | .b2s x=>(evx E tm x).bind fun x=>(elemsS M x).bind fun cs=>(bytesOf cs).bind fun l=>pure (.str l)
 | .r2s x=>(evx E tm x).bind fun x=>match x with
  | .int _ n=>pure (.str (encRune n))
  | _=>none
 | .rs2s x=>(evx E tm x).bind fun x=>(elemsS M x).bind fun cs=>(runesOf cs).bind fun l=>pure (.str (l.flatMap encRune))
 | .mkI t x=>(evx E tm x).bind fun x=>pure (.iface t x)
 | .mkF f a b=>(evxs E tm a).bind fun a=>(evxs E tm b).bind fun b=>pure (.fn f a b)
 | .mkM esz bytes z l c=>(evx E tm l).bind fun l=>(evx E tm c).bind fun c=>(natOf l).bind fun l=>(natOf c).bind fun c=>
  if l≤c∧bytes * c≤140737488355328∧c≤140737488355328∧z.length=esz then
   some (.val (.ms M.nb 0 l c) (M.new (.cells ((List.replicate c z).flatten)))) else none
 | .slcS x lo hi=>(evx E tm x).bind fun x=>(evo E tm lo).bind fun lo=>(evo E tm hi).bind fun hi=>match x with
  | .str l=>lift (slcSt l lo hi)
  | _=>none
 | .slc esz x lo hi mx=>(evx E tm x).bind fun x=>(evo E tm lo).bind fun lo=>(evo E tm hi).bind fun hi=>(evo E tm mx).bind fun mx=>
  lift (slcV esz x lo hi mx)
 | .slcA n esz x lo hi=>(evx E tm x).bind fun x=>(evo E tm lo).bind fun lo=>(evo E tm hi).bind fun hi=>
  (bounds n n lo hi none).bind fun (l,h,_)=>match x with
  | .ptr b off=>if Nat.ble (l + 1) n then pure (.ms b (off + l * esz) (h - l) (n - l)) else pure (.sl 0 0 0 [])
  | .cp cs=>if Nat.ble (n * esz) cs.length then pure (.sl 0 0 (h - l) ((cs.drop (l * esz)).take ((h - l) * esz))) else none
  | _=>none
 | .fa off x=>(evx E tm x).bind fun x=>match x with
  | .ptr b o=>pure (.ptr b (o + off))
  | .cp cs=>pure (.cp (cs.drop off))
  | _=>none
 | .ia esz x i=>(evx E tm x).bind fun x=>(evx E tm i).bind fun i=>(natOf i).bind fun i=>match x with
  | .sl _ _ n cs=>if Nat.ble (i + 1) n && Nat.beq cs.length (n * esz) then pure (.cp (cs.drop (i * esz))) else none
  | .ms b off n _=>if Nat.ble (i + 1) n then pure (.ptr b (off + i * esz)) else none
  | _=>none
 | .iaA n esz x i=>(evx E tm x).bind fun x=>(evx E tm i).bind fun i=>(natOf i).bind fun i=>
  if Nat.ble (i + 1) n then match x with
   | .ptr b o=>pure (.ptr b (o + i * esz))
   | .cp cs=>pure (.cp (cs.drop (i * esz)))
   | _=>none
  else none
 | .ixS x i=>(evx E tm x).bind fun x=>(evx E tm i).bind fun i=>(natOf i).bind fun i=>match x with
  | .str l=>(l[i]?).bind fun b=>pure (.int .u8 b)
  | _=>none
 | .ixA n x i=>(evx E tm x).bind fun x=>(evx E tm i).bind fun i=>(natOf i).bind fun i=>match x with
  | .agg cs=>if Nat.ble (i + 1) n then lift cs[i]? else none
  | _=>none
 | .ext i x=>(evx E tm x).bind fun x=>match x with
  | .tup vs=>lift vs[i]?
  | _=>none
 | .len st x=>(evx E tm x).bind fun x=>(lenK st x).bind fun n=>pure (.int .i64 n)
 | .min x y=>(evx E tm x).bind fun x=>(evx E tm y).bind fun y=>match x,y with
  | .int k a,.int _ b=>pure (.int k (if b < a then b else a))
  | _,_=>none
 | .call ad f args=>(evxs E tm args).map fun as=>.call ad f as
 | .dyn x args=>(evx E tm x).bind fun x=>(evxs E tm args).bind fun as=>match x with
  | .fn f a c=>some (.call false f (a ++ as ++ c))
  | .yld id ts vs=>some (.yield id ts vs as)
  | _=>none
 | .app mu esz bytes x y=>(evx E tm x).bind fun x=>(evx E tm y).bind fun y=>(lenA y).bind fun m=>(elems M esz y).bind fun ys=>
  (appV mu M esz bytes x m ys).map fun (v,M')=>.val v M'
 | .rng x=>(evx E tm x).bind fun x=>match x with
  | .str l=>some (.val (.ptr M.nb 0) (M.new (.iter l 0)))
  | _=>none
 | .nxt x=>(evx E tm x).bind fun x=>match x with
  | .ptr b 0=>match M.get b with
   | some (.iter l pos)=>(nextRune l pos).map fun r=>match r with
    | some (c,n)=>.val (.tup [.bool true,.int .i64 pos,.int .i32 c]) (M.set b (.iter l (pos + n)))
    | none=>.val (.tup [.bool false]) M
   | _=>none
  | _=>none
 | .appZ esz bytes z x n=>(evx E tm x).bind fun x=>(evx E tm n).bind fun n=>(natOf n).bind fun n=>match x with
  | .nils=>if n=0 then pure .nils else if n * bytes≤140737488355328∧n≤140737488355328∧z.length=esz then
    some (.val (.ms M.nb 0 n n) (M.new (.cells ((List.replicate n z).flatten)))) else none
  | _=>none
 | .cap x=>(evx E tm x).bind fun x=>match x with
  | .nils=>pure (.int .i64 0)
  | .sl 1 _ n _=>pure (.int .i64 n)
  | _=>none
 | .cpy esz x y=>(evx E tm x).bind fun x=>(evx E tm y).bind fun y=>(lenA y).bind fun m=>(elems M esz y).bind fun ys=>match x with
  | .ms b off n _=>match M.get b with
   | some (.cells l)=>
    let k:=Nat.min m n
    if off + k * esz≤l.length∧ys.all oneA then some (.val (.int .i64 k) (M.set b (.cells (l.take off ++ ys.take (k * esz) ++ l.drop (off + k * esz))))) else none
   | _=>none
  | _=>none
 | .clr esz z x=>(evx E tm x).bind fun x=>match x with
  | .ms b off n _=>if n=0 then pure (.tup []) else match M.get b with
   | some (.cells l)=>if off + n * esz≤l.length∧z.length=esz then
     some (.val (.tup []) (M.set b (.cells (l.take off ++ (List.replicate n z).flatten ++ l.drop (off + n * esz))))) else none
   | _=>none
  | .nils=>pure (.tup [])
  | _=>none
 | .cvb x=>(evx E tm x).bind fun x=>match x with
  | .ms b 0 n _=>match M.get b with
   | some (.cells l)=>if Nat.beq l.length n then (purL0 l).map fun l=>.val (.sl 0 0 n l) (M.kill b) else none
   | _=>none
  | _=>none
 | .stop=>none
def wants (tm:Tm):Option (Option Nat × Bool)→Option Bool
 | none=>some true
 | some (some t,b)=>match lk tm t with
  | .bool x=>some (x == b)
  | .tup []=>some false
  | _=>none
 | some (none,_)=>none
inductive J where
 | f (ad:Bool) (id:Nat) (args:List AV) (M:Mem)
 | b (id:Nat) (args:List AV) (M:Mem)
 | c (code:AC) (tm:Tm) (M:Mem)
 | o (l:List AOper) (tm:Tm) (M:Mem)
 | d (l:List AOper) (tm:Tm) (M:Mem) (seen:List (Nat × List Nat × List Nat))
 | y (id:Nat) (ts:List Nat) (vs args:List AV) (M:Mem)
 deriving Inhabited
inductive Res where
 | fn (v:AV) (M:Mem)
 | code (x:AX) (tm:Tm) (M:Mem)
 deriving Inhabited
def resOf (tm:Tm) (M:Mem):ARes→Option AV
 | .t i=>some (lk tm i)
 | .c1 i=>match lk tm i with
  | .ptr b off=>match M.get b with
   | some (.cells l)=>l[off]?
   | _=>none
  | _=>none
 | .cA i n=>match lk tm i with
  | .ptr b off=>match M.get b with
   | some (.cells l)=>if Nat.ble (off + n) l.length then some (.agg ((l.drop off).take n)) else none
   | _=>none
  | _=>none
def resAll (tm:Tm) (M:Mem):List ARes→Option (List AV)
 | []=>some []
 | r :: rs=>(resOf tm M r).bind fun v=>(resAll tm M rs).map (v :: ·)
def result (tm:Tm) (M:Mem) (rs:List ARes):Option AV:=
 (resAll tm M rs).map fun vs=>match vs with
  | [v]=>v
  | vs=>.tup vs
def zipT:List Nat→List AV→Tm→Tm
 | t :: ts,v :: vs,r=>zipT ts vs ((t,v) :: r)
 | _,_,r=>r
def argTm:Nat→List AV→Tm
 | _,[]=>[]
 | i,v :: r=>(i,v) :: argTm (i + 1) r
def boxOf:AV→List Nat
 | .ptr b _=>[b]
 | .ms b _ _ _=>[b]
 | _=>[]
def boxAt (tm:Tm) (x:Opd):List Nat:=match evx E tm x with
 | some v=>boxOf v
 | none=>[]
def readsOf (tm:Tm) (M:Mem):AOp→List Nat
 | .ldA _ x | .ld1 x | .b2s x | .rs2s x=>boxAt E tm x
 | .app _ _ _ _ y | .cpy _ _ y=>boxAt E tm y
 | .alloc _=>[M.nb]
 | _=>[]
def seenAt:List (Nat × List Nat × List Nat)→Nat→Option (List Nat × List Nat)
 | [],_=>none
 | (j,x) :: r,i=>if Nat.beq j i then some x else seenAt r i
def apartL:List Nat→List Nat→Bool
 | [],_=>true
 | x :: r,l=>!(hasT l x) && apartL r l
def clear (seen : List (Nat × List Nat × List Nat)) (rd wr : List Nat) : List Nat → Bool
  | [] => true
  | j :: r => (match seenAt seen j with
    | some (rd', wr') => apartL rd wr' && apartL wr wr' && apartL rd' wr
    | none => false) && clear seen rd wr r
def wrOf (M M':Mem):List Nat:=M'.log.take (M'.nl - M.nl) ++ List.range' M.nb (M'.nb - M.nb)
def frzC (M:Mem):AV→Option AV
 | .ms b off n c=>match M.get b with
  | some (.cells l)=>
   if Nat.beq c 0 then some (.sl 0 0 0 []) else
   let esz:=(l.length - off) / c
   if off + n * esz≤l.length then (purL0 ((l.drop off).take (n * esz))).map (.sl 0 0 n) else none
  | _=>none
 | v=>purC v
def frzL (M:Mem):List AV→Option (List AV)
 | []=>some []
 | v :: r=>(frzC M v).bind fun a=>(frzL M r).map (a :: ·)
def frzV (M:Mem):AV→Option AV
 | .agg cs=>(frzL M cs).map .agg
 | v=>frzC M v
def frzVs (M:Mem):List AV→Option (List AV)
 | []=>some []
 | v :: r=>(frzV M v).bind fun a=>(frzVs M r).map (a :: ·)
def frz (M:Mem):AV→Option AV
 | .tup vs=>(frzVs M vs).map .tup
 | v=>frzV M v
def hasMs:List AV→Bool
 | []=>false
 | .ms .. :: _=>true
 | .agg cs :: r=>hasMs1 cs || hasMs r
 | _ :: r=>hasMs r
where hasMs1:List AV→Bool
 | []=>false
 | .ms .. :: _=>true
 | _ :: r=>hasMs1 r
def plainC:AV→Bool
 | .bool _ | .int .. | .str _ | .nilp | .nils | .nilf | .nili=>true
 | _=>false
def plainV:AV→Bool
 | .agg cs=>cs.all plainC
 | v=>plainC v
def plain:AV→Bool
 | .tup vs=>vs.all plainV
 | v=>plainV v
def adopt (ad:Bool) (M1 M:Mem) (v:AV):Option (AV × Mem):=
 match v with
 | .sl (k + 2) e n cs=>if ad then (match lookT M1.toks k with
  | some (n',z)=>if Nat.beq n' e then some (.sl (M.nt + 2) n n cs,M.tok n z) else some (.sl 0 0 n cs,M)
  | none=>some (.sl 0 0 n cs,M)) else some (.sl 0 0 n cs,M)
 | v=>(frz M1 v).map fun v=>(v,M)
def step (go : J → Option Res) : J → Option Res
  | .f ad id args M => match E.orc id args with
   | some v => some (.fn v M)
   | none => match E.mode id with
    | .shared => go (.b id args M)
    | .own => (frzVs M args).bind fun args' => (go (.b id args' .zero)).bind fun r => match r with
      | .fn v M1 => (adopt ad M1 M v).bind fun (v, M') => if hasMs args && !(plain v) then none else some (.fn v M')
      | _ => none
  | .b id args M => (E.fns id).bind fun fn =>
    if !(Nat.beq args.length fn.np) then none else
    (go (.c fn.code (argTm 0 args) M)).bind fun r => match r with
      | .code .normal tm M' => (result tm M' fn.res).map fun v => .fn v M'
      | .code .ret tm M' => (result tm M' fn.res).map fun v => .fn v M'
      | _ => none
  | .c code tm M => match code with
    | .skip => some (.code .normal tm M)
    | .ops dr l keep => (go (if dr then .d l tm M [] else .o l tm M)).bind fun r => match r with
      | .code .normal tm' M' => some (.code .normal (match keep with | none => tm' | some ks => keepT tm' ks) M')
      | _ => none
    | .seq a b => (go (.c a tm M)).bind fun r => match r with
      | .code .normal tm' M' => go (.c b tm' M')
      | r => some r
    | .cond c a b => (evx E tm c).bind fun v => match v with
      | .bool t => go (.c (if t then a else b) tm M)
      | _ => none
    | .acc k c => match E.acc k tm M with
      | some (x, tm', M') => some (.code x tm' M')
      | none => go (.c c tm M)
    | .block id c => (go (.c c tm M)).bind fun r => match r with
      | .code (.exit j) tm' M' => some (.code (if j = id then .normal else .exit j) tm' M')
      | r => some r
    | .loop c => (go (.c c tm M)).bind fun r => match r with
      | .code .normal tm' M' => go (.c (.loop c) tm' M')
      | r => some r
    | .exit id => some (.code (.exit id) tm M)
    | .ret => some (.code .ret tm M)
    | .stop => none
  | .o l tm M => match l with
    | [] => some (.code .normal tm M)
    | o :: rest => (wants tm o.guard).bind fun w =>
      if w then (stepOp E tm M o.op).bind fun r => match r with
        | .val v M' => go (.o rest (put tm o.dst v) M')
        | .call ad f args => (go (.f ad f args M)).bind fun r => match r with
          | .fn v M' => go (.o rest (put tm o.dst v) M')
          | _ => none
        | .yield id ts vs args => (go (.y id ts vs args M)).bind fun r => match r with
          | .fn v M' => go (.o rest (put tm o.dst v) M')
          | _ => none
      else go (.o rest (put tm o.dst .undef) M)
  | .d l tm M seen => match l with
    | [] => some (.code .normal tm M)
    | o :: rest => (wants tm o.guard).bind fun w =>
      if w then (stepOp E tm M o.op).bind fun r => match r with
        | .val v M' =>
          let rd := readsOf E tm M o.op
          let wr := wrOf M M'
          if clear seen rd wr o.un then go (.d rest (put tm o.dst v) M' ((o.idx, rd, wr) :: seen)) else none
        | .call ad f args => (go (.f ad f args M)).bind fun r => match r with
          | .fn v M' =>
            let wr := wrOf M M'
            if clear seen [] wr o.un then go (.d rest (put tm o.dst v) M' ((o.idx, [], wr) :: seen)) else none
          | _ => none
        | .yield id ts vs args => (go (.y id ts vs args M)).bind fun r => match r with
          | .fn v M' =>
            let wr := wrOf M M'
            if clear seen [] wr o.un then go (.d rest (put tm o.dst v) M' ((o.idx, [], wr) :: seen)) else none
          | _ => none
      else go (.d rest (put tm o.dst .undef) M ((o.idx, [], []) :: seen))
  | .y id ts vs args M => (E.yb id).bind fun c =>
    if !(Nat.beq args.length c.1.length && Nat.beq ts.length vs.length && args.all noY && vs.all noY) then none else
    (go (.c c.2.1 (zipT c.1 args (zipT ts vs [])) M)).bind fun r => match r with
      | .code .normal tm1 M1 => (go (.c c.2.2 tm1 M1)).bind fun r => match r with
        | .code .normal _ M2 => some (.fn (.bool true) M2)
        | _ => none
      | _ => none
def evFuel (n:Nat):J→Option Res:=Nat.rec (fun _=>none) (fun _ go=>step E go) n
end
end Go.Sx
namespace Go.Sx
def ofCell:Value→Option AV
 | .bool b=>some (.bool b)
 | .int k n=>some (.int k n)
 | .string s=>some (.str (s.data.toList.map UInt8.toNat))
 | .pointer none=>some .nilp
 | .slice none 0 0=>some .nils
 | .nilFunc=>some .nilf
 | .nilIface=>some .nili
 | _=>none
def ofCells:List Value→Option (List AV)
 | []=>some []
 | v :: r=>(ofCell v).bind fun a=>(ofCells r).map (a :: ·)
def ofVal:Value→Option AV
 | .agg cs=>(ofCells cs.toList).map .agg
 | .tuple vs=>match vs.toList with
  | []=>some (.tup [])
  | _=>none
 | v=>ofCell v
def compOpd:Operand→Option Opd
 | .tmp t=>some (.t t)
 | .const v=>(ofVal v).map .c
 | .global g=>some (.g g)
 | .func f=>some (.c (.fn f [] []))
def compOpds:List Operand→Option (List Opd)
 | []=>some []
 | x :: r=>(compOpd x).bind fun a=>(compOpds r).map (a :: ·)
def compO:Option Operand→Option (Option Opd)
 | none=>some none
 | some x=>(compOpd x).map some
section
variable (P:Program)
def sizeT (t:TypeId):Option Nat:=(P.info? t).map (·.size)
def bytesT (t:TypeId):Option Nat:=(P.info? t).map (·.bytes)
def zeroT (t:TypeId):Option (List AV):=(P.info? t).bind fun i=>i.zero.bind fun z=>ofCells z.cells.toList
def aggT (t:TypeId):Option Bool:=(P.underlying t).map fun d=>match d with
 | .struct _ | .array _ _=>true
 | _=>false
def partsS (fs:List Field):List (Nat × Operand)→Option (List (Nat × Nat × Opd))
 | []=>some []
 | (i,x) :: r=>(fs[i]?).bind fun f=>(sizeT P f.type).bind fun n=>(compOpd x).bind fun a=>(partsS fs r).map ((f.offset,n,a) :: ·)
def partsA (n:Nat):List (Nat × Operand)→Option (List (Nat × Nat × Opd))
 | []=>some []
 | (i,x) :: r=>(compOpd x).bind fun a=>(partsA n r).map ((i * n,n,a) :: ·)
def isInt (t:TypeId):Bool:=match P.underlying t with
 | some (.int _)=>true
 | _=>false
def flatT (t:TypeId):Bool:=match P.underlying t with
 | some (.struct fs)=>!(P.stoodInHeld t) && match fs.toList with
  | [f,g]=>f.name != "_" && g.name != "_" && isInt P f.type && isInt P g.type && Nat.beq f.offset 0 && Nat.beq g.offset 1
  | _=>false
 | _=>false
def nilKind (d:Option TypeDesc) (y:Operand):Option Nat:=
 match d,y with
 | some (.slice _),.const (.slice none 0 0)=>some 0
 | some (.pointer _),.const (.pointer none)=>some 1
 | some (.interface _),.const .nilIface=>some 2
 | some (.func ..),.const .nilFunc=>some 3
 | _,_=>none
def compBin (op:BinOp) (t:TypeId) (x y:Operand):Option AOp:=
 (compOpd x).bind fun a=>(compOpd y).bind fun b=>
 match P.underlying t with
 | some (.int _) | some .string=>some (.bin op a b)
 | some .bool=>match op with
  | .eql=>some (.binB false a b)
  | .neq=>some (.binB true a b)
  | _=>none
 | some (.struct _)=>if flatT P t && !(P.eqGuardType P.depth t) then match op with
  | .eql=>some (.eqA false 2 a b)
  | .neq=>some (.eqA true 2 a b)
  | _=>none
  else none
 | d=>(nilKind d y).bind fun k=>match op with
  | .eql=>some (.isnil false k a)
  | .neq=>some (.isnil true k a)
  | _=>none
def compConv (s d:TypeId) (x:Operand):Option AOp:=
 (compOpd x).bind fun a=>
 match P.underlying s,P.underlying d with
 | some (.int _),some (.int k)=>some (.cvi k a)
 | some (.int _),some .string=>some (.r2s a)
 | some .string,some (.slice e)=>match P.underlying e with
  | some (.int .u8)=>some (.s2b a)
  | _=>none
 | some (.slice e),some .string=>match P.underlying e with
  | some (.int .u8)=>some (.b2s a)
  | some (.int .i32)=>some (.rs2s a)
  | _=>none
 | some (.slice _),some (.slice e)=>match P.underlying e with
  | some (.int .u8)=>if Nat.beq s d then some (.cvb a) else none
  | _=>none
 | _,_=>none
def compCall (c:Call):Option AOp:=
 match c.callee,c.args.toList,c.argTypes.toList with
 | .builtin .len,[x],[t]=>match P.underlying t with
  | some .string=>(compOpd x).map (.len true)
  | some (.slice _)=>(compOpd x).map (.len false)
  | _=>none
 | .builtin .min,[x,y],_=>(compOpd x).bind fun a=>(compOpd y).map fun b=>.min a b
 | .builtin .append,[x,y],[s,t]=>match P.underlying s,P.underlying t with
  | some (.slice e),some (.slice _) | some (.slice e),some .string=>
   (compOpd x).bind fun a=>(compOpd y).bind fun b=>(sizeT P e).bind fun n=>(bytesT P e).bind fun z=>(zeroT P e).bind fun zs=>if zs.length=n then some (.app false n z a b) else none
  | some (.slice e),some (.int _)=>
   (compOpd x).bind fun a=>(compOpd y).bind fun b=>(sizeT P e).bind fun n=>(bytesT P e).bind fun z=>(zeroT P e).bind fun zs=>if zs.length=n∧0 < n then some (.appZ n z zs a b) else none
  | _,_=>none
 | .builtin .cap,[x],[t]=>match P.underlying t with
  | some (.slice _)=>(compOpd x).map .cap
  | _=>none
 | .builtin .copy,[x,y],[s,t]=>match P.underlying s,P.underlying t with
  | some (.slice e),some (.slice _) | some (.slice e),some .string=>
   (compOpd x).bind fun a=>(compOpd y).bind fun b=>(sizeT P e).map fun n=>.cpy n a b
  | _,_=>none
 | .builtin .clear,[x],[t]=>match P.underlying t with
  | some (.slice e)=>(compOpd x).bind fun a=>(sizeT P e).bind fun n=>(zeroT P e).bind fun z=>if z.length=n then some (.clr n z a) else none
  | _=>none
 | .value (.func f),args,_=>(compOpds args).map (.call false f)
 | .value x,args,_=>(compOpd x).bind fun a=>(compOpds args).map (.dyn a)
 | _,_,_=>none
def compOp1 (op:Op):Option AOp:=
 match op with
 | .move x | .assign x=>(compOpd x).map .mv
 | .pick c a b=>(compOpd c).bind fun c=>(compOpd a).bind fun a=>(compOpd b).map fun b=>.pick c a b
 | .alloc e=>(zeroT P e).map .alloc
 | .box _ x=>(compOpd x).map .box
 | .build t ps=>(zeroT P t).bind fun z=>match P.underlying t with
  | some (.struct fs)=>if (fs.toList.mapM fun f=>(P.info? f.type).map fun i=>(f.offset,i.size)).isSome then (partsS P fs.toList ps.toList).map (.build z) else none
  | some (.array _ e)=>(sizeT P e).bind fun n=>(partsA n ps.toList).map (.build z)
  | _=>none
 | .buildSlice t len ps=>match P.underlying t with
  | some (.slice e)=>(sizeT P e).bind fun n=>(zeroT P e).bind fun z=>(partsA n ps.toList).bind fun ps=>
   if len * n≤16777216∧z.length=n then some (.mkS len ((List.replicate len z).flatten) ps) else none
  | _=>none
 | .load t x=>(compOpd x).bind fun x=>(aggT P t).bind fun g=>if g then (sizeT P t).map fun n=>.ldA n x else some (.ld1 x)
 | .store t a x=>(compOpd a).bind fun a=>(compOpd x).bind fun x=>(sizeT P t).map fun n=>.st n a x
 | .nilCheck x=>(compOpd x).map .nilck
 | .binOp op t x y _=>compBin P op t x y
 | .unOp op _ x=>(compOpd x).map (.un op)
 | .convert s d x=>compConv P s d x
 | .makeInterface t x=>match P.underlying t with
  | some (.interface _)=>none
  | some _=>(compOpd x).map (.mkI t)
  | none=>none
 | .makeFunc (.func f) a b=>(compOpds a.toList).bind fun a=>(compOpds b.toList).map fun b=>.mkF f a b
 | .makeSlice t l c=>match P.underlying t with
  | some (.slice e)=>(compOpd l).bind fun l=>(compOpd c).bind fun c=>(sizeT P e).bind fun n=>(bytesT P e).bind fun b=>(zeroT P e).bind fun z=>
   if z.length=n then some (.mkM n b z l c) else none
  | _=>none
 | .slice t x lo hi mx=>(compOpd x).bind fun x=>(compO lo).bind fun lo=>(compO hi).bind fun hi=>(compO mx).bind fun mx=>match P.underlying t with
  | some .string=>if mx.isSome then none else some (.slcS x lo hi)
  | some (.slice e)=>(sizeT P e).map fun n=>.slc n x lo hi mx
  | some (.array n e)=>if mx.isSome then none else (sizeT P e).map fun s=>.slcA n s x lo hi
  | _=>none
 | .fieldAddr t x i=>(compOpd x).bind fun x=>match P.underlying t with
  | some (.struct fs)=>(fs[i]?).bind fun f=>(sizeT P f.type).bind fun n=>if n=0 then none else some (.fa f.offset x)
  | _=>none
 | .indexAddr t x i=>(compOpd x).bind fun x=>(compOpd i).bind fun i=>match P.underlying t with
  | some (.slice e)=>(sizeT P e).map fun n=>.ia n x i
  | some (.array n e)=>(sizeT P e).map fun s=>.iaA n s x i
  | _=>none
 | .index t x i=>(compOpd x).bind fun x=>(compOpd i).bind fun i=>match P.underlying t with
  | some .string=>some (.ixS x i)
  | some (.array n e)=>(sizeT P e).bind fun s=>(aggT P e).bind fun g=>if s=1∧g=false then some (.ixA n x i) else none
  | _=>none
 | .extract x i=>(compOpd x).map (.ext i)
 | .call c=>compCall P c
 | .range t x=>match P.underlying t with
  | some .string=>(compOpd x).map .rng
  | _=>none
 | .next x true=>(compOpd x).map .nxt
 | _=>none
def compOp (op:Op):AOp:=(compOp1 P op).getD .stop
def withMu:AOp→AOp→AOp
 | .app _ e b x y,.app mu _ _ _ _=>.app mu e b x y
 | .call _ f as,.call ad _ _=>.call ad f as
 | .mkS n z ps,.mkSm ..=>.mkSm n z ps
 | op,_=>op
def isMaj:AOp→Bool
 | .alloc _ | .box _ | .st .. | .mkSm .. | .cvb _ | .mkM .. | .call .. | .dyn .. | .app .. | .appZ .. | .cpy .. | .clr .. | .rng _ | .nxt _=>true
 | _=>false
def maskAt:List (Nat × Nat)→Nat→Nat
 | [],_=>0
 | (j,m) :: r,i=>if Nat.beq j i then m else maskAt r i
def ancOf (acc:List (Nat × Nat)):List Edge→Nat
 | []=>0
 | e :: r=>if Region.binds .any e then (2 ^ e.on ||| maskAt acc e.on) ||| ancOf acc r else ancOf acc r
def listed:List Nat→Nat→Bool
 | [],_=>false
 | j :: r,i=>if Nat.beq j i then true else listed r i
def edgesIn (done:List Nat):List Edge→Bool
 | []=>true
 | e :: r=>(!(Region.binds .any e) || listed done e.on) && edgesIn done r
def tmpsOf:List Operand→List Nat
 | []=>[]
 | .tmp t :: r=>t :: tmpsOf r
 | _ :: r=>tmpsOf r
def guardOf (ops:List Oper):Option (Nat × Bool)→Option (Option Nat × Bool)
 | none=>none
 | some (j,b)=>some ((ops[j]?).bind (·.dst),b)
def optL:Option Nat→List Nat
 | none=>[]
 | some t=>[t]
def guardT:Option (Option Nat × Bool)→List Nat
 | some (some t,_)=>[t]
 | _=>[]
structure Past where
 idx:Nat
 dst:Option Nat
 names:List Nat
 maj:Bool
 float:Bool
def opdT:Opd→List Nat
 | .t i=>[i]
 | _=>[]
def opdsT:List Opd→List Nat
 | []=>[]
 | x :: r=>opdT x ++ opdsT r
def opdO:Option Opd→List Nat
 | none=>[]
 | some x=>opdT x
def partT:List (Nat × Nat × Opd)→List Nat
 | []=>[]
 | (_,_,x) :: r=>opdT x ++ partT r
def opT:AOp→List Nat
 | .mv x | .box x | .ldA _ x | .ld1 x | .nilck x | .isnil _ _ x | .un _ x | .cvi _ x | .s2b x | .b2s x | .r2s x | .rs2s x | .mkI _ x | .fa _ x | .ext _ x | .len _ x | .cap x | .clr _ _ x | .cvb x | .rng x | .nxt x=>opdT x
 | .pick c a b=>opdT c ++ opdT a ++ opdT b
 | .alloc _ | .stop=>[]
 | .build _ ps | .mkS _ _ ps | .mkSm _ _ ps=>partT ps
 | .st _ x y | .bin _ x y | .binB _ x y | .eqA _ _ x y | .mkM _ _ _ x y | .ia _ x y | .iaA _ _ x y | .ixS x y | .ixA _ x y | .min x y | .app _ _ _ x y | .appZ _ _ _ x y | .cpy _ x y=>opdT x ++ opdT y
 | .mkF _ x y=>opdsT x ++ opdsT y
 | .slcS x lo hi | .slcA _ _ x lo hi=>opdT x ++ opdO lo ++ opdO hi
 | .slc _ x lo hi mx=>opdT x ++ opdO lo ++ opdO hi ++ opdO mx
 | .call _ _ xs=>opdsT xs
 | .dyn x xs=>opdT x ++ opdsT xs
def isAlloc:Op→Bool
 | .alloc _=>true
 | _=>false
def unOf (anc:Nat) (maj:Bool):List Past→List Nat
 | []=>[]
 | p :: r=>if !(anc.testBit p.idx) && (maj || p.maj) then p.idx :: unOf anc maj r else unOf anc maj r
def fits (anc:Nat) (dst:Option Nat) (names:List Nat) (maj:Bool):List Past→Bool
 | []=>true
 | p :: r=>(anc.testBit p.idx || (!(maj && p.maj && !p.float) && (match p.dst with | some d=>!(listed names d) && !(listed (optL dst) d) | none=>true) && (match dst with | some d=>!(listed p.names d) | none=>true))) && fits anc dst names maj r
def dstOK (n:Nat):Option Nat→Bool
 | none=>true
 | some d=>Nat.ble (d + 1) n
def compOps (n:Nat) (draw:Bool) (ops:List Oper):List AOper→List Nat→List (Nat × Nat)→List Past→Option (List AOper)
 | [],_,_,_=>some []
 | g :: r,done,acc,past=>(ops[g.idx]?).bind fun o=>let op:=withMu (compOp P o.op) g.op
  if listed done g.idx || !(edgesIn done o.after.toList) || !(dstOK n o.dst) then none else
  let gd:=guardOf ops o.guard
  if draw then
   let anc:=ancOf acc o.after.toList
   let names:=opT op ++ guardT gd
   let fl:=isAlloc o.op && o.after.toList.isEmpty && o.guard.isNone && past.all (·.float)
   if fits anc o.dst names (isMaj op) past then
    (compOps n draw ops r (g.idx :: done) ((g.idx,anc) :: acc) (⟨g.idx,o.dst,names,isMaj op,fl⟩ :: past)).map (⟨g.idx,o.dst,op,gd,unOf anc (isMaj op) past⟩ :: ·)
   else none
  else if Nat.beq g.idx done.length then
   (compOps n draw ops r (g.idx :: done) [] []).map (⟨g.idx,o.dst,op,gd,[]⟩ :: ·)
  else none
def compC (n:Nat):Code→AC→Option AC
 | .skip,_=>some .skip
 | .region _ ops dr,.ops _ l keep=>(compOps P n dr ops.toList l [] [] []).bind fun l'=>if l.length=ops.size then some (.ops dr l' keep) else none
 | .seq a b,.seq a' b'=>(compC n a a').bind fun x=>(compC n b b').map fun y=>.seq x y
 | .cond c a b,.cond _ a' b'=>(compOpd c).bind fun c=>(compC n a a').bind fun x=>(compC n b b').map fun y=>.cond c x y
 | .block id c,.block _ c'=>(compC n c c').map (.block id)
 | .loop c,.loop c'=>(compC n c c').map .loop
 | .exit id,_=>some (.exit id)
 | .ret,_=>some .ret
 | c,.acc k c'=>(compC n c c').map (.acc k)
 | _,.stop=>some .stop
 | _,_=>none
def compR:List ResultVar→Option (List ARes)
 | []=>some []
 | .tmp t :: r=>(compR r).map (.t t :: ·)
 | .cell a t :: r=>(aggT P t).bind fun g=>(sizeT P t).bind fun n=>(compR r).map ((if g then .cA a n else .c1 a) :: ·)
def compF (fn:Func) (g:AFun):Option AFun:=
 if fn.name = "runtime.NumGoroutine" then none else
 fn.body.bind fun c=>(compC P fn.ntmps c g.code).bind fun c=>(compR P fn.results.toList).map fun rs=>⟨g.np,c,rs⟩
end
end Go.Sx
namespace Go.Sx
structure Tk where
 g:Nat
 e:Nat
 L:Nat
 z:Nat
 S:Nat
structure YI where
 l:Nat
 id:Nat
 lp:Loop
structure Cx where
 B:Nat
 ρ:Nat→Option Nat
 τ:Nat→Option Tk
 I:Nat→Nat→Option Value
 σ:Nat→Option (Nat × Nat × Nat)
 Y:Option YI
inductive VR (γ:Cx):Bool→AV→Value→Prop
 | bool (p:Bool) (b:Bool):VR γ p (.bool b) (.bool b)
 | int (p:Bool) (k:IntKind) (n:Int):VR γ p (.int k n) (.int k n)
 | str (p:Bool) (l:List Nat) (s:ByteArray) (h:s.data.toList.map UInt8.toNat=l):VR γ p (.str l) (.string s)
 | nilp (p:Bool):VR γ p .nilp (.pointer none)
 | ptr (b off g:Nat) (h:γ.ρ b=some g):VR γ false (.ptr b off) (.pointer (some ⟨g,off,none⟩))
 | cp (p:Bool) (cells:List AV) (vs:List Value) (g o:Nat) (hl:cells.length=vs.length)
   (h:∀ (i:Nat) (a:AV) (v:Value),cells[i]?=some a→vs[i]?=some v→VR γ true a v)
   (hi:∀ (i:Nat) (v:Value),vs[i]?=some v→γ.I g (o + i)=some v):VR γ p (.cp cells) (.pointer (some ⟨g,o,none⟩))
 | nils (p:Bool):VR γ p .nils (.slice none 0 0)
 | sl (p:Bool) (t e n:Nat) (cells:List AV) (vs:List Value) (g o c:Nat) (hl:cells.length=vs.length)
   (h:∀ (i:Nat) (a:AV) (v:Value),cells[i]?=some a→vs[i]?=some v→VR γ true a v)
   (hi:∀ (i:Nat) (v:Value),vs[i]?=some v→γ.I g (o + i)=some v)
   (hn:n≤c) (h1:t=1→c=n)
   (h2:∀ k,t=k + 2→p=false∧∃ x,γ.τ k=some x∧e≤x.L∧(e=x.L→cells.length=n * x.z∧(c=n∨(g=x.g∧o + cells.length=x.e∧o + c * x.z≤x.S)))) :
   VR γ p (.sl t e n cells) (.slice (some ⟨g,o,none⟩) n c)
 | ms (b off n c c' g:Nat) (h:γ.ρ b=some g) (hn:n≤c) (hc:c≤c') (hs:off=0→c'=c∨∃ z S,γ.σ b=some (c,z,S)∧c' * z≤S):VR γ false (.ms b off n c) (.slice (some ⟨g,off,none⟩) n c')
 | fn (p:Bool) (f:Nat) (a b:List AV) (va vb:Array Value) (hla:a.length=va.toList.length) (hlb:b.length=vb.toList.length)
   (ha:∀ (i:Nat) (x:AV) (v:Value),a[i]?=some x→va.toList[i]?=some v→VR γ p x v)
   (hb:∀ (i:Nat) (x:AV) (v:Value),b[i]?=some x→vb.toList[i]?=some v→VR γ p x v) :
   VR γ p (.fn f a b) (.func (.func f) va vb)
 | nilf (p:Bool):VR γ p .nilf .nilFunc
 | iface (p:Bool) (t:Nat) (v:AV) (w:Value) (h:VR γ p v w):VR γ p (.iface t v) (.iface t w)
 | nili (p:Bool):VR γ p .nili .nilIface
 | agg (p:Bool) (cs:List AV) (a:Array Value) (hl:cs.length=a.toList.length)
   (h:∀ (i:Nat) (x:AV) (v:Value),cs[i]?=some x→a.toList[i]?=some v→VR γ p x v):VR γ p (.agg cs) (.agg a)
 | tup (p:Bool) (cs:List AV) (a:Array Value) (hl:cs.length=a.toList.length)
   (h:∀ (i:Nat) (x:AV) (v:Value),cs[i]?=some x→a.toList[i]?=some v→VR γ p x v):VR γ p (.tup cs) (.tuple a)
 | any (p:Bool) (v:Value):VR γ p .any v
 | yld (id:Nat) (ts:List Nat) (vs:List AV) (y:YI) (h:γ.Y=some y) (hid:y.id=id) (hl:ts.length=vs.length)
   (ht:∀ (i t:Nat) (a:AV),ts[i]?=some t→vs[i]?=some a→VR γ false a (y.lp.tmps.getD t undef)):VR γ false (.yld id ts vs) (.func (.yield y.l) #[] #[])
def VRs (γ:Cx) (p:Bool) (as:List AV) (vs:List Value):Prop:=
 as.length=vs.length∧∀ (i:Nat) (a:AV) (v:Value),as[i]?=some a→vs[i]?=some v→VR γ p a v
structure Le (γ γ':Cx):Prop where
 B:γ'.B=γ.B
 ρ:∀ b g,γ.ρ b=some g→γ'.ρ b=some g
 τ:∀ k x,γ.τ k=some x→∃ x',γ'.τ k=some x'∧(x'=x∨x.L < x'.L)
 I:∀ g o v,γ.I g o=some v→γ'.I g o=some v
 σ:∀ b g,γ.ρ b=some g→γ'.σ b=γ.σ b
 Y:γ'.Y=γ.Y
theorem Le.refl (γ:Cx):Le γ γ:=⟨rfl,fun _ _ h=>h,fun _ x h=>⟨x,h,.inl rfl⟩,fun _ _ _ h=>h,fun _ _ _=>rfl,rfl⟩
theorem Le.trans {a b c:Cx} (h:Le a b) (k:Le b c):Le a c:=
 ⟨k.B.trans h.B,fun b g x=>k.ρ b g (h.ρ b g x),fun t x hx=>by
  obtain ⟨y,hy,hxy⟩:=h.τ t x hx
  obtain ⟨z,hz,hyz⟩:=k.τ t y hy
  refine ⟨z,hz,?_⟩
  rcases hxy with rfl | hxy <;> rcases hyz with rfl | hyz
  ·exact .inl rfl
  ·exact .inr hyz
  ·exact .inr hxy
  ·exact .inr (by omega),fun g o v x=>k.I g o v (h.I g o v x),fun b g x=>(k.σ b g (h.ρ b g x)).trans (h.σ b g x),k.Y.trans h.Y⟩
theorem VR.mono {γ γ':Cx} {p:Bool} {a:AV} {v:Value} (hle:Le γ γ') (h:VR γ p a v):VR γ' p a v:=by
 induction h with
 | bool p b=>exact .bool p b
 | int p k n=>exact .int p k n
 | str p l s h=>exact .str p l s h
 | nilp p=>exact .nilp p
 | ptr b off g h=>exact .ptr b off g (hle.ρ _ _ h)
 | cp p cells vs g o hl _ hi ih=>exact .cp p cells vs g o hl ih fun i v hv=>hle.I _ _ _ (hi i v hv)
 | nils p=>exact .nils p
 | sl p t e n cells vs g o c hl _ hi hn h1 h2 ih=>
  refine .sl p t e n cells vs g o c hl ih (fun i v hv=>hle.I _ _ _ (hi i v hv)) hn h1 fun k hk=>?_
  obtain ⟨hp,x,hx,he,hL⟩:=h2 k hk
  obtain ⟨x',hx',hxx⟩:=hle.τ k x hx
  refine ⟨hp,x',hx',?_,?_⟩
  ·rcases hxx with rfl | hxx
   ·exact he
   ·omega
  ·intro h
   rcases hxx with rfl | hxx
   ·exact hL h
   ·omega
 | ms b off n c c' g h hn hc hs=>exact .ms b off n c c' g (hle.ρ _ _ h) hn hc (by rw [hle.σ _ _ h]; exact hs)
 | fn p f a b va vb hla hlb _ _ iha ihb=>exact .fn p f a b va vb hla hlb iha ihb
 | nilf p=>exact .nilf p
 | iface p t v w _ ih=>exact .iface p t v w ih
 | nili p=>exact .nili p
 | agg p cs a hl _ ih=>exact .agg p cs a hl ih
 | tup p cs a hl _ ih=>exact .tup p cs a hl ih
 | any p v=>exact .any p v
 | yld id ts vs y h hid hl _ ih=>exact .yld id ts vs y (hle.Y.trans h) hid hl ih
theorem VR.weak {γ:Cx} {q:Bool} {a:AV} {v:Value} (h:VR γ q a v):∀ p,VR γ true a v→q=true→VR γ p a v:=by
 induction h with
 | bool p b=>exact fun p _ _=>.bool p b
 | int p k n=>exact fun p _ _=>.int p k n
 | str p l s h=>exact fun p _ _=>.str p l s h
 | nilp p=>exact fun p _ _=>.nilp p
 | ptr b off g h=>exact fun p _ h=>by cases h
 | cp p cells vs g o hl h hi ih=>exact fun p _ _=>.cp p cells vs g o hl h hi
 | nils p=>exact fun p _ _=>.nils p
 | sl p t e n cells vs g o c hl h hi hn h1 h2 ih=>
  exact fun p' _ hq=>.sl p' t e n cells vs g o c hl h hi hn h1 fun k hk=>by
   obtain ⟨hp,_⟩:=h2 k hk
   rw [hq] at hp
   cases hp
 | ms b off n c c' g h hn hc hs=>exact fun p _ h=>by cases h
 | fn p f a b va vb hla hlb ha hb iha ihb=>
  intro p' _ hq
  subst hq
  exact .fn p' f a b va vb hla hlb (fun i x v hx hv=>iha i x v hx hv p' (ha i x v hx hv) rfl) fun i x v hx hv=>ihb i x v hx hv p' (hb i x v hx hv) rfl
 | nilf p=>exact fun p _ _=>.nilf p
 | iface p t v w h ih=>
  intro p' _ hq
  subst hq
  exact .iface p' t v w (ih p' h rfl)
 | nili p=>exact fun p _ _=>.nili p
 | agg p cs a hl h ih=>
  intro p' _ hq
  subst hq
  exact .agg p' cs a hl fun i x v hx hv=>ih i x v hx hv p' (h i x v hx hv) rfl
 | tup p cs a hl h ih=>
  intro p' _ hq
  subst hq
  exact .tup p' cs a hl fun i x v hx hv=>ih i x v hx hv p' (h i x v hx hv) rfl
 | any p v=>exact fun p _ _=>.any p v
 | yld id ts vs y h hid hl ht ih=>exact fun p _ h=>by cases h
theorem VR.of_pure {γ:Cx} {p:Bool} {a:AV} {v:Value} (h:VR γ true a v):VR γ p a v:=h.weak p h rfl
theorem VRs.mono {γ γ':Cx} {p:Bool} {as:List AV} {vs:List Value} (hle:Le γ γ') (h:VRs γ p as vs):VRs γ' p as vs:=
 ⟨h.1,fun i a v ha hv=>(h.2 i a v ha hv).mono hle⟩
theorem VRs.of_pure {γ:Cx} {p:Bool} {as:List AV} {vs:List Value} (h:VRs γ true as vs):VRs γ p as vs:=
 ⟨h.1,fun i a v ha hv=>(h.2 i a v ha hv).of_pure⟩
theorem VRs.nil (γ:Cx) (p:Bool):VRs γ p [] []:=⟨rfl,fun i a v h=>by simp at h⟩
theorem VRs.cons {γ:Cx} {p:Bool} {a:AV} {v:Value} {as:List AV} {vs:List Value} (h:VR γ p a v) (hs:VRs γ p as vs):VRs γ p (a :: as) (v :: vs):=
 ⟨by simp [hs.1],fun i x y hx hy=>by
  cases i with
  | zero=>simp at hx hy; subst hx; subst hy; exact h
  | succ i=>simp at hx hy; exact hs.2 i x y hx hy⟩
theorem VRs.head {γ:Cx} {p:Bool} {a:AV} {v:Value} {as:List AV} {vs:List Value} (h:VRs γ p (a :: as) (v :: vs)):VR γ p a v:=h.2 0 a v rfl rfl
theorem VRs.tail {γ:Cx} {p:Bool} {a:AV} {v:Value} {as:List AV} {vs:List Value} (h:VRs γ p (a :: as) (v :: vs)):VRs γ p as vs:=
 ⟨by simpa using h.1,fun i x y hx hy=>h.2 (i + 1) x y (by simpa using hx) (by simpa using hy)⟩
theorem VRs.nil_inv {γ:Cx} {p:Bool} {vs:List Value} (h:VRs γ p [] vs):vs=[]:=List.eq_nil_of_length_eq_zero h.1.symm
theorem VRs.cons_inv {γ:Cx} {p:Bool} {a:AV} {as:List AV} {vs:List Value} (h:VRs γ p (a :: as) vs):∃ v r,vs=v :: r∧VR γ p a v∧VRs γ p as r:=by
 cases vs with
 | nil=>exact absurd h.1 (by simp)
 | cons v r=>exact ⟨v,r,rfl,h.head,h.tail⟩
theorem VRs.append {γ:Cx} {p:Bool} {as bs:List AV} {vs ws:List Value} (h:VRs γ p as vs) (k:VRs γ p bs ws):VRs γ p (as ++ bs) (vs ++ ws):=
 ⟨by simp [h.1,k.1],fun i x y hx hy=>by
  have hl:=h.1
  rcases Nat.lt_or_ge i as.length with hi | hi
  ·rw [List.getElem?_append_left hi] at hx
   rw [List.getElem?_append_left (by omega)] at hy
   exact h.2 i x y hx hy
  ·rw [List.getElem?_append_right hi] at hx
   rw [List.getElem?_append_right (by rw [← h.1]; exact hi),← h.1] at hy
   exact k.2 _ x y hx hy⟩
theorem VRs.drop {γ:Cx} {p:Bool} {as:List AV} {vs:List Value} (h:VRs γ p as vs) (n:Nat):VRs γ p (as.drop n) (vs.drop n):=
 ⟨by simp [h.1],fun i x y hx hy=>h.2 (n + i) x y (by simpa [List.getElem?_drop] using hx) (by simpa [List.getElem?_drop] using hy)⟩
theorem VRs.take {γ:Cx} {p:Bool} {as:List AV} {vs:List Value} (h:VRs γ p as vs) (n:Nat):VRs γ p (as.take n) (vs.take n):=
 ⟨by simp [h.1],fun i x y hx hy=>by
  rw [List.getElem?_take] at hx hy
  split at hx
  ·rename_i hi
   rw [if_pos hi] at hy
   exact h.2 i x y hx hy
  ·cases hx⟩
theorem VRs.get {γ:Cx} {p:Bool} {as:List AV} {vs:List Value} (h:VRs γ p as vs) {i:Nat} {a:AV} (ha:as[i]?=some a):∃ v,vs[i]?=some v∧VR γ p a v:=by
 have hi:i < vs.length:=by
  have:=(List.getElem?_eq_some_iff.1 ha).1
  have:=h.1
  omega
 exact ⟨vs[i],List.getElem?_eq_getElem hi,h.2 i a _ ha (List.getElem?_eq_getElem hi)⟩
def Unmarked (n:Nat) (fz:Nat × Nat):Prop:=∀ o,o < n→(fz.1≤o && o < fz.2)=false
def BoxAt (γ:Cx) (w:World) (b g:Nat):Box→Prop
 | .cells l=>γ.B≤g∧(∀ o,γ.I g o=none)∧∃ arr el fz,w.heap[g]?=some (.cells arr el fz)∧Unmarked arr.size fz∧l.length≤arr.size ∧
   VRs γ false l (arr.toList.take l.length)∧l.all oneA=true∧∀ c z S,γ.σ b=some (c,z,S)→l.length=c * z∧S≤arr.size
 | .iter l pos=>γ.B≤g∧(∀ o,γ.I g o=none)∧∃ s,w.heap[g]?=some (.stringIter s pos)∧s.data.toList.map UInt8.toNat=l
def TokAt (γ:Cx) (w:World) (x:Tk):Prop:=
 γ.B≤x.g∧(∀ o,x.e≤o→γ.I x.g o=none)∧∃ arr el fz,w.heap[x.g]?=some (.cells arr el fz)∧Unmarked arr.size fz∧x.e≤arr.size∧x.S≤arr.size
def YOK (G:(Nat→Option (List AV)) × (Nat→Loop→Prop)) (w:World) (y:YI):Prop:=
 y.lp.state=.ready∧y.lp.pending=none∧w.heap[y.l]?=some (.loop y.lp)∧w.heap[y.lp.defers]?=some (.deferred (some []))∧G.2 y.id y.lp
structure Inv (G:(Nat→Option (List AV)) × (Nat→Loop→Prop)) (γ:Cx) (M:Mem) (w:World):Prop where
 base:γ.B≤w.heap.size
 imm:∀ g o v,γ.I g o=some v→w.cell? ⟨g,o,none⟩=some v
 box:∀ b x g,M.get b=some x→γ.ρ b=some g→BoxAt γ w b g x
 inj:∀ b b' x x' g,M.get b=some x→M.get b'=some x'→γ.ρ b=some g→γ.ρ b'=some g→b=b'
 tok:∀ k L z x,lookT M.toks k=some (L,z)→γ.τ k=some x→x.L=L∧x.z=z∧TokAt γ w x
 tokb:∀ k L z x b y g,lookT M.toks k=some (L,z)→γ.τ k=some x→M.get b=some y→γ.ρ b=some g→g≠x.g
 tokt:∀ k L z x k' L' z' x',lookT M.toks k=some (L,z)→γ.τ k=some x→lookT M.toks k'=some (L',z')→γ.τ k'=some x'→x.g=x'.g→k=k'
 nb:∀ b,M.nb≤b→γ.ρ b=none
 nbM:∀ b x,M.get b=some x→b < M.nb
 nt:∀ k,M.nt≤k→γ.τ k=none
 ntM:∀ k x,lookT M.toks k=some x→k < M.nt
 glo:∀ i cells,G.1 i=some cells→VR γ true (.cp cells) (.pointer (some ⟨i,0,none⟩))
 yok:∀ y,γ.Y=some y→YOK G w y
def Foot (γ:Cx) (M:Mem) (g:Nat):Prop:=
 (∃ b x,M.get b=some x∧γ.ρ b=some g)∨(∃ k y x,lookT M.toks k=some y∧γ.τ k=some x∧x.g=g)
structure Nx (G:(Nat→Option (List AV)) × (Nat→Loop→Prop)) (γ:Cx) (M:Mem) (w:World) (γ':Cx) (M':Mem) (w':World):Prop where
 le:Le γ γ'
 inv:Inv G γ' M' w'
 os:w'.os=w.os
 tape:w'.tape=w.tape
 output:w'.output=w.output
 size:w.heap.size≤w'.heap.size
 keep:∀ g,g < w.heap.size→¬ Foot γ M g→w'.heap[g]?=w.heap[g]?
 foot:∀ g,g < w.heap.size→Foot γ' M' g→Foot γ M g
 fresh:∀ g o,g < w.heap.size→¬ Foot γ M g→γ'.I g o=γ.I g o
 dead:∀ b,b < M.nb→γ.ρ b=none→γ'.ρ b=none
 nb:M.nb≤M'.nb
 nt:M.nt≤M'.nt
theorem Inv.apart {G:(Nat→Option (List AV)) × (Nat→Loop→Prop)} {γ:Cx} {M:Mem} {w:World} (h:Inv G γ M w) {g:Nat} {o:Obj} (ho:w.heap[g]?=some o) (hc:∀ arr el fz,o≠.cells arr el fz) (hs:∀ s p,o≠.stringIter s p):¬ Foot γ M g:=by
 rintro (⟨b,x,hb,hg⟩ | ⟨k,y,x,hk,hx,rfl⟩)
 ·have hx:=h.box b x g hb hg
  cases x with
  | cells l=>
   obtain ⟨_,_,arr,el,fz,hh,_⟩:=hx
   rw [ho] at hh
   exact hc _ _ _ (Option.some.inj hh)
  | iter l pos=>
   obtain ⟨_,_,s,hh,_⟩:=hx
   rw [ho] at hh
   exact hs _ _ (Option.some.inj hh)
 ·obtain ⟨_,_,_,_,arr,el,fz,hh,_⟩:=h.tok k y.1 y.2 x hk hx
  rw [ho] at hh
  exact hc _ _ _ (Option.some.inj hh)
theorem Inv.yok_keep {G:(Nat→Option (List AV)) × (Nat→Loop→Prop)} {γ γ':Cx} {M:Mem} {w w':World} (h:Inv G γ M w) (hY:γ'.Y=γ.Y) (hk:∀ g,g < w.heap.size→¬ Foot γ M g→w'.heap[g]?=w.heap[g]?):∀ y,γ'.Y=some y→YOK G w' y:=fun y hy=>by
 obtain ⟨h1,h2,h3,h4,h5⟩:=h.yok y (hY ▸ hy)
 refine ⟨h1,h2,?_,?_,h5⟩
 ·rw [hk _ (Array.getElem?_eq_some_iff.1 h3).1 (h.apart h3 (by simp) (by simp))]; exact h3
 ·rw [hk _ (Array.getElem?_eq_some_iff.1 h4).1 (h.apart h4 (by simp) (by simp))]; exact h4
theorem Nx.refl {G:(Nat→Option (List AV)) × (Nat→Loop→Prop)} {γ:Cx} {M:Mem} {w:World} (h:Inv G γ M w):Nx G γ M w γ M w:=
 ⟨Le.refl _,h,rfl,rfl,rfl,Nat.le_refl _,fun _ _ _=>rfl,fun _ _ h=>h,fun _ _ _ _=>rfl,fun _ _ h=>h,Nat.le_refl _,Nat.le_refl _⟩
theorem Nx.trans {G:(Nat→Option (List AV)) × (Nat→Loop→Prop)} {γ γ1 γ2:Cx} {M M1 M2:Mem} {w w1 w2:World} (h:Nx G γ M w γ1 M1 w1) (k:Nx G γ1 M1 w1 γ2 M2 w2):Nx G γ M w γ2 M2 w2:=
 ⟨h.le.trans k.le,k.inv,k.os.trans h.os,k.tape.trans h.tape,k.output.trans h.output,Nat.le_trans h.size k.size,
  fun g hg hf=>(k.keep g (Nat.lt_of_lt_of_le hg h.size) fun hf'=>hf (h.foot g hg hf')).trans (h.keep g hg hf),
  fun g hg hf=>h.foot g hg (k.foot g (Nat.lt_of_lt_of_le hg h.size) hf),fun g o hg hf=>(k.fresh g o (Nat.lt_of_lt_of_le hg h.size) fun hf'=>hf (h.foot g hg hf')).trans (h.fresh g o hg hf),fun b hb hn=>k.dead b (Nat.lt_of_lt_of_le hb h.nb) (h.dead b hb hn),Nat.le_trans h.nb k.nb,Nat.le_trans h.nt k.nt⟩
theorem beq_ne {i j:Nat} (h:¬ i=j):Nat.beq i j=false:=by
 cases hb:Nat.beq i j with
 | false=>rfl
 | true=>exact absurd (Nat.eq_of_beq_eq_true hb) h
theorem beq_self (i:Nat):Nat.beq i i=true:=Nat.beq_refl i
theorem lookB_set {l:List (Nat × Box)} {b:Nat} {y:Box} {j:Nat}:lookB (setB l b y) j=if b=j then (if (lookB l b).isSome then some y else none) else lookB l j:=by
 induction l with
 | nil=>simp [lookB,setB]
 | cons p r ih=>
  obtain ⟨i,x⟩:=p
  by_cases hib:i=b
  ·subst hib
   by_cases hj:i=j
   ·subst hj; simp [setB,lookB]
   ·have:Nat.beq i j=false:=beq_ne hj
    simp [setB,lookB,hj]
  ·have h1:Nat.beq i b=false:=beq_ne hib
   by_cases hj:i=j
   ·subst hj
    have:¬ b=i:=fun h=>hib h.symm
    simp [setB,lookB,h1,this]
   ·have h2:Nat.beq i j=false:=beq_ne hj
    simp [setB,lookB,h1,h2,ih]
theorem lookB_drop {l:List (Nat × Box)} {b j:Nat}:lookB (dropB l b) j=if b=j then none else lookB l j:=by
 induction l with
 | nil=>simp [lookB,dropB]
 | cons p r ih=>
  obtain ⟨i,x⟩:=p
  by_cases hib:i=b
  ·subst hib
   by_cases hj:i=j
   ·subst hj; simp [dropB,ih]
   ·have:Nat.beq i j=false:=beq_ne hj
    simp [dropB,lookB,ih,hj]
  ·have h1:Nat.beq i b=false:=beq_ne hib
   by_cases hj:i=j
   ·subst hj
    have:¬ b=i:=fun h=>hib h.symm
    simp [dropB,lookB,h1,this]
   ·have h2:Nat.beq i j=false:=beq_ne hj
    simp [dropB,lookB,h1,h2,ih]
theorem lookT_set {l:List (Nat × Nat × Nat)} {k n j:Nat}:lookT (setT l k n) j=if k=j then (lookT l k).map (fun x=>(n,x.2)) else lookT l j:=by
 induction l with
 | nil=>simp [lookT,setT]
 | cons p r ih=>
  obtain ⟨i,m,z⟩:=p
  by_cases hib:i=k
  ·subst hib
   by_cases hj:i=j
   ·subst hj; simp [setT,lookT]
   ·have:Nat.beq i j=false:=beq_ne hj
    simp [setT,lookT,hj]
  ·have h1:Nat.beq i k=false:=beq_ne hib
   by_cases hj:i=j
   ·subst hj
    have:¬ k=i:=fun h=>hib h.symm
    simp [setT,lookT,h1,this]
   ·have h2:Nat.beq i j=false:=beq_ne hj
    simp [setT,lookT,h1,h2,ih]
theorem Mem.get_set {M:Mem} {b j:Nat} {y:Box}:(M.set b y).get j=if b=j then (if (M.get b).isSome then some y else none) else M.get j:=lookB_set
theorem Mem.get_kill {M:Mem} {b j:Nat}:(M.kill b).get j=if b=j then none else M.get j:=lookB_drop
theorem Mem.get_new {M:Mem} {j:Nat} {y:Box}:(M.new y).get j=if M.nb=j then some y else M.get j:=by
 by_cases h:M.nb=j
 ·subst h; simp [Mem.new,Mem.get,lookB]
 ·have:Nat.beq M.nb j=false:=beq_ne h
  simp [Mem.new,Mem.get,lookB,h]
@[simp] theorem Mem.get_tok {M:Mem} {n z j:Nat}:(M.tok n z).get j=M.get j:=rfl
@[simp] theorem Mem.get_bump {M:Mem} {k n j:Nat}:(M.bump k n).get j=M.get j:=rfl
end Go.Sx
namespace Go.Sx
variable {G:(Nat→Option (List AV)) × (Nat→Loop→Prop)}
def splice (l:List Value) (o:Nat) (vs:List Value):List Value:=l.take o ++ vs ++ l.drop (o + vs.length)
theorem splice_length {l:List Value} {o:Nat} {vs:List Value} (h:o + vs.length≤l.length):(splice l o vs).length=l.length:=by
 simp [splice]; omega
theorem setCells_other (b:Nat):∀ (vs:List Value) (o:Nat) (w:World) (g:Nat),g≠b→(w.setCells b o vs).heap[g]?=w.heap[g]?
 | [],_,_,_,_=>rfl
 | v :: r,o,w,g,h=>by
  rw [World.setCells,setCells_other b r (o + 1) _ g h]
  simp only [World.setCell,Array.getElem?_modify]
  rw [if_neg (fun e=>h e.symm)]
theorem setCells_size (b:Nat):∀ (vs:List Value) (o:Nat) (w:World),(w.setCells b o vs).heap.size=w.heap.size
 | [],_,_=>rfl
 | v :: r,o,w=>by rw [World.setCells,setCells_size b r]; simp
theorem setCells_rest (b:Nat):∀ (vs:List Value) (o:Nat) (w:World),(w.setCells b o vs).os=w.os∧(w.setCells b o vs).tape=w.tape∧(w.setCells b o vs).output=w.output
 | [],_,_=>⟨rfl,rfl,rfl⟩
 | v :: r,o,w=>by rw [World.setCells]; exact setCells_rest b r (o + 1) _
theorem setCells_at (b:Nat) (el:TypeId) (fz:Nat × Nat):∀ (vs:List Value) (o:Nat) (w:World) (arr:Array Value),w.heap[b]?=some (.cells arr el fz)→o + vs.length≤arr.size →
  (w.setCells b o vs).heap[b]?=some (.cells (splice arr.toList o vs).toArray el fz)
 | [],o,w,arr,h,_=>by
  simp [World.setCells,splice,h]
 | v :: r,o,w,arr,h,hl=>by
  rw [World.setCells]
  have hlt:b < w.heap.size:=(Array.getElem?_eq_some_iff.1 h).1
  have h1:(w.setCell ⟨b,o,none⟩ v).heap[b]?=some (.cells (arr.setIfInBounds o v) el fz):=by
   simp only [World.setCell,Array.getElem?_modify,if_true,h]
   simp
  rw [setCells_at b el fz r (o + 1) _ (arr.setIfInBounds o v) h1 (by simp at hl ⊢; omega)]
  congr 3
  simp only [splice,Array.toList_setIfInBounds]
  simp at hl
  have ho:o < arr.toList.length:=by simp; omega
  rw [List.take_set,List.drop_set,if_pos (by omega)]
  have e1:(arr.toList.take (o + 1)).set o v=arr.toList.take o ++ [v]:=by
   rw [List.take_succ_eq_append_getElem ho,List.set_append_right _ _ (by simp; omega)]
   simp
   have:o - min o arr.size=0:=by omega
   rw [this]
   rfl
  rw [e1]
  have e3:o + 1 + r.length=o + (r.length + 1):=by omega
  simp [List.append_assoc,e3]
theorem cell_at {w:World} {g o:Nat} {arr:Array Value} {el:TypeId} {fz:Nat × Nat} (h:w.heap[g]?=some (.cells arr el fz)):w.cell? ⟨g,o,none⟩=arr[o]?:=by
 simp [World.cell?,h]
theorem frozen_at {w:World} {g o:Nat} {arr:Array Value} {el:TypeId} {fz:Nat × Nat} (h:w.heap[g]?=some (.cells arr el fz)) (hu:Unmarked arr.size fz) (ho:o < arr.size):w.frozen? ⟨g,o,none⟩=false:=by
 simp only [World.frozen?,h]
 exact hu o ho
theorem Inv.lt {γ:Cx} {M:Mem} {w:World} (h:Inv G γ M w) {g o:Nat} {v:Value} (hi:γ.I g o=some v):g < w.heap.size:=
 World.block_lt_of_cell? w ⟨g,o,none⟩ (h.imm g o v hi)
theorem Inv.I_new {γ:Cx} {M:Mem} {w:World} (h:Inv G γ M w) (g o:Nat) (hg:w.heap.size≤g):γ.I g o=none:=by
 cases hi:γ.I g o with
 | none=>rfl
 | some v=>have:=h.lt hi; omega
theorem BoxAt.lt {γ:Cx} {w:World} {b g:Nat} {x:Box} (h:BoxAt γ w b g x):g < w.heap.size:=by
 cases x with
 | cells l=>obtain ⟨_,_,arr,el,fz,hh,_⟩:=h; exact (Array.getElem?_eq_some_iff.1 hh).1
 | iter l pos=>obtain ⟨_,_,s,hh,_⟩:=h; exact (Array.getElem?_eq_some_iff.1 hh).1
theorem TokAt.lt {γ:Cx} {w:World} {x:Tk} (h:TokAt γ w x):x.g < w.heap.size:=by
 obtain ⟨_,_,arr,el,fz,hh,_⟩:=h
 exact (Array.getElem?_eq_some_iff.1 hh).1
theorem BoxAt.base {γ:Cx} {w:World} {b g:Nat} {x:Box} (h:BoxAt γ w b g x):γ.B≤g:=by cases x <;> exact h.1
theorem BoxAt.noI {γ:Cx} {w:World} {b g:Nat} {x:Box} (h:BoxAt γ w b g x):∀ o,γ.I g o=none:=by cases x <;> exact h.2.1
theorem BoxAt.keep {γ γ':Cx} {w w':World} {b g:Nat} {x:Box} (h:BoxAt γ w b g x) (hg:γ.ρ b=some g) (hle:Le γ γ') (hI:∀ o,γ'.I g o=none) (hw:w'.heap[g]?=w.heap[g]?):BoxAt γ' w' b g x:=by
 cases x with
 | cells l=>
  obtain ⟨hb,_,arr,el,fz,hh,hu,hl,hv,ho,hs⟩:=h
  exact ⟨hle.B ▸ hb,hI,arr,el,fz,hw.trans hh,hu,hl,hv.mono hle,ho,by rw [hle.σ _ _ hg]; exact hs⟩
 | iter l pos=>
  obtain ⟨hb,_,s,hh,hs⟩:=h
  exact ⟨hle.B ▸ hb,hI,s,hw.trans hh,hs⟩
theorem TokAt.keep {γ γ':Cx} {w w':World} {x:Tk} (h:TokAt γ w x) (hle:Le γ γ') (hI:∀ o,x.e≤o→γ'.I x.g o=none) (hw:w'.heap[x.g]?=w.heap[x.g]?):TokAt γ' w' x:=by
 obtain ⟨hb,_,arr,el,fz,hh,hu,he,hs⟩:=h
 exact ⟨hle.B ▸ hb,hI,arr,el,fz,hw.trans hh,hu,he,hs⟩
theorem unmarked_zero (n:Nat):Unmarked n (0,0):=fun o _=>by simp
def Cx.imm (γ:Cx) (g n:Nat) (arr:Array Value):Cx:={ γ with I:=fun h o=>if h=g then (if o < n then arr[o]? else none) else γ.I h o }
theorem Cx.imm_le {γ:Cx} {M:Mem} {w:World} (h:Inv G γ M w) (n:Nat) (arr:Array Value):Le γ (γ.imm w.heap.size n arr):=
 ⟨rfl,fun _ _ h=>h,fun _ x h=>⟨x,h,.inl rfl⟩,fun g o v hv=>by
  have:=h.lt hv
  simp only [Cx.imm]
  rw [if_neg (by omega)]
  exact hv,fun _ _ _=>rfl,rfl⟩
theorem Nx.imm {γ:Cx} {M:Mem} {w:World} (h:Inv G γ M w) (n:Nat) (arr:Array Value) (el:TypeId) (fz:Nat × Nat) (w':World)
  (hold:∀ g,g < w.heap.size→w'.heap[g]?=w.heap[g]?) (hnew:w'.heap[w.heap.size]?=some (.cells arr el fz)) (hsz:w.heap.size≤w'.heap.size)
  (h1:w'.os=w.os) (h2:w'.tape=w.tape) (h3:w'.output=w.output) :
  Nx G γ M w (γ.imm w.heap.size n arr) M w':=by
 have hle:=Cx.imm_le h n arr
 have hI:∀ g o,g < w.heap.size→(γ.imm w.heap.size n arr).I g o=γ.I g o:=fun g o hg=>by
  simp only [Cx.imm]; rw [if_neg (by omega)]
 refine ⟨hle,⟨?_,?_,?_,h.inj,?_,h.tokb,h.tokt,h.nb,h.nbM,h.nt,h.ntM,fun i cells hc=>(h.glo i cells hc).mono hle,h.yok_keep rfl fun g hg _=>hold g hg⟩,h1,h2,h3,hsz,fun g hg _=>hold g hg,fun g hg hf=>hf,fun g o hg _=>hI g o hg,fun _ _ h=>h,Nat.le_refl _,Nat.le_refl _⟩
 ·show γ.B≤_; have:=h.base; omega
 ·intro g o v hv
  by_cases hg:g=w.heap.size
  ·subst hg
   simp only [Cx.imm,if_true] at hv
   split at hv
   ·rw [cell_at hnew]; exact hv
   ·cases hv
  ·simp only [Cx.imm,if_neg hg] at hv
   have hlt:=h.lt hv
   rw [World.cell?_of_block (w:=w) (hold g hlt)]
   exact h.imm g o v hv
 ·intro b x g hb hg
  have hx:=h.box b x g hb hg
  exact hx.keep hg hle (fun o=>by rw [hI g o hx.lt]; exact hx.noI o) (hold g hx.lt)
 ·intro k L z x hk hx
  obtain ⟨ha,hb,hc⟩:=h.tok k L z x hk hx
  exact ⟨ha,hb,hc.keep hle (fun o ho=>by rw [hI x.g o hc.lt]; exact hc.2.1 o ho) (hold x.g hc.lt)⟩
theorem push_old {w:World} {x:Obj} {h':Array Obj} (hw:h'=w.heap.push x) (g:Nat) (hg:g < w.heap.size):h'[g]?=w.heap[g]?:=by rw [hw,Array.getElem?_push,if_neg (by omega)]
theorem push_new {w:World} {x:Obj} {h':Array Obj} (hw:h'=w.heap.push x):h'[w.heap.size]?=some x:=by rw [hw]; simp
theorem push_size {w:World} {x:Obj} {h':Array Obj} (hw:h'=w.heap.push x):w.heap.size≤h'.size:=by rw [hw]; simp
def Cx.addB (γ:Cx) (b g:Nat) (s:Option (Nat × Nat × Nat)):Cx:={ γ with ρ:=fun j=>if j=b then some g else γ.ρ j,σ:=fun j=>if j=b then s else γ.σ j }
theorem Cx.addB_le {γ:Cx} {b g:Nat} {s:Option (Nat × Nat × Nat)} (h:γ.ρ b=none):Le γ (γ.addB b g s):=
 ⟨rfl,fun j x hx=>by
  simp only [Cx.addB]
  rw [if_neg (fun e=>by subst e; rw [h] at hx; cases hx)]
  exact hx,fun _ x h=>⟨x,h,.inl rfl⟩,fun _ _ _ h=>h,fun j x hx=>by
  simp only [Cx.addB]
  rw [if_neg (fun e=>by subst e; rw [h] at hx; cases hx)],rfl⟩
theorem Nx.addB {γ:Cx} {M:Mem} {w:World} (h:Inv G γ M w) (x:Box) (o:Obj) (s:Option (Nat × Nat × Nat)) (w':World)
  (hx:∀ γ',Le γ γ'→(∀ o,γ'.I w.heap.size o=none)→γ'.σ M.nb=s→BoxAt γ' w' M.nb w.heap.size x)
  (hw:w'.heap=w.heap.push o) (h1:w'.os=w.os) (h2:w'.tape=w.tape) (h3:w'.output=w.output) :
  Nx G γ M w (γ.addB M.nb w.heap.size s) (M.new x) w':=by
 have hle:=Cx.addB_le (g:=w.heap.size) (s:=s) (h.nb M.nb (Nat.le_refl _))
 have hold:∀ g,g < w.heap.size→w'.heap[g]?=w.heap[g]?:=fun g hg=>by rw [hw,Array.getElem?_push,if_neg (by omega)]
 have hρ:∀ b g,(γ.addB M.nb w.heap.size s).ρ b=some g→(b=M.nb∧g=w.heap.size)∨(b≠M.nb∧γ.ρ b=some g):=fun b g hb=>by
  simp only [Cx.addB] at hb
  split at hb
  ·rename_i e; exact .inl ⟨e,(Option.some.inj hb).symm⟩
  ·rename_i e; exact .inr ⟨e,hb⟩
 have hget:∀ b y,(M.new x).get b=some y→(b=M.nb∧y=x)∨(b≠M.nb∧M.get b=some y):=fun b y hb=>by
  rw [Mem.get_new] at hb
  split at hb
  ·rename_i e; exact .inl ⟨e.symm,(Option.some.inj hb).symm⟩
  ·rename_i e; exact .inr ⟨fun q=>e q.symm,hb⟩
 refine ⟨hle,⟨?_,?_,?_,?_,?_,?_,h.tokt,?_,?_,h.nt,h.ntM,fun i cells hc=>(h.glo i cells hc).mono hle,h.yok_keep rfl fun g hg _=>hold g hg⟩,h1,h2,h3,by rw [hw]; simp,fun g hg _=>hold g hg,?_,fun _ _ _ _=>rfl,fun b hb hn=>by simp only [Cx.addB]; rw [if_neg (by omega)]; exact hn,Nat.le_succ _,Nat.le_refl _⟩
 ·show γ.B≤_; rw [hw]; have:=h.base; simp; omega
 ·intro g o v hv
  have hlt:=h.lt hv
  rw [World.cell?_of_block (w:=w) (hold g hlt)]
  exact h.imm g o v hv
 ·intro b y g hb hg
  rcases hget b y hb with ⟨rfl,rfl⟩ | ⟨hne,hb⟩
  ·rcases hρ _ _ hg with ⟨_,rfl⟩ | ⟨hne,_⟩
   ·exact hx _ hle (fun o=>h.I_new _ o (Nat.le_refl _)) (by simp [Cx.addB])
   ·exact absurd rfl hne
  ·rcases hρ _ _ hg with ⟨e,_⟩ | ⟨_,hg⟩
   ·exact absurd e hne
   ·have hy:=h.box b y g hb hg
    exact hy.keep hg hle hy.noI (hold g hy.lt)
 ·intro b b' y y' g hb hb' hg hg'
  rcases hρ _ _ hg with ⟨e,e2⟩ | ⟨hne,hg⟩ <;> rcases hρ _ _ hg' with ⟨e',e2'⟩ | ⟨hne',hg'⟩
  ·rw [e,e']
  ·rcases hget b' y' hb' with ⟨q,_⟩ | ⟨_,hb'⟩
   ·exact absurd q hne'
   ·have:=(h.box b' y' g hb' hg').lt; omega
  ·rcases hget b y hb with ⟨q,_⟩ | ⟨_,hb⟩
   ·exact absurd q hne
   ·have:=(h.box b y g hb hg).lt; omega
  ·rcases hget b y hb with ⟨q,_⟩ | ⟨_,hb⟩
   ·exact absurd q hne
   ·rcases hget b' y' hb' with ⟨q,_⟩ | ⟨_,hb'⟩
    ·exact absurd q hne'
    ·exact h.inj b b' y y' g hb hb' hg hg'
 ·intro k L z y hk hy
  obtain ⟨ha,hb,hc⟩:=h.tok k L z y hk hy
  exact ⟨ha,hb,hc.keep hle hc.2.1 (hold y.g hc.lt)⟩
 ·intro k L z y b u g hk hy hb hg
  have hlt:=(h.tok k L z y hk hy).2.2.lt
  rcases hρ _ _ hg with ⟨e,e2⟩ | ⟨hne,hg⟩
  ·omega
  ·rcases hget b u hb with ⟨q,_⟩ | ⟨_,hb⟩
   ·exact absurd q hne
   ·exact h.tokb k L z y b u g hk hy hb hg
 ·intro b hb
  simp only [Mem.new] at hb
  simp only [Cx.addB]
  rw [if_neg (by omega)]
  exact h.nb b (by omega)
 ·intro b y hb
  simp only [Mem.new]
  rcases hget b y hb with ⟨q,_⟩ | ⟨_,hb⟩
  ·omega
  ·have:=h.nbM b y hb; omega
 ·intro g hg hf
  rcases hf with ⟨b,y,hb,hρb⟩ | hf
  ·rcases hρ _ _ hρb with ⟨e,e2⟩ | ⟨hne,hρb⟩
   ·omega
   ·rcases hget b y hb with ⟨q,_⟩ | ⟨_,hb⟩
    ·exact absurd q hne
    ·exact .inl ⟨b,y,hb,hρb⟩
  ·exact .inr hf
theorem Nx.setB {γ:Cx} {M:Mem} {w:World} (h:Inv G γ M w) {b:Nat} {x x':Box} {g:Nat} (hb:M.get b=some x) (hg:γ.ρ b=some g) (w':World)
  (hx:BoxAt γ w' b g x') (hw:∀ g',g'≠g→w'.heap[g']?=w.heap[g']?) (hsz:w'.heap.size=w.heap.size) (h1:w'.os=w.os) (h2:w'.tape=w.tape) (h3:w'.output=w.output) :
  Nx G γ M w γ (M.set b x') w':=by
 have hbx:=h.box b x g hb hg
 have hget:∀ j y,(M.set b x').get j=some y→(j=b∧y=x')∨(j≠b∧M.get j=some y):=fun j y hj=>by
  rw [Mem.get_set] at hj
  split at hj
  ·rename_i e
   simp [hb] at hj
   exact .inl ⟨e.symm,hj.symm⟩
  ·rename_i e; exact .inr ⟨fun q=>e q.symm,hj⟩
 have hgetO:∀ j y,(M.set b x').get j=some y→∃ y',M.get j=some y':=fun j y hj=>by
  rcases hget j y hj with ⟨rfl,_⟩ | ⟨_,hj⟩
  ·exact ⟨x,hb⟩
  ·exact ⟨y,hj⟩
 refine ⟨Le.refl _,⟨by rw [hsz]; exact h.base,?_,?_,?_,?_,?_,h.tokt,h.nb,?_,h.nt,h.ntM,h.glo,h.yok_keep rfl fun g' hg' hf=>hw g' fun e=>hf (.inl ⟨b,x,hb,e ▸ hg⟩)⟩,h1,h2,h3,by omega,?_,?_,fun _ _ _ _=>rfl,fun _ _ h=>h,Nat.le_refl _,Nat.le_refl _⟩
 ·intro g' o v hv
  have hne:g'≠g:=fun e=>by subst e; rw [hbx.noI o] at hv; cases hv
  rw [World.cell?_of_block (w:=w) (hw g' hne)]
  exact h.imm g' o v hv
 ·intro j y g' hj hg'
  rcases hget j y hj with ⟨rfl,rfl⟩ | ⟨hne,hj⟩
  ·rw [hg] at hg'; cases hg'; exact hx
  ·have hy:=h.box j y g' hj hg'
   have hgg:g'≠g:=fun e=>by subst e; exact hne (h.inj j b y x g' hj hb hg' hg)
   exact hy.keep hg' (Le.refl _) hy.noI (hw g' hgg)
 ·intro j j' y y' g' hj hj' hg1 hg2
  obtain ⟨u,hu⟩:=hgetO j y hj
  obtain ⟨u',hu'⟩:=hgetO j' y' hj'
  exact h.inj j j' u u' g' hu hu' hg1 hg2
 ·intro k L z y hk hy
  obtain ⟨ha,hb',hc⟩:=h.tok k L z y hk hy
  exact ⟨ha,hb',hc.keep (Le.refl _) hc.2.1 (hw y.g fun e=>h.tokb k L z y b x g hk hy hb hg e.symm)⟩
 ·intro k L z y j u g' hk hy hj hg'
  obtain ⟨u',hu'⟩:=hgetO j u hj
  exact h.tokb k L z y j u' g' hk hy hu' hg'
 ·intro j y hj
  obtain ⟨u,hu⟩:=hgetO j y hj
  exact h.nbM j u hu
 ·intro g' hg' hf
  exact hw g' fun e=>hf (.inl ⟨b,x,hb,e ▸ hg⟩)
 ·intro g' _ hf
  rcases hf with ⟨j,y,hj,hρ⟩ | hf
  ·obtain ⟨u,hu⟩:=hgetO j y hj
   exact .inl ⟨j,u,hu,hρ⟩
  ·exact .inr hf
end Go.Sx
