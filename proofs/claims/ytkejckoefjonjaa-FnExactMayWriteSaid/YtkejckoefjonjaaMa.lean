/- What the proof of FnExactMayWrite stands on, part 1: an abstract machine on plain data, its soundness, and the contracts of functions. -/
import Derived.Orders
import Derived.LoopN
import Derived.WalkKit
import Derived.Deep.AppendSrc
import Derived.Great.BuildSlice
set_option linter.all false
set_option linter.unusedSimpArgs false
set_option linter.unusedVariables false
set_option linter.unnecessarySimpa false
set_option linter.unusedSectionVars false
namespace Go.Proofs.Ytkejckoefjonjaa
inductive D where
  | int (k : IntKind) (n : Int)
  | bool (b : Bool)
  | str (s : ByteArray)
  | sl (g : Option Bool) (s n : Nat) (cs : List D)
  | ref (r : Nat) (q : List Nat) (o : Nat) (x : Option (Nat × Nat))
  | nil (s : Nat)
  | agg (cs : List D)
  | tup (vs : List D)
  | fn (f : FuncId) (caps : List D)
  | ptr (r : Nat) (q : List Nat) (o : Nat)
  | rptr (cs : List D) (o : Nat)
  | pbox (cs : List D)
  | hole (s n : Nat)
  | undef
  deriving Inhabited
def lk {α : Type} : List (Nat × α) → Nat → Option α
  | [], _ => none
  | (j, v) :: t, k => if j = k then some v else lk t k
def pt {α : Type} : List (Nat × α) → Nat → α → List (Nat × α)
  | [], k, v => [(k, v)]
  | (j, u) :: t, k, v => if j = k then (k, v) :: t else (j, u) :: pt t k v
def pz {α : Type} : List (Nat × α) → Nat → α → List (Nat × α)
  | [], k, v => [(k, v)]
  | (j, u) :: t, k, v => if j < k then (j, u) :: pz t k v else if j = k then (k, v) :: t else (k, v) :: (j, u) :: t
structure St where
  tm : List (Nat × D)
  rt : List (Nat × List D)
  up : List (List (Nat × D)) := []
  of : Nat := 0
def St.get (st : St) (t : Nat) : D := (lk st.tm t).getD .undef
def St.put (st : St) (dst : Option Nat) (d : D) : St :=
  match dst with
  | some t => { st with tm := pz st.tm t d }
  | none => st
inductive Ty where
  | int (k : IntKind) | bool | str | slice (e : TypeId) | array (n : Nat) (e : TypeId) | struct (offs szs : List Nat) | ptr (e : TypeId) | fn | other
structure TI where
  ty : Ty
  size : Nat
  bytes : Nat
  zero : List D
structure Cfg where
  ty : TypeId → Option TI
  ext : FuncId → Option (List D → Option (D × List D))
  own : FuncId → List Bool
  inl : FuncId → Bool
  steal : FuncId → Nat → Bool
  nm : FuncId → Nat → Option (List Nat × List Nat)
def Cfg.esz (c : Cfg) (t : TypeId) : Nat :=
  match c.ty t with
  | some ⟨.slice e, _, _, _⟩ => match c.ty e with | some i => i.size | none => 0
  | _ => 0
def cellsAt : List D → List Nat → Option (List D)
  | cs, [] => some cs
  | cs, o :: q => match cs[o]? with
    | some (.sl none _ _ xs) => cellsAt xs q
    | _ => none
def modAt (f : List D → List D) : List D → List Nat → Option (List D)
  | cs, [] => some (f cs)
  | cs, o :: q => match cs[o]? with
    | some (.sl none s n xs) => match modAt f xs q with
      | some xs' => some (cs.set o (.sl none s n xs'))
      | none => none
    | _ => none
def St.cells (st : St) (r : Nat) (q : List Nat) : Option (List D) :=
  match lk st.rt r with
  | some cs => cellsAt cs q
  | none => none
def St.cell (st : St) (r : Nat) (q : List Nat) (o : Nat) : Option D :=
  match st.cells r q with
  | some cs => cs[o]?
  | none => none
def under (q : List Nat) (x : List Nat) : Option (List Nat) :=
  match q, x with
  | [], x => some x
  | p :: ps, y :: ys => if p = y then under ps ys else none
  | _ :: _, [] => none
def trim (x : Option (Nat × Nat)) (s n : Nat) (cs : List D) : Nat × List D :=
  match x with
  | none => (n, cs)
  | some (l, m) => (m, (cs.drop (l * s)).take (m * s))
def killR (r : Nat) : D → D
  | .ref r' q o x => if r' = r then .undef else .ref r' q o x
  | .ptr r' q o => if r' = r then .undef else .ptr r' q o
  | d => d
def killB (r : Nat) : D → D
  | .ref r' q o x => if r' = r then .undef else .ref r' q o x
  | .ptr r' (p :: q) o => if r' = r then .undef else .ptr r' (p :: q) o
  | d => d
def killP (r : Nat) (q : List Nat) (o : Nat) (exact : Bool) : D → D
  | .ref r' q' o' x => if r' = r then
      match under (q ++ [o]) (q' ++ [o']) with
      | none => .ref r' q' o' x
      | some [] => if exact then .undef else .ref r' q' o' x
      | some (_ :: _) => .undef
    else .ref r' q' o' x
  | .ptr r' q' o' => if r' = r then
      match under (q ++ [o]) q' with
      | none => .ptr r' q' o'
      | some _ => .undef
    else .ptr r' q' o'
  | d => d
def movP (r : Nat) (q : List Nat) (o : Nat) (r1 : Nat) (q1 : List Nat) (o1 : Nat) : D → D
  | .ref r' q' o' x => if r' = r then
      match under (q ++ [o]) (q' ++ [o']) with
      | none => .ref r' q' o' x
      | some [] => .ref r1 q1 o1 x
      | some (_ :: _) => .undef
    else .ref r' q' o' x
  | .ptr r' q' o' => if r' = r then
      match under (q ++ [o]) q' with
      | none => .ptr r' q' o'
      | some _ => .undef
    else .ptr r' q' o'
  | d => d
def onA (f : D → D) : D → D
  | .agg cs => .agg (cs.map f)
  | .fn g cs => .fn g (cs.map f)
  | d => f d
def onT (f : D → D) : D → D
  | .tup vs => .tup (vs.map (onA f))
  | d => onA f d
def mapT {α : Type} (f : α → α) : List (Nat × α) → List (Nat × α)
  | [] => []
  | (k, v) :: t => (k, f v) :: mapT f t
def St.mapD (f : D → D) (st : St) : St := { st with tm := mapT (onT f) st.tm, rt := mapT (List.map (onA f)) st.rt, up := st.up.map (mapT (onT f)) }
def St.mapD2 (f g : D → D) (st : St) : St := { st with tm := mapT (onT f) st.tm, rt := mapT (List.map (onA g)) st.rt, up := st.up.map (mapT (onT f)) }
def isSl : D → Bool
  | .sl .. => true
  | _ => false
def sn : D → Option (Nat × Nat)
  | .sl _ s n _ => some (s, n)
  | .hole s n => some (s, n)
  | _ => none
def isOwn : D → Bool
  | .sl none _ _ _ => true
  | _ => false
mutual
def exT (b : Bool) : D → D
  | .sl none s n cs => .sl (some b) s n (exTL b cs)
  | d => d
def exTL (b : Bool) : List D → List D
  | [] => []
  | d :: ds => exT b d :: exTL b ds
end
def mapO {α β : Type} (f : α → Option β) : List α → Option (List β)
  | [] => some []
  | a :: as9 => match f a with
    | some b => match mapO f as9 with
      | some bs => some (b :: bs)
      | none => none
    | none => none
def exC (st : St) : D → Option D
  | .int k n => some (.int k n)
  | .bool b => some (.bool b)
  | .str s => some (.str s)
  | .nil s => some (.nil s)
  | .sl g s n cs => some (exT true (.sl g s n cs))
  | .ref r q o x => match st.cell r q o with
    | some (.sl g s n cs) => some (exT true (.sl g s (trim x s n cs).1 (trim x s n cs).2))
    | _ => none
  | .undef => some .undef
  | .hole .. => some .undef
  | _ => none
def exP (st : St) : D → Option D
  | .rptr cs o => some (.rptr cs o)
  | .ptr r q o => match st.cells r q with
    | some (c :: cs) => match mapO (exC st) (c :: cs) with
      | some cs' => some (.rptr cs' o)
      | none => none
    | _ => none
  | d => exC st d
def exA (st : St) : D → Option D
  | .agg cs => match mapO (exC st) cs with
    | some cs' => some (.agg cs')
    | none => none
  | .fn f caps => match mapO (exP st) caps with
    | some cs' => some (.fn f cs')
    | none => none
  | d => exP st d
def St.setC (st : St) (r : Nat) (q : List Nat) (o : Nat) (d : D) : Option St :=
  match lk st.rt r with
  | some cs => match modAt (fun l => l.set o d) cs q with
    | some cs' => some { st with rt := pz st.rt r cs' }
    | none => none
  | none => none
def tkC (st : St) : D → Option (D × St)
  | .int k n => some (.int k n, st)
  | .bool b => some (.bool b, st)
  | .str s => some (.str s, st)
  | .nil s => some (.sl none s 0 [], st)
  | .sl b s n cs => some (.sl b s n cs, st)
  | .ref r q o x => match st.cell r q o with
    | some (.sl none s n cs) => match st.setC r q o (.hole s n) with
      | some st' => some (.sl none s (trim x s n cs).1 (trim x s n cs).2, st')
      | none => none
    | some (.sl (some b) s n cs) => some (.sl (some b) s (trim x s n cs).1 (trim x s n cs).2, st)
    | _ => none
  | .undef => some (.undef, st)
  | .hole .. => some (.undef, st)
  | _ => none
def tkL (st : St) : List D → Option (List D × St)
  | [] => some ([], st)
  | d :: ds => match tkC st d with
    | some (d', st') => match tkL st' ds with
      | some (ds', st'') => some (d' :: ds', st'')
      | none => none
    | none => none
def viewC (r : Nat) (q : List Nat) (j : Nat) : D → D
  | .sl none _ _ _ => .ref r q j none
  | d => d
def viewL (r : Nat) (q : List Nat) : Nat → List D → List D
  | _, [] => []
  | j, d :: ds => viewC r q j d :: viewL r q (j + 1) ds
def tkB (st : St) (r : Nat) : Option (List D × St) :=
  match lk st.rt r with
  | some (c :: cs) => match tkL st (viewL r [] 0 (c :: cs)) with
    | some (cs', st') => some (cs', { st' with rt := pz st'.rt r [] })
    | none => none
  | _ => none
def tkA (st : St) : D → Option (D × St)
  | .agg cs => match tkL st cs with
    | some (cs', st') => some (.agg cs', st')
    | none => none
  | .ptr r [] 0 => match tkB st r with
    | some (cs', st') => some (.pbox cs', st')
    | none => none
  | d => tkC st d
def tkAs (st : St) : List D → Option (List D × St)
  | [] => some ([], st)
  | d :: ds => match tkA st d with
    | some (d', st') => match tkAs st' ds with
      | some (ds', st'') => some (d' :: ds', st'')
      | none => none
    | none => none
def flatD : D → List D
  | .agg cs => cs
  | .tup vs => vs.flatMap fun | .agg cs => cs | d => [d]
  | d => [d]
def viewA (r : Nat) (j : Nat) : D → D
  | .agg cs => .agg (viewL r [] j cs)
  | d => viewC r [] j d
def viewTs (r : Nat) : Nat → List D → List D
  | _, [] => []
  | j, d :: ds => viewA r j d :: viewTs r (j + (flatD d).length) ds
def viewD (r : Nat) : D → D
  | .tup vs => .tup (viewTs r 0 vs)
  | d => viewA r 0 d
def St.adopt (st : St) (r : Nat) (d : D) : St × D :=
  match d with
  | .pbox cs =>
    let st' := st.mapD (killR r)
    ({ st' with rt := pz st'.rt r cs }, .ptr r [] 0)
  | d => if (flatD d).any isOwn then
      let st' := st.mapD (killR r)
      ({ st' with rt := pz st'.rt r (flatD d) }, viewD r d)
    else (st, d)
mutual
def noLent : D → Bool
  | .sl g _ _ cs => (match g with | some true => false | _ => true) && noLentL cs
  | _ => true
def noLentL : List D → Bool
  | [] => true
  | d :: ds => noLent d && noLentL ds
end
mutual
def tagT (b : Bool) : D → D
  | .sl none s n cs => .sl none s n (tagL b cs)
  | .sl (some _) s n cs => .sl (some b) s n (tagL b cs)
  | d => d
def tagL (b : Bool) : List D → List D
  | [] => []
  | d :: ds => tagT b d :: tagL b ds
end
def tagR (b : Bool) : D → D
  | .agg cs => .agg (tagL b cs)
  | .pbox cs => .pbox (tagL b cs)
  | .tup vs => .tup (vs.map fun | .agg cs => .agg (tagL b cs) | d => tagT b d)
  | d => tagT b d
def plainC : D → Bool
  | .int .. | .bool _ | .str _ | .sl .. | .undef | .hole .. => true
  | _ => false
def outCells : D → List D
  | .pbox cs => cs
  | d => flatD d
def okR (d : D) : Bool := (outCells d).all fun x => plainC x && noLent x
def ofVal (c : Cfg) (t : TypeId) : Value → D
  | .int k n => .int k n
  | .bool b => .bool b
  | .string s => .str s
  | .slice none 0 0 => .nil (c.esz t)
  | _ => .undef
def evD (c : Cfg) (st : St) (t : TypeId) : Operand → D
  | .tmp i => st.get i
  | .const v => ofVal c t v
  | .func f => .fn f []
  | .global _ => .undef
def intBin (op : BinOp) (k : IntKind) (a b : Int) : Option D :=
  match op with
  | .add => some (.int k (k.wrap (a + b)))
  | .sub => some (.int k (k.wrap (a - b)))
  | .mul => some (.int k (k.wrap (a * b)))
  | .quo => if b = 0 then none else some (.int k (k.wrap (a.tdiv b)))
  | .rem => if b = 0 then none else some (.int k (a.tmod b))
  | .and => some (.int k (k.wrap (BitVec.ofInt k.bits a &&& BitVec.ofInt k.bits b).toNat))
  | .or => some (.int k (k.wrap (BitVec.ofInt k.bits a ||| BitVec.ofInt k.bits b).toNat))
  | .xor => some (.int k (k.wrap (BitVec.ofInt k.bits a ^^^ BitVec.ofInt k.bits b).toNat))
  | .eql => some (.bool (a == b))
  | .neq => some (.bool (a != b))
  | .lss => some (.bool (decide (a < b)))
  | .leq => some (.bool (decide (a ≤ b)))
  | .gtr => some (.bool (decide (a > b)))
  | .geq => some (.bool (decide (a ≥ b)))
  | _ => none
def shiftBin (op : BinOp) (k : IntKind) (a b : Int) : Option D :=
  if b < 0 then none else
  match op with
  | .shl => some (.int k (k.wrap (a * 2 ^ (min b.toNat k.bits))))
  | .shr => some (.int k (a.fdiv (2 ^ (min b.toNat k.bits))))
  | _ => none
def strBin (op : BinOp) (a b : ByteArray) : Option D :=
  match op with
  | .add => if a.size + b.size ≤ 9223372036854775807 then some (.str (a ++ b)) else none
  | .eql => some (.bool (a.toList == b.toList))
  | .neq => some (.bool (!(a.toList == b.toList)))
  | _ => none
def boolBin (op : BinOp) (a b : Bool) : Option D :=
  match op with
  | .eql => some (.bool (a == b))
  | .neq => some (.bool (!(a == b)))
  | _ => none
def binD (c : Cfg) (t : TypeId) (op : BinOp) (x y : D) : Option D :=
  match x, y with
  | .int k a, .int k' b => match op with
    | .shl => shiftBin .shl k a b
    | .shr => shiftBin .shr k a b
    | op => if k = k' then intBin op k a b else none
  | .str a, .str b => strBin op a b
  | .bool a, .bool b => match c.ty t with
    | some ⟨.bool, _, _, _⟩ => boolBin op a b
    | _ => none
  | _, _ => none
def unD (op : UnOp) (x : D) : Option D :=
  match op, x with
  | .neg, .int k n => some (.int k (k.wrap (0 - n)))
  | .not, .bool b => some (.bool (!b))
  | _, _ => none
def St.sl? (st : St) : D → Option (Option Bool × Nat × Nat × List D)
  | .nil s => some (none, s, 0, [])
  | .sl b s n cs => some (b, s, n, cs)
  | .ref r q o x => match st.cell r q o with
    | some (.sl b s n cs) => some (b, s, (trim x s n cs).1, (trim x s n cs).2)
    | _ => none
  | _ => none
def lenD (c : Cfg) (st : St) (t : TypeId) (x : D) : Option D :=
  match c.ty t, x with
  | some ⟨.str, _, _, _⟩, .str s => some (.int .i64 s.size)
  | some ⟨.slice _, _, _, _⟩, d => match st.sl? d with
    | some (_, _, n, _) => some (.int .i64 n)
    | none => none
  | _, _ => none
def byteOf : D → Option UInt8
  | .int .u8 n => some (UInt8.ofNat n.toNat)
  | _ => none
def byteD (b : UInt8) : D := .int .u8 b.toNat
def convD (c : Cfg) (st : St) (src dst : TypeId) (x : D) : Option (D × Option (List D)) :=
  match c.ty src, c.ty dst with
  | some si, some di =>
    match di.ty, si.ty, x with
    | .int k, _, .int _ n => some (.int k (k.wrap n), none)
    | .str, _, .int _ n => some (.str (Utf8.encode n), none)
    | .str, _, .str s => some (.str s, none)
    | .str, .slice e, x => match c.ty e with
      | some ⟨.int .u8, _, _, _⟩ => match st.sl? x with
        | some (_, s, _, cs) => if s = 1 then (match mapO byteOf cs with
          | some bs => some (.str ⟨bs.toArray⟩, none)
          | none => none) else none
        | none => none
      | _ => none
    | .slice e, .str, .str s => match c.ty e with
      | some ⟨.int .u8, _, _, _⟩ => some (.undef, some [.sl none 1 s.size (s.data.toList.map byteD)])
      | _ => none
    | _, _, _ => none
  | _, _ => none
def loadD (st : St) (agg : Bool) (size : Nat) : D → Option D
  | .ptr r q o => match st.cells r q with
    | some cs =>
      if agg then (if 0 < size ∧ o + size ≤ cs.length then some (.agg (viewL r q o ((cs.drop o).take size))) else none)
      else match cs[o]? with
        | some d => some (viewC r q o d)
        | none => none
    | none => none
  | .rptr cs o =>
      if agg then (if 0 < size ∧ o + size ≤ cs.length then some (.agg ((cs.drop o).take size)) else none)
      else cs[o]?
  | _ => none
def isAggTy : Ty → Bool
  | .struct .. | .array .. => true
  | _ => false
def live (st : St) (r : Nat) (q : List Nat) : Bool :=
  match st.cells r q with
  | some (_ :: _) => true
  | _ => false
def inRange (i : Int) (n : Nat) (d : Option D) : Option D := if 0 ≤ i then (if i < n then d else none) else none
def off (x : Option (Nat × Nat)) : Nat :=
  match x with
  | none => 0
  | some (l, _) => l
def indexAddrD (st : St) (c : Cfg) (t : TypeId) (x : D) (i : Int) : Option D :=
  match c.ty t with
  | some ⟨.slice e, _, _, _⟩ => match c.ty e with
    | some ei => match x with
      | .ref r q o x => match st.cell r q o with
        | some (.sl none s n cs) => if s = ei.size ∧ 0 < s then inRange i (trim x s n cs).1 (some (.ptr r (q ++ [o]) ((off x + i.toNat) * s))) else none
        | some (.sl (some _) s n cs) => if s = ei.size ∧ 0 < s then inRange i (trim x s n cs).1 (some (.rptr cs ((off x + i.toNat) * s))) else none
        | _ => none
      | .sl (some _) s n cs => if s = ei.size ∧ 0 < s then inRange i n (some (.rptr cs (i.toNat * s))) else none
      | _ => none
    | none => none
  | some ⟨.array n e, _, _, _⟩ => match c.ty e with
    | some ei => match x with
      | .ptr r q o => if live st r q then inRange i n (some (.ptr r q (o + i.toNat * ei.size))) else none
      | .rptr cs o => inRange i n (some (.rptr cs (o + i.toNat * ei.size)))
      | _ => none
    | none => none
  | _ => none
def fieldD (st : St) (k : Nat) : D → Option D
  | .ptr r q i => if live st r q then some (.ptr r q (i + k)) else none
  | .rptr cs i => some (.rptr cs (i + k))
  | _ => none
def indexD (c : Cfg) (t : TypeId) (x : D) (i : Int) : Option D :=
  match c.ty t, x with
  | some ⟨.str, _, _, _⟩, .str s => inRange i s.size ((s.data.toList[i.toNat]?).map byteD)
  | some ⟨.array n e, _, _, _⟩, .agg cs => match c.ty e with
    | some ei => inRange i n (if isAggTy ei.ty then some (.agg ((cs.drop (i.toNat * ei.size)).take ei.size)) else cs[i.toNat * ei.size]?)
    | none => none
  | _, _ => none
def putCells : List D → Nat → List D → List D
  | cs, _, [] => cs
  | cs, o, d :: ds => putCells (cs.set o d) (o + 1) ds
def rowZ : D → D
  | .nil s => .sl none s 0 []
  | d => d
def reps (n : Nat) (z : List D) : List D := (List.replicate n (z.map rowZ)).flatten
def cellish : D → Bool
  | .fn .. | .agg _ | .tup _ | .pbox _ | .undef | .hole .. => false
  | _ => true
def single : D → Bool
  | .agg _ | .tup _ | .fn .. => false
  | _ => true
def okCell (st : St) : D → Bool
  | .ref r q o _ => match st.cell r q o with
    | some (.sl ..) => true
    | _ => false
  | .ptr r q _ => live st r q
  | d => cellish d
def fillD (ok : D → Bool) (place : Nat → Option (Nat × Nat)) : List D → List (Nat × List D) → Option (List D)
  | cs, [] => some cs
  | cs, (i, vs) :: rest => match place i with
    | some (o, k) => if vs.length = k ∧ o + vs.length ≤ cs.length ∧ vs.all ok = true then fillD ok place (putCells cs o vs) rest else none
    | none => none
def cellsOf : D → List D
  | .agg cs => cs
  | d => [d]
def tkParts (st : St) : List (Nat × D) → Option (List (Nat × List D) × St)
  | [] => some ([], st)
  | (i, d) :: ps => match tkL st (cellsOf d) with
    | some (cs, st') => match tkParts st' ps with
      | some (r, st'') => some ((i, cs) :: r, st'')
      | none => none
    | none => none
def flatC : D → Bool
  | .int .. | .bool _ | .str _ => true
  | _ => false
def St.root (st : St) (dst : Option Nat) (cs : List D) (d : Nat → D) : Option St :=
  match dst with
  | some t =>
    let st' := st.mapD (killR (st.of + t))
    some { st' with tm := pz st'.tm t (d (st.of + t)), rt := pz st'.rt (st.of + t) cs }
  | none => none
def elems (st : St) (flat : Bool) (z : List D) (sz : Nat) : D → Option (List D × Nat × St)
  | .int .i64 n => if 0 ≤ n ∧ (z.map rowZ).all cellish = true then some (reps n.toNat z, n.toNat, st) else none
  | .str s => if sz = 1 then some (s.data.toList.map byteD, s.size, st) else none
  | .nil _ => some ([], 0, st)
  | .sl (some _) s n cs => if s = sz ∧ cs.all cellish = true then some (cs, n, st) else none
  | .ref r q o x => match st.cell r q o with
    | some (.sl none s n cs) => if s ≠ sz then none else if flat = true then (if (trim x s n cs).2.all flatC = true then some ((trim x s n cs).2, (trim x s n cs).1, st) else none) else
      match tkL st (viewL r (q ++ [o]) (off x * s) (trim x s n cs).2) with
      | some (ys, st') => if ys.all cellish = true then some (ys, (trim x s n cs).1, st') else none
      | none => none
    | some (.sl (some _) s n cs) => if s = sz ∧ (trim x s n cs).2.all cellish = true then some ((trim x s n cs).2, (trim x s n cs).1, st) else none
    | _ => none
  | _ => none
def target (st : St) (sz : Nat) (d : D) : Option (Nat × List D × St) :=
  match tkC st d with
  | some (.sl none s n cs, st') => if s = sz then some (n, cs, st') else none
  | _ => none
def okTx (c : Cfg) (tx : TypeId) : D → Bool
  | .int .. => match c.ty tx with | some ⟨.int _, _, _, _⟩ => true | _ => false
  | .str _ => match c.ty tx with | some ⟨.str, _, _, _⟩ => true | _ => false
  | _ => match c.ty tx with | some ⟨.slice _, _, _, _⟩ => true | _ => false
def appendD (c : Cfg) (st : St) (t tx : TypeId) (dst : Option Nat) (s x : D) : Option St :=
  match c.ty t with
  | some ⟨.slice e, _, _, _⟩ => match c.ty e with
    | some ei => if okTx c tx x = true then
        match target st ei.size s with
        | some (n, cs, st1) => match elems st1 (ei.zero.all flatC) ei.zero ei.size x with
          | some (ys, m, st2) =>
            if 0 < ei.size ∧ 0 < ei.bytes ∧ (n + m) * ei.bytes ≤ 140737488355328 then st2.root dst [.sl none ei.size (n + m) (cs ++ ys)] (fun d => .ref d [] 0 none) else none
          | none => none
        | none => none
      else none
    | none => none
  | _ => none
def bound (d : Option D) (z : Int) : Option Int :=
  match d with
  | none => some z
  | some (.int _ i) => some i
  | _ => none
def sliceS (s : ByteArray) (l h : Option D) : Option D :=
  match bound l 0, bound h s.size with
  | some l, some h => if 0 ≤ l ∧ l ≤ h ∧ h ≤ s.size then some (.str (s.extract l.toNat h.toNat)) else none
  | _, _ => none
def sliceR (st : St) (sz : Nat) (x : D) (l h : Option D) : Option D :=
  match st.sl? x with
  | some (g, s, n, cs) => match bound l 0, bound h n with
    | some l, some h => if s = sz ∧ 0 ≤ l ∧ l ≤ h ∧ h ≤ n then
        match x with
        | .ref r q o y => some (.ref r q o (some (off y + l.toNat, h.toNat - l.toNat)))
        | .nil s => some (.nil s)
        | _ => some (.sl g s (h.toNat - l.toNat) ((cs.drop (l.toNat * s)).take ((h.toNat - l.toNat) * s)))
      else none
    | _, _ => none
  | none => none
def sliceD (c : Cfg) (st : St) (t : TypeId) (x : D) (l h : Option D) : Option D :=
  match c.ty t with
  | some ⟨.str, _, _, _⟩ => match x with
    | .str s => sliceS s l h
    | _ => none
  | some ⟨.slice e, _, _, _⟩ => match c.ty e with
    | some ei => sliceR st ei.size x l h
    | none => none
  | _ => none
def digC : D → List Nat → Option D
  | d, [] => some d
  | .sl none _ _ cs, o :: q => match cs[o]? with
    | some d => digC d q
    | none => none
  | _, _ => none
def detP (r : Nat) (q : List Nat) (o : Nat) (old : D) : D → D
  | .ref r' q' o' x => if r' = r then (match under (q ++ [o]) (q' ++ [o']) with
      | none => .ref r' q' o' x
      | some y => match digC old y with
        | some (.sl g s n cs) => exT false (.sl g s (trim x s n cs).1 (trim x s n cs).2)
        | _ => .undef) else .ref r' q' o' x
  | d => killP r q o true d
def St.det (st : St) (r : Nat) (q : List Nat) (o : Nat) (d : D) : Option (St × (D → D)) :=
  match st.cell r q o with
  | some old => some (if isSl old then (st.mapD2 (detP r q o old) (killP r q o true), detP r q o old) else if isSl d then (st.mapD (killP r q o true), killP r q o true) else (st, id))
  | none => none
def storeBox (st : St) (r : Nat) : Nat → (D → D) → List D → Option St
  | _, _, [] => some st
  | o, h, d :: ds => if !okCell st (h d) then none else match st.det r [] o (h d) with
    | some (st1, f) => match st1.setC r [] o (f (h d)) with
      | some st' => storeBox st' r (o + 1) (fun x => f (h x)) ds
      | none => none
    | none => none
def storeTree (st : St) (r : Nat) : Nat → List D → Option St
  | _, [] => some st
  | o, d :: ds => if !cellish d then none else match st.det r [] o d with
    | some (st1, _) => match st1.setC r [] o d with
      | some st' => storeTree st' r (o + 1) ds
      | none => none
    | none => none
def isAt (r : Nat) (q : List Nat) (o : Nat) : D → Bool
  | .ref r' q' o' none => decide (r' = r) && decide (q' = q) && decide (o' = o)
  | _ => false
def movedF (d : D) (r : Nat) (q : List Nat) (o : Nat) : D → D :=
  match d with
  | .ref r' q' o' none => movP r' q' o' r q o
  | .ref r' q' o' (some _) => killP r' q' o' true
  | _ => id
def St.moved (st : St) (d : D) (r : Nat) (q : List Nat) (o : Nat) : St :=
  match d with
  | .ref _ _ _ _ => st.mapD (movedF d r q o)
  | _ => st
def storeRow (st : St) (r : Nat) (q : List Nat) : Nat → (D → D) → List D → Option St
  | _, _, [] => some st
  | o, h, d :: ds =>
    if isAt r q o (h d) && okCell st (h d) then storeRow st r q (o + 1) h ds else
    match tkC st (h d) with
    | some (d', st1) => if !cellish d' then none else match st1.det r q o d' with
      | some (st2, f) => match st2.setC r q o d' with
        | some st3 => storeRow (st3.moved (f (h d)) r q o) r q (o + 1) (fun x => movedF (f (h d)) r q o (f (h x))) ds
        | none => none
      | none => none
    | none => none
def storeD (st : St) (steal : Nat → Bool) (size : Nat) (a v : D) : Option St :=
  match a with
  | .ptr r q o =>
    if (cellsOf v).length = size ∧ live st r q = true then
      match q with
      | [] => if steal (r - st.of) then (match tkL st (cellsOf v) with
          | some (cs, st1) => storeTree st1 r o cs
          | none => none) else storeBox st r o id (cellsOf v)
      | q => storeRow st r q o id (cellsOf v)
    else none
  | _ => none
def callOwn (st : St) : List Bool → List D → Option (List D × St)
  | _, [] => some ([], st)
  | b, d :: ds =>
    match (if b.headD false then tkA st d else some (d, st) : Option (D × St)) with
    | some (d', st') => match callOwn st' b.tail ds with
      | some (ds', st'') => some (d' :: ds', st'')
      | none => none
    | none => none
def callRo (st : St) : List Bool → List D → Option (List D)
  | _, [] => some []
  | b, d :: ds =>
    match (if b.headD false then some d else exA st d) with
    | some d' => match callRo st b.tail ds with
      | some ds' => some (d' :: ds')
      | none => none
    | none => none
def callIn (st : St) (b : List Bool) (ds : List D) : Option (List D × St) :=
  match callOwn st b ds with
  | some (ds1, st1) => match callRo st1 b ds1 with
    | some ds2 => some (ds2, st1)
    | none => none
  | none => none
def backL (st : St) (h : D → D) : List D → List D → Option (St × (D → D))
  | [], _ => some (st, h)
  | _ :: _, [] => none
  | a :: as9, d :: ds =>
    match h a, d with
    | .ref r q o none, .sl none s n cs => match st.cell r q o with
      | some (.hole s0 n0) => if s0 = s ∧ n0 = n then
          (match (st.mapD (killP r q o false)).setC r q o (.sl none s n cs) with
           | some st' => backL st' (fun x => killP r q o false (h x)) as9 ds
           | none => none)
        else none
      | _ => none
    | _, _ => backL st h as9 ds
def back1 (st : St) (h : D → D) (a out : D) : Option (St × (D → D)) :=
  match a, out with
  | .agg cs, .agg ds => backL st h cs ds
  | .ptr r [] 0, .pbox ds => match lk st.rt r with
    | some [] => some ({ st.mapD (killB r) with rt := pz (st.mapD (killB r)).rt r ds }, fun x => killB r (h x))
    | _ => none
  | a, d => backL st h [a] [d]
def callBack (st : St) (h : D → D) : List Bool → List D → List D → Option St
  | _, [], _ => some st
  | b, a :: as9, o :: os => if b.headD false then match back1 st h a o with
      | some (st', h') => callBack st' h' b.tail as9 os
      | none => none
    else callBack st h b.tail as9 os
  | _, _ :: _, [] => none
def lentIn : List Bool → List D → Bool
  | _, [] => false
  | b, d :: ds => (b.headD false && !((outCells d).all noLent)) || lentIn b.tail ds
def untag : List Bool → List D → List D
  | _, [] => []
  | b, d :: ds => (if b.headD false then tagR false d else d) :: untag b.tail ds
def callD (c : Cfg) (cl : FuncId → List D → Option (D × List D)) (st : St) (dst : Option Nat) (f : FuncId) (args : List D) : Option St :=
  match callIn st (c.own f) args with
  | some (ds, st1) =>
    let t := lentIn (c.own f) ds
    match cl f (if t then untag (c.own f) ds else ds) with
    | some (r, outs) =>
      if okR r && outs.all okR then
        match callBack st1 id (c.own f) args (if t then outs.map (tagR true) else outs) with
        | some st2 => match dst with
          | some i => let p := st2.adopt (st2.of + i) (if t then tagR true r else r); some (p.1.put (some i) p.2)
          | none => some st2
        | none => none
      else none
    | none => none
  | none => none
def opD (c : Cfg) (cl : FuncId → List D → Option (D × List D)) (ci : FuncId → List D → Nat → St → Option (D × St)) (fnId : FuncId) (st : St) (o : Oper) : Option St :=
  let ev := evD c st o.type
  let val (d : Option D) : Option St := match d with | some d => some (st.put o.dst d) | none => none
  match o.op with
  | .move x | .assign x => some (st.put o.dst (ev x))
  | .pick b x y => match ev b with
    | .bool t => some (st.put o.dst (if t then ev x else ev y))
    | _ => none
  | .alloc e => match c.ty e with
    | some i => st.root o.dst i.zero (fun d => .ptr d [] 0)
    | none => none
  | .box e x => match c.ty e with
    | some i => if (cellsOf (evD c st e x)).length = i.size ∧ (if c.steal fnId (o.dst.getD 0) = true then true else (cellsOf (evD c st e x)).all (okCell st)) = true then
        match o.dst with
        | some t => if c.steal fnId t then (match tkL st (cellsOf (evD c st e x)) with
            | some (cs, st1) => if cs.all cellish then st1.root (some t) cs (fun d => .ptr d [] 0) else none
            | none => none)
          else st.root (some t) (cellsOf (onT (killR (st.of + t)) (evD c st e x))) (fun d => .ptr d [] 0)
        | none => none
      else none
    | none => none
  | .build t ps => match c.ty t with
    | some ⟨.struct offs szs, _, _, z⟩ =>
      match fillD (okCell st) (fun i => match offs[i]?, szs[i]? with | some o, some k => some (o, k) | _, _ => none) z (ps.toList.map fun p => (p.1, cellsOf (evD c st 0 p.2))) with
      | some cs => some (st.put o.dst (.agg cs))
      | none => none
    | some ⟨.array _ e, _, _, z⟩ => match c.ty e with
      | some ei =>
        match fillD (okCell st) (fun i => some (i * ei.size, ei.size)) z (ps.toList.map fun p => (p.1, cellsOf (evD c st 0 p.2))) with
        | some cs => some (st.put o.dst (.agg cs))
        | none => none
      | none => none
    | _ => none
  | .buildSlice t n ps => match c.ty t with
    | some ⟨.slice e, _, _, _⟩ => match c.ty e with
      | some ei =>
        if n * ei.size ≤ 16777216 then
          match tkParts st (ps.toList.map fun p => (p.1, evD c st e p.2)) with
          | some (vs, st1) => match fillD cellish (fun i => some (i * ei.size, ei.size)) (reps n ei.zero) vs with
            | some cs => st1.root o.dst [.sl none ei.size n cs] (fun d => .ref d [] 0 none)
            | none => none
          | none => none
        else none
      | none => none
    | _ => none
  | .load t a => match c.ty t with
    | some i => val (loadD st (isAggTy i.ty) i.size (ev a))
    | none => none
  | .store t a x => match c.ty t with
    | some i => match storeD st (c.steal fnId) i.size (ev a) (evD c st t x) with
      | some st' => some (st'.put o.dst (.tup []))
      | none => none
    | none => none
  | .nilCheck x => match ev x with
    | .ptr r q i => if live st r q then some (st.put o.dst (.ptr r q i)) else none
    | .rptr cs i => some (st.put o.dst (.rptr cs i))
    | _ => none
  | .binOp op t x y _ => val (binD c t op (evD c st t x) (evD c st t y))
  | .unOp op _ x => val (unD op (ev x))
  | .convert src dst x => match convD c st src dst (evD c st src x) with
    | some (d, none) => some (st.put o.dst d)
    | some (_, some cs) => st.root o.dst cs (fun d => .ref d [] 0 none)
    | none => none
  | .makeFunc (.func f) first caps => if first.size = 0 ∧ (caps.toList.map ev).all single = true then some (st.put o.dst (.fn f (caps.toList.map ev))) else none
  | .makeSlice t l cp => match c.ty t with
    | some ⟨.slice e, _, _, _⟩ => match c.ty e, ev l, ev cp with
      | some ei, .int _ l, .int _ cp => if 0 ≤ l then (if l ≤ cp then (if 0 < ei.bytes ∧ cp * ei.bytes ≤ 140737488355328 then st.root o.dst [.sl none ei.size l.toNat (reps l.toNat ei.zero)] (fun d => .ref d [] 0 none) else none) else none) else none
      | _, _, _ => none
    | _ => none
  | .slice t x l h none => val (sliceD c st t (evD c st t x) (l.map ev) (h.map ev))
  | .fieldAddr s x f => match c.ty s with
    | some ⟨.struct offs szs, _, _, _⟩ => match offs[f]? with
      | some k => val (fieldD st k (ev x))
      | none => none
    | _ => none
  | .indexAddr t x i => match ev i with
    | .int _ i => val (indexAddrD st c t (evD c st t x) i)
    | _ => none
  | .index t x i => match ev i with
    | .int _ i => val (indexD c t (ev x) i)
    | _ => none
  | .extract x i => match ev x with
    | .tup vs => val vs[i]?
    | _ => none
  | .call cc => if cc.args.size ≠ cc.argTypes.size then none else
    let args := (cc.args.toList.zip cc.argTypes.toList).map fun p => evD c st p.2 p.1
    match cc.callee with
    | .value f => match ev f with
      | .fn g caps => if c.inl g then (match ci g (args ++ caps) ((st.of + o.dst.getD 0 + 1) * 100000) st with
          | some (d, st') => some (st'.put o.dst d)
          | none => none) else callD c cl st o.dst g (args ++ caps)
      | _ => none
    | .builtin .len => match args, cc.argTypes.toList with
      | [x], [t] => val (lenD c st t x)
      | _, _ => none
    | .builtin .min => match args with
      | [.int k a, .int _ b] => some (st.put o.dst (.int k (if b < a then b else a)))
      | _ => none
    | .builtin .max => match args with
      | [.int k a, .int _ b] => some (st.put o.dst (.int k (if b > a then b else a)))
      | _ => none
    | .builtin .append => match args, cc.argTypes.toList with
      | [s, x], [t, tx] => appendD c st t tx o.dst s x
      | _, _ => none
    | _ => none
  | _ => none
def wantD (st : St) (ops : Array Oper) (o : Oper) : Option Bool :=
  match o.guard with
  | none => some true
  | some (j, want) => match (ops[j]?).bind (·.dst) with
    | some t => match st.get t with
      | .bool b => some (b == want)
      | .tup [] => some false
      | _ => none
    | none => some false
def opsD (c : Cfg) (cl : FuncId → List D → Option (D × List D)) (ci : FuncId → List D → Nat → St → Option (D × St)) (fnId : FuncId) (all : Array Oper) : List Oper → St → Option St
  | [], st => some st
  | o :: rest, st => match wantD st all o with
    | some true => match opD c cl ci fnId st o with
      | some st' => opsD c cl ci fnId all rest st'
      | none => none
    | some false => opsD c cl ci fnId all rest (st.put o.dst (.tup []))
    | none => none
def opsI (c : Cfg) (cl : FuncId → List D → Option (D × List D)) (ci : FuncId → List D → Nat → St → Option (D × St)) (fnId : FuncId) (all : Array Oper) : List Nat → St → Option St
  | [], st => some st
  | i :: rest, st => match all[i]? with
    | none => opsI c cl ci fnId all rest st
    | some o => match wantD st all o with
      | some true => match opD c cl ci fnId st o with
        | some st' => opsI c cl ci fnId all rest st'
        | none => none
      | some false => opsI c cl ci fnId all rest (st.put o.dst (.tup []))
      | none => none
def pvO (c : Cfg) (o : Oper) : Option Bool :=
  match o.op with
  | .move _ | .assign _ | .pick .. | .binOp .. | .unOp .. | .makeFunc .. | .slice .. | .fieldAddr .. | .indexAddr .. | .index .. | .extract .. | .build .. | .nilCheck _ => some true
  | .load .. => some false
  | .convert _ d _ => (match c.ty d with
    | some ⟨.slice _, _, _, _⟩ => none
    | some _ => some false
    | none => none)
  | .call cc => (match cc.callee with
    | .builtin .len | .builtin .min | .builtin .max => some true
    | _ => none)
  | _ => none
def kpO (c : Cfg) (o : Oper) : Bool :=
  (pvO c o).isSome || (match o.op with
    | .call cc => (match cc.callee with
      | .value (.func f) => !c.inl f && !(c.own f).any id
      | _ => false)
    | _ => false)
def waits (ops : Array Oper) : Nat → Nat → Nat → Bool
  | 0, _, _ => false
  | n + 1, j, i => match ops[j]? with
    | some o => o.after.toList.any fun e => Region.binds .any e && (e.on == i || waits ops n e.on i)
    | none => false
def takeOk (c : Cfg) (ops : Array Oper) (listed : Array Bool) (i : Nat) : Bool :=
  match ops[i]? with
  | none => false
  | some oi => match pvO c oi with
    | none => false
    | some b => (List.range ops.size).all fun j => j == i || listed.getD j true || waits ops ops.size j i || (match ops[j]? with
      | some oj => oi.apart ops oj && (b || kpO c oj)
      | none => true)
def planL (c : Cfg) (ops : Array Oper) : Nat → Array Bool → Option (List Nat)
  | 0, listed => match Region.ready .any ops listed with
    | [] => some []
    | _ => none
  | k + 1, listed => match Region.ready .any ops listed with
    | [] => some []
    | r :: rs => match (r :: rs).find? (takeOk c ops listed) with
      | some i => (match planL c ops k (listed.setIfInBounds i true) with
        | some l => some (i :: l)
        | none => none)
      | none => match rs with
        | [] => (match planL c ops k (listed.setIfInBounds r true) with
          | some l => some (r :: l)
          | none => none)
        | _ => none
def inlineL (B : List Nat) (st : St) (r : Nat) : Nat → Nat → Option St
  | _, 0 => some st
  | o, k + 1 =>
    match st.cell r [] o with
    | some (.ref r' q' o' x) => if (!q'.isEmpty || B.contains r') = true then inlineL B st r (o + 1) k else
      (match tkC st (.ref r' q' o' x) with
       | some (d', st1) => match (st1.mapD (killP r [] o true)).setC r [] o d' with
         | some st2 => inlineL B (st2.moved (.ref r' q' o' x) r [] o) r (o + 1) k
         | none => none
       | none => none)
    | _ => inlineL B st r (o + 1) k
def inlineBox (B : List Nat) (st : St) (r : Nat) : Option St :=
  match lk st.rt r with
  | some cs => inlineL B st r 0 cs.length
  | none => some st
def homeT (B : List Nat) (st : St) (t : Nat) : Option St :=
  match st.get t with
  | .ref r [] o x => if r = 10000 + st.of + t ∨ B.contains r = true then some st else
    match tkC st (.ref r [] o x) with
    | some (d', st1) =>
      let st2 := (st1.mapD (killR (10000 + st.of + t))).moved (.ref r [] o x) (10000 + st.of + t) [] 0
      some { st2 with tm := pz st2.tm t (.ref (10000 + st.of + t) [] 0 none), rt := pz st2.rt (10000 + st.of + t) [d'] }
    | none => none
  | _ => some st
def foldO (f : St → Nat → Option St) : St → List Nat → Option St
  | st, [] => some st
  | st, t :: ts => match f st t with
    | some st' => foldO f st' ts
    | none => none
def pickL {α : Type} (l : List (Nat × α)) : List Nat → List (Nat × α)
  | [] => []
  | t :: ts => match lk l t with
    | some v => (t, v) :: pickL l ts
    | none => pickL l ts
def below {α : Type} (k : Nat) : List (Nat × α) → List (Nat × α)
  | [] => []
  | (j, v) :: t => if (k ≤ j ∧ j < k + 100000) ∨ ((k + 1) * 100000 ≤ j ∧ j < (k + 100001) * 100000) then below k t else (j, v) :: below k t
def normD (L B : List Nat) (st : St) : Option St :=
  let bs := B.map (st.of + ·) ++ L.filterMap fun t => match st.get t with
    | .ptr r [] _ => some r
    | _ => none
  match foldO (inlineBox bs) st bs with
  | some st1 => match foldO (homeT bs) st1 L with
    | some st2 => some { st2 with tm := pickL st2.tm L, rt := below st.of st2.rt ++ pickL st2.rt ((B ++ L.map (10000 + ·)).map (st.of + ·)) }
    | none => none
  | none => none
def iterD (nm : St → Option St) (body : St → Option (Exit × St)) : Nat → St → Option (Exit × St)
  | 0, _ => none
  | k + 1, st => match nm st with
    | some st1 => match body st1 with
      | some (.normal, st2) => iterD nm body k st2
      | r => r
    | none => none
def codeD (c : Cfg) (cl : FuncId → List D → Option (D × List D)) (ci : FuncId → List D → Nat → St → Option (D × St)) (K : Nat) (fnId : FuncId) : Code → Nat → St → Option (Exit × St)
  | .skip, _, st => some (.normal, st)
  | .region _ ops false, _, st => match opsD c cl ci fnId ops ops.toList st with
    | some st' => some (.normal, st')
    | none => none
  | .region _ ops true, _, st => match planL c ops ops.size (Array.replicate ops.size false) with
    | some l => (match opsI c cl ci fnId ops l st with
      | some st' => some (.normal, st')
      | none => none)
    | none => none
  | .seq a b, i, st => match codeD c cl ci K fnId a i st with
    | some (.normal, st') => codeD c cl ci K fnId b i st'
    | r => r
  | .cond x a b, i, st => match evD c st 0 x with
    | .bool t => if t then codeD c cl ci K fnId a i st else codeD c cl ci K fnId b i st
    | _ => none
  | .block id a, _, st => match codeD c cl ci K fnId a id st with
    | some (.exit id', st') => if id' = id then some (.normal, st') else some (.exit id', st')
    | r => r
  | .loop a, i, st => iterD (match c.nm fnId i with | some (L, B) => normD L B | none => some) (codeD c cl ci K fnId a i) K st
  | .exit id, _, st => some (.exit id, st)
  | .ret, _, st => some (.ret, st)
  | _, _, _ => none
def enterL (n : Nat) : Nat → List D → St → St
  | _, [], st => st
  | i, d :: ds, st =>
    enterL n (i + 1) ds (match d with
      | .pbox cs => { st with tm := pz st.tm i (.ptr (n + i) [] 0), rt := pz st.rt (n + i) cs }
      | d => if (flatD d).any isOwn then { st with tm := pz st.tm i (viewD (n + i) d), rt := pz st.rt (n + i) (flatD d) } else { st with tm := pz st.tm i d })
def resL (c : Cfg) (st : St) : List ResultVar → Option (List D)
  | [] => some []
  | .tmp t :: rs => match resL c st rs with
    | some ds => some (st.get t :: ds)
    | none => none
  | .cell a t :: rs => match c.ty t with
    | some i => match loadD st (isAggTy i.ty) i.size (st.get a) with
      | some d => match resL c st rs with
        | some ds => some (d :: ds)
        | none => none
      | none => none
    | none => none
def rootD : D → Bool
  | .pbox _ => true
  | d => (flatD d).any isOwn
def outView (st : St) (r : Nat) (d : D) : Option D :=
  if rootD d then
    match d with
    | .pbox _ => some (.ptr r [] 0)
    | .agg _ => match lk st.rt r with
      | some cs => some (.agg (viewL r [] 0 cs))
      | none => none
    | _ => match lk st.rt r with
      | some [d'] => some (viewC r [] 0 d')
      | _ => none
  else none
def outsL (n : Nat) : Nat → List D → St → Option (List D)
  | _, [], _ => some []
  | i, d :: ds, st =>
    match outView st (n + i) d with
    | none => match outsL n (i + 1) ds st with
      | some os => some (.undef :: os)
      | none => none
    | some v => match tkA st v with
      | some (o, st') => match outsL n (i + 1) ds st' with
        | some os => some (o :: os)
        | none => none
      | none => none
def tupOf : List D → D
  | [d] => d
  | ds => .tup ds
def enterI : Nat → List D → List (Nat × D)
  | _, [] => []
  | i, d :: ds => (i, d) :: enterI (i + 1) ds
def exitOk : Exit → Bool
  | .normal | .ret => true
  | _ => false
def sizeOk (n k : Nat) : Bool := decide (k ≤ n) && decide (n + k ≤ 10000)
def noTup : D → Bool
  | .tup _ => false
  | _ => true
def callS (c : Cfg) (P : Program) (cl : FuncId → List D → Option (D × List D)) (ci : FuncId → List D → Nat → St → Option (D × St)) (K : Nat) (f : FuncId) (args : List D) : Option (D × List D) :=
  match c.ext f with
  | some e => e args
  | none => match P.funcs[f]? with
    | some fn => match fn.body with
      | some body => match codeD c cl ci K f body 0 (enterL fn.ntmps 0 args ⟨[], [], [], 0⟩) with
        | some (x, st) => if exitOk x && sizeOk fn.ntmps args.length then (match resL c st fn.results.toList with
            | some ds => match tkAs st ds with
              | some (ds', st') => match outsL fn.ntmps 0 args st' with
                | some os => some (tupOf ds', os)
                | none => none
              | none => none
            | none => none) else none
        | none => none
      | none => none
    | none => none
def inlS (c : Cfg) (P : Program) (cl : FuncId → List D → Option (D × List D)) (ci : FuncId → List D → Nat → St → Option (D × St)) (K : Nat) (f : FuncId) (args : List D) (of : Nat) (st : St) : Option (D × St) :=
  match P.funcs[f]? with
  | some fn => match fn.body with
    | some body => match codeD c cl ci K f body 0 ⟨enterI 0 args, st.rt, st.tm :: st.up, of⟩ with
      | some (x, st1) => if exitOk x && sizeOk fn.ntmps args.length then (match resL c st1 fn.results.toList, st1.up with
          | some ds, tm :: up => if ds.all noTup then some (tupOf ds, ⟨tm, st1.rt, up, st.of⟩) else none
          | _, _ => none) else none
      | none => none
    | none => none
  | none => none
def runF (c : Cfg) (P : Program) : Nat → (FuncId → List D → Option (D × List D)) × (FuncId → List D → Nat → St → Option (D × St))
  | 0 => (fun _ _ => none, fun _ _ _ _ => none)
  | k + 1 => (callS c P (runF c P k).1 (runF c P k).2 k, inlS c P (runF c P k).1 (runF c P k).2 k)
def callF (c : Cfg) (P : Program) (k : Nat) : FuncId → List D → Option (D × List D) := (runF c P k).1
end Go.Proofs.Ytkejckoefjonjaa
namespace Go.Proofs.Ytkejckoefjonjaa
inductive T where
  | v (d : D) (u : Value)
  | own (s n cap : Nat) (a : Option (Nat × Nat)) (cs : List T)
  deriving Inhabited
def leafD : D → D
  | .sl none _ _ _ => .undef
  | d => d
def hdr (a : Option (Nat × Nat)) (n cap : Nat) : Value := .slice (a.map fun p => ⟨p.1, p.2, none⟩) n cap
def T.val : T → Value
  | .v _ u => u
  | .own _ n cap a _ => hdr a n cap
mutual
def T.er : T → D
  | .v d _ => leafD d
  | .own s n _ _ cs => .sl none s n (ersT cs)
def ersT : List T → List D
  | [] => []
  | t :: ts => t.er :: ersT ts
end
def ftA : Option (Nat × Nat) → List Nat
  | some (b, _) => [b]
  | none => []
mutual
def T.ft : T → List Nat
  | .v _ _ => []
  | .own _ _ _ a cs => ftA a ++ ftsT cs
def ftsT : List T → List Nat
  | [] => []
  | t :: ts => t.ft ++ ftsT ts
end
def valsT : List T → List Value
  | [] => []
  | t :: ts => t.val :: valsT ts
theorem ersT_map (ts : List T) : ersT ts = ts.map T.er := by
  induction ts with
  | nil => rfl
  | cons t ts ih => simp [ersT, ih]
theorem valsT_map (ts : List T) : valsT ts = ts.map T.val := by
  induction ts with
  | nil => rfl
  | cons t ts ih => simp [valsT, ih]
theorem ftsT_map (ts : List T) : ftsT ts = (ts.map T.ft).flatten := by
  induction ts with
  | nil => rfl
  | cons t ts ih => simp [ftsT, ih]
theorem ersT_get (ts : List T) (o : Nat) : (ersT ts)[o]? = (ts[o]?).map T.er := by simp [ersT_map]
theorem ersT_len (ts : List T) : (ersT ts).length = ts.length := by simp [ersT_map]
theorem ersT_app (a b : List T) : ersT (a ++ b) = ersT a ++ ersT b := by simp [ersT_map]
theorem ersT_set (ts : List T) (o : Nat) (t : T) : (ersT ts).set o t.er = ersT (ts.set o t) := by
  simp [ersT_map, List.map_set]
theorem valsT_get (ts : List T) (o : Nat) : (valsT ts)[o]? = (ts[o]?).map T.val := by simp [valsT_map]
theorem valsT_len (ts : List T) : (valsT ts).length = ts.length := by simp [valsT_map]
theorem valsT_set (ts : List T) (o : Nat) (t : T) : valsT (ts.set o t) = (valsT ts).set o t.val := by simp [valsT_map, List.map_set]
theorem valsT_app (a b : List T) : valsT (a ++ b) = valsT a ++ valsT b := by simp [valsT_map]
theorem ftsT_app (a b : List T) : ftsT (a ++ b) = ftsT a ++ ftsT b := by simp [ftsT_map]
theorem ersT_drop (ts : List T) (k : Nat) : (ersT ts).drop k = ersT (ts.drop k) := by simp [ersT_map, List.map_drop]
theorem ersT_take (ts : List T) (k : Nat) : (ersT ts).take k = ersT (ts.take k) := by simp [ersT_map, List.map_take]
theorem er_own {t : T} {s n : Nat} {cs : List D} (h : t.er = .sl none s n cs) : ∃ cap a ts, t = .own s n cap a ts ∧ cs = ersT ts := by
  cases t with
  | v d u =>
    simp only [T.er] at h
    cases d <;> simp only [leafD] at h <;> try cases h
    rename_i g _ _ _
    cases g <;> simp at h
  | own s' n' cap a ts =>
    simp only [T.er, D.sl.injEq] at h
    obtain ⟨_, rfl, rfl, rfl⟩ := h
    exact ⟨cap, a, ts, rfl, rfl⟩
def cellsT : List T → List Nat → Option (List T)
  | cs, [] => some cs
  | cs, o :: q => match cs[o]? with
    | some (.own _ _ _ _ xs) => cellsT xs q
    | _ => none
def modT (f : List T → List T) : List T → List Nat → Option (List T)
  | cs, [] => some (f cs)
  | cs, o :: q => match cs[o]? with
    | some (.own s n cap a xs) => match modT f xs q with
      | some xs' => some (cs.set o (.own s n cap a xs'))
      | none => none
    | _ => none
def addrT (b : Option Nat) : List T → List Nat → Option (Nat × Nat)
  | _, [] => b.map fun k => (k, 0)
  | cs, o :: q => match cs[o]? with
    | some (.own _ _ _ a xs) => (match q with | [] => a | _ => addrT none xs q)
    | _ => none
theorem er_cells (q : List Nat) : ∀ cs : List T, cellsAt (ersT cs) q = (cellsT cs q).map ersT := by
  induction q with
  | nil => intro cs; rfl
  | cons o q ih =>
    intro cs
    simp only [cellsAt, cellsT, ersT_get]
    cases h : cs[o]? with
    | none => simp
    | some t =>
      cases t with
      | v d u =>
        cases d <;> simp [T.er, leafD]
        rename_i g _ _ _
        cases g <;> simp
      | own s n cap a xs => simp [T.er, ih]
theorem er_mod (q : List Nat) (o : Nat) (t : T) : ∀ cs : List T, modAt (fun l => l.set o t.er) (ersT cs) q = (modT (fun l => l.set o t) cs q).map ersT := by
  induction q with
  | nil => intro cs; simp [modAt, modT, ersT_set]
  | cons p q ih =>
    intro cs
    simp only [modAt, modT, ersT_get]
    cases h : cs[p]? with
    | none => simp
    | some x =>
      cases x with
      | v d u =>
        cases d <;> simp [T.er, leafD]
        rename_i g _ _ _
        cases g <;> simp
      | own s n cap a xs =>
        simp only [Option.map_some, T.er, ih]
        cases hm : modT (fun l => l.set o t) xs q with
        | none => simp
        | some xs' =>
          simp only [Option.map_some]
          rw [← ersT_set]; simp [T.er]
theorem mod_of_cells {q : List Nat} {f : List T → List T} : ∀ {cs l : List T}, cellsT cs q = some l → ∃ cs', modT f cs q = some cs' := by
  induction q with
  | nil => intro cs l _; exact ⟨_, rfl⟩
  | cons p q ih =>
    intro cs l h
    simp only [cellsT] at h
    simp only [modT]
    cases hp : cs[p]? with
    | none => simp [hp] at h
    | some x =>
      cases x with
      | v d u => simp [hp] at h
      | own s n cap a xs =>
        simp only [hp] at h
        obtain ⟨xs', hx⟩ := ih h
        exact ⟨cs.set p (.own s n cap a xs'), by simp [hx]⟩
theorem cells_of_mod {q : List Nat} {f : List T → List T} : ∀ {cs cs' : List T}, modT f cs q = some cs' → ∃ l, cellsT cs q = some l ∧ cellsT cs' q = some (f l) := by
  induction q with
  | nil =>
    intro cs cs' h
    simp only [modT, Option.some.injEq] at h
    exact ⟨cs, rfl, by rw [← h]; rfl⟩
  | cons p q ih =>
    intro cs cs' h
    simp only [modT] at h
    cases hp : cs[p]? with
    | none => simp [hp] at h
    | some x =>
      cases x with
      | v d u => simp [hp] at h
      | own s n cap a xs =>
        simp only [hp] at h
        cases hm : modT f xs q with
        | none => simp [hm] at h
        | some xs' =>
          simp only [hm, Option.some.injEq] at h
          obtain ⟨l, h1, h2⟩ := ih hm
          refine ⟨l, by simp [cellsT, hp, h1], ?_⟩
          have hl : p < cs.length := (List.getElem?_eq_some_iff.1 hp).1
          rw [← h]
          simp [cellsT, hl, h2]
theorem mod_vals {p : Nat} {q : List Nat} {f : List T → List T} {cs cs' : List T} (h : modT f cs (p :: q) = some cs') : valsT cs' = valsT cs ∧ cs'.length = cs.length := by
  simp only [modT] at h
  cases hp : cs[p]? with
  | none => simp [hp] at h
  | some x =>
    cases x with
    | v d u => simp [hp] at h
    | own s n cap a xs =>
      simp only [hp] at h
      cases hm : modT f xs q with
      | none => simp [hm] at h
      | some xs' =>
        simp only [hm, Option.some.injEq] at h
        subst h
        obtain ⟨hl, hx⟩ := List.getElem?_eq_some_iff.1 hp
        refine ⟨?_, by simp⟩
        rw [valsT_set]
        apply List.ext_getElem?
        intro j
        by_cases hj : p = j
        · subst hj
          rw [List.getElem?_set_self (by rw [valsT_len]; exact hl), valsT_get, hp]; rfl
        · simp [hj]
theorem fts_split (cs : List T) (o : Nat) (t : T) (h : cs[o]? = some t) : ∃ A B, ftsT cs = A ++ t.ft ++ B ∧ ∀ t' : T, ftsT (cs.set o t') = A ++ t'.ft ++ B := by
  induction cs generalizing o with
  | nil => simp at h
  | cons x xs ih =>
    cases o with
    | zero =>
      simp only [List.getElem?_cons_zero, Option.some.injEq] at h
      subst h
      exact ⟨[], ftsT xs, by simp [ftsT], fun t' => by simp [ftsT]⟩
    | succ o =>
      simp only [List.getElem?_cons_succ] at h
      obtain ⟨A, B, h1, h2⟩ := ih o h
      exact ⟨x.ft ++ A, B, by simp [ftsT, h1], fun t' => by simp [ftsT, h2]⟩
theorem path_split {q : List Nat} : ∀ {cs l : List T}, cellsT cs q = some l → ∃ A B, ftsT cs = A ++ ftsT l ++ B ∧ ∀ f cs', modT f cs q = some cs' → ftsT cs' = A ++ ftsT (f l) ++ B := by
  induction q with
  | nil =>
    intro cs l h
    simp only [cellsT, Option.some.injEq] at h
    subst h
    refine ⟨[], [], by simp, fun f cs' h => ?_⟩
    simp only [modT, Option.some.injEq] at h
    simp [← h]
  | cons p q ih =>
    intro cs l h
    simp only [cellsT] at h
    cases hp : cs[p]? with
    | none => simp [hp] at h
    | some x =>
      cases x with
      | v d u => simp [hp] at h
      | own s n cap a xs =>
        simp only [hp] at h
        obtain ⟨A, B, h1, h2⟩ := ih h
        obtain ⟨A', B', h3, h4⟩ := fts_split cs p _ hp
        refine ⟨A' ++ ftA a ++ A, B ++ B', by rw [h3]; simp [T.ft, h1], fun f cs' hm => ?_⟩
        simp only [modT, hp] at hm
        cases hx : modT f xs q with
        | none => simp [hx] at hm
        | some xs' =>
          simp only [hx, Option.some.injEq] at hm
          rw [← hm, h4]
          simp [T.ft, h2 f xs' hx]
theorem cell_split {q : List Nat} {o : Nat} {cs l : List T} {t : T} (h : cellsT cs q = some l) (ht : l[o]? = some t) :
    ∃ A B, ftsT cs = A ++ t.ft ++ B ∧ ∀ t' cs', modT (fun l => l.set o t') cs q = some cs' → ftsT cs' = A ++ t'.ft ++ B := by
  obtain ⟨A, B, h1, h2⟩ := path_split h
  obtain ⟨A', B', h3, h4⟩ := fts_split l o t ht
  refine ⟨A ++ A', B' ++ B, by rw [h1, h3]; simp, fun t' cs' hm => ?_⟩
  rw [h2 _ _ hm, h4]; simp
structure RT where
  box : Option Nat
  cs : List T
def RT.ft (r : RT) : List Nat := r.box.toList ++ ftsT r.cs
def ftS : List (Nat × RT) → List Nat
  | [] => []
  | (_, r) :: t => r.ft ++ ftS t
theorem lk_pt_same {α : Type} (l : List (Nat × α)) (k : Nat) (v : α) : lk (pt l k v) k = some v := by
  induction l with
  | nil => simp [pt, lk]
  | cons e t ih =>
    obtain ⟨j, u⟩ := e
    simp only [pt]
    split
    · simp [lk]
    · rename_i h; simp [lk, h, ih]
theorem lk_pt_ne {α : Type} (l : List (Nat × α)) {k j : Nat} (v : α) (h : j ≠ k) : lk (pt l k v) j = lk l j := by
  induction l with
  | nil => simp [pt, lk, Ne.symm h]
  | cons e t ih =>
    obtain ⟨i, u⟩ := e
    simp only [pt]
    split
    · rename_i hi; subst hi; simp [lk, Ne.symm h]
    · simp only [lk]; split <;> simp [ih]
theorem lk_pz_same {α : Type} (l : List (Nat × α)) (k : Nat) (v : α) : lk (pz l k v) k = some v := by
  induction l with
  | nil => simp [pz, lk]
  | cons e t ih =>
    obtain ⟨j, u⟩ := e
    simp only [pz]
    split
    · rename_i h; simp [lk, Nat.ne_of_lt h, ih]
    · split <;> simp [lk]
theorem lk_pz_ne {α : Type} (l : List (Nat × α)) {k j : Nat} (v : α) (h : j ≠ k) : lk (pz l k v) j = lk l j := by
  induction l with
  | nil => simp [pz, lk, Ne.symm h]
  | cons e t ih =>
    obtain ⟨i, u⟩ := e
    simp only [pz]
    split
    · simp only [lk]; split <;> simp [ih]
    · split
      · rename_i hi; subst hi; simp [lk, Ne.symm h]
      · simp [lk, Ne.symm h]
def RtEq (l : List (Nat × List D)) (S : List (Nat × RT)) : Prop := ∀ k, lk l k = (lk S k).map fun r => ersT r.cs
theorem rtEq_pz {l : List (Nat × List D)} {S : List (Nat × RT)} (h : RtEq l S) (k : Nat) (r : RT) : RtEq (pz l k (ersT r.cs)) (pt S k r) := by
  intro j
  by_cases hj : j = k
  · subst hj; rw [lk_pz_same, lk_pt_same]; rfl
  · rw [lk_pz_ne _ _ hj, lk_pt_ne _ _ hj]; exact h j
theorem fts_pt {S : List (Nat × RT)} {k : Nat} {r : RT} (h : lk S k = some r) : ∃ A B, ftS S = A ++ r.ft ++ B ∧ ∀ r', ftS (pt S k r') = A ++ r'.ft ++ B := by
  induction S with
  | nil => simp [lk] at h
  | cons e t ih =>
    obtain ⟨j, u⟩ := e
    simp only [lk] at h
    by_cases hj : j = k
    · simp only [hj, if_true, Option.some.injEq] at h
      subst h
      exact ⟨[], ftS t, by simp [ftS], fun r' => by simp [pt, hj, ftS]⟩
    · simp only [hj, if_false] at h
      obtain ⟨A, B, h1, h2⟩ := ih h
      exact ⟨u.ft ++ A, B, by simp [ftS, h1], fun r' => by simp [pt, hj, ftS, h2]⟩
theorem fts_pt_new {S : List (Nat × RT)} {k : Nat} (h : lk S k = none) (r : RT) : ftS (pt S k r) = ftS S ++ r.ft := by
  induction S with
  | nil => simp [pt, ftS]
  | cons e t ih =>
    obtain ⟨j, u⟩ := e
    simp only [lk] at h
    by_cases hj : j = k
    · simp [hj] at h
    · simp only [hj, if_false] at h
      simp [pt, hj, ftS, ih h]
end Go.Proofs.Ytkejckoefjonjaa
namespace Go.Proofs.Ytkejckoefjonjaa
def Unf (fz : Nat × Nat) (n : Nat) : Prop := ∀ o, o < n → ¬ (fz.1 ≤ o ∧ o < fz.2)
def Blk (w : World) (b off lim : Nat) (us : List Value) : Prop :=
  ∃ c e fz, w.heap[b]? = some (.cells c e fz) ∧ Unf fz c.size ∧ off + lim ≤ c.size ∧ ∀ j u, us[j]? = some u → c[off + j]? = some u
mutual
def Ext (w : World) (X : Bool → Nat → Prop) : D → Value → Prop
  | .int k n, u => u = .int k n
  | .bool b, u => u = .bool b
  | .str s, u => u = .string s
  | .nil _, u => u = .slice none 0 0
  | .undef, _ => True
  | .hole _ _, _ => True
  | .sl (some g) s n cs, u => ∃ base cap us, u = .slice base n cap ∧ n ≤ cap ∧ cs.length = n * s ∧ ExtL w X cs us ∧
      (cs = [] ∨ ∃ k off c e fz, base = some ⟨k, off, none⟩ ∧ X g k ∧ w.heap[k]? = some (.cells c e fz) ∧ ∀ j v, us[j]? = some v → c[off + j]? = some v)
  | _, _ => False
def ExtL (w : World) (X : Bool → Nat → Prop) : List D → List Value → Prop
  | [], us => us = []
  | d :: ds, us => ∃ v vs, us = v :: vs ∧ Ext w X d v ∧ ExtL w X ds vs
end
mutual
def SatT (w : World) (X : Bool → Nat → Prop) : T → Prop
  | .v d u => Ext w X (leafD d) u
  | .own s n cap a cs => n ≤ cap ∧ cs.length = n * s ∧ (match a with | none => n = 0 ∧ cap = 0 | some (b, off) => Blk w b off (cap * s) (valsT cs)) ∧ SatL w X cs
def SatL (w : World) (X : Bool → Nat → Prop) : List T → Prop
  | [] => True
  | t :: ts => SatT w X t ∧ SatL w X ts
end
section
variable {w w' : World} {X X' : Bool → Nat → Prop}
mutual
theorem ext_move (h : ∀ b k, X b k → X' b k ∧ w'.heap[k]? = w.heap[k]?) : ∀ (d : D) (u : Value), Ext w X d u → Ext w' X' d u
  | .int _ _, _, hu => hu
  | .bool _, _, hu => hu
  | .str _, _, hu => hu
  | .nil _, _, hu => hu
  | .undef, _, _ => trivial
  | .hole _ _, _, _ => trivial
  | .sl (some g) s n cs, u, hu => by
    simp only [Ext] at hu ⊢
    obtain ⟨base, cap, us, h1, h1', h2, h3, h4⟩ := hu
    refine ⟨base, cap, us, h1, h1', h2, extL_move h cs us h3, ?_⟩
    rcases h4 with h4 | ⟨k, off, c, e, fz, h5, h6, h7, h8⟩
    · exact .inl h4
    · exact .inr ⟨k, off, c, e, fz, h5, (h g k h6).1, by rw [(h g k h6).2]; exact h7, h8⟩
  | .sl none _ _ _, _, hu => by simp [Ext] at hu
  | .ref .., _, hu => by simp [Ext] at hu
  | .agg _, _, hu => by simp [Ext] at hu
  | .tup _, _, hu => by simp [Ext] at hu
  | .fn .., _, hu => by simp [Ext] at hu
  | .ptr .., _, hu => by simp [Ext] at hu
  | .rptr .., _, hu => by simp [Ext] at hu
  | .pbox _, _, hu => by simp [Ext] at hu
theorem extL_move (h : ∀ b k, X b k → X' b k ∧ w'.heap[k]? = w.heap[k]?) : ∀ (ds : List D) (us : List Value), ExtL w X ds us → ExtL w' X' ds us
  | [], _, hu => hu
  | d :: ds, us, hu => by
    simp only [ExtL] at hu ⊢
    obtain ⟨v, vs, h1, h2, h3⟩ := hu
    exact ⟨v, vs, h1, ext_move h d v h2, extL_move h ds vs h3⟩
end
mutual
theorem sat_move (h : ∀ b k, X b k → X' b k ∧ w'.heap[k]? = w.heap[k]?) : ∀ (t : T), SatT w X t → (∀ k ∈ t.ft, w'.heap[k]? = w.heap[k]?) → SatT w' X' t
  | .v d u, hs, _ => by simp only [SatT] at hs ⊢; exact ext_move h _ _ hs
  | .own s n cap a cs, hs, hf => by
    simp only [SatT] at hs ⊢
    obtain ⟨h1, h2, h3, h4⟩ := hs
    refine ⟨h1, h2, ?_, satL_move h cs h4 (fun k hk => hf k (by simp [T.ft, hk]))⟩
    cases a with
    | none => exact h3
    | some p =>
      obtain ⟨b, off⟩ := p
      obtain ⟨c, e, fz, hb, hr⟩ := h3
      exact ⟨c, e, fz, by rw [hf b (by simp [T.ft, ftA])]; exact hb, hr⟩
theorem satL_move (h : ∀ b k, X b k → X' b k ∧ w'.heap[k]? = w.heap[k]?) : ∀ (ts : List T), SatL w X ts → (∀ k ∈ ftsT ts, w'.heap[k]? = w.heap[k]?) → SatL w' X' ts
  | [], _, _ => by simp [SatL]
  | t :: ts, hs, hf => by
    simp only [SatL] at hs ⊢
    exact ⟨sat_move h t hs.1 (fun k hk => hf k (by simp [ftsT, hk])), satL_move h ts hs.2 (fun k hk => hf k (by simp [ftsT, hk]))⟩
end
end
theorem satL_iff {w : World} {X : Bool → Nat → Prop} (ts : List T) : SatL w X ts ↔ ∀ t ∈ ts, SatT w X t := by
  induction ts with
  | nil => simp [SatL]
  | cons t ts ih => simp [SatL, ih]
theorem satL_get {w : World} {X : Bool → Nat → Prop} {ts : List T} (h : SatL w X ts) {o : Nat} {t : T} (ho : ts[o]? = some t) : SatT w X t :=
  (satL_iff ts).1 h t (List.mem_of_getElem? ho)
theorem satL_set {w : World} {X : Bool → Nat → Prop} {ts : List T} (h : SatL w X ts) (o : Nat) {t : T} (ht : SatT w X t) : SatL w X (ts.set o t) := by
  rw [satL_iff] at h ⊢
  intro x hx
  rcases List.mem_or_eq_of_mem_set hx with hx | rfl
  · exact h x hx
  · exact ht
theorem satL_app {w : World} {X : Bool → Nat → Prop} (a b : List T) : SatL w X (a ++ b) ↔ SatL w X a ∧ SatL w X b := by
  rw [satL_iff, satL_iff, satL_iff]
  simp only [List.mem_append]
  exact ⟨fun h => ⟨fun t ht => h t (.inl ht), fun t ht => h t (.inr ht)⟩, fun h t ht => ht.elim (h.1 t) (h.2 t)⟩
theorem sat_cells {w : World} {X : Bool → Nat → Prop} {q : List Nat} : ∀ {cs l : List T}, SatL w X cs → cellsT cs q = some l → SatL w X l := by
  induction q with
  | nil =>
    intro cs l h hc
    simp only [cellsT, Option.some.injEq] at hc
    exact hc ▸ h
  | cons p q ih =>
    intro cs l h hc
    simp only [cellsT] at hc
    cases hp : cs[p]? with
    | none => simp [hp] at hc
    | some x =>
      cases x with
      | v d u => simp [hp] at hc
      | own s n cap a xs =>
        simp only [hp] at hc
        have := satL_get h hp
        simp only [SatT] at this
        exact ih this.2.2.2 hc
theorem sat_put {w : World} {X : Bool → Nat → Prop} {o : Nat} {t t' : T} (ht : SatT w X t') (hv : t'.val = t.val) {q : List Nat} : ∀ {cs cs' l : List T}, SatL w X cs → cellsT cs q = some l → l[o]? = some t →
    modT (fun l => l.set o t') cs q = some cs' → SatL w X cs' ∧ valsT cs' = valsT cs := by
  induction q with
  | nil =>
    intro cs cs' l h hc ho hm
    simp only [cellsT, Option.some.injEq] at hc
    simp only [modT, Option.some.injEq] at hm
    subst hc; subst hm
    refine ⟨satL_set h o ht, ?_⟩
    rw [valsT_set, hv]
    apply List.ext_getElem?
    intro j
    by_cases hj : o = j
    · subst hj
      obtain ⟨hl, _⟩ := List.getElem?_eq_some_iff.1 ho
      rw [List.getElem?_set_self (by rw [valsT_len]; exact hl), valsT_get, ho]; rfl
    · rw [List.getElem?_set_ne hj]
  | cons p q ih =>
    intro cs cs' l h hc ho hm
    refine ⟨?_, (mod_vals hm).1⟩
    simp only [cellsT] at hc
    simp only [modT] at hm
    cases hp : cs[p]? with
    | none => simp [hp] at hc
    | some x =>
      cases x with
      | v d u => simp [hp] at hc
      | own s n cap a xs =>
        simp only [hp] at hc hm
        cases hx : modT (fun l => l.set o t') xs q with
        | none => simp [hx] at hm
        | some xs' =>
          simp only [hx, Option.some.injEq] at hm
          have hs := satL_get h hp
          simp only [SatT] at hs
          obtain ⟨h1, h2, h3, h4⟩ := hs
          obtain ⟨h5, h6⟩ := ih h4 hc ho hx
          have hl : xs'.length = xs.length := by have := congrArg List.length h6; simpa [valsT_len] using this
          rw [← hm]
          refine satL_set h p ?_
          simp only [SatT]
          exact ⟨h1, by rw [hl]; exact h2, by rw [h6]; exact h3, h5⟩
def Upd (w w' : World) (b i : Nat) (u : Value) : Prop :=
  ∃ c e fz, w.heap[b]? = some (.cells c e fz) ∧ w'.heap[b]? = some (.cells (c.setIfInBounds i u) e fz) ∧ ∀ k, k ≠ b → w'.heap[k]? = w.heap[k]?
theorem blk_upd {w w' : World} {b i : Nat} {u : Value} (hu : Upd w w' b i u) {off lim o : Nat} {us : List Value} (hi : i = off + o) (hb : Blk w b off lim us) (hlim : us.length ≤ lim) : Blk w' b off lim (us.set o u) := by
  obtain ⟨c, e, fz, h1, h2, h3⟩ := hu
  obtain ⟨c', e', fz', h4, h5, h6, h7⟩ := hb
  rw [h4] at h1
  simp only [Option.some.injEq, Obj.cells.injEq] at h1
  obtain ⟨rfl, rfl, rfl⟩ := h1
  refine ⟨_, e', fz', h2, by simpa using h5, by simpa using h6, fun j v hj => ?_⟩
  subst hi
  by_cases hjo : o = j
  · subst hjo
    by_cases hl : o < us.length
    · rw [List.getElem?_set_self hl] at hj
      have hlt : off + o < c'.size := by omega
      rw [Array.getElem?_setIfInBounds_self_of_lt hlt]; exact hj
    · rw [List.getElem?_eq_none (by simpa using hl)] at hj
      simp at hj
  · rw [List.getElem?_set_ne hjo] at hj
    rw [Array.getElem?_setIfInBounds_ne (by omega)]
    exact h7 j v hj
theorem blk_far {w w' : World} {b k i : Nat} {u : Value} (hu : Upd w w' b i u) (hk : k ≠ b) {off lim : Nat} {us : List Value} (hb : Blk w k off lim us) : Blk w' k off lim us := by
  obtain ⟨c, e, fz, h1, h2⟩ := hb
  obtain ⟨_, _, _, _, _, h3⟩ := hu
  exact ⟨c, e, fz, by rw [h3 k hk]; exact h1, h2⟩
theorem addr_mem {q : List Nat} : ∀ {cs : List T} {bx : Option Nat} {p b off : Nat}, addrT bx cs (p :: q) = some (b, off) → b ∈ ftsT cs := by
  induction q with
  | nil =>
    intro cs bx p b off h
    simp only [addrT] at h
    cases hp : cs[p]? with
    | none => simp [hp] at h
    | some x =>
      cases x with
      | v d u => simp [hp] at h
      | own s n cap a xs =>
        simp only [hp] at h
        obtain ⟨A, B, h1, _⟩ := fts_split cs p _ hp
        rw [h1, T.ft, h]; simp [ftA]
  | cons p' q ih =>
    intro cs bx p b off h
    rw [addrT] at h
    cases hp : cs[p]? with
    | none => simp [hp] at h
    | some x =>
      cases x with
      | v d u => simp [hp] at h
      | own s n cap a xs =>
        simp only [hp] at h
        obtain ⟨A, B, h1, _⟩ := fts_split cs p _ hp
        have := ih h
        rw [h1, T.ft]; simp [this]
theorem sat_upd {w w' : World} {X X' : Bool → Nat → Prop} {o b off : Nat} {t' : T} (hX : ∀ b k, X b k → X' b k ∧ w'.heap[k]? = w.heap[k]?) (ht : SatT w' X' t') (hu : Upd w w' b (off + o) t'.val) {q : List Nat} :
    ∀ {cs cs' l : List T} {bx : Option Nat} {p : Nat}, SatL w X cs → (ftsT cs).Nodup → cellsT cs (p :: q) = some l → addrT bx cs (p :: q) = some (b, off) → o < l.length →
    modT (fun l => l.set o t') cs (p :: q) = some cs' → SatL w' X' cs' := by
  have hfar : ∀ t : T, SatT w X t → b ∉ t.ft → SatT w' X' t := fun t h hb => sat_move hX t h (fun k hk => by
    obtain ⟨_, _, _, _, _, h3⟩ := hu
    exact h3 k (fun e => hb (e ▸ hk)))
  induction q with
  | nil =>
    intro cs cs' l bx p h hn hc ha ho hm
    simp only [cellsT, modT, addrT] at hc hm ha
    cases hp : cs[p]? with
    | none => simp [hp] at hc
    | some x =>
      cases x with
      | v d u => simp [hp] at hc
      | own s n cap a xs =>
        simp only [hp, Option.some.injEq] at hc hm ha
        subst hc; subst ha; subst hm
        obtain ⟨A, B, h1, h2⟩ := fts_split cs p _ hp
        rw [h1] at hn
        have hs := satL_get h hp
        simp only [SatT] at hs
        obtain ⟨h3, h4, h5, h6⟩ := hs
        have hn' : (T.own s n cap (some (b, off)) xs).ft.Nodup := ((List.nodup_append.1 (List.nodup_append.1 hn).1).2.1)
        simp only [T.ft, ftA, List.cons_append, List.nil_append, List.nodup_cons] at hn'
        rw [satL_iff]
        intro t hmem
        obtain ⟨j, hj⟩ := List.mem_iff_getElem?.1 hmem
        by_cases hjp : p = j
        · subst hjp
          rw [List.getElem?_set_self (List.getElem?_eq_some_iff.1 hp).1, Option.some.injEq] at hj
          subst hj
          simp only [SatT]
          refine ⟨h3, by simpa using h4, ?_, ?_⟩
          · rw [valsT_set]
            exact blk_upd hu rfl h5 (by rw [valsT_len, h4]; exact Nat.mul_le_mul_right _ h3)
          · rw [satL_iff]
            intro y hy
            obtain ⟨i, hi⟩ := List.mem_iff_getElem?.1 hy
            by_cases hio : o = i
            · subst hio
              rw [List.getElem?_set_self ho, Option.some.injEq] at hi
              exact hi ▸ ht
            · rw [List.getElem?_set_ne hio] at hi
              refine hfar y (satL_get h6 hi) (fun hb => hn'.1 ?_)
              obtain ⟨A', B', e1, _⟩ := fts_split xs i _ hi
              rw [e1]; simp [hb]
        · rw [List.getElem?_set_ne hjp] at hj
          refine hfar t (satL_get h hj) (fun hb => ?_)
          have : b ∈ (T.own s n cap (some (b, off)) xs).ft := by simp [T.ft, ftA]
          rcases Nat.lt_or_gt_of_ne hjp with hlt | hlt
          · have h7 := h2 (.v .undef undef)
            have hj' : (cs.set p (.v .undef undef))[j]? = some t := by rw [List.getElem?_set_ne hjp]; exact hj
            obtain ⟨A', B', e1, _⟩ := fts_split _ j t hj'
            have hb' : b ∈ ftsT (cs.set p (.v .undef undef)) := by rw [e1]; simp [hb]
            rw [h7] at hb'
            simp only [T.ft, List.append_nil, List.mem_append] at hb'
            rw [List.nodup_append, List.nodup_append] at hn
            rcases hb' with hb' | hb'
            · exact hn.1.2.2 b hb' b this rfl
            · exact hn.2.2 b (List.mem_append.2 (.inr this)) b hb' rfl
          · have h7 := h2 (.v .undef undef)
            have hj' : (cs.set p (.v .undef undef))[j]? = some t := by rw [List.getElem?_set_ne hjp]; exact hj
            obtain ⟨A', B', e1, _⟩ := fts_split _ j t hj'
            have hb' : b ∈ ftsT (cs.set p (.v .undef undef)) := by rw [e1]; simp [hb]
            rw [h7] at hb'
            simp only [T.ft, List.append_nil, List.mem_append] at hb'
            rw [List.nodup_append, List.nodup_append] at hn
            rcases hb' with hb' | hb'
            · exact hn.1.2.2 b hb' b this rfl
            · exact hn.2.2 b (List.mem_append.2 (.inr this)) b hb' rfl
  | cons p' q ih =>
    intro cs cs' l bx p h hn hc ha ho hm
    rw [cellsT] at hc
    rw [modT] at hm
    rw [addrT] at ha
    cases hp : cs[p]? with
    | none => simp [hp] at hc
    | some x =>
      cases x with
      | v d u => simp [hp] at hc
      | own s n cap a xs =>
        simp only [hp] at hc hm ha
        cases hx : modT (fun l => l.set o t') xs (p' :: q) with
        | none => simp [hx] at hm
        | some xs' =>
          simp only [hx, Option.some.injEq] at hm
          subst hm
          obtain ⟨A, B, h1, h2⟩ := fts_split cs p _ hp
          rw [h1] at hn
          have hs := satL_get h hp
          simp only [SatT] at hs
          obtain ⟨h3, h4, h5, h6⟩ := hs
          have hn' : (T.own s n cap a xs).ft.Nodup := ((List.nodup_append.1 (List.nodup_append.1 hn).1).2.1)
          have hb := addr_mem ha
          have hthis : b ∈ (T.own s n cap a xs).ft := by simp [T.ft, hb]
          simp only [T.ft] at hn'
          have hnx := (List.nodup_append.1 hn').2.1
          obtain ⟨hv, hl⟩ := mod_vals hx
          have hsx := ih h6 hnx hc ha ho hx
          rw [satL_iff]
          intro t hmem
          obtain ⟨j, hj⟩ := List.mem_iff_getElem?.1 hmem
          by_cases hjp : p = j
          · subst hjp
            rw [List.getElem?_set_self (List.getElem?_eq_some_iff.1 hp).1, Option.some.injEq] at hj
            subst hj
            simp only [SatT]
            refine ⟨h3, by rw [hl]; exact h4, ?_, hsx⟩
            cases a with
            | none => exact h5
            | some pa =>
              obtain ⟨b1, off1⟩ := pa
              rw [hv]
              refine blk_far hu (fun e => ?_) h5
              exact (List.nodup_append.1 hn').2.2 b1 (by simp [ftA]) b hb e
          · rw [List.getElem?_set_ne hjp] at hj
            refine hfar t (satL_get h hj) (fun hb2 => ?_)
            have h7 := h2 (.v .undef undef)
            have hj' : (cs.set p (.v .undef undef))[j]? = some t := by rw [List.getElem?_set_ne hjp]; exact hj
            obtain ⟨A', B', e1, _⟩ := fts_split _ j t hj'
            have hb' : b ∈ ftsT (cs.set p (.v .undef undef)) := by rw [e1]; simp [hb2]
            rw [h7] at hb'
            simp only [T.ft, List.append_nil, List.mem_append] at hb'
            rw [List.nodup_append, List.nodup_append] at hn
            rcases hb' with hb' | hb'
            · exact hn.1.2.2 b hb' b hthis rfl
            · exact hn.2.2 b (List.mem_append.2 (.inr hthis)) b hb' rfl
end Go.Proofs.Ytkejckoefjonjaa
namespace Go.Proofs.Ytkejckoefjonjaa
inductive All2 {α β : Type} (R : α → β → Prop) : List α → List β → Prop
  | nil : All2 R [] []
  | cons {a b as9 bs} : R a b → All2 R as9 bs → All2 R (a :: as9) (b :: bs)
def cellR (S : List (Nat × RT)) (r : Nat) (q : List Nat) (o : Nat) : Option T :=
  match lk S r with
  | some R => match cellsT R.cs q with
    | some l => l[o]?
    | none => none
  | none => none
def RefOk (x : Option (Nat × Nat)) (t : T) (u : Value) : Prop :=
  match sn t.er with
  | some (s, n) => match x with
    | none => u = t.val
    | some (l, m) => l + m ≤ n ∧ ∃ base C k, t.val = .slice base n C ∧ k ≤ C ∧ u = .slice (base.map (·.add (k * s))) m (C - l) ∧ (C - l = 0 ∨ k = l)
  | none => True
def TVc (w : World) (X : Bool → Nat → Prop) (S : List (Nat × RT)) : D → Value → Prop
  | .ref r q o x, u => ∀ t, cellR S r q o = some t → RefOk x t u
  | .ptr r q o, u => ∀ R, lk S r = some R → (q = [] → R.box.isSome) ∧ ∀ b off, addrT R.box R.cs q = some (b, off) → u = .pointer (some ⟨b, off + o, none⟩)
  | .rptr cs o, u => ∃ b off c e fz us, u = .pointer (some ⟨b, off + o, none⟩) ∧ X true b ∧ w.heap[b]? = some (.cells c e fz) ∧ ExtL w X cs us ∧ ∀ j v, us[j]? = some v → c[off + j]? = some v
  | d, u => Ext w X d u
def TVa (w : World) (X : Bool → Nat → Prop) (S : List (Nat × RT)) : D → Value → Prop
  | .agg cs, u => ∃ us, u = .agg us ∧ All2 (TVc w X S) cs us.toList
  | .fn f cs, u => ∃ us, u = .func (.func f) #[] us ∧ All2 (TVc w X S) cs us.toList
  | d, u => TVc w X S d u
def TVt (w : World) (X : Bool → Nat → Prop) (S : List (Nat × RT)) : D → Value → Prop
  | .tup ds, u => ∃ us, u = .tuple us ∧ All2 (TVa w X S) ds us.toList
  | d, u => TVa w X S d u
def CellOk (w : World) (X : Bool → Nat → Prop) (S : List (Nat × RT)) (b : Bool) : T → Prop
  | .v d u => Ext w X (leafD d) u ∨ (b = true ∧ TVc w X S (leafD d) u)
  | t => SatT w X t
def RootOk (w : World) (X : Bool → Nat → Prop) (S : List (Nat × RT)) (R : RT) : Prop :=
  (match R.box with | some b => Blk w b 0 R.cs.length (valsT R.cs) | none => True) ∧ ∀ t ∈ R.cs, CellOk w X S R.box.isSome t
structure Ctx where
  w0 : World
  FA : List Nat
  Y : Nat → Prop
  P0 : List (Nat × Option Nat × List Value)
def Free (C : Ctx) (w : World) (S : List (Nat × RT)) (H : List T) (b : Bool) (k : Nat) : Prop :=
  k < w.heap.size ∧ k ∉ ftS S ∧ k ∉ ftsT H ∧ (b = false → C.Y k ∨ k ∈ C.FA ∨ C.w0.heap.size ≤ k)
structure Mem (C : Ctx) (w : World) (S : List (Nat × RT)) (H : List T) : Prop where
  nd : (ftS S ++ ftsT H).Nodup
  root : ∀ r R, lk S r = some R → RootOk w (Free C w S H) S R
  hand : SatL w (Free C w S H) H
  lt : ∀ k ∈ ftS S ++ ftsT H, k < w.heap.size
def TMs (w : World) (X : Bool → Nat → Prop) (S : List (Nat × RT)) (tm : List (Nat × D)) (vs : Array Value) : Prop :=
  ∀ t, TVt w X S ((lk tm t).getD .undef) (vs.getD t undef)
structure Kept (C : Ctx) (w : World) (S : List (Nat × RT)) (H : List T) : Prop where
  os : w.os = C.w0.os
  tape : w.tape = C.w0.tape
  output : w.output = C.w0.output
  size : C.w0.heap.size ≤ w.heap.size
  block : ∀ k, k < C.w0.heap.size → k ∉ C.FA → w.heap[k]? = C.w0.heap[k]?
  foot : ∀ k ∈ ftS S ++ ftsT H, k ∈ C.FA ∨ C.w0.heap.size ≤ k
  par : ∀ r b vs, (r, b, vs) ∈ C.P0 → ∀ R, lk S r = some R → R.box = b ∧ (b = none → valsT R.cs = vs)
structure Rel (C : Ctx) (H : List T) (w : World) (st : St) (vss : List (Array Value)) (S : List (Nat × RT)) : Prop where
  rt : RtEq st.rt S
  mem : Mem C w S H
  tms : All2 (TMs w (Free C w S H) S) (st.tm :: st.up) vss
  kept : Kept C w S H
theorem cell_er (st : St) (S : List (Nat × RT)) (h : RtEq st.rt S) (r : Nat) (q : List Nat) (o : Nat) : st.cell r q o = (cellR S r q o).map T.er := by
  unfold St.cell St.cells cellR
  rw [h]
  cases lk S r with
  | none => rfl
  | some R =>
    simp only [Option.map_some, er_cells]
    cases cellsT R.cs q with
    | none => rfl
    | some l => simp [ersT_get]
theorem cells_er (st : St) (S : List (Nat × RT)) (h : RtEq st.rt S) {r : Nat} {q : List Nat} {cs : List D} (hc : st.cells r q = some cs) : ∃ R l, lk S r = some R ∧ cellsT R.cs q = some l ∧ cs = ersT l := by
  unfold St.cells at hc
  rw [h] at hc
  cases hr : lk S r with
  | none => simp [hr] at hc
  | some R =>
    simp only [hr, Option.map_some, er_cells] at hc
    cases hl : cellsT R.cs q with
    | none => simp [hl] at hc
    | some l =>
      simp only [hl, Option.map_some, Option.some.injEq] at hc
      exact ⟨R, l, rfl, hl, hc.symm⟩
theorem cell_st {st : St} {S : List (Nat × RT)} (h : RtEq st.rt S) {r : Nat} {q : List Nat} {o : Nat} {d : D} (hc : st.cell r q o = some d) : ∃ R l t, lk S r = some R ∧ cellsT R.cs q = some l ∧ l[o]? = some t ∧ cellR S r q o = some t ∧ d = t.er := by
  rw [cell_er st S h] at hc
  cases ht : cellR S r q o with
  | none => simp [ht] at hc
  | some t =>
    simp only [ht, Option.map_some, Option.some.injEq] at hc
    unfold cellR at ht
    cases hr : lk S r with
    | none => simp [hr] at ht
    | some R =>
      simp only [hr] at ht
      cases hl : cellsT R.cs q with
      | none => simp [hl] at ht
      | some l =>
        simp only [hl] at ht
        exact ⟨R, l, t, rfl, hl, ht, rfl, hc.symm⟩
theorem All2.len {α β : Type} {R : α → β → Prop} {as9 : List α} {bs : List β} (h : All2 R as9 bs) : as9.length = bs.length := by
  induction h with
  | nil => rfl
  | cons _ _ ih => simp [ih]
theorem All2.get {α β : Type} {R : α → β → Prop} {as9 : List α} {bs : List β} (h : All2 R as9 bs) : ∀ {i : Nat} {a : α}, as9[i]? = some a → ∃ b, bs[i]? = some b ∧ R a b := by
  induction h with
  | nil => intro i a h; simp at h
  | cons h1 _ ih =>
    intro i a h
    cases i with
    | zero => simp only [List.getElem?_cons_zero, Option.some.injEq] at h; exact ⟨_, rfl, h ▸ h1⟩
    | succ i => simp only [List.getElem?_cons_succ] at h ⊢; exact ih h
theorem All2.mono {α β : Type} {R R' : α → β → Prop} {as9 : List α} {bs : List β} (h : All2 R as9 bs) (hr : ∀ a b, R a b → R' a b) : All2 R' as9 bs := by
  induction h with
  | nil => exact .nil
  | cons h1 _ ih => exact .cons (hr _ _ h1) ih
theorem All2.map {α α' β : Type} {R : α → β → Prop} {R' : α' → β → Prop} {as9 : List α} {bs : List β} (h : All2 R as9 bs) (f : α → α') (hr : ∀ a b, R a b → R' (f a) b) : All2 R' (as9.map f) bs := by
  induction h with
  | nil => exact .nil
  | cons h1 _ ih => exact .cons (hr _ _ h1) ih
theorem All2.app {α β : Type} {R : α → β → Prop} {as9 as' : List α} {bs bs' : List β} (h : All2 R as9 bs) (h' : All2 R as' bs') : All2 R (as9 ++ as') (bs ++ bs') := by
  induction h with
  | nil => exact h'
  | cons h1 _ ih => exact .cons h1 ih
theorem All2.drop {α β : Type} {R : α → β → Prop} {as9 : List α} {bs : List β} (h : All2 R as9 bs) : ∀ n, All2 R (as9.drop n) (bs.drop n) := by
  induction h with
  | nil => intro n; simp; exact .nil
  | cons h1 h2 ih =>
    intro n
    cases n with
    | zero => exact .cons h1 h2
    | succ n => simpa using ih n
theorem All2.take {α β : Type} {R : α → β → Prop} {as9 : List α} {bs : List β} (h : All2 R as9 bs) : ∀ n, All2 R (as9.take n) (bs.take n) := by
  induction h with
  | nil => intro n; simp; exact .nil
  | cons h1 h2 ih =>
    intro n
    cases n with
    | zero => exact .nil
    | succ n => exact .cons h1 (ih n)
theorem all2_of_get {α β : Type} {R : α → β → Prop} : ∀ {as9 : List α} {bs : List β}, as9.length = bs.length → (∀ (i : Nat) a b, as9[i]? = some a → bs[i]? = some b → R a b) → All2 R as9 bs
  | [], [], _, _ => .nil
  | a :: as9, b :: bs, h, hr => .cons (hr 0 a b rfl rfl) (all2_of_get (by simpa using h) (fun i a b ha hb => hr (i + 1) a b (by simpa using ha) (by simpa using hb)))
  | [], _ :: _, h, _ => by simp at h
  | _ :: _, [], h, _ => by simp at h
theorem extL_all2 {w : World} {X : Bool → Nat → Prop} (ds : List D) : ∀ us, ExtL w X ds us ↔ All2 (Ext w X) ds us := by
  induction ds with
  | nil => intro us; simp only [ExtL]; exact ⟨fun h => h ▸ .nil, fun h => by cases h; rfl⟩
  | cons d ds ih =>
    intro us
    simp only [ExtL]
    constructor
    · rintro ⟨v, vs, rfl, h1, h2⟩
      exact .cons h1 ((ih vs).1 h2)
    · intro h
      cases h with
      | cons h1 h2 => exact ⟨_, _, rfl, h1, (ih _).2 h2⟩
theorem tvc_of_ext {w : World} {X : Bool → Nat → Prop} {S : List (Nat × RT)} : ∀ {d : D} {u : Value}, Ext w X d u → TVc w X S d u
  | .int .., _, h => h
  | .bool .., _, h => h
  | .str .., _, h => h
  | .nil .., _, h => h
  | .undef, _, h => h
  | .hole .., _, h => h
  | .sl .., _, h => h
  | .ref .., _, h => by simp [Ext] at h
  | .agg .., _, h => by simp [Ext] at h
  | .tup .., _, h => by simp [Ext] at h
  | .fn .., _, h => by simp [Ext] at h
  | .ptr .., _, h => by simp [Ext] at h
  | .rptr .., _, h => by simp [Ext] at h
  | .pbox .., _, h => by simp [Ext] at h
theorem tva_of_tvc {w : World} {X : Bool → Nat → Prop} {S : List (Nat × RT)} {d : D} {u : Value} (h : TVc w X S d u) : TVa w X S d u := by
  cases d <;> first | exact h | (simp [TVc, Ext] at h)
theorem tvt_of_tva {w : World} {X : Bool → Nat → Prop} {S : List (Nat × RT)} {d : D} {u : Value} (h : TVa w X S d u) : TVt w X S d u := by
  cases d <;> first | exact h | (simp [TVa, TVc, Ext] at h)
theorem tvt_of_tvc {w : World} {X : Bool → Nat → Prop} {S : List (Nat × RT)} {d : D} {u : Value} (h : TVc w X S d u) : TVt w X S d u := tvt_of_tva (tva_of_tvc h)
theorem tvt_of_ext {w : World} {X : Bool → Nat → Prop} {S : List (Nat × RT)} {d : D} {u : Value} (h : Ext w X d u) : TVt w X S d u := tvt_of_tvc (tvc_of_ext h)
theorem tvt_undef {w : World} {X : Bool → Nat → Prop} {S : List (Nat × RT)} (u : Value) : TVt w X S .undef u := tvt_of_ext (by simp [Ext])
theorem getD_put (vs : Array Value) (d t : Nat) (v : Value) : (vs.setIfInBounds d v).getD t undef = if d = t ∧ d < vs.size then v else vs.getD t undef := by
  rw [Array.getD_eq_getD_getElem?, Array.getD_eq_getD_getElem?, Array.getElem?_setIfInBounds]
  by_cases h : d = t
  · subst h
    by_cases hd : d < vs.size
    · simp [hd]
    · simp [hd]
  · simp [h]
theorem TMs.put {w : World} {X : Bool → Nat → Prop} {S : List (Nat × RT)} {tm : List (Nat × D)} {vs : Array Value} (h : TMs w X S tm vs) {t : Nat} (ht : t < vs.size) {d : D} {v : Value} (hv : TVt w X S d v) : TMs w X S (pz tm t d) (vs.setIfInBounds t v) := by
  intro i
  rw [getD_put]
  by_cases hi : t = i
  · subst hi
    rw [lk_pz_same]; simpa [ht] using hv
  · rw [lk_pz_ne _ _ (Ne.symm hi)]; simpa [hi] using h i
end Go.Proofs.Ytkejckoefjonjaa
namespace Go.Proofs.Ytkejckoefjonjaa
def ZOk (d : D) (u : Value) : Prop := ∀ w X, Ext w X d u
def dAgg : TypeDesc → Bool
  | .struct _ | .array _ _ => true
  | _ => false
def TyD (P : Program) : Ty → TypeDesc → Prop
  | .int k, d => d = .int k
  | .bool, d => d = .bool
  | .str, d => d = .string
  | .slice e, d => d = .slice e
  | .array n e, d => d = .array n e
  | .struct offs szs, d => ∃ fs, d = .struct fs ∧ offs = fs.toList.map (·.offset) ∧ szs.length = fs.toList.length ∧ ∀ (j : Nat) (f : Field), fs.toList[j]? = some f → ∃ i, P.info? f.type = some i ∧ i.size ≠ 0 ∧ szs[j]? = some i.size
  | .ptr e, d => d = .pointer e
  | .fn, d => dAgg d = false
  | .other, d => dAgg d = false
structure TyOk (P : Program) (t : TypeId) (ti : TI) : Prop where
  info : ∃ i, P.info? t = some i ∧ i.size = ti.size ∧ i.bytes = ti.bytes ∧ ∃ z, i.zero = some z ∧ All2 ZOk ti.zero z.cells.toList
  desc : ∃ d, P.underlying t = some d ∧ TyD P ti.ty d
  len : ti.zero.length = ti.size
structure CfgOk (c : Cfg) (P : Program) : Prop where
  ty : ∀ t ti, c.ty t = some ti → TyOk P t ti
section
variable {P : Program} {w : World}
theorem run_ti {t : TypeId} {i : TypeInfo} (h : P.info? t = some i) (w : World) : (typeInfo t).run P w = .ok i w := by simp [typeInfo, h]
theorem run_sz {t : TypeId} {i : TypeInfo} (h : P.info? t = some i) (w : World) : (Go.sizeOf t).run P w = Result.ok i.size w := by
  simp [Go.sizeOf, run_ti h]
theorem run_zero {t : TypeId} {i : TypeInfo} {z : Value} (h : P.info? t = some i) (hz : i.zero = some z) (w : World) : (zeroValue t).run P w = .ok z w := by
  simp [zeroValue, run_ti h, hz]
theorem TyOk.sz {t : TypeId} {ti : TI} (h : TyOk P t ti) (w : World) : (Go.sizeOf t).run P w = Result.ok ti.size w := by
  obtain ⟨i, h1, h2, _⟩ := h.info
  rw [run_sz h1, h2]
theorem tyD_agg {ty : Ty} {d : TypeDesc} (h : TyD P ty d) : dAgg d = isAggTy ty := by
  cases ty <;> simp only [TyD] at h <;> first | (subst h; rfl) | (obtain ⟨fs, rfl, _⟩ := h; rfl) | (rw [h]; rfl)
theorem TyOk.agg {t : TypeId} {ti : TI} (h : TyOk P t ti) (w : World) : (isAgg t).run P w = .ok (isAggTy ti.ty) w := by
  obtain ⟨d, h1, h2⟩ := h.desc
  simp only [isAgg, Sem.run_bind, run_underlying h1, Result.andThen_ok]
  rw [← tyD_agg h2]
  cases d <;> rfl
end
section
variable {P : Program} {o : Oper} {a : Act} {w : World} {K : Act → World → Prop} {Q : Exit → Act → World → Prop}
theorem wp_value {v : Value} {w' : World} (h : (execOp a.eval o).run P w = .ok (.value v) w') (hk : K (a.put o.dst v) w') : o.wp P a w K Q := by
  unfold Oper.wp; rw [h]; exact hk
theorem wp_skipped {w' : World} (h : (execOp a.eval o).run P w = .ok .skip w') (hk : K (a.put o.dst undef) w') : o.wp P a w K Q := by
  unfold Oper.wp; rw [h]; exact hk
end
theorem add_mk (b off k : Nat) : (⟨b, off, none⟩ : Addr).add k = ⟨b, off + k, none⟩ := by
  unfold Addr.add; split
  · rename_i h; subst h; rfl
  · rfl
theorem cell_blk {w : World} {b off lim : Nat} {us : List Value} (h : Blk w b off lim us) {j : Nat} {u : Value} (hj : us[j]? = some u) : w.cell? ⟨b, off + j, none⟩ = some u := by
  obtain ⟨c, e, fz, h1, _, _, h4⟩ := h
  simp [World.cell?, h1, h4 j u hj]
theorem frozen_blk {w : World} {b off lim : Nat} {us : List Value} (h : Blk w b off lim us) {j : Nat} (hj : j < lim) : w.frozen? ⟨b, off + j, none⟩ = false := by
  obtain ⟨c, e, fz, h1, h2, h3, _⟩ := h
  have := h2 (off + j) (by omega)
  simp only [World.frozen?, h1]
  simpa using this
theorem isSome_blk {w : World} {b off lim : Nat} {us : List Value} (h : Blk w b off lim us) {j : Nat} (hj : j < lim) : ∃ u, w.cell? ⟨b, off + j, none⟩ = some u := by
  obtain ⟨c, e, fz, h1, _, h3, _⟩ := h
  have : off + j < c.size := by omega
  exact ⟨c[off + j], by simp [World.cell?, h1, this]⟩
theorem node_mem {w : World} {X : Bool → Nat → Prop} {q : List Nat} : ∀ {s n cap : Nat} {a : Option (Nat × Nat)} {xs l : List T}, SatT w X (.own s n cap a xs) → cellsT xs q = some l → l ≠ [] →
    ∃ b off lim, (match q with | [] => a | _ => addrT none xs q) = some (b, off) ∧ Blk w b off lim (valsT l) ∧ l.length ≤ lim ∧ SatL w X l := by
  induction q with
  | nil =>
    intro s n cap a xs l h hc hl
    simp only [cellsT, Option.some.injEq] at hc
    subst hc
    simp only [SatT] at h
    obtain ⟨h1, h2, h3, h4⟩ := h
    cases a with
    | none =>
      have : xs.length = 0 := by rw [h2, h3.1]; simp
      exact absurd (List.length_eq_zero_iff.1 this) hl
    | some p => exact ⟨p.1, p.2, _, rfl, h3, by rw [h2]; exact Nat.mul_le_mul_right _ h1, h4⟩
  | cons p q ih =>
    intro s n cap a xs l h hc hl
    simp only [SatT] at h
    rw [cellsT] at hc
    cases hp : xs[p]? with
    | none => simp [hp] at hc
    | some x =>
      cases x with
      | v d u => simp [hp] at hc
      | own s' n' cap' a' xs' =>
        simp only [hp] at hc
        obtain ⟨b, off, lim, h5, h6⟩ := ih (satL_get h.2.2.2 hp) hc hl
        exact ⟨b, off, lim, by simp only [addrT, hp]; exact h5, h6⟩
theorem mem_at {C : Ctx} {w : World} {S : List (Nat × RT)} {H : List T} (hm : Mem C w S H) {r : Nat} {R : RT} {q : List Nat} {l : List T} (hr : lk S r = some R) (hc : cellsT R.cs q = some l) (hl : l ≠ []) (hb : q = [] → R.box.isSome = true) :
    ∃ b off lim, addrT R.box R.cs q = some (b, off) ∧ Blk w b off lim (valsT l) ∧ l.length ≤ lim ∧ (q ≠ [] → SatL w (Free C w S H) l) := by
  obtain ⟨h1, h2⟩ := hm.root r R hr
  cases q with
  | nil =>
    simp only [cellsT, Option.some.injEq] at hc
    subst hc
    have hb := hb rfl
    cases hx : R.box with
    | none => simp [hx] at hb
    | some b => exact ⟨b, 0, _, by simp [addrT], by simpa [hx] using h1, Nat.le_refl _, fun h => absurd rfl h⟩
  | cons p q =>
    rw [cellsT] at hc
    cases hp : R.cs[p]? with
    | none => simp [hp] at hc
    | some x =>
      cases x with
      | v d u => simp [hp] at hc
      | own s n cap a xs =>
        simp only [hp] at hc
        have hs : SatT w (Free C w S H) (.own s n cap a xs) := h2 _ (List.mem_of_getElem? hp)
        obtain ⟨b, off, lim, h3, h4, h5, h6⟩ := node_mem hs hc hl
        exact ⟨b, off, lim, by simp only [addrT, hp]; exact h3, h4, h5, fun _ => h6⟩
theorem addr_app {q : List Nat} : ∀ {cs l : List T} {bx : Option Nat} {o s n cap : Nat} {a : Option (Nat × Nat)} {xs : List T}, cellsT cs q = some l → l[o]? = some (.own s n cap a xs) → addrT bx cs (q ++ [o]) = a ∧ cellsT cs (q ++ [o]) = some xs := by
  induction q with
  | nil =>
    intro cs l bx o s n cap a xs hc ho
    simp only [cellsT, Option.some.injEq] at hc
    subst hc
    simp [addrT, cellsT, ho]
  | cons p q ih =>
    intro cs l bx o s n cap a xs hc ho
    rw [cellsT] at hc
    cases hp : cs[p]? with
    | none => simp [hp] at hc
    | some x =>
      cases x with
      | v d u => simp [hp] at hc
      | own s' n' cap' a' xs' =>
        simp only [hp] at hc
        obtain ⟨h1, h2⟩ := ih (bx := none) hc ho
        refine ⟨?_, by simp only [List.cons_append, cellsT, hp]; exact h2⟩
        rw [List.cons_append, addrT]
        simp only [hp]
        cases hq : q ++ [o] with
        | nil => simp at hq
        | cons y ys => rw [hq] at h1; exact h1
theorem cellR_mk {S : List (Nat × RT)} {r : Nat} {R : RT} {q : List Nat} {l : List T} {o : Nat} (hr : lk S r = some R) (hc : cellsT R.cs q = some l) : cellR S r q o = l[o]? := by
  simp [cellR, hr, hc]
theorem view_ok {C : Ctx} {w : World} {S : List (Nat × RT)} {H : List T} (hm : Mem C w S H) {r : Nat} {R : RT} {q : List Nat} {l : List T} {o : Nat} {t : T} (hr : lk S r = some R) (hc : cellsT R.cs q = some l) (ho : l[o]? = some t) :
    TVc w (Free C w S H) S (viewC r q o t.er) t.val := by
  cases t with
  | own s n cap a xs =>
    simp only [T.er, viewC, TVc]
    intro t' ht'
    rw [cellR_mk hr hc, ho, Option.some.injEq] at ht'
    subst ht'
    simp [RefOk, sn, T.er]
  | v d u =>
    have hv : viewC r q o (T.v d u).er = leafD d := by
      simp only [T.er]
      cases d <;> simp [leafD, viewC]
      rename_i g _ _ _
      cases g <;> simp [leafD, viewC]
    rw [hv]
    obtain ⟨_, h2⟩ := hm.root r R hr
    cases q with
    | nil =>
      simp only [cellsT, Option.some.injEq] at hc
      subst hc
      rcases h2 _ (List.mem_of_getElem? ho) with h3 | ⟨_, h3⟩
      · exact tvc_of_ext h3
      · exact h3
    | cons p q =>
      rw [cellsT] at hc
      cases hp : R.cs[p]? with
      | none => simp [hp] at hc
      | some x =>
        cases x with
        | v d u => simp [hp] at hc
        | own s n cap a xs =>
          simp only [hp] at hc
          have hs : SatT w (Free C w S H) (.own s n cap a xs) := h2 _ (List.mem_of_getElem? hp)
          simp only [SatT] at hs
          have := satL_get (sat_cells hs.2.2.2 hc) ho
          simp only [SatT] at this
          exact tvc_of_ext this
theorem viewL_get (r : Nat) (q : List Nat) : ∀ (cs : List D) (o i : Nat), (viewL r q o cs)[i]? = (cs[i]?).map (viewC r q (o + i))
  | [], o, i => by simp [viewL]
  | d :: ds, o, 0 => by simp [viewL]
  | d :: ds, o, i + 1 => by
    simp only [viewL, List.getElem?_cons_succ, viewL_get r q ds (o + 1) i]
    congr 1
    rw [show o + 1 + i = o + (i + 1) by omega]
theorem viewL_len (r : Nat) (q : List Nat) : ∀ (cs : List D) (o : Nat), (viewL r q o cs).length = cs.length
  | [], o => rfl
  | d :: ds, o => by simp [viewL, viewL_len r q ds (o + 1)]
def Stands (w w2 : World) : Prop := ∀ k, k < w.heap.size → w2.heap[k]? = w.heap[k]?
theorem Stands.refl (w : World) : Stands w w := fun _ _ => rfl
theorem Stands.trans {w w2 w3 : World} (h : Stands w w2) (h' : Stands w2 w3) : Stands w w3 := fun k hk => by
  have h1 := h k hk
  have hk2 : k < w2.heap.size := by
    rcases Nat.lt_or_ge k w2.heap.size with h2 | h2
    · exact h2
    · rw [Array.getElem?_eq_none h2, Array.getElem?_eq_getElem hk] at h1
      simp at h1
  rw [h' k hk2, h1]
theorem Stands.cell {w w2 : World} (h : Stands w w2) {A : Addr} {v : Value} (hc : w.cell? A = some v) : w2.cell? A = some v := by
  have hk : A.block < w.heap.size := by
    rcases Nat.lt_or_ge A.block w.heap.size with h2 | h2
    · exact h2
    · simp [World.cell?, Array.getElem?_eq_none h2] at hc
  rw [← hc]
  unfold World.cell?
  rw [h _ hk]
theorem load_ok {P : Program} {c : Cfg} (hcfg : CfgOk c P) {C : Ctx} {w : World} {S : List (Nat × RT)} {st : St} (hrt : RtEq st.rt S) (hm : Mem C w S []) {t : TypeId} {ti : TI} (ht : c.ty t = some ti) {d d' : D} {u : Value} (hd : TVt w (Free C w S []) S d u) (h : loadD st (isAggTy ti.ty) ti.size d = some d') :
    ∃ v, (∀ w2, Stands w w2 → (Instr.loadAt t u).run P w2 = .ok v w2) ∧ TVt w (Free C w S []) S d' v := by
  have hty := hcfg.ty t ti ht
  cases d with
  | ptr r q o =>
    simp only [loadD] at h
    cases hcs : st.cells r q with
    | none => simp [hcs] at h
    | some cs =>
      simp only [hcs] at h
      obtain ⟨R, l, hr, hl, rfl⟩ := cells_er st S hrt hcs
      have hp := hd R hr
      cases hagg : isAggTy ti.ty with
      | true =>
        simp only [hagg, if_true] at h
        split at h
        case isFalse => simp at h
        rename_i hle
        obtain ⟨hz, hle⟩ := hle
        simp only [Option.some.injEq] at h
        subst h
        rw [ersT_len] at hle
        · have hne : l ≠ [] := by intro e; subst e; simp at hle; omega
          obtain ⟨b, off, lim, h1, h2, h3, _⟩ := mem_at hm hr hl hne hp.1
          have hu := hp.2 b off h1
          subst hu
          refine ⟨.agg ((valsT l).drop o |>.take ti.size).toArray, ?_, ?_⟩
          · intro w2 hw2
            simp only [Instr.loadAt, Instr.sureAddr, loadVar, Sem.run_bind, Sem.run_pure, Result.andThen_ok, hty.agg, hagg, if_true, hty.sz]
            have hlen : ((valsT l).drop o |>.take ti.size).length = ti.size := by simp [valsT_len]; omega
            have := run_loadCells_list (P := P) w2 ⟨b, off + o, none⟩ ((valsT l).drop o |>.take ti.size) (fun j v hj => by
              rw [add_mk, Nat.add_assoc]
              refine hw2.cell (cell_blk h2 ?_)
              rw [List.getElem?_take] at hj
              split at hj
              · rw [List.getElem?_drop] at hj; exact hj
              · simp at hj)
            rw [hlen] at this
            simp [this]
          · refine ⟨_, rfl, all2_of_get ?_ ?_⟩
            · simp [viewL_len, ersT_len, valsT_len]
            · intro i d1 v1 hi hv
              rw [viewL_get, ersT_drop, ersT_take, ersT_get] at hi
              simp only [List.getElem?_take] at hv hi
              split at hv
              · rename_i hlt
                rw [if_pos hlt, List.getElem?_drop] at hi
                rw [List.getElem?_drop, valsT_get] at hv
                cases hx : l[o + i]? with
                | none => simp [hx] at hi
                | some t' =>
                  simp only [hx, Option.map_some, Option.some.injEq] at hi hv
                  subst hi; subst hv
                  exact view_ok hm hr hl hx
              · simp at hv
      | false =>
        simp only [hagg, Bool.false_eq_true, if_false] at h
        rw [ersT_get] at h
        cases hx : l[o]? with
        | none => simp [hx] at h
        | some t' =>
          simp only [hx, Option.map_some, Option.some.injEq] at h
          subst h
          have hne : l ≠ [] := by intro e; subst e; simp at hx
          obtain ⟨b, off, lim, h1, h2, h3, _⟩ := mem_at hm hr hl hne hp.1
          have hu := hp.2 b off h1
          subst hu
          refine ⟨t'.val, ?_, tvt_of_tvc (view_ok hm hr hl hx)⟩
          intro w2 hw2
          simp only [Instr.loadAt, Instr.sureAddr, loadVar, Sem.run_bind, Sem.run_pure, Result.andThen_ok, hty.agg, hagg, Bool.false_eq_true, if_false]
          have hcell : w2.cell? ⟨b, off + o, none⟩ = some t'.val := hw2.cell (cell_blk h2 (by rw [valsT_get, hx]; rfl))
          simp [hcell]
  | rptr cs o =>
    obtain ⟨b, off, cc, e, fz, us, rfl, hXb, hblk, hus, hcells⟩ := hd
    simp only [loadD] at h
    have hall := (extL_all2 cs us).1 hus
    cases hagg : isAggTy ti.ty with
    | true =>
      simp only [hagg, if_true] at h
      split at h
      case isFalse => simp at h
      rename_i hle
      obtain ⟨hz, hle⟩ := hle
      simp only [Option.some.injEq] at h
      subst h
      refine ⟨.agg ((us.drop o).take ti.size).toArray, ?_, ?_⟩
      · intro w2 hw2
        simp only [Instr.loadAt, Instr.sureAddr, loadVar, Sem.run_bind, Sem.run_pure, Result.andThen_ok, hty.agg, hagg, if_true, hty.sz]
        have hlen : ((us.drop o).take ti.size).length = ti.size := by have := hall.len; simp; omega
        have := run_loadCells_list (P := P) w2 ⟨b, off + o, none⟩ ((us.drop o).take ti.size) (fun j v hj => by
          rw [add_mk]
          refine hw2.cell ?_
          rw [List.getElem?_take] at hj
          split at hj
          · rw [List.getElem?_drop] at hj
            simp [World.cell?, hblk, Nat.add_assoc, hcells _ _ hj]
          · simp at hj)
        rw [hlen] at this
        simp [this]
      · exact ⟨_, rfl, by simpa using ((hall.drop o).take ti.size).mono (fun _ _ h => tvc_of_ext h)⟩
    | false =>
      simp only [hagg, Bool.false_eq_true, if_false] at h
      obtain ⟨u, hu, he⟩ := hall.get h
      refine ⟨u, ?_, tvt_of_ext he⟩
      intro w2 hw2
      simp only [Instr.loadAt, Instr.sureAddr, loadVar, Sem.run_bind, Sem.run_pure, Result.andThen_ok, hty.agg, hagg, Bool.false_eq_true, if_false]
      have hcell : w.cell? ⟨b, off + o, none⟩ = some u := by simp [World.cell?, hblk, hcells _ _ hu]
      have hcell := hw2.cell hcell
      simp [hcell]
  | _ => simp [loadD] at h
end Go.Proofs.Ytkejckoefjonjaa
namespace Go.Proofs.Ytkejckoefjonjaa
section
variable {w : World} {X : Bool → Nat → Prop} {S : List (Nat × RT)}
theorem tv_int {k : IntKind} {n : Int} {u : Value} (h : TVt w X S (.int k n) u) : u = .int k n := h
theorem tv_bool {b : Bool} {u : Value} (h : TVt w X S (.bool b) u) : u = .bool b := h
theorem tv_str {s : ByteArray} {u : Value} (h : TVt w X S (.str s) u) : u = .string s := h
theorem tv_nil {s : Nat} {u : Value} (h : TVt w X S (.nil s) u) : u = .slice none 0 0 := h
theorem tvi (k : IntKind) (n : Int) : TVt w X S (.int k n) (.int k n) := rfl
theorem tvs (s : ByteArray) : TVt w X S (.str s) (.string s) := rfl
end
theorem ev_ok {c : Cfg} {w : World} {X : Bool → Nat → Prop} {S : List (Nat × RT)} {st : St} {a : Act} (h : TMs w X S st.tm a.tmps) (t : TypeId) (x : Operand) : TVt w X S (evD c st t x) (a.eval x) := by
  cases x with
  | tmp i => exact h i
  | const v =>
    simp only [evD, Act.eval]
    cases v <;> try exact tvt_undef _
    all_goals first | rfl | skip
    rename_i b n cap
    simp only [ofVal]
    split <;> first | exact tvt_undef _ | (rename_i e; first | cases e | skip)
    all_goals first | rfl | exact tvt_undef _ | skip
  | func f => exact ⟨#[], rfl, .nil⟩
  | global g => exact tvt_undef _
section
variable {P : Program} {w : World} {X : Bool → Nat → Prop} {S : List (Nat × RT)}
theorem run_eqGuard_int (op : BinOp) (t : TypeId) (x y : Operand) (k k' : IntKind) (a b : Int) : (eqGuard op t x y (.int k a) (.int k' b)).run P w = .ok () w := by
  unfold eqGuard; split <;> rfl
theorem run_eqGuard_str (op : BinOp) (t : TypeId) (x y : Operand) (a b : ByteArray) : (eqGuard op t x y (.string a) (.string b)).run P w = .ok () w := by
  unfold eqGuard; split <;> rfl
theorem run_eqGuard_bool (op : BinOp) (t : TypeId) (x y : Operand) (a b : Bool) : (eqGuard op t x y (.bool a) (.bool b)).run P w = .ok () w := by
  unfold eqGuard; split <;> rfl
theorem run_equal_bool {t : TypeId} (h : P.underlying t = some .bool) (a b : Bool) : (Op.equal t (.bool a) (.bool b)).run P w = .ok (a == b) w := by
  have : Op.equal t (.bool a) (.bool b) = Op.equalIn (9999 + 1) t (.bool a) (.bool b) := rfl
  rw [this, Op.equalIn, Sem.run_bind, run_underlying h]
  rfl
theorem bin_ok {c : Cfg} (hcfg : CfgOk c P) {op : BinOp} {t : TypeId} {x y : Operand} {dx dy d : D} {u v : Value} (hx : TVt w X S dx u) (hy : TVt w X S dy v) (h : binD c t op dx dy = some d) :
    ∃ r, (∀ w : World, (do eqGuard op t x y u v; binOp op t u v : Sem Value).run P w = .ok r w) ∧ TVt w X S d r := by
  cases dx with
  | int k a =>
    cases dy with
    | int k' b =>
      have h1 := tv_int hx; have h2 := tv_int hy
      subst h1; subst h2
      simp only [Sem.run_bind, run_eqGuard_int, Result.andThen_ok]
      cases op <;> simp only [binD] at h
      case shl =>
        simp only [shiftBin] at h
        split at h
        · simp at h
        · rename_i hb
          simp only [Option.some.injEq] at h
          exact ⟨_, by intro w; simp [binOp, Op.shift, hb]; rfl, by subst h; rfl⟩
      case shr =>
        simp only [shiftBin] at h
        split at h
        · simp at h
        · rename_i hb
          simp only [Option.some.injEq] at h
          exact ⟨_, by intro w; simp [binOp, Op.shift, hb]; rfl, by subst h; rfl⟩
      case quo | rem =>
        split at h
        case isFalse => simp at h
        rename_i hk
        subst hk
        simp only [intBin] at h
        split at h
        · simp at h
        · rename_i hb
          simp only [Option.some.injEq] at h
          exact ⟨_, by intro w; simp [binOp, Op.intDiv, hb]; rfl, by subst h; rfl⟩
      all_goals
        split at h
        case isFalse => simp at h
        rename_i hk
        subst hk
        simp only [intBin] at h
      all_goals
        first
        | (simp at h; done)
        | (simp only [Option.some.injEq] at h
           exact ⟨_, by intro w; simp [binOp, Op.intArith, Op.intBits, Op.intCmp]; rfl, by subst h; rfl⟩)
    | _ => simp [binD] at h
  | str a =>
    cases dy with
    | str b =>
      have h1 := tv_str hx; have h2 := tv_str hy
      subst h1; subst h2
      simp only [Sem.run_bind, run_eqGuard_str, Result.andThen_ok]
      simp only [binD] at h
      cases op <;> simp only [strBin] at h
      case add =>
        split at h
        case isFalse => simp at h
        rename_i hs
        simp only [Option.some.injEq] at h
        have hs' : ¬ (((a.size + b.size : Nat) : Int) > IntKind.i64.max) := by
          have : IntKind.i64.max = 9223372036854775807 := by decide
          rw [this]; omega
        exact ⟨.string (a ++ b), by intro w; simp only [binOp, Op.stringOp]; rw [if_neg hs']; rfl, by subst h; rfl⟩
      all_goals
        first
        | (simp at h; done)
        | (simp only [Option.some.injEq] at h
           exact ⟨_, by intro w; simp [binOp, Op.stringOp]; rfl, by subst h; rfl⟩)
    | _ => simp [binD] at h
  | bool a =>
    cases dy with
    | bool b =>
      have h1 := tv_bool hx; have h2 := tv_bool hy
      subst h1; subst h2
      simp only [Sem.run_bind, run_eqGuard_bool, Result.andThen_ok]
      simp only [binD] at h
      split at h
      case h_2 => simp at h
      rename_i hty
      obtain ⟨dd, h3, h4⟩ := (hcfg.ty t _ hty).desc
      simp only [TyD] at h4
      subst h4
      cases op <;> simp only [boolBin] at h
      all_goals
        first
        | (simp at h; done)
        | (simp only [Option.some.injEq] at h
           exact ⟨_, by intro w; simp only [binOp, Sem.run_bind, run_equal_bool h3, Result.andThen_ok, Sem.run_pure]; rfl, by subst h; rfl⟩)
    | _ => simp [binD] at h
  | _ => simp [binD] at h
theorem un_ok {op : UnOp} {dx d : D} {u : Value} (hx : TVt w X S dx u) (h : unD op dx = some d) : ∃ r, (∀ w : World, (Op.unary op u).run P w = .ok r w) ∧ TVt w X S d r := by
  cases op <;> cases dx <;> simp only [unD] at h <;> first | (simp at h; done) | skip
  · have := tv_int hx
    subst this
    simp only [Option.some.injEq] at h
    exact ⟨_, by intro w; simp [Op.unary, Op.intArith]; rfl, by subst h; simp [TVt, TVa, TVc, Ext]⟩
  · have := tv_bool hx
    subst this
    simp only [Option.some.injEq] at h
    exact ⟨_, by intro w; simp [Op.unary]; rfl, by subst h; rfl⟩
theorem extract_ok {ds : List D} {d : D} {u : Value} {i : Nat} (hx : TVt w X S (.tup ds) u) (h : ds[i]? = some d) : ∃ r, (∀ w : World, (Instr.extract u i).run P w = .ok r w) ∧ TVt w X S d r := by
  obtain ⟨us, rfl, ha⟩ := hx
  obtain ⟨r, hr, ht⟩ := ha.get h
  have hr' : us[i]? = some r := by simpa using hr
  exact ⟨r, by intro w; simp [Instr.extract, hr'], tvt_of_tva ht⟩
end
theorem live_at {C : Ctx} {w : World} {S : List (Nat × RT)} {st : St} (hrt : RtEq st.rt S) (hm : Mem C w S []) {r : Nat} {q : List Nat} (h : live st r q = true) {i : Nat} {u : Value} (hu : TVt w (Free C w S []) S (.ptr r q i) u) :
    ∃ R b off, lk S r = some R ∧ addrT R.box R.cs q = some (b, off) ∧ u = .pointer (some ⟨b, off + i, none⟩) := by
  unfold live at h
  split at h
  case h_2 => simp at h
  rename_i x xs hcs
  obtain ⟨R, l, hr, hl, he⟩ := cells_er st S hrt hcs
  have hp := hu R hr
  obtain ⟨b, off, lim, h1, _⟩ := mem_at hm hr hl (by rintro rfl; simp [ersT] at he) hp.1
  exact ⟨R, b, off, hr, h1, hp.2 b off h1⟩
theorem ptr_mk {w : World} {X : Bool → Nat → Prop} {S : List (Nat × RT)} {r : Nat} {q : List Nat} {i j : Nat} {u : Value} {R : RT} {b off : Nat} (hu : TVt w X S (.ptr r q i) u) (hr : lk S r = some R) (ha : addrT R.box R.cs q = some (b, off)) : TVt w X S (.ptr r q j) (.pointer (some ⟨b, off + j, none⟩)) := by
  intro R' hR'
  refine ⟨(hu R' hR').1, fun b' off' ha' => ?_⟩
  rw [hr, Option.some.injEq] at hR'
  subst hR'
  rw [ha, Option.some.injEq, Prod.mk.injEq] at ha'
  obtain ⟨rfl, rfl⟩ := ha'
  rfl
section
variable {P : Program} {c : Cfg} (hcfg : CfgOk c P) {w : World} {C : Ctx} {S : List (Nat × RT)} {st : St} (hrt : RtEq st.rt S) (hm : Mem C w S [])
include hcfg hrt hm
theorem fieldAddr_ok {s : TypeId} {offs szs : List Nat} {sz by_ : Nat} {z : List D} {f k : Nat} {d d' : D} {u : Value} (ht : c.ty s = some ⟨.struct offs szs, sz, by_, z⟩) (hk : offs[f]? = some k) (hd : TVt w (Free C w S []) S d u)
    (h : fieldD st k d = some d') : ∃ r, (∀ w : World, (Instr.fieldAt s u f).run P w = .ok r w) ∧ TVt w (Free C w S []) S d' r := by
  have hty := hcfg.ty s _ ht
  obtain ⟨dd, h1, h2⟩ := hty.desc
  obtain ⟨fs, rfl, h3, _, h4⟩ := h2
  have hf : ∃ fl, fs[f]? = some fl ∧ fl.offset = k := by
    rw [h3] at hk
    simp only [List.getElem?_map] at hk
    cases hx : fs.toList[f]? with
    | none => simp [hx] at hk
    | some fl => simp only [hx, Option.map_some, Option.some.injEq] at hk; exact ⟨fl, by simpa using hx, hk⟩
  obtain ⟨fl, hfl, rfl⟩ := hf
  obtain ⟨inf, hi, hz, _⟩ := h4 f fl (by simpa using hfl)
  have key : ∀ (A : Addr) (w : World), (Instr.fieldAt s (.pointer (some A)) f).run P w = .ok (.pointer (some (A.add fl.offset))) w := fun A w => by
    simp [Instr.fieldAt, run_underlying h1, hfl, Instr.sureAddr, fieldPlace, run_sz hi, hz]
  cases d with
  | ptr r q i =>
    simp only [fieldD] at h
    split at h
    case isFalse => simp at h
    rename_i hl
    simp only [Option.some.injEq] at h
    subst h
    obtain ⟨R, b, off, hR, ha, rfl⟩ := live_at hrt hm hl hd
    refine ⟨_, key _, ?_⟩
    rw [add_mk, Nat.add_assoc]
    exact ptr_mk hd hR ha
  | rptr cs i =>
    simp only [fieldD, Option.some.injEq] at h
    subst h
    obtain ⟨b, off, cc, e, fz, us, rfl, h5⟩ := hd
    exact ⟨_, key _, b, off, cc, e, fz, us, by rw [add_mk, Nat.add_assoc], h5⟩
  | _ => simp [fieldD] at h
omit hcfg in
theorem nilCheck_ok {d d' : D} {u : Value} (hd : TVt w (Free C w S []) S d u) (h : (match d with | .ptr r q i => if live st r q then some (.ptr r q i) else none | .rptr cs i => some (.rptr cs i) | _ => none : Option D) = some d') :
    ∃ A, u = .pointer (some A) ∧ d' = d := by
  cases d with
  | ptr r q i =>
    simp only at h
    split at h
    case isFalse => simp at h
    rename_i hl
    obtain ⟨R, b, off, hR, ha, rfl⟩ := live_at hrt hm hl hd
    exact ⟨_, rfl, (Option.some.inj h).symm⟩
  | rptr cs i =>
    obtain ⟨b, off, cc, e, fz, us, rfl, h5⟩ := hd
    exact ⟨_, rfl, (Option.some.inj h).symm⟩
  | _ => simp at h
end
end Go.Proofs.Ytkejckoefjonjaa
namespace Go.Proofs.Ytkejckoefjonjaa
section
variable {P : Program} {C : Ctx} {w : World} {S : List (Nat × RT)} {st : St} {H : List T}
theorem sat_at (hm : Mem C w S H) {r : Nat} {R : RT} {q : List Nat} {l : List T} {o : Nat} {t : T} (hr : lk S r = some R) (hc : cellsT R.cs q = some l) (ho : l[o]? = some t) {g : Option Bool} {s n : Nat} {cs : List D} (he : t.er = .sl g s n cs) :
    SatT w (Free C w S H) t := by
  obtain ⟨_, h2⟩ := hm.root r R hr
  cases q with
  | nil =>
    simp only [cellsT, Option.some.injEq] at hc
    subst hc
    have := h2 _ (List.mem_of_getElem? ho)
    cases t with
    | own s n cap a xs => exact this
    | v d u =>
      rcases this with h3 | ⟨_, h3⟩
      · exact h3
      · simp only [T.er] at he
        simp only [SatT]
        rw [he] at h3 ⊢
        exact h3
  | cons p q =>
    rw [cellsT] at hc
    cases hp : R.cs[p]? with
    | none => simp [hp] at hc
    | some x =>
      cases x with
      | v d u => simp [hp] at hc
      | own s n cap a xs =>
        simp only [hp] at hc
        have hs : SatT w (Free C w S H) (.own s n cap a xs) := h2 _ (List.mem_of_getElem? hp)
        simp only [SatT] at hs
        exact satL_get (sat_cells hs.2.2.2 hc) ho
def Look (w : World) (X : Bool → Nat → Prop) (d : D) (u : Value) : Prop := Ext w X d u ∨ ∃ t : T, d = t.er ∧ u = t.val ∧ SatT w X t
structure SlOk (w : World) (X : Bool → Nat → Prop) (s n : Nat) (cs : List D) (u : Value) : Prop where
  ok : ∃ base cap, u = .slice base n cap ∧ n ≤ cap ∧ cs.length = n * s ∧ (cs = [] ∨ ∃ b off c e fz us, base = some ⟨b, off, none⟩ ∧ w.heap[b]? = some (.cells c e fz) ∧ All2 (Look w X) cs us ∧ ∀ j v, us[j]? = some v → c[off + j]? = some v)
theorem sl_of_sat {X : Bool → Nat → Prop} {t : T} (h : SatT w X t) {g : Option Bool} {s n : Nat} {cs : List D} (he : t.er = .sl g s n cs) : SlOk w X s n cs t.val := by
  cases t with
  | v d u =>
    simp only [SatT] at h
    simp only [T.er] at he
    rw [he] at h
    cases g with
    | none => simp [Ext] at h
    | some g =>
      simp only [Ext] at h
      obtain ⟨base, cap, us, rfl, h1, h2, h3, h4⟩ := h
      refine ⟨base, cap, rfl, h1, h2, ?_⟩
      rcases h4 with h4 | ⟨k, off, c, e, fz, h5, h6, h7, h8⟩
      · exact .inl h4
      · exact .inr ⟨k, off, c, e, fz, us, h5, h7, ((extL_all2 cs us).1 h3).mono (fun _ _ h => .inl h), h8⟩
  | own s' n' cap a ts =>
    simp only [SatT] at h
    simp only [T.er, D.sl.injEq] at he
    obtain ⟨_, rfl, rfl, rfl⟩ := he
    obtain ⟨h1, h2, h3, h4⟩ := h
    refine ⟨a.map fun p => ⟨p.1, p.2, none⟩, cap, rfl, h1, by rw [ersT_len]; exact h2, ?_⟩
    cases a with
    | none =>
      left
      have : ts.length = 0 := by rw [h2, h3.1]; simp
      simp [List.length_eq_zero_iff.1 this, ersT]
    | some p =>
      obtain ⟨b, off⟩ := p
      obtain ⟨c, e, fz, h5, _, _, h6⟩ := h3
      refine .inr ⟨b, off, c, e, fz, valsT ts, rfl, h5, ?_, h6⟩
      refine all2_of_get (by simp [ersT_len, valsT_len]) (fun i d u hd hu => ?_)
      rw [ersT_get] at hd
      rw [valsT_get] at hu
      cases hx : ts[i]? with
      | none => simp [hx] at hd
      | some t =>
        simp only [hx, Option.map_some, Option.some.injEq] at hd hu
        exact .inr ⟨t, hd.symm, hu.symm, satL_get h4 hx⟩
theorem trim_ok {X : Bool → Nat → Prop} {x : Option (Nat × Nat)} {t : T} {u : Value} {g : Option Bool} {s n : Nat} {cs : List D} (he : t.er = .sl g s n cs) (hr : RefOk x t u) (h : SlOk w X s n cs t.val) : SlOk w X s (trim x s n cs).1 (trim x s n cs).2 u := by
  unfold RefOk at hr
  rw [he] at hr
  simp only [sn] at hr
  cases x with
  | none => simp only at hr; subst hr; exact h
  | some p =>
    obtain ⟨l, m⟩ := p
    simp only at hr
    obtain ⟨h1, base, C, k, h2, h3, rfl, h4⟩ := hr
    obtain ⟨base', cap, h5, h6, h7, h8⟩ := h.ok
    rw [h2] at h5
    simp only [Value.slice.injEq] at h5
    obtain ⟨rfl, _, rfl⟩ := h5
    have hlen : ((cs.drop (l * s)).take (m * s)).length = m * s := by
      rw [List.length_take, List.length_drop, h7]
      have : l * s + m * s ≤ n * s := by rw [← Nat.add_mul]; exact Nat.mul_le_mul_right _ h1
      omega
    refine ⟨_, _, rfl, (by show m ≤ C - l; omega), hlen, ?_⟩
    by_cases hms : m * s = 0
    · left
      have h9 : ((cs.drop (l * s)).take (m * s)).length = 0 := by rw [hlen]; exact hms
      exact List.length_eq_zero_iff.1 h9
    · right
      rcases h8 with h8 | ⟨b, off, c, e, fz, us, rfl, h10, h11, h12⟩
      · exfalso
        subst h8
        simp at hlen
        omega
      · have hk : k = l := by
          rcases h4 with h4 | h4
          · exfalso
            have : m ≠ 0 := fun e => hms (by simp [e])
            omega
          · exact h4
        subst hk
        refine ⟨b, off + k * s, c, e, fz, (us.drop (k * s)).take (m * s), by simp [add_mk], h10, (h11.drop _).take _, fun j v hj => ?_⟩
        rw [List.getElem?_take] at hj
        split at hj
        · rw [List.getElem?_drop] at hj
          rw [Nat.add_assoc]; exact h12 _ _ hj
        · simp at hj
theorem sl_ok (hrt : RtEq st.rt S) (hm : Mem C w S H) {d : D} {u : Value} (hd : TVt w (Free C w S H) S d u) {g : Option Bool} {s n : Nat} {cs : List D} (h : st.sl? d = some (g, s, n, cs)) : SlOk w (Free C w S H) s n cs u := by
  cases d with
  | nil k =>
    simp only [St.sl?, Option.some.injEq, Prod.mk.injEq] at h
    obtain ⟨_, rfl, rfl, rfl⟩ := h
    have := tv_nil hd
    subst this
    exact ⟨none, 0, rfl, Nat.le_refl _, by simp, .inl rfl⟩
  | sl b s' n' cs' =>
    simp only [St.sl?, Option.some.injEq, Prod.mk.injEq] at h
    obtain ⟨rfl, rfl, rfl, rfl⟩ := h
    cases b with
    | none => exact absurd hd (by simp [TVt, TVa, TVc, Ext])
    | some b => exact sl_of_sat (t := .v (.sl (some b) s' n' cs') u) hd rfl
  | ref r q o x =>
    simp only [St.sl?] at h
    split at h
    case h_2 => simp at h
    rename_i b s' n' cs' hc
    simp only [Option.some.injEq, Prod.mk.injEq] at h
    obtain ⟨rfl, rfl, rfl, rfl⟩ := h
    obtain ⟨R, l, t, h1, h2, h3, h4, h5⟩ := cell_st hrt hc
    exact trim_ok h5.symm (hd t h4) (sl_of_sat (sat_at hm h1 h2 h3 h5.symm) h5.symm)
  | _ => simp [St.sl?] at h
variable {c : Cfg} (hcfg : CfgOk c P)
include hcfg
theorem len_ok (hrt : RtEq st.rt S) (hm : Mem C w S H) {t : TypeId} {d d' : D} {u : Value} (hd : TVt w (Free C w S H) S d u) (h : lenD c st t d = some d') (ty : TypeId) : ∃ r, (∀ w : World, (Builtin.len_ #[t] ty #[u]).run P w = .ok r w) ∧ TVt w (Free C w S H) S d' r := by
  unfold lenD at h
  split at h
  · rename_i hty
    obtain ⟨dd, h1, h2⟩ := (hcfg.ty t _ hty).desc
    simp only [TyD] at h2
    subst h2
    have := tv_str hd
    subst this
    simp only [Option.some.injEq] at h
    subst h
    exact ⟨_, by intro w; simp [Builtin.len_, run_underlying h1]; rfl, rfl⟩
  · rename_i e hty
    obtain ⟨dd, h1, h2⟩ := (hcfg.ty t _ hty).desc
    simp only [TyD] at h2
    subst h2
    split at h
    case h_2 => simp at h
    rename_i hs
    simp only [Option.some.injEq] at h
    subst h
    obtain ⟨base, cap, rfl, _⟩ := (sl_ok hrt hm hd hs).ok
    exact ⟨_, by intro w; simp [Builtin.len_, run_underlying h1]; rfl, rfl⟩
  · simp at h
end
end Go.Proofs.Ytkejckoefjonjaa
namespace Go.Proofs.Ytkejckoefjonjaa
theorem run_index_slice {P : Program} {w : World} {t e : TypeId} {A : Addr} {n cap : Nat} {k : IntKind} {i : Int} {sz : Nat} (h : P.underlying t = some (.slice e)) (hs : (Go.sizeOf e).run P w = Result.ok sz w) (h0 : 0 ≤ i) (h1 : i < n) :
    (Instr.indexAt t (.slice (some A) n cap) (.int k i)).run P w = .ok (.pointer (some (A.add (i.toNat * sz)))) w := by
  simp [Instr.indexAt, run_underlying h, asIntOf, h0, h1, hs]
theorem run_index_array {P : Program} {w : World} {t e : TypeId} {A : Addr} {n : Nat} {k : IntKind} {i : Int} {sz : Nat} (h : P.underlying t = some (.array n e)) (hs : (Go.sizeOf e).run P w = Result.ok sz w) (h0 : 0 ≤ i) (h1 : i < n) :
    (Instr.indexAt t (.pointer (some A)) (.int k i)).run P w = .ok (.pointer (some (A.add (i.toNat * sz)))) w := by
  simp [Instr.indexAt, run_underlying h, asIntOf, h0, h1, hs, Instr.sureAddr]
theorem inRange_ok {i : Int} {n : Nat} {d : Option D} {d' : D} (h : inRange i n d = some d') : 0 ≤ i ∧ i < n ∧ d = some d' := by
  unfold inRange at h
  split at h
  · split at h
    · exact ⟨by assumption, by assumption, h⟩
    · simp at h
  · simp at h
section
variable {P : Program} {c : Cfg} (hcfg : CfgOk c P) {C : Ctx} {w : World} {S : List (Nat × RT)} {st : St} (hrt : RtEq st.rt S) (hm : Mem C w S [])
include hcfg hrt hm
theorem indexAddr_ok {t : TypeId} {d d' : D} {u : Value} {k : IntKind} {i : Int} (hd : TVt w (Free C w S []) S d u) (h : indexAddrD st c t d i = some d') :
    ∃ r, (∀ w : World, (Instr.indexAt t u (.int k i)).run P w = .ok r w) ∧ TVt w (Free C w S []) S d' r := by
  unfold indexAddrD at h
  split at h
  · rename_i e sz by_ z hty
    obtain ⟨dd, h1, h2⟩ := (hcfg.ty t _ hty).desc
    simp only [TyD] at h2
    subst h2
    split at h
    case h_2 => simp at h
    rename_i ei hei
    have hsz := fun w => (hcfg.ty e ei hei).sz w
    split at h
    · rename_i r q o x
      split at h
      · rename_i s n cs hc
        split at h
        case isFalse => simp at h
        rename_i hs
        obtain ⟨hs, hs0⟩ := hs
        subst hs
        obtain ⟨h3, h4, h5⟩ := inRange_ok h
        simp only [Option.some.injEq] at h5
        subst h5
        obtain ⟨R, l, t', h6, h7, h8, h9, h10⟩ := cell_st hrt hc
        obtain ⟨cap, a, ts, rfl, rfl⟩ := er_own h10.symm
        have hsat := sat_at hm h6 h7 h8 h10.symm
        have hr := hd _ h9
        have hpos : 0 < (trim x ei.size n (ersT ts)).1 := by omega
        simp only [SatT] at hsat
        obtain ⟨g1, g2, g3, g4⟩ := hsat
        obtain ⟨ha1, ha2⟩ := addr_app (bx := R.box) h7 h8
        have key : ∃ b off0 n' c', a = some (b, off0) ∧ u = .slice (some ⟨b, off0 + off x * ei.size, none⟩) n' c' ∧ n' = (trim x ei.size n (ersT ts)).1 := by
          cases x with
          | none =>
            simp only [RefOk, sn, T.er, T.val, hdr] at hr
            cases a with
            | none => simp only [trim] at hpos; omega
            | some p => exact ⟨p.1, p.2, n, cap, rfl, by simp [hr, off], rfl⟩
          | some p =>
            obtain ⟨l0, m⟩ := p
            simp only [RefOk, sn, T.er, T.val, hdr, Value.slice.injEq] at hr
            obtain ⟨e1, base, C0, k0, ⟨e2, _, e3⟩, e4, rfl, e5⟩ := hr
            subst e3
            simp only [trim] at hpos
            cases a with
            | none => simp only at g3; omega
            | some p =>
              simp only [Option.map_some] at e2
              subst e2
              have : k0 = l0 := by
                rcases e5 with e5 | e5
                · omega
                · exact e5
              subst this
              exact ⟨p.1, p.2, m, cap - k0, rfl, by rw [Option.map_some, add_mk]; rfl, rfl⟩
        obtain ⟨b, off0, n', c', rfl, rfl, rfl⟩ := key
        refine ⟨_, fun w => run_index_slice h1 (hsz w) h3 h4, ?_⟩
        intro R' hR'
        rw [h6, Option.some.injEq] at hR'
        subst hR'
        refine ⟨fun e => by simp at e, fun b' off' hb' => ?_⟩
        rw [ha1, Option.some.injEq, Prod.mk.injEq] at hb'
        obtain ⟨rfl, rfl⟩ := hb'
        rw [add_mk, Nat.add_mul, Nat.add_assoc]
      · rename_i g s n cs hc
        split at h
        case isFalse => simp at h
        rename_i hs
        obtain ⟨hs, hs0⟩ := hs
        subst hs
        obtain ⟨h3, h4, h5⟩ := inRange_ok h
        simp only [Option.some.injEq] at h5
        subst h5
        obtain ⟨R, l, t', h6, h7, h8, h9, h10⟩ := cell_st hrt hc
        have hsat := sat_at hm h6 h7 h8 h10.symm
        have hr := hd _ h9
        have hpos : 0 < (trim x ei.size n cs).1 := by omega
        cases t' with
        | own s' n' cap a ts => simp [T.er] at h10
        | v dd uu =>
          simp only [SatT] at hsat
          simp only [T.er] at h10
          rw [← h10] at hsat
          simp only [Ext] at hsat
          obtain ⟨base, cap, us, e1, e2, e3, e4, e5⟩ := hsat
          have hne : cs ≠ [] := by
            intro hcs
            subst hcs
            simp only [List.length_nil] at e3
            rcases Nat.mul_eq_zero.1 e3.symm with hn | hn
            · subst hn
              cases x with
              | none => simp [trim] at hpos
              | some p =>
                simp only [RefOk, sn, T.er, ← h10] at hr
                obtain ⟨e6, _⟩ := hr
                simp only [trim] at hpos; omega
            · omega
          rcases e5 with e5 | ⟨kb, off0, cc, e, fz, e6, e7, e8, e9⟩
          · exact absurd e5 hne
          · subst e6
            have key : ∃ n' c', u = .slice (some ⟨kb, off0 + off x * ei.size, none⟩) n' c' ∧ n' = (trim x ei.size n cs).1 := by
              cases x with
              | none =>
                simp only [RefOk, sn, T.er, ← h10, T.val] at hr
                exact ⟨n, cap, by simp [hr, e1, off], rfl⟩
              | some p =>
                obtain ⟨l0, m⟩ := p
                simp only [RefOk, sn, T.er, ← h10, T.val, e1, Value.slice.injEq] at hr
                obtain ⟨f1, base', C0, k0, ⟨f2, _, f3⟩, f4, rfl, f5⟩ := hr
                subst f3; subst f2
                simp only [trim] at hpos
                have : k0 = l0 := by
                  rcases f5 with f5 | f5
                  · omega
                  · exact f5
                subst this
                exact ⟨m, cap - k0, by rw [Option.map_some, add_mk]; rfl, rfl⟩
            obtain ⟨n', c', rfl, rfl⟩ := key
            refine ⟨_, fun w => run_index_slice h1 (hsz w) h3 h4, kb, off0, cc, e, fz, us, ?_, ?_, e8, e4, e9⟩
            · rw [add_mk, Nat.add_mul, Nat.add_assoc]
            · exact ⟨e7.1, e7.2.1, e7.2.2.1, fun h => by simp at h⟩
      · simp at h
    · rename_i g s n cs
      split at h
      case isFalse => simp at h
      rename_i hs
      obtain ⟨hs, hs0⟩ := hs
      subst hs
      obtain ⟨h3, h4, h5⟩ := inRange_ok h
      simp only [Option.some.injEq] at h5
      subst h5
      have hd' : Ext w (Free C w S []) (.sl (some g) ei.size n cs) u := hd
      simp only [Ext] at hd'
      obtain ⟨base, cap, us, rfl, e2, e3, e4, e5⟩ := hd'
      rcases e5 with e5 | ⟨kb, off0, cc, e, fz, rfl, e7, e8, e9⟩
      · exfalso
        subst e5
        simp only [List.length_nil] at e3
        rcases Nat.mul_eq_zero.1 e3.symm with hn | hn <;> omega
      · refine ⟨_, fun w => run_index_slice h1 (hsz w) h3 h4, kb, off0, cc, e, fz, us, by rw [add_mk], ?_, e8, e4, e9⟩
        exact ⟨e7.1, e7.2.1, e7.2.2.1, fun h => by simp at h⟩
    · simp at h
  · rename_i n e sz by_ z hty
    obtain ⟨dd, h1, h2⟩ := (hcfg.ty t _ hty).desc
    simp only [TyD] at h2
    subst h2
    split at h
    case h_2 => simp at h
    rename_i ei hei
    have hsz := fun w => (hcfg.ty e ei hei).sz w
    split at h
    · rename_i r q o
      split at h
      case isFalse => simp at h
      rename_i hl
      obtain ⟨h3, h4, h5⟩ := inRange_ok h
      simp only [Option.some.injEq] at h5
      subst h5
      obtain ⟨R, b, off0, hR, ha, rfl⟩ := live_at hrt hm hl hd
      refine ⟨_, fun w => run_index_array h1 (hsz w) h3 h4, ?_⟩
      rw [add_mk, Nat.add_assoc]
      exact ptr_mk hd hR ha
    · rename_i cs o
      obtain ⟨h3, h4, h5⟩ := inRange_ok h
      simp only [Option.some.injEq] at h5
      subst h5
      obtain ⟨b, off0, cc, e', fz, us, rfl, h6⟩ := hd
      exact ⟨_, fun w => run_index_array h1 (hsz w) h3 h4, b, off0, cc, e', fz, us, by rw [add_mk, Nat.add_assoc], h6⟩
    · simp at h
  · simp at h
end
end Go.Proofs.Ytkejckoefjonjaa
namespace Go.Proofs.Ytkejckoefjonjaa
theorem add_add (A : Addr) (i j : Nat) : (A.add i).add j = A.add (i + j) := by
  unfold Addr.add
  split <;> split <;> split <;> first | rfl | omega | simp_all [Nat.add_assoc]
theorem add_zero_map (b : Option Addr) : b.map (·.add 0) = b := by
  cases b <;> simp [Addr.add]
def Bnd (d : Option D) (u : Option Value) : Prop := (d = none ∧ u = none) ∨ ∃ k i, d = some (.int k i) ∧ u = some (.int k i)
theorem bnd_of {w : World} {X : Bool → Nat → Prop} {S : List (Nat × RT)} {d : Option D} {u : Option Value} (h : (d = none ∧ u = none) ∨ ∃ x y, d = some x ∧ u = some y ∧ TVt w X S x y) {z i : Int} (hb : bound d z = some i) : Bnd d u := by
  rcases h with h | ⟨x, y, rfl, rfl, h⟩
  · exact .inl h
  · cases x <;> simp [bound] at hb
    have := tv_int h
    subst this
    exact .inr ⟨_, _, rfl, rfl⟩
theorem run_bounds {P : Program} {w : World} {is : Bool} {len cap : Nat} {dl dh : Option D} {ul uh : Option Value} {l h : Int} (h1 : Bnd dl ul) (h2 : Bnd dh uh) (hl : bound dl 0 = some l) (hh : bound dh len = some h) (h0 : 0 ≤ l) (hlh : l ≤ h) (hhn : h ≤ len) (hcap : len ≤ cap) :
    (Instr.sliceBounds is len cap ul uh none).run P w = .ok (l.toNat, h.toNat, cap) w := by
  have e1 : 0 ≤ h := Int.le_trans h0 hlh
  have e2 : h ≤ (cap : Int) := by omega
  have e3 : l ≤ (h.toNat : Int) := by omega
  rcases h1 with ⟨rfl, rfl⟩ | ⟨k, i, rfl, rfl⟩ <;> rcases h2 with ⟨rfl, rfl⟩ | ⟨k', i', rfl, rfl⟩ <;> simp only [bound, Option.some.injEq] at hl hh <;> subst hl <;> subst hh
  · simp [Instr.sliceBounds]
  · simp [Instr.sliceBounds, Instr.sliceBound, asIntOf, e1, e2]
  · simp [Instr.sliceBounds, Instr.sliceBound, asIntOf, h0, hlh]
  · have e4 : i ≤ ((i'.toNat : Nat) : Int) := e3
    simp only [Instr.sliceBounds, Instr.sliceBound, asIntOf, Sem.run_bind, Sem.run_pure, Result.andThen_ok, Sem.run_ite]
    rw [if_pos ⟨e1, e2⟩]
    simp only [Result.andThen_ok, Sem.run_pure, Sem.run_bind, Sem.run_ite]
    rw [if_pos ⟨h0, e4⟩]
    rfl
def Opt (w : World) (X : Bool → Nat → Prop) (S : List (Nat × RT)) (d : Option D) (u : Option Value) : Prop := (d = none ∧ u = none) ∨ ∃ x y, d = some x ∧ u = some y ∧ TVt w X S x y
section
variable {P : Program} {w : World}
theorem run_slice_str {X : Bool → Nat → Prop} {S : List (Nat × RT)} {t : TypeId} (ht : P.underlying t = some .string) {s : ByteArray} {d' : D} {dl dh : Option D} {ul uh : Option Value} (hl : Opt w X S dl ul) (hh : Opt w X S dh uh) (h : sliceS s dl dh = some d') :
    ∃ r, (∀ w : World, (Instr.sliceAt t (.string s) ul uh none).run P w = .ok r w) ∧ TVt w X S d' r := by
  unfold sliceS at h
  split at h
  case h_2 => simp at h
  rename_i l0 h0 e1 e2
  split at h
  case isFalse => simp at h
  rename_i hc
  obtain ⟨i1, i2, i3⟩ := hc
  simp only [Option.some.injEq] at h
  subst h
  refine ⟨.string (s.extract l0.toNat h0.toNat), ?_, rfl⟩
  intro w
  simp only [Instr.sliceAt, Sem.run_bind, run_underlying ht, Result.andThen_ok, Instr.slice]
  simp [run_bounds (bnd_of hl e1) (bnd_of hh e2) e1 e2 i1 i2 i3 (Nat.le_refl _)]
theorem run_slice_row {t e : TypeId} (ht : P.underlying t = some (.slice e)) {sz : Nat} (hs : (Go.sizeOf e).run P w = Result.ok sz w) {base : Option Addr} {n cap : Nat} {dl dh : Option D} {ul uh : Option Value} {l h : Int} (h1 : Bnd dl ul) (h2 : Bnd dh uh) (hl : bound dl 0 = some l) (hh : bound dh n = some h) (h0 : 0 ≤ l) (hlh : l ≤ h) (hhn : h ≤ n) (hcap : n ≤ cap) :
    (Instr.sliceAt t (.slice base n cap) ul uh none).run P w = .ok (.slice (if cap = l.toNat then base else base.map (·.add (l.toNat * sz))) (h.toNat - l.toNat) (cap - l.toNat)) w := by
  simp only [Instr.sliceAt, Sem.run_bind, run_underlying ht, Result.andThen_ok, Instr.slice, run_bounds h1 h2 hl hh h0 hlh hhn hcap, hs]
  rfl
end
section
variable {P : Program} {c : Cfg} (hcfg : CfgOk c P) {C : Ctx} {w : World} {S : List (Nat × RT)} {st : St} (hrt : RtEq st.rt S) (hm : Mem C w S [])
include hrt hm
theorem sliceR_ok {t e : TypeId} (ht : P.underlying t = some (.slice e)) {sz : Nat} (hs : ∀ w, (Go.sizeOf e).run P w = Result.ok sz w) {d d' : D} {u : Value} {dl dh : Option D} {ul uh : Option Value} (hd : TVt w (Free C w S []) S d u) (hl : Opt w (Free C w S []) S dl ul) (hh : Opt w (Free C w S []) S dh uh)
    (h : sliceR st sz d dl dh = some d') : ∃ r, (∀ w : World, (Instr.sliceAt t u ul uh none).run P w = .ok r w) ∧ TVt w (Free C w S []) S d' r := by
  unfold sliceR at h
  split at h
  case h_2 => simp at h
  rename_i g s n cs hsl
  split at h
  case h_2 => simp at h
  rename_i l0 h0 e1 e2
  split at h
  case isFalse => simp at h
  rename_i hc
  obtain ⟨rfl, i1, i2, i3⟩ := hc
  have hSl := sl_ok hrt hm hd hsl
  obtain ⟨base, cap, rfl, hcap, hlen, hrow⟩ := hSl.ok
  refine ⟨_, fun w => run_slice_row ht (hs w) (bnd_of hl e1) (bnd_of hh e2) e1 e2 i1 i2 i3 hcap, ?_⟩
  have hle : l0.toNat ≤ h0.toNat ∧ h0.toNat ≤ n := by omega
  cases d with
  | nil k =>
    simp only [Option.some.injEq] at h
    subst h
    have := tv_nil hd
    simp only [Value.slice.injEq] at this
    obtain ⟨rfl, rfl, rfl⟩ := this
    have : l0.toNat = 0 ∧ h0.toNat = 0 := by omega
    rw [this.1, this.2]
    rfl
  | sl g' s' n' cs' =>
    simp only [St.sl?, Option.some.injEq, Prod.mk.injEq] at hsl
    obtain ⟨rfl, rfl, rfl, rfl⟩ := hsl
    simp only [Option.some.injEq] at h
    subst h
    cases g' with
    | none => exact absurd hd (by simp [TVt, TVa, TVc, Ext])
    | some g' =>
      have hd' : Ext w (Free C w S []) (.sl (some g') s' n' cs') (.slice base n' cap) := hd
      simp only [Ext, Value.slice.injEq] at hd'
      obtain ⟨base', cap', us, ⟨rfl, _, rfl⟩, e3, e4, e5, e6⟩ := hd'
      show Ext w (Free C w S []) (.sl (some g') s' (h0.toNat - l0.toNat) ((cs'.drop (l0.toNat * s')).take ((h0.toNat - l0.toNat) * s'))) _
      simp only [Ext]
      have hlen' : ((cs'.drop (l0.toNat * s')).take ((h0.toNat - l0.toNat) * s')).length = (h0.toNat - l0.toNat) * s' := by
        rw [List.length_take, List.length_drop, e4]
        have : l0.toNat * s' + (h0.toNat - l0.toNat) * s' ≤ n' * s' := by rw [← Nat.add_mul]; exact Nat.mul_le_mul_right _ (by omega)
        omega
      have hall := (extL_all2 cs' us).1 e5
      refine ⟨_, _, (us.drop (l0.toNat * s')).take ((h0.toNat - l0.toNat) * s'), rfl, by omega, hlen', (extL_all2 _ _).2 ((hall.drop _).take _), ?_⟩
      by_cases hz : (cs'.drop (l0.toNat * s')).take ((h0.toNat - l0.toNat) * s') = []
      · exact .inl hz
      · right
        have hpos : 0 < (h0.toNat - l0.toNat) * s' := by
          rcases Nat.eq_zero_or_pos ((h0.toNat - l0.toNat) * s') with e7 | e7
          · exact absurd (List.length_eq_zero_iff.1 (by rw [hlen', e7])) hz
          · exact e7
        rcases e6 with e6 | ⟨kb, off0, cc, ee, fz, rfl, e7, e8, e9⟩
        · subst e6; simp at hz
        · have hne : ¬ (cap = l0.toNat) := by
            intro e10
            have : h0.toNat - l0.toNat = 0 := by omega
            simp [this] at hpos
          refine ⟨kb, off0 + l0.toNat * s', cc, ee, fz, by rw [if_neg hne, Option.map_some, add_mk], e7, e8, fun j v hj => ?_⟩
          rw [List.getElem?_take] at hj
          split at hj
          · rw [List.getElem?_drop] at hj
            rw [Nat.add_assoc]; exact e9 _ _ hj
          · simp at hj
  | ref r q o y =>
    simp only [Option.some.injEq] at h
    subst h
    simp only [St.sl?] at hsl
    split at hsl
    case h_2 => simp at hsl
    rename_i g' s' n' cs' hcell
    simp only [Option.some.injEq, Prod.mk.injEq] at hsl
    obtain ⟨rfl, rfl, rfl, rfl⟩ := hsl
    intro t' ht'
    have hr := hd t' ht'
    obtain ⟨R, l, t'', h6, h7, h8, h9, h10⟩ := cell_st hrt hcell
    rw [h9, Option.some.injEq] at ht'
    subst ht'
    unfold RefOk at hr ⊢
    rw [← h10] at hr ⊢
    simp only [sn] at hr ⊢
    have hN := (sl_of_sat (sat_at hm h6 h7 h8 h10.symm) h10.symm).ok
    obtain ⟨b0, C0, f1, f2, _⟩ := hN
    cases y with
    | none =>
      simp only at hr
      simp only [trim, off, Nat.zero_add] at *
      rw [f1] at hr
      simp only [Value.slice.injEq] at hr
      obtain ⟨rfl, _, rfl⟩ := hr
      refine ⟨by omega, base, cap, if cap = l0.toNat then 0 else l0.toNat, f1, by split <;> omega, ?_, ?_⟩
      · split
        · rename_i e; simp [add_zero_map]
        · rfl
      · by_cases e : cap = l0.toNat
        · left; omega
        · right; simp [e]
    | some p =>
      obtain ⟨l1, m1⟩ := p
      simp only at hr
      obtain ⟨g1, b1, C1, k1, g2, g3, g4, g5⟩ := hr
      simp only [Value.slice.injEq] at g4
      obtain ⟨rfl, _, rfl⟩ := g4
      simp only [trim, off] at *
      rw [f1] at g2
      simp only [Value.slice.injEq] at g2
      obtain ⟨rfl, _, rfl⟩ := g2
      refine ⟨by omega, b0, C0, if C0 - l1 = l0.toNat then k1 else k1 + l0.toNat, f1, ?_, ?_, ?_⟩
      · split
        · exact g3
        · rcases g5 with g5 | g5 <;> omega
      · have e11 : C0 - (l1 + l0.toNat) = C0 - l1 - l0.toNat := by omega
        rw [e11]
        split
        · rfl
        · congr 1
          cases b0 with
          | none => rfl
          | some A => simp [add_add, Nat.add_mul]
      · by_cases e : C0 - l1 = l0.toNat
        · left; omega
        · right
          rw [if_neg e]
          rcases g5 with g5 | g5 <;> omega
  | _ => simp [St.sl?] at hsl
include hcfg
theorem slice_ok {t : TypeId} {d d' : D} {u : Value} {dl dh : Option D} {ul uh : Option Value} (hd : TVt w (Free C w S []) S d u) (hl : Opt w (Free C w S []) S dl ul) (hh : Opt w (Free C w S []) S dh uh)
    (h : sliceD c st t d dl dh = some d') : ∃ r, (∀ w : World, (Instr.sliceAt t u ul uh none).run P w = .ok r w) ∧ TVt w (Free C w S []) S d' r := by
  unfold sliceD at h
  split at h
  · rename_i hty
    obtain ⟨dd, h1, h2⟩ := (hcfg.ty t _ hty).desc
    simp only [TyD] at h2
    subst h2
    split at h
    case h_2 => simp at h
    have := tv_str hd
    subst this
    exact run_slice_str h1 hl hh h
  · rename_i e _ _ _ hty
    obtain ⟨dd, h1, h2⟩ := (hcfg.ty t _ hty).desc
    simp only [TyD] at h2
    subst h2
    split at h
    case h_2 => simp at h
    rename_i ei hei
    exact sliceR_ok hrt hm h1 (fun w => (hcfg.ty e ei hei).sz w) hd hl hh h
  · simp at h
end
end Go.Proofs.Ytkejckoefjonjaa
namespace Go.Proofs.Ytkejckoefjonjaa
def Like (t t' : T) : Prop := t'.val = t.val ∧ ∀ p, sn t'.er = some p → sn t.er = some p
theorem Like.refl (t : T) : Like t t := ⟨rfl, fun _ h => h⟩
theorem Like.trans {a b c : T} (h : Like a b) (h' : Like b c) : Like a c := ⟨h'.1.trans h.1, fun p e => h.2 p (h'.2 p e)⟩
theorem refOk_like {t t' : T} (h : Like t t') {x : Option (Nat × Nat)} {u : Value} (hr : RefOk x t u) : RefOk x t' u := by
  unfold RefOk at hr ⊢
  cases he : sn t'.er with
  | some p =>
    rw [h.2 p he] at hr
    simp only at hr ⊢
    rw [h.1]
    exact hr
  | none => trivial
theorem mod_far {q : List Nat} {o : Nat} {t' : T} : ∀ {cs cs' : List T} {q' : List Nat} {o' : Nat} {l' : List T}, modT (fun l => l.set o t') cs q = some cs' → under (q ++ [o]) (q' ++ [o']) = none → cellsT cs' q' = some l' →
    ∃ l, cellsT cs q' = some l ∧ ∀ t2, l'[o']? = some t2 → ∃ t1, l[o']? = some t1 ∧ Like t1 t2 := by
  induction q with
  | nil =>
    intro cs cs' q' o' l' hm hu hc
    simp only [modT, Option.some.injEq] at hm
    subst hm
    cases q' with
    | nil =>
      simp only [cellsT, Option.some.injEq] at hc
      subst hc
      refine ⟨cs, rfl, fun t2 h2 => ?_⟩
      simp only [List.nil_append, under] at hu
      split at hu
      · simp at hu
      · rename_i hne
        rw [List.getElem?_set_ne hne] at h2
        exact ⟨t2, h2, Like.refl _⟩
    | cons p q' =>
      simp only [List.nil_append, List.cons_append, under] at hu
      split at hu
      · simp at hu
      · rename_i hne
        rw [cellsT, List.getElem?_set_ne hne] at hc
        rw [cellsT]
        exact ⟨l', hc, fun t2 h2 => ⟨t2, h2, Like.refl _⟩⟩
  | cons p q ih =>
    intro cs cs' q' o' l' hm hu hc
    rw [modT] at hm
    cases hp : cs[p]? with
    | none => simp [hp] at hm
    | some x =>
      cases x with
      | v d u => simp [hp] at hm
      | own s n cap a xs =>
        simp only [hp] at hm
        cases hx : modT (fun l => l.set o t') xs q with
        | none => simp [hx] at hm
        | some xs' =>
          simp only [hx, Option.some.injEq] at hm
          subst hm
          obtain ⟨hlt, _⟩ := List.getElem?_eq_some_iff.1 hp
          cases q' with
          | nil =>
            simp only [cellsT, Option.some.injEq] at hc
            subst hc
            refine ⟨cs, rfl, fun t2 h2 => ?_⟩
            by_cases hpo : p = o'
            · subst hpo
              rw [List.getElem?_set_self hlt, Option.some.injEq] at h2
              subst h2
              exact ⟨_, hp, rfl, fun p h => by simpa [T.er, sn] using h⟩
            · rw [List.getElem?_set_ne hpo] at h2
              exact ⟨t2, h2, Like.refl _⟩
          | cons p' q' =>
            by_cases hpp : p = p'
            · subst hpp
              simp only [List.cons_append, under, if_true] at hu
              rw [cellsT, List.getElem?_set_self hlt] at hc
              simp only at hc
              obtain ⟨l, h1, h2⟩ := ih hx hu hc
              exact ⟨l, by rw [cellsT, hp]; exact h1, h2⟩
            · rw [cellsT, List.getElem?_set_ne hpp] at hc
              exact ⟨l', by rw [cellsT]; exact hc, fun t2 h2 => ⟨t2, h2, Like.refl _⟩⟩
theorem addr_far {q : List Nat} {o : Nat} {t' : T} : ∀ {cs cs' : List T} {q' : List Nat} {bx : Option Nat}, modT (fun l => l.set o t') cs q = some cs' → under (q ++ [o]) q' = none → addrT bx cs' q' = addrT bx cs q' := by
  induction q with
  | nil =>
    intro cs cs' q' bx hm hu
    simp only [modT, Option.some.injEq] at hm
    subst hm
    cases q' with
    | nil => rfl
    | cons p q' =>
      simp only [List.nil_append, under] at hu
      split at hu
      · simp at hu
      · rename_i hne
        rw [addrT, addrT, List.getElem?_set_ne hne]
  | cons p q ih =>
    intro cs cs' q' bx hm hu
    rw [modT] at hm
    cases hp : cs[p]? with
    | none => simp [hp] at hm
    | some x =>
      cases x with
      | v d u => simp [hp] at hm
      | own s n cap a xs =>
        simp only [hp] at hm
        cases hx : modT (fun l => l.set o t') xs q with
        | none => simp [hx] at hm
        | some xs' =>
          simp only [hx, Option.some.injEq] at hm
          subst hm
          obtain ⟨hlt, _⟩ := List.getElem?_eq_some_iff.1 hp
          cases q' with
          | nil => rfl
          | cons p' q' =>
            rw [addrT, addrT]
            by_cases hpp : p = p'
            · subst hpp
              simp only [List.cons_append, under, if_true] at hu
              rw [List.getElem?_set_self hlt, hp]
              simp only
              cases q' with
              | nil => rfl
              | cons y ys => exact ih (bx := none) hx hu
            · rw [List.getElem?_set_ne hpp]
theorem under_some {q : List Nat} : ∀ {x y : List Nat}, under q x = some y → x = q ++ y := by
  induction q with
  | nil => intro x y h; simp only [under, Option.some.injEq] at h; exact h
  | cons p q ih =>
    intro x y h
    cases x with
    | nil => simp [under] at h
    | cons z zs =>
      simp only [under] at h
      split at h
      · rename_i e; subst e; simp [ih h]
      · simp at h
theorem mod_here {q : List Nat} {o : Nat} {t' : T} {cs cs' : List T} (hm : modT (fun l => l.set o t') cs q = some cs') {l' : List T} (hc : cellsT cs' q = some l') {t2 : T} (h2 : l'[o]? = some t2) : t2 = t' := by
  obtain ⟨l, h3, h4⟩ := cells_of_mod hm
  rw [h4, Option.some.injEq] at hc
  subst hc
  obtain ⟨hlt, he⟩ := List.getElem?_eq_some_iff.1 h2
  rw [← he]; simp
theorem cells_leaf {q : List Nat} {o : Nat} {y : List Nat} {d : D} {u : Value} : ∀ {cs l : List T}, cellsT cs q = some l → l[o]? = some (.v d u) → cellsT cs (q ++ o :: y) = none := by
  induction q with
  | nil =>
    intro cs l hc ho
    simp only [cellsT, Option.some.injEq] at hc
    subst hc
    simp [cellsT, ho]
  | cons p q ih =>
    intro cs l hc ho
    rw [cellsT] at hc
    cases hp : cs[p]? with
    | none => simp [hp] at hc
    | some x =>
      cases x with
      | v d u => simp [hp] at hc
      | own s n cap a xs =>
        simp only [hp] at hc
        rw [List.cons_append, cellsT, hp]
        exact ih hc ho
theorem addr_leaf {q : List Nat} {o : Nat} {y : List Nat} {d : D} {u : Value} : ∀ {cs l : List T} {bx : Option Nat}, cellsT cs q = some l → l[o]? = some (.v d u) → addrT bx cs (q ++ o :: y) = none := by
  induction q with
  | nil =>
    intro cs l bx hc ho
    simp only [cellsT, Option.some.injEq] at hc
    subst hc
    simp [addrT, ho]
  | cons p q ih =>
    intro cs l bx hc ho
    rw [cellsT] at hc
    cases hp : cs[p]? with
    | none => simp [hp] at hc
    | some x =>
      cases x with
      | v d u => simp [hp] at hc
      | own s n cap a xs =>
        simp only [hp] at hc
        rw [List.cons_append, addrT, hp]
        simp only
        have := ih (bx := none) hc ho
        cases hq : q ++ o :: y with
        | nil => simp at hq
        | cons z zs => rw [hq] at this; exact this
structure Chg (S S' : List (Nat × RT)) (r : Nat) (q : List Nat) (o : Nat) (t t' : T) : Prop where
  ex : ∃ R cs' l, lk S r = some R ∧ cellsT R.cs q = some l ∧ l[o]? = some t ∧ modT (fun l => l.set o t') R.cs q = some cs' ∧ S' = pt S r ⟨R.box, cs'⟩
section
variable {S S' : List (Nat × RT)} {r : Nat} {q : List Nat} {o : Nat} {t t' : T} (hc : Chg S S' r q o t t')
include hc
theorem Chg.lk_ne {r' : Nat} (h : r' ≠ r) : lk S' r' = lk S r' := by
  obtain ⟨R, cs', l, h1, h2, h3, h4, rfl⟩ := hc.ex
  exact lk_pt_ne _ _ h
theorem Chg.box {r' : Nat} {R' : RT} (h : lk S' r' = some R') : ∃ R, lk S r' = some R ∧ R.box = R'.box := by
  by_cases he : r' = r
  · subst he
    obtain ⟨R, cs', l, h1, h2, h3, h4, rfl⟩ := hc.ex
    rw [lk_pt_same, Option.some.injEq] at h
    subst h
    exact ⟨R, h1, rfl⟩
  · rw [hc.lk_ne he] at h
    exact ⟨R', h, rfl⟩
theorem Chg.cell_far {r' : Nat} {q' : List Nat} {o' : Nat} (hf : r' ≠ r ∨ under (q ++ [o]) (q' ++ [o']) = none) {t2 : T} (h : cellR S' r' q' o' = some t2) : ∃ t1, cellR S r' q' o' = some t1 ∧ Like t1 t2 := by
  by_cases he : r' = r
  · subst he
    have hf : under (q ++ [o]) (q' ++ [o']) = none := by rcases hf with hf | hf <;> first | exact absurd rfl hf | exact hf
    obtain ⟨R, cs', l, h1, h2, h3, h4, rfl⟩ := hc.ex
    unfold cellR at h ⊢
    rw [lk_pt_same] at h
    rw [h1]
    simp only at h ⊢
    cases hx : cellsT cs' q' with
    | none => simp [hx] at h
    | some l' =>
      simp only [hx] at h
      obtain ⟨l1, h5, h6⟩ := mod_far h4 hf hx
      rw [h5]
      exact h6 t2 h
  · unfold cellR at h ⊢
    rw [hc.lk_ne he] at h
    exact ⟨t2, h, Like.refl _⟩
theorem Chg.cell_here {t2 : T} (h : cellR S' r q o = some t2) : t2 = t' := by
  obtain ⟨R, cs', l, h1, h2, h3, h4, rfl⟩ := hc.ex
  unfold cellR at h
  rw [lk_pt_same] at h
  simp only at h
  cases hx : cellsT cs' q with
  | none => simp [hx] at h
  | some l' =>
    simp only [hx] at h
    exact mod_here h4 hx h
theorem Chg.cell_new : cellR S' r q o = some t' := by
  obtain ⟨R, cs', l, h1, h2, h3, h4, rfl⟩ := hc.ex
  obtain ⟨l', h5, h6⟩ := cells_of_mod h4
  rw [h2, Option.some.injEq] at h5
  subst h5
  unfold cellR
  rw [lk_pt_same]
  simp only [h6]
  rw [List.getElem?_set_self (List.getElem?_eq_some_iff.1 h3).1]
theorem Chg.cell_old : cellR S r q o = some t := by
  obtain ⟨R, cs', l, h1, h2, h3, h4, rfl⟩ := hc.ex
  simp [cellR, h1, h2, h3]
theorem Chg.addr_far {r' : Nat} {q' : List Nat} (hf : r' ≠ r ∨ under (q ++ [o]) q' = none) {R' : RT} (h : lk S' r' = some R') : ∃ R, lk S r' = some R ∧ R.box = R'.box ∧ addrT R'.box R'.cs q' = addrT R.box R.cs q' := by
  by_cases he : r' = r
  · subst he
    have hf : under (q ++ [o]) q' = none := by rcases hf with hf | hf <;> first | exact absurd rfl hf | exact hf
    obtain ⟨R, cs', l, h1, h2, h3, h4, rfl⟩ := hc.ex
    rw [lk_pt_same, Option.some.injEq] at h
    subst h
    exact ⟨R, h1, rfl, addr_far h4 hf⟩
  · rw [hc.lk_ne he] at h
    exact ⟨R', h, rfl, rfl⟩
theorem Chg.fts : ∃ A B, ftS S = A ++ t.ft ++ B ∧ ftS S' = A ++ t'.ft ++ B := by
  obtain ⟨R, cs', l, h1, h2, h3, h4, rfl⟩ := hc.ex
  obtain ⟨A, B, h5, h6⟩ := fts_pt h1
  obtain ⟨A', B', h7, h8⟩ := cell_split h2 h3
  refine ⟨A ++ R.box.toList ++ A', B' ++ B, ?_, ?_⟩
  · rw [h5, RT.ft, h7]; simp
  · rw [h6, RT.ft, h8 t' cs' h4]; simp
theorem Chg.leaf_ref {d : D} {u : Value} (ht : t' = .v d u) {r' : Nat} {q' : List Nat} {o' : Nat} {y : Nat} {ys : List Nat} (hr : r' = r) (hy : under (q ++ [o]) (q' ++ [o']) = some (y :: ys)) : cellR S' r' q' o' = none := by
  subst hr; subst ht
  obtain ⟨R, cs', l, h1, h2, h3, h4, rfl⟩ := hc.ex
  obtain ⟨l', h5, h6⟩ := cells_of_mod h4
  rw [h2, Option.some.injEq] at h5
  subst h5
  have h7 : (l.set o (.v d u))[o]? = some (.v d u) := List.getElem?_set_self (List.getElem?_eq_some_iff.1 h3).1
  have h8 := under_some hy
  have h9 : q' = q ++ o :: (y :: ys).dropLast ∧ o' = (y :: ys).getLast (by simp) := by
    have e1 : q' ++ [o'] = (q ++ o :: (y :: ys).dropLast) ++ [(y :: ys).getLast (by simp)] := by
      rw [h8]; simp only [List.append_assoc, List.singleton_append, List.cons_append, List.nil_append]; rw [List.dropLast_concat_getLast]
    exact ⟨List.append_inj_left' e1 rfl, by have := List.append_inj_right' e1 rfl; simpa using this⟩
  unfold cellR
  rw [lk_pt_same]
  simp only
  rw [h9.1, cells_leaf h6 h7]
theorem Chg.leaf_ptr {d : D} {u : Value} (ht : t' = .v d u) {q' y : List Nat} (hy : under (q ++ [o]) q' = some y) {R' : RT} (h : lk S' r = some R') : addrT R'.box R'.cs q' = none := by
  subst ht
  obtain ⟨R, cs', l, h1, h2, h3, h4, rfl⟩ := hc.ex
  obtain ⟨l', h5, h6⟩ := cells_of_mod h4
  rw [h2, Option.some.injEq] at h5
  subst h5
  have h7 : (l.set o (.v d u))[o]? = some (.v d u) := List.getElem?_set_self (List.getElem?_eq_some_iff.1 h3).1
  rw [lk_pt_same, Option.some.injEq] at h
  subst h
  rw [under_some hy, List.append_assoc]
  exact addr_leaf h6 h7
end
end Go.Proofs.Ytkejckoefjonjaa
namespace Go.Proofs.Ytkejckoefjonjaa
section
variable {w w' : World} {X X' : Bool → Nat → Prop} {S S' : List (Nat × RT)}
theorem tvt_cases {d : D} {u : Value} (h : TVt w X S d u) : (∃ ds us, d = .tup ds ∧ u = .tuple us ∧ All2 (TVa w X S) ds us.toList) ∨ ((∀ ds, d ≠ .tup ds) ∧ TVa w X S d u) := by
  cases d <;> first | exact .inr ⟨by simp, h⟩ | (obtain ⟨us, h1, h2⟩ := h; exact .inl ⟨_, us, rfl, h1, h2⟩)
theorem tva_cases {d : D} {u : Value} (h : TVa w X S d u) : (∃ cs us, d = .agg cs ∧ u = .agg us ∧ All2 (TVc w X S) cs us.toList) ∨ (∃ f cs us, d = .fn f cs ∧ u = .func (.func f) #[] us ∧ All2 (TVc w X S) cs us.toList) ∨ ((∀ cs, d ≠ .agg cs) ∧ (∀ f cs, d ≠ .fn f cs) ∧ TVc w X S d u) := by
  cases d <;> first | exact .inr (.inr ⟨by simp, by simp, h⟩) | (obtain ⟨us, h1, h2⟩ := h; exact .inl ⟨_, us, rfl, h1, h2⟩) | (obtain ⟨us, h1, h2⟩ := h; exact .inr (.inl ⟨_, _, us, rfl, h1, h2⟩))
theorem lift_tv {f : D → D} (h : ∀ d u, TVc w X S d u → TVc w' X' S' (f d) u) {d : D} {u : Value} (hd : TVt w X S d u) : TVt w' X' S' (onT f d) u := by
  have ha : ∀ d u, TVa w X S d u → TVa w' X' S' (onA f d) u := by
    intro d u hd
    rcases tva_cases hd with ⟨cs, us, rfl, rfl, ha⟩ | ⟨g, cs, us, rfl, rfl, ha⟩ | ⟨h1, h2, h3⟩
    · exact ⟨us, rfl, ha.map f (fun _ _ => h _ _)⟩
    · exact ⟨us, rfl, ha.map f (fun _ _ => h _ _)⟩
    · have : onA f d = f d := by cases d <;> first | rfl | exact absurd rfl (h1 _) | exact absurd rfl (h2 _ _)
      rw [this]; exact tva_of_tvc (h _ _ h3)
  rcases tvt_cases hd with ⟨ds, us, rfl, rfl, hb⟩ | ⟨h1, h2⟩
  · exact ⟨us, rfl, hb.map _ (fun _ _ => ha _ _)⟩
  · have : onT f d = onA f d := by cases d <;> first | rfl | exact absurd rfl (h1 _)
    rw [this]; exact tvt_of_tva (ha _ _ h2)
theorem lk_mapT {α : Type} (f : α → α) (l : List (Nat × α)) (k : Nat) : lk (mapT f l) k = (lk l k).map f := by
  induction l with
  | nil => rfl
  | cons e t ih =>
    obtain ⟨j, v⟩ := e
    simp only [mapT, lk]
    split <;> simp [ih]
theorem lift_tms {f : D → D} (h : ∀ d u, TVc w X S d u → TVc w' X' S' (f d) u) {tm : List (Nat × D)} {vs : Array Value} (ht : TMs w X S tm vs) : TMs w' X' S' (mapT (onT f) tm) vs := by
  intro t
  rw [lk_mapT]
  have := ht t
  cases hx : lk tm t with
  | none => simpa [hx] using tvt_undef _
  | some d => rw [hx] at this; simpa using lift_tv h this
theorem lift_id (h : ∀ d u, TVc w X S d u → TVc w' X' S' d u) {d : D} {u : Value} (hd : TVt w X S d u) : TVt w' X' S' d u := by
  have ha : ∀ d u, TVa w X S d u → TVa w' X' S' d u := by
    intro d u hd
    rcases tva_cases hd with ⟨cs, us, rfl, rfl, ha⟩ | ⟨g, cs, us, rfl, rfl, ha⟩ | ⟨h1, h2, h3⟩
    · exact ⟨us, rfl, ha.mono h⟩
    · exact ⟨us, rfl, ha.mono h⟩
    · exact tva_of_tvc (h _ _ h3)
  rcases tvt_cases hd with ⟨ds, us, rfl, rfl, hb⟩ | ⟨h1, h2⟩
  · exact ⟨us, rfl, hb.mono ha⟩
  · exact tvt_of_tva (ha _ _ h2)
theorem lift_tms_id (h : ∀ d u, TVc w X S d u → TVc w' X' S' d u) {tm : List (Nat × D)} {vs : Array Value} (ht : TMs w X S tm vs) : TMs w' X' S' tm vs := fun t => lift_id h (ht t)
end
def Stays (w w' : World) (X X' : Bool → Nat → Prop) : Prop := ∀ b k, X b k → X' b k ∧ w'.heap[k]? = w.heap[k]?
theorem Stays.refl (w : World) (X : Bool → Nat → Prop) : Stays w w X X := fun _ _ h => ⟨h, rfl⟩
section
variable {w w' : World} {X X' : Bool → Nat → Prop} {S S' : List (Nat × RT)} (hX : Stays w w' X X')
include hX
theorem rptr_stays {cs : List D} {o : Nat} {u : Value} (h : TVc w X S (.rptr cs o) u) : TVc w' X' S' (.rptr cs o) u := by
  obtain ⟨b, off, c, e, fz, us, h1, h2, h3, h4, h5⟩ := h
  exact ⟨b, off, c, e, fz, us, h1, (hX _ _ h2).1, by rw [(hX _ _ h2).2]; exact h3, extL_move hX _ _ h4, h5⟩
theorem plain_stays {d : D} (hr : ∀ r q o x, d ≠ .ref r q o x) (hp : ∀ r q o, d ≠ .ptr r q o) (hq : ∀ cs o, d ≠ .rptr cs o) {u : Value} (h : TVc w X S d u) : TVc w' X' S' d u := by
  cases d with
  | ref r q o x => exact absurd rfl (hr _ _ _ _)
  | ptr r q o => exact absurd rfl (hp _ _ _)
  | rptr cs o => exact absurd rfl (hq _ _)
  | _ => exact ext_move hX _ _ h
theorem tvc_leaf {r : Nat} {q : List Nat} {o : Nat} {t : T} {d0 : D} {u0 : Value} (hc : Chg S S' r q o t (.v d0 u0)) (hn : sn (leafD d0) = none ∨ Like t (.v d0 u0)) {d : D} {u : Value} (h : TVc w X S d u) : TVc w' X' S' d u := by
  cases d with
  | ref r' q' o' x =>
    intro t2 h2
    by_cases hf : r' ≠ r ∨ under (q ++ [o]) (q' ++ [o']) = none
    · obtain ⟨t1, h1, hl⟩ := hc.cell_far hf h2
      exact refOk_like hl (h t1 h1)
    · have hr : r' = r := Classical.byContradiction fun e => hf (.inl e)
      cases hu : under (q ++ [o]) (q' ++ [o']) with
      | none => exact absurd (.inr hu) hf
      | some y =>
        cases y with
        | nil =>
          have e1 := under_some hu
          simp only [List.append_nil] at e1
          obtain ⟨rfl, e2⟩ := List.append_inj' e1 rfl
          simp only [List.cons.injEq, and_true] at e2
          subst e2; subst hr
          have := hc.cell_here h2
          subst this
          rcases hn with hn | hn
          · unfold RefOk
            simp only [T.er, hn]
          · exact refOk_like hn (h t hc.cell_old)
        | cons y ys => rw [hc.leaf_ref rfl hr hu] at h2; simp at h2
  | ptr r' q' o' =>
    intro R' hR'
    obtain ⟨R, h1, h2⟩ := hc.box hR'
    refine ⟨fun e => by rw [← h2]; exact (h R h1).1 e, fun b off ha => ?_⟩
    by_cases hf : r' ≠ r ∨ under (q ++ [o]) q' = none
    · obtain ⟨R1, h3, h4, h5⟩ := hc.addr_far hf hR'
      rw [h3, Option.some.injEq] at h1
      subst h1
      exact (h _ h3).2 b off (h5 ▸ ha)
    · have hr : r' = r := Classical.byContradiction fun e => hf (.inl e)
      subst hr
      cases hu : under (q ++ [o]) q' with
      | none => exact absurd (.inr hu) hf
      | some y => rw [hc.leaf_ptr rfl hu hR'] at ha; simp at ha
  | rptr cs o' => exact rptr_stays hX h
  | _ => exact plain_stays hX (by simp) (by simp) (by simp) h
theorem tvc_kill {r : Nat} {q : List Nat} {o : Nat} {t t' : T} (hc : Chg S S' r q o t t') {ex : Bool} (hl : ex = false → Like t t') {d : D} {u : Value} (h : TVc w X S d u) : TVc w' X' S' (killP r q o ex d) u := by
  cases d with
  | ref r' q' o' x =>
    simp only [killP]
    split
    · rename_i hr
      subst hr
      cases hu : under (q ++ [o]) (q' ++ [o']) with
      | none =>
        simp only
        intro t2 h2
        obtain ⟨t1, h1, hl⟩ := hc.cell_far (.inr hu) h2
        exact refOk_like hl (h t1 h1)
      | some y =>
        cases y with
        | nil =>
          cases ex with
          | true => simp [TVc, Ext]
          | false =>
            simp only [Bool.false_eq_true, if_false]
            intro t2 h2
            have e1 := under_some hu
            simp only [List.append_nil] at e1
            obtain ⟨rfl, e2⟩ := List.append_inj' e1 rfl
            simp only [List.cons.injEq, and_true] at e2
            subst e2
            have := hc.cell_here h2
            subst this
            exact refOk_like (hl rfl) (h t hc.cell_old)
        | cons y ys => simp [TVc, Ext]
    · rename_i hr
      intro t2 h2
      obtain ⟨t1, h1, hl⟩ := hc.cell_far (.inl hr) h2
      exact refOk_like hl (h t1 h1)
  | ptr r' q' o' =>
    simp only [killP]
    split
    · rename_i hr
      subst hr
      cases hu : under (q ++ [o]) q' with
      | none =>
        simp only
        intro R' hR'
        obtain ⟨R1, h3, h4, h5⟩ := hc.addr_far (.inr hu) hR'
        exact ⟨fun e => by rw [← h4]; exact (h R1 h3).1 e, fun b off ha => (h R1 h3).2 b off (h5 ▸ ha)⟩
      | some y => simp [TVc, Ext]
    · rename_i hr
      intro R' hR'
      obtain ⟨R1, h3, h4, h5⟩ := hc.addr_far (.inl hr) hR'
      exact ⟨fun e => by rw [← h4]; exact (h R1 h3).1 e, fun b off ha => (h R1 h3).2 b off (h5 ▸ ha)⟩
  | rptr cs o' => exact rptr_stays hX h
  | _ => simp only [killP]; exact plain_stays hX (by simp) (by simp) (by simp) h
theorem tvc_root {r : Nat} {R : RT} (hS : S' = pt S r R) {d : D} {u : Value} (h : TVc w X S d u) : TVc w' X' S' (killR r d) u := by
  subst hS
  cases d with
  | ref r' q' o' x =>
    simp only [killR]
    split
    · simp [TVc, Ext]
    · rename_i hr
      intro t2 h2
      unfold cellR at h2
      rw [lk_pt_ne _ _ hr] at h2
      exact h t2 h2
  | ptr r' q' o' =>
    simp only [killR]
    split
    · simp [TVc, Ext]
    · rename_i hr
      intro R' hR'
      rw [lk_pt_ne _ _ hr] at hR'
      exact h R' hR'
  | rptr cs o' => exact rptr_stays hX h
  | _ => simp only [killR]; exact plain_stays hX (by simp) (by simp) (by simp) h
theorem tvc_box {r : Nat} {R0 R : RT} (h0 : lk S r = some R0) (hb : R.box = R0.box) (hS : S' = pt S r R) {d : D} {u : Value} (h : TVc w X S d u) : TVc w' X' S' (killB r d) u := by
  subst hS
  cases d with
  | ref r' q' o' x =>
    simp only [killB]
    split
    · simp [TVc, Ext]
    · rename_i hr
      intro t2 h2
      unfold cellR at h2
      rw [lk_pt_ne _ _ hr] at h2
      exact h t2 h2
  | ptr r' q' o' =>
    cases q' with
    | nil =>
      simp only [killB]
      intro R' hR'
      by_cases hr : r' = r
      · subst hr
        rw [lk_pt_same, Option.some.injEq] at hR'
        subst hR'
        refine ⟨fun e => by rw [hb]; exact (h R0 h0).1 e, fun b off ha => (h R0 h0).2 b off ?_⟩
        simp only [addrT] at ha ⊢
        rw [← hb]; exact ha
      · rw [lk_pt_ne _ _ hr] at hR'
        exact h R' hR'
    | cons p q' =>
      simp only [killB]
      split
      · simp [TVc, Ext]
      · rename_i hr
        intro R' hR'
        rw [lk_pt_ne _ _ hr] at hR'
        exact h R' hR'
  | rptr cs o' => exact rptr_stays hX h
  | _ => simp only [killB]; exact plain_stays hX (by simp) (by simp) (by simp) h
theorem tvc_fewer (hS : ∀ r R, lk S' r = some R → lk S r = some R) {d : D} {u : Value} (h : TVc w X S d u) : TVc w' X' S' d u := by
  cases d with
  | ref r' q' o' x =>
    intro t2 h2
    unfold cellR at h2
    cases hr : lk S' r' with
    | none => simp [hr] at h2
    | some R =>
      refine h t2 ?_
      unfold cellR
      rw [hS _ _ hr]
      rw [hr] at h2
      exact h2
  | ptr r' q' o' => exact fun R' hR' => h R' (hS _ _ hR')
  | rptr cs o' => exact rptr_stays hX h
  | _ => exact plain_stays hX (by simp) (by simp) (by simp) h
end
theorem exT_leaf (b : Bool) (d : D) : exT b (leafD d) = leafD d := by
  cases d with
  | sl g s n cs => cases g <;> simp [leafD, exT]
  | _ => simp [leafD, exT]
mutual
theorem ext_of_sat {w : World} {X X' : Bool → Nat → Prop} (hX : ∀ b k, X b k → X' b k) (b : Bool) : ∀ (t : T), SatT w X t → (∀ k ∈ t.ft, X' b k) → Ext w X' (exT b t.er) t.val
  | .v d u, hs, _ => by
    simp only [SatT] at hs
    have h2 : Ext w X' (leafD d) u := ext_move (fun b k h => ⟨hX b k h, rfl⟩) _ _ hs
    have h3 : exT b (T.v d u).er = leafD d := exT_leaf b d
    rw [h3]; exact h2
  | .own s n cap a cs, hs, hf => by
    simp only [SatT] at hs
    obtain ⟨h1, h2, h3, h4⟩ := hs
    simp only [T.er, exT, Ext, T.val, hdr]
    have h5 := extL_of_sat hX b cs h4 (fun k hk => hf k (by simp [T.ft, hk]))
    refine ⟨_, cap, valsT cs, rfl, h1, ?_, h5, ?_⟩
    · have := ((extL_all2 _ _).1 h5).len
      rw [this, valsT_len, h2]
    · cases a with
      | none =>
        left
        have : cs.length = 0 := by rw [h2, h3.1]; simp
        simp [List.length_eq_zero_iff.1 this, ersT, exTL]
      | some p =>
        obtain ⟨k, off⟩ := p
        obtain ⟨c, e, fz, h6, _, _, h7⟩ := h3
        exact .inr ⟨k, off, c, e, fz, rfl, hf k (by simp [T.ft, ftA]), h6, h7⟩
theorem extL_of_sat {w : World} {X X' : Bool → Nat → Prop} (hX : ∀ b k, X b k → X' b k) (b : Bool) : ∀ (ts : List T), SatL w X ts → (∀ k ∈ ftsT ts, X' b k) → ExtL w X' (exTL b (ersT ts)) (valsT ts)
  | [], _, _ => by simp [ersT, exTL, valsT, ExtL]
  | t :: ts, hs, hf => by
    simp only [SatL] at hs
    simp only [ersT, exTL, valsT, ExtL]
    exact ⟨t.val, valsT ts, rfl, ext_of_sat hX b t hs.1 (fun k hk => hf k (by simp [ftsT, hk])), extL_of_sat hX b ts hs.2 (fun k hk => hf k (by simp [ftsT, hk]))⟩
end
theorem exTL_drop (b : Bool) : ∀ (ds : List D) (k : Nat), exTL b (ds.drop k) = (exTL b ds).drop k
  | [], k => by simp [exTL]
  | d :: ds, 0 => rfl
  | d :: ds, k + 1 => by simp [exTL, exTL_drop b ds k]
theorem exTL_take (b : Bool) : ∀ (ds : List D) (k : Nat), exTL b (ds.take k) = (exTL b ds).take k
  | [], k => by simp [exTL]
  | d :: ds, 0 => rfl
  | d :: ds, k + 1 => by simp [exTL, exTL_take b ds k]
theorem ext_trim {w : World} {X : Bool → Nat → Prop} {g : Bool} {s n : Nat} {cs : List D} {l m k C : Nat} {base : Option Addr} (h : Ext w X (.sl (some g) s n cs) (.slice base n C)) (h1 : l + m ≤ n) (h2 : k ≤ C) (h3 : C - l = 0 ∨ k = l) :
    Ext w X (.sl (some g) s m ((cs.drop (l * s)).take (m * s))) (.slice (base.map (·.add (k * s))) m (C - l)) := by
  simp only [Ext, Value.slice.injEq] at h ⊢
  obtain ⟨base', cap', us, ⟨rfl, _, rfl⟩, e3, e4, e5, e6⟩ := h
  have hlen' : ((cs.drop (l * s)).take (m * s)).length = m * s := by
    rw [List.length_take, List.length_drop, e4]
    have : l * s + m * s ≤ n * s := by rw [← Nat.add_mul]; exact Nat.mul_le_mul_right _ h1
    omega
  have hall := (extL_all2 cs us).1 e5
  refine ⟨_, _, (us.drop (l * s)).take (m * s), ⟨rfl, trivial, rfl⟩, by omega, hlen', (extL_all2 _ _).2 ((hall.drop _).take _), ?_⟩
  by_cases hz : (cs.drop (l * s)).take (m * s) = []
  · exact .inl hz
  · right
    have hpos : 0 < m * s := by
      rcases Nat.eq_zero_or_pos (m * s) with e7 | e7
      · exact absurd (List.length_eq_zero_iff.1 (by rw [hlen', e7])) hz
      · exact e7
    rcases e6 with e6 | ⟨kb, off0, cc, ee, fz, rfl, e7, e8, e9⟩
    · subst e6; simp at hz
    · have hm0 : m ≠ 0 := fun e => by simp [e] at hpos
      have hkl : k = l := by
        rcases h3 with h3 | h3
        · omega
        · exact h3
      subst hkl
      refine ⟨kb, off0 + k * s, cc, ee, fz, by rw [Option.map_some, add_mk], e7, e8, fun j v hj => ?_⟩
      rw [List.getElem?_take] at hj
      split at hj
      · rw [List.getElem?_drop] at hj
        rw [Nat.add_assoc]; exact e9 _ _ hj
      · simp at hj
theorem ext_ref {w : World} {X X' : Bool → Nat → Prop} (hX : ∀ b k, X b k → X' b k) (b : Bool) {t : T} {g : Option Bool} {s n : Nat} {cs : List D} (he : t.er = .sl g s n cs) (hs : SatT w X t) (hf : ∀ k ∈ t.ft, X' b k) {x : Option (Nat × Nat)} {u : Value} (hr : RefOk x t u) :
    Ext w X' (exT b (.sl g s (trim x s n cs).1 (trim x s n cs).2)) u := by
  have h1 := ext_of_sat hX b t hs hf
  unfold RefOk at hr
  rw [he] at hr h1
  simp only [sn] at hr
  cases x with
  | none => simp only at hr; subst hr; exact h1
  | some p =>
    obtain ⟨l, m⟩ := p
    simp only at hr
    obtain ⟨h2, base, C, k, h3, h4, rfl, h5⟩ := hr
    rw [h3] at h1
    cases g with
    | none =>
      simp only [exT, trim] at h1 ⊢
      rw [exTL_take, exTL_drop]
      exact ext_trim h1 h2 h4 h5
    | some g =>
      simp only [exT, trim] at h1 ⊢
      exact ext_trim h1 h2 h4 h5
end Go.Proofs.Ytkejckoefjonjaa
namespace Go.Proofs.Ytkejckoefjonjaa
theorem Rel.step {C : Ctx} {H H' : List T} {w w' : World} {st st' : St} {vss : List (Array Value)} {S S' : List (Nat × RT)} (h : Rel C H w st vss S) {f : D → D} (hrt : RtEq st'.rt S') (htm : st'.tm = mapT (onT f) st.tm) (hup : st'.up = st.up.map (mapT (onT f)))
    (htv : ∀ d u, TVc w (Free C w S H) S d u → TVc w' (Free C w' S' H') S' (f d) u) (hmem : Mem C w' S' H') (hk : Kept C w' S' H') : Rel C H' w' st' vss S' := by
  refine ⟨hrt, hmem, ?_, hk⟩
  rw [htm, hup, show mapT (onT f) st.tm :: st.up.map (mapT (onT f)) = (st.tm :: st.up).map (mapT (onT f)) from rfl]
  exact h.tms.map _ (fun _ _ => lift_tms htv)
theorem Rel.step_id {C : Ctx} {H H' : List T} {w w' : World} {st st' : St} {vss : List (Array Value)} {S S' : List (Nat × RT)} (h : Rel C H w st vss S) (hrt : RtEq st'.rt S') (htm : st'.tm = st.tm) (hup : st'.up = st.up)
    (htv : ∀ d u, TVc w (Free C w S H) S d u → TVc w' (Free C w' S' H') S' d u) (hmem : Mem C w' S' H') (hk : Kept C w' S' H') : Rel C H' w' st' vss S' := by
  refine ⟨hrt, hmem, ?_, hk⟩
  rw [htm, hup]
  exact h.tms.mono (fun _ _ => lift_tms_id htv)
def GT (g : D → D) (t t1 : T) : Prop := (∃ d d1 u, t = .v d u ∧ t1 = .v d1 u ∧ leafD d1 = g (leafD d)) ∨ ((∃ s n cap a xs, t = .own s n cap a xs) ∧ t1 = t)
structure SR (g : D → D) (S S1 : List (Nat × RT)) : Prop where
  look : ∀ r R1, lk S1 r = some R1 → ∃ R, lk S r = some R ∧ R1.box = R.box ∧ All2 (GT g) R.cs R1.cs
  foot : ftS S1 = ftS S
theorem GT.val {g : D → D} {t t1 : T} (h : GT g t t1) : t1.val = t.val ∧ t1.ft = t.ft := by
  rcases h with ⟨d, d1, u, rfl, rfl, _⟩ | ⟨_, rfl⟩
  · exact ⟨rfl, rfl⟩
  · exact ⟨rfl, rfl⟩
theorem GT.vals {g : D → D} {ts ts1 : List T} (h : All2 (GT g) ts ts1) : valsT ts1 = valsT ts := by
  induction h with
  | nil => rfl
  | cons h1 _ ih => simp [valsT, h1.val.1, ih]
theorem SR.refl (S : List (Nat × RT)) : SR id S S := by
  refine ⟨fun r R1 h => ⟨R1, h, rfl, ?_⟩, rfl⟩
  refine all2_of_get rfl (fun i a b ha hb => ?_)
  rw [ha, Option.some.injEq] at hb
  subst hb
  cases a with
  | v d u => exact .inl ⟨d, d, u, rfl, rfl, rfl⟩
  | own s n cap aa xs => exact .inr ⟨⟨s, n, cap, aa, xs, rfl⟩, rfl⟩
def fT (g : D → D) : T → T
  | .v d u => .v (onA g (leafD d)) u
  | t => t
def fS (g : D → D) : List (Nat × RT) → List (Nat × RT)
  | [] => []
  | (k, R) :: t => (k, ⟨R.box, R.cs.map (fT g)⟩) :: fS g t
structure Tame (g : D → D) : Prop where
  sl : ∀ b s n cs, g (.sl b s n cs) = .sl b s n cs
  hole : ∀ s n, g (.hole s n) = .hole s n
  no : ∀ d, sn d = none → sn (g d) = none
theorem leafD_no {d : D} (h : sn d = none) : leafD d = d := by
  cases d <;> first | rfl | simp [sn] at h
theorem leafD_leafD (d : D) : leafD (leafD d) = leafD d := by
  cases d with
  | sl b s n cs => cases b <;> rfl
  | _ => rfl
theorem sn_leaf {d : D} {p : Nat × Nat} (h : sn (leafD d) = some p) : (∃ b s n cs, leafD d = .sl (some b) s n cs) ∨ ∃ s n, leafD d = .hole s n := by
  cases d with
  | sl b s n cs =>
    cases b with
    | none => simp [leafD, sn] at h
    | some b => exact .inl ⟨b, s, n, cs, rfl⟩
  | hole s n => exact .inr ⟨s, n, rfl⟩
  | _ => simp [leafD, sn] at h
theorem Tame.onA_no {g : D → D} (hg : Tame g) {d : D} (h : sn d = none) : sn (onA g d) = none := by
  cases d <;> first | rfl | (simp [sn] at h; done) | exact hg.no _ rfl
theorem Tame.onA_sn {g : D → D} (hg : Tame g) (d : D) : sn (onA g d) = sn d := by
  cases d <;> first | rfl | (simp only [onA, hg.sl, hg.hole]; done) | exact hg.no _ rfl
theorem Tame.leaf {g : D → D} (hg : Tame g) (d : D) : leafD (onA g (leafD d)) = onA g (leafD d) := by
  cases hs : sn (leafD d) with
  | none => exact leafD_no (hg.onA_no hs)
  | some p =>
    rcases sn_leaf hs with ⟨b, s, n, cs, h⟩ | ⟨s, n, h⟩
    · rw [h]
      simp [onA, hg.sl, leafD]
    · rw [h]
      simp [onA, hg.hole, leafD]
theorem er_fT {g : D → D} (hg : Tame g) (t : T) : (fT g t).er = onA g t.er := by
  cases t with
  | v d u => simp only [fT, T.er]; exact hg.leaf d
  | own s n cap a xs => simp [fT, T.er, onA, hg.sl]
theorem lk_fS (g : D → D) (S : List (Nat × RT)) (k : Nat) : lk (fS g S) k = (lk S k).map fun R => ⟨R.box, R.cs.map (fT g)⟩ := by
  induction S with
  | nil => rfl
  | cons e t ih =>
    obtain ⟨j, R⟩ := e
    simp only [fS, lk]
    split <;> simp [ih]
theorem lk_mapC {α : Type} (f : α → α) (l : List (Nat × α)) (k : Nat) : lk (mapT f l) k = (lk l k).map f := by
  induction l with
  | nil => rfl
  | cons e t ih =>
    obtain ⟨j, v⟩ := e
    simp only [mapT, lk]
    split <;> simp [ih]
theorem rtEq_map {g : D → D} (hg : Tame g) {l : List (Nat × List D)} {S : List (Nat × RT)} (h : RtEq l S) : RtEq (mapT (List.map (onA g)) l) (fS g S) := by
  intro k
  rw [lk_mapC, lk_fS, h k]
  cases lk S k with
  | none => rfl
  | some R =>
    simp only [Option.map_some, Option.some.injEq, ersT_map, List.map_map]
    apply List.map_congr_left
    intro t _
    simp [er_fT hg]
theorem ft_fT (g : D → D) (t : T) : (fT g t).ft = t.ft := by cases t <;> rfl
theorem ft_fS (g : D → D) (S : List (Nat × RT)) : ftS (fS g S) = ftS S := by
  induction S with
  | nil => rfl
  | cons e t ih =>
    obtain ⟨k, R⟩ := e
    simp only [fS, ftS, ih, RT.ft]
    congr 2
    rw [ftsT_map, ftsT_map, List.map_map]
    congr 2
    funext t
    exact ft_fT g t
theorem fS_SR {g : D → D} (hg : Tame g) (S : List (Nat × RT)) : SR (onA g) S (fS g S) := by
  refine ⟨fun r R1 h => ?_, ft_fS g S⟩
  rw [lk_fS] at h
  cases hr : lk S r with
  | none => simp [hr] at h
  | some R =>
    simp only [hr, Option.map_some, Option.some.injEq] at h
    subst h
    refine ⟨R, rfl, rfl, all2_of_get (by simp) (fun i a b ha hb => ?_)⟩
    simp only [List.getElem?_map, ha, Option.map_some, Option.some.injEq] at hb
    subst hb
    cases a with
    | v d u => exact .inl ⟨d, _, u, rfl, rfl, hg.leaf d⟩
    | own s n cap aa xs => exact .inr ⟨⟨s, n, cap, aa, xs, rfl⟩, rfl⟩
theorem cells_fT (g : D → D) {cs : List T} {p : Nat} {q : List Nat} : cellsT (cs.map (fT g)) (p :: q) = cellsT cs (p :: q) := by
  simp only [cellsT, List.getElem?_map]
  cases cs[p]? with
  | none => rfl
  | some t => cases t <;> rfl
theorem addr_fT (g : D → D) {cs : List T} {bx : Option Nat} {q : List Nat} : addrT bx (cs.map (fT g)) q = addrT bx cs q := by
  cases q with
  | nil => rfl
  | cons p q =>
    simp only [addrT, List.getElem?_map]
    cases cs[p]? with
    | none => rfl
    | some t => cases t <;> rfl
theorem tvc_fS {g : D → D} (hg : Tame g) {w : World} {X : Bool → Nat → Prop} {S : List (Nat × RT)} {d : D} {u : Value} (h : TVc w X S d u) : TVc w X (fS g S) d u := by
  cases d with
  | ref r q o x =>
    intro t2 h2
    unfold cellR at h2
    rw [lk_fS] at h2
    cases hr : lk S r with
    | none => simp [hr] at h2
    | some R =>
      simp only [hr, Option.map_some] at h2
      cases q with
      | nil =>
        simp only [cellsT, List.getElem?_map] at h2
        cases ho : R.cs[o]? with
        | none => simp [ho] at h2
        | some t =>
          simp only [ho, Option.map_some, Option.some.injEq] at h2
          subst h2
          have := h t (by simp [cellR, hr, cellsT, ho])
          cases t with
          | own s n cap aa xs => exact this
          | v d0 u0 =>
            unfold RefOk at this ⊢
            rw [er_fT hg]
            simp only [T.er, hg.onA_sn] at this ⊢
            exact this
      | cons p q =>
        rw [cells_fT] at h2
        exact h t2 (by unfold cellR; rw [hr]; exact h2)
  | ptr r q o =>
    intro R' hR'
    rw [lk_fS] at hR'
    cases hr : lk S r with
    | none => simp [hr] at hR'
    | some R =>
      simp only [hr, Option.map_some, Option.some.injEq] at hR'
      subst hR'
      exact ⟨(h R hr).1, fun b off ha => (h R hr).2 b off (by rw [addr_fT] at ha; exact ha)⟩
  | _ => exact h
theorem SR.cell_own {g : D → D} {S S1 : List (Nat × RT)} (h : SR g S S1) {r : Nat} {R1 : RT} (hr : lk S1 r = some R1) : ∃ R, lk S r = some R ∧ R1.box = R.box ∧ R1.cs.length = R.cs.length ∧ valsT R1.cs = valsT R.cs ∧ ∀ (i : Nat) (t1 : T), R1.cs[i]? = some t1 → ∃ t : T, R.cs[i]? = some t ∧ GT g t t1 := by
  obtain ⟨R, h1, h2, h3⟩ := h.look r R1 hr
  refine ⟨R, h1, h2, h3.len.symm, GT.vals h3, fun i t1 hi => ?_⟩
  have hl := h3.len
  obtain ⟨hlt, _⟩ := List.getElem?_eq_some_iff.1 hi
  obtain ⟨t1', h4, h5⟩ := h3.get (List.getElem?_eq_getElem (by omega : i < R.cs.length))
  rw [hi, Option.some.injEq] at h4
  subst h4
  exact ⟨_, List.getElem?_eq_getElem (by omega), h5⟩
section
variable {C : Ctx} {H H' : List T} {w : World} {S S1 S' : List (Nat × RT)}
theorem free_sub (hsub : ∀ k ∈ ftS S' ++ ftsT H', k ∈ ftS S ++ ftsT H) (b : Bool) (k : Nat) (h : Free C w S H b k) : Free C w S' H' b k := by
  obtain ⟨h1, h2, h3, h4⟩ := h
  have : k ∉ ftS S' ++ ftsT H' := fun hk => by
    rcases List.mem_append.1 (hsub k hk) with h | h
    · exact h2 h
    · exact h3 h
  exact ⟨h1, fun h => this (List.mem_append.2 (.inl h)), fun h => this (List.mem_append.2 (.inr h)), h4⟩
theorem mem_chg (hm : Mem C w S H) {g : D → D} (hS : SR g S S1) {r : Nat} {q : List Nat} {o : Nat} {t t' : T} (hc : Chg S1 S' r q o t t') (hv : t'.val = t.val) (hs : SatT w (Free C w S' H') t' ∨ ∃ d u, t' = .v d u ∧ q = [] ∧ ∀ R, lk S r = some R → R.box.isSome = true ∧ TVc w (Free C w S' H') S' (leafD d) u)
    (hnd : (ftS S' ++ ftsT H').Nodup) (hsub : ∀ k ∈ ftS S' ++ ftsT H', k ∈ ftS S ++ ftsT H) (hh : SatL w (Free C w S' H') H') (htv : ∀ d u, TVc w (Free C w S H) S d u → TVc w (Free C w S' H') S' (g d) u) (hge : ∀ d u, Ext w (Free C w S H) d u → Ext w (Free C w S' H') (g d) u) : Mem C w S' H' := by
  have hX : ∀ b k, Free C w S H b k → Free C w S' H' b k := free_sub hsub
  have hst : ∀ b k, Free C w S H b k → Free C w S' H' b k ∧ w.heap[k]? = w.heap[k]? := fun b k h => ⟨hX b k h, rfl⟩
  have cell : ∀ {bx : Bool} {t0 t1 : T}, CellOk w (Free C w S H) S bx t0 → GT g t0 t1 → CellOk w (Free C w S' H') S' bx t1 := by
    intro bx t0 t1 h0 hg
    rcases hg with ⟨d, d1, u, rfl, rfl, he⟩ | ⟨⟨s, n, cap, a, xs, rfl⟩, rfl⟩
    · simp only [CellOk] at h0 ⊢
      rw [he]
      rcases h0 with h0 | ⟨hb, h0⟩
      · exact .inl (hge _ _ h0)
      · exact .inr ⟨hb, htv _ _ h0⟩
    · exact sat_move hst _ h0 (fun _ _ => rfl)
  refine ⟨hnd, ?_, hh, fun k hk => hm.lt k (hsub k hk)⟩
  intro r' R' hR'
  obtain ⟨R1, cs', l, h1, h2, h3, h4, rfl⟩ := hc.ex
  by_cases he : r' = r
  · subst he
    rw [lk_pt_same, Option.some.injEq] at hR'
    subst hR'
    obtain ⟨R, g1, g2, g3, g4, g5⟩ := hS.cell_own h1
    obtain ⟨k1, k2⟩ := hm.root r' R g1
    cases q with
    | nil =>
      simp only [cellsT, Option.some.injEq] at h2
      simp only [modT, Option.some.injEq] at h4
      subst h2; subst h4
      obtain ⟨hlt, hto⟩ := List.getElem?_eq_some_iff.1 h3
      have hvals : valsT (R1.cs.set o t') = valsT R.cs := by
        rw [← g4, valsT_set, hv]
        apply List.ext_getElem?
        intro j
        by_cases hj : o = j
        · subst hj
          rw [List.getElem?_set_self (by rw [valsT_len]; exact hlt), valsT_get, h3]; rfl
        · rw [List.getElem?_set_ne hj]
      refine ⟨?_, ?_⟩
      · simp only [List.length_set]
        rw [hvals, g3, g2]; exact k1
      · intro t0 ht0
        obtain ⟨j, hj⟩ := List.mem_iff_getElem?.1 ht0
        simp only at hj
        by_cases hjo : o = j
        · subst hjo
          rw [List.getElem?_set_self hlt, Option.some.injEq] at hj
          subst hj
          rcases hs with hs | ⟨d, u, rfl, _, hs⟩
          · cases t' with
            | v d u => exact .inl hs
            | own s n cap a xs => exact hs
          · obtain ⟨hb, hs⟩ := hs R g1
            exact .inr ⟨by rw [g2]; exact hb, hs⟩
        · rw [List.getElem?_set_ne hjo] at hj
          obtain ⟨t00, e1, e2⟩ := g5 j _ hj
          have := cell (k2 _ (List.mem_of_getElem? e1)) e2
          rw [← g2] at this
          exact this
    | cons p q =>
      have hs' : SatT w (Free C w (pt S1 r' ⟨R1.box, cs'⟩) H') t' := by
        rcases hs with hs | ⟨d, u, _, hq, _⟩
        · exact hs
        · simp at hq
      have hvals := (mod_vals h4).1
      have hlen := (mod_vals h4).2
      refine ⟨?_, ?_⟩
      · simp only
        rw [hvals, hlen, g4, g3, g2]; exact k1
      · intro t0 ht0
        obtain ⟨j, hj⟩ := List.mem_iff_getElem?.1 ht0
        simp only at hj
        rw [cellsT] at h2
        rw [modT] at h4
        cases hp : R1.cs[p]? with
        | none => simp [hp] at h2
        | some x =>
          cases x with
          | v d u => simp [hp] at h2
          | own s n cap a xs =>
            simp only [hp] at h2 h4
            cases hx : modT (fun l => l.set o t') xs q with
            | none => simp [hx] at h4
            | some xs' =>
              simp only [hx, Option.some.injEq] at h4
              subst h4
              obtain ⟨hlt, _⟩ := List.getElem?_eq_some_iff.1 hp
              by_cases hjp : p = j
              · subst hjp
                rw [List.getElem?_set_self hlt, Option.some.injEq] at hj
                subst hj
                obtain ⟨t00, e1, e2⟩ := g5 p _ hp
                have e3 := cell (k2 _ (List.mem_of_getElem? e1)) e2
                simp only [CellOk, SatT] at e3 ⊢
                obtain ⟨f1, f2, f3, f4⟩ := e3
                obtain ⟨f5, f6⟩ := sat_put hs' hv f4 h2 h3 hx
                have hl' : xs'.length = xs.length := by have := congrArg List.length f6; simpa [valsT_len] using this
                exact ⟨f1, by rw [hl']; exact f2, by rw [f6]; exact f3, f5⟩
              · rw [List.getElem?_set_ne hjp] at hj
                obtain ⟨t00, e1, e2⟩ := g5 j _ hj
                have := cell (k2 _ (List.mem_of_getElem? e1)) e2
                rw [← g2] at this
                exact this
  · rw [lk_pt_ne _ _ he] at hR'
    obtain ⟨R, g1, g2, g3, g4, g5⟩ := hS.cell_own hR'
    obtain ⟨k1, k2⟩ := hm.root r' R g1
    refine ⟨?_, ?_⟩
    · rw [g4, g3, g2]; exact k1
    · intro t0 ht0
      obtain ⟨j, hj⟩ := List.mem_iff_getElem?.1 ht0
      obtain ⟨t00, e1, e2⟩ := g5 j _ hj
      have := cell (k2 _ (List.mem_of_getElem? e1)) e2
      rw [← g2] at this
      exact this
end
end Go.Proofs.Ytkejckoefjonjaa
namespace Go.Proofs.Ytkejckoefjonjaa
theorem set_vals {cs : List T} {o : Nat} {t t' : T} (ho : cs[o]? = some t) (hv : t'.val = t.val) : valsT (cs.set o t') = valsT cs := by
  rw [valsT_set, hv]
  apply List.ext_getElem?
  intro j
  by_cases hj : o = j
  · subst hj
    rw [List.getElem?_set_self (by rw [valsT_len]; exact (List.getElem?_eq_some_iff.1 ho).1), valsT_get, ho]; rfl
  · rw [List.getElem?_set_ne hj]
theorem Chg.par {S S' : List (Nat × RT)} {r : Nat} {q : List Nat} {o : Nat} {t t' : T} (hc : Chg S S' r q o t t') (hv : t'.val = t.val) {r' : Nat} {R' : RT} (h : lk S' r' = some R') : ∃ R, lk S r' = some R ∧ R'.box = R.box ∧ valsT R'.cs = valsT R.cs := by
  obtain ⟨R, cs', l, h1, h2, h3, h4, rfl⟩ := hc.ex
  by_cases he : r' = r
  · subst he
    rw [lk_pt_same, Option.some.injEq] at h
    subst h
    refine ⟨R, h1, rfl, ?_⟩
    cases q with
    | nil =>
      simp only [cellsT, Option.some.injEq] at h2
      simp only [modT, Option.some.injEq] at h4
      subst h2; subst h4
      exact set_vals h3 hv
    | cons p q => exact (mod_vals h4).1
  · rw [lk_pt_ne _ _ he] at h
    exact ⟨R', h, rfl, rfl⟩
theorem Chg.dom {S S' : List (Nat × RT)} {r : Nat} {q : List Nat} {o : Nat} {t t' : T} (hc : Chg S S' r q o t t') {r' : Nat} {R : RT} (h : lk S r' = some R) : ∃ R', lk S' r' = some R' ∧ R'.box = R.box ∧ R'.cs.length = R.cs.length := by
  obtain ⟨R0, cs', l, h1, h2, h3, h4, rfl⟩ := hc.ex
  by_cases he : r' = r
  · subst he
    rw [h1, Option.some.injEq] at h
    subst h
    refine ⟨_, lk_pt_same _ _ _, rfl, ?_⟩
    cases q with
    | nil =>
      simp only [modT, Option.some.injEq] at h4
      subst h4; simp
    | cons p q => exact (mod_vals h4).2
  · exact ⟨R, by rw [lk_pt_ne _ _ he]; exact h, rfl, rfl⟩
theorem setC_chg {st st' : St} {S : List (Nat × RT)} (hrt : RtEq st.rt S) {r : Nat} {q : List Nat} {o : Nat} {t t' : T} {R : RT} {l : List T} (h1 : lk S r = some R) (h2 : cellsT R.cs q = some l) (h3 : l[o]? = some t) (h : st.setC r q o t'.er = some st') :
    ∃ S', Chg S S' r q o t t' ∧ RtEq st'.rt S' ∧ st'.tm = st.tm ∧ st'.up = st.up ∧ st'.of = st.of := by
  unfold St.setC at h
  rw [hrt, h1] at h
  simp only [Option.map_some, er_mod] at h
  obtain ⟨cs', h4⟩ := mod_of_cells (f := fun l => l.set o t') h2
  rw [h4] at h
  simp only [Option.map_some, Option.some.injEq] at h
  subst h
  exact ⟨pt S r ⟨R.box, cs'⟩, ⟨R, cs', l, h1, h2, h3, h4, rfl⟩, rtEq_pz hrt r ⟨R.box, cs'⟩, rfl, rfl, rfl⟩
theorem sub_fts : ∀ {a b : List T}, a.Sublist b → (ftsT a).Sublist (ftsT b) := by
  intro a b h
  induction h with
  | slnil => exact List.Sublist.refl _
  | cons x _ ih => rw [ftsT]; exact ih.trans (List.sublist_append_right _ _)
  | cons_cons x _ ih => rw [ftsT, ftsT]; exact List.Sublist.append (List.Sublist.refl _) ih
theorem trim_t {w : World} {X : Bool → Nat → Prop} {s n cap : Nat} {a : Option (Nat × Nat)} {ts : List T} (hs : SatT w X (.own s n cap a ts)) {x : Option (Nat × Nat)} {u : Value} (hr : RefOk x (.own s n cap a ts) u) :
    ∃ t : T, t.er = .sl none s (trim x s n (ersT ts)).1 (trim x s n (ersT ts)).2 ∧ t.val = u ∧ SatT w X t ∧ t.ft.Sublist (T.own s n cap a ts).ft := by
  cases x with
  | none =>
    simp only [RefOk, sn, T.er] at hr
    exact ⟨.own s n cap a ts, rfl, hr.symm, hs, List.Sublist.refl _⟩
  | some p =>
    obtain ⟨l, m⟩ := p
    simp only [RefOk, sn, T.er, T.val, hdr, Value.slice.injEq] at hr
    obtain ⟨h1, base, C, k, ⟨h2, _, h3⟩, h4, rfl, h5⟩ := hr
    subst h2; subst h3
    simp only [SatT] at hs
    obtain ⟨g1, g2, g3, g4⟩ := hs
    refine ⟨.own s m (cap - l) (a.map fun p => (p.1, p.2 + k * s)) ((ts.drop (l * s)).take (m * s)), ?_, ?_, ?_, ?_⟩
    · simp only [T.er, trim, ersT_drop, ersT_take]
    · simp only [T.val, hdr, Option.map_map]
      congr 1
      cases a <;> simp [add_mk]
    · simp only [SatT]
      refine ⟨by omega, ?_, ?_, ?_⟩
      · rw [List.length_take, List.length_drop, g2]
        have : l * s + m * s ≤ n * s := by rw [← Nat.add_mul]; exact Nat.mul_le_mul_right _ h1
        omega
      · cases a with
        | none => simp only at g3; simp only [Option.map_none]; omega
        | some p =>
          obtain ⟨b, off⟩ := p
          simp only [Option.map_some]
          obtain ⟨c, e, fz, k1, k2, k3, k4⟩ := g3
          refine ⟨c, e, fz, k1, k2, ?_, ?_⟩
          · rcases h5 with h5 | h5
            · rw [h5]
              have : k * s ≤ cap * s := Nat.mul_le_mul_right _ h4
              omega
            · subst h5
              have : k * s + (cap - k) * s = cap * s := by rw [← Nat.add_mul]; congr 1; omega
              omega
          · intro j u hj
            rw [valsT_map, List.map_take, List.map_drop, ← valsT_map, List.getElem?_take] at hj
            split at hj
            · rename_i hlt
              rw [List.getElem?_drop] at hj
              have hm : m ≠ 0 := fun e => by simp [e] at hlt
              have : k = l := by omega
              subst this
              rw [Nat.add_assoc]
              exact k4 _ _ hj
            · simp at hj
      · rw [satL_iff] at g4 ⊢
        exact fun t ht => g4 t (List.mem_of_mem_drop (List.mem_of_mem_take ht))
    · simp only [T.ft]
      refine List.Sublist.append ?_ (sub_fts ((List.take_sublist _ _).trans (List.drop_sublist _ _)))
      cases a <;> exact List.Sublist.refl _
structure Dom (S S' : List (Nat × RT)) : Prop where
  fwd : ∀ r R, lk S r = some R → ∃ R', lk S' r = some R' ∧ R'.box = R.box ∧ valsT R'.cs = valsT R.cs
theorem Dom.refl (S : List (Nat × RT)) : Dom S S := ⟨fun _ R h => ⟨R, h, rfl, rfl⟩⟩
theorem Dom.trans {S S' S'' : List (Nat × RT)} (h : Dom S S') (h' : Dom S' S'') : Dom S S'' := ⟨fun r R hr => by
  obtain ⟨R1, h1, h2, h3⟩ := h.fwd r R hr
  obtain ⟨R2, h4, h5, h6⟩ := h'.fwd r R1 h1
  exact ⟨R2, h4, h5.trans h2, h6.trans h3⟩⟩
theorem kept_chg {C : Ctx} {w : World} {S S' : List (Nat × RT)} {H H' : List T} (hk : Kept C w S H) (hsub : ∀ k ∈ ftS S' ++ ftsT H', k ∈ ftS S ++ ftsT H) (hp : ∀ r R', lk S' r = some R' → ∃ R, lk S r = some R ∧ R'.box = R.box ∧ valsT R'.cs = valsT R.cs) : Kept C w S' H' :=
  ⟨hk.os, hk.tape, hk.output, hk.size, hk.block, fun k h => hk.foot k (hsub k h), fun r b vs hm R' hr => by
    obtain ⟨R, h1, h2, h3⟩ := hp r R' hr
    have := hk.par r b vs hm R h1
    rw [h2, h3]; exact this⟩
section
variable {C : Ctx} {H : List T} {w : World} {st st' : St} {vss : List (Array Value)} {S : List (Nat × RT)}
theorem take_plain (h : Rel C H w st vss S) {d : D} {u : Value} (hu : Ext w (Free C w S H) d u) (hd : leafD d = d) : Rel C (.v d u :: H) w st vss S := by
  have hf : ∀ b k, Free C w S H b k → Free C w S (.v d u :: H) b k := free_sub (by simp [ftsT, T.ft])
  have hst : ∀ b k, Free C w S H b k → Free C w S (.v d u :: H) b k ∧ w.heap[k]? = w.heap[k]? := fun b k hh => ⟨hf b k hh, rfl⟩
  have htv : ∀ d' u', TVc w (Free C w S H) S d' u' → TVc w (Free C w S (.v d u :: H)) S d' u' := fun d' u' hh => tvc_fewer hst (fun _ _ h => h) hh
  refine h.step_id h.rt rfl rfl htv ⟨by simpa [ftsT, T.ft] using h.mem.nd, ?_, ?_, by simpa [ftsT, T.ft] using h.mem.lt⟩ (kept_chg h.kept (by simp [ftsT, T.ft]) (fun r R' hr => ⟨R', hr, rfl, rfl⟩))
  · intro r R hR
    obtain ⟨h1, h2⟩ := h.mem.root r R hR
    refine ⟨h1, fun t ht => ?_⟩
    have := h2 t ht
    cases t with
    | v d' u' =>
      rcases this with this | ⟨hb, this⟩
      · exact .inl (ext_move hst _ _ this)
      · exact .inr ⟨hb, htv _ _ this⟩
    | own s n cap a xs => exact sat_move hst _ this (fun _ _ => rfl)
  · simp only [SatL, SatT]
    exact ⟨by rw [hd]; exact ext_move hst _ _ hu, satL_move hst _ h.mem.hand (fun _ _ => rfl)⟩
theorem take_ok (h : Rel C H w st vss S) {d d' : D} {u : Value} (hu : TVc w (Free C w S H) S d u) (ht : tkC st d = some (d', st')) :
    ∃ t S', Rel C (t :: H) w st' vss S' ∧ t.er = d' ∧ t.val = u ∧ (∀ d u, TVc w (Free C w S H) S d u → TVc w (Free C w S' (t :: H)) S' d u) ∧ Dom S S' ∧ (st'.tm = st.tm ∧ st'.up = st.up ∧ st'.of = st.of) ∧ (∀ r q o x, d = .ref r q o x → ∃ d0 u0, (sn d0).isSome = true ∧ leafD d0 = d0 ∧ cellR S' r q o = some (.v d0 u0) ∧ (x = none → Like (.v d0 u0) t)) := by
  have plain : ∀ {d : D}, Ext w (Free C w S H) d u → leafD d = d → ∃ t S', Rel C (t :: H) w st vss S' ∧ t.er = d ∧ t.val = u ∧ (∀ d u, TVc w (Free C w S H) S d u → TVc w (Free C w S' (t :: H)) S' d u) ∧ Dom S S' ∧ (st.tm = st.tm ∧ st.up = st.up ∧ st.of = st.of) ∧ S = S' := by
    intro d hu hd
    refine ⟨.v d u, S, take_plain h hu hd, hd, rfl, fun d' u' hh => tvc_fewer (fun b k hh => ⟨free_sub (by simp [ftsT, T.ft]) b k hh, rfl⟩) (fun _ _ h => h) hh, Dom.refl _, ⟨rfl, rfl, rfl⟩, rfl⟩
  have plain' : ∀ {d : D}, (∀ r q o x, d ≠ .ref r q o x) → Ext w (Free C w S H) d u → leafD d = d → ∃ t S', Rel C (t :: H) w st vss S' ∧ t.er = d ∧ t.val = u ∧ (∀ d u, TVc w (Free C w S H) S d u → TVc w (Free C w S' (t :: H)) S' d u) ∧ Dom S S' ∧ (st.tm = st.tm ∧ st.up = st.up ∧ st.of = st.of) ∧ (∀ r q o x, d = .ref r q o x → ∃ d0 u0, (sn d0).isSome = true ∧ leafD d0 = d0 ∧ cellR S' r q o = some (.v d0 u0) ∧ (x = none → Like (.v d0 u0) t)) := by
    intro d hn hu hd
    obtain ⟨t, S', a1, a2, a3, a4, a5, a6, _⟩ := plain hu hd
    exact ⟨t, S', a1, a2, a3, a4, a5, a6, fun r q o x e => absurd e (hn r q o x)⟩
  cases d with
  | int k n => simp only [tkC, Option.some.injEq, Prod.mk.injEq] at ht; obtain ⟨rfl, rfl⟩ := ht; exact plain' (by simp) hu rfl
  | bool b => simp only [tkC, Option.some.injEq, Prod.mk.injEq] at ht; obtain ⟨rfl, rfl⟩ := ht; exact plain' (by simp) hu rfl
  | str s => simp only [tkC, Option.some.injEq, Prod.mk.injEq] at ht; obtain ⟨rfl, rfl⟩ := ht; exact plain' (by simp) hu rfl
  | undef => simp only [tkC, Option.some.injEq, Prod.mk.injEq] at ht; obtain ⟨rfl, rfl⟩ := ht; exact plain' (by simp) hu rfl
  | hole s n =>
    simp only [tkC, Option.some.injEq, Prod.mk.injEq] at ht; obtain ⟨rfl, rfl⟩ := ht
    obtain ⟨t, S', a1, a2, a3, a4, a5, a6, _⟩ := plain (d := .undef) (by simp [Ext]) rfl
    exact ⟨t, S', a1, a2, a3, a4, a5, a6, by simp⟩
  | sl g s n cs =>
    simp only [tkC, Option.some.injEq, Prod.mk.injEq] at ht; obtain ⟨rfl, rfl⟩ := ht
    cases g with
    | none => exact absurd hu (by simp [TVc, Ext])
    | some g => exact plain' (by simp) hu rfl
  | nil s =>
    simp only [tkC, Option.some.injEq, Prod.mk.injEq] at ht; obtain ⟨rfl, rfl⟩ := ht
    have hu' : u = .slice none 0 0 := hu
    subst hu'
    have hft : (T.own s 0 0 none []).ft = [] := rfl
    have hf : ∀ b k, Free C w S H b k → Free C w S (.own s 0 0 none [] :: H) b k := free_sub (by simp [ftsT, hft])
    have hst : ∀ b k, Free C w S H b k → Free C w S (.own s 0 0 none [] :: H) b k ∧ w.heap[k]? = w.heap[k]? := fun b k hh => ⟨hf b k hh, rfl⟩
    have htv : ∀ d' u', TVc w (Free C w S H) S d' u' → TVc w (Free C w S (.own s 0 0 none [] :: H)) S d' u' := fun d' u' hh => tvc_fewer hst (fun _ _ h => h) hh
    refine ⟨.own s 0 0 none [], S, ?_, rfl, rfl, htv, Dom.refl _, ⟨rfl, rfl, rfl⟩, by simp⟩
    refine h.step_id h.rt rfl rfl htv ⟨by simpa [ftsT, hft] using h.mem.nd, ?_, ?_, by simpa [ftsT, hft] using h.mem.lt⟩ (kept_chg h.kept (by simp [ftsT, hft]) (fun r R' hr => ⟨R', hr, rfl, rfl⟩))
    · intro r R hR
      obtain ⟨h1, h2⟩ := h.mem.root r R hR
      refine ⟨h1, fun t ht => ?_⟩
      have := h2 t ht
      cases t with
      | v d' u' =>
        rcases this with this | ⟨hb, this⟩
        · exact .inl (ext_move hst _ _ this)
        · exact .inr ⟨hb, htv _ _ this⟩
      | own s n cap a xs => exact sat_move hst _ this (fun _ _ => rfl)
    · simp only [SatL, SatT]
      exact ⟨by simp, satL_move hst _ h.mem.hand (fun _ _ => rfl)⟩
  | ref r q o x =>
    simp only [tkC] at ht
    split at ht
    · rename_i s n cs hc
      split at ht
      case h_2 => simp at ht
      rename_i st1 hset
      simp only [Option.some.injEq, Prod.mk.injEq] at ht
      obtain ⟨rfl, rfl⟩ := ht
      obtain ⟨R, l, t0, h1, h2, h3, h4, h5⟩ := cell_st h.rt hc
      obtain ⟨cap, a, ts, rfl, rfl⟩ := er_own h5.symm
      have hm0 := h.mem
      have hsat : SatT w (Free C w S H) (.own s n cap a ts) := by
        obtain ⟨_, g2⟩ := hm0.root r R h1
        cases q with
        | nil =>
          simp only [cellsT, Option.some.injEq] at h2
          subst h2
          exact g2 _ (List.mem_of_getElem? h3)
        | cons p q =>
          rw [cellsT] at h2
          cases hp : R.cs[p]? with
          | none => simp [hp] at h2
          | some y =>
            cases y with
            | v d u => simp [hp] at h2
            | own s' n' cap' a' xs' =>
              simp only [hp] at h2
              have hs : SatT w (Free C w S H) (.own s' n' cap' a' xs') := g2 _ (List.mem_of_getElem? hp)
              simp only [SatT] at hs
              exact satL_get (sat_cells hs.2.2.2 h2) h3
      obtain ⟨t, e1, e2, e3, e4⟩ := trim_t hsat (hu _ h4)
      obtain ⟨S', hchg, hrt', htm', hup', hof'⟩ := setC_chg (t' := .v (.hole s n) (T.own s n cap a ts).val) h.rt h1 h2 h3 hset
      obtain ⟨A, B, f1, f2⟩ := hchg.fts
      simp only [T.ft, List.append_nil] at f2
      have hsub : ∀ k ∈ ftS S' ++ ftsT (t :: H), k ∈ ftS S ++ ftsT H := by
        intro k hk
        rw [f1]
        rw [f2] at hk
        simp only [ftsT, List.mem_append] at hk ⊢
        rcases hk with (hk | hk) | (hk | hk)
        · exact .inl (.inl (.inl hk))
        · exact .inl (.inr hk)
        · exact .inl (.inl (.inr (e4.mem hk)))
        · exact .inr hk
      have hnd : (ftS S' ++ ftsT (t :: H)).Nodup := by
        have h0 := hm0.nd
        rw [f1] at h0
        rw [f2]
        have p1 : (A ++ (T.own s n cap a ts).ft ++ B ++ ftsT H).Perm (A ++ B ++ ((T.own s n cap a ts).ft ++ ftsT H)) := by
          simp only [List.append_assoc]
          refine List.Perm.append_left A ?_
          rw [← List.append_assoc, ← List.append_assoc]
          exact List.Perm.append_right _ List.perm_append_comm
        have h00 := p1.nodup_iff.1 h0
        refine List.Nodup.sublist ?_ h00
        simp only [ftsT]
        exact List.Sublist.append (List.Sublist.refl _) (List.Sublist.append e4 (List.Sublist.refl _))
      have hst : Stays w w (Free C w S H) (Free C w S' (t :: H)) := fun b k hh => ⟨free_sub hsub b k hh, rfl⟩
      have htv : ∀ d u, TVc w (Free C w S H) S d u → TVc w (Free C w S' (t :: H)) S' d u := fun d u hh => tvc_leaf hst hchg (.inr ⟨rfl, fun p h => by simpa [T.er, leafD, sn] using h⟩) hh
      have hmem : Mem C w S' (t :: H) := mem_chg hm0 (SR.refl S) hchg rfl (.inl (by simp [SatT, leafD, Ext])) hnd hsub (by
          simp only [SatL]
          exact ⟨sat_move hst _ e3 (fun _ _ => rfl), satL_move hst _ hm0.hand (fun _ _ => rfl)⟩) htv (fun d u hh => ext_move hst _ _ hh)
      exact ⟨t, S', h.step_id hrt' htm' hup' htv hmem (kept_chg h.kept hsub (fun r R' hr => hchg.par rfl hr)), e1, e2, htv, ⟨fun r R hr => by
        obtain ⟨R', k1, k2, k3⟩ := hchg.dom hr
        obtain ⟨R0, k4, k5, k6⟩ := hchg.par rfl k1
        rw [hr, Option.some.injEq] at k4
        subst k4
        exact ⟨R', k1, k2, k6⟩⟩, ⟨htm', hup', hof'⟩, fun r' q' o' x' he => by
        simp only [D.ref.injEq] at he
        obtain ⟨rfl, rfl, rfl, rfl⟩ := he
        refine ⟨_, _, rfl, rfl, hchg.cell_new, fun hx => ⟨?_, fun p he => ?_⟩⟩
        · subst hx
          have := hu _ h4
          simp only [RefOk, sn, T.er] at this
          rw [e2, this]; rfl
        · subst hx
          rw [e1] at he
          simpa [T.er, leafD, sn, trim] using he⟩
    · rename_i g s n cs hc
      simp only [Option.some.injEq, Prod.mk.injEq] at ht
      obtain ⟨rfl, rfl⟩ := ht
      obtain ⟨R, l, t0, h1, h2, h3, h4, h5⟩ := cell_st h.rt hc
      have hm0 := h.mem
      have hsat : SatT w (Free C w S H) t0 := by
        obtain ⟨_, g2⟩ := hm0.root r R h1
        cases q with
        | nil =>
          simp only [cellsT, Option.some.injEq] at h2
          subst h2
          have := g2 _ (List.mem_of_getElem? h3)
          cases t0 with
          | own s n cap a xs => exact this
          | v d u =>
            rcases this with h3 | ⟨_, h3⟩
            · exact h3
            · simp only [T.er] at h5
              simp only [SatT]
              rw [← h5] at h3 ⊢
              exact h3
        | cons p q =>
          rw [cellsT] at h2
          cases hp : R.cs[p]? with
          | none => simp [hp] at h2
          | some y =>
            cases y with
            | v d u => simp [hp] at h2
            | own s' n' cap' a' xs' =>
              simp only [hp] at h2
              have hs : SatT w (Free C w S H) (.own s' n' cap' a' xs') := g2 _ (List.mem_of_getElem? hp)
              simp only [SatT] at hs
              exact satL_get (sat_cells hs.2.2.2 h2) h3
      have hleaf : t0.ft = [] := by
        cases t0 with
        | v d u => rfl
        | own s' n' cap a ts => simp [T.er] at h5
      have := ext_ref (X' := Free C w S H) (fun _ _ h => h) false h5.symm hsat (by simp [hleaf]) (hu _ h4)
      obtain ⟨t, S', a1, a2, a3, a4, a5, a6, a7⟩ := plain this rfl
      refine ⟨t, S', a1, a2, a3, a4, a5, a6, fun r' q' o' x' he => ?_⟩
      simp only [D.ref.injEq] at he
      obtain ⟨rfl, rfl, rfl, rfl⟩ := he
      cases t0 with
      | own s' n' cap a ts => simp [T.er] at h5
      | v d0 u0 =>
        simp only [T.er] at h5
        have hd0 : d0 = .sl (some g) s n cs := by
          cases d0 with
          | sl g0 s0 n0 cs0 =>
            cases g0 with
            | none => simp [leafD] at h5
            | some g0 => exact h5.symm
          | _ => simp [leafD] at h5
        subst hd0
        refine ⟨_, u0, rfl, rfl, a7 ▸ h4, fun hx => ⟨?_, fun p he => ?_⟩⟩
        · subst hx
          have := hu _ h4
          simp only [RefOk, sn, T.er, leafD] at this
          rw [a3]; exact this
        · subst hx
          rw [a2] at he
          simpa [exT, trim, sn, T.er, leafD] using he
    · simp at ht
  | _ => simp [tkC] at ht
end
end Go.Proofs.Ytkejckoefjonjaa
namespace Go.Proofs.Ytkejckoefjonjaa
theorem tame_killR (r : Nat) : Tame (killR r) :=
  ⟨fun _ _ _ _ => rfl, fun _ _ => rfl, fun d h => by cases d <;> simp only [killR] <;> first | rfl | (split <;> rfl) | exact h⟩
theorem tame_killB (r : Nat) : Tame (killB r) :=
  ⟨fun _ _ _ _ => rfl, fun _ _ => rfl, fun d h => by
    cases d with
    | ref r' q o x => simp only [killB]; split <;> rfl
    | ptr r' q o => cases q <;> simp only [killB] <;> first | rfl | (split <;> rfl)
    | _ => exact h⟩
theorem tame_killP (r : Nat) (q : List Nat) (o : Nat) (e : Bool) : Tame (killP r q o e) :=
  ⟨fun _ _ _ _ => rfl, fun _ _ => rfl, fun d h => by
    cases d with
    | ref r' q' o' x =>
      simp only [killP]
      split
      · split
        · rfl
        · split <;> rfl
        · rfl
      · rfl
    | ptr r' q' o' =>
      simp only [killP]
      split
      · split <;> rfl
      · rfl
    | _ => exact h⟩
theorem tame_movP (r : Nat) (q : List Nat) (o r1 : Nat) (q1 : List Nat) (o1 : Nat) : Tame (movP r q o r1 q1 o1) :=
  ⟨fun _ _ _ _ => rfl, fun _ _ => rfl, fun d h => by
    cases d with
    | ref r' q' o' x =>
      simp only [movP]
      split
      · split <;> rfl
      · rfl
    | ptr r' q' o' =>
      simp only [movP]
      split
      · split <;> rfl
      · rfl
    | _ => exact h⟩
theorem ext_tame {g : D → D} (hg : Tame g) (hs : ∀ d, g d = d ∨ (∃ r q o x, d = .ref r q o x) ∨ ∃ r q o, d = .ptr r q o) {w : World} {X : Bool → Nat → Prop} {d : D} {u : Value} (h : Ext w X d u) : Ext w X (onA g d) u := by
  rcases hs d with h1 | ⟨r, q, o, x, rfl⟩ | ⟨r, q, o, rfl⟩
  · cases d <;> first | (simp only [onA, h1]; exact h) | (simp [Ext] at h)
  · simp [Ext] at h
  · simp [Ext] at h
theorem only_killR (r : Nat) (d : D) : killR r d = d ∨ (∃ r q o x, d = .ref r q o x) ∨ ∃ r q o, d = .ptr r q o := by
  cases d <;> first | exact .inl rfl | exact .inr (.inl ⟨_, _, _, _, rfl⟩) | exact .inr (.inr ⟨_, _, _, rfl⟩)
theorem only_killB (r : Nat) (d : D) : killB r d = d ∨ (∃ r q o x, d = .ref r q o x) ∨ ∃ r q o, d = .ptr r q o := by
  cases d <;> first | exact .inl rfl | exact .inr (.inl ⟨_, _, _, _, rfl⟩) | exact .inr (.inr ⟨_, _, _, rfl⟩)
theorem only_killP (r : Nat) (q : List Nat) (o : Nat) (e : Bool) (d : D) : killP r q o e d = d ∨ (∃ r q o x, d = .ref r q o x) ∨ ∃ r q o, d = .ptr r q o := by
  cases d <;> first | exact .inl rfl | exact .inr (.inl ⟨_, _, _, _, rfl⟩) | exact .inr (.inr ⟨_, _, _, rfl⟩)
theorem tvc_onA {w : World} {X : Bool → Nat → Prop} {S : List (Nat × RT)} {g : D → D} {d : D} {u : Value} (h : TVc w X S d u) : onA g d = g d := by
  cases d <;> first | rfl | (simp [TVc, Ext] at h)
section
variable {C : Ctx} {H Hs : List T} {w w' : World} {st : St} {vss : List (Array Value)} {S : List (Nat × RT)}
theorem ft_pt {S : List (Nat × RT)} {k : Nat} (r : RT) : ∃ A B old, ftS S = A ++ old ++ B ∧ ftS (pt S k r) = A ++ r.ft ++ B := by
  cases h : lk S k with
  | none => exact ⟨ftS S, [], [], by simp, by rw [fts_pt_new h]; simp⟩
  | some R =>
    obtain ⟨A, B, h1, h2⟩ := fts_pt h
    exact ⟨A, B, R.ft, h1, h2 r⟩
theorem root_sub (h : Rel C (Hs ++ H) w st vss S) {r : Nat} {R : RT} (hft : ∀ k ∈ R.ft, k ∈ ftsT Hs ∨ w.heap.size ≤ k) :
    ∀ k ∈ ftS (pt (fS (killR r) S) r R) ++ ftsT H, k ∈ ftS S ++ ftsT (Hs ++ H) ∨ w.heap.size ≤ k := by
  obtain ⟨A, B, old, f1, f2⟩ := ft_pt (S := fS (killR r) S) (k := r) R
  rw [ft_fS] at f1
  intro k hk
  rw [f2] at hk
  rw [f1, ftsT_app]
  simp only [List.mem_append] at hk ⊢
  rcases hk with ((hk | hk) | hk) | hk
  · exact .inl (.inl (.inl (.inl hk)))
  · rcases hft k hk with h2 | h2
    · exact .inl (.inr (.inl h2))
    · exact .inr h2
  · exact .inl (.inl (.inr hk))
  · exact .inl (.inr (.inr hk))
theorem root_stays (h : Rel C (Hs ++ H) w st vss S) {r : Nat} {R : RT} (hft : ∀ k ∈ R.ft, k ∈ ftsT Hs ∨ w.heap.size ≤ k) (hsz : w.heap.size ≤ w'.heap.size) (hold : ∀ k, k < w.heap.size → w'.heap[k]? = w.heap[k]?) :
    Stays w w' (Free C w S (Hs ++ H)) (Free C w' (pt (fS (killR r) S) r R) H) := by
  have hsub := root_sub (r := r) h hft
  intro b k hk
  refine ⟨⟨by have := hk.1; omega, fun hx => ?_, fun hx => ?_, hk.2.2.2⟩, hold k hk.1⟩
  · rcases hsub k (List.mem_append.2 (.inl hx)) with h2 | h2
    · rcases List.mem_append.1 h2 with h3 | h3
      · exact hk.2.1 h3
      · exact hk.2.2.1 h3
    · have := hk.1; omega
  · rcases hsub k (List.mem_append.2 (.inr hx)) with h2 | h2
    · rcases List.mem_append.1 h2 with h3 | h3
      · exact hk.2.1 h3
      · exact hk.2.2.1 h3
    · have := hk.1; omega
theorem root_tells (h : Rel C (Hs ++ H) w st vss S) {r : Nat} {R : RT} (hft : ∀ k ∈ R.ft, k ∈ ftsT Hs ∨ w.heap.size ≤ k) (hsz : w.heap.size ≤ w'.heap.size) (hold : ∀ k, k < w.heap.size → w'.heap[k]? = w.heap[k]?) :
    ∀ d u, TVc w (Free C w S (Hs ++ H)) S d u → TVc w' (Free C w' (pt (fS (killR r) S) r R) H) (pt (fS (killR r) S) r R) (killR r d) u :=
  fun _ _ hd => tvc_root (root_stays h hft hsz hold) rfl (tvc_fS (tame_killR r) hd)
theorem root_gen (h : Rel C (Hs ++ H) w st vss S) {r : Nat} {R : RT} (hR : RootOk w' (Free C w' (pt (fS (killR r) S) r R) H) (pt (fS (killR r) S) r R) R)
    (hft : R.ft.Nodup ∧ ∀ k ∈ R.ft, k ∈ ftsT Hs ∨ w.heap.size ≤ k) (hlt : ∀ k ∈ R.ft, k < w'.heap.size) (hsz : w.heap.size ≤ w'.heap.size) (hold : ∀ k, k < w.heap.size → w'.heap[k]? = w.heap[k]?)
    (hos : w'.os = w.os) (htape : w'.tape = w.tape) (hout : w'.output = w.output) (hP : ∀ p ∈ C.P0, p.1 ≠ r) :
    Rel C H w' { st.mapD (killR r) with rt := pz (st.mapD (killR r)).rt r (ersT R.cs) } vss (pt (fS (killR r) S) r R) ∧
    ∀ d u, TVc w (Free C w S (Hs ++ H)) S d u → TVc w' (Free C w' (pt (fS (killR r) S) r R) H) (pt (fS (killR r) S) r R) (killR r d) u := by
  obtain ⟨A, B, old, f1, f2⟩ := ft_pt (S := fS (killR r) S) (k := r) R
  rw [ft_fS] at f1
  have hsub := root_sub (r := r) h hft.2
  have hst := root_stays (r := r) h hft.2 hsz hold
  have htv := root_tells (r := r) h hft.2 hsz hold
  have hnd : (ftS (pt (fS (killR r) S) r R) ++ ftsT H).Nodup := by
    have h0 := h.mem.nd
    rw [f1, ftsT_app] at h0
    rw [f2]
    have hlt0 := h.mem.lt
    rw [f1, ftsT_app] at hlt0
    simp only [List.nodup_append, List.mem_append] at h0 ⊢
    obtain ⟨⟨⟨a1, a2, a3⟩, a4, a5⟩, ⟨b1, b2, b3⟩, c⟩ := h0
    have new : ∀ x, x ∈ R.ft → ∀ y, (y ∈ A ∨ y ∈ B ∨ y ∈ ftsT H) → x ≠ y := by
      intro x hx y hy e
      subst e
      rcases hft.2 x hx with h2 | h2
      · rcases hy with hy | hy | hy
        · exact c x (.inl (.inl hy)) x (.inl h2) rfl
        · exact c x (.inr hy) x (.inl h2) rfl
        · exact b3 x h2 x hy rfl
      · have : x < w.heap.size := hlt0 x (by
          simp only [List.mem_append]
          rcases hy with hy | hy | hy
          · exact .inl (.inl (.inl hy))
          · exact .inl (.inr hy)
          · exact .inr (.inr hy))
        omega
    refine ⟨⟨⟨a1, hft.1, fun x hx y hy e => new y hy x (.inl hx) e.symm⟩, a4, ?_⟩, b2, ?_⟩
    · intro x hx y hy e
      rcases hx with hx | hx
      · exact a5 x (.inl hx) y hy e
      · exact new x hx y (.inr (.inl hy)) e
    · intro x hx y hy e
      rcases hx with (hx | hx) | hx
      · exact c x (.inl (.inl hx)) y (.inr hy) e
      · exact new x hx y (.inr (.inr hy)) e
      · exact c x (.inr hx) y (.inr hy) e
  refine ⟨h.step (f := killR r) ?_ rfl rfl htv ⟨hnd, ?_, ?_, ?_⟩ ⟨by rw [hos]; exact h.kept.os, by rw [htape]; exact h.kept.tape, by rw [hout]; exact h.kept.output, Nat.le_trans h.kept.size hsz, ?_, ?_, ?_⟩, htv⟩
  · exact rtEq_pz (rtEq_map (tame_killR r) h.rt) r R
  · intro r' R' hr'
    by_cases he : r' = r
    · subst he
      rw [lk_pt_same, Option.some.injEq] at hr'
      subst hr'
      exact hR
    · rw [lk_pt_ne _ _ he, lk_fS] at hr'
      cases hx : lk S r' with
      | none => simp [hx] at hr'
      | some R0 =>
        simp only [hx, Option.map_some, Option.some.injEq] at hr'
        subst hr'
        obtain ⟨k1, k2⟩ := h.mem.root r' R0 hx
        have hin : ∀ k ∈ R0.ft, k ∈ ftS S := by
          intro k hk
          obtain ⟨A', B', e1, _⟩ := fts_pt hx
          rw [e1]; simp [hk]
        refine ⟨?_, ?_⟩
        · simp only [List.length_map]
          have hv : valsT (R0.cs.map (fT (killR r))) = valsT R0.cs := by
            rw [valsT_map, valsT_map, List.map_map]
            congr 1
            funext t
            cases t <;> rfl
          rw [hv]
          cases hb : R0.box with
          | none => trivial
          | some b =>
            simp only [hb] at k1 ⊢
            obtain ⟨c, e, fz, g1, g2⟩ := k1
            have hbl : b < w.heap.size := h.mem.lt b (List.mem_append.2 (.inl (hin b (by simp [RT.ft, hb]))))
            exact ⟨c, e, fz, by rw [hold b hbl]; exact g1, g2⟩
        · intro t ht
          simp only [List.mem_map] at ht
          obtain ⟨t0, ht0, rfl⟩ := ht
          have := k2 t0 ht0
          cases t0 with
          | v d u =>
            simp only [fT, CellOk] at this ⊢
            rw [(tame_killR r).leaf]
            rcases this with this | ⟨hb, this⟩
            · exact .inl (ext_tame (tame_killR r) (only_killR r) (ext_move hst _ _ this))
            · exact .inr ⟨hb, by rw [tvc_onA this]; exact htv _ _ this⟩
          | own s n cap a xs =>
            simp only [fT]
            refine sat_move hst _ this (fun k hk => hold k (h.mem.lt k (List.mem_append.2 (.inl (hin k ?_)))))
            obtain ⟨i, hi⟩ := List.mem_iff_getElem?.1 ht0
            obtain ⟨A', B', e1, _⟩ := fts_split R0.cs i _ hi
            rw [RT.ft, e1]; simp [hk]
  · have := h.mem.hand
    rw [satL_app] at this
    refine satL_move hst _ this.2 (fun k hk => hold k (h.mem.lt k ?_))
    rw [ftsT_app]; simp [hk]
  · intro k hk
    rw [f2] at hk
    simp only [List.mem_append] at hk
    have hl := h.mem.lt k
    rw [f1, ftsT_app] at hl
    simp only [List.mem_append] at hl
    rcases hk with ((hk | hk) | hk) | hk
    · have := hl (.inl (.inl (.inl hk))); omega
    · exact hlt k hk
    · have := hl (.inl (.inr hk)); omega
    · have := hl (.inr (.inr hk)); omega
  · intro k hk hf
    rw [hold k (by have := h.kept.size; omega)]
    exact h.kept.block k hk hf
  · intro k hk
    rcases hsub k hk with h2 | h2
    · exact h.kept.foot k h2
    · have := h.kept.size
      exact .inr (by omega)
  · intro r' b vs hm R' hr'
    have hne := hP _ hm
    rw [lk_pt_ne _ _ hne, lk_fS] at hr'
    cases hx : lk S r' with
    | none => simp [hx] at hr'
    | some R0 =>
      simp only [hx, Option.map_some, Option.some.injEq] at hr'
      subst hr'
      obtain ⟨g1, g2⟩ := h.kept.par r' b vs hm R0 hx
      refine ⟨g1, fun hb => ?_⟩
      rw [← g2 hb]
      simp only [valsT_map, List.map_map]
      congr 1
      funext t
      cases t <;> rfl
end
end Go.Proofs.Ytkejckoefjonjaa
namespace Go.Proofs.Ytkejckoefjonjaa
def digT : T → List Nat → Option T
  | t, [] => some t
  | .own _ _ _ _ cs, o :: q => match cs[o]? with
    | some t => digT t q
    | none => none
  | _, _ :: _ => none
theorem dig_er (y : List Nat) : ∀ t : T, digC t.er y = (digT t y).map T.er := by
  induction y with
  | nil => intro t; cases t <;> simp [digC, digT]
  | cons o q ih =>
    intro t
    cases t with
    | v d u =>
      simp only [T.er, digT, Option.map_none]
      cases d with
      | sl g s n cs => cases g <;> simp [leafD, digC]
      | _ => simp [leafD, digC]
    | own s n cap a cs =>
      simp only [T.er, digC, digT, ersT_get]
      cases cs[o]? with
      | none => rfl
      | some t => simp [ih]
theorem dig_sat {w : World} {X : Bool → Nat → Prop} (y : List Nat) : ∀ {t t2 : T}, SatT w X t → digT t y = some t2 → SatT w X t2 ∧ ∀ k ∈ t2.ft, k ∈ t.ft := by
  induction y with
  | nil =>
    intro t t2 hs h
    have : t2 = t := by cases t <;> simpa [digT] using h.symm
    subst this
    exact ⟨hs, fun _ h => h⟩
  | cons o q ih =>
    intro t t2 hs h
    cases t with
    | v d u => simp [digT] at h
    | own s n cap a cs =>
      simp only [digT] at h
      cases hc : cs[o]? with
      | none => simp [hc] at h
      | some t1 =>
        simp only [hc] at h
        simp only [SatT] at hs
        obtain ⟨h1, h2⟩ := ih (satL_get hs.2.2.2 hc) h
        refine ⟨h1, fun k hk => ?_⟩
        obtain ⟨A, B, e, _⟩ := fts_split cs o _ hc
        simp [T.ft, e, h2 k hk]
theorem dig_cells (y : List Nat) : ∀ {t : T} {cs : List T} {o : Nat}, cs[o]? = some t → ∀ {q' : List Nat} {o' : Nat}, q' ++ [o'] = o :: y → (match cellsT cs q' with | some l => l[o']? | none => none) = digT t y := by
  induction y with
  | nil =>
    intro t cs o ho q' o' he
    cases q' with
    | nil =>
      simp only [List.nil_append, List.cons.injEq, and_true] at he
      subst he
      simp only [cellsT, ho]
      cases t <;> rfl
    | cons p q' => simp at he
  | cons z y ih =>
    intro t cs o ho q' o' he
    cases q' with
    | nil => simp at he
    | cons p q' =>
      simp only [List.cons_append, List.cons.injEq] at he
      obtain ⟨rfl, he⟩ := he
      simp only [cellsT, ho]
      cases t with
      | v d u => rfl
      | own s n cap a xs =>
        simp only [digT]
        cases hz : xs[z]? with
        | none =>
          simp only
          cases q' with
          | nil =>
            simp only [List.nil_append, List.cons.injEq] at he
            obtain ⟨rfl, _⟩ := he
            simp [cellsT, hz]
          | cons p' q'' =>
            simp only [List.cons_append, List.cons.injEq] at he
            obtain ⟨rfl, _⟩ := he
            simp [cellsT, hz]
        | some t1 => exact ih hz he
theorem dig_path {q : List Nat} {o : Nat} {y : List Nat} {t : T} : ∀ {cs l : List T}, cellsT cs q = some l → l[o]? = some t → ∀ {q' : List Nat} {o' : Nat}, under (q ++ [o]) (q' ++ [o']) = some y → (match cellsT cs q' with | some l => l[o']? | none => none) = digT t y := by
  induction q with
  | nil =>
    intro cs l hc ho q' o' hu
    simp only [cellsT, Option.some.injEq] at hc
    subst hc
    have := under_some hu
    simp only [List.nil_append, List.singleton_append] at this
    exact dig_cells y ho this
  | cons p q ih =>
    intro cs l hc ho q' o' hu
    rw [cellsT] at hc
    cases hp : cs[p]? with
    | none => simp [hp] at hc
    | some x =>
      cases x with
      | v d u => simp [hp] at hc
      | own s n cap a xs =>
        simp only [hp] at hc
        cases q' with
        | nil => have := under_some hu; simp at this
        | cons p' q' =>
          simp only [List.cons_append, under] at hu
          split at hu
          · rename_i e
            subst e
            simp only [cellsT, hp]
            exact ih hc ho hu
          · simp at hu
section
variable {w w' : World} {X X' : Bool → Nat → Prop} {S S1 S' : List (Nat × RT)} (hX : Stays w w' X X')
include hX
theorem tvc_det {r : Nat} {q : List Nat} {o : Nat} {t t' : T} (hc : Chg S S' r q o t t') (hs : SatT w X t) (hf : ∀ k ∈ t.ft, X' false k ∧ w'.heap[k]? = w.heap[k]?) {d : D} {u : Value} (h : TVc w X S d u) : TVc w' X' S' (detP r q o t.er d) u := by
  cases d with
  | ref r' q' o' x =>
    simp only [detP]
    split
    · rename_i hr
      subst hr
      cases hu : under (q ++ [o]) (q' ++ [o']) with
      | none =>
        simp only
        intro t2 h2
        obtain ⟨t1, h1, hl⟩ := hc.cell_far (.inr hu) h2
        exact refOk_like hl (h t1 h1)
      | some y =>
        simp only
        obtain ⟨R, cs', l, h1, h2, h3, h4, rfl⟩ := hc.ex
        have hcell : cellR S r' q' o' = digT t y := by
          unfold cellR
          rw [h1]
          exact dig_path h2 h3 hu
        cases hd : digT t y with
        | none => rw [dig_er, hd]; simp [TVc, Ext]
        | some t2 =>
          rw [dig_er, hd]
          simp only [Option.map_some]
          cases he : t2.er with
          | sl g s n cs =>
            simp only
            obtain ⟨g1, g2⟩ := dig_sat y hs hd
            have hr := h t2 (by rw [hcell, hd])
            have hs' : SatT w' X' t2 := sat_move hX _ g1 (fun k hk => (hf k (g2 k hk)).2)
            exact tvc_of_ext (ext_ref (X' := X') (fun _ _ h => h) false he hs' (fun k hk => (hf k (g2 k hk)).1) hr)
          | _ => simp [TVc, Ext]
    · rename_i hr
      intro t2 h2
      obtain ⟨t1, h1, hl⟩ := hc.cell_far (.inl hr) h2
      exact refOk_like hl (h t1 h1)
  | ptr r' q' o' => exact tvc_kill hX hc (ex := true) (by simp) h
  | rptr cs o' => exact rptr_stays hX h
  | _ => simp only [detP]; exact tvc_kill hX hc (ex := true) (by simp) h
end
section
variable {C : Ctx} {H H' : List T} {w w' : World} {S S1 S' : List (Nat × RT)}
theorem mem_write (hm : Mem C w S H) {g : D → D} (hS : SR g S S1) {r : Nat} {q : List Nat} {o : Nat} {t t' : T} (hc : Chg S1 S' r q o t t') {R0 : RT} (hR0 : lk S r = some R0) {b off : Nat} (hbox : q = [] → R0.box = some b ∧ off = 0) (hq : q ≠ [] → addrT R0.box R0.cs q = some (b, off)) (hu : Upd w w' b (off + o) t'.val)
    (hs : SatT w' (Free C w' S' H') t' ∨ ∃ d u, t' = .v d u ∧ q = [] ∧ TVc w' (Free C w' S' H') S' (leafD d) u) (hst : Stays w w' (Free C w S H) (Free C w' S' H'))
    (hnd : (ftS S' ++ ftsT H').Nodup) (hsub : ∀ k ∈ ftS S' ++ ftsT H', k ∈ ftS S ++ ftsT H) (hh : SatL w' (Free C w' S' H') H') (htv : ∀ d u, TVc w (Free C w S H) S d u → TVc w' (Free C w' S' H') S' (g d) u) (hge : ∀ d u, Ext w' (Free C w' S' H') d u → Ext w' (Free C w' S' H') (g d) u) (hsz : w'.heap.size = w.heap.size) : Mem C w' S' H' := by
  have hbS : b ∈ R0.ft := by
    cases q with
    | nil => obtain ⟨h1, _⟩ := hbox rfl; simp [RT.ft, h1]
    | cons p q => simp [RT.ft, addr_mem (hq (by simp))]
  obtain ⟨A0, B0, f1, _⟩ := fts_pt hR0
  have hnd0 := hm.nd
  rw [f1] at hnd0
  have far : ∀ {r1 : Nat} {R1 : RT}, lk S r1 = some R1 → r1 ≠ r → ∀ k ∈ R1.ft, k ≠ b := by
    intro r1 R1 h1 hne k hk e
    subst e
    obtain ⟨A1, B1, e1, e2⟩ := fts_pt hR0
    have hx : lk (pt S r ⟨none, []⟩) r1 = some R1 := by rw [lk_pt_ne _ _ hne]; exact h1
    obtain ⟨A2, B2, e3, _⟩ := fts_pt hx
    have hmem : k ∈ ftS (pt S r ⟨none, []⟩) := by rw [e3]; simp [hk]
    have h0 : (RT.mk none []).ft = [] := rfl
    rw [e2, h0] at hmem
    have hn := hm.nd
    rw [e1] at hn
    simp only [List.append_nil, List.mem_append, List.nodup_append] at hmem hn
    rcases hmem with hmem | hmem
    · exact hn.1.1.2.2 k hmem k hbS rfl
    · exact hn.1.2.2 k (.inr hbS) k hmem rfl
  have hfarT : ∀ t0 : T, SatT w (Free C w S H) t0 → b ∉ t0.ft → SatT w' (Free C w' S' H') t0 := fun t0 h0 hb => sat_move hst _ h0 (fun k hk => by
    obtain ⟨_, _, _, _, _, h3⟩ := hu
    exact h3 k (fun e => hb (e ▸ hk)))
  have cell : ∀ {bx : Bool} {t0 t1 : T}, CellOk w (Free C w S H) S bx t0 → GT g t0 t1 → b ∉ t0.ft → CellOk w' (Free C w' S' H') S' bx t1 := by
    intro bx t0 t1 h0 hg hb
    rcases hg with ⟨d, d1, u, rfl, rfl, he⟩ | ⟨⟨s, n, cap, a, xs, rfl⟩, rfl⟩
    · simp only [CellOk] at h0 ⊢
      rw [he]
      rcases h0 with h0 | ⟨hb, h0⟩
      · exact .inl (hge _ _ (ext_move hst _ _ h0))
      · exact .inr ⟨hb, htv _ _ h0⟩
    · exact hfarT _ h0 hb
  refine ⟨hnd, ?_, hh, fun k hk => by rw [hsz]; exact hm.lt k (hsub k hk)⟩
  intro r' R' hR'
  obtain ⟨R1, cs', l, h1, h2, h3, h4, rfl⟩ := hc.ex
  by_cases he : r' = r
  · subst he
    rw [lk_pt_same, Option.some.injEq] at hR'
    subst hR'
    obtain ⟨R, g1, g2, g3, g4, g5⟩ := hS.cell_own h1
    rw [hR0, Option.some.injEq] at g1
    subst g1
    obtain ⟨k1, k2⟩ := hm.root r' R0 hR0
    have hRnd : R0.ft.Nodup := (List.nodup_append.1 (List.nodup_append.1 (List.nodup_append.1 hnd0).1).1).2.1
    cases q with
    | nil =>
      obtain ⟨hb1, hb2⟩ := hbox rfl
      subst hb2
      simp only [cellsT, Option.some.injEq] at h2
      simp only [modT, Option.some.injEq] at h4
      subst h2; subst h4
      obtain ⟨hlt, hto⟩ := List.getElem?_eq_some_iff.1 h3
      simp only [hb1] at k1
      rw [RT.ft, hb1] at hRnd
      simp only [Option.toList, List.cons_append, List.nil_append, List.nodup_cons] at hRnd
      refine ⟨?_, ?_⟩
      · simp only [List.length_set]
        rw [g2, hb1]
        simp only
        rw [valsT_set, g4, g3]
        exact blk_upd hu (by omega) k1 (by rw [valsT_len]; exact Nat.le_refl _)
      · intro t0 ht0
        obtain ⟨j, hj⟩ := List.mem_iff_getElem?.1 ht0
        simp only at hj
        by_cases hjo : o = j
        · subst hjo
          rw [List.getElem?_set_self hlt, Option.some.injEq] at hj
          subst hj
          rcases hs with hs | ⟨d, u, rfl, _, hs⟩
          · cases t' with
            | v d u => exact .inl hs
            | own s n cap a xs => exact hs
          · exact .inr ⟨by rw [g2, hb1]; rfl, hs⟩
        · rw [List.getElem?_set_ne hjo] at hj
          obtain ⟨t00, e1, e2⟩ := g5 j _ hj
          have := cell (k2 _ (List.mem_of_getElem? e1)) e2 (fun hb => hRnd.1 (by
            obtain ⟨A', B', e3, _⟩ := fts_split R0.cs j _ e1
            rw [e3]; simp [hb]))
          rw [← g2] at this
          exact this
    | cons p q =>
      have ha := hq (by simp)
      have hs' : SatT w' (Free C w' (pt S1 r' ⟨R1.box, cs'⟩) H') t' := by
        rcases hs with hs | ⟨d, u, _, hq, _⟩
        · exact hs
        · simp at hq
      have hvals := (mod_vals h4).1
      have hlen := (mod_vals h4).2
      rw [cellsT] at h2
      rw [modT] at h4
      cases hp : R1.cs[p]? with
      | none => simp [hp] at h2
      | some x =>
        cases x with
        | v d u => simp [hp] at h2
        | own s n cap a xs =>
          simp only [hp] at h2 h4
          cases hx : modT (fun l => l.set o t') xs q with
          | none => simp [hx] at h4
          | some xs' =>
            simp only [hx, Option.some.injEq] at h4
            obtain ⟨t00, e1, e2⟩ := g5 p _ hp
            have e1' : R0.cs[p]? = some (.own s n cap a xs) := by
              rcases e2 with ⟨d, d1, u, _, e2, _⟩ | ⟨_, e2⟩
              · simp at e2
              · rw [e1, e2]
            have hsat : SatT w (Free C w S H) (.own s n cap a xs) := k2 _ (List.mem_of_getElem? e1')
            obtain ⟨A', B', e3, e4⟩ := fts_split R0.cs p _ e1'
            have hnd1 : (ftsT R0.cs).Nodup := by rw [RT.ft] at hRnd; exact (List.nodup_append.1 hRnd).2.1
            have hbx : b ∈ (T.own s n cap a xs).ft := by
              rw [addrT] at ha
              simp only [e1'] at ha
              cases q with
              | nil => simp only at ha; subst ha; simp [T.ft, ftA]
              | cons p' q' => simp only at ha; simp [T.ft, addr_mem ha]
            have hnode : SatT w' (Free C w' (pt S1 r' ⟨R1.box, cs'⟩) H') (.own s n cap a xs') := by
              have h5 : SatL w (Free C w S H) [T.own s n cap a xs] := by simp only [SatL]; exact ⟨hsat, trivial⟩
              have h6 : (ftsT [T.own s n cap a xs]).Nodup := by
                simp only [ftsT, List.append_nil]
                rw [e3] at hnd1
                exact (List.nodup_append.1 (List.nodup_append.1 hnd1).1).2.1
              have h7 : addrT none [T.own s n cap a xs] (0 :: q) = some (b, off) := by
                rw [addrT] at ha
                simp only [e1'] at ha
                simp only [addrT, List.getElem?_cons_zero]
                exact ha
              have h8 := sat_upd (cs' := [T.own s n cap a xs']) (l := l) hst hs' hu (q := q) h5 h6 (by simp only [cellsT, List.getElem?_cons_zero]; exact h2) h7 (List.getElem?_eq_some_iff.1 h3).1 (by simp [modT, hx])
              simp only [SatL] at h8
              exact h8.1
            refine ⟨?_, ?_⟩
            · simp only
              rw [hvals, hlen, g4, g3, g2]
              cases hb : R0.box with
              | none => trivial
              | some b0 =>
                simp only [hb] at k1 ⊢
                refine blk_far hu (fun e => ?_) k1
                subst e
                rw [RT.ft, hb] at hRnd
                simp only [Option.toList, List.cons_append, List.nil_append, List.nodup_cons] at hRnd
                exact hRnd.1 (by rw [e3]; simp [hbx])
            · intro t0 ht0
              subst h4
              obtain ⟨j, hj⟩ := List.mem_iff_getElem?.1 ht0
              simp only at hj
              obtain ⟨hlt, _⟩ := List.getElem?_eq_some_iff.1 hp
              by_cases hjp : p = j
              · subst hjp
                rw [List.getElem?_set_self hlt, Option.some.injEq] at hj
                subst hj
                exact hnode
              · rw [List.getElem?_set_ne hjp] at hj
                obtain ⟨t01, e5, e6⟩ := g5 j _ hj
                have hb2 : b ∉ t01.ft := by
                  intro hb
                  have h7 := e4 (.v .undef undef)
                  have hj' : (R0.cs.set p (.v .undef undef))[j]? = some t01 := by rw [List.getElem?_set_ne hjp]; exact e5
                  obtain ⟨A2, B2, e7, _⟩ := fts_split _ j t01 hj'
                  have hb' : b ∈ ftsT (R0.cs.set p (.v .undef undef)) := by rw [e7]; simp [hb]
                  rw [h7] at hb'
                  rw [e3] at hnd1
                  simp only [T.ft, List.append_nil, List.mem_append] at hb'
                  rw [List.nodup_append, List.nodup_append] at hnd1
                  rcases hb' with hb' | hb'
                  · exact hnd1.1.2.2 b hb' b hbx rfl
                  · exact hnd1.2.2 b (List.mem_append.2 (.inr hbx)) b hb' rfl
                have := cell (k2 _ (List.mem_of_getElem? e5)) e6 hb2
                rw [← g2] at this
                exact this
  · rw [lk_pt_ne _ _ he] at hR'
    obtain ⟨R, g1, g2, g3, g4, g5⟩ := hS.cell_own hR'
    obtain ⟨k1, k2⟩ := hm.root r' R g1
    refine ⟨?_, ?_⟩
    · rw [g4, g3, g2]
      cases hb : R.box with
      | none => trivial
      | some b0 =>
        simp only [hb] at k1 ⊢
        exact blk_far hu (far g1 he b0 (by simp [RT.ft, hb])) k1
    · intro t0 ht0
      obtain ⟨j, hj⟩ := List.mem_iff_getElem?.1 ht0
      obtain ⟨t00, e1, e2⟩ := g5 j _ hj
      have := cell (k2 _ (List.mem_of_getElem? e1)) e2 (fun hb => by
        refine far g1 he b ?_ rfl
        obtain ⟨A', B', e3, _⟩ := fts_split R.cs j _ e1
        rw [RT.ft, e3]; simp [hb])
      rw [← g2] at this
      exact this
end
theorem upd_set {w : World} {b off lim : Nat} {us : List Value} (h : Blk w b off lim us) {o : Nat} (ho : o < lim) (u : Value) : Upd w (w.setCell ⟨b, off + o, none⟩ u) b (off + o) u := by
  obtain ⟨c, e, fz, h1, _, h3, _⟩ := h
  refine ⟨c, e, fz, h1, ?_, fun k hk => ?_⟩
  · simp [World.setCell, Array.getElem?_modify, h1]
  · simp only [World.setCell, Array.getElem?_modify]
    rw [if_neg (by simpa using (Ne.symm hk))]
end Go.Proofs.Ytkejckoefjonjaa
namespace Go.Proofs.Ytkejckoefjonjaa
theorem fts_perm {H H' : List T} (h : H.Perm H') : (ftsT H).Perm (ftsT H') := by
  induction h with
  | nil => exact .refl _
  | cons x _ ih => simp only [ftsT]; exact .append (.refl _) ih
  | swap x y l =>
    simp only [ftsT]
    rw [← List.append_assoc, ← List.append_assoc]
    exact .append List.perm_append_comm (.refl _)
  | trans _ _ h1 h2 => exact h1.trans h2
theorem free_perm {C : Ctx} {w : World} {S : List (Nat × RT)} {H H' : List T} (h : H.Perm H') : Free C w S H = Free C w S H' := by
  funext b k
  simp only [Free, (fts_perm h).mem_iff]
theorem Rel.perm {C : Ctx} {H H' : List T} {w : World} {st : St} {vss : List (Array Value)} {S : List (Nat × RT)} (hp : H.Perm H') (h : Rel C H w st vss S) : Rel C H' w st vss S := by
  have hf := free_perm (C := C) (w := w) (S := S) hp
  have hfp := fts_perm hp
  obtain ⟨h1, ⟨m1, m2, m3, m4⟩, h3, k⟩ := h
  rw [hf] at m2 m3 h3
  refine ⟨h1, ⟨(List.Perm.append (List.Perm.refl (ftS S)) hfp).nodup_iff.1 m1, m2, ?_, fun k hk => m4 k ?_⟩, h3, ⟨k.os, k.tape, k.output, k.size, k.block, fun x hx => k.foot x ?_, k.par⟩⟩
  · rw [satL_iff] at m3 ⊢
    exact fun t ht => m3 t (hp.mem_iff.2 ht)
  · simpa [hfp.mem_iff] using hk
  · simpa [hfp.mem_iff] using hx
def Tells (C : Ctx) (w w' : World) (S S' : List (Nat × RT)) (H H' : List T) (f : D → D) : Prop := ∀ d u, TVc w (Free C w S H) S d u → TVc w' (Free C w' S' H') S' (f d) u
def Same (st st' : St) : Prop := st'.tm = st.tm ∧ st'.up = st.up ∧ st'.of = st.of
theorem Same.refl (st : St) : Same st st := ⟨rfl, rfl, rfl⟩
theorem Same.trans {a b c : St} (h : Same a b) (h' : Same b c) : Same a c := ⟨h'.1.trans h.1, h'.2.1.trans h.2.1, h'.2.2.trans h.2.2⟩
section
variable {C : Ctx} {w : World} {vss : List (Array Value)}
theorem tkL_ok : ∀ {ds ds' : List D} {us : List Value} {H : List T} {st st' : St} {S : List (Nat × RT)}, Rel C H w st vss S → All2 (TVc w (Free C w S H) S) ds us → tkL st ds = some (ds', st') →
    ∃ ts S', Rel C (ts ++ H) w st' vss S' ∧ ersT ts = ds' ∧ valsT ts = us ∧ Tells C w w S S' H (ts ++ H) id ∧ Dom S S' ∧ Same st st' := by
  intro ds
  induction ds with
  | nil =>
    intro ds' us H st st' S h hu ht
    cases hu
    simp only [tkL, Option.some.injEq, Prod.mk.injEq] at ht
    obtain ⟨rfl, rfl⟩ := ht
    exact ⟨[], S, h, rfl, rfl, fun _ _ h => h, Dom.refl _, Same.refl _⟩
  | cons d ds ih =>
    intro ds' us H st st' S h hu ht
    cases hu with
    | cons hu1 hu2 =>
    simp only [tkL] at ht
    split at ht
    case h_2 => simp at ht
    rename_i d1 st1 h1
    split at ht
    case h_2 => simp at ht
    rename_i ds1 st2 h2
    simp only [Option.some.injEq, Prod.mk.injEq] at ht
    obtain ⟨rfl, rfl⟩ := ht
    obtain ⟨t, S1, a1, rfl, rfl, a4, a5, a6, _⟩ := take_ok h hu1 h1
    obtain ⟨ts, S2, b1, rfl, rfl, b4, b5, b6⟩ := ih a1 (hu2.mono (fun _ _ hh => a4 _ _ hh)) h2
    have hp : (ts ++ t :: H).Perm (t :: ts ++ H) := List.perm_middle
    refine ⟨t :: ts, S2, b1.perm hp, by simp [ersT], by simp [valsT], fun d u hd => ?_, a5.trans b5, Same.trans a6 b6⟩
    have := b4 _ _ (a4 d u hd)
    rwa [free_perm hp] at this
end
end Go.Proofs.Ytkejckoefjonjaa
namespace Go.Proofs.Ytkejckoefjonjaa
structure Grown (w w' : World) : Prop where
  sz : w.heap.size ≤ w'.heap.size
  old : ∀ k, k < w.heap.size → w'.heap[k]? = w.heap[k]?
  os : w'.os = w.os
  tape : w'.tape = w.tape
  out : w'.output = w.output
theorem Grown.refl (w : World) : Grown w w := ⟨Nat.le_refl _, fun _ _ => rfl, rfl, rfl, rfl⟩
theorem alloc_size (w : World) (o : Obj) : (w.alloc o).heap.size = w.heap.size + 1 := by
  show (w.heap.push o).size = _
  simp
theorem alloc_new (w : World) (o : Obj) : (w.alloc o).heap[w.heap.size]? = some o := by
  show (w.heap.push o)[w.heap.size]? = _
  simp
theorem Grown.alloc (w : World) (o : Obj) : Grown w (w.alloc o) :=
  ⟨by rw [alloc_size]; omega, fun k hk => by
    show (w.heap.push o)[k]? = _
    simp [Array.getElem?_push, Nat.ne_of_lt hk], rfl, rfl, rfl⟩
theorem Grown.drew (w : World) : Grown w w.drew := ⟨Nat.le_refl _, fun _ _ => rfl, rfl, rfl, rfl⟩
theorem Grown.trans {a b c : World} (h : Grown a b) (h' : Grown b c) : Grown a c :=
  ⟨Nat.le_trans h.sz h'.sz, fun k hk => (h'.old k (Nat.lt_of_lt_of_le hk h.sz)).trans (h.old k hk), h'.os.trans h.os, h'.tape.trans h.tape, h'.out.trans h.out⟩
theorem blk_alloc (w : World) (c : Array Value) (e : TypeId) {us : List Value} {lim : Nat} (h1 : lim ≤ c.size) (h2 : ∀ (j : Nat) (u : Value), us[j]? = some u → c[j]? = some u) : Blk (w.alloc (.cells c e)) w.heap.size 0 lim us :=
  ⟨c, e, (0, 0), alloc_new w _, fun o _ => by simp, by omega, fun j u hj => by rw [Nat.zero_add]; exact h2 j u hj⟩
theorem Rel.put {C : Ctx} {H : List T} {w : World} {st : St} {vs : Array Value} {vss : List (Array Value)} {S : List (Nat × RT)} (h : Rel C H w st (vs :: vss) S) {t : Nat} (ht : t < vs.size) {d : D} {v : Value} (hv : TVt w (Free C w S H) S d v) :
    Rel C H w (st.put (some t) d) (vs.setIfInBounds t v :: vss) S := by
  obtain ⟨h1, h2, h3, h4⟩ := h
  refine ⟨h1, h2, ?_, h4⟩
  cases h3 with
  | cons a b => exact .cons (TMs.put a ht hv) b
section
variable {C : Ctx} {H Hs : List T} {w w' : World} {st st' : St} {vs : Array Value} {vss : List (Array Value)} {S : List (Nat × RT)}
theorem new_root (h : Rel C (Hs ++ H) w st (vs :: vss) S) (hg : Grown w w') {t : Nat} {R : RT} (hft : ∀ k ∈ R.ft, k ∈ ftsT Hs ∨ (w.heap.size ≤ k ∧ k < w'.heap.size)) (hnd : R.ft.Nodup)
    (hR : ∀ S' : List (Nat × RT), Stays w w' (Free C w S (Hs ++ H)) (Free C w' S' H) → (∀ d u, TVc w (Free C w S (Hs ++ H)) S d u → TVc w' (Free C w' S' H) S' (killR (st.of + t) d) u) → RootOk w' (Free C w' S' H) S' R)
    (ht : t < vs.size) (hP : ∀ p ∈ C.P0, p.1 ≠ st.of + t) {d : Nat → D} {v : Value} (hd : ∀ S' X, lk S' (st.of + t) = some R → TVt w' X S' (d (st.of + t)) v) (hr : st.root (some t) (ersT R.cs) d = some st') :
    ∃ S', Rel C H w' st' (vs.setIfInBounds t v :: vss) S' := by
  have hft' : ∀ k ∈ R.ft, k ∈ ftsT Hs ∨ w.heap.size ≤ k := fun k hk => (hft k hk).imp id (·.1)
  have hlt : ∀ k ∈ R.ft, k < w'.heap.size := fun k hk => by
    rcases hft k hk with h1 | h1
    · have := h.mem.lt k (List.mem_append.2 (.inr (by rw [ftsT_app]; exact List.mem_append.2 (.inl h1))))
      have := hg.sz
      omega
    · exact h1.2
  have hst := root_stays (r := st.of + t) h hft' hg.sz hg.old
  have htv := root_tells (r := st.of + t) h hft' hg.sz hg.old
  obtain ⟨h1, _⟩ := root_gen h (hR _ hst htv) ⟨hnd, hft'⟩ hlt hg.sz hg.old hg.os hg.tape hg.out hP
  simp only [St.root, Option.some.injEq] at hr
  subst hr
  exact ⟨_, h1.put ht (hd _ _ (lk_pt_same _ _ _))⟩
theorem new_row (h : Rel C (Hs ++ H) w st (vs :: vss) S) (hg : Grown w w') {t s n cap b : Nat} {ts : List T} (hb : w.heap.size ≤ b ∧ b < w'.heap.size) (hs : SatL w (Free C w S (Hs ++ H)) ts) (hsub : ∀ k ∈ ftsT ts, k ∈ ftsT Hs) (hnd : (ftsT ts).Nodup)
    (hn : n ≤ cap) (hl : ts.length = n * s) (hblk : Blk w' b 0 (cap * s) (valsT ts)) (ht : t < vs.size) (hP : ∀ p ∈ C.P0, p.1 ≠ st.of + t) (hr : st.root (some t) [.sl none s n (ersT ts)] (fun d => .ref d [] 0 none) = some st') :
    ∃ S', Rel C H w' st' (vs.setIfInBounds t (.slice (some ⟨b, 0, none⟩) n cap) :: vss) S' := by
  have hsubS : ∀ k ∈ ftsT ts, k < w.heap.size := fun k hk => h.mem.lt k (List.mem_append.2 (.inr (by rw [ftsT_app]; exact List.mem_append.2 (.inl (hsub k hk)))))
  refine new_root (R := ⟨none, [.own s n cap (some (b, 0)) ts]⟩) h hg ?_ ?_ ?_ ht hP ?_ (by simpa [ersT, T.er] using hr)
  · intro k hk
    simp only [RT.ft, ftsT, T.ft, ftA, Option.toList, List.nil_append, List.append_nil, List.cons_append, List.mem_cons] at hk
    rcases hk with rfl | hk
    · exact .inr hb
    · exact .inl (hsub k hk)
  · simp only [RT.ft, ftsT, T.ft, ftA, Option.toList, List.nil_append, List.append_nil, List.cons_append, List.nodup_cons]
    exact ⟨fun hk => by have := hsubS b hk; omega, hnd⟩
  · intro S' hst htv
    refine ⟨trivial, fun x hx => ?_⟩
    simp only [List.mem_singleton] at hx
    subst hx
    simp only [CellOk, SatT]
    exact ⟨hn, hl, hblk, satL_move hst _ hs (fun k hk => hg.old k (hsubS k hk))⟩
  · intro S' X hl'
    simp only [TVt, TVa, TVc]
    intro x hx
    simp only [cellR, hl', cellsT, List.getElem?_cons_zero, Option.some.injEq] at hx
    subst hx
    simp [RefOk, sn, T.er, T.val, hdr]
theorem new_box (h : Rel C (Hs ++ H) w st (vs :: vss) S) (hg : Grown w w') {t b : Nat} {ts : List T} (hb : w.heap.size ≤ b ∧ b < w'.heap.size)
    (hs : ∀ x ∈ ts, SatT w (Free C w S (Hs ++ H)) x ∨ ∃ d u, x = .v (killR (st.of + t) d) u ∧ TVc w (Free C w S (Hs ++ H)) S d u) (hsub : ∀ k ∈ ftsT ts, k ∈ ftsT Hs) (hnd : (ftsT ts).Nodup)
    (hblk : Blk w' b 0 ts.length (valsT ts)) (ht : t < vs.size) (hP : ∀ p ∈ C.P0, p.1 ≠ st.of + t) (hr : st.root (some t) (ersT ts) (fun d => .ptr d [] 0) = some st') :
    ∃ S', Rel C H w' st' (vs.setIfInBounds t (.pointer (some ⟨b, 0, none⟩)) :: vss) S' := by
  have hsubS : ∀ k ∈ ftsT ts, k < w.heap.size := fun k hk => h.mem.lt k (List.mem_append.2 (.inr (by rw [ftsT_app]; exact List.mem_append.2 (.inl (hsub k hk)))))
  refine new_root (R := ⟨some b, ts⟩) h hg ?_ ?_ ?_ ht hP ?_ hr
  · intro k hk
    simp only [RT.ft, Option.toList, List.cons_append, List.nil_append, List.mem_cons] at hk
    rcases hk with rfl | hk
    · exact .inr hb
    · exact .inl (hsub k hk)
  · simp only [RT.ft, Option.toList, List.cons_append, List.nil_append, List.nodup_cons]
    exact ⟨fun hk => by have := hsubS b hk; omega, hnd⟩
  · intro S' hst htv
    refine ⟨hblk, fun x hx => ?_⟩
    rcases hs x hx with h1 | ⟨d, u, rfl, h1⟩
    · have h2 : SatT w' (Free C w' S' H) x := sat_move hst _ h1 (fun k hk => hg.old k (hsubS k (by
        obtain ⟨i, hi⟩ := List.mem_iff_getElem?.1 hx
        obtain ⟨A, B, e, _⟩ := fts_split ts i x hi
        rw [e]; simp [hk])))
      cases x with
      | v d u => exact .inl h2
      | own s n cap a cs => exact h2
    · have h2 := htv d u h1
      have h3 : leafD (killR (st.of + t) d) = killR (st.of + t) d := by
        cases hd : killR (st.of + t) d with
        | sl g s n cs =>
          rw [hd] at h2
          cases g with
          | none => simp [TVc, Ext] at h2
          | some g => rfl
        | _ => rfl
      simp only [CellOk]
      rw [h3]
      exact .inr ⟨rfl, h2⟩
  · intro S' X hl'
    simp only [TVt, TVa, TVc]
    intro R hR
    rw [hl', Option.some.injEq] at hR
    subst hR
    exact ⟨fun _ => rfl, fun b' off ha => by simp only [addrT, Option.map_some, Option.some.injEq, Prod.mk.injEq] at ha; obtain ⟨rfl, rfl⟩ := ha; rfl⟩
end
end Go.Proofs.Ytkejckoefjonjaa
namespace Go.Proofs.Ytkejckoefjonjaa
theorem zok_leaf {d : D} {u : Value} (h : ZOk d u) : leafD d = d := by
  have h1 := h default (fun _ _ => False)
  cases d with
  | sl g s n cs => cases g with
    | none => simp [Ext] at h1
    | some g => rfl
  | _ => rfl
def leaves (ds : List D) (us : List Value) : List T := List.zipWith T.v ds us
theorem leaves_ok {R : D → Value → Prop} {ds : List D} {us : List Value} (h : All2 R ds us) (hl : ∀ d u, R d u → leafD d = d) : ersT (leaves ds us) = ds ∧ valsT (leaves ds us) = us ∧ ftsT (leaves ds us) = [] ∧ (leaves ds us).length = ds.length ∧ ∀ x ∈ leaves ds us, ∃ d u, x = .v d u ∧ R d u := by
  induction h with
  | nil => simp [leaves, ersT, valsT, ftsT]
  | cons h1 _ ih =>
    obtain ⟨e1, e2, e3, e4, e5⟩ := ih
    simp only [leaves, List.zipWith_cons_cons, ersT, valsT, ftsT, T.er, T.val, T.ft, List.length_cons] at *
    refine ⟨by rw [e1, hl _ _ h1], by rw [e2], by rw [e3]; rfl, by rw [e4], fun x hx => ?_⟩
    simp only [List.mem_cons] at hx
    rcases hx with rfl | hx
    · exact ⟨_, _, rfl, h1⟩
    · exact e5 x hx
theorem zero_row {ds : List D} {us : List Value} (h : All2 ZOk ds us) : ∃ ts, ersT ts = ds.map rowZ ∧ valsT ts = us ∧ ftsT ts = [] ∧ ∀ w X, SatL w X ts := by
  induction h with
  | nil => exact ⟨[], rfl, rfl, rfl, fun _ _ => by simp [SatL]⟩
  | @cons d u _ _ h1 _ ih =>
    obtain ⟨ts, e1, e2, e3, e4⟩ := ih
    have hleaf := zok_leaf h1
    by_cases hn : ∃ s, d = .nil s
    · obtain ⟨s, rfl⟩ := hn
      have hu : u = .slice none 0 0 := h1 default (fun _ _ => False)
      subst hu
      exact ⟨.own s 0 0 none [] :: ts, by simp [ersT, e1, T.er, rowZ], by simp [valsT, e2, T.val, hdr], by simp [ftsT, e3, T.ft, ftA], fun w X => by simp [SatL, SatT, e4]⟩
    · have hr : rowZ d = d := by cases d <;> first | rfl | exact absurd ⟨_, rfl⟩ hn
      exact ⟨.v d u :: ts, by simp [ersT, e1, T.er, hr, hleaf], by simp [valsT, e2, T.val], by simp [ftsT, e3, T.ft], fun w X => by simp only [SatL, SatT]; exact ⟨by rw [hleaf]; exact h1 w X, e4 w X⟩⟩
theorem zero_reps {ds : List D} {us : List Value} (h : All2 ZOk ds us) (n : Nat) : ∃ ts, ersT ts = reps n ds ∧ valsT ts = (List.replicate n us).flatten ∧ ftsT ts = [] ∧ ∀ w X, SatL w X ts := by
  obtain ⟨t0, e1, e2, e3, e4⟩ := zero_row h
  induction n with
  | zero => exact ⟨[], by simp [ersT, reps], by simp [valsT], rfl, fun _ _ => by simp [SatL]⟩
  | succ n ih =>
    obtain ⟨ts, f1, f2, f3, f4⟩ := ih
    refine ⟨t0 ++ ts, ?_, ?_, ?_, fun w X => (satL_app _ _).2 ⟨e4 w X, f4 w X⟩⟩
    · rw [ersT_app, e1, f1]; simp [reps, List.replicate_succ]
    · rw [valsT_app, e2, f2]; simp [List.replicate_succ]
    · rw [ftsT_app, e3, f3]; rfl
theorem made_list (z : Array Value) (n : Nat) : ((List.range (n * z.size)).map fun i => z[i % z.size]!) = (List.replicate n z.toList).flatten := by
  induction n with
  | zero => simp
  | succ n ih =>
    rw [Nat.succ_mul, List.range_add, List.map_append, ih, List.replicate_succ', List.flatten_append]
    congr 1
    simp only [List.map_map, List.flatten_cons, List.flatten_nil, List.append_nil]
    apply List.ext_getElem?
    intro j
    simp only [List.getElem?_map, Array.getElem?_toList]
    by_cases hj : j < z.size
    · simp only [List.getElem?_range hj, Option.map_some, Function.comp_apply, Nat.mul_add_mod_self_right, Nat.mod_eq_of_lt hj]
      rw [getElem!_pos z j hj, Array.getElem?_eq_getElem hj]
    · rw [Array.getElem?_eq_none (by omega), List.getElem?_eq_none (by simp; omega)]
      rfl
theorem made_get (z : Array Value) (n : Nat) (j : Nat) : (madeCells z (n * z.size))[j]? = (List.replicate n z.toList).flatten[j]? := by
  rw [← made_list, ← Array.getElem?_toList]
  simp [madeCells]
theorem reps_prefix {α : Type} (l : List α) {m n : Nat} (h : m ≤ n) {j : Nat} {u : α} (hj : (List.replicate m l).flatten[j]? = some u) : (List.replicate n l).flatten[j]? = some u := by
  have : List.replicate n l = List.replicate m l ++ List.replicate (n - m) l := by rw [List.replicate_append_replicate]; congr 1; omega
  rw [this, List.flatten_append, List.getElem?_append_left (List.getElem?_eq_some_iff.1 hj).1]
  exact hj
section
variable {P : Program} {c : Cfg} (hcfg : CfgOk c P) {C : Ctx} {w : World} {st st' : St} {vs : Array Value} {vss : List (Array Value)} {S : List (Nat × RT)} (h : Rel C [] w st (vs :: vss) S)
include hcfg h
theorem alloc_ok {e : TypeId} {i : TI} (he : c.ty e = some i) {t : Nat} (ht : t < vs.size) (hP : ∀ p ∈ C.P0, p.1 ≠ st.of + t) (hr : st.root (some t) i.zero (fun d => .ptr d [] 0) = some st') :
    ∃ v w', (Instr.alloc e true (.tuple #[])).run P w = .ok v w' ∧ ∃ S', Rel C [] w' st' (vs.setIfInBounds t v :: vss) S' := by
  obtain ⟨inf, h1, h2, h3, z, h4, h5⟩ := (hcfg.ty _ _ he).info
  obtain ⟨e1, e2, e3, e4, e5⟩ := leaves_ok h5 (fun _ _ => zok_leaf)
  have hrun : (Instr.alloc e true (.tuple #[])).run P w = .ok (.pointer (some ⟨w.heap.size, 0, none⟩)) (w.alloc (.cells z.cells e)) := by
    simp [Instr.alloc, run_zero h1 h4, newVar, newRow]
  refine ⟨_, _, hrun, ?_⟩
  refine new_box (Hs := []) h (Grown.alloc w _) (ts := leaves i.zero z.cells.toList) ⟨Nat.le_refl _, by rw [alloc_size]; omega⟩ (fun x hx => .inl ?_) (by rw [e3]; simp) (by rw [e3]; simp) ?_ ht hP (by rw [e1]; exact hr)
  · obtain ⟨d, u, rfl, h6⟩ := e5 x hx
    simp only [SatT]
    rw [zok_leaf h6]
    exact h6 _ _
  · refine blk_alloc w _ _ (by rw [e4, h5.len]; simp) (fun j u hj => ?_)
    rw [e2] at hj
    simpa using hj
theorem makeSlice_ok {t e : TypeId} {ei ti : TI} (ht0 : c.ty t = some ti) (hti : ti.ty = .slice e) (he : c.ty e = some ei) {kl kc : IntKind} {l cp : Int} (h0 : 0 ≤ l) (hlc : l ≤ cp) (hb : 0 < ei.bytes ∧ cp * ei.bytes ≤ 140737488355328)
    {d : Nat} (ht : d < vs.size) (hP : ∀ p ∈ C.P0, p.1 ≠ st.of + d) (hr : st.root (some d) [.sl none ei.size l.toNat (reps l.toNat ei.zero)] (fun d => .ref d [] 0 none) = some st') :
    ∃ v w', (Instr.makeSlice t (.int kl l) (.int kc cp)).run P w = .ok v w' ∧ ∃ S', Rel C [] w' st' (vs.setIfInBounds d v :: vss) S' := by
  obtain ⟨inf, h1, h2, h3, z, h4, h5⟩ := (hcfg.ty _ _ he).info
  have hzl := (hcfg.ty _ _ he).len
  obtain ⟨dd, g1, g2⟩ := (hcfg.ty _ _ ht0).desc
  rw [hti] at g2
  simp only [TyD] at g2
  subst g2
  have hcp : cp ≤ 140737488355328 := by
    have : cp * 1 ≤ cp * ei.bytes := Int.mul_le_mul_of_nonneg_left (by omega) (by omega)
    omega
  have hrun := run_make (P := P) w t e inf z g1 h1 h4 kl kc l cp h0 hlc (by rw [h3, Int.mul_comm]; omega) (by omega)
  refine ⟨_, _, hrun, ?_⟩
  obtain ⟨ts, e1, e2, e3, e4⟩ := zero_reps h5 l.toNat
  have hzs : z.cells.size = ei.size := by rw [← hzl, h5.len]; simp
  have hlen : ts.length = l.toNat * ei.size := by
    have := congrArg List.length e2
    rw [valsT_len] at this
    simp only [List.length_flatten, List.map_replicate, List.sum_replicate_nat, Array.length_toList, hzs] at this
    exact this
  rw [← e1] at hr
  refine new_row (Hs := []) h (Grown.alloc w _) (ts := ts) ⟨Nat.le_refl _, by rw [alloc_size]; omega⟩ (e4 _ _) (by rw [e3]; simp) (by rw [e3]; simp) (by omega) hlen ?_ ht hP hr
  refine blk_alloc w _ _ (by rw [size_madeCells, h2]; exact Nat.le_refl _) (fun j u hj => ?_)
  rw [e2] at hj
  rw [h2, ← hzs, made_get]
  exact reps_prefix _ (by omega) hj
end
end Go.Proofs.Ytkejckoefjonjaa
namespace Go.Proofs.Ytkejckoefjonjaa
def putG {α : Type} : List α → Nat → List α → List α
  | cs, _, [] => cs
  | cs, o, d :: ds => putG (cs.set o d) (o + 1) ds
theorem putCells_eq : ∀ (ds cs : List D) (o : Nat), putCells cs o ds = putG cs o ds
  | [], _, _ => rfl
  | d :: ds, cs, o => by simp only [putCells, putG]; exact putCells_eq ds _ _
theorem putG_map {α β : Type} (f : α → β) : ∀ (ds cs : List α) (o : Nat), (putG cs o ds).map f = putG (cs.map f) o (ds.map f)
  | [], _, _ => rfl
  | d :: ds, cs, o => by simp only [putG, List.map_cons, ← List.map_set]; exact putG_map f ds _ _
theorem putG_len {α : Type} : ∀ (ds cs : List α) (o : Nat), (putG cs o ds).length = cs.length
  | [], _, _ => rfl
  | d :: ds, cs, o => by simp only [putG]; rw [putG_len ds]; simp
theorem fold_put (off : Nat) : ∀ (l : List Value) (k : Nat) (arr : Array Value), ((l.zipIdx k).foldl (fun cs (x : Value × Nat) => cs.setIfInBounds (off + x.2) x.1) arr).toList = putG arr.toList (off + k) l
  | [], _, _ => rfl
  | v :: l, k, arr => by
    simp only [List.zipIdx_cons, List.foldl_cons, putG]
    rw [fold_put off l (k + 1)]
    simp [Nat.add_assoc]
theorem fold_cells (off : Nat) (v arr : Array Value) : (v.zipIdx.foldl (fun cs (x : Value × Nat) => cs.setIfInBounds (off + x.2) x.1) arr).toList = putG arr.toList off v.toList := by
  rw [← Array.foldl_toList, Array.toList_zipIdx]
  exact fold_put off v.toList 0 arr
def fillG {α : Type} (place : Nat → Option (Nat × Nat)) : List α → List (Nat × List α) → Option (List α)
  | cs, [] => some cs
  | cs, (i, vs) :: rest => match place i with
    | some (o, k) => if vs.length = k ∧ o + vs.length ≤ cs.length then fillG place (putG cs o vs) rest else none
    | none => none
theorem fillD_oks {ok : D → Bool} {place : Nat → Option (Nat × Nat)} : ∀ {parts : List (Nat × List D)} {cs ds : List D}, fillD ok place cs parts = some ds → ∀ p ∈ parts, ∀ d ∈ p.2, ok d = true := by
  intro parts
  induction parts with
  | nil => intro cs ds _ p hp; simp at hp
  | cons p parts ih =>
    intro cs ds h q hq
    obtain ⟨i, vs⟩ := p
    simp only [fillD] at h
    split at h
    case h_2 => simp at h
    split at h
    case isFalse => simp at h
    rename_i hc
    rcases List.mem_cons.1 hq with rfl | hq
    · exact fun d hd => List.all_eq_true.1 hc.2.2 d hd
    · exact ih h q hq
theorem fillD_G {α : Type} (er : α → D) {ok : D → Bool} {place : Nat → Option (Nat × Nat)} : ∀ {parts : List (Nat × List α)} {cs : List α} {ds : List D}, fillD ok place (cs.map er) (parts.map fun p => (p.1, p.2.map er)) = some ds → ∃ cs', fillG place cs parts = some cs' ∧ cs'.map er = ds := by
  intro parts
  induction parts with
  | nil => intro cs ds h; simp only [List.map_nil, fillD, Option.some.injEq] at h; exact ⟨cs, rfl, h⟩
  | cons p parts ih =>
    intro cs ds h
    obtain ⟨i, vs⟩ := p
    simp only [List.map_cons, fillD] at h
    simp only [fillG]
    split at h
    case h_2 => simp at h
    rename_i o k hp
    try rw [hp]
    split at h
    case isFalse => simp at h
    rename_i hc
    simp only [List.length_map] at hc
    rw [putCells_eq, ← putG_map] at h
    simp only [hc.1, hc.2.1]
    rw [hc.1] at hc
    simpa [hc.2.1] using ih h
theorem fillG_fill {α : Type} (val : α → Value) {place : Nat → Option (Nat × Nat)} : ∀ {parts : List (Nat × List α)} {vparts : List (Nat × Value)} {cs cs' : List α} {arr : Array Value}, All2 (fun p q => q.1 = p.1 ∧ q.2.cells.toList = p.2.map val) parts vparts → fillG place cs parts = some cs' → arr.toList = cs.map val →
    ∃ arr', Instr.fill place arr vparts = some arr' ∧ arr'.toList = cs'.map val := by
  intro parts
  induction parts with
  | nil =>
    intro vparts cs cs' arr h1 h2 h3
    cases h1
    simp only [fillG, Option.some.injEq] at h2
    subst h2
    exact ⟨arr, rfl, h3⟩
  | cons p parts ih =>
    intro vparts cs cs' arr h1 h2 h3
    obtain ⟨i, vs⟩ := p
    cases h1 with
    | cons hp hrest =>
    rename_i q qs
    obtain ⟨j, v⟩ := q
    obtain ⟨rfl, hv⟩ := hp
    simp only [fillG] at h2
    split at h2
    case h_2 => simp at h2
    rename_i o k hpl
    split at h2
    case isFalse => simp at h2
    rename_i hc
    have hvs : v.cells.size = vs.length := by have := congrArg List.length hv; simpa using this
    have has : arr.size = cs.length := by have := congrArg List.length h3; simpa using this
    simp only [Instr.fill, hpl]
    rw [if_neg (by simp only [Bool.or_eq_true, decide_eq_true_eq, hvs, has, not_or]; exact ⟨by simpa using hc.1, by omega⟩)]
    refine ih hrest h2 ?_
    rw [fold_cells, h3, hv, ← putG_map]
theorem putG_mem {α : Type} : ∀ {ds cs : List α} {o : Nat} {x : α}, x ∈ putG cs o ds → x ∈ cs ∨ x ∈ ds := by
  intro ds
  induction ds with
  | nil => intro cs o x h; exact .inl h
  | cons d ds ih =>
    intro cs o x h
    rcases ih h with h | h
    · rcases List.mem_or_eq_of_mem_set h with h | h
      · exact .inl h
      · exact .inr (by simp [h])
    · exact .inr (by simp [h])
theorem fillG_mem {α : Type} {place : Nat → Option (Nat × Nat)} : ∀ {parts : List (Nat × List α)} {cs cs' : List α}, fillG place cs parts = some cs' → (∀ x ∈ cs', x ∈ cs ∨ ∃ p ∈ parts, x ∈ p.2) ∧ cs'.length = cs.length := by
  intro parts
  induction parts with
  | nil => intro cs cs' h; simp only [fillG, Option.some.injEq] at h; subst h; exact ⟨fun x hx => .inl hx, rfl⟩
  | cons p parts ih =>
    intro cs cs' h
    obtain ⟨i, vs⟩ := p
    simp only [fillG] at h
    split at h
    case h_2 => simp at h
    split at h
    case isFalse => simp at h
    obtain ⟨h1, h2⟩ := ih h
    refine ⟨fun x hx => ?_, h2.trans (putG_len _ _ _)⟩
    rcases h1 x hx with h3 | ⟨p, h3, h4⟩
    · rcases putG_mem h3 with h4 | h4
      · exact .inl h4
      · exact .inr ⟨_, List.mem_cons_self, h4⟩
    · exact .inr ⟨p, List.mem_cons_of_mem _ h3, h4⟩
theorem putG_foot : ∀ {ds cs : List T} {o : Nat} {B : List Nat}, (ftsT cs ++ ftsT ds ++ B).Nodup → (ftsT (putG cs o ds) ++ B).Nodup ∧ ∀ k ∈ ftsT (putG cs o ds), k ∈ ftsT cs ∨ k ∈ ftsT ds := by
  intro ds
  induction ds with
  | nil => intro cs o B h; simpa [putG, ftsT] using h
  | cons d ds ih =>
    intro cs o B h
    simp only [putG]
    have key : (ftsT (cs.set o d) ++ ftsT ds ++ B).Nodup ∧ ∀ k ∈ ftsT (cs.set o d), k ∈ ftsT cs ∨ k ∈ d.ft := by
      by_cases ho : o < cs.length
      · obtain ⟨A, Z, e1, e2⟩ := fts_split cs o _ (List.getElem?_eq_getElem ho)
        rw [e2 d]
        refine ⟨?_, fun k hk => ?_⟩
        · rw [e1, ftsT] at h
          have p1 : (A ++ cs[o].ft ++ Z ++ (d.ft ++ ftsT ds) ++ B).Perm (cs[o].ft ++ (A ++ d.ft ++ Z ++ ftsT ds ++ B)) := by
            refine List.perm_iff_count.2 fun a => ?_
            simp only [List.count_append]
            omega
          exact (List.nodup_append.1 (p1.nodup_iff.1 h)).2.1
        · rw [e1]
          simp only [List.mem_append] at hk ⊢
          rcases hk with (hk | hk) | hk
          · exact .inl (.inl (.inl hk))
          · exact .inr hk
          · exact .inl (.inr hk)
      · rw [List.set_eq_of_length_le (by omega)]
        refine ⟨?_, fun k hk => .inl hk⟩
        rw [ftsT] at h
        have p1 : (ftsT cs ++ (d.ft ++ ftsT ds) ++ B).Perm (d.ft ++ (ftsT cs ++ ftsT ds ++ B)) := by
          refine List.perm_iff_count.2 fun a => ?_
          simp only [List.count_append]
          omega
        exact (List.nodup_append.1 (p1.nodup_iff.1 h)).2.1
    obtain ⟨h1, h2⟩ := ih key.1
    refine ⟨h1, fun k hk => ?_⟩
    rcases h2 k hk with h3 | h3
    · rcases key.2 k h3 with h4 | h4
      · exact .inl h4
      · exact .inr (by simp [ftsT, h4])
    · exact .inr (by simp [ftsT, h3])
theorem fillG_foot {place : Nat → Option (Nat × Nat)} : ∀ {parts : List (Nat × List T)} {cs cs' : List T}, fillG place cs parts = some cs' → (ftsT cs ++ ftsT (parts.flatMap (·.2))).Nodup → (ftsT cs').Nodup ∧ ∀ k ∈ ftsT cs', k ∈ ftsT cs ∨ k ∈ ftsT (parts.flatMap (·.2)) := by
  intro parts
  induction parts with
  | nil => intro cs cs' h hn; simp only [fillG, Option.some.injEq] at h; subst h; simpa [ftsT] using hn
  | cons p parts ih =>
    intro cs cs' h hn
    obtain ⟨i, vs⟩ := p
    simp only [fillG] at h
    split at h
    case h_2 => simp at h
    rename_i o k hp
    split at h
    case isFalse => simp at h
    simp only [List.flatMap_cons, ftsT_app, ← List.append_assoc] at hn
    obtain ⟨g1, g2⟩ := putG_foot (o := o) hn
    obtain ⟨h1, h2⟩ := ih h g1
    refine ⟨h1, fun k hk => ?_⟩
    simp only [List.flatMap_cons, ftsT_app, List.mem_append]
    rcases h2 k hk with h3 | h3
    · rcases g2 k h3 with h4 | h4
      · exact .inl h4
      · exact .inr (.inl h4)
    · exact .inr (.inr h3)
end Go.Proofs.Ytkejckoefjonjaa
namespace Go.Proofs.Ytkejckoefjonjaa
section
variable {C : Ctx} {w : World} {S : List (Nat × RT)} {st : St}
theorem ext_one {X : Bool → Nat → Prop} {d : D} {u : Value} (h : Ext w X d u) (hc : cellish d = true) : u.oneCell' = true ∧ u.cells = #[u] := by
  cases d with
  | int k n => have : u = .int k n := h; subst this; exact ⟨rfl, rfl⟩
  | bool b => have : u = .bool b := h; subst this; exact ⟨rfl, rfl⟩
  | str s => have : u = .string s := h; subst this; exact ⟨rfl, rfl⟩
  | nil s => have : u = .slice none 0 0 := h; subst this; exact ⟨rfl, rfl⟩
  | sl g s n cs =>
    cases g with
    | none => simp [Ext] at h
    | some g =>
      simp only [Ext] at h
      obtain ⟨base, cap, us, rfl, _⟩ := h
      exact ⟨rfl, rfl⟩
  | ref r q o x => simp [Ext] at h
  | ptr r q o => simp [Ext] at h
  | rptr cs o => simp [Ext] at h
  | _ => simp [cellish] at hc
theorem one_tree {X : Bool → Nat → Prop} {t : T} (h : SatT w X t) (hc : cellish t.er = true) : t.val.oneCell' = true ∧ t.val.cells = #[t.val] := by
  cases t with
  | own s n cap a cs => exact ⟨rfl, rfl⟩
  | v d u => exact ext_one h hc
theorem one_ok (hrt : RtEq st.rt S) (hm : Mem C w S []) {d : D} {u : Value} (hd : TVc w (Free C w S []) S d u) (hok : okCell st d = true) : u.oneCell' = true ∧ u.cells = #[u] := by
  cases d with
  | ref r q o x =>
    simp only [okCell] at hok
    split at hok
    · rename_i g s n cs hc
      have := (sl_ok hrt hm (tvt_of_tvc hd) (g := g) (s := s) (n := (trim x s n cs).1) (cs := (trim x s n cs).2) (by simp [St.sl?, hc])).ok
      obtain ⟨base, cap, rfl, _⟩ := this
      exact ⟨rfl, rfl⟩
    · simp at hok
  | ptr r q o =>
    simp only [okCell] at hok
    obtain ⟨R, b, off, _, _, rfl⟩ := live_at hrt hm hok (tvt_of_tvc hd)
    exact ⟨rfl, rfl⟩
  | rptr cs o =>
    obtain ⟨b, off, c, e, fz, us, rfl, _⟩ := hd
    exact ⟨rfl, rfl⟩
  | _ => exact ext_one hd hok
theorem cells_ok (hrt : RtEq st.rt S) (hm : Mem C w S []) {d : D} {u : Value} (hd : TVt w (Free C w S []) S d u) (hok : ∀ x ∈ cellsOf d, okCell st x = true) : All2 (TVc w (Free C w S []) S) (cellsOf d) u.cells.toList := by
  by_cases ha : ∃ cs, d = .agg cs
  · obtain ⟨cs, rfl⟩ := ha
    obtain ⟨us, rfl, h⟩ := hd
    exact h
  · have hc : cellsOf d = [d] := by cases d <;> first | rfl | exact absurd ⟨_, rfl⟩ ha
    rw [hc] at hok ⊢
    have ho := hok d (by simp)
    have hd' : TVc w (Free C w S []) S d u := by
      cases d <;> first | exact hd | (simp [okCell, cellish] at ho; done) | exact absurd ⟨_, rfl⟩ ha
    rw [(one_ok hrt hm hd' ho).2]
    exact .cons hd' .nil
end
theorem all2_pairs {α β : Type} {R : α → β → Prop} {as9 : List α} {bs : List β} (h : All2 R as9 bs) : ∃ l : List (α × β), l.map Prod.fst = as9 ∧ l.map Prod.snd = bs ∧ ∀ x ∈ l, R x.1 x.2 := by
  induction h with
  | nil => exact ⟨[], rfl, rfl, by simp⟩
  | @cons a b _ _ h1 _ ih =>
    obtain ⟨l, e1, e2, e3⟩ := ih
    exact ⟨(a, b) :: l, by simp [e1], by simp [e2], fun x hx => by
      rcases List.mem_cons.1 hx with rfl | hx
      · exact h1
      · exact e3 x hx⟩
theorem pairs_all2 {α β : Type} {R : α → β → Prop} : ∀ (l : List (α × β)), (∀ x ∈ l, R x.1 x.2) → All2 R (l.map Prod.fst) (l.map Prod.snd)
  | [], _ => .nil
  | x :: l, h => .cons (h x (by simp)) (pairs_all2 l (fun y hy => h y (by simp [hy])))
theorem places_ok {P : Program} : ∀ {fs : List Field} {szs : List Nat}, szs.length = fs.length → (∀ (j : Nat) (f : Field), fs[j]? = some f → ∃ i, P.info? f.type = some i ∧ i.size ≠ 0 ∧ szs[j]? = some i.size) →
    fs.mapM (fun f => (P.info? f.type).map fun i => (f.offset, i.size)) = some ((fs.map (·.offset)).zip szs) := by
  intro fs
  induction fs with
  | nil => intro szs h _; rfl
  | cons f fs ih =>
    intro szs hl h
    cases szs with
    | nil => simp at hl
    | cons k szs =>
      obtain ⟨i, h1, _, h2⟩ := h 0 f rfl
      simp only [List.getElem?_cons_zero, Option.some.injEq] at h2
      subst h2
      have := ih (szs := szs) (by simpa using hl) (fun j f hj => by simpa using h (j + 1) f (by simpa using hj))
      simp [List.mapM_cons, h1, this]
section
variable {P : Program} {c : Cfg} (hcfg : CfgOk c P) {C : Ctx} {w : World} {st st' : St} {a : Act} {vss : List (Array Value)} {S : List (Nat × RT)} (h : Rel C [] w st (a.tmps :: vss) S)
include h
theorem parts_ok : ∀ (ps : List (Nat × Operand)), (∀ p ∈ ps.map (fun p => (p.1, cellsOf (evD c st 0 p.2))), ∀ d ∈ p.2, okCell st d = true) →
    ∃ pp : List (Nat × List (D × Value)), pp.map (fun p => (p.1, p.2.map Prod.fst)) = ps.map (fun p => (p.1, cellsOf (evD c st 0 p.2))) ∧ All2 (fun p q => q.1 = p.1 ∧ q.2.cells.toList = p.2.map Prod.snd) pp (ps.map fun p => (p.1, a.eval p.2)) ∧
      ∀ p ∈ pp, ∀ x ∈ p.2, TVc w (Free C w S []) S x.1 x.2 := by
  have htm : TMs w (Free C w S []) S st.tm a.tmps := by cases h.tms with | cons a _ => exact a
  intro ps
  induction ps with
  | nil => intro _; exact ⟨[], rfl, .nil, by simp⟩
  | cons p ps ih =>
    intro hok
    obtain ⟨pp, e1, e2, e3⟩ := ih (fun q hq => hok q (by simp only [List.map_cons, List.mem_cons]; exact .inr hq))
    have h1 := cells_ok h.rt h.mem (ev_ok (c := c) htm 0 p.2) (hok _ (by simp only [List.map_cons, List.mem_cons]; exact .inl rfl))
    obtain ⟨l, f1, f2, f3⟩ := all2_pairs h1
    refine ⟨(p.1, l) :: pp, by simp [e1, f1], .cons ⟨rfl, f2.symm⟩ e2, fun q hq => ?_⟩
    rcases List.mem_cons.1 hq with rfl | hq
    · exact f3
    · exact e3 q hq
include hcfg
theorem build_gen {t : TypeId} {ti : TI} (ht : c.ty t = some ti) {place : Nat → Option (Nat × Nat)} {ps : Array (Nat × Operand)} {cs : List D} (hf : fillD (okCell st) place ti.zero (ps.toList.map fun p => (p.1, cellsOf (evD c st 0 p.2))) = some cs)
    (hb : ∀ (z : Value) (vparts : List (Nat × Value)), (∀ i, P.info? t = some i → i.zero = some z) → P.built t vparts = Instr.fill place z.cells vparts) :
    ∃ v, (∀ w : World, (Instr.build t (ps.map fun (i, x) => (i, a.eval x))).run P w = .ok v w) ∧ TVt w (Free C w S []) S (.agg cs) v := by
  obtain ⟨inf, h1, h2, h3, z, h4, h5⟩ := (hcfg.ty _ _ ht).info
  obtain ⟨pp, e1, e2, e3⟩ := parts_ok (c := c) h ps.toList (fillD_oks hf)
  obtain ⟨zz, f1, f2, f3⟩ := all2_pairs h5
  rw [← e1, ← f1] at hf
  obtain ⟨cs', g1, g2⟩ := fillD_G Prod.fst hf
  obtain ⟨arr, k1, k2⟩ := fillG_fill Prod.snd e2 g1 f2.symm
  refine ⟨.agg arr, fun w => run_build w t _ arr ?_, ?_⟩
  · rw [hb z _ (fun i hi => by rw [h1, Option.some.injEq] at hi; subst hi; exact h4)]
    rw [← k1]
    simp
  · refine ⟨arr, rfl, ?_⟩
    rw [← g2, k2]
    refine pairs_all2 _ (fun x hx => ?_)
    rcases (fillG_mem g1).1 x hx with h6 | ⟨p, h6, h7⟩
    · exact tvc_of_ext (f3 x h6 w _)
    · exact e3 p h6 x h7
theorem build_struct {t : TypeId} {offs szs : List Nat} {sz by_ : Nat} {z : List D} (ht : c.ty t = some ⟨.struct offs szs, sz, by_, z⟩) {ps : Array (Nat × Operand)} {cs : List D}
    (hf : fillD (okCell st) (fun i => match offs[i]?, szs[i]? with | some o, some k => some (o, k) | _, _ => none) z (ps.toList.map fun p => (p.1, cellsOf (evD c st 0 p.2))) = some cs) :
    ∃ v, (∀ w : World, (Instr.build t (ps.map fun (i, x) => (i, a.eval x))).run P w = .ok v w) ∧ TVt w (Free C w S []) S (.agg cs) v := by
  refine build_gen hcfg h ht hf (fun zv vparts hz => ?_)
  obtain ⟨inf, h1, _⟩ := (hcfg.ty _ _ ht).info
  obtain ⟨dd, g1, fs, rfl, g2, g3, g4⟩ := (hcfg.ty _ _ ht).desc
  simp only [Program.built, h1, g1, hz inf h1, places_ok g3 g4]
  congr 1
  funext i
  simp only [List.getElem?_toArray, List.zip_eq_zipWith, List.getElem?_zipWith, ← g2]
  cases offs[i]? with
  | none => rfl
  | some o => cases szs[i]? <;> rfl
theorem build_array {t e : TypeId} {n : Nat} {sz by_ : Nat} {z : List D} {ei : TI} (ht : c.ty t = some ⟨.array n e, sz, by_, z⟩) (he : c.ty e = some ei) {ps : Array (Nat × Operand)} {cs : List D}
    (hf : fillD (okCell st) (fun i => some (i * ei.size, ei.size)) z (ps.toList.map fun p => (p.1, cellsOf (evD c st 0 p.2))) = some cs) :
    ∃ v, (∀ w : World, (Instr.build t (ps.map fun (i, x) => (i, a.eval x))).run P w = .ok v w) ∧ TVt w (Free C w S []) S (.agg cs) v := by
  refine build_gen hcfg h ht hf (fun zv vparts hz => ?_)
  obtain ⟨inf, h1, _⟩ := (hcfg.ty _ _ ht).info
  obtain ⟨inf2, h2, h3, _⟩ := (hcfg.ty _ _ he).info
  obtain ⟨dd, g1, rfl⟩ := (hcfg.ty _ _ ht).desc
  simp only [Program.built, h1, g1, hz inf h1, h2, h3]
end
end Go.Proofs.Ytkejckoefjonjaa
