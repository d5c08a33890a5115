/- What these proofs stand on, part 1: an abstract machine on plain data, its soundness, and the contracts of functions. -/
import Derived.Orders
import Derived.LoopN
import Derived.WalkKit
import Derived.Deep.AppendSrc
import Derived.Great.BuildSlice
set_option linter.all false
set_option linter.unusedSimpArgs false
set_option linter.unusedVariables false
set_option linter.unnecessarySimpa false
set_option linter.unusedSectionVars false
namespace Go.Proofs.YtockoilcnmljiaaGreat
inductive D where
  | int (k:IntKind) (n:Int)
  | bool (b:Bool)
  | str (s:ByteArray)
  | sl (g:Option Bool) (s n:Nat) (cs:List D)
  | ref (r:Nat) (q:List Nat) (o:Nat) (x:Option (Nat × Nat))
  | nil (s:Nat)
  | agg (cs:List D)
  | bf (vs:List D)
  | fn (f:FuncId) (gP:List D)
  | ptr (r:Nat) (q:List Nat) (o:Nat)
  | cr (cs:List D) (o:Nat)
  | bp (cs:List D)
  | hole (s n:Nat)
  | undef
  deriving Inhabited
def lk {α:Type}:List (Nat × α)→Nat→Option α
  | [],_=>none
  | (j,v)::t,k=>if j=k then some v else lk t k
def pt {α:Type}:List (Nat × α)→Nat→α→List (Nat × α)
  | [],k,v=>[(k,v)]
  | (j,u)::t,k,v=>if j=k then (k,v)::t else (j,u)::pt t k v
def pz {α:Type}:List (Nat × α)→Nat→α→List (Nat × α)
  | [],k,v=>[(k,v)]
  | (j,u)::t,k,v=>if j < k then (j,u)::pz t k v else if j=k then (k,v)::t else (k,v)::(j,u)::t
structure St where
  tm:List (Nat × D)
  rt:List (Nat × List D)
  up:List (List (Nat × D)):=[]
  of:Nat:=0
def St.get (st:St) (t:Nat):D:=(lk st.tm t).getD .undef
def St.put (st:St) (dst:Option Nat) (d:D):St:=
  match dst with
  | some t=>{ st with tm:=pz st.tm t d }
  | none=>st
inductive Ty where
  | int (k:IntKind) | bool | str | slice (e:TypeId) | array (n:Nat) (e:TypeId) | struct (mb szs:List Nat) | ptr (e:TypeId) | fn | other
structure TI where
  ty:Ty
  size:Nat
  bytes:Nat
  zero:List D
structure cD where
  ty:TypeId→Option TI
  ext:FuncId→Option (List D→Option (D × List D))
  own:FuncId→List Bool
  inl:FuncId→Bool
  qW:FuncId→Nat→Bool
  nm:FuncId→Nat→Option (List Nat × List Nat)
  gone:FuncId→List Bool
  base:FuncId→Nat→Option Nat
  zy:FuncId→Nat→List Nat
def cD.esz (c:cD) (t:TypeId):Nat:=
  match c.ty t with
  | some ⟨.slice e,_,_,_⟩=>match c.ty e with | some i=>i.size | none=>0
  | _=>0
def mc:List D→List Nat→Option (List D)
  | cs,[]=>some cs
  | cs,o::q=>match cs[o]? with
    | some (.sl none _ _ xs)=>mc xs q
    | _=>none
def pU (f:List D→List D):List D→List Nat→Option (List D)
  | cs,[]=>some (f cs)
  | cs,o::q=>match cs[o]? with
    | some (.sl none s n xs)=>match pU f xs q with
      | some kI=>some (cs.set o (.sl none s n kI))
      | none=>none
    | _=>none
def St.cells (st:St) (r:Nat) (q:List Nat):Option (List D):=
  match lk st.rt r with
  | some cs=>mc cs q
  | none=>none
def St.cell (st:St) (r:Nat) (q:List Nat) (o:Nat):Option D:=
  match st.cells r q with
  | some cs=>cs[o]?
  | none=>none
def under (q:List Nat) (x:List Nat):Option (List Nat):=
  match q,x with
  | [],x=>some x
  | p::ps,y::ys=>if p=y then under ps ys else none
  | _::_,[]=>none
def trim (x:Option (Nat × Nat)) (s n:Nat) (cs:List D):Nat × List D:=
  match x with
  | none=>(n,cs)
  | some (l,m)=>(m,(cs.drop (l*s)).take (m*s))
def cH (r:Nat):D→D
  | .ref r' q o x=>if r'=r then .undef else .ref r' q o x
  | .ptr r' q o=>if r'=r then .undef else .ptr r' q o
  | d=>d
def eB (r:Nat):D→D
  | .ref r' q o x=>if r'=r then .undef else .ref r' q o x
  | .ptr r' (p::q) o=>if r'=r then .undef else .ptr r' (p::q) o
  | d=>d
def cA (r:Nat) (q:List Nat) (o:Nat) (exact:Bool):D→D
  | .ref r' q' o' x=>if r'=r then
      match under (q++[o]) (q'++[o']) with
      | none=>.ref r' q' o' x
      | some []=>if exact then .undef else .ref r' q' o' x
      | some (_::_)=>.undef
    else .ref r' q' o' x
  | .ptr r' q' o'=>if r'=r then
      match under (q++[o]) q' with
      | none=>.ptr r' q' o'
      | some _=>.undef
    else .ptr r' q' o'
  | d=>d
def so (r:Nat) (q:List Nat) (o:Nat) (r1:Nat) (q1:List Nat) (o1:Nat):D→D
  | .ref r' q' o' x=>if r'=r then
      match under (q++[o]) (q'++[o']) with
      | none=>.ref r' q' o' x
      | some []=>.ref r1 q1 o1 x
      | some (_::_)=>.undef
    else .ref r' q' o' x
  | .ptr r' q' o'=>if r'=r then
      match under (q++[o]) q' with
      | none=>.ptr r' q' o'
      | some _=>.undef
    else .ptr r' q' o'
  | d=>d
def fr (f:D→D):D→D
  | .agg cs=>.agg (cs.map f)
  | .fn g cs=>.fn g (cs.map f)
  | d=>f d
def pC (f:D→D):D→D
  | .bf vs=>.bf (vs.map (fr f))
  | d=>fr f d
def gg {α:Type} (f:α→α):List (Nat × α)→List (Nat × α)
  | []=>[]
  | (k,v)::t=>(k,f v)::gg f t
def St.fc (f:D→D) (st:St):St:={ st with tm:=gg (pC f) st.tm,rt:=gg (List.map (fr f)) st.rt,up:=st.up.map (gg (pC f)) }
def St.Zx (f g:D→D) (st:St):St:={ st with tm:=gg (pC f) st.tm,rt:=gg (List.map (fr g)) st.rt,up:=st.up.map (gg (pC f)) }
def gQ:D→Bool
  | .sl ..=>true
  | _=>false
def sn:D→Option (Nat × Nat)
  | .sl _ s n _=>some (s,n)
  | .hole s n=>some (s,n)
  | _=>none
def iU:D→Bool
  | .sl none _ _ _=>true
  | _=>false
mutual
def dN (b:Bool):D→D
  | .sl none s n cs=>.sl (some b) s n (ba b cs)
  | d=>d
def ba (b:Bool):List D→List D
  | []=>[]
  | d::ds=>dN b d::ba b ds
end
def lG {α β:Type} (f:α→Option β):List α→Option (List β)
  | []=>some []
  | a::as9=>match f a with
    | some b=>match lG f as9 with
      | some bs=>some (b::bs)
      | none=>none
    | none=>none
def uH (st:St):D→Option D
  | .int k n=>some (.int k n)
  | .bool b=>some (.bool b)
  | .str s=>some (.str s)
  | .nil s=>some (.nil s)
  | .sl g s n cs=>some (dN true (.sl g s n cs))
  | .ref r q o x=>match st.cell r q o with
    | some (.sl g s n cs)=>some (dN true (.sl g s (trim x s n cs).1 (trim x s n cs).2))
    | _=>none
  | .undef=>some .undef
  | .hole ..=>some .undef
  | _=>none
def RQ (st:St):D→Option D
  | .cr cs o=>some (.cr cs o)
  | .ptr r q o=>match st.cells r q with
    | some (c::cs)=>match lG (uH st) (c::cs) with
      | some cs'=>some (.cr cs' o)
      | none=>none
    | _=>none
  | d=>uH st d
def UD (st:St):D→Option D
  | .agg cs=>match lG (uH st) cs with
    | some cs'=>some (.agg cs')
    | none=>none
  | .fn f gP=>match lG (RQ st) gP with
    | some cs'=>some (.fn f cs')
    | none=>none
  | d=>RQ st d
def St.iz (st:St) (r:Nat) (q:List Nat) (o:Nat) (d:D):Option St:=
  match lk st.rt r with
  | some cs=>match pU (fun l=>l.set o d) cs q with
    | some cs'=>some { st with rt:=pz st.rt r cs' }
    | none=>none
  | none=>none
def jn (st:St):D→Option (D × St)
  | .int k n=>some (.int k n,st)
  | .bool b=>some (.bool b,st)
  | .str s=>some (.str s,st)
  | .nil s=>some (.sl none s 0 [],st)
  | .sl b s n cs=>some (.sl b s n cs,st)
  | .ref r q o x=>match st.cell r q o with
    | some (.sl none s n cs)=>match st.iz r q o (.hole s n) with
      | some st'=>some (.sl none s (trim x s n cs).1 (trim x s n cs).2,st')
      | none=>none
    | some (.sl (some b) s n cs)=>some (.sl (some b) s (trim x s n cs).1 (trim x s n cs).2,st)
    | _=>none
  | .undef=>some (.undef,st)
  | .hole ..=>some (.undef,st)
  | _=>none
def rY (st:St):List D→Option (List D × St)
  | []=>some ([],st)
  | d::ds=>match jn st d with
    | some (d',st')=>match rY st' ds with
      | some (ds',zA)=>some (d'::ds',zA)
      | none=>none
    | none=>none
def gI (r:Nat) (q:List Nat) (j:Nat):D→D
  | .sl none _ _ _=>.ref r q j none
  | d=>d
def lO (r:Nat) (q:List Nat):Nat→List D→List D
  | _,[]=>[]
  | j,d::ds=>gI r q j d::lO r q (j+1) ds
def UE (st:St) (r:Nat):Option (List D × St):=
  match lk st.rt r with
  | some (c::cs)=>match rY st (lO r [] 0 (c::cs)) with
    | some (cs',st')=>some (cs',{ st' with rt:=pz st'.rt r [] })
    | none=>none
  | _=>none
def EG (st:St):D→Option (D × St)
  | .agg cs=>match rY st cs with
    | some (cs',st')=>some (.agg cs',st')
    | none=>none
  | .ptr r [] 0=>match UE st r with
    | some (cs',st')=>some (.bp cs',st')
    | none=>none
  | d=>jn st d
def Oj (st:St):List D→Option (List D × St)
  | []=>some ([],st)
  | d::ds=>match EG st d with
    | some (d',st')=>match Oj st' ds with
      | some (ds',zA)=>some (d'::ds',zA)
      | none=>none
    | none=>none
def cY:D→List D
  | .agg cs=>cs
  | .bf vs=>vs.flatMap fun | .agg cs=>cs | d=>[d]
  | d=>[d]
def Dy (r:Nat) (j:Nat):D→D
  | .agg cs=>.agg (lO r [] j cs)
  | d=>gI r [] j d
def GJ (r:Nat):Nat→List D→List D
  | _,[]=>[]
  | j,d::ds=>Dy r j d::GJ r (j+(cY d).length) ds
def Dz (r:Nat):D→D
  | .bf vs=>.bf (GJ r 0 vs)
  | d=>Dy r 0 d
def St.qX (st:St) (r:Nat) (d:D):St × D:=
  match d with
  | .bp cs=>
    let st':=st.fc (cH r)
    ({ st' with rt:=pz st'.rt r cs },.ptr r [] 0)
  | d=>if (cY d).any iU then
      let st':=st.fc (cH r)
      ({ st' with rt:=pz st'.rt r (cY d) },Dz r d)
    else (st,d)
mutual
def bZ:D→Bool
  | .sl g _ _ cs=>(match g with | some true=>false | _=>true)&&cq cs
  | _=>true
def cq:List D→Bool
  | []=>true
  | d::ds=>bZ d&&cq ds
end
mutual
def iA (b:Bool):D→D
  | .sl none s n cs=>.sl none s n (ej b cs)
  | .sl (some _) s n cs=>.sl (some b) s n (ej b cs)
  | d=>d
def ej (b:Bool):List D→List D
  | []=>[]
  | d::ds=>iA b d::ej b ds
end
def gR (b:Bool):D→D
  | .agg cs=>.agg (ej b cs)
  | .bp cs=>.bp (ej b cs)
  | .bf vs=>.bf (vs.map fun | .agg cs=>.agg (ej b cs) | d=>iA b d)
  | d=>iA b d
def eD:D→Bool
  | .int .. | .bool _ | .str _ | .sl .. | .undef | .hole ..=>true
  | _=>false
def bY:D→List D
  | .bp cs=>cs
  | d=>cY d
def dG (d:D):Bool:=(bY d).all fun x=>eD x&&bZ x
def DA (c:cD) (t:TypeId):Value→D
  | .int k n=>.int k n
  | .bool b=>.bool b
  | .string s=>.str s
  | .slice none 0 0=>.nil (c.esz t)
  | _=>.undef
def cx (c:cD) (st:St) (t:TypeId):Operand→D
  | .tmp i=>st.get i
  | .const v=>DA c t v
  | .func f=>.fn f []
  | .global _=>.undef
def Bk (op:BinOp) (k:IntKind) (a b:Int):Option D:=
  match op with
  | .add=>some (.int k (k.wrap (a+b)))
  | .sub=>some (.int k (k.wrap (a - b)))
  | .mul=>some (.int k (k.wrap (a*b)))
  | .quo=>if b=0 then none else some (.int k (k.wrap (a.tdiv b)))
  | .rem=>if b=0 then none else some (.int k (a.tmod b))
  | .and=>some (.int k (k.wrap (BitVec.ofInt k.bits a&&& BitVec.ofInt k.bits b).toNat))
  | .or=>some (.int k (k.wrap (BitVec.ofInt k.bits a||| BitVec.ofInt k.bits b).toNat))
  | .xor=>some (.int k (k.wrap (BitVec.ofInt k.bits a ^^^ BitVec.ofInt k.bits b).toNat))
  | .eql=>some (.bool (a==b))
  | .neq=>some (.bool (a !=b))
  | .lss=>some (.bool (decide (a < b)))
  | .leq=>some (.bool (decide (a≤b)))
  | .gtr=>some (.bool (decide (a>b)))
  | .geq=>some (.bool (decide (a≥b)))
  | _=>none
def vz (op:BinOp) (k:IntKind) (a b:Int):Option D:=
  if b < 0 then none else
  match op with
  | .shl=>some (.int k (k.wrap (a*2 ^ (min b.toNat k.bits))))
  | .shr=>some (.int k (a.fdiv (2 ^ (min b.toNat k.bits))))
  | _=>none
def Ok (op:BinOp) (a b:ByteArray):Option D:=
  match op with
  | .add=>if a.size+b.size≤9223372036854775807 then some (.str (a++b)) else none
  | .eql=>some (.bool (a.toList==b.toList))
  | .neq=>some (.bool (!(a.toList==b.toList)))
  | _=>none
def Jh (op:BinOp) (a b:Bool):Option D:=
  match op with
  | .eql=>some (.bool (a==b))
  | .neq=>some (.bool (!(a==b)))
  | _=>none
def sq (c:cD) (t:TypeId) (op:BinOp) (x y:D):Option D:=
  match x,y with
  | .int k a,.int k' b=>match op with
    | .shl=>vz .shl k a b
    | .shr=>vz .shr k a b
    | op=>if k=k' then Bk op k a b else none
  | .str a,.str b=>Ok op a b
  | .bool a,.bool b=>match c.ty t with
    | some ⟨.bool,_,_,_⟩=>Jh op a b
    | _=>none
  | _,_=>none
def Zy (op:UnOp) (x:D):Option D:=
  match op,x with
  | .neg,.int k n=>some (.int k (k.wrap (0 - n)))
  | .not,.bool b=>some (.bool (!b))
  | _,_=>none
def St.qu (st:St):D→Option (Option Bool × Nat × Nat × List D)
  | .nil s=>some (none,s,0,[])
  | .sl b s n cs=>some (b,s,n,cs)
  | .ref r q o x=>match st.cell r q o with
    | some (.sl b s n cs)=>some (b,s,(trim x s n cs).1,(trim x s n cs).2)
    | _=>none
  | _=>none
def Ol (c:cD) (st:St) (t:TypeId) (x:D):Option D:=
  match c.ty t,x with
  | some ⟨.str,_,_,_⟩,.str s=>some (.int .i64 s.size)
  | some ⟨.slice _,_,_,_⟩,d=>match st.qu d with
    | some (_,_,n,_)=>some (.int .i64 n)
    | none=>none
  | _,_=>none
def byteOf:D→Option UInt8
  | .int .u8 n=>some (UInt8.ofNat n.toNat)
  | _=>none
def dE (b:UInt8):D:=.int .u8 b.toNat
def xx (c:cD) (st:St) (src dst:TypeId) (x:D):Option (D × Option (List D)):=
  match c.ty src,c.ty dst with
  | some si,some di=>
    match di.ty,si.ty,x with
    | .int k,_,.int _ n=>some (.int k (k.wrap n),none)
    | .str,_,.int _ n=>some (.str (Utf8.encode n),none)
    | .str,_,.str s=>some (.str s,none)
    | .str,.slice e,x=>match c.ty e with
      | some ⟨.int .u8,_,_,_⟩=>match st.qu x with
        | some (_,s,_,cs)=>if s=1 then (match lG byteOf cs with
          | some bs=>some (.str ⟨bs.toArray⟩,none)
          | none=>none) else none
        | none=>none
      | _=>none
    | .slice e,.str,.str s=>match c.ty e with
      | some ⟨.int .u8,_,_,_⟩=>some (.undef,some [.sl none 1 s.size (s.data.toList.map dE)])
      | _=>none
    | _,_,_=>none
  | _,_=>none
def qY (st:St) (agg:Bool) (size:Nat):D→Option D
  | .ptr r q o=>match st.cells r q with
    | some cs=>
      if agg then (if 0 < size∧o+size≤cs.length then some (.agg (lO r q o ((cs.drop o).take size))) else none)
      else match cs[o]? with
        | some d=>some (gI r q o d)
        | none=>none
    | none=>none
  | .cr cs o=>
      if agg then (if 0 < size∧o+size≤cs.length then some (.agg ((cs.drop o).take size)) else none)
      else cs[o]?
  | _=>none
def kE:Ty→Bool
  | .struct .. | .array ..=>true
  | _=>false
def live (st:St) (r:Nat) (q:List Nat):Bool:=
  match st.cells r q with
  | some (_::_)=>true
  | _=>false
def kF (i:Int) (n:Nat) (d:Option D):Option D:=if 0≤i then (if i < n then d else none) else none
def off (x:Option (Nat × Nat)):Nat:=
  match x with
  | none=>0
  | some (l,_)=>l
def qZ (st:St) (c:cD) (t:TypeId) (x:D) (i:Int):Option D:=
  match c.ty t with
  | some ⟨.slice e,_,_,_⟩=>match c.ty e with
    | some ei=>match x with
      | .ref r q o x=>match st.cell r q o with
        | some (.sl none s n cs)=>if s=ei.size∧0 < s then kF i (trim x s n cs).1 (some (.ptr r (q++[o]) ((off x+i.toNat)*s))) else none
        | some (.sl (some _) s n cs)=>if s=ei.size∧0 < s then kF i (trim x s n cs).1 (some (.cr cs ((off x+i.toNat)*s))) else none
        | _=>none
      | .sl (some _) s n cs=>if s=ei.size∧0 < s then kF i n (some (.cr cs (i.toNat*s))) else none
      | _=>none
    | none=>none
  | some ⟨.array n e,_,_,_⟩=>match c.ty e with
    | some ei=>match x with
      | .ptr r q o=>if live st r q then kF i n (some (.ptr r q (o+i.toNat*ei.size))) else none
      | .cr cs o=>kF i n (some (.cr cs (o+i.toNat*ei.size)))
      | _=>none
    | none=>none
  | _=>none
def yr (st:St) (k:Nat):D→Option D
  | .ptr r q i=>if live st r q then some (.ptr r q (i+k)) else none
  | .cr cs i=>some (.cr cs (i+k))
  | _=>none
def yt (c:cD) (t:TypeId) (x:D) (i:Int):Option D:=
  match c.ty t,x with
  | some ⟨.str,_,_,_⟩,.str s=>kF i s.size ((s.data.toList[i.toNat]?).map dE)
  | some ⟨.array n e,_,_,_⟩,.agg cs=>match c.ty e with
    | some ei=>kF i n (if kE ei.ty then some (.agg ((cs.drop (i.toNat*ei.size)).take ei.size)) else cs[i.toNat*ei.size]?)
    | none=>none
  | _,_=>none
def zB:List D→Nat→List D→List D
  | cs,_,[]=>cs
  | cs,o,d::ds=>zB (cs.set o d) (o+1) ds
def vA:D→D
  | .nil s=>.sl none s 0 []
  | d=>d
def fC (n:Nat) (z:List D):List D:=(List.replicate n (z.map vA)).flatten
def dg:D→Bool
  | .fn .. | .agg _ | .bf _ | .bp _ | .undef | .hole ..=>false
  | _=>true
def single:D→Bool
  | .agg _ | .bf _ | .fn ..=>false
  | _=>true
def fO (st:St):D→Bool
  | .ref r q o _=>match st.cell r q o with
    | some (.sl ..)=>true
    | _=>false
  | .ptr r q _=>live st r q
  | d=>dg d
def nM (ok:D→Bool) (place:Nat→Option (Nat × Nat)):List D→List (Nat × List D)→Option (List D)
  | cs,[]=>some cs
  | cs,(i,vs)::rest=>match place i with
    | some (o,k)=>if vs.length=k∧o+vs.length≤cs.length∧vs.all ok=true then nM ok place (zB cs o vs) rest else none
    | none=>none
def cellsOf:D→List D
  | .agg cs=>cs
  | d=>[d]
def sr (st:St):List (Nat × D)→Option (List (Nat × List D) × St)
  | []=>some ([],st)
  | (i,d)::ps=>match rY st (cellsOf d) with
    | some (cs,st')=>match sr st' ps with
      | some (r,zA)=>some ((i,cs)::r,zA)
      | none=>none
    | none=>none
def iV:D→Bool
  | .int .. | .bool _ | .str _=>true
  | _=>false
def St.root (st:St) (dst:Option Nat) (cs:List D) (d:Nat→D):Option St:=
  match dst with
  | some t=>
    let st':=st.fc (cH (st.of+t))
    some { st' with tm:=pz st'.tm t (d (st.of+t)),rt:=pz st'.rt (st.of+t) cs }
  | none=>none
def elems (st:St) (flat:Bool) (z:List D) (sz:Nat):D→Option (List D × Nat × St)
  | .int .i64 n=>if 0≤n∧(z.map vA).all dg=true then some (fC n.toNat z,n.toNat,st) else none
  | .str s=>if sz=1 then some (s.data.toList.map dE,s.size,st) else none
  | .nil _=>some ([],0,st)
  | .sl (some _) s n cs=>if s=sz∧cs.all dg=true then some (cs,n,st) else none
  | .ref r q o x=>match st.cell r q o with
    | some (.sl none s n cs)=>if s≠sz then none else if flat=true then (if (trim x s n cs).2.all iV=true then some ((trim x s n cs).2,(trim x s n cs).1,st) else none) else
      match rY st (lO r (q++[o]) (off x*s) (trim x s n cs).2) with
      | some (ys,st')=>if ys.all dg=true then some (ys,(trim x s n cs).1,st') else none
      | none=>none
    | some (.sl (some _) s n cs)=>if s=sz∧(trim x s n cs).2.all dg=true then some ((trim x s n cs).2,(trim x s n cs).1,st) else none
    | _=>none
  | _=>none
def target (st:St) (sz:Nat) (d:D):Option (Nat × List D × St):=
  match jn st d with
  | some (.sl none s n cs,st')=>if s=sz then some (n,cs,st') else none
  | _=>none
def Ji (c:cD) (tx:TypeId):D→Bool
  | .int ..=>match c.ty tx with | some ⟨.int _,_,_,_⟩=>true | _=>false
  | .str _=>match c.ty tx with | some ⟨.str,_,_,_⟩=>true | _=>false
  | _=>match c.ty tx with | some ⟨.slice _,_,_,_⟩=>true | _=>false
def su (c:cD) (st:St) (t tx:TypeId) (dst:Option Nat) (s x:D):Option St:=
  match c.ty t with
  | some ⟨.slice e,_,_,_⟩=>match c.ty e with
    | some ei=>if Ji c tx x=true then
        match target st ei.size s with
        | some (n,cs,aQ)=>match elems aQ (ei.zero.all iV) ei.zero ei.size x with
          | some (ys,m,ct)=>
            if 0 < ei.size∧0 < ei.bytes∧(n+m)*ei.bytes≤140737488355328 then ct.root dst [.sl none ei.size (n+m) (cs++ys)] (fun d=>.ref d [] 0 none) else none
          | none=>none
        | none=>none
      else none
    | none=>none
  | _=>none
def bound (d:Option D) (z:Int):Option Int:=
  match d with
  | none=>some z
  | some (.int _ i)=>some i
  | _=>none
def GK (s:ByteArray) (l h:Option D):Option D:=
  match bound l 0,bound h s.size with
  | some l,some h=>if 0≤l∧l≤h∧h≤s.size then some (.str (s.extract l.toNat h.toNat)) else none
  | _,_=>none
def GL (st:St) (sz:Nat) (x:D) (l h:Option D):Option D:=
  match st.qu x with
  | some (g,s,n,cs)=>match bound l 0,bound h n with
    | some l,some h=>if s=sz∧0≤l∧l≤h∧h≤n then
        match x with
        | .ref r q o y=>some (.ref r q o (some (off y+l.toNat,h.toNat - l.toNat)))
        | .nil s=>some (.nil s)
        | _=>some (.sl g s (h.toNat - l.toNat) ((cs.drop (l.toNat*s)).take ((h.toNat - l.toNat)*s)))
      else none
    | _,_=>none
  | none=>none
def Bl (c:cD) (st:St) (t:TypeId) (x:D) (l h:Option D):Option D:=
  match c.ty t with
  | some ⟨.str,_,_,_⟩=>match x with
    | .str s=>GK s l h
    | _=>none
  | some ⟨.slice e,_,_,_⟩=>match c.ty e with
    | some ei=>GL st ei.size x l h
    | none=>none
  | _=>none
def Fu:D→List Nat→Option D
  | d,[]=>some d
  | .sl none _ _ cs,o::q=>match cs[o]? with
    | some d=>Fu d q
    | none=>none
  | _,_=>none
def vB (r:Nat) (q:List Nat) (o:Nat) (cg:D):D→D
  | .ref r' q' o' x=>if r'=r then (match under (q++[o]) (q'++[o']) with
      | none=>.ref r' q' o' x
      | some y=>match Fu cg y with
        | some (.sl g s n cs)=>dN false (.sl g s (trim x s n cs).1 (trim x s n cs).2)
        | _=>.undef) else .ref r' q' o' x
  | d=>cA r q o true d
def St.tF (st:St) (r:Nat) (q:List Nat) (o:Nat) (d:D):Option (St × (D→D)):=
  match st.cell r q o with
  | some cg=>some (if gQ cg then (st.Zx (vB r q o cg) (cA r q o true),vB r q o cg) else if gQ d then (st.fc (cA r q o true),cA r q o true) else (st,id))
  | none=>none
def oa (st:St) (r:Nat):Nat→(D→D)→List D→Option St
  | _,_,[]=>some st
  | o,h,d::ds=>if !fO st (h d) then none else match st.tF r [] o (h d) with
    | some (aQ,f)=>match aQ.iz r [] o (f (h d)) with
      | some st'=>oa st' r (o+1) (fun x=>f (h x)) ds
      | none=>none
    | none=>none
def oc (st:St) (r:Nat):Nat→List D→Option St
  | _,[]=>some st
  | o,d::ds=>if !dg d then none else match st.tF r [] o d with
    | some (aQ,_)=>match aQ.iz r [] o d with
      | some st'=>oc st' r (o+1) ds
      | none=>none
    | none=>none
def Fv (r:Nat) (q:List Nat) (o:Nat):D→Bool
  | .ref r' q' o' none=>decide (r'=r)&&decide (q'=q)&&decide (o'=o)
  | _=>false
def yu (d:D) (r:Nat) (q:List Nat) (o:Nat):D→D:=
  match d with
  | .ref r' q' o' none=>so r' q' o' r q o
  | .ref r' q' o' (some _)=>cA r' q' o' true
  | _=>id
def St.uU (st:St) (d:D) (r:Nat) (q:List Nat) (o:Nat):St:=
  match d with
  | .ref _ _ _ _=>st.fc (yu d r q o)
  | _=>st
def jk (st:St) (r:Nat) (q:List Nat):Nat→(D→D)→List D→Option St
  | _,_,[]=>some st
  | o,h,d::ds=>
    if Fv r q o (h d)&&fO st (h d) then jk st r q (o+1) h ds else
    match jn st (h d) with
    | some (d',aQ)=>if !dg d' then none else match aQ.tF r q o d' with
      | some (ct,f)=>match ct.iz r q o d' with
        | some EH=>jk (EH.uU (f (h d)) r q o) r q (o+1) (fun x=>yu (f (h d)) r q o (f (h x))) ds
        | none=>none
      | none=>none
    | none=>none
def vC (st:St) (qW:Nat→Bool) (size:Nat) (a v:D):Option St:=
  match a with
  | .ptr r q o=>
    if (cellsOf v).length=size∧live st r q=true then
      match q with
      | []=>if qW (r - st.of) then (match rY st (cellsOf v) with
          | some (cs,aQ)=>oc aQ r o cs
          | none=>none) else oa st r o id (cellsOf v)
      | q=>jk st r q o id (cellsOf v)
    else none
  | _=>none
def nr (st:St):List Bool→List D→Option (List D × St)
  | _,[]=>some ([],st)
  | b,d::ds=>
    match (if b.headD false then EG st d else some (d,st):Option (D × St)) with
    | some (d',st')=>match nr st' b.tail ds with
      | some (ds',zA)=>some (d'::ds',zA)
      | none=>none
    | none=>none
def vD (st:St):List Bool→List D→Option (List D)
  | _,[]=>some []
  | b,d::ds=>
    match (if b.headD false then some d else UD st d) with
    | some d'=>match vD st b.tail ds with
      | some ds'=>some (d'::ds')
      | none=>none
    | none=>none
def na (st:St) (b:List Bool) (ds:List D):Option (List D × St):=
  match nr st b ds with
  | some (gv,aQ)=>match vD aQ b gv with
    | some tG=>some (tG,aQ)
    | none=>none
  | none=>none
def pV (st:St) (h:D→D):List D→List D→Option (St × (D→D))
  | [],_=>some (st,h)
  | _::_,[]=>none
  | a::as9,d::ds=>
    match h a,d with
    | .ref r q o none,.sl none s n cs=>match st.cell r q o with
      | some (.hole s0 n0)=>if s0=s∧n0=n then
          (match (st.fc (cA r q o false)).iz r q o (.sl none s n cs) with
           | some st'=>pV st' (fun x=>cA r q o false (h x)) as9 ds
           | none=>none)
        else none
      | _=>none
    | _,_=>pV st h as9 ds
def DB (st:St) (h:D→D) (a out:D):Option (St × (D→D)):=
  match a,out with
  | .agg cs,.agg ds=>pV st h cs ds
  | .ptr r [] 0,.bp ds=>match lk st.rt r with
    | some []=>some ({ st.fc (eB r) with rt:=pz (st.fc (eB r)).rt r ds },fun x=>eB r (h x))
    | _=>none
  | a,d=>pV st h [a] [d]
def iB (st:St) (h:D→D):List Bool→List D→List D→Option St
  | _,[],_=>some st
  | b,a::as9,o::os=>if b.headD false then match DB st h a o with
      | some (st',h')=>iB st' h' b.tail as9 os
      | none=>none
    else iB st h b.tail as9 os
  | _,_::_,[]=>none
def fE:List Bool→List D→Bool
  | _,[]=>false
  | b,d::ds=>(b.headD false&&!((bY d).all bZ))||fE b.tail ds
def kn:List Bool→List D→List D
  | _,[]=>[]
  | b,d::ds=>(if b.headD false then gR false d else d)::kn b.tail ds
def kJ (c:cD) (cl:FuncId→List D→Option (D × List D)) (st:St) (dst:Option Nat) (f:FuncId) (args:List D):Option St:=
  match na st (c.own f) args with
  | some (ds,aQ)=>
    let t:=fE (c.own f) ds
    match cl f (if t then kn (c.own f) ds else ds) with
    | some (r,outs)=>
      if dG r&&outs.all dG then
        match iB aQ id (c.own f) args (if t then outs.map (gR true) else outs) with
        | some ct=>match dst with
          | some i=>let p:=ct.qX (ct.of+i) (if t then gR true r else r); some (p.1.put (some i) p.2)
          | none=>some ct
        | none=>none
      else none
    | none=>none
  | none=>none
def fu (c:cD) (cl:FuncId→List D→Option (D × List D)) (ci:FuncId→List D→Nat→St→Option (D × St)) (aD:FuncId) (st:St) (o:Oper):Option St:=
  let ev:=cx c st o.type
  let val (d:Option D):Option St:=match d with | some d=>some (st.put o.dst d) | none=>none
  match o.op with
  | .move x | .assign x=>some (st.put o.dst (ev x))
  | .pick b x y=>match ev b with
    | .bool t=>some (st.put o.dst (if t then ev x else ev y))
    | _=>none
  | .alloc e=>match c.ty e with
    | some i=>st.root o.dst i.zero (fun d=>.ptr d [] 0)
    | none=>none
  | .box e x=>match c.ty e with
    | some i=>if (cellsOf (cx c st e x)).length=i.size∧(if c.qW aD (o.dst.getD 0)=true then true else (cellsOf (cx c st e x)).all (fO st))=true then
        match o.dst with
        | some t=>if c.qW aD t then (match rY st (cellsOf (cx c st e x)) with
            | some (cs,aQ)=>if cs.all dg then aQ.root (some t) cs (fun d=>.ptr d [] 0) else none
            | none=>none)
          else st.root (some t) (cellsOf (pC (cH (st.of+t)) (cx c st e x))) (fun d=>.ptr d [] 0)
        | none=>none
      else none
    | none=>none
  | .build t ps=>match c.ty t with
    | some ⟨.struct mb szs,_,_,z⟩=>
      match nM (fO st) (fun i=>match mb[i]?,szs[i]? with | some o,some k=>some (o,k) | _,_=>none) z (ps.toList.map fun p=>(p.1,cellsOf (cx c st 0 p.2))) with
      | some cs=>some (st.put o.dst (.agg cs))
      | none=>none
    | some ⟨.array _ e,_,_,z⟩=>match c.ty e with
      | some ei=>
        match nM (fO st) (fun i=>some (i*ei.size,ei.size)) z (ps.toList.map fun p=>(p.1,cellsOf (cx c st 0 p.2))) with
        | some cs=>some (st.put o.dst (.agg cs))
        | none=>none
      | none=>none
    | _=>none
  | .buildSlice t n ps=>match c.ty t with
    | some ⟨.slice e,_,_,_⟩=>match c.ty e with
      | some ei=>
        if n*ei.size≤16777216 then
          match sr st (ps.toList.map fun p=>(p.1,cx c st e p.2)) with
          | some (vs,aQ)=>match nM dg (fun i=>some (i*ei.size,ei.size)) (fC n ei.zero) vs with
            | some cs=>aQ.root o.dst [.sl none ei.size n cs] (fun d=>.ref d [] 0 none)
            | none=>none
          | none=>none
        else none
      | none=>none
    | _=>none
  | .load t a=>match c.ty t with
    | some i=>val (qY st (kE i.ty) i.size (ev a))
    | none=>none
  | .store t a x=>match c.ty t with
    | some i=>match vC st (c.qW aD) i.size (ev a) (cx c st t x) with
      | some st'=>some (st'.put o.dst (.bf []))
      | none=>none
    | none=>none
  | .nilCheck x=>match ev x with
    | .ptr r q i=>if live st r q then some (st.put o.dst (.ptr r q i)) else none
    | .cr cs i=>some (st.put o.dst (.cr cs i))
    | _=>none
  | .binOp op t x y _=>val (sq c t op (cx c st t x) (cx c st t y))
  | .unOp op _ x=>val (Zy op (ev x))
  | .convert src dst x=>match xx c st src dst (cx c st src x) with
    | some (d,none)=>some (st.put o.dst d)
    | some (_,some cs)=>st.root o.dst cs (fun d=>.ref d [] 0 none)
    | none=>none
  | .makeFunc (.func f) first gP=>if first.size=0∧(gP.toList.map ev).all single=true then some (st.put o.dst (.fn f (gP.toList.map ev))) else none
  | .makeSlice t l cp=>match c.ty t with
    | some ⟨.slice e,_,_,_⟩=>match c.ty e,ev l,ev cp with
      | some ei,.int _ l,.int _ cp=>if 0≤l then (if l≤cp then (if 0 < ei.bytes∧cp*ei.bytes≤140737488355328 then st.root o.dst [.sl none ei.size l.toNat (fC l.toNat ei.zero)] (fun d=>.ref d [] 0 none) else none) else none) else none
      | _,_,_=>none
    | _=>none
  | .slice t x l h none=>val (Bl c st t (cx c st t x) (l.map ev) (h.map ev))
  | .fieldAddr s x f=>match c.ty s with
    | some ⟨.struct mb szs,_,_,_⟩=>match mb[f]? with
      | some k=>val (yr st k (ev x))
      | none=>none
    | _=>none
  | .indexAddr t x i=>match ev i with
    | .int _ i=>val (qZ st c t (cx c st t x) i)
    | _=>none
  | .index t x i=>match ev i with
    | .int _ i=>val (yt c t (ev x) i)
    | _=>none
  | .extract x i=>match ev x with
    | .bf vs=>val vs[i]?
    | _=>none
  | .call cc=>if cc.args.size≠cc.argTypes.size then none else
    let args:=(cc.args.toList.zip cc.argTypes.toList).map fun p=>cx c st p.2 p.1
    match cc.callee with
    | .value f=>match ev f with
      | .fn g gP=>if c.inl g then (match ci g (args++gP) ((st.of+o.dst.getD 0+1)*100000) st with
          | some (d,st')=>some (st'.put o.dst d)
          | none=>none) else kJ c cl st o.dst g (args++gP)
      | _=>none
    | .builtin .len=>match args,cc.argTypes.toList with
      | [x],[t]=>val (Ol c st t x)
      | _,_=>none
    | .builtin .min=>match args with
      | [.int k a,.int _ b]=>some (st.put o.dst (.int k (if b < a then b else a)))
      | _=>none
    | .builtin .max=>match args with
      | [.int k a,.int _ b]=>some (st.put o.dst (.int k (if b>a then b else a)))
      | _=>none
    | .builtin .append=>match args,cc.argTypes.toList with
      | [s,x],[t,tx]=>su c st t tx o.dst s x
      | _,_=>none
    | _=>none
  | _=>none
def DC (c:cD) (aD:FuncId) (o:Oper):List Nat:=
  match o.op with
  | .store _ (.tmp x) _=>c.zy aD x
  | .call cc=>(match cc.callee,o.dst with
    | .builtin .append,some d=>c.zy aD d
    | _,_=>[])
  | _=>[]
def x9 (c:cD) (aD:FuncId) (st:St) (o:Oper):Bool:=
  match o.op with
  | .load _ (.tmp x)=>(match c.base aD x with
    | none=>true
    | some 0=>(match st.get x with
      | .cr _ _=>true
      | _=>false)
    | some (r+1)=>(match st.get x with
      | .ptr r' [] _=>r'==st.of+r&&decide (r' < 10000)
      | _=>false))
  | .store _ (.tmp x) _=>(match c.zy aD x with
    | []=>true
    | l=>(match st.get x with
      | .ptr r' q _=>live st r' q&&l.all fun r=>(lk st.rt (st.of+r)).isSome&&r' !=st.of+r
      | _=>false))
  | _=>(DC c aD o).all fun r=>(lk st.rt (st.of+r)).isSome
def zC (st:St) (ops:Array Oper) (o:Oper):Option Bool:=
  match o.guard with
  | none=>some true
  | some (j,want)=>match (ops[j]?).bind (·.dst) with
    | some t=>match st.get t with
      | .bool b=>some (b==want)
      | .bf []=>some false
      | _=>none
    | none=>some false
def vE (c:cD) (cl:FuncId→List D→Option (D × List D)) (ci:FuncId→List D→Nat→St→Option (D × St)) (aD:FuncId) (all:Array Oper):List Oper→St→Option St
  | [],st=>some st
  | o::rest,st=>match zC st all o with
    | some true=>if x9 c aD st o then (match fu c cl ci aD st o with
      | some st'=>vE c cl ci aD all rest st'
      | none=>none) else none
    | some false=>vE c cl ci aD all rest (st.put o.dst (.bf []))
    | none=>none
def iC (c:cD) (cl:FuncId→List D→Option (D × List D)) (ci:FuncId→List D→Nat→St→Option (D × St)) (aD:FuncId) (all:Array Oper):List Nat→St→Option St
  | [],st=>some st
  | i::rest,st=>match all[i]? with
    | none=>iC c cl ci aD all rest st
    | some o=>match zC st all o with
      | some true=>if x9 c aD st o then (match fu c cl ci aD st o with
        | some st'=>iC c cl ci aD all rest st'
        | none=>none) else none
      | some false=>iC c cl ci aD all rest (st.put o.dst (.bf []))
      | none=>none
def o9 (c:cD) (o:Oper):Option Bool:=
  match o.op with
  | .move _ | .assign _ | .pick .. | .binOp .. | .unOp .. | .makeFunc .. | .slice .. | .fieldAddr .. | .indexAddr .. | .index .. | .extract .. | .build .. | .nilCheck _=>some true
  | .load ..=>some false
  | .convert _ d _=>(match c.ty d with
    | some ⟨.slice _,_,_,_⟩=>none
    | some _=>some false
    | none=>none)
  | .call cc=>(match cc.callee with
    | .builtin .len | .builtin .min | .builtin .max=>some true
    | _=>none)
  | _=>none
def tH (o:Oper):Bool:=
  match o.op with
  | .alloc _ | .box .. | .makeSlice .. | .buildSlice ..=>true
  | _=>false
def AA (c:cD) (o:Oper):Bool:=
  (o9 c o).isSome||tH o||(match o.op with
    | .call cc=>(match cc.callee with
      | .value (.func f)=>!c.inl f&&!(c.own f).any id
      | _=>false)
    | _=>false)
def kbO (c:cD) (aD:FuncId) (r:Nat) (o:Oper):Bool:=AA c o||(DC c aD o).contains r
def waits (ops:Array Oper):Nat→Nat→Nat→Bool
  | 0,_,_=>false
  | n+1,j,i=>match ops[j]? with
    | some o=>o.after.toList.any fun e=>Region.binds .any e&&(e.on==i||waits ops n e.on i)
    | none=>false
def zD (c:cD) (aD:FuncId) (oi:Oper) (b:Bool) (oj:Oper):Bool:=
  b||(match oi.op with
    | .load _ (.tmp x)=>(match c.base aD x with
      | some 0=>true
      | some (r+1)=>kbO c aD r oj
      | none=>AA c oj)
    | _=>AA c oj)
def N1 (c:cD) (aD:FuncId) (ops:Array Oper) (oi:Oper):Bool:=
  match oi.op with
  | .load _ (.tmp x)=>(match c.base aD x with
    | some (r+1)=>ops.toList.all fun o=>o.dst !=some r
    | _=>true)
  | _=>true
def Om (c:cD) (aD:FuncId) (ops:Array Oper) (ch:Array Bool) (i:Nat):Bool:=
  match ops[i]? with
  | none=>false
  | some oi=>match o9 c oi with
    | none=>false
    | some b=>N1 c aD ops oi&&(List.range ops.size).all fun j=>j==i||ch.getD j true||waits ops ops.size j i||(match ops[j]? with
      | some oj=>oi.apart ops oj&&zD c aD oi b oj
      | none=>true)
def K7 (c:cD) (o:Oper):Option (List D × Bool):=
  match o.op with
  | .alloc e=>(match c.ty e with
    | some i=>some (i.zero,true)
    | none=>none)
  | .makeSlice t (.const l) (.const cp)=>(match c.ty t with
    | some ⟨.slice e,_,_,_⟩=>(match c.ty e,DA c o.type l,DA c o.type cp with
      | some ei,.int _ l,.int _ cp=>if 0≤l∧l≤cp∧0 < ei.bytes∧cp*ei.bytes≤140737488355328 then some ([.sl none ei.size l.toNat (fC l.toNat ei.zero)],false) else none
      | _,_,_=>none)
    | _=>none)
  | .buildSlice t n ps=>(match c.ty t with
    | some ⟨.slice e,_,_,_⟩=>(match c.ty e with
      | some ei=>if n=0∧ps.size=0 then some ([.sl none ei.size 0 []],false) else none
      | none=>none)
    | _=>none)
  | _=>none
def eaO (c:cD) (o:Oper):Bool:=o.guard.isNone&&o.dst.isSome&&(K7 c o).isSome
def On (c:cD) (ops:Array Oper) (ch:Array Bool) (rs:List Nat) (h:Nat):Bool:=
  match ops[h]? with
  | none=>false
  | some oh=>(List.range ops.size).all fun j=>j==h||ch.getD j true||waits ops ops.size j h||(match ops[j]? with
    | some oj=>eaO c oj&&rs.contains j&&oj.apart ops oh&&(List.range ops.size).all fun k=>k==j||ch.getD k true||(match ops[k]? with
      | some ok=>oj.apart ops ok||waits ops ops.size k j
      | none=>true)
    | none=>true)
def tp (c:cD) (aD:FuncId) (ops:Array Oper):Nat→Array Bool→Option (List Nat)
  | 0,ch=>match Region.ready .any ops ch with
    | []=>some []
    | _=>none
  | k+1,ch=>match Region.ready .any ops ch with
    | []=>some []
    | r::rs=>match (r::rs).find? (Om c aD ops ch) with
      | some i=>(match tp c aD ops k (ch.setIfInBounds i true) with
        | some l=>some (i::l)
        | none=>none)
      | none=>match (r::rs).find? (On c ops ch (r::rs)) with
        | some h=>(match tp c aD ops k (ch.setIfInBounds h true) with
          | some l=>some (h::l)
          | none=>none)
        | none=>none
def sv (B:List Nat) (st:St) (r:Nat):Nat→Nat→Option St
  | _,0=>some st
  | o,k+1=>
    match st.cell r [] o with
    | some (.ref r' q' o' x)=>if (!q'.isEmpty||B.contains r')=true then sv B st r (o+1) k else
      (match jn st (.ref r' q' o' x) with
       | some (d',aQ)=>match (aQ.fc (cA r [] o true)).iz r [] o d' with
         | some ct=>sv B (ct.uU (.ref r' q' o' x) r [] o) r (o+1) k
         | none=>none
       | none=>none)
    | _=>sv B st r (o+1) k
def K8 (B:List Nat) (st:St) (r:Nat):Option St:=
  match lk st.rt r with
  | some cs=>sv B st r 0 cs.length
  | none=>some st
def Ta (B:List Nat) (st:St) (t:Nat):Option St:=
  match st.get t with
  | .ref r [] o x=>if r=10000+st.of+t∨B.contains r=true then some st else
    match jn st (.ref r [] o x) with
    | some (d',aQ)=>
      let ct:=(aQ.fc (cH (10000+st.of+t))).uU (.ref r [] o x) (10000+st.of+t) [] 0
      some { ct with tm:=pz ct.tm t (.ref (10000+st.of+t) [] 0 none),rt:=pz ct.rt (10000+st.of+t) [d'] }
    | none=>none
  | _=>some st
def DD (f:St→Nat→Option St):St→List Nat→Option St
  | st,[]=>some st
  | st,t::ts=>match f st t with
    | some st'=>DD f st' ts
    | none=>none
def uV {α:Type} (l:List (Nat × α)):List Nat→List (Nat × α)
  | []=>[]
  | t::ts=>match lk l t with
    | some v=>(t,v)::uV l ts
    | none=>uV l ts
def below {α:Type} (k:Nat):List (Nat × α)→List (Nat × α)
  | []=>[]
  | (j,v)::t=>if (k≤j∧j < k+100000)∨((k+1)*100000≤j∧j < (k+100001)*100000) then below k t else (j,v)::below k t
def DE (L B:List Nat) (st:St):Option St:=
  let bs:=B.map (st.of+·)++L.filterMap fun t=>match st.get t with
    | .ptr r [] _=>some r
    | _=>none
  match DD (K8 bs) st bs with
  | some aQ=>match DD (Ta bs) aQ L with
    | some ct=>some { ct with tm:=uV ct.tm L,rt:=below st.of ct.rt++uV ct.rt ((B++L.map (10000+·)).map (st.of+·)) }
    | none=>none
  | none=>none
def uW (nm:St→Option St) (body:St→Option (Exit × St)):Nat→St→Option (Exit × St)
  | 0,_=>none
  | k+1,st=>match nm st with
    | some aQ=>match body aQ with
      | some (.normal,ct)=>uW nm body k ct
      | r=>r
    | none=>none
def eX (c:cD) (cl:FuncId→List D→Option (D × List D)) (ci:FuncId→List D→Nat→St→Option (D × St)) (K:Nat) (aD:FuncId):Code→Nat→St→Option (Exit × St)
  | .skip,_,st=>some (.normal,st)
  | .region _ ops false,_,st=>match vE c cl ci aD ops ops.toList st with
    | some st'=>some (.normal,st')
    | none=>none
  | .region _ ops true,_,st=>match tp c aD ops ops.size (Array.replicate ops.size false) with
    | some l=>(match iC c cl ci aD ops l st with
      | some st'=>some (.normal,st')
      | none=>none)
    | none=>none
  | .seq a b,i,st=>match eX c cl ci K aD a i st with
    | some (.normal,st')=>eX c cl ci K aD b i st'
    | r=>r
  | .cond x a b,i,st=>match cx c st 0 x with
    | .bool t=>if t then eX c cl ci K aD a i st else eX c cl ci K aD b i st
    | _=>none
  | .block id a,_,st=>match eX c cl ci K aD a id st with
    | some (.exit vF,st')=>if vF=id then some (.normal,st') else some (.exit vF,st')
    | r=>r
  | .loop a,i,st=>uW (match c.nm aD i with | some (L,B)=>DE L B | none=>some) (eX c cl ci K aD a i) K st
  | .exit id,_,st=>some (.exit id,st)
  | .ret,_,st=>some (.ret,st)
  | _,_,_=>none
def od (n:Nat):Nat→List D→St→St
  | _,[],st=>st
  | i,d::ds,st=>
    od n (i+1) ds (match d with
      | .bp cs=>{ st with tm:=pz st.tm i (.ptr (n+i) [] 0),rt:=pz st.rt (n+i) cs }
      | d=>if (cY d).any iU then { st with tm:=pz st.tm i (Dz (n+i) d),rt:=pz st.rt (n+i) (cY d) } else { st with tm:=pz st.tm i d })
def ya (c:cD) (st:St):List ResultVar→Option (List D)
  | []=>some []
  | .tmp t::rs=>match ya c st rs with
    | some ds=>some (st.get t::ds)
    | none=>none
  | .cell a t::rs=>match c.ty t with
    | some i=>match qY st (kE i.ty) i.size (st.get a) with
      | some d=>match ya c st rs with
        | some ds=>some (d::ds)
        | none=>none
      | none=>none
    | none=>none
def eS:D→Bool
  | .bp _=>true
  | d=>(cY d).any iU
def oW (st:St) (r:Nat) (d:D):Option D:=
  if eS d then
    match d with
    | .bp _=>some (.ptr r [] 0)
    | .agg _=>match lk st.rt r with
      | some cs=>some (.agg (lO r [] 0 cs))
      | none=>none
    | _=>match lk st.rt r with
      | some [d']=>some (gI r [] 0 d')
      | _=>none
  else none
def pW (n:Nat):Nat→List D→St→Option (List D)
  | _,[],_=>some []
  | i,d::ds,st=>
    match oW st (n+i) d with
    | none=>match pW n (i+1) ds st with
      | some os=>some (.undef::os)
      | none=>none
    | some v=>match EG st v with
      | some (o,st')=>match pW n (i+1) ds st' with
        | some os=>some (o::os)
        | none=>none
      | none=>none
def oX:List D→D
  | [d]=>d
  | ds=>.bf ds
def yv:Nat→List D→List (Nat × D)
  | _,[]=>[]
  | i,d::ds=>(i,d)::yv (i+1) ds
def vG:Exit→Bool
  | .normal | .ret=>true
  | _=>false
def vH (n k:Nat):Bool:=decide (k≤n)&&decide (n+k≤10000)
def Tb:D→Bool
  | .bf _=>false
  | _=>true
def N2 (c:cD) (P:Program) (cl:FuncId→List D→Option (D × List D)) (ci:FuncId→List D→Nat→St→Option (D × St)) (K:Nat) (f:FuncId) (args:List D):Option (D × List D):=
  match c.ext f with
  | some e=>e args
  | none=>match P.funcs[f]? with
    | some fn=>match fn.body with
      | some body=>match eX c cl ci K f body 0 (od fn.ntmps 0 args ⟨[],[],[],0⟩) with
        | some (x,st)=>if vG x&&vH fn.ntmps args.length then (match ya c st fn.results.toList with
            | some ds=>match Oj st ds with
              | some (ds',st')=>match pW fn.ntmps 0 args st' with
                | some os=>some (oX ds',os)
                | none=>none
              | none=>none
            | none=>none) else none
        | none=>none
      | none=>none
    | none=>none
def Xv (c:cD) (P:Program) (cl:FuncId→List D→Option (D × List D)) (ci:FuncId→List D→Nat→St→Option (D × St)) (K:Nat) (f:FuncId) (args:List D) (of:Nat) (st:St):Option (D × St):=
  match P.funcs[f]? with
  | some fn=>match fn.body with
    | some body=>match eX c cl ci K f body 0 ⟨yv 0 args,st.rt,st.tm::st.up,of⟩ with
      | some (x,aQ)=>if vG x&&vH fn.ntmps args.length then (match ya c aQ fn.results.toList,aQ.up with
          | some ds,tm::up=>if ds.all Tb then some (oX ds,⟨tm,aQ.rt,up,st.of⟩) else none
          | _,_=>none) else none
      | none=>none
    | none=>none
  | none=>none
def forget:List Bool→List D→List D
  | true::b,.bp cs::os=>.bp cs::forget b os
  | true::b,_::os=>.undef::forget b os
  | false::b,o::os=>o::forget b os
  | _,os=>os
def UF (b:List Bool):Option (D × List D)→Option (D × List D)
  | some (r,os)=>some (r,forget b os)
  | none=>none
def zE (c:cD) (P:Program) (cl:FuncId→List D→Option (D × List D)) (ci:FuncId→List D→Nat→St→Option (D × St)) (K:Nat) (f:FuncId) (args:List D):Option (D × List D):=
  match c.ext f with
  | some e=>e args
  | none=>UF (c.gone f) (N2 c P cl ci K f args)
def og (c:cD) (P:Program):Nat→(FuncId→List D→Option (D × List D)) × (FuncId→List D→Nat→St→Option (D × St))
  | 0=>(fun _ _=>none,fun _ _ _ _=>none)
  | k+1=>(zE c P (og c P k).1 (og c P k).2 k,Xv c P (og c P k).1 (og c P k).2 k)
def Tc (c:cD) (P:Program) (k:Nat):FuncId→List D→Option (D × List D):=(og c P k).1
end Go.Proofs.YtockoilcnmljiaaGreat
namespace Go.Proofs.YtockoilcnmljiaaGreat
inductive T where
  | v (d:D) (u:Value)
  | own (s n cap:Nat) (a:Option (Nat × Nat)) (cs:List T)
  deriving Inhabited
def bU:D→D
  | .sl none _ _ _=>.undef
  | d=>d
def xz (a:Option (Nat × Nat)) (n cap:Nat):Value:=.slice (a.map fun p=>⟨p.1,p.2,none⟩) n cap
def T.val:T→Value
  | .v _ u=>u
  | .own _ n cap a _=>xz a n cap
mutual
def T.er:T→D
  | .v d _=>bU d
  | .own s n _ _ cs=>.sl none s n (bu cs)
def bu:List T→List D
  | []=>[]
  | t::ts=>t.er::bu ts
end
def jo:Option (Nat × Nat)→List Nat
  | some (b,_)=>[b]
  | none=>[]
mutual
def T.ft:T→List Nat
  | .v _ _=>[]
  | .own _ _ _ a cs=>jo a++aj cs
def aj:List T→List Nat
  | []=>[]
  | t::ts=>t.ft++aj ts
end
def aG:List T→List Value
  | []=>[]
  | t::ts=>t.val::aG ts
theorem eL (ts:List T):bu ts=ts.map T.er:=by
  induction ts with
  | nil=>rfl
  | cons t ts ih=>simp [bu,ih]
theorem cW (ts:List T):aG ts=ts.map T.val:=by
  induction ts with
  | nil=>rfl
  | cons t ts ih=>simp [aG,ih]
theorem om (ts:List T):aj ts=(ts.map T.ft).flatten:=by
  induction ts with
  | nil=>rfl
  | cons t ts ih=>simp [aj,ih]
theorem iD (ts:List T) (o:Nat):(bu ts)[o]?=(ts[o]?).map T.er:=by simp [eL]
theorem fx (ts:List T):(bu ts).length=ts.length:=by simp [eL]
theorem vI (a b:List T):bu (a++b)=bu a++bu b:=by simp [eL]
theorem Oo (ts:List T) (o:Nat) (t:T):(bu ts).set o t.er=bu (ts.set o t):=by
  simp [eL,List.map_set]
theorem fv (ts:List T) (o:Nat):(aG ts)[o]?=(ts[o]?).map T.val:=by simp [cW]
theorem bX (ts:List T):(aG ts).length=ts.length:=by simp [cW]
theorem qv (ts:List T) (o:Nat) (t:T):aG (ts.set o t)=(aG ts).set o t.val:=by simp [cW,List.map_set]
theorem Bm (a b:List T):aG (a++b)=aG a++aG b:=by simp [cW]
theorem bt (a b:List T):aj (a++b)=aj a++aj b:=by simp [om]
theorem Bn (ts:List T) (k:Nat):(bu ts).drop k=bu (ts.drop k):=by simp [eL,List.map_drop]
theorem Bo (ts:List T) (k:Nat):(bu ts).take k=bu (ts.take k):=by simp [eL,List.map_take]
theorem GM {t:T} {s n:Nat} {cs:List D} (h:t.er=.sl none s n cs):∃ cap a ts,t=.own s n cap a ts∧cs=bu ts:=by
  cases t with
  | v d u=>
    simp only [T.er] at h
    cases d<;>simp only [bU] at h<;>try cases h
    rename_i g _ _ _
    cases g<;>simp at h
  | own s' n' cap a ts=>
    simp only [T.er,D.sl.injEq] at h
    obtain ⟨_,rfl,rfl,rfl⟩:=h
    exact ⟨cap,a,ts,rfl,rfl⟩
def aA:List T→List Nat→Option (List T)
  | cs,[]=>some cs
  | cs,o::q=>match cs[o]? with
    | some (.own _ _ _ _ xs)=>aA xs q
    | _=>none
def dO (f:List T→List T):List T→List Nat→Option (List T)
  | cs,[]=>some (f cs)
  | cs,o::q=>match cs[o]? with
    | some (.own s n cap a xs)=>match dO f xs q with
      | some kI=>some (cs.set o (.own s n cap a kI))
      | none=>none
    | _=>none
def cj (b:Option Nat):List T→List Nat→Option (Nat × Nat)
  | _,[]=>b.map fun k=>(k,0)
  | cs,o::q=>match cs[o]? with
    | some (.own _ _ _ a xs)=>(match q with | []=>a | _=>cj none xs q)
    | _=>none
theorem Oq (q:List Nat):∀ cs:List T,mc (bu cs) q=(aA cs q).map bu:=by
  induction q with
  | nil=>intro cs; rfl
  | cons o q ih=>
    intro cs
    simp only [mc,aA,iD]
    cases h:cs[o]? with
    | none=>simp
    | some t=>
      cases t with
      | v d u=>
        cases d<;>simp [T.er,bU]
        rename_i g _ _ _
        cases g<;>simp
      | own s n cap a xs=>simp [T.er,ih]
theorem adj (q:List Nat) (o:Nat) (t:T):∀ cs:List T,pU (fun l=>l.set o t.er) (bu cs) q=(dO (fun l=>l.set o t) cs q).map bu:=by
  induction q with
  | nil=>intro cs; simp [pU,dO,Oo]
  | cons p q ih=>
    intro cs
    simp only [pU,dO,iD]
    cases h:cs[p]? with
    | none=>simp
    | some x=>
      cases x with
      | v d u=>
        cases d<;>simp [T.er,bU]
        rename_i g _ _ _
        cases g<;>simp
      | own s n cap a xs=>
        simp only [Option.map_some,T.er,ih]
        cases hm:dO (fun l=>l.set o t) xs q with
        | none=>simp
        | some kI=>
          simp only [Option.map_some]
          rw [← Oo]; simp [T.er]
theorem Ot {q:List Nat} {f:List T→List T}:∀ {cs l:List T},aA cs q=some l→∃ cs',dO f cs q=some cs':=by
  induction q with
  | nil=>intro cs l _; exact ⟨_,rfl⟩
  | cons p q ih=>
    intro cs l h
    simp only [aA] at h
    simp only [dO]
    cases hp:cs[p]? with
    | none=>simp [hp] at h
    | some x=>
      cases x with
      | v d u=>simp [hp] at h
      | own s n cap a xs=>
        simp only [hp] at h
        obtain ⟨kI,hx⟩:=ih h
        exact ⟨cs.set p (.own s n cap a kI),by simp [hx]⟩
theorem oo {q:List Nat} {f:List T→List T}:∀ {cs cs':List T},dO f cs q=some cs'→∃ l,aA cs q=some l∧aA cs' q=some (f l):=by
  induction q with
  | nil=>
    intro cs cs' h
    simp only [dO,Option.some.injEq] at h
    exact ⟨cs,rfl,by rw [← h]; rfl⟩
  | cons p q ih=>
    intro cs cs' h
    simp only [dO] at h
    cases hp:cs[p]? with
    | none=>simp [hp] at h
    | some x=>
      cases x with
      | v d u=>simp [hp] at h
      | own s n cap a xs=>
        simp only [hp] at h
        cases hm:dO f xs q with
        | none=>simp [hm] at h
        | some kI=>
          simp only [hm,Option.some.injEq] at h
          obtain ⟨l,h1,h2⟩:=ih hm
          refine ⟨l,by simp [aA,hp,h1],?_⟩
          have hl:p < cs.length:=(List.getElem?_eq_some_iff.1 hp).1
          rw [← h]
          simp [aA,hl,h2]
theorem mK {p:Nat} {q:List Nat} {f:List T→List T} {cs cs':List T} (h:dO f cs (p::q)=some cs'):aG cs'=aG cs∧cs'.length=cs.length:=by
  simp only [dO] at h
  cases hp:cs[p]? with
  | none=>simp [hp] at h
  | some x=>
    cases x with
    | v d u=>simp [hp] at h
    | own s n cap a xs=>
      simp only [hp] at h
      cases hm:dO f xs q with
      | none=>simp [hm] at h
      | some kI=>
        simp only [hm,Option.some.injEq] at h
        subst h
        obtain ⟨hl,hx⟩:=List.getElem?_eq_some_iff.1 hp
        refine ⟨?_,by simp⟩
        rw [qv]
        apply List.ext_getElem?
        intro j
        by_cases hj:p=j
        · subst hj
          rw [List.getElem?_set_self (by rw [bX]; exact hl),fv,hp]; rfl
        · simp [hj]
theorem dW (cs:List T) (o:Nat) (t:T) (h:cs[o]?=some t):∃ A B,aj cs=A++t.ft++B∧∀ t':T,aj (cs.set o t')=A++t'.ft++B:=by
  induction cs generalizing o with
  | nil=>simp at h
  | cons x xs ih=>
    cases o with
    | zero=>
      simp only [List.getElem?_cons_zero,Option.some.injEq] at h
      subst h
      exact ⟨[],aj xs,by simp [aj],fun t'=>by simp [aj]⟩
    | succ o=>
      simp only [List.getElem?_cons_succ] at h
      obtain ⟨A,B,h1,h2⟩:=ih o h
      exact ⟨x.ft++A,B,by simp [aj,h1],fun t'=>by simp [aj,h2]⟩
theorem GN {q:List Nat}:∀ {cs l:List T},aA cs q=some l→∃ A B,aj cs=A++aj l++B∧∀ f cs',dO f cs q=some cs'→aj cs'=A++aj (f l)++B:=by
  induction q with
  | nil=>
    intro cs l h
    simp only [aA,Option.some.injEq] at h
    subst h
    refine ⟨[],[],by simp,fun f cs' h=>?_⟩
    simp only [dO,Option.some.injEq] at h
    simp [← h]
  | cons p q ih=>
    intro cs l h
    simp only [aA] at h
    cases hp:cs[p]? with
    | none=>simp [hp] at h
    | some x=>
      cases x with
      | v d u=>simp [hp] at h
      | own s n cap a xs=>
        simp only [hp] at h
        obtain ⟨A,B,h1,h2⟩:=ih h
        obtain ⟨A',B',h3,h4⟩:=dW cs p _ hp
        refine ⟨A'++jo a++A,B++B',by rw [h3]; simp [T.ft,h1],fun f cs' hm=>?_⟩
        simp only [dO,hp] at hm
        cases hx:dO f xs q with
        | none=>simp [hx] at hm
        | some kI=>
          simp only [hx,Option.some.injEq] at hm
          rw [← hm,h4]
          simp [T.ft,h2 f kI hx]
theorem Td {q:List Nat} {o:Nat} {cs l:List T} {t:T} (h:aA cs q=some l) (ht:l[o]?=some t):
    ∃ A B,aj cs=A++t.ft++B∧∀ t' cs',dO (fun l=>l.set o t') cs q=some cs'→aj cs'=A++t'.ft++B:=by
  obtain ⟨A,B,h1,h2⟩:=GN h
  obtain ⟨A',B',h3,h4⟩:=dW l o t ht
  refine ⟨A++A',B'++B,by rw [h1,h3]; simp,fun t' cs' hm=>?_⟩
  rw [h2 _ _ hm,h4]; simp
structure RT where
  box:Option Nat
  cs:List T
def RT.ft (r:RT):List Nat:=r.box.toList++aj r.cs
def cM:List (Nat × RT)→List Nat
  | []=>[]
  | (_,r)::t=>r.ft++cM t
theorem cI {α:Type} (l:List (Nat × α)) (k:Nat) (v:α):lk (pt l k v) k=some v:=by
  induction l with
  | nil=>simp [pt,lk]
  | cons e t ih=>
    obtain ⟨j,u⟩:=e
    simp only [pt]
    split
    · simp [lk]
    · rename_i h; simp [lk,h,ih]
theorem dL {α:Type} (l:List (Nat × α)) {k j:Nat} (v:α) (h:j≠k):lk (pt l k v) j=lk l j:=by
  induction l with
  | nil=>simp [pt,lk,Ne.symm h]
  | cons e t ih=>
    obtain ⟨i,u⟩:=e
    simp only [pt]
    split
    · rename_i hi; subst hi; simp [lk,Ne.symm h]
    · simp only [lk]; split<;>simp [ih]
theorem kK {α:Type} (l:List (Nat × α)) (k:Nat) (v:α):lk (pz l k v) k=some v:=by
  induction l with
  | nil=>simp [pz,lk]
  | cons e t ih=>
    obtain ⟨j,u⟩:=e
    simp only [pz]
    split
    · rename_i h; simp [lk,Nat.ne_of_lt h,ih]
    · split<;>simp [lk]
theorem sw {α:Type} (l:List (Nat × α)) {k j:Nat} (v:α) (h:j≠k):lk (pz l k v) j=lk l j:=by
  induction l with
  | nil=>simp [pz,lk,Ne.symm h]
  | cons e t ih=>
    obtain ⟨i,u⟩:=e
    simp only [pz]
    split
    · simp only [lk]; split<;>simp [ih]
    · split
      · rename_i hi; subst hi; simp [lk,Ne.symm h]
      · simp [lk,Ne.symm h]
def ik (l:List (Nat × List D)) (S:List (Nat × RT)):Prop:=∀ k,lk l k=(lk S k).map fun r=>bu r.cs
theorem DF {l:List (Nat × List D)} {S:List (Nat × RT)} (h:ik l S) (k:Nat) (r:RT):ik (pz l k (bu r.cs)) (pt S k r):=by
  intro j
  by_cases hj:j=k
  · subst hj; rw [kK,cI]; rfl
  · rw [sw _ _ hj,dL _ _ hj]; exact h j
theorem me {S:List (Nat × RT)} {k:Nat} {r:RT} (h:lk S k=some r):∃ A B,cM S=A++r.ft++B∧∀ r',cM (pt S k r')=A++r'.ft++B:=by
  induction S with
  | nil=>simp [lk] at h
  | cons e t ih=>
    obtain ⟨j,u⟩:=e
    simp only [lk] at h
    by_cases hj:j=k
    · simp only [hj,if_true,Option.some.injEq] at h
      subst h
      exact ⟨[],cM t,by simp [cM],fun r'=>by simp [pt,hj,cM]⟩
    · simp only [hj,if_false] at h
      obtain ⟨A,B,h1,h2⟩:=ih h
      exact ⟨u.ft++A,B,by simp [cM,h1],fun r'=>by simp [pt,hj,cM,h2]⟩
theorem Te {S:List (Nat × RT)} {k:Nat} (h:lk S k=none) (r:RT):cM (pt S k r)=cM S++r.ft:=by
  induction S with
  | nil=>simp [pt,cM]
  | cons e t ih=>
    obtain ⟨j,u⟩:=e
    simp only [lk] at h
    by_cases hj:j=k
    · simp [hj] at h
    · simp only [hj,if_false] at h
      simp [pt,hj,cM,ih h]
end Go.Proofs.YtockoilcnmljiaaGreat
namespace Go.Proofs.YtockoilcnmljiaaGreat
def Unf (fz:Nat × Nat) (n:Nat):Prop:=∀ o,o < n→¬ (fz.1≤o∧o < fz.2)
def lL (w:World) (b off fw:Nat) (us:List Value):Prop:=
  ∃ c e fz,w.heap[b]?=some (.cells c e fz)∧Unf fz c.size∧off+fw≤c.size∧∀ j u,us[j]?=some u→c[off+j]?=some u
mutual
def Ext (w:World) (X:Bool→Nat→Prop):D→Value→Prop
  | .int k n,u=>u=.int k n
  | .bool b,u=>u=.bool b
  | .str s,u=>u=.string s
  | .nil _,u=>u=.slice none 0 0
  | .undef,_=>True
  | .hole _ _,_=>True
  | .sl (some g) s n cs,u=>∃ base cap us,u=.slice base n cap∧n≤cap∧cs.length=n*s∧gh w X cs us∧
      (cs=[]∨∃ k off c e fz,base=some ⟨k,off,none⟩∧X g k∧w.heap[k]?=some (.cells c e fz)∧∀ j v,us[j]?=some v→c[off+j]?=some v)
  | _,_=>False
def gh (w:World) (X:Bool→Nat→Prop):List D→List Value→Prop
  | [],us=>us=[]
  | d::ds,us=>∃ v vs,us=v::vs∧Ext w X d v∧gh w X ds vs
end
mutual
def bM (w:World) (X:Bool→Nat→Prop):T→Prop
  | .v d u=>Ext w X (bU d) u
  | .own s n cap a cs=>n≤cap∧cs.length=n*s∧(match a with | none=>n=0∧cap=0 | some (b,off)=>lL w b off (cap*s) (aG cs))∧bN w X cs
def bN (w:World) (X:Bool→Nat→Prop):List T→Prop
  | []=>True
  | t::ts=>bM w X t∧bN w X ts
end
section
variable {w w':World} {X X':Bool→Nat→Prop}
mutual
theorem gy (h:∀ b k,X b k→X' b k∧w'.heap[k]?=w.heap[k]?):∀ (d:D) (u:Value),Ext w X d u→Ext w' X' d u
  | .int _ _,_,hu=>hu
  | .bool _,_,hu=>hu
  | .str _,_,hu=>hu
  | .nil _,_,hu=>hu
  | .undef,_,_=>trivial
  | .hole _ _,_,_=>trivial
  | .sl (some g) s n cs,u,hu=>by
    simp only [Ext] at hu ⊢
    obtain ⟨base,cap,us,h1,pD,h2,h3,h4⟩:=hu
    refine ⟨base,cap,us,h1,pD,h2,tI h cs us h3,?_⟩
    rcases h4 with h4 | ⟨k,off,c,e,fz,h5,h6,h7,h8⟩
    · exact .inl h4
    · exact .inr ⟨k,off,c,e,fz,h5,(h g k h6).1,by rw [(h g k h6).2]; exact h7,h8⟩
  | .sl none _ _ _,_,hu=>by simp [Ext] at hu
  | .ref ..,_,hu=>by simp [Ext] at hu
  | .agg _,_,hu=>by simp [Ext] at hu
  | .bf _,_,hu=>by simp [Ext] at hu
  | .fn ..,_,hu=>by simp [Ext] at hu
  | .ptr ..,_,hu=>by simp [Ext] at hu
  | .cr ..,_,hu=>by simp [Ext] at hu
  | .bp _,_,hu=>by simp [Ext] at hu
theorem tI (h:∀ b k,X b k→X' b k∧w'.heap[k]?=w.heap[k]?):∀ (ds:List D) (us:List Value),gh w X ds us→gh w' X' ds us
  | [],_,hu=>hu
  | d::ds,us,hu=>by
    simp only [gh] at hu ⊢
    obtain ⟨v,vs,h1,h2,h3⟩:=hu
    exact ⟨v,vs,h1,gy h d v h2,tI h ds vs h3⟩
end
mutual
theorem dT (h:∀ b k,X b k→X' b k∧w'.heap[k]?=w.heap[k]?):∀ (t:T),bM w X t→(∀ k∈t.ft,w'.heap[k]?=w.heap[k]?)→bM w' X' t
  | .v d u,hs,_=>by simp only [bM] at hs ⊢; exact gy h _ _ hs
  | .own s n cap a cs,hs,hf=>by
    simp only [bM] at hs ⊢
    obtain ⟨h1,h2,h3,h4⟩:=hs
    refine ⟨h1,h2,?_,gA h cs h4 (fun k hk=>hf k (by simp [T.ft,hk]))⟩
    cases a with
    | none=>exact h3
    | some p=>
      obtain ⟨b,off⟩:=p
      obtain ⟨c,e,fz,hb,hr⟩:=h3
      exact ⟨c,e,fz,by rw [hf b (by simp [T.ft,jo])]; exact hb,hr⟩
theorem gA (h:∀ b k,X b k→X' b k∧w'.heap[k]?=w.heap[k]?):∀ (ts:List T),bN w X ts→(∀ k∈aj ts,w'.heap[k]?=w.heap[k]?)→bN w' X' ts
  | [],_,_=>by simp [bN]
  | t::ts,hs,hf=>by
    simp only [bN] at hs ⊢
    exact ⟨dT h t hs.1 (fun k hk=>hf k (by simp [aj,hk])),gA h ts hs.2 (fun k hk=>hf k (by simp [aj,hk]))⟩
end
end
theorem cu {w:World} {X:Bool→Nat→Prop} (ts:List T):bN w X ts↔∀ t∈ts,bM w X t:=by
  induction ts with
  | nil=>simp [bN]
  | cons t ts ih=>simp [bN,ih]
theorem fU {w:World} {X:Bool→Nat→Prop} {ts:List T} (h:bN w X ts) {o:Nat} {t:T} (ho:ts[o]?=some t):bM w X t:=
  (cu ts).1 h t (List.mem_of_getElem? ho)
theorem Ou {w:World} {X:Bool→Nat→Prop} {ts:List T} (h:bN w X ts) (o:Nat) {t:T} (ht:bM w X t):bN w X (ts.set o t):=by
  rw [cu] at h ⊢
  intro x hx
  rcases List.mem_or_eq_of_mem_set hx with hx | rfl
  · exact h x hx
  · exact ht
theorem dU {w:World} {X:Bool→Nat→Prop} (a b:List T):bN w X (a++b)↔bN w X a∧bN w X b:=by
  rw [cu,cu,cu]
  simp only [List.mem_append]
  exact ⟨fun h=>⟨fun t ht=>h t (.inl ht),fun t ht=>h t (.inr ht)⟩,fun h t ht=>ht.elim (h.1 t) (h.2 t)⟩
theorem xA {w:World} {X:Bool→Nat→Prop} {q:List Nat}:∀ {cs l:List T},bN w X cs→aA cs q=some l→bN w X l:=by
  induction q with
  | nil=>
    intro cs l h hc
    simp only [aA,Option.some.injEq] at hc
    exact hc▸h
  | cons p q ih=>
    intro cs l h hc
    simp only [aA] at hc
    cases hp:cs[p]? with
    | none=>simp [hp] at hc
    | some x=>
      cases x with
      | v d u=>simp [hp] at hc
      | own s n cap a xs=>
        simp only [hp] at hc
        have:=fU h hp
        simp only [bM] at this
        exact ih this.2.2.2 hc
theorem abx {w:World} {X:Bool→Nat→Prop} {o:Nat} {t t':T} (ht:bM w X t') (hv:t'.val=t.val) {q:List Nat}:∀ {cs cs' l:List T},bN w X cs→aA cs q=some l→l[o]?=some t→
    dO (fun l=>l.set o t') cs q=some cs'→bN w X cs'∧aG cs'=aG cs:=by
  induction q with
  | nil=>
    intro cs cs' l h hc ho hm
    simp only [aA,Option.some.injEq] at hc
    simp only [dO,Option.some.injEq] at hm
    subst hc; subst hm
    refine ⟨Ou h o ht,?_⟩
    rw [qv,hv]
    apply List.ext_getElem?
    intro j
    by_cases hj:o=j
    · subst hj
      obtain ⟨hl,_⟩:=List.getElem?_eq_some_iff.1 ho
      rw [List.getElem?_set_self (by rw [bX]; exact hl),fv,ho]; rfl
    · rw [List.getElem?_set_ne hj]
  | cons p q ih=>
    intro cs cs' l h hc ho hm
    refine ⟨?_,(mK hm).1⟩
    simp only [aA] at hc
    simp only [dO] at hm
    cases hp:cs[p]? with
    | none=>simp [hp] at hc
    | some x=>
      cases x with
      | v d u=>simp [hp] at hc
      | own s n cap a xs=>
        simp only [hp] at hc hm
        cases hx:dO (fun l=>l.set o t') xs q with
        | none=>simp [hx] at hm
        | some kI=>
          simp only [hx,Option.some.injEq] at hm
          have hs:=fU h hp
          simp only [bM] at hs
          obtain ⟨h1,h2,h3,h4⟩:=hs
          obtain ⟨h5,h6⟩:=ih h4 hc ho hx
          have hl:kI.length=xs.length:=by have:=congrArg List.length h6; simpa [bX] using this
          rw [← hm]
          refine Ou h p ?_
          simp only [bM]
          exact ⟨h1,by rw [hl]; exact h2,by rw [h6]; exact h3,h5⟩
def RR (w w':World) (b i:Nat) (u:Value):Prop:=
  ∃ c e fz,w.heap[b]?=some (.cells c e fz)∧w'.heap[b]?=some (.cells (c.setIfInBounds i u) e fz)∧∀ k,k≠b→w'.heap[k]?=w.heap[k]?
theorem RU {w w':World} {b i:Nat} {u:Value} (hu:RR w w' b i u) {off fw o:Nat} {us:List Value} (hi:i=off+o) (hb:lL w b off fw us) (Xw:us.length≤fw):lL w' b off fw (us.set o u):=by
  obtain ⟨c,e,fz,h1,h2,h3⟩:=hu
  obtain ⟨c',e',fz',h4,h5,h6,h7⟩:=hb
  rw [h4] at h1
  simp only [Option.some.injEq,Obj.cells.injEq] at h1
  obtain ⟨rfl,rfl,rfl⟩:=h1
  refine ⟨_,e',fz',h2,by simpa using h5,by simpa using h6,fun j v hj=>?_⟩
  subst hi
  by_cases K9:o=j
  · subst K9
    by_cases hl:o < us.length
    · rw [List.getElem?_set_self hl] at hj
      have dp:off+o < c'.size:=by omega
      rw [Array.getElem?_setIfInBounds_self_of_lt dp]; exact hj
    · rw [List.getElem?_eq_none (by simpa using hl)] at hj
      simp at hj
  · rw [List.getElem?_set_ne K9] at hj
    rw [Array.getElem?_setIfInBounds_ne (by omega)]
    exact h7 j v hj
theorem Jj {w w':World} {b k i:Nat} {u:Value} (hu:RR w w' b i u) (hk:k≠b) {off fw:Nat} {us:List Value} (hb:lL w k off fw us):lL w' k off fw us:=by
  obtain ⟨c,e,fz,h1,h2⟩:=hb
  obtain ⟨_,_,_,_,_,h3⟩:=hu
  exact ⟨c,e,fz,by rw [h3 k hk]; exact h1,h2⟩
theorem sx {q:List Nat}:∀ {cs:List T} {bx:Option Nat} {p b off:Nat},cj bx cs (p::q)=some (b,off)→b∈aj cs:=by
  induction q with
  | nil=>
    intro cs bx p b off h
    simp only [cj] at h
    cases hp:cs[p]? with
    | none=>simp [hp] at h
    | some x=>
      cases x with
      | v d u=>simp [hp] at h
      | own s n cap a xs=>
        simp only [hp] at h
        obtain ⟨A,B,h1,_⟩:=dW cs p _ hp
        rw [h1,T.ft,h]; simp [jo]
  | cons p' q ih=>
    intro cs bx p b off h
    rw [cj] at h
    cases hp:cs[p]? with
    | none=>simp [hp] at h
    | some x=>
      cases x with
      | v d u=>simp [hp] at h
      | own s n cap a xs=>
        simp only [hp] at h
        obtain ⟨A,B,h1,_⟩:=dW cs p _ hp
        have:=ih h
        rw [h1,T.ft]; simp [this]
theorem aby {w w':World} {X X':Bool→Nat→Prop} {o b off:Nat} {t':T} (hX:∀ b k,X b k→X' b k∧w'.heap[k]?=w.heap[k]?) (ht:bM w' X' t') (hu:RR w w' b (off+o) t'.val) {q:List Nat}:
    ∀ {cs cs' l:List T} {bx:Option Nat} {p:Nat},bN w X cs→(aj cs).Nodup→aA cs (p::q)=some l→cj bx cs (p::q)=some (b,off)→o < l.length→
    dO (fun l=>l.set o t') cs (p::q)=some cs'→bN w' X' cs':=by
  have Fw:∀ t:T,bM w X t→b∉t.ft→bM w' X' t:=fun t h hb=>dT hX t h (fun k hk=>by
    obtain ⟨_,_,_,_,_,h3⟩:=hu
    exact h3 k (fun e=>hb (e▸hk)))
  induction q with
  | nil=>
    intro cs cs' l bx p h hn hc ha ho hm
    simp only [aA,dO,cj] at hc hm ha
    cases hp:cs[p]? with
    | none=>simp [hp] at hc
    | some x=>
      cases x with
      | v d u=>simp [hp] at hc
      | own s n cap a xs=>
        simp only [hp,Option.some.injEq] at hc hm ha
        subst hc; subst ha; subst hm
        obtain ⟨A,B,h1,h2⟩:=dW cs p _ hp
        rw [h1] at hn
        have hs:=fU h hp
        simp only [bM] at hs
        obtain ⟨h3,h4,h5,h6⟩:=hs
        have RV:(T.own s n cap (some (b,off)) xs).ft.Nodup:=((List.nodup_append.1 (List.nodup_append.1 hn).1).2.1)
        simp only [T.ft,jo,List.cons_append,List.nil_append,List.nodup_cons] at RV
        rw [cu]
        intro t dj
        obtain ⟨j,hj⟩:=List.mem_iff_getElem?.1 dj
        by_cases uI:p=j
        · subst uI
          rw [List.getElem?_set_self (List.getElem?_eq_some_iff.1 hp).1,Option.some.injEq] at hj
          subst hj
          simp only [bM]
          refine ⟨h3,by simpa using h4,?_,?_⟩
          · rw [qv]
            exact RU hu rfl h5 (by rw [bX,h4]; exact Nat.mul_le_mul_right _ h3)
          · rw [cu]
            intro y hy
            obtain ⟨i,hi⟩:=List.mem_iff_getElem?.1 hy
            by_cases hio:o=i
            · subst hio
              rw [List.getElem?_set_self ho,Option.some.injEq] at hi
              exact hi▸ht
            · rw [List.getElem?_set_ne hio] at hi
              refine Fw y (fU h6 hi) (fun hb=>RV.1 ?_)
              obtain ⟨A',B',e1,_⟩:=dW xs i _ hi
              rw [e1]; simp [hb]
        · rw [List.getElem?_set_ne uI] at hj
          refine Fw t (fU h hj) (fun hb=>?_)
          have:b∈(T.own s n cap (some (b,off)) xs).ft:=by simp [T.ft,jo]
          rcases Nat.lt_or_gt_of_ne uI with dp | dp
          · have h7:=h2 (.v .undef undef)
            have GO:(cs.set p (.v .undef undef))[j]?=some t:=by rw [List.getElem?_set_ne uI]; exact hj
            obtain ⟨A',B',e1,_⟩:=dW _ j t GO
            have fY:b∈aj (cs.set p (.v .undef undef)):=by rw [e1]; simp [hb]
            rw [h7] at fY
            simp only [T.ft,List.append_nil,List.mem_append] at fY
            rw [List.nodup_append,List.nodup_append] at hn
            rcases fY with fY | fY
            · exact hn.1.2.2 b fY b this rfl
            · exact hn.2.2 b (List.mem_append.2 (.inr this)) b fY rfl
          · have h7:=h2 (.v .undef undef)
            have GO:(cs.set p (.v .undef undef))[j]?=some t:=by rw [List.getElem?_set_ne uI]; exact hj
            obtain ⟨A',B',e1,_⟩:=dW _ j t GO
            have fY:b∈aj (cs.set p (.v .undef undef)):=by rw [e1]; simp [hb]
            rw [h7] at fY
            simp only [T.ft,List.append_nil,List.mem_append] at fY
            rw [List.nodup_append,List.nodup_append] at hn
            rcases fY with fY | fY
            · exact hn.1.2.2 b fY b this rfl
            · exact hn.2.2 b (List.mem_append.2 (.inr this)) b fY rfl
  | cons p' q ih=>
    intro cs cs' l bx p h hn hc ha ho hm
    rw [aA] at hc
    rw [dO] at hm
    rw [cj] at ha
    cases hp:cs[p]? with
    | none=>simp [hp] at hc
    | some x=>
      cases x with
      | v d u=>simp [hp] at hc
      | own s n cap a xs=>
        simp only [hp] at hc hm ha
        cases hx:dO (fun l=>l.set o t') xs (p'::q) with
        | none=>simp [hx] at hm
        | some kI=>
          simp only [hx,Option.some.injEq] at hm
          subst hm
          obtain ⟨A,B,h1,h2⟩:=dW cs p _ hp
          rw [h1] at hn
          have hs:=fU h hp
          simp only [bM] at hs
          obtain ⟨h3,h4,h5,h6⟩:=hs
          have RV:(T.own s n cap a xs).ft.Nodup:=((List.nodup_append.1 (List.nodup_append.1 hn).1).2.1)
          have hb:=sx ha
          have Zz:b∈(T.own s n cap a xs).ft:=by simp [T.ft,hb]
          simp only [T.ft] at RV
          have hnx:=(List.nodup_append.1 RV).2.1
          obtain ⟨hv,hl⟩:=mK hx
          have hsx:=ih h6 hnx hc ha ho hx
          rw [cu]
          intro t dj
          obtain ⟨j,hj⟩:=List.mem_iff_getElem?.1 dj
          by_cases uI:p=j
          · subst uI
            rw [List.getElem?_set_self (List.getElem?_eq_some_iff.1 hp).1,Option.some.injEq] at hj
            subst hj
            simp only [bM]
            refine ⟨h3,by rw [hl]; exact h4,?_,hsx⟩
            cases a with
            | none=>exact h5
            | some pa=>
              obtain ⟨b1,anG⟩:=pa
              rw [hv]
              refine Jj hu (fun e=>?_) h5
              exact (List.nodup_append.1 RV).2.2 b1 (by simp [jo]) b hb e
          · rw [List.getElem?_set_ne uI] at hj
            refine Fw t (fU h hj) (fun Bp=>?_)
            have h7:=h2 (.v .undef undef)
            have GO:(cs.set p (.v .undef undef))[j]?=some t:=by rw [List.getElem?_set_ne uI]; exact hj
            obtain ⟨A',B',e1,_⟩:=dW _ j t GO
            have fY:b∈aj (cs.set p (.v .undef undef)):=by rw [e1]; simp [Bp]
            rw [h7] at fY
            simp only [T.ft,List.append_nil,List.mem_append] at fY
            rw [List.nodup_append,List.nodup_append] at hn
            rcases fY with fY | fY
            · exact hn.1.2.2 b fY b Zz rfl
            · exact hn.2.2 b (List.mem_append.2 (.inr Zz)) b fY rfl
end Go.Proofs.YtockoilcnmljiaaGreat
namespace Go.Proofs.YtockoilcnmljiaaGreat
inductive cm {α β:Type} (R:α→β→Prop):List α→List β→Prop
  | nil:cm R [] []
  | cons {a b as9 bs}:R a b→cm R as9 bs→cm R (a::as9) (b::bs)
def cB (S:List (Nat × RT)) (r:Nat) (q:List Nat) (o:Nat):Option T:=
  match lk S r with
  | some R=>match aA R.cs q with
    | some l=>l[o]?
    | none=>none
  | none=>none
def eT (x:Option (Nat × Nat)) (t:T) (u:Value):Prop:=
  match sn t.er with
  | some (s,n)=>match x with
    | none=>u=t.val
    | some (l,m)=>l+m≤n∧∃ base C k,t.val=.slice base n C∧k≤C∧u=.slice (base.map (·.add (k*s))) m (C - l)∧(C - l=0∨k=l)
  | none=>True
def bz (w:World) (X:Bool→Nat→Prop) (S:List (Nat × RT)):D→Value→Prop
  | .ref r q o x,u=>∀ t,cB S r q o=some t→eT x t u
  | .ptr r q o,u=>∀ R,lk S r=some R→(q=[]→R.box.isSome)∧∀ b off,cj R.box R.cs q=some (b,off)→u=.pointer (some ⟨b,off+o,none⟩)
  | .cr cs o,u=>∃ b off c e fz us,u=.pointer (some ⟨b,off+o,none⟩)∧X true b∧w.heap[b]?=some (.cells c e fz)∧gh w X cs us∧∀ j v,us[j]?=some v→c[off+j]?=some v
  | d,u=>Ext w X d u
def gL (w:World) (X:Bool→Nat→Prop) (S:List (Nat × RT)):D→Value→Prop
  | .agg cs,u=>∃ us,u=.agg us∧cm (bz w X S) cs us.toList
  | .fn f cs,u=>∃ us,u=.func (.func f) #[] us∧cm (bz w X S) cs us.toList
  | d,u=>bz w X S d u
def cz (w:World) (X:Bool→Nat→Prop) (S:List (Nat × RT)):D→Value→Prop
  | .bf ds,u=>∃ us,u=.tuple us∧cm (gL w X S) ds us.toList
  | d,u=>gL w X S d u
def jq (w:World) (X:Bool→Nat→Prop) (S:List (Nat × RT)) (b:Bool):T→Prop
  | .v d u=>Ext w X (bU d) u∨(b=true∧bz w X S (bU d) u)
  | t=>bM w X t
def Ov (w:World) (X:Bool→Nat→Prop) (S:List (Nat × RT)) (R:RT):Prop:=
  (match R.box with | some b=>lL w b 0 R.cs.length (aG R.cs) | none=>True)∧∀ t∈R.cs,jq w X S R.box.isSome t
structure Ctx where
  w0:World
  FA:List Nat
  Y:Nat→Prop
  P0:List (Nat × Option Nat × List Value)
def af (C:Ctx) (w:World) (S:List (Nat × RT)) (H:List T) (b:Bool) (k:Nat):Prop:=
  k < w.heap.size∧k∉cM S∧k∉aj H∧(b=false→C.Y k∨k∈C.FA∨C.w0.heap.size≤k)
structure Mem (C:Ctx) (w:World) (S:List (Nat × RT)) (H:List T):Prop where
  nd:(cM S++aj H).Nodup
  root:∀ r R,lk S r=some R→Ov w (af C w S H) S R
  hand:bN w (af C w S H) H
  lt:∀ k∈cM S++aj H,k < w.heap.size
def mF (w:World) (X:Bool→Nat→Prop) (S:List (Nat × RT)) (tm:List (Nat × D)) (vs:Array Value):Prop:=
  ∀ t,cz w X S ((lk tm t).getD .undef) (vs.getD t undef)
structure Kept (C:Ctx) (w:World) (S:List (Nat × RT)) (H:List T):Prop where
  os:w.os=C.w0.os
  tape:w.tape=C.w0.tape
  output:w.output=C.w0.output
  size:C.w0.heap.size≤w.heap.size
  block:∀ k,k < C.w0.heap.size→k∉C.FA→w.heap[k]?=C.w0.heap[k]?
  iJ:∀ k∈cM S++aj H,k∈C.FA∨C.w0.heap.size≤k
  par:∀ r b vs,(r,b,vs)∈C.P0→∀ R,lk S r=some R→R.box=b∧(b=none→aG R.cs=vs)
structure Rel (C:Ctx) (H:List T) (w:World) (st:St) (aJ:List (Array Value)) (S:List (Nat × RT)):Prop where
  rt:ik st.rt S
  mem:Mem C w S H
  pE:cm (mF w (af C w S H) S) (st.tm::st.up) aJ
  kept:Kept C w S H
theorem Jk (st:St) (S:List (Nat × RT)) (h:ik st.rt S) (r:Nat) (q:List Nat) (o:Nat):st.cell r q o=(cB S r q o).map T.er:=by
  unfold St.cell St.cells cB
  rw [h]
  cases lk S r with
  | none=>rfl
  | some R=>
    simp only [Option.map_some,Oq]
    cases aA R.cs q with
    | none=>rfl
    | some l=>simp [iD]
theorem vJ (st:St) (S:List (Nat × RT)) (h:ik st.rt S) {r:Nat} {q:List Nat} {cs:List D} (hc:st.cells r q=some cs):∃ R l,lk S r=some R∧aA R.cs q=some l∧cs=bu l:=by
  unfold St.cells at hc
  rw [h] at hc
  cases hr:lk S r with
  | none=>simp [hr] at hc
  | some R=>
    simp only [hr,Option.map_some,Oq] at hc
    cases hl:aA R.cs q with
    | none=>simp [hl] at hc
    | some l=>
      simp only [hl,Option.map_some,Option.some.injEq] at hc
      exact ⟨R,l,rfl,hl,hc.symm⟩
theorem iW {st:St} {S:List (Nat × RT)} (h:ik st.rt S) {r:Nat} {q:List Nat} {o:Nat} {d:D} (hc:st.cell r q o=some d):∃ R l t,lk S r=some R∧aA R.cs q=some l∧l[o]?=some t∧cB S r q o=some t∧d=t.er:=by
  rw [Jk st S h] at hc
  cases ht:cB S r q o with
  | none=>simp [ht] at hc
  | some t=>
    simp only [ht,Option.map_some,Option.some.injEq] at hc
    unfold cB at ht
    cases hr:lk S r with
    | none=>simp [hr] at ht
    | some R=>
      simp only [hr] at ht
      cases hl:aA R.cs q with
      | none=>simp [hl] at ht
      | some l=>
        simp only [hl] at ht
        exact ⟨R,l,t,rfl,hl,ht,rfl,hc.symm⟩
theorem cm.len {α β:Type} {R:α→β→Prop} {as9:List α} {bs:List β} (h:cm R as9 bs):as9.length=bs.length:=by
  induction h with
  | nil=>rfl
  | cons _ _ ih=>simp [ih]
theorem cm.get {α β:Type} {R:α→β→Prop} {as9:List α} {bs:List β} (h:cm R as9 bs):∀ {i:Nat} {a:α},as9[i]?=some a→∃ b,bs[i]?=some b∧R a b:=by
  induction h with
  | nil=>intro i a h; simp at h
  | cons h1 _ ih=>
    intro i a h
    cases i with
    | zero=>simp only [List.getElem?_cons_zero,Option.some.injEq] at h; exact ⟨_,rfl,h▸h1⟩
    | succ i=>simp only [List.getElem?_cons_succ] at h ⊢; exact ih h
theorem cm.mono {α β:Type} {R R':α→β→Prop} {as9:List α} {bs:List β} (h:cm R as9 bs) (hr:∀ a b,R a b→R' a b):cm R' as9 bs:=by
  induction h with
  | nil=>exact .nil
  | cons h1 _ ih=>exact .cons (hr _ _ h1) ih
theorem cm.map {α α' β:Type} {R:α→β→Prop} {R':α'→β→Prop} {as9:List α} {bs:List β} (h:cm R as9 bs) (f:α→α') (hr:∀ a b,R a b→R' (f a) b):cm R' (as9.map f) bs:=by
  induction h with
  | nil=>exact .nil
  | cons h1 _ ih=>exact .cons (hr _ _ h1) ih
theorem cm.app {α β:Type} {R:α→β→Prop} {as9 cy:List α} {bs ZA:List β} (h:cm R as9 bs) (h':cm R cy ZA):cm R (as9++cy) (bs++ZA):=by
  induction h with
  | nil=>exact h'
  | cons h1 _ ih=>exact .cons h1 ih
theorem cm.drop {α β:Type} {R:α→β→Prop} {as9:List α} {bs:List β} (h:cm R as9 bs):∀ n,cm R (as9.drop n) (bs.drop n):=by
  induction h with
  | nil=>intro n; simp; exact .nil
  | cons h1 h2 ih=>
    intro n
    cases n with
    | zero=>exact .cons h1 h2
    | succ n=>simpa using ih n
theorem cm.take {α β:Type} {R:α→β→Prop} {as9:List α} {bs:List β} (h:cm R as9 bs):∀ n,cm R (as9.take n) (bs.take n):=by
  induction h with
  | nil=>intro n; simp; exact .nil
  | cons h1 h2 ih=>
    intro n
    cases n with
    | zero=>exact .nil
    | succ n=>exact .cons h1 (ih n)
theorem dv {α β:Type} {R:α→β→Prop}:∀ {as9:List α} {bs:List β},as9.length=bs.length→(∀ (i:Nat) a b,as9[i]?=some a→bs[i]?=some b→R a b)→cm R as9 bs
  | [],[],_,_=>.nil
  | a::as9,b::bs,h,hr=>.cons (hr 0 a b rfl rfl) (dv (by simpa using h) (fun i a b ha hb=>hr (i+1) a b (by simpa using ha) (by simpa using hb)))
  | [],_::_,h,_=>by simp at h
  | _::_,[],h,_=>by simp at h
theorem hM {w:World} {X:Bool→Nat→Prop} (ds:List D):∀ us,gh w X ds us↔cm (Ext w X) ds us:=by
  induction ds with
  | nil=>intro us; simp only [gh]; exact ⟨fun h=>h▸.nil,fun h=>by cases h; rfl⟩
  | cons d ds ih=>
    intro us
    simp only [gh]
    constructor
    · rintro ⟨v,vs,rfl,h1,h2⟩
      exact .cons h1 ((ih vs).1 h2)
    · intro h
      cases h with
      | cons h1 h2=>exact ⟨_,_,rfl,h1,(ih _).2 h2⟩
theorem fK {w:World} {X:Bool→Nat→Prop} {S:List (Nat × RT)}:∀ {d:D} {u:Value},Ext w X d u→bz w X S d u
  | .int ..,_,h=>h
  | .bool ..,_,h=>h
  | .str ..,_,h=>h
  | .nil ..,_,h=>h
  | .undef,_,h=>h
  | .hole ..,_,h=>h
  | .sl ..,_,h=>h
  | .ref ..,_,h=>by simp [Ext] at h
  | .agg ..,_,h=>by simp [Ext] at h
  | .bf ..,_,h=>by simp [Ext] at h
  | .fn ..,_,h=>by simp [Ext] at h
  | .ptr ..,_,h=>by simp [Ext] at h
  | .cr ..,_,h=>by simp [Ext] at h
  | .bp ..,_,h=>by simp [Ext] at h
theorem ew {w:World} {X:Bool→Nat→Prop} {S:List (Nat × RT)} {d:D} {u:Value} (h:bz w X S d u):gL w X S d u:=by
  cases d<;>first | exact h | (simp [bz,Ext] at h)
theorem kL {w:World} {X:Bool→Nat→Prop} {S:List (Nat × RT)} {d:D} {u:Value} (h:gL w X S d u):cz w X S d u:=by
  cases d<;>first | exact h | (simp [gL,bz,Ext] at h)
theorem mL {w:World} {X:Bool→Nat→Prop} {S:List (Nat × RT)} {d:D} {u:Value} (h:bz w X S d u):cz w X S d u:=kL (ew h)
theorem GP {w:World} {X:Bool→Nat→Prop} {S:List (Nat × RT)} {d:D} {u:Value} (h:Ext w X d u):cz w X S d u:=mL (fK h)
theorem mG {w:World} {X:Bool→Nat→Prop} {S:List (Nat × RT)} (u:Value):cz w X S .undef u:=GP (by simp [Ext])
theorem Xx (vs:Array Value) (d t:Nat) (v:Value):(vs.setIfInBounds d v).getD t undef=if d=t∧d < vs.size then v else vs.getD t undef:=by
  rw [Array.getD_eq_getD_getElem?,Array.getD_eq_getD_getElem?,Array.getElem?_setIfInBounds]
  by_cases h:d=t
  · subst h
    by_cases hd:d < vs.size
    · simp [hd]
    · simp [hd]
  · simp [h]
theorem mF.put {w:World} {X:Bool→Nat→Prop} {S:List (Nat × RT)} {tm:List (Nat × D)} {vs:Array Value} (h:mF w X S tm vs) {t:Nat} (ht:t < vs.size) {d:D} {v:Value} (hv:cz w X S d v):mF w X S (pz tm t d) (vs.setIfInBounds t v):=by
  intro i
  rw [Xx]
  by_cases hi:t=i
  · subst hi
    rw [kK]; simpa [ht] using hv
  · rw [sw _ _ (Ne.symm hi)]; simpa [hi] using h i
end Go.Proofs.YtockoilcnmljiaaGreat
namespace Go.Proofs.YtockoilcnmljiaaGreat
def RW (d:D) (u:Value):Prop:=∀ w X,Ext w X d u
def Xy:TypeDesc→Bool
  | .struct _ | .array _ _=>true
  | _=>false
def kM (P:Program):Ty→TypeDesc→Prop
  | .int k,d=>d=.int k
  | .bool,d=>d=.bool
  | .str,d=>d=.string
  | .slice e,d=>d=.slice e
  | .array n e,d=>d=.array n e
  | .struct mb szs,d=>∃ fs,d=.struct fs∧mb=fs.toList.map (·.offset)∧szs.length=fs.toList.length∧∀ (j:Nat) (f:Field),fs.toList[j]?=some f→∃ i,P.info? f.type=some i∧i.size≠0∧szs[j]?=some i.size
  | .ptr e,d=>d=.pointer e
  | .fn,d=>Xy d=false
  | .other,d=>Xy d=false
structure Fx (P:Program) (t:TypeId) (ti:TI):Prop where
  info:∃ i,P.info? t=some i∧i.size=ti.size∧i.bytes=ti.bytes∧∃ z,i.zero=some z∧cm RW ti.zero z.cells.toList
  desc:∃ d,P.underlying t=some d∧kM P ti.ty d
  len:ti.zero.length=ti.size
structure ey (c:cD) (P:Program):Prop where
  ty:∀ t ti,c.ty t=some ti→Fx P t ti
section
variable {P:Program} {w:World}
theorem UG {t:TypeId} {i:TypeInfo} (h:P.info? t=some i) (w:World):(typeInfo t).run P w=.ok i w:=by simp [typeInfo,h]
theorem UH {t:TypeId} {i:TypeInfo} (h:P.info? t=some i) (w:World):(Go.sizeOf t).run P w=Result.ok i.size w:=by
  simp [Go.sizeOf,UG h]
theorem Ow {t:TypeId} {i:TypeInfo} {z:Value} (h:P.info? t=some i) (hz:i.zero=some z) (w:World):(zeroValue t).run P w=.ok z w:=by
  simp [zeroValue,UG h,hz]
theorem Fx.sz {t:TypeId} {ti:TI} (h:Fx P t ti) (w:World):(Go.sizeOf t).run P w=Result.ok ti.size w:=by
  obtain ⟨i,h1,h2,_⟩:=h.info
  rw [UH h1,h2]
theorem abz {ty:Ty} {d:TypeDesc} (h:kM P ty d):Xy d=kE ty:=by
  cases ty<;>simp only [kM] at h<;>first | (subst h; rfl) | (obtain ⟨fs,rfl,_⟩:=h; rfl) | (rw [h]; rfl)
theorem Fx.agg {t:TypeId} {ti:TI} (h:Fx P t ti) (w:World):(isAgg t).run P w=.ok (kE ti.ty) w:=by
  obtain ⟨d,h1,h2⟩:=h.desc
  simp only [isAgg,Sem.run_bind,run_underlying h1,Result.andThen_ok]
  rw [← abz h2]
  cases d<;>rfl
end
section
variable {P:Program} {o:Oper} {a:Act} {w:World} {K:Act→World→Prop} {Q:Exit→Act→World→Prop}
theorem qc {v:Value} {w':World} (h:(execOp a.eval o).run P w=.ok (.value v) w') (hk:K (a.put o.dst v) w'):o.wp P a w K Q:=by
  unfold Oper.wp; rw [h]; exact hk
theorem Tf {w':World} (h:(execOp a.eval o).run P w=.ok .skip w') (hk:K (a.put o.dst undef) w'):o.wp P a w K Q:=by
  unfold Oper.wp; rw [h]; exact hk
end
theorem fe (b off k:Nat):(⟨b,off,none⟩:Addr).add k=⟨b,off+k,none⟩:=by
  unfold Addr.add; split
  · rename_i h; subst h; rfl
  · rfl
theorem vK {w:World} {b off fw:Nat} {us:List Value} (h:lL w b off fw us) {j:Nat} {u:Value} (hj:us[j]?=some u):w.cell? ⟨b,off+j,none⟩=some u:=by
  obtain ⟨c,e,fz,h1,_,_,h4⟩:=h
  simp [World.cell?,h1,h4 j u hj]
theorem GQ {w:World} {b off fw:Nat} {us:List Value} (h:lL w b off fw us) {j:Nat} (hj:j < fw):w.frozen? ⟨b,off+j,none⟩=false:=by
  obtain ⟨c,e,fz,h1,h2,h3,_⟩:=h
  have:=h2 (off+j) (by omega)
  simp only [World.frozen?,h1]
  simpa using this
theorem GR {w:World} {b off fw:Nat} {us:List Value} (h:lL w b off fw us) {j:Nat} (hj:j < fw):∃ u,w.cell? ⟨b,off+j,none⟩=some u:=by
  obtain ⟨c,e,fz,h1,_,h3,_⟩:=h
  have:off+j < c.size:=by omega
  exact ⟨c[off+j],by simp [World.cell?,h1,this]⟩
theorem Xz {w:World} {X:Bool→Nat→Prop} {q:List Nat}:∀ {s n cap:Nat} {a:Option (Nat × Nat)} {xs l:List T},bM w X (.own s n cap a xs)→aA xs q=some l→l≠[]→
    ∃ b off fw,(match q with | []=>a | _=>cj none xs q)=some (b,off)∧lL w b off fw (aG l)∧l.length≤fw∧bN w X l:=by
  induction q with
  | nil=>
    intro s n cap a xs l h hc hl
    simp only [aA,Option.some.injEq] at hc
    subst hc
    simp only [bM] at h
    obtain ⟨h1,h2,h3,h4⟩:=h
    cases a with
    | none=>
      have:xs.length=0:=by rw [h2,h3.1]; simp
      exact absurd (List.length_eq_zero_iff.1 this) hl
    | some p=>exact ⟨p.1,p.2,_,rfl,h3,by rw [h2]; exact Nat.mul_le_mul_right _ h1,h4⟩
  | cons p q ih=>
    intro s n cap a xs l h hc hl
    simp only [bM] at h
    rw [aA] at hc
    cases hp:xs[p]? with
    | none=>simp [hp] at hc
    | some x=>
      cases x with
      | v d u=>simp [hp] at hc
      | own s' n' uE a' kI=>
        simp only [hp] at hc
        obtain ⟨b,off,fw,h5,h6⟩:=ih (fU h.2.2.2 hp) hc hl
        exact ⟨b,off,fw,by simp only [cj,hp]; exact h5,h6⟩
theorem q8 {C:Ctx} {w:World} {S:List (Nat × RT)} {H:List T} (hm:Mem C w S H) {r:Nat} {R:RT} {q:List Nat} {l:List T} (hr:lk S r=some R) (hc:aA R.cs q=some l) (hl:l≠[]) (hb:q=[]→R.box.isSome=true):
    ∃ b off fw,cj R.box R.cs q=some (b,off)∧lL w b off fw (aG l)∧l.length≤fw∧(q≠[]→bN w (af C w S H) l):=by
  obtain ⟨h1,h2⟩:=hm.root r R hr
  cases q with
  | nil=>
    simp only [aA,Option.some.injEq] at hc
    subst hc
    have hb:=hb rfl
    cases hx:R.box with
    | none=>simp [hx] at hb
    | some b=>exact ⟨b,0,_,by simp [cj],by simpa [hx] using h1,Nat.le_refl _,fun h=>absurd rfl h⟩
  | cons p q=>
    rw [aA] at hc
    cases hp:R.cs[p]? with
    | none=>simp [hp] at hc
    | some x=>
      cases x with
      | v d u=>simp [hp] at hc
      | own s n cap a xs=>
        simp only [hp] at hc
        have hs:bM w (af C w S H) (.own s n cap a xs):=h2 _ (List.mem_of_getElem? hp)
        obtain ⟨b,off,fw,h3,h4,h5,h6⟩:=Xz hs hc hl
        exact ⟨b,off,fw,by simp only [cj,hp]; exact h3,h4,h5,fun _=>h6⟩
theorem Ox {q:List Nat}:∀ {cs l:List T} {bx:Option Nat} {o s n cap:Nat} {a:Option (Nat × Nat)} {xs:List T},aA cs q=some l→l[o]?=some (.own s n cap a xs)→cj bx cs (q++[o])=a∧aA cs (q++[o])=some xs:=by
  induction q with
  | nil=>
    intro cs l bx o s n cap a xs hc ho
    simp only [aA,Option.some.injEq] at hc
    subst hc
    simp [cj,aA,ho]
  | cons p q ih=>
    intro cs l bx o s n cap a xs hc ho
    rw [aA] at hc
    cases hp:cs[p]? with
    | none=>simp [hp] at hc
    | some x=>
      cases x with
      | v d u=>simp [hp] at hc
      | own s' n' uE a' kI=>
        simp only [hp] at hc
        obtain ⟨h1,h2⟩:=ih (bx:=none) hc ho
        refine ⟨?_,by simp only [List.cons_append,aA,hp]; exact h2⟩
        rw [List.cons_append,cj]
        simp only [hp]
        cases hq:q++[o] with
        | nil=>simp at hq
        | cons y ys=>rw [hq] at h1; exact h1
theorem Fy {S:List (Nat × RT)} {r:Nat} {R:RT} {q:List Nat} {l:List T} {o:Nat} (hr:lk S r=some R) (hc:aA R.cs q=some l):cB S r q o=l[o]?:=by
  simp [cB,hr,hc]
theorem qw {C:Ctx} {w:World} {S:List (Nat × RT)} {H:List T} (hm:Mem C w S H) {r:Nat} {R:RT} {q:List Nat} {l:List T} {o:Nat} {t:T} (hr:lk S r=some R) (hc:aA R.cs q=some l) (ho:l[o]?=some t):
    bz w (af C w S H) S (gI r q o t.er) t.val:=by
  cases t with
  | own s n cap a xs=>
    simp only [T.er,gI,bz]
    intro t' pF
    rw [Fy hr hc,ho,Option.some.injEq] at pF
    subst pF
    simp [eT,sn,T.er]
  | v d u=>
    have hv:gI r q o (T.v d u).er=bU d:=by
      simp only [T.er]
      cases d<;>simp [bU,gI]
      rename_i g _ _ _
      cases g<;>simp [bU,gI]
    rw [hv]
    obtain ⟨_,h2⟩:=hm.root r R hr
    cases q with
    | nil=>
      simp only [aA,Option.some.injEq] at hc
      subst hc
      rcases h2 _ (List.mem_of_getElem? ho) with h3 | ⟨_,h3⟩
      · exact fK h3
      · exact h3
    | cons p q=>
      rw [aA] at hc
      cases hp:R.cs[p]? with
      | none=>simp [hp] at hc
      | some x=>
        cases x with
        | v d u=>simp [hp] at hc
        | own s n cap a xs=>
          simp only [hp] at hc
          have hs:bM w (af C w S H) (.own s n cap a xs):=h2 _ (List.mem_of_getElem? hp)
          simp only [bM] at hs
          have:=fU (xA hs.2.2.2 hc) ho
          simp only [bM] at this
          exact fK this
theorem oq (r:Nat) (q:List Nat):∀ (cs:List D) (o i:Nat),(lO r q o cs)[i]?=(cs[i]?).map (gI r q (o+i))
  | [],o,i=>by simp [lO]
  | d::ds,o,0=>by simp [lO]
  | d::ds,o,i+1=>by
    simp only [lO,List.getElem?_cons_succ,oq r q ds (o+1) i]
    congr 1
    rw [show o+1+i=o+(i+1) by omega]
theorem qx (r:Nat) (q:List Nat):∀ (cs:List D) (o:Nat),(lO r q o cs).length=cs.length
  | [],o=>rfl
  | d::ds,o=>by simp [lO,qx r q ds (o+1)]
def dP (w w2:World):Prop:=∀ k,k < w.heap.size→w2.heap[k]?=w.heap[k]?
theorem dP.refl (w:World):dP w w:=fun _ _=>rfl
theorem dP.trans {w w2 w3:World} (h:dP w w2) (h':dP w2 w3):dP w w3:=fun k hk=>by
  have h1:=h k hk
  have yw:k < w2.heap.size:=by
    rcases Nat.lt_or_ge k w2.heap.size with h2 | h2
    · exact h2
    · rw [Array.getElem?_eq_none h2,Array.getElem?_eq_getElem hk] at h1
      simp at h1
  rw [h' k yw,h1]
theorem dP.cell {w w2:World} (h:dP w w2) {A:Addr} {v:Value} (hc:w.cell? A=some v):w2.cell? A=some v:=by
  have hk:A.block < w.heap.size:=by
    rcases Nat.lt_or_ge A.block w.heap.size with h2 | h2
    · exact h2
    · simp [World.cell?,Array.getElem?_eq_none h2] at hc
  rw [← hc]
  unfold World.cell?
  rw [h _ hk]
def Bq (u:Value) (w w2:World):Prop:=∀ B,u=.pointer (some B)→∀ A v,A.block=B.block→w.cell? A=some v→w2.cell? A=some v
theorem dP.aie {w w2:World} (h:dP w w2) (u:Value):Bq u w w2:=fun _ _ _ _ _ hc=>h.cell hc
theorem Bq.refl (u:Value) (w:World):Bq u w w:=fun _ _ _ _ _ h=>h
theorem RX {u:Value} {w w2:World} {b:Nat} (hb:∀ B,u=.pointer (some B)→B.block=b) (h:w2.heap[b]?=w.heap[b]?):Bq u w w2:=fun B hB A v hA hc=>by
  have e:A.block=b:=hA.trans (hb B hB)
  rw [← hc]
  unfold World.cell?
  rw [e,h]
theorem Jl {P:Program} {c:cD} (ax:ey c P) {C:Ctx} {Hx:List T} {w:World} {S:List (Nat × RT)} {st:St} (gi:ik st.rt S) (hm:Mem C w S Hx) {t:TypeId} {ti:TI} (ht:c.ty t=some ti) {d d':D} {u:Value} (hd:cz w (af C w S Hx) S d u) (h:qY st (kE ti.ty) ti.size d=some d'):
    ∃ v,(∀ w2,Bq u w w2→(Instr.loadAt t u).run P w2=.ok v w2)∧cz w (af C w S Hx) S d' v:=by
  have mf:=ax.ty t ti ht
  cases d with
  | ptr r q o=>
    simp only [qY] at h
    cases eM:st.cells r q with
    | none=>simp [eM] at h
    | some cs=>
      simp only [eM] at h
      obtain ⟨R,l,hr,hl,rfl⟩:=vJ st S gi eM
      have hp:=hd R hr
      cases ez:kE ti.ty with
      | true=>
        simp only [ez,if_true] at h
        split at h
        case isFalse=>simp at h
        rename_i hle
        obtain ⟨hz,hle⟩:=hle
        simp only [Option.some.injEq] at h
        subst h
        rw [fx] at hle
        · have db:l≠[]:=by intro e; subst e; simp at hle; omega
          obtain ⟨b,off,fw,h1,h2,h3,_⟩:=q8 hm hr hl db hp.1
          have hu:=hp.2 b off h1
          subst hu
          refine ⟨.agg ((aG l).drop o |>.take ti.size).toArray,?_,?_⟩
          · intro w2 pG
            simp only [Instr.loadAt,Instr.sureAddr,loadVar,Sem.run_bind,Sem.run_pure,Result.andThen_ok,mf.agg,ez,if_true,mf.sz]
            have hlen:((aG l).drop o |>.take ti.size).length=ti.size:=by simp [bX]; omega
            have:=run_loadCells_list (P:=P) w2 ⟨b,off+o,none⟩ ((aG l).drop o |>.take ti.size) (fun j v hj=>by
              rw [fe,Nat.add_assoc]
              refine pG _ rfl _ _ rfl (vK h2 ?_)
              rw [List.getElem?_take] at hj
              split at hj
              · rw [List.getElem?_drop] at hj; exact hj
              · simp at hj)
            rw [hlen] at this
            simp [this]
          · refine ⟨_,rfl,dv ?_ ?_⟩
            · simp [qx,fx,bX]
            · intro i d1 v1 hi hv
              rw [oq,Bn,Bo,iD] at hi
              simp only [List.getElem?_take] at hv hi
              split at hv
              · rename_i dp
                rw [if_pos dp,List.getElem?_drop] at hi
                rw [List.getElem?_drop,fv] at hv
                cases hx:l[o+i]? with
                | none=>simp [hx] at hi
                | some t'=>
                  simp only [hx,Option.map_some,Option.some.injEq] at hi hv
                  subst hi; subst hv
                  exact qw hm hr hl hx
              · simp at hv
      | false=>
        simp only [ez,Bool.false_eq_true,if_false] at h
        rw [iD] at h
        cases hx:l[o]? with
        | none=>simp [hx] at h
        | some t'=>
          simp only [hx,Option.map_some,Option.some.injEq] at h
          subst h
          have db:l≠[]:=by intro e; subst e; simp at hx
          obtain ⟨b,off,fw,h1,h2,h3,_⟩:=q8 hm hr hl db hp.1
          have hu:=hp.2 b off h1
          subst hu
          refine ⟨t'.val,?_,mL (qw hm hr hl hx)⟩
          intro w2 pG
          simp only [Instr.loadAt,Instr.sureAddr,loadVar,Sem.run_bind,Sem.run_pure,Result.andThen_ok,mf.agg,ez,Bool.false_eq_true,if_false]
          have cR:w2.cell? ⟨b,off+o,none⟩=some t'.val:=pG _ rfl _ _ rfl (vK h2 (by rw [fv,hx]; rfl))
          simp [cR]
  | cr cs o=>
    obtain ⟨b,off,cc,e,fz,us,rfl,hXb,eY,Oy,pH⟩:=hd
    simp only [qY] at h
    have eb:=(hM cs us).1 Oy
    cases ez:kE ti.ty with
    | true=>
      simp only [ez,if_true] at h
      split at h
      case isFalse=>simp at h
      rename_i hle
      obtain ⟨hz,hle⟩:=hle
      simp only [Option.some.injEq] at h
      subst h
      refine ⟨.agg ((us.drop o).take ti.size).toArray,?_,?_⟩
      · intro w2 pG
        simp only [Instr.loadAt,Instr.sureAddr,loadVar,Sem.run_bind,Sem.run_pure,Result.andThen_ok,mf.agg,ez,if_true,mf.sz]
        have hlen:((us.drop o).take ti.size).length=ti.size:=by have:=eb.len; simp; omega
        have:=run_loadCells_list (P:=P) w2 ⟨b,off+o,none⟩ ((us.drop o).take ti.size) (fun j v hj=>by
          rw [fe]
          refine pG _ rfl _ _ rfl ?_
          rw [List.getElem?_take] at hj
          split at hj
          · rw [List.getElem?_drop] at hj
            simp [World.cell?,eY,Nat.add_assoc,pH _ _ hj]
          · simp at hj)
        rw [hlen] at this
        simp [this]
      · exact ⟨_,rfl,by simpa using ((eb.drop o).take ti.size).mono (fun _ _ h=>fK h)⟩
    | false=>
      simp only [ez,Bool.false_eq_true,if_false] at h
      obtain ⟨u,hu,he⟩:=eb.get h
      refine ⟨u,?_,GP he⟩
      intro w2 pG
      simp only [Instr.loadAt,Instr.sureAddr,loadVar,Sem.run_bind,Sem.run_pure,Result.andThen_ok,mf.agg,ez,Bool.false_eq_true,if_false]
      have cR:w.cell? ⟨b,off+o,none⟩=some u:=by simp [World.cell?,eY,pH _ _ hu]
      have cR:=pG _ rfl _ _ rfl cR
      simp [cR]
  | _=>simp [qY] at h
end Go.Proofs.YtockoilcnmljiaaGreat
namespace Go.Proofs.YtockoilcnmljiaaGreat
section
variable {w:World} {X:Bool→Nat→Prop} {S:List (Nat × RT)}
theorem gB {k:IntKind} {n:Int} {u:Value} (h:cz w X S (.int k n) u):u=.int k n:=h
theorem yx {b:Bool} {u:Value} (h:cz w X S (.bool b) u):u=.bool b:=h
theorem yy {s:ByteArray} {u:Value} (h:cz w X S (.str s) u):u=.string s:=h
theorem UI {s:Nat} {u:Value} (h:cz w X S (.nil s) u):u=.slice none 0 0:=h
theorem UJ (k:IntKind) (n:Int):cz w X S (.int k n) (.int k n):=rfl
theorem tvs (s:ByteArray):cz w X S (.str s) (.string s):=rfl
end
theorem xB {c:cD} {w:World} {X:Bool→Nat→Prop} {S:List (Nat × RT)} {st:St} {a:Act} (h:mF w X S st.tm a.tmps) (t:TypeId) (x:Operand):cz w X S (cx c st t x) (a.eval x):=by
  cases x with
  | tmp i=>exact h i
  | const v=>
    simp only [cx,Act.eval]
    cases v<;>try exact mG _
    all_goals first | rfl | skip
    rename_i b n cap
    simp only [DA]
    split<;>first | exact mG _ | (rename_i e; first | cases e | skip)
    all_goals first | rfl | exact mG _ | skip
  | func f=>exact ⟨#[],rfl,.nil⟩
  | global g=>exact mG _
section
variable {P:Program} {w:World} {X:Bool→Nat→Prop} {S:List (Nat × RT)}
theorem GS (op:BinOp) (t:TypeId) (x y:Operand) (k k':IntKind) (a b:Int):(eqGuard op t x y (.int k a) (.int k' b)).run P w=.ok () w:=by
  unfold eqGuard; split<;>rfl
theorem GU (op:BinOp) (t:TypeId) (x y:Operand) (a b:ByteArray):(eqGuard op t x y (.string a) (.string b)).run P w=.ok () w:=by
  unfold eqGuard; split<;>rfl
theorem Fz (op:BinOp) (t:TypeId) (x y:Operand) (a b:Bool):(eqGuard op t x y (.bool a) (.bool b)).run P w=.ok () w:=by
  unfold eqGuard; split<;>rfl
theorem run_equal_bool {t:TypeId} (h:P.underlying t=some .bool) (a b:Bool):(Op.equal t (.bool a) (.bool b)).run P w=.ok (a==b) w:=by
  have:Op.equal t (.bool a) (.bool b)=Op.equalIn (9999+1) t (.bool a) (.bool b):=rfl
  rw [this,Op.equalIn,Sem.run_bind,run_underlying h]
  rfl
theorem UK {c:cD} (ax:ey c P) {op:BinOp} {t:TypeId} {x y:Operand} {dx dy d:D} {u v:Value} (hx:cz w X S dx u) (hy:cz w X S dy v) (h:sq c t op dx dy=some d):
    ∃ r,(∀ w:World,(do eqGuard op t x y u v; binOp op t u v:Sem Value).run P w=.ok r w)∧cz w X S d r:=by
  cases dx with
  | int k a=>
    cases dy with
    | int k' b=>
      have h1:=gB hx; have h2:=gB hy
      subst h1; subst h2
      simp only [Sem.run_bind,GS,Result.andThen_ok]
      cases op<;>simp only [sq] at h
      case shl=>
        simp only [vz] at h
        split at h
        · simp at h
        · rename_i hb
          simp only [Option.some.injEq] at h
          exact ⟨_,by intro w; simp [binOp,Op.shift,hb]; rfl,by subst h; rfl⟩
      case shr=>
        simp only [vz] at h
        split at h
        · simp at h
        · rename_i hb
          simp only [Option.some.injEq] at h
          exact ⟨_,by intro w; simp [binOp,Op.shift,hb]; rfl,by subst h; rfl⟩
      case quo | rem=>
        split at h
        case isFalse=>simp at h
        rename_i hk
        subst hk
        simp only [Bk] at h
        split at h
        · simp at h
        · rename_i hb
          simp only [Option.some.injEq] at h
          exact ⟨_,by intro w; simp [binOp,Op.intDiv,hb]; rfl,by subst h; rfl⟩
      all_goals
        split at h
        case isFalse=>simp at h
        rename_i hk
        subst hk
        simp only [Bk] at h
      all_goals
        first
        | (simp at h; done)
        | (simp only [Option.some.injEq] at h
           exact ⟨_,by intro w; simp [binOp,Op.intArith,Op.intBits,Op.intCmp]; rfl,by subst h; rfl⟩)
    | _=>simp [sq] at h
  | str a=>
    cases dy with
    | str b=>
      have h1:=yy hx; have h2:=yy hy
      subst h1; subst h2
      simp only [Sem.run_bind,GU,Result.andThen_ok]
      simp only [sq] at h
      cases op<;>simp only [Ok] at h
      case add=>
        split at h
        case isFalse=>simp at h
        rename_i hs
        simp only [Option.some.injEq] at h
        have vL:¬ (((a.size+b.size:Nat):Int)>IntKind.i64.max):=by
          have:IntKind.i64.max=9223372036854775807:=by decide
          rw [this]; omega
        exact ⟨.string (a++b),by intro w; simp only [binOp,Op.stringOp]; rw [if_neg vL]; rfl,by subst h; rfl⟩
      all_goals
        first
        | (simp at h; done)
        | (simp only [Option.some.injEq] at h
           exact ⟨_,by intro w; simp [binOp,Op.stringOp]; rfl,by subst h; rfl⟩)
    | _=>simp [sq] at h
  | bool a=>
    cases dy with
    | bool b=>
      have h1:=yx hx; have h2:=yx hy
      subst h1; subst h2
      simp only [Sem.run_bind,Fz,Result.andThen_ok]
      simp only [sq] at h
      split at h
      case h_2=>simp at h
      rename_i mf
      obtain ⟨dd,h3,h4⟩:=(ax.ty t _ mf).desc
      simp only [kM] at h4
      subst h4
      cases op<;>simp only [Jh] at h
      all_goals
        first
        | (simp at h; done)
        | (simp only [Option.some.injEq] at h
           exact ⟨_,by intro w; simp only [binOp,Sem.run_bind,run_equal_bool h3,Result.andThen_ok,Sem.run_pure]; rfl,by subst h; rfl⟩)
    | _=>simp [sq] at h
  | _=>simp [sq] at h
theorem ZB {op:UnOp} {dx d:D} {u:Value} (hx:cz w X S dx u) (h:Zy op dx=some d):∃ r,(∀ w:World,(Op.unary op u).run P w=.ok r w)∧cz w X S d r:=by
  cases op<;>cases dx<;>simp only [Zy] at h<;>first | (simp at h; done) | skip
  · have:=gB hx
    subst this
    simp only [Option.some.injEq] at h
    exact ⟨_,by intro w; simp [Op.unary,Op.intArith]; rfl,by subst h; simp [cz,gL,bz,Ext]⟩
  · have:=yx hx
    subst this
    simp only [Option.some.injEq] at h
    exact ⟨_,by intro w; simp [Op.unary]; rfl,by subst h; rfl⟩
theorem GV {ds:List D} {d:D} {u:Value} {i:Nat} (hx:cz w X S (.bf ds) u) (h:ds[i]?=some d):∃ r,(∀ w:World,(Instr.extract u i).run P w=.ok r w)∧cz w X S d r:=by
  obtain ⟨us,rfl,ha⟩:=hx
  obtain ⟨r,hr,ht⟩:=ha.get h
  have eE:us[i]?=some r:=by simpa using hr
  exact ⟨r,by intro w; simp [Instr.extract,eE],kL ht⟩
end
theorem vk {C:Ctx} {Hx:List T} {w:World} {S:List (Nat × RT)} {st:St} (gi:ik st.rt S) (hm:Mem C w S Hx) {r:Nat} {q:List Nat} (h:live st r q=true) {i:Nat} {u:Value} (hu:cz w (af C w S Hx) S (.ptr r q i) u):
    ∃ R b off,lk S r=some R∧cj R.box R.cs q=some (b,off)∧u=.pointer (some ⟨b,off+i,none⟩):=by
  unfold live at h
  split at h
  case h_2=>simp at h
  rename_i x xs eM
  obtain ⟨R,l,hr,hl,he⟩:=vJ st S gi eM
  have hp:=hu R hr
  obtain ⟨b,off,fw,h1,_⟩:=q8 hm hr hl (by rintro rfl; simp [bu] at he) hp.1
  exact ⟨R,b,off,hr,h1,hp.2 b off h1⟩
theorem UL {w:World} {X:Bool→Nat→Prop} {S:List (Nat × RT)} {r:Nat} {q:List Nat} {i j:Nat} {u:Value} {R:RT} {b off:Nat} (hu:cz w X S (.ptr r q i) u) (hr:lk S r=some R) (ha:cj R.box R.cs q=some (b,off)):cz w X S (.ptr r q j) (.pointer (some ⟨b,off+j,none⟩)):=by
  intro R' eo
  refine ⟨(hu R' eo).1,fun b' FB eN=>?_⟩
  rw [hr,Option.some.injEq] at eo
  subst eo
  rw [ha,Option.some.injEq,Prod.mk.injEq] at eN
  obtain ⟨rfl,rfl⟩:=eN
  rfl
section
variable {P:Program} {c:cD} (ax:ey c P) {w:World} {C:Ctx} {Hx:List T} {S:List (Nat × RT)} {st:St} (gi:ik st.rt S) (hm:Mem C w S Hx)
include ax gi hm
theorem Br {s:TypeId} {mb szs:List Nat} {sz qy:Nat} {z:List D} {f k:Nat} {d d':D} {u:Value} (ht:c.ty s=some ⟨.struct mb szs,sz,qy,z⟩) (hk:mb[f]?=some k) (hd:cz w (af C w S Hx) S d u)
    (h:yr st k d=some d'):∃ r,(∀ w:World,(Instr.fieldAt s u f).run P w=.ok r w)∧cz w (af C w S Hx) S d' r:=by
  have mf:=ax.ty s _ ht
  obtain ⟨dd,h1,h2⟩:=mf.desc
  obtain ⟨fs,rfl,h3,_,h4⟩:=h2
  have hf:∃ fl,fs[f]?=some fl∧fl.offset=k:=by
    rw [h3] at hk
    simp only [List.getElem?_map] at hk
    cases hx:fs.toList[f]? with
    | none=>simp [hx] at hk
    | some fl=>simp only [hx,Option.map_some,Option.some.injEq] at hk; exact ⟨fl,by simpa using hx,hk⟩
  obtain ⟨fl,hfl,rfl⟩:=hf
  obtain ⟨inf,hi,hz,_⟩:=h4 f fl (by simpa using hfl)
  have key:∀ (A:Addr) (w:World),(Instr.fieldAt s (.pointer (some A)) f).run P w=.ok (.pointer (some (A.add fl.offset))) w:=fun A w=>by
    simp [Instr.fieldAt,run_underlying h1,hfl,Instr.sureAddr,fieldPlace,UH hi,hz]
  cases d with
  | ptr r q i=>
    simp only [yr] at h
    split at h
    case isFalse=>simp at h
    rename_i hl
    simp only [Option.some.injEq] at h
    subst h
    obtain ⟨R,b,off,hR,ha,rfl⟩:=vk gi hm hl hd
    refine ⟨_,key _,?_⟩
    rw [fe,Nat.add_assoc]
    exact UL hd hR ha
  | cr cs i=>
    simp only [yr,Option.some.injEq] at h
    subst h
    obtain ⟨b,off,cc,e,fz,us,rfl,h5⟩:=hd
    exact ⟨_,key _,b,off,cc,e,fz,us,by rw [fe,Nat.add_assoc],h5⟩
  | _=>simp [yr] at h
omit ax in
theorem tq {d d':D} {u:Value} (hd:cz w (af C w S Hx) S d u) (h:(match d with | .ptr r q i=>if live st r q then some (.ptr r q i) else none | .cr cs i=>some (.cr cs i) | _=>none:Option D)=some d'):
    ∃ A,u=.pointer (some A)∧d'=d:=by
  cases d with
  | ptr r q i=>
    simp only at h
    split at h
    case isFalse=>simp at h
    rename_i hl
    obtain ⟨R,b,off,hR,ha,rfl⟩:=vk gi hm hl hd
    exact ⟨_,rfl,(Option.some.inj h).symm⟩
  | cr cs i=>
    obtain ⟨b,off,cc,e,fz,us,rfl,h5⟩:=hd
    exact ⟨_,rfl,(Option.some.inj h).symm⟩
  | _=>simp at h
end
end Go.Proofs.YtockoilcnmljiaaGreat
namespace Go.Proofs.YtockoilcnmljiaaGreat
section
variable {P:Program} {C:Ctx} {w:World} {S:List (Nat × RT)} {st:St} {H:List T}
theorem tJ (hm:Mem C w S H) {r:Nat} {R:RT} {q:List Nat} {l:List T} {o:Nat} {t:T} (hr:lk S r=some R) (hc:aA R.cs q=some l) (ho:l[o]?=some t) {g:Option Bool} {s n:Nat} {cs:List D} (he:t.er=.sl g s n cs):
    bM w (af C w S H) t:=by
  obtain ⟨_,h2⟩:=hm.root r R hr
  cases q with
  | nil=>
    simp only [aA,Option.some.injEq] at hc
    subst hc
    have:=h2 _ (List.mem_of_getElem? ho)
    cases t with
    | own s n cap a xs=>exact this
    | v d u=>
      rcases this with h3 | ⟨_,h3⟩
      · exact h3
      · simp only [T.er] at he
        simp only [bM]
        rw [he] at h3 ⊢
        exact h3
  | cons p q=>
    rw [aA] at hc
    cases hp:R.cs[p]? with
    | none=>simp [hp] at hc
    | some x=>
      cases x with
      | v d u=>simp [hp] at hc
      | own s n cap a xs=>
        simp only [hp] at hc
        have hs:bM w (af C w S H) (.own s n cap a xs):=h2 _ (List.mem_of_getElem? hp)
        simp only [bM] at hs
        exact fU (xA hs.2.2.2 hc) ho
def adl (w:World) (X:Bool→Nat→Prop) (d:D) (u:Value):Prop:=Ext w X d u∨∃ t:T,d=t.er∧u=t.val∧bM w X t
structure Tg (w:World) (X:Bool→Nat→Prop) (s n:Nat) (cs:List D) (u:Value):Prop where
  ok:∃ base cap,u=.slice base n cap∧n≤cap∧cs.length=n*s∧(cs=[]∨∃ b off c e fz us,base=some ⟨b,off,none⟩∧w.heap[b]?=some (.cells c e fz)∧cm (adl w X) cs us∧∀ j v,us[j]?=some v→c[off+j]?=some v)
theorem Bs {X:Bool→Nat→Prop} {t:T} (h:bM w X t) {g:Option Bool} {s n:Nat} {cs:List D} (he:t.er=.sl g s n cs):Tg w X s n cs t.val:=by
  cases t with
  | v d u=>
    simp only [bM] at h
    simp only [T.er] at he
    rw [he] at h
    cases g with
    | none=>simp [Ext] at h
    | some g=>
      simp only [Ext] at h
      obtain ⟨base,cap,us,rfl,h1,h2,h3,h4⟩:=h
      refine ⟨base,cap,rfl,h1,h2,?_⟩
      rcases h4 with h4 | ⟨k,off,c,e,fz,h5,h6,h7,h8⟩
      · exact .inl h4
      · exact .inr ⟨k,off,c,e,fz,us,h5,h7,((hM cs us).1 h3).mono (fun _ _ h=>.inl h),h8⟩
  | own s' n' cap a ts=>
    simp only [bM] at h
    simp only [T.er,D.sl.injEq] at he
    obtain ⟨_,rfl,rfl,rfl⟩:=he
    obtain ⟨h1,h2,h3,h4⟩:=h
    refine ⟨a.map fun p=>⟨p.1,p.2,none⟩,cap,rfl,h1,by rw [fx]; exact h2,?_⟩
    cases a with
    | none=>
      left
      have:ts.length=0:=by rw [h2,h3.1]; simp
      simp [List.length_eq_zero_iff.1 this,bu]
    | some p=>
      obtain ⟨b,off⟩:=p
      obtain ⟨c,e,fz,h5,_,_,h6⟩:=h3
      refine .inr ⟨b,off,c,e,fz,aG ts,rfl,h5,?_,h6⟩
      refine dv (by simp [fx,bX]) (fun i d u hd hu=>?_)
      rw [iD] at hd
      rw [fv] at hu
      cases hx:ts[i]? with
      | none=>simp [hx] at hd
      | some t=>
        simp only [hx,Option.map_some,Option.some.injEq] at hd hu
        exact .inr ⟨t,hd.symm,hu.symm,fU h4 hx⟩
theorem abA {X:Bool→Nat→Prop} {x:Option (Nat × Nat)} {t:T} {u:Value} {g:Option Bool} {s n:Nat} {cs:List D} (he:t.er=.sl g s n cs) (hr:eT x t u) (h:Tg w X s n cs t.val):Tg w X s (trim x s n cs).1 (trim x s n cs).2 u:=by
  unfold eT at hr
  rw [he] at hr
  simp only [sn] at hr
  cases x with
  | none=>simp only at hr; subst hr; exact h
  | some p=>
    obtain ⟨l,m⟩:=p
    simp only at hr
    obtain ⟨h1,base,C,k,h2,h3,rfl,h4⟩:=hr
    obtain ⟨Th,cap,h5,h6,h7,h8⟩:=h.ok
    rw [h2] at h5
    simp only [Value.slice.injEq] at h5
    obtain ⟨rfl,_,rfl⟩:=h5
    have hlen:((cs.drop (l*s)).take (m*s)).length=m*s:=by
      rw [List.length_take,List.length_drop,h7]
      have:l*s+m*s≤n*s:=by rw [← Nat.add_mul]; exact Nat.mul_le_mul_right _ h1
      omega
    refine ⟨_,_,rfl,(by show m≤C - l; omega),hlen,?_⟩
    by_cases hms:m*s=0
    · left
      have h9:((cs.drop (l*s)).take (m*s)).length=0:=by rw [hlen]; exact hms
      exact List.length_eq_zero_iff.1 h9
    · right
      rcases h8 with h8 | ⟨b,off,c,e,fz,us,rfl,nb,Oz,h12⟩
      · exfalso
        subst h8
        simp at hlen
        omega
      · have hk:k=l:=by
          rcases h4 with h4 | h4
          · exfalso
            have:m≠0:=fun e=>hms (by simp [e])
            omega
          · exact h4
        subst hk
        refine ⟨b,off+k*s,c,e,fz,(us.drop (k*s)).take (m*s),by simp [fe],nb,(Oz.drop _).take _,fun j v hj=>?_⟩
        rw [List.getElem?_take] at hj
        split at hj
        · rw [List.getElem?_drop] at hj
          rw [Nat.add_assoc]; exact h12 _ _ hj
        · simp at hj
theorem N3 (gi:ik st.rt S) (hm:Mem C w S H) {d:D} {u:Value} (hd:cz w (af C w S H) S d u) {g:Option Bool} {s n:Nat} {cs:List D} (h:st.qu d=some (g,s,n,cs)):Tg w (af C w S H) s n cs u:=by
  cases d with
  | nil k=>
    simp only [St.qu,Option.some.injEq,Prod.mk.injEq] at h
    obtain ⟨_,rfl,rfl,rfl⟩:=h
    have:=UI hd
    subst this
    exact ⟨none,0,rfl,Nat.le_refl _,by simp,.inl rfl⟩
  | sl b s' n' cs'=>
    simp only [St.qu,Option.some.injEq,Prod.mk.injEq] at h
    obtain ⟨rfl,rfl,rfl,rfl⟩:=h
    cases b with
    | none=>exact absurd hd (by simp [cz,gL,bz,Ext])
    | some b=>exact Bs (t:=.v (.sl (some b) s' n' cs') u) hd rfl
  | ref r q o x=>
    simp only [St.qu] at h
    split at h
    case h_2=>simp at h
    rename_i b s' n' cs' hc
    simp only [Option.some.injEq,Prod.mk.injEq] at h
    obtain ⟨rfl,rfl,rfl,rfl⟩:=h
    obtain ⟨R,l,t,h1,h2,h3,h4,h5⟩:=iW gi hc
    exact abA h5.symm (hd t h4) (Bs (tJ hm h1 h2 h3 h5.symm) h5.symm)
  | _=>simp [St.qu] at h
variable {c:cD} (ax:ey c P)
include ax
theorem UM (gi:ik st.rt S) (hm:Mem C w S H) {t:TypeId} {d d':D} {u:Value} (hd:cz w (af C w S H) S d u) (h:Ol c st t d=some d') (ty:TypeId):∃ r,(∀ w:World,(Builtin.len_ #[t] ty #[u]).run P w=.ok r w)∧cz w (af C w S H) S d' r:=by
  unfold Ol at h
  split at h
  · rename_i mf
    obtain ⟨dd,h1,h2⟩:=(ax.ty t _ mf).desc
    simp only [kM] at h2
    subst h2
    have:=yy hd
    subst this
    simp only [Option.some.injEq] at h
    subst h
    exact ⟨_,by intro w; simp [Builtin.len_,run_underlying h1]; rfl,rfl⟩
  · rename_i e mf
    obtain ⟨dd,h1,h2⟩:=(ax.ty t _ mf).desc
    simp only [kM] at h2
    subst h2
    split at h
    case h_2=>simp at h
    rename_i hs
    simp only [Option.some.injEq] at h
    subst h
    obtain ⟨base,cap,rfl,_⟩:=(N3 gi hm hd hs).ok
    exact ⟨_,by intro w; simp [Builtin.len_,run_underlying h1]; rfl,rfl⟩
  · simp at h
end
end Go.Proofs.YtockoilcnmljiaaGreat
namespace Go.Proofs.YtockoilcnmljiaaGreat
theorem q9 {P:Program} {w:World} {t e:TypeId} {A:Addr} {n cap:Nat} {k:IntKind} {i:Int} {sz:Nat} (h:P.underlying t=some (.slice e)) (hs:(Go.sizeOf e).run P w=Result.ok sz w) (h0:0≤i) (h1:i < n):
    (Instr.indexAt t (.slice (some A) n cap) (.int k i)).run P w=.ok (.pointer (some (A.add (i.toNat*sz)))) w:=by
  simp [Instr.indexAt,run_underlying h,asIntOf,h0,h1,hs]
theorem xC {P:Program} {w:World} {t e:TypeId} {A:Addr} {n:Nat} {k:IntKind} {i:Int} {sz:Nat} (h:P.underlying t=some (.array n e)) (hs:(Go.sizeOf e).run P w=Result.ok sz w) (h0:0≤i) (h1:i < n):
    (Instr.indexAt t (.pointer (some A)) (.int k i)).run P w=.ok (.pointer (some (A.add (i.toNat*sz)))) w:=by
  simp [Instr.indexAt,run_underlying h,asIntOf,h0,h1,hs,Instr.sureAddr]
theorem mM {i:Int} {n:Nat} {d:Option D} {d':D} (h:kF i n d=some d'):0≤i∧i < n∧d=some d':=by
  unfold kF at h
  split at h
  · split at h
    · exact ⟨by assumption,by assumption,h⟩
    · simp at h
  · simp at h
section
variable {P:Program} {c:cD} (ax:ey c P) {C:Ctx} {Hx:List T} {w:World} {S:List (Nat × RT)} {st:St} (gi:ik st.rt S) (hm:Mem C w S Hx)
include ax gi hm
theorem Bt {t:TypeId} {d d':D} {u:Value} {k:IntKind} {i:Int} (hd:cz w (af C w S Hx) S d u) (h:qZ st c t d i=some d'):
    ∃ r,(∀ w:World,(Instr.indexAt t u (.int k i)).run P w=.ok r w)∧cz w (af C w S Hx) S d' r:=by
  unfold qZ at h
  split at h
  · rename_i e sz qy z mf
    obtain ⟨dd,h1,h2⟩:=(ax.ty t _ mf).desc
    simp only [kM] at h2
    subst h2
    split at h
    case h_2=>simp at h
    rename_i ei vM
    have cE:=fun w=>(ax.ty e ei vM).sz w
    split at h
    · rename_i r q o x
      split at h
      · rename_i s n cs hc
        split at h
        case isFalse=>simp at h
        rename_i hs
        obtain ⟨hs,ZC⟩:=hs
        subst hs
        obtain ⟨h3,h4,h5⟩:=mM h
        simp only [Option.some.injEq] at h5
        subst h5
        obtain ⟨R,l,t',h6,h7,h8,h9,nb⟩:=iW gi hc
        obtain ⟨cap,a,ts,rfl,rfl⟩:=GM nb.symm
        have ec:=tJ hm h6 h7 h8 nb.symm
        have hr:=hd _ h9
        have ra:0 < (trim x ei.size n (bu ts)).1:=by omega
        simp only [bM] at ec
        obtain ⟨g1,g2,g3,g4⟩:=ec
        obtain ⟨GW,ha2⟩:=Ox (bx:=R.box) h7 h8
        have key:∃ b off0 n' c',a=some (b,off0)∧u=.slice (some ⟨b,off0+off x*ei.size,none⟩) n' c'∧n'=(trim x ei.size n (bu ts)).1:=by
          cases x with
          | none=>
            simp only [eT,sn,T.er,T.val,xz] at hr
            cases a with
            | none=>simp only [trim] at ra; omega
            | some p=>exact ⟨p.1,p.2,n,cap,rfl,by simp [hr,off],rfl⟩
          | some p=>
            obtain ⟨l0,m⟩:=p
            simp only [eT,sn,T.er,T.val,xz,Value.slice.injEq] at hr
            obtain ⟨e1,base,C0,k0,⟨e2,_,e3⟩,e4,rfl,e5⟩:=hr
            subst e3
            simp only [trim] at ra
            cases a with
            | none=>simp only at g3; omega
            | some p=>
              simp only [Option.map_some] at e2
              subst e2
              have:k0=l0:=by
                rcases e5 with e5 | e5
                · omega
                · exact e5
              subst this
              exact ⟨p.1,p.2,m,cap - k0,rfl,by rw [Option.map_some,fe]; rfl,rfl⟩
        obtain ⟨b,off0,n',c',rfl,rfl,rfl⟩:=key
        refine ⟨_,fun w=>q9 h1 (cE w) h3 h4,?_⟩
        intro R' eo
        rw [h6,Option.some.injEq] at eo
        subst eo
        refine ⟨fun e=>by simp at e,fun b' FB fY=>?_⟩
        rw [GW,Option.some.injEq,Prod.mk.injEq] at fY
        obtain ⟨rfl,rfl⟩:=fY
        rw [fe,Nat.add_mul,Nat.add_assoc]
      · rename_i g s n cs hc
        split at h
        case isFalse=>simp at h
        rename_i hs
        obtain ⟨hs,ZC⟩:=hs
        subst hs
        obtain ⟨h3,h4,h5⟩:=mM h
        simp only [Option.some.injEq] at h5
        subst h5
        obtain ⟨R,l,t',h6,h7,h8,h9,nb⟩:=iW gi hc
        have ec:=tJ hm h6 h7 h8 nb.symm
        have hr:=hd _ h9
        have ra:0 < (trim x ei.size n cs).1:=by omega
        cases t' with
        | own s' n' cap a ts=>simp [T.er] at nb
        | v dd uu=>
          simp only [bM] at ec
          simp only [T.er] at nb
          rw [← nb] at ec
          simp only [Ext] at ec
          obtain ⟨base,cap,us,e1,e2,e3,e4,e5⟩:=ec
          have db:cs≠[]:=by
            intro eM
            subst eM
            simp only [List.length_nil] at e3
            rcases Nat.mul_eq_zero.1 e3.symm with hn | hn
            · subst hn
              cases x with
              | none=>simp [trim] at ra
              | some p=>
                simp only [eT,sn,T.er,← nb] at hr
                obtain ⟨e6,_⟩:=hr
                simp only [trim] at ra; omega
            · omega
          rcases e5 with e5 | ⟨kb,off0,cc,e,fz,e6,e7,e8,e9⟩
          · exact absurd e5 db
          · subst e6
            have key:∃ n' c',u=.slice (some ⟨kb,off0+off x*ei.size,none⟩) n' c'∧n'=(trim x ei.size n cs).1:=by
              cases x with
              | none=>
                simp only [eT,sn,T.er,← nb,T.val] at hr
                exact ⟨n,cap,by simp [hr,e1,off],rfl⟩
              | some p=>
                obtain ⟨l0,m⟩:=p
                simp only [eT,sn,T.er,← nb,T.val,e1,Value.slice.injEq] at hr
                obtain ⟨f1,Th,C0,k0,⟨f2,_,f3⟩,f4,rfl,f5⟩:=hr
                subst f3; subst f2
                simp only [trim] at ra
                have:k0=l0:=by
                  rcases f5 with f5 | f5
                  · omega
                  · exact f5
                subst this
                exact ⟨m,cap - k0,by rw [Option.map_some,fe]; rfl,rfl⟩
            obtain ⟨n',c',rfl,rfl⟩:=key
            refine ⟨_,fun w=>q9 h1 (cE w) h3 h4,kb,off0,cc,e,fz,us,?_,?_,e8,e4,e9⟩
            · rw [fe,Nat.add_mul,Nat.add_assoc]
            · exact ⟨e7.1,e7.2.1,e7.2.2.1,fun h=>by simp at h⟩
      · simp at h
    · rename_i g s n cs
      split at h
      case isFalse=>simp at h
      rename_i hs
      obtain ⟨hs,ZC⟩:=hs
      subst hs
      obtain ⟨h3,h4,h5⟩:=mM h
      simp only [Option.some.injEq] at h5
      subst h5
      have tK:Ext w (af C w S Hx) (.sl (some g) ei.size n cs) u:=hd
      simp only [Ext] at tK
      obtain ⟨base,cap,us,rfl,e2,e3,e4,e5⟩:=tK
      rcases e5 with e5 | ⟨kb,off0,cc,e,fz,rfl,e7,e8,e9⟩
      · exfalso
        subst e5
        simp only [List.length_nil] at e3
        rcases Nat.mul_eq_zero.1 e3.symm with hn | hn<;>omega
      · refine ⟨_,fun w=>q9 h1 (cE w) h3 h4,kb,off0,cc,e,fz,us,by rw [fe],?_,e8,e4,e9⟩
        exact ⟨e7.1,e7.2.1,e7.2.2.1,fun h=>by simp at h⟩
    · simp at h
  · rename_i n e sz qy z mf
    obtain ⟨dd,h1,h2⟩:=(ax.ty t _ mf).desc
    simp only [kM] at h2
    subst h2
    split at h
    case h_2=>simp at h
    rename_i ei vM
    have cE:=fun w=>(ax.ty e ei vM).sz w
    split at h
    · rename_i r q o
      split at h
      case isFalse=>simp at h
      rename_i hl
      obtain ⟨h3,h4,h5⟩:=mM h
      simp only [Option.some.injEq] at h5
      subst h5
      obtain ⟨R,b,off0,hR,ha,rfl⟩:=vk gi hm hl hd
      refine ⟨_,fun w=>xC h1 (cE w) h3 h4,?_⟩
      rw [fe,Nat.add_assoc]
      exact UL hd hR ha
    · rename_i cs o
      obtain ⟨h3,h4,h5⟩:=mM h
      simp only [Option.some.injEq] at h5
      subst h5
      obtain ⟨b,off0,cc,e',fz,us,rfl,h6⟩:=hd
      exact ⟨_,fun w=>xC h1 (cE w) h3 h4,b,off0,cc,e',fz,us,by rw [fe,Nat.add_assoc],h6⟩
    · simp at h
  · simp at h
end
end Go.Proofs.YtockoilcnmljiaaGreat
namespace Go.Proofs.YtockoilcnmljiaaGreat
theorem add_add (A:Addr) (i j:Nat):(A.add i).add j=A.add (i+j):=by
  unfold Addr.add
  split<;>split<;>split<;>first | rfl | omega | simp_all [Nat.add_assoc]
theorem OA (b:Option Addr):b.map (·.add 0)=b:=by
  cases b<;>simp [Addr.add]
def UN (d:Option D) (u:Option Value):Prop:=(d=none∧u=none)∨∃ k i,d=some (.int k i)∧u=some (.int k i)
theorem GX {w:World} {X:Bool→Nat→Prop} {S:List (Nat × RT)} {d:Option D} {u:Option Value} (h:(d=none∧u=none)∨∃ x y,d=some x∧u=some y∧cz w X S x y) {z i:Int} (hb:bound d z=some i):UN d u:=by
  rcases h with h | ⟨x,y,rfl,rfl,h⟩
  · exact .inl h
  · cases x<;>simp [bound] at hb
    have:=gB h
    subst this
    exact .inr ⟨_,_,rfl,rfl⟩
theorem GY {P:Program} {w:World} {is:Bool} {len cap:Nat} {dl dh:Option D} {ul uh:Option Value} {l h:Int} (h1:UN dl ul) (h2:UN dh uh) (hl:bound dl 0=some l) (hh:bound dh len=some h) (h0:0≤l) (ZD:l≤h) (hhn:h≤len) (zF:len≤cap):
    (Instr.sliceBounds is len cap ul uh none).run P w=.ok (l.toNat,h.toNat,cap) w:=by
  have e1:0≤h:=Int.le_trans h0 ZD
  have e2:h≤(cap:Int):=by omega
  have e3:l≤(h.toNat:Int):=by omega
  rcases h1 with ⟨rfl,rfl⟩ | ⟨k,i,rfl,rfl⟩<;>rcases h2 with ⟨rfl,rfl⟩ | ⟨k',i',rfl,rfl⟩<;>simp only [bound,Option.some.injEq] at hl hh<;>subst hl<;>subst hh
  · simp [Instr.sliceBounds]
  · simp [Instr.sliceBounds,Instr.sliceBound,asIntOf,e1,e2]
  · simp [Instr.sliceBounds,Instr.sliceBound,asIntOf,h0,ZD]
  · have e4:i≤((i'.toNat:Nat):Int):=e3
    simp only [Instr.sliceBounds,Instr.sliceBound,asIntOf,Sem.run_bind,Sem.run_pure,Result.andThen_ok,Sem.run_ite]
    rw [if_pos ⟨e1,e2⟩]
    simp only [Result.andThen_ok,Sem.run_pure,Sem.run_bind,Sem.run_ite]
    rw [if_pos ⟨h0,e4⟩]
    rfl
def Lb (w:World) (X:Bool→Nat→Prop) (S:List (Nat × RT)) (d:Option D) (u:Option Value):Prop:=(d=none∧u=none)∨∃ x y,d=some x∧u=some y∧cz w X S x y
section
variable {P:Program} {w:World}
theorem Md {X:Bool→Nat→Prop} {S:List (Nat × RT)} {t:TypeId} (ht:P.underlying t=some .string) {s:ByteArray} {d':D} {dl dh:Option D} {ul uh:Option Value} (hl:Lb w X S dl ul) (hh:Lb w X S dh uh) (h:GK s dl dh=some d'):
    ∃ r,(∀ w:World,(Instr.sliceAt t (.string s) ul uh none).run P w=.ok r w)∧cz w X S d' r:=by
  unfold GK at h
  split at h
  case h_2=>simp at h
  rename_i l0 h0 e1 e2
  split at h
  case isFalse=>simp at h
  rename_i hc
  obtain ⟨i1,i2,i3⟩:=hc
  simp only [Option.some.injEq] at h
  subst h
  refine ⟨.string (s.extract l0.toNat h0.toNat),?_,rfl⟩
  intro w
  simp only [Instr.sliceAt,Sem.run_bind,run_underlying ht,Result.andThen_ok,Instr.slice]
  simp [GY (GX hl e1) (GX hh e2) e1 e2 i1 i2 i3 (Nat.le_refl _)]
theorem Me {t e:TypeId} (ht:P.underlying t=some (.slice e)) {sz:Nat} (hs:(Go.sizeOf e).run P w=Result.ok sz w) {base:Option Addr} {n cap:Nat} {dl dh:Option D} {ul uh:Option Value} {l h:Int} (h1:UN dl ul) (h2:UN dh uh) (hl:bound dl 0=some l) (hh:bound dh n=some h) (h0:0≤l) (ZD:l≤h) (hhn:h≤n) (zF:n≤cap):
    (Instr.sliceAt t (.slice base n cap) ul uh none).run P w=.ok (.slice (if cap=l.toNat then base else base.map (·.add (l.toNat*sz))) (h.toNat - l.toNat) (cap - l.toNat)) w:=by
  simp only [Instr.sliceAt,Sem.run_bind,run_underlying ht,Result.andThen_ok,Instr.slice,GY h1 h2 hl hh h0 ZD hhn zF,hs]
  rfl
end
section
variable {P:Program} {c:cD} (ax:ey c P) {C:Ctx} {Hx:List T} {w:World} {S:List (Nat × RT)} {st:St} (gi:ik st.rt S) (hm:Mem C w S Hx)
include gi hm
theorem UO {t e:TypeId} (ht:P.underlying t=some (.slice e)) {sz:Nat} (hs:∀ w,(Go.sizeOf e).run P w=Result.ok sz w) {d d':D} {u:Value} {dl dh:Option D} {ul uh:Option Value} (hd:cz w (af C w S Hx) S d u) (hl:Lb w (af C w S Hx) S dl ul) (hh:Lb w (af C w S Hx) S dh uh)
    (h:GL st sz d dl dh=some d'):∃ r,(∀ w:World,(Instr.sliceAt t u ul uh none).run P w=.ok r w)∧cz w (af C w S Hx) S d' r:=by
  unfold GL at h
  split at h
  case h_2=>simp at h
  rename_i g s n cs gC
  split at h
  case h_2=>simp at h
  rename_i l0 h0 e1 e2
  split at h
  case isFalse=>simp at h
  rename_i hc
  obtain ⟨rfl,i1,i2,i3⟩:=hc
  have hSl:=N3 gi hm hd gC
  obtain ⟨base,cap,rfl,zF,hlen,ado⟩:=hSl.ok
  refine ⟨_,fun w=>Me ht (hs w) (GX hl e1) (GX hh e2) e1 e2 i1 i2 i3 zF,?_⟩
  have hle:l0.toNat≤h0.toNat∧h0.toNat≤n:=by omega
  cases d with
  | nil k=>
    simp only [Option.some.injEq] at h
    subst h
    have:=UI hd
    simp only [Value.slice.injEq] at this
    obtain ⟨rfl,rfl,rfl⟩:=this
    have:l0.toNat=0∧h0.toNat=0:=by omega
    rw [this.1,this.2]
    rfl
  | sl g' s' n' cs'=>
    simp only [St.qu,Option.some.injEq,Prod.mk.injEq] at gC
    obtain ⟨rfl,rfl,rfl,rfl⟩:=gC
    simp only [Option.some.injEq] at h
    subst h
    cases g' with
    | none=>exact absurd hd (by simp [cz,gL,bz,Ext])
    | some g'=>
      have tK:Ext w (af C w S Hx) (.sl (some g') s' n' cs') (.slice base n' cap):=hd
      simp only [Ext,Value.slice.injEq] at tK
      obtain ⟨Th,uE,us,⟨rfl,_,rfl⟩,e3,e4,e5,e6⟩:=tK
      show Ext w (af C w S Hx) (.sl (some g') s' (h0.toNat - l0.toNat) ((cs'.drop (l0.toNat*s')).take ((h0.toNat - l0.toNat)*s'))) _
      simp only [Ext]
      have GZ:((cs'.drop (l0.toNat*s')).take ((h0.toNat - l0.toNat)*s')).length=(h0.toNat - l0.toNat)*s':=by
        rw [List.length_take,List.length_drop,e4]
        have:l0.toNat*s'+(h0.toNat - l0.toNat)*s'≤n'*s':=by rw [← Nat.add_mul]; exact Nat.mul_le_mul_right _ (by omega)
        omega
      have eb:=(hM cs' us).1 e5
      refine ⟨_,_,(us.drop (l0.toNat*s')).take ((h0.toNat - l0.toNat)*s'),rfl,by omega,GZ,(hM _ _).2 ((eb.drop _).take _),?_⟩
      by_cases hz:(cs'.drop (l0.toNat*s')).take ((h0.toNat - l0.toNat)*s')=[]
      · exact .inl hz
      · right
        have ra:0 < (h0.toNat - l0.toNat)*s':=by
          rcases Nat.eq_zero_or_pos ((h0.toNat - l0.toNat)*s') with e7 | e7
          · exact absurd (List.length_eq_zero_iff.1 (by rw [GZ,e7])) hz
          · exact e7
        rcases e6 with e6 | ⟨kb,off0,cc,ee,fz,rfl,e7,e8,e9⟩
        · subst e6; simp at hz
        · have db:¬ (cap=l0.toNat):=by
            intro e10
            have:h0.toNat - l0.toNat=0:=by omega
            simp [this] at ra
          refine ⟨kb,off0+l0.toNat*s',cc,ee,fz,by rw [if_neg db,Option.map_some,fe],e7,e8,fun j v hj=>?_⟩
          rw [List.getElem?_take] at hj
          split at hj
          · rw [List.getElem?_drop] at hj
            rw [Nat.add_assoc]; exact e9 _ _ hj
          · simp at hj
  | ref r q o y=>
    simp only [Option.some.injEq] at h
    subst h
    simp only [St.qu] at gC
    split at gC
    case h_2=>simp at gC
    rename_i g' s' n' cs' cR
    simp only [Option.some.injEq,Prod.mk.injEq] at gC
    obtain ⟨rfl,rfl,rfl,rfl⟩:=gC
    intro t' pF
    have hr:=hd t' pF
    obtain ⟨R,l,t'',h6,h7,h8,h9,nb⟩:=iW gi cR
    rw [h9,Option.some.injEq] at pF
    subst pF
    unfold eT at hr ⊢
    rw [← nb] at hr ⊢
    simp only [sn] at hr ⊢
    have hN:=(Bs (tJ hm h6 h7 h8 nb.symm) nb.symm).ok
    obtain ⟨b0,C0,f1,f2,_⟩:=hN
    cases y with
    | none=>
      simp only at hr
      simp only [trim,off,Nat.zero_add] at*
      rw [f1] at hr
      simp only [Value.slice.injEq] at hr
      obtain ⟨rfl,_,rfl⟩:=hr
      refine ⟨by omega,base,cap,if cap=l0.toNat then 0 else l0.toNat,f1,by split<;>omega,?_,?_⟩
      · split
        · rename_i e; simp [OA]
        · rfl
      · by_cases e:cap=l0.toNat
        · left; omega
        · right; simp [e]
    | some p=>
      obtain ⟨l1,m1⟩:=p
      simp only at hr
      obtain ⟨g1,b1,C1,k1,g2,g3,g4,g5⟩:=hr
      simp only [Value.slice.injEq] at g4
      obtain ⟨rfl,_,rfl⟩:=g4
      simp only [trim,off] at*
      rw [f1] at g2
      simp only [Value.slice.injEq] at g2
      obtain ⟨rfl,_,rfl⟩:=g2
      refine ⟨by omega,b0,C0,if C0 - l1=l0.toNat then k1 else k1+l0.toNat,f1,?_,?_,?_⟩
      · split
        · exact g3
        · rcases g5 with g5 | g5<;>omega
      · have e11:C0 - (l1+l0.toNat)=C0 - l1 - l0.toNat:=by omega
        rw [e11]
        split
        · rfl
        · congr 1
          cases b0 with
          | none=>rfl
          | some A=>simp [add_add,Nat.add_mul]
      · by_cases e:C0 - l1=l0.toNat
        · left; omega
        · right
          rw [if_neg e]
          rcases g5 with g5 | g5<;>omega
  | _=>simp [St.qu] at gC
include ax
theorem OB {t:TypeId} {d d':D} {u:Value} {dl dh:Option D} {ul uh:Option Value} (hd:cz w (af C w S Hx) S d u) (hl:Lb w (af C w S Hx) S dl ul) (hh:Lb w (af C w S Hx) S dh uh)
    (h:Bl c st t d dl dh=some d'):∃ r,(∀ w:World,(Instr.sliceAt t u ul uh none).run P w=.ok r w)∧cz w (af C w S Hx) S d' r:=by
  unfold Bl at h
  split at h
  · rename_i mf
    obtain ⟨dd,h1,h2⟩:=(ax.ty t _ mf).desc
    simp only [kM] at h2
    subst h2
    split at h
    case h_2=>simp at h
    have:=yy hd
    subst this
    exact Md h1 hl hh h
  · rename_i e _ _ _ mf
    obtain ⟨dd,h1,h2⟩:=(ax.ty t _ mf).desc
    simp only [kM] at h2
    subst h2
    split at h
    case h_2=>simp at h
    rename_i ei vM
    exact UO gi hm h1 (fun w=>(ax.ty e ei vM).sz w) hd hl hh h
  · simp at h
end
end Go.Proofs.YtockoilcnmljiaaGreat
namespace Go.Proofs.YtockoilcnmljiaaGreat
def lH (t t':T):Prop:=t'.val=t.val∧∀ p,sn t'.er=some p→sn t.er=some p
theorem lH.refl (t:T):lH t t:=⟨rfl,fun _ h=>h⟩
theorem lH.trans {a b c:T} (h:lH a b) (h':lH b c):lH a c:=⟨h'.1.trans h.1,fun p e=>h.2 p (h'.2 p e)⟩
theorem kN {t t':T} (h:lH t t') {x:Option (Nat × Nat)} {u:Value} (hr:eT x t u):eT x t' u:=by
  unfold eT at hr ⊢
  cases he:sn t'.er with
  | some p=>
    rw [h.2 p he] at hr
    simp only at hr ⊢
    rw [h.1]
    exact hr
  | none=>trivial
theorem abB {q:List Nat} {o:Nat} {t':T}:∀ {cs cs':List T} {q':List Nat} {o':Nat} {l':List T},dO (fun l=>l.set o t') cs q=some cs'→under (q++[o]) (q'++[o'])=none→aA cs' q'=some l'→
    ∃ l,aA cs q'=some l∧∀ t2,l'[o']?=some t2→∃ t1,l[o']?=some t1∧lH t1 t2:=by
  induction q with
  | nil=>
    intro cs cs' q' o' l' hm hu hc
    simp only [dO,Option.some.injEq] at hm
    subst hm
    cases q' with
    | nil=>
      simp only [aA,Option.some.injEq] at hc
      subst hc
      refine ⟨cs,rfl,fun t2 h2=>?_⟩
      simp only [List.nil_append,under] at hu
      split at hu
      · simp at hu
      · rename_i db
        rw [List.getElem?_set_ne db] at h2
        exact ⟨t2,h2,lH.refl _⟩
    | cons p q'=>
      simp only [List.nil_append,List.cons_append,under] at hu
      split at hu
      · simp at hu
      · rename_i db
        rw [aA,List.getElem?_set_ne db] at hc
        rw [aA]
        exact ⟨l',hc,fun t2 h2=>⟨t2,h2,lH.refl _⟩⟩
  | cons p q ih=>
    intro cs cs' q' o' l' hm hu hc
    rw [dO] at hm
    cases hp:cs[p]? with
    | none=>simp [hp] at hm
    | some x=>
      cases x with
      | v d u=>simp [hp] at hm
      | own s n cap a xs=>
        simp only [hp] at hm
        cases hx:dO (fun l=>l.set o t') xs q with
        | none=>simp [hx] at hm
        | some kI=>
          simp only [hx,Option.some.injEq] at hm
          subst hm
          obtain ⟨dp,_⟩:=List.getElem?_eq_some_iff.1 hp
          cases q' with
          | nil=>
            simp only [aA,Option.some.injEq] at hc
            subst hc
            refine ⟨cs,rfl,fun t2 h2=>?_⟩
            by_cases hpo:p=o'
            · subst hpo
              rw [List.getElem?_set_self dp,Option.some.injEq] at h2
              subst h2
              exact ⟨_,hp,rfl,fun p h=>by simpa [T.er,sn] using h⟩
            · rw [List.getElem?_set_ne hpo] at h2
              exact ⟨t2,h2,lH.refl _⟩
          | cons p' q'=>
            by_cases G0:p=p'
            · subst G0
              simp only [List.cons_append,under,if_true] at hu
              rw [aA,List.getElem?_set_self dp] at hc
              simp only at hc
              obtain ⟨l,h1,h2⟩:=ih hx hu hc
              exact ⟨l,by rw [aA,hp]; exact h1,h2⟩
            · rw [aA,List.getElem?_set_ne G0] at hc
              exact ⟨l',by rw [aA]; exact hc,fun t2 h2=>⟨t2,h2,lH.refl _⟩⟩
theorem sA {q:List Nat} {o:Nat} {t':T}:∀ {cs cs':List T} {q':List Nat} {bx:Option Nat},dO (fun l=>l.set o t') cs q=some cs'→under (q++[o]) q'=none→cj bx cs' q'=cj bx cs q':=by
  induction q with
  | nil=>
    intro cs cs' q' bx hm hu
    simp only [dO,Option.some.injEq] at hm
    subst hm
    cases q' with
    | nil=>rfl
    | cons p q'=>
      simp only [List.nil_append,under] at hu
      split at hu
      · simp at hu
      · rename_i db
        rw [cj,cj,List.getElem?_set_ne db]
  | cons p q ih=>
    intro cs cs' q' bx hm hu
    rw [dO] at hm
    cases hp:cs[p]? with
    | none=>simp [hp] at hm
    | some x=>
      cases x with
      | v d u=>simp [hp] at hm
      | own s n cap a xs=>
        simp only [hp] at hm
        cases hx:dO (fun l=>l.set o t') xs q with
        | none=>simp [hx] at hm
        | some kI=>
          simp only [hx,Option.some.injEq] at hm
          subst hm
          obtain ⟨dp,_⟩:=List.getElem?_eq_some_iff.1 hp
          cases q' with
          | nil=>rfl
          | cons p' q'=>
            rw [cj,cj]
            by_cases G0:p=p'
            · subst G0
              simp only [List.cons_append,under,if_true] at hu
              rw [List.getElem?_set_self dp,hp]
              simp only
              cases q' with
              | nil=>rfl
              | cons y ys=>exact ih (bx:=none) hx hu
            · rw [List.getElem?_set_ne G0]
theorem jA {q:List Nat}:∀ {x y:List Nat},under q x=some y→x=q++y:=by
  induction q with
  | nil=>intro x y h; simp only [under,Option.some.injEq] at h; exact h
  | cons p q ih=>
    intro x y h
    cases x with
    | nil=>simp [under] at h
    | cons z zs=>
      simp only [under] at h
      split at h
      · rename_i e; subst e; simp [ih h]
      · simp at h
theorem XA {q:List Nat} {o:Nat} {t':T} {cs cs':List T} (hm:dO (fun l=>l.set o t') cs q=some cs') {l':List T} (hc:aA cs' q=some l') {t2:T} (h2:l'[o]?=some t2):t2=t':=by
  obtain ⟨l,h3,h4⟩:=oo hm
  rw [h4,Option.some.injEq] at hc
  subst hc
  obtain ⟨dp,he⟩:=List.getElem?_eq_some_iff.1 h2
  rw [← he]; simp
theorem G1 {q:List Nat} {o:Nat} {y:List Nat} {d:D} {u:Value}:∀ {cs l:List T},aA cs q=some l→l[o]?=some (.v d u)→aA cs (q++o::y)=none:=by
  induction q with
  | nil=>
    intro cs l hc ho
    simp only [aA,Option.some.injEq] at hc
    subst hc
    simp [aA,ho]
  | cons p q ih=>
    intro cs l hc ho
    rw [aA] at hc
    cases hp:cs[p]? with
    | none=>simp [hp] at hc
    | some x=>
      cases x with
      | v d u=>simp [hp] at hc
      | own s n cap a xs=>
        simp only [hp] at hc
        rw [List.cons_append,aA,hp]
        exact ih hc ho
theorem UP {q:List Nat} {o:Nat} {y:List Nat} {d:D} {u:Value}:∀ {cs l:List T} {bx:Option Nat},aA cs q=some l→l[o]?=some (.v d u)→cj bx cs (q++o::y)=none:=by
  induction q with
  | nil=>
    intro cs l bx hc ho
    simp only [aA,Option.some.injEq] at hc
    subst hc
    simp [cj,ho]
  | cons p q ih=>
    intro cs l bx hc ho
    rw [aA] at hc
    cases hp:cs[p]? with
    | none=>simp [hp] at hc
    | some x=>
      cases x with
      | v d u=>simp [hp] at hc
      | own s n cap a xs=>
        simp only [hp] at hc
        rw [List.cons_append,cj,hp]
        simp only
        have:=ih (bx:=none) hc ho
        cases hq:q++o::y with
        | nil=>simp at hq
        | cons z zs=>rw [hq] at this; exact this
structure kO (S S':List (Nat × RT)) (r:Nat) (q:List Nat) (o:Nat) (t t':T):Prop where
  ex:∃ R cs' l,lk S r=some R∧aA R.cs q=some l∧l[o]?=some t∧dO (fun l=>l.set o t') R.cs q=some cs'∧S'=pt S r ⟨R.box,cs'⟩
section
variable {S S':List (Nat × RT)} {r:Nat} {q:List Nat} {o:Nat} {t t':T} (hc:kO S S' r q o t t')
include hc
theorem kO.N4 {r':Nat} (h:r'≠r):lk S' r'=lk S r':=by
  obtain ⟨R,cs',l,h1,h2,h3,h4,rfl⟩:=hc.ex
  exact dL _ _ h
theorem kO.box {r':Nat} {R':RT} (h:lk S' r'=some R'):∃ R,lk S r'=some R∧R.box=R'.box:=by
  by_cases he:r'=r
  · subst he
    obtain ⟨R,cs',l,h1,h2,h3,h4,rfl⟩:=hc.ex
    rw [cI,Option.some.injEq] at h
    subst h
    exact ⟨R,h1,rfl⟩
  · rw [hc.N4 he] at h
    exact ⟨R',h,rfl⟩
theorem kO.vN {r':Nat} {q':List Nat} {o':Nat} (hf:r'≠r∨under (q++[o]) (q'++[o'])=none) {t2:T} (h:cB S' r' q' o'=some t2):∃ t1,cB S r' q' o'=some t1∧lH t1 t2:=by
  by_cases he:r'=r
  · subst he
    have hf:under (q++[o]) (q'++[o'])=none:=by rcases hf with hf | hf<;>first | exact absurd rfl hf | exact hf
    obtain ⟨R,cs',l,h1,h2,h3,h4,rfl⟩:=hc.ex
    unfold cB at h ⊢
    rw [cI] at h
    rw [h1]
    simp only at h ⊢
    cases hx:aA cs' q' with
    | none=>simp [hx] at h
    | some l'=>
      simp only [hx] at h
      obtain ⟨l1,h5,h6⟩:=abB h4 hf hx
      rw [h5]
      exact h6 t2 h
  · unfold cB at h ⊢
    rw [hc.N4 he] at h
    exact ⟨t2,h,lH.refl _⟩
theorem kO.Lc {t2:T} (h:cB S' r q o=some t2):t2=t':=by
  obtain ⟨R,cs',l,h1,h2,h3,h4,rfl⟩:=hc.ex
  unfold cB at h
  rw [cI] at h
  simp only at h
  cases hx:aA cs' q with
  | none=>simp [hx] at h
  | some l'=>
    simp only [hx] at h
    exact XA h4 hx h
theorem kO.FC:cB S' r q o=some t':=by
  obtain ⟨R,cs',l,h1,h2,h3,h4,rfl⟩:=hc.ex
  obtain ⟨l',h5,h6⟩:=oo h4
  rw [h2,Option.some.injEq] at h5
  subst h5
  unfold cB
  rw [cI]
  simp only [h6]
  rw [List.getElem?_set_self (List.getElem?_eq_some_iff.1 h3).1]
theorem kO.OC:cB S r q o=some t:=by
  obtain ⟨R,cs',l,h1,h2,h3,h4,rfl⟩:=hc.ex
  simp [cB,h1,h2,h3]
theorem kO.sA {r':Nat} {q':List Nat} (hf:r'≠r∨under (q++[o]) q'=none) {R':RT} (h:lk S' r'=some R'):∃ R,lk S r'=some R∧R.box=R'.box∧cj R'.box R'.cs q'=cj R.box R.cs q':=by
  by_cases he:r'=r
  · subst he
    have hf:under (q++[o]) q'=none:=by rcases hf with hf | hf<;>first | exact absurd rfl hf | exact hf
    obtain ⟨R,cs',l,h1,h2,h3,h4,rfl⟩:=hc.ex
    rw [cI,Option.some.injEq] at h
    subst h
    exact ⟨R,h1,rfl,sA h4 hf⟩
  · rw [hc.N4 he] at h
    exact ⟨R',h,rfl,rfl⟩
theorem kO.fts:∃ A B,cM S=A++t.ft++B∧cM S'=A++t'.ft++B:=by
  obtain ⟨R,cs',l,h1,h2,h3,h4,rfl⟩:=hc.ex
  obtain ⟨A,B,h5,h6⟩:=me h1
  obtain ⟨A',B',h7,h8⟩:=Td h2 h3
  refine ⟨A++R.box.toList++A',B'++B,?_,?_⟩
  · rw [h5,RT.ft,h7]; simp
  · rw [h6,RT.ft,h8 t' cs' h4]; simp
theorem kO.XB {d:D} {u:Value} (ht:t'=.v d u) {r':Nat} {q':List Nat} {o':Nat} {y:Nat} {ys:List Nat} (hr:r'=r) (hy:under (q++[o]) (q'++[o'])=some (y::ys)):cB S' r' q' o'=none:=by
  subst hr; subst ht
  obtain ⟨R,cs',l,h1,h2,h3,h4,rfl⟩:=hc.ex
  obtain ⟨l',h5,h6⟩:=oo h4
  rw [h2,Option.some.injEq] at h5
  subst h5
  have h7:(l.set o (.v d u))[o]?=some (.v d u):=List.getElem?_set_self (List.getElem?_eq_some_iff.1 h3).1
  have h8:=jA hy
  have h9:q'=q++o::(y::ys).dropLast∧o'=(y::ys).getLast (by simp):=by
    have e1:q'++[o']=(q++o::(y::ys).dropLast)++[(y::ys).getLast (by simp)]:=by
      rw [h8]; simp only [List.append_assoc,List.singleton_append,List.cons_append,List.nil_append]; rw [List.dropLast_concat_getLast]
    exact ⟨List.append_inj_left' e1 rfl,by have:=List.append_inj_right' e1 rfl; simpa using this⟩
  unfold cB
  rw [cI]
  simp only
  rw [h9.1,G1 h6 h7]
theorem kO.XC {d:D} {u:Value} (ht:t'=.v d u) {q' y:List Nat} (hy:under (q++[o]) q'=some y) {R':RT} (h:lk S' r=some R'):cj R'.box R'.cs q'=none:=by
  subst ht
  obtain ⟨R,cs',l,h1,h2,h3,h4,rfl⟩:=hc.ex
  obtain ⟨l',h5,h6⟩:=oo h4
  rw [h2,Option.some.injEq] at h5
  subst h5
  have h7:(l.set o (.v d u))[o]?=some (.v d u):=List.getElem?_set_self (List.getElem?_eq_some_iff.1 h3).1
  rw [cI,Option.some.injEq] at h
  subst h
  rw [jA hy,List.append_assoc]
  exact UP h6 h7
end
end Go.Proofs.YtockoilcnmljiaaGreat
namespace Go.Proofs.YtockoilcnmljiaaGreat
section
variable {w w':World} {X X':Bool→Nat→Prop} {S S':List (Nat × RT)}
theorem xD {d:D} {u:Value} (h:cz w X S d u):(∃ ds us,d=.bf ds∧u=.tuple us∧cm (gL w X S) ds us.toList)∨((∀ ds,d≠.bf ds)∧gL w X S d u):=by
  cases d<;>first | exact .inr ⟨by simp,h⟩ | (obtain ⟨us,h1,h2⟩:=h; exact .inl ⟨_,us,rfl,h1,h2⟩)
theorem tL {d:D} {u:Value} (h:gL w X S d u):(∃ cs us,d=.agg cs∧u=.agg us∧cm (bz w X S) cs us.toList)∨(∃ f cs us,d=.fn f cs∧u=.func (.func f) #[] us∧cm (bz w X S) cs us.toList)∨((∀ cs,d≠.agg cs)∧(∀ f cs,d≠.fn f cs)∧bz w X S d u):=by
  cases d<;>first | exact .inr (.inr ⟨by simp,by simp,h⟩) | (obtain ⟨us,h1,h2⟩:=h; exact .inl ⟨_,us,rfl,h1,h2⟩) | (obtain ⟨us,h1,h2⟩:=h; exact .inr (.inl ⟨_,_,us,rfl,h1,h2⟩))
theorem abC {f:D→D} (h:∀ d u,bz w X S d u→bz w' X' S' (f d) u) {d:D} {u:Value} (hd:cz w X S d u):cz w' X' S' (pC f d) u:=by
  have ha:∀ d u,gL w X S d u→gL w' X' S' (fr f d) u:=by
    intro d u hd
    rcases tL hd with ⟨cs,us,rfl,rfl,ha⟩ | ⟨g,cs,us,rfl,rfl,ha⟩ | ⟨h1,h2,h3⟩
    · exact ⟨us,rfl,ha.map f (fun _ _=>h _ _)⟩
    · exact ⟨us,rfl,ha.map f (fun _ _=>h _ _)⟩
    · have:fr f d=f d:=by cases d<;>first | rfl | exact absurd rfl (h1 _) | exact absurd rfl (h2 _ _)
      rw [this]; exact ew (h _ _ h3)
  rcases xD hd with ⟨ds,us,rfl,rfl,hb⟩ | ⟨h1,h2⟩
  · exact ⟨us,rfl,hb.map _ (fun _ _=>ha _ _)⟩
  · have:pC f d=fr f d:=by cases d<;>first | rfl | exact absurd rfl (h1 _)
    rw [this]; exact kL (ha _ _ h2)
theorem abD {α:Type} (f:α→α) (l:List (Nat × α)) (k:Nat):lk (gg f l) k=(lk l k).map f:=by
  induction l with
  | nil=>rfl
  | cons e t ih=>
    obtain ⟨j,v⟩:=e
    simp only [gg,lk]
    split<;>simp [ih]
theorem XD {f:D→D} (h:∀ d u,bz w X S d u→bz w' X' S' (f d) u) {tm:List (Nat × D)} {vs:Array Value} (ht:mF w X S tm vs):mF w' X' S' (gg (pC f) tm) vs:=by
  intro t
  rw [abD]
  have:=ht t
  cases hx:lk tm t with
  | none=>simpa [hx] using mG _
  | some d=>rw [hx] at this; simpa using abC h this
theorem qz (h:∀ d u,bz w X S d u→bz w' X' S' d u) {d:D} {u:Value} (hd:cz w X S d u):cz w' X' S' d u:=by
  have ha:∀ d u,gL w X S d u→gL w' X' S' d u:=by
    intro d u hd
    rcases tL hd with ⟨cs,us,rfl,rfl,ha⟩ | ⟨g,cs,us,rfl,rfl,ha⟩ | ⟨h1,h2,h3⟩
    · exact ⟨us,rfl,ha.mono h⟩
    · exact ⟨us,rfl,ha.mono h⟩
    · exact ew (h _ _ h3)
  rcases xD hd with ⟨ds,us,rfl,rfl,hb⟩ | ⟨h1,h2⟩
  · exact ⟨us,rfl,hb.mono ha⟩
  · exact kL (ha _ _ h2)
theorem yb (h:∀ d u,bz w X S d u→bz w' X' S' d u) {tm:List (Nat × D)} {vs:Array Value} (ht:mF w X S tm vs):mF w' X' S' tm vs:=fun t=>qz h (ht t)
end
def jB (w w':World) (X X':Bool→Nat→Prop):Prop:=∀ b k,X b k→X' b k∧w'.heap[k]?=w.heap[k]?
theorem jB.refl (w:World) (X:Bool→Nat→Prop):jB w w X X:=fun _ _ h=>⟨h,rfl⟩
section
variable {w w':World} {X X':Bool→Nat→Prop} {S S':List (Nat × RT)} (hX:jB w w' X X')
include hX
theorem oY {cs:List D} {o:Nat} {u:Value} (h:bz w X S (.cr cs o) u):bz w' X' S' (.cr cs o) u:=by
  obtain ⟨b,off,c,e,fz,us,h1,h2,h3,h4,h5⟩:=h
  exact ⟨b,off,c,e,fz,us,h1,(hX _ _ h2).1,by rw [(hX _ _ h2).2]; exact h3,tI hX _ _ h4,h5⟩
theorem pI {d:D} (hr:∀ r q o x,d≠.ref r q o x) (hp:∀ r q o,d≠.ptr r q o) (hq:∀ cs o,d≠.cr cs o) {u:Value} (h:bz w X S d u):bz w' X' S' d u:=by
  cases d with
  | ref r q o x=>exact absurd rfl (hr _ _ _ _)
  | ptr r q o=>exact absurd rfl (hp _ _ _)
  | cr cs o=>exact absurd rfl (hq _ _)
  | _=>exact gy hX _ _ h
theorem OD {r:Nat} {q:List Nat} {o:Nat} {t:T} {d0:D} {u0:Value} (hc:kO S S' r q o t (.v d0 u0)) (hn:sn (bU d0)=none∨lH t (.v d0 u0)) {d:D} {u:Value} (h:bz w X S d u):bz w' X' S' d u:=by
  cases d with
  | ref r' q' o' x=>
    intro t2 h2
    by_cases hf:r'≠r∨under (q++[o]) (q'++[o'])=none
    · obtain ⟨t1,h1,hl⟩:=hc.vN hf h2
      exact kN hl (h t1 h1)
    · have hr:r'=r:=Classical.byContradiction fun e=>hf (.inl e)
      cases hu:under (q++[o]) (q'++[o']) with
      | none=>exact absurd (.inr hu) hf
      | some y=>
        cases y with
        | nil=>
          have e1:=jA hu
          simp only [List.append_nil] at e1
          obtain ⟨rfl,e2⟩:=List.append_inj' e1 rfl
          simp only [List.cons.injEq,and_true] at e2
          subst e2; subst hr
          have:=hc.Lc h2
          subst this
          rcases hn with hn | hn
          · unfold eT
            simp only [T.er,hn]
          · exact kN hn (h t hc.OC)
        | cons y ys=>rw [hc.XB rfl hr hu] at h2; simp at h2
  | ptr r' q' o'=>
    intro R' eo
    obtain ⟨R,h1,h2⟩:=hc.box eo
    refine ⟨fun e=>by rw [← h2]; exact (h R h1).1 e,fun b off ha=>?_⟩
    by_cases hf:r'≠r∨under (q++[o]) q'=none
    · obtain ⟨R1,h3,h4,h5⟩:=hc.sA hf eo
      rw [h3,Option.some.injEq] at h1
      subst h1
      exact (h _ h3).2 b off (h5▸ha)
    · have hr:r'=r:=Classical.byContradiction fun e=>hf (.inl e)
      subst hr
      cases hu:under (q++[o]) q' with
      | none=>exact absurd (.inr hu) hf
      | some y=>rw [hc.XC rfl hu eo] at ha; simp at ha
  | cr cs o'=>exact oY hX h
  | _=>exact pI hX (by simp) (by simp) (by simp) h
theorem zG {r:Nat} {q:List Nat} {o:Nat} {t t':T} (hc:kO S S' r q o t t') {ex:Bool} (hl:ex=false→lH t t') {d:D} {u:Value} (h:bz w X S d u):bz w' X' S' (cA r q o ex d) u:=by
  cases d with
  | ref r' q' o' x=>
    simp only [cA]
    split
    · rename_i hr
      subst hr
      cases hu:under (q++[o]) (q'++[o']) with
      | none=>
        simp only
        intro t2 h2
        obtain ⟨t1,h1,hl⟩:=hc.vN (.inr hu) h2
        exact kN hl (h t1 h1)
      | some y=>
        cases y with
        | nil=>
          cases ex with
          | true=>simp [bz,Ext]
          | false=>
            simp only [Bool.false_eq_true,if_false]
            intro t2 h2
            have e1:=jA hu
            simp only [List.append_nil] at e1
            obtain ⟨rfl,e2⟩:=List.append_inj' e1 rfl
            simp only [List.cons.injEq,and_true] at e2
            subst e2
            have:=hc.Lc h2
            subst this
            exact kN (hl rfl) (h t hc.OC)
        | cons y ys=>simp [bz,Ext]
    · rename_i hr
      intro t2 h2
      obtain ⟨t1,h1,hl⟩:=hc.vN (.inl hr) h2
      exact kN hl (h t1 h1)
  | ptr r' q' o'=>
    simp only [cA]
    split
    · rename_i hr
      subst hr
      cases hu:under (q++[o]) q' with
      | none=>
        simp only
        intro R' eo
        obtain ⟨R1,h3,h4,h5⟩:=hc.sA (.inr hu) eo
        exact ⟨fun e=>by rw [← h4]; exact (h R1 h3).1 e,fun b off ha=>(h R1 h3).2 b off (h5▸ha)⟩
      | some y=>simp [bz,Ext]
    · rename_i hr
      intro R' eo
      obtain ⟨R1,h3,h4,h5⟩:=hc.sA (.inl hr) eo
      exact ⟨fun e=>by rw [← h4]; exact (h R1 h3).1 e,fun b off ha=>(h R1 h3).2 b off (h5▸ha)⟩
  | cr cs o'=>exact oY hX h
  | _=>simp only [cA]; exact pI hX (by simp) (by simp) (by simp) h
theorem XE {r:Nat} {R:RT} (hS:S'=pt S r R) {d:D} {u:Value} (h:bz w X S d u):bz w' X' S' (cH r d) u:=by
  subst hS
  cases d with
  | ref r' q' o' x=>
    simp only [cH]
    split
    · simp [bz,Ext]
    · rename_i hr
      intro t2 h2
      unfold cB at h2
      rw [dL _ _ hr] at h2
      exact h t2 h2
  | ptr r' q' o'=>
    simp only [cH]
    split
    · simp [bz,Ext]
    · rename_i hr
      intro R' eo
      rw [dL _ _ hr] at eo
      exact h R' eo
  | cr cs o'=>exact oY hX h
  | _=>simp only [cH]; exact pI hX (by simp) (by simp) (by simp) h
theorem abE {r:Nat} {R0 R:RT} (h0:lk S r=some R0) (hb:R.box=R0.box) (hS:S'=pt S r R) {d:D} {u:Value} (h:bz w X S d u):bz w' X' S' (eB r d) u:=by
  subst hS
  cases d with
  | ref r' q' o' x=>
    simp only [eB]
    split
    · simp [bz,Ext]
    · rename_i hr
      intro t2 h2
      unfold cB at h2
      rw [dL _ _ hr] at h2
      exact h t2 h2
  | ptr r' q' o'=>
    cases q' with
    | nil=>
      simp only [eB]
      intro R' eo
      by_cases hr:r'=r
      · subst hr
        rw [cI,Option.some.injEq] at eo
        subst eo
        refine ⟨fun e=>by rw [hb]; exact (h R0 h0).1 e,fun b off ha=>(h R0 h0).2 b off ?_⟩
        simp only [cj] at ha ⊢
        rw [← hb]; exact ha
      · rw [dL _ _ hr] at eo
        exact h R' eo
    | cons p q'=>
      simp only [eB]
      split
      · simp [bz,Ext]
      · rename_i hr
        intro R' eo
        rw [dL _ _ hr] at eo
        exact h R' eo
  | cr cs o'=>exact oY hX h
  | _=>simp only [eB]; exact pI hX (by simp) (by simp) (by simp) h
theorem tM (hS:∀ r R,lk S' r=some R→lk S r=some R) {d:D} {u:Value} (h:bz w X S d u):bz w' X' S' d u:=by
  cases d with
  | ref r' q' o' x=>
    intro t2 h2
    unfold cB at h2
    cases hr:lk S' r' with
    | none=>simp [hr] at h2
    | some R=>
      refine h t2 ?_
      unfold cB
      rw [hS _ _ hr]
      rw [hr] at h2
      exact h2
  | ptr r' q' o'=>exact fun R' eo=>h R' (hS _ _ eo)
  | cr cs o'=>exact oY hX h
  | _=>exact pI hX (by simp) (by simp) (by simp) h
end
theorem XF (b:Bool) (d:D):dN b (bU d)=bU d:=by
  cases d with
  | sl g s n cs=>cases g<;>simp [bU,dN]
  | _=>simp [bU,dN]
mutual
theorem zH {w:World} {X X':Bool→Nat→Prop} (hX:∀ b k,X b k→X' b k) (b:Bool):∀ (t:T),bM w X t→(∀ k∈t.ft,X' b k)→Ext w X' (dN b t.er) t.val
  | .v d u,hs,_=>by
    simp only [bM] at hs
    have h2:Ext w X' (bU d) u:=gy (fun b k h=>⟨hX b k h,rfl⟩) _ _ hs
    have h3:dN b (T.v d u).er=bU d:=XF b d
    rw [h3]; exact h2
  | .own s n cap a cs,hs,hf=>by
    simp only [bM] at hs
    obtain ⟨h1,h2,h3,h4⟩:=hs
    simp only [T.er,dN,Ext,T.val,xz]
    have h5:=EI hX b cs h4 (fun k hk=>hf k (by simp [T.ft,hk]))
    refine ⟨_,cap,aG cs,rfl,h1,?_,h5,?_⟩
    · have:=((hM _ _).1 h5).len
      rw [this,bX,h2]
    · cases a with
      | none=>
        left
        have:cs.length=0:=by rw [h2,h3.1]; simp
        simp [List.length_eq_zero_iff.1 this,bu,ba]
      | some p=>
        obtain ⟨k,off⟩:=p
        obtain ⟨c,e,fz,h6,_,_,h7⟩:=h3
        exact .inr ⟨k,off,c,e,fz,rfl,hf k (by simp [T.ft,jo]),h6,h7⟩
theorem EI {w:World} {X X':Bool→Nat→Prop} (hX:∀ b k,X b k→X' b k) (b:Bool):∀ (ts:List T),bN w X ts→(∀ k∈aj ts,X' b k)→gh w X' (ba b (bu ts)) (aG ts)
  | [],_,_=>by simp [bu,ba,aG,gh]
  | t::ts,hs,hf=>by
    simp only [bN] at hs
    simp only [bu,ba,aG,gh]
    exact ⟨t.val,aG ts,rfl,zH hX b t hs.1 (fun k hk=>hf k (by simp [aj,hk])),EI hX b ts hs.2 (fun k hk=>hf k (by simp [aj,hk]))⟩
end
theorem Ld (b:Bool):∀ (ds:List D) (k:Nat),ba b (ds.drop k)=(ba b ds).drop k
  | [],k=>by simp [ba]
  | d::ds,0=>rfl
  | d::ds,k+1=>by simp [ba,Ld b ds k]
theorem Le (b:Bool):∀ (ds:List D) (k:Nat),ba b (ds.take k)=(ba b ds).take k
  | [],k=>by simp [ba]
  | d::ds,0=>rfl
  | d::ds,k+1=>by simp [ba,Le b ds k]
theorem OE {w:World} {X:Bool→Nat→Prop} {g:Bool} {s n:Nat} {cs:List D} {l m k C:Nat} {base:Option Addr} (h:Ext w X (.sl (some g) s n cs) (.slice base n C)) (h1:l+m≤n) (h2:k≤C) (h3:C - l=0∨k=l):
    Ext w X (.sl (some g) s m ((cs.drop (l*s)).take (m*s))) (.slice (base.map (·.add (k*s))) m (C - l)):=by
  simp only [Ext,Value.slice.injEq] at h ⊢
  obtain ⟨Th,uE,us,⟨rfl,_,rfl⟩,e3,e4,e5,e6⟩:=h
  have GZ:((cs.drop (l*s)).take (m*s)).length=m*s:=by
    rw [List.length_take,List.length_drop,e4]
    have:l*s+m*s≤n*s:=by rw [← Nat.add_mul]; exact Nat.mul_le_mul_right _ h1
    omega
  have eb:=(hM cs us).1 e5
  refine ⟨_,_,(us.drop (l*s)).take (m*s),⟨rfl,trivial,rfl⟩,by omega,GZ,(hM _ _).2 ((eb.drop _).take _),?_⟩
  by_cases hz:(cs.drop (l*s)).take (m*s)=[]
  · exact .inl hz
  · right
    have ra:0 < m*s:=by
      rcases Nat.eq_zero_or_pos (m*s) with e7 | e7
      · exact absurd (List.length_eq_zero_iff.1 (by rw [GZ,e7])) hz
      · exact e7
    rcases e6 with e6 | ⟨kb,off0,cc,ee,fz,rfl,e7,e8,e9⟩
    · subst e6; simp at hz
    · have G2:m≠0:=fun e=>by simp [e] at ra
      have hkl:k=l:=by
        rcases h3 with h3 | h3
        · omega
        · exact h3
      subst hkl
      refine ⟨kb,off0+k*s,cc,ee,fz,by rw [Option.map_some,fe],e7,e8,fun j v hj=>?_⟩
      rw [List.getElem?_take] at hj
      split at hj
      · rw [List.getElem?_drop] at hj
        rw [Nat.add_assoc]; exact e9 _ _ hj
      · simp at hj
theorem DG {w:World} {X X':Bool→Nat→Prop} (hX:∀ b k,X b k→X' b k) (b:Bool) {t:T} {g:Option Bool} {s n:Nat} {cs:List D} (he:t.er=.sl g s n cs) (hs:bM w X t) (hf:∀ k∈t.ft,X' b k) {x:Option (Nat × Nat)} {u:Value} (hr:eT x t u):
    Ext w X' (dN b (.sl g s (trim x s n cs).1 (trim x s n cs).2)) u:=by
  have h1:=zH hX b t hs hf
  unfold eT at hr
  rw [he] at hr h1
  simp only [sn] at hr
  cases x with
  | none=>simp only at hr; subst hr; exact h1
  | some p=>
    obtain ⟨l,m⟩:=p
    simp only at hr
    obtain ⟨h2,base,C,k,h3,h4,rfl,h5⟩:=hr
    rw [h3] at h1
    cases g with
    | none=>
      simp only [dN,trim] at h1 ⊢
      rw [Le,Ld]
      exact OE h1 h2 h4 h5
    | some g=>
      simp only [dN,trim] at h1 ⊢
      exact OE h1 h2 h4 h5
end Go.Proofs.YtockoilcnmljiaaGreat
namespace Go.Proofs.YtockoilcnmljiaaGreat
theorem Rel.step {C:Ctx} {H H':List T} {w w':World} {st st':St} {aJ:List (Array Value)} {S S':List (Nat × RT)} (h:Rel C H w st aJ S) {f:D→D} (gi:ik st'.rt S') (fZ:st'.tm=gg (pC f) st.tm) (OF:st'.up=st.up.map (gg (pC f)))
    (ea:∀ d u,bz w (af C w S H) S d u→bz w' (af C w' S' H') S' (f d) u) (dj:Mem C w' S' H') (hk:Kept C w' S' H'):Rel C H' w' st' aJ S':=by
  refine ⟨gi,dj,?_,hk⟩
  rw [fZ,OF,show gg (pC f) st.tm::st.up.map (gg (pC f))=(st.tm::st.up).map (gg (pC f)) from rfl]
  exact h.pE.map _ (fun _ _=>XD ea)
theorem Rel.sC {C:Ctx} {H H':List T} {w w':World} {st st':St} {aJ:List (Array Value)} {S S':List (Nat × RT)} (h:Rel C H w st aJ S) (gi:ik st'.rt S') (fZ:st'.tm=st.tm) (OF:st'.up=st.up)
    (ea:∀ d u,bz w (af C w S H) S d u→bz w' (af C w' S' H') S' d u) (dj:Mem C w' S' H') (hk:Kept C w' S' H'):Rel C H' w' st' aJ S':=by
  refine ⟨gi,dj,?_,hk⟩
  rw [fZ,OF]
  exact h.pE.mono (fun _ _=>yb ea)
def GT (g:D→D) (t t1:T):Prop:=(∃ d d1 u,t=.v d u∧t1=.v d1 u∧bU d1=g (bU d))∨((∃ s n cap a xs,t=.own s n cap a xs)∧t1=t)
structure SR (g:D→D) (S S1:List (Nat × RT)):Prop where
  look:∀ r R1,lk S1 r=some R1→∃ R,lk S r=some R∧R1.box=R.box∧cm (GT g) R.cs R1.cs
  iJ:cM S1=cM S
theorem GT.val {g:D→D} {t t1:T} (h:GT g t t1):t1.val=t.val∧t1.ft=t.ft:=by
  rcases h with ⟨d,d1,u,rfl,rfl,_⟩ | ⟨_,rfl⟩
  · exact ⟨rfl,rfl⟩
  · exact ⟨rfl,rfl⟩
theorem GT.adq {g:D→D} {ts ts1:List T} (h:cm (GT g) ts ts1):aG ts1=aG ts:=by
  induction h with
  | nil=>rfl
  | cons h1 _ ih=>simp [aG,h1.val.1,ih]
theorem SR.refl (S:List (Nat × RT)):SR id S S:=by
  refine ⟨fun r R1 h=>⟨R1,h,rfl,?_⟩,rfl⟩
  refine dv rfl (fun i a b ha hb=>?_)
  rw [ha,Option.some.injEq] at hb
  subst hb
  cases a with
  | v d u=>exact .inl ⟨d,d,u,rfl,rfl,rfl⟩
  | own s n cap aa xs=>exact .inr ⟨⟨s,n,cap,aa,xs,rfl⟩,rfl⟩
def fT (g:D→D):T→T
  | .v d u=>.v (fr g (bU d)) u
  | t=>t
def fS (g:D→D):List (Nat × RT)→List (Nat × RT)
  | []=>[]
  | (k,R)::t=>(k,⟨R.box,R.cs.map (fT g)⟩)::fS g t
structure lI (g:D→D):Prop where
  sl:∀ b s n cs,g (.sl b s n cs)=.sl b s n cs
  hole:∀ s n,g (.hole s n)=.hole s n
  no:∀ d,sn d=none→sn (g d)=none
theorem XG {d:D} (h:sn d=none):bU d=d:=by
  cases d<;>first | rfl | simp [sn] at h
theorem EJ (d:D):bU (bU d)=bU d:=by
  cases d with
  | sl b s n cs=>cases b<;>rfl
  | _=>rfl
theorem abF {d:D} {p:Nat × Nat} (h:sn (bU d)=some p):(∃ b s n cs,bU d=.sl (some b) s n cs)∨∃ s n,bU d=.hole s n:=by
  cases d with
  | sl b s n cs=>
    cases b with
    | none=>simp [bU,sn] at h
    | some b=>exact .inl ⟨b,s,n,cs,rfl⟩
  | hole s n=>exact .inr ⟨s,n,rfl⟩
  | _=>simp [bU,sn] at h
theorem lI.adr {g:D→D} (hg:lI g) {d:D} (h:sn d=none):sn (fr g d)=none:=by
  cases d<;>first | rfl | (simp [sn] at h; done) | exact hg.no _ rfl
theorem lI.ads {g:D→D} (hg:lI g) (d:D):sn (fr g d)=sn d:=by
  cases d<;>first | rfl | (simp only [fr,hg.sl,hg.hole]; done) | exact hg.no _ rfl
theorem lI.leaf {g:D→D} (hg:lI g) (d:D):bU (fr g (bU d))=fr g (bU d):=by
  cases hs:sn (bU d) with
  | none=>exact XG (hg.adr hs)
  | some p=>
    rcases abF hs with ⟨b,s,n,cs,h⟩ | ⟨s,n,h⟩
    · rw [h]
      simp [fr,hg.sl,bU]
    · rw [h]
      simp [fr,hg.hole,bU]
theorem N5 {g:D→D} (hg:lI g) (t:T):(fT g t).er=fr g t.er:=by
  cases t with
  | v d u=>simp only [fT,T.er]; exact hg.leaf d
  | own s n cap a xs=>simp [fT,T.er,fr,hg.sl]
theorem lP (g:D→D) (S:List (Nat × RT)) (k:Nat):lk (fS g S) k=(lk S k).map fun R=>⟨R.box,R.cs.map (fT g)⟩:=by
  induction S with
  | nil=>rfl
  | cons e t ih=>
    obtain ⟨j,R⟩:=e
    simp only [fS,lk]
    split<;>simp [ih]
theorem abG {α:Type} (f:α→α) (l:List (Nat × α)) (k:Nat):lk (gg f l) k=(lk l k).map f:=by
  induction l with
  | nil=>rfl
  | cons e t ih=>
    obtain ⟨j,v⟩:=e
    simp only [gg,lk]
    split<;>simp [ih]
theorem qd {g:D→D} (hg:lI g) {l:List (Nat × List D)} {S:List (Nat × RT)} (h:ik l S):ik (gg (List.map (fr g)) l) (fS g S):=by
  intro k
  rw [abG,lP,h k]
  cases lk S k with
  | none=>rfl
  | some R=>
    simp only [Option.map_some,Option.some.injEq,eL,List.map_map]
    apply List.map_congr_left
    intro t _
    simp [N5 hg]
theorem ZE (g:D→D) (t:T):(fT g t).ft=t.ft:=by cases t<;>rfl
theorem uX (g:D→D) (S:List (Nat × RT)):cM (fS g S)=cM S:=by
  induction S with
  | nil=>rfl
  | cons e t ih=>
    obtain ⟨k,R⟩:=e
    simp only [fS,cM,ih,RT.ft]
    congr 2
    rw [om,om,List.map_map]
    congr 2
    funext t
    exact ZE g t
theorem Ti {g:D→D} (hg:lI g) (S:List (Nat × RT)):SR (fr g) S (fS g S):=by
  refine ⟨fun r R1 h=>?_,uX g S⟩
  rw [lP] at h
  cases hr:lk S r with
  | none=>simp [hr] at h
  | some R=>
    simp only [hr,Option.map_some,Option.some.injEq] at h
    subst h
    refine ⟨R,rfl,rfl,dv (by simp) (fun i a b ha hb=>?_)⟩
    simp only [List.getElem?_map,ha,Option.map_some,Option.some.injEq] at hb
    subst hb
    cases a with
    | v d u=>exact .inl ⟨d,_,u,rfl,rfl,hg.leaf d⟩
    | own s n cap aa xs=>exact .inr ⟨⟨s,n,cap,aa,xs,rfl⟩,rfl⟩
theorem FD (g:D→D) {cs:List T} {p:Nat} {q:List Nat}:aA (cs.map (fT g)) (p::q)=aA cs (p::q):=by
  simp only [aA,List.getElem?_map]
  cases cs[p]? with
  | none=>rfl
  | some t=>cases t<;>rfl
theorem RY (g:D→D) {cs:List T} {bx:Option Nat} {q:List Nat}:cj bx (cs.map (fT g)) q=cj bx cs q:=by
  cases q with
  | nil=>rfl
  | cons p q=>
    simp only [cj,List.getElem?_map]
    cases cs[p]? with
    | none=>rfl
    | some t=>cases t<;>rfl
theorem rb {g:D→D} (hg:lI g) {w:World} {X:Bool→Nat→Prop} {S:List (Nat × RT)} {d:D} {u:Value} (h:bz w X S d u):bz w X (fS g S) d u:=by
  cases d with
  | ref r q o x=>
    intro t2 h2
    unfold cB at h2
    rw [lP] at h2
    cases hr:lk S r with
    | none=>simp [hr] at h2
    | some R=>
      simp only [hr,Option.map_some] at h2
      cases q with
      | nil=>
        simp only [aA,List.getElem?_map] at h2
        cases ho:R.cs[o]? with
        | none=>simp [ho] at h2
        | some t=>
          simp only [ho,Option.map_some,Option.some.injEq] at h2
          subst h2
          have:=h t (by simp [cB,hr,aA,ho])
          cases t with
          | own s n cap aa xs=>exact this
          | v d0 u0=>
            unfold eT at this ⊢
            rw [N5 hg]
            simp only [T.er,hg.ads] at this ⊢
            exact this
      | cons p q=>
        rw [FD] at h2
        exact h t2 (by unfold cB; rw [hr]; exact h2)
  | ptr r q o=>
    intro R' eo
    rw [lP] at eo
    cases hr:lk S r with
    | none=>simp [hr] at eo
    | some R=>
      simp only [hr,Option.map_some,Option.some.injEq] at eo
      subst eo
      exact ⟨(h R hr).1,fun b off ha=>(h R hr).2 b off (by rw [RY] at ha; exact ha)⟩
  | _=>exact h
theorem SR.sE {g:D→D} {S S1:List (Nat × RT)} (h:SR g S S1) {r:Nat} {R1:RT} (hr:lk S1 r=some R1):∃ R,lk S r=some R∧R1.box=R.box∧R1.cs.length=R.cs.length∧aG R1.cs=aG R.cs∧∀ (i:Nat) (t1:T),R1.cs[i]?=some t1→∃ t:T,R.cs[i]?=some t∧GT g t t1:=by
  obtain ⟨R,h1,h2,h3⟩:=h.look r R1 hr
  refine ⟨R,h1,h2,h3.len.symm,GT.adq h3,fun i t1 hi=>?_⟩
  have hl:=h3.len
  obtain ⟨dp,_⟩:=List.getElem?_eq_some_iff.1 hi
  obtain ⟨t1',h4,h5⟩:=h3.get (List.getElem?_eq_getElem (by omega:i < R.cs.length))
  rw [hi,Option.some.injEq] at h4
  subst h4
  exact ⟨_,List.getElem?_eq_getElem (by omega),h5⟩
section
variable {C:Ctx} {H H':List T} {w:World} {S S1 S':List (Nat × RT)}
theorem jO (eG:∀ k∈cM S'++aj H',k∈cM S++aj H) (b:Bool) (k:Nat) (h:af C w S H b k):af C w S' H' b k:=by
  obtain ⟨h1,h2,h3,h4⟩:=h
  have:k∉cM S'++aj H':=fun hk=>by
    rcases List.mem_append.1 (eG k hk) with h | h
    · exact h2 h
    · exact h3 h
  exact ⟨h1,fun h=>this (List.mem_append.2 (.inl h)),fun h=>this (List.mem_append.2 (.inr h)),h4⟩
theorem RZ (hm:Mem C w S H) {g:D→D} (hS:SR g S S1) {r:Nat} {q:List Nat} {o:Nat} {t t':T} (hc:kO S1 S' r q o t t') (hv:t'.val=t.val) (hs:bM w (af C w S' H') t'∨∃ d u,t'=.v d u∧q=[]∧∀ R,lk S r=some R→R.box.isSome=true∧bz w (af C w S' H') S' (bU d) u)
    (eU:(cM S'++aj H').Nodup) (eG:∀ k∈cM S'++aj H',k∈cM S++aj H) (hh:bN w (af C w S' H') H') (ea:∀ d u,bz w (af C w S H) S d u→bz w (af C w S' H') S' (g d) u) (Bu:∀ d u,Ext w (af C w S H) d u→Ext w (af C w S' H') (g d) u):Mem C w S' H':=by
  have hX:∀ b k,af C w S H b k→af C w S' H' b k:=jO eG
  have cF:∀ b k,af C w S H b k→af C w S' H' b k∧w.heap[k]?=w.heap[k]?:=fun b k h=>⟨hX b k h,rfl⟩
  have cell:∀ {bx:Bool} {t0 t1:T},jq w (af C w S H) S bx t0→GT g t0 t1→jq w (af C w S' H') S' bx t1:=by
    intro bx t0 t1 h0 hg
    rcases hg with ⟨d,d1,u,rfl,rfl,he⟩ | ⟨⟨s,n,cap,a,xs,rfl⟩,rfl⟩
    · simp only [jq] at h0 ⊢
      rw [he]
      rcases h0 with h0 | ⟨hb,h0⟩
      · exact .inl (Bu _ _ h0)
      · exact .inr ⟨hb,ea _ _ h0⟩
    · exact dT cF _ h0 (fun _ _=>rfl)
  refine ⟨eU,?_,hh,fun k hk=>hm.lt k (eG k hk)⟩
  intro r' R' eo
  obtain ⟨R1,cs',l,h1,h2,h3,h4,rfl⟩:=hc.ex
  by_cases he:r'=r
  · subst he
    rw [cI,Option.some.injEq] at eo
    subst eo
    obtain ⟨R,g1,g2,g3,g4,g5⟩:=hS.sE h1
    obtain ⟨k1,k2⟩:=hm.root r' R g1
    cases q with
    | nil=>
      simp only [aA,Option.some.injEq] at h2
      simp only [dO,Option.some.injEq] at h4
      subst h2; subst h4
      obtain ⟨dp,hto⟩:=List.getElem?_eq_some_iff.1 h3
      have gS:aG (R1.cs.set o t')=aG R.cs:=by
        rw [← g4,qv,hv]
        apply List.ext_getElem?
        intro j
        by_cases hj:o=j
        · subst hj
          rw [List.getElem?_set_self (by rw [bX]; exact dp),fv,h3]; rfl
        · rw [List.getElem?_set_ne hj]
      refine ⟨?_,?_⟩
      · simp only [List.length_set]
        rw [gS,g3,g2]; exact k1
      · intro t0 kP
        obtain ⟨j,hj⟩:=List.mem_iff_getElem?.1 kP
        simp only at hj
        by_cases K9:o=j
        · subst K9
          rw [List.getElem?_set_self dp,Option.some.injEq] at hj
          subst hj
          rcases hs with hs | ⟨d,u,rfl,_,hs⟩
          · cases t' with
            | v d u=>exact .inl hs
            | own s n cap a xs=>exact hs
          · obtain ⟨hb,hs⟩:=hs R g1
            exact .inr ⟨by rw [g2]; exact hb,hs⟩
        · rw [List.getElem?_set_ne K9] at hj
          obtain ⟨R4,e1,e2⟩:=g5 j _ hj
          have:=cell (k2 _ (List.mem_of_getElem? e1)) e2
          rw [← g2] at this
          exact this
    | cons p q=>
      have vL:bM w (af C w (pt S1 r' ⟨R1.box,cs'⟩) H') t':=by
        rcases hs with hs | ⟨d,u,_,hq,_⟩
        · exact hs
        · simp at hq
      have gS:=(mK h4).1
      have hlen:=(mK h4).2
      refine ⟨?_,?_⟩
      · simp only
        rw [gS,hlen,g4,g3,g2]; exact k1
      · intro t0 kP
        obtain ⟨j,hj⟩:=List.mem_iff_getElem?.1 kP
        simp only at hj
        rw [aA] at h2
        rw [dO] at h4
        cases hp:R1.cs[p]? with
        | none=>simp [hp] at h2
        | some x=>
          cases x with
          | v d u=>simp [hp] at h2
          | own s n cap a xs=>
            simp only [hp] at h2 h4
            cases hx:dO (fun l=>l.set o t') xs q with
            | none=>simp [hx] at h4
            | some kI=>
              simp only [hx,Option.some.injEq] at h4
              subst h4
              obtain ⟨dp,_⟩:=List.getElem?_eq_some_iff.1 hp
              by_cases uI:p=j
              · subst uI
                rw [List.getElem?_set_self dp,Option.some.injEq] at hj
                subst hj
                obtain ⟨R4,e1,e2⟩:=g5 p _ hp
                have e3:=cell (k2 _ (List.mem_of_getElem? e1)) e2
                simp only [jq,bM] at e3 ⊢
                obtain ⟨f1,f2,f3,f4⟩:=e3
                obtain ⟨f5,f6⟩:=abx vL hv f4 h2 h3 hx
                have qA:kI.length=xs.length:=by have:=congrArg List.length f6; simpa [bX] using this
                exact ⟨f1,by rw [qA]; exact f2,by rw [f6]; exact f3,f5⟩
              · rw [List.getElem?_set_ne uI] at hj
                obtain ⟨R4,e1,e2⟩:=g5 j _ hj
                have:=cell (k2 _ (List.mem_of_getElem? e1)) e2
                rw [← g2] at this
                exact this
  · rw [dL _ _ he] at eo
    obtain ⟨R,g1,g2,g3,g4,g5⟩:=hS.sE eo
    obtain ⟨k1,k2⟩:=hm.root r' R g1
    refine ⟨?_,?_⟩
    · rw [g4,g3,g2]; exact k1
    · intro t0 kP
      obtain ⟨j,hj⟩:=List.mem_iff_getElem?.1 kP
      obtain ⟨R4,e1,e2⟩:=g5 j _ hj
      have:=cell (k2 _ (List.mem_of_getElem? e1)) e2
      rw [← g2] at this
      exact this
end
end Go.Proofs.YtockoilcnmljiaaGreat
namespace Go.Proofs.YtockoilcnmljiaaGreat
theorem XH {cs:List T} {o:Nat} {t t':T} (ho:cs[o]?=some t) (hv:t'.val=t.val):aG (cs.set o t')=aG cs:=by
  rw [qv,hv]
  apply List.ext_getElem?
  intro j
  by_cases hj:o=j
  · subst hj
    rw [List.getElem?_set_self (by rw [bX]; exact (List.getElem?_eq_some_iff.1 ho).1),fv,ho]; rfl
  · rw [List.getElem?_set_ne hj]
theorem kO.par {S S':List (Nat × RT)} {r:Nat} {q:List Nat} {o:Nat} {t t':T} (hc:kO S S' r q o t t') (hv:t'.val=t.val) {r':Nat} {R':RT} (h:lk S' r'=some R'):∃ R,lk S r'=some R∧R'.box=R.box∧aG R'.cs=aG R.cs:=by
  obtain ⟨R,cs',l,h1,h2,h3,h4,rfl⟩:=hc.ex
  by_cases he:r'=r
  · subst he
    rw [cI,Option.some.injEq] at h
    subst h
    refine ⟨R,h1,rfl,?_⟩
    cases q with
    | nil=>
      simp only [aA,Option.some.injEq] at h2
      simp only [dO,Option.some.injEq] at h4
      subst h2; subst h4
      exact XH h3 hv
    | cons p q=>exact (mK h4).1
  · rw [dL _ _ he] at h
    exact ⟨R',h,rfl,rfl⟩
theorem kO.Lf {S S':List (Nat × RT)} {r:Nat} {q:List Nat} {o:Nat} {t t':T} (hc:kO S S' r q o t t') {r':Nat} {R:RT} (h:lk S r'=some R):∃ R',lk S' r'=some R'∧R'.box=R.box∧R'.cs.length=R.cs.length:=by
  obtain ⟨R0,cs',l,h1,h2,h3,h4,rfl⟩:=hc.ex
  by_cases he:r'=r
  · subst he
    rw [h1,Option.some.injEq] at h
    subst h
    refine ⟨_,cI _ _ _,rfl,?_⟩
    cases q with
    | nil=>
      simp only [dO,Option.some.injEq] at h4
      subst h4; simp
    | cons p q=>exact (mK h4).2
  · exact ⟨R,by rw [dL _ _ he]; exact h,rfl,rfl⟩
theorem FE {st st':St} {S:List (Nat × RT)} (gi:ik st.rt S) {r:Nat} {q:List Nat} {o:Nat} {t t':T} {R:RT} {l:List T} (h1:lk S r=some R) (h2:aA R.cs q=some l) (h3:l[o]?=some t) (h:st.iz r q o t'.er=some st'):
    ∃ S',kO S S' r q o t t'∧ik st'.rt S'∧st'.tm=st.tm∧st'.up=st.up∧st'.of=st.of:=by
  unfold St.iz at h
  rw [gi,h1] at h
  simp only [Option.map_some,adj] at h
  obtain ⟨cs',h4⟩:=Ot (f:=fun l=>l.set o t') h2
  rw [h4] at h
  simp only [Option.map_some,Option.some.injEq] at h
  subst h
  exact ⟨pt S r ⟨R.box,cs'⟩,⟨R,cs',l,h1,h2,h3,h4,rfl⟩,DF gi r ⟨R.box,cs'⟩,rfl,rfl,rfl⟩
theorem abH:∀ {a b:List T},a.Sublist b→(aj a).Sublist (aj b):=by
  intro a b h
  induction h with
  | slnil=>exact List.Sublist.refl _
  | cons x _ ih=>rw [aj]; exact ih.trans (List.sublist_append_right _ _)
  | cons_cons x _ ih=>rw [aj,aj]; exact List.Sublist.append (List.Sublist.refl _) ih
theorem adt {w:World} {X:Bool→Nat→Prop} {s n cap:Nat} {a:Option (Nat × Nat)} {ts:List T} (hs:bM w X (.own s n cap a ts)) {x:Option (Nat × Nat)} {u:Value} (hr:eT x (.own s n cap a ts) u):
    ∃ t:T,t.er=.sl none s (trim x s n (bu ts)).1 (trim x s n (bu ts)).2∧t.val=u∧bM w X t∧t.ft.Sublist (T.own s n cap a ts).ft:=by
  cases x with
  | none=>
    simp only [eT,sn,T.er] at hr
    exact ⟨.own s n cap a ts,rfl,hr.symm,hs,List.Sublist.refl _⟩
  | some p=>
    obtain ⟨l,m⟩:=p
    simp only [eT,sn,T.er,T.val,xz,Value.slice.injEq] at hr
    obtain ⟨h1,base,C,k,⟨h2,_,h3⟩,h4,rfl,h5⟩:=hr
    subst h2; subst h3
    simp only [bM] at hs
    obtain ⟨g1,g2,g3,g4⟩:=hs
    refine ⟨.own s m (cap - l) (a.map fun p=>(p.1,p.2+k*s)) ((ts.drop (l*s)).take (m*s)),?_,?_,?_,?_⟩
    · simp only [T.er,trim,Bn,Bo]
    · simp only [T.val,xz,Option.map_map]
      congr 1
      cases a<;>simp [fe]
    · simp only [bM]
      refine ⟨by omega,?_,?_,?_⟩
      · rw [List.length_take,List.length_drop,g2]
        have:l*s+m*s≤n*s:=by rw [← Nat.add_mul]; exact Nat.mul_le_mul_right _ h1
        omega
      · cases a with
        | none=>simp only at g3; simp only [Option.map_none]; omega
        | some p=>
          obtain ⟨b,off⟩:=p
          simp only [Option.map_some]
          obtain ⟨c,e,fz,k1,k2,k3,k4⟩:=g3
          refine ⟨c,e,fz,k1,k2,?_,?_⟩
          · rcases h5 with h5 | h5
            · rw [h5]
              have:k*s≤cap*s:=Nat.mul_le_mul_right _ h4
              omega
            · subst h5
              have:k*s+(cap - k)*s=cap*s:=by rw [← Nat.add_mul]; congr 1; omega
              omega
          · intro j u hj
            rw [cW,List.map_take,List.map_drop,← cW,List.getElem?_take] at hj
            split at hj
            · rename_i dp
              rw [List.getElem?_drop] at hj
              have hm:m≠0:=fun e=>by simp [e] at dp
              have:k=l:=by omega
              subst this
              rw [Nat.add_assoc]
              exact k4 _ _ hj
            · simp at hj
      · rw [cu] at g4 ⊢
        exact fun t ht=>g4 t (List.mem_of_mem_drop (List.mem_of_mem_take ht))
    · simp only [T.ft]
      refine List.Sublist.append ?_ (abH ((List.take_sublist _ _).trans (List.drop_sublist _ _)))
      cases a<;>exact List.Sublist.refl _
structure qB (S S':List (Nat × RT)):Prop where
  fwd:∀ r R,lk S r=some R→∃ R',lk S' r=some R'∧R'.box=R.box∧aG R'.cs=aG R.cs
theorem qB.refl (S:List (Nat × RT)):qB S S:=⟨fun _ R h=>⟨R,h,rfl,rfl⟩⟩
theorem qB.trans {S S' AB:List (Nat × RT)} (h:qB S S') (h':qB S' AB):qB S AB:=⟨fun r R hr=>by
  obtain ⟨R1,h1,h2,h3⟩:=h.fwd r R hr
  obtain ⟨R2,h4,h5,h6⟩:=h'.fwd r R1 h1
  exact ⟨R2,h4,h5.trans h2,h6.trans h3⟩⟩
theorem zI {C:Ctx} {w:World} {S S':List (Nat × RT)} {H H':List T} (hk:Kept C w S H) (eG:∀ k∈cM S'++aj H',k∈cM S++aj H) (hp:∀ r R',lk S' r=some R'→∃ R,lk S r=some R∧R'.box=R.box∧aG R'.cs=aG R.cs):Kept C w S' H':=
  ⟨hk.os,hk.tape,hk.output,hk.size,hk.block,fun k h=>hk.iJ k (eG k h),fun r b vs hm R' hr=>by
    obtain ⟨R,h1,h2,h3⟩:=hp r R' hr
    have:=hk.par r b vs hm R h1
    rw [h2,h3]; exact this⟩
section
variable {C:Ctx} {H:List T} {w:World} {st st':St} {aJ:List (Array Value)} {S:List (Nat × RT)}
theorem G3 (h:Rel C H w st aJ S) {d:D} {u:Value} (hu:Ext w (af C w S H) d u) (hd:bU d=d):Rel C (.v d u::H) w st aJ S:=by
  have hf:∀ b k,af C w S H b k→af C w S (.v d u::H) b k:=jO (by simp [aj,T.ft])
  have cF:∀ b k,af C w S H b k→af C w S (.v d u::H) b k∧w.heap[k]?=w.heap[k]?:=fun b k hh=>⟨hf b k hh,rfl⟩
  have ea:∀ d' u',bz w (af C w S H) S d' u'→bz w (af C w S (.v d u::H)) S d' u':=fun d' u' hh=>tM cF (fun _ _ h=>h) hh
  refine h.sC h.rt rfl rfl ea ⟨by simpa [aj,T.ft] using h.mem.nd,?_,?_,by simpa [aj,T.ft] using h.mem.lt⟩ (zI h.kept (by simp [aj,T.ft]) (fun r R' hr=>⟨R',hr,rfl,rfl⟩))
  · intro r R hR
    obtain ⟨h1,h2⟩:=h.mem.root r R hR
    refine ⟨h1,fun t ht=>?_⟩
    have:=h2 t ht
    cases t with
    | v d' u'=>
      rcases this with this | ⟨hb,this⟩
      · exact .inl (gy cF _ _ this)
      · exact .inr ⟨hb,ea _ _ this⟩
    | own s n cap a xs=>exact dT cF _ this (fun _ _=>rfl)
  · simp only [bN,bM]
    exact ⟨by rw [hd]; exact gy cF _ _ hu,gA cF _ h.mem.hand (fun _ _=>rfl)⟩
theorem vl (h:Rel C H w st aJ S) {d d':D} {u:Value} (hu:bz w (af C w S H) S d u) (ht:jn st d=some (d',st')):
    ∃ t S',Rel C (t::H) w st' aJ S'∧t.er=d'∧t.val=u∧(∀ d u,bz w (af C w S H) S d u→bz w (af C w S' (t::H)) S' d u)∧qB S S'∧(st'.tm=st.tm∧st'.up=st.up∧st'.of=st.of)∧(∀ r q o x,d=.ref r q o x→∃ d0 u0,(sn d0).isSome=true∧bU d0=d0∧cB S' r q o=some (.v d0 u0)∧(x=none→lH (.v d0 u0) t)):=by
  have plain:∀ {d:D},Ext w (af C w S H) d u→bU d=d→∃ t S',Rel C (t::H) w st aJ S'∧t.er=d∧t.val=u∧(∀ d u,bz w (af C w S H) S d u→bz w (af C w S' (t::H)) S' d u)∧qB S S'∧(st.tm=st.tm∧st.up=st.up∧st.of=st.of)∧S=S':=by
    intro d hu hd
    refine ⟨.v d u,S,G3 h hu hd,hd,rfl,fun d' u' hh=>tM (fun b k hh=>⟨jO (by simp [aj,T.ft]) b k hh,rfl⟩) (fun _ _ h=>h) hh,qB.refl _,⟨rfl,rfl,rfl⟩,rfl⟩
  have Bv:∀ {d:D},(∀ r q o x,d≠.ref r q o x)→Ext w (af C w S H) d u→bU d=d→∃ t S',Rel C (t::H) w st aJ S'∧t.er=d∧t.val=u∧(∀ d u,bz w (af C w S H) S d u→bz w (af C w S' (t::H)) S' d u)∧qB S S'∧(st.tm=st.tm∧st.up=st.up∧st.of=st.of)∧(∀ r q o x,d=.ref r q o x→∃ d0 u0,(sn d0).isSome=true∧bU d0=d0∧cB S' r q o=some (.v d0 u0)∧(x=none→lH (.v d0 u0) t)):=by
    intro d hn hu hd
    obtain ⟨t,S',a1,a2,a3,a4,a5,a6,_⟩:=plain hu hd
    exact ⟨t,S',a1,a2,a3,a4,a5,a6,fun r q o x e=>absurd e (hn r q o x)⟩
  cases d with
  | int k n=>simp only [jn,Option.some.injEq,Prod.mk.injEq] at ht; obtain ⟨rfl,rfl⟩:=ht; exact Bv (by simp) hu rfl
  | bool b=>simp only [jn,Option.some.injEq,Prod.mk.injEq] at ht; obtain ⟨rfl,rfl⟩:=ht; exact Bv (by simp) hu rfl
  | str s=>simp only [jn,Option.some.injEq,Prod.mk.injEq] at ht; obtain ⟨rfl,rfl⟩:=ht; exact Bv (by simp) hu rfl
  | undef=>simp only [jn,Option.some.injEq,Prod.mk.injEq] at ht; obtain ⟨rfl,rfl⟩:=ht; exact Bv (by simp) hu rfl
  | hole s n=>
    simp only [jn,Option.some.injEq,Prod.mk.injEq] at ht; obtain ⟨rfl,rfl⟩:=ht
    obtain ⟨t,S',a1,a2,a3,a4,a5,a6,_⟩:=plain (d:=.undef) (by simp [Ext]) rfl
    exact ⟨t,S',a1,a2,a3,a4,a5,a6,by simp⟩
  | sl g s n cs=>
    simp only [jn,Option.some.injEq,Prod.mk.injEq] at ht; obtain ⟨rfl,rfl⟩:=ht
    cases g with
    | none=>exact absurd hu (by simp [bz,Ext])
    | some g=>exact Bv (by simp) hu rfl
  | nil s=>
    simp only [jn,Option.some.injEq,Prod.mk.injEq] at ht; obtain ⟨rfl,rfl⟩:=ht
    have hu':u=.slice none 0 0:=hu
    subst hu'
    have eV:(T.own s 0 0 none []).ft=[]:=rfl
    have hf:∀ b k,af C w S H b k→af C w S (.own s 0 0 none []::H) b k:=jO (by simp [aj,eV])
    have cF:∀ b k,af C w S H b k→af C w S (.own s 0 0 none []::H) b k∧w.heap[k]?=w.heap[k]?:=fun b k hh=>⟨hf b k hh,rfl⟩
    have ea:∀ d' u',bz w (af C w S H) S d' u'→bz w (af C w S (.own s 0 0 none []::H)) S d' u':=fun d' u' hh=>tM cF (fun _ _ h=>h) hh
    refine ⟨.own s 0 0 none [],S,?_,rfl,rfl,ea,qB.refl _,⟨rfl,rfl,rfl⟩,by simp⟩
    refine h.sC h.rt rfl rfl ea ⟨by simpa [aj,eV] using h.mem.nd,?_,?_,by simpa [aj,eV] using h.mem.lt⟩ (zI h.kept (by simp [aj,eV]) (fun r R' hr=>⟨R',hr,rfl,rfl⟩))
    · intro r R hR
      obtain ⟨h1,h2⟩:=h.mem.root r R hR
      refine ⟨h1,fun t ht=>?_⟩
      have:=h2 t ht
      cases t with
      | v d' u'=>
        rcases this with this | ⟨hb,this⟩
        · exact .inl (gy cF _ _ this)
        · exact .inr ⟨hb,ea _ _ this⟩
      | own s n cap a xs=>exact dT cF _ this (fun _ _=>rfl)
    · simp only [bN,bM]
      exact ⟨by simp,gA cF _ h.mem.hand (fun _ _=>rfl)⟩
  | ref r q o x=>
    simp only [jn] at ht
    split at ht
    · rename_i s n cs hc
      split at ht
      case h_2=>simp at ht
      rename_i aQ jl
      simp only [Option.some.injEq,Prod.mk.injEq] at ht
      obtain ⟨rfl,rfl⟩:=ht
      obtain ⟨R,l,t0,h1,h2,h3,h4,h5⟩:=iW h.rt hc
      obtain ⟨cap,a,ts,rfl,rfl⟩:=GM h5.symm
      have G2:=h.mem
      have ec:bM w (af C w S H) (.own s n cap a ts):=by
        obtain ⟨_,g2⟩:=G2.root r R h1
        cases q with
        | nil=>
          simp only [aA,Option.some.injEq] at h2
          subst h2
          exact g2 _ (List.mem_of_getElem? h3)
        | cons p q=>
          rw [aA] at h2
          cases hp:R.cs[p]? with
          | none=>simp [hp] at h2
          | some y=>
            cases y with
            | v d u=>simp [hp] at h2
            | own s' n' uE a' kI=>
              simp only [hp] at h2
              have hs:bM w (af C w S H) (.own s' n' uE a' kI):=g2 _ (List.mem_of_getElem? hp)
              simp only [bM] at hs
              exact fU (xA hs.2.2.2 h2) h3
      obtain ⟨t,e1,e2,e3,e4⟩:=adt ec (hu _ h4)
      obtain ⟨S',FF,aif,adu,adv,aih⟩:=FE (t':=.v (.hole s n) (T.own s n cap a ts).val) h.rt h1 h2 h3 jl
      obtain ⟨A,B,f1,f2⟩:=FF.fts
      simp only [T.ft,List.append_nil] at f2
      have eG:∀ k∈cM S'++aj (t::H),k∈cM S++aj H:=by
        intro k hk
        rw [f1]
        rw [f2] at hk
        simp only [aj,List.mem_append] at hk ⊢
        rcases hk with (hk | hk) | (hk | hk)
        · exact .inl (.inl (.inl hk))
        · exact .inl (.inr hk)
        · exact .inl (.inl (.inr (e4.mem hk)))
        · exact .inr hk
      have eU:(cM S'++aj (t::H)).Nodup:=by
        have h0:=G2.nd
        rw [f1] at h0
        rw [f2]
        have p1:(A++(T.own s n cap a ts).ft++B++aj H).Perm (A++B++((T.own s n cap a ts).ft++aj H)):=by
          simp only [List.append_assoc]
          refine List.Perm.append_left A ?_
          rw [← List.append_assoc,← List.append_assoc]
          exact List.Perm.append_right _ List.perm_append_comm
        have h00:=p1.nodup_iff.1 h0
        refine List.Nodup.sublist ?_ h00
        simp only [aj]
        exact List.Sublist.append (List.Sublist.refl _) (List.Sublist.append e4 (List.Sublist.refl _))
      have cF:jB w w (af C w S H) (af C w S' (t::H)):=fun b k hh=>⟨jO eG b k hh,rfl⟩
      have ea:∀ d u,bz w (af C w S H) S d u→bz w (af C w S' (t::H)) S' d u:=fun d u hh=>OD cF FF (.inr ⟨rfl,fun p h=>by simpa [T.er,bU,sn] using h⟩) hh
      have dj:Mem C w S' (t::H):=RZ G2 (SR.refl S) FF rfl (.inl (by simp [bM,bU,Ext])) eU eG (by
          simp only [bN]
          exact ⟨dT cF _ e3 (fun _ _=>rfl),gA cF _ G2.hand (fun _ _=>rfl)⟩) ea (fun d u hh=>gy cF _ _ hh)
      exact ⟨t,S',h.sC aif adu adv ea dj (zI h.kept eG (fun r R' hr=>FF.par rfl hr)),e1,e2,ea,⟨fun r R hr=>by
        obtain ⟨R',k1,k2,k3⟩:=FF.Lf hr
        obtain ⟨R0,k4,k5,k6⟩:=FF.par rfl k1
        rw [hr,Option.some.injEq] at k4
        subst k4
        exact ⟨R',k1,k2,k6⟩⟩,⟨adu,adv,aih⟩,fun r' q' o' x' he=>by
        simp only [D.ref.injEq] at he
        obtain ⟨rfl,rfl,rfl,rfl⟩:=he
        refine ⟨_,_,rfl,rfl,FF.FC,fun hx=>⟨?_,fun p he=>?_⟩⟩
        · subst hx
          have:=hu _ h4
          simp only [eT,sn,T.er] at this
          rw [e2,this]; rfl
        · subst hx
          rw [e1] at he
          simpa [T.er,bU,sn,trim] using he⟩
    · rename_i g s n cs hc
      simp only [Option.some.injEq,Prod.mk.injEq] at ht
      obtain ⟨rfl,rfl⟩:=ht
      obtain ⟨R,l,t0,h1,h2,h3,h4,h5⟩:=iW h.rt hc
      have G2:=h.mem
      have ec:bM w (af C w S H) t0:=by
        obtain ⟨_,g2⟩:=G2.root r R h1
        cases q with
        | nil=>
          simp only [aA,Option.some.injEq] at h2
          subst h2
          have:=g2 _ (List.mem_of_getElem? h3)
          cases t0 with
          | own s n cap a xs=>exact this
          | v d u=>
            rcases this with h3 | ⟨_,h3⟩
            · exact h3
            · simp only [T.er] at h5
              simp only [bM]
              rw [← h5] at h3 ⊢
              exact h3
        | cons p q=>
          rw [aA] at h2
          cases hp:R.cs[p]? with
          | none=>simp [hp] at h2
          | some y=>
            cases y with
            | v d u=>simp [hp] at h2
            | own s' n' uE a' kI=>
              simp only [hp] at h2
              have hs:bM w (af C w S H) (.own s' n' uE a' kI):=g2 _ (List.mem_of_getElem? hp)
              simp only [bM] at hs
              exact fU (xA hs.2.2.2 h2) h3
      have ko:t0.ft=[]:=by
        cases t0 with
        | v d u=>rfl
        | own s' n' cap a ts=>simp [T.er] at h5
      have:=DG (X':=af C w S H) (fun _ _ h=>h) false h5.symm ec (by simp [ko]) (hu _ h4)
      obtain ⟨t,S',a1,a2,a3,a4,a5,a6,a7⟩:=plain this rfl
      refine ⟨t,S',a1,a2,a3,a4,a5,a6,fun r' q' o' x' he=>?_⟩
      simp only [D.ref.injEq] at he
      obtain ⟨rfl,rfl,rfl,rfl⟩:=he
      cases t0 with
      | own s' n' cap a ts=>simp [T.er] at h5
      | v d0 u0=>
        simp only [T.er] at h5
        have hd0:d0=.sl (some g) s n cs:=by
          cases d0 with
          | sl g0 s0 n0 cs0=>
            cases g0 with
            | none=>simp [bU] at h5
            | some g0=>exact h5.symm
          | _=>simp [bU] at h5
        subst hd0
        refine ⟨_,u0,rfl,rfl,a7▸h4,fun hx=>⟨?_,fun p he=>?_⟩⟩
        · subst hx
          have:=hu _ h4
          simp only [eT,sn,T.er,bU] at this
          rw [a3]; exact this
        · subst hx
          rw [a2] at he
          simpa [dN,trim,sn,T.er,bU] using he
    · simp at ht
  | _=>simp [jn] at ht
end
end Go.Proofs.YtockoilcnmljiaaGreat
namespace Go.Proofs.YtockoilcnmljiaaGreat
theorem re (r:Nat):lI (cH r):=
  ⟨fun _ _ _ _=>rfl,fun _ _=>rfl,fun d h=>by cases d<;>simp only [cH]<;>first | rfl | (split<;>rfl) | exact h⟩
theorem Tj (r:Nat):lI (eB r):=
  ⟨fun _ _ _ _=>rfl,fun _ _=>rfl,fun d h=>by
    cases d with
    | ref r' q o x=>simp only [eB]; split<;>rfl
    | ptr r' q o=>cases q<;>simp only [eB]<;>first | rfl | (split<;>rfl)
    | _=>exact h⟩
theorem mN (r:Nat) (q:List Nat) (o:Nat) (e:Bool):lI (cA r q o e):=
  ⟨fun _ _ _ _=>rfl,fun _ _=>rfl,fun d h=>by
    cases d with
    | ref r' q' o' x=>
      simp only [cA]
      split
      · split
        · rfl
        · split<;>rfl
        · rfl
      · rfl
    | ptr r' q' o'=>
      simp only [cA]
      split
      · split<;>rfl
      · rfl
    | _=>exact h⟩
theorem Bw (r:Nat) (q:List Nat) (o r1:Nat) (q1:List Nat) (o1:Nat):lI (so r q o r1 q1 o1):=
  ⟨fun _ _ _ _=>rfl,fun _ _=>rfl,fun d h=>by
    cases d with
    | ref r' q' o' x=>
      simp only [so]
      split
      · split<;>rfl
      · rfl
    | ptr r' q' o'=>
      simp only [so]
      split
      · split<;>rfl
      · rfl
    | _=>exact h⟩
theorem sF {g:D→D} (hg:lI g) (hs:∀ d,g d=d∨(∃ r q o x,d=.ref r q o x)∨∃ r q o,d=.ptr r q o) {w:World} {X:Bool→Nat→Prop} {d:D} {u:Value} (h:Ext w X d u):Ext w X (fr g d) u:=by
  rcases hs d with h1 | ⟨r,q,o,x,rfl⟩ | ⟨r,q,o,rfl⟩
  · cases d<;>first | (simp only [fr,h1]; exact h) | (simp [Ext] at h)
  · simp [Ext] at h
  · simp [Ext] at h
theorem Tk (r:Nat) (d:D):cH r d=d∨(∃ r q o x,d=.ref r q o x)∨∃ r q o,d=.ptr r q o:=by
  cases d<;>first | exact .inl rfl | exact .inr (.inl ⟨_,_,_,_,rfl⟩) | exact .inr (.inr ⟨_,_,_,rfl⟩)
theorem Tl (r:Nat) (d:D):eB r d=d∨(∃ r q o x,d=.ref r q o x)∨∃ r q o,d=.ptr r q o:=by
  cases d<;>first | exact .inl rfl | exact .inr (.inl ⟨_,_,_,_,rfl⟩) | exact .inr (.inr ⟨_,_,_,rfl⟩)
theorem zJ (r:Nat) (q:List Nat) (o:Nat) (e:Bool) (d:D):cA r q o e d=d∨(∃ r q o x,d=.ref r q o x)∨∃ r q o,d=.ptr r q o:=by
  cases d<;>first | exact .inl rfl | exact .inr (.inl ⟨_,_,_,_,rfl⟩) | exact .inr (.inr ⟨_,_,_,rfl⟩)
theorem vm {w:World} {X:Bool→Nat→Prop} {S:List (Nat × RT)} {g:D→D} {d:D} {u:Value} (h:bz w X S d u):fr g d=g d:=by
  cases d<;>first | rfl | (simp [bz,Ext] at h)
section
variable {C:Ctx} {H Hs:List T} {w w':World} {st:St} {aJ:List (Array Value)} {S:List (Nat × RT)}
theorem ZF {S:List (Nat × RT)} {k:Nat} (r:RT):∃ A B cg,cM S=A++cg++B∧cM (pt S k r)=A++r.ft++B:=by
  cases h:lk S k with
  | none=>exact ⟨cM S,[],[],by simp,by rw [Te h]; simp⟩
  | some R=>
    obtain ⟨A,B,h1,h2⟩:=me h
    exact ⟨A,B,R.ft,h1,h2 r⟩
theorem OG (h:Rel C (Hs++H) w st aJ S) {r:Nat} {R:RT} (eV:∀ k∈R.ft,k∈aj Hs∨w.heap.size≤k):
    ∀ k∈cM (pt (fS (cH r) S) r R)++aj H,k∈cM S++aj (Hs++H)∨w.heap.size≤k:=by
  obtain ⟨A,B,cg,f1,f2⟩:=ZF (S:=fS (cH r) S) (k:=r) R
  rw [uX] at f1
  intro k hk
  rw [f2] at hk
  rw [f1,bt]
  simp only [List.mem_append] at hk ⊢
  rcases hk with ((hk | hk) | hk) | hk
  · exact .inl (.inl (.inl (.inl hk)))
  · rcases eV k hk with h2 | h2
    · exact .inl (.inr (.inl h2))
    · exact .inr h2
  · exact .inl (.inl (.inr hk))
  · exact .inl (.inr (.inr hk))
theorem oZ (h:Rel C (Hs++H) w st aJ S) {r:Nat} {R:RT} (eV:∀ k∈R.ft,k∈aj Hs∨w.heap.size≤k) (cE:w.heap.size≤w'.heap.size) (hold:∀ k,k < w.heap.size→w'.heap[k]?=w.heap[k]?):
    jB w w' (af C w S (Hs++H)) (af C w' (pt (fS (cH r) S) r R) H):=by
  have eG:=OG (r:=r) h eV
  intro b k hk
  refine ⟨⟨by have:=hk.1; omega,fun hx=>?_,fun hx=>?_,hk.2.2.2⟩,hold k hk.1⟩
  · rcases eG k (List.mem_append.2 (.inl hx)) with h2 | h2
    · rcases List.mem_append.1 h2 with h3 | h3
      · exact hk.2.1 h3
      · exact hk.2.2.1 h3
    · have:=hk.1; omega
  · rcases eG k (List.mem_append.2 (.inr hx)) with h2 | h2
    · rcases List.mem_append.1 h2 with h3 | h3
      · exact hk.2.1 h3
      · exact hk.2.2.1 h3
    · have:=hk.1; omega
theorem G4 (h:Rel C (Hs++H) w st aJ S) {r:Nat} {R:RT} (eV:∀ k∈R.ft,k∈aj Hs∨w.heap.size≤k) (cE:w.heap.size≤w'.heap.size) (hold:∀ k,k < w.heap.size→w'.heap[k]?=w.heap[k]?):
    ∀ d u,bz w (af C w S (Hs++H)) S d u→bz w' (af C w' (pt (fS (cH r) S) r R) H) (pt (fS (cH r) S) r R) (cH r d) u:=
  fun _ _ hd=>XE (oZ h eV cE hold) rfl (rb (re r) hd)
theorem zK (h:Rel C (Hs++H) w st aJ S) {r:Nat} {R:RT} (hR:Ov w' (af C w' (pt (fS (cH r) S) r R) H) (pt (fS (cH r) S) r R) R)
    (eV:R.ft.Nodup∧∀ k∈R.ft,k∈aj Hs∨w.heap.size≤k) (dp:∀ k∈R.ft,k < w'.heap.size) (cE:w.heap.size≤w'.heap.size) (hold:∀ k,k < w.heap.size→w'.heap[k]?=w.heap[k]?)
    (nN:w'.os=w.os) (uY:w'.tape=w.tape) (vO:w'.output=w.output) (hP:∀ p∈C.P0,p.1≠r):
    Rel C H w' { st.fc (cH r) with rt:=pz (st.fc (cH r)).rt r (bu R.cs) } aJ (pt (fS (cH r) S) r R)∧
    ∀ d u,bz w (af C w S (Hs++H)) S d u→bz w' (af C w' (pt (fS (cH r) S) r R) H) (pt (fS (cH r) S) r R) (cH r d) u:=by
  obtain ⟨A,B,cg,f1,f2⟩:=ZF (S:=fS (cH r) S) (k:=r) R
  rw [uX] at f1
  have eG:=OG (r:=r) h eV.2
  have cF:=oZ (r:=r) h eV.2 cE hold
  have ea:=G4 (r:=r) h eV.2 cE hold
  have eU:(cM (pt (fS (cH r) S) r R)++aj H).Nodup:=by
    have h0:=h.mem.nd
    rw [f1,bt] at h0
    rw [f2]
    have adx:=h.mem.lt
    rw [f1,bt] at adx
    simp only [List.nodup_append,List.mem_append] at h0 ⊢
    obtain ⟨⟨⟨a1,a2,a3⟩,a4,a5⟩,⟨b1,b2,b3⟩,c⟩:=h0
    have new:∀ x,x∈R.ft→∀ y,(y∈A∨y∈B∨y∈aj H)→x≠y:=by
      intro x hx y hy e
      subst e
      rcases eV.2 x hx with h2 | h2
      · rcases hy with hy | hy | hy
        · exact c x (.inl (.inl hy)) x (.inl h2) rfl
        · exact c x (.inr hy) x (.inl h2) rfl
        · exact b3 x h2 x hy rfl
      · have:x < w.heap.size:=adx x (by
          simp only [List.mem_append]
          rcases hy with hy | hy | hy
          · exact .inl (.inl (.inl hy))
          · exact .inl (.inr hy)
          · exact .inr (.inr hy))
        omega
    refine ⟨⟨⟨a1,eV.1,fun x hx y hy e=>new y hy x (.inl hx) e.symm⟩,a4,?_⟩,b2,?_⟩
    · intro x hx y hy e
      rcases hx with hx | hx
      · exact a5 x (.inl hx) y hy e
      · exact new x hx y (.inr (.inl hy)) e
    · intro x hx y hy e
      rcases hx with (hx | hx) | hx
      · exact c x (.inl (.inl hx)) y (.inr hy) e
      · exact new x hx y (.inr (.inr hy)) e
      · exact c x (.inr hx) y (.inr hy) e
  refine ⟨h.step (f:=cH r) ?_ rfl rfl ea ⟨eU,?_,?_,?_⟩ ⟨by rw [nN]; exact h.kept.os,by rw [uY]; exact h.kept.tape,by rw [vO]; exact h.kept.output,Nat.le_trans h.kept.size cE,?_,?_,?_⟩,ea⟩
  · exact DF (qd (re r) h.rt) r R
  · intro r' R' eE
    by_cases he:r'=r
    · subst he
      rw [cI,Option.some.injEq] at eE
      subst eE
      exact hR
    · rw [dL _ _ he,lP] at eE
      cases hx:lk S r' with
      | none=>simp [hx] at eE
      | some R0=>
        simp only [hx,Option.map_some,Option.some.injEq] at eE
        subst eE
        obtain ⟨k1,k2⟩:=h.mem.root r' R0 hx
        have mg:∀ k∈R0.ft,k∈cM S:=by
          intro k hk
          obtain ⟨A',B',e1,_⟩:=me hx
          rw [e1]; simp [hk]
        refine ⟨?_,?_⟩
        · simp only [List.length_map]
          have hv:aG (R0.cs.map (fT (cH r)))=aG R0.cs:=by
            rw [cW,cW,List.map_map]
            congr 1
            funext t
            cases t<;>rfl
          rw [hv]
          cases hb:R0.box with
          | none=>trivial
          | some b=>
            simp only [hb] at k1 ⊢
            obtain ⟨c,e,fz,g1,g2⟩:=k1
            have ZG:b < w.heap.size:=h.mem.lt b (List.mem_append.2 (.inl (mg b (by simp [RT.ft,hb]))))
            exact ⟨c,e,fz,by rw [hold b ZG]; exact g1,g2⟩
        · intro t ht
          simp only [List.mem_map] at ht
          obtain ⟨t0,kP,rfl⟩:=ht
          have:=k2 t0 kP
          cases t0 with
          | v d u=>
            simp only [fT,jq] at this ⊢
            rw [(re r).leaf]
            rcases this with this | ⟨hb,this⟩
            · exact .inl (sF (re r) (Tk r) (gy cF _ _ this))
            · exact .inr ⟨hb,by rw [vm this]; exact ea _ _ this⟩
          | own s n cap a xs=>
            simp only [fT]
            refine dT cF _ this (fun k hk=>hold k (h.mem.lt k (List.mem_append.2 (.inl (mg k ?_)))))
            obtain ⟨i,hi⟩:=List.mem_iff_getElem?.1 kP
            obtain ⟨A',B',e1,_⟩:=dW R0.cs i _ hi
            rw [RT.ft,e1]; simp [hk]
  · have:=h.mem.hand
    rw [dU] at this
    refine gA cF _ this.2 (fun k hk=>hold k (h.mem.lt k ?_))
    rw [bt]; simp [hk]
  · intro k hk
    rw [f2] at hk
    simp only [List.mem_append] at hk
    have hl:=h.mem.lt k
    rw [f1,bt] at hl
    simp only [List.mem_append] at hl
    rcases hk with ((hk | hk) | hk) | hk
    · have:=hl (.inl (.inl (.inl hk))); omega
    · exact dp k hk
    · have:=hl (.inl (.inr hk)); omega
    · have:=hl (.inr (.inr hk)); omega
  · intro k hk hf
    rw [hold k (by have:=h.kept.size; omega)]
    exact h.kept.block k hk hf
  · intro k hk
    rcases eG k hk with h2 | h2
    · exact h.kept.iJ k h2
    · have:=h.kept.size
      exact .inr (by omega)
  · intro r' b vs hm R' eE
    have db:=hP _ hm
    rw [dL _ _ db,lP] at eE
    cases hx:lk S r' with
    | none=>simp [hx] at eE
    | some R0=>
      simp only [hx,Option.map_some,Option.some.injEq] at eE
      subst eE
      obtain ⟨g1,g2⟩:=h.kept.par r' b vs hm R0 hx
      refine ⟨g1,fun hb=>?_⟩
      rw [← g2 hb]
      simp only [cW,List.map_map]
      congr 1
      funext t
      cases t<;>rfl
end
end Go.Proofs.YtockoilcnmljiaaGreat
namespace Go.Proofs.YtockoilcnmljiaaGreat
def rf:T→List Nat→Option T
  | t,[]=>some t
  | .own _ _ _ _ cs,o::q=>match cs[o]? with
    | some t=>rf t q
    | none=>none
  | _,_::_=>none
theorem UQ (y:List Nat):∀ t:T,Fu t.er y=(rf t y).map T.er:=by
  induction y with
  | nil=>intro t; cases t<;>simp [Fu,rf]
  | cons o q ih=>
    intro t
    cases t with
    | v d u=>
      simp only [T.er,rf,Option.map_none]
      cases d with
      | sl g s n cs=>cases g<;>simp [bU,Fu]
      | _=>simp [bU,Fu]
    | own s n cap a cs=>
      simp only [T.er,Fu,rf,iD]
      cases cs[o]? with
      | none=>rfl
      | some t=>simp [ih]
theorem abI {w:World} {X:Bool→Nat→Prop} (y:List Nat):∀ {t t2:T},bM w X t→rf t y=some t2→bM w X t2∧∀ k∈t2.ft,k∈t.ft:=by
  induction y with
  | nil=>
    intro t t2 hs h
    have:t2=t:=by cases t<;>simpa [rf] using h.symm
    subst this
    exact ⟨hs,fun _ h=>h⟩
  | cons o q ih=>
    intro t t2 hs h
    cases t with
    | v d u=>simp [rf] at h
    | own s n cap a cs=>
      simp only [rf] at h
      cases hc:cs[o]? with
      | none=>simp [hc] at h
      | some t1=>
        simp only [hc] at h
        simp only [bM] at hs
        obtain ⟨h1,h2⟩:=ih (fU hs.2.2.2 hc) h
        refine ⟨h1,fun k hk=>?_⟩
        obtain ⟨A,B,e,_⟩:=dW cs o _ hc
        simp [T.ft,e,h2 k hk]
theorem UR (y:List Nat):∀ {t:T} {cs:List T} {o:Nat},cs[o]?=some t→∀ {q':List Nat} {o':Nat},q'++[o']=o::y→(match aA cs q' with | some l=>l[o']? | none=>none)=rf t y:=by
  induction y with
  | nil=>
    intro t cs o ho q' o' he
    cases q' with
    | nil=>
      simp only [List.nil_append,List.cons.injEq,and_true] at he
      subst he
      simp only [aA,ho]
      cases t<;>rfl
    | cons p q'=>simp at he
  | cons z y ih=>
    intro t cs o ho q' o' he
    cases q' with
    | nil=>simp at he
    | cons p q'=>
      simp only [List.cons_append,List.cons.injEq] at he
      obtain ⟨rfl,he⟩:=he
      simp only [aA,ho]
      cases t with
      | v d u=>rfl
      | own s n cap a xs=>
        simp only [rf]
        cases hz:xs[z]? with
        | none=>
          simp only
          cases q' with
          | nil=>
            simp only [List.nil_append,List.cons.injEq] at he
            obtain ⟨rfl,_⟩:=he
            simp [aA,hz]
          | cons p' q''=>
            simp only [List.cons_append,List.cons.injEq] at he
            obtain ⟨rfl,_⟩:=he
            simp [aA,hz]
        | some t1=>exact ih hz he
theorem XI {q:List Nat} {o:Nat} {y:List Nat} {t:T}:∀ {cs l:List T},aA cs q=some l→l[o]?=some t→∀ {q':List Nat} {o':Nat},under (q++[o]) (q'++[o'])=some y→(match aA cs q' with | some l=>l[o']? | none=>none)=rf t y:=by
  induction q with
  | nil=>
    intro cs l hc ho q' o' hu
    simp only [aA,Option.some.injEq] at hc
    subst hc
    have:=jA hu
    simp only [List.nil_append,List.singleton_append] at this
    exact UR y ho this
  | cons p q ih=>
    intro cs l hc ho q' o' hu
    rw [aA] at hc
    cases hp:cs[p]? with
    | none=>simp [hp] at hc
    | some x=>
      cases x with
      | v d u=>simp [hp] at hc
      | own s n cap a xs=>
        simp only [hp] at hc
        cases q' with
        | nil=>have:=jA hu; simp at this
        | cons p' q'=>
          simp only [List.cons_append,under] at hu
          split at hu
          · rename_i e
            subst e
            simp only [aA,hp]
            exact ih hc ho hu
          · simp at hu
section
variable {w w':World} {X X':Bool→Nat→Prop} {S S1 S':List (Nat × RT)} (hX:jB w w' X X')
include hX
theorem abJ {r:Nat} {q:List Nat} {o:Nat} {t t':T} (hc:kO S S' r q o t t') (hs:bM w X t) (hf:∀ k∈t.ft,X' false k∧w'.heap[k]?=w.heap[k]?) {d:D} {u:Value} (h:bz w X S d u):bz w' X' S' (vB r q o t.er d) u:=by
  cases d with
  | ref r' q' o' x=>
    simp only [vB]
    split
    · rename_i hr
      subst hr
      cases hu:under (q++[o]) (q'++[o']) with
      | none=>
        simp only
        intro t2 h2
        obtain ⟨t1,h1,hl⟩:=hc.vN (.inr hu) h2
        exact kN hl (h t1 h1)
      | some y=>
        simp only
        obtain ⟨R,cs',l,h1,h2,h3,h4,rfl⟩:=hc.ex
        have cR:cB S r' q' o'=rf t y:=by
          unfold cB
          rw [h1]
          exact XI h2 h3 hu
        cases hd:rf t y with
        | none=>rw [UQ,hd]; simp [bz,Ext]
        | some t2=>
          rw [UQ,hd]
          simp only [Option.map_some]
          cases he:t2.er with
          | sl g s n cs=>
            simp only
            obtain ⟨g1,g2⟩:=abI y hs hd
            have hr:=h t2 (by rw [cR,hd])
            have vL:bM w' X' t2:=dT hX _ g1 (fun k hk=>(hf k (g2 k hk)).2)
            exact fK (DG (X':=X') (fun _ _ h=>h) false he vL (fun k hk=>(hf k (g2 k hk)).1) hr)
          | _=>simp [bz,Ext]
    · rename_i hr
      intro t2 h2
      obtain ⟨t1,h1,hl⟩:=hc.vN (.inl hr) h2
      exact kN hl (h t1 h1)
  | ptr r' q' o'=>exact zG hX hc (ex:=true) (by simp) h
  | cr cs o'=>exact oY hX h
  | _=>simp only [vB]; exact zG hX hc (ex:=true) (by simp) h
end
section
variable {C:Ctx} {H H':List T} {w w':World} {S S1 S':List (Nat × RT)}
theorem US (hm:Mem C w S H) {g:D→D} (hS:SR g S S1) {r:Nat} {q:List Nat} {o:Nat} {t t':T} (hc:kO S1 S' r q o t t') {R0:RT} (ZH:lk S r=some R0) {b off:Nat} (Bx:q=[]→R0.box=some b∧off=0) (hq:q≠[]→cj R0.box R0.cs q=some (b,off)) (hu:RR w w' b (off+o) t'.val)
    (hs:bM w' (af C w' S' H') t'∨∃ d u,t'=.v d u∧q=[]∧bz w' (af C w' S' H') S' (bU d) u) (cF:jB w w' (af C w S H) (af C w' S' H'))
    (eU:(cM S'++aj H').Nodup) (eG:∀ k∈cM S'++aj H',k∈cM S++aj H) (hh:bN w' (af C w' S' H') H') (ea:∀ d u,bz w (af C w S H) S d u→bz w' (af C w' S' H') S' (g d) u) (Bu:∀ d u,Ext w' (af C w' S' H') d u→Ext w' (af C w' S' H') (g d) u) (cE:w'.heap.size=w.heap.size):Mem C w' S' H':=by
  have EK:b∈R0.ft:=by
    cases q with
    | nil=>obtain ⟨h1,_⟩:=Bx rfl; simp [RT.ft,h1]
    | cons p q=>simp [RT.ft,sx (hq (by simp))]
  obtain ⟨A0,B0,f1,_⟩:=me ZH
  have ady:=hm.nd
  rw [f1] at ady
  have ZI:∀ {r1:Nat} {R1:RT},lk S r1=some R1→r1≠r→∀ k∈R1.ft,k≠b:=by
    intro r1 R1 h1 db k hk e
    subst e
    obtain ⟨A1,B1,e1,e2⟩:=me ZH
    have hx:lk (pt S r ⟨none,[]⟩) r1=some R1:=by rw [dL _ _ db]; exact h1
    obtain ⟨A2,B2,e3,_⟩:=me hx
    have dj:k∈cM (pt S r ⟨none,[]⟩):=by rw [e3]; simp [hk]
    have h0:(RT.mk none []).ft=[]:=rfl
    rw [e2,h0] at dj
    have hn:=hm.nd
    rw [e1] at hn
    simp only [List.append_nil,List.mem_append,List.nodup_append] at dj hn
    rcases dj with dj | dj
    · exact hn.1.1.2.2 k dj k EK rfl
    · exact hn.1.2.2 k (.inr EK) k dj rfl
  have afW:∀ t0:T,bM w (af C w S H) t0→b∉t0.ft→bM w' (af C w' S' H') t0:=fun t0 h0 hb=>dT cF _ h0 (fun k hk=>by
    obtain ⟨_,_,_,_,_,h3⟩:=hu
    exact h3 k (fun e=>hb (e▸hk)))
  have cell:∀ {bx:Bool} {t0 t1:T},jq w (af C w S H) S bx t0→GT g t0 t1→b∉t0.ft→jq w' (af C w' S' H') S' bx t1:=by
    intro bx t0 t1 h0 hg hb
    rcases hg with ⟨d,d1,u,rfl,rfl,he⟩ | ⟨⟨s,n,cap,a,xs,rfl⟩,rfl⟩
    · simp only [jq] at h0 ⊢
      rw [he]
      rcases h0 with h0 | ⟨hb,h0⟩
      · exact .inl (Bu _ _ (gy cF _ _ h0))
      · exact .inr ⟨hb,ea _ _ h0⟩
    · exact afW _ h0 hb
  refine ⟨eU,?_,hh,fun k hk=>by rw [cE]; exact hm.lt k (eG k hk)⟩
  intro r' R' eo
  obtain ⟨R1,cs',l,h1,h2,h3,h4,rfl⟩:=hc.ex
  by_cases he:r'=r
  · subst he
    rw [cI,Option.some.injEq] at eo
    subst eo
    obtain ⟨R,g1,g2,g3,g4,g5⟩:=hS.sE h1
    rw [ZH,Option.some.injEq] at g1
    subst g1
    obtain ⟨k1,k2⟩:=hm.root r' R0 ZH
    have By:R0.ft.Nodup:=(List.nodup_append.1 (List.nodup_append.1 (List.nodup_append.1 ady).1).1).2.1
    cases q with
    | nil=>
      obtain ⟨EL,Bp⟩:=Bx rfl
      subst Bp
      simp only [aA,Option.some.injEq] at h2
      simp only [dO,Option.some.injEq] at h4
      subst h2; subst h4
      obtain ⟨dp,hto⟩:=List.getElem?_eq_some_iff.1 h3
      simp only [EL] at k1
      rw [RT.ft,EL] at By
      simp only [Option.toList,List.cons_append,List.nil_append,List.nodup_cons] at By
      refine ⟨?_,?_⟩
      · simp only [List.length_set]
        rw [g2,EL]
        simp only
        rw [qv,g4,g3]
        exact RU hu (by omega) k1 (by rw [bX]; exact Nat.le_refl _)
      · intro t0 kP
        obtain ⟨j,hj⟩:=List.mem_iff_getElem?.1 kP
        simp only at hj
        by_cases K9:o=j
        · subst K9
          rw [List.getElem?_set_self dp,Option.some.injEq] at hj
          subst hj
          rcases hs with hs | ⟨d,u,rfl,_,hs⟩
          · cases t' with
            | v d u=>exact .inl hs
            | own s n cap a xs=>exact hs
          · exact .inr ⟨by rw [g2,EL]; rfl,hs⟩
        · rw [List.getElem?_set_ne K9] at hj
          obtain ⟨R4,e1,e2⟩:=g5 j _ hj
          have:=cell (k2 _ (List.mem_of_getElem? e1)) e2 (fun hb=>By.1 (by
            obtain ⟨A',B',e3,_⟩:=dW R0.cs j _ e1
            rw [e3]; simp [hb]))
          rw [← g2] at this
          exact this
    | cons p q=>
      have ha:=hq (by simp)
      have vL:bM w' (af C w' (pt S1 r' ⟨R1.box,cs'⟩) H') t':=by
        rcases hs with hs | ⟨d,u,_,hq,_⟩
        · exact hs
        · simp at hq
      have gS:=(mK h4).1
      have hlen:=(mK h4).2
      rw [aA] at h2
      rw [dO] at h4
      cases hp:R1.cs[p]? with
      | none=>simp [hp] at h2
      | some x=>
        cases x with
        | v d u=>simp [hp] at h2
        | own s n cap a xs=>
          simp only [hp] at h2 h4
          cases hx:dO (fun l=>l.set o t') xs q with
          | none=>simp [hx] at h4
          | some kI=>
            simp only [hx,Option.some.injEq] at h4
            obtain ⟨R4,e1,e2⟩:=g5 p _ hp
            have ZJ:R0.cs[p]?=some (.own s n cap a xs):=by
              rcases e2 with ⟨d,d1,u,_,e2,_⟩ | ⟨_,e2⟩
              · simp at e2
              · rw [e1,e2]
            have ec:bM w (af C w S H) (.own s n cap a xs):=k2 _ (List.mem_of_getElem? ZJ)
            obtain ⟨A',B',e3,e4⟩:=dW R0.cs p _ ZJ
            have sG:(aj R0.cs).Nodup:=by rw [RT.ft] at By; exact (List.nodup_append.1 By).2.1
            have vP:b∈(T.own s n cap a xs).ft:=by
              rw [cj] at ha
              simp only [ZJ] at ha
              cases q with
              | nil=>simp only at ha; subst ha; simp [T.ft,jo]
              | cons p' q'=>simp only at ha; simp [T.ft,sx ha]
            have afX:bM w' (af C w' (pt S1 r' ⟨R1.box,cs'⟩) H') (.own s n cap a kI):=by
              have h5:bN w (af C w S H) [T.own s n cap a xs]:=by simp only [bN]; exact ⟨ec,trivial⟩
              have h6:(aj [T.own s n cap a xs]).Nodup:=by
                simp only [aj,List.append_nil]
                rw [e3] at sG
                exact (List.nodup_append.1 (List.nodup_append.1 sG).1).2.1
              have h7:cj none [T.own s n cap a xs] (0::q)=some (b,off):=by
                rw [cj] at ha
                simp only [ZJ] at ha
                simp only [cj,List.getElem?_cons_zero]
                exact ha
              have h8:=aby (cs':=[T.own s n cap a kI]) (l:=l) cF vL hu (q:=q) h5 h6 (by simp only [aA,List.getElem?_cons_zero]; exact h2) h7 (List.getElem?_eq_some_iff.1 h3).1 (by simp [dO,hx])
              simp only [bN] at h8
              exact h8.1
            refine ⟨?_,?_⟩
            · simp only
              rw [gS,hlen,g4,g3,g2]
              cases hb:R0.box with
              | none=>trivial
              | some b0=>
                simp only [hb] at k1 ⊢
                refine Jj hu (fun e=>?_) k1
                subst e
                rw [RT.ft,hb] at By
                simp only [Option.toList,List.cons_append,List.nil_append,List.nodup_cons] at By
                exact By.1 (by rw [e3]; simp [vP])
            · intro t0 kP
              subst h4
              obtain ⟨j,hj⟩:=List.mem_iff_getElem?.1 kP
              simp only at hj
              obtain ⟨dp,_⟩:=List.getElem?_eq_some_iff.1 hp
              by_cases uI:p=j
              · subst uI
                rw [List.getElem?_set_self dp,Option.some.injEq] at hj
                subst hj
                exact afX
              · rw [List.getElem?_set_ne uI] at hj
                obtain ⟨t01,e5,e6⟩:=g5 j _ hj
                have Bp:b∉t01.ft:=by
                  intro hb
                  have h7:=e4 (.v .undef undef)
                  have GO:(R0.cs.set p (.v .undef undef))[j]?=some t01:=by rw [List.getElem?_set_ne uI]; exact e5
                  obtain ⟨A2,B2,e7,_⟩:=dW _ j t01 GO
                  have fY:b∈aj (R0.cs.set p (.v .undef undef)):=by rw [e7]; simp [hb]
                  rw [h7] at fY
                  rw [e3] at sG
                  simp only [T.ft,List.append_nil,List.mem_append] at fY
                  rw [List.nodup_append,List.nodup_append] at sG
                  rcases fY with fY | fY
                  · exact sG.1.2.2 b fY b vP rfl
                  · exact sG.2.2 b (List.mem_append.2 (.inr vP)) b fY rfl
                have:=cell (k2 _ (List.mem_of_getElem? e5)) e6 Bp
                rw [← g2] at this
                exact this
  · rw [dL _ _ he] at eo
    obtain ⟨R,g1,g2,g3,g4,g5⟩:=hS.sE eo
    obtain ⟨k1,k2⟩:=hm.root r' R g1
    refine ⟨?_,?_⟩
    · rw [g4,g3,g2]
      cases hb:R.box with
      | none=>trivial
      | some b0=>
        simp only [hb] at k1 ⊢
        exact Jj hu (ZI g1 he b0 (by simp [RT.ft,hb])) k1
    · intro t0 kP
      obtain ⟨j,hj⟩:=List.mem_iff_getElem?.1 kP
      obtain ⟨R4,e1,e2⟩:=g5 j _ hj
      have:=cell (k2 _ (List.mem_of_getElem? e1)) e2 (fun hb=>by
        refine ZI g1 he b ?_ rfl
        obtain ⟨A',B',e3,_⟩:=dW R.cs j _ e1
        rw [RT.ft,e3]; simp [hb])
      rw [← g2] at this
      exact this
end
theorem abK {w:World} {b off fw:Nat} {us:List Value} (h:lL w b off fw us) {o:Nat} (ho:o < fw) (u:Value):RR w (w.setCell ⟨b,off+o,none⟩ u) b (off+o) u:=by
  obtain ⟨c,e,fz,h1,_,h3,_⟩:=h
  refine ⟨c,e,fz,h1,?_,fun k hk=>?_⟩
  · simp [World.setCell,Array.getElem?_modify,h1]
  · simp only [World.setCell,Array.getElem?_modify]
    rw [if_neg (by simpa using (Ne.symm hk))]
end Go.Proofs.YtockoilcnmljiaaGreat
namespace Go.Proofs.YtockoilcnmljiaaGreat
theorem FH {H H':List T} (h:H.Perm H'):(aj H).Perm (aj H'):=by
  induction h with
  | nil=>exact .refl _
  | cons x _ ih=>simp only [aj]; exact .append (.refl _) ih
  | swap x y l=>
    simp only [aj]
    rw [← List.append_assoc,← List.append_assoc]
    exact .append List.perm_append_comm (.refl _)
  | trans _ _ h1 h2=>exact h1.trans h2
theorem Bz {C:Ctx} {w:World} {S:List (Nat × RT)} {H H':List T} (h:H.Perm H'):af C w S H=af C w S H':=by
  funext b k
  simp only [af,(FH h).mem_iff]
theorem Rel.perm {C:Ctx} {H H':List T} {w:World} {st:St} {aJ:List (Array Value)} {S:List (Nat × RT)} (hp:H.Perm H') (h:Rel C H w st aJ S):Rel C H' w st aJ S:=by
  have hf:=Bz (C:=C) (w:=w) (S:=S) hp
  have hfp:=FH hp
  obtain ⟨h1,⟨m1,m2,m3,m4⟩,h3,k⟩:=h
  rw [hf] at m2 m3 h3
  refine ⟨h1,⟨(List.Perm.append (List.Perm.refl (cM S)) hfp).nodup_iff.1 m1,m2,?_,fun k hk=>m4 k ?_⟩,h3,⟨k.os,k.tape,k.output,k.size,k.block,fun x hx=>k.iJ x ?_,k.par⟩⟩
  · rw [cu] at m3 ⊢
    exact fun t ht=>m3 t (hp.mem_iff.2 ht)
  · simpa [hfp.mem_iff] using hk
  · simpa [hfp.mem_iff] using hx
def im (C:Ctx) (w w':World) (S S':List (Nat × RT)) (H H':List T) (f:D→D):Prop:=∀ d u,bz w (af C w S H) S d u→bz w' (af C w' S' H') S' (f d) u
def mh (st st':St):Prop:=st'.tm=st.tm∧st'.up=st.up∧st'.of=st.of
theorem mh.refl (st:St):mh st st:=⟨rfl,rfl,rfl⟩
theorem mh.trans {a b c:St} (h:mh a b) (h':mh b c):mh a c:=⟨h'.1.trans h.1,h'.2.1.trans h.2.1,h'.2.2.trans h.2.2⟩
section
variable {C:Ctx} {w:World} {aJ:List (Array Value)}
theorem G5:∀ {ds ds':List D} {us:List Value} {H:List T} {st st':St} {S:List (Nat × RT)},Rel C H w st aJ S→cm (bz w (af C w S H) S) ds us→rY st ds=some (ds',st')→
    ∃ ts S',Rel C (ts++H) w st' aJ S'∧bu ts=ds'∧aG ts=us∧im C w w S S' H (ts++H) id∧qB S S'∧mh st st':=by
  intro ds
  induction ds with
  | nil=>
    intro ds' us H st st' S h hu ht
    cases hu
    simp only [rY,Option.some.injEq,Prod.mk.injEq] at ht
    obtain ⟨rfl,rfl⟩:=ht
    exact ⟨[],S,h,rfl,rfl,fun _ _ h=>h,qB.refl _,mh.refl _⟩
  | cons d ds ih=>
    intro ds' us H st st' S h hu ht
    cases hu with
    | cons tN EM=>
    simp only [rY] at ht
    split at ht
    case h_2=>simp at ht
    rename_i d1 aQ h1
    split at ht
    case h_2=>simp at ht
    rename_i gv ct h2
    simp only [Option.some.injEq,Prod.mk.injEq] at ht
    obtain ⟨rfl,rfl⟩:=ht
    obtain ⟨t,S1,a1,rfl,rfl,a4,a5,a6,_⟩:=vl h tN h1
    obtain ⟨ts,S2,b1,rfl,rfl,b4,b5,b6⟩:=ih a1 (EM.mono (fun _ _ hh=>a4 _ _ hh)) h2
    have hp:(ts++t::H).Perm (t::ts++H):=List.perm_middle
    refine ⟨t::ts,S2,b1.perm hp,by simp [bu],by simp [aG],fun d u hd=>?_,a5.trans b5,mh.trans a6 b6⟩
    have:=b4 _ _ (a4 d u hd)
    rwa [Bz hp] at this
end
end Go.Proofs.YtockoilcnmljiaaGreat
namespace Go.Proofs.YtockoilcnmljiaaGreat
structure Grown (w w':World):Prop where
  sz:w.heap.size≤w'.heap.size
  cg:∀ k,k < w.heap.size→w'.heap[k]?=w.heap[k]?
  os:w'.os=w.os
  tape:w'.tape=w.tape
  out:w'.output=w.output
theorem Grown.refl (w:World):Grown w w:=⟨Nat.le_refl _,fun _ _=>rfl,rfl,rfl,rfl⟩
theorem jC (w:World) (o:Obj):(w.alloc o).heap.size=w.heap.size+1:=by
  show (w.heap.push o).size=_
  simp
theorem Lg (w:World) (o:Obj):(w.alloc o).heap[w.heap.size]?=some o:=by
  show (w.heap.push o)[w.heap.size]?=_
  simp
theorem Grown.alloc (w:World) (o:Obj):Grown w (w.alloc o):=
  ⟨by rw [jC]; omega,fun k hk=>by
    show (w.heap.push o)[k]?=_
    simp [Array.getElem?_push,Nat.ne_of_lt hk],rfl,rfl,rfl⟩
theorem Grown.drew (w:World):Grown w w.drew:=⟨Nat.le_refl _,fun _ _=>rfl,rfl,rfl,rfl⟩
theorem Grown.trans {a b c:World} (h:Grown a b) (h':Grown b c):Grown a c:=
  ⟨Nat.le_trans h.sz h'.sz,fun k hk=>(h'.cg k (Nat.lt_of_lt_of_le hk h.sz)).trans (h.cg k hk),h'.os.trans h.os,h'.tape.trans h.tape,h'.out.trans h.out⟩
theorem kQ (w:World) (c:Array Value) (e:TypeId) {us:List Value} {fw:Nat} (h1:fw≤c.size) (h2:∀ (j:Nat) (u:Value),us[j]?=some u→c[j]?=some u):lL (w.alloc (.cells c e)) w.heap.size 0 fw us:=
  ⟨c,e,(0,0),Lg w _,fun o _=>by simp,by omega,fun j u hj=>by rw [Nat.zero_add]; exact h2 j u hj⟩
theorem Rel.put {C:Ctx} {H:List T} {w:World} {st:St} {vs:Array Value} {aJ:List (Array Value)} {S:List (Nat × RT)} (h:Rel C H w st (vs::aJ) S) {t:Nat} (ht:t < vs.size) {d:D} {v:Value} (hv:cz w (af C w S H) S d v):
    Rel C H w (st.put (some t) d) (vs.setIfInBounds t v::aJ) S:=by
  obtain ⟨h1,h2,h3,h4⟩:=h
  refine ⟨h1,h2,?_,h4⟩
  cases h3 with
  | cons a b=>exact .cons (mF.put a ht hv) b
section
variable {C:Ctx} {H Hs:List T} {w w':World} {st st':St} {vs:Array Value} {aJ:List (Array Value)} {S:List (Nat × RT)}
theorem sH (h:Rel C (Hs++H) w st (vs::aJ) S) (hg:Grown w w') {t:Nat} {R:RT} (eV:∀ k∈R.ft,k∈aj Hs∨(w.heap.size≤k∧k < w'.heap.size)) (eU:R.ft.Nodup)
    (hR:∀ S':List (Nat × RT),jB w w' (af C w S (Hs++H)) (af C w' S' H)→(∀ d u,bz w (af C w S (Hs++H)) S d u→bz w' (af C w' S' H) S' (cH (st.of+t) d) u)→Ov w' (af C w' S' H) S' R)
    (ht:t < vs.size) (hP:∀ p∈C.P0,p.1≠st.of+t) {d:Nat→D} {v:Value} (hd:∀ S' X,lk S' (st.of+t)=some R→cz w' X S' (d (st.of+t)) v) (hr:st.root (some t) (bu R.cs) d=some st'):
    ∃ S',Rel C H w' st' (vs.setIfInBounds t v::aJ) S':=by
  have XJ:∀ k∈R.ft,k∈aj Hs∨w.heap.size≤k:=fun k hk=>(eV k hk).imp id (·.1)
  have dp:∀ k∈R.ft,k < w'.heap.size:=fun k hk=>by
    rcases eV k hk with h1 | h1
    · have:=h.mem.lt k (List.mem_append.2 (.inr (by rw [bt]; exact List.mem_append.2 (.inl h1))))
      have:=hg.sz
      omega
    · exact h1.2
  have cF:=oZ (r:=st.of+t) h XJ hg.sz hg.cg
  have ea:=G4 (r:=st.of+t) h XJ hg.sz hg.cg
  obtain ⟨h1,_⟩:=zK h (hR _ cF ea) ⟨eU,XJ⟩ dp hg.sz hg.cg hg.os hg.tape hg.out hP
  simp only [St.root,Option.some.injEq] at hr
  subst hr
  exact ⟨_,h1.put ht (hd _ _ (cI _ _ _))⟩
theorem DH (h:Rel C (Hs++H) w st (vs::aJ) S) (hg:Grown w w') {t s n cap b:Nat} {ts:List T} (hb:w.heap.size≤b∧b < w'.heap.size) (hs:bN w (af C w S (Hs++H)) ts) (eG:∀ k∈aj ts,k∈aj Hs) (eU:(aj ts).Nodup)
    (hn:n≤cap) (hl:ts.length=n*s) (eY:lL w' b 0 (cap*s) (aG ts)) (ht:t < vs.size) (hP:∀ p∈C.P0,p.1≠st.of+t) (hr:st.root (some t) [.sl none s n (bu ts)] (fun d=>.ref d [] 0 none)=some st'):
    ∃ S',Rel C H w' st' (vs.setIfInBounds t (.slice (some ⟨b,0,none⟩) n cap)::aJ) S':=by
  have xE:∀ k∈aj ts,k < w.heap.size:=fun k hk=>h.mem.lt k (List.mem_append.2 (.inr (by rw [bt]; exact List.mem_append.2 (.inl (eG k hk)))))
  refine sH (R:=⟨none,[.own s n cap (some (b,0)) ts]⟩) h hg ?_ ?_ ?_ ht hP ?_ (by simpa [bu,T.er] using hr)
  · intro k hk
    simp only [RT.ft,aj,T.ft,jo,Option.toList,List.nil_append,List.append_nil,List.cons_append,List.mem_cons] at hk
    rcases hk with rfl | hk
    · exact .inr hb
    · exact .inl (eG k hk)
  · simp only [RT.ft,aj,T.ft,jo,Option.toList,List.nil_append,List.append_nil,List.cons_append,List.nodup_cons]
    exact ⟨fun hk=>by have:=xE b hk; omega,eU⟩
  · intro S' cF ea
    refine ⟨trivial,fun x hx=>?_⟩
    simp only [List.mem_singleton] at hx
    subst hx
    simp only [jq,bM]
    exact ⟨hn,hl,eY,gA cF _ hs (fun k hk=>hg.cg k (xE k hk))⟩
  · intro S' X qA
    simp only [cz,gL,bz]
    intro x hx
    simp only [cB,qA,aA,List.getElem?_cons_zero,Option.some.injEq] at hx
    subst hx
    simp [eT,sn,T.er,T.val,xz]
theorem Jm (h:Rel C (Hs++H) w st (vs::aJ) S) (hg:Grown w w') {t b:Nat} {ts:List T} (hb:w.heap.size≤b∧b < w'.heap.size)
    (hs:∀ x∈ts,bM w (af C w S (Hs++H)) x∨∃ d u,x=.v (cH (st.of+t) d) u∧bz w (af C w S (Hs++H)) S d u) (eG:∀ k∈aj ts,k∈aj Hs) (eU:(aj ts).Nodup)
    (eY:lL w' b 0 ts.length (aG ts)) (ht:t < vs.size) (hP:∀ p∈C.P0,p.1≠st.of+t) (hr:st.root (some t) (bu ts) (fun d=>.ptr d [] 0)=some st'):
    ∃ S',Rel C H w' st' (vs.setIfInBounds t (.pointer (some ⟨b,0,none⟩))::aJ) S':=by
  have xE:∀ k∈aj ts,k < w.heap.size:=fun k hk=>h.mem.lt k (List.mem_append.2 (.inr (by rw [bt]; exact List.mem_append.2 (.inl (eG k hk)))))
  refine sH (R:=⟨some b,ts⟩) h hg ?_ ?_ ?_ ht hP ?_ hr
  · intro k hk
    simp only [RT.ft,Option.toList,List.cons_append,List.nil_append,List.mem_cons] at hk
    rcases hk with rfl | hk
    · exact .inr hb
    · exact .inl (eG k hk)
  · simp only [RT.ft,Option.toList,List.cons_append,List.nil_append,List.nodup_cons]
    exact ⟨fun hk=>by have:=xE b hk; omega,eU⟩
  · intro S' cF ea
    refine ⟨eY,fun x hx=>?_⟩
    rcases hs x hx with h1 | ⟨d,u,rfl,h1⟩
    · have h2:bM w' (af C w' S' H) x:=dT cF _ h1 (fun k hk=>hg.cg k (xE k (by
        obtain ⟨i,hi⟩:=List.mem_iff_getElem?.1 hx
        obtain ⟨A,B,e,_⟩:=dW ts i x hi
        rw [e]; simp [hk])))
      cases x with
      | v d u=>exact .inl h2
      | own s n cap a cs=>exact h2
    · have h2:=ea d u h1
      have h3:bU (cH (st.of+t) d)=cH (st.of+t) d:=by
        cases hd:cH (st.of+t) d with
        | sl g s n cs=>
          rw [hd] at h2
          cases g with
          | none=>simp [bz,Ext] at h2
          | some g=>rfl
        | _=>rfl
      simp only [jq]
      rw [h3]
      exact .inr ⟨rfl,h2⟩
  · intro S' X qA
    simp only [cz,gL,bz]
    intro R hR
    rw [qA,Option.some.injEq] at hR
    subst hR
    exact ⟨fun _=>rfl,fun b' off ha=>by simp only [cj,Option.map_some,Option.some.injEq,Prod.mk.injEq] at ha; obtain ⟨rfl,rfl⟩:=ha; rfl⟩
end
end Go.Proofs.YtockoilcnmljiaaGreat
namespace Go.Proofs.YtockoilcnmljiaaGreat
theorem vQ {d:D} {u:Value} (h:RW d u):bU d=d:=by
  have h1:=h default (fun _ _=>False)
  cases d with
  | sl g s n cs=>cases g with
    | none=>simp [Ext] at h1
    | some g=>rfl
  | _=>rfl
def leaves (ds:List D) (us:List Value):List T:=List.zipWith T.v ds us
theorem Lh {R:D→Value→Prop} {ds:List D} {us:List Value} (h:cm R ds us) (hl:∀ d u,R d u→bU d=d):bu (leaves ds us)=ds∧aG (leaves ds us)=us∧aj (leaves ds us)=[]∧(leaves ds us).length=ds.length∧∀ x∈leaves ds us,∃ d u,x=.v d u∧R d u:=by
  induction h with
  | nil=>simp [leaves,bu,aG,aj]
  | cons h1 _ ih=>
    obtain ⟨e1,e2,e3,e4,e5⟩:=ih
    simp only [leaves,List.zipWith_cons_cons,bu,aG,aj,T.er,T.val,T.ft,List.length_cons] at*
    refine ⟨by rw [e1,hl _ _ h1],by rw [e2],by rw [e3]; rfl,by rw [e4],fun x hx=>?_⟩
    simp only [List.mem_cons] at hx
    rcases hx with rfl | hx
    · exact ⟨_,_,rfl,h1⟩
    · exact e5 x hx
theorem OI {ds:List D} {us:List Value} (h:cm RW ds us):∃ ts,bu ts=ds.map vA∧aG ts=us∧aj ts=[]∧∀ w X,bN w X ts:=by
  induction h with
  | nil=>exact ⟨[],rfl,rfl,rfl,fun _ _=>by simp [bN]⟩
  | @cons d u _ _ h1 _ ih=>
    obtain ⟨ts,e1,e2,e3,e4⟩:=ih
    have ko:=vQ h1
    by_cases hn:∃ s,d=.nil s
    · obtain ⟨s,rfl⟩:=hn
      have hu:u=.slice none 0 0:=h1 default (fun _ _=>False)
      subst hu
      exact ⟨.own s 0 0 none []::ts,by simp [bu,e1,T.er,vA],by simp [aG,e2,T.val,xz],by simp [aj,e3,T.ft,jo],fun w X=>by simp [bN,bM,e4]⟩
    · have hr:vA d=d:=by cases d<;>first | rfl | exact absurd ⟨_,rfl⟩ hn
      exact ⟨.v d u::ts,by simp [bu,e1,T.er,hr,ko],by simp [aG,e2,T.val],by simp [aj,e3,T.ft],fun w X=>by simp only [bN,bM]; exact ⟨by rw [ko]; exact h1 w X,e4 w X⟩⟩
theorem xF {ds:List D} {us:List Value} (h:cm RW ds us) (n:Nat):∃ ts,bu ts=fC n ds∧aG ts=(List.replicate n us).flatten∧aj ts=[]∧∀ w X,bN w X ts:=by
  obtain ⟨t0,e1,e2,e3,e4⟩:=OI h
  induction n with
  | zero=>exact ⟨[],by simp [bu,fC],by simp [aG],rfl,fun _ _=>by simp [bN]⟩
  | succ n ih=>
    obtain ⟨ts,f1,f2,f3,f4⟩:=ih
    refine ⟨t0++ts,?_,?_,?_,fun w X=>(dU _ _).2 ⟨e4 w X,f4 w X⟩⟩
    · rw [vI,e1,f1]; simp [fC,List.replicate_succ]
    · rw [Bm,e2,f2]; simp [List.replicate_succ]
    · rw [bt,e3,f3]; rfl
theorem BA (z:Array Value) (n:Nat):((List.range (n*z.size)).map fun i=>z[i % z.size]!)=(List.replicate n z.toList).flatten:=by
  induction n with
  | zero=>simp
  | succ n ih=>
    rw [Nat.succ_mul,List.range_add,List.map_append,ih,List.replicate_succ',List.flatten_append]
    congr 1
    simp only [List.map_map,List.flatten_cons,List.flatten_nil,List.append_nil]
    apply List.ext_getElem?
    intro j
    simp only [List.getElem?_map,Array.getElem?_toList]
    by_cases hj:j < z.size
    · simp only [List.getElem?_range hj,Option.map_some,Function.comp_apply,Nat.mul_add_mod_self_right,Nat.mod_eq_of_lt hj]
      rw [getElem!_pos z j hj,Array.getElem?_eq_getElem hj]
    · rw [Array.getElem?_eq_none (by omega),List.getElem?_eq_none (by simp; omega)]
      rfl
theorem OJ (z:Array Value) (n:Nat) (j:Nat):(madeCells z (n*z.size))[j]?=(List.replicate n z.toList).flatten[j]?:=by
  rw [← BA,← Array.getElem?_toList]
  simp [madeCells]
theorem EN {α:Type} (l:List α) {m n:Nat} (h:m≤n) {j:Nat} {u:α} (hj:(List.replicate m l).flatten[j]?=some u):(List.replicate n l).flatten[j]?=some u:=by
  have:List.replicate n l=List.replicate m l++List.replicate (n - m) l:=by rw [List.replicate_append_replicate]; congr 1; omega
  rw [this,List.flatten_append,List.getElem?_append_left (List.getElem?_eq_some_iff.1 hj).1]
  exact hj
section
variable {P:Program} {c:cD} (ax:ey c P) {C:Ctx} {Hx:List T} {w:World} {st st':St} {vs:Array Value} {aJ:List (Array Value)} {S:List (Nat × RT)} (h:Rel C Hx w st (vs::aJ) S)
include ax h
theorem XK {e:TypeId} {i:TI} (he:c.ty e=some i) {t:Nat} (ht:t < vs.size) (hP:∀ p∈C.P0,p.1≠st.of+t) (hr:st.root (some t) i.zero (fun d=>.ptr d [] 0)=some st'):
    ∃ v w',(Instr.alloc e true (.tuple #[])).run P w=.ok v w'∧dP w w'∧∃ S',Rel C Hx w' st' (vs.setIfInBounds t v::aJ) S':=by
  obtain ⟨inf,h1,h2,h3,z,h4,h5⟩:=(ax.ty _ _ he).info
  obtain ⟨e1,e2,e3,e4,e5⟩:=Lh h5 (fun _ _=>vQ)
  have ek:(Instr.alloc e true (.tuple #[])).run P w=.ok (.pointer (some ⟨w.heap.size,0,none⟩)) (w.alloc (.cells z.cells e)):=by
    simp [Instr.alloc,Ow h1 h4,newVar,newRow]
  refine ⟨_,_,ek,(Grown.alloc w _).cg,?_⟩
  refine Jm (Hs:=[]) h (Grown.alloc w _) (ts:=leaves i.zero z.cells.toList) ⟨Nat.le_refl _,by rw [jC]; omega⟩ (fun x hx=>.inl ?_) (by rw [e3]; simp) (by rw [e3]; simp) ?_ ht hP (by rw [e1]; exact hr)
  · obtain ⟨d,u,rfl,h6⟩:=e5 x hx
    simp only [bM]
    rw [vQ h6]
    exact h6 _ _
  · refine kQ w _ _ (by rw [e4,h5.len]; simp) (fun j u hj=>?_)
    rw [e2] at hj
    simpa using hj
theorem OK {t e:TypeId} {ei ti:TI} (kP:c.ty t=some ti) (ZK:ti.ty=.slice e) (he:c.ty e=some ei) {kl kc:IntKind} {l cp:Int} (h0:0≤l) (BB:l≤cp) (hb:0 < ei.bytes∧cp*ei.bytes≤140737488355328)
    {d:Nat} (ht:d < vs.size) (hP:∀ p∈C.P0,p.1≠st.of+d) (hr:st.root (some d) [.sl none ei.size l.toNat (fC l.toNat ei.zero)] (fun d=>.ref d [] 0 none)=some st'):
    ∃ v w',(Instr.makeSlice t (.int kl l) (.int kc cp)).run P w=.ok v w'∧dP w w'∧∃ S',Rel C Hx w' st' (vs.setIfInBounds d v::aJ) S':=by
  obtain ⟨inf,h1,h2,h3,z,h4,h5⟩:=(ax.ty _ _ he).info
  have EO:=(ax.ty _ _ he).len
  obtain ⟨dd,g1,g2⟩:=(ax.ty _ _ kP).desc
  rw [ZK] at g2
  simp only [kM] at g2
  subst g2
  have hcp:cp≤140737488355328:=by
    have:cp*1≤cp*ei.bytes:=Int.mul_le_mul_of_nonneg_left (by omega) (by omega)
    omega
  have ek:=run_make (P:=P) w t e inf z g1 h1 h4 kl kc l cp h0 BB (by rw [h3,Int.mul_comm]; omega) (by omega)
  refine ⟨_,_,ek,(Grown.alloc w _).cg,?_⟩
  obtain ⟨ts,e1,e2,e3,e4⟩:=xF h5 l.toNat
  have lM:z.cells.size=ei.size:=by rw [← EO,h5.len]; simp
  have hlen:ts.length=l.toNat*ei.size:=by
    have:=congrArg List.length e2
    rw [bX] at this
    simp only [List.length_flatten,List.map_replicate,List.sum_replicate_nat,Array.length_toList,lM] at this
    exact this
  rw [← e1] at hr
  refine DH (Hs:=[]) h (Grown.alloc w _) (ts:=ts) ⟨Nat.le_refl _,by rw [jC]; omega⟩ (e4 _ _) (by rw [e3]; simp) (by rw [e3]; simp) (by omega) hlen ?_ ht hP hr
  refine kQ w _ _ (by rw [size_madeCells,h2]; exact Nat.le_refl _) (fun j u hj=>?_)
  rw [e2] at hj
  rw [h2,← lM,OJ]
  exact EN _ (by omega) hj
end
end Go.Proofs.YtockoilcnmljiaaGreat
namespace Go.Proofs.YtockoilcnmljiaaGreat
def ot {α:Type}:List α→Nat→List α→List α
  | cs,_,[]=>cs
  | cs,o,d::ds=>ot (cs.set o d) (o+1) ds
theorem EP:∀ (ds cs:List D) (o:Nat),zB cs o ds=ot cs o ds
  | [],_,_=>rfl
  | d::ds,cs,o=>by simp only [zB,ot]; exact EP ds _ _
theorem FI {α β:Type} (f:α→β):∀ (ds cs:List α) (o:Nat),(ot cs o ds).map f=ot (cs.map f) o (ds.map f)
  | [],_,_=>rfl
  | d::ds,cs,o=>by simp only [ot,List.map_cons,← List.map_set]; exact FI f ds _ _
theorem OL {α:Type}:∀ (ds cs:List α) (o:Nat),(ot cs o ds).length=cs.length
  | [],_,_=>rfl
  | d::ds,cs,o=>by simp only [ot]; rw [OL ds]; simp
theorem OM (off:Nat):∀ (l:List Value) (k:Nat) (arr:Array Value),((l.zipIdx k).foldl (fun cs (x:Value × Nat)=>cs.setIfInBounds (off+x.2) x.1) arr).toList=ot arr.toList (off+k) l
  | [],_,_=>rfl
  | v::l,k,arr=>by
    simp only [List.zipIdx_cons,List.foldl_cons,ot]
    rw [OM off l (k+1)]
    simp [Nat.add_assoc]
theorem Tm (off:Nat) (v arr:Array Value):(v.zipIdx.foldl (fun cs (x:Value × Nat)=>cs.setIfInBounds (off+x.2) x.1) arr).toList=ot arr.toList off v.toList:=by
  rw [← Array.foldl_toList,Array.toList_zipIdx]
  exact OM off v.toList 0 arr
def pX {α:Type} (place:Nat→Option (Nat × Nat)):List α→List (Nat × List α)→Option (List α)
  | cs,[]=>some cs
  | cs,(i,vs)::rest=>match place i with
    | some (o,k)=>if vs.length=k∧o+vs.length≤cs.length then pX place (ot cs o vs) rest else none
    | none=>none
theorem Li {ok:D→Bool} {place:Nat→Option (Nat × Nat)}:∀ {parts:List (Nat × List D)} {cs ds:List D},nM ok place cs parts=some ds→∀ p∈parts,∀ d∈p.2,ok d=true:=by
  intro parts
  induction parts with
  | nil=>intro cs ds _ p hp; simp at hp
  | cons p parts ih=>
    intro cs ds h q hq
    obtain ⟨i,vs⟩:=p
    simp only [nM] at h
    split at h
    case h_2=>simp at h
    split at h
    case isFalse=>simp at h
    rename_i hc
    rcases List.mem_cons.1 hq with rfl | hq
    · exact fun d hd=>List.all_eq_true.1 hc.2.2 d hd
    · exact ih h q hq
theorem R5 {α:Type} (er:α→D) {ok:D→Bool} {place:Nat→Option (Nat × Nat)}:∀ {parts:List (Nat × List α)} {cs:List α} {ds:List D},nM ok place (cs.map er) (parts.map fun p=>(p.1,p.2.map er))=some ds→∃ cs',pX place cs parts=some cs'∧cs'.map er=ds:=by
  intro parts
  induction parts with
  | nil=>intro cs ds h; simp only [List.map_nil,nM,Option.some.injEq] at h; exact ⟨cs,rfl,h⟩
  | cons p parts ih=>
    intro cs ds h
    obtain ⟨i,vs⟩:=p
    simp only [List.map_cons,nM] at h
    simp only [pX]
    split at h
    case h_2=>simp at h
    rename_i o k hp
    try rw [hp]
    split at h
    case isFalse=>simp at h
    rename_i hc
    simp only [List.length_map] at hc
    rw [EP,← FI] at h
    simp only [hc.1,hc.2.1]
    rw [hc.1] at hc
    simpa [hc.2.1] using ih h
theorem G6 {α:Type} (val:α→Value) {place:Nat→Option (Nat × Nat)}:∀ {parts:List (Nat × List α)} {rh:List (Nat × Value)} {cs cs':List α} {arr:Array Value},cm (fun p q=>q.1=p.1∧q.2.cells.toList=p.2.map val) parts rh→pX place cs parts=some cs'→arr.toList=cs.map val→
    ∃ adC,Instr.fill place arr rh=some adC∧adC.toList=cs'.map val:=by
  intro parts
  induction parts with
  | nil=>
    intro rh cs cs' arr h1 h2 h3
    cases h1
    simp only [pX,Option.some.injEq] at h2
    subst h2
    exact ⟨arr,rfl,h3⟩
  | cons p parts ih=>
    intro rh cs cs' arr h1 h2 h3
    obtain ⟨i,vs⟩:=p
    cases h1 with
    | cons hp afY=>
    rename_i q qs
    obtain ⟨j,v⟩:=q
    obtain ⟨rfl,hv⟩:=hp
    simp only [pX] at h2
    split at h2
    case h_2=>simp at h2
    rename_i o k hpl
    split at h2
    case isFalse=>simp at h2
    rename_i hc
    have UT:v.cells.size=vs.length:=by have:=congrArg List.length hv; simpa using this
    have has:arr.size=cs.length:=by have:=congrArg List.length h3; simpa using this
    simp only [Instr.fill,hpl]
    rw [if_neg (by simp only [Bool.or_eq_true,decide_eq_true_eq,UT,has,not_or]; exact ⟨by simpa using hc.1,by omega⟩)]
    refine ih afY h2 ?_
    rw [Tm,h3,hv,← FI]
theorem XL {α:Type}:∀ {ds cs:List α} {o:Nat} {x:α},x∈ot cs o ds→x∈cs∨x∈ds:=by
  intro ds
  induction ds with
  | nil=>intro cs o x h; exact .inl h
  | cons d ds ih=>
    intro cs o x h
    rcases ih h with h | h
    · rcases List.mem_or_eq_of_mem_set h with h | h
      · exact .inl h
      · exact .inr (by simp [h])
    · exact .inr (by simp [h])
theorem Lj {α:Type} {place:Nat→Option (Nat × Nat)}:∀ {parts:List (Nat × List α)} {cs cs':List α},pX place cs parts=some cs'→(∀ x∈cs',x∈cs∨∃ p∈parts,x∈p.2)∧cs'.length=cs.length:=by
  intro parts
  induction parts with
  | nil=>intro cs cs' h; simp only [pX,Option.some.injEq] at h; subst h; exact ⟨fun x hx=>.inl hx,rfl⟩
  | cons p parts ih=>
    intro cs cs' h
    obtain ⟨i,vs⟩:=p
    simp only [pX] at h
    split at h
    case h_2=>simp at h
    split at h
    case isFalse=>simp at h
    obtain ⟨h1,h2⟩:=ih h
    refine ⟨fun x hx=>?_,h2.trans (OL _ _ _)⟩
    rcases h1 x hx with h3 | ⟨p,h3,h4⟩
    · rcases XL h3 with h4 | h4
      · exact .inl h4
      · exact .inr ⟨_,List.mem_cons_self,h4⟩
    · exact .inr ⟨p,List.mem_cons_of_mem _ h3,h4⟩
theorem UU:∀ {ds cs:List T} {o:Nat} {B:List Nat},(aj cs++aj ds++B).Nodup→(aj (ot cs o ds)++B).Nodup∧∀ k∈aj (ot cs o ds),k∈aj cs∨k∈aj ds:=by
  intro ds
  induction ds with
  | nil=>intro cs o B h; simpa [ot,aj] using h
  | cons d ds ih=>
    intro cs o B h
    simp only [ot]
    have key:(aj (cs.set o d)++aj ds++B).Nodup∧∀ k∈aj (cs.set o d),k∈aj cs∨k∈d.ft:=by
      by_cases ho:o < cs.length
      · obtain ⟨A,Z,e1,e2⟩:=dW cs o _ (List.getElem?_eq_getElem ho)
        rw [e2 d]
        refine ⟨?_,fun k hk=>?_⟩
        · rw [e1,aj] at h
          have p1:(A++cs[o].ft++Z++(d.ft++aj ds)++B).Perm (cs[o].ft++(A++d.ft++Z++aj ds++B)):=by
            refine List.perm_iff_count.2 fun a=>?_
            simp only [List.count_append]
            omega
          exact (List.nodup_append.1 (p1.nodup_iff.1 h)).2.1
        · rw [e1]
          simp only [List.mem_append] at hk ⊢
          rcases hk with (hk | hk) | hk
          · exact .inl (.inl (.inl hk))
          · exact .inr hk
          · exact .inl (.inr hk)
      · rw [List.set_eq_of_length_le (by omega)]
        refine ⟨?_,fun k hk=>.inl hk⟩
        rw [aj] at h
        have p1:(aj cs++(d.ft++aj ds)++B).Perm (d.ft++(aj cs++aj ds++B)):=by
          refine List.perm_iff_count.2 fun a=>?_
          simp only [List.count_append]
          omega
        exact (List.nodup_append.1 (p1.nodup_iff.1 h)).2.1
    obtain ⟨h1,h2⟩:=ih key.1
    refine ⟨h1,fun k hk=>?_⟩
    rcases h2 k hk with h3 | h3
    · rcases key.2 k h3 with h4 | h4
      · exact .inl h4
      · exact .inr (by simp [aj,h4])
    · exact .inr (by simp [aj,h3])
theorem Tn {place:Nat→Option (Nat × Nat)}:∀ {parts:List (Nat × List T)} {cs cs':List T},pX place cs parts=some cs'→(aj cs++aj (parts.flatMap (·.2))).Nodup→(aj cs').Nodup∧∀ k∈aj cs',k∈aj cs∨k∈aj (parts.flatMap (·.2)):=by
  intro parts
  induction parts with
  | nil=>intro cs cs' h hn; simp only [pX,Option.some.injEq] at h; subst h; simpa [aj] using hn
  | cons p parts ih=>
    intro cs cs' h hn
    obtain ⟨i,vs⟩:=p
    simp only [pX] at h
    split at h
    case h_2=>simp at h
    rename_i o k hp
    split at h
    case isFalse=>simp at h
    simp only [List.flatMap_cons,bt,← List.append_assoc] at hn
    obtain ⟨g1,g2⟩:=UU (o:=o) hn
    obtain ⟨h1,h2⟩:=ih h g1
    refine ⟨h1,fun k hk=>?_⟩
    simp only [List.flatMap_cons,bt,List.mem_append]
    rcases h2 k hk with h3 | h3
    · rcases g2 k h3 with h4 | h4
      · exact .inl h4
      · exact .inr (.inl h4)
    · exact .inr (.inr h3)
end Go.Proofs.YtockoilcnmljiaaGreat
namespace Go.Proofs.YtockoilcnmljiaaGreat
section
variable {C:Ctx} {Hx:List T} {w:World} {S:List (Nat × RT)} {st:St}
theorem Jo {X:Bool→Nat→Prop} {d:D} {u:Value} (h:Ext w X d u) (hc:dg d=true):u.oneCell'=true∧u.cells=#[u]:=by
  cases d with
  | int k n=>have:u=.int k n:=h; subst this; exact ⟨rfl,rfl⟩
  | bool b=>have:u=.bool b:=h; subst this; exact ⟨rfl,rfl⟩
  | str s=>have:u=.string s:=h; subst this; exact ⟨rfl,rfl⟩
  | nil s=>have:u=.slice none 0 0:=h; subst this; exact ⟨rfl,rfl⟩
  | sl g s n cs=>
    cases g with
    | none=>simp [Ext] at h
    | some g=>
      simp only [Ext] at h
      obtain ⟨base,cap,us,rfl,_⟩:=h
      exact ⟨rfl,rfl⟩
  | ref r q o x=>simp [Ext] at h
  | ptr r q o=>simp [Ext] at h
  | cr cs o=>simp [Ext] at h
  | _=>simp [dg] at hc
theorem mO {X:Bool→Nat→Prop} {t:T} (h:bM w X t) (hc:dg t.er=true):t.val.oneCell'=true∧t.val.cells=#[t.val]:=by
  cases t with
  | own s n cap a cs=>exact ⟨rfl,rfl⟩
  | v d u=>exact Jo h hc
theorem ON (gi:ik st.rt S) (hm:Mem C w S Hx) {d:D} {u:Value} (hd:bz w (af C w S Hx) S d u) (cQ:fO st d=true):u.oneCell'=true∧u.cells=#[u]:=by
  cases d with
  | ref r q o x=>
    simp only [fO] at cQ
    split at cQ
    · rename_i g s n cs hc
      have:=(N3 gi hm (mL hd) (g:=g) (s:=s) (n:=(trim x s n cs).1) (cs:=(trim x s n cs).2) (by simp [St.qu,hc])).ok
      obtain ⟨base,cap,rfl,_⟩:=this
      exact ⟨rfl,rfl⟩
    · simp at cQ
  | ptr r q o=>
    simp only [fO] at cQ
    obtain ⟨R,b,off,_,_,rfl⟩:=vk gi hm cQ (mL hd)
    exact ⟨rfl,rfl⟩
  | cr cs o=>
    obtain ⟨b,off,c,e,fz,us,rfl,_⟩:=hd
    exact ⟨rfl,rfl⟩
  | _=>exact Jo hd cQ
theorem FJ (gi:ik st.rt S) (hm:Mem C w S Hx) {d:D} {u:Value} (hd:cz w (af C w S Hx) S d u) (cQ:∀ x∈cellsOf d,fO st x=true):cm (bz w (af C w S Hx) S) (cellsOf d) u.cells.toList:=by
  by_cases ha:∃ cs,d=.agg cs
  · obtain ⟨cs,rfl⟩:=ha
    obtain ⟨us,rfl,h⟩:=hd
    exact h
  · have hc:cellsOf d=[d]:=by cases d<;>first | rfl | exact absurd ⟨_,rfl⟩ ha
    rw [hc] at cQ ⊢
    have ho:=cQ d (by simp)
    have tK:bz w (af C w S Hx) S d u:=by
      cases d<;>first | exact hd | (simp [fO,dg] at ho; done) | exact absurd ⟨_,rfl⟩ ha
    rw [(ON gi hm tK ho).2]
    exact .cons tK .nil
end
theorem zL {α β:Type} {R:α→β→Prop} {as9:List α} {bs:List β} (h:cm R as9 bs):∃ l:List (α × β),l.map Prod.fst=as9∧l.map Prod.snd=bs∧∀ x∈l,R x.1 x.2:=by
  induction h with
  | nil=>exact ⟨[],rfl,rfl,by simp⟩
  | @cons a b _ _ h1 _ ih=>
    obtain ⟨l,e1,e2,e3⟩:=ih
    exact ⟨(a,b)::l,by simp [e1],by simp [e2],fun x hx=>by
      rcases List.mem_cons.1 hx with rfl | hx
      · exact h1
      · exact e3 x hx⟩
theorem G7 {α β:Type} {R:α→β→Prop}:∀ (l:List (α × β)),(∀ x∈l,R x.1 x.2)→cm R (l.map Prod.fst) (l.map Prod.snd)
  | [],_=>.nil
  | x::l,h=>.cons (h x (by simp)) (G7 l (fun y hy=>h y (by simp [hy])))
theorem UW {P:Program}:∀ {fs:List Field} {szs:List Nat},szs.length=fs.length→(∀ (j:Nat) (f:Field),fs[j]?=some f→∃ i,P.info? f.type=some i∧i.size≠0∧szs[j]?=some i.size)→
    fs.mapM (fun f=>(P.info? f.type).map fun i=>(f.offset,i.size))=some ((fs.map (·.offset)).zip szs):=by
  intro fs
  induction fs with
  | nil=>intro szs h _; rfl
  | cons f fs ih=>
    intro szs hl h
    cases szs with
    | nil=>simp at hl
    | cons k szs=>
      obtain ⟨i,h1,_,h2⟩:=h 0 f rfl
      simp only [List.getElem?_cons_zero,Option.some.injEq] at h2
      subst h2
      have:=ih (szs:=szs) (by simpa using hl) (fun j f hj=>by simpa using h (j+1) f (by simpa using hj))
      simp [List.mapM_cons,h1,this]
section
variable {P:Program} {c:cD} (ax:ey c P) {C:Ctx} {Hx:List T} {w:World} {st st':St} {a:Act} {aJ:List (Array Value)} {S:List (Nat × RT)} (h:Rel C Hx w st (a.tmps::aJ) S)
include h
theorem XM:∀ (ps:List (Nat × Operand)),(∀ p∈ps.map (fun p=>(p.1,cellsOf (cx c st 0 p.2))),∀ d∈p.2,fO st d=true)→
    ∃ pp:List (Nat × List (D × Value)),pp.map (fun p=>(p.1,p.2.map Prod.fst))=ps.map (fun p=>(p.1,cellsOf (cx c st 0 p.2)))∧cm (fun p q=>q.1=p.1∧q.2.cells.toList=p.2.map Prod.snd) pp (ps.map fun p=>(p.1,a.eval p.2))∧
      ∀ p∈pp,∀ x∈p.2,bz w (af C w S Hx) S x.1 x.2:=by
  have fZ:mF w (af C w S Hx) S st.tm a.tmps:=by cases h.pE with | cons a _=>exact a
  intro ps
  induction ps with
  | nil=>intro _; exact ⟨[],rfl,.nil,by simp⟩
  | cons p ps ih=>
    intro cQ
    obtain ⟨pp,e1,e2,e3⟩:=ih (fun q hq=>cQ q (by simp only [List.map_cons,List.mem_cons]; exact .inr hq))
    have h1:=FJ h.rt h.mem (xB (c:=c) fZ 0 p.2) (cQ _ (by simp only [List.map_cons,List.mem_cons]; exact .inl rfl))
    obtain ⟨l,f1,f2,f3⟩:=zL h1
    refine ⟨(p.1,l)::pp,by simp [e1,f1],.cons ⟨rfl,f2.symm⟩ e2,fun q hq=>?_⟩
    rcases List.mem_cons.1 hq with rfl | hq
    · exact f3
    · exact e3 q hq
include ax
theorem Ll {t:TypeId} {ti:TI} (ht:c.ty t=some ti) {place:Nat→Option (Nat × Nat)} {ps:Array (Nat × Operand)} {cs:List D} (hf:nM (fO st) place ti.zero (ps.toList.map fun p=>(p.1,cellsOf (cx c st 0 p.2)))=some cs)
    (hb:∀ (z:Value) (rh:List (Nat × Value)),(∀ i,P.info? t=some i→i.zero=some z)→P.built t rh=Instr.fill place z.cells rh):
    ∃ v,(∀ w:World,(Instr.build t (ps.map fun (i,x)=>(i,a.eval x))).run P w=.ok v w)∧cz w (af C w S Hx) S (.agg cs) v:=by
  obtain ⟨inf,h1,h2,h3,z,h4,h5⟩:=(ax.ty _ _ ht).info
  obtain ⟨pp,e1,e2,e3⟩:=XM (c:=c) h ps.toList (Li hf)
  obtain ⟨zz,f1,f2,f3⟩:=zL h5
  rw [← e1,← f1] at hf
  obtain ⟨cs',g1,g2⟩:=R5 Prod.fst hf
  obtain ⟨arr,k1,k2⟩:=G6 Prod.snd e2 g1 f2.symm
  refine ⟨.agg arr,fun w=>run_build w t _ arr ?_,?_⟩
  · rw [hb z _ (fun i hi=>by rw [h1,Option.some.injEq] at hi; subst hi; exact h4)]
    rw [← k1]
    simp
  · refine ⟨arr,rfl,?_⟩
    rw [← g2,k2]
    refine G7 _ (fun x hx=>?_)
    rcases (Lj g1).1 x hx with h6 | ⟨p,h6,h7⟩
    · exact fK (f3 x h6 w _)
    · exact e3 p h6 x h7
theorem BC {t:TypeId} {mb szs:List Nat} {sz qy:Nat} {z:List D} (ht:c.ty t=some ⟨.struct mb szs,sz,qy,z⟩) {ps:Array (Nat × Operand)} {cs:List D}
    (hf:nM (fO st) (fun i=>match mb[i]?,szs[i]? with | some o,some k=>some (o,k) | _,_=>none) z (ps.toList.map fun p=>(p.1,cellsOf (cx c st 0 p.2)))=some cs):
    ∃ v,(∀ w:World,(Instr.build t (ps.map fun (i,x)=>(i,a.eval x))).run P w=.ok v w)∧cz w (af C w S Hx) S (.agg cs) v:=by
  refine Ll ax h ht hf (fun zv rh hz=>?_)
  obtain ⟨inf,h1,_⟩:=(ax.ty _ _ ht).info
  obtain ⟨dd,g1,fs,rfl,g2,g3,g4⟩:=(ax.ty _ _ ht).desc
  simp only [Program.built,h1,g1,hz inf h1,UW g3 g4]
  congr 1
  funext i
  simp only [List.getElem?_toArray,List.zip_eq_zipWith,List.getElem?_zipWith,← g2]
  cases mb[i]? with
  | none=>rfl
  | some o=>cases szs[i]?<;>rfl
theorem ER {t e:TypeId} {n:Nat} {sz qy:Nat} {z:List D} {ei:TI} (ht:c.ty t=some ⟨.array n e,sz,qy,z⟩) (he:c.ty e=some ei) {ps:Array (Nat × Operand)} {cs:List D}
    (hf:nM (fO st) (fun i=>some (i*ei.size,ei.size)) z (ps.toList.map fun p=>(p.1,cellsOf (cx c st 0 p.2)))=some cs):
    ∃ v,(∀ w:World,(Instr.build t (ps.map fun (i,x)=>(i,a.eval x))).run P w=.ok v w)∧cz w (af C w S Hx) S (.agg cs) v:=by
  refine Ll ax h ht hf (fun zv rh hz=>?_)
  obtain ⟨inf,h1,_⟩:=(ax.ty _ _ ht).info
  obtain ⟨anH,h2,h3,_⟩:=(ax.ty _ _ he).info
  obtain ⟨dd,g1,rfl⟩:=(ax.ty _ _ ht).desc
  simp only [Program.built,h1,g1,hz inf h1,h2,h3]
end
end Go.Proofs.YtockoilcnmljiaaGreat
