/- What the proof of FnExactMayLead stands on, part 1: an abstract machine on plain data, its soundness, and the contracts of functions. -/
import Derived.Orders
import Derived.LoopN
import Derived.WalkKit
import Derived.Deep.AppendSrc
import Derived.Great.BuildSlice
set_option linter.all false
set_option linter.unusedSimpArgs false
set_option linter.unusedVariables false
set_option linter.unnecessarySimpa false
set_option linter.unusedSectionVars false
namespace Go.Proofs.Ytockoilcnmljiaa
inductive D where
  | int (k:IntKind) (n:Int)
  | bool (b:Bool)
  | str (s:ByteArray)
  | sl (g:Option Bool) (s n:Nat) (cs:List D)
  | ref (r:Nat) (q:List Nat) (o:Nat) (x:Option (Nat × Nat))
  | nil (s:Nat)
  | agg (cs:List D)
  | aQ (vs:List D)
  | fn (f:FuncId) (fQ:List D)
  | ptr (r:Nat) (q:List Nat) (o:Nat)
  | cZ (cs:List D) (o:Nat)
  | aJ (cs:List D)
  | hole (s n:Nat)
  | undef
  deriving Inhabited
def lk {α:Type}:List (Nat × α)→Nat→Option α
  | [],_=>none
  | (j,v)::t,k=>if j=k then some v else lk t k
def pt {α:Type}:List (Nat × α)→Nat→α→List (Nat × α)
  | [],k,v=>[(k,v)]
  | (j,u)::t,k,v=>if j=k then (k,v)::t else (j,u)::pt t k v
def pz {α:Type}:List (Nat × α)→Nat→α→List (Nat × α)
  | [],k,v=>[(k,v)]
  | (j,u)::t,k,v=>if j < k then (j,u)::pz t k v else if j=k then (k,v)::t else (k,v)::(j,u)::t
structure St where
  tm:List (Nat × D)
  rt:List (Nat × List D)
  up:List (List (Nat × D)):=[]
  of:Nat:=0
def St.get (st:St) (t:Nat):D:=(lk st.tm t).getD .undef
def St.put (st:St) (dst:Option Nat) (d:D):St:=
  match dst with
  | some t=>{ st with tm:=pz st.tm t d }
  | none=>st
inductive Ty where
  | int (k:IntKind) | bool | str | slice (e:TypeId) | array (n:Nat) (e:TypeId) | struct (j8 szs:List Nat) | ptr (e:TypeId) | fn | other
structure TI where
  ty:Ty
  size:Nat
  bytes:Nat
  zero:List D
structure bU where
  ty:TypeId→Option TI
  ext:FuncId→Option (List D→Option (D × List D))
  own:FuncId→List Bool
  inl:FuncId→Bool
  nV:FuncId→Nat→Bool
  nm:FuncId→Nat→Option (List Nat × List Nat)
  gone:FuncId→List Bool
  base:FuncId→Nat→Option Nat
  va:FuncId→Nat→List Nat
def bU.XF (c:bU) (t:TypeId):Nat:=
  match c.ty t with
  | some ⟨.slice e,_,_,_⟩=>match c.ty e with | some i=>i.size | none=>0
  | _=>0
def j9:List D→List Nat→Option (List D)
  | cs,[]=>some cs
  | cs,o::q=>match cs[o]? with
    | some (.sl none _ _ xs)=>j9 xs q
    | _=>none
def nc (f:List D→List D):List D→List Nat→Option (List D)
  | cs,[]=>some (f cs)
  | cs,o::q=>match cs[o]? with
    | some (.sl none s n xs)=>match nc f xs q with
      | some jg=>some (cs.set o (.sl none s n jg))
      | none=>none
    | _=>none
def St.cells (st:St) (r:Nat) (q:List Nat):Option (List D):=
  match lk st.rt r with
  | some cs=>j9 cs q
  | none=>none
def St.cell (st:St) (r:Nat) (q:List Nat) (o:Nat):Option D:=
  match st.cells r q with
  | some cs=>cs[o]?
  | none=>none
def under (q:List Nat) (x:List Nat):Option (List Nat):=
  match q,x with
  | [],x=>some x
  | p::ps,y::ys=>if p=y then under ps ys else none
  | _::_,[]=>none
def trim (x:Option (Nat × Nat)) (s n:Nat) (cs:List D):Nat × List D:=
  match x with
  | none=>(n,cs)
  | some (l,m)=>(m,(cs.drop (l*s)).take (m*s))
def bW (r:Nat):D→D
  | .ref r' q o x=>if r'=r then .undef else .ref r' q o x
  | .ptr r' q o=>if r'=r then .undef else .ptr r' q o
  | d=>d
def dL (r:Nat):D→D
  | .ref r' q o x=>if r'=r then .undef else .ref r' q o x
  | .ptr r' (p::q) o=>if r'=r then .undef else .ptr r' (p::q) o
  | d=>d
def bS (r:Nat) (q:List Nat) (o:Nat) (exact:Bool):D→D
  | .ref r' q' o' x=>if r'=r then
      match under (q++[o]) (q'++[o']) with
      | none=>.ref r' q' o' x
      | some []=>if exact then .undef else .ref r' q' o' x
      | some (_::_)=>.undef
    else .ref r' q' o' x
  | .ptr r' q' o'=>if r'=r then
      match under (q++[o]) q' with
      | none=>.ptr r' q' o'
      | some _=>.undef
    else .ptr r' q' o'
  | d=>d
def o5 (r:Nat) (q:List Nat) (o:Nat) (r1:Nat) (q1:List Nat) (o1:Nat):D→D
  | .ref r' q' o' x=>if r'=r then
      match under (q++[o]) (q'++[o']) with
      | none=>.ref r' q' o' x
      | some []=>.ref r1 q1 o1 x
      | some (_::_)=>.undef
    else .ref r' q' o' x
  | .ptr r' q' o'=>if r'=r then
      match under (q++[o]) q' with
      | none=>.ptr r' q' o'
      | some _=>.undef
    else .ptr r' q' o'
  | d=>d
def eB (f:D→D):D→D
  | .agg cs=>.agg (cs.map f)
  | .fn g cs=>.fn g (cs.map f)
  | d=>f d
def mM (f:D→D):D→D
  | .aQ vs=>.aQ (vs.map (eB f))
  | d=>eB f d
def fm {α:Type} (f:α→α):List (Nat × α)→List (Nat × α)
  | []=>[]
  | (k,v)::t=>(k,f v)::fm f t
def St.ej (f:D→D) (st:St):St:={ st with tm:=fm (mM f) st.tm,rt:=fm (List.map (eB f)) st.rt,up:=st.up.map (fm (mM f)) }
def St.Qq (f g:D→D) (st:St):St:={ st with tm:=fm (mM f) st.tm,rt:=fm (List.map (eB g)) st.rt,up:=st.up.map (fm (mM f)) }
def fR:D→Bool
  | .sl ..=>true
  | _=>false
def sn:D→Option (Nat × Nat)
  | .sl _ s n _=>some (s,n)
  | .hole s n=>some (s,n)
  | _=>none
def gQ:D→Bool
  | .sl none _ _ _=>true
  | _=>false
mutual
def gI (b:Bool):D→D
  | .sl none s n cs=>.sl (some b) s n (cM b cs)
  | d=>d
def cM (b:Bool):List D→List D
  | []=>[]
  | d::ds=>gI b d::cM b ds
end
def jQ {α β:Type} (f:α→Option β):List α→Option (List β)
  | []=>some []
  | a::as9=>match f a with
    | some b=>match jQ f as9 with
      | some bs=>some (b::bs)
      | none=>none
    | none=>none
def qM (st:St):D→Option D
  | .int k n=>some (.int k n)
  | .bool b=>some (.bool b)
  | .str s=>some (.str s)
  | .nil s=>some (.nil s)
  | .sl g s n cs=>some (gI true (.sl g s n cs))
  | .ref r q o x=>match st.cell r q o with
    | some (.sl g s n cs)=>some (gI true (.sl g s (trim x s n cs).1 (trim x s n cs).2))
    | _=>none
  | .undef=>some .undef
  | .hole ..=>some .undef
  | _=>none
def JM (st:St):D→Option D
  | .cZ cs o=>some (.cZ cs o)
  | .ptr r q o=>match st.cells r q with
    | some (c::cs)=>match jQ (qM st) (c::cs) with
      | some cs'=>some (.cZ cs' o)
      | none=>none
    | _=>none
  | d=>qM st d
def L6 (st:St):D→Option D
  | .agg cs=>match jQ (qM st) cs with
    | some cs'=>some (.agg cs')
    | none=>none
  | .fn f fQ=>match jQ (JM st) fQ with
    | some cs'=>some (.fn f cs')
    | none=>none
  | d=>JM st d
def St.gw (st:St) (r:Nat) (q:List Nat) (o:Nat) (d:D):Option St:=
  match lk st.rt r with
  | some cs=>match nc (fun l=>l.set o d) cs q with
    | some cs'=>some { st with rt:=pz st.rt r cs' }
    | none=>none
  | none=>none
def hI (st:St):D→Option (D × St)
  | .int k n=>some (.int k n,st)
  | .bool b=>some (.bool b,st)
  | .str s=>some (.str s,st)
  | .nil s=>some (.sl none s 0 [],st)
  | .sl b s n cs=>some (.sl b s n cs,st)
  | .ref r q o x=>match st.cell r q o with
    | some (.sl none s n cs)=>match st.gw r q o (.hole s n) with
      | some st'=>some (.sl none s (trim x s n cs).1 (trim x s n cs).2,st')
      | none=>none
    | some (.sl (some b) s n cs)=>some (.sl (some b) s (trim x s n cs).1 (trim x s n cs).2,st)
    | _=>none
  | .undef=>some (.undef,st)
  | .hole ..=>some (.undef,st)
  | _=>none
def oU (st:St):List D→Option (List D × St)
  | []=>some ([],st)
  | d::ds=>match hI st d with
    | some (d',st')=>match oU st' ds with
      | some (ds',vb)=>some (d'::ds',vb)
      | none=>none
    | none=>none
def fL (r:Nat) (q:List Nat) (j:Nat):D→D
  | .sl none _ _ _=>.ref r q j none
  | d=>d
def jX (r:Nat) (q:List Nat):Nat→List D→List D
  | _,[]=>[]
  | j,d::ds=>fL r q j d::jX r q (j+1) ds
def L7 (st:St) (r:Nat):Option (List D × St):=
  match lk st.rt r with
  | some (c::cs)=>match oU st (jX r [] 0 (c::cs)) with
    | some (cs',st')=>some (cs',{ st' with rt:=pz st'.rt r [] })
    | none=>none
  | _=>none
def zg (st:St):D→Option (D × St)
  | .agg cs=>match oU st cs with
    | some (cs',st')=>some (.agg cs',st')
    | none=>none
  | .ptr r [] 0=>match L7 st r with
    | some (cs',st')=>some (.aJ cs',st')
    | none=>none
  | d=>hI st d
def GL (st:St):List D→Option (List D × St)
  | []=>some ([],st)
  | d::ds=>match zg st d with
    | some (d',st')=>match GL st' ds with
      | some (ds',vb)=>some (d'::ds',vb)
      | none=>none
    | none=>none
def cK:D→List D
  | .agg cs=>cs
  | .aQ vs=>vs.flatMap fun | .agg cs=>cs | d=>[d]
  | d=>[d]
def yu (r:Nat) (j:Nat):D→D
  | .agg cs=>.agg (jX r [] j cs)
  | d=>fL r [] j d
def AW (r:Nat):Nat→List D→List D
  | _,[]=>[]
  | j,d::ds=>yu r j d::AW r (j+(cK d).length) ds
def yv (r:Nat):D→D
  | .aQ vs=>.aQ (AW r 0 vs)
  | d=>yu r 0 d
def St.nW (st:St) (r:Nat) (d:D):St × D:=
  match d with
  | .aJ cs=>
    let st':=st.ej (bW r)
    ({ st' with rt:=pz st'.rt r cs },.ptr r [] 0)
  | d=>if (cK d).any gQ then
      let st':=st.ej (bW r)
      ({ st' with rt:=pz st'.rt r (cK d) },yv r d)
    else (st,d)
mutual
def bz:D→Bool
  | .sl g _ _ cs=>(match g with | some true=>false | _=>true)&&bD cs
  | _=>true
def bD:List D→Bool
  | []=>true
  | d::ds=>bz d&&bD ds
end
mutual
def gx (b:Bool):D→D
  | .sl none s n cs=>.sl none s n (dA b cs)
  | .sl (some _) s n cs=>.sl (some b) s n (dA b cs)
  | d=>d
def dA (b:Bool):List D→List D
  | []=>[]
  | d::ds=>gx b d::dA b ds
end
def fU (b:Bool):D→D
  | .agg cs=>.agg (dA b cs)
  | .aJ cs=>.aJ (dA b cs)
  | .aQ vs=>.aQ (vs.map fun | .agg cs=>.agg (dA b cs) | d=>gx b d)
  | d=>gx b d
def eM:D→Bool
  | .int .. | .bool _ | .str _ | .sl .. | .undef | .hole ..=>true
  | _=>false
def bB:D→List D
  | .aJ cs=>cs
  | d=>cK d
def dc (d:D):Bool:=(bB d).all fun x=>eM x&&bz x
def yw (c:bU) (t:TypeId):Value→D
  | .int k n=>.int k n
  | .bool b=>.bool b
  | .string s=>.str s
  | .slice none 0 0=>.nil (c.XF t)
  | _=>.undef
def bN (c:bU) (st:St) (t:TypeId):Operand→D
  | .tmp i=>st.get i
  | .const v=>yw c t v
  | .func f=>.fn f []
  | .global _=>.undef
def wJ (op:BinOp) (k:IntKind) (a b:Int):Option D:=
  match op with
  | .add=>some (.int k (k.wrap (a+b)))
  | .sub=>some (.int k (k.wrap (a - b)))
  | .mul=>some (.int k (k.wrap (a*b)))
  | .quo=>if b=0 then none else some (.int k (k.wrap (a.tdiv b)))
  | .rem=>if b=0 then none else some (.int k (a.tmod b))
  | .and=>some (.int k (k.wrap (BitVec.ofInt k.bits a&&& BitVec.ofInt k.bits b).toNat))
  | .or=>some (.int k (k.wrap (BitVec.ofInt k.bits a||| BitVec.ofInt k.bits b).toNat))
  | .xor=>some (.int k (k.wrap (BitVec.ofInt k.bits a ^^^ BitVec.ofInt k.bits b).toNat))
  | .eql=>some (.bool (a==b))
  | .neq=>some (.bool (a !=b))
  | .lss=>some (.bool (decide (a < b)))
  | .leq=>some (.bool (decide (a≤b)))
  | .gtr=>some (.bool (decide (a>b)))
  | .geq=>some (.bool (decide (a≥b)))
  | _=>none
def rv (op:BinOp) (k:IntKind) (a b:Int):Option D:=
  if b < 0 then none else
  match op with
  | .shl=>some (.int k (k.wrap (a*2 ^ (min b.toNat k.bits))))
  | .shr=>some (.int k (a.fdiv (2 ^ (min b.toNat k.bits))))
  | _=>none
def GM (op:BinOp) (a b:ByteArray):Option D:=
  match op with
  | .add=>if a.size+b.size≤9223372036854775807 then some (.str (a++b)) else none
  | .eql=>some (.bool (a.toList==b.toList))
  | .neq=>some (.bool (!(a.toList==b.toList)))
  | _=>none
def Cw (op:BinOp) (a b:Bool):Option D:=
  match op with
  | .eql=>some (.bool (a==b))
  | .neq=>some (.bool (!(a==b)))
  | _=>none
def o6 (c:bU) (t:TypeId) (op:BinOp) (x y:D):Option D:=
  match x,y with
  | .int k a,.int k' b=>match op with
    | .shl=>rv .shl k a b
    | .shr=>rv .shr k a b
    | op=>if k=k' then wJ op k a b else none
  | .str a,.str b=>GM op a b
  | .bool a,.bool b=>match c.ty t with
    | some ⟨.bool,_,_,_⟩=>Cw op a b
    | _=>none
  | _,_=>none
def Qr (op:UnOp) (x:D):Option D:=
  match op,x with
  | .neg,.int k n=>some (.int k (k.wrap (0 - n)))
  | .not,.bool b=>some (.bool (!b))
  | _,_=>none
def St.ny (st:St):D→Option (Option Bool × Nat × Nat × List D)
  | .nil s=>some (none,s,0,[])
  | .sl b s n cs=>some (b,s,n,cs)
  | .ref r q o x=>match st.cell r q o with
    | some (.sl b s n cs)=>some (b,s,(trim x s n cs).1,(trim x s n cs).2)
    | _=>none
  | _=>none
def GN (c:bU) (st:St) (t:TypeId) (x:D):Option D:=
  match c.ty t,x with
  | some ⟨.str,_,_,_⟩,.str s=>some (.int .i64 s.size)
  | some ⟨.slice _,_,_,_⟩,d=>match st.ny d with
    | some (_,_,n,_)=>some (.int .i64 n)
    | none=>none
  | _,_=>none
def byteOf:D→Option UInt8
  | .int .u8 n=>some (UInt8.ofNat n.toNat)
  | _=>none
def ec (b:UInt8):D:=.int .u8 b.toNat
def tj (c:bU) (st:St) (src dst:TypeId) (x:D):Option (D × Option (List D)):=
  match c.ty src,c.ty dst with
  | some si,some di=>
    match di.ty,si.ty,x with
    | .int k,_,.int _ n=>some (.int k (k.wrap n),none)
    | .str,_,.int _ n=>some (.str (Utf8.encode n),none)
    | .str,_,.str s=>some (.str s,none)
    | .str,.slice e,x=>match c.ty e with
      | some ⟨.int .u8,_,_,_⟩=>match st.ny x with
        | some (_,s,_,cs)=>if s=1 then (match jQ byteOf cs with
          | some bs=>some (.str ⟨bs.toArray⟩,none)
          | none=>none) else none
        | none=>none
      | _=>none
    | .slice e,.str,.str s=>match c.ty e with
      | some ⟨.int .u8,_,_,_⟩=>some (.undef,some [.sl none 1 s.size (s.data.toList.map ec)])
      | _=>none
    | _,_,_=>none
  | _,_=>none
def nX (st:St) (agg:Bool) (size:Nat):D→Option D
  | .ptr r q o=>match st.cells r q with
    | some cs=>
      if agg then (if 0 < size∧o+size≤cs.length then some (.agg (jX r q o ((cs.drop o).take size))) else none)
      else match cs[o]? with
        | some d=>some (fL r q o d)
        | none=>none
    | none=>none
  | .cZ cs o=>
      if agg then (if 0 < size∧o+size≤cs.length then some (.agg ((cs.drop o).take size)) else none)
      else cs[o]?
  | _=>none
def jd:Ty→Bool
  | .struct .. | .array ..=>true
  | _=>false
def live (st:St) (r:Nat) (q:List Nat):Bool:=
  match st.cells r q with
  | some (_::_)=>true
  | _=>false
def je (i:Int) (n:Nat) (d:Option D):Option D:=if 0≤i then (if i < n then d else none) else none
def off (x:Option (Nat × Nat)):Nat:=
  match x with
  | none=>0
  | some (l,_)=>l
def nY (st:St) (c:bU) (t:TypeId) (x:D) (i:Int):Option D:=
  match c.ty t with
  | some ⟨.slice e,_,_,_⟩=>match c.ty e with
    | some ei=>match x with
      | .ref r q o x=>match st.cell r q o with
        | some (.sl none s n cs)=>if s=ei.size∧0 < s then je i (trim x s n cs).1 (some (.ptr r (q++[o]) ((off x+i.toNat)*s))) else none
        | some (.sl (some _) s n cs)=>if s=ei.size∧0 < s then je i (trim x s n cs).1 (some (.cZ cs ((off x+i.toNat)*s))) else none
        | _=>none
      | .sl (some _) s n cs=>if s=ei.size∧0 < s then je i n (some (.cZ cs (i.toNat*s))) else none
      | _=>none
    | none=>none
  | some ⟨.array n e,_,_,_⟩=>match c.ty e with
    | some ei=>match x with
      | .ptr r q o=>if live st r q then je i n (some (.ptr r q (o+i.toNat*ei.size))) else none
      | .cZ cs o=>je i n (some (.cZ cs (o+i.toNat*ei.size)))
      | _=>none
    | none=>none
  | _=>none
def uc (st:St) (k:Nat):D→Option D
  | .ptr r q i=>if live st r q then some (.ptr r q (i+k)) else none
  | .cZ cs i=>some (.cZ cs (i+k))
  | _=>none
def ud (c:bU) (t:TypeId) (x:D) (i:Int):Option D:=
  match c.ty t,x with
  | some ⟨.str,_,_,_⟩,.str s=>je i s.size ((s.data.toList[i.toNat]?).map ec)
  | some ⟨.array n e,_,_,_⟩,.agg cs=>match c.ty e with
    | some ei=>je i n (if jd ei.ty then some (.agg ((cs.drop (i.toNat*ei.size)).take ei.size)) else cs[i.toNat*ei.size]?)
    | none=>none
  | _,_=>none
def vc:List D→Nat→List D→List D
  | cs,_,[]=>cs
  | cs,o,d::ds=>vc (cs.set o d) (o+1) ds
def ry:D→D
  | .nil s=>.sl none s 0 []
  | d=>d
def fD (n:Nat) (z:List D):List D:=(List.replicate n (z.map ry)).flatten
def cI:D→Bool
  | .fn .. | .agg _ | .aQ _ | .aJ _ | .undef | .hole ..=>false
  | _=>true
def single:D→Bool
  | .agg _ | .aQ _ | .fn ..=>false
  | _=>true
def eW (st:St):D→Bool
  | .ref r q o _=>match st.cell r q o with
    | some (.sl ..)=>true
    | _=>false
  | .ptr r q _=>live st r q
  | d=>cI d
def lu (ok:D→Bool) (place:Nat→Option (Nat × Nat)):List D→List (Nat × List D)→Option (List D)
  | cs,[]=>some cs
  | cs,(i,vs)::rest=>match place i with
    | some (o,k)=>if vs.length=k∧o+vs.length≤cs.length∧vs.all ok=true then lu ok place (vc cs o vs) rest else none
    | none=>none
def cellsOf:D→List D
  | .agg cs=>cs
  | d=>[d]
def o7 (st:St):List (Nat × D)→Option (List (Nat × List D) × St)
  | []=>some ([],st)
  | (i,d)::ps=>match oU st (cellsOf d) with
    | some (cs,st')=>match o7 st' ps with
      | some (r,vb)=>some ((i,cs)::r,vb)
      | none=>none
    | none=>none
def jh:D→Bool
  | .int .. | .bool _ | .str _=>true
  | _=>false
def St.root (st:St) (dst:Option Nat) (cs:List D) (d:Nat→D):Option St:=
  match dst with
  | some t=>
    let st':=st.ej (bW (st.of+t))
    some { st' with tm:=pz st'.tm t (d (st.of+t)),rt:=pz st'.rt (st.of+t) cs }
  | none=>none
def elems (st:St) (flat:Bool) (z:List D) (sz:Nat):D→Option (List D × Nat × St)
  | .int .i64 n=>if 0≤n∧(z.map ry).all cI=true then some (fD n.toNat z,n.toNat,st) else none
  | .str s=>if sz=1 then some (s.data.toList.map ec,s.size,st) else none
  | .nil _=>some ([],0,st)
  | .sl (some _) s n cs=>if s=sz∧cs.all cI=true then some (cs,n,st) else none
  | .ref r q o x=>match st.cell r q o with
    | some (.sl none s n cs)=>if s≠sz then none else if flat=true then (if (trim x s n cs).2.all jh=true then some ((trim x s n cs).2,(trim x s n cs).1,st) else none) else
      match oU st (jX r (q++[o]) (off x*s) (trim x s n cs).2) with
      | some (ys,st')=>if ys.all cI=true then some (ys,(trim x s n cs).1,st') else none
      | none=>none
    | some (.sl (some _) s n cs)=>if s=sz∧(trim x s n cs).2.all cI=true then some ((trim x s n cs).2,(trim x s n cs).1,st) else none
    | _=>none
  | _=>none
def target (st:St) (sz:Nat) (d:D):Option (Nat × List D × St):=
  match hI st d with
  | some (.sl none s n cs,st')=>if s=sz then some (n,cs,st') else none
  | _=>none
def Cx (c:bU) (tx:TypeId):D→Bool
  | .int ..=>match c.ty tx with | some ⟨.int _,_,_,_⟩=>true | _=>false
  | .str _=>match c.ty tx with | some ⟨.str,_,_,_⟩=>true | _=>false
  | _=>match c.ty tx with | some ⟨.slice _,_,_,_⟩=>true | _=>false
def o8 (c:bU) (st:St) (t tx:TypeId) (dst:Option Nat) (s x:D):Option St:=
  match c.ty t with
  | some ⟨.slice e,_,_,_⟩=>match c.ty e with
    | some ei=>if Cx c tx x=true then
        match target st ei.size s with
        | some (n,cs,aC)=>match elems aC (ei.zero.all jh) ei.zero ei.size x with
          | some (ys,m,bK)=>
            if 0 < ei.size∧0 < ei.bytes∧(n+m)*ei.bytes≤140737488355328 then bK.root dst [.sl none ei.size (n+m) (cs++ys)] (fun d=>.ref d [] 0 none) else none
          | none=>none
        | none=>none
      else none
    | none=>none
  | _=>none
def bound (d:Option D) (z:Int):Option Int:=
  match d with
  | none=>some z
  | some (.int _ i)=>some i
  | _=>none
def AX (s:ByteArray) (l h:Option D):Option D:=
  match bound l 0,bound h s.size with
  | some l,some h=>if 0≤l∧l≤h∧h≤s.size then some (.str (s.extract l.toNat h.toNat)) else none
  | _,_=>none
def AY (st:St) (sz:Nat) (x:D) (l h:Option D):Option D:=
  match st.ny x with
  | some (g,s,n,cs)=>match bound l 0,bound h n with
    | some l,some h=>if s=sz∧0≤l∧l≤h∧h≤n then
        match x with
        | .ref r q o y=>some (.ref r q o (some (off y+l.toNat,h.toNat - l.toNat)))
        | .nil s=>some (.nil s)
        | _=>some (.sl g s (h.toNat - l.toNat) ((cs.drop (l.toNat*s)).take ((h.toNat - l.toNat)*s)))
      else none
    | _,_=>none
  | none=>none
def wK (c:bU) (st:St) (t:TypeId) (x:D) (l h:Option D):Option D:=
  match c.ty t with
  | some ⟨.str,_,_,_⟩=>match x with
    | .str s=>AX s l h
    | _=>none
  | some ⟨.slice e,_,_,_⟩=>match c.ty e with
    | some ei=>AY st ei.size x l h
    | none=>none
  | _=>none
def zW:D→List Nat→Option D
  | d,[]=>some d
  | .sl none _ _ cs,o::q=>match cs[o]? with
    | some d=>zW d q
    | none=>none
  | _,_=>none
def rz (r:Nat) (q:List Nat) (o:Nat) (bQ:D):D→D
  | .ref r' q' o' x=>if r'=r then (match under (q++[o]) (q'++[o']) with
      | none=>.ref r' q' o' x
      | some y=>match zW bQ y with
        | some (.sl g s n cs)=>gI false (.sl g s (trim x s n cs).1 (trim x s n cs).2)
        | _=>.undef) else .ref r' q' o' x
  | d=>bS r q o true d
def St.pT (st:St) (r:Nat) (q:List Nat) (o:Nat) (d:D):Option (St × (D→D)):=
  match st.cell r q o with
  | some bQ=>some (if fR bQ then (st.Qq (rz r q o bQ) (bS r q o true),rz r q o bQ) else if fR d then (st.ej (bS r q o true),bS r q o true) else (st,id))
  | none=>none
def lG (st:St) (r:Nat):Nat→(D→D)→List D→Option St
  | _,_,[]=>some st
  | o,h,d::ds=>if !eW st (h d) then none else match st.pT r [] o (h d) with
    | some (aC,f)=>match aC.gw r [] o (f (h d)) with
      | some st'=>lG st' r (o+1) (fun x=>f (h x)) ds
      | none=>none
    | none=>none
def lH (st:St) (r:Nat):Nat→List D→Option St
  | _,[]=>some st
  | o,d::ds=>if !cI d then none else match st.pT r [] o d with
    | some (aC,_)=>match aC.gw r [] o d with
      | some st'=>lH st' r (o+1) ds
      | none=>none
    | none=>none
def zX (r:Nat) (q:List Nat) (o:Nat):D→Bool
  | .ref r' q' o' none=>decide (r'=r)&&decide (q'=q)&&decide (o'=o)
  | _=>false
def ue (d:D) (r:Nat) (q:List Nat) (o:Nat):D→D:=
  match d with
  | .ref r' q' o' none=>o5 r' q' o' r q o
  | .ref r' q' o' (some _)=>bS r' q' o' true
  | _=>id
def St.qU (st:St) (d:D) (r:Nat) (q:List Nat) (o:Nat):St:=
  match d with
  | .ref _ _ _ _=>st.ej (ue d r q o)
  | _=>st
def gZ (st:St) (r:Nat) (q:List Nat):Nat→(D→D)→List D→Option St
  | _,_,[]=>some st
  | o,h,d::ds=>
    if zX r q o (h d)&&eW st (h d) then gZ st r q (o+1) h ds else
    match hI st (h d) with
    | some (d',aC)=>if !cI d' then none else match aC.pT r q o d' with
      | some (bK,f)=>match bK.gw r q o d' with
        | some zh=>gZ (zh.qU (f (h d)) r q o) r q (o+1) (fun x=>ue (f (h d)) r q o (f (h x))) ds
        | none=>none
      | none=>none
    | none=>none
def rA (st:St) (nV:Nat→Bool) (size:Nat) (a v:D):Option St:=
  match a with
  | .ptr r q o=>
    if (cellsOf v).length=size∧live st r q=true then
      match q with
      | []=>if nV (r - st.of) then (match oU st (cellsOf v) with
          | some (cs,aC)=>lH aC r o cs
          | none=>none) else lG st r o id (cellsOf v)
      | q=>gZ st r q o id (cellsOf v)
    else none
  | _=>none
def kZ (st:St):List Bool→List D→Option (List D × St)
  | _,[]=>some ([],st)
  | b,d::ds=>
    match (if b.headD false then zg st d else some (d,st):Option (D × St)) with
    | some (d',st')=>match kZ st' b.tail ds with
      | some (ds',vb)=>some (d'::ds',vb)
      | none=>none
    | none=>none
def rB (st:St):List Bool→List D→Option (List D)
  | _,[]=>some []
  | b,d::ds=>
    match (if b.headD false then some d else L6 st d) with
    | some d'=>match rB st b.tail ds with
      | some ds'=>some (d'::ds')
      | none=>none
    | none=>none
def kP (st:St) (b:List Bool) (ds:List D):Option (List D × St):=
  match kZ st b ds with
  | some (fA,aC)=>match rB aC b fA with
    | some pU=>some (pU,aC)
    | none=>none
  | none=>none
def nf (st:St) (h:D→D):List D→List D→Option (St × (D→D))
  | [],_=>some (st,h)
  | _::_,[]=>none
  | a::as9,d::ds=>
    match h a,d with
    | .ref r q o none,.sl none s n cs=>match st.cell r q o with
      | some (.hole s0 n0)=>if s0=s∧n0=n then
          (match (st.ej (bS r q o false)).gw r q o (.sl none s n cs) with
           | some st'=>nf st' (fun x=>bS r q o false (h x)) as9 ds
           | none=>none)
        else none
      | _=>none
    | _,_=>nf st h as9 ds
def yx (st:St) (h:D→D) (a out:D):Option (St × (D→D)):=
  match a,out with
  | .agg cs,.agg ds=>nf st h cs ds
  | .ptr r [] 0,.aJ ds=>match lk st.rt r with
    | some []=>some ({ st.ej (dL r) with rt:=pz (st.ej (dL r)).rt r ds },fun x=>dL r (h x))
    | _=>none
  | a,d=>nf st h [a] [d]
def gy (st:St) (h:D→D):List Bool→List D→List D→Option St
  | _,[],_=>some st
  | b,a::as9,o::os=>if b.headD false then match yx st h a o with
      | some (st',h')=>gy st' h' b.tail as9 os
      | none=>none
    else gy st h b.tail as9 os
  | _,_::_,[]=>none
def eN:List Bool→List D→Bool
  | _,[]=>false
  | b,d::ds=>(b.headD false&&!((bB d).all bz))||eN b.tail ds
def iY:List Bool→List D→List D
  | _,[]=>[]
  | b,d::ds=>(if b.headD false then fU false d else d)::iY b.tail ds
def ji (c:bU) (cl:FuncId→List D→Option (D × List D)) (st:St) (dst:Option Nat) (f:FuncId) (args:List D):Option St:=
  match kP st (c.own f) args with
  | some (ds,aC)=>
    let t:=eN (c.own f) ds
    match cl f (if t then iY (c.own f) ds else ds) with
    | some (r,outs)=>
      if dc r&&outs.all dc then
        match gy aC id (c.own f) args (if t then outs.map (fU true) else outs) with
        | some bK=>match dst with
          | some i=>let p:=bK.nW (bK.of+i) (if t then fU true r else r); some (p.1.put (some i) p.2)
          | none=>some bK
        | none=>none
      else none
    | none=>none
  | none=>none
def eC (c:bU) (cl:FuncId→List D→Option (D × List D)) (ci:FuncId→List D→Nat→St→Option (D × St)) (au:FuncId) (st:St) (o:Oper):Option St:=
  let ev:=bN c st o.type
  let val (d:Option D):Option St:=match d with | some d=>some (st.put o.dst d) | none=>none
  match o.op with
  | .move x | .assign x=>some (st.put o.dst (ev x))
  | .pick b x y=>match ev b with
    | .bool t=>some (st.put o.dst (if t then ev x else ev y))
    | _=>none
  | .alloc e=>match c.ty e with
    | some i=>st.root o.dst i.zero (fun d=>.ptr d [] 0)
    | none=>none
  | .box e x=>match c.ty e with
    | some i=>if (cellsOf (bN c st e x)).length=i.size∧(if c.nV au (o.dst.getD 0)=true then true else (cellsOf (bN c st e x)).all (eW st))=true then
        match o.dst with
        | some t=>if c.nV au t then (match oU st (cellsOf (bN c st e x)) with
            | some (cs,aC)=>if cs.all cI then aC.root (some t) cs (fun d=>.ptr d [] 0) else none
            | none=>none)
          else st.root (some t) (cellsOf (mM (bW (st.of+t)) (bN c st e x))) (fun d=>.ptr d [] 0)
        | none=>none
      else none
    | none=>none
  | .build t ps=>match c.ty t with
    | some ⟨.struct j8 szs,_,_,z⟩=>
      match lu (eW st) (fun i=>match j8[i]?,szs[i]? with | some o,some k=>some (o,k) | _,_=>none) z (ps.toList.map fun p=>(p.1,cellsOf (bN c st 0 p.2))) with
      | some cs=>some (st.put o.dst (.agg cs))
      | none=>none
    | some ⟨.array _ e,_,_,z⟩=>match c.ty e with
      | some ei=>
        match lu (eW st) (fun i=>some (i*ei.size,ei.size)) z (ps.toList.map fun p=>(p.1,cellsOf (bN c st 0 p.2))) with
        | some cs=>some (st.put o.dst (.agg cs))
        | none=>none
      | none=>none
    | _=>none
  | .buildSlice t n ps=>match c.ty t with
    | some ⟨.slice e,_,_,_⟩=>match c.ty e with
      | some ei=>
        if n*ei.size≤16777216 then
          match o7 st (ps.toList.map fun p=>(p.1,bN c st e p.2)) with
          | some (vs,aC)=>match lu cI (fun i=>some (i*ei.size,ei.size)) (fD n ei.zero) vs with
            | some cs=>aC.root o.dst [.sl none ei.size n cs] (fun d=>.ref d [] 0 none)
            | none=>none
          | none=>none
        else none
      | none=>none
    | _=>none
  | .load t a=>match c.ty t with
    | some i=>val (nX st (jd i.ty) i.size (ev a))
    | none=>none
  | .store t a x=>match c.ty t with
    | some i=>match rA st (c.nV au) i.size (ev a) (bN c st t x) with
      | some st'=>some (st'.put o.dst (.aQ []))
      | none=>none
    | none=>none
  | .nilCheck x=>match ev x with
    | .ptr r q i=>if live st r q then some (st.put o.dst (.ptr r q i)) else none
    | .cZ cs i=>some (st.put o.dst (.cZ cs i))
    | _=>none
  | .binOp op t x y _=>val (o6 c t op (bN c st t x) (bN c st t y))
  | .unOp op _ x=>val (Qr op (ev x))
  | .convert src dst x=>match tj c st src dst (bN c st src x) with
    | some (d,none)=>some (st.put o.dst d)
    | some (_,some cs)=>st.root o.dst cs (fun d=>.ref d [] 0 none)
    | none=>none
  | .makeFunc (.func f) first fQ=>if first.size=0∧(fQ.toList.map ev).all single=true then some (st.put o.dst (.fn f (fQ.toList.map ev))) else none
  | .makeSlice t l cp=>match c.ty t with
    | some ⟨.slice e,_,_,_⟩=>match c.ty e,ev l,ev cp with
      | some ei,.int _ l,.int _ cp=>if 0≤l then (if l≤cp then (if 0 < ei.bytes∧cp*ei.bytes≤140737488355328 then st.root o.dst [.sl none ei.size l.toNat (fD l.toNat ei.zero)] (fun d=>.ref d [] 0 none) else none) else none) else none
      | _,_,_=>none
    | _=>none
  | .slice t x l h none=>val (wK c st t (bN c st t x) (l.map ev) (h.map ev))
  | .fieldAddr s x f=>match c.ty s with
    | some ⟨.struct j8 szs,_,_,_⟩=>match j8[f]? with
      | some k=>val (uc st k (ev x))
      | none=>none
    | _=>none
  | .indexAddr t x i=>match ev i with
    | .int _ i=>val (nY st c t (bN c st t x) i)
    | _=>none
  | .index t x i=>match ev i with
    | .int _ i=>val (ud c t (ev x) i)
    | _=>none
  | .extract x i=>match ev x with
    | .aQ vs=>val vs[i]?
    | _=>none
  | .call cc=>if cc.args.size≠cc.argTypes.size then none else
    let args:=(cc.args.toList.zip cc.argTypes.toList).map fun p=>bN c st p.2 p.1
    match cc.callee with
    | .value f=>match ev f with
      | .fn g fQ=>if c.inl g then (match ci g (args++fQ) ((st.of+o.dst.getD 0+1)*100000) st with
          | some (d,st')=>some (st'.put o.dst d)
          | none=>none) else ji c cl st o.dst g (args++fQ)
      | _=>none
    | .builtin .len=>match args,cc.argTypes.toList with
      | [x],[t]=>val (GN c st t x)
      | _,_=>none
    | .builtin .min=>match args with
      | [.int k a,.int _ b]=>some (st.put o.dst (.int k (if b < a then b else a)))
      | _=>none
    | .builtin .max=>match args with
      | [.int k a,.int _ b]=>some (st.put o.dst (.int k (if b>a then b else a)))
      | _=>none
    | .builtin .append=>match args,cc.argTypes.toList with
      | [s,x],[t,tx]=>o8 c st t tx o.dst s x
      | _,_=>none
    | _=>none
  | _=>none
def yy (c:bU) (au:FuncId) (o:Oper):List Nat:=
  match o.op with
  | .store _ (.tmp x) _=>c.va au x
  | .call cc=>(match cc.callee,o.dst with
    | .builtin .append,some d=>c.va au d
    | _,_=>[])
  | _=>[]
def tQ (c:bU) (au:FuncId) (st:St) (o:Oper):Bool:=
  match o.op with
  | .load _ (.tmp x)=>(match c.base au x with
    | none=>true
    | some 0=>(match st.get x with
      | .cZ _ _=>true
      | _=>false)
    | some (r+1)=>(match st.get x with
      | .ptr r' [] _=>r'==st.of+r&&decide (r' < 10000)
      | _=>false))
  | .store _ (.tmp x) _=>(match c.va au x with
    | []=>true
    | l=>(match st.get x with
      | .ptr r' q _=>live st r' q&&l.all fun r=>(lk st.rt (st.of+r)).isSome&&r' !=st.of+r
      | _=>false))
  | _=>(yy c au o).all fun r=>(lk st.rt (st.of+r)).isSome
def vd (st:St) (ops:Array Oper) (o:Oper):Option Bool:=
  match o.guard with
  | none=>some true
  | some (j,want)=>match (ops[j]?).bind (·.dst) with
    | some t=>match st.get t with
      | .bool b=>some (b==want)
      | .aQ []=>some false
      | _=>none
    | none=>some false
def rC (c:bU) (cl:FuncId→List D→Option (D × List D)) (ci:FuncId→List D→Nat→St→Option (D × St)) (au:FuncId) (all:Array Oper):List Oper→St→Option St
  | [],st=>some st
  | o::rest,st=>match vd st all o with
    | some true=>if tQ c au st o then (match eC c cl ci au st o with
      | some st'=>rC c cl ci au all rest st'
      | none=>none) else none
    | some false=>rC c cl ci au all rest (st.put o.dst (.aQ []))
    | none=>none
def gz (c:bU) (cl:FuncId→List D→Option (D × List D)) (ci:FuncId→List D→Nat→St→Option (D × St)) (au:FuncId) (all:Array Oper):List Nat→St→Option St
  | [],st=>some st
  | i::rest,st=>match all[i]? with
    | none=>gz c cl ci au all rest st
    | some o=>match vd st all o with
      | some true=>if tQ c au st o then (match eC c cl ci au st o with
        | some st'=>gz c cl ci au all rest st'
        | none=>none) else none
      | some false=>gz c cl ci au all rest (st.put o.dst (.aQ []))
      | none=>none
def my (c:bU) (o:Oper):Option Bool:=
  match o.op with
  | .move _ | .assign _ | .pick .. | .binOp .. | .unOp .. | .makeFunc .. | .slice .. | .fieldAddr .. | .indexAddr .. | .index .. | .extract .. | .build .. | .nilCheck _=>some true
  | .load ..=>some false
  | .convert _ d _=>(match c.ty d with
    | some ⟨.slice _,_,_,_⟩=>none
    | some _=>some false
    | none=>none)
  | .call cc=>(match cc.callee with
    | .builtin .len | .builtin .min | .builtin .max=>some true
    | _=>none)
  | _=>none
def pV (o:Oper):Bool:=
  match o.op with
  | .alloc _ | .box .. | .makeSlice .. | .buildSlice ..=>true
  | _=>false
def vW (c:bU) (o:Oper):Bool:=
  (my c o).isSome||pV o||(match o.op with
    | .call cc=>(match cc.callee with
      | .value (.func f)=>!c.inl f&&!(c.own f).any id
      | _=>false)
    | _=>false)
def Tc (c:bU) (au:FuncId) (r:Nat) (o:Oper):Bool:=vW c o||(yy c au o).contains r
def waits (ops:Array Oper):Nat→Nat→Nat→Bool
  | 0,_,_=>false
  | n+1,j,i=>match ops[j]? with
    | some o=>o.after.toList.any fun e=>Region.binds .any e&&(e.on==i||waits ops n e.on i)
    | none=>false
def ve (c:bU) (au:FuncId) (oi:Oper) (b:Bool) (oj:Oper):Bool:=
  b||(match oi.op with
    | .load _ (.tmp x)=>(match c.base au x with
      | some 0=>true
      | some (r+1)=>Tc c au r oj
      | none=>vW c oj)
    | _=>vW c oj)
def Gt (c:bU) (au:FuncId) (ops:Array Oper) (oi:Oper):Bool:=
  match oi.op with
  | .load _ (.tmp x)=>(match c.base au x with
    | some (r+1)=>ops.toList.all fun o=>o.dst !=some r
    | _=>true)
  | _=>true
def GO (c:bU) (au:FuncId) (ops:Array Oper) (bt:Array Bool) (i:Nat):Bool:=
  match ops[i]? with
  | none=>false
  | some oi=>match my c oi with
    | none=>false
    | some b=>Gt c au ops oi&&(List.range ops.size).all fun j=>j==i||bt.getD j true||waits ops ops.size j i||(match ops[j]? with
      | some oj=>oi.apart ops oj&&ve c au oi b oj
      | none=>true)
def D1 (c:bU) (o:Oper):Option (List D × Bool):=
  match o.op with
  | .alloc e=>(match c.ty e with
    | some i=>some (i.zero,true)
    | none=>none)
  | .makeSlice t (.const l) (.const cp)=>(match c.ty t with
    | some ⟨.slice e,_,_,_⟩=>(match c.ty e,yw c o.type l,yw c o.type cp with
      | some ei,.int _ l,.int _ cp=>if 0≤l∧l≤cp∧0 < ei.bytes∧cp*ei.bytes≤140737488355328 then some ([.sl none ei.size l.toNat (fD l.toNat ei.zero)],false) else none
      | _,_,_=>none)
    | _=>none)
  | .buildSlice t n ps=>(match c.ty t with
    | some ⟨.slice e,_,_,_⟩=>(match c.ty e with
      | some ei=>if n=0∧ps.size=0 then some ([.sl none ei.size 0 []],false) else none
      | none=>none)
    | _=>none)
  | _=>none
def Td (c:bU) (o:Oper):Bool:=o.guard.isNone&&o.dst.isSome&&(D1 c o).isSome
def GP (c:bU) (ops:Array Oper) (bt:Array Bool) (rs:List Nat) (h:Nat):Bool:=
  match ops[h]? with
  | none=>false
  | some oh=>(List.range ops.size).all fun j=>j==h||bt.getD j true||waits ops ops.size j h||(match ops[j]? with
    | some oj=>Td c oj&&rs.contains j&&oj.apart ops oh&&(List.range ops.size).all fun k=>k==j||bt.getD k true||(match ops[k]? with
      | some ok=>oj.apart ops ok||waits ops ops.size k j
      | none=>true)
    | none=>true)
def pI (c:bU) (au:FuncId) (ops:Array Oper):Nat→Array Bool→Option (List Nat)
  | 0,bt=>match Region.ready .any ops bt with
    | []=>some []
    | _=>none
  | k+1,bt=>match Region.ready .any ops bt with
    | []=>some []
    | r::rs=>match (r::rs).find? (GO c au ops bt) with
      | some i=>(match pI c au ops k (bt.setIfInBounds i true) with
        | some l=>some (i::l)
        | none=>none)
      | none=>match (r::rs).find? (GP c ops bt (r::rs)) with
        | some h=>(match pI c au ops k (bt.setIfInBounds h true) with
          | some l=>some (h::l)
          | none=>none)
        | none=>none
def o9 (B:List Nat) (st:St) (r:Nat):Nat→Nat→Option St
  | _,0=>some st
  | o,k+1=>
    match st.cell r [] o with
    | some (.ref r' q' o' x)=>if (!q'.isEmpty||B.contains r')=true then o9 B st r (o+1) k else
      (match hI st (.ref r' q' o' x) with
       | some (d',aC)=>match (aC.ej (bS r [] o true)).gw r [] o d' with
         | some bK=>o9 B (bK.qU (.ref r' q' o' x) r [] o) r (o+1) k
         | none=>none
       | none=>none)
    | _=>o9 B st r (o+1) k
def D2 (B:List Nat) (st:St) (r:Nat):Option St:=
  match lk st.rt r with
  | some cs=>o9 B st r 0 cs.length
  | none=>some st
def KM (B:List Nat) (st:St) (t:Nat):Option St:=
  match st.get t with
  | .ref r [] o x=>if r=10000+st.of+t∨B.contains r=true then some st else
    match hI st (.ref r [] o x) with
    | some (d',aC)=>
      let bK:=(aC.ej (bW (10000+st.of+t))).qU (.ref r [] o x) (10000+st.of+t) [] 0
      some { bK with tm:=pz bK.tm t (.ref (10000+st.of+t) [] 0 none),rt:=pz bK.rt (10000+st.of+t) [d'] }
    | none=>none
  | _=>some st
def yz (f:St→Nat→Option St):St→List Nat→Option St
  | st,[]=>some st
  | st,t::ts=>match f st t with
    | some st'=>yz f st' ts
    | none=>none
def qV {α:Type} (l:List (Nat × α)):List Nat→List (Nat × α)
  | []=>[]
  | t::ts=>match lk l t with
    | some v=>(t,v)::qV l ts
    | none=>qV l ts
def below {α:Type} (k:Nat):List (Nat × α)→List (Nat × α)
  | []=>[]
  | (j,v)::t=>if (k≤j∧j < k+100000)∨((k+1)*100000≤j∧j < (k+100001)*100000) then below k t else (j,v)::below k t
def yA (L B:List Nat) (st:St):Option St:=
  let bs:=B.map (st.of+·)++L.filterMap fun t=>match st.get t with
    | .ptr r [] _=>some r
    | _=>none
  match yz (D2 bs) st bs with
  | some aC=>match yz (KM bs) aC L with
    | some bK=>some { bK with tm:=qV bK.tm L,rt:=below st.of bK.rt++qV bK.rt ((B++L.map (10000+·)).map (st.of+·)) }
    | none=>none
  | none=>none
def qW (nm:St→Option St) (body:St→Option (Exit × St)):Nat→St→Option (Exit × St)
  | 0,_=>none
  | k+1,st=>match nm st with
    | some aC=>match body aC with
      | some (.normal,bK)=>qW nm body k bK
      | r=>r
    | none=>none
def ed (c:bU) (cl:FuncId→List D→Option (D × List D)) (ci:FuncId→List D→Nat→St→Option (D × St)) (K:Nat) (au:FuncId):Code→Nat→St→Option (Exit × St)
  | .skip,_,st=>some (.normal,st)
  | .region _ ops false,_,st=>match rC c cl ci au ops ops.toList st with
    | some st'=>some (.normal,st')
    | none=>none
  | .region _ ops true,_,st=>match pI c au ops ops.size (Array.replicate ops.size false) with
    | some l=>(match gz c cl ci au ops l st with
      | some st'=>some (.normal,st')
      | none=>none)
    | none=>none
  | .seq a b,i,st=>match ed c cl ci K au a i st with
    | some (.normal,st')=>ed c cl ci K au b i st'
    | r=>r
  | .cond x a b,i,st=>match bN c st 0 x with
    | .bool t=>if t then ed c cl ci K au a i st else ed c cl ci K au b i st
    | _=>none
  | .block id a,_,st=>match ed c cl ci K au a id st with
    | some (.exit rD,st')=>if rD=id then some (.normal,st') else some (.exit rD,st')
    | r=>r
  | .loop a,i,st=>qW (match c.nm au i with | some (L,B)=>yA L B | none=>some) (ed c cl ci K au a i) K st
  | .exit id,_,st=>some (.exit id,st)
  | .ret,_,st=>some (.ret,st)
  | _,_,_=>none
def lI (n:Nat):Nat→List D→St→St
  | _,[],st=>st
  | i,d::ds,st=>
    lI n (i+1) ds (match d with
      | .aJ cs=>{ st with tm:=pz st.tm i (.ptr (n+i) [] 0),rt:=pz st.rt (n+i) cs }
      | d=>if (cK d).any gQ then { st with tm:=pz st.tm i (yv (n+i) d),rt:=pz st.rt (n+i) (cK d) } else { st with tm:=pz st.tm i d })
def tR (c:bU) (st:St):List ResultVar→Option (List D)
  | []=>some []
  | .tmp t::rs=>match tR c st rs with
    | some ds=>some (st.get t::ds)
    | none=>none
  | .cell a t::rs=>match c.ty t with
    | some i=>match nX st (jd i.ty) i.size (st.get a) with
      | some d=>match tR c st rs with
        | some ds=>some (d::ds)
        | none=>none
      | none=>none
    | none=>none
def dY:D→Bool
  | .aJ _=>true
  | d=>(cK d).any gQ
def mo (st:St) (r:Nat) (d:D):Option D:=
  if dY d then
    match d with
    | .aJ _=>some (.ptr r [] 0)
    | .agg _=>match lk st.rt r with
      | some cs=>some (.agg (jX r [] 0 cs))
      | none=>none
    | _=>match lk st.rt r with
      | some [d']=>some (fL r [] 0 d')
      | _=>none
  else none
def ng (n:Nat):Nat→List D→St→Option (List D)
  | _,[],_=>some []
  | i,d::ds,st=>
    match mo st (n+i) d with
    | none=>match ng n (i+1) ds st with
      | some os=>some (.undef::os)
      | none=>none
    | some v=>match zg st v with
      | some (o,st')=>match ng n (i+1) ds st' with
        | some os=>some (o::os)
        | none=>none
      | none=>none
def mq:List D→D
  | [d]=>d
  | ds=>.aQ ds
def uf:Nat→List D→List (Nat × D)
  | _,[]=>[]
  | i,d::ds=>(i,d)::uf (i+1) ds
def rE:Exit→Bool
  | .normal | .ret=>true
  | _=>false
def rF (n k:Nat):Bool:=decide (k≤n)&&decide (n+k≤10000)
def KN:D→Bool
  | .aQ _=>false
  | _=>true
def Gu (c:bU) (P:Program) (cl:FuncId→List D→Option (D × List D)) (ci:FuncId→List D→Nat→St→Option (D × St)) (K:Nat) (f:FuncId) (args:List D):Option (D × List D):=
  match c.ext f with
  | some e=>e args
  | none=>match P.funcs[f]? with
    | some fn=>match fn.body with
      | some body=>match ed c cl ci K f body 0 (lI fn.ntmps 0 args ⟨[],[],[],0⟩) with
        | some (x,st)=>if rE x&&rF fn.ntmps args.length then (match tR c st fn.results.toList with
            | some ds=>match GL st ds with
              | some (ds',st')=>match ng fn.ntmps 0 args st' with
                | some os=>some (mq ds',os)
                | none=>none
              | none=>none
            | none=>none) else none
        | none=>none
      | none=>none
    | none=>none
def On (c:bU) (P:Program) (cl:FuncId→List D→Option (D × List D)) (ci:FuncId→List D→Nat→St→Option (D × St)) (K:Nat) (f:FuncId) (args:List D) (of:Nat) (st:St):Option (D × St):=
  match P.funcs[f]? with
  | some fn=>match fn.body with
    | some body=>match ed c cl ci K f body 0 ⟨uf 0 args,st.rt,st.tm::st.up,of⟩ with
      | some (x,aC)=>if rE x&&rF fn.ntmps args.length then (match tR c aC fn.results.toList,aC.up with
          | some ds,tm::up=>if ds.all KN then some (mq ds,⟨tm,aC.rt,up,st.of⟩) else none
          | _,_=>none) else none
      | none=>none
    | none=>none
  | none=>none
def forget:List Bool→List D→List D
  | true::b,.aJ cs::os=>.aJ cs::forget b os
  | true::b,_::os=>.undef::forget b os
  | false::b,o::os=>o::forget b os
  | _,os=>os
def L8 (b:List Bool):Option (D × List D)→Option (D × List D)
  | some (r,os)=>some (r,forget b os)
  | none=>none
def AZ (c:bU) (P:Program) (cl:FuncId→List D→Option (D × List D)) (ci:FuncId→List D→Nat→St→Option (D × St)) (K:Nat) (f:FuncId) (args:List D):Option (D × List D):=
  match c.ext f with
  | some e=>e args
  | none=>L8 (c.gone f) (Gu c P cl ci K f args)
def lJ (c:bU) (P:Program):Nat→(FuncId→List D→Option (D × List D)) × (FuncId→List D→Nat→St→Option (D × St))
  | 0=>(fun _ _=>none,fun _ _ _ _=>none)
  | k+1=>(AZ c P (lJ c P k).1 (lJ c P k).2 k,On c P (lJ c P k).1 (lJ c P k).2 k)
def KO (c:bU) (P:Program) (k:Nat):FuncId→List D→Option (D × List D):=(lJ c P k).1
end Go.Proofs.Ytockoilcnmljiaa
namespace Go.Proofs.Ytockoilcnmljiaa
inductive T where
  | v (d:D) (u:Value)
  | own (s n cap:Nat) (a:Option (Nat × Nat)) (cs:List T)
  deriving Inhabited
def aZ:D→D
  | .sl none _ _ _=>.undef
  | d=>d
def tk (a:Option (Nat × Nat)) (n cap:Nat):Value:=.slice (a.map fun p=>⟨p.1,p.2,none⟩) n cap
def T.val:T→Value
  | .v _ u=>u
  | .own _ n cap a _=>tk a n cap
mutual
def T.er:T→D
  | .v d _=>aZ d
  | .own s n _ _ cs=>.sl none s n (aL cs)
def aL:List T→List D
  | []=>[]
  | t::ts=>t.er::aL ts
end
def hL:Option (Nat × Nat)→List Nat
  | some (b,_)=>[b]
  | none=>[]
mutual
def T.ft:T→List Nat
  | .v _ _=>[]
  | .own _ _ _ a cs=>hL a++ad cs
def ad:List T→List Nat
  | []=>[]
  | t::ts=>t.ft++ad ts
end
def av:List T→List Value
  | []=>[]
  | t::ts=>t.val::av ts
theorem dT (ts:List T):aL ts=ts.map T.er:=by
  induction ts with
  | nil=>rfl
  | cons t ts ih=>simp [aL,ih]
theorem cu (ts:List T):av ts=ts.map T.val:=by
  induction ts with
  | nil=>rfl
  | cons t ts ih=>simp [av,ih]
theorem lK (ts:List T):ad ts=(ts.map T.ft).flatten:=by
  induction ts with
  | nil=>rfl
  | cons t ts ih=>simp [ad,ih]
theorem gA (ts:List T) (o:Nat):(aL ts)[o]?=(ts[o]?).map T.er:=by simp [dT]
theorem eF (ts:List T):(aL ts).length=ts.length:=by simp [dT]
theorem rG (a b:List T):aL (a++b)=aL a++aL b:=by simp [dT]
theorem GQ (ts:List T) (o:Nat) (t:T):(aL ts).set o t.er=aL (ts.set o t):=by
  simp [dT,List.map_set]
theorem eD (ts:List T) (o:Nat):(av ts)[o]?=(ts[o]?).map T.val:=by simp [cu]
theorem bd (ts:List T):(av ts).length=ts.length:=by simp [cu]
theorem nz (ts:List T) (o:Nat) (t:T):av (ts.set o t)=(av ts).set o t.val:=by simp [cu,List.map_set]
theorem wL (a b:List T):av (a++b)=av a++av b:=by simp [cu]
theorem aK (a b:List T):ad (a++b)=ad a++ad b:=by simp [lK]
theorem wM (ts:List T) (k:Nat):(aL ts).drop k=aL (ts.drop k):=by simp [dT,List.map_drop]
theorem wN (ts:List T) (k:Nat):(aL ts).take k=aL (ts.take k):=by simp [dT,List.map_take]
theorem A3 {t:T} {s n:Nat} {cs:List D} (h:t.er=.sl none s n cs):∃ cap a ts,t=.own s n cap a ts∧cs=aL ts:=by
  cases t with
  | v d u=>
    simp only [T.er] at h
    cases d<;>simp only [aZ] at h<;>try cases h
    rename_i g _ _ _
    cases g<;>simp at h
  | own s' n' cap a ts=>
    simp only [T.er,D.sl.injEq] at h
    obtain ⟨_,rfl,rfl,rfl⟩:=h
    exact ⟨cap,a,ts,rfl,rfl⟩
def ao:List T→List Nat→Option (List T)
  | cs,[]=>some cs
  | cs,o::q=>match cs[o]? with
    | some (.own _ _ _ _ xs)=>ao xs q
    | _=>none
def cX (f:List T→List T):List T→List Nat→Option (List T)
  | cs,[]=>some (f cs)
  | cs,o::q=>match cs[o]? with
    | some (.own s n cap a xs)=>match cX f xs q with
      | some jg=>some (cs.set o (.own s n cap a jg))
      | none=>none
    | _=>none
def bw (b:Option Nat):List T→List Nat→Option (Nat × Nat)
  | _,[]=>b.map fun k=>(k,0)
  | cs,o::q=>match cs[o]? with
    | some (.own _ _ _ a xs)=>(match q with | []=>a | _=>bw none xs q)
    | _=>none
theorem GR (q:List Nat):∀ cs:List T,j9 (aL cs) q=(ao cs q).map aL:=by
  induction q with
  | nil=>intro cs; rfl
  | cons o q ih=>
    intro cs
    simp only [j9,ao,gA]
    cases h:cs[o]? with
    | none=>simp
    | some t=>
      cases t with
      | v d u=>
        cases d<;>simp [T.er,aZ]
        rename_i g _ _ _
        cases g<;>simp
      | own s n cap a xs=>simp [T.er,ih]
theorem Te (q:List Nat) (o:Nat) (t:T):∀ cs:List T,nc (fun l=>l.set o t.er) (aL cs) q=(cX (fun l=>l.set o t) cs q).map aL:=by
  induction q with
  | nil=>intro cs; simp [nc,cX,GQ]
  | cons p q ih=>
    intro cs
    simp only [nc,cX,gA]
    cases h:cs[p]? with
    | none=>simp
    | some x=>
      cases x with
      | v d u=>
        cases d<;>simp [T.er,aZ]
        rename_i g _ _ _
        cases g<;>simp
      | own s n cap a xs=>
        simp only [Option.map_some,T.er,ih]
        cases hm:cX (fun l=>l.set o t) xs q with
        | none=>simp
        | some jg=>
          simp only [Option.map_some]
          rw [← GQ]; simp [T.er]
theorem GS {q:List Nat} {f:List T→List T}:∀ {cs l:List T},ao cs q=some l→∃ cs',cX f cs q=some cs':=by
  induction q with
  | nil=>intro cs l _; exact ⟨_,rfl⟩
  | cons p q ih=>
    intro cs l h
    simp only [ao] at h
    simp only [cX]
    cases hp:cs[p]? with
    | none=>simp [hp] at h
    | some x=>
      cases x with
      | v d u=>simp [hp] at h
      | own s n cap a xs=>
        simp only [hp] at h
        obtain ⟨jg,hx⟩:=ih h
        exact ⟨cs.set p (.own s n cap a jg),by simp [hx]⟩
theorem lL {q:List Nat} {f:List T→List T}:∀ {cs cs':List T},cX f cs q=some cs'→∃ l,ao cs q=some l∧ao cs' q=some (f l):=by
  induction q with
  | nil=>
    intro cs cs' h
    simp only [cX,Option.some.injEq] at h
    exact ⟨cs,rfl,by rw [← h]; rfl⟩
  | cons p q ih=>
    intro cs cs' h
    simp only [cX] at h
    cases hp:cs[p]? with
    | none=>simp [hp] at h
    | some x=>
      cases x with
      | v d u=>simp [hp] at h
      | own s n cap a xs=>
        simp only [hp] at h
        cases hm:cX f xs q with
        | none=>simp [hm] at h
        | some jg=>
          simp only [hm,Option.some.injEq] at h
          obtain ⟨l,h1,h2⟩:=ih hm
          refine ⟨l,by simp [ao,hp,h1],?_⟩
          have hl:p < cs.length:=(List.getElem?_eq_some_iff.1 hp).1
          rw [← h]
          simp [ao,hl,h2]
theorem kC {p:Nat} {q:List Nat} {f:List T→List T} {cs cs':List T} (h:cX f cs (p::q)=some cs'):av cs'=av cs∧cs'.length=cs.length:=by
  simp only [cX] at h
  cases hp:cs[p]? with
  | none=>simp [hp] at h
  | some x=>
    cases x with
    | v d u=>simp [hp] at h
    | own s n cap a xs=>
      simp only [hp] at h
      cases hm:cX f xs q with
      | none=>simp [hm] at h
      | some jg=>
        simp only [hm,Option.some.injEq] at h
        subst h
        obtain ⟨hl,hx⟩:=List.getElem?_eq_some_iff.1 hp
        refine ⟨?_,by simp⟩
        rw [nz]
        apply List.ext_getElem?
        intro j
        by_cases hj:p=j
        · subst hj
          rw [List.getElem?_set_self (by rw [bd]; exact hl),eD,hp]; rfl
        · simp [hj]
theorem df (cs:List T) (o:Nat) (t:T) (h:cs[o]?=some t):∃ A B,ad cs=A++t.ft++B∧∀ t':T,ad (cs.set o t')=A++t'.ft++B:=by
  induction cs generalizing o with
  | nil=>simp at h
  | cons x xs ih=>
    cases o with
    | zero=>
      simp only [List.getElem?_cons_zero,Option.some.injEq] at h
      subst h
      exact ⟨[],ad xs,by simp [ad],fun t'=>by simp [ad]⟩
    | succ o=>
      simp only [List.getElem?_cons_succ] at h
      obtain ⟨A,B,h1,h2⟩:=ih o h
      exact ⟨x.ft++A,B,by simp [ad,h1],fun t'=>by simp [ad,h2]⟩
theorem A4 {q:List Nat}:∀ {cs l:List T},ao cs q=some l→∃ A B,ad cs=A++ad l++B∧∀ f cs',cX f cs q=some cs'→ad cs'=A++ad (f l)++B:=by
  induction q with
  | nil=>
    intro cs l h
    simp only [ao,Option.some.injEq] at h
    subst h
    refine ⟨[],[],by simp,fun f cs' h=>?_⟩
    simp only [cX,Option.some.injEq] at h
    simp [← h]
  | cons p q ih=>
    intro cs l h
    simp only [ao] at h
    cases hp:cs[p]? with
    | none=>simp [hp] at h
    | some x=>
      cases x with
      | v d u=>simp [hp] at h
      | own s n cap a xs=>
        simp only [hp] at h
        obtain ⟨A,B,h1,h2⟩:=ih h
        obtain ⟨A',B',h3,h4⟩:=df cs p _ hp
        refine ⟨A'++hL a++A,B++B',by rw [h3]; simp [T.ft,h1],fun f cs' hm=>?_⟩
        simp only [cX,hp] at hm
        cases hx:cX f xs q with
        | none=>simp [hx] at hm
        | some jg=>
          simp only [hx,Option.some.injEq] at hm
          rw [← hm,h4]
          simp [T.ft,h2 f jg hx]
theorem KP {q:List Nat} {o:Nat} {cs l:List T} {t:T} (h:ao cs q=some l) (ht:l[o]?=some t):
    ∃ A B,ad cs=A++t.ft++B∧∀ t' cs',cX (fun l=>l.set o t') cs q=some cs'→ad cs'=A++t'.ft++B:=by
  obtain ⟨A,B,h1,h2⟩:=A4 h
  obtain ⟨A',B',h3,h4⟩:=df l o t ht
  refine ⟨A++A',B'++B,by rw [h1,h3]; simp,fun t' cs' hm=>?_⟩
  rw [h2 _ _ hm,h4]; simp
structure RT where
  box:Option Nat
  cs:List T
def RT.ft (r:RT):List Nat:=r.box.toList++ad r.cs
def cf:List (Nat × RT)→List Nat
  | []=>[]
  | (_,r)::t=>r.ft++cf t
theorem bX {α:Type} (l:List (Nat × α)) (k:Nat) (v:α):lk (pt l k v) k=some v:=by
  induction l with
  | nil=>simp [pt,lk]
  | cons e t ih=>
    obtain ⟨j,u⟩:=e
    simp only [pt]
    split
    · simp [lk]
    · rename_i h; simp [lk,h,ih]
theorem cU {α:Type} (l:List (Nat × α)) {k j:Nat} (v:α) (h:j≠k):lk (pt l k v) j=lk l j:=by
  induction l with
  | nil=>simp [pt,lk,Ne.symm h]
  | cons e t ih=>
    obtain ⟨i,u⟩:=e
    simp only [pt]
    split
    · rename_i hi; subst hi; simp [lk,Ne.symm h]
    · simp only [lk]; split<;>simp [ih]
theorem jj {α:Type} (l:List (Nat × α)) (k:Nat) (v:α):lk (pz l k v) k=some v:=by
  induction l with
  | nil=>simp [pz,lk]
  | cons e t ih=>
    obtain ⟨j,u⟩:=e
    simp only [pz]
    split
    · rename_i h; simp [lk,Nat.ne_of_lt h,ih]
    · split<;>simp [lk]
theorem pb {α:Type} (l:List (Nat × α)) {k j:Nat} (v:α) (h:j≠k):lk (pz l k v) j=lk l j:=by
  induction l with
  | nil=>simp [pz,lk,Ne.symm h]
  | cons e t ih=>
    obtain ⟨i,u⟩:=e
    simp only [pz]
    split
    · simp only [lk]; split<;>simp [ih]
    · split
      · rename_i hi; subst hi; simp [lk,Ne.symm h]
      · simp [lk,Ne.symm h]
def gj (l:List (Nat × List D)) (S:List (Nat × RT)):Prop:=∀ k,lk l k=(lk S k).map fun r=>aL r.cs
theorem yB {l:List (Nat × List D)} {S:List (Nat × RT)} (h:gj l S) (k:Nat) (r:RT):gj (pz l k (aL r.cs)) (pt S k r):=by
  intro j
  by_cases hj:j=k
  · subst hj; rw [jj,bX]; rfl
  · rw [pb _ _ hj,cU _ _ hj]; exact h j
theorem ka {S:List (Nat × RT)} {k:Nat} {r:RT} (h:lk S k=some r):∃ A B,cf S=A++r.ft++B∧∀ r',cf (pt S k r')=A++r'.ft++B:=by
  induction S with
  | nil=>simp [lk] at h
  | cons e t ih=>
    obtain ⟨j,u⟩:=e
    simp only [lk] at h
    by_cases hj:j=k
    · simp only [hj,if_true,Option.some.injEq] at h
      subst h
      exact ⟨[],cf t,by simp [cf],fun r'=>by simp [pt,hj,cf]⟩
    · simp only [hj,if_false] at h
      obtain ⟨A,B,h1,h2⟩:=ih h
      exact ⟨u.ft++A,B,by simp [cf,h1],fun r'=>by simp [pt,hj,cf,h2]⟩
theorem KQ {S:List (Nat × RT)} {k:Nat} (h:lk S k=none) (r:RT):cf (pt S k r)=cf S++r.ft:=by
  induction S with
  | nil=>simp [pt,cf]
  | cons e t ih=>
    obtain ⟨j,u⟩:=e
    simp only [lk] at h
    by_cases hj:j=k
    · simp [hj] at h
    · simp only [hj,if_false] at h
      simp [pt,hj,cf,ih h]
end Go.Proofs.Ytockoilcnmljiaa
namespace Go.Proofs.Ytockoilcnmljiaa
def Unf (fz:Nat × Nat) (n:Nat):Prop:=∀ o,o < n→¬ (fz.1≤o∧o < fz.2)
def jU (w:World) (b off eE:Nat) (us:List Value):Prop:=
  ∃ c e fz,w.heap[b]?=some (.cells c e fz)∧Unf fz c.size∧off+eE≤c.size∧∀ j u,us[j]?=some u→c[off+j]?=some u
mutual
def Ext (w:World) (X:Bool→Nat→Prop):D→Value→Prop
  | .int k n,u=>u=.int k n
  | .bool b,u=>u=.bool b
  | .str s,u=>u=.string s
  | .nil _,u=>u=.slice none 0 0
  | .undef,_=>True
  | .hole _ _,_=>True
  | .sl (some g) s n cs,u=>∃ base cap us,u=.slice base n cap∧n≤cap∧cs.length=n*s∧fo w X cs us∧
      (cs=[]∨∃ k off c e fz,base=some ⟨k,off,none⟩∧X g k∧w.heap[k]?=some (.cells c e fz)∧∀ j v,us[j]?=some v→c[off+j]?=some v)
  | _,_=>False
def fo (w:World) (X:Bool→Nat→Prop):List D→List Value→Prop
  | [],us=>us=[]
  | d::ds,us=>∃ v vs,us=v::vs∧Ext w X d v∧fo w X ds vs
end
mutual
def aT (w:World) (X:Bool→Nat→Prop):T→Prop
  | .v d u=>Ext w X (aZ d) u
  | .own s n cap a cs=>n≤cap∧cs.length=n*s∧(match a with | none=>n=0∧cap=0 | some (b,off)=>jU w b off (cap*s) (av cs))∧aU w X cs
def aU (w:World) (X:Bool→Nat→Prop):List T→Prop
  | []=>True
  | t::ts=>aT w X t∧aU w X ts
end
section
variable {w w':World} {X X':Bool→Nat→Prop}
mutual
theorem fE (h:∀ b k,X b k→X' b k∧w'.heap[k]?=w.heap[k]?):∀ (d:D) (u:Value),Ext w X d u→Ext w' X' d u
  | .int _ _,_,hu=>hu
  | .bool _,_,hu=>hu
  | .str _,_,hu=>hu
  | .nil _,_,hu=>hu
  | .undef,_,_=>trivial
  | .hole _ _,_,_=>trivial
  | .sl (some g) s n cs,u,hu=>by
    simp only [Ext] at hu ⊢
    obtain ⟨base,cap,us,h1,mN,h2,h3,h4⟩:=hu
    refine ⟨base,cap,us,h1,mN,h2,pW h cs us h3,?_⟩
    rcases h4 with h4 | ⟨k,off,c,e,fz,h5,h6,h7,h8⟩
    · exact .inl h4
    · exact .inr ⟨k,off,c,e,fz,h5,(h g k h6).1,by rw [(h g k h6).2]; exact h7,h8⟩
  | .sl none _ _ _,_,hu=>by simp [Ext] at hu
  | .ref ..,_,hu=>by simp [Ext] at hu
  | .agg _,_,hu=>by simp [Ext] at hu
  | .aQ _,_,hu=>by simp [Ext] at hu
  | .fn ..,_,hu=>by simp [Ext] at hu
  | .ptr ..,_,hu=>by simp [Ext] at hu
  | .cZ ..,_,hu=>by simp [Ext] at hu
  | .aJ _,_,hu=>by simp [Ext] at hu
theorem pW (h:∀ b k,X b k→X' b k∧w'.heap[k]?=w.heap[k]?):∀ (ds:List D) (us:List Value),fo w X ds us→fo w' X' ds us
  | [],_,hu=>hu
  | d::ds,us,hu=>by
    simp only [fo] at hu ⊢
    obtain ⟨v,vs,h1,h2,h3⟩:=hu
    exact ⟨v,vs,h1,fE h d v h2,pW h ds vs h3⟩
end
mutual
theorem c9 (h:∀ b k,X b k→X' b k∧w'.heap[k]?=w.heap[k]?):∀ (t:T),aT w X t→(∀ k∈t.ft,w'.heap[k]?=w.heap[k]?)→aT w' X' t
  | .v d u,hs,_=>by simp only [aT] at hs ⊢; exact fE h _ _ hs
  | .own s n cap a cs,hs,hf=>by
    simp only [aT] at hs ⊢
    obtain ⟨h1,h2,h3,h4⟩:=hs
    refine ⟨h1,h2,?_,fG h cs h4 (fun k hk=>hf k (by simp [T.ft,hk]))⟩
    cases a with
    | none=>exact h3
    | some p=>
      obtain ⟨b,off⟩:=p
      obtain ⟨c,e,fz,hb,hr⟩:=h3
      exact ⟨c,e,fz,by rw [hf b (by simp [T.ft,hL])]; exact hb,hr⟩
theorem fG (h:∀ b k,X b k→X' b k∧w'.heap[k]?=w.heap[k]?):∀ (ts:List T),aU w X ts→(∀ k∈ad ts,w'.heap[k]?=w.heap[k]?)→aU w' X' ts
  | [],_,_=>by simp [aU]
  | t::ts,hs,hf=>by
    simp only [aU] at hs ⊢
    exact ⟨c9 h t hs.1 (fun k hk=>hf k (by simp [ad,hk])),fG h ts hs.2 (fun k hk=>hf k (by simp [ad,hk]))⟩
end
end
theorem bL {w:World} {X:Bool→Nat→Prop} (ts:List T):aU w X ts↔∀ t∈ts,aT w X t:=by
  induction ts with
  | nil=>simp [aU]
  | cons t ts ih=>simp [aU,ih]
theorem fb {w:World} {X:Bool→Nat→Prop} {ts:List T} (h:aU w X ts) {o:Nat} {t:T} (ho:ts[o]?=some t):aT w X t:=
  (bL ts).1 h t (List.mem_of_getElem? ho)
theorem GU {w:World} {X:Bool→Nat→Prop} {ts:List T} (h:aU w X ts) (o:Nat) {t:T} (ht:aT w X t):aU w X (ts.set o t):=by
  rw [bL] at h ⊢
  intro x hx
  rcases List.mem_or_eq_of_mem_set hx with hx | rfl
  · exact h x hx
  · exact ht
theorem da {w:World} {X:Bool→Nat→Prop} (a b:List T):aU w X (a++b)↔aU w X a∧aU w X b:=by
  rw [bL,bL,bL]
  simp only [List.mem_append]
  exact ⟨fun h=>⟨fun t ht=>h t (.inl ht),fun t ht=>h t (.inr ht)⟩,fun h t ht=>ht.elim (h.1 t) (h.2 t)⟩
theorem tl {w:World} {X:Bool→Nat→Prop} {q:List Nat}:∀ {cs l:List T},aU w X cs→ao cs q=some l→aU w X l:=by
  induction q with
  | nil=>
    intro cs l h hc
    simp only [ao,Option.some.injEq] at hc
    exact hc▸h
  | cons p q ih=>
    intro cs l h hc
    simp only [ao] at hc
    cases hp:cs[p]? with
    | none=>simp [hp] at hc
    | some x=>
      cases x with
      | v d u=>simp [hp] at hc
      | own s n cap a xs=>
        simp only [hp] at hc
        have:=fb h hp
        simp only [aT] at this
        exact ih this.2.2.2 hc
theorem Rr {w:World} {X:Bool→Nat→Prop} {o:Nat} {t t':T} (ht:aT w X t') (hv:t'.val=t.val) {q:List Nat}:∀ {cs cs' l:List T},aU w X cs→ao cs q=some l→l[o]?=some t→
    cX (fun l=>l.set o t') cs q=some cs'→aU w X cs'∧av cs'=av cs:=by
  induction q with
  | nil=>
    intro cs cs' l h hc ho hm
    simp only [ao,Option.some.injEq] at hc
    simp only [cX,Option.some.injEq] at hm
    subst hc; subst hm
    refine ⟨GU h o ht,?_⟩
    rw [nz,hv]
    apply List.ext_getElem?
    intro j
    by_cases hj:o=j
    · subst hj
      obtain ⟨hl,_⟩:=List.getElem?_eq_some_iff.1 ho
      rw [List.getElem?_set_self (by rw [bd]; exact hl),eD,ho]; rfl
    · rw [List.getElem?_set_ne hj]
  | cons p q ih=>
    intro cs cs' l h hc ho hm
    refine ⟨?_,(kC hm).1⟩
    simp only [ao] at hc
    simp only [cX] at hm
    cases hp:cs[p]? with
    | none=>simp [hp] at hc
    | some x=>
      cases x with
      | v d u=>simp [hp] at hc
      | own s n cap a xs=>
        simp only [hp] at hc hm
        cases hx:cX (fun l=>l.set o t') xs q with
        | none=>simp [hx] at hm
        | some jg=>
          simp only [hx,Option.some.injEq] at hm
          have hs:=fb h hp
          simp only [aT] at hs
          obtain ⟨h1,h2,h3,h4⟩:=hs
          obtain ⟨h5,h6⟩:=ih h4 hc ho hx
          have hl:jg.length=xs.length:=by have:=congrArg List.length h6; simpa [bd] using this
          rw [← hm]
          refine GU h p ?_
          simp only [aT]
          exact ⟨h1,by rw [hl]; exact h2,by rw [h6]; exact h3,h5⟩
def JN (w w':World) (b i:Nat) (u:Value):Prop:=
  ∃ c e fz,w.heap[b]?=some (.cells c e fz)∧w'.heap[b]?=some (.cells (c.setIfInBounds i u) e fz)∧∀ k,k≠b→w'.heap[k]?=w.heap[k]?
theorem JO {w w':World} {b i:Nat} {u:Value} (hu:JN w w' b i u) {off eE o:Nat} {us:List Value} (hi:i=off+o) (hb:jU w b off eE us) (Oo:us.length≤eE):jU w' b off eE (us.set o u):=by
  obtain ⟨c,e,fz,h1,h2,h3⟩:=hu
  obtain ⟨c',e',fz',h4,h5,h6,h7⟩:=hb
  rw [h4] at h1
  simp only [Option.some.injEq,Obj.cells.injEq] at h1
  obtain ⟨rfl,rfl,rfl⟩:=h1
  refine ⟨_,e',fz',h2,by simpa using h5,by simpa using h6,fun j v hj=>?_⟩
  subst hi
  by_cases D3:o=j
  · subst D3
    by_cases hl:o < us.length
    · rw [List.getElem?_set_self hl] at hj
      have cJ:off+o < c'.size:=by omega
      rw [Array.getElem?_setIfInBounds_self_of_lt cJ]; exact hj
    · rw [List.getElem?_eq_none (by simpa using hl)] at hj
      simp at hj
  · rw [List.getElem?_set_ne D3] at hj
    rw [Array.getElem?_setIfInBounds_ne (by omega)]
    exact h7 j v hj
theorem Cy {w w':World} {b k i:Nat} {u:Value} (hu:JN w w' b i u) (hk:k≠b) {off eE:Nat} {us:List Value} (hb:jU w k off eE us):jU w' k off eE us:=by
  obtain ⟨c,e,fz,h1,h2⟩:=hb
  obtain ⟨_,_,_,_,_,h3⟩:=hu
  exact ⟨c,e,fz,by rw [h3 k hk]; exact h1,h2⟩
theorem pc {q:List Nat}:∀ {cs:List T} {bx:Option Nat} {p b off:Nat},bw bx cs (p::q)=some (b,off)→b∈ad cs:=by
  induction q with
  | nil=>
    intro cs bx p b off h
    simp only [bw] at h
    cases hp:cs[p]? with
    | none=>simp [hp] at h
    | some x=>
      cases x with
      | v d u=>simp [hp] at h
      | own s n cap a xs=>
        simp only [hp] at h
        obtain ⟨A,B,h1,_⟩:=df cs p _ hp
        rw [h1,T.ft,h]; simp [hL]
  | cons p' q ih=>
    intro cs bx p b off h
    rw [bw] at h
    cases hp:cs[p]? with
    | none=>simp [hp] at h
    | some x=>
      cases x with
      | v d u=>simp [hp] at h
      | own s n cap a xs=>
        simp only [hp] at h
        obtain ⟨A,B,h1,_⟩:=df cs p _ hp
        have:=ih h
        rw [h1,T.ft]; simp [this]
theorem Rs {w w':World} {X X':Bool→Nat→Prop} {o b off:Nat} {t':T} (hX:∀ b k,X b k→X' b k∧w'.heap[k]?=w.heap[k]?) (ht:aT w' X' t') (hu:JN w w' b (off+o) t'.val) {q:List Nat}:
    ∀ {cs cs' l:List T} {bx:Option Nat} {p:Nat},aU w X cs→(ad cs).Nodup→ao cs (p::q)=some l→bw bx cs (p::q)=some (b,off)→o < l.length→
    cX (fun l=>l.set o t') cs (p::q)=some cs'→aU w' X' cs':=by
  have zY:∀ t:T,aT w X t→b∉t.ft→aT w' X' t:=fun t h hb=>c9 hX t h (fun k hk=>by
    obtain ⟨_,_,_,_,_,h3⟩:=hu
    exact h3 k (fun e=>hb (e▸hk)))
  induction q with
  | nil=>
    intro cs cs' l bx p h hn hc ha ho hm
    simp only [ao,cX,bw] at hc hm ha
    cases hp:cs[p]? with
    | none=>simp [hp] at hc
    | some x=>
      cases x with
      | v d u=>simp [hp] at hc
      | own s n cap a xs=>
        simp only [hp,Option.some.injEq] at hc hm ha
        subst hc; subst ha; subst hm
        obtain ⟨A,B,h1,h2⟩:=df cs p _ hp
        rw [h1] at hn
        have hs:=fb h hp
        simp only [aT] at hs
        obtain ⟨h3,h4,h5,h6⟩:=hs
        have JP:(T.own s n cap (some (b,off)) xs).ft.Nodup:=((List.nodup_append.1 (List.nodup_append.1 hn).1).2.1)
        simp only [T.ft,hL,List.cons_append,List.nil_append,List.nodup_cons] at JP
        rw [bL]
        intro t cF
        obtain ⟨j,hj⟩:=List.mem_iff_getElem?.1 cF
        by_cases qN:p=j
        · subst qN
          rw [List.getElem?_set_self (List.getElem?_eq_some_iff.1 hp).1,Option.some.injEq] at hj
          subst hj
          simp only [aT]
          refine ⟨h3,by simpa using h4,?_,?_⟩
          · rw [nz]
            exact JO hu rfl h5 (by rw [bd,h4]; exact Nat.mul_le_mul_right _ h3)
          · rw [bL]
            intro y hy
            obtain ⟨i,hi⟩:=List.mem_iff_getElem?.1 hy
            by_cases XG:o=i
            · subst XG
              rw [List.getElem?_set_self ho,Option.some.injEq] at hi
              exact hi▸ht
            · rw [List.getElem?_set_ne XG] at hi
              refine zY y (fb h6 hi) (fun hb=>JP.1 ?_)
              obtain ⟨A',B',e1,_⟩:=df xs i _ hi
              rw [e1]; simp [hb]
        · rw [List.getElem?_set_ne qN] at hj
          refine zY t (fb h hj) (fun hb=>?_)
          have:b∈(T.own s n cap (some (b,off)) xs).ft:=by simp [T.ft,hL]
          rcases Nat.lt_or_gt_of_ne qN with cJ | cJ
          · have h7:=h2 (.v .undef undef)
            have A5:(cs.set p (.v .undef undef))[j]?=some t:=by rw [List.getElem?_set_ne qN]; exact hj
            obtain ⟨A',B',e1,_⟩:=df _ j t A5
            have fg:b∈ad (cs.set p (.v .undef undef)):=by rw [e1]; simp [hb]
            rw [h7] at fg
            simp only [T.ft,List.append_nil,List.mem_append] at fg
            rw [List.nodup_append,List.nodup_append] at hn
            rcases fg with fg | fg
            · exact hn.1.2.2 b fg b this rfl
            · exact hn.2.2 b (List.mem_append.2 (.inr this)) b fg rfl
          · have h7:=h2 (.v .undef undef)
            have A5:(cs.set p (.v .undef undef))[j]?=some t:=by rw [List.getElem?_set_ne qN]; exact hj
            obtain ⟨A',B',e1,_⟩:=df _ j t A5
            have fg:b∈ad (cs.set p (.v .undef undef)):=by rw [e1]; simp [hb]
            rw [h7] at fg
            simp only [T.ft,List.append_nil,List.mem_append] at fg
            rw [List.nodup_append,List.nodup_append] at hn
            rcases fg with fg | fg
            · exact hn.1.2.2 b fg b this rfl
            · exact hn.2.2 b (List.mem_append.2 (.inr this)) b fg rfl
  | cons p' q ih=>
    intro cs cs' l bx p h hn hc ha ho hm
    rw [ao] at hc
    rw [cX] at hm
    rw [bw] at ha
    cases hp:cs[p]? with
    | none=>simp [hp] at hc
    | some x=>
      cases x with
      | v d u=>simp [hp] at hc
      | own s n cap a xs=>
        simp only [hp] at hc hm ha
        cases hx:cX (fun l=>l.set o t') xs (p'::q) with
        | none=>simp [hx] at hm
        | some jg=>
          simp only [hx,Option.some.injEq] at hm
          subst hm
          obtain ⟨A,B,h1,h2⟩:=df cs p _ hp
          rw [h1] at hn
          have hs:=fb h hp
          simp only [aT] at hs
          obtain ⟨h3,h4,h5,h6⟩:=hs
          have JP:(T.own s n cap a xs).ft.Nodup:=((List.nodup_append.1 (List.nodup_append.1 hn).1).2.1)
          have hb:=pc ha
          have Qs:b∈(T.own s n cap a xs).ft:=by simp [T.ft,hb]
          simp only [T.ft] at JP
          have hnx:=(List.nodup_append.1 JP).2.1
          obtain ⟨hv,hl⟩:=kC hx
          have hsx:=ih h6 hnx hc ha ho hx
          rw [bL]
          intro t cF
          obtain ⟨j,hj⟩:=List.mem_iff_getElem?.1 cF
          by_cases qN:p=j
          · subst qN
            rw [List.getElem?_set_self (List.getElem?_eq_some_iff.1 hp).1,Option.some.injEq] at hj
            subst hj
            simp only [aT]
            refine ⟨h3,by rw [hl]; exact h4,?_,hsx⟩
            cases a with
            | none=>exact h5
            | some pa=>
              obtain ⟨b1,adr⟩:=pa
              rw [hv]
              refine Cy hu (fun e=>?_) h5
              exact (List.nodup_append.1 JP).2.2 b1 (by simp [hL]) b hb e
          · rw [List.getElem?_set_ne qN] at hj
            refine zY t (fb h hj) (fun wO=>?_)
            have h7:=h2 (.v .undef undef)
            have A5:(cs.set p (.v .undef undef))[j]?=some t:=by rw [List.getElem?_set_ne qN]; exact hj
            obtain ⟨A',B',e1,_⟩:=df _ j t A5
            have fg:b∈ad (cs.set p (.v .undef undef)):=by rw [e1]; simp [wO]
            rw [h7] at fg
            simp only [T.ft,List.append_nil,List.mem_append] at fg
            rw [List.nodup_append,List.nodup_append] at hn
            rcases fg with fg | fg
            · exact hn.1.2.2 b fg b Qs rfl
            · exact hn.2.2 b (List.mem_append.2 (.inr Qs)) b fg rfl
end Go.Proofs.Ytockoilcnmljiaa
namespace Go.Proofs.Ytockoilcnmljiaa
inductive bC {α β:Type} (R:α→β→Prop):List α→List β→Prop
  | nil:bC R [] []
  | cons {a b as9 bs}:R a b→bC R as9 bs→bC R (a::as9) (b::bs)
def bT (S:List (Nat × RT)) (r:Nat) (q:List Nat) (o:Nat):Option T:=
  match lk S r with
  | some R=>match ao R.cs q with
    | some l=>l[o]?
    | none=>none
  | none=>none
def dZ (x:Option (Nat × Nat)) (t:T) (u:Value):Prop:=
  match sn t.er with
  | some (s,n)=>match x with
    | none=>u=t.val
    | some (l,m)=>l+m≤n∧∃ base C k,t.val=.slice base n C∧k≤C∧u=.slice (base.map (·.add (k*s))) m (C - l)∧(C - l=0∨k=l)
  | none=>True
def aN (w:World) (X:Bool→Nat→Prop) (S:List (Nat × RT)):D→Value→Prop
  | .ref r q o x,u=>∀ t,bT S r q o=some t→dZ x t u
  | .ptr r q o,u=>∀ R,lk S r=some R→(q=[]→R.box.isSome)∧∀ b off,bw R.box R.cs q=some (b,off)→u=.pointer (some ⟨b,off+o,none⟩)
  | .cZ cs o,u=>∃ b off c e fz us,u=.pointer (some ⟨b,off+o,none⟩)∧X true b∧w.heap[b]?=some (.cells c e fz)∧fo w X cs us∧∀ j v,us[j]?=some v→c[off+j]?=some v
  | d,u=>Ext w X d u
def fN (w:World) (X:Bool→Nat→Prop) (S:List (Nat × RT)):D→Value→Prop
  | .agg cs,u=>∃ us,u=.agg us∧bC (aN w X S) cs us.toList
  | .fn f cs,u=>∃ us,u=.func (.func f) #[] us∧bC (aN w X S) cs us.toList
  | d,u=>aN w X S d u
def bR (w:World) (X:Bool→Nat→Prop) (S:List (Nat × RT)):D→Value→Prop
  | .aQ ds,u=>∃ us,u=.tuple us∧bC (fN w X S) ds us.toList
  | d,u=>fN w X S d u
def hM (w:World) (X:Bool→Nat→Prop) (S:List (Nat × RT)) (b:Bool):T→Prop
  | .v d u=>Ext w X (aZ d) u∨(b=true∧aN w X S (aZ d) u)
  | t=>aT w X t
def GV (w:World) (X:Bool→Nat→Prop) (S:List (Nat × RT)) (R:RT):Prop:=
  (match R.box with | some b=>jU w b 0 R.cs.length (av R.cs) | none=>True)∧∀ t∈R.cs,hM w X S R.box.isSome t
structure Ctx where
  w0:World
  FA:List Nat
  Y:Nat→Prop
  P0:List (Nat × Option Nat × List Value)
def ab (C:Ctx) (w:World) (S:List (Nat × RT)) (H:List T) (b:Bool) (k:Nat):Prop:=
  k < w.heap.size∧k∉cf S∧k∉ad H∧(b=false→C.Y k∨k∈C.FA∨C.w0.heap.size≤k)
structure Mem (C:Ctx) (w:World) (S:List (Nat × RT)) (H:List T):Prop where
  nd:(cf S++ad H).Nodup
  root:∀ r R,lk S r=some R→GV w (ab C w S H) S R
  hand:aU w (ab C w S H) H
  lt:∀ k∈cf S++ad H,k < w.heap.size
def ku (w:World) (X:Bool→Nat→Prop) (S:List (Nat × RT)) (tm:List (Nat × D)) (vs:Array Value):Prop:=
  ∀ t,bR w X S ((lk tm t).getD .undef) (vs.getD t undef)
structure Kept (C:Ctx) (w:World) (S:List (Nat × RT)) (H:List T):Prop where
  os:w.os=C.w0.os
  tape:w.tape=C.w0.tape
  output:w.output=C.w0.output
  size:C.w0.heap.size≤w.heap.size
  block:∀ k,k < C.w0.heap.size→k∉C.FA→w.heap[k]?=C.w0.heap[k]?
  gJ:∀ k∈cf S++ad H,k∈C.FA∨C.w0.heap.size≤k
  par:∀ r b vs,(r,b,vs)∈C.P0→∀ R,lk S r=some R→R.box=b∧(b=none→av R.cs=vs)
structure Rel (C:Ctx) (H:List T) (w:World) (st:St) (ay:List (Array Value)) (S:List (Nat × RT)):Prop where
  rt:gj st.rt S
  mem:Mem C w S H
  mO:bC (ku w (ab C w S H) S) (st.tm::st.up) ay
  kept:Kept C w S H
theorem Cz (st:St) (S:List (Nat × RT)) (h:gj st.rt S) (r:Nat) (q:List Nat) (o:Nat):st.cell r q o=(bT S r q o).map T.er:=by
  unfold St.cell St.cells bT
  rw [h]
  cases lk S r with
  | none=>rfl
  | some R=>
    simp only [Option.map_some,GR]
    cases ao R.cs q with
    | none=>rfl
    | some l=>simp [gA]
theorem rH (st:St) (S:List (Nat × RT)) (h:gj st.rt S) {r:Nat} {q:List Nat} {cs:List D} (hc:st.cells r q=some cs):∃ R l,lk S r=some R∧ao R.cs q=some l∧cs=aL l:=by
  unfold St.cells at hc
  rw [h] at hc
  cases hr:lk S r with
  | none=>simp [hr] at hc
  | some R=>
    simp only [hr,Option.map_some,GR] at hc
    cases hl:ao R.cs q with
    | none=>simp [hl] at hc
    | some l=>
      simp only [hl,Option.map_some,Option.some.injEq] at hc
      exact ⟨R,l,rfl,hl,hc.symm⟩
theorem gR {st:St} {S:List (Nat × RT)} (h:gj st.rt S) {r:Nat} {q:List Nat} {o:Nat} {d:D} (hc:st.cell r q o=some d):∃ R l t,lk S r=some R∧ao R.cs q=some l∧l[o]?=some t∧bT S r q o=some t∧d=t.er:=by
  rw [Cz st S h] at hc
  cases ht:bT S r q o with
  | none=>simp [ht] at hc
  | some t=>
    simp only [ht,Option.map_some,Option.some.injEq] at hc
    unfold bT at ht
    cases hr:lk S r with
    | none=>simp [hr] at ht
    | some R=>
      simp only [hr] at ht
      cases hl:ao R.cs q with
      | none=>simp [hl] at ht
      | some l=>
        simp only [hl] at ht
        exact ⟨R,l,t,rfl,hl,ht,rfl,hc.symm⟩
theorem bC.len {α β:Type} {R:α→β→Prop} {as9:List α} {bs:List β} (h:bC R as9 bs):as9.length=bs.length:=by
  induction h with
  | nil=>rfl
  | cons _ _ ih=>simp [ih]
theorem bC.get {α β:Type} {R:α→β→Prop} {as9:List α} {bs:List β} (h:bC R as9 bs):∀ {i:Nat} {a:α},as9[i]?=some a→∃ b,bs[i]?=some b∧R a b:=by
  induction h with
  | nil=>intro i a h; simp at h
  | cons h1 _ ih=>
    intro i a h
    cases i with
    | zero=>simp only [List.getElem?_cons_zero,Option.some.injEq] at h; exact ⟨_,rfl,h▸h1⟩
    | succ i=>simp only [List.getElem?_cons_succ] at h ⊢; exact ih h
theorem bC.mono {α β:Type} {R R':α→β→Prop} {as9:List α} {bs:List β} (h:bC R as9 bs) (hr:∀ a b,R a b→R' a b):bC R' as9 bs:=by
  induction h with
  | nil=>exact .nil
  | cons h1 _ ih=>exact .cons (hr _ _ h1) ih
theorem bC.map {α α' β:Type} {R:α→β→Prop} {R':α'→β→Prop} {as9:List α} {bs:List β} (h:bC R as9 bs) (f:α→α') (hr:∀ a b,R a b→R' (f a) b):bC R' (as9.map f) bs:=by
  induction h with
  | nil=>exact .nil
  | cons h1 _ ih=>exact .cons (hr _ _ h1) ih
theorem bC.app {α β:Type} {R:α→β→Prop} {as9 bP:List α} {bs Qt:List β} (h:bC R as9 bs) (h':bC R bP Qt):bC R (as9++bP) (bs++Qt):=by
  induction h with
  | nil=>exact h'
  | cons h1 _ ih=>exact .cons h1 ih
theorem bC.drop {α β:Type} {R:α→β→Prop} {as9:List α} {bs:List β} (h:bC R as9 bs):∀ n,bC R (as9.drop n) (bs.drop n):=by
  induction h with
  | nil=>intro n; simp; exact .nil
  | cons h1 h2 ih=>
    intro n
    cases n with
    | zero=>exact .cons h1 h2
    | succ n=>simpa using ih n
theorem bC.take {α β:Type} {R:α→β→Prop} {as9:List α} {bs:List β} (h:bC R as9 bs):∀ n,bC R (as9.take n) (bs.take n):=by
  induction h with
  | nil=>intro n; simp; exact .nil
  | cons h1 h2 ih=>
    intro n
    cases n with
    | zero=>exact .nil
    | succ n=>exact .cons h1 (ih n)
theorem cL {α β:Type} {R:α→β→Prop}:∀ {as9:List α} {bs:List β},as9.length=bs.length→(∀ (i:Nat) a b,as9[i]?=some a→bs[i]?=some b→R a b)→bC R as9 bs
  | [],[],_,_=>.nil
  | a::as9,b::bs,h,hr=>.cons (hr 0 a b rfl rfl) (cL (by simpa using h) (fun i a b ha hb=>hr (i+1) a b (by simpa using ha) (by simpa using hb)))
  | [],_::_,h,_=>by simp at h
  | _::_,[],h,_=>by simp at h
theorem gg {w:World} {X:Bool→Nat→Prop} (ds:List D):∀ us,fo w X ds us↔bC (Ext w X) ds us:=by
  induction ds with
  | nil=>intro us; simp only [fo]; exact ⟨fun h=>h▸.nil,fun h=>by cases h; rfl⟩
  | cons d ds ih=>
    intro us
    simp only [fo]
    constructor
    · rintro ⟨v,vs,rfl,h1,h2⟩
      exact .cons h1 ((ih vs).1 h2)
    · intro h
      cases h with
      | cons h1 h2=>exact ⟨_,_,rfl,h1,(ih _).2 h2⟩
theorem eQ {w:World} {X:Bool→Nat→Prop} {S:List (Nat × RT)}:∀ {d:D} {u:Value},Ext w X d u→aN w X S d u
  | .int ..,_,h=>h
  | .bool ..,_,h=>h
  | .str ..,_,h=>h
  | .nil ..,_,h=>h
  | .undef,_,h=>h
  | .hole ..,_,h=>h
  | .sl ..,_,h=>h
  | .ref ..,_,h=>by simp [Ext] at h
  | .agg ..,_,h=>by simp [Ext] at h
  | .aQ ..,_,h=>by simp [Ext] at h
  | .fn ..,_,h=>by simp [Ext] at h
  | .ptr ..,_,h=>by simp [Ext] at h
  | .cZ ..,_,h=>by simp [Ext] at h
  | .aJ ..,_,h=>by simp [Ext] at h
theorem dF {w:World} {X:Bool→Nat→Prop} {S:List (Nat × RT)} {d:D} {u:Value} (h:aN w X S d u):fN w X S d u:=by
  cases d<;>first | exact h | (simp [aN,Ext] at h)
theorem jk {w:World} {X:Bool→Nat→Prop} {S:List (Nat × RT)} {d:D} {u:Value} (h:fN w X S d u):bR w X S d u:=by
  cases d<;>first | exact h | (simp [fN,aN,Ext] at h)
theorem kD {w:World} {X:Bool→Nat→Prop} {S:List (Nat × RT)} {d:D} {u:Value} (h:aN w X S d u):bR w X S d u:=jk (dF h)
theorem A6 {w:World} {X:Bool→Nat→Prop} {S:List (Nat × RT)} {d:D} {u:Value} (h:Ext w X d u):bR w X S d u:=kD (eQ h)
theorem kv {w:World} {X:Bool→Nat→Prop} {S:List (Nat × RT)} (u:Value):bR w X S .undef u:=A6 (by simp [Ext])
theorem Oq (vs:Array Value) (d t:Nat) (v:Value):(vs.setIfInBounds d v).getD t undef=if d=t∧d < vs.size then v else vs.getD t undef:=by
  rw [Array.getD_eq_getD_getElem?,Array.getD_eq_getD_getElem?,Array.getElem?_setIfInBounds]
  by_cases h:d=t
  · subst h
    by_cases hd:d < vs.size
    · simp [hd]
    · simp [hd]
  · simp [h]
theorem ku.put {w:World} {X:Bool→Nat→Prop} {S:List (Nat × RT)} {tm:List (Nat × D)} {vs:Array Value} (h:ku w X S tm vs) {t:Nat} (ht:t < vs.size) {d:D} {v:Value} (hv:bR w X S d v):ku w X S (pz tm t d) (vs.setIfInBounds t v):=by
  intro i
  rw [Oq]
  by_cases hi:t=i
  · subst hi
    rw [jj]; simpa [ht] using hv
  · rw [pb _ _ (Ne.symm hi)]; simpa [hi] using h i
end Go.Proofs.Ytockoilcnmljiaa
namespace Go.Proofs.Ytockoilcnmljiaa
def JQ (d:D) (u:Value):Prop:=∀ w X,Ext w X d u
def Ot:TypeDesc→Bool
  | .struct _ | .array _ _=>true
  | _=>false
def jl (P:Program):Ty→TypeDesc→Prop
  | .int k,d=>d=.int k
  | .bool,d=>d=.bool
  | .str,d=>d=.string
  | .slice e,d=>d=.slice e
  | .array n e,d=>d=.array n e
  | .struct j8 szs,d=>∃ fs,d=.struct fs∧j8=fs.toList.map (·.offset)∧szs.length=fs.toList.length∧∀ (j:Nat) (f:Field),fs.toList[j]?=some f→∃ i,P.info? f.type=some i∧i.size≠0∧szs[j]?=some i.size
  | .ptr e,d=>d=.pointer e
  | .fn,d=>Ot d=false
  | .other,d=>Ot d=false
structure zZ (P:Program) (t:TypeId) (ti:TI):Prop where
  info:∃ i,P.info? t=some i∧i.size=ti.size∧i.bytes=ti.bytes∧∃ z,i.zero=some z∧bC JQ ti.zero z.cells.toList
  desc:∃ d,P.underlying t=some d∧jl P ti.ty d
  len:ti.zero.length=ti.size
structure dG (c:bU) (P:Program):Prop where
  ty:∀ t ti,c.ty t=some ti→zZ P t ti
section
variable {P:Program} {w:World}
theorem L9 {t:TypeId} {i:TypeInfo} (h:P.info? t=some i) (w:World):(typeInfo t).run P w=.ok i w:=by simp [typeInfo,h]
theorem Ma {t:TypeId} {i:TypeInfo} (h:P.info? t=some i) (w:World):(Go.sizeOf t).run P w=Result.ok i.size w:=by
  simp [Go.sizeOf,L9 h]
theorem GW {t:TypeId} {i:TypeInfo} {z:Value} (h:P.info? t=some i) (hz:i.zero=some z) (w:World):(zeroValue t).run P w=.ok z w:=by
  simp [zeroValue,L9 h,hz]
theorem zZ.sz {t:TypeId} {ti:TI} (h:zZ P t ti) (w:World):(Go.sizeOf t).run P w=Result.ok ti.size w:=by
  obtain ⟨i,h1,h2,_⟩:=h.info
  rw [Ma h1,h2]
theorem Rt {ty:Ty} {d:TypeDesc} (h:jl P ty d):Ot d=jd ty:=by
  cases ty<;>simp only [jl] at h<;>first | (subst h; rfl) | (obtain ⟨fs,rfl,_⟩:=h; rfl) | (rw [h]; rfl)
theorem zZ.agg {t:TypeId} {ti:TI} (h:zZ P t ti) (w:World):(isAgg t).run P w=.ok (jd ti.ty) w:=by
  obtain ⟨d,h1,h2⟩:=h.desc
  simp only [isAgg,Sem.run_bind,run_underlying h1,Result.andThen_ok]
  rw [← Rt h2]
  cases d<;>rfl
end
section
variable {P:Program} {o:Oper} {a:Act} {w:World} {K:Act→World→Prop} {Q:Exit→Act→World→Prop}
theorem nn {v:Value} {w':World} (h:(execOp a.eval o).run P w=.ok (.value v) w') (hk:K (a.put o.dst v) w'):o.wp P a w K Q:=by
  unfold Oper.wp; rw [h]; exact hk
theorem KR {w':World} (h:(execOp a.eval o).run P w=.ok .skip w') (hk:K (a.put o.dst undef) w'):o.wp P a w K Q:=by
  unfold Oper.wp; rw [h]; exact hk
end
theorem ek (b off k:Nat):(⟨b,off,none⟩:Addr).add k=⟨b,off+k,none⟩:=by
  unfold Addr.add; split
  · rename_i h; subst h; rfl
  · rfl
theorem rI {w:World} {b off eE:Nat} {us:List Value} (h:jU w b off eE us) {j:Nat} {u:Value} (hj:us[j]?=some u):w.cell? ⟨b,off+j,none⟩=some u:=by
  obtain ⟨c,e,fz,h1,_,_,h4⟩:=h
  simp [World.cell?,h1,h4 j u hj]
theorem A7 {w:World} {b off eE:Nat} {us:List Value} (h:jU w b off eE us) {j:Nat} (hj:j < eE):w.frozen? ⟨b,off+j,none⟩=false:=by
  obtain ⟨c,e,fz,h1,h2,h3,_⟩:=h
  have:=h2 (off+j) (by omega)
  simp only [World.frozen?,h1]
  simpa using this
theorem A8 {w:World} {b off eE:Nat} {us:List Value} (h:jU w b off eE us) {j:Nat} (hj:j < eE):∃ u,w.cell? ⟨b,off+j,none⟩=some u:=by
  obtain ⟨c,e,fz,h1,_,h3,_⟩:=h
  have:off+j < c.size:=by omega
  exact ⟨c[off+j],by simp [World.cell?,h1,this]⟩
theorem Ou {w:World} {X:Bool→Nat→Prop} {q:List Nat}:∀ {s n cap:Nat} {a:Option (Nat × Nat)} {xs l:List T},aT w X (.own s n cap a xs)→ao xs q=some l→l≠[]→
    ∃ b off eE,(match q with | []=>a | _=>bw none xs q)=some (b,off)∧jU w b off eE (av l)∧l.length≤eE∧aU w X l:=by
  induction q with
  | nil=>
    intro s n cap a xs l h hc hl
    simp only [ao,Option.some.injEq] at hc
    subst hc
    simp only [aT] at h
    obtain ⟨h1,h2,h3,h4⟩:=h
    cases a with
    | none=>
      have:xs.length=0:=by rw [h2,h3.1]; simp
      exact absurd (List.length_eq_zero_iff.1 this) hl
    | some p=>exact ⟨p.1,p.2,_,rfl,h3,by rw [h2]; exact Nat.mul_le_mul_right _ h1,h4⟩
  | cons p q ih=>
    intro s n cap a xs l h hc hl
    simp only [aT] at h
    rw [ao] at hc
    cases hp:xs[p]? with
    | none=>simp [hp] at hc
    | some x=>
      cases x with
      | v d u=>simp [hp] at hc
      | own s' n' qG a' jg=>
        simp only [hp] at hc
        obtain ⟨b,off,eE,h5,h6⟩:=ih (fb h.2.2.2 hp) hc hl
        exact ⟨b,off,eE,by simp only [bw,hp]; exact h5,h6⟩
theorem nZ {C:Ctx} {w:World} {S:List (Nat × RT)} {H:List T} (hm:Mem C w S H) {r:Nat} {R:RT} {q:List Nat} {l:List T} (hr:lk S r=some R) (hc:ao R.cs q=some l) (hl:l≠[]) (hb:q=[]→R.box.isSome=true):
    ∃ b off eE,bw R.box R.cs q=some (b,off)∧jU w b off eE (av l)∧l.length≤eE∧(q≠[]→aU w (ab C w S H) l):=by
  obtain ⟨h1,h2⟩:=hm.root r R hr
  cases q with
  | nil=>
    simp only [ao,Option.some.injEq] at hc
    subst hc
    have hb:=hb rfl
    cases hx:R.box with
    | none=>simp [hx] at hb
    | some b=>exact ⟨b,0,_,by simp [bw],by simpa [hx] using h1,Nat.le_refl _,fun h=>absurd rfl h⟩
  | cons p q=>
    rw [ao] at hc
    cases hp:R.cs[p]? with
    | none=>simp [hp] at hc
    | some x=>
      cases x with
      | v d u=>simp [hp] at hc
      | own s n cap a xs=>
        simp only [hp] at hc
        have hs:aT w (ab C w S H) (.own s n cap a xs):=h2 _ (List.mem_of_getElem? hp)
        obtain ⟨b,off,eE,h3,h4,h5,h6⟩:=Ou hs hc hl
        exact ⟨b,off,eE,by simp only [bw,hp]; exact h3,h4,h5,fun _=>h6⟩
theorem GX {q:List Nat}:∀ {cs l:List T} {bx:Option Nat} {o s n cap:Nat} {a:Option (Nat × Nat)} {xs:List T},ao cs q=some l→l[o]?=some (.own s n cap a xs)→bw bx cs (q++[o])=a∧ao cs (q++[o])=some xs:=by
  induction q with
  | nil=>
    intro cs l bx o s n cap a xs hc ho
    simp only [ao,Option.some.injEq] at hc
    subst hc
    simp [bw,ao,ho]
  | cons p q ih=>
    intro cs l bx o s n cap a xs hc ho
    rw [ao] at hc
    cases hp:cs[p]? with
    | none=>simp [hp] at hc
    | some x=>
      cases x with
      | v d u=>simp [hp] at hc
      | own s' n' qG a' jg=>
        simp only [hp] at hc
        obtain ⟨h1,h2⟩:=ih (bx:=none) hc ho
        refine ⟨?_,by simp only [List.cons_append,ao,hp]; exact h2⟩
        rw [List.cons_append,bw]
        simp only [hp]
        cases hq:q++[o] with
        | nil=>simp at hq
        | cons y ys=>rw [hq] at h1; exact h1
theorem z1 {S:List (Nat × RT)} {r:Nat} {R:RT} {q:List Nat} {l:List T} {o:Nat} (hr:lk S r=some R) (hc:ao R.cs q=some l):bT S r q o=l[o]?:=by
  simp [bT,hr,hc]
theorem nA {C:Ctx} {w:World} {S:List (Nat × RT)} {H:List T} (hm:Mem C w S H) {r:Nat} {R:RT} {q:List Nat} {l:List T} {o:Nat} {t:T} (hr:lk S r=some R) (hc:ao R.cs q=some l) (ho:l[o]?=some t):
    aN w (ab C w S H) S (fL r q o t.er) t.val:=by
  cases t with
  | own s n cap a xs=>
    simp only [T.er,fL,aN]
    intro t' mP
    rw [z1 hr hc,ho,Option.some.injEq] at mP
    subst mP
    simp [dZ,sn,T.er]
  | v d u=>
    have hv:fL r q o (T.v d u).er=aZ d:=by
      simp only [T.er]
      cases d<;>simp [aZ,fL]
      rename_i g _ _ _
      cases g<;>simp [aZ,fL]
    rw [hv]
    obtain ⟨_,h2⟩:=hm.root r R hr
    cases q with
    | nil=>
      simp only [ao,Option.some.injEq] at hc
      subst hc
      rcases h2 _ (List.mem_of_getElem? ho) with h3 | ⟨_,h3⟩
      · exact eQ h3
      · exact h3
    | cons p q=>
      rw [ao] at hc
      cases hp:R.cs[p]? with
      | none=>simp [hp] at hc
      | some x=>
        cases x with
        | v d u=>simp [hp] at hc
        | own s n cap a xs=>
          simp only [hp] at hc
          have hs:aT w (ab C w S H) (.own s n cap a xs):=h2 _ (List.mem_of_getElem? hp)
          simp only [aT] at hs
          have:=fb (tl hs.2.2.2 hc) ho
          simp only [aT] at this
          exact eQ this
theorem lM (r:Nat) (q:List Nat):∀ (cs:List D) (o i:Nat),(jX r q o cs)[i]?=(cs[i]?).map (fL r q (o+i))
  | [],o,i=>by simp [jX]
  | d::ds,o,0=>by simp [jX]
  | d::ds,o,i+1=>by
    simp only [jX,List.getElem?_cons_succ,lM r q ds (o+1) i]
    congr 1
    rw [show o+1+i=o+(i+1) by omega]
theorem nB (r:Nat) (q:List Nat):∀ (cs:List D) (o:Nat),(jX r q o cs).length=cs.length
  | [],o=>rfl
  | d::ds,o=>by simp [jX,nB r q ds (o+1)]
def cY (w w2:World):Prop:=∀ k,k < w.heap.size→w2.heap[k]?=w.heap[k]?
theorem cY.refl (w:World):cY w w:=fun _ _=>rfl
theorem cY.trans {w w2 w3:World} (h:cY w w2) (h':cY w2 w3):cY w w3:=fun k hk=>by
  have h1:=h k hk
  have GY:k < w2.heap.size:=by
    rcases Nat.lt_or_ge k w2.heap.size with h2 | h2
    · exact h2
    · rw [Array.getElem?_eq_none h2,Array.getElem?_eq_getElem hk] at h1
      simp at h1
  rw [h' k GY,h1]
theorem cY.cell {w w2:World} (h:cY w w2) {A:Addr} {v:Value} (hc:w.cell? A=some v):w2.cell? A=some v:=by
  have hk:A.block < w.heap.size:=by
    rcases Nat.lt_or_ge A.block w.heap.size with h2 | h2
    · exact h2
    · simp [World.cell?,Array.getElem?_eq_none h2] at hc
  rw [← hc]
  unfold World.cell?
  rw [h _ hk]
def wP (u:Value) (w w2:World):Prop:=∀ B,u=.pointer (some B)→∀ A v,A.block=B.block→w.cell? A=some v→w2.cell? A=some v
theorem cY.Y6 {w w2:World} (h:cY w w2) (u:Value):wP u w w2:=fun _ _ _ _ _ hc=>h.cell hc
theorem wP.refl (u:Value) (w:World):wP u w w:=fun _ _ _ _ _ h=>h
theorem JR {u:Value} {w w2:World} {b:Nat} (hb:∀ B,u=.pointer (some B)→B.block=b) (h:w2.heap[b]?=w.heap[b]?):wP u w w2:=fun B hB A v hA hc=>by
  have e:A.block=b:=hA.trans (hb B hB)
  rw [← hc]
  unfold World.cell?
  rw [e,h]
theorem CA {P:Program} {c:bU} (ah:dG c P) {C:Ctx} {Hx:List T} {w:World} {S:List (Nat × RT)} {st:St} (fp:gj st.rt S) (hm:Mem C w S Hx) {t:TypeId} {ti:TI} (ht:c.ty t=some ti) {d d':D} {u:Value} (hd:bR w (ab C w S Hx) S d u) (h:nX st (jd ti.ty) ti.size d=some d'):
    ∃ v,(∀ w2,wP u w w2→(Instr.loadAt t u).run P w2=.ok v w2)∧bR w (ab C w S Hx) S d' v:=by
  have kd:=ah.ty t ti ht
  cases d with
  | ptr r q o=>
    simp only [nX] at h
    cases dU:st.cells r q with
    | none=>simp [dU] at h
    | some cs=>
      simp only [dU] at h
      obtain ⟨R,l,hr,hl,rfl⟩:=rH st S fp dU
      have hp:=hd R hr
      cases dH:jd ti.ty with
      | true=>
        simp only [dH,if_true] at h
        split at h
        case isFalse=>simp at h
        rename_i hle
        obtain ⟨hz,hle⟩:=hle
        simp only [Option.some.injEq] at h
        subst h
        rw [eF] at hle
        · have cA:l≠[]:=by intro e; subst e; simp at hle; omega
          obtain ⟨b,off,eE,h1,h2,h3,_⟩:=nZ hm hr hl cA hp.1
          have hu:=hp.2 b off h1
          subst hu
          refine ⟨.agg ((av l).drop o |>.take ti.size).toArray,?_,?_⟩
          · intro w2 mQ
            simp only [Instr.loadAt,Instr.sureAddr,loadVar,Sem.run_bind,Sem.run_pure,Result.andThen_ok,kd.agg,dH,if_true,kd.sz]
            have hlen:((av l).drop o |>.take ti.size).length=ti.size:=by simp [bd]; omega
            have:=run_loadCells_list (P:=P) w2 ⟨b,off+o,none⟩ ((av l).drop o |>.take ti.size) (fun j v hj=>by
              rw [ek,Nat.add_assoc]
              refine mQ _ rfl _ _ rfl (rI h2 ?_)
              rw [List.getElem?_take] at hj
              split at hj
              · rw [List.getElem?_drop] at hj; exact hj
              · simp at hj)
            rw [hlen] at this
            simp [this]
          · refine ⟨_,rfl,cL ?_ ?_⟩
            · simp [nB,eF,bd]
            · intro i d1 v1 hi hv
              rw [lM,wM,wN,gA] at hi
              simp only [List.getElem?_take] at hv hi
              split at hv
              · rename_i cJ
                rw [if_pos cJ,List.getElem?_drop] at hi
                rw [List.getElem?_drop,eD] at hv
                cases hx:l[o+i]? with
                | none=>simp [hx] at hi
                | some t'=>
                  simp only [hx,Option.map_some,Option.some.injEq] at hi hv
                  subst hi; subst hv
                  exact nA hm hr hl hx
              · simp at hv
      | false=>
        simp only [dH,Bool.false_eq_true,if_false] at h
        rw [gA] at h
        cases hx:l[o]? with
        | none=>simp [hx] at h
        | some t'=>
          simp only [hx,Option.map_some,Option.some.injEq] at h
          subst h
          have cA:l≠[]:=by intro e; subst e; simp at hx
          obtain ⟨b,off,eE,h1,h2,h3,_⟩:=nZ hm hr hl cA hp.1
          have hu:=hp.2 b off h1
          subst hu
          refine ⟨t'.val,?_,kD (nA hm hr hl hx)⟩
          intro w2 mQ
          simp only [Instr.loadAt,Instr.sureAddr,loadVar,Sem.run_bind,Sem.run_pure,Result.andThen_ok,kd.agg,dH,Bool.false_eq_true,if_false]
          have cn:w2.cell? ⟨b,off+o,none⟩=some t'.val:=mQ _ rfl _ _ rfl (rI h2 (by rw [eD,hx]; rfl))
          simp [cn]
  | cZ cs o=>
    obtain ⟨b,off,cc,e,fz,us,rfl,hXb,ef,GZ,mR⟩:=hd
    simp only [nX] at h
    have dt:=(gg cs us).1 GZ
    cases dH:jd ti.ty with
    | true=>
      simp only [dH,if_true] at h
      split at h
      case isFalse=>simp at h
      rename_i hle
      obtain ⟨hz,hle⟩:=hle
      simp only [Option.some.injEq] at h
      subst h
      refine ⟨.agg ((us.drop o).take ti.size).toArray,?_,?_⟩
      · intro w2 mQ
        simp only [Instr.loadAt,Instr.sureAddr,loadVar,Sem.run_bind,Sem.run_pure,Result.andThen_ok,kd.agg,dH,if_true,kd.sz]
        have hlen:((us.drop o).take ti.size).length=ti.size:=by have:=dt.len; simp; omega
        have:=run_loadCells_list (P:=P) w2 ⟨b,off+o,none⟩ ((us.drop o).take ti.size) (fun j v hj=>by
          rw [ek]
          refine mQ _ rfl _ _ rfl ?_
          rw [List.getElem?_take] at hj
          split at hj
          · rw [List.getElem?_drop] at hj
            simp [World.cell?,ef,Nat.add_assoc,mR _ _ hj]
          · simp at hj)
        rw [hlen] at this
        simp [this]
      · exact ⟨_,rfl,by simpa using ((dt.drop o).take ti.size).mono (fun _ _ h=>eQ h)⟩
    | false=>
      simp only [dH,Bool.false_eq_true,if_false] at h
      obtain ⟨u,hu,he⟩:=dt.get h
      refine ⟨u,?_,A6 he⟩
      intro w2 mQ
      simp only [Instr.loadAt,Instr.sureAddr,loadVar,Sem.run_bind,Sem.run_pure,Result.andThen_ok,kd.agg,dH,Bool.false_eq_true,if_false]
      have cn:w.cell? ⟨b,off+o,none⟩=some u:=by simp [World.cell?,ef,mR _ _ hu]
      have cn:=mQ _ rfl _ _ rfl cn
      simp [cn]
  | _=>simp [nX] at h
end Go.Proofs.Ytockoilcnmljiaa
namespace Go.Proofs.Ytockoilcnmljiaa
section
variable {w:World} {X:Bool→Nat→Prop} {S:List (Nat × RT)}
theorem fH {k:IntKind} {n:Int} {u:Value} (h:bR w X S (.int k n) u):u=.int k n:=h
theorem ug {b:Bool} {u:Value} (h:bR w X S (.bool b) u):u=.bool b:=h
theorem ui {s:ByteArray} {u:Value} (h:bR w X S (.str s) u):u=.string s:=h
theorem Mb {s:Nat} {u:Value} (h:bR w X S (.nil s) u):u=.slice none 0 0:=h
theorem Mc (k:IntKind) (n:Int):bR w X S (.int k n) (.int k n):=rfl
theorem Tf (s:ByteArray):bR w X S (.str s) (.string s):=rfl
end
theorem tn {c:bU} {w:World} {X:Bool→Nat→Prop} {S:List (Nat × RT)} {st:St} {a:Act} (h:ku w X S st.tm a.tmps) (t:TypeId) (x:Operand):bR w X S (bN c st t x) (a.eval x):=by
  cases x with
  | tmp i=>exact h i
  | const v=>
    simp only [bN,Act.eval]
    cases v<;>try exact kv _
    all_goals first | rfl | skip
    rename_i b n cap
    simp only [yw]
    split<;>first | exact kv _ | (rename_i e; first | cases e | skip)
    all_goals first | rfl | exact kv _ | skip
  | func f=>exact ⟨#[],rfl,.nil⟩
  | global g=>exact kv _
section
variable {P:Program} {w:World} {X:Bool→Nat→Prop} {S:List (Nat × RT)}
theorem A9 (op:BinOp) (t:TypeId) (x y:Operand) (k k':IntKind) (a b:Int):(eqGuard op t x y (.int k a) (.int k' b)).run P w=.ok () w:=by
  unfold eqGuard; split<;>rfl
theorem Ba (op:BinOp) (t:TypeId) (x y:Operand) (a b:ByteArray):(eqGuard op t x y (.string a) (.string b)).run P w=.ok () w:=by
  unfold eqGuard; split<;>rfl
theorem z6 (op:BinOp) (t:TypeId) (x y:Operand) (a b:Bool):(eqGuard op t x y (.bool a) (.bool b)).run P w=.ok () w:=by
  unfold eqGuard; split<;>rfl
theorem run_equal_bool {t:TypeId} (h:P.underlying t=some .bool) (a b:Bool):(Op.equal t (.bool a) (.bool b)).run P w=.ok (a==b) w:=by
  have:Op.equal t (.bool a) (.bool b)=Op.equalIn (9999+1) t (.bool a) (.bool b):=rfl
  rw [this,Op.equalIn,Sem.run_bind,run_underlying h]
  rfl
theorem Md {c:bU} (ah:dG c P) {op:BinOp} {t:TypeId} {x y:Operand} {dx dy d:D} {u v:Value} (hx:bR w X S dx u) (hy:bR w X S dy v) (h:o6 c t op dx dy=some d):
    ∃ r,(∀ w:World,(do eqGuard op t x y u v; binOp op t u v:Sem Value).run P w=.ok r w)∧bR w X S d r:=by
  cases dx with
  | int k a=>
    cases dy with
    | int k' b=>
      have h1:=fH hx; have h2:=fH hy
      subst h1; subst h2
      simp only [Sem.run_bind,A9,Result.andThen_ok]
      cases op<;>simp only [o6] at h
      case shl=>
        simp only [rv] at h
        split at h
        · simp at h
        · rename_i hb
          simp only [Option.some.injEq] at h
          exact ⟨_,by intro w; simp [binOp,Op.shift,hb]; rfl,by subst h; rfl⟩
      case shr=>
        simp only [rv] at h
        split at h
        · simp at h
        · rename_i hb
          simp only [Option.some.injEq] at h
          exact ⟨_,by intro w; simp [binOp,Op.shift,hb]; rfl,by subst h; rfl⟩
      case quo | rem=>
        split at h
        case isFalse=>simp at h
        rename_i hk
        subst hk
        simp only [wJ] at h
        split at h
        · simp at h
        · rename_i hb
          simp only [Option.some.injEq] at h
          exact ⟨_,by intro w; simp [binOp,Op.intDiv,hb]; rfl,by subst h; rfl⟩
      all_goals
        split at h
        case isFalse=>simp at h
        rename_i hk
        subst hk
        simp only [wJ] at h
      all_goals
        first
        | (simp at h; done)
        | (simp only [Option.some.injEq] at h
           exact ⟨_,by intro w; simp [binOp,Op.intArith,Op.intBits,Op.intCmp]; rfl,by subst h; rfl⟩)
    | _=>simp [o6] at h
  | str a=>
    cases dy with
    | str b=>
      have h1:=ui hx; have h2:=ui hy
      subst h1; subst h2
      simp only [Sem.run_bind,Ba,Result.andThen_ok]
      simp only [o6] at h
      cases op<;>simp only [GM] at h
      case add=>
        split at h
        case isFalse=>simp at h
        rename_i hs
        simp only [Option.some.injEq] at h
        have rJ:¬ (((a.size+b.size:Nat):Int)>IntKind.i64.max):=by
          have:IntKind.i64.max=9223372036854775807:=by decide
          rw [this]; omega
        exact ⟨.string (a++b),by intro w; simp only [binOp,Op.stringOp]; rw [if_neg rJ]; rfl,by subst h; rfl⟩
      all_goals
        first
        | (simp at h; done)
        | (simp only [Option.some.injEq] at h
           exact ⟨_,by intro w; simp [binOp,Op.stringOp]; rfl,by subst h; rfl⟩)
    | _=>simp [o6] at h
  | bool a=>
    cases dy with
    | bool b=>
      have h1:=ug hx; have h2:=ug hy
      subst h1; subst h2
      simp only [Sem.run_bind,z6,Result.andThen_ok]
      simp only [o6] at h
      split at h
      case h_2=>simp at h
      rename_i kd
      obtain ⟨dd,h3,h4⟩:=(ah.ty t _ kd).desc
      simp only [jl] at h4
      subst h4
      cases op<;>simp only [Cw] at h
      all_goals
        first
        | (simp at h; done)
        | (simp only [Option.some.injEq] at h
           exact ⟨_,by intro w; simp only [binOp,Sem.run_bind,run_equal_bool h3,Result.andThen_ok,Sem.run_pure]; rfl,by subst h; rfl⟩)
    | _=>simp [o6] at h
  | _=>simp [o6] at h
theorem Qu {op:UnOp} {dx d:D} {u:Value} (hx:bR w X S dx u) (h:Qr op dx=some d):∃ r,(∀ w:World,(Op.unary op u).run P w=.ok r w)∧bR w X S d r:=by
  cases op<;>cases dx<;>simp only [Qr] at h<;>first | (simp at h; done) | skip
  · have:=fH hx
    subst this
    simp only [Option.some.injEq] at h
    exact ⟨_,by intro w; simp [Op.unary,Op.intArith]; rfl,by subst h; simp [bR,fN,aN,Ext]⟩
  · have:=ug hx
    subst this
    simp only [Option.some.injEq] at h
    exact ⟨_,by intro w; simp [Op.unary]; rfl,by subst h; rfl⟩
theorem Bb {ds:List D} {d:D} {u:Value} {i:Nat} (hx:bR w X S (.aQ ds) u) (h:ds[i]?=some d):∃ r,(∀ w:World,(Instr.extract u i).run P w=.ok r w)∧bR w X S d r:=by
  obtain ⟨us,rfl,ha⟩:=hx
  obtain ⟨r,hr,ht⟩:=ha.get h
  have dN:us[i]?=some r:=by simpa using hr
  exact ⟨r,by intro w; simp [Instr.extract,dN],jk ht⟩
end
theorem rf {C:Ctx} {Hx:List T} {w:World} {S:List (Nat × RT)} {st:St} (fp:gj st.rt S) (hm:Mem C w S Hx) {r:Nat} {q:List Nat} (h:live st r q=true) {i:Nat} {u:Value} (hu:bR w (ab C w S Hx) S (.ptr r q i) u):
    ∃ R b off,lk S r=some R∧bw R.box R.cs q=some (b,off)∧u=.pointer (some ⟨b,off+i,none⟩):=by
  unfold live at h
  split at h
  case h_2=>simp at h
  rename_i x xs dU
  obtain ⟨R,l,hr,hl,he⟩:=rH st S fp dU
  have hp:=hu R hr
  obtain ⟨b,off,eE,h1,_⟩:=nZ hm hr hl (by rintro rfl; simp [aL] at he) hp.1
  exact ⟨R,b,off,hr,h1,hp.2 b off h1⟩
theorem Me {w:World} {X:Bool→Nat→Prop} {S:List (Nat × RT)} {r:Nat} {q:List Nat} {i j:Nat} {u:Value} {R:RT} {b off:Nat} (hu:bR w X S (.ptr r q i) u) (hr:lk S r=some R) (ha:bw R.box R.cs q=some (b,off)):bR w X S (.ptr r q j) (.pointer (some ⟨b,off+j,none⟩)):=by
  intro R' dC
  refine ⟨(hu R' dC).1,fun b' z7 dV=>?_⟩
  rw [hr,Option.some.injEq] at dC
  subst dC
  rw [ha,Option.some.injEq,Prod.mk.injEq] at dV
  obtain ⟨rfl,rfl⟩:=dV
  rfl
section
variable {P:Program} {c:bU} (ah:dG c P) {w:World} {C:Ctx} {Hx:List T} {S:List (Nat × RT)} {st:St} (fp:gj st.rt S) (hm:Mem C w S Hx)
include ah fp hm
theorem wQ {s:TypeId} {j8 szs:List Nat} {sz nC:Nat} {z:List D} {f k:Nat} {d d':D} {u:Value} (ht:c.ty s=some ⟨.struct j8 szs,sz,nC,z⟩) (hk:j8[f]?=some k) (hd:bR w (ab C w S Hx) S d u)
    (h:uc st k d=some d'):∃ r,(∀ w:World,(Instr.fieldAt s u f).run P w=.ok r w)∧bR w (ab C w S Hx) S d' r:=by
  have kd:=ah.ty s _ ht
  obtain ⟨dd,h1,h2⟩:=kd.desc
  obtain ⟨fs,rfl,h3,_,h4⟩:=h2
  have hf:∃ fl,fs[f]?=some fl∧fl.offset=k:=by
    rw [h3] at hk
    simp only [List.getElem?_map] at hk
    cases hx:fs.toList[f]? with
    | none=>simp [hx] at hk
    | some fl=>simp only [hx,Option.map_some,Option.some.injEq] at hk; exact ⟨fl,by simpa using hx,hk⟩
  obtain ⟨fl,XH,rfl⟩:=hf
  obtain ⟨inf,hi,hz,_⟩:=h4 f fl (by simpa using XH)
  have key:∀ (A:Addr) (w:World),(Instr.fieldAt s (.pointer (some A)) f).run P w=.ok (.pointer (some (A.add fl.offset))) w:=fun A w=>by
    simp [Instr.fieldAt,run_underlying h1,XH,Instr.sureAddr,fieldPlace,Ma hi,hz]
  cases d with
  | ptr r q i=>
    simp only [uc] at h
    split at h
    case isFalse=>simp at h
    rename_i hl
    simp only [Option.some.injEq] at h
    subst h
    obtain ⟨R,b,off,hR,ha,rfl⟩:=rf fp hm hl hd
    refine ⟨_,key _,?_⟩
    rw [ek,Nat.add_assoc]
    exact Me hd hR ha
  | cZ cs i=>
    simp only [uc,Option.some.injEq] at h
    subst h
    obtain ⟨b,off,cc,e,fz,us,rfl,h5⟩:=hd
    exact ⟨_,key _,b,off,cc,e,fz,us,by rw [ek,Nat.add_assoc],h5⟩
  | _=>simp [uc] at h
omit ah in
theorem pJ {d d':D} {u:Value} (hd:bR w (ab C w S Hx) S d u) (h:(match d with | .ptr r q i=>if live st r q then some (.ptr r q i) else none | .cZ cs i=>some (.cZ cs i) | _=>none:Option D)=some d'):
    ∃ A,u=.pointer (some A)∧d'=d:=by
  cases d with
  | ptr r q i=>
    simp only at h
    split at h
    case isFalse=>simp at h
    rename_i hl
    obtain ⟨R,b,off,hR,ha,rfl⟩:=rf fp hm hl hd
    exact ⟨_,rfl,(Option.some.inj h).symm⟩
  | cZ cs i=>
    obtain ⟨b,off,cc,e,fz,us,rfl,h5⟩:=hd
    exact ⟨_,rfl,(Option.some.inj h).symm⟩
  | _=>simp at h
end
end Go.Proofs.Ytockoilcnmljiaa
namespace Go.Proofs.Ytockoilcnmljiaa
section
variable {P:Program} {C:Ctx} {w:World} {S:List (Nat × RT)} {st:St} {H:List T}
theorem pX (hm:Mem C w S H) {r:Nat} {R:RT} {q:List Nat} {l:List T} {o:Nat} {t:T} (hr:lk S r=some R) (hc:ao R.cs q=some l) (ho:l[o]?=some t) {g:Option Bool} {s n:Nat} {cs:List D} (he:t.er=.sl g s n cs):
    aT w (ab C w S H) t:=by
  obtain ⟨_,h2⟩:=hm.root r R hr
  cases q with
  | nil=>
    simp only [ao,Option.some.injEq] at hc
    subst hc
    have:=h2 _ (List.mem_of_getElem? ho)
    cases t with
    | own s n cap a xs=>exact this
    | v d u=>
      rcases this with h3 | ⟨_,h3⟩
      · exact h3
      · simp only [T.er] at he
        simp only [aT]
        rw [he] at h3 ⊢
        exact h3
  | cons p q=>
    rw [ao] at hc
    cases hp:R.cs[p]? with
    | none=>simp [hp] at hc
    | some x=>
      cases x with
      | v d u=>simp [hp] at hc
      | own s n cap a xs=>
        simp only [hp] at hc
        have hs:aT w (ab C w S H) (.own s n cap a xs):=h2 _ (List.mem_of_getElem? hp)
        simp only [aT] at hs
        exact fb (tl hs.2.2.2 hc) ho
def Tg (w:World) (X:Bool→Nat→Prop) (d:D) (u:Value):Prop:=Ext w X d u∨∃ t:T,d=t.er∧u=t.val∧aT w X t
structure KS (w:World) (X:Bool→Nat→Prop) (s n:Nat) (cs:List D) (u:Value):Prop where
  ok:∃ base cap,u=.slice base n cap∧n≤cap∧cs.length=n*s∧(cs=[]∨∃ b off c e fz us,base=some ⟨b,off,none⟩∧w.heap[b]?=some (.cells c e fz)∧bC (Tg w X) cs us∧∀ j v,us[j]?=some v→c[off+j]?=some v)
theorem wR {X:Bool→Nat→Prop} {t:T} (h:aT w X t) {g:Option Bool} {s n:Nat} {cs:List D} (he:t.er=.sl g s n cs):KS w X s n cs t.val:=by
  cases t with
  | v d u=>
    simp only [aT] at h
    simp only [T.er] at he
    rw [he] at h
    cases g with
    | none=>simp [Ext] at h
    | some g=>
      simp only [Ext] at h
      obtain ⟨base,cap,us,rfl,h1,h2,h3,h4⟩:=h
      refine ⟨base,cap,rfl,h1,h2,?_⟩
      rcases h4 with h4 | ⟨k,off,c,e,fz,h5,h6,h7,h8⟩
      · exact .inl h4
      · exact .inr ⟨k,off,c,e,fz,us,h5,h7,((gg cs us).1 h3).mono (fun _ _ h=>.inl h),h8⟩
  | own s' n' cap a ts=>
    simp only [aT] at h
    simp only [T.er,D.sl.injEq] at he
    obtain ⟨_,rfl,rfl,rfl⟩:=he
    obtain ⟨h1,h2,h3,h4⟩:=h
    refine ⟨a.map fun p=>⟨p.1,p.2,none⟩,cap,rfl,h1,by rw [eF]; exact h2,?_⟩
    cases a with
    | none=>
      left
      have:ts.length=0:=by rw [h2,h3.1]; simp
      simp [List.length_eq_zero_iff.1 this,aL]
    | some p=>
      obtain ⟨b,off⟩:=p
      obtain ⟨c,e,fz,h5,_,_,h6⟩:=h3
      refine .inr ⟨b,off,c,e,fz,av ts,rfl,h5,?_,h6⟩
      refine cL (by simp [eF,bd]) (fun i d u hd hu=>?_)
      rw [gA] at hd
      rw [eD] at hu
      cases hx:ts[i]? with
      | none=>simp [hx] at hd
      | some t=>
        simp only [hx,Option.map_some,Option.some.injEq] at hd hu
        exact .inr ⟨t,hd.symm,hu.symm,fb h4 hx⟩
theorem Ru {X:Bool→Nat→Prop} {x:Option (Nat × Nat)} {t:T} {u:Value} {g:Option Bool} {s n:Nat} {cs:List D} (he:t.er=.sl g s n cs) (hr:dZ x t u) (h:KS w X s n cs t.val):KS w X s (trim x s n cs).1 (trim x s n cs).2 u:=by
  unfold dZ at hr
  rw [he] at hr
  simp only [sn] at hr
  cases x with
  | none=>simp only at hr; subst hr; exact h
  | some p=>
    obtain ⟨l,m⟩:=p
    simp only at hr
    obtain ⟨h1,base,C,k,h2,h3,rfl,h4⟩:=hr
    obtain ⟨KT,cap,h5,h6,h7,h8⟩:=h.ok
    rw [h2] at h5
    simp only [Value.slice.injEq] at h5
    obtain ⟨rfl,_,rfl⟩:=h5
    have hlen:((cs.drop (l*s)).take (m*s)).length=m*s:=by
      rw [List.length_take,List.length_drop,h7]
      have:l*s+m*s≤n*s:=by rw [← Nat.add_mul]; exact Nat.mul_le_mul_right _ h1
      omega
    refine ⟨_,_,rfl,(by show m≤C - l; omega),hlen,?_⟩
    by_cases XI:m*s=0
    · left
      have h9:((cs.drop (l*s)).take (m*s)).length=0:=by rw [hlen]; exact XI
      exact List.length_eq_zero_iff.1 h9
    · right
      rcases h8 with h8 | ⟨b,off,c,e,fz,us,rfl,kQ,G0,Th⟩
      · exfalso
        subst h8
        simp at hlen
        omega
      · have hk:k=l:=by
          rcases h4 with h4 | h4
          · exfalso
            have:m≠0:=fun e=>XI (by simp [e])
            omega
          · exact h4
        subst hk
        refine ⟨b,off+k*s,c,e,fz,(us.drop (k*s)).take (m*s),by simp [ek],kQ,(G0.drop _).take _,fun j v hj=>?_⟩
        rw [List.getElem?_take] at hj
        split at hj
        · rw [List.getElem?_drop] at hj
          rw [Nat.add_assoc]; exact Th _ _ hj
        · simp at hj
theorem Gv (fp:gj st.rt S) (hm:Mem C w S H) {d:D} {u:Value} (hd:bR w (ab C w S H) S d u) {g:Option Bool} {s n:Nat} {cs:List D} (h:st.ny d=some (g,s,n,cs)):KS w (ab C w S H) s n cs u:=by
  cases d with
  | nil k=>
    simp only [St.ny,Option.some.injEq,Prod.mk.injEq] at h
    obtain ⟨_,rfl,rfl,rfl⟩:=h
    have:=Mb hd
    subst this
    exact ⟨none,0,rfl,Nat.le_refl _,by simp,.inl rfl⟩
  | sl b s' n' cs'=>
    simp only [St.ny,Option.some.injEq,Prod.mk.injEq] at h
    obtain ⟨rfl,rfl,rfl,rfl⟩:=h
    cases b with
    | none=>exact absurd hd (by simp [bR,fN,aN,Ext])
    | some b=>exact wR (t:=.v (.sl (some b) s' n' cs') u) hd rfl
  | ref r q o x=>
    simp only [St.ny] at h
    split at h
    case h_2=>simp at h
    rename_i b s' n' cs' hc
    simp only [Option.some.injEq,Prod.mk.injEq] at h
    obtain ⟨rfl,rfl,rfl,rfl⟩:=h
    obtain ⟨R,l,t,h1,h2,h3,h4,h5⟩:=gR fp hc
    exact Ru h5.symm (hd t h4) (wR (pX hm h1 h2 h3 h5.symm) h5.symm)
  | _=>simp [St.ny] at h
variable {c:bU} (ah:dG c P)
include ah
theorem Mf (fp:gj st.rt S) (hm:Mem C w S H) {t:TypeId} {d d':D} {u:Value} (hd:bR w (ab C w S H) S d u) (h:GN c st t d=some d') (ty:TypeId):∃ r,(∀ w:World,(Builtin.len_ #[t] ty #[u]).run P w=.ok r w)∧bR w (ab C w S H) S d' r:=by
  unfold GN at h
  split at h
  · rename_i kd
    obtain ⟨dd,h1,h2⟩:=(ah.ty t _ kd).desc
    simp only [jl] at h2
    subst h2
    have:=ui hd
    subst this
    simp only [Option.some.injEq] at h
    subst h
    exact ⟨_,by intro w; simp [Builtin.len_,run_underlying h1]; rfl,rfl⟩
  · rename_i e kd
    obtain ⟨dd,h1,h2⟩:=(ah.ty t _ kd).desc
    simp only [jl] at h2
    subst h2
    split at h
    case h_2=>simp at h
    rename_i hs
    simp only [Option.some.injEq] at h
    subst h
    obtain ⟨base,cap,rfl,_⟩:=(Gv fp hm hd hs).ok
    exact ⟨_,by intro w; simp [Builtin.len_,run_underlying h1]; rfl,rfl⟩
  · simp at h
end
end Go.Proofs.Ytockoilcnmljiaa
namespace Go.Proofs.Ytockoilcnmljiaa
theorem n9 {P:Program} {w:World} {t e:TypeId} {A:Addr} {n cap:Nat} {k:IntKind} {i:Int} {sz:Nat} (h:P.underlying t=some (.slice e)) (hs:(Go.sizeOf e).run P w=Result.ok sz w) (h0:0≤i) (h1:i < n):
    (Instr.indexAt t (.slice (some A) n cap) (.int k i)).run P w=.ok (.pointer (some (A.add (i.toNat*sz)))) w:=by
  simp [Instr.indexAt,run_underlying h,asIntOf,h0,h1,hs]
theorem tp {P:Program} {w:World} {t e:TypeId} {A:Addr} {n:Nat} {k:IntKind} {i:Int} {sz:Nat} (h:P.underlying t=some (.array n e)) (hs:(Go.sizeOf e).run P w=Result.ok sz w) (h0:0≤i) (h1:i < n):
    (Instr.indexAt t (.pointer (some A)) (.int k i)).run P w=.ok (.pointer (some (A.add (i.toNat*sz)))) w:=by
  simp [Instr.indexAt,run_underlying h,asIntOf,h0,h1,hs,Instr.sureAddr]
theorem kE {i:Int} {n:Nat} {d:Option D} {d':D} (h:je i n d=some d'):0≤i∧i < n∧d=some d':=by
  unfold je at h
  split at h
  · split at h
    · exact ⟨by assumption,by assumption,h⟩
    · simp at h
  · simp at h
section
variable {P:Program} {c:bU} (ah:dG c P) {C:Ctx} {Hx:List T} {w:World} {S:List (Nat × RT)} {st:St} (fp:gj st.rt S) (hm:Mem C w S Hx)
include ah fp hm
theorem wS {t:TypeId} {d d':D} {u:Value} {k:IntKind} {i:Int} (hd:bR w (ab C w S Hx) S d u) (h:nY st c t d i=some d'):
    ∃ r,(∀ w:World,(Instr.indexAt t u (.int k i)).run P w=.ok r w)∧bR w (ab C w S Hx) S d' r:=by
  unfold nY at h
  split at h
  · rename_i e sz nC z kd
    obtain ⟨dd,h1,h2⟩:=(ah.ty t _ kd).desc
    simp only [jl] at h2
    subst h2
    split at h
    case h_2=>simp at h
    rename_i ei rK
    have cr:=fun w=>(ah.ty e ei rK).sz w
    split at h
    · rename_i r q o x
      split at h
      · rename_i s n cs hc
        split at h
        case isFalse=>simp at h
        rename_i hs
        obtain ⟨hs,Qv⟩:=hs
        subst hs
        obtain ⟨h3,h4,h5⟩:=kE h
        simp only [Option.some.injEq] at h5
        subst h5
        obtain ⟨R,l,t',h6,h7,h8,h9,kQ⟩:=gR fp hc
        obtain ⟨cap,a,ts,rfl,rfl⟩:=A3 kQ.symm
        have du:=pX hm h6 h7 h8 kQ.symm
        have hr:=hd _ h9
        have oa:0 < (trim x ei.size n (aL ts)).1:=by omega
        simp only [aT] at du
        obtain ⟨g1,g2,g3,g4⟩:=du
        obtain ⟨Bc,Ti⟩:=GX (bx:=R.box) h7 h8
        have key:∃ b off0 n' c',a=some (b,off0)∧u=.slice (some ⟨b,off0+off x*ei.size,none⟩) n' c'∧n'=(trim x ei.size n (aL ts)).1:=by
          cases x with
          | none=>
            simp only [dZ,sn,T.er,T.val,tk] at hr
            cases a with
            | none=>simp only [trim] at oa; omega
            | some p=>exact ⟨p.1,p.2,n,cap,rfl,by simp [hr,off],rfl⟩
          | some p=>
            obtain ⟨l0,m⟩:=p
            simp only [dZ,sn,T.er,T.val,tk,Value.slice.injEq] at hr
            obtain ⟨e1,base,C0,k0,⟨e2,_,e3⟩,e4,rfl,e5⟩:=hr
            subst e3
            simp only [trim] at oa
            cases a with
            | none=>simp only at g3; omega
            | some p=>
              simp only [Option.map_some] at e2
              subst e2
              have:k0=l0:=by
                rcases e5 with e5 | e5
                · omega
                · exact e5
              subst this
              exact ⟨p.1,p.2,m,cap - k0,rfl,by rw [Option.map_some,ek]; rfl,rfl⟩
        obtain ⟨b,off0,n',c',rfl,rfl,rfl⟩:=key
        refine ⟨_,fun w=>n9 h1 (cr w) h3 h4,?_⟩
        intro R' dC
        rw [h6,Option.some.injEq] at dC
        subst dC
        refine ⟨fun e=>by simp at e,fun b' z7 fg=>?_⟩
        rw [Bc,Option.some.injEq,Prod.mk.injEq] at fg
        obtain ⟨rfl,rfl⟩:=fg
        rw [ek,Nat.add_mul,Nat.add_assoc]
      · rename_i g s n cs hc
        split at h
        case isFalse=>simp at h
        rename_i hs
        obtain ⟨hs,Qv⟩:=hs
        subst hs
        obtain ⟨h3,h4,h5⟩:=kE h
        simp only [Option.some.injEq] at h5
        subst h5
        obtain ⟨R,l,t',h6,h7,h8,h9,kQ⟩:=gR fp hc
        have du:=pX hm h6 h7 h8 kQ.symm
        have hr:=hd _ h9
        have oa:0 < (trim x ei.size n cs).1:=by omega
        cases t' with
        | own s' n' cap a ts=>simp [T.er] at kQ
        | v dd uu=>
          simp only [aT] at du
          simp only [T.er] at kQ
          rw [← kQ] at du
          simp only [Ext] at du
          obtain ⟨base,cap,us,e1,e2,e3,e4,e5⟩:=du
          have cA:cs≠[]:=by
            intro dU
            subst dU
            simp only [List.length_nil] at e3
            rcases Nat.mul_eq_zero.1 e3.symm with hn | hn
            · subst hn
              cases x with
              | none=>simp [trim] at oa
              | some p=>
                simp only [dZ,sn,T.er,← kQ] at hr
                obtain ⟨e6,_⟩:=hr
                simp only [trim] at oa; omega
            · omega
          rcases e5 with e5 | ⟨kb,off0,cc,e,fz,e6,e7,e8,e9⟩
          · exact absurd e5 cA
          · subst e6
            have key:∃ n' c',u=.slice (some ⟨kb,off0+off x*ei.size,none⟩) n' c'∧n'=(trim x ei.size n cs).1:=by
              cases x with
              | none=>
                simp only [dZ,sn,T.er,← kQ,T.val] at hr
                exact ⟨n,cap,by simp [hr,e1,off],rfl⟩
              | some p=>
                obtain ⟨l0,m⟩:=p
                simp only [dZ,sn,T.er,← kQ,T.val,e1,Value.slice.injEq] at hr
                obtain ⟨f1,KT,C0,k0,⟨f2,_,f3⟩,f4,rfl,f5⟩:=hr
                subst f3; subst f2
                simp only [trim] at oa
                have:k0=l0:=by
                  rcases f5 with f5 | f5
                  · omega
                  · exact f5
                subst this
                exact ⟨m,cap - k0,by rw [Option.map_some,ek]; rfl,rfl⟩
            obtain ⟨n',c',rfl,rfl⟩:=key
            refine ⟨_,fun w=>n9 h1 (cr w) h3 h4,kb,off0,cc,e,fz,us,?_,?_,e8,e4,e9⟩
            · rw [ek,Nat.add_mul,Nat.add_assoc]
            · exact ⟨e7.1,e7.2.1,e7.2.2.1,fun h=>by simp at h⟩
      · simp at h
    · rename_i g s n cs
      split at h
      case isFalse=>simp at h
      rename_i hs
      obtain ⟨hs,Qv⟩:=hs
      subst hs
      obtain ⟨h3,h4,h5⟩:=kE h
      simp only [Option.some.injEq] at h5
      subst h5
      have pY:Ext w (ab C w S Hx) (.sl (some g) ei.size n cs) u:=hd
      simp only [Ext] at pY
      obtain ⟨base,cap,us,rfl,e2,e3,e4,e5⟩:=pY
      rcases e5 with e5 | ⟨kb,off0,cc,e,fz,rfl,e7,e8,e9⟩
      · exfalso
        subst e5
        simp only [List.length_nil] at e3
        rcases Nat.mul_eq_zero.1 e3.symm with hn | hn<;>omega
      · refine ⟨_,fun w=>n9 h1 (cr w) h3 h4,kb,off0,cc,e,fz,us,by rw [ek],?_,e8,e4,e9⟩
        exact ⟨e7.1,e7.2.1,e7.2.2.1,fun h=>by simp at h⟩
    · simp at h
  · rename_i n e sz nC z kd
    obtain ⟨dd,h1,h2⟩:=(ah.ty t _ kd).desc
    simp only [jl] at h2
    subst h2
    split at h
    case h_2=>simp at h
    rename_i ei rK
    have cr:=fun w=>(ah.ty e ei rK).sz w
    split at h
    · rename_i r q o
      split at h
      case isFalse=>simp at h
      rename_i hl
      obtain ⟨h3,h4,h5⟩:=kE h
      simp only [Option.some.injEq] at h5
      subst h5
      obtain ⟨R,b,off0,hR,ha,rfl⟩:=rf fp hm hl hd
      refine ⟨_,fun w=>tp h1 (cr w) h3 h4,?_⟩
      rw [ek,Nat.add_assoc]
      exact Me hd hR ha
    · rename_i cs o
      obtain ⟨h3,h4,h5⟩:=kE h
      simp only [Option.some.injEq] at h5
      subst h5
      obtain ⟨b,off0,cc,e',fz,us,rfl,h6⟩:=hd
      exact ⟨_,fun w=>tp h1 (cr w) h3 h4,b,off0,cc,e',fz,us,by rw [ek,Nat.add_assoc],h6⟩
    · simp at h
  · simp at h
end
end Go.Proofs.Ytockoilcnmljiaa
namespace Go.Proofs.Ytockoilcnmljiaa
theorem add_add (A:Addr) (i j:Nat):(A.add i).add j=A.add (i+j):=by
  unfold Addr.add
  split<;>split<;>split<;>first | rfl | omega | simp_all [Nat.add_assoc]
theorem G1 (b:Option Addr):b.map (·.add 0)=b:=by
  cases b<;>simp [Addr.add]
def Mg (d:Option D) (u:Option Value):Prop:=(d=none∧u=none)∨∃ k i,d=some (.int k i)∧u=some (.int k i)
theorem Bd {w:World} {X:Bool→Nat→Prop} {S:List (Nat × RT)} {d:Option D} {u:Option Value} (h:(d=none∧u=none)∨∃ x y,d=some x∧u=some y∧bR w X S x y) {z i:Int} (hb:bound d z=some i):Mg d u:=by
  rcases h with h | ⟨x,y,rfl,rfl,h⟩
  · exact .inl h
  · cases x<;>simp [bound] at hb
    have:=fH h
    subst this
    exact .inr ⟨_,_,rfl,rfl⟩
theorem Be {P:Program} {w:World} {is:Bool} {len cap:Nat} {dl dh:Option D} {ul uh:Option Value} {l h:Int} (h1:Mg dl ul) (h2:Mg dh uh) (hl:bound dl 0=some l) (hh:bound dh len=some h) (h0:0≤l) (Qw:l≤h) (XJ:h≤len) (vf:len≤cap):
    (Instr.sliceBounds is len cap ul uh none).run P w=.ok (l.toNat,h.toNat,cap) w:=by
  have e1:0≤h:=Int.le_trans h0 Qw
  have e2:h≤(cap:Int):=by omega
  have e3:l≤(h.toNat:Int):=by omega
  rcases h1 with ⟨rfl,rfl⟩ | ⟨k,i,rfl,rfl⟩<;>rcases h2 with ⟨rfl,rfl⟩ | ⟨k',i',rfl,rfl⟩<;>simp only [bound,Option.some.injEq] at hl hh<;>subst hl<;>subst hh
  · simp [Instr.sliceBounds]
  · simp [Instr.sliceBounds,Instr.sliceBound,asIntOf,e1,e2]
  · simp [Instr.sliceBounds,Instr.sliceBound,asIntOf,h0,Qw]
  · have e4:i≤((i'.toNat:Nat):Int):=e3
    simp only [Instr.sliceBounds,Instr.sliceBound,asIntOf,Sem.run_bind,Sem.run_pure,Result.andThen_ok,Sem.run_ite]
    rw [if_pos ⟨e1,e2⟩]
    simp only [Result.andThen_ok,Sem.run_pure,Sem.run_bind,Sem.run_ite]
    rw [if_pos ⟨h0,e4⟩]
    rfl
def D4 (w:World) (X:Bool→Nat→Prop) (S:List (Nat × RT)) (d:Option D) (u:Option Value):Prop:=(d=none∧u=none)∨∃ x y,d=some x∧u=some y∧bR w X S x y
section
variable {P:Program} {w:World}
theorem E8 {X:Bool→Nat→Prop} {S:List (Nat × RT)} {t:TypeId} (ht:P.underlying t=some .string) {s:ByteArray} {d':D} {dl dh:Option D} {ul uh:Option Value} (hl:D4 w X S dl ul) (hh:D4 w X S dh uh) (h:AX s dl dh=some d'):
    ∃ r,(∀ w:World,(Instr.sliceAt t (.string s) ul uh none).run P w=.ok r w)∧bR w X S d' r:=by
  unfold AX at h
  split at h
  case h_2=>simp at h
  rename_i l0 h0 e1 e2
  split at h
  case isFalse=>simp at h
  rename_i hc
  obtain ⟨i1,i2,i3⟩:=hc
  simp only [Option.some.injEq] at h
  subst h
  refine ⟨.string (s.extract l0.toNat h0.toNat),?_,rfl⟩
  intro w
  simp only [Instr.sliceAt,Sem.run_bind,run_underlying ht,Result.andThen_ok,Instr.slice]
  simp [Be (Bd hl e1) (Bd hh e2) e1 e2 i1 i2 i3 (Nat.le_refl _)]
theorem E9 {t e:TypeId} (ht:P.underlying t=some (.slice e)) {sz:Nat} (hs:(Go.sizeOf e).run P w=Result.ok sz w) {base:Option Addr} {n cap:Nat} {dl dh:Option D} {ul uh:Option Value} {l h:Int} (h1:Mg dl ul) (h2:Mg dh uh) (hl:bound dl 0=some l) (hh:bound dh n=some h) (h0:0≤l) (Qw:l≤h) (XJ:h≤n) (vf:n≤cap):
    (Instr.sliceAt t (.slice base n cap) ul uh none).run P w=.ok (.slice (if cap=l.toNat then base else base.map (·.add (l.toNat*sz))) (h.toNat - l.toNat) (cap - l.toNat)) w:=by
  simp only [Instr.sliceAt,Sem.run_bind,run_underlying ht,Result.andThen_ok,Instr.slice,Be h1 h2 hl hh h0 Qw XJ vf,hs]
  rfl
end
section
variable {P:Program} {c:bU} (ah:dG c P) {C:Ctx} {Hx:List T} {w:World} {S:List (Nat × RT)} {st:St} (fp:gj st.rt S) (hm:Mem C w S Hx)
include fp hm
theorem Mh {t e:TypeId} (ht:P.underlying t=some (.slice e)) {sz:Nat} (hs:∀ w,(Go.sizeOf e).run P w=Result.ok sz w) {d d':D} {u:Value} {dl dh:Option D} {ul uh:Option Value} (hd:bR w (ab C w S Hx) S d u) (hl:D4 w (ab C w S Hx) S dl ul) (hh:D4 w (ab C w S Hx) S dh uh)
    (h:AY st sz d dl dh=some d'):∃ r,(∀ w:World,(Instr.sliceAt t u ul uh none).run P w=.ok r w)∧bR w (ab C w S Hx) S d' r:=by
  unfold AY at h
  split at h
  case h_2=>simp at h
  rename_i g s n cs fI
  split at h
  case h_2=>simp at h
  rename_i l0 h0 e1 e2
  split at h
  case isFalse=>simp at h
  rename_i hc
  obtain ⟨rfl,i1,i2,i3⟩:=hc
  have hSl:=Gv fp hm hd fI
  obtain ⟨base,cap,rfl,vf,hlen,Tj⟩:=hSl.ok
  refine ⟨_,fun w=>E9 ht (hs w) (Bd hl e1) (Bd hh e2) e1 e2 i1 i2 i3 vf,?_⟩
  have hle:l0.toNat≤h0.toNat∧h0.toNat≤n:=by omega
  cases d with
  | nil k=>
    simp only [Option.some.injEq] at h
    subst h
    have:=Mb hd
    simp only [Value.slice.injEq] at this
    obtain ⟨rfl,rfl,rfl⟩:=this
    have:l0.toNat=0∧h0.toNat=0:=by omega
    rw [this.1,this.2]
    rfl
  | sl g' s' n' cs'=>
    simp only [St.ny,Option.some.injEq,Prod.mk.injEq] at fI
    obtain ⟨rfl,rfl,rfl,rfl⟩:=fI
    simp only [Option.some.injEq] at h
    subst h
    cases g' with
    | none=>exact absurd hd (by simp [bR,fN,aN,Ext])
    | some g'=>
      have pY:Ext w (ab C w S Hx) (.sl (some g') s' n' cs') (.slice base n' cap):=hd
      simp only [Ext,Value.slice.injEq] at pY
      obtain ⟨KT,qG,us,⟨rfl,_,rfl⟩,e3,e4,e5,e6⟩:=pY
      show Ext w (ab C w S Hx) (.sl (some g') s' (h0.toNat - l0.toNat) ((cs'.drop (l0.toNat*s')).take ((h0.toNat - l0.toNat)*s'))) _
      simp only [Ext]
      have Bf:((cs'.drop (l0.toNat*s')).take ((h0.toNat - l0.toNat)*s')).length=(h0.toNat - l0.toNat)*s':=by
        rw [List.length_take,List.length_drop,e4]
        have:l0.toNat*s'+(h0.toNat - l0.toNat)*s'≤n'*s':=by rw [← Nat.add_mul]; exact Nat.mul_le_mul_right _ (by omega)
        omega
      have dt:=(gg cs' us).1 e5
      refine ⟨_,_,(us.drop (l0.toNat*s')).take ((h0.toNat - l0.toNat)*s'),rfl,by omega,Bf,(gg _ _).2 ((dt.drop _).take _),?_⟩
      by_cases hz:(cs'.drop (l0.toNat*s')).take ((h0.toNat - l0.toNat)*s')=[]
      · exact .inl hz
      · right
        have oa:0 < (h0.toNat - l0.toNat)*s':=by
          rcases Nat.eq_zero_or_pos ((h0.toNat - l0.toNat)*s') with e7 | e7
          · exact absurd (List.length_eq_zero_iff.1 (by rw [Bf,e7])) hz
          · exact e7
        rcases e6 with e6 | ⟨kb,off0,cc,ee,fz,rfl,e7,e8,e9⟩
        · subst e6; simp at hz
        · have cA:¬ (cap=l0.toNat):=by
            intro e10
            have:h0.toNat - l0.toNat=0:=by omega
            simp [this] at oa
          refine ⟨kb,off0+l0.toNat*s',cc,ee,fz,by rw [if_neg cA,Option.map_some,ek],e7,e8,fun j v hj=>?_⟩
          rw [List.getElem?_take] at hj
          split at hj
          · rw [List.getElem?_drop] at hj
            rw [Nat.add_assoc]; exact e9 _ _ hj
          · simp at hj
  | ref r q o y=>
    simp only [Option.some.injEq] at h
    subst h
    simp only [St.ny] at fI
    split at fI
    case h_2=>simp at fI
    rename_i g' s' n' cs' cn
    simp only [Option.some.injEq,Prod.mk.injEq] at fI
    obtain ⟨rfl,rfl,rfl,rfl⟩:=fI
    intro t' mP
    have hr:=hd t' mP
    obtain ⟨R,l,t'',h6,h7,h8,h9,kQ⟩:=gR fp cn
    rw [h9,Option.some.injEq] at mP
    subst mP
    unfold dZ at hr ⊢
    rw [← kQ] at hr ⊢
    simp only [sn] at hr ⊢
    have hN:=(wR (pX hm h6 h7 h8 kQ.symm) kQ.symm).ok
    obtain ⟨b0,C0,f1,f2,_⟩:=hN
    cases y with
    | none=>
      simp only at hr
      simp only [trim,off,Nat.zero_add] at*
      rw [f1] at hr
      simp only [Value.slice.injEq] at hr
      obtain ⟨rfl,_,rfl⟩:=hr
      refine ⟨by omega,base,cap,if cap=l0.toNat then 0 else l0.toNat,f1,by split<;>omega,?_,?_⟩
      · split
        · rename_i e; simp [G1]
        · rfl
      · by_cases e:cap=l0.toNat
        · left; omega
        · right; simp [e]
    | some p=>
      obtain ⟨l1,m1⟩:=p
      simp only at hr
      obtain ⟨g1,b1,C1,k1,g2,g3,g4,g5⟩:=hr
      simp only [Value.slice.injEq] at g4
      obtain ⟨rfl,_,rfl⟩:=g4
      simp only [trim,off] at*
      rw [f1] at g2
      simp only [Value.slice.injEq] at g2
      obtain ⟨rfl,_,rfl⟩:=g2
      refine ⟨by omega,b0,C0,if C0 - l1=l0.toNat then k1 else k1+l0.toNat,f1,?_,?_,?_⟩
      · split
        · exact g3
        · rcases g5 with g5 | g5<;>omega
      · have e11:C0 - (l1+l0.toNat)=C0 - l1 - l0.toNat:=by omega
        rw [e11]
        split
        · rfl
        · congr 1
          cases b0 with
          | none=>rfl
          | some A=>simp [add_add,Nat.add_mul]
      · by_cases e:C0 - l1=l0.toNat
        · left; omega
        · right
          rw [if_neg e]
          rcases g5 with g5 | g5<;>omega
  | _=>simp [St.ny] at fI
include ah
theorem G2 {t:TypeId} {d d':D} {u:Value} {dl dh:Option D} {ul uh:Option Value} (hd:bR w (ab C w S Hx) S d u) (hl:D4 w (ab C w S Hx) S dl ul) (hh:D4 w (ab C w S Hx) S dh uh)
    (h:wK c st t d dl dh=some d'):∃ r,(∀ w:World,(Instr.sliceAt t u ul uh none).run P w=.ok r w)∧bR w (ab C w S Hx) S d' r:=by
  unfold wK at h
  split at h
  · rename_i kd
    obtain ⟨dd,h1,h2⟩:=(ah.ty t _ kd).desc
    simp only [jl] at h2
    subst h2
    split at h
    case h_2=>simp at h
    have:=ui hd
    subst this
    exact E8 h1 hl hh h
  · rename_i e _ _ _ kd
    obtain ⟨dd,h1,h2⟩:=(ah.ty t _ kd).desc
    simp only [jl] at h2
    subst h2
    split at h
    case h_2=>simp at h
    rename_i ei rK
    exact Mh fp hm h1 (fun w=>(ah.ty e ei rK).sz w) hd hl hh h
  · simp at h
end
end Go.Proofs.Ytockoilcnmljiaa
namespace Go.Proofs.Ytockoilcnmljiaa
def jR (t t':T):Prop:=t'.val=t.val∧∀ p,sn t'.er=some p→sn t.er=some p
theorem jR.refl (t:T):jR t t:=⟨rfl,fun _ h=>h⟩
theorem jR.trans {a b c:T} (h:jR a b) (h':jR b c):jR a c:=⟨h'.1.trans h.1,fun p e=>h.2 p (h'.2 p e)⟩
theorem jm {t t':T} (h:jR t t') {x:Option (Nat × Nat)} {u:Value} (hr:dZ x t u):dZ x t' u:=by
  unfold dZ at hr ⊢
  cases he:sn t'.er with
  | some p=>
    rw [h.2 p he] at hr
    simp only at hr ⊢
    rw [h.1]
    exact hr
  | none=>trivial
theorem Rv {q:List Nat} {o:Nat} {t':T}:∀ {cs cs':List T} {q':List Nat} {o':Nat} {l':List T},cX (fun l=>l.set o t') cs q=some cs'→under (q++[o]) (q'++[o'])=none→ao cs' q'=some l'→
    ∃ l,ao cs q'=some l∧∀ t2,l'[o']?=some t2→∃ t1,l[o']?=some t1∧jR t1 t2:=by
  induction q with
  | nil=>
    intro cs cs' q' o' l' hm hu hc
    simp only [cX,Option.some.injEq] at hm
    subst hm
    cases q' with
    | nil=>
      simp only [ao,Option.some.injEq] at hc
      subst hc
      refine ⟨cs,rfl,fun t2 h2=>?_⟩
      simp only [List.nil_append,under] at hu
      split at hu
      · simp at hu
      · rename_i cA
        rw [List.getElem?_set_ne cA] at h2
        exact ⟨t2,h2,jR.refl _⟩
    | cons p q'=>
      simp only [List.nil_append,List.cons_append,under] at hu
      split at hu
      · simp at hu
      · rename_i cA
        rw [ao,List.getElem?_set_ne cA] at hc
        rw [ao]
        exact ⟨l',hc,fun t2 h2=>⟨t2,h2,jR.refl _⟩⟩
  | cons p q ih=>
    intro cs cs' q' o' l' hm hu hc
    rw [cX] at hm
    cases hp:cs[p]? with
    | none=>simp [hp] at hm
    | some x=>
      cases x with
      | v d u=>simp [hp] at hm
      | own s n cap a xs=>
        simp only [hp] at hm
        cases hx:cX (fun l=>l.set o t') xs q with
        | none=>simp [hx] at hm
        | some jg=>
          simp only [hx,Option.some.injEq] at hm
          subst hm
          obtain ⟨cJ,_⟩:=List.getElem?_eq_some_iff.1 hp
          cases q' with
          | nil=>
            simp only [ao,Option.some.injEq] at hc
            subst hc
            refine ⟨cs,rfl,fun t2 h2=>?_⟩
            by_cases XK:p=o'
            · subst XK
              rw [List.getElem?_set_self cJ,Option.some.injEq] at h2
              subst h2
              exact ⟨_,hp,rfl,fun p h=>by simpa [T.er,sn] using h⟩
            · rw [List.getElem?_set_ne XK] at h2
              exact ⟨t2,h2,jR.refl _⟩
          | cons p' q'=>
            by_cases Bg:p=p'
            · subst Bg
              simp only [List.cons_append,under,if_true] at hu
              rw [ao,List.getElem?_set_self cJ] at hc
              simp only at hc
              obtain ⟨l,h1,h2⟩:=ih hx hu hc
              exact ⟨l,by rw [ao,hp]; exact h1,h2⟩
            · rw [ao,List.getElem?_set_ne Bg] at hc
              exact ⟨l',by rw [ao]; exact hc,fun t2 h2=>⟨t2,h2,jR.refl _⟩⟩
theorem pd {q:List Nat} {o:Nat} {t':T}:∀ {cs cs':List T} {q':List Nat} {bx:Option Nat},cX (fun l=>l.set o t') cs q=some cs'→under (q++[o]) q'=none→bw bx cs' q'=bw bx cs q':=by
  induction q with
  | nil=>
    intro cs cs' q' bx hm hu
    simp only [cX,Option.some.injEq] at hm
    subst hm
    cases q' with
    | nil=>rfl
    | cons p q'=>
      simp only [List.nil_append,under] at hu
      split at hu
      · simp at hu
      · rename_i cA
        rw [bw,bw,List.getElem?_set_ne cA]
  | cons p q ih=>
    intro cs cs' q' bx hm hu
    rw [cX] at hm
    cases hp:cs[p]? with
    | none=>simp [hp] at hm
    | some x=>
      cases x with
      | v d u=>simp [hp] at hm
      | own s n cap a xs=>
        simp only [hp] at hm
        cases hx:cX (fun l=>l.set o t') xs q with
        | none=>simp [hx] at hm
        | some jg=>
          simp only [hx,Option.some.injEq] at hm
          subst hm
          obtain ⟨cJ,_⟩:=List.getElem?_eq_some_iff.1 hp
          cases q' with
          | nil=>rfl
          | cons p' q'=>
            rw [bw,bw]
            by_cases Bg:p=p'
            · subst Bg
              simp only [List.cons_append,under,if_true] at hu
              rw [List.getElem?_set_self cJ,hp]
              simp only
              cases q' with
              | nil=>rfl
              | cons y ys=>exact ih (bx:=none) hx hu
            · rw [List.getElem?_set_ne Bg]
theorem ik {q:List Nat}:∀ {x y:List Nat},under q x=some y→x=q++y:=by
  induction q with
  | nil=>intro x y h; simp only [under,Option.some.injEq] at h; exact h
  | cons p q ih=>
    intro x y h
    cases x with
    | nil=>simp [under] at h
    | cons z zs=>
      simp only [under] at h
      split at h
      · rename_i e; subst e; simp [ih h]
      · simp at h
theorem Ov {q:List Nat} {o:Nat} {t':T} {cs cs':List T} (hm:cX (fun l=>l.set o t') cs q=some cs') {l':List T} (hc:ao cs' q=some l') {t2:T} (h2:l'[o]?=some t2):t2=t':=by
  obtain ⟨l,h3,h4⟩:=lL hm
  rw [h4,Option.some.injEq] at hc
  subst hc
  obtain ⟨cJ,he⟩:=List.getElem?_eq_some_iff.1 h2
  rw [← he]; simp
theorem Bh {q:List Nat} {o:Nat} {y:List Nat} {d:D} {u:Value}:∀ {cs l:List T},ao cs q=some l→l[o]?=some (.v d u)→ao cs (q++o::y)=none:=by
  induction q with
  | nil=>
    intro cs l hc ho
    simp only [ao,Option.some.injEq] at hc
    subst hc
    simp [ao,ho]
  | cons p q ih=>
    intro cs l hc ho
    rw [ao] at hc
    cases hp:cs[p]? with
    | none=>simp [hp] at hc
    | some x=>
      cases x with
      | v d u=>simp [hp] at hc
      | own s n cap a xs=>
        simp only [hp] at hc
        rw [List.cons_append,ao,hp]
        exact ih hc ho
theorem Mi {q:List Nat} {o:Nat} {y:List Nat} {d:D} {u:Value}:∀ {cs l:List T} {bx:Option Nat},ao cs q=some l→l[o]?=some (.v d u)→bw bx cs (q++o::y)=none:=by
  induction q with
  | nil=>
    intro cs l bx hc ho
    simp only [ao,Option.some.injEq] at hc
    subst hc
    simp [bw,ho]
  | cons p q ih=>
    intro cs l bx hc ho
    rw [ao] at hc
    cases hp:cs[p]? with
    | none=>simp [hp] at hc
    | some x=>
      cases x with
      | v d u=>simp [hp] at hc
      | own s n cap a xs=>
        simp only [hp] at hc
        rw [List.cons_append,bw,hp]
        simp only
        have:=ih (bx:=none) hc ho
        cases hq:q++o::y with
        | nil=>simp at hq
        | cons z zs=>rw [hq] at this; exact this
structure jn (S S':List (Nat × RT)) (r:Nat) (q:List Nat) (o:Nat) (t t':T):Prop where
  ex:∃ R cs' l,lk S r=some R∧ao R.cs q=some l∧l[o]?=some t∧cX (fun l=>l.set o t') R.cs q=some cs'∧S'=pt S r ⟨R.box,cs'⟩
section
variable {S S':List (Nat × RT)} {r:Nat} {q:List Nat} {o:Nat} {t t':T} (hc:jn S S' r q o t t')
include hc
theorem jn.Gw {r':Nat} (h:r'≠r):lk S' r'=lk S r':=by
  obtain ⟨R,cs',l,h1,h2,h3,h4,rfl⟩:=hc.ex
  exact cU _ _ h
theorem jn.box {r':Nat} {R':RT} (h:lk S' r'=some R'):∃ R,lk S r'=some R∧R.box=R'.box:=by
  by_cases he:r'=r
  · subst he
    obtain ⟨R,cs',l,h1,h2,h3,h4,rfl⟩:=hc.ex
    rw [bX,Option.some.injEq] at h
    subst h
    exact ⟨R,h1,rfl⟩
  · rw [hc.Gw he] at h
    exact ⟨R',h,rfl⟩
theorem jn.rL {r':Nat} {q':List Nat} {o':Nat} (hf:r'≠r∨under (q++[o]) (q'++[o'])=none) {t2:T} (h:bT S' r' q' o'=some t2):∃ t1,bT S r' q' o'=some t1∧jR t1 t2:=by
  by_cases he:r'=r
  · subst he
    have hf:under (q++[o]) (q'++[o'])=none:=by rcases hf with hf | hf<;>first | exact absurd rfl hf | exact hf
    obtain ⟨R,cs',l,h1,h2,h3,h4,rfl⟩:=hc.ex
    unfold bT at h ⊢
    rw [bX] at h
    rw [h1]
    simp only at h ⊢
    cases hx:ao cs' q' with
    | none=>simp [hx] at h
    | some l'=>
      simp only [hx] at h
      obtain ⟨l1,h5,h6⟩:=Rv h4 hf hx
      rw [h5]
      exact h6 t2 h
  · unfold bT at h ⊢
    rw [hc.Gw he] at h
    exact ⟨t2,h,jR.refl _⟩
theorem jn.D5 {t2:T} (h:bT S' r q o=some t2):t2=t':=by
  obtain ⟨R,cs',l,h1,h2,h3,h4,rfl⟩:=hc.ex
  unfold bT at h
  rw [bX] at h
  simp only at h
  cases hx:ao cs' q with
  | none=>simp [hx] at h
  | some l'=>
    simp only [hx] at h
    exact Ov h4 hx h
theorem jn.z8:bT S' r q o=some t':=by
  obtain ⟨R,cs',l,h1,h2,h3,h4,rfl⟩:=hc.ex
  obtain ⟨l',h5,h6⟩:=lL h4
  rw [h2,Option.some.injEq] at h5
  subst h5
  unfold bT
  rw [bX]
  simp only [h6]
  rw [List.getElem?_set_self (List.getElem?_eq_some_iff.1 h3).1]
theorem jn.G3:bT S r q o=some t:=by
  obtain ⟨R,cs',l,h1,h2,h3,h4,rfl⟩:=hc.ex
  simp [bT,h1,h2,h3]
theorem jn.pd {r':Nat} {q':List Nat} (hf:r'≠r∨under (q++[o]) q'=none) {R':RT} (h:lk S' r'=some R'):∃ R,lk S r'=some R∧R.box=R'.box∧bw R'.box R'.cs q'=bw R.box R.cs q':=by
  by_cases he:r'=r
  · subst he
    have hf:under (q++[o]) q'=none:=by rcases hf with hf | hf<;>first | exact absurd rfl hf | exact hf
    obtain ⟨R,cs',l,h1,h2,h3,h4,rfl⟩:=hc.ex
    rw [bX,Option.some.injEq] at h
    subst h
    exact ⟨R,h1,rfl,pd h4 hf⟩
  · rw [hc.Gw he] at h
    exact ⟨R',h,rfl,rfl⟩
theorem jn.Tk:∃ A B,cf S=A++t.ft++B∧cf S'=A++t'.ft++B:=by
  obtain ⟨R,cs',l,h1,h2,h3,h4,rfl⟩:=hc.ex
  obtain ⟨A,B,h5,h6⟩:=ka h1
  obtain ⟨A',B',h7,h8⟩:=KP h2 h3
  refine ⟨A++R.box.toList++A',B'++B,?_,?_⟩
  · rw [h5,RT.ft,h7]; simp
  · rw [h6,RT.ft,h8 t' cs' h4]; simp
theorem jn.Ow {d:D} {u:Value} (ht:t'=.v d u) {r':Nat} {q':List Nat} {o':Nat} {y:Nat} {ys:List Nat} (hr:r'=r) (hy:under (q++[o]) (q'++[o'])=some (y::ys)):bT S' r' q' o'=none:=by
  subst hr; subst ht
  obtain ⟨R,cs',l,h1,h2,h3,h4,rfl⟩:=hc.ex
  obtain ⟨l',h5,h6⟩:=lL h4
  rw [h2,Option.some.injEq] at h5
  subst h5
  have h7:(l.set o (.v d u))[o]?=some (.v d u):=List.getElem?_set_self (List.getElem?_eq_some_iff.1 h3).1
  have h8:=ik hy
  have h9:q'=q++o::(y::ys).dropLast∧o'=(y::ys).getLast (by simp):=by
    have e1:q'++[o']=(q++o::(y::ys).dropLast)++[(y::ys).getLast (by simp)]:=by
      rw [h8]; simp only [List.append_assoc,List.singleton_append,List.cons_append,List.nil_append]; rw [List.dropLast_concat_getLast]
    exact ⟨List.append_inj_left' e1 rfl,by have:=List.append_inj_right' e1 rfl; simpa using this⟩
  unfold bT
  rw [bX]
  simp only
  rw [h9.1,Bh h6 h7]
theorem jn.Ox {d:D} {u:Value} (ht:t'=.v d u) {q' y:List Nat} (hy:under (q++[o]) q'=some y) {R':RT} (h:lk S' r=some R'):bw R'.box R'.cs q'=none:=by
  subst ht
  obtain ⟨R,cs',l,h1,h2,h3,h4,rfl⟩:=hc.ex
  obtain ⟨l',h5,h6⟩:=lL h4
  rw [h2,Option.some.injEq] at h5
  subst h5
  have h7:(l.set o (.v d u))[o]?=some (.v d u):=List.getElem?_set_self (List.getElem?_eq_some_iff.1 h3).1
  rw [bX,Option.some.injEq] at h
  subst h
  rw [ik hy,List.append_assoc]
  exact Mi h6 h7
end
end Go.Proofs.Ytockoilcnmljiaa
namespace Go.Proofs.Ytockoilcnmljiaa
section
variable {w w':World} {X X':Bool→Nat→Prop} {S S':List (Nat × RT)}
theorem tq {d:D} {u:Value} (h:bR w X S d u):(∃ ds us,d=.aQ ds∧u=.tuple us∧bC (fN w X S) ds us.toList)∨((∀ ds,d≠.aQ ds)∧fN w X S d u):=by
  cases d<;>first | exact .inr ⟨by simp,h⟩ | (obtain ⟨us,h1,h2⟩:=h; exact .inl ⟨_,us,rfl,h1,h2⟩)
theorem pZ {d:D} {u:Value} (h:fN w X S d u):(∃ cs us,d=.agg cs∧u=.agg us∧bC (aN w X S) cs us.toList)∨(∃ f cs us,d=.fn f cs∧u=.func (.func f) #[] us∧bC (aN w X S) cs us.toList)∨((∀ cs,d≠.agg cs)∧(∀ f cs,d≠.fn f cs)∧aN w X S d u):=by
  cases d<;>first | exact .inr (.inr ⟨by simp,by simp,h⟩) | (obtain ⟨us,h1,h2⟩:=h; exact .inl ⟨_,us,rfl,h1,h2⟩) | (obtain ⟨us,h1,h2⟩:=h; exact .inr (.inl ⟨_,_,us,rfl,h1,h2⟩))
theorem Rw {f:D→D} (h:∀ d u,aN w X S d u→aN w' X' S' (f d) u) {d:D} {u:Value} (hd:bR w X S d u):bR w' X' S' (mM f d) u:=by
  have ha:∀ d u,fN w X S d u→fN w' X' S' (eB f d) u:=by
    intro d u hd
    rcases pZ hd with ⟨cs,us,rfl,rfl,ha⟩ | ⟨g,cs,us,rfl,rfl,ha⟩ | ⟨h1,h2,h3⟩
    · exact ⟨us,rfl,ha.map f (fun _ _=>h _ _)⟩
    · exact ⟨us,rfl,ha.map f (fun _ _=>h _ _)⟩
    · have:eB f d=f d:=by cases d<;>first | rfl | exact absurd rfl (h1 _) | exact absurd rfl (h2 _ _)
      rw [this]; exact dF (h _ _ h3)
  rcases tq hd with ⟨ds,us,rfl,rfl,hb⟩ | ⟨h1,h2⟩
  · exact ⟨us,rfl,hb.map _ (fun _ _=>ha _ _)⟩
  · have:mM f d=eB f d:=by cases d<;>first | rfl | exact absurd rfl (h1 _)
    rw [this]; exact jk (ha _ _ h2)
theorem Rx {α:Type} (f:α→α) (l:List (Nat × α)) (k:Nat):lk (fm f l) k=(lk l k).map f:=by
  induction l with
  | nil=>rfl
  | cons e t ih=>
    obtain ⟨j,v⟩:=e
    simp only [fm,lk]
    split<;>simp [ih]
theorem Oy {f:D→D} (h:∀ d u,aN w X S d u→aN w' X' S' (f d) u) {tm:List (Nat × D)} {vs:Array Value} (ht:ku w X S tm vs):ku w' X' S' (fm (mM f) tm) vs:=by
  intro t
  rw [Rx]
  have:=ht t
  cases hx:lk tm t with
  | none=>simpa [hx] using kv _
  | some d=>rw [hx] at this; simpa using Rw h this
theorem nD (h:∀ d u,aN w X S d u→aN w' X' S' d u) {d:D} {u:Value} (hd:bR w X S d u):bR w' X' S' d u:=by
  have ha:∀ d u,fN w X S d u→fN w' X' S' d u:=by
    intro d u hd
    rcases pZ hd with ⟨cs,us,rfl,rfl,ha⟩ | ⟨g,cs,us,rfl,rfl,ha⟩ | ⟨h1,h2,h3⟩
    · exact ⟨us,rfl,ha.mono h⟩
    · exact ⟨us,rfl,ha.mono h⟩
    · exact dF (h _ _ h3)
  rcases tq hd with ⟨ds,us,rfl,rfl,hb⟩ | ⟨h1,h2⟩
  · exact ⟨us,rfl,hb.mono ha⟩
  · exact jk (ha _ _ h2)
theorem tS (h:∀ d u,aN w X S d u→aN w' X' S' d u) {tm:List (Nat × D)} {vs:Array Value} (ht:ku w X S tm vs):ku w' X' S' tm vs:=fun t=>nD h (ht t)
end
def il (w w':World) (X X':Bool→Nat→Prop):Prop:=∀ b k,X b k→X' b k∧w'.heap[k]?=w.heap[k]?
theorem il.refl (w:World) (X:Bool→Nat→Prop):il w w X X:=fun _ _ h=>⟨h,rfl⟩
section
variable {w w':World} {X X':Bool→Nat→Prop} {S S':List (Nat × RT)} (hX:il w w' X X')
include hX
theorem mr {cs:List D} {o:Nat} {u:Value} (h:aN w X S (.cZ cs o) u):aN w' X' S' (.cZ cs o) u:=by
  obtain ⟨b,off,c,e,fz,us,h1,h2,h3,h4,h5⟩:=h
  exact ⟨b,off,c,e,fz,us,h1,(hX _ _ h2).1,by rw [(hX _ _ h2).2]; exact h3,pW hX _ _ h4,h5⟩
theorem mS {d:D} (hr:∀ r q o x,d≠.ref r q o x) (hp:∀ r q o,d≠.ptr r q o) (hq:∀ cs o,d≠.cZ cs o) {u:Value} (h:aN w X S d u):aN w' X' S' d u:=by
  cases d with
  | ref r q o x=>exact absurd rfl (hr _ _ _ _)
  | ptr r q o=>exact absurd rfl (hp _ _ _)
  | cZ cs o=>exact absurd rfl (hq _ _)
  | _=>exact fE hX _ _ h
theorem G4 {r:Nat} {q:List Nat} {o:Nat} {t:T} {d0:D} {u0:Value} (hc:jn S S' r q o t (.v d0 u0)) (hn:sn (aZ d0)=none∨jR t (.v d0 u0)) {d:D} {u:Value} (h:aN w X S d u):aN w' X' S' d u:=by
  cases d with
  | ref r' q' o' x=>
    intro t2 h2
    by_cases hf:r'≠r∨under (q++[o]) (q'++[o'])=none
    · obtain ⟨t1,h1,hl⟩:=hc.rL hf h2
      exact jm hl (h t1 h1)
    · have hr:r'=r:=Classical.byContradiction fun e=>hf (.inl e)
      cases hu:under (q++[o]) (q'++[o']) with
      | none=>exact absurd (.inr hu) hf
      | some y=>
        cases y with
        | nil=>
          have e1:=ik hu
          simp only [List.append_nil] at e1
          obtain ⟨rfl,e2⟩:=List.append_inj' e1 rfl
          simp only [List.cons.injEq,and_true] at e2
          subst e2; subst hr
          have:=hc.D5 h2
          subst this
          rcases hn with hn | hn
          · unfold dZ
            simp only [T.er,hn]
          · exact jm hn (h t hc.G3)
        | cons y ys=>rw [hc.Ow rfl hr hu] at h2; simp at h2
  | ptr r' q' o'=>
    intro R' dC
    obtain ⟨R,h1,h2⟩:=hc.box dC
    refine ⟨fun e=>by rw [← h2]; exact (h R h1).1 e,fun b off ha=>?_⟩
    by_cases hf:r'≠r∨under (q++[o]) q'=none
    · obtain ⟨R1,h3,h4,h5⟩:=hc.pd hf dC
      rw [h3,Option.some.injEq] at h1
      subst h1
      exact (h _ h3).2 b off (h5▸ha)
    · have hr:r'=r:=Classical.byContradiction fun e=>hf (.inl e)
      subst hr
      cases hu:under (q++[o]) q' with
      | none=>exact absurd (.inr hu) hf
      | some y=>rw [hc.Ox rfl hu dC] at ha; simp at ha
  | cZ cs o'=>exact mr hX h
  | _=>exact mS hX (by simp) (by simp) (by simp) h
theorem vg {r:Nat} {q:List Nat} {o:Nat} {t t':T} (hc:jn S S' r q o t t') {ex:Bool} (hl:ex=false→jR t t') {d:D} {u:Value} (h:aN w X S d u):aN w' X' S' (bS r q o ex d) u:=by
  cases d with
  | ref r' q' o' x=>
    simp only [bS]
    split
    · rename_i hr
      subst hr
      cases hu:under (q++[o]) (q'++[o']) with
      | none=>
        simp only
        intro t2 h2
        obtain ⟨t1,h1,hl⟩:=hc.rL (.inr hu) h2
        exact jm hl (h t1 h1)
      | some y=>
        cases y with
        | nil=>
          cases ex with
          | true=>simp [aN,Ext]
          | false=>
            simp only [Bool.false_eq_true,if_false]
            intro t2 h2
            have e1:=ik hu
            simp only [List.append_nil] at e1
            obtain ⟨rfl,e2⟩:=List.append_inj' e1 rfl
            simp only [List.cons.injEq,and_true] at e2
            subst e2
            have:=hc.D5 h2
            subst this
            exact jm (hl rfl) (h t hc.G3)
        | cons y ys=>simp [aN,Ext]
    · rename_i hr
      intro t2 h2
      obtain ⟨t1,h1,hl⟩:=hc.rL (.inl hr) h2
      exact jm hl (h t1 h1)
  | ptr r' q' o'=>
    simp only [bS]
    split
    · rename_i hr
      subst hr
      cases hu:under (q++[o]) q' with
      | none=>
        simp only
        intro R' dC
        obtain ⟨R1,h3,h4,h5⟩:=hc.pd (.inr hu) dC
        exact ⟨fun e=>by rw [← h4]; exact (h R1 h3).1 e,fun b off ha=>(h R1 h3).2 b off (h5▸ha)⟩
      | some y=>simp [aN,Ext]
    · rename_i hr
      intro R' dC
      obtain ⟨R1,h3,h4,h5⟩:=hc.pd (.inl hr) dC
      exact ⟨fun e=>by rw [← h4]; exact (h R1 h3).1 e,fun b off ha=>(h R1 h3).2 b off (h5▸ha)⟩
  | cZ cs o'=>exact mr hX h
  | _=>simp only [bS]; exact mS hX (by simp) (by simp) (by simp) h
theorem Oz {r:Nat} {R:RT} (hS:S'=pt S r R) {d:D} {u:Value} (h:aN w X S d u):aN w' X' S' (bW r d) u:=by
  subst hS
  cases d with
  | ref r' q' o' x=>
    simp only [bW]
    split
    · simp [aN,Ext]
    · rename_i hr
      intro t2 h2
      unfold bT at h2
      rw [cU _ _ hr] at h2
      exact h t2 h2
  | ptr r' q' o'=>
    simp only [bW]
    split
    · simp [aN,Ext]
    · rename_i hr
      intro R' dC
      rw [cU _ _ hr] at dC
      exact h R' dC
  | cZ cs o'=>exact mr hX h
  | _=>simp only [bW]; exact mS hX (by simp) (by simp) (by simp) h
theorem Ry {r:Nat} {R0 R:RT} (h0:lk S r=some R0) (hb:R.box=R0.box) (hS:S'=pt S r R) {d:D} {u:Value} (h:aN w X S d u):aN w' X' S' (dL r d) u:=by
  subst hS
  cases d with
  | ref r' q' o' x=>
    simp only [dL]
    split
    · simp [aN,Ext]
    · rename_i hr
      intro t2 h2
      unfold bT at h2
      rw [cU _ _ hr] at h2
      exact h t2 h2
  | ptr r' q' o'=>
    cases q' with
    | nil=>
      simp only [dL]
      intro R' dC
      by_cases hr:r'=r
      · subst hr
        rw [bX,Option.some.injEq] at dC
        subst dC
        refine ⟨fun e=>by rw [hb]; exact (h R0 h0).1 e,fun b off ha=>(h R0 h0).2 b off ?_⟩
        simp only [bw] at ha ⊢
        rw [← hb]; exact ha
      · rw [cU _ _ hr] at dC
        exact h R' dC
    | cons p q'=>
      simp only [dL]
      split
      · simp [aN,Ext]
      · rename_i hr
        intro R' dC
        rw [cU _ _ hr] at dC
        exact h R' dC
  | cZ cs o'=>exact mr hX h
  | _=>simp only [dL]; exact mS hX (by simp) (by simp) (by simp) h
theorem p7 (hS:∀ r R,lk S' r=some R→lk S r=some R) {d:D} {u:Value} (h:aN w X S d u):aN w' X' S' d u:=by
  cases d with
  | ref r' q' o' x=>
    intro t2 h2
    unfold bT at h2
    cases hr:lk S' r' with
    | none=>simp [hr] at h2
    | some R=>
      refine h t2 ?_
      unfold bT
      rw [hS _ _ hr]
      rw [hr] at h2
      exact h2
  | ptr r' q' o'=>exact fun R' dC=>h R' (hS _ _ dC)
  | cZ cs o'=>exact mr hX h
  | _=>exact mS hX (by simp) (by simp) (by simp) h
end
theorem OA (b:Bool) (d:D):gI b (aZ d)=aZ d:=by
  cases d with
  | sl g s n cs=>cases g<;>simp [aZ,gI]
  | _=>simp [aZ,gI]
mutual
theorem vh {w:World} {X X':Bool→Nat→Prop} (hX:∀ b k,X b k→X' b k) (b:Bool):∀ (t:T),aT w X t→(∀ k∈t.ft,X' b k)→Ext w X' (gI b t.er) t.val
  | .v d u,hs,_=>by
    simp only [aT] at hs
    have h2:Ext w X' (aZ d) u:=fE (fun b k h=>⟨hX b k h,rfl⟩) _ _ hs
    have h3:gI b (T.v d u).er=aZ d:=OA b d
    rw [h3]; exact h2
  | .own s n cap a cs,hs,hf=>by
    simp only [aT] at hs
    obtain ⟨h1,h2,h3,h4⟩:=hs
    simp only [T.er,gI,Ext,T.val,tk]
    have h5:=zi hX b cs h4 (fun k hk=>hf k (by simp [T.ft,hk]))
    refine ⟨_,cap,av cs,rfl,h1,?_,h5,?_⟩
    · have:=((gg _ _).1 h5).len
      rw [this,bd,h2]
    · cases a with
      | none=>
        left
        have:cs.length=0:=by rw [h2,h3.1]; simp
        simp [List.length_eq_zero_iff.1 this,aL,cM]
      | some p=>
        obtain ⟨k,off⟩:=p
        obtain ⟨c,e,fz,h6,_,_,h7⟩:=h3
        exact .inr ⟨k,off,c,e,fz,rfl,hf k (by simp [T.ft,hL]),h6,h7⟩
theorem zi {w:World} {X X':Bool→Nat→Prop} (hX:∀ b k,X b k→X' b k) (b:Bool):∀ (ts:List T),aU w X ts→(∀ k∈ad ts,X' b k)→fo w X' (cM b (aL ts)) (av ts)
  | [],_,_=>by simp [aL,cM,av,fo]
  | t::ts,hs,hf=>by
    simp only [aU] at hs
    simp only [aL,cM,av,fo]
    exact ⟨t.val,av ts,rfl,vh hX b t hs.1 (fun k hk=>hf k (by simp [ad,hk])),zi hX b ts hs.2 (fun k hk=>hf k (by simp [ad,hk]))⟩
end
theorem D6 (b:Bool):∀ (ds:List D) (k:Nat),cM b (ds.drop k)=(cM b ds).drop k
  | [],k=>by simp [cM]
  | d::ds,0=>rfl
  | d::ds,k+1=>by simp [cM,D6 b ds k]
theorem D7 (b:Bool):∀ (ds:List D) (k:Nat),cM b (ds.take k)=(cM b ds).take k
  | [],k=>by simp [cM]
  | d::ds,0=>rfl
  | d::ds,k+1=>by simp [cM,D7 b ds k]
theorem G5 {w:World} {X:Bool→Nat→Prop} {g:Bool} {s n:Nat} {cs:List D} {l m k C:Nat} {base:Option Addr} (h:Ext w X (.sl (some g) s n cs) (.slice base n C)) (h1:l+m≤n) (h2:k≤C) (h3:C - l=0∨k=l):
    Ext w X (.sl (some g) s m ((cs.drop (l*s)).take (m*s))) (.slice (base.map (·.add (k*s))) m (C - l)):=by
  simp only [Ext,Value.slice.injEq] at h ⊢
  obtain ⟨KT,qG,us,⟨rfl,_,rfl⟩,e3,e4,e5,e6⟩:=h
  have Bf:((cs.drop (l*s)).take (m*s)).length=m*s:=by
    rw [List.length_take,List.length_drop,e4]
    have:l*s+m*s≤n*s:=by rw [← Nat.add_mul]; exact Nat.mul_le_mul_right _ h1
    omega
  have dt:=(gg cs us).1 e5
  refine ⟨_,_,(us.drop (l*s)).take (m*s),⟨rfl,trivial,rfl⟩,by omega,Bf,(gg _ _).2 ((dt.drop _).take _),?_⟩
  by_cases hz:(cs.drop (l*s)).take (m*s)=[]
  · exact .inl hz
  · right
    have oa:0 < m*s:=by
      rcases Nat.eq_zero_or_pos (m*s) with e7 | e7
      · exact absurd (List.length_eq_zero_iff.1 (by rw [Bf,e7])) hz
      · exact e7
    rcases e6 with e6 | ⟨kb,off0,cc,ee,fz,rfl,e7,e8,e9⟩
    · subst e6; simp at hz
    · have Bi:m≠0:=fun e=>by simp [e] at oa
      have hkl:k=l:=by
        rcases h3 with h3 | h3
        · omega
        · exact h3
      subst hkl
      refine ⟨kb,off0+k*s,cc,ee,fz,by rw [Option.map_some,ek],e7,e8,fun j v hj=>?_⟩
      rw [List.getElem?_take] at hj
      split at hj
      · rw [List.getElem?_drop] at hj
        rw [Nat.add_assoc]; exact e9 _ _ hj
      · simp at hj
theorem yC {w:World} {X X':Bool→Nat→Prop} (hX:∀ b k,X b k→X' b k) (b:Bool) {t:T} {g:Option Bool} {s n:Nat} {cs:List D} (he:t.er=.sl g s n cs) (hs:aT w X t) (hf:∀ k∈t.ft,X' b k) {x:Option (Nat × Nat)} {u:Value} (hr:dZ x t u):
    Ext w X' (gI b (.sl g s (trim x s n cs).1 (trim x s n cs).2)) u:=by
  have h1:=vh hX b t hs hf
  unfold dZ at hr
  rw [he] at hr h1
  simp only [sn] at hr
  cases x with
  | none=>simp only at hr; subst hr; exact h1
  | some p=>
    obtain ⟨l,m⟩:=p
    simp only at hr
    obtain ⟨h2,base,C,k,h3,h4,rfl,h5⟩:=hr
    rw [h3] at h1
    cases g with
    | none=>
      simp only [gI,trim] at h1 ⊢
      rw [D7,D6]
      exact G5 h1 h2 h4 h5
    | some g=>
      simp only [gI,trim] at h1 ⊢
      exact G5 h1 h2 h4 h5
end Go.Proofs.Ytockoilcnmljiaa
namespace Go.Proofs.Ytockoilcnmljiaa
theorem Rel.step {C:Ctx} {H H':List T} {w w':World} {st st':St} {ay:List (Array Value)} {S S':List (Nat × RT)} (h:Rel C H w st ay S) {f:D→D} (fp:gj st'.rt S') (fh:st'.tm=fm (mM f) st.tm) (G6:st'.up=st.up.map (fm (mM f)))
    (dq:∀ d u,aN w (ab C w S H) S d u→aN w' (ab C w' S' H') S' (f d) u) (cF:Mem C w' S' H') (hk:Kept C w' S' H'):Rel C H' w' st' ay S':=by
  refine ⟨fp,cF,?_,hk⟩
  rw [fh,G6,show fm (mM f) st.tm::st.up.map (fm (mM f))=(st.tm::st.up).map (fm (mM f)) from rfl]
  exact h.mO.map _ (fun _ _=>Oy dq)
theorem Rel.pe {C:Ctx} {H H':List T} {w w':World} {st st':St} {ay:List (Array Value)} {S S':List (Nat × RT)} (h:Rel C H w st ay S) (fp:gj st'.rt S') (fh:st'.tm=st.tm) (G6:st'.up=st.up)
    (dq:∀ d u,aN w (ab C w S H) S d u→aN w' (ab C w' S' H') S' d u) (cF:Mem C w' S' H') (hk:Kept C w' S' H'):Rel C H' w' st' ay S':=by
  refine ⟨fp,cF,?_,hk⟩
  rw [fh,G6]
  exact h.mO.mono (fun _ _=>tS dq)
def GT (g:D→D) (t t1:T):Prop:=(∃ d d1 u,t=.v d u∧t1=.v d1 u∧aZ d1=g (aZ d))∨((∃ s n cap a xs,t=.own s n cap a xs)∧t1=t)
structure SR (g:D→D) (S S1:List (Nat × RT)):Prop where
  look:∀ r R1,lk S1 r=some R1→∃ R,lk S r=some R∧R1.box=R.box∧bC (GT g) R.cs R1.cs
  gJ:cf S1=cf S
theorem GT.val {g:D→D} {t t1:T} (h:GT g t t1):t1.val=t.val∧t1.ft=t.ft:=by
  rcases h with ⟨d,d1,u,rfl,rfl,_⟩ | ⟨_,rfl⟩
  · exact ⟨rfl,rfl⟩
  · exact ⟨rfl,rfl⟩
theorem GT.Tl {g:D→D} {ts XL:List T} (h:bC (GT g) ts XL):av XL=av ts:=by
  induction h with
  | nil=>rfl
  | cons h1 _ ih=>simp [av,h1.val.1,ih]
theorem SR.refl (S:List (Nat × RT)):SR id S S:=by
  refine ⟨fun r R1 h=>⟨R1,h,rfl,?_⟩,rfl⟩
  refine cL rfl (fun i a b ha hb=>?_)
  rw [ha,Option.some.injEq] at hb
  subst hb
  cases a with
  | v d u=>exact .inl ⟨d,d,u,rfl,rfl,rfl⟩
  | own s n cap aa xs=>exact .inr ⟨⟨s,n,cap,aa,xs,rfl⟩,rfl⟩
def fT (g:D→D):T→T
  | .v d u=>.v (eB g (aZ d)) u
  | t=>t
def fS (g:D→D):List (Nat × RT)→List (Nat × RT)
  | []=>[]
  | (k,R)::t=>(k,⟨R.box,R.cs.map (fT g)⟩)::fS g t
structure jS (g:D→D):Prop where
  sl:∀ b s n cs,g (.sl b s n cs)=.sl b s n cs
  hole:∀ s n,g (.hole s n)=.hole s n
  no:∀ d,sn d=none→sn (g d)=none
theorem OB {d:D} (h:sn d=none):aZ d=d:=by
  cases d<;>first | rfl | simp [sn] at h
theorem zj (d:D):aZ (aZ d)=aZ d:=by
  cases d with
  | sl b s n cs=>cases b<;>rfl
  | _=>rfl
theorem RA {d:D} {p:Nat × Nat} (h:sn (aZ d)=some p):(∃ b s n cs,aZ d=.sl (some b) s n cs)∨∃ s n,aZ d=.hole s n:=by
  cases d with
  | sl b s n cs=>
    cases b with
    | none=>simp [aZ,sn] at h
    | some b=>exact .inl ⟨b,s,n,cs,rfl⟩
  | hole s n=>exact .inr ⟨s,n,rfl⟩
  | _=>simp [aZ,sn] at h
theorem jS.Tm {g:D→D} (hg:jS g) {d:D} (h:sn d=none):sn (eB g d)=none:=by
  cases d<;>first | rfl | (simp [sn] at h; done) | exact hg.no _ rfl
theorem jS.Tn {g:D→D} (hg:jS g) (d:D):sn (eB g d)=sn d:=by
  cases d<;>first | rfl | (simp only [eB,hg.sl,hg.hole]; done) | exact hg.no _ rfl
theorem jS.leaf {g:D→D} (hg:jS g) (d:D):aZ (eB g (aZ d))=eB g (aZ d):=by
  cases hs:sn (aZ d) with
  | none=>exact OB (hg.Tm hs)
  | some p=>
    rcases RA hs with ⟨b,s,n,cs,h⟩ | ⟨s,n,h⟩
    · rw [h]
      simp [eB,hg.sl,aZ]
    · rw [h]
      simp [eB,hg.hole,aZ]
theorem Gx {g:D→D} (hg:jS g) (t:T):(fT g t).er=eB g t.er:=by
  cases t with
  | v d u=>simp only [fT,T.er]; exact hg.leaf d
  | own s n cap a xs=>simp [fT,T.er,eB,hg.sl]
theorem jY (g:D→D) (S:List (Nat × RT)) (k:Nat):lk (fS g S) k=(lk S k).map fun R=>⟨R.box,R.cs.map (fT g)⟩:=by
  induction S with
  | nil=>rfl
  | cons e t ih=>
    obtain ⟨j,R⟩:=e
    simp only [fS,lk]
    split<;>simp [ih]
theorem RB {α:Type} (f:α→α) (l:List (Nat × α)) (k:Nat):lk (fm f l) k=(lk l k).map f:=by
  induction l with
  | nil=>rfl
  | cons e t ih=>
    obtain ⟨j,v⟩:=e
    simp only [fm,lk]
    split<;>simp [ih]
theorem np {g:D→D} (hg:jS g) {l:List (Nat × List D)} {S:List (Nat × RT)} (h:gj l S):gj (fm (List.map (eB g)) l) (fS g S):=by
  intro k
  rw [RB,jY,h k]
  cases lk S k with
  | none=>rfl
  | some R=>
    simp only [Option.map_some,Option.some.injEq,dT,List.map_map]
    apply List.map_congr_left
    intro t _
    simp [Gx hg]
theorem Qx (g:D→D) (t:T):(fT g t).ft=t.ft:=by cases t<;>rfl
theorem qX (g:D→D) (S:List (Nat × RT)):cf (fS g S)=cf S:=by
  induction S with
  | nil=>rfl
  | cons e t ih=>
    obtain ⟨k,R⟩:=e
    simp only [fS,cf,ih,RT.ft]
    congr 2
    rw [lK,lK,List.map_map]
    congr 2
    funext t
    exact Qx g t
theorem KU {g:D→D} (hg:jS g) (S:List (Nat × RT)):SR (eB g) S (fS g S):=by
  refine ⟨fun r R1 h=>?_,qX g S⟩
  rw [jY] at h
  cases hr:lk S r with
  | none=>simp [hr] at h
  | some R=>
    simp only [hr,Option.map_some,Option.some.injEq] at h
    subst h
    refine ⟨R,rfl,rfl,cL (by simp) (fun i a b ha hb=>?_)⟩
    simp only [List.getElem?_map,ha,Option.map_some,Option.some.injEq] at hb
    subst hb
    cases a with
    | v d u=>exact .inl ⟨d,_,u,rfl,rfl,hg.leaf d⟩
    | own s n cap aa xs=>exact .inr ⟨⟨s,n,cap,aa,xs,rfl⟩,rfl⟩
theorem Aa (g:D→D) {cs:List T} {p:Nat} {q:List Nat}:ao (cs.map (fT g)) (p::q)=ao cs (p::q):=by
  simp only [ao,List.getElem?_map]
  cases cs[p]? with
  | none=>rfl
  | some t=>cases t<;>rfl
theorem JS (g:D→D) {cs:List T} {bx:Option Nat} {q:List Nat}:bw bx (cs.map (fT g)) q=bw bx cs q:=by
  cases q with
  | nil=>rfl
  | cons p q=>
    simp only [bw,List.getElem?_map]
    cases cs[p]? with
    | none=>rfl
    | some t=>cases t<;>rfl
theorem oc {g:D→D} (hg:jS g) {w:World} {X:Bool→Nat→Prop} {S:List (Nat × RT)} {d:D} {u:Value} (h:aN w X S d u):aN w X (fS g S) d u:=by
  cases d with
  | ref r q o x=>
    intro t2 h2
    unfold bT at h2
    rw [jY] at h2
    cases hr:lk S r with
    | none=>simp [hr] at h2
    | some R=>
      simp only [hr,Option.map_some] at h2
      cases q with
      | nil=>
        simp only [ao,List.getElem?_map] at h2
        cases ho:R.cs[o]? with
        | none=>simp [ho] at h2
        | some t=>
          simp only [ho,Option.map_some,Option.some.injEq] at h2
          subst h2
          have:=h t (by simp [bT,hr,ao,ho])
          cases t with
          | own s n cap aa xs=>exact this
          | v d0 u0=>
            unfold dZ at this ⊢
            rw [Gx hg]
            simp only [T.er,hg.Tn] at this ⊢
            exact this
      | cons p q=>
        rw [Aa] at h2
        exact h t2 (by unfold bT; rw [hr]; exact h2)
  | ptr r q o=>
    intro R' dC
    rw [jY] at dC
    cases hr:lk S r with
    | none=>simp [hr] at dC
    | some R=>
      simp only [hr,Option.map_some,Option.some.injEq] at dC
      subst dC
      exact ⟨(h R hr).1,fun b off ha=>(h R hr).2 b off (by rw [JS] at ha; exact ha)⟩
  | _=>exact h
theorem SR.pf {g:D→D} {S S1:List (Nat × RT)} (h:SR g S S1) {r:Nat} {R1:RT} (hr:lk S1 r=some R1):∃ R,lk S r=some R∧R1.box=R.box∧R1.cs.length=R.cs.length∧av R1.cs=av R.cs∧∀ (i:Nat) (t1:T),R1.cs[i]?=some t1→∃ t:T,R.cs[i]?=some t∧GT g t t1:=by
  obtain ⟨R,h1,h2,h3⟩:=h.look r R1 hr
  refine ⟨R,h1,h2,h3.len.symm,GT.Tl h3,fun i t1 hi=>?_⟩
  have hl:=h3.len
  obtain ⟨cJ,_⟩:=List.getElem?_eq_some_iff.1 hi
  obtain ⟨XM,h4,h5⟩:=h3.get (List.getElem?_eq_getElem (by omega:i < R.cs.length))
  rw [hi,Option.some.injEq] at h4
  subst h4
  exact ⟨_,List.getElem?_eq_getElem (by omega),h5⟩
section
variable {C:Ctx} {H H':List T} {w:World} {S S1 S':List (Nat × RT)}
theorem iC (dP:∀ k∈cf S'++ad H',k∈cf S++ad H) (b:Bool) (k:Nat) (h:ab C w S H b k):ab C w S' H' b k:=by
  obtain ⟨h1,h2,h3,h4⟩:=h
  have:k∉cf S'++ad H':=fun hk=>by
    rcases List.mem_append.1 (dP k hk) with h | h
    · exact h2 h
    · exact h3 h
  exact ⟨h1,fun h=>this (List.mem_append.2 (.inl h)),fun h=>this (List.mem_append.2 (.inr h)),h4⟩
theorem JT (hm:Mem C w S H) {g:D→D} (hS:SR g S S1) {r:Nat} {q:List Nat} {o:Nat} {t t':T} (hc:jn S1 S' r q o t t') (hv:t'.val=t.val) (hs:aT w (ab C w S' H') t'∨∃ d u,t'=.v d u∧q=[]∧∀ R,lk S r=some R→R.box.isSome=true∧aN w (ab C w S' H') S' (aZ d) u)
    (eG:(cf S'++ad H').Nodup) (dP:∀ k∈cf S'++ad H',k∈cf S++ad H) (hh:aU w (ab C w S' H') H') (dq:∀ d u,aN w (ab C w S H) S d u→aN w (ab C w S' H') S' (g d) u) (wT:∀ d u,Ext w (ab C w S H) d u→Ext w (ab C w S' H') (g d) u):Mem C w S' H':=by
  have hX:∀ b k,ab C w S H b k→ab C w S' H' b k:=iC dP
  have bV:∀ b k,ab C w S H b k→ab C w S' H' b k∧w.heap[k]?=w.heap[k]?:=fun b k h=>⟨hX b k h,rfl⟩
  have cell:∀ {bx:Bool} {t0 t1:T},hM w (ab C w S H) S bx t0→GT g t0 t1→hM w (ab C w S' H') S' bx t1:=by
    intro bx t0 t1 h0 hg
    rcases hg with ⟨d,d1,u,rfl,rfl,he⟩ | ⟨⟨s,n,cap,a,xs,rfl⟩,rfl⟩
    · simp only [hM] at h0 ⊢
      rw [he]
      rcases h0 with h0 | ⟨hb,h0⟩
      · exact .inl (wT _ _ h0)
      · exact .inr ⟨hb,dq _ _ h0⟩
    · exact c9 bV _ h0 (fun _ _=>rfl)
  refine ⟨eG,?_,hh,fun k hk=>hm.lt k (dP k hk)⟩
  intro r' R' dC
  obtain ⟨R1,cs',l,h1,h2,h3,h4,rfl⟩:=hc.ex
  by_cases he:r'=r
  · subst he
    rw [bX,Option.some.injEq] at dC
    subst dC
    obtain ⟨R,g1,g2,g3,g4,g5⟩:=hS.pf h1
    obtain ⟨k1,k2⟩:=hm.root r' R g1
    cases q with
    | nil=>
      simp only [ao,Option.some.injEq] at h2
      simp only [cX,Option.some.injEq] at h4
      subst h2; subst h4
      obtain ⟨cJ,hto⟩:=List.getElem?_eq_some_iff.1 h3
      have fV:av (R1.cs.set o t')=av R.cs:=by
        rw [← g4,nz,hv]
        apply List.ext_getElem?
        intro j
        by_cases hj:o=j
        · subst hj
          rw [List.getElem?_set_self (by rw [bd]; exact cJ),eD,h3]; rfl
        · rw [List.getElem?_set_ne hj]
      refine ⟨?_,?_⟩
      · simp only [List.length_set]
        rw [fV,g3,g2]; exact k1
      · intro t0 jo
        obtain ⟨j,hj⟩:=List.mem_iff_getElem?.1 jo
        simp only at hj
        by_cases D3:o=j
        · subst D3
          rw [List.getElem?_set_self cJ,Option.some.injEq] at hj
          subst hj
          rcases hs with hs | ⟨d,u,rfl,_,hs⟩
          · cases t' with
            | v d u=>exact .inl hs
            | own s n cap a xs=>exact hs
          · obtain ⟨hb,hs⟩:=hs R g1
            exact .inr ⟨by rw [g2]; exact hb,hs⟩
        · rw [List.getElem?_set_ne D3] at hj
          obtain ⟨JU,e1,e2⟩:=g5 j _ hj
          have:=cell (k2 _ (List.mem_of_getElem? e1)) e2
          rw [← g2] at this
          exact this
    | cons p q=>
      have rJ:aT w (ab C w (pt S1 r' ⟨R1.box,cs'⟩) H') t':=by
        rcases hs with hs | ⟨d,u,_,hq,_⟩
        · exact hs
        · simp at hq
      have fV:=(kC h4).1
      have hlen:=(kC h4).2
      refine ⟨?_,?_⟩
      · simp only
        rw [fV,hlen,g4,g3,g2]; exact k1
      · intro t0 jo
        obtain ⟨j,hj⟩:=List.mem_iff_getElem?.1 jo
        simp only at hj
        rw [ao] at h2
        rw [cX] at h4
        cases hp:R1.cs[p]? with
        | none=>simp [hp] at h2
        | some x=>
          cases x with
          | v d u=>simp [hp] at h2
          | own s n cap a xs=>
            simp only [hp] at h2 h4
            cases hx:cX (fun l=>l.set o t') xs q with
            | none=>simp [hx] at h4
            | some jg=>
              simp only [hx,Option.some.injEq] at h4
              subst h4
              obtain ⟨cJ,_⟩:=List.getElem?_eq_some_iff.1 hp
              by_cases qN:p=j
              · subst qN
                rw [List.getElem?_set_self cJ,Option.some.injEq] at hj
                subst hj
                obtain ⟨JU,e1,e2⟩:=g5 p _ hp
                have e3:=cell (k2 _ (List.mem_of_getElem? e1)) e2
                simp only [hM,aT] at e3 ⊢
                obtain ⟨f1,f2,f3,f4⟩:=e3
                obtain ⟨f5,f6⟩:=Rr rJ hv f4 h2 h3 hx
                have nE:jg.length=xs.length:=by have:=congrArg List.length f6; simpa [bd] using this
                exact ⟨f1,by rw [nE]; exact f2,by rw [f6]; exact f3,f5⟩
              · rw [List.getElem?_set_ne qN] at hj
                obtain ⟨JU,e1,e2⟩:=g5 j _ hj
                have:=cell (k2 _ (List.mem_of_getElem? e1)) e2
                rw [← g2] at this
                exact this
  · rw [cU _ _ he] at dC
    obtain ⟨R,g1,g2,g3,g4,g5⟩:=hS.pf dC
    obtain ⟨k1,k2⟩:=hm.root r' R g1
    refine ⟨?_,?_⟩
    · rw [g4,g3,g2]; exact k1
    · intro t0 jo
      obtain ⟨j,hj⟩:=List.mem_iff_getElem?.1 jo
      obtain ⟨JU,e1,e2⟩:=g5 j _ hj
      have:=cell (k2 _ (List.mem_of_getElem? e1)) e2
      rw [← g2] at this
      exact this
end
end Go.Proofs.Ytockoilcnmljiaa
namespace Go.Proofs.Ytockoilcnmljiaa
theorem OC {cs:List T} {o:Nat} {t t':T} (ho:cs[o]?=some t) (hv:t'.val=t.val):av (cs.set o t')=av cs:=by
  rw [nz,hv]
  apply List.ext_getElem?
  intro j
  by_cases hj:o=j
  · subst hj
    rw [List.getElem?_set_self (by rw [bd]; exact (List.getElem?_eq_some_iff.1 ho).1),eD,ho]; rfl
  · rw [List.getElem?_set_ne hj]
theorem jn.par {S S':List (Nat × RT)} {r:Nat} {q:List Nat} {o:Nat} {t t':T} (hc:jn S S' r q o t t') (hv:t'.val=t.val) {r':Nat} {R':RT} (h:lk S' r'=some R'):∃ R,lk S r'=some R∧R'.box=R.box∧av R'.cs=av R.cs:=by
  obtain ⟨R,cs',l,h1,h2,h3,h4,rfl⟩:=hc.ex
  by_cases he:r'=r
  · subst he
    rw [bX,Option.some.injEq] at h
    subst h
    refine ⟨R,h1,rfl,?_⟩
    cases q with
    | nil=>
      simp only [ao,Option.some.injEq] at h2
      simp only [cX,Option.some.injEq] at h4
      subst h2; subst h4
      exact OC h3 hv
    | cons p q=>exact (kC h4).1
  · rw [cU _ _ he] at h
    exact ⟨R',h,rfl,rfl⟩
theorem jn.D8 {S S':List (Nat × RT)} {r:Nat} {q:List Nat} {o:Nat} {t t':T} (hc:jn S S' r q o t t') {r':Nat} {R:RT} (h:lk S r'=some R):∃ R',lk S' r'=some R'∧R'.box=R.box∧R'.cs.length=R.cs.length:=by
  obtain ⟨R0,cs',l,h1,h2,h3,h4,rfl⟩:=hc.ex
  by_cases he:r'=r
  · subst he
    rw [h1,Option.some.injEq] at h
    subst h
    refine ⟨_,bX _ _ _,rfl,?_⟩
    cases q with
    | nil=>
      simp only [cX,Option.some.injEq] at h4
      subst h4; simp
    | cons p q=>exact (kC h4).2
  · exact ⟨R,by rw [cU _ _ he]; exact h,rfl,rfl⟩
theorem Ab {st st':St} {S:List (Nat × RT)} (fp:gj st.rt S) {r:Nat} {q:List Nat} {o:Nat} {t t':T} {R:RT} {l:List T} (h1:lk S r=some R) (h2:ao R.cs q=some l) (h3:l[o]?=some t) (h:st.gw r q o t'.er=some st'):
    ∃ S',jn S S' r q o t t'∧gj st'.rt S'∧st'.tm=st.tm∧st'.up=st.up∧st'.of=st.of:=by
  unfold St.gw at h
  rw [fp,h1] at h
  simp only [Option.map_some,Te] at h
  obtain ⟨cs',h4⟩:=GS (f:=fun l=>l.set o t') h2
  rw [h4] at h
  simp only [Option.map_some,Option.some.injEq] at h
  subst h
  exact ⟨pt S r ⟨R.box,cs'⟩,⟨R,cs',l,h1,h2,h3,h4,rfl⟩,yB fp r ⟨R.box,cs'⟩,rfl,rfl,rfl⟩
theorem RC:∀ {a b:List T},a.Sublist b→(ad a).Sublist (ad b):=by
  intro a b h
  induction h with
  | slnil=>exact List.Sublist.refl _
  | cons x _ ih=>rw [ad]; exact ih.trans (List.sublist_append_right _ _)
  | cons_cons x _ ih=>rw [ad,ad]; exact List.Sublist.append (List.Sublist.refl _) ih
theorem To {w:World} {X:Bool→Nat→Prop} {s n cap:Nat} {a:Option (Nat × Nat)} {ts:List T} (hs:aT w X (.own s n cap a ts)) {x:Option (Nat × Nat)} {u:Value} (hr:dZ x (.own s n cap a ts) u):
    ∃ t:T,t.er=.sl none s (trim x s n (aL ts)).1 (trim x s n (aL ts)).2∧t.val=u∧aT w X t∧t.ft.Sublist (T.own s n cap a ts).ft:=by
  cases x with
  | none=>
    simp only [dZ,sn,T.er] at hr
    exact ⟨.own s n cap a ts,rfl,hr.symm,hs,List.Sublist.refl _⟩
  | some p=>
    obtain ⟨l,m⟩:=p
    simp only [dZ,sn,T.er,T.val,tk,Value.slice.injEq] at hr
    obtain ⟨h1,base,C,k,⟨h2,_,h3⟩,h4,rfl,h5⟩:=hr
    subst h2; subst h3
    simp only [aT] at hs
    obtain ⟨g1,g2,g3,g4⟩:=hs
    refine ⟨.own s m (cap - l) (a.map fun p=>(p.1,p.2+k*s)) ((ts.drop (l*s)).take (m*s)),?_,?_,?_,?_⟩
    · simp only [T.er,trim,wM,wN]
    · simp only [T.val,tk,Option.map_map]
      congr 1
      cases a<;>simp [ek]
    · simp only [aT]
      refine ⟨by omega,?_,?_,?_⟩
      · rw [List.length_take,List.length_drop,g2]
        have:l*s+m*s≤n*s:=by rw [← Nat.add_mul]; exact Nat.mul_le_mul_right _ h1
        omega
      · cases a with
        | none=>simp only at g3; simp only [Option.map_none]; omega
        | some p=>
          obtain ⟨b,off⟩:=p
          simp only [Option.map_some]
          obtain ⟨c,e,fz,k1,k2,k3,k4⟩:=g3
          refine ⟨c,e,fz,k1,k2,?_,?_⟩
          · rcases h5 with h5 | h5
            · rw [h5]
              have:k*s≤cap*s:=Nat.mul_le_mul_right _ h4
              omega
            · subst h5
              have:k*s+(cap - k)*s=cap*s:=by rw [← Nat.add_mul]; congr 1; omega
              omega
          · intro j u hj
            rw [cu,List.map_take,List.map_drop,← cu,List.getElem?_take] at hj
            split at hj
            · rename_i cJ
              rw [List.getElem?_drop] at hj
              have hm:m≠0:=fun e=>by simp [e] at cJ
              have:k=l:=by omega
              subst this
              rw [Nat.add_assoc]
              exact k4 _ _ hj
            · simp at hj
      · rw [bL] at g4 ⊢
        exact fun t ht=>g4 t (List.mem_of_mem_drop (List.mem_of_mem_take ht))
    · simp only [T.ft]
      refine List.Sublist.append ?_ (RC ((List.take_sublist _ _).trans (List.drop_sublist _ _)))
      cases a<;>exact List.Sublist.refl _
structure nF (S S':List (Nat × RT)):Prop where
  fwd:∀ r R,lk S r=some R→∃ R',lk S' r=some R'∧R'.box=R.box∧av R'.cs=av R.cs
theorem nF.refl (S:List (Nat × RT)):nF S S:=⟨fun _ R h=>⟨R,h,rfl,rfl⟩⟩
theorem nF.trans {S S' vX:List (Nat × RT)} (h:nF S S') (h':nF S' vX):nF S vX:=⟨fun r R hr=>by
  obtain ⟨R1,h1,h2,h3⟩:=h.fwd r R hr
  obtain ⟨R2,h4,h5,h6⟩:=h'.fwd r R1 h1
  exact ⟨R2,h4,h5.trans h2,h6.trans h3⟩⟩
theorem vi {C:Ctx} {w:World} {S S':List (Nat × RT)} {H H':List T} (hk:Kept C w S H) (dP:∀ k∈cf S'++ad H',k∈cf S++ad H) (hp:∀ r R',lk S' r=some R'→∃ R,lk S r=some R∧R'.box=R.box∧av R'.cs=av R.cs):Kept C w S' H':=
  ⟨hk.os,hk.tape,hk.output,hk.size,hk.block,fun k h=>hk.gJ k (dP k h),fun r b vs hm R' hr=>by
    obtain ⟨R,h1,h2,h3⟩:=hp r R' hr
    have:=hk.par r b vs hm R h1
    rw [h2,h3]; exact this⟩
section
variable {C:Ctx} {H:List T} {w:World} {st st':St} {ay:List (Array Value)} {S:List (Nat × RT)}
theorem Bj (h:Rel C H w st ay S) {d:D} {u:Value} (hu:Ext w (ab C w S H) d u) (hd:aZ d=d):Rel C (.v d u::H) w st ay S:=by
  have hf:∀ b k,ab C w S H b k→ab C w S (.v d u::H) b k:=iC (by simp [ad,T.ft])
  have bV:∀ b k,ab C w S H b k→ab C w S (.v d u::H) b k∧w.heap[k]?=w.heap[k]?:=fun b k hh=>⟨hf b k hh,rfl⟩
  have dq:∀ d' u',aN w (ab C w S H) S d' u'→aN w (ab C w S (.v d u::H)) S d' u':=fun d' u' hh=>p7 bV (fun _ _ h=>h) hh
  refine h.pe h.rt rfl rfl dq ⟨by simpa [ad,T.ft] using h.mem.nd,?_,?_,by simpa [ad,T.ft] using h.mem.lt⟩ (vi h.kept (by simp [ad,T.ft]) (fun r R' hr=>⟨R',hr,rfl,rfl⟩))
  · intro r R hR
    obtain ⟨h1,h2⟩:=h.mem.root r R hR
    refine ⟨h1,fun t ht=>?_⟩
    have:=h2 t ht
    cases t with
    | v d' u'=>
      rcases this with this | ⟨hb,this⟩
      · exact .inl (fE bV _ _ this)
      · exact .inr ⟨hb,dq _ _ this⟩
    | own s n cap a xs=>exact c9 bV _ this (fun _ _=>rfl)
  · simp only [aU,aT]
    exact ⟨by rw [hd]; exact fE bV _ _ hu,fG bV _ h.mem.hand (fun _ _=>rfl)⟩
theorem rh (h:Rel C H w st ay S) {d d':D} {u:Value} (hu:aN w (ab C w S H) S d u) (ht:hI st d=some (d',st')):
    ∃ t S',Rel C (t::H) w st' ay S'∧t.er=d'∧t.val=u∧(∀ d u,aN w (ab C w S H) S d u→aN w (ab C w S' (t::H)) S' d u)∧nF S S'∧(st'.tm=st.tm∧st'.up=st.up∧st'.of=st.of)∧(∀ r q o x,d=.ref r q o x→∃ d0 u0,(sn d0).isSome=true∧aZ d0=d0∧bT S' r q o=some (.v d0 u0)∧(x=none→jR (.v d0 u0) t)):=by
  have plain:∀ {d:D},Ext w (ab C w S H) d u→aZ d=d→∃ t S',Rel C (t::H) w st ay S'∧t.er=d∧t.val=u∧(∀ d u,aN w (ab C w S H) S d u→aN w (ab C w S' (t::H)) S' d u)∧nF S S'∧(st.tm=st.tm∧st.up=st.up∧st.of=st.of)∧S=S':=by
    intro d hu hd
    refine ⟨.v d u,S,Bj h hu hd,hd,rfl,fun d' u' hh=>p7 (fun b k hh=>⟨iC (by simp [ad,T.ft]) b k hh,rfl⟩) (fun _ _ h=>h) hh,nF.refl _,⟨rfl,rfl,rfl⟩,rfl⟩
  have wU:∀ {d:D},(∀ r q o x,d≠.ref r q o x)→Ext w (ab C w S H) d u→aZ d=d→∃ t S',Rel C (t::H) w st ay S'∧t.er=d∧t.val=u∧(∀ d u,aN w (ab C w S H) S d u→aN w (ab C w S' (t::H)) S' d u)∧nF S S'∧(st.tm=st.tm∧st.up=st.up∧st.of=st.of)∧(∀ r q o x,d=.ref r q o x→∃ d0 u0,(sn d0).isSome=true∧aZ d0=d0∧bT S' r q o=some (.v d0 u0)∧(x=none→jR (.v d0 u0) t)):=by
    intro d hn hu hd
    obtain ⟨t,S',a1,a2,a3,a4,a5,a6,_⟩:=plain hu hd
    exact ⟨t,S',a1,a2,a3,a4,a5,a6,fun r q o x e=>absurd e (hn r q o x)⟩
  cases d with
  | int k n=>simp only [hI,Option.some.injEq,Prod.mk.injEq] at ht; obtain ⟨rfl,rfl⟩:=ht; exact wU (by simp) hu rfl
  | bool b=>simp only [hI,Option.some.injEq,Prod.mk.injEq] at ht; obtain ⟨rfl,rfl⟩:=ht; exact wU (by simp) hu rfl
  | str s=>simp only [hI,Option.some.injEq,Prod.mk.injEq] at ht; obtain ⟨rfl,rfl⟩:=ht; exact wU (by simp) hu rfl
  | undef=>simp only [hI,Option.some.injEq,Prod.mk.injEq] at ht; obtain ⟨rfl,rfl⟩:=ht; exact wU (by simp) hu rfl
  | hole s n=>
    simp only [hI,Option.some.injEq,Prod.mk.injEq] at ht; obtain ⟨rfl,rfl⟩:=ht
    obtain ⟨t,S',a1,a2,a3,a4,a5,a6,_⟩:=plain (d:=.undef) (by simp [Ext]) rfl
    exact ⟨t,S',a1,a2,a3,a4,a5,a6,by simp⟩
  | sl g s n cs=>
    simp only [hI,Option.some.injEq,Prod.mk.injEq] at ht; obtain ⟨rfl,rfl⟩:=ht
    cases g with
    | none=>exact absurd hu (by simp [aN,Ext])
    | some g=>exact wU (by simp) hu rfl
  | nil s=>
    simp only [hI,Option.some.injEq,Prod.mk.injEq] at ht; obtain ⟨rfl,rfl⟩:=ht
    have hu':u=.slice none 0 0:=hu
    subst hu'
    have ea:(T.own s 0 0 none []).ft=[]:=rfl
    have hf:∀ b k,ab C w S H b k→ab C w S (.own s 0 0 none []::H) b k:=iC (by simp [ad,ea])
    have bV:∀ b k,ab C w S H b k→ab C w S (.own s 0 0 none []::H) b k∧w.heap[k]?=w.heap[k]?:=fun b k hh=>⟨hf b k hh,rfl⟩
    have dq:∀ d' u',aN w (ab C w S H) S d' u'→aN w (ab C w S (.own s 0 0 none []::H)) S d' u':=fun d' u' hh=>p7 bV (fun _ _ h=>h) hh
    refine ⟨.own s 0 0 none [],S,?_,rfl,rfl,dq,nF.refl _,⟨rfl,rfl,rfl⟩,by simp⟩
    refine h.pe h.rt rfl rfl dq ⟨by simpa [ad,ea] using h.mem.nd,?_,?_,by simpa [ad,ea] using h.mem.lt⟩ (vi h.kept (by simp [ad,ea]) (fun r R' hr=>⟨R',hr,rfl,rfl⟩))
    · intro r R hR
      obtain ⟨h1,h2⟩:=h.mem.root r R hR
      refine ⟨h1,fun t ht=>?_⟩
      have:=h2 t ht
      cases t with
      | v d' u'=>
        rcases this with this | ⟨hb,this⟩
        · exact .inl (fE bV _ _ this)
        · exact .inr ⟨hb,dq _ _ this⟩
      | own s n cap a xs=>exact c9 bV _ this (fun _ _=>rfl)
    · simp only [aU,aT]
      exact ⟨by simp,fG bV _ h.mem.hand (fun _ _=>rfl)⟩
  | ref r q o x=>
    simp only [hI] at ht
    split at ht
    · rename_i s n cs hc
      split at ht
      case h_2=>simp at ht
      rename_i aC hC
      simp only [Option.some.injEq,Prod.mk.injEq] at ht
      obtain ⟨rfl,rfl⟩:=ht
      obtain ⟨R,l,t0,h1,h2,h3,h4,h5⟩:=gR h.rt hc
      obtain ⟨cap,a,ts,rfl,rfl⟩:=A3 h5.symm
      have Bi:=h.mem
      have du:aT w (ab C w S H) (.own s n cap a ts):=by
        obtain ⟨_,g2⟩:=Bi.root r R h1
        cases q with
        | nil=>
          simp only [ao,Option.some.injEq] at h2
          subst h2
          exact g2 _ (List.mem_of_getElem? h3)
        | cons p q=>
          rw [ao] at h2
          cases hp:R.cs[p]? with
          | none=>simp [hp] at h2
          | some y=>
            cases y with
            | v d u=>simp [hp] at h2
            | own s' n' qG a' jg=>
              simp only [hp] at h2
              have hs:aT w (ab C w S H) (.own s' n' qG a' jg):=g2 _ (List.mem_of_getElem? hp)
              simp only [aT] at hs
              exact fb (tl hs.2.2.2 h2) h3
      obtain ⟨t,e1,e2,e3,e4⟩:=To du (hu _ h4)
      obtain ⟨S',Ac,Y7,Tp,Tq,Y8⟩:=Ab (t':=.v (.hole s n) (T.own s n cap a ts).val) h.rt h1 h2 h3 hC
      obtain ⟨A,B,f1,f2⟩:=Ac.Tk
      simp only [T.ft,List.append_nil] at f2
      have dP:∀ k∈cf S'++ad (t::H),k∈cf S++ad H:=by
        intro k hk
        rw [f1]
        rw [f2] at hk
        simp only [ad,List.mem_append] at hk ⊢
        rcases hk with (hk | hk) | (hk | hk)
        · exact .inl (.inl (.inl hk))
        · exact .inl (.inr hk)
        · exact .inl (.inl (.inr (e4.mem hk)))
        · exact .inr hk
      have eG:(cf S'++ad (t::H)).Nodup:=by
        have h0:=Bi.nd
        rw [f1] at h0
        rw [f2]
        have p1:(A++(T.own s n cap a ts).ft++B++ad H).Perm (A++B++((T.own s n cap a ts).ft++ad H)):=by
          simp only [List.append_assoc]
          refine List.Perm.append_left A ?_
          rw [← List.append_assoc,← List.append_assoc]
          exact List.Perm.append_right _ List.perm_append_comm
        have h00:=p1.nodup_iff.1 h0
        refine List.Nodup.sublist ?_ h00
        simp only [ad]
        exact List.Sublist.append (List.Sublist.refl _) (List.Sublist.append e4 (List.Sublist.refl _))
      have bV:il w w (ab C w S H) (ab C w S' (t::H)):=fun b k hh=>⟨iC dP b k hh,rfl⟩
      have dq:∀ d u,aN w (ab C w S H) S d u→aN w (ab C w S' (t::H)) S' d u:=fun d u hh=>G4 bV Ac (.inr ⟨rfl,fun p h=>by simpa [T.er,aZ,sn] using h⟩) hh
      have cF:Mem C w S' (t::H):=JT Bi (SR.refl S) Ac rfl (.inl (by simp [aT,aZ,Ext])) eG dP (by
          simp only [aU]
          exact ⟨c9 bV _ e3 (fun _ _=>rfl),fG bV _ Bi.hand (fun _ _=>rfl)⟩) dq (fun d u hh=>fE bV _ _ hh)
      exact ⟨t,S',h.pe Y7 Tp Tq dq cF (vi h.kept dP (fun r R' hr=>Ac.par rfl hr)),e1,e2,dq,⟨fun r R hr=>by
        obtain ⟨R',k1,k2,k3⟩:=Ac.D8 hr
        obtain ⟨R0,k4,k5,k6⟩:=Ac.par rfl k1
        rw [hr,Option.some.injEq] at k4
        subst k4
        exact ⟨R',k1,k2,k6⟩⟩,⟨Tp,Tq,Y8⟩,fun r' q' o' x' he=>by
        simp only [D.ref.injEq] at he
        obtain ⟨rfl,rfl,rfl,rfl⟩:=he
        refine ⟨_,_,rfl,rfl,Ac.z8,fun hx=>⟨?_,fun p he=>?_⟩⟩
        · subst hx
          have:=hu _ h4
          simp only [dZ,sn,T.er] at this
          rw [e2,this]; rfl
        · subst hx
          rw [e1] at he
          simpa [T.er,aZ,sn,trim] using he⟩
    · rename_i g s n cs hc
      simp only [Option.some.injEq,Prod.mk.injEq] at ht
      obtain ⟨rfl,rfl⟩:=ht
      obtain ⟨R,l,t0,h1,h2,h3,h4,h5⟩:=gR h.rt hc
      have Bi:=h.mem
      have du:aT w (ab C w S H) t0:=by
        obtain ⟨_,g2⟩:=Bi.root r R h1
        cases q with
        | nil=>
          simp only [ao,Option.some.injEq] at h2
          subst h2
          have:=g2 _ (List.mem_of_getElem? h3)
          cases t0 with
          | own s n cap a xs=>exact this
          | v d u=>
            rcases this with h3 | ⟨_,h3⟩
            · exact h3
            · simp only [T.er] at h5
              simp only [aT]
              rw [← h5] at h3 ⊢
              exact h3
        | cons p q=>
          rw [ao] at h2
          cases hp:R.cs[p]? with
          | none=>simp [hp] at h2
          | some y=>
            cases y with
            | v d u=>simp [hp] at h2
            | own s' n' qG a' jg=>
              simp only [hp] at h2
              have hs:aT w (ab C w S H) (.own s' n' qG a' jg):=g2 _ (List.mem_of_getElem? hp)
              simp only [aT] at hs
              exact fb (tl hs.2.2.2 h2) h3
      have iZ:t0.ft=[]:=by
        cases t0 with
        | v d u=>rfl
        | own s' n' cap a ts=>simp [T.er] at h5
      have:=yC (X':=ab C w S H) (fun _ _ h=>h) false h5.symm du (by simp [iZ]) (hu _ h4)
      obtain ⟨t,S',a1,a2,a3,a4,a5,a6,a7⟩:=plain this rfl
      refine ⟨t,S',a1,a2,a3,a4,a5,a6,fun r' q' o' x' he=>?_⟩
      simp only [D.ref.injEq] at he
      obtain ⟨rfl,rfl,rfl,rfl⟩:=he
      cases t0 with
      | own s' n' cap a ts=>simp [T.er] at h5
      | v d0 u0=>
        simp only [T.er] at h5
        have Tr:d0=.sl (some g) s n cs:=by
          cases d0 with
          | sl g0 s0 n0 XN=>
            cases g0 with
            | none=>simp [aZ] at h5
            | some g0=>exact h5.symm
          | _=>simp [aZ] at h5
        subst Tr
        refine ⟨_,u0,rfl,rfl,a7▸h4,fun hx=>⟨?_,fun p he=>?_⟩⟩
        · subst hx
          have:=hu _ h4
          simp only [dZ,sn,T.er,aZ] at this
          rw [a3]; exact this
        · subst hx
          rw [a2] at he
          simpa [gI,trim,sn,T.er,aZ] using he
    · simp at ht
  | _=>simp [hI] at ht
end
end Go.Proofs.Ytockoilcnmljiaa
namespace Go.Proofs.Ytockoilcnmljiaa
theorem od (r:Nat):jS (bW r):=
  ⟨fun _ _ _ _=>rfl,fun _ _=>rfl,fun d h=>by cases d<;>simp only [bW]<;>first | rfl | (split<;>rfl) | exact h⟩
theorem KV (r:Nat):jS (dL r):=
  ⟨fun _ _ _ _=>rfl,fun _ _=>rfl,fun d h=>by
    cases d with
    | ref r' q o x=>simp only [dL]; split<;>rfl
    | ptr r' q o=>cases q<;>simp only [dL]<;>first | rfl | (split<;>rfl)
    | _=>exact h⟩
theorem kF (r:Nat) (q:List Nat) (o:Nat) (e:Bool):jS (bS r q o e):=
  ⟨fun _ _ _ _=>rfl,fun _ _=>rfl,fun d h=>by
    cases d with
    | ref r' q' o' x=>
      simp only [bS]
      split
      · split
        · rfl
        · split<;>rfl
        · rfl
      · rfl
    | ptr r' q' o'=>
      simp only [bS]
      split
      · split<;>rfl
      · rfl
    | _=>exact h⟩
theorem wV (r:Nat) (q:List Nat) (o r1:Nat) (q1:List Nat) (o1:Nat):jS (o5 r q o r1 q1 o1):=
  ⟨fun _ _ _ _=>rfl,fun _ _=>rfl,fun d h=>by
    cases d with
    | ref r' q' o' x=>
      simp only [o5]
      split
      · split<;>rfl
      · rfl
    | ptr r' q' o'=>
      simp only [o5]
      split
      · split<;>rfl
      · rfl
    | _=>exact h⟩
theorem pg {g:D→D} (hg:jS g) (hs:∀ d,g d=d∨(∃ r q o x,d=.ref r q o x)∨∃ r q o,d=.ptr r q o) {w:World} {X:Bool→Nat→Prop} {d:D} {u:Value} (h:Ext w X d u):Ext w X (eB g d) u:=by
  rcases hs d with h1 | ⟨r,q,o,x,rfl⟩ | ⟨r,q,o,rfl⟩
  · cases d<;>first | (simp only [eB,h1]; exact h) | (simp [Ext] at h)
  · simp [Ext] at h
  · simp [Ext] at h
theorem KW (r:Nat) (d:D):bW r d=d∨(∃ r q o x,d=.ref r q o x)∨∃ r q o,d=.ptr r q o:=by
  cases d<;>first | exact .inl rfl | exact .inr (.inl ⟨_,_,_,_,rfl⟩) | exact .inr (.inr ⟨_,_,_,rfl⟩)
theorem KX (r:Nat) (d:D):dL r d=d∨(∃ r q o x,d=.ref r q o x)∨∃ r q o,d=.ptr r q o:=by
  cases d<;>first | exact .inl rfl | exact .inr (.inl ⟨_,_,_,_,rfl⟩) | exact .inr (.inr ⟨_,_,_,rfl⟩)
theorem vj (r:Nat) (q:List Nat) (o:Nat) (e:Bool) (d:D):bS r q o e d=d∨(∃ r q o x,d=.ref r q o x)∨∃ r q o,d=.ptr r q o:=by
  cases d<;>first | exact .inl rfl | exact .inr (.inl ⟨_,_,_,_,rfl⟩) | exact .inr (.inr ⟨_,_,_,rfl⟩)
theorem ri {w:World} {X:Bool→Nat→Prop} {S:List (Nat × RT)} {g:D→D} {d:D} {u:Value} (h:aN w X S d u):eB g d=g d:=by
  cases d<;>first | rfl | (simp [aN,Ext] at h)
section
variable {C:Ctx} {H Hs:List T} {w w':World} {st:St} {ay:List (Array Value)} {S:List (Nat × RT)}
theorem Qy {S:List (Nat × RT)} {k:Nat} (r:RT):∃ A B bQ,cf S=A++bQ++B∧cf (pt S k r)=A++r.ft++B:=by
  cases h:lk S k with
  | none=>exact ⟨cf S,[],[],by simp,by rw [KQ h]; simp⟩
  | some R=>
    obtain ⟨A,B,h1,h2⟩:=ka h
    exact ⟨A,B,R.ft,h1,h2 r⟩
theorem G7 (h:Rel C (Hs++H) w st ay S) {r:Nat} {R:RT} (ea:∀ k∈R.ft,k∈ad Hs∨w.heap.size≤k):
    ∀ k∈cf (pt (fS (bW r) S) r R)++ad H,k∈cf S++ad (Hs++H)∨w.heap.size≤k:=by
  obtain ⟨A,B,bQ,f1,f2⟩:=Qy (S:=fS (bW r) S) (k:=r) R
  rw [qX] at f1
  intro k hk
  rw [f2] at hk
  rw [f1,aK]
  simp only [List.mem_append] at hk ⊢
  rcases hk with ((hk | hk) | hk) | hk
  · exact .inl (.inl (.inl (.inl hk)))
  · rcases ea k hk with h2 | h2
    · exact .inl (.inr (.inl h2))
    · exact .inr h2
  · exact .inl (.inl (.inr hk))
  · exact .inl (.inr (.inr hk))
theorem mu (h:Rel C (Hs++H) w st ay S) {r:Nat} {R:RT} (ea:∀ k∈R.ft,k∈ad Hs∨w.heap.size≤k) (cr:w.heap.size≤w'.heap.size) (hold:∀ k,k < w.heap.size→w'.heap[k]?=w.heap[k]?):
    il w w' (ab C w S (Hs++H)) (ab C w' (pt (fS (bW r) S) r R) H):=by
  have dP:=G7 (r:=r) h ea
  intro b k hk
  refine ⟨⟨by have:=hk.1; omega,fun hx=>?_,fun hx=>?_,hk.2.2.2⟩,hold k hk.1⟩
  · rcases dP k (List.mem_append.2 (.inl hx)) with h2 | h2
    · rcases List.mem_append.1 h2 with h3 | h3
      · exact hk.2.1 h3
      · exact hk.2.2.1 h3
    · have:=hk.1; omega
  · rcases dP k (List.mem_append.2 (.inr hx)) with h2 | h2
    · rcases List.mem_append.1 h2 with h3 | h3
      · exact hk.2.1 h3
      · exact hk.2.2.1 h3
    · have:=hk.1; omega
theorem Bk (h:Rel C (Hs++H) w st ay S) {r:Nat} {R:RT} (ea:∀ k∈R.ft,k∈ad Hs∨w.heap.size≤k) (cr:w.heap.size≤w'.heap.size) (hold:∀ k,k < w.heap.size→w'.heap[k]?=w.heap[k]?):
    ∀ d u,aN w (ab C w S (Hs++H)) S d u→aN w' (ab C w' (pt (fS (bW r) S) r R) H) (pt (fS (bW r) S) r R) (bW r d) u:=
  fun _ _ hd=>Oz (mu h ea cr hold) rfl (oc (od r) hd)
theorem vk (h:Rel C (Hs++H) w st ay S) {r:Nat} {R:RT} (hR:GV w' (ab C w' (pt (fS (bW r) S) r R) H) (pt (fS (bW r) S) r R) R)
    (ea:R.ft.Nodup∧∀ k∈R.ft,k∈ad Hs∨w.heap.size≤k) (cJ:∀ k∈R.ft,k < w'.heap.size) (cr:w.heap.size≤w'.heap.size) (hold:∀ k,k < w.heap.size→w'.heap[k]?=w.heap[k]?)
    (lv:w'.os=w.os) (qY:w'.tape=w.tape) (rM:w'.output=w.output) (hP:∀ p∈C.P0,p.1≠r):
    Rel C H w' { st.ej (bW r) with rt:=pz (st.ej (bW r)).rt r (aL R.cs) } ay (pt (fS (bW r) S) r R)∧
    ∀ d u,aN w (ab C w S (Hs++H)) S d u→aN w' (ab C w' (pt (fS (bW r) S) r R) H) (pt (fS (bW r) S) r R) (bW r d) u:=by
  obtain ⟨A,B,bQ,f1,f2⟩:=Qy (S:=fS (bW r) S) (k:=r) R
  rw [qX] at f1
  have dP:=G7 (r:=r) h ea.2
  have bV:=mu (r:=r) h ea.2 cr hold
  have dq:=Bk (r:=r) h ea.2 cr hold
  have eG:(cf (pt (fS (bW r) S) r R)++ad H).Nodup:=by
    have h0:=h.mem.nd
    rw [f1,aK] at h0
    rw [f2]
    have Ts:=h.mem.lt
    rw [f1,aK] at Ts
    simp only [List.nodup_append,List.mem_append] at h0 ⊢
    obtain ⟨⟨⟨a1,a2,a3⟩,a4,a5⟩,⟨b1,b2,b3⟩,c⟩:=h0
    have new:∀ x,x∈R.ft→∀ y,(y∈A∨y∈B∨y∈ad H)→x≠y:=by
      intro x hx y hy e
      subst e
      rcases ea.2 x hx with h2 | h2
      · rcases hy with hy | hy | hy
        · exact c x (.inl (.inl hy)) x (.inl h2) rfl
        · exact c x (.inr hy) x (.inl h2) rfl
        · exact b3 x h2 x hy rfl
      · have:x < w.heap.size:=Ts x (by
          simp only [List.mem_append]
          rcases hy with hy | hy | hy
          · exact .inl (.inl (.inl hy))
          · exact .inl (.inr hy)
          · exact .inr (.inr hy))
        omega
    refine ⟨⟨⟨a1,ea.1,fun x hx y hy e=>new y hy x (.inl hx) e.symm⟩,a4,?_⟩,b2,?_⟩
    · intro x hx y hy e
      rcases hx with hx | hx
      · exact a5 x (.inl hx) y hy e
      · exact new x hx y (.inr (.inl hy)) e
    · intro x hx y hy e
      rcases hx with (hx | hx) | hx
      · exact c x (.inl (.inl hx)) y (.inr hy) e
      · exact new x hx y (.inr (.inr hy)) e
      · exact c x (.inr hx) y (.inr hy) e
  refine ⟨h.step (f:=bW r) ?_ rfl rfl dq ⟨eG,?_,?_,?_⟩ ⟨by rw [lv]; exact h.kept.os,by rw [qY]; exact h.kept.tape,by rw [rM]; exact h.kept.output,Nat.le_trans h.kept.size cr,?_,?_,?_⟩,dq⟩
  · exact yB (np (od r) h.rt) r R
  · intro r' R' dN
    by_cases he:r'=r
    · subst he
      rw [bX,Option.some.injEq] at dN
      subst dN
      exact hR
    · rw [cU _ _ he,jY] at dN
      cases hx:lk S r' with
      | none=>simp [hx] at dN
      | some R0=>
        simp only [hx,Option.map_some,Option.some.injEq] at dN
        subst dN
        obtain ⟨k1,k2⟩:=h.mem.root r' R0 hx
        have ke:∀ k∈R0.ft,k∈cf S:=by
          intro k hk
          obtain ⟨A',B',e1,_⟩:=ka hx
          rw [e1]; simp [hk]
        refine ⟨?_,?_⟩
        · simp only [List.length_map]
          have hv:av (R0.cs.map (fT (bW r)))=av R0.cs:=by
            rw [cu,cu,List.map_map]
            congr 1
            funext t
            cases t<;>rfl
          rw [hv]
          cases hb:R0.box with
          | none=>trivial
          | some b=>
            simp only [hb] at k1 ⊢
            obtain ⟨c,e,fz,g1,g2⟩:=k1
            have Qz:b < w.heap.size:=h.mem.lt b (List.mem_append.2 (.inl (ke b (by simp [RT.ft,hb]))))
            exact ⟨c,e,fz,by rw [hold b Qz]; exact g1,g2⟩
        · intro t ht
          simp only [List.mem_map] at ht
          obtain ⟨t0,jo,rfl⟩:=ht
          have:=k2 t0 jo
          cases t0 with
          | v d u=>
            simp only [fT,hM] at this ⊢
            rw [(od r).leaf]
            rcases this with this | ⟨hb,this⟩
            · exact .inl (pg (od r) (KW r) (fE bV _ _ this))
            · exact .inr ⟨hb,by rw [ri this]; exact dq _ _ this⟩
          | own s n cap a xs=>
            simp only [fT]
            refine c9 bV _ this (fun k hk=>hold k (h.mem.lt k (List.mem_append.2 (.inl (ke k ?_)))))
            obtain ⟨i,hi⟩:=List.mem_iff_getElem?.1 jo
            obtain ⟨A',B',e1,_⟩:=df R0.cs i _ hi
            rw [RT.ft,e1]; simp [hk]
  · have:=h.mem.hand
    rw [da] at this
    refine fG bV _ this.2 (fun k hk=>hold k (h.mem.lt k ?_))
    rw [aK]; simp [hk]
  · intro k hk
    rw [f2] at hk
    simp only [List.mem_append] at hk
    have hl:=h.mem.lt k
    rw [f1,aK] at hl
    simp only [List.mem_append] at hl
    rcases hk with ((hk | hk) | hk) | hk
    · have:=hl (.inl (.inl (.inl hk))); omega
    · exact cJ k hk
    · have:=hl (.inl (.inr hk)); omega
    · have:=hl (.inr (.inr hk)); omega
  · intro k hk hf
    rw [hold k (by have:=h.kept.size; omega)]
    exact h.kept.block k hk hf
  · intro k hk
    rcases dP k hk with h2 | h2
    · exact h.kept.gJ k h2
    · have:=h.kept.size
      exact .inr (by omega)
  · intro r' b vs hm R' dN
    have cA:=hP _ hm
    rw [cU _ _ cA,jY] at dN
    cases hx:lk S r' with
    | none=>simp [hx] at dN
    | some R0=>
      simp only [hx,Option.map_some,Option.some.injEq] at dN
      subst dN
      obtain ⟨g1,g2⟩:=h.kept.par r' b vs hm R0 hx
      refine ⟨g1,fun hb=>?_⟩
      rw [← g2 hb]
      simp only [cu,List.map_map]
      congr 1
      funext t
      cases t<;>rfl
end
end Go.Proofs.Ytockoilcnmljiaa
namespace Go.Proofs.Ytockoilcnmljiaa
def og:T→List Nat→Option T
  | t,[]=>some t
  | .own _ _ _ _ cs,o::q=>match cs[o]? with
    | some t=>og t q
    | none=>none
  | _,_::_=>none
theorem Mj (y:List Nat):∀ t:T,zW t.er y=(og t y).map T.er:=by
  induction y with
  | nil=>intro t; cases t<;>simp [zW,og]
  | cons o q ih=>
    intro t
    cases t with
    | v d u=>
      simp only [T.er,og,Option.map_none]
      cases d with
      | sl g s n cs=>cases g<;>simp [aZ,zW]
      | _=>simp [aZ,zW]
    | own s n cap a cs=>
      simp only [T.er,zW,og,gA]
      cases cs[o]? with
      | none=>rfl
      | some t=>simp [ih]
theorem RD {w:World} {X:Bool→Nat→Prop} (y:List Nat):∀ {t t2:T},aT w X t→og t y=some t2→aT w X t2∧∀ k∈t2.ft,k∈t.ft:=by
  induction y with
  | nil=>
    intro t t2 hs h
    have:t2=t:=by cases t<;>simpa [og] using h.symm
    subst this
    exact ⟨hs,fun _ h=>h⟩
  | cons o q ih=>
    intro t t2 hs h
    cases t with
    | v d u=>simp [og] at h
    | own s n cap a cs=>
      simp only [og] at h
      cases hc:cs[o]? with
      | none=>simp [hc] at h
      | some t1=>
        simp only [hc] at h
        simp only [aT] at hs
        obtain ⟨h1,h2⟩:=ih (fb hs.2.2.2 hc) h
        refine ⟨h1,fun k hk=>?_⟩
        obtain ⟨A,B,e,_⟩:=df cs o _ hc
        simp [T.ft,e,h2 k hk]
theorem Mk (y:List Nat):∀ {t:T} {cs:List T} {o:Nat},cs[o]?=some t→∀ {q':List Nat} {o':Nat},q'++[o']=o::y→(match ao cs q' with | some l=>l[o']? | none=>none)=og t y:=by
  induction y with
  | nil=>
    intro t cs o ho q' o' he
    cases q' with
    | nil=>
      simp only [List.nil_append,List.cons.injEq,and_true] at he
      subst he
      simp only [ao,ho]
      cases t<;>rfl
    | cons p q'=>simp at he
  | cons z y ih=>
    intro t cs o ho q' o' he
    cases q' with
    | nil=>simp at he
    | cons p q'=>
      simp only [List.cons_append,List.cons.injEq] at he
      obtain ⟨rfl,he⟩:=he
      simp only [ao,ho]
      cases t with
      | v d u=>rfl
      | own s n cap a xs=>
        simp only [og]
        cases hz:xs[z]? with
        | none=>
          simp only
          cases q' with
          | nil=>
            simp only [List.nil_append,List.cons.injEq] at he
            obtain ⟨rfl,_⟩:=he
            simp [ao,hz]
          | cons p' q''=>
            simp only [List.cons_append,List.cons.injEq] at he
            obtain ⟨rfl,_⟩:=he
            simp [ao,hz]
        | some t1=>exact ih hz he
theorem OD {q:List Nat} {o:Nat} {y:List Nat} {t:T}:∀ {cs l:List T},ao cs q=some l→l[o]?=some t→∀ {q':List Nat} {o':Nat},under (q++[o]) (q'++[o'])=some y→(match ao cs q' with | some l=>l[o']? | none=>none)=og t y:=by
  induction q with
  | nil=>
    intro cs l hc ho q' o' hu
    simp only [ao,Option.some.injEq] at hc
    subst hc
    have:=ik hu
    simp only [List.nil_append,List.singleton_append] at this
    exact Mk y ho this
  | cons p q ih=>
    intro cs l hc ho q' o' hu
    rw [ao] at hc
    cases hp:cs[p]? with
    | none=>simp [hp] at hc
    | some x=>
      cases x with
      | v d u=>simp [hp] at hc
      | own s n cap a xs=>
        simp only [hp] at hc
        cases q' with
        | nil=>have:=ik hu; simp at this
        | cons p' q'=>
          simp only [List.cons_append,under] at hu
          split at hu
          · rename_i e
            subst e
            simp only [ao,hp]
            exact ih hc ho hu
          · simp at hu
section
variable {w w':World} {X X':Bool→Nat→Prop} {S S1 S':List (Nat × RT)} (hX:il w w' X X')
include hX
theorem RE {r:Nat} {q:List Nat} {o:Nat} {t t':T} (hc:jn S S' r q o t t') (hs:aT w X t) (hf:∀ k∈t.ft,X' false k∧w'.heap[k]?=w.heap[k]?) {d:D} {u:Value} (h:aN w X S d u):aN w' X' S' (rz r q o t.er d) u:=by
  cases d with
  | ref r' q' o' x=>
    simp only [rz]
    split
    · rename_i hr
      subst hr
      cases hu:under (q++[o]) (q'++[o']) with
      | none=>
        simp only
        intro t2 h2
        obtain ⟨t1,h1,hl⟩:=hc.rL (.inr hu) h2
        exact jm hl (h t1 h1)
      | some y=>
        simp only
        obtain ⟨R,cs',l,h1,h2,h3,h4,rfl⟩:=hc.ex
        have cn:bT S r' q' o'=og t y:=by
          unfold bT
          rw [h1]
          exact OD h2 h3 hu
        cases hd:og t y with
        | none=>rw [Mj,hd]; simp [aN,Ext]
        | some t2=>
          rw [Mj,hd]
          simp only [Option.map_some]
          cases he:t2.er with
          | sl g s n cs=>
            simp only
            obtain ⟨g1,g2⟩:=RD y hs hd
            have hr:=h t2 (by rw [cn,hd])
            have rJ:aT w' X' t2:=c9 hX _ g1 (fun k hk=>(hf k (g2 k hk)).2)
            exact eQ (yC (X':=X') (fun _ _ h=>h) false he rJ (fun k hk=>(hf k (g2 k hk)).1) hr)
          | _=>simp [aN,Ext]
    · rename_i hr
      intro t2 h2
      obtain ⟨t1,h1,hl⟩:=hc.rL (.inl hr) h2
      exact jm hl (h t1 h1)
  | ptr r' q' o'=>exact vg hX hc (ex:=true) (by simp) h
  | cZ cs o'=>exact mr hX h
  | _=>simp only [rz]; exact vg hX hc (ex:=true) (by simp) h
end
section
variable {C:Ctx} {H H':List T} {w w':World} {S S1 S':List (Nat × RT)}
theorem Ml (hm:Mem C w S H) {g:D→D} (hS:SR g S S1) {r:Nat} {q:List Nat} {o:Nat} {t t':T} (hc:jn S1 S' r q o t t') {R0:RT} (QA:lk S r=some R0) {b off:Nat} (wW:q=[]→R0.box=some b∧off=0) (hq:q≠[]→bw R0.box R0.cs q=some (b,off)) (hu:JN w w' b (off+o) t'.val)
    (hs:aT w' (ab C w' S' H') t'∨∃ d u,t'=.v d u∧q=[]∧aN w' (ab C w' S' H') S' (aZ d) u) (bV:il w w' (ab C w S H) (ab C w' S' H'))
    (eG:(cf S'++ad H').Nodup) (dP:∀ k∈cf S'++ad H',k∈cf S++ad H) (hh:aU w' (ab C w' S' H') H') (dq:∀ d u,aN w (ab C w S H) S d u→aN w' (ab C w' S' H') S' (g d) u) (wT:∀ d u,Ext w' (ab C w' S' H') d u→Ext w' (ab C w' S' H') (g d) u) (cr:w'.heap.size=w.heap.size):Mem C w' S' H':=by
  have zk:b∈R0.ft:=by
    cases q with
    | nil=>obtain ⟨h1,_⟩:=wW rfl; simp [RT.ft,h1]
    | cons p q=>simp [RT.ft,pc (hq (by simp))]
  obtain ⟨A0,B0,f1,_⟩:=ka QA
  have Tt:=hm.nd
  rw [f1] at Tt
  have QB:∀ {r1:Nat} {R1:RT},lk S r1=some R1→r1≠r→∀ k∈R1.ft,k≠b:=by
    intro r1 R1 h1 cA k hk e
    subst e
    obtain ⟨A1,B1,e1,e2⟩:=ka QA
    have hx:lk (pt S r ⟨none,[]⟩) r1=some R1:=by rw [cU _ _ cA]; exact h1
    obtain ⟨A2,B2,e3,_⟩:=ka hx
    have cF:k∈cf (pt S r ⟨none,[]⟩):=by rw [e3]; simp [hk]
    have h0:(RT.mk none []).ft=[]:=rfl
    rw [e2,h0] at cF
    have hn:=hm.nd
    rw [e1] at hn
    simp only [List.append_nil,List.mem_append,List.nodup_append] at cF hn
    rcases cF with cF | cF
    · exact hn.1.1.2.2 k cF k zk rfl
    · exact hn.1.2.2 k (.inr zk) k cF rfl
  have V9:∀ t0:T,aT w (ab C w S H) t0→b∉t0.ft→aT w' (ab C w' S' H') t0:=fun t0 h0 hb=>c9 bV _ h0 (fun k hk=>by
    obtain ⟨_,_,_,_,_,h3⟩:=hu
    exact h3 k (fun e=>hb (e▸hk)))
  have cell:∀ {bx:Bool} {t0 t1:T},hM w (ab C w S H) S bx t0→GT g t0 t1→b∉t0.ft→hM w' (ab C w' S' H') S' bx t1:=by
    intro bx t0 t1 h0 hg hb
    rcases hg with ⟨d,d1,u,rfl,rfl,he⟩ | ⟨⟨s,n,cap,a,xs,rfl⟩,rfl⟩
    · simp only [hM] at h0 ⊢
      rw [he]
      rcases h0 with h0 | ⟨hb,h0⟩
      · exact .inl (wT _ _ (fE bV _ _ h0))
      · exact .inr ⟨hb,dq _ _ h0⟩
    · exact V9 _ h0 hb
  refine ⟨eG,?_,hh,fun k hk=>by rw [cr]; exact hm.lt k (dP k hk)⟩
  intro r' R' dC
  obtain ⟨R1,cs',l,h1,h2,h3,h4,rfl⟩:=hc.ex
  by_cases he:r'=r
  · subst he
    rw [bX,Option.some.injEq] at dC
    subst dC
    obtain ⟨R,g1,g2,g3,g4,g5⟩:=hS.pf h1
    rw [QA,Option.some.injEq] at g1
    subst g1
    obtain ⟨k1,k2⟩:=hm.root r' R0 QA
    have wX:R0.ft.Nodup:=(List.nodup_append.1 (List.nodup_append.1 (List.nodup_append.1 Tt).1).1).2.1
    cases q with
    | nil=>
      obtain ⟨zl,wO⟩:=wW rfl
      subst wO
      simp only [ao,Option.some.injEq] at h2
      simp only [cX,Option.some.injEq] at h4
      subst h2; subst h4
      obtain ⟨cJ,hto⟩:=List.getElem?_eq_some_iff.1 h3
      simp only [zl] at k1
      rw [RT.ft,zl] at wX
      simp only [Option.toList,List.cons_append,List.nil_append,List.nodup_cons] at wX
      refine ⟨?_,?_⟩
      · simp only [List.length_set]
        rw [g2,zl]
        simp only
        rw [nz,g4,g3]
        exact JO hu (by omega) k1 (by rw [bd]; exact Nat.le_refl _)
      · intro t0 jo
        obtain ⟨j,hj⟩:=List.mem_iff_getElem?.1 jo
        simp only at hj
        by_cases D3:o=j
        · subst D3
          rw [List.getElem?_set_self cJ,Option.some.injEq] at hj
          subst hj
          rcases hs with hs | ⟨d,u,rfl,_,hs⟩
          · cases t' with
            | v d u=>exact .inl hs
            | own s n cap a xs=>exact hs
          · exact .inr ⟨by rw [g2,zl]; rfl,hs⟩
        · rw [List.getElem?_set_ne D3] at hj
          obtain ⟨JU,e1,e2⟩:=g5 j _ hj
          have:=cell (k2 _ (List.mem_of_getElem? e1)) e2 (fun hb=>wX.1 (by
            obtain ⟨A',B',e3,_⟩:=df R0.cs j _ e1
            rw [e3]; simp [hb]))
          rw [← g2] at this
          exact this
    | cons p q=>
      have ha:=hq (by simp)
      have rJ:aT w' (ab C w' (pt S1 r' ⟨R1.box,cs'⟩) H') t':=by
        rcases hs with hs | ⟨d,u,_,hq,_⟩
        · exact hs
        · simp at hq
      have fV:=(kC h4).1
      have hlen:=(kC h4).2
      rw [ao] at h2
      rw [cX] at h4
      cases hp:R1.cs[p]? with
      | none=>simp [hp] at h2
      | some x=>
        cases x with
        | v d u=>simp [hp] at h2
        | own s n cap a xs=>
          simp only [hp] at h2 h4
          cases hx:cX (fun l=>l.set o t') xs q with
          | none=>simp [hx] at h4
          | some jg=>
            simp only [hx,Option.some.injEq] at h4
            obtain ⟨JU,e1,e2⟩:=g5 p _ hp
            have QC:R0.cs[p]?=some (.own s n cap a xs):=by
              rcases e2 with ⟨d,d1,u,_,e2,_⟩ | ⟨_,e2⟩
              · simp at e2
              · rw [e1,e2]
            have du:aT w (ab C w S H) (.own s n cap a xs):=k2 _ (List.mem_of_getElem? QC)
            obtain ⟨A',B',e3,e4⟩:=df R0.cs p _ QC
            have ph:(ad R0.cs).Nodup:=by rw [RT.ft] at wX; exact (List.nodup_append.1 wX).2.1
            have rN:b∈(T.own s n cap a xs).ft:=by
              rw [bw] at ha
              simp only [QC] at ha
              cases q with
              | nil=>simp only at ha; subst ha; simp [T.ft,hL]
              | cons p' q'=>simp only at ha; simp [T.ft,pc ha]
            have Wa:aT w' (ab C w' (pt S1 r' ⟨R1.box,cs'⟩) H') (.own s n cap a jg):=by
              have h5:aU w (ab C w S H) [T.own s n cap a xs]:=by simp only [aU]; exact ⟨du,trivial⟩
              have h6:(ad [T.own s n cap a xs]).Nodup:=by
                simp only [ad,List.append_nil]
                rw [e3] at ph
                exact (List.nodup_append.1 (List.nodup_append.1 ph).1).2.1
              have h7:bw none [T.own s n cap a xs] (0::q)=some (b,off):=by
                rw [bw] at ha
                simp only [QC] at ha
                simp only [bw,List.getElem?_cons_zero]
                exact ha
              have h8:=Rs (cs':=[T.own s n cap a jg]) (l:=l) bV rJ hu (q:=q) h5 h6 (by simp only [ao,List.getElem?_cons_zero]; exact h2) h7 (List.getElem?_eq_some_iff.1 h3).1 (by simp [cX,hx])
              simp only [aU] at h8
              exact h8.1
            refine ⟨?_,?_⟩
            · simp only
              rw [fV,hlen,g4,g3,g2]
              cases hb:R0.box with
              | none=>trivial
              | some b0=>
                simp only [hb] at k1 ⊢
                refine Cy hu (fun e=>?_) k1
                subst e
                rw [RT.ft,hb] at wX
                simp only [Option.toList,List.cons_append,List.nil_append,List.nodup_cons] at wX
                exact wX.1 (by rw [e3]; simp [rN])
            · intro t0 jo
              subst h4
              obtain ⟨j,hj⟩:=List.mem_iff_getElem?.1 jo
              simp only at hj
              obtain ⟨cJ,_⟩:=List.getElem?_eq_some_iff.1 hp
              by_cases qN:p=j
              · subst qN
                rw [List.getElem?_set_self cJ,Option.some.injEq] at hj
                subst hj
                exact Wa
              · rw [List.getElem?_set_ne qN] at hj
                obtain ⟨Tu,e5,e6⟩:=g5 j _ hj
                have wO:b∉Tu.ft:=by
                  intro hb
                  have h7:=e4 (.v .undef undef)
                  have A5:(R0.cs.set p (.v .undef undef))[j]?=some Tu:=by rw [List.getElem?_set_ne qN]; exact e5
                  obtain ⟨A2,B2,e7,_⟩:=df _ j Tu A5
                  have fg:b∈ad (R0.cs.set p (.v .undef undef)):=by rw [e7]; simp [hb]
                  rw [h7] at fg
                  rw [e3] at ph
                  simp only [T.ft,List.append_nil,List.mem_append] at fg
                  rw [List.nodup_append,List.nodup_append] at ph
                  rcases fg with fg | fg
                  · exact ph.1.2.2 b fg b rN rfl
                  · exact ph.2.2 b (List.mem_append.2 (.inr rN)) b fg rfl
                have:=cell (k2 _ (List.mem_of_getElem? e5)) e6 wO
                rw [← g2] at this
                exact this
  · rw [cU _ _ he] at dC
    obtain ⟨R,g1,g2,g3,g4,g5⟩:=hS.pf dC
    obtain ⟨k1,k2⟩:=hm.root r' R g1
    refine ⟨?_,?_⟩
    · rw [g4,g3,g2]
      cases hb:R.box with
      | none=>trivial
      | some b0=>
        simp only [hb] at k1 ⊢
        exact Cy hu (QB g1 he b0 (by simp [RT.ft,hb])) k1
    · intro t0 jo
      obtain ⟨j,hj⟩:=List.mem_iff_getElem?.1 jo
      obtain ⟨JU,e1,e2⟩:=g5 j _ hj
      have:=cell (k2 _ (List.mem_of_getElem? e1)) e2 (fun hb=>by
        refine QB g1 he b ?_ rfl
        obtain ⟨A',B',e3,_⟩:=df R.cs j _ e1
        rw [RT.ft,e3]; simp [hb])
      rw [← g2] at this
      exact this
end
theorem RF {w:World} {b off eE:Nat} {us:List Value} (h:jU w b off eE us) {o:Nat} (ho:o < eE) (u:Value):JN w (w.setCell ⟨b,off+o,none⟩ u) b (off+o) u:=by
  obtain ⟨c,e,fz,h1,_,h3,_⟩:=h
  refine ⟨c,e,fz,h1,?_,fun k hk=>?_⟩
  · simp [World.setCell,Array.getElem?_modify,h1]
  · simp only [World.setCell,Array.getElem?_modify]
    rw [if_neg (by simpa using (Ne.symm hk))]
end Go.Proofs.Ytockoilcnmljiaa
namespace Go.Proofs.Ytockoilcnmljiaa
theorem Ad {H H':List T} (h:H.Perm H'):(ad H).Perm (ad H'):=by
  induction h with
  | nil=>exact .refl _
  | cons x _ ih=>simp only [ad]; exact .append (.refl _) ih
  | swap x y l=>
    simp only [ad]
    rw [← List.append_assoc,← List.append_assoc]
    exact .append List.perm_append_comm (.refl _)
  | trans _ _ h1 h2=>exact h1.trans h2
theorem wY {C:Ctx} {w:World} {S:List (Nat × RT)} {H H':List T} (h:H.Perm H'):ab C w S H=ab C w S H':=by
  funext b k
  simp only [ab,(Ad h).mem_iff]
theorem Rel.perm {C:Ctx} {H H':List T} {w:World} {st:St} {ay:List (Array Value)} {S:List (Nat × RT)} (hp:H.Perm H') (h:Rel C H w st ay S):Rel C H' w st ay S:=by
  have hf:=wY (C:=C) (w:=w) (S:=S) hp
  have Tv:=Ad hp
  obtain ⟨h1,⟨m1,m2,m3,m4⟩,h3,k⟩:=h
  rw [hf] at m2 m3 h3
  refine ⟨h1,⟨(List.Perm.append (List.Perm.refl (cf S)) Tv).nodup_iff.1 m1,m2,?_,fun k hk=>m4 k ?_⟩,h3,⟨k.os,k.tape,k.output,k.size,k.block,fun x hx=>k.gJ x ?_,k.par⟩⟩
  · rw [bL] at m3 ⊢
    exact fun t ht=>m3 t (hp.mem_iff.2 ht)
  · simpa [Tv.mem_iff] using hk
  · simpa [Tv.mem_iff] using hx
def gl (C:Ctx) (w w':World) (S S':List (Nat × RT)) (H H':List T) (f:D→D):Prop:=∀ d u,aN w (ab C w S H) S d u→aN w' (ab C w' S' H') S' (f d) u
def kf (st st':St):Prop:=st'.tm=st.tm∧st'.up=st.up∧st'.of=st.of
theorem kf.refl (st:St):kf st st:=⟨rfl,rfl,rfl⟩
theorem kf.trans {a b c:St} (h:kf a b) (h':kf b c):kf a c:=⟨h'.1.trans h.1,h'.2.1.trans h.2.1,h'.2.2.trans h.2.2⟩
section
variable {C:Ctx} {w:World} {ay:List (Array Value)}
theorem Bl:∀ {ds ds':List D} {us:List Value} {H:List T} {st st':St} {S:List (Nat × RT)},Rel C H w st ay S→bC (aN w (ab C w S H) S) ds us→oU st ds=some (ds',st')→
    ∃ ts S',Rel C (ts++H) w st' ay S'∧aL ts=ds'∧av ts=us∧gl C w w S S' H (ts++H) id∧nF S S'∧kf st st':=by
  intro ds
  induction ds with
  | nil=>
    intro ds' us H st st' S h hu ht
    cases hu
    simp only [oU,Option.some.injEq,Prod.mk.injEq] at ht
    obtain ⟨rfl,rfl⟩:=ht
    exact ⟨[],S,h,rfl,rfl,fun _ _ h=>h,nF.refl _,kf.refl _⟩
  | cons d ds ih=>
    intro ds' us H st st' S h hu ht
    cases hu with
    | cons p8 zm=>
    simp only [oU] at ht
    split at ht
    case h_2=>simp at ht
    rename_i d1 aC h1
    split at ht
    case h_2=>simp at ht
    rename_i fA bK h2
    simp only [Option.some.injEq,Prod.mk.injEq] at ht
    obtain ⟨rfl,rfl⟩:=ht
    obtain ⟨t,S1,a1,rfl,rfl,a4,a5,a6,_⟩:=rh h p8 h1
    obtain ⟨ts,S2,b1,rfl,rfl,b4,b5,b6⟩:=ih a1 (zm.mono (fun _ _ hh=>a4 _ _ hh)) h2
    have hp:(ts++t::H).Perm (t::ts++H):=List.perm_middle
    refine ⟨t::ts,S2,b1.perm hp,by simp [aL],by simp [av],fun d u hd=>?_,a5.trans b5,kf.trans a6 b6⟩
    have:=b4 _ _ (a4 d u hd)
    rwa [wY hp] at this
end
end Go.Proofs.Ytockoilcnmljiaa
namespace Go.Proofs.Ytockoilcnmljiaa
structure Grown (w w':World):Prop where
  sz:w.heap.size≤w'.heap.size
  bQ:∀ k,k < w.heap.size→w'.heap[k]?=w.heap[k]?
  os:w'.os=w.os
  tape:w'.tape=w.tape
  out:w'.output=w.output
theorem Grown.refl (w:World):Grown w w:=⟨Nat.le_refl _,fun _ _=>rfl,rfl,rfl,rfl⟩
theorem im (w:World) (o:Obj):(w.alloc o).heap.size=w.heap.size+1:=by
  show (w.heap.push o).size=_
  simp
theorem D9 (w:World) (o:Obj):(w.alloc o).heap[w.heap.size]?=some o:=by
  show (w.heap.push o)[w.heap.size]?=_
  simp
theorem Grown.alloc (w:World) (o:Obj):Grown w (w.alloc o):=
  ⟨by rw [im]; omega,fun k hk=>by
    show (w.heap.push o)[k]?=_
    simp [Array.getElem?_push,Nat.ne_of_lt hk],rfl,rfl,rfl⟩
theorem Grown.drew (w:World):Grown w w.drew:=⟨Nat.le_refl _,fun _ _=>rfl,rfl,rfl,rfl⟩
theorem Grown.trans {a b c:World} (h:Grown a b) (h':Grown b c):Grown a c:=
  ⟨Nat.le_trans h.sz h'.sz,fun k hk=>(h'.bQ k (Nat.lt_of_lt_of_le hk h.sz)).trans (h.bQ k hk),h'.os.trans h.os,h'.tape.trans h.tape,h'.out.trans h.out⟩
theorem jq (w:World) (c:Array Value) (e:TypeId) {us:List Value} {eE:Nat} (h1:eE≤c.size) (h2:∀ (j:Nat) (u:Value),us[j]?=some u→c[j]?=some u):jU (w.alloc (.cells c e)) w.heap.size 0 eE us:=
  ⟨c,e,(0,0),D9 w _,fun o _=>by simp,by omega,fun j u hj=>by rw [Nat.zero_add]; exact h2 j u hj⟩
theorem Rel.put {C:Ctx} {H:List T} {w:World} {st:St} {vs:Array Value} {ay:List (Array Value)} {S:List (Nat × RT)} (h:Rel C H w st (vs::ay) S) {t:Nat} (ht:t < vs.size) {d:D} {v:Value} (hv:bR w (ab C w S H) S d v):
    Rel C H w (st.put (some t) d) (vs.setIfInBounds t v::ay) S:=by
  obtain ⟨h1,h2,h3,h4⟩:=h
  refine ⟨h1,h2,?_,h4⟩
  cases h3 with
  | cons a b=>exact .cons (ku.put a ht hv) b
section
variable {C:Ctx} {H Hs:List T} {w w':World} {st st':St} {vs:Array Value} {ay:List (Array Value)} {S:List (Nat × RT)}
theorem pj (h:Rel C (Hs++H) w st (vs::ay) S) (hg:Grown w w') {t:Nat} {R:RT} (ea:∀ k∈R.ft,k∈ad Hs∨(w.heap.size≤k∧k < w'.heap.size)) (eG:R.ft.Nodup)
    (hR:∀ S':List (Nat × RT),il w w' (ab C w S (Hs++H)) (ab C w' S' H)→(∀ d u,aN w (ab C w S (Hs++H)) S d u→aN w' (ab C w' S' H) S' (bW (st.of+t) d) u)→GV w' (ab C w' S' H) S' R)
    (ht:t < vs.size) (hP:∀ p∈C.P0,p.1≠st.of+t) {d:Nat→D} {v:Value} (hd:∀ S' X,lk S' (st.of+t)=some R→bR w' X S' (d (st.of+t)) v) (hr:st.root (some t) (aL R.cs) d=some st'):
    ∃ S',Rel C H w' st' (vs.setIfInBounds t v::ay) S':=by
  have OE:∀ k∈R.ft,k∈ad Hs∨w.heap.size≤k:=fun k hk=>(ea k hk).imp id (·.1)
  have cJ:∀ k∈R.ft,k < w'.heap.size:=fun k hk=>by
    rcases ea k hk with h1 | h1
    · have:=h.mem.lt k (List.mem_append.2 (.inr (by rw [aK]; exact List.mem_append.2 (.inl h1))))
      have:=hg.sz
      omega
    · exact h1.2
  have bV:=mu (r:=st.of+t) h OE hg.sz hg.bQ
  have dq:=Bk (r:=st.of+t) h OE hg.sz hg.bQ
  obtain ⟨h1,_⟩:=vk h (hR _ bV dq) ⟨eG,OE⟩ cJ hg.sz hg.bQ hg.os hg.tape hg.out hP
  simp only [St.root,Option.some.injEq] at hr
  subst hr
  exact ⟨_,h1.put ht (hd _ _ (bX _ _ _))⟩
theorem yD (h:Rel C (Hs++H) w st (vs::ay) S) (hg:Grown w w') {t s n cap b:Nat} {ts:List T} (hb:w.heap.size≤b∧b < w'.heap.size) (hs:aU w (ab C w S (Hs++H)) ts) (dP:∀ k∈ad ts,k∈ad Hs) (eG:(ad ts).Nodup)
    (hn:n≤cap) (hl:ts.length=n*s) (ef:jU w' b 0 (cap*s) (av ts)) (ht:t < vs.size) (hP:∀ p∈C.P0,p.1≠st.of+t) (hr:st.root (some t) [.sl none s n (aL ts)] (fun d=>.ref d [] 0 none)=some st'):
    ∃ S',Rel C H w' st' (vs.setIfInBounds t (.slice (some ⟨b,0,none⟩) n cap)::ay) S':=by
  have tt:∀ k∈ad ts,k < w.heap.size:=fun k hk=>h.mem.lt k (List.mem_append.2 (.inr (by rw [aK]; exact List.mem_append.2 (.inl (dP k hk)))))
  refine pj (R:=⟨none,[.own s n cap (some (b,0)) ts]⟩) h hg ?_ ?_ ?_ ht hP ?_ (by simpa [aL,T.er] using hr)
  · intro k hk
    simp only [RT.ft,ad,T.ft,hL,Option.toList,List.nil_append,List.append_nil,List.cons_append,List.mem_cons] at hk
    rcases hk with rfl | hk
    · exact .inr hb
    · exact .inl (dP k hk)
  · simp only [RT.ft,ad,T.ft,hL,Option.toList,List.nil_append,List.append_nil,List.cons_append,List.nodup_cons]
    exact ⟨fun hk=>by have:=tt b hk; omega,eG⟩
  · intro S' bV dq
    refine ⟨trivial,fun x hx=>?_⟩
    simp only [List.mem_singleton] at hx
    subst hx
    simp only [hM,aT]
    exact ⟨hn,hl,ef,fG bV _ hs (fun k hk=>hg.bQ k (tt k hk))⟩
  · intro S' X nE
    simp only [bR,fN,aN]
    intro x hx
    simp only [bT,nE,ao,List.getElem?_cons_zero,Option.some.injEq] at hx
    subst hx
    simp [dZ,sn,T.er,T.val,tk]
theorem CB (h:Rel C (Hs++H) w st (vs::ay) S) (hg:Grown w w') {t b:Nat} {ts:List T} (hb:w.heap.size≤b∧b < w'.heap.size)
    (hs:∀ x∈ts,aT w (ab C w S (Hs++H)) x∨∃ d u,x=.v (bW (st.of+t) d) u∧aN w (ab C w S (Hs++H)) S d u) (dP:∀ k∈ad ts,k∈ad Hs) (eG:(ad ts).Nodup)
    (ef:jU w' b 0 ts.length (av ts)) (ht:t < vs.size) (hP:∀ p∈C.P0,p.1≠st.of+t) (hr:st.root (some t) (aL ts) (fun d=>.ptr d [] 0)=some st'):
    ∃ S',Rel C H w' st' (vs.setIfInBounds t (.pointer (some ⟨b,0,none⟩))::ay) S':=by
  have tt:∀ k∈ad ts,k < w.heap.size:=fun k hk=>h.mem.lt k (List.mem_append.2 (.inr (by rw [aK]; exact List.mem_append.2 (.inl (dP k hk)))))
  refine pj (R:=⟨some b,ts⟩) h hg ?_ ?_ ?_ ht hP ?_ hr
  · intro k hk
    simp only [RT.ft,Option.toList,List.cons_append,List.nil_append,List.mem_cons] at hk
    rcases hk with rfl | hk
    · exact .inr hb
    · exact .inl (dP k hk)
  · simp only [RT.ft,Option.toList,List.cons_append,List.nil_append,List.nodup_cons]
    exact ⟨fun hk=>by have:=tt b hk; omega,eG⟩
  · intro S' bV dq
    refine ⟨ef,fun x hx=>?_⟩
    rcases hs x hx with h1 | ⟨d,u,rfl,h1⟩
    · have h2:aT w' (ab C w' S' H) x:=c9 bV _ h1 (fun k hk=>hg.bQ k (tt k (by
        obtain ⟨i,hi⟩:=List.mem_iff_getElem?.1 hx
        obtain ⟨A,B,e,_⟩:=df ts i x hi
        rw [e]; simp [hk])))
      cases x with
      | v d u=>exact .inl h2
      | own s n cap a cs=>exact h2
    · have h2:=dq d u h1
      have h3:aZ (bW (st.of+t) d)=bW (st.of+t) d:=by
        cases hd:bW (st.of+t) d with
        | sl g s n cs=>
          rw [hd] at h2
          cases g with
          | none=>simp [aN,Ext] at h2
          | some g=>rfl
        | _=>rfl
      simp only [hM]
      rw [h3]
      exact .inr ⟨rfl,h2⟩
  · intro S' X nE
    simp only [bR,fN,aN]
    intro R hR
    rw [nE,Option.some.injEq] at hR
    subst hR
    exact ⟨fun _=>rfl,fun b' off ha=>by simp only [bw,Option.map_some,Option.some.injEq,Prod.mk.injEq] at ha; obtain ⟨rfl,rfl⟩:=ha; rfl⟩
end
end Go.Proofs.Ytockoilcnmljiaa
namespace Go.Proofs.Ytockoilcnmljiaa
theorem rO {d:D} {u:Value} (h:JQ d u):aZ d=d:=by
  have h1:=h default (fun _ _=>False)
  cases d with
  | sl g s n cs=>cases g with
    | none=>simp [Ext] at h1
    | some g=>rfl
  | _=>rfl
def leaves (ds:List D) (us:List Value):List T:=List.zipWith T.v ds us
theorem Eb {R:D→Value→Prop} {ds:List D} {us:List Value} (h:bC R ds us) (hl:∀ d u,R d u→aZ d=d):aL (leaves ds us)=ds∧av (leaves ds us)=us∧ad (leaves ds us)=[]∧(leaves ds us).length=ds.length∧∀ x∈leaves ds us,∃ d u,x=.v d u∧R d u:=by
  induction h with
  | nil=>simp [leaves,aL,av,ad]
  | cons h1 _ ih=>
    obtain ⟨e1,e2,e3,e4,e5⟩:=ih
    simp only [leaves,List.zipWith_cons_cons,aL,av,ad,T.er,T.val,T.ft,List.length_cons] at*
    refine ⟨by rw [e1,hl _ _ h1],by rw [e2],by rw [e3]; rfl,by rw [e4],fun x hx=>?_⟩
    simp only [List.mem_cons] at hx
    rcases hx with rfl | hx
    · exact ⟨_,_,rfl,h1⟩
    · exact e5 x hx
theorem G8 {ds:List D} {us:List Value} (h:bC JQ ds us):∃ ts,aL ts=ds.map ry∧av ts=us∧ad ts=[]∧∀ w X,aU w X ts:=by
  induction h with
  | nil=>exact ⟨[],rfl,rfl,rfl,fun _ _=>by simp [aU]⟩
  | @cons d u _ _ h1 _ ih=>
    obtain ⟨ts,e1,e2,e3,e4⟩:=ih
    have iZ:=rO h1
    by_cases hn:∃ s,d=.nil s
    · obtain ⟨s,rfl⟩:=hn
      have hu:u=.slice none 0 0:=h1 default (fun _ _=>False)
      subst hu
      exact ⟨.own s 0 0 none []::ts,by simp [aL,e1,T.er,ry],by simp [av,e2,T.val,tk],by simp [ad,e3,T.ft,hL],fun w X=>by simp [aU,aT,e4]⟩
    · have hr:ry d=d:=by cases d<;>first | rfl | exact absurd ⟨_,rfl⟩ hn
      exact ⟨.v d u::ts,by simp [aL,e1,T.er,hr,iZ],by simp [av,e2,T.val],by simp [ad,e3,T.ft],fun w X=>by simp only [aU,aT]; exact ⟨by rw [iZ]; exact h1 w X,e4 w X⟩⟩
theorem tu {ds:List D} {us:List Value} (h:bC JQ ds us) (n:Nat):∃ ts,aL ts=fD n ds∧av ts=(List.replicate n us).flatten∧ad ts=[]∧∀ w X,aU w X ts:=by
  obtain ⟨t0,e1,e2,e3,e4⟩:=G8 h
  induction n with
  | zero=>exact ⟨[],by simp [aL,fD],by simp [av],rfl,fun _ _=>by simp [aU]⟩
  | succ n ih=>
    obtain ⟨ts,f1,f2,f3,f4⟩:=ih
    refine ⟨t0++ts,?_,?_,?_,fun w X=>(da _ _).2 ⟨e4 w X,f4 w X⟩⟩
    · rw [rG,e1,f1]; simp [fD,List.replicate_succ]
    · rw [wL,e2,f2]; simp [List.replicate_succ]
    · rw [aK,e3,f3]; rfl
theorem wZ (z:Array Value) (n:Nat):((List.range (n*z.size)).map fun i=>z[i % z.size]!)=(List.replicate n z.toList).flatten:=by
  induction n with
  | zero=>simp
  | succ n ih=>
    rw [Nat.succ_mul,List.range_add,List.map_append,ih,List.replicate_succ',List.flatten_append]
    congr 1
    simp only [List.map_map,List.flatten_cons,List.flatten_nil,List.append_nil]
    apply List.ext_getElem?
    intro j
    simp only [List.getElem?_map,Array.getElem?_toList]
    by_cases hj:j < z.size
    · simp only [List.getElem?_range hj,Option.map_some,Function.comp_apply,Nat.mul_add_mod_self_right,Nat.mod_eq_of_lt hj]
      rw [getElem!_pos z j hj,Array.getElem?_eq_getElem hj]
    · rw [Array.getElem?_eq_none (by omega),List.getElem?_eq_none (by simp; omega)]
      rfl
theorem G9 (z:Array Value) (n:Nat) (j:Nat):(madeCells z (n*z.size))[j]?=(List.replicate n z.toList).flatten[j]?:=by
  rw [← wZ,← Array.getElem?_toList]
  simp [madeCells]
theorem zn {α:Type} (l:List α) {m n:Nat} (h:m≤n) {j:Nat} {u:α} (hj:(List.replicate m l).flatten[j]?=some u):(List.replicate n l).flatten[j]?=some u:=by
  have:List.replicate n l=List.replicate m l++List.replicate (n - m) l:=by rw [List.replicate_append_replicate]; congr 1; omega
  rw [this,List.flatten_append,List.getElem?_append_left (List.getElem?_eq_some_iff.1 hj).1]
  exact hj
section
variable {P:Program} {c:bU} (ah:dG c P) {C:Ctx} {Hx:List T} {w:World} {st st':St} {vs:Array Value} {ay:List (Array Value)} {S:List (Nat × RT)} (h:Rel C Hx w st (vs::ay) S)
include ah h
theorem OF {e:TypeId} {i:TI} (he:c.ty e=some i) {t:Nat} (ht:t < vs.size) (hP:∀ p∈C.P0,p.1≠st.of+t) (hr:st.root (some t) i.zero (fun d=>.ptr d [] 0)=some st'):
    ∃ v w',(Instr.alloc e true (.tuple #[])).run P w=.ok v w'∧cY w w'∧∃ S',Rel C Hx w' st' (vs.setIfInBounds t v::ay) S':=by
  obtain ⟨inf,h1,h2,h3,z,h4,h5⟩:=(ah.ty _ _ he).info
  obtain ⟨e1,e2,e3,e4,e5⟩:=Eb h5 (fun _ _=>rO)
  have dB:(Instr.alloc e true (.tuple #[])).run P w=.ok (.pointer (some ⟨w.heap.size,0,none⟩)) (w.alloc (.cells z.cells e)):=by
    simp [Instr.alloc,GW h1 h4,newVar,newRow]
  refine ⟨_,_,dB,(Grown.alloc w _).bQ,?_⟩
  refine CB (Hs:=[]) h (Grown.alloc w _) (ts:=leaves i.zero z.cells.toList) ⟨Nat.le_refl _,by rw [im]; omega⟩ (fun x hx=>.inl ?_) (by rw [e3]; simp) (by rw [e3]; simp) ?_ ht hP (by rw [e1]; exact hr)
  · obtain ⟨d,u,rfl,h6⟩:=e5 x hx
    simp only [aT]
    rw [rO h6]
    exact h6 _ _
  · refine jq w _ _ (by rw [e4,h5.len]; simp) (fun j u hj=>?_)
    rw [e2] at hj
    simpa using hj
theorem Ha {t e:TypeId} {ei ti:TI} (jo:c.ty t=some ti) (QD:ti.ty=.slice e) (he:c.ty e=some ei) {kl kc:IntKind} {l cp:Int} (h0:0≤l) (w5:l≤cp) (hb:0 < ei.bytes∧cp*ei.bytes≤140737488355328)
    {d:Nat} (ht:d < vs.size) (hP:∀ p∈C.P0,p.1≠st.of+d) (hr:st.root (some d) [.sl none ei.size l.toNat (fD l.toNat ei.zero)] (fun d=>.ref d [] 0 none)=some st'):
    ∃ v w',(Instr.makeSlice t (.int kl l) (.int kc cp)).run P w=.ok v w'∧cY w w'∧∃ S',Rel C Hx w' st' (vs.setIfInBounds d v::ay) S':=by
  obtain ⟨inf,h1,h2,h3,z,h4,h5⟩:=(ah.ty _ _ he).info
  have zo:=(ah.ty _ _ he).len
  obtain ⟨dd,g1,g2⟩:=(ah.ty _ _ jo).desc
  rw [QD] at g2
  simp only [jl] at g2
  subst g2
  have Tw:cp≤140737488355328:=by
    have:cp*1≤cp*ei.bytes:=Int.mul_le_mul_of_nonneg_left (by omega) (by omega)
    omega
  have dB:=run_make (P:=P) w t e inf z g1 h1 h4 kl kc l cp h0 w5 (by rw [h3,Int.mul_comm]; omega) (by omega)
  refine ⟨_,_,dB,(Grown.alloc w _).bQ,?_⟩
  obtain ⟨ts,e1,e2,e3,e4⟩:=tu h5 l.toNat
  have jV:z.cells.size=ei.size:=by rw [← zo,h5.len]; simp
  have hlen:ts.length=l.toNat*ei.size:=by
    have:=congrArg List.length e2
    rw [bd] at this
    simp only [List.length_flatten,List.map_replicate,List.sum_replicate_nat,Array.length_toList,jV] at this
    exact this
  rw [← e1] at hr
  refine yD (Hs:=[]) h (Grown.alloc w _) (ts:=ts) ⟨Nat.le_refl _,by rw [im]; omega⟩ (e4 _ _) (by rw [e3]; simp) (by rw [e3]; simp) (by omega) hlen ?_ ht hP hr
  refine jq w _ _ (by rw [size_madeCells,h2]; exact Nat.le_refl _) (fun j u hj=>?_)
  rw [e2] at hj
  rw [h2,← jV,G9]
  exact zn _ (by omega) hj
end
end Go.Proofs.Ytockoilcnmljiaa
namespace Go.Proofs.Ytockoilcnmljiaa
def lN {α:Type}:List α→Nat→List α→List α
  | cs,_,[]=>cs
  | cs,o,d::ds=>lN (cs.set o d) (o+1) ds
theorem zp:∀ (ds cs:List D) (o:Nat),vc cs o ds=lN cs o ds
  | [],_,_=>rfl
  | d::ds,cs,o=>by simp only [vc,lN]; exact zp ds _ _
theorem Ae {α β:Type} (f:α→β):∀ (ds cs:List α) (o:Nat),(lN cs o ds).map f=lN (cs.map f) o (ds.map f)
  | [],_,_=>rfl
  | d::ds,cs,o=>by simp only [lN,List.map_cons,← List.map_set]; exact Ae f ds _ _
theorem Hb {α:Type}:∀ (ds cs:List α) (o:Nat),(lN cs o ds).length=cs.length
  | [],_,_=>rfl
  | d::ds,cs,o=>by simp only [lN]; rw [Hb ds]; simp
theorem Hc (off:Nat):∀ (l:List Value) (k:Nat) (arr:Array Value),((l.zipIdx k).foldl (fun cs (x:Value × Nat)=>cs.setIfInBounds (off+x.2) x.1) arr).toList=lN arr.toList (off+k) l
  | [],_,_=>rfl
  | v::l,k,arr=>by
    simp only [List.zipIdx_cons,List.foldl_cons,lN]
    rw [Hc off l (k+1)]
    simp [Nat.add_assoc]
theorem KY (off:Nat) (v arr:Array Value):(v.zipIdx.foldl (fun cs (x:Value × Nat)=>cs.setIfInBounds (off+x.2) x.1) arr).toList=lN arr.toList off v.toList:=by
  rw [← Array.foldl_toList,Array.toList_zipIdx]
  exact Hc off v.toList 0 arr
def nh {α:Type} (place:Nat→Option (Nat × Nat)):List α→List (Nat × List α)→Option (List α)
  | cs,[]=>some cs
  | cs,(i,vs)::rest=>match place i with
    | some (o,k)=>if vs.length=k∧o+vs.length≤cs.length then nh place (lN cs o vs) rest else none
    | none=>none
theorem Ec {ok:D→Bool} {place:Nat→Option (Nat × Nat)}:∀ {parts:List (Nat × List D)} {cs ds:List D},lu ok place cs parts=some ds→∀ p∈parts,∀ d∈p.2,ok d=true:=by
  intro parts
  induction parts with
  | nil=>intro cs ds _ p hp; simp at hp
  | cons p parts ih=>
    intro cs ds h q hq
    obtain ⟨i,vs⟩:=p
    simp only [lu] at h
    split at h
    case h_2=>simp at h
    split at h
    case isFalse=>simp at h
    rename_i hc
    rcases List.mem_cons.1 hq with rfl | hq
    · exact fun d hd=>List.all_eq_true.1 hc.2.2 d hd
    · exact ih h q hq
theorem JV {α:Type} (er:α→D) {ok:D→Bool} {place:Nat→Option (Nat × Nat)}:∀ {parts:List (Nat × List α)} {cs:List α} {ds:List D},lu ok place (cs.map er) (parts.map fun p=>(p.1,p.2.map er))=some ds→∃ cs',nh place cs parts=some cs'∧cs'.map er=ds:=by
  intro parts
  induction parts with
  | nil=>intro cs ds h; simp only [List.map_nil,lu,Option.some.injEq] at h; exact ⟨cs,rfl,h⟩
  | cons p parts ih=>
    intro cs ds h
    obtain ⟨i,vs⟩:=p
    simp only [List.map_cons,lu] at h
    simp only [nh]
    split at h
    case h_2=>simp at h
    rename_i o k hp
    try rw [hp]
    split at h
    case isFalse=>simp at h
    rename_i hc
    simp only [List.length_map] at hc
    rw [zp,← Ae] at h
    simp only [hc.1,hc.2.1]
    rw [hc.1] at hc
    simpa [hc.2.1] using ih h
theorem Bm {α:Type} (val:α→Value) {place:Nat→Option (Nat × Nat)}:∀ {parts:List (Nat × List α)} {om:List (Nat × Value)} {cs cs':List α} {arr:Array Value},bC (fun p q=>q.1=p.1∧q.2.cells.toList=p.2.map val) parts om→nh place cs parts=some cs'→arr.toList=cs.map val→
    ∃ Tx,Instr.fill place arr om=some Tx∧Tx.toList=cs'.map val:=by
  intro parts
  induction parts with
  | nil=>
    intro om cs cs' arr h1 h2 h3
    cases h1
    simp only [nh,Option.some.injEq] at h2
    subst h2
    exact ⟨arr,rfl,h3⟩
  | cons p parts ih=>
    intro om cs cs' arr h1 h2 h3
    obtain ⟨i,vs⟩:=p
    cases h1 with
    | cons hp Wb=>
    rename_i q qs
    obtain ⟨j,v⟩:=q
    obtain ⟨rfl,hv⟩:=hp
    simp only [nh] at h2
    split at h2
    case h_2=>simp at h2
    rename_i o k hpl
    split at h2
    case isFalse=>simp at h2
    rename_i hc
    have Mm:v.cells.size=vs.length:=by have:=congrArg List.length hv; simpa using this
    have has:arr.size=cs.length:=by have:=congrArg List.length h3; simpa using this
    simp only [Instr.fill,hpl]
    rw [if_neg (by simp only [Bool.or_eq_true,decide_eq_true_eq,Mm,has,not_or]; exact ⟨by simpa using hc.1,by omega⟩)]
    refine ih Wb h2 ?_
    rw [KY,h3,hv,← Ae]
theorem OG {α:Type}:∀ {ds cs:List α} {o:Nat} {x:α},x∈lN cs o ds→x∈cs∨x∈ds:=by
  intro ds
  induction ds with
  | nil=>intro cs o x h; exact .inl h
  | cons d ds ih=>
    intro cs o x h
    rcases ih h with h | h
    · rcases List.mem_or_eq_of_mem_set h with h | h
      · exact .inl h
      · exact .inr (by simp [h])
    · exact .inr (by simp [h])
theorem Ed {α:Type} {place:Nat→Option (Nat × Nat)}:∀ {parts:List (Nat × List α)} {cs cs':List α},nh place cs parts=some cs'→(∀ x∈cs',x∈cs∨∃ p∈parts,x∈p.2)∧cs'.length=cs.length:=by
  intro parts
  induction parts with
  | nil=>intro cs cs' h; simp only [nh,Option.some.injEq] at h; subst h; exact ⟨fun x hx=>.inl hx,rfl⟩
  | cons p parts ih=>
    intro cs cs' h
    obtain ⟨i,vs⟩:=p
    simp only [nh] at h
    split at h
    case h_2=>simp at h
    split at h
    case isFalse=>simp at h
    obtain ⟨h1,h2⟩:=ih h
    refine ⟨fun x hx=>?_,h2.trans (Hb _ _ _)⟩
    rcases h1 x hx with h3 | ⟨p,h3,h4⟩
    · rcases OG h3 with h4 | h4
      · exact .inl h4
      · exact .inr ⟨_,List.mem_cons_self,h4⟩
    · exact .inr ⟨p,List.mem_cons_of_mem _ h3,h4⟩
theorem Mn:∀ {ds cs:List T} {o:Nat} {B:List Nat},(ad cs++ad ds++B).Nodup→(ad (lN cs o ds)++B).Nodup∧∀ k∈ad (lN cs o ds),k∈ad cs∨k∈ad ds:=by
  intro ds
  induction ds with
  | nil=>intro cs o B h; simpa [lN,ad] using h
  | cons d ds ih=>
    intro cs o B h
    simp only [lN]
    have key:(ad (cs.set o d)++ad ds++B).Nodup∧∀ k∈ad (cs.set o d),k∈ad cs∨k∈d.ft:=by
      by_cases ho:o < cs.length
      · obtain ⟨A,Z,e1,e2⟩:=df cs o _ (List.getElem?_eq_getElem ho)
        rw [e2 d]
        refine ⟨?_,fun k hk=>?_⟩
        · rw [e1,ad] at h
          have p1:(A++cs[o].ft++Z++(d.ft++ad ds)++B).Perm (cs[o].ft++(A++d.ft++Z++ad ds++B)):=by
            refine List.perm_iff_count.2 fun a=>?_
            simp only [List.count_append]
            omega
          exact (List.nodup_append.1 (p1.nodup_iff.1 h)).2.1
        · rw [e1]
          simp only [List.mem_append] at hk ⊢
          rcases hk with (hk | hk) | hk
          · exact .inl (.inl (.inl hk))
          · exact .inr hk
          · exact .inl (.inr hk)
      · rw [List.set_eq_of_length_le (by omega)]
        refine ⟨?_,fun k hk=>.inl hk⟩
        rw [ad] at h
        have p1:(ad cs++(d.ft++ad ds)++B).Perm (d.ft++(ad cs++ad ds++B)):=by
          refine List.perm_iff_count.2 fun a=>?_
          simp only [List.count_append]
          omega
        exact (List.nodup_append.1 (p1.nodup_iff.1 h)).2.1
    obtain ⟨h1,h2⟩:=ih key.1
    refine ⟨h1,fun k hk=>?_⟩
    rcases h2 k hk with h3 | h3
    · rcases key.2 k h3 with h4 | h4
      · exact .inl h4
      · exact .inr (by simp [ad,h4])
    · exact .inr (by simp [ad,h3])
theorem KZ {place:Nat→Option (Nat × Nat)}:∀ {parts:List (Nat × List T)} {cs cs':List T},nh place cs parts=some cs'→(ad cs++ad (parts.flatMap (·.2))).Nodup→(ad cs').Nodup∧∀ k∈ad cs',k∈ad cs∨k∈ad (parts.flatMap (·.2)):=by
  intro parts
  induction parts with
  | nil=>intro cs cs' h hn; simp only [nh,Option.some.injEq] at h; subst h; simpa [ad] using hn
  | cons p parts ih=>
    intro cs cs' h hn
    obtain ⟨i,vs⟩:=p
    simp only [nh] at h
    split at h
    case h_2=>simp at h
    rename_i o k hp
    split at h
    case isFalse=>simp at h
    simp only [List.flatMap_cons,aK,← List.append_assoc] at hn
    obtain ⟨g1,g2⟩:=Mn (o:=o) hn
    obtain ⟨h1,h2⟩:=ih h g1
    refine ⟨h1,fun k hk=>?_⟩
    simp only [List.flatMap_cons,aK,List.mem_append]
    rcases h2 k hk with h3 | h3
    · rcases g2 k h3 with h4 | h4
      · exact .inl h4
      · exact .inr (.inl h4)
    · exact .inr (.inr h3)
end Go.Proofs.Ytockoilcnmljiaa
namespace Go.Proofs.Ytockoilcnmljiaa
section
variable {C:Ctx} {Hx:List T} {w:World} {S:List (Nat × RT)} {st:St}
theorem CC {X:Bool→Nat→Prop} {d:D} {u:Value} (h:Ext w X d u) (hc:cI d=true):u.oneCell'=true∧u.cells=#[u]:=by
  cases d with
  | int k n=>have:u=.int k n:=h; subst this; exact ⟨rfl,rfl⟩
  | bool b=>have:u=.bool b:=h; subst this; exact ⟨rfl,rfl⟩
  | str s=>have:u=.string s:=h; subst this; exact ⟨rfl,rfl⟩
  | nil s=>have:u=.slice none 0 0:=h; subst this; exact ⟨rfl,rfl⟩
  | sl g s n cs=>
    cases g with
    | none=>simp [Ext] at h
    | some g=>
      simp only [Ext] at h
      obtain ⟨base,cap,us,rfl,_⟩:=h
      exact ⟨rfl,rfl⟩
  | ref r q o x=>simp [Ext] at h
  | ptr r q o=>simp [Ext] at h
  | cZ cs o=>simp [Ext] at h
  | _=>simp [cI] at hc
theorem kG {X:Bool→Nat→Prop} {t:T} (h:aT w X t) (hc:cI t.er=true):t.val.oneCell'=true∧t.val.cells=#[t.val]:=by
  cases t with
  | own s n cap a cs=>exact ⟨rfl,rfl⟩
  | v d u=>exact CC h hc
theorem Hd (fp:gj st.rt S) (hm:Mem C w S Hx) {d:D} {u:Value} (hd:aN w (ab C w S Hx) S d u) (ck:eW st d=true):u.oneCell'=true∧u.cells=#[u]:=by
  cases d with
  | ref r q o x=>
    simp only [eW] at ck
    split at ck
    · rename_i g s n cs hc
      have:=(Gv fp hm (kD hd) (g:=g) (s:=s) (n:=(trim x s n cs).1) (cs:=(trim x s n cs).2) (by simp [St.ny,hc])).ok
      obtain ⟨base,cap,rfl,_⟩:=this
      exact ⟨rfl,rfl⟩
    · simp at ck
  | ptr r q o=>
    simp only [eW] at ck
    obtain ⟨R,b,off,_,_,rfl⟩:=rf fp hm ck (kD hd)
    exact ⟨rfl,rfl⟩
  | cZ cs o=>
    obtain ⟨b,off,c,e,fz,us,rfl,_⟩:=hd
    exact ⟨rfl,rfl⟩
  | _=>exact CC hd ck
theorem Af (fp:gj st.rt S) (hm:Mem C w S Hx) {d:D} {u:Value} (hd:bR w (ab C w S Hx) S d u) (ck:∀ x∈cellsOf d,eW st x=true):bC (aN w (ab C w S Hx) S) (cellsOf d) u.cells.toList:=by
  by_cases ha:∃ cs,d=.agg cs
  · obtain ⟨cs,rfl⟩:=ha
    obtain ⟨us,rfl,h⟩:=hd
    exact h
  · have hc:cellsOf d=[d]:=by cases d<;>first | rfl | exact absurd ⟨_,rfl⟩ ha
    rw [hc] at ck ⊢
    have ho:=ck d (by simp)
    have pY:aN w (ab C w S Hx) S d u:=by
      cases d<;>first | exact hd | (simp [eW,cI] at ho; done) | exact absurd ⟨_,rfl⟩ ha
    rw [(Hd fp hm pY ho).2]
    exact .cons pY .nil
end
theorem vl {α β:Type} {R:α→β→Prop} {as9:List α} {bs:List β} (h:bC R as9 bs):∃ l:List (α × β),l.map Prod.fst=as9∧l.map Prod.snd=bs∧∀ x∈l,R x.1 x.2:=by
  induction h with
  | nil=>exact ⟨[],rfl,rfl,by simp⟩
  | @cons a b _ _ h1 _ ih=>
    obtain ⟨l,e1,e2,e3⟩:=ih
    exact ⟨(a,b)::l,by simp [e1],by simp [e2],fun x hx=>by
      rcases List.mem_cons.1 hx with rfl | hx
      · exact h1
      · exact e3 x hx⟩
theorem Bn {α β:Type} {R:α→β→Prop}:∀ (l:List (α × β)),(∀ x∈l,R x.1 x.2)→bC R (l.map Prod.fst) (l.map Prod.snd)
  | [],_=>.nil
  | x::l,h=>.cons (h x (by simp)) (Bn l (fun y hy=>h y (by simp [hy])))
theorem Mo {P:Program}:∀ {fs:List Field} {szs:List Nat},szs.length=fs.length→(∀ (j:Nat) (f:Field),fs[j]?=some f→∃ i,P.info? f.type=some i∧i.size≠0∧szs[j]?=some i.size)→
    fs.mapM (fun f=>(P.info? f.type).map fun i=>(f.offset,i.size))=some ((fs.map (·.offset)).zip szs):=by
  intro fs
  induction fs with
  | nil=>intro szs h _; rfl
  | cons f fs ih=>
    intro szs hl h
    cases szs with
    | nil=>simp at hl
    | cons k szs=>
      obtain ⟨i,h1,_,h2⟩:=h 0 f rfl
      simp only [List.getElem?_cons_zero,Option.some.injEq] at h2
      subst h2
      have:=ih (szs:=szs) (by simpa using hl) (fun j f hj=>by simpa using h (j+1) f (by simpa using hj))
      simp [List.mapM_cons,h1,this]
section
variable {P:Program} {c:bU} (ah:dG c P) {C:Ctx} {Hx:List T} {w:World} {st st':St} {a:Act} {ay:List (Array Value)} {S:List (Nat × RT)} (h:Rel C Hx w st (a.tmps::ay) S)
include h
theorem OI:∀ (ps:List (Nat × Operand)),(∀ p∈ps.map (fun p=>(p.1,cellsOf (bN c st 0 p.2))),∀ d∈p.2,eW st d=true)→
    ∃ pp:List (Nat × List (D × Value)),pp.map (fun p=>(p.1,p.2.map Prod.fst))=ps.map (fun p=>(p.1,cellsOf (bN c st 0 p.2)))∧bC (fun p q=>q.1=p.1∧q.2.cells.toList=p.2.map Prod.snd) pp (ps.map fun p=>(p.1,a.eval p.2))∧
      ∀ p∈pp,∀ x∈p.2,aN w (ab C w S Hx) S x.1 x.2:=by
  have fh:ku w (ab C w S Hx) S st.tm a.tmps:=by cases h.mO with | cons a _=>exact a
  intro ps
  induction ps with
  | nil=>intro _; exact ⟨[],rfl,.nil,by simp⟩
  | cons p ps ih=>
    intro ck
    obtain ⟨pp,e1,e2,e3⟩:=ih (fun q hq=>ck q (by simp only [List.map_cons,List.mem_cons]; exact .inr hq))
    have h1:=Af h.rt h.mem (tn (c:=c) fh 0 p.2) (ck _ (by simp only [List.map_cons,List.mem_cons]; exact .inl rfl))
    obtain ⟨l,f1,f2,f3⟩:=vl h1
    refine ⟨(p.1,l)::pp,by simp [e1,f1],.cons ⟨rfl,f2.symm⟩ e2,fun q hq=>?_⟩
    rcases List.mem_cons.1 hq with rfl | hq
    · exact f3
    · exact e3 q hq
include ah
theorem Ee {t:TypeId} {ti:TI} (ht:c.ty t=some ti) {place:Nat→Option (Nat × Nat)} {ps:Array (Nat × Operand)} {cs:List D} (hf:lu (eW st) place ti.zero (ps.toList.map fun p=>(p.1,cellsOf (bN c st 0 p.2)))=some cs)
    (hb:∀ (z:Value) (om:List (Nat × Value)),(∀ i,P.info? t=some i→i.zero=some z)→P.built t om=Instr.fill place z.cells om):
    ∃ v,(∀ w:World,(Instr.build t (ps.map fun (i,x)=>(i,a.eval x))).run P w=.ok v w)∧bR w (ab C w S Hx) S (.agg cs) v:=by
  obtain ⟨inf,h1,h2,h3,z,h4,h5⟩:=(ah.ty _ _ ht).info
  obtain ⟨pp,e1,e2,e3⟩:=OI (c:=c) h ps.toList (Ec hf)
  obtain ⟨zz,f1,f2,f3⟩:=vl h5
  rw [← e1,← f1] at hf
  obtain ⟨cs',g1,g2⟩:=JV Prod.fst hf
  obtain ⟨arr,k1,k2⟩:=Bm Prod.snd e2 g1 f2.symm
  refine ⟨.agg arr,fun w=>run_build w t _ arr ?_,?_⟩
  · rw [hb z _ (fun i hi=>by rw [h1,Option.some.injEq] at hi; subst hi; exact h4)]
    rw [← k1]
    simp
  · refine ⟨arr,rfl,?_⟩
    rw [← g2,k2]
    refine Bn _ (fun x hx=>?_)
    rcases (Ed g1).1 x hx with h6 | ⟨p,h6,h7⟩
    · exact eQ (f3 x h6 w _)
    · exact e3 p h6 x h7
theorem w6 {t:TypeId} {j8 szs:List Nat} {sz nC:Nat} {z:List D} (ht:c.ty t=some ⟨.struct j8 szs,sz,nC,z⟩) {ps:Array (Nat × Operand)} {cs:List D}
    (hf:lu (eW st) (fun i=>match j8[i]?,szs[i]? with | some o,some k=>some (o,k) | _,_=>none) z (ps.toList.map fun p=>(p.1,cellsOf (bN c st 0 p.2)))=some cs):
    ∃ v,(∀ w:World,(Instr.build t (ps.map fun (i,x)=>(i,a.eval x))).run P w=.ok v w)∧bR w (ab C w S Hx) S (.agg cs) v:=by
  refine Ee ah h ht hf (fun zv om hz=>?_)
  obtain ⟨inf,h1,_⟩:=(ah.ty _ _ ht).info
  obtain ⟨dd,g1,fs,rfl,g2,g3,g4⟩:=(ah.ty _ _ ht).desc
  simp only [Program.built,h1,g1,hz inf h1,Mo g3 g4]
  congr 1
  funext i
  simp only [List.getElem?_toArray,List.zip_eq_zipWith,List.getElem?_zipWith,← g2]
  cases j8[i]? with
  | none=>rfl
  | some o=>cases szs[i]?<;>rfl
theorem zq {t e:TypeId} {n:Nat} {sz nC:Nat} {z:List D} {ei:TI} (ht:c.ty t=some ⟨.array n e,sz,nC,z⟩) (he:c.ty e=some ei) {ps:Array (Nat × Operand)} {cs:List D}
    (hf:lu (eW st) (fun i=>some (i*ei.size,ei.size)) z (ps.toList.map fun p=>(p.1,cellsOf (bN c st 0 p.2)))=some cs):
    ∃ v,(∀ w:World,(Instr.build t (ps.map fun (i,x)=>(i,a.eval x))).run P w=.ok v w)∧bR w (ab C w S Hx) S (.agg cs) v:=by
  refine Ee ah h ht hf (fun zv om hz=>?_)
  obtain ⟨inf,h1,_⟩:=(ah.ty _ _ ht).info
  obtain ⟨ads,h2,h3,_⟩:=(ah.ty _ _ he).info
  obtain ⟨dd,g1,rfl⟩:=(ah.ty _ _ ht).desc
  simp only [Program.built,h1,g1,hz inf h1,h2,h3]
end
end Go.Proofs.Ytockoilcnmljiaa
