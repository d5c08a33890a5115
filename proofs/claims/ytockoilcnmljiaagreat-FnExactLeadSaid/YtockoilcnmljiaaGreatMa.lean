/- What the proof of FnExactLead stands on, part 1: an abstract machine on plain data, its soundness, and the contracts of functions. -/
import Derived.Orders
import Derived.LoopN
import Derived.WalkKit
import Derived.Deep.AppendSrc
import Derived.Great.BuildSlice
set_option linter.all false
set_option linter.unusedSimpArgs false
set_option linter.unusedVariables false
set_option linter.unnecessarySimpa false
set_option linter.unusedSectionVars false
namespace Go.Proofs.YtockoilcnmljiaaGreat
inductive D where
  | int (k:IntKind) (n:Int)
  | bool (b:Bool)
  | str (s:ByteArray)
  | sl (g:Option Bool) (s n:Nat) (cs:List D)
  | ref (r:Nat) (q:List Nat) (o:Nat) (x:Option (Nat × Nat))
  | nil (s:Nat)
  | agg (cs:List D)
  | aP (vs:List D)
  | fn (f:FuncId) (gL:List D)
  | ptr (r:Nat) (q:List Nat) (o:Nat)
  | cJ (cs:List D) (o:Nat)
  | bh (cs:List D)
  | hole (s n:Nat)
  | undef
  deriving Inhabited
def lk {α:Type}:List (Nat × α)→Nat→Option α
  | [],_=>none
  | (j,v)::t,k=>if j=k then some v else lk t k
def pt {α:Type}:List (Nat × α)→Nat→α→List (Nat × α)
  | [],k,v=>[(k,v)]
  | (j,u)::t,k,v=>if j=k then (k,v)::t else (j,u)::pt t k v
def pz {α:Type}:List (Nat × α)→Nat→α→List (Nat × α)
  | [],k,v=>[(k,v)]
  | (j,u)::t,k,v=>if j < k then (j,u)::pz t k v else if j=k then (k,v)::t else (k,v)::(j,u)::t
structure St where
  tm:List (Nat × D)
  rt:List (Nat × List D)
  up:List (List (Nat × D)):=[]
  of:Nat:=0
def St.get (st:St) (t:Nat):D:=(lk st.tm t).getD .undef
def St.put (st:St) (dst:Option Nat) (d:D):St:=
  match dst with
  | some t=>{ st with tm:=pz st.tm t d }
  | none=>st
inductive Ty where
  | int (k:IntKind) | bool | str | slice (e:TypeId) | array (n:Nat) (e:TypeId) | struct (lW szs:List Nat) | ptr (e:TypeId) | fn | other
structure TI where
  ty:Ty
  size:Nat
  bytes:Nat
  zero:List D
structure cB where
  ty:TypeId→Option TI
  ext:FuncId→Option (List D→Option (D × List D))
  own:FuncId→List Bool
  inl:FuncId→Bool
  qH:FuncId→Nat→Bool
  nm:FuncId→Nat→Option (List Nat × List Nat)
  gone:FuncId→List Bool
  base:FuncId→Nat→Option Nat
  yM:FuncId→Nat→List Nat
def cB.esz (c:cB) (t:TypeId):Nat:=
  match c.ty t with
  | some ⟨.slice e,_,_,_⟩=>match c.ty e with | some i=>i.size | none=>0
  | _=>0
def lX:List D→List Nat→Option (List D)
  | cs,[]=>some cs
  | cs,o::q=>match cs[o]? with
    | some (.sl none _ _ xs)=>lX xs q
    | _=>none
def pK (f:List D→List D):List D→List Nat→Option (List D)
  | cs,[]=>some (f cs)
  | cs,o::q=>match cs[o]? with
    | some (.sl none s n xs)=>match pK f xs q with
      | some kz=>some (cs.set o (.sl none s n kz))
      | none=>none
    | _=>none
def St.cells (st:St) (r:Nat) (q:List Nat):Option (List D):=
  match lk st.rt r with
  | some cs=>lX cs q
  | none=>none
def St.cell (st:St) (r:Nat) (q:List Nat) (o:Nat):Option D:=
  match st.cells r q with
  | some cs=>cs[o]?
  | none=>none
def under (q:List Nat) (x:List Nat):Option (List Nat):=
  match q,x with
  | [],x=>some x
  | p::ps,y::ys=>if p=y then under ps ys else none
  | _::_,[]=>none
def trim (x:Option (Nat × Nat)) (s n:Nat) (cs:List D):Nat × List D:=
  match x with
  | none=>(n,cs)
  | some (l,m)=>(m,(cs.drop (l*s)).take (m*s))
def cF (r:Nat):D→D
  | .ref r' q o x=>if r'=r then .undef else .ref r' q o x
  | .ptr r' q o=>if r'=r then .undef else .ptr r' q o
  | d=>d
def eC (r:Nat):D→D
  | .ref r' q o x=>if r'=r then .undef else .ref r' q o x
  | .ptr r' (p::q) o=>if r'=r then .undef else .ptr r' (p::q) o
  | d=>d
def cz (r:Nat) (q:List Nat) (o:Nat) (exact:Bool):D→D
  | .ref r' q' o' x=>if r'=r then
      match under (q++[o]) (q'++[o']) with
      | none=>.ref r' q' o' x
      | some []=>if exact then .undef else .ref r' q' o' x
      | some (_::_)=>.undef
    else .ref r' q' o' x
  | .ptr r' q' o'=>if r'=r then
      match under (q++[o]) q' with
      | none=>.ptr r' q' o'
      | some _=>.undef
    else .ptr r' q' o'
  | d=>d
def r9 (r:Nat) (q:List Nat) (o:Nat) (r1:Nat) (q1:List Nat) (o1:Nat):D→D
  | .ref r' q' o' x=>if r'=r then
      match under (q++[o]) (q'++[o']) with
      | none=>.ref r' q' o' x
      | some []=>.ref r1 q1 o1 x
      | some (_::_)=>.undef
    else .ref r' q' o' x
  | .ptr r' q' o'=>if r'=r then
      match under (q++[o]) q' with
      | none=>.ptr r' q' o'
      | some _=>.undef
    else .ptr r' q' o'
  | d=>d
def fh (f:D→D):D→D
  | .agg cs=>.agg (cs.map f)
  | .fn g cs=>.fn g (cs.map f)
  | d=>f d
def pg (f:D→D):D→D
  | .aP vs=>.aP (vs.map (fh f))
  | d=>fh f d
def gb {α:Type} (f:α→α):List (Nat × α)→List (Nat × α)
  | []=>[]
  | (k,v)::t=>(k,f v)::gb f t
def St.eY (f:D→D) (st:St):St:={ st with tm:=gb (pg f) st.tm,rt:=gb (List.map (fh f)) st.rt,up:=st.up.map (gb (pg f)) }
def St.Zs (f g:D→D) (st:St):St:={ st with tm:=gb (pg f) st.tm,rt:=gb (List.map (fh g)) st.rt,up:=st.up.map (gb (pg f)) }
def gM:D→Bool
  | .sl ..=>true
  | _=>false
def sn:D→Option (Nat × Nat)
  | .sl _ s n _=>some (s,n)
  | .hole s n=>some (s,n)
  | _=>none
def iR:D→Bool
  | .sl none _ _ _=>true
  | _=>false
mutual
def iB (b:Bool):D→D
  | .sl none s n cs=>.sl (some b) s n (cu b cs)
  | d=>d
def cu (b:Bool):List D→List D
  | []=>[]
  | d::ds=>iB b d::cu b ds
end
def lB {α β:Type} (f:α→Option β):List α→Option (List β)
  | []=>some []
  | a::as9=>match f a with
    | some b=>match lB f as9 with
      | some bs=>some (b::bs)
      | none=>none
    | none=>none
def uo (st:St):D→Option D
  | .int k n=>some (.int k n)
  | .bool b=>some (.bool b)
  | .str s=>some (.str s)
  | .nil s=>some (.nil s)
  | .sl g s n cs=>some (iB true (.sl g s n cs))
  | .ref r q o x=>match st.cell r q o with
    | some (.sl g s n cs)=>some (iB true (.sl g s (trim x s n cs).1 (trim x s n cs).2))
    | _=>none
  | .undef=>some .undef
  | .hole ..=>some .undef
  | _=>none
def RG (st:St):D→Option D
  | .cJ cs o=>some (.cJ cs o)
  | .ptr r q o=>match st.cells r q with
    | some (c::cs)=>match lB (uo st) (c::cs) with
      | some cs'=>some (.cJ cs' o)
      | none=>none
    | _=>none
  | d=>uo st d
def Uz (st:St):D→Option D
  | .agg cs=>match lB (uo st) cs with
    | some cs'=>some (.agg cs')
    | none=>none
  | .fn f gL=>match lB (RG st) gL with
    | some cs'=>some (.fn f cs')
    | none=>none
  | d=>RG st d
def St.im (st:St) (r:Nat) (q:List Nat) (o:Nat) (d:D):Option St:=
  match lk st.rt r with
  | some cs=>match pK (fun l=>l.set o d) cs q with
    | some cs'=>some { st with rt:=pz st.rt r cs' }
    | none=>none
  | none=>none
def jf (st:St):D→Option (D × St)
  | .int k n=>some (.int k n,st)
  | .bool b=>some (.bool b,st)
  | .str s=>some (.str s,st)
  | .nil s=>some (.sl none s 0 [],st)
  | .sl b s n cs=>some (.sl b s n cs,st)
  | .ref r q o x=>match st.cell r q o with
    | some (.sl none s n cs)=>match st.im r q o (.hole s n) with
      | some st'=>some (.sl none s (trim x s n cs).1 (trim x s n cs).2,st')
      | none=>none
    | some (.sl (some b) s n cs)=>some (.sl (some b) s (trim x s n cs).1 (trim x s n cs).2,st)
    | _=>none
  | .undef=>some (.undef,st)
  | .hole ..=>some (.undef,st)
  | _=>none
def rM (st:St):List D→Option (List D × St)
  | []=>some ([],st)
  | d::ds=>match jf st d with
    | some (d',st')=>match rM st' ds with
      | some (ds',yN)=>some (d'::ds',yN)
      | none=>none
    | none=>none
def gF (r:Nat) (q:List Nat) (j:Nat):D→D
  | .sl none _ _ _=>.ref r q j none
  | d=>d
def lI (r:Nat) (q:List Nat):Nat→List D→List D
  | _,[]=>[]
  | j,d::ds=>gF r q j d::lI r q (j+1) ds
def UA (st:St) (r:Nat):Option (List D × St):=
  match lk st.rt r with
  | some (c::cs)=>match rM st (lI r [] 0 (c::cs)) with
    | some (cs',st')=>some (cs',{ st' with rt:=pz st'.rt r [] })
    | none=>none
  | _=>none
def DF (st:St):D→Option (D × St)
  | .agg cs=>match rM st cs with
    | some (cs',st')=>some (.agg cs',st')
    | none=>none
  | .ptr r [] 0=>match UA st r with
    | some (cs',st')=>some (.bh cs',st')
    | none=>none
  | d=>jf st d
def NF (st:St):List D→Option (List D × St)
  | []=>some ([],st)
  | d::ds=>match DF st d with
    | some (d',st')=>match NF st' ds with
      | some (ds',yN)=>some (d'::ds',yN)
      | none=>none
    | none=>none
def dp:D→List D
  | .agg cs=>cs
  | .aP vs=>vs.flatMap fun | .agg cs=>cs | d=>[d]
  | d=>[d]
def CL (r:Nat) (j:Nat):D→D
  | .agg cs=>.agg (lI r [] j cs)
  | d=>gF r [] j d
def FY (r:Nat):Nat→List D→List D
  | _,[]=>[]
  | j,d::ds=>CL r j d::FY r (j+(dp d).length) ds
def CM (r:Nat):D→D
  | .aP vs=>.aP (FY r 0 vs)
  | d=>CL r 0 d
def St.qI (st:St) (r:Nat) (d:D):St × D:=
  match d with
  | .bh cs=>
    let st':=st.eY (cF r)
    ({ st' with rt:=pz st'.rt r cs },.ptr r [] 0)
  | d=>if (dp d).any iR then
      let st':=st.eY (cF r)
      ({ st' with rt:=pz st'.rt r (dp d) },CM r d)
    else (st,d)
mutual
def cf:D→Bool
  | .sl g _ _ cs=>(match g with | some true=>false | _=>true)&&cm cs
  | _=>true
def cm:List D→Bool
  | []=>true
  | d::ds=>cf d&&cm ds
end
mutual
def iq (b:Bool):D→D
  | .sl none s n cs=>.sl none s n (ek b cs)
  | .sl (some _) s n cs=>.sl (some b) s n (ek b cs)
  | d=>d
def ek (b:Bool):List D→List D
  | []=>[]
  | d::ds=>iq b d::ek b ds
end
def gN (b:Bool):D→D
  | .agg cs=>.agg (ek b cs)
  | .bh cs=>.bh (ek b cs)
  | .aP vs=>.aP (vs.map fun | .agg cs=>.agg (ek b cs) | d=>iq b d)
  | d=>iq b d
def fy:D→Bool
  | .int .. | .bool _ | .str _ | .sl .. | .undef | .hole ..=>true
  | _=>false
def ch:D→List D
  | .bh cs=>cs
  | d=>dp d
def dQ (d:D):Bool:=(ch d).all fun x=>fy x&&cf x
def CN (c:cB) (t:TypeId):Value→D
  | .int k n=>.int k n
  | .bool b=>.bool b
  | .string s=>.str s
  | .slice none 0 0=>.nil (c.esz t)
  | _=>.undef
def cw (c:cB) (st:St) (t:TypeId):Operand→D
  | .tmp i=>st.get i
  | .const v=>CN c t v
  | .func f=>.fn f []
  | .global _=>.undef
def AD (op:BinOp) (k:IntKind) (a b:Int):Option D:=
  match op with
  | .add=>some (.int k (k.wrap (a+b)))
  | .sub=>some (.int k (k.wrap (a - b)))
  | .mul=>some (.int k (k.wrap (a*b)))
  | .quo=>if b=0 then none else some (.int k (k.wrap (a.tdiv b)))
  | .rem=>if b=0 then none else some (.int k (a.tmod b))
  | .and=>some (.int k (k.wrap (BitVec.ofInt k.bits a&&& BitVec.ofInt k.bits b).toNat))
  | .or=>some (.int k (k.wrap (BitVec.ofInt k.bits a||| BitVec.ofInt k.bits b).toNat))
  | .xor=>some (.int k (k.wrap (BitVec.ofInt k.bits a ^^^ BitVec.ofInt k.bits b).toNat))
  | .eql=>some (.bool (a==b))
  | .neq=>some (.bool (a !=b))
  | .lss=>some (.bool (decide (a < b)))
  | .leq=>some (.bool (decide (a≤b)))
  | .gtr=>some (.bool (decide (a>b)))
  | .geq=>some (.bool (decide (a≥b)))
  | _=>none
def vb (op:BinOp) (k:IntKind) (a b:Int):Option D:=
  if b < 0 then none else
  match op with
  | .shl=>some (.int k (k.wrap (a*2 ^ (min b.toNat k.bits))))
  | .shr=>some (.int k (a.fdiv (2 ^ (min b.toNat k.bits))))
  | _=>none
def NG (op:BinOp) (a b:ByteArray):Option D:=
  match op with
  | .add=>if a.size+b.size≤9223372036854775807 then some (.str (a++b)) else none
  | .eql=>some (.bool (a.toList==b.toList))
  | .neq=>some (.bool (!(a.toList==b.toList)))
  | _=>none
def IF (op:BinOp) (a b:Bool):Option D:=
  match op with
  | .eql=>some (.bool (a==b))
  | .neq=>some (.bool (!(a==b)))
  | _=>none
def sa (c:cB) (t:TypeId) (op:BinOp) (x y:D):Option D:=
  match x,y with
  | .int k a,.int k' b=>match op with
    | .shl=>vb .shl k a b
    | .shr=>vb .shr k a b
    | op=>if k=k' then AD op k a b else none
  | .str a,.str b=>NG op a b
  | .bool a,.bool b=>match c.ty t with
    | some ⟨.bool,_,_,_⟩=>IF op a b
    | _=>none
  | _,_=>none
def Zt (op:UnOp) (x:D):Option D:=
  match op,x with
  | .neg,.int k n=>some (.int k (k.wrap (0 - n)))
  | .not,.bool b=>some (.bool (!b))
  | _,_=>none
def St.qg (st:St):D→Option (Option Bool × Nat × Nat × List D)
  | .nil s=>some (none,s,0,[])
  | .sl b s n cs=>some (b,s,n,cs)
  | .ref r q o x=>match st.cell r q o with
    | some (.sl b s n cs)=>some (b,s,(trim x s n cs).1,(trim x s n cs).2)
    | _=>none
  | _=>none
def NH (c:cB) (st:St) (t:TypeId) (x:D):Option D:=
  match c.ty t,x with
  | some ⟨.str,_,_,_⟩,.str s=>some (.int .i64 s.size)
  | some ⟨.slice _,_,_,_⟩,d=>match st.qg d with
    | some (_,_,n,_)=>some (.int .i64 n)
    | none=>none
  | _,_=>none
def byteOf:D→Option UInt8
  | .int .u8 n=>some (UInt8.ofNat n.toNat)
  | _=>none
def du (b:UInt8):D:=.int .u8 b.toNat
def wD (c:cB) (st:St) (src dst:TypeId) (x:D):Option (D × Option (List D)):=
  match c.ty src,c.ty dst with
  | some si,some di=>
    match di.ty,si.ty,x with
    | .int k,_,.int _ n=>some (.int k (k.wrap n),none)
    | .str,_,.int _ n=>some (.str (Utf8.encode n),none)
    | .str,_,.str s=>some (.str s,none)
    | .str,.slice e,x=>match c.ty e with
      | some ⟨.int .u8,_,_,_⟩=>match st.qg x with
        | some (_,s,_,cs)=>if s=1 then (match lB byteOf cs with
          | some bs=>some (.str ⟨bs.toArray⟩,none)
          | none=>none) else none
        | none=>none
      | _=>none
    | .slice e,.str,.str s=>match c.ty e with
      | some ⟨.int .u8,_,_,_⟩=>some (.undef,some [.sl none 1 s.size (s.data.toList.map du)])
      | _=>none
    | _,_,_=>none
  | _,_=>none
def qJ (st:St) (agg:Bool) (size:Nat):D→Option D
  | .ptr r q o=>match st.cells r q with
    | some cs=>
      if agg then (if 0 < size∧o+size≤cs.length then some (.agg (lI r q o ((cs.drop o).take size))) else none)
      else match cs[o]? with
        | some d=>some (gF r q o d)
        | none=>none
    | none=>none
  | .cJ cs o=>
      if agg then (if 0 < size∧o+size≤cs.length then some (.agg ((cs.drop o).take size)) else none)
      else cs[o]?
  | _=>none
def kq:Ty→Bool
  | .struct .. | .array ..=>true
  | _=>false
def live (st:St) (r:Nat) (q:List Nat):Bool:=
  match st.cells r q with
  | some (_::_)=>true
  | _=>false
def kr (i:Int) (n:Nat) (d:Option D):Option D:=if 0≤i then (if i < n then d else none) else none
def off (x:Option (Nat × Nat)):Nat:=
  match x with
  | none=>0
  | some (l,_)=>l
def qK (st:St) (c:cB) (t:TypeId) (x:D) (i:Int):Option D:=
  match c.ty t with
  | some ⟨.slice e,_,_,_⟩=>match c.ty e with
    | some ei=>match x with
      | .ref r q o x=>match st.cell r q o with
        | some (.sl none s n cs)=>if s=ei.size∧0 < s then kr i (trim x s n cs).1 (some (.ptr r (q++[o]) ((off x+i.toNat)*s))) else none
        | some (.sl (some _) s n cs)=>if s=ei.size∧0 < s then kr i (trim x s n cs).1 (some (.cJ cs ((off x+i.toNat)*s))) else none
        | _=>none
      | .sl (some _) s n cs=>if s=ei.size∧0 < s then kr i n (some (.cJ cs (i.toNat*s))) else none
      | _=>none
    | none=>none
  | some ⟨.array n e,_,_,_⟩=>match c.ty e with
    | some ei=>match x with
      | .ptr r q o=>if live st r q then kr i n (some (.ptr r q (o+i.toNat*ei.size))) else none
      | .cJ cs o=>kr i n (some (.cJ cs (o+i.toNat*ei.size)))
      | _=>none
    | none=>none
  | _=>none
def xL (st:St) (k:Nat):D→Option D
  | .ptr r q i=>if live st r q then some (.ptr r q (i+k)) else none
  | .cJ cs i=>some (.cJ cs (i+k))
  | _=>none
def xM (c:cB) (t:TypeId) (x:D) (i:Int):Option D:=
  match c.ty t,x with
  | some ⟨.str,_,_,_⟩,.str s=>kr i s.size ((s.data.toList[i.toNat]?).map du)
  | some ⟨.array n e,_,_,_⟩,.agg cs=>match c.ty e with
    | some ei=>kr i n (if kq ei.ty then some (.agg ((cs.drop (i.toNat*ei.size)).take ei.size)) else cs[i.toNat*ei.size]?)
    | none=>none
  | _,_=>none
def yO:List D→Nat→List D→List D
  | cs,_,[]=>cs
  | cs,o,d::ds=>yO (cs.set o d) (o+1) ds
def vc:D→D
  | .nil s=>.sl none s 0 []
  | d=>d
def fF (n:Nat) (z:List D):List D:=(List.replicate n (z.map vc)).flatten
def da:D→Bool
  | .fn .. | .agg _ | .aP _ | .bh _ | .undef | .hole ..=>false
  | _=>true
def single:D→Bool
  | .agg _ | .aP _ | .fn ..=>false
  | _=>true
def fK (st:St):D→Bool
  | .ref r q o _=>match st.cell r q o with
    | some (.sl ..)=>true
    | _=>false
  | .ptr r q _=>live st r q
  | d=>da d
def nD (ok:D→Bool) (place:Nat→Option (Nat × Nat)):List D→List (Nat × List D)→Option (List D)
  | cs,[]=>some cs
  | cs,(i,vs)::rest=>match place i with
    | some (o,k)=>if vs.length=k∧o+vs.length≤cs.length∧vs.all ok=true then nD ok place (yO cs o vs) rest else none
    | none=>none
def cellsOf:D→List D
  | .agg cs=>cs
  | d=>[d]
def sb (st:St):List (Nat × D)→Option (List (Nat × List D) × St)
  | []=>some ([],st)
  | (i,d)::ps=>match rM st (cellsOf d) with
    | some (cs,st')=>match sb st' ps with
      | some (r,yN)=>some ((i,cs)::r,yN)
      | none=>none
    | none=>none
def gG:D→Bool
  | .int .. | .bool _ | .str _=>true
  | _=>false
def St.root (st:St) (dst:Option Nat) (cs:List D) (d:Nat→D):Option St:=
  match dst with
  | some t=>
    let st':=st.eY (cF (st.of+t))
    some { st' with tm:=pz st'.tm t (d (st.of+t)),rt:=pz st'.rt (st.of+t) cs }
  | none=>none
def elems (st:St) (flat:Bool) (z:List D) (sz:Nat):D→Option (List D × Nat × St)
  | .int .i64 n=>if 0≤n∧(z.map vc).all da=true then some (fF n.toNat z,n.toNat,st) else none
  | .str s=>if sz=1 then some (s.data.toList.map du,s.size,st) else none
  | .nil _=>some ([],0,st)
  | .sl (some _) s n cs=>if s=sz∧cs.all da=true then some (cs,n,st) else none
  | .ref r q o x=>match st.cell r q o with
    | some (.sl none s n cs)=>if s≠sz then none else if flat=true then (if (trim x s n cs).2.all gG=true then some ((trim x s n cs).2,(trim x s n cs).1,st) else none) else
      match rM st (lI r (q++[o]) (off x*s) (trim x s n cs).2) with
      | some (ys,st')=>if ys.all da=true then some (ys,(trim x s n cs).1,st') else none
      | none=>none
    | some (.sl (some _) s n cs)=>if s=sz∧(trim x s n cs).2.all da=true then some ((trim x s n cs).2,(trim x s n cs).1,st) else none
    | _=>none
  | _=>none
def target (st:St) (sz:Nat) (d:D):Option (Nat × List D × St):=
  match jf st d with
  | some (.sl none s n cs,st')=>if s=sz then some (n,cs,st') else none
  | _=>none
def IG (c:cB) (tx:TypeId):D→Bool
  | .int ..=>match c.ty tx with | some ⟨.int _,_,_,_⟩=>true | _=>false
  | .str _=>match c.ty tx with | some ⟨.str,_,_,_⟩=>true | _=>false
  | _=>match c.ty tx with | some ⟨.slice _,_,_,_⟩=>true | _=>false
def sc (c:cB) (st:St) (t tx:TypeId) (dst:Option Nat) (s x:D):Option St:=
  match c.ty t with
  | some ⟨.slice e,_,_,_⟩=>match c.ty e with
    | some ei=>if IG c tx x=true then
        match target st ei.size s with
        | some (n,cs,aQ)=>match elems aQ (ei.zero.all gG) ei.zero ei.size x with
          | some (ys,m,cq)=>
            if 0 < ei.size∧0 < ei.bytes∧(n+m)*ei.bytes≤140737488355328 then cq.root dst [.sl none ei.size (n+m) (cs++ys)] (fun d=>.ref d [] 0 none) else none
          | none=>none
        | none=>none
      else none
    | none=>none
  | _=>none
def bound (d:Option D) (z:Int):Option Int:=
  match d with
  | none=>some z
  | some (.int _ i)=>some i
  | _=>none
def FZ (s:ByteArray) (l h:Option D):Option D:=
  match bound l 0,bound h s.size with
  | some l,some h=>if 0≤l∧l≤h∧h≤s.size then some (.str (s.extract l.toNat h.toNat)) else none
  | _,_=>none
def F0 (st:St) (sz:Nat) (x:D) (l h:Option D):Option D:=
  match st.qg x with
  | some (g,s,n,cs)=>match bound l 0,bound h n with
    | some l,some h=>if s=sz∧0≤l∧l≤h∧h≤n then
        match x with
        | .ref r q o y=>some (.ref r q o (some (off y+l.toNat,h.toNat - l.toNat)))
        | .nil s=>some (.nil s)
        | _=>some (.sl g s (h.toNat - l.toNat) ((cs.drop (l.toNat*s)).take ((h.toNat - l.toNat)*s)))
      else none
    | _,_=>none
  | none=>none
def AE (c:cB) (st:St) (t:TypeId) (x:D) (l h:Option D):Option D:=
  match c.ty t with
  | some ⟨.str,_,_,_⟩=>match x with
    | .str s=>FZ s l h
    | _=>none
  | some ⟨.slice e,_,_,_⟩=>match c.ty e with
    | some ei=>F0 st ei.size x l h
    | none=>none
  | _=>none
def Ei:D→List Nat→Option D
  | d,[]=>some d
  | .sl none _ _ cs,o::q=>match cs[o]? with
    | some d=>Ei d q
    | none=>none
  | _,_=>none
def vd (r:Nat) (q:List Nat) (o:Nat) (bO:D):D→D
  | .ref r' q' o' x=>if r'=r then (match under (q++[o]) (q'++[o']) with
      | none=>.ref r' q' o' x
      | some y=>match Ei bO y with
        | some (.sl g s n cs)=>iB false (.sl g s (trim x s n cs).1 (trim x s n cs).2)
        | _=>.undef) else .ref r' q' o' x
  | d=>cz r q o true d
def St.tt (st:St) (r:Nat) (q:List Nat) (o:Nat) (d:D):Option (St × (D→D)):=
  match st.cell r q o with
  | some bO=>some (if gM bO then (st.Zs (vd r q o bO) (cz r q o true),vd r q o bO) else if gM d then (st.eY (cz r q o true),cz r q o true) else (st,id))
  | none=>none
def nO (st:St) (r:Nat):Nat→(D→D)→List D→Option St
  | _,_,[]=>some st
  | o,h,d::ds=>if !fK st (h d) then none else match st.tt r [] o (h d) with
    | some (aQ,f)=>match aQ.im r [] o (f (h d)) with
      | some st'=>nO st' r (o+1) (fun x=>f (h x)) ds
      | none=>none
    | none=>none
def nP (st:St) (r:Nat):Nat→List D→Option St
  | _,[]=>some st
  | o,d::ds=>if !da d then none else match st.tt r [] o d with
    | some (aQ,_)=>match aQ.im r [] o d with
      | some st'=>nP st' r (o+1) ds
      | none=>none
    | none=>none
def Ej (r:Nat) (q:List Nat) (o:Nat):D→Bool
  | .ref r' q' o' none=>decide (r'=r)&&decide (q'=q)&&decide (o'=o)
  | _=>false
def xN (d:D) (r:Nat) (q:List Nat) (o:Nat):D→D:=
  match d with
  | .ref r' q' o' none=>r9 r' q' o' r q o
  | .ref r' q' o' (some _)=>cz r' q' o' true
  | _=>id
def St.uH (st:St) (d:D) (r:Nat) (q:List Nat) (o:Nat):St:=
  match d with
  | .ref _ _ _ _=>st.eY (xN d r q o)
  | _=>st
def jc (st:St) (r:Nat) (q:List Nat):Nat→(D→D)→List D→Option St
  | _,_,[]=>some st
  | o,h,d::ds=>
    if Ej r q o (h d)&&fK st (h d) then jc st r q (o+1) h ds else
    match jf st (h d) with
    | some (d',aQ)=>if !da d' then none else match aQ.tt r q o d' with
      | some (cq,f)=>match cq.im r q o d' with
        | some DG=>jc (DG.uH (f (h d)) r q o) r q (o+1) (fun x=>xN (f (h d)) r q o (f (h x))) ds
        | none=>none
      | none=>none
    | none=>none
def ve (st:St) (qH:Nat→Bool) (size:Nat) (a v:D):Option St:=
  match a with
  | .ptr r q o=>
    if (cellsOf v).length=size∧live st r q=true then
      match q with
      | []=>if qH (r - st.of) then (match rM st (cellsOf v) with
          | some (cs,aQ)=>nP aQ r o cs
          | none=>none) else nO st r o id (cellsOf v)
      | q=>jc st r q o id (cellsOf v)
    else none
  | _=>none
def nq (st:St):List Bool→List D→Option (List D × St)
  | _,[]=>some ([],st)
  | b,d::ds=>
    match (if b.headD false then DF st d else some (d,st):Option (D × St)) with
    | some (d',st')=>match nq st' b.tail ds with
      | some (ds',yN)=>some (d'::ds',yN)
      | none=>none
    | none=>none
def vg (st:St):List Bool→List D→Option (List D)
  | _,[]=>some []
  | b,d::ds=>
    match (if b.headD false then some d else Uz st d) with
    | some d'=>match vg st b.tail ds with
      | some ds'=>some (d'::ds')
      | none=>none
    | none=>none
def mY (st:St) (b:List Bool) (ds:List D):Option (List D × St):=
  match nq st b ds with
  | some (gp,aQ)=>match vg aQ b gp with
    | some tu=>some (tu,aQ)
    | none=>none
  | none=>none
def pL (st:St) (h:D→D):List D→List D→Option (St × (D→D))
  | [],_=>some (st,h)
  | _::_,[]=>none
  | a::as9,d::ds=>
    match h a,d with
    | .ref r q o none,.sl none s n cs=>match st.cell r q o with
      | some (.hole s0 n0)=>if s0=s∧n0=n then
          (match (st.eY (cz r q o false)).im r q o (.sl none s n cs) with
           | some st'=>pL st' (fun x=>cz r q o false (h x)) as9 ds
           | none=>none)
        else none
      | _=>none
    | _,_=>pL st h as9 ds
def CO (st:St) (h:D→D) (a out:D):Option (St × (D→D)):=
  match a,out with
  | .agg cs,.agg ds=>pL st h cs ds
  | .ptr r [] 0,.bh ds=>match lk st.rt r with
    | some []=>some ({ st.eY (eC r) with rt:=pz (st.eY (eC r)).rt r ds },fun x=>eC r (h x))
    | _=>none
  | a,d=>pL st h [a] [d]
def ir (st:St) (h:D→D):List Bool→List D→List D→Option St
  | _,[],_=>some st
  | b,a::as9,o::os=>if b.headD false then match CO st h a o with
      | some (st',h')=>ir st' h' b.tail as9 os
      | none=>none
    else ir st h b.tail as9 os
  | _,_::_,[]=>none
def fA:List Bool→List D→Bool
  | _,[]=>false
  | b,d::ds=>(b.headD false&&!((ch d).all cf))||fA b.tail ds
def kj:List Bool→List D→List D
  | _,[]=>[]
  | b,d::ds=>(if b.headD false then gN false d else d)::kj b.tail ds
def kA (c:cB) (cl:FuncId→List D→Option (D × List D)) (st:St) (dst:Option Nat) (f:FuncId) (args:List D):Option St:=
  match mY st (c.own f) args with
  | some (ds,aQ)=>
    let t:=fA (c.own f) ds
    match cl f (if t then kj (c.own f) ds else ds) with
    | some (r,outs)=>
      if dQ r&&outs.all dQ then
        match ir aQ id (c.own f) args (if t then outs.map (gN true) else outs) with
        | some cq=>match dst with
          | some i=>let p:=cq.qI (cq.of+i) (if t then gN true r else r); some (p.1.put (some i) p.2)
          | none=>some cq
        | none=>none
      else none
    | none=>none
  | none=>none
def fj (c:cB) (cl:FuncId→List D→Option (D × List D)) (ci:FuncId→List D→Nat→St→Option (D × St)) (aC:FuncId) (st:St) (o:Oper):Option St:=
  let ev:=cw c st o.type
  let val (d:Option D):Option St:=match d with | some d=>some (st.put o.dst d) | none=>none
  match o.op with
  | .move x | .assign x=>some (st.put o.dst (ev x))
  | .pick b x y=>match ev b with
    | .bool t=>some (st.put o.dst (if t then ev x else ev y))
    | _=>none
  | .alloc e=>match c.ty e with
    | some i=>st.root o.dst i.zero (fun d=>.ptr d [] 0)
    | none=>none
  | .box e x=>match c.ty e with
    | some i=>if (cellsOf (cw c st e x)).length=i.size∧(if c.qH aC (o.dst.getD 0)=true then true else (cellsOf (cw c st e x)).all (fK st))=true then
        match o.dst with
        | some t=>if c.qH aC t then (match rM st (cellsOf (cw c st e x)) with
            | some (cs,aQ)=>if cs.all da then aQ.root (some t) cs (fun d=>.ptr d [] 0) else none
            | none=>none)
          else st.root (some t) (cellsOf (pg (cF (st.of+t)) (cw c st e x))) (fun d=>.ptr d [] 0)
        | none=>none
      else none
    | none=>none
  | .build t ps=>match c.ty t with
    | some ⟨.struct lW szs,_,_,z⟩=>
      match nD (fK st) (fun i=>match lW[i]?,szs[i]? with | some o,some k=>some (o,k) | _,_=>none) z (ps.toList.map fun p=>(p.1,cellsOf (cw c st 0 p.2))) with
      | some cs=>some (st.put o.dst (.agg cs))
      | none=>none
    | some ⟨.array _ e,_,_,z⟩=>match c.ty e with
      | some ei=>
        match nD (fK st) (fun i=>some (i*ei.size,ei.size)) z (ps.toList.map fun p=>(p.1,cellsOf (cw c st 0 p.2))) with
        | some cs=>some (st.put o.dst (.agg cs))
        | none=>none
      | none=>none
    | _=>none
  | .buildSlice t n ps=>match c.ty t with
    | some ⟨.slice e,_,_,_⟩=>match c.ty e with
      | some ei=>
        if n*ei.size≤16777216 then
          match sb st (ps.toList.map fun p=>(p.1,cw c st e p.2)) with
          | some (vs,aQ)=>match nD da (fun i=>some (i*ei.size,ei.size)) (fF n ei.zero) vs with
            | some cs=>aQ.root o.dst [.sl none ei.size n cs] (fun d=>.ref d [] 0 none)
            | none=>none
          | none=>none
        else none
      | none=>none
    | _=>none
  | .load t a=>match c.ty t with
    | some i=>val (qJ st (kq i.ty) i.size (ev a))
    | none=>none
  | .store t a x=>match c.ty t with
    | some i=>match ve st (c.qH aC) i.size (ev a) (cw c st t x) with
      | some st'=>some (st'.put o.dst (.aP []))
      | none=>none
    | none=>none
  | .nilCheck x=>match ev x with
    | .ptr r q i=>if live st r q then some (st.put o.dst (.ptr r q i)) else none
    | .cJ cs i=>some (st.put o.dst (.cJ cs i))
    | _=>none
  | .binOp op t x y _=>val (sa c t op (cw c st t x) (cw c st t y))
  | .unOp op _ x=>val (Zt op (ev x))
  | .convert src dst x=>match wD c st src dst (cw c st src x) with
    | some (d,none)=>some (st.put o.dst d)
    | some (_,some cs)=>st.root o.dst cs (fun d=>.ref d [] 0 none)
    | none=>none
  | .makeFunc (.func f) first gL=>if first.size=0∧(gL.toList.map ev).all single=true then some (st.put o.dst (.fn f (gL.toList.map ev))) else none
  | .makeSlice t l cp=>match c.ty t with
    | some ⟨.slice e,_,_,_⟩=>match c.ty e,ev l,ev cp with
      | some ei,.int _ l,.int _ cp=>if 0≤l then (if l≤cp then (if 0 < ei.bytes∧cp*ei.bytes≤140737488355328 then st.root o.dst [.sl none ei.size l.toNat (fF l.toNat ei.zero)] (fun d=>.ref d [] 0 none) else none) else none) else none
      | _,_,_=>none
    | _=>none
  | .slice t x l h none=>val (AE c st t (cw c st t x) (l.map ev) (h.map ev))
  | .fieldAddr s x f=>match c.ty s with
    | some ⟨.struct lW szs,_,_,_⟩=>match lW[f]? with
      | some k=>val (xL st k (ev x))
      | none=>none
    | _=>none
  | .indexAddr t x i=>match ev i with
    | .int _ i=>val (qK st c t (cw c st t x) i)
    | _=>none
  | .index t x i=>match ev i with
    | .int _ i=>val (xM c t (ev x) i)
    | _=>none
  | .extract x i=>match ev x with
    | .aP vs=>val vs[i]?
    | _=>none
  | .call cc=>if cc.args.size≠cc.argTypes.size then none else
    let args:=(cc.args.toList.zip cc.argTypes.toList).map fun p=>cw c st p.2 p.1
    match cc.callee with
    | .value f=>match ev f with
      | .fn g gL=>if c.inl g then (match ci g (args++gL) ((st.of+o.dst.getD 0+1)*100000) st with
          | some (d,st')=>some (st'.put o.dst d)
          | none=>none) else kA c cl st o.dst g (args++gL)
      | _=>none
    | .builtin .len=>match args,cc.argTypes.toList with
      | [x],[t]=>val (NH c st t x)
      | _,_=>none
    | .builtin .min=>match args with
      | [.int k a,.int _ b]=>some (st.put o.dst (.int k (if b < a then b else a)))
      | _=>none
    | .builtin .max=>match args with
      | [.int k a,.int _ b]=>some (st.put o.dst (.int k (if b>a then b else a)))
      | _=>none
    | .builtin .append=>match args,cc.argTypes.toList with
      | [s,x],[t,tx]=>sc c st t tx o.dst s x
      | _,_=>none
    | _=>none
  | _=>none
def CP (c:cB) (aC:FuncId) (o:Oper):List Nat:=
  match o.op with
  | .store _ (.tmp x) _=>c.yM aC x
  | .call cc=>(match cc.callee,o.dst with
    | .builtin .append,some d=>c.yM aC d
    | _,_=>[])
  | _=>[]
def xm (c:cB) (aC:FuncId) (st:St) (o:Oper):Bool:=
  match o.op with
  | .load _ (.tmp x)=>(match c.base aC x with
    | none=>true
    | some 0=>(match st.get x with
      | .cJ _ _=>true
      | _=>false)
    | some (r+1)=>(match st.get x with
      | .ptr r' [] _=>r'==st.of+r&&decide (r' < 10000)
      | _=>false))
  | .store _ (.tmp x) _=>(match c.yM aC x with
    | []=>true
    | l=>(match st.get x with
      | .ptr r' q _=>live st r' q&&l.all fun r=>(lk st.rt (st.of+r)).isSome&&r' !=st.of+r
      | _=>false))
  | _=>(CP c aC o).all fun r=>(lk st.rt (st.of+r)).isSome
def yP (st:St) (ops:Array Oper) (o:Oper):Option Bool:=
  match o.guard with
  | none=>some true
  | some (j,want)=>match (ops[j]?).bind (·.dst) with
    | some t=>match st.get t with
      | .bool b=>some (b==want)
      | .aP []=>some false
      | _=>none
    | none=>some false
def vh (c:cB) (cl:FuncId→List D→Option (D × List D)) (ci:FuncId→List D→Nat→St→Option (D × St)) (aC:FuncId) (all:Array Oper):List Oper→St→Option St
  | [],st=>some st
  | o::rest,st=>match yP st all o with
    | some true=>if xm c aC st o then (match fj c cl ci aC st o with
      | some st'=>vh c cl ci aC all rest st'
      | none=>none) else none
    | some false=>vh c cl ci aC all rest (st.put o.dst (.aP []))
    | none=>none
def iu (c:cB) (cl:FuncId→List D→Option (D × List D)) (ci:FuncId→List D→Nat→St→Option (D × St)) (aC:FuncId) (all:Array Oper):List Nat→St→Option St
  | [],st=>some st
  | i::rest,st=>match all[i]? with
    | none=>iu c cl ci aC all rest st
    | some o=>match yP st all o with
      | some true=>if xm c aC st o then (match fj c cl ci aC st o with
        | some st'=>iu c cl ci aC all rest st'
        | none=>none) else none
      | some false=>iu c cl ci aC all rest (st.put o.dst (.aP []))
      | none=>none
def oU (c:cB) (o:Oper):Option Bool:=
  match o.op with
  | .move _ | .assign _ | .pick .. | .binOp .. | .unOp .. | .makeFunc .. | .slice .. | .fieldAddr .. | .indexAddr .. | .index .. | .extract .. | .build .. | .nilCheck _=>some true
  | .load ..=>some false
  | .convert _ d _=>(match c.ty d with
    | some ⟨.slice _,_,_,_⟩=>none
    | some _=>some false
    | none=>none)
  | .call cc=>(match cc.callee with
    | .builtin .len | .builtin .min | .builtin .max=>some true
    | _=>none)
  | _=>none
def tv (o:Oper):Bool:=
  match o.op with
  | .alloc _ | .box .. | .makeSlice .. | .buildSlice ..=>true
  | _=>false
def zT (c:cB) (o:Oper):Bool:=
  (oU c o).isSome||tv o||(match o.op with
    | .call cc=>(match cc.callee with
      | .value (.func f)=>!c.inl f&&!(c.own f).any id
      | _=>false)
    | _=>false)
def kbO (c:cB) (aC:FuncId) (r:Nat) (o:Oper):Bool:=zT c o||(CP c aC o).contains r
def waits (ops:Array Oper):Nat→Nat→Nat→Bool
  | 0,_,_=>false
  | n+1,j,i=>match ops[j]? with
    | some o=>o.after.toList.any fun e=>Region.binds .any e&&(e.on==i||waits ops n e.on i)
    | none=>false
def yQ (c:cB) (aC:FuncId) (oi:Oper) (b:Bool) (oj:Oper):Bool:=
  b||(match oi.op with
    | .load _ (.tmp x)=>(match c.base aC x with
      | some 0=>true
      | some (r+1)=>kbO c aC r oj
      | none=>zT c oj)
    | _=>zT c oj)
def Ni (c:cB) (aC:FuncId) (ops:Array Oper) (oi:Oper):Bool:=
  match oi.op with
  | .load _ (.tmp x)=>(match c.base aC x with
    | some (r+1)=>ops.toList.all fun o=>o.dst !=some r
    | _=>true)
  | _=>true
def NI (c:cB) (aC:FuncId) (ops:Array Oper) (bZ:Array Bool) (i:Nat):Bool:=
  match ops[i]? with
  | none=>false
  | some oi=>match oU c oi with
    | none=>false
    | some b=>Ni c aC ops oi&&(List.range ops.size).all fun j=>j==i||bZ.getD j true||waits ops ops.size j i||(match ops[j]? with
      | some oj=>oi.apart ops oj&&yQ c aC oi b oj
      | none=>true)
def Ky (c:cB) (o:Oper):Option (List D × Bool):=
  match o.op with
  | .alloc e=>(match c.ty e with
    | some i=>some (i.zero,true)
    | none=>none)
  | .makeSlice t (.const l) (.const cp)=>(match c.ty t with
    | some ⟨.slice e,_,_,_⟩=>(match c.ty e,CN c o.type l,CN c o.type cp with
      | some ei,.int _ l,.int _ cp=>if 0≤l∧l≤cp∧0 < ei.bytes∧cp*ei.bytes≤140737488355328 then some ([.sl none ei.size l.toNat (fF l.toNat ei.zero)],false) else none
      | _,_,_=>none)
    | _=>none)
  | .buildSlice t n ps=>(match c.ty t with
    | some ⟨.slice e,_,_,_⟩=>(match c.ty e with
      | some ei=>if n=0∧ps.size=0 then some ([.sl none ei.size 0 []],false) else none
      | none=>none)
    | _=>none)
  | _=>none
def eaO (c:cB) (o:Oper):Bool:=o.guard.isNone&&o.dst.isSome&&(Ky c o).isSome
def NJ (c:cB) (ops:Array Oper) (bZ:Array Bool) (rs:List Nat) (h:Nat):Bool:=
  match ops[h]? with
  | none=>false
  | some oh=>(List.range ops.size).all fun j=>j==h||bZ.getD j true||waits ops ops.size j h||(match ops[j]? with
    | some oj=>eaO c oj&&rs.contains j&&oj.apart ops oh&&(List.range ops.size).all fun k=>k==j||bZ.getD k true||(match ops[k]? with
      | some ok=>oj.apart ops ok||waits ops ops.size k j
      | none=>true)
    | none=>true)
def sX (c:cB) (aC:FuncId) (ops:Array Oper):Nat→Array Bool→Option (List Nat)
  | 0,bZ=>match Region.ready .any ops bZ with
    | []=>some []
    | _=>none
  | k+1,bZ=>match Region.ready .any ops bZ with
    | []=>some []
    | r::rs=>match (r::rs).find? (NI c aC ops bZ) with
      | some i=>(match sX c aC ops k (bZ.setIfInBounds i true) with
        | some l=>some (i::l)
        | none=>none)
      | none=>match (r::rs).find? (NJ c ops bZ (r::rs)) with
        | some h=>(match sX c aC ops k (bZ.setIfInBounds h true) with
          | some l=>some (h::l)
          | none=>none)
        | none=>none
def sd (B:List Nat) (st:St) (r:Nat):Nat→Nat→Option St
  | _,0=>some st
  | o,k+1=>
    match st.cell r [] o with
    | some (.ref r' q' o' x)=>if (!q'.isEmpty||B.contains r')=true then sd B st r (o+1) k else
      (match jf st (.ref r' q' o' x) with
       | some (d',aQ)=>match (aQ.eY (cz r [] o true)).im r [] o d' with
         | some cq=>sd B (cq.uH (.ref r' q' o' x) r [] o) r (o+1) k
         | none=>none
       | none=>none)
    | _=>sd B st r (o+1) k
def Kz (B:List Nat) (st:St) (r:Nat):Option St:=
  match lk st.rt r with
  | some cs=>sd B st r 0 cs.length
  | none=>some st
def SW (B:List Nat) (st:St) (t:Nat):Option St:=
  match st.get t with
  | .ref r [] o x=>if r=10000+st.of+t∨B.contains r=true then some st else
    match jf st (.ref r [] o x) with
    | some (d',aQ)=>
      let cq:=(aQ.eY (cF (10000+st.of+t))).uH (.ref r [] o x) (10000+st.of+t) [] 0
      some { cq with tm:=pz cq.tm t (.ref (10000+st.of+t) [] 0 none),rt:=pz cq.rt (10000+st.of+t) [d'] }
    | none=>none
  | _=>some st
def CQ (f:St→Nat→Option St):St→List Nat→Option St
  | st,[]=>some st
  | st,t::ts=>match f st t with
    | some st'=>CQ f st' ts
    | none=>none
def uI {α:Type} (l:List (Nat × α)):List Nat→List (Nat × α)
  | []=>[]
  | t::ts=>match lk l t with
    | some v=>(t,v)::uI l ts
    | none=>uI l ts
def below {α:Type} (k:Nat):List (Nat × α)→List (Nat × α)
  | []=>[]
  | (j,v)::t=>if (k≤j∧j < k+100000)∨((k+1)*100000≤j∧j < (k+100001)*100000) then below k t else (j,v)::below k t
def CR (L B:List Nat) (st:St):Option St:=
  let bs:=B.map (st.of+·)++L.filterMap fun t=>match st.get t with
    | .ptr r [] _=>some r
    | _=>none
  match CQ (Kz bs) st bs with
  | some aQ=>match CQ (SW bs) aQ L with
    | some cq=>some { cq with tm:=uI cq.tm L,rt:=below st.of cq.rt++uI cq.rt ((B++L.map (10000+·)).map (st.of+·)) }
    | none=>none
  | none=>none
def uJ (nm:St→Option St) (body:St→Option (Exit × St)):Nat→St→Option (Exit × St)
  | 0,_=>none
  | k+1,st=>match nm st with
    | some aQ=>match body aQ with
      | some (.normal,cq)=>uJ nm body k cq
      | r=>r
    | none=>none
def eV (c:cB) (cl:FuncId→List D→Option (D × List D)) (ci:FuncId→List D→Nat→St→Option (D × St)) (K:Nat) (aC:FuncId):Code→Nat→St→Option (Exit × St)
  | .skip,_,st=>some (.normal,st)
  | .region _ ops false,_,st=>match vh c cl ci aC ops ops.toList st with
    | some st'=>some (.normal,st')
    | none=>none
  | .region _ ops true,_,st=>match sX c aC ops ops.size (Array.replicate ops.size false) with
    | some l=>(match iu c cl ci aC ops l st with
      | some st'=>some (.normal,st')
      | none=>none)
    | none=>none
  | .seq a b,i,st=>match eV c cl ci K aC a i st with
    | some (.normal,st')=>eV c cl ci K aC b i st'
    | r=>r
  | .cond x a b,i,st=>match cw c st 0 x with
    | .bool t=>if t then eV c cl ci K aC a i st else eV c cl ci K aC b i st
    | _=>none
  | .block id a,_,st=>match eV c cl ci K aC a id st with
    | some (.exit vi,st')=>if vi=id then some (.normal,st') else some (.exit vi,st')
    | r=>r
  | .loop a,i,st=>uJ (match c.nm aC i with | some (L,B)=>CR L B | none=>some) (eV c cl ci K aC a i) K st
  | .exit id,_,st=>some (.exit id,st)
  | .ret,_,st=>some (.ret,st)
  | _,_,_=>none
def nQ (n:Nat):Nat→List D→St→St
  | _,[],st=>st
  | i,d::ds,st=>
    nQ n (i+1) ds (match d with
      | .bh cs=>{ st with tm:=pz st.tm i (.ptr (n+i) [] 0),rt:=pz st.rt (n+i) cs }
      | d=>if (dp d).any iR then { st with tm:=pz st.tm i (CM (n+i) d),rt:=pz st.rt (n+i) (dp d) } else { st with tm:=pz st.tm i d })
def xq (c:cB) (st:St):List ResultVar→Option (List D)
  | []=>some []
  | .tmp t::rs=>match xq c st rs with
    | some ds=>some (st.get t::ds)
    | none=>none
  | .cell a t::rs=>match c.ty t with
    | some i=>match qJ st (kq i.ty) i.size (st.get a) with
      | some d=>match xq c st rs with
        | some ds=>some (d::ds)
        | none=>none
      | none=>none
    | none=>none
def eR:D→Bool
  | .bh _=>true
  | d=>(dp d).any iR
def oK (st:St) (r:Nat) (d:D):Option D:=
  if eR d then
    match d with
    | .bh _=>some (.ptr r [] 0)
    | .agg _=>match lk st.rt r with
      | some cs=>some (.agg (lI r [] 0 cs))
      | none=>none
    | _=>match lk st.rt r with
      | some [d']=>some (gF r [] 0 d')
      | _=>none
  else none
def pM (n:Nat):Nat→List D→St→Option (List D)
  | _,[],_=>some []
  | i,d::ds,st=>
    match oK st (n+i) d with
    | none=>match pM n (i+1) ds st with
      | some os=>some (.undef::os)
      | none=>none
    | some v=>match DF st v with
      | some (o,st')=>match pM n (i+1) ds st' with
        | some os=>some (o::os)
        | none=>none
      | none=>none
def oL:List D→D
  | [d]=>d
  | ds=>.aP ds
def xO:Nat→List D→List (Nat × D)
  | _,[]=>[]
  | i,d::ds=>(i,d)::xO (i+1) ds
def vj:Exit→Bool
  | .normal | .ret=>true
  | _=>false
def vk (n k:Nat):Bool:=decide (k≤n)&&decide (n+k≤10000)
def SX:D→Bool
  | .aP _=>false
  | _=>true
def Nj (c:cB) (P:Program) (cl:FuncId→List D→Option (D × List D)) (ci:FuncId→List D→Nat→St→Option (D × St)) (K:Nat) (f:FuncId) (args:List D):Option (D × List D):=
  match c.ext f with
  | some e=>e args
  | none=>match P.funcs[f]? with
    | some fn=>match fn.body with
      | some body=>match eV c cl ci K f body 0 (nQ fn.ntmps 0 args ⟨[],[],[],0⟩) with
        | some (x,st)=>if vj x&&vk fn.ntmps args.length then (match xq c st fn.results.toList with
            | some ds=>match NF st ds with
              | some (ds',st')=>match pM fn.ntmps 0 args st' with
                | some os=>some (oL ds',os)
                | none=>none
              | none=>none
            | none=>none) else none
        | none=>none
      | none=>none
    | none=>none
def W9 (c:cB) (P:Program) (cl:FuncId→List D→Option (D × List D)) (ci:FuncId→List D→Nat→St→Option (D × St)) (K:Nat) (f:FuncId) (args:List D) (of:Nat) (st:St):Option (D × St):=
  match P.funcs[f]? with
  | some fn=>match fn.body with
    | some body=>match eV c cl ci K f body 0 ⟨xO 0 args,st.rt,st.tm::st.up,of⟩ with
      | some (x,aQ)=>if vj x&&vk fn.ntmps args.length then (match xq c aQ fn.results.toList,aQ.up with
          | some ds,tm::up=>if ds.all SX then some (oL ds,⟨tm,aQ.rt,up,st.of⟩) else none
          | _,_=>none) else none
      | none=>none
    | none=>none
  | none=>none
def forget:List Bool→List D→List D
  | true::b,.bh cs::os=>.bh cs::forget b os
  | true::b,_::os=>.undef::forget b os
  | false::b,o::os=>o::forget b os
  | _,os=>os
def UB (b:List Bool):Option (D × List D)→Option (D × List D)
  | some (r,os)=>some (r,forget b os)
  | none=>none
def yR (c:cB) (P:Program) (cl:FuncId→List D→Option (D × List D)) (ci:FuncId→List D→Nat→St→Option (D × St)) (K:Nat) (f:FuncId) (args:List D):Option (D × List D):=
  match c.ext f with
  | some e=>e args
  | none=>UB (c.gone f) (Nj c P cl ci K f args)
def nR (c:cB) (P:Program):Nat→(FuncId→List D→Option (D × List D)) × (FuncId→List D→Nat→St→Option (D × St))
  | 0=>(fun _ _=>none,fun _ _ _ _=>none)
  | k+1=>(yR c P (nR c P k).1 (nR c P k).2 k,W9 c P (nR c P k).1 (nR c P k).2 k)
def SY (c:cB) (P:Program) (k:Nat):FuncId→List D→Option (D × List D):=(nR c P k).1
end Go.Proofs.YtockoilcnmljiaaGreat
namespace Go.Proofs.YtockoilcnmljiaaGreat
inductive T where
  | v (d:D) (u:Value)
  | own (s n cap:Nat) (a:Option (Nat × Nat)) (cs:List T)
  deriving Inhabited
def bQ:D→D
  | .sl none _ _ _=>.undef
  | d=>d
def wE (a:Option (Nat × Nat)) (n cap:Nat):Value:=.slice (a.map fun p=>⟨p.1,p.2,none⟩) n cap
def T.val:T→Value
  | .v _ u=>u
  | .own _ n cap a _=>wE a n cap
mutual
def T.er:T→D
  | .v d _=>bQ d
  | .own s n _ _ cs=>.sl none s n (bw cs)
def bw:List T→List D
  | []=>[]
  | t::ts=>t.er::bw ts
end
def jg:Option (Nat × Nat)→List Nat
  | some (b,_)=>[b]
  | none=>[]
mutual
def T.ft:T→List Nat
  | .v _ _=>[]
  | .own _ _ _ a cs=>jg a++ai cs
def ai:List T→List Nat
  | []=>[]
  | t::ts=>t.ft++ai ts
end
def aD:List T→List Value
  | []=>[]
  | t::ts=>t.val::aD ts
theorem eL (ts:List T):bw ts=ts.map T.er:=by
  induction ts with
  | nil=>rfl
  | cons t ts ih=>simp [bw,ih]
theorem cW (ts:List T):aD ts=ts.map T.val:=by
  induction ts with
  | nil=>rfl
  | cons t ts ih=>simp [aD,ih]
theorem nT (ts:List T):ai ts=(ts.map T.ft).flatten:=by
  induction ts with
  | nil=>rfl
  | cons t ts ih=>simp [ai,ih]
theorem iv (ts:List T) (o:Nat):(bw ts)[o]?=(ts[o]?).map T.er:=by simp [eL]
theorem fq (ts:List T):(bw ts).length=ts.length:=by simp [eL]
theorem vl (a b:List T):bw (a++b)=bw a++bw b:=by simp [eL]
theorem NK (ts:List T) (o:Nat) (t:T):(bw ts).set o t.er=bw (ts.set o t):=by
  simp [eL,List.map_set]
theorem fk (ts:List T) (o:Nat):(aD ts)[o]?=(ts[o]?).map T.val:=by simp [cW]
theorem bS (ts:List T):(aD ts).length=ts.length:=by simp [cW]
theorem qh (ts:List T) (o:Nat) (t:T):aD (ts.set o t)=(aD ts).set o t.val:=by simp [cW,List.map_set]
theorem AF (a b:List T):aD (a++b)=aD a++aD b:=by simp [cW]
theorem bj (a b:List T):ai (a++b)=ai a++ai b:=by simp [nT]
theorem AG (ts:List T) (k:Nat):(bw ts).drop k=bw (ts.drop k):=by simp [eL,List.map_drop]
theorem AH (ts:List T) (k:Nat):(bw ts).take k=bw (ts.take k):=by simp [eL,List.map_take]
theorem F1 {t:T} {s n:Nat} {cs:List D} (h:t.er=.sl none s n cs):∃ cap a ts,t=.own s n cap a ts∧cs=bw ts:=by
  cases t with
  | v d u=>
    simp only [T.er] at h
    cases d<;>simp only [bQ] at h<;>try cases h
    rename_i g _ _ _
    cases g<;>simp at h
  | own s' n' cap a ts=>
    simp only [T.er,D.sl.injEq] at h
    obtain ⟨_,rfl,rfl,rfl⟩:=h
    exact ⟨cap,a,ts,rfl,rfl⟩
def aw:List T→List Nat→Option (List T)
  | cs,[]=>some cs
  | cs,o::q=>match cs[o]? with
    | some (.own _ _ _ _ xs)=>aw xs q
    | _=>none
def dL (f:List T→List T):List T→List Nat→Option (List T)
  | cs,[]=>some (f cs)
  | cs,o::q=>match cs[o]? with
    | some (.own s n cap a xs)=>match dL f xs q with
      | some kz=>some (cs.set o (.own s n cap a kz))
      | none=>none
    | _=>none
def cb (b:Option Nat):List T→List Nat→Option (Nat × Nat)
  | _,[]=>b.map fun k=>(k,0)
  | cs,o::q=>match cs[o]? with
    | some (.own _ _ _ a xs)=>(match q with | []=>a | _=>cb none xs q)
    | _=>none
theorem NL (q:List Nat):∀ cs:List T,lX (bw cs) q=(aw cs q).map bw:=by
  induction q with
  | nil=>intro cs; rfl
  | cons o q ih=>
    intro cs
    simp only [lX,aw,iv]
    cases h:cs[o]? with
    | none=>simp
    | some t=>
      cases t with
      | v d u=>
        cases d<;>simp [T.er,bQ]
        rename_i g _ _ _
        cases g<;>simp
      | own s n cap a xs=>simp [T.er,ih]
theorem acv (q:List Nat) (o:Nat) (t:T):∀ cs:List T,pK (fun l=>l.set o t.er) (bw cs) q=(dL (fun l=>l.set o t) cs q).map bw:=by
  induction q with
  | nil=>intro cs; simp [pK,dL,NK]
  | cons p q ih=>
    intro cs
    simp only [pK,dL,iv]
    cases h:cs[p]? with
    | none=>simp
    | some x=>
      cases x with
      | v d u=>
        cases d<;>simp [T.er,bQ]
        rename_i g _ _ _
        cases g<;>simp
      | own s n cap a xs=>
        simp only [Option.map_some,T.er,ih]
        cases hm:dL (fun l=>l.set o t) xs q with
        | none=>simp
        | some kz=>
          simp only [Option.map_some]
          rw [← NK]; simp [T.er]
theorem NM {q:List Nat} {f:List T→List T}:∀ {cs l:List T},aw cs q=some l→∃ cs',dL f cs q=some cs':=by
  induction q with
  | nil=>intro cs l _; exact ⟨_,rfl⟩
  | cons p q ih=>
    intro cs l h
    simp only [aw] at h
    simp only [dL]
    cases hp:cs[p]? with
    | none=>simp [hp] at h
    | some x=>
      cases x with
      | v d u=>simp [hp] at h
      | own s n cap a xs=>
        simp only [hp] at h
        obtain ⟨kz,hx⟩:=ih h
        exact ⟨cs.set p (.own s n cap a kz),by simp [hx]⟩
theorem nU {q:List Nat} {f:List T→List T}:∀ {cs cs':List T},dL f cs q=some cs'→∃ l,aw cs q=some l∧aw cs' q=some (f l):=by
  induction q with
  | nil=>
    intro cs cs' h
    simp only [dL,Option.some.injEq] at h
    exact ⟨cs,rfl,by rw [← h]; rfl⟩
  | cons p q ih=>
    intro cs cs' h
    simp only [dL] at h
    cases hp:cs[p]? with
    | none=>simp [hp] at h
    | some x=>
      cases x with
      | v d u=>simp [hp] at h
      | own s n cap a xs=>
        simp only [hp] at h
        cases hm:dL f xs q with
        | none=>simp [hm] at h
        | some kz=>
          simp only [hm,Option.some.injEq] at h
          obtain ⟨l,h1,h2⟩:=ih hm
          refine ⟨l,by simp [aw,hp,h1],?_⟩
          have hl:p < cs.length:=(List.getElem?_eq_some_iff.1 hp).1
          rw [← h]
          simp [aw,hl,h2]
theorem mF {p:Nat} {q:List Nat} {f:List T→List T} {cs cs':List T} (h:dL f cs (p::q)=some cs'):aD cs'=aD cs∧cs'.length=cs.length:=by
  simp only [dL] at h
  cases hp:cs[p]? with
  | none=>simp [hp] at h
  | some x=>
    cases x with
    | v d u=>simp [hp] at h
    | own s n cap a xs=>
      simp only [hp] at h
      cases hm:dL f xs q with
      | none=>simp [hm] at h
      | some kz=>
        simp only [hm,Option.some.injEq] at h
        subst h
        obtain ⟨hl,hx⟩:=List.getElem?_eq_some_iff.1 hp
        refine ⟨?_,by simp⟩
        rw [qh]
        apply List.ext_getElem?
        intro j
        by_cases hj:p=j
        · subst hj
          rw [List.getElem?_set_self (by rw [bS]; exact hl),fk,hp]; rfl
        · simp [hj]
theorem dR (cs:List T) (o:Nat) (t:T) (h:cs[o]?=some t):∃ A B,ai cs=A++t.ft++B∧∀ t':T,ai (cs.set o t')=A++t'.ft++B:=by
  induction cs generalizing o with
  | nil=>simp at h
  | cons x xs ih=>
    cases o with
    | zero=>
      simp only [List.getElem?_cons_zero,Option.some.injEq] at h
      subst h
      exact ⟨[],ai xs,by simp [ai],fun t'=>by simp [ai]⟩
    | succ o=>
      simp only [List.getElem?_cons_succ] at h
      obtain ⟨A,B,h1,h2⟩:=ih o h
      exact ⟨x.ft++A,B,by simp [ai,h1],fun t'=>by simp [ai,h2]⟩
theorem F2 {q:List Nat}:∀ {cs l:List T},aw cs q=some l→∃ A B,ai cs=A++ai l++B∧∀ f cs',dL f cs q=some cs'→ai cs'=A++ai (f l)++B:=by
  induction q with
  | nil=>
    intro cs l h
    simp only [aw,Option.some.injEq] at h
    subst h
    refine ⟨[],[],by simp,fun f cs' h=>?_⟩
    simp only [dL,Option.some.injEq] at h
    simp [← h]
  | cons p q ih=>
    intro cs l h
    simp only [aw] at h
    cases hp:cs[p]? with
    | none=>simp [hp] at h
    | some x=>
      cases x with
      | v d u=>simp [hp] at h
      | own s n cap a xs=>
        simp only [hp] at h
        obtain ⟨A,B,h1,h2⟩:=ih h
        obtain ⟨A',B',h3,h4⟩:=dR cs p _ hp
        refine ⟨A'++jg a++A,B++B',by rw [h3]; simp [T.ft,h1],fun f cs' hm=>?_⟩
        simp only [dL,hp] at hm
        cases hx:dL f xs q with
        | none=>simp [hx] at hm
        | some kz=>
          simp only [hx,Option.some.injEq] at hm
          rw [← hm,h4]
          simp [T.ft,h2 f kz hx]
theorem SZ {q:List Nat} {o:Nat} {cs l:List T} {t:T} (h:aw cs q=some l) (ht:l[o]?=some t):
    ∃ A B,ai cs=A++t.ft++B∧∀ t' cs',dL (fun l=>l.set o t') cs q=some cs'→ai cs'=A++t'.ft++B:=by
  obtain ⟨A,B,h1,h2⟩:=F2 h
  obtain ⟨A',B',h3,h4⟩:=dR l o t ht
  refine ⟨A++A',B'++B,by rw [h1,h3]; simp,fun t' cs' hm=>?_⟩
  rw [h2 _ _ hm,h4]; simp
structure RT where
  box:Option Nat
  cs:List T
def RT.ft (r:RT):List Nat:=r.box.toList++ai r.cs
def cL:List (Nat × RT)→List Nat
  | []=>[]
  | (_,r)::t=>r.ft++cL t
theorem cH {α:Type} (l:List (Nat × α)) (k:Nat) (v:α):lk (pt l k v) k=some v:=by
  induction l with
  | nil=>simp [pt,lk]
  | cons e t ih=>
    obtain ⟨j,u⟩:=e
    simp only [pt]
    split
    · simp [lk]
    · rename_i h; simp [lk,h,ih]
theorem dJ {α:Type} (l:List (Nat × α)) {k j:Nat} (v:α) (h:j≠k):lk (pt l k v) j=lk l j:=by
  induction l with
  | nil=>simp [pt,lk,Ne.symm h]
  | cons e t ih=>
    obtain ⟨i,u⟩:=e
    simp only [pt]
    split
    · rename_i hi; subst hi; simp [lk,Ne.symm h]
    · simp only [lk]; split<;>simp [ih]
theorem kB {α:Type} (l:List (Nat × α)) (k:Nat) (v:α):lk (pz l k v) k=some v:=by
  induction l with
  | nil=>simp [pz,lk]
  | cons e t ih=>
    obtain ⟨j,u⟩:=e
    simp only [pz]
    split
    · rename_i h; simp [lk,Nat.ne_of_lt h,ih]
    · split<;>simp [lk]
theorem se {α:Type} (l:List (Nat × α)) {k j:Nat} (v:α) (h:j≠k):lk (pz l k v) j=lk l j:=by
  induction l with
  | nil=>simp [pz,lk,Ne.symm h]
  | cons e t ih=>
    obtain ⟨i,u⟩:=e
    simp only [pz]
    split
    · simp only [lk]; split<;>simp [ih]
    · split
      · rename_i hi; subst hi; simp [lk,Ne.symm h]
      · simp [lk,Ne.symm h]
def hI (l:List (Nat × List D)) (S:List (Nat × RT)):Prop:=∀ k,lk l k=(lk S k).map fun r=>bw r.cs
theorem CS {l:List (Nat × List D)} {S:List (Nat × RT)} (h:hI l S) (k:Nat) (r:RT):hI (pz l k (bw r.cs)) (pt S k r):=by
  intro j
  by_cases hj:j=k
  · subst hj; rw [kB,cH]; rfl
  · rw [se _ _ hj,dJ _ _ hj]; exact h j
theorem lY {S:List (Nat × RT)} {k:Nat} {r:RT} (h:lk S k=some r):∃ A B,cL S=A++r.ft++B∧∀ r',cL (pt S k r')=A++r'.ft++B:=by
  induction S with
  | nil=>simp [lk] at h
  | cons e t ih=>
    obtain ⟨j,u⟩:=e
    simp only [lk] at h
    by_cases hj:j=k
    · simp only [hj,if_true,Option.some.injEq] at h
      subst h
      exact ⟨[],cL t,by simp [cL],fun r'=>by simp [pt,hj,cL]⟩
    · simp only [hj,if_false] at h
      obtain ⟨A,B,h1,h2⟩:=ih h
      exact ⟨u.ft++A,B,by simp [cL,h1],fun r'=>by simp [pt,hj,cL,h2]⟩
theorem S5 {S:List (Nat × RT)} {k:Nat} (h:lk S k=none) (r:RT):cL (pt S k r)=cL S++r.ft:=by
  induction S with
  | nil=>simp [pt,cL]
  | cons e t ih=>
    obtain ⟨j,u⟩:=e
    simp only [lk] at h
    by_cases hj:j=k
    · simp [hj] at h
    · simp only [hj,if_false] at h
      simp [pt,hj,cL,ih h]
end Go.Proofs.YtockoilcnmljiaaGreat
namespace Go.Proofs.YtockoilcnmljiaaGreat
def Unf (fz:Nat × Nat) (n:Nat):Prop:=∀ o,o < n→¬ (fz.1≤o∧o < fz.2)
def lF (w:World) (b off fm:Nat) (us:List Value):Prop:=
  ∃ c e fz,w.heap[b]?=some (.cells c e fz)∧Unf fz c.size∧off+fm≤c.size∧∀ j u,us[j]?=some u→c[off+j]?=some u
mutual
def Ext (w:World) (X:Bool→Nat→Prop):D→Value→Prop
  | .int k n,u=>u=.int k n
  | .bool b,u=>u=.bool b
  | .str s,u=>u=.string s
  | .nil _,u=>u=.slice none 0 0
  | .undef,_=>True
  | .hole _ _,_=>True
  | .sl (some g) s n cs,u=>∃ base cap us,u=.slice base n cap∧n≤cap∧cs.length=n*s∧gd w X cs us∧
      (cs=[]∨∃ k off c e fz,base=some ⟨k,off,none⟩∧X g k∧w.heap[k]?=some (.cells c e fz)∧∀ j v,us[j]?=some v→c[off+j]?=some v)
  | _,_=>False
def gd (w:World) (X:Bool→Nat→Prop):List D→List Value→Prop
  | [],us=>us=[]
  | d::ds,us=>∃ v vs,us=v::vs∧Ext w X d v∧gd w X ds vs
end
mutual
def bL (w:World) (X:Bool→Nat→Prop):T→Prop
  | .v d u=>Ext w X (bQ d) u
  | .own s n cap a cs=>n≤cap∧cs.length=n*s∧(match a with | none=>n=0∧cap=0 | some (b,off)=>lF w b off (cap*s) (aD cs))∧bM w X cs
def bM (w:World) (X:Bool→Nat→Prop):List T→Prop
  | []=>True
  | t::ts=>bL w X t∧bM w X ts
end
section
variable {w w':World} {X X':Bool→Nat→Prop}
mutual
theorem gv (h:∀ b k,X b k→X' b k∧w'.heap[k]?=w.heap[k]?):∀ (d:D) (u:Value),Ext w X d u→Ext w' X' d u
  | .int _ _,_,hu=>hu
  | .bool _,_,hu=>hu
  | .str _,_,hu=>hu
  | .nil _,_,hu=>hu
  | .undef,_,_=>trivial
  | .hole _ _,_,_=>trivial
  | .sl (some g) s n cs,u,hu=>by
    simp only [Ext] at hu ⊢
    obtain ⟨base,cap,us,h1,ph,h2,h3,h4⟩:=hu
    refine ⟨base,cap,us,h1,ph,h2,tw h cs us h3,?_⟩
    rcases h4 with h4 | ⟨k,off,c,e,fz,h5,h6,h7,h8⟩
    · exact .inl h4
    · exact .inr ⟨k,off,c,e,fz,h5,(h g k h6).1,by rw [(h g k h6).2]; exact h7,h8⟩
  | .sl none _ _ _,_,hu=>by simp [Ext] at hu
  | .ref ..,_,hu=>by simp [Ext] at hu
  | .agg _,_,hu=>by simp [Ext] at hu
  | .aP _,_,hu=>by simp [Ext] at hu
  | .fn ..,_,hu=>by simp [Ext] at hu
  | .ptr ..,_,hu=>by simp [Ext] at hu
  | .cJ ..,_,hu=>by simp [Ext] at hu
  | .bh _,_,hu=>by simp [Ext] at hu
theorem tw (h:∀ b k,X b k→X' b k∧w'.heap[k]?=w.heap[k]?):∀ (ds:List D) (us:List Value),gd w X ds us→gd w' X' ds us
  | [],_,hu=>hu
  | d::ds,us,hu=>by
    simp only [gd] at hu ⊢
    obtain ⟨v,vs,h1,h2,h3⟩:=hu
    exact ⟨v,vs,h1,gv h d v h2,tw h ds vs h3⟩
end
mutual
theorem dO (h:∀ b k,X b k→X' b k∧w'.heap[k]?=w.heap[k]?):∀ (t:T),bL w X t→(∀ k∈t.ft,w'.heap[k]?=w.heap[k]?)→bL w' X' t
  | .v d u,hs,_=>by simp only [bL] at hs ⊢; exact gv h _ _ hs
  | .own s n cap a cs,hs,hf=>by
    simp only [bL] at hs ⊢
    obtain ⟨h1,h2,h3,h4⟩:=hs
    refine ⟨h1,h2,?_,gy h cs h4 (fun k hk=>hf k (by simp [T.ft,hk]))⟩
    cases a with
    | none=>exact h3
    | some p=>
      obtain ⟨b,off⟩:=p
      obtain ⟨c,e,fz,hb,hr⟩:=h3
      exact ⟨c,e,fz,by rw [hf b (by simp [T.ft,jg])]; exact hb,hr⟩
theorem gy (h:∀ b k,X b k→X' b k∧w'.heap[k]?=w.heap[k]?):∀ (ts:List T),bM w X ts→(∀ k∈ai ts,w'.heap[k]?=w.heap[k]?)→bM w' X' ts
  | [],_,_=>by simp [bM]
  | t::ts,hs,hf=>by
    simp only [bM] at hs ⊢
    exact ⟨dO h t hs.1 (fun k hk=>hf k (by simp [ai,hk])),gy h ts hs.2 (fun k hk=>hf k (by simp [ai,hk]))⟩
end
end
theorem cr {w:World} {X:Bool→Nat→Prop} (ts:List T):bM w X ts↔∀ t∈ts,bL w X t:=by
  induction ts with
  | nil=>simp [bM]
  | cons t ts ih=>simp [bM,ih]
theorem fP {w:World} {X:Bool→Nat→Prop} {ts:List T} (h:bM w X ts) {o:Nat} {t:T} (ho:ts[o]?=some t):bL w X t:=
  (cr ts).1 h t (List.mem_of_getElem? ho)
theorem NN {w:World} {X:Bool→Nat→Prop} {ts:List T} (h:bM w X ts) (o:Nat) {t:T} (ht:bL w X t):bM w X (ts.set o t):=by
  rw [cr] at h ⊢
  intro x hx
  rcases List.mem_or_eq_of_mem_set hx with hx | rfl
  · exact h x hx
  · exact ht
theorem dP {w:World} {X:Bool→Nat→Prop} (a b:List T):bM w X (a++b)↔bM w X a∧bM w X b:=by
  rw [cr,cr,cr]
  simp only [List.mem_append]
  exact ⟨fun h=>⟨fun t ht=>h t (.inl ht),fun t ht=>h t (.inr ht)⟩,fun h t ht=>ht.elim (h.1 t) (h.2 t)⟩
theorem wF {w:World} {X:Bool→Nat→Prop} {q:List Nat}:∀ {cs l:List T},bM w X cs→aw cs q=some l→bM w X l:=by
  induction q with
  | nil=>
    intro cs l h hc
    simp only [aw,Option.some.injEq] at hc
    exact hc▸h
  | cons p q ih=>
    intro cs l h hc
    simp only [aw] at hc
    cases hp:cs[p]? with
    | none=>simp [hp] at hc
    | some x=>
      cases x with
      | v d u=>simp [hp] at hc
      | own s n cap a xs=>
        simp only [hp] at hc
        have:=fP h hp
        simp only [bL] at this
        exact ih this.2.2.2 hc
theorem aaN {w:World} {X:Bool→Nat→Prop} {o:Nat} {t t':T} (ht:bL w X t') (hv:t'.val=t.val) {q:List Nat}:∀ {cs cs' l:List T},bM w X cs→aw cs q=some l→l[o]?=some t→
    dL (fun l=>l.set o t') cs q=some cs'→bM w X cs'∧aD cs'=aD cs:=by
  induction q with
  | nil=>
    intro cs cs' l h hc ho hm
    simp only [aw,Option.some.injEq] at hc
    simp only [dL,Option.some.injEq] at hm
    subst hc; subst hm
    refine ⟨NN h o ht,?_⟩
    rw [qh,hv]
    apply List.ext_getElem?
    intro j
    by_cases hj:o=j
    · subst hj
      obtain ⟨hl,_⟩:=List.getElem?_eq_some_iff.1 ho
      rw [List.getElem?_set_self (by rw [bS]; exact hl),fk,ho]; rfl
    · rw [List.getElem?_set_ne hj]
  | cons p q ih=>
    intro cs cs' l h hc ho hm
    refine ⟨?_,(mF hm).1⟩
    simp only [aw] at hc
    simp only [dL] at hm
    cases hp:cs[p]? with
    | none=>simp [hp] at hc
    | some x=>
      cases x with
      | v d u=>simp [hp] at hc
      | own s n cap a xs=>
        simp only [hp] at hc hm
        cases hx:dL (fun l=>l.set o t') xs q with
        | none=>simp [hx] at hm
        | some kz=>
          simp only [hx,Option.some.injEq] at hm
          have hs:=fP h hp
          simp only [bL] at hs
          obtain ⟨h1,h2,h3,h4⟩:=hs
          obtain ⟨h5,h6⟩:=ih h4 hc ho hx
          have hl:kz.length=xs.length:=by have:=congrArg List.length h6; simpa [bS] using this
          rw [← hm]
          refine NN h p ?_
          simp only [bL]
          exact ⟨h1,by rw [hl]; exact h2,by rw [h6]; exact h3,h5⟩
def RH (w w':World) (b i:Nat) (u:Value):Prop:=
  ∃ c e fz,w.heap[b]?=some (.cells c e fz)∧w'.heap[b]?=some (.cells (c.setIfInBounds i u) e fz)∧∀ k,k≠b→w'.heap[k]?=w.heap[k]?
theorem RI {w w':World} {b i:Nat} {u:Value} (hu:RH w w' b i u) {off fm o:Nat} {us:List Value} (hi:i=off+o) (hb:lF w b off fm us) (Xa:us.length≤fm):lF w' b off fm (us.set o u):=by
  obtain ⟨c,e,fz,h1,h2,h3⟩:=hu
  obtain ⟨c',e',fz',h4,h5,h6,h7⟩:=hb
  rw [h4] at h1
  simp only [Option.some.injEq,Obj.cells.injEq] at h1
  obtain ⟨rfl,rfl,rfl⟩:=h1
  refine ⟨_,e',fz',h2,by simpa using h5,by simpa using h6,fun j v hj=>?_⟩
  subst hi
  by_cases KA:o=j
  · subst KA
    by_cases hl:o < us.length
    · rw [List.getElem?_set_self hl] at hj
      have cX:off+o < c'.size:=by omega
      rw [Array.getElem?_setIfInBounds_self_of_lt cX]; exact hj
    · rw [List.getElem?_eq_none (by simpa using hl)] at hj
      simp at hj
  · rw [List.getElem?_set_ne KA] at hj
    rw [Array.getElem?_setIfInBounds_ne (by omega)]
    exact h7 j v hj
theorem IH {w w':World} {b k i:Nat} {u:Value} (hu:RH w w' b i u) (hk:k≠b) {off fm:Nat} {us:List Value} (hb:lF w k off fm us):lF w' k off fm us:=by
  obtain ⟨c,e,fz,h1,h2⟩:=hb
  obtain ⟨_,_,_,_,_,h3⟩:=hu
  exact ⟨c,e,fz,by rw [h3 k hk]; exact h1,h2⟩
theorem sj {q:List Nat}:∀ {cs:List T} {bx:Option Nat} {p b off:Nat},cb bx cs (p::q)=some (b,off)→b∈ai cs:=by
  induction q with
  | nil=>
    intro cs bx p b off h
    simp only [cb] at h
    cases hp:cs[p]? with
    | none=>simp [hp] at h
    | some x=>
      cases x with
      | v d u=>simp [hp] at h
      | own s n cap a xs=>
        simp only [hp] at h
        obtain ⟨A,B,h1,_⟩:=dR cs p _ hp
        rw [h1,T.ft,h]; simp [jg]
  | cons p' q ih=>
    intro cs bx p b off h
    rw [cb] at h
    cases hp:cs[p]? with
    | none=>simp [hp] at h
    | some x=>
      cases x with
      | v d u=>simp [hp] at h
      | own s n cap a xs=>
        simp only [hp] at h
        obtain ⟨A,B,h1,_⟩:=dR cs p _ hp
        have:=ih h
        rw [h1,T.ft]; simp [this]
theorem aaO {w w':World} {X X':Bool→Nat→Prop} {o b off:Nat} {t':T} (hX:∀ b k,X b k→X' b k∧w'.heap[k]?=w.heap[k]?) (ht:bL w' X' t') (hu:RH w w' b (off+o) t'.val) {q:List Nat}:
    ∀ {cs cs' l:List T} {bx:Option Nat} {p:Nat},bM w X cs→(ai cs).Nodup→aw cs (p::q)=some l→cb bx cs (p::q)=some (b,off)→o < l.length→
    dL (fun l=>l.set o t') cs (p::q)=some cs'→bM w' X' cs':=by
  have Ek:∀ t:T,bL w X t→b∉t.ft→bL w' X' t:=fun t h hb=>dO hX t h (fun k hk=>by
    obtain ⟨_,_,_,_,_,h3⟩:=hu
    exact h3 k (fun e=>hb (e▸hk)))
  induction q with
  | nil=>
    intro cs cs' l bx p h hn hc ha ho hm
    simp only [aw,dL,cb] at hc hm ha
    cases hp:cs[p]? with
    | none=>simp [hp] at hc
    | some x=>
      cases x with
      | v d u=>simp [hp] at hc
      | own s n cap a xs=>
        simp only [hp,Option.some.injEq] at hc hm ha
        subst hc; subst ha; subst hm
        obtain ⟨A,B,h1,h2⟩:=dR cs p _ hp
        rw [h1] at hn
        have hs:=fP h hp
        simp only [bL] at hs
        obtain ⟨h3,h4,h5,h6⟩:=hs
        have NO:(T.own s n cap (some (b,off)) xs).ft.Nodup:=((List.nodup_append.1 (List.nodup_append.1 hn).1).2.1)
        simp only [T.ft,jg,List.cons_append,List.nil_append,List.nodup_cons] at NO
        rw [cr]
        intro t dn
        obtain ⟨j,hj⟩:=List.mem_iff_getElem?.1 dn
        by_cases uq:p=j
        · subst uq
          rw [List.getElem?_set_self (List.getElem?_eq_some_iff.1 hp).1,Option.some.injEq] at hj
          subst hj
          simp only [bL]
          refine ⟨h3,by simpa using h4,?_,?_⟩
          · rw [qh]
            exact RI hu rfl h5 (by rw [bS,h4]; exact Nat.mul_le_mul_right _ h3)
          · rw [cr]
            intro y hy
            obtain ⟨i,hi⟩:=List.mem_iff_getElem?.1 hy
            by_cases hio:o=i
            · subst hio
              rw [List.getElem?_set_self ho,Option.some.injEq] at hi
              exact hi▸ht
            · rw [List.getElem?_set_ne hio] at hi
              refine Ek y (fP h6 hi) (fun hb=>NO.1 ?_)
              obtain ⟨A',B',e1,_⟩:=dR xs i _ hi
              rw [e1]; simp [hb]
        · rw [List.getElem?_set_ne uq] at hj
          refine Ek t (fP h hj) (fun hb=>?_)
          have:b∈(T.own s n cap (some (b,off)) xs).ft:=by simp [T.ft,jg]
          rcases Nat.lt_or_gt_of_ne uq with cX | cX
          · have h7:=h2 (.v .undef undef)
            have F3:(cs.set p (.v .undef undef))[j]?=some t:=by rw [List.getElem?_set_ne uq]; exact hj
            obtain ⟨A',B',e1,_⟩:=dR _ j t F3
            have fX:b∈ai (cs.set p (.v .undef undef)):=by rw [e1]; simp [hb]
            rw [h7] at fX
            simp only [T.ft,List.append_nil,List.mem_append] at fX
            rw [List.nodup_append,List.nodup_append] at hn
            rcases fX with fX | fX
            · exact hn.1.2.2 b fX b this rfl
            · exact hn.2.2 b (List.mem_append.2 (.inr this)) b fX rfl
          · have h7:=h2 (.v .undef undef)
            have F3:(cs.set p (.v .undef undef))[j]?=some t:=by rw [List.getElem?_set_ne uq]; exact hj
            obtain ⟨A',B',e1,_⟩:=dR _ j t F3
            have fX:b∈ai (cs.set p (.v .undef undef)):=by rw [e1]; simp [hb]
            rw [h7] at fX
            simp only [T.ft,List.append_nil,List.mem_append] at fX
            rw [List.nodup_append,List.nodup_append] at hn
            rcases fX with fX | fX
            · exact hn.1.2.2 b fX b this rfl
            · exact hn.2.2 b (List.mem_append.2 (.inr this)) b fX rfl
  | cons p' q ih=>
    intro cs cs' l bx p h hn hc ha ho hm
    rw [aw] at hc
    rw [dL] at hm
    rw [cb] at ha
    cases hp:cs[p]? with
    | none=>simp [hp] at hc
    | some x=>
      cases x with
      | v d u=>simp [hp] at hc
      | own s n cap a xs=>
        simp only [hp] at hc hm ha
        cases hx:dL (fun l=>l.set o t') xs (p'::q) with
        | none=>simp [hx] at hm
        | some kz=>
          simp only [hx,Option.some.injEq] at hm
          subst hm
          obtain ⟨A,B,h1,h2⟩:=dR cs p _ hp
          rw [h1] at hn
          have hs:=fP h hp
          simp only [bL] at hs
          obtain ⟨h3,h4,h5,h6⟩:=hs
          have NO:(T.own s n cap a xs).ft.Nodup:=((List.nodup_append.1 (List.nodup_append.1 hn).1).2.1)
          have hb:=sj ha
          have Zu:b∈(T.own s n cap a xs).ft:=by simp [T.ft,hb]
          simp only [T.ft] at NO
          have hnx:=(List.nodup_append.1 NO).2.1
          obtain ⟨hv,hl⟩:=mF hx
          have hsx:=ih h6 hnx hc ha ho hx
          rw [cr]
          intro t dn
          obtain ⟨j,hj⟩:=List.mem_iff_getElem?.1 dn
          by_cases uq:p=j
          · subst uq
            rw [List.getElem?_set_self (List.getElem?_eq_some_iff.1 hp).1,Option.some.injEq] at hj
            subst hj
            simp only [bL]
            refine ⟨h3,by rw [hl]; exact h4,?_,hsx⟩
            cases a with
            | none=>exact h5
            | some pa=>
              obtain ⟨b1,an9⟩:=pa
              rw [hv]
              refine IH hu (fun e=>?_) h5
              exact (List.nodup_append.1 NO).2.2 b1 (by simp [jg]) b hb e
          · rw [List.getElem?_set_ne uq] at hj
            refine Ek t (fP h hj) (fun AI=>?_)
            have h7:=h2 (.v .undef undef)
            have F3:(cs.set p (.v .undef undef))[j]?=some t:=by rw [List.getElem?_set_ne uq]; exact hj
            obtain ⟨A',B',e1,_⟩:=dR _ j t F3
            have fX:b∈ai (cs.set p (.v .undef undef)):=by rw [e1]; simp [AI]
            rw [h7] at fX
            simp only [T.ft,List.append_nil,List.mem_append] at fX
            rw [List.nodup_append,List.nodup_append] at hn
            rcases fX with fX | fX
            · exact hn.1.2.2 b fX b Zu rfl
            · exact hn.2.2 b (List.mem_append.2 (.inr Zu)) b fX rfl
end Go.Proofs.YtockoilcnmljiaaGreat
namespace Go.Proofs.YtockoilcnmljiaaGreat
inductive cj {α β:Type} (R:α→β→Prop):List α→List β→Prop
  | nil:cj R [] []
  | cons {a b as9 bs}:R a b→cj R as9 bs→cj R (a::as9) (b::bs)
def cA (S:List (Nat × RT)) (r:Nat) (q:List Nat) (o:Nat):Option T:=
  match lk S r with
  | some R=>match aw R.cs q with
    | some l=>l[o]?
    | none=>none
  | none=>none
def eS (x:Option (Nat × Nat)) (t:T) (u:Value):Prop:=
  match sn t.er with
  | some (s,n)=>match x with
    | none=>u=t.val
    | some (l,m)=>l+m≤n∧∃ base C k,t.val=.slice base n C∧k≤C∧u=.slice (base.map (·.add (k*s))) m (C - l)∧(C - l=0∨k=l)
  | none=>True
def bB (w:World) (X:Bool→Nat→Prop) (S:List (Nat × RT)):D→Value→Prop
  | .ref r q o x,u=>∀ t,cA S r q o=some t→eS x t u
  | .ptr r q o,u=>∀ R,lk S r=some R→(q=[]→R.box.isSome)∧∀ b off,cb R.box R.cs q=some (b,off)→u=.pointer (some ⟨b,off+o,none⟩)
  | .cJ cs o,u=>∃ b off c e fz us,u=.pointer (some ⟨b,off+o,none⟩)∧X true b∧w.heap[b]?=some (.cells c e fz)∧gd w X cs us∧∀ j v,us[j]?=some v→c[off+j]?=some v
  | d,u=>Ext w X d u
def gI (w:World) (X:Bool→Nat→Prop) (S:List (Nat × RT)):D→Value→Prop
  | .agg cs,u=>∃ us,u=.agg us∧cj (bB w X S) cs us.toList
  | .fn f cs,u=>∃ us,u=.func (.func f) #[] us∧cj (bB w X S) cs us.toList
  | d,u=>bB w X S d u
def cy (w:World) (X:Bool→Nat→Prop) (S:List (Nat × RT)):D→Value→Prop
  | .aP ds,u=>∃ us,u=.tuple us∧cj (gI w X S) ds us.toList
  | d,u=>gI w X S d u
def jh (w:World) (X:Bool→Nat→Prop) (S:List (Nat × RT)) (b:Bool):T→Prop
  | .v d u=>Ext w X (bQ d) u∨(b=true∧bB w X S (bQ d) u)
  | t=>bL w X t
def NP (w:World) (X:Bool→Nat→Prop) (S:List (Nat × RT)) (R:RT):Prop:=
  (match R.box with | some b=>lF w b 0 R.cs.length (aD R.cs) | none=>True)∧∀ t∈R.cs,jh w X S R.box.isSome t
structure Ctx where
  w0:World
  FA:List Nat
  Y:Nat→Prop
  P0:List (Nat × Option Nat × List Value)
def ah (C:Ctx) (w:World) (S:List (Nat × RT)) (H:List T) (b:Bool) (k:Nat):Prop:=
  k < w.heap.size∧k∉cL S∧k∉ai H∧(b=false→C.Y k∨k∈C.FA∨C.w0.heap.size≤k)
structure Mem (C:Ctx) (w:World) (S:List (Nat × RT)) (H:List T):Prop where
  nd:(cL S++ai H).Nodup
  root:∀ r R,lk S r=some R→NP w (ah C w S H) S R
  hand:bM w (ah C w S H) H
  lt:∀ k∈cL S++ai H,k < w.heap.size
def mA (w:World) (X:Bool→Nat→Prop) (S:List (Nat × RT)) (tm:List (Nat × D)) (vs:Array Value):Prop:=
  ∀ t,cy w X S ((lk tm t).getD .undef) (vs.getD t undef)
structure Kept (C:Ctx) (w:World) (S:List (Nat × RT)) (H:List T):Prop where
  os:w.os=C.w0.os
  tape:w.tape=C.w0.tape
  output:w.output=C.w0.output
  size:C.w0.heap.size≤w.heap.size
  block:∀ k,k < C.w0.heap.size→k∉C.FA→w.heap[k]?=C.w0.heap[k]?
  iE:∀ k∈cL S++ai H,k∈C.FA∨C.w0.heap.size≤k
  par:∀ r b vs,(r,b,vs)∈C.P0→∀ R,lk S r=some R→R.box=b∧(b=none→aD R.cs=vs)
structure Rel (C:Ctx) (H:List T) (w:World) (st:St) (aI:List (Array Value)) (S:List (Nat × RT)):Prop where
  rt:hI st.rt S
  mem:Mem C w S H
  pj:cj (mA w (ah C w S H) S) (st.tm::st.up) aI
  kept:Kept C w S H
theorem II (st:St) (S:List (Nat × RT)) (h:hI st.rt S) (r:Nat) (q:List Nat) (o:Nat):st.cell r q o=(cA S r q o).map T.er:=by
  unfold St.cell St.cells cA
  rw [h]
  cases lk S r with
  | none=>rfl
  | some R=>
    simp only [Option.map_some,NL]
    cases aw R.cs q with
    | none=>rfl
    | some l=>simp [iv]
theorem vm (st:St) (S:List (Nat × RT)) (h:hI st.rt S) {r:Nat} {q:List Nat} {cs:List D} (hc:st.cells r q=some cs):∃ R l,lk S r=some R∧aw R.cs q=some l∧cs=bw l:=by
  unfold St.cells at hc
  rw [h] at hc
  cases hr:lk S r with
  | none=>simp [hr] at hc
  | some R=>
    simp only [hr,Option.map_some,NL] at hc
    cases hl:aw R.cs q with
    | none=>simp [hl] at hc
    | some l=>
      simp only [hl,Option.map_some,Option.some.injEq] at hc
      exact ⟨R,l,rfl,hl,hc.symm⟩
theorem iS {st:St} {S:List (Nat × RT)} (h:hI st.rt S) {r:Nat} {q:List Nat} {o:Nat} {d:D} (hc:st.cell r q o=some d):∃ R l t,lk S r=some R∧aw R.cs q=some l∧l[o]?=some t∧cA S r q o=some t∧d=t.er:=by
  rw [II st S h] at hc
  cases ht:cA S r q o with
  | none=>simp [ht] at hc
  | some t=>
    simp only [ht,Option.map_some,Option.some.injEq] at hc
    unfold cA at ht
    cases hr:lk S r with
    | none=>simp [hr] at ht
    | some R=>
      simp only [hr] at ht
      cases hl:aw R.cs q with
      | none=>simp [hl] at ht
      | some l=>
        simp only [hl] at ht
        exact ⟨R,l,t,rfl,hl,ht,rfl,hc.symm⟩
theorem cj.len {α β:Type} {R:α→β→Prop} {as9:List α} {bs:List β} (h:cj R as9 bs):as9.length=bs.length:=by
  induction h with
  | nil=>rfl
  | cons _ _ ih=>simp [ih]
theorem cj.get {α β:Type} {R:α→β→Prop} {as9:List α} {bs:List β} (h:cj R as9 bs):∀ {i:Nat} {a:α},as9[i]?=some a→∃ b,bs[i]?=some b∧R a b:=by
  induction h with
  | nil=>intro i a h; simp at h
  | cons h1 _ ih=>
    intro i a h
    cases i with
    | zero=>simp only [List.getElem?_cons_zero,Option.some.injEq] at h; exact ⟨_,rfl,h▸h1⟩
    | succ i=>simp only [List.getElem?_cons_succ] at h ⊢; exact ih h
theorem cj.mono {α β:Type} {R R':α→β→Prop} {as9:List α} {bs:List β} (h:cj R as9 bs) (hr:∀ a b,R a b→R' a b):cj R' as9 bs:=by
  induction h with
  | nil=>exact .nil
  | cons h1 _ ih=>exact .cons (hr _ _ h1) ih
theorem cj.map {α α' β:Type} {R:α→β→Prop} {R':α'→β→Prop} {as9:List α} {bs:List β} (h:cj R as9 bs) (f:α→α') (hr:∀ a b,R a b→R' (f a) b):cj R' (as9.map f) bs:=by
  induction h with
  | nil=>exact .nil
  | cons h1 _ ih=>exact .cons (hr _ _ h1) ih
theorem cj.app {α β:Type} {R:α→β→Prop} {as9 cx:List α} {bs Zv:List β} (h:cj R as9 bs) (h':cj R cx Zv):cj R (as9++cx) (bs++Zv):=by
  induction h with
  | nil=>exact h'
  | cons h1 _ ih=>exact .cons h1 ih
theorem cj.drop {α β:Type} {R:α→β→Prop} {as9:List α} {bs:List β} (h:cj R as9 bs):∀ n,cj R (as9.drop n) (bs.drop n):=by
  induction h with
  | nil=>intro n; simp; exact .nil
  | cons h1 h2 ih=>
    intro n
    cases n with
    | zero=>exact .cons h1 h2
    | succ n=>simpa using ih n
theorem cj.take {α β:Type} {R:α→β→Prop} {as9:List α} {bs:List β} (h:cj R as9 bs):∀ n,cj R (as9.take n) (bs.take n):=by
  induction h with
  | nil=>intro n; simp; exact .nil
  | cons h1 h2 ih=>
    intro n
    cases n with
    | zero=>exact .nil
    | succ n=>exact .cons h1 (ih n)
theorem dq {α β:Type} {R:α→β→Prop}:∀ {as9:List α} {bs:List β},as9.length=bs.length→(∀ (i:Nat) a b,as9[i]?=some a→bs[i]?=some b→R a b)→cj R as9 bs
  | [],[],_,_=>.nil
  | a::as9,b::bs,h,hr=>.cons (hr 0 a b rfl rfl) (dq (by simpa using h) (fun i a b ha hb=>hr (i+1) a b (by simpa using ha) (by simpa using hb)))
  | [],_::_,h,_=>by simp at h
  | _::_,[],h,_=>by simp at h
theorem gZ {w:World} {X:Bool→Nat→Prop} (ds:List D):∀ us,gd w X ds us↔cj (Ext w X) ds us:=by
  induction ds with
  | nil=>intro us; simp only [gd]; exact ⟨fun h=>h▸.nil,fun h=>by cases h; rfl⟩
  | cons d ds ih=>
    intro us
    simp only [gd]
    constructor
    · rintro ⟨v,vs,rfl,h1,h2⟩
      exact .cons h1 ((ih vs).1 h2)
    · intro h
      cases h with
      | cons h1 h2=>exact ⟨_,_,rfl,h1,(ih _).2 h2⟩
theorem fG {w:World} {X:Bool→Nat→Prop} {S:List (Nat × RT)}:∀ {d:D} {u:Value},Ext w X d u→bB w X S d u
  | .int ..,_,h=>h
  | .bool ..,_,h=>h
  | .str ..,_,h=>h
  | .nil ..,_,h=>h
  | .undef,_,h=>h
  | .hole ..,_,h=>h
  | .sl ..,_,h=>h
  | .ref ..,_,h=>by simp [Ext] at h
  | .agg ..,_,h=>by simp [Ext] at h
  | .aP ..,_,h=>by simp [Ext] at h
  | .fn ..,_,h=>by simp [Ext] at h
  | .ptr ..,_,h=>by simp [Ext] at h
  | .cJ ..,_,h=>by simp [Ext] at h
  | .bh ..,_,h=>by simp [Ext] at h
theorem ey {w:World} {X:Bool→Nat→Prop} {S:List (Nat × RT)} {d:D} {u:Value} (h:bB w X S d u):gI w X S d u:=by
  cases d<;>first | exact h | (simp [bB,Ext] at h)
theorem kC {w:World} {X:Bool→Nat→Prop} {S:List (Nat × RT)} {d:D} {u:Value} (h:gI w X S d u):cy w X S d u:=by
  cases d<;>first | exact h | (simp [gI,bB,Ext] at h)
theorem mG {w:World} {X:Bool→Nat→Prop} {S:List (Nat × RT)} {d:D} {u:Value} (h:bB w X S d u):cy w X S d u:=kC (ey h)
theorem F4 {w:World} {X:Bool→Nat→Prop} {S:List (Nat × RT)} {d:D} {u:Value} (h:Ext w X d u):cy w X S d u:=mG (fG h)
theorem mB {w:World} {X:Bool→Nat→Prop} {S:List (Nat × RT)} (u:Value):cy w X S .undef u:=F4 (by simp [Ext])
theorem Xb (vs:Array Value) (d t:Nat) (v:Value):(vs.setIfInBounds d v).getD t undef=if d=t∧d < vs.size then v else vs.getD t undef:=by
  rw [Array.getD_eq_getD_getElem?,Array.getD_eq_getD_getElem?,Array.getElem?_setIfInBounds]
  by_cases h:d=t
  · subst h
    by_cases hd:d < vs.size
    · simp [hd]
    · simp [hd]
  · simp [h]
theorem mA.put {w:World} {X:Bool→Nat→Prop} {S:List (Nat × RT)} {tm:List (Nat × D)} {vs:Array Value} (h:mA w X S tm vs) {t:Nat} (ht:t < vs.size) {d:D} {v:Value} (hv:cy w X S d v):mA w X S (pz tm t d) (vs.setIfInBounds t v):=by
  intro i
  rw [Xb]
  by_cases hi:t=i
  · subst hi
    rw [kB]; simpa [ht] using hv
  · rw [se _ _ (Ne.symm hi)]; simpa [hi] using h i
end Go.Proofs.YtockoilcnmljiaaGreat
namespace Go.Proofs.YtockoilcnmljiaaGreat
def RJ (d:D) (u:Value):Prop:=∀ w X,Ext w X d u
def Xc:TypeDesc→Bool
  | .struct _ | .array _ _=>true
  | _=>false
def kD (P:Program):Ty→TypeDesc→Prop
  | .int k,d=>d=.int k
  | .bool,d=>d=.bool
  | .str,d=>d=.string
  | .slice e,d=>d=.slice e
  | .array n e,d=>d=.array n e
  | .struct lW szs,d=>∃ fs,d=.struct fs∧lW=fs.toList.map (·.offset)∧szs.length=fs.toList.length∧∀ (j:Nat) (f:Field),fs.toList[j]?=some f→∃ i,P.info? f.type=some i∧i.size≠0∧szs[j]?=some i.size
  | .ptr e,d=>d=.pointer e
  | .fn,d=>Xc d=false
  | .other,d=>Xc d=false
structure El (P:Program) (t:TypeId) (ti:TI):Prop where
  info:∃ i,P.info? t=some i∧i.size=ti.size∧i.bytes=ti.bytes∧∃ z,i.zero=some z∧cj RJ ti.zero z.cells.toList
  desc:∃ d,P.underlying t=some d∧kD P ti.ty d
  len:ti.zero.length=ti.size
structure ez (c:cB) (P:Program):Prop where
  ty:∀ t ti,c.ty t=some ti→El P t ti
section
variable {P:Program} {w:World}
theorem UC {t:TypeId} {i:TypeInfo} (h:P.info? t=some i) (w:World):(typeInfo t).run P w=.ok i w:=by simp [typeInfo,h]
theorem UD {t:TypeId} {i:TypeInfo} (h:P.info? t=some i) (w:World):(Go.sizeOf t).run P w=Result.ok i.size w:=by
  simp [Go.sizeOf,UC h]
theorem NQ {t:TypeId} {i:TypeInfo} {z:Value} (h:P.info? t=some i) (hz:i.zero=some z) (w:World):(zeroValue t).run P w=.ok z w:=by
  simp [zeroValue,UC h,hz]
theorem El.sz {t:TypeId} {ti:TI} (h:El P t ti) (w:World):(Go.sizeOf t).run P w=Result.ok ti.size w:=by
  obtain ⟨i,h1,h2,_⟩:=h.info
  rw [UD h1,h2]
theorem aaP {ty:Ty} {d:TypeDesc} (h:kD P ty d):Xc d=kq ty:=by
  cases ty<;>simp only [kD] at h<;>first | (subst h; rfl) | (obtain ⟨fs,rfl,_⟩:=h; rfl) | (rw [h]; rfl)
theorem El.agg {t:TypeId} {ti:TI} (h:El P t ti) (w:World):(isAgg t).run P w=.ok (kq ti.ty) w:=by
  obtain ⟨d,h1,h2⟩:=h.desc
  simp only [isAgg,Sem.run_bind,run_underlying h1,Result.andThen_ok]
  rw [← aaP h2]
  cases d<;>rfl
end
section
variable {P:Program} {o:Oper} {a:Act} {w:World} {K:Act→World→Prop} {Q:Exit→Act→World→Prop}
theorem pS {v:Value} {w':World} (h:(execOp a.eval o).run P w=.ok (.value v) w') (hk:K (a.put o.dst v) w'):o.wp P a w K Q:=by
  unfold Oper.wp; rw [h]; exact hk
theorem S6 {w':World} (h:(execOp a.eval o).run P w=.ok .skip w') (hk:K (a.put o.dst undef) w'):o.wp P a w K Q:=by
  unfold Oper.wp; rw [h]; exact hk
end
theorem eZ (b off k:Nat):(⟨b,off,none⟩:Addr).add k=⟨b,off+k,none⟩:=by
  unfold Addr.add; split
  · rename_i h; subst h; rfl
  · rfl
theorem vn {w:World} {b off fm:Nat} {us:List Value} (h:lF w b off fm us) {j:Nat} {u:Value} (hj:us[j]?=some u):w.cell? ⟨b,off+j,none⟩=some u:=by
  obtain ⟨c,e,fz,h1,_,_,h4⟩:=h
  simp [World.cell?,h1,h4 j u hj]
theorem F5 {w:World} {b off fm:Nat} {us:List Value} (h:lF w b off fm us) {j:Nat} (hj:j < fm):w.frozen? ⟨b,off+j,none⟩=false:=by
  obtain ⟨c,e,fz,h1,h2,h3,_⟩:=h
  have:=h2 (off+j) (by omega)
  simp only [World.frozen?,h1]
  simpa using this
theorem F6 {w:World} {b off fm:Nat} {us:List Value} (h:lF w b off fm us) {j:Nat} (hj:j < fm):∃ u,w.cell? ⟨b,off+j,none⟩=some u:=by
  obtain ⟨c,e,fz,h1,_,h3,_⟩:=h
  have:off+j < c.size:=by omega
  exact ⟨c[off+j],by simp [World.cell?,h1,this]⟩
theorem Xd {w:World} {X:Bool→Nat→Prop} {q:List Nat}:∀ {s n cap:Nat} {a:Option (Nat × Nat)} {xs l:List T},bL w X (.own s n cap a xs)→aw xs q=some l→l≠[]→
    ∃ b off fm,(match q with | []=>a | _=>cb none xs q)=some (b,off)∧lF w b off fm (aD l)∧l.length≤fm∧bM w X l:=by
  induction q with
  | nil=>
    intro s n cap a xs l h hc hl
    simp only [aw,Option.some.injEq] at hc
    subst hc
    simp only [bL] at h
    obtain ⟨h1,h2,h3,h4⟩:=h
    cases a with
    | none=>
      have:xs.length=0:=by rw [h2,h3.1]; simp
      exact absurd (List.length_eq_zero_iff.1 this) hl
    | some p=>exact ⟨p.1,p.2,_,rfl,h3,by rw [h2]; exact Nat.mul_le_mul_right _ h1,h4⟩
  | cons p q ih=>
    intro s n cap a xs l h hc hl
    simp only [bL] at h
    rw [aw] at hc
    cases hp:xs[p]? with
    | none=>simp [hp] at hc
    | some x=>
      cases x with
      | v d u=>simp [hp] at hc
      | own s' n' uj a' kz=>
        simp only [hp] at hc
        obtain ⟨b,off,fm,h5,h6⟩:=ih (fP h.2.2.2 hp) hc hl
        exact ⟨b,off,fm,by simp only [cb,hp]; exact h5,h6⟩
theorem qL {C:Ctx} {w:World} {S:List (Nat × RT)} {H:List T} (hm:Mem C w S H) {r:Nat} {R:RT} {q:List Nat} {l:List T} (hr:lk S r=some R) (hc:aw R.cs q=some l) (hl:l≠[]) (hb:q=[]→R.box.isSome=true):
    ∃ b off fm,cb R.box R.cs q=some (b,off)∧lF w b off fm (aD l)∧l.length≤fm∧(q≠[]→bM w (ah C w S H) l):=by
  obtain ⟨h1,h2⟩:=hm.root r R hr
  cases q with
  | nil=>
    simp only [aw,Option.some.injEq] at hc
    subst hc
    have hb:=hb rfl
    cases hx:R.box with
    | none=>simp [hx] at hb
    | some b=>exact ⟨b,0,_,by simp [cb],by simpa [hx] using h1,Nat.le_refl _,fun h=>absurd rfl h⟩
  | cons p q=>
    rw [aw] at hc
    cases hp:R.cs[p]? with
    | none=>simp [hp] at hc
    | some x=>
      cases x with
      | v d u=>simp [hp] at hc
      | own s n cap a xs=>
        simp only [hp] at hc
        have hs:bL w (ah C w S H) (.own s n cap a xs):=h2 _ (List.mem_of_getElem? hp)
        obtain ⟨b,off,fm,h3,h4,h5,h6⟩:=Xd hs hc hl
        exact ⟨b,off,fm,by simp only [cb,hp]; exact h3,h4,h5,fun _=>h6⟩
theorem NR {q:List Nat}:∀ {cs l:List T} {bx:Option Nat} {o s n cap:Nat} {a:Option (Nat × Nat)} {xs:List T},aw cs q=some l→l[o]?=some (.own s n cap a xs)→cb bx cs (q++[o])=a∧aw cs (q++[o])=some xs:=by
  induction q with
  | nil=>
    intro cs l bx o s n cap a xs hc ho
    simp only [aw,Option.some.injEq] at hc
    subst hc
    simp [cb,aw,ho]
  | cons p q ih=>
    intro cs l bx o s n cap a xs hc ho
    rw [aw] at hc
    cases hp:cs[p]? with
    | none=>simp [hp] at hc
    | some x=>
      cases x with
      | v d u=>simp [hp] at hc
      | own s' n' uj a' kz=>
        simp only [hp] at hc
        obtain ⟨h1,h2⟩:=ih (bx:=none) hc ho
        refine ⟨?_,by simp only [List.cons_append,aw,hp]; exact h2⟩
        rw [List.cons_append,cb]
        simp only [hp]
        cases hq:q++[o] with
        | nil=>simp at hq
        | cons y ys=>rw [hq] at h1; exact h1
theorem Em {S:List (Nat × RT)} {r:Nat} {R:RT} {q:List Nat} {l:List T} {o:Nat} (hr:lk S r=some R) (hc:aw R.cs q=some l):cA S r q o=l[o]?:=by
  simp [cA,hr,hc]
theorem qi {C:Ctx} {w:World} {S:List (Nat × RT)} {H:List T} (hm:Mem C w S H) {r:Nat} {R:RT} {q:List Nat} {l:List T} {o:Nat} {t:T} (hr:lk S r=some R) (hc:aw R.cs q=some l) (ho:l[o]?=some t):
    bB w (ah C w S H) S (gF r q o t.er) t.val:=by
  cases t with
  | own s n cap a xs=>
    simp only [T.er,gF,bB]
    intro t' pk
    rw [Em hr hc,ho,Option.some.injEq] at pk
    subst pk
    simp [eS,sn,T.er]
  | v d u=>
    have hv:gF r q o (T.v d u).er=bQ d:=by
      simp only [T.er]
      cases d<;>simp [bQ,gF]
      rename_i g _ _ _
      cases g<;>simp [bQ,gF]
    rw [hv]
    obtain ⟨_,h2⟩:=hm.root r R hr
    cases q with
    | nil=>
      simp only [aw,Option.some.injEq] at hc
      subst hc
      rcases h2 _ (List.mem_of_getElem? ho) with h3 | ⟨_,h3⟩
      · exact fG h3
      · exact h3
    | cons p q=>
      rw [aw] at hc
      cases hp:R.cs[p]? with
      | none=>simp [hp] at hc
      | some x=>
        cases x with
        | v d u=>simp [hp] at hc
        | own s n cap a xs=>
          simp only [hp] at hc
          have hs:bL w (ah C w S H) (.own s n cap a xs):=h2 _ (List.mem_of_getElem? hp)
          simp only [bL] at hs
          have:=fP (wF hs.2.2.2 hc) ho
          simp only [bL] at this
          exact fG this
theorem nV (r:Nat) (q:List Nat):∀ (cs:List D) (o i:Nat),(lI r q o cs)[i]?=(cs[i]?).map (gF r q (o+i))
  | [],o,i=>by simp [lI]
  | d::ds,o,0=>by simp [lI]
  | d::ds,o,i+1=>by
    simp only [lI,List.getElem?_cons_succ,nV r q ds (o+1) i]
    congr 1
    rw [show o+1+i=o+(i+1) by omega]
theorem qj (r:Nat) (q:List Nat):∀ (cs:List D) (o:Nat),(lI r q o cs).length=cs.length
  | [],o=>rfl
  | d::ds,o=>by simp [lI,qj r q ds (o+1)]
def dM (w w2:World):Prop:=∀ k,k < w.heap.size→w2.heap[k]?=w.heap[k]?
theorem dM.refl (w:World):dM w w:=fun _ _=>rfl
theorem dM.trans {w w2 w3:World} (h:dM w w2) (h':dM w2 w3):dM w w3:=fun k hk=>by
  have h1:=h k hk
  have F7:k < w2.heap.size:=by
    rcases Nat.lt_or_ge k w2.heap.size with h2 | h2
    · exact h2
    · rw [Array.getElem?_eq_none h2,Array.getElem?_eq_getElem hk] at h1
      simp at h1
  rw [h' k F7,h1]
theorem dM.cell {w w2:World} (h:dM w w2) {A:Addr} {v:Value} (hc:w.cell? A=some v):w2.cell? A=some v:=by
  have hk:A.block < w.heap.size:=by
    rcases Nat.lt_or_ge A.block w.heap.size with h2 | h2
    · exact h2
    · simp [World.cell?,Array.getElem?_eq_none h2] at hc
  rw [← hc]
  unfold World.cell?
  rw [h _ hk]
def AJ (u:Value) (w w2:World):Prop:=∀ B,u=.pointer (some B)→∀ A v,A.block=B.block→w.cell? A=some v→w2.cell? A=some v
theorem dM.ahT {w w2:World} (h:dM w w2) (u:Value):AJ u w w2:=fun _ _ _ _ _ hc=>h.cell hc
theorem AJ.refl (u:Value) (w:World):AJ u w w:=fun _ _ _ _ _ h=>h
theorem RK {u:Value} {w w2:World} {b:Nat} (hb:∀ B,u=.pointer (some B)→B.block=b) (h:w2.heap[b]?=w.heap[b]?):AJ u w w2:=fun B hB A v hA hc=>by
  have e:A.block=b:=hA.trans (hb B hB)
  rw [← hc]
  unfold World.cell?
  rw [e,h]
theorem IJ {P:Program} {c:cB} (av:ez c P) {C:Ctx} {Hx:List T} {w:World} {S:List (Nat × RT)} {st:St} (gf:hI st.rt S) (hm:Mem C w S Hx) {t:TypeId} {ti:TI} (ht:c.ty t=some ti) {d d':D} {u:Value} (hd:cy w (ah C w S Hx) S d u) (h:qJ st (kq ti.ty) ti.size d=some d'):
    ∃ v,(∀ w2,AJ u w w2→(Instr.loadAt t u).run P w2=.ok v w2)∧cy w (ah C w S Hx) S d' v:=by
  have lZ:=av.ty t ti ht
  cases d with
  | ptr r q o=>
    simp only [qJ] at h
    cases eM:st.cells r q with
    | none=>simp [eM] at h
    | some cs=>
      simp only [eM] at h
      obtain ⟨R,l,hr,hl,rfl⟩:=vm st S gf eM
      have hp:=hd R hr
      cases eA:kq ti.ty with
      | true=>
        simp only [eA,if_true] at h
        split at h
        case isFalse=>simp at h
        rename_i hle
        obtain ⟨hz,hle⟩:=hle
        simp only [Option.some.injEq] at h
        subst h
        rw [fq] at hle
        · have dc:l≠[]:=by intro e; subst e; simp at hle; omega
          obtain ⟨b,off,fm,h1,h2,h3,_⟩:=qL hm hr hl dc hp.1
          have hu:=hp.2 b off h1
          subst hu
          refine ⟨.agg ((aD l).drop o |>.take ti.size).toArray,?_,?_⟩
          · intro w2 pn
            simp only [Instr.loadAt,Instr.sureAddr,loadVar,Sem.run_bind,Sem.run_pure,Result.andThen_ok,lZ.agg,eA,if_true,lZ.sz]
            have hlen:((aD l).drop o |>.take ti.size).length=ti.size:=by simp [bS]; omega
            have:=run_loadCells_list (P:=P) w2 ⟨b,off+o,none⟩ ((aD l).drop o |>.take ti.size) (fun j v hj=>by
              rw [eZ,Nat.add_assoc]
              refine pn _ rfl _ _ rfl (vn h2 ?_)
              rw [List.getElem?_take] at hj
              split at hj
              · rw [List.getElem?_drop] at hj; exact hj
              · simp at hj)
            rw [hlen] at this
            simp [this]
          · refine ⟨_,rfl,dq ?_ ?_⟩
            · simp [qj,fq,bS]
            · intro i d1 v1 hi hv
              rw [nV,AG,AH,iv] at hi
              simp only [List.getElem?_take] at hv hi
              split at hv
              · rename_i cX
                rw [if_pos cX,List.getElem?_drop] at hi
                rw [List.getElem?_drop,fk] at hv
                cases hx:l[o+i]? with
                | none=>simp [hx] at hi
                | some t'=>
                  simp only [hx,Option.map_some,Option.some.injEq] at hi hv
                  subst hi; subst hv
                  exact qi hm hr hl hx
              · simp at hv
      | false=>
        simp only [eA,Bool.false_eq_true,if_false] at h
        rw [iv] at h
        cases hx:l[o]? with
        | none=>simp [hx] at h
        | some t'=>
          simp only [hx,Option.map_some,Option.some.injEq] at h
          subst h
          have dc:l≠[]:=by intro e; subst e; simp at hx
          obtain ⟨b,off,fm,h1,h2,h3,_⟩:=qL hm hr hl dc hp.1
          have hu:=hp.2 b off h1
          subst hu
          refine ⟨t'.val,?_,mG (qi hm hr hl hx)⟩
          intro w2 pn
          simp only [Instr.loadAt,Instr.sureAddr,loadVar,Sem.run_bind,Sem.run_pure,Result.andThen_ok,lZ.agg,eA,Bool.false_eq_true,if_false]
          have cS:w2.cell? ⟨b,off+o,none⟩=some t'.val:=pn _ rfl _ _ rfl (vn h2 (by rw [fk,hx]; rfl))
          simp [cS]
  | cJ cs o=>
    obtain ⟨b,off,cc,e,fz,us,rfl,hXb,eW,NS,po⟩:=hd
    simp only [qJ] at h
    have dY:=(gZ cs us).1 NS
    cases eA:kq ti.ty with
    | true=>
      simp only [eA,if_true] at h
      split at h
      case isFalse=>simp at h
      rename_i hle
      obtain ⟨hz,hle⟩:=hle
      simp only [Option.some.injEq] at h
      subst h
      refine ⟨.agg ((us.drop o).take ti.size).toArray,?_,?_⟩
      · intro w2 pn
        simp only [Instr.loadAt,Instr.sureAddr,loadVar,Sem.run_bind,Sem.run_pure,Result.andThen_ok,lZ.agg,eA,if_true,lZ.sz]
        have hlen:((us.drop o).take ti.size).length=ti.size:=by have:=dY.len; simp; omega
        have:=run_loadCells_list (P:=P) w2 ⟨b,off+o,none⟩ ((us.drop o).take ti.size) (fun j v hj=>by
          rw [eZ]
          refine pn _ rfl _ _ rfl ?_
          rw [List.getElem?_take] at hj
          split at hj
          · rw [List.getElem?_drop] at hj
            simp [World.cell?,eW,Nat.add_assoc,po _ _ hj]
          · simp at hj)
        rw [hlen] at this
        simp [this]
      · exact ⟨_,rfl,by simpa using ((dY.drop o).take ti.size).mono (fun _ _ h=>fG h)⟩
    | false=>
      simp only [eA,Bool.false_eq_true,if_false] at h
      obtain ⟨u,hu,he⟩:=dY.get h
      refine ⟨u,?_,F4 he⟩
      intro w2 pn
      simp only [Instr.loadAt,Instr.sureAddr,loadVar,Sem.run_bind,Sem.run_pure,Result.andThen_ok,lZ.agg,eA,Bool.false_eq_true,if_false]
      have cS:w.cell? ⟨b,off+o,none⟩=some u:=by simp [World.cell?,eW,po _ _ hu]
      have cS:=pn _ rfl _ _ rfl cS
      simp [cS]
  | _=>simp [qJ] at h
end Go.Proofs.YtockoilcnmljiaaGreat
namespace Go.Proofs.YtockoilcnmljiaaGreat
section
variable {w:World} {X:Bool→Nat→Prop} {S:List (Nat × RT)}
theorem gz {k:IntKind} {n:Int} {u:Value} (h:cy w X S (.int k n) u):u=.int k n:=h
theorem xP {b:Bool} {u:Value} (h:cy w X S (.bool b) u):u=.bool b:=h
theorem xQ {s:ByteArray} {u:Value} (h:cy w X S (.str s) u):u=.string s:=h
theorem UE {s:Nat} {u:Value} (h:cy w X S (.nil s) u):u=.slice none 0 0:=h
theorem UF (k:IntKind) (n:Int):cy w X S (.int k n) (.int k n):=rfl
theorem tvs (s:ByteArray):cy w X S (.str s) (.string s):=rfl
end
theorem wG {c:cB} {w:World} {X:Bool→Nat→Prop} {S:List (Nat × RT)} {st:St} {a:Act} (h:mA w X S st.tm a.tmps) (t:TypeId) (x:Operand):cy w X S (cw c st t x) (a.eval x):=by
  cases x with
  | tmp i=>exact h i
  | const v=>
    simp only [cw,Act.eval]
    cases v<;>try exact mB _
    all_goals first | rfl | skip
    rename_i b n cap
    simp only [CN]
    split<;>first | exact mB _ | (rename_i e; first | cases e | skip)
    all_goals first | rfl | exact mB _ | skip
  | func f=>exact ⟨#[],rfl,.nil⟩
  | global g=>exact mB _
section
variable {P:Program} {w:World} {X:Bool→Nat→Prop} {S:List (Nat × RT)}
theorem F8 (op:BinOp) (t:TypeId) (x y:Operand) (k k':IntKind) (a b:Int):(eqGuard op t x y (.int k a) (.int k' b)).run P w=.ok () w:=by
  unfold eqGuard; split<;>rfl
theorem F9 (op:BinOp) (t:TypeId) (x y:Operand) (a b:ByteArray):(eqGuard op t x y (.string a) (.string b)).run P w=.ok () w:=by
  unfold eqGuard; split<;>rfl
theorem En (op:BinOp) (t:TypeId) (x y:Operand) (a b:Bool):(eqGuard op t x y (.bool a) (.bool b)).run P w=.ok () w:=by
  unfold eqGuard; split<;>rfl
theorem run_equal_bool {t:TypeId} (h:P.underlying t=some .bool) (a b:Bool):(Op.equal t (.bool a) (.bool b)).run P w=.ok (a==b) w:=by
  have:Op.equal t (.bool a) (.bool b)=Op.equalIn (9999+1) t (.bool a) (.bool b):=rfl
  rw [this,Op.equalIn,Sem.run_bind,run_underlying h]
  rfl
theorem UG {c:cB} (av:ez c P) {op:BinOp} {t:TypeId} {x y:Operand} {dx dy d:D} {u v:Value} (hx:cy w X S dx u) (hy:cy w X S dy v) (h:sa c t op dx dy=some d):
    ∃ r,(∀ w:World,(do eqGuard op t x y u v; binOp op t u v:Sem Value).run P w=.ok r w)∧cy w X S d r:=by
  cases dx with
  | int k a=>
    cases dy with
    | int k' b=>
      have h1:=gz hx; have h2:=gz hy
      subst h1; subst h2
      simp only [Sem.run_bind,F8,Result.andThen_ok]
      cases op<;>simp only [sa] at h
      case shl=>
        simp only [vb] at h
        split at h
        · simp at h
        · rename_i hb
          simp only [Option.some.injEq] at h
          exact ⟨_,by intro w; simp [binOp,Op.shift,hb]; rfl,by subst h; rfl⟩
      case shr=>
        simp only [vb] at h
        split at h
        · simp at h
        · rename_i hb
          simp only [Option.some.injEq] at h
          exact ⟨_,by intro w; simp [binOp,Op.shift,hb]; rfl,by subst h; rfl⟩
      case quo | rem=>
        split at h
        case isFalse=>simp at h
        rename_i hk
        subst hk
        simp only [AD] at h
        split at h
        · simp at h
        · rename_i hb
          simp only [Option.some.injEq] at h
          exact ⟨_,by intro w; simp [binOp,Op.intDiv,hb]; rfl,by subst h; rfl⟩
      all_goals
        split at h
        case isFalse=>simp at h
        rename_i hk
        subst hk
        simp only [AD] at h
      all_goals
        first
        | (simp at h; done)
        | (simp only [Option.some.injEq] at h
           exact ⟨_,by intro w; simp [binOp,Op.intArith,Op.intBits,Op.intCmp]; rfl,by subst h; rfl⟩)
    | _=>simp [sa] at h
  | str a=>
    cases dy with
    | str b=>
      have h1:=xQ hx; have h2:=xQ hy
      subst h1; subst h2
      simp only [Sem.run_bind,F9,Result.andThen_ok]
      simp only [sa] at h
      cases op<;>simp only [NG] at h
      case add=>
        split at h
        case isFalse=>simp at h
        rename_i hs
        simp only [Option.some.injEq] at h
        have vo:¬ (((a.size+b.size:Nat):Int)>IntKind.i64.max):=by
          have:IntKind.i64.max=9223372036854775807:=by decide
          rw [this]; omega
        exact ⟨.string (a++b),by intro w; simp only [binOp,Op.stringOp]; rw [if_neg vo]; rfl,by subst h; rfl⟩
      all_goals
        first
        | (simp at h; done)
        | (simp only [Option.some.injEq] at h
           exact ⟨_,by intro w; simp [binOp,Op.stringOp]; rfl,by subst h; rfl⟩)
    | _=>simp [sa] at h
  | bool a=>
    cases dy with
    | bool b=>
      have h1:=xP hx; have h2:=xP hy
      subst h1; subst h2
      simp only [Sem.run_bind,En,Result.andThen_ok]
      simp only [sa] at h
      split at h
      case h_2=>simp at h
      rename_i lZ
      obtain ⟨dd,h3,h4⟩:=(av.ty t _ lZ).desc
      simp only [kD] at h4
      subst h4
      cases op<;>simp only [IF] at h
      all_goals
        first
        | (simp at h; done)
        | (simp only [Option.some.injEq] at h
           exact ⟨_,by intro w; simp only [binOp,Sem.run_bind,run_equal_bool h3,Result.andThen_ok,Sem.run_pure]; rfl,by subst h; rfl⟩)
    | _=>simp [sa] at h
  | _=>simp [sa] at h
theorem Zw {op:UnOp} {dx d:D} {u:Value} (hx:cy w X S dx u) (h:Zt op dx=some d):∃ r,(∀ w:World,(Op.unary op u).run P w=.ok r w)∧cy w X S d r:=by
  cases op<;>cases dx<;>simp only [Zt] at h<;>first | (simp at h; done) | skip
  · have:=gz hx
    subst this
    simp only [Option.some.injEq] at h
    exact ⟨_,by intro w; simp [Op.unary,Op.intArith]; rfl,by subst h; simp [cy,gI,bB,Ext]⟩
  · have:=xP hx
    subst this
    simp only [Option.some.injEq] at h
    exact ⟨_,by intro w; simp [Op.unary]; rfl,by subst h; rfl⟩
theorem Ga {ds:List D} {d:D} {u:Value} {i:Nat} (hx:cy w X S (.aP ds) u) (h:ds[i]?=some d):∃ r,(∀ w:World,(Instr.extract u i).run P w=.ok r w)∧cy w X S d r:=by
  obtain ⟨us,rfl,ha⟩:=hx
  obtain ⟨r,hr,ht⟩:=ha.get h
  have eE:us[i]?=some r:=by simpa using hr
  exact ⟨r,by intro w; simp [Instr.extract,eE],kC ht⟩
end
theorem uU {C:Ctx} {Hx:List T} {w:World} {S:List (Nat × RT)} {st:St} (gf:hI st.rt S) (hm:Mem C w S Hx) {r:Nat} {q:List Nat} (h:live st r q=true) {i:Nat} {u:Value} (hu:cy w (ah C w S Hx) S (.ptr r q i) u):
    ∃ R b off,lk S r=some R∧cb R.box R.cs q=some (b,off)∧u=.pointer (some ⟨b,off+i,none⟩):=by
  unfold live at h
  split at h
  case h_2=>simp at h
  rename_i x xs eM
  obtain ⟨R,l,hr,hl,he⟩:=vm st S gf eM
  have hp:=hu R hr
  obtain ⟨b,off,fm,h1,_⟩:=qL hm hr hl (by rintro rfl; simp [bw] at he) hp.1
  exact ⟨R,b,off,hr,h1,hp.2 b off h1⟩
theorem UH {w:World} {X:Bool→Nat→Prop} {S:List (Nat × RT)} {r:Nat} {q:List Nat} {i j:Nat} {u:Value} {R:RT} {b off:Nat} (hu:cy w X S (.ptr r q i) u) (hr:lk S r=some R) (ha:cb R.box R.cs q=some (b,off)):cy w X S (.ptr r q j) (.pointer (some ⟨b,off+j,none⟩)):=by
  intro R' eu
  refine ⟨(hu R' eu).1,fun b' Eo eN=>?_⟩
  rw [hr,Option.some.injEq] at eu
  subst eu
  rw [ha,Option.some.injEq,Prod.mk.injEq] at eN
  obtain ⟨rfl,rfl⟩:=eN
  rfl
section
variable {P:Program} {c:cB} (av:ez c P) {w:World} {C:Ctx} {Hx:List T} {S:List (Nat × RT)} {st:St} (gf:hI st.rt S) (hm:Mem C w S Hx)
include av gf hm
theorem AK {s:TypeId} {lW szs:List Nat} {sz qk:Nat} {z:List D} {f k:Nat} {d d':D} {u:Value} (ht:c.ty s=some ⟨.struct lW szs,sz,qk,z⟩) (hk:lW[f]?=some k) (hd:cy w (ah C w S Hx) S d u)
    (h:xL st k d=some d'):∃ r,(∀ w:World,(Instr.fieldAt s u f).run P w=.ok r w)∧cy w (ah C w S Hx) S d' r:=by
  have lZ:=av.ty s _ ht
  obtain ⟨dd,h1,h2⟩:=lZ.desc
  obtain ⟨fs,rfl,h3,_,h4⟩:=h2
  have hf:∃ fl,fs[f]?=some fl∧fl.offset=k:=by
    rw [h3] at hk
    simp only [List.getElem?_map] at hk
    cases hx:fs.toList[f]? with
    | none=>simp [hx] at hk
    | some fl=>simp only [hx,Option.map_some,Option.some.injEq] at hk; exact ⟨fl,by simpa using hx,hk⟩
  obtain ⟨fl,hfl,rfl⟩:=hf
  obtain ⟨inf,hi,hz,_⟩:=h4 f fl (by simpa using hfl)
  have key:∀ (A:Addr) (w:World),(Instr.fieldAt s (.pointer (some A)) f).run P w=.ok (.pointer (some (A.add fl.offset))) w:=fun A w=>by
    simp [Instr.fieldAt,run_underlying h1,hfl,Instr.sureAddr,fieldPlace,UD hi,hz]
  cases d with
  | ptr r q i=>
    simp only [xL] at h
    split at h
    case isFalse=>simp at h
    rename_i hl
    simp only [Option.some.injEq] at h
    subst h
    obtain ⟨R,b,off,hR,ha,rfl⟩:=uU gf hm hl hd
    refine ⟨_,key _,?_⟩
    rw [eZ,Nat.add_assoc]
    exact UH hd hR ha
  | cJ cs i=>
    simp only [xL,Option.some.injEq] at h
    subst h
    obtain ⟨b,off,cc,e,fz,us,rfl,h5⟩:=hd
    exact ⟨_,key _,b,off,cc,e,fz,us,by rw [eZ,Nat.add_assoc],h5⟩
  | _=>simp [xL] at h
omit av in
theorem sY {d d':D} {u:Value} (hd:cy w (ah C w S Hx) S d u) (h:(match d with | .ptr r q i=>if live st r q then some (.ptr r q i) else none | .cJ cs i=>some (.cJ cs i) | _=>none:Option D)=some d'):
    ∃ A,u=.pointer (some A)∧d'=d:=by
  cases d with
  | ptr r q i=>
    simp only at h
    split at h
    case isFalse=>simp at h
    rename_i hl
    obtain ⟨R,b,off,hR,ha,rfl⟩:=uU gf hm hl hd
    exact ⟨_,rfl,(Option.some.inj h).symm⟩
  | cJ cs i=>
    obtain ⟨b,off,cc,e,fz,us,rfl,h5⟩:=hd
    exact ⟨_,rfl,(Option.some.inj h).symm⟩
  | _=>simp at h
end
end Go.Proofs.YtockoilcnmljiaaGreat
namespace Go.Proofs.YtockoilcnmljiaaGreat
section
variable {P:Program} {C:Ctx} {w:World} {S:List (Nat × RT)} {st:St} {H:List T}
theorem tA (hm:Mem C w S H) {r:Nat} {R:RT} {q:List Nat} {l:List T} {o:Nat} {t:T} (hr:lk S r=some R) (hc:aw R.cs q=some l) (ho:l[o]?=some t) {g:Option Bool} {s n:Nat} {cs:List D} (he:t.er=.sl g s n cs):
    bL w (ah C w S H) t:=by
  obtain ⟨_,h2⟩:=hm.root r R hr
  cases q with
  | nil=>
    simp only [aw,Option.some.injEq] at hc
    subst hc
    have:=h2 _ (List.mem_of_getElem? ho)
    cases t with
    | own s n cap a xs=>exact this
    | v d u=>
      rcases this with h3 | ⟨_,h3⟩
      · exact h3
      · simp only [T.er] at he
        simp only [bL]
        rw [he] at h3 ⊢
        exact h3
  | cons p q=>
    rw [aw] at hc
    cases hp:R.cs[p]? with
    | none=>simp [hp] at hc
    | some x=>
      cases x with
      | v d u=>simp [hp] at hc
      | own s n cap a xs=>
        simp only [hp] at hc
        have hs:bL w (ah C w S H) (.own s n cap a xs):=h2 _ (List.mem_of_getElem? hp)
        simp only [bL] at hs
        exact fP (wF hs.2.2.2 hc) ho
def acx (w:World) (X:Bool→Nat→Prop) (d:D) (u:Value):Prop:=Ext w X d u∨∃ t:T,d=t.er∧u=t.val∧bL w X t
structure S7 (w:World) (X:Bool→Nat→Prop) (s n:Nat) (cs:List D) (u:Value):Prop where
  ok:∃ base cap,u=.slice base n cap∧n≤cap∧cs.length=n*s∧(cs=[]∨∃ b off c e fz us,base=some ⟨b,off,none⟩∧w.heap[b]?=some (.cells c e fz)∧cj (acx w X) cs us∧∀ j v,us[j]?=some v→c[off+j]?=some v)
theorem AL {X:Bool→Nat→Prop} {t:T} (h:bL w X t) {g:Option Bool} {s n:Nat} {cs:List D} (he:t.er=.sl g s n cs):S7 w X s n cs t.val:=by
  cases t with
  | v d u=>
    simp only [bL] at h
    simp only [T.er] at he
    rw [he] at h
    cases g with
    | none=>simp [Ext] at h
    | some g=>
      simp only [Ext] at h
      obtain ⟨base,cap,us,rfl,h1,h2,h3,h4⟩:=h
      refine ⟨base,cap,rfl,h1,h2,?_⟩
      rcases h4 with h4 | ⟨k,off,c,e,fz,h5,h6,h7,h8⟩
      · exact .inl h4
      · exact .inr ⟨k,off,c,e,fz,us,h5,h7,((gZ cs us).1 h3).mono (fun _ _ h=>.inl h),h8⟩
  | own s' n' cap a ts=>
    simp only [bL] at h
    simp only [T.er,D.sl.injEq] at he
    obtain ⟨_,rfl,rfl,rfl⟩:=he
    obtain ⟨h1,h2,h3,h4⟩:=h
    refine ⟨a.map fun p=>⟨p.1,p.2,none⟩,cap,rfl,h1,by rw [fq]; exact h2,?_⟩
    cases a with
    | none=>
      left
      have:ts.length=0:=by rw [h2,h3.1]; simp
      simp [List.length_eq_zero_iff.1 this,bw]
    | some p=>
      obtain ⟨b,off⟩:=p
      obtain ⟨c,e,fz,h5,_,_,h6⟩:=h3
      refine .inr ⟨b,off,c,e,fz,aD ts,rfl,h5,?_,h6⟩
      refine dq (by simp [fq,bS]) (fun i d u hd hu=>?_)
      rw [iv] at hd
      rw [fk] at hu
      cases hx:ts[i]? with
      | none=>simp [hx] at hd
      | some t=>
        simp only [hx,Option.map_some,Option.some.injEq] at hd hu
        exact .inr ⟨t,hd.symm,hu.symm,fP h4 hx⟩
theorem aaQ {X:Bool→Nat→Prop} {x:Option (Nat × Nat)} {t:T} {u:Value} {g:Option Bool} {s n:Nat} {cs:List D} (he:t.er=.sl g s n cs) (hr:eS x t u) (h:S7 w X s n cs t.val):S7 w X s (trim x s n cs).1 (trim x s n cs).2 u:=by
  unfold eS at hr
  rw [he] at hr
  simp only [sn] at hr
  cases x with
  | none=>simp only at hr; subst hr; exact h
  | some p=>
    obtain ⟨l,m⟩:=p
    simp only at hr
    obtain ⟨h1,base,C,k,h2,h3,rfl,h4⟩:=hr
    obtain ⟨S8,cap,h5,h6,h7,h8⟩:=h.ok
    rw [h2] at h5
    simp only [Value.slice.injEq] at h5
    obtain ⟨rfl,_,rfl⟩:=h5
    have hlen:((cs.drop (l*s)).take (m*s)).length=m*s:=by
      rw [List.length_take,List.length_drop,h7]
      have:l*s+m*s≤n*s:=by rw [← Nat.add_mul]; exact Nat.mul_le_mul_right _ h1
      omega
    refine ⟨_,_,rfl,(by show m≤C - l; omega),hlen,?_⟩
    by_cases hms:m*s=0
    · left
      have h9:((cs.drop (l*s)).take (m*s)).length=0:=by rw [hlen]; exact hms
      exact List.length_eq_zero_iff.1 h9
    · right
      rcases h8 with h8 | ⟨b,off,c,e,fz,us,rfl,mZ,NT,h12⟩
      · exfalso
        subst h8
        simp at hlen
        omega
      · have hk:k=l:=by
          rcases h4 with h4 | h4
          · exfalso
            have:m≠0:=fun e=>hms (by simp [e])
            omega
          · exact h4
        subst hk
        refine ⟨b,off+k*s,c,e,fz,(us.drop (k*s)).take (m*s),by simp [eZ],mZ,(NT.drop _).take _,fun j v hj=>?_⟩
        rw [List.getElem?_take] at hj
        split at hj
        · rw [List.getElem?_drop] at hj
          rw [Nat.add_assoc]; exact h12 _ _ hj
        · simp at hj
theorem Nk (gf:hI st.rt S) (hm:Mem C w S H) {d:D} {u:Value} (hd:cy w (ah C w S H) S d u) {g:Option Bool} {s n:Nat} {cs:List D} (h:st.qg d=some (g,s,n,cs)):S7 w (ah C w S H) s n cs u:=by
  cases d with
  | nil k=>
    simp only [St.qg,Option.some.injEq,Prod.mk.injEq] at h
    obtain ⟨_,rfl,rfl,rfl⟩:=h
    have:=UE hd
    subst this
    exact ⟨none,0,rfl,Nat.le_refl _,by simp,.inl rfl⟩
  | sl b s' n' cs'=>
    simp only [St.qg,Option.some.injEq,Prod.mk.injEq] at h
    obtain ⟨rfl,rfl,rfl,rfl⟩:=h
    cases b with
    | none=>exact absurd hd (by simp [cy,gI,bB,Ext])
    | some b=>exact AL (t:=.v (.sl (some b) s' n' cs') u) hd rfl
  | ref r q o x=>
    simp only [St.qg] at h
    split at h
    case h_2=>simp at h
    rename_i b s' n' cs' hc
    simp only [Option.some.injEq,Prod.mk.injEq] at h
    obtain ⟨rfl,rfl,rfl,rfl⟩:=h
    obtain ⟨R,l,t,h1,h2,h3,h4,h5⟩:=iS gf hc
    exact aaQ h5.symm (hd t h4) (AL (tA hm h1 h2 h3 h5.symm) h5.symm)
  | _=>simp [St.qg] at h
variable {c:cB} (av:ez c P)
include av
theorem UI (gf:hI st.rt S) (hm:Mem C w S H) {t:TypeId} {d d':D} {u:Value} (hd:cy w (ah C w S H) S d u) (h:NH c st t d=some d') (ty:TypeId):∃ r,(∀ w:World,(Builtin.len_ #[t] ty #[u]).run P w=.ok r w)∧cy w (ah C w S H) S d' r:=by
  unfold NH at h
  split at h
  · rename_i lZ
    obtain ⟨dd,h1,h2⟩:=(av.ty t _ lZ).desc
    simp only [kD] at h2
    subst h2
    have:=xQ hd
    subst this
    simp only [Option.some.injEq] at h
    subst h
    exact ⟨_,by intro w; simp [Builtin.len_,run_underlying h1]; rfl,rfl⟩
  · rename_i e lZ
    obtain ⟨dd,h1,h2⟩:=(av.ty t _ lZ).desc
    simp only [kD] at h2
    subst h2
    split at h
    case h_2=>simp at h
    rename_i hs
    simp only [Option.some.injEq] at h
    subst h
    obtain ⟨base,cap,rfl,_⟩:=(Nk gf hm hd hs).ok
    exact ⟨_,by intro w; simp [Builtin.len_,run_underlying h1]; rfl,rfl⟩
  · simp at h
end
end Go.Proofs.YtockoilcnmljiaaGreat
namespace Go.Proofs.YtockoilcnmljiaaGreat
theorem qM {P:Program} {w:World} {t e:TypeId} {A:Addr} {n cap:Nat} {k:IntKind} {i:Int} {sz:Nat} (h:P.underlying t=some (.slice e)) (hs:(Go.sizeOf e).run P w=Result.ok sz w) (h0:0≤i) (h1:i < n):
    (Instr.indexAt t (.slice (some A) n cap) (.int k i)).run P w=.ok (.pointer (some (A.add (i.toNat*sz)))) w:=by
  simp [Instr.indexAt,run_underlying h,asIntOf,h0,h1,hs]
theorem wH {P:Program} {w:World} {t e:TypeId} {A:Addr} {n:Nat} {k:IntKind} {i:Int} {sz:Nat} (h:P.underlying t=some (.array n e)) (hs:(Go.sizeOf e).run P w=Result.ok sz w) (h0:0≤i) (h1:i < n):
    (Instr.indexAt t (.pointer (some A)) (.int k i)).run P w=.ok (.pointer (some (A.add (i.toNat*sz)))) w:=by
  simp [Instr.indexAt,run_underlying h,asIntOf,h0,h1,hs,Instr.sureAddr]
theorem mH {i:Int} {n:Nat} {d:Option D} {d':D} (h:kr i n d=some d'):0≤i∧i < n∧d=some d':=by
  unfold kr at h
  split at h
  · split at h
    · exact ⟨by assumption,by assumption,h⟩
    · simp at h
  · simp at h
section
variable {P:Program} {c:cB} (av:ez c P) {C:Ctx} {Hx:List T} {w:World} {S:List (Nat × RT)} {st:St} (gf:hI st.rt S) (hm:Mem C w S Hx)
include av gf hm
theorem AM {t:TypeId} {d d':D} {u:Value} {k:IntKind} {i:Int} (hd:cy w (ah C w S Hx) S d u) (h:qK st c t d i=some d'):
    ∃ r,(∀ w:World,(Instr.indexAt t u (.int k i)).run P w=.ok r w)∧cy w (ah C w S Hx) S d' r:=by
  unfold qK at h
  split at h
  · rename_i e sz qk z lZ
    obtain ⟨dd,h1,h2⟩:=(av.ty t _ lZ).desc
    simp only [kD] at h2
    subst h2
    split at h
    case h_2=>simp at h
    rename_i ei vp
    have cV:=fun w=>(av.ty e ei vp).sz w
    split at h
    · rename_i r q o x
      split at h
      · rename_i s n cs hc
        split at h
        case isFalse=>simp at h
        rename_i hs
        obtain ⟨hs,Zx⟩:=hs
        subst hs
        obtain ⟨h3,h4,h5⟩:=mH h
        simp only [Option.some.injEq] at h5
        subst h5
        obtain ⟨R,l,t',h6,h7,h8,h9,mZ⟩:=iS gf hc
        obtain ⟨cap,a,ts,rfl,rfl⟩:=F1 mZ.symm
        have dZ:=tA hm h6 h7 h8 mZ.symm
        have hr:=hd _ h9
        have qN:0 < (trim x ei.size n (bw ts)).1:=by omega
        simp only [bL] at dZ
        obtain ⟨g1,g2,g3,g4⟩:=dZ
        obtain ⟨Gb,ha2⟩:=NR (bx:=R.box) h7 h8
        have key:∃ b off0 n' c',a=some (b,off0)∧u=.slice (some ⟨b,off0+off x*ei.size,none⟩) n' c'∧n'=(trim x ei.size n (bw ts)).1:=by
          cases x with
          | none=>
            simp only [eS,sn,T.er,T.val,wE] at hr
            cases a with
            | none=>simp only [trim] at qN; omega
            | some p=>exact ⟨p.1,p.2,n,cap,rfl,by simp [hr,off],rfl⟩
          | some p=>
            obtain ⟨l0,m⟩:=p
            simp only [eS,sn,T.er,T.val,wE,Value.slice.injEq] at hr
            obtain ⟨e1,base,C0,k0,⟨e2,_,e3⟩,e4,rfl,e5⟩:=hr
            subst e3
            simp only [trim] at qN
            cases a with
            | none=>simp only at g3; omega
            | some p=>
              simp only [Option.map_some] at e2
              subst e2
              have:k0=l0:=by
                rcases e5 with e5 | e5
                · omega
                · exact e5
              subst this
              exact ⟨p.1,p.2,m,cap - k0,rfl,by rw [Option.map_some,eZ]; rfl,rfl⟩
        obtain ⟨b,off0,n',c',rfl,rfl,rfl⟩:=key
        refine ⟨_,fun w=>qM h1 (cV w) h3 h4,?_⟩
        intro R' eu
        rw [h6,Option.some.injEq] at eu
        subst eu
        refine ⟨fun e=>by simp at e,fun b' Eo fX=>?_⟩
        rw [Gb,Option.some.injEq,Prod.mk.injEq] at fX
        obtain ⟨rfl,rfl⟩:=fX
        rw [eZ,Nat.add_mul,Nat.add_assoc]
      · rename_i g s n cs hc
        split at h
        case isFalse=>simp at h
        rename_i hs
        obtain ⟨hs,Zx⟩:=hs
        subst hs
        obtain ⟨h3,h4,h5⟩:=mH h
        simp only [Option.some.injEq] at h5
        subst h5
        obtain ⟨R,l,t',h6,h7,h8,h9,mZ⟩:=iS gf hc
        have dZ:=tA hm h6 h7 h8 mZ.symm
        have hr:=hd _ h9
        have qN:0 < (trim x ei.size n cs).1:=by omega
        cases t' with
        | own s' n' cap a ts=>simp [T.er] at mZ
        | v dd uu=>
          simp only [bL] at dZ
          simp only [T.er] at mZ
          rw [← mZ] at dZ
          simp only [Ext] at dZ
          obtain ⟨base,cap,us,e1,e2,e3,e4,e5⟩:=dZ
          have dc:cs≠[]:=by
            intro eM
            subst eM
            simp only [List.length_nil] at e3
            rcases Nat.mul_eq_zero.1 e3.symm with hn | hn
            · subst hn
              cases x with
              | none=>simp [trim] at qN
              | some p=>
                simp only [eS,sn,T.er,← mZ] at hr
                obtain ⟨e6,_⟩:=hr
                simp only [trim] at qN; omega
            · omega
          rcases e5 with e5 | ⟨kb,off0,cc,e,fz,e6,e7,e8,e9⟩
          · exact absurd e5 dc
          · subst e6
            have key:∃ n' c',u=.slice (some ⟨kb,off0+off x*ei.size,none⟩) n' c'∧n'=(trim x ei.size n cs).1:=by
              cases x with
              | none=>
                simp only [eS,sn,T.er,← mZ,T.val] at hr
                exact ⟨n,cap,by simp [hr,e1,off],rfl⟩
              | some p=>
                obtain ⟨l0,m⟩:=p
                simp only [eS,sn,T.er,← mZ,T.val,e1,Value.slice.injEq] at hr
                obtain ⟨f1,S8,C0,k0,⟨f2,_,f3⟩,f4,rfl,f5⟩:=hr
                subst f3; subst f2
                simp only [trim] at qN
                have:k0=l0:=by
                  rcases f5 with f5 | f5
                  · omega
                  · exact f5
                subst this
                exact ⟨m,cap - k0,by rw [Option.map_some,eZ]; rfl,rfl⟩
            obtain ⟨n',c',rfl,rfl⟩:=key
            refine ⟨_,fun w=>qM h1 (cV w) h3 h4,kb,off0,cc,e,fz,us,?_,?_,e8,e4,e9⟩
            · rw [eZ,Nat.add_mul,Nat.add_assoc]
            · exact ⟨e7.1,e7.2.1,e7.2.2.1,fun h=>by simp at h⟩
      · simp at h
    · rename_i g s n cs
      split at h
      case isFalse=>simp at h
      rename_i hs
      obtain ⟨hs,Zx⟩:=hs
      subst hs
      obtain ⟨h3,h4,h5⟩:=mH h
      simp only [Option.some.injEq] at h5
      subst h5
      have tB:Ext w (ah C w S Hx) (.sl (some g) ei.size n cs) u:=hd
      simp only [Ext] at tB
      obtain ⟨base,cap,us,rfl,e2,e3,e4,e5⟩:=tB
      rcases e5 with e5 | ⟨kb,off0,cc,e,fz,rfl,e7,e8,e9⟩
      · exfalso
        subst e5
        simp only [List.length_nil] at e3
        rcases Nat.mul_eq_zero.1 e3.symm with hn | hn<;>omega
      · refine ⟨_,fun w=>qM h1 (cV w) h3 h4,kb,off0,cc,e,fz,us,by rw [eZ],?_,e8,e4,e9⟩
        exact ⟨e7.1,e7.2.1,e7.2.2.1,fun h=>by simp at h⟩
    · simp at h
  · rename_i n e sz qk z lZ
    obtain ⟨dd,h1,h2⟩:=(av.ty t _ lZ).desc
    simp only [kD] at h2
    subst h2
    split at h
    case h_2=>simp at h
    rename_i ei vp
    have cV:=fun w=>(av.ty e ei vp).sz w
    split at h
    · rename_i r q o
      split at h
      case isFalse=>simp at h
      rename_i hl
      obtain ⟨h3,h4,h5⟩:=mH h
      simp only [Option.some.injEq] at h5
      subst h5
      obtain ⟨R,b,off0,hR,ha,rfl⟩:=uU gf hm hl hd
      refine ⟨_,fun w=>wH h1 (cV w) h3 h4,?_⟩
      rw [eZ,Nat.add_assoc]
      exact UH hd hR ha
    · rename_i cs o
      obtain ⟨h3,h4,h5⟩:=mH h
      simp only [Option.some.injEq] at h5
      subst h5
      obtain ⟨b,off0,cc,e',fz,us,rfl,h6⟩:=hd
      exact ⟨_,fun w=>wH h1 (cV w) h3 h4,b,off0,cc,e',fz,us,by rw [eZ,Nat.add_assoc],h6⟩
    · simp at h
  · simp at h
end
end Go.Proofs.YtockoilcnmljiaaGreat
namespace Go.Proofs.YtockoilcnmljiaaGreat
theorem add_add (A:Addr) (i j:Nat):(A.add i).add j=A.add (i+j):=by
  unfold Addr.add
  split<;>split<;>split<;>first | rfl | omega | simp_all [Nat.add_assoc]
theorem NU (b:Option Addr):b.map (·.add 0)=b:=by
  cases b<;>simp [Addr.add]
def UJ (d:Option D) (u:Option Value):Prop:=(d=none∧u=none)∨∃ k i,d=some (.int k i)∧u=some (.int k i)
theorem Gc {w:World} {X:Bool→Nat→Prop} {S:List (Nat × RT)} {d:Option D} {u:Option Value} (h:(d=none∧u=none)∨∃ x y,d=some x∧u=some y∧cy w X S x y) {z i:Int} (hb:bound d z=some i):UJ d u:=by
  rcases h with h | ⟨x,y,rfl,rfl,h⟩
  · exact .inl h
  · cases x<;>simp [bound] at hb
    have:=gz h
    subst this
    exact .inr ⟨_,_,rfl,rfl⟩
theorem Gd {P:Program} {w:World} {is:Bool} {len cap:Nat} {dl dh:Option D} {ul uh:Option Value} {l h:Int} (h1:UJ dl ul) (h2:UJ dh uh) (hl:bound dl 0=some l) (hh:bound dh len=some h) (h0:0≤l) (Zy:l≤h) (hhn:h≤len) (yS:len≤cap):
    (Instr.sliceBounds is len cap ul uh none).run P w=.ok (l.toNat,h.toNat,cap) w:=by
  have e1:0≤h:=Int.le_trans h0 Zy
  have e2:h≤(cap:Int):=by omega
  have e3:l≤(h.toNat:Int):=by omega
  rcases h1 with ⟨rfl,rfl⟩ | ⟨k,i,rfl,rfl⟩<;>rcases h2 with ⟨rfl,rfl⟩ | ⟨k',i',rfl,rfl⟩<;>simp only [bound,Option.some.injEq] at hl hh<;>subst hl<;>subst hh
  · simp [Instr.sliceBounds]
  · simp [Instr.sliceBounds,Instr.sliceBound,asIntOf,e1,e2]
  · simp [Instr.sliceBounds,Instr.sliceBound,asIntOf,h0,Zy]
  · have e4:i≤((i'.toNat:Nat):Int):=e3
    simp only [Instr.sliceBounds,Instr.sliceBound,asIntOf,Sem.run_bind,Sem.run_pure,Result.andThen_ok,Sem.run_ite]
    rw [if_pos ⟨e1,e2⟩]
    simp only [Result.andThen_ok,Sem.run_pure,Sem.run_bind,Sem.run_ite]
    rw [if_pos ⟨h0,e4⟩]
    rfl
def KC (w:World) (X:Bool→Nat→Prop) (S:List (Nat × RT)) (d:Option D) (u:Option Value):Prop:=(d=none∧u=none)∨∃ x y,d=some x∧u=some y∧cy w X S x y
section
variable {P:Program} {w:World}
theorem LA {X:Bool→Nat→Prop} {S:List (Nat × RT)} {t:TypeId} (ht:P.underlying t=some .string) {s:ByteArray} {d':D} {dl dh:Option D} {ul uh:Option Value} (hl:KC w X S dl ul) (hh:KC w X S dh uh) (h:FZ s dl dh=some d'):
    ∃ r,(∀ w:World,(Instr.sliceAt t (.string s) ul uh none).run P w=.ok r w)∧cy w X S d' r:=by
  unfold FZ at h
  split at h
  case h_2=>simp at h
  rename_i l0 h0 e1 e2
  split at h
  case isFalse=>simp at h
  rename_i hc
  obtain ⟨i1,i2,i3⟩:=hc
  simp only [Option.some.injEq] at h
  subst h
  refine ⟨.string (s.extract l0.toNat h0.toNat),?_,rfl⟩
  intro w
  simp only [Instr.sliceAt,Sem.run_bind,run_underlying ht,Result.andThen_ok,Instr.slice]
  simp [Gd (Gc hl e1) (Gc hh e2) e1 e2 i1 i2 i3 (Nat.le_refl _)]
theorem LB {t e:TypeId} (ht:P.underlying t=some (.slice e)) {sz:Nat} (hs:(Go.sizeOf e).run P w=Result.ok sz w) {base:Option Addr} {n cap:Nat} {dl dh:Option D} {ul uh:Option Value} {l h:Int} (h1:UJ dl ul) (h2:UJ dh uh) (hl:bound dl 0=some l) (hh:bound dh n=some h) (h0:0≤l) (Zy:l≤h) (hhn:h≤n) (yS:n≤cap):
    (Instr.sliceAt t (.slice base n cap) ul uh none).run P w=.ok (.slice (if cap=l.toNat then base else base.map (·.add (l.toNat*sz))) (h.toNat - l.toNat) (cap - l.toNat)) w:=by
  simp only [Instr.sliceAt,Sem.run_bind,run_underlying ht,Result.andThen_ok,Instr.slice,Gd h1 h2 hl hh h0 Zy hhn yS,hs]
  rfl
end
section
variable {P:Program} {c:cB} (av:ez c P) {C:Ctx} {Hx:List T} {w:World} {S:List (Nat × RT)} {st:St} (gf:hI st.rt S) (hm:Mem C w S Hx)
include gf hm
theorem UK {t e:TypeId} (ht:P.underlying t=some (.slice e)) {sz:Nat} (hs:∀ w,(Go.sizeOf e).run P w=Result.ok sz w) {d d':D} {u:Value} {dl dh:Option D} {ul uh:Option Value} (hd:cy w (ah C w S Hx) S d u) (hl:KC w (ah C w S Hx) S dl ul) (hh:KC w (ah C w S Hx) S dh uh)
    (h:F0 st sz d dl dh=some d'):∃ r,(∀ w:World,(Instr.sliceAt t u ul uh none).run P w=.ok r w)∧cy w (ah C w S Hx) S d' r:=by
  unfold F0 at h
  split at h
  case h_2=>simp at h
  rename_i g s n cs gA
  split at h
  case h_2=>simp at h
  rename_i l0 h0 e1 e2
  split at h
  case isFalse=>simp at h
  rename_i hc
  obtain ⟨rfl,i1,i2,i3⟩:=hc
  have hSl:=Nk gf hm hd gA
  obtain ⟨base,cap,rfl,yS,hlen,acA⟩:=hSl.ok
  refine ⟨_,fun w=>LB ht (hs w) (Gc hl e1) (Gc hh e2) e1 e2 i1 i2 i3 yS,?_⟩
  have hle:l0.toNat≤h0.toNat∧h0.toNat≤n:=by omega
  cases d with
  | nil k=>
    simp only [Option.some.injEq] at h
    subst h
    have:=UE hd
    simp only [Value.slice.injEq] at this
    obtain ⟨rfl,rfl,rfl⟩:=this
    have:l0.toNat=0∧h0.toNat=0:=by omega
    rw [this.1,this.2]
    rfl
  | sl g' s' n' cs'=>
    simp only [St.qg,Option.some.injEq,Prod.mk.injEq] at gA
    obtain ⟨rfl,rfl,rfl,rfl⟩:=gA
    simp only [Option.some.injEq] at h
    subst h
    cases g' with
    | none=>exact absurd hd (by simp [cy,gI,bB,Ext])
    | some g'=>
      have tB:Ext w (ah C w S Hx) (.sl (some g') s' n' cs') (.slice base n' cap):=hd
      simp only [Ext,Value.slice.injEq] at tB
      obtain ⟨S8,uj,us,⟨rfl,_,rfl⟩,e3,e4,e5,e6⟩:=tB
      show Ext w (ah C w S Hx) (.sl (some g') s' (h0.toNat - l0.toNat) ((cs'.drop (l0.toNat*s')).take ((h0.toNat - l0.toNat)*s'))) _
      simp only [Ext]
      have Ge:((cs'.drop (l0.toNat*s')).take ((h0.toNat - l0.toNat)*s')).length=(h0.toNat - l0.toNat)*s':=by
        rw [List.length_take,List.length_drop,e4]
        have:l0.toNat*s'+(h0.toNat - l0.toNat)*s'≤n'*s':=by rw [← Nat.add_mul]; exact Nat.mul_le_mul_right _ (by omega)
        omega
      have dY:=(gZ cs' us).1 e5
      refine ⟨_,_,(us.drop (l0.toNat*s')).take ((h0.toNat - l0.toNat)*s'),rfl,by omega,Ge,(gZ _ _).2 ((dY.drop _).take _),?_⟩
      by_cases hz:(cs'.drop (l0.toNat*s')).take ((h0.toNat - l0.toNat)*s')=[]
      · exact .inl hz
      · right
        have qN:0 < (h0.toNat - l0.toNat)*s':=by
          rcases Nat.eq_zero_or_pos ((h0.toNat - l0.toNat)*s') with e7 | e7
          · exact absurd (List.length_eq_zero_iff.1 (by rw [Ge,e7])) hz
          · exact e7
        rcases e6 with e6 | ⟨kb,off0,cc,ee,fz,rfl,e7,e8,e9⟩
        · subst e6; simp at hz
        · have dc:¬ (cap=l0.toNat):=by
            intro e10
            have:h0.toNat - l0.toNat=0:=by omega
            simp [this] at qN
          refine ⟨kb,off0+l0.toNat*s',cc,ee,fz,by rw [if_neg dc,Option.map_some,eZ],e7,e8,fun j v hj=>?_⟩
          rw [List.getElem?_take] at hj
          split at hj
          · rw [List.getElem?_drop] at hj
            rw [Nat.add_assoc]; exact e9 _ _ hj
          · simp at hj
  | ref r q o y=>
    simp only [Option.some.injEq] at h
    subst h
    simp only [St.qg] at gA
    split at gA
    case h_2=>simp at gA
    rename_i g' s' n' cs' cS
    simp only [Option.some.injEq,Prod.mk.injEq] at gA
    obtain ⟨rfl,rfl,rfl,rfl⟩:=gA
    intro t' pk
    have hr:=hd t' pk
    obtain ⟨R,l,t'',h6,h7,h8,h9,mZ⟩:=iS gf cS
    rw [h9,Option.some.injEq] at pk
    subst pk
    unfold eS at hr ⊢
    rw [← mZ] at hr ⊢
    simp only [sn] at hr ⊢
    have hN:=(AL (tA hm h6 h7 h8 mZ.symm) mZ.symm).ok
    obtain ⟨b0,C0,f1,f2,_⟩:=hN
    cases y with
    | none=>
      simp only at hr
      simp only [trim,off,Nat.zero_add] at*
      rw [f1] at hr
      simp only [Value.slice.injEq] at hr
      obtain ⟨rfl,_,rfl⟩:=hr
      refine ⟨by omega,base,cap,if cap=l0.toNat then 0 else l0.toNat,f1,by split<;>omega,?_,?_⟩
      · split
        · rename_i e; simp [NU]
        · rfl
      · by_cases e:cap=l0.toNat
        · left; omega
        · right; simp [e]
    | some p=>
      obtain ⟨l1,m1⟩:=p
      simp only at hr
      obtain ⟨g1,b1,C1,k1,g2,g3,g4,g5⟩:=hr
      simp only [Value.slice.injEq] at g4
      obtain ⟨rfl,_,rfl⟩:=g4
      simp only [trim,off] at*
      rw [f1] at g2
      simp only [Value.slice.injEq] at g2
      obtain ⟨rfl,_,rfl⟩:=g2
      refine ⟨by omega,b0,C0,if C0 - l1=l0.toNat then k1 else k1+l0.toNat,f1,?_,?_,?_⟩
      · split
        · exact g3
        · rcases g5 with g5 | g5<;>omega
      · have e11:C0 - (l1+l0.toNat)=C0 - l1 - l0.toNat:=by omega
        rw [e11]
        split
        · rfl
        · congr 1
          cases b0 with
          | none=>rfl
          | some A=>simp [add_add,Nat.add_mul]
      · by_cases e:C0 - l1=l0.toNat
        · left; omega
        · right
          rw [if_neg e]
          rcases g5 with g5 | g5<;>omega
  | _=>simp [St.qg] at gA
include av
theorem NV {t:TypeId} {d d':D} {u:Value} {dl dh:Option D} {ul uh:Option Value} (hd:cy w (ah C w S Hx) S d u) (hl:KC w (ah C w S Hx) S dl ul) (hh:KC w (ah C w S Hx) S dh uh)
    (h:AE c st t d dl dh=some d'):∃ r,(∀ w:World,(Instr.sliceAt t u ul uh none).run P w=.ok r w)∧cy w (ah C w S Hx) S d' r:=by
  unfold AE at h
  split at h
  · rename_i lZ
    obtain ⟨dd,h1,h2⟩:=(av.ty t _ lZ).desc
    simp only [kD] at h2
    subst h2
    split at h
    case h_2=>simp at h
    have:=xQ hd
    subst this
    exact LA h1 hl hh h
  · rename_i e _ _ _ lZ
    obtain ⟨dd,h1,h2⟩:=(av.ty t _ lZ).desc
    simp only [kD] at h2
    subst h2
    split at h
    case h_2=>simp at h
    rename_i ei vp
    exact UK gf hm h1 (fun w=>(av.ty e ei vp).sz w) hd hl hh h
  · simp at h
end
end Go.Proofs.YtockoilcnmljiaaGreat
namespace Go.Proofs.YtockoilcnmljiaaGreat
def lC (t t':T):Prop:=t'.val=t.val∧∀ p,sn t'.er=some p→sn t.er=some p
theorem lC.refl (t:T):lC t t:=⟨rfl,fun _ h=>h⟩
theorem lC.trans {a b c:T} (h:lC a b) (h':lC b c):lC a c:=⟨h'.1.trans h.1,fun p e=>h.2 p (h'.2 p e)⟩
theorem kE {t t':T} (h:lC t t') {x:Option (Nat × Nat)} {u:Value} (hr:eS x t u):eS x t' u:=by
  unfold eS at hr ⊢
  cases he:sn t'.er with
  | some p=>
    rw [h.2 p he] at hr
    simp only at hr ⊢
    rw [h.1]
    exact hr
  | none=>trivial
theorem aaR {q:List Nat} {o:Nat} {t':T}:∀ {cs cs':List T} {q':List Nat} {o':Nat} {l':List T},dL (fun l=>l.set o t') cs q=some cs'→under (q++[o]) (q'++[o'])=none→aw cs' q'=some l'→
    ∃ l,aw cs q'=some l∧∀ t2,l'[o']?=some t2→∃ t1,l[o']?=some t1∧lC t1 t2:=by
  induction q with
  | nil=>
    intro cs cs' q' o' l' hm hu hc
    simp only [dL,Option.some.injEq] at hm
    subst hm
    cases q' with
    | nil=>
      simp only [aw,Option.some.injEq] at hc
      subst hc
      refine ⟨cs,rfl,fun t2 h2=>?_⟩
      simp only [List.nil_append,under] at hu
      split at hu
      · simp at hu
      · rename_i dc
        rw [List.getElem?_set_ne dc] at h2
        exact ⟨t2,h2,lC.refl _⟩
    | cons p q'=>
      simp only [List.nil_append,List.cons_append,under] at hu
      split at hu
      · simp at hu
      · rename_i dc
        rw [aw,List.getElem?_set_ne dc] at hc
        rw [aw]
        exact ⟨l',hc,fun t2 h2=>⟨t2,h2,lC.refl _⟩⟩
  | cons p q ih=>
    intro cs cs' q' o' l' hm hu hc
    rw [dL] at hm
    cases hp:cs[p]? with
    | none=>simp [hp] at hm
    | some x=>
      cases x with
      | v d u=>simp [hp] at hm
      | own s n cap a xs=>
        simp only [hp] at hm
        cases hx:dL (fun l=>l.set o t') xs q with
        | none=>simp [hx] at hm
        | some kz=>
          simp only [hx,Option.some.injEq] at hm
          subst hm
          obtain ⟨cX,_⟩:=List.getElem?_eq_some_iff.1 hp
          cases q' with
          | nil=>
            simp only [aw,Option.some.injEq] at hc
            subst hc
            refine ⟨cs,rfl,fun t2 h2=>?_⟩
            by_cases hpo:p=o'
            · subst hpo
              rw [List.getElem?_set_self cX,Option.some.injEq] at h2
              subst h2
              exact ⟨_,hp,rfl,fun p h=>by simpa [T.er,sn] using h⟩
            · rw [List.getElem?_set_ne hpo] at h2
              exact ⟨t2,h2,lC.refl _⟩
          | cons p' q'=>
            by_cases Gf:p=p'
            · subst Gf
              simp only [List.cons_append,under,if_true] at hu
              rw [aw,List.getElem?_set_self cX] at hc
              simp only at hc
              obtain ⟨l,h1,h2⟩:=ih hx hu hc
              exact ⟨l,by rw [aw,hp]; exact h1,h2⟩
            · rw [aw,List.getElem?_set_ne Gf] at hc
              exact ⟨l',by rw [aw]; exact hc,fun t2 h2=>⟨t2,h2,lC.refl _⟩⟩
theorem sm {q:List Nat} {o:Nat} {t':T}:∀ {cs cs':List T} {q':List Nat} {bx:Option Nat},dL (fun l=>l.set o t') cs q=some cs'→under (q++[o]) q'=none→cb bx cs' q'=cb bx cs q':=by
  induction q with
  | nil=>
    intro cs cs' q' bx hm hu
    simp only [dL,Option.some.injEq] at hm
    subst hm
    cases q' with
    | nil=>rfl
    | cons p q'=>
      simp only [List.nil_append,under] at hu
      split at hu
      · simp at hu
      · rename_i dc
        rw [cb,cb,List.getElem?_set_ne dc]
  | cons p q ih=>
    intro cs cs' q' bx hm hu
    rw [dL] at hm
    cases hp:cs[p]? with
    | none=>simp [hp] at hm
    | some x=>
      cases x with
      | v d u=>simp [hp] at hm
      | own s n cap a xs=>
        simp only [hp] at hm
        cases hx:dL (fun l=>l.set o t') xs q with
        | none=>simp [hx] at hm
        | some kz=>
          simp only [hx,Option.some.injEq] at hm
          subst hm
          obtain ⟨cX,_⟩:=List.getElem?_eq_some_iff.1 hp
          cases q' with
          | nil=>rfl
          | cons p' q'=>
            rw [cb,cb]
            by_cases Gf:p=p'
            · subst Gf
              simp only [List.cons_append,under,if_true] at hu
              rw [List.getElem?_set_self cX,hp]
              simp only
              cases q' with
              | nil=>rfl
              | cons y ys=>exact ih (bx:=none) hx hu
            · rw [List.getElem?_set_ne Gf]
theorem jt {q:List Nat}:∀ {x y:List Nat},under q x=some y→x=q++y:=by
  induction q with
  | nil=>intro x y h; simp only [under,Option.some.injEq] at h; exact h
  | cons p q ih=>
    intro x y h
    cases x with
    | nil=>simp [under] at h
    | cons z zs=>
      simp only [under] at h
      split at h
      · rename_i e; subst e; simp [ih h]
      · simp at h
theorem Xe {q:List Nat} {o:Nat} {t':T} {cs cs':List T} (hm:dL (fun l=>l.set o t') cs q=some cs') {l':List T} (hc:aw cs' q=some l') {t2:T} (h2:l'[o]?=some t2):t2=t':=by
  obtain ⟨l,h3,h4⟩:=nU hm
  rw [h4,Option.some.injEq] at hc
  subst hc
  obtain ⟨cX,he⟩:=List.getElem?_eq_some_iff.1 h2
  rw [← he]; simp
theorem Gg {q:List Nat} {o:Nat} {y:List Nat} {d:D} {u:Value}:∀ {cs l:List T},aw cs q=some l→l[o]?=some (.v d u)→aw cs (q++o::y)=none:=by
  induction q with
  | nil=>
    intro cs l hc ho
    simp only [aw,Option.some.injEq] at hc
    subst hc
    simp [aw,ho]
  | cons p q ih=>
    intro cs l hc ho
    rw [aw] at hc
    cases hp:cs[p]? with
    | none=>simp [hp] at hc
    | some x=>
      cases x with
      | v d u=>simp [hp] at hc
      | own s n cap a xs=>
        simp only [hp] at hc
        rw [List.cons_append,aw,hp]
        exact ih hc ho
theorem UL {q:List Nat} {o:Nat} {y:List Nat} {d:D} {u:Value}:∀ {cs l:List T} {bx:Option Nat},aw cs q=some l→l[o]?=some (.v d u)→cb bx cs (q++o::y)=none:=by
  induction q with
  | nil=>
    intro cs l bx hc ho
    simp only [aw,Option.some.injEq] at hc
    subst hc
    simp [cb,ho]
  | cons p q ih=>
    intro cs l bx hc ho
    rw [aw] at hc
    cases hp:cs[p]? with
    | none=>simp [hp] at hc
    | some x=>
      cases x with
      | v d u=>simp [hp] at hc
      | own s n cap a xs=>
        simp only [hp] at hc
        rw [List.cons_append,cb,hp]
        simp only
        have:=ih (bx:=none) hc ho
        cases hq:q++o::y with
        | nil=>simp at hq
        | cons z zs=>rw [hq] at this; exact this
structure kF (S S':List (Nat × RT)) (r:Nat) (q:List Nat) (o:Nat) (t t':T):Prop where
  ex:∃ R cs' l,lk S r=some R∧aw R.cs q=some l∧l[o]?=some t∧dL (fun l=>l.set o t') R.cs q=some cs'∧S'=pt S r ⟨R.box,cs'⟩
section
variable {S S':List (Nat × RT)} {r:Nat} {q:List Nat} {o:Nat} {t t':T} (hc:kF S S' r q o t t')
include hc
theorem kF.Nl {r':Nat} (h:r'≠r):lk S' r'=lk S r':=by
  obtain ⟨R,cs',l,h1,h2,h3,h4,rfl⟩:=hc.ex
  exact dJ _ _ h
theorem kF.box {r':Nat} {R':RT} (h:lk S' r'=some R'):∃ R,lk S r'=some R∧R.box=R'.box:=by
  by_cases he:r'=r
  · subst he
    obtain ⟨R,cs',l,h1,h2,h3,h4,rfl⟩:=hc.ex
    rw [cH,Option.some.injEq] at h
    subst h
    exact ⟨R,h1,rfl⟩
  · rw [hc.Nl he] at h
    exact ⟨R',h,rfl⟩
theorem kF.vq {r':Nat} {q':List Nat} {o':Nat} (hf:r'≠r∨under (q++[o]) (q'++[o'])=none) {t2:T} (h:cA S' r' q' o'=some t2):∃ t1,cA S r' q' o'=some t1∧lC t1 t2:=by
  by_cases he:r'=r
  · subst he
    have hf:under (q++[o]) (q'++[o'])=none:=by rcases hf with hf | hf<;>first | exact absurd rfl hf | exact hf
    obtain ⟨R,cs',l,h1,h2,h3,h4,rfl⟩:=hc.ex
    unfold cA at h ⊢
    rw [cH] at h
    rw [h1]
    simp only at h ⊢
    cases hx:aw cs' q' with
    | none=>simp [hx] at h
    | some l'=>
      simp only [hx] at h
      obtain ⟨l1,h5,h6⟩:=aaR h4 hf hx
      rw [h5]
      exact h6 t2 h
  · unfold cA at h ⊢
    rw [hc.Nl he] at h
    exact ⟨t2,h,lC.refl _⟩
theorem kF.KD {t2:T} (h:cA S' r q o=some t2):t2=t':=by
  obtain ⟨R,cs',l,h1,h2,h3,h4,rfl⟩:=hc.ex
  unfold cA at h
  rw [cH] at h
  simp only at h
  cases hx:aw cs' q with
  | none=>simp [hx] at h
  | some l'=>
    simp only [hx] at h
    exact Xe h4 hx h
theorem kF.Ep:cA S' r q o=some t':=by
  obtain ⟨R,cs',l,h1,h2,h3,h4,rfl⟩:=hc.ex
  obtain ⟨l',h5,h6⟩:=nU h4
  rw [h2,Option.some.injEq] at h5
  subst h5
  unfold cA
  rw [cH]
  simp only [h6]
  rw [List.getElem?_set_self (List.getElem?_eq_some_iff.1 h3).1]
theorem kF.NW:cA S r q o=some t:=by
  obtain ⟨R,cs',l,h1,h2,h3,h4,rfl⟩:=hc.ex
  simp [cA,h1,h2,h3]
theorem kF.sm {r':Nat} {q':List Nat} (hf:r'≠r∨under (q++[o]) q'=none) {R':RT} (h:lk S' r'=some R'):∃ R,lk S r'=some R∧R.box=R'.box∧cb R'.box R'.cs q'=cb R.box R.cs q':=by
  by_cases he:r'=r
  · subst he
    have hf:under (q++[o]) q'=none:=by rcases hf with hf | hf<;>first | exact absurd rfl hf | exact hf
    obtain ⟨R,cs',l,h1,h2,h3,h4,rfl⟩:=hc.ex
    rw [cH,Option.some.injEq] at h
    subst h
    exact ⟨R,h1,rfl,sm h4 hf⟩
  · rw [hc.Nl he] at h
    exact ⟨R',h,rfl,rfl⟩
theorem kF.fts:∃ A B,cL S=A++t.ft++B∧cL S'=A++t'.ft++B:=by
  obtain ⟨R,cs',l,h1,h2,h3,h4,rfl⟩:=hc.ex
  obtain ⟨A,B,h5,h6⟩:=lY h1
  obtain ⟨A',B',h7,h8⟩:=SZ h2 h3
  refine ⟨A++R.box.toList++A',B'++B,?_,?_⟩
  · rw [h5,RT.ft,h7]; simp
  · rw [h6,RT.ft,h8 t' cs' h4]; simp
theorem kF.Xf {d:D} {u:Value} (ht:t'=.v d u) {r':Nat} {q':List Nat} {o':Nat} {y:Nat} {ys:List Nat} (hr:r'=r) (hy:under (q++[o]) (q'++[o'])=some (y::ys)):cA S' r' q' o'=none:=by
  subst hr; subst ht
  obtain ⟨R,cs',l,h1,h2,h3,h4,rfl⟩:=hc.ex
  obtain ⟨l',h5,h6⟩:=nU h4
  rw [h2,Option.some.injEq] at h5
  subst h5
  have h7:(l.set o (.v d u))[o]?=some (.v d u):=List.getElem?_set_self (List.getElem?_eq_some_iff.1 h3).1
  have h8:=jt hy
  have h9:q'=q++o::(y::ys).dropLast∧o'=(y::ys).getLast (by simp):=by
    have e1:q'++[o']=(q++o::(y::ys).dropLast)++[(y::ys).getLast (by simp)]:=by
      rw [h8]; simp only [List.append_assoc,List.singleton_append,List.cons_append,List.nil_append]; rw [List.dropLast_concat_getLast]
    exact ⟨List.append_inj_left' e1 rfl,by have:=List.append_inj_right' e1 rfl; simpa using this⟩
  unfold cA
  rw [cH]
  simp only
  rw [h9.1,Gg h6 h7]
theorem kF.Xg {d:D} {u:Value} (ht:t'=.v d u) {q' y:List Nat} (hy:under (q++[o]) q'=some y) {R':RT} (h:lk S' r=some R'):cb R'.box R'.cs q'=none:=by
  subst ht
  obtain ⟨R,cs',l,h1,h2,h3,h4,rfl⟩:=hc.ex
  obtain ⟨l',h5,h6⟩:=nU h4
  rw [h2,Option.some.injEq] at h5
  subst h5
  have h7:(l.set o (.v d u))[o]?=some (.v d u):=List.getElem?_set_self (List.getElem?_eq_some_iff.1 h3).1
  rw [cH,Option.some.injEq] at h
  subst h
  rw [jt hy,List.append_assoc]
  exact UL h6 h7
end
end Go.Proofs.YtockoilcnmljiaaGreat
namespace Go.Proofs.YtockoilcnmljiaaGreat
section
variable {w w':World} {X X':Bool→Nat→Prop} {S S':List (Nat × RT)}
theorem wI {d:D} {u:Value} (h:cy w X S d u):(∃ ds us,d=.aP ds∧u=.tuple us∧cj (gI w X S) ds us.toList)∨((∀ ds,d≠.aP ds)∧gI w X S d u):=by
  cases d<;>first | exact .inr ⟨by simp,h⟩ | (obtain ⟨us,h1,h2⟩:=h; exact .inl ⟨_,us,rfl,h1,h2⟩)
theorem tC {d:D} {u:Value} (h:gI w X S d u):(∃ cs us,d=.agg cs∧u=.agg us∧cj (bB w X S) cs us.toList)∨(∃ f cs us,d=.fn f cs∧u=.func (.func f) #[] us∧cj (bB w X S) cs us.toList)∨((∀ cs,d≠.agg cs)∧(∀ f cs,d≠.fn f cs)∧bB w X S d u):=by
  cases d<;>first | exact .inr (.inr ⟨by simp,by simp,h⟩) | (obtain ⟨us,h1,h2⟩:=h; exact .inl ⟨_,us,rfl,h1,h2⟩) | (obtain ⟨us,h1,h2⟩:=h; exact .inr (.inl ⟨_,_,us,rfl,h1,h2⟩))
theorem aaS {f:D→D} (h:∀ d u,bB w X S d u→bB w' X' S' (f d) u) {d:D} {u:Value} (hd:cy w X S d u):cy w' X' S' (pg f d) u:=by
  have ha:∀ d u,gI w X S d u→gI w' X' S' (fh f d) u:=by
    intro d u hd
    rcases tC hd with ⟨cs,us,rfl,rfl,ha⟩ | ⟨g,cs,us,rfl,rfl,ha⟩ | ⟨h1,h2,h3⟩
    · exact ⟨us,rfl,ha.map f (fun _ _=>h _ _)⟩
    · exact ⟨us,rfl,ha.map f (fun _ _=>h _ _)⟩
    · have:fh f d=f d:=by cases d<;>first | rfl | exact absurd rfl (h1 _) | exact absurd rfl (h2 _ _)
      rw [this]; exact ey (h _ _ h3)
  rcases wI hd with ⟨ds,us,rfl,rfl,hb⟩ | ⟨h1,h2⟩
  · exact ⟨us,rfl,hb.map _ (fun _ _=>ha _ _)⟩
  · have:pg f d=fh f d:=by cases d<;>first | rfl | exact absurd rfl (h1 _)
    rw [this]; exact kC (ha _ _ h2)
theorem aaT {α:Type} (f:α→α) (l:List (Nat × α)) (k:Nat):lk (gb f l) k=(lk l k).map f:=by
  induction l with
  | nil=>rfl
  | cons e t ih=>
    obtain ⟨j,v⟩:=e
    simp only [gb,lk]
    split<;>simp [ih]
theorem Xh {f:D→D} (h:∀ d u,bB w X S d u→bB w' X' S' (f d) u) {tm:List (Nat × D)} {vs:Array Value} (ht:mA w X S tm vs):mA w' X' S' (gb (pg f) tm) vs:=by
  intro t
  rw [aaT]
  have:=ht t
  cases hx:lk tm t with
  | none=>simpa [hx] using mB _
  | some d=>rw [hx] at this; simpa using aaS h this
theorem ql (h:∀ d u,bB w X S d u→bB w' X' S' d u) {d:D} {u:Value} (hd:cy w X S d u):cy w' X' S' d u:=by
  have ha:∀ d u,gI w X S d u→gI w' X' S' d u:=by
    intro d u hd
    rcases tC hd with ⟨cs,us,rfl,rfl,ha⟩ | ⟨g,cs,us,rfl,rfl,ha⟩ | ⟨h1,h2,h3⟩
    · exact ⟨us,rfl,ha.mono h⟩
    · exact ⟨us,rfl,ha.mono h⟩
    · exact ey (h _ _ h3)
  rcases wI hd with ⟨ds,us,rfl,rfl,hb⟩ | ⟨h1,h2⟩
  · exact ⟨us,rfl,hb.mono ha⟩
  · exact kC (ha _ _ h2)
theorem xr (h:∀ d u,bB w X S d u→bB w' X' S' d u) {tm:List (Nat × D)} {vs:Array Value} (ht:mA w X S tm vs):mA w' X' S' tm vs:=fun t=>ql h (ht t)
end
def ju (w w':World) (X X':Bool→Nat→Prop):Prop:=∀ b k,X b k→X' b k∧w'.heap[k]?=w.heap[k]?
theorem ju.refl (w:World) (X:Bool→Nat→Prop):ju w w X X:=fun _ _ h=>⟨h,rfl⟩
section
variable {w w':World} {X X':Bool→Nat→Prop} {S S':List (Nat × RT)} (hX:ju w w' X X')
include hX
theorem oM {cs:List D} {o:Nat} {u:Value} (h:bB w X S (.cJ cs o) u):bB w' X' S' (.cJ cs o) u:=by
  obtain ⟨b,off,c,e,fz,us,h1,h2,h3,h4,h5⟩:=h
  exact ⟨b,off,c,e,fz,us,h1,(hX _ _ h2).1,by rw [(hX _ _ h2).2]; exact h3,tw hX _ _ h4,h5⟩
theorem pq {d:D} (hr:∀ r q o x,d≠.ref r q o x) (hp:∀ r q o,d≠.ptr r q o) (hq:∀ cs o,d≠.cJ cs o) {u:Value} (h:bB w X S d u):bB w' X' S' d u:=by
  cases d with
  | ref r q o x=>exact absurd rfl (hr _ _ _ _)
  | ptr r q o=>exact absurd rfl (hp _ _ _)
  | cJ cs o=>exact absurd rfl (hq _ _)
  | _=>exact gv hX _ _ h
theorem NX {r:Nat} {q:List Nat} {o:Nat} {t:T} {d0:D} {u0:Value} (hc:kF S S' r q o t (.v d0 u0)) (hn:sn (bQ d0)=none∨lC t (.v d0 u0)) {d:D} {u:Value} (h:bB w X S d u):bB w' X' S' d u:=by
  cases d with
  | ref r' q' o' x=>
    intro t2 h2
    by_cases hf:r'≠r∨under (q++[o]) (q'++[o'])=none
    · obtain ⟨t1,h1,hl⟩:=hc.vq hf h2
      exact kE hl (h t1 h1)
    · have hr:r'=r:=Classical.byContradiction fun e=>hf (.inl e)
      cases hu:under (q++[o]) (q'++[o']) with
      | none=>exact absurd (.inr hu) hf
      | some y=>
        cases y with
        | nil=>
          have e1:=jt hu
          simp only [List.append_nil] at e1
          obtain ⟨rfl,e2⟩:=List.append_inj' e1 rfl
          simp only [List.cons.injEq,and_true] at e2
          subst e2; subst hr
          have:=hc.KD h2
          subst this
          rcases hn with hn | hn
          · unfold eS
            simp only [T.er,hn]
          · exact kE hn (h t hc.NW)
        | cons y ys=>rw [hc.Xf rfl hr hu] at h2; simp at h2
  | ptr r' q' o'=>
    intro R' eu
    obtain ⟨R,h1,h2⟩:=hc.box eu
    refine ⟨fun e=>by rw [← h2]; exact (h R h1).1 e,fun b off ha=>?_⟩
    by_cases hf:r'≠r∨under (q++[o]) q'=none
    · obtain ⟨R1,h3,h4,h5⟩:=hc.sm hf eu
      rw [h3,Option.some.injEq] at h1
      subst h1
      exact (h _ h3).2 b off (h5▸ha)
    · have hr:r'=r:=Classical.byContradiction fun e=>hf (.inl e)
      subst hr
      cases hu:under (q++[o]) q' with
      | none=>exact absurd (.inr hu) hf
      | some y=>rw [hc.Xg rfl hu eu] at ha; simp at ha
  | cJ cs o'=>exact oM hX h
  | _=>exact pq hX (by simp) (by simp) (by simp) h
theorem yT {r:Nat} {q:List Nat} {o:Nat} {t t':T} (hc:kF S S' r q o t t') {ex:Bool} (hl:ex=false→lC t t') {d:D} {u:Value} (h:bB w X S d u):bB w' X' S' (cz r q o ex d) u:=by
  cases d with
  | ref r' q' o' x=>
    simp only [cz]
    split
    · rename_i hr
      subst hr
      cases hu:under (q++[o]) (q'++[o']) with
      | none=>
        simp only
        intro t2 h2
        obtain ⟨t1,h1,hl⟩:=hc.vq (.inr hu) h2
        exact kE hl (h t1 h1)
      | some y=>
        cases y with
        | nil=>
          cases ex with
          | true=>simp [bB,Ext]
          | false=>
            simp only [Bool.false_eq_true,if_false]
            intro t2 h2
            have e1:=jt hu
            simp only [List.append_nil] at e1
            obtain ⟨rfl,e2⟩:=List.append_inj' e1 rfl
            simp only [List.cons.injEq,and_true] at e2
            subst e2
            have:=hc.KD h2
            subst this
            exact kE (hl rfl) (h t hc.NW)
        | cons y ys=>simp [bB,Ext]
    · rename_i hr
      intro t2 h2
      obtain ⟨t1,h1,hl⟩:=hc.vq (.inl hr) h2
      exact kE hl (h t1 h1)
  | ptr r' q' o'=>
    simp only [cz]
    split
    · rename_i hr
      subst hr
      cases hu:under (q++[o]) q' with
      | none=>
        simp only
        intro R' eu
        obtain ⟨R1,h3,h4,h5⟩:=hc.sm (.inr hu) eu
        exact ⟨fun e=>by rw [← h4]; exact (h R1 h3).1 e,fun b off ha=>(h R1 h3).2 b off (h5▸ha)⟩
      | some y=>simp [bB,Ext]
    · rename_i hr
      intro R' eu
      obtain ⟨R1,h3,h4,h5⟩:=hc.sm (.inl hr) eu
      exact ⟨fun e=>by rw [← h4]; exact (h R1 h3).1 e,fun b off ha=>(h R1 h3).2 b off (h5▸ha)⟩
  | cJ cs o'=>exact oM hX h
  | _=>simp only [cz]; exact pq hX (by simp) (by simp) (by simp) h
theorem Xi {r:Nat} {R:RT} (hS:S'=pt S r R) {d:D} {u:Value} (h:bB w X S d u):bB w' X' S' (cF r d) u:=by
  subst hS
  cases d with
  | ref r' q' o' x=>
    simp only [cF]
    split
    · simp [bB,Ext]
    · rename_i hr
      intro t2 h2
      unfold cA at h2
      rw [dJ _ _ hr] at h2
      exact h t2 h2
  | ptr r' q' o'=>
    simp only [cF]
    split
    · simp [bB,Ext]
    · rename_i hr
      intro R' eu
      rw [dJ _ _ hr] at eu
      exact h R' eu
  | cJ cs o'=>exact oM hX h
  | _=>simp only [cF]; exact pq hX (by simp) (by simp) (by simp) h
theorem aaU {r:Nat} {R0 R:RT} (h0:lk S r=some R0) (hb:R.box=R0.box) (hS:S'=pt S r R) {d:D} {u:Value} (h:bB w X S d u):bB w' X' S' (eC r d) u:=by
  subst hS
  cases d with
  | ref r' q' o' x=>
    simp only [eC]
    split
    · simp [bB,Ext]
    · rename_i hr
      intro t2 h2
      unfold cA at h2
      rw [dJ _ _ hr] at h2
      exact h t2 h2
  | ptr r' q' o'=>
    cases q' with
    | nil=>
      simp only [eC]
      intro R' eu
      by_cases hr:r'=r
      · subst hr
        rw [cH,Option.some.injEq] at eu
        subst eu
        refine ⟨fun e=>by rw [hb]; exact (h R0 h0).1 e,fun b off ha=>(h R0 h0).2 b off ?_⟩
        simp only [cb] at ha ⊢
        rw [← hb]; exact ha
      · rw [dJ _ _ hr] at eu
        exact h R' eu
    | cons p q'=>
      simp only [eC]
      split
      · simp [bB,Ext]
      · rename_i hr
        intro R' eu
        rw [dJ _ _ hr] at eu
        exact h R' eu
  | cJ cs o'=>exact oM hX h
  | _=>simp only [eC]; exact pq hX (by simp) (by simp) (by simp) h
theorem tD (hS:∀ r R,lk S' r=some R→lk S r=some R) {d:D} {u:Value} (h:bB w X S d u):bB w' X' S' d u:=by
  cases d with
  | ref r' q' o' x=>
    intro t2 h2
    unfold cA at h2
    cases hr:lk S' r' with
    | none=>simp [hr] at h2
    | some R=>
      refine h t2 ?_
      unfold cA
      rw [hS _ _ hr]
      rw [hr] at h2
      exact h2
  | ptr r' q' o'=>exact fun R' eu=>h R' (hS _ _ eu)
  | cJ cs o'=>exact oM hX h
  | _=>exact pq hX (by simp) (by simp) (by simp) h
end
theorem Xj (b:Bool) (d:D):iB b (bQ d)=bQ d:=by
  cases d with
  | sl g s n cs=>cases g<;>simp [bQ,iB]
  | _=>simp [bQ,iB]
mutual
theorem yU {w:World} {X X':Bool→Nat→Prop} (hX:∀ b k,X b k→X' b k) (b:Bool):∀ (t:T),bL w X t→(∀ k∈t.ft,X' b k)→Ext w X' (iB b t.er) t.val
  | .v d u,hs,_=>by
    simp only [bL] at hs
    have h2:Ext w X' (bQ d) u:=gv (fun b k h=>⟨hX b k h,rfl⟩) _ _ hs
    have h3:iB b (T.v d u).er=bQ d:=Xj b d
    rw [h3]; exact h2
  | .own s n cap a cs,hs,hf=>by
    simp only [bL] at hs
    obtain ⟨h1,h2,h3,h4⟩:=hs
    simp only [T.er,iB,Ext,T.val,wE]
    have h5:=DH hX b cs h4 (fun k hk=>hf k (by simp [T.ft,hk]))
    refine ⟨_,cap,aD cs,rfl,h1,?_,h5,?_⟩
    · have:=((gZ _ _).1 h5).len
      rw [this,bS,h2]
    · cases a with
      | none=>
        left
        have:cs.length=0:=by rw [h2,h3.1]; simp
        simp [List.length_eq_zero_iff.1 this,bw,cu]
      | some p=>
        obtain ⟨k,off⟩:=p
        obtain ⟨c,e,fz,h6,_,_,h7⟩:=h3
        exact .inr ⟨k,off,c,e,fz,rfl,hf k (by simp [T.ft,jg]),h6,h7⟩
theorem DH {w:World} {X X':Bool→Nat→Prop} (hX:∀ b k,X b k→X' b k) (b:Bool):∀ (ts:List T),bM w X ts→(∀ k∈ai ts,X' b k)→gd w X' (cu b (bw ts)) (aD ts)
  | [],_,_=>by simp [bw,cu,aD,gd]
  | t::ts,hs,hf=>by
    simp only [bM] at hs
    simp only [bw,cu,aD,gd]
    exact ⟨t.val,aD ts,rfl,yU hX b t hs.1 (fun k hk=>hf k (by simp [ai,hk])),DH hX b ts hs.2 (fun k hk=>hf k (by simp [ai,hk]))⟩
end
theorem KE (b:Bool):∀ (ds:List D) (k:Nat),cu b (ds.drop k)=(cu b ds).drop k
  | [],k=>by simp [cu]
  | d::ds,0=>rfl
  | d::ds,k+1=>by simp [cu,KE b ds k]
theorem KF (b:Bool):∀ (ds:List D) (k:Nat),cu b (ds.take k)=(cu b ds).take k
  | [],k=>by simp [cu]
  | d::ds,0=>rfl
  | d::ds,k+1=>by simp [cu,KF b ds k]
theorem NY {w:World} {X:Bool→Nat→Prop} {g:Bool} {s n:Nat} {cs:List D} {l m k C:Nat} {base:Option Addr} (h:Ext w X (.sl (some g) s n cs) (.slice base n C)) (h1:l+m≤n) (h2:k≤C) (h3:C - l=0∨k=l):
    Ext w X (.sl (some g) s m ((cs.drop (l*s)).take (m*s))) (.slice (base.map (·.add (k*s))) m (C - l)):=by
  simp only [Ext,Value.slice.injEq] at h ⊢
  obtain ⟨S8,uj,us,⟨rfl,_,rfl⟩,e3,e4,e5,e6⟩:=h
  have Ge:((cs.drop (l*s)).take (m*s)).length=m*s:=by
    rw [List.length_take,List.length_drop,e4]
    have:l*s+m*s≤n*s:=by rw [← Nat.add_mul]; exact Nat.mul_le_mul_right _ h1
    omega
  have dY:=(gZ cs us).1 e5
  refine ⟨_,_,(us.drop (l*s)).take (m*s),⟨rfl,trivial,rfl⟩,by omega,Ge,(gZ _ _).2 ((dY.drop _).take _),?_⟩
  by_cases hz:(cs.drop (l*s)).take (m*s)=[]
  · exact .inl hz
  · right
    have qN:0 < m*s:=by
      rcases Nat.eq_zero_or_pos (m*s) with e7 | e7
      · exact absurd (List.length_eq_zero_iff.1 (by rw [Ge,e7])) hz
      · exact e7
    rcases e6 with e6 | ⟨kb,off0,cc,ee,fz,rfl,e7,e8,e9⟩
    · subst e6; simp at hz
    · have Gh:m≠0:=fun e=>by simp [e] at qN
      have hkl:k=l:=by
        rcases h3 with h3 | h3
        · omega
        · exact h3
      subst hkl
      refine ⟨kb,off0+k*s,cc,ee,fz,by rw [Option.map_some,eZ],e7,e8,fun j v hj=>?_⟩
      rw [List.getElem?_take] at hj
      split at hj
      · rw [List.getElem?_drop] at hj
        rw [Nat.add_assoc]; exact e9 _ _ hj
      · simp at hj
theorem CT {w:World} {X X':Bool→Nat→Prop} (hX:∀ b k,X b k→X' b k) (b:Bool) {t:T} {g:Option Bool} {s n:Nat} {cs:List D} (he:t.er=.sl g s n cs) (hs:bL w X t) (hf:∀ k∈t.ft,X' b k) {x:Option (Nat × Nat)} {u:Value} (hr:eS x t u):
    Ext w X' (iB b (.sl g s (trim x s n cs).1 (trim x s n cs).2)) u:=by
  have h1:=yU hX b t hs hf
  unfold eS at hr
  rw [he] at hr h1
  simp only [sn] at hr
  cases x with
  | none=>simp only at hr; subst hr; exact h1
  | some p=>
    obtain ⟨l,m⟩:=p
    simp only at hr
    obtain ⟨h2,base,C,k,h3,h4,rfl,h5⟩:=hr
    rw [h3] at h1
    cases g with
    | none=>
      simp only [iB,trim] at h1 ⊢
      rw [KF,KE]
      exact NY h1 h2 h4 h5
    | some g=>
      simp only [iB,trim] at h1 ⊢
      exact NY h1 h2 h4 h5
end Go.Proofs.YtockoilcnmljiaaGreat
namespace Go.Proofs.YtockoilcnmljiaaGreat
theorem Rel.step {C:Ctx} {H H':List T} {w w':World} {st st':St} {aI:List (Array Value)} {S S':List (Nat × RT)} (h:Rel C H w st aI S) {f:D→D} (gf:hI st'.rt S') (fY:st'.tm=gb (pg f) st.tm) (NZ:st'.up=st.up.map (gb (pg f)))
    (dW:∀ d u,bB w (ah C w S H) S d u→bB w' (ah C w' S' H') S' (f d) u) (dn:Mem C w' S' H') (hk:Kept C w' S' H'):Rel C H' w' st' aI S':=by
  refine ⟨gf,dn,?_,hk⟩
  rw [fY,NZ,show gb (pg f) st.tm::st.up.map (gb (pg f))=(st.tm::st.up).map (gb (pg f)) from rfl]
  exact h.pj.map _ (fun _ _=>Xh dW)
theorem Rel.so {C:Ctx} {H H':List T} {w w':World} {st st':St} {aI:List (Array Value)} {S S':List (Nat × RT)} (h:Rel C H w st aI S) (gf:hI st'.rt S') (fY:st'.tm=st.tm) (NZ:st'.up=st.up)
    (dW:∀ d u,bB w (ah C w S H) S d u→bB w' (ah C w' S' H') S' d u) (dn:Mem C w' S' H') (hk:Kept C w' S' H'):Rel C H' w' st' aI S':=by
  refine ⟨gf,dn,?_,hk⟩
  rw [fY,NZ]
  exact h.pj.mono (fun _ _=>xr dW)
def GT (g:D→D) (t t1:T):Prop:=(∃ d d1 u,t=.v d u∧t1=.v d1 u∧bQ d1=g (bQ d))∨((∃ s n cap a xs,t=.own s n cap a xs)∧t1=t)
structure SR (g:D→D) (S S1:List (Nat × RT)):Prop where
  look:∀ r R1,lk S1 r=some R1→∃ R,lk S r=some R∧R1.box=R.box∧cj (GT g) R.cs R1.cs
  iE:cL S1=cL S
theorem GT.val {g:D→D} {t t1:T} (h:GT g t t1):t1.val=t.val∧t1.ft=t.ft:=by
  rcases h with ⟨d,d1,u,rfl,rfl,_⟩ | ⟨_,rfl⟩
  · exact ⟨rfl,rfl⟩
  · exact ⟨rfl,rfl⟩
theorem GT.acC {g:D→D} {ts ts1:List T} (h:cj (GT g) ts ts1):aD ts1=aD ts:=by
  induction h with
  | nil=>rfl
  | cons h1 _ ih=>simp [aD,h1.val.1,ih]
theorem SR.refl (S:List (Nat × RT)):SR id S S:=by
  refine ⟨fun r R1 h=>⟨R1,h,rfl,?_⟩,rfl⟩
  refine dq rfl (fun i a b ha hb=>?_)
  rw [ha,Option.some.injEq] at hb
  subst hb
  cases a with
  | v d u=>exact .inl ⟨d,d,u,rfl,rfl,rfl⟩
  | own s n cap aa xs=>exact .inr ⟨⟨s,n,cap,aa,xs,rfl⟩,rfl⟩
def fT (g:D→D):T→T
  | .v d u=>.v (fh g (bQ d)) u
  | t=>t
def fS (g:D→D):List (Nat × RT)→List (Nat × RT)
  | []=>[]
  | (k,R)::t=>(k,⟨R.box,R.cs.map (fT g)⟩)::fS g t
structure lD (g:D→D):Prop where
  sl:∀ b s n cs,g (.sl b s n cs)=.sl b s n cs
  hole:∀ s n,g (.hole s n)=.hole s n
  no:∀ d,sn d=none→sn (g d)=none
theorem Xk {d:D} (h:sn d=none):bQ d=d:=by
  cases d<;>first | rfl | simp [sn] at h
theorem DI (d:D):bQ (bQ d)=bQ d:=by
  cases d with
  | sl b s n cs=>cases b<;>rfl
  | _=>rfl
theorem aaV {d:D} {p:Nat × Nat} (h:sn (bQ d)=some p):(∃ b s n cs,bQ d=.sl (some b) s n cs)∨∃ s n,bQ d=.hole s n:=by
  cases d with
  | sl b s n cs=>
    cases b with
    | none=>simp [bQ,sn] at h
    | some b=>exact .inl ⟨b,s,n,cs,rfl⟩
  | hole s n=>exact .inr ⟨s,n,rfl⟩
  | _=>simp [bQ,sn] at h
theorem lD.acD {g:D→D} (hg:lD g) {d:D} (h:sn d=none):sn (fh g d)=none:=by
  cases d<;>first | rfl | (simp [sn] at h; done) | exact hg.no _ rfl
theorem lD.acE {g:D→D} (hg:lD g) (d:D):sn (fh g d)=sn d:=by
  cases d<;>first | rfl | (simp only [fh,hg.sl,hg.hole]; done) | exact hg.no _ rfl
theorem lD.leaf {g:D→D} (hg:lD g) (d:D):bQ (fh g (bQ d))=fh g (bQ d):=by
  cases hs:sn (bQ d) with
  | none=>exact Xk (hg.acD hs)
  | some p=>
    rcases aaV hs with ⟨b,s,n,cs,h⟩ | ⟨s,n,h⟩
    · rw [h]
      simp [fh,hg.sl,bQ]
    · rw [h]
      simp [fh,hg.hole,bQ]
theorem Nn {g:D→D} (hg:lD g) (t:T):(fT g t).er=fh g t.er:=by
  cases t with
  | v d u=>simp only [fT,T.er]; exact hg.leaf d
  | own s n cap a xs=>simp [fT,T.er,fh,hg.sl]
theorem lJ (g:D→D) (S:List (Nat × RT)) (k:Nat):lk (fS g S) k=(lk S k).map fun R=>⟨R.box,R.cs.map (fT g)⟩:=by
  induction S with
  | nil=>rfl
  | cons e t ih=>
    obtain ⟨j,R⟩:=e
    simp only [fS,lk]
    split<;>simp [ih]
theorem aaW {α:Type} (f:α→α) (l:List (Nat × α)) (k:Nat):lk (gb f l) k=(lk l k).map f:=by
  induction l with
  | nil=>rfl
  | cons e t ih=>
    obtain ⟨j,v⟩:=e
    simp only [gb,lk]
    split<;>simp [ih]
theorem pT {g:D→D} (hg:lD g) {l:List (Nat × List D)} {S:List (Nat × RT)} (h:hI l S):hI (gb (List.map (fh g)) l) (fS g S):=by
  intro k
  rw [aaW,lJ,h k]
  cases lk S k with
  | none=>rfl
  | some R=>
    simp only [Option.map_some,Option.some.injEq,eL,List.map_map]
    apply List.map_congr_left
    intro t _
    simp [Nn hg]
theorem Zz (g:D→D) (t:T):(fT g t).ft=t.ft:=by cases t<;>rfl
theorem uK (g:D→D) (S:List (Nat × RT)):cL (fS g S)=cL S:=by
  induction S with
  | nil=>rfl
  | cons e t ih=>
    obtain ⟨k,R⟩:=e
    simp only [fS,cL,ih,RT.ft]
    congr 2
    rw [nT,nT,List.map_map]
    congr 2
    funext t
    exact Zz g t
theorem S9 {g:D→D} (hg:lD g) (S:List (Nat × RT)):SR (fh g) S (fS g S):=by
  refine ⟨fun r R1 h=>?_,uK g S⟩
  rw [lJ] at h
  cases hr:lk S r with
  | none=>simp [hr] at h
  | some R=>
    simp only [hr,Option.map_some,Option.some.injEq] at h
    subst h
    refine ⟨R,rfl,rfl,dq (by simp) (fun i a b ha hb=>?_)⟩
    simp only [List.getElem?_map,ha,Option.map_some,Option.some.injEq] at hb
    subst hb
    cases a with
    | v d u=>exact .inl ⟨d,_,u,rfl,rfl,hg.leaf d⟩
    | own s n cap aa xs=>exact .inr ⟨⟨s,n,cap,aa,xs,rfl⟩,rfl⟩
theorem Er (g:D→D) {cs:List T} {p:Nat} {q:List Nat}:aw (cs.map (fT g)) (p::q)=aw cs (p::q):=by
  simp only [aw,List.getElem?_map]
  cases cs[p]? with
  | none=>rfl
  | some t=>cases t<;>rfl
theorem RL (g:D→D) {cs:List T} {bx:Option Nat} {q:List Nat}:cb bx (cs.map (fT g)) q=cb bx cs q:=by
  cases q with
  | nil=>rfl
  | cons p q=>
    simp only [cb,List.getElem?_map]
    cases cs[p]? with
    | none=>rfl
    | some t=>cases t<;>rfl
theorem qO {g:D→D} (hg:lD g) {w:World} {X:Bool→Nat→Prop} {S:List (Nat × RT)} {d:D} {u:Value} (h:bB w X S d u):bB w X (fS g S) d u:=by
  cases d with
  | ref r q o x=>
    intro t2 h2
    unfold cA at h2
    rw [lJ] at h2
    cases hr:lk S r with
    | none=>simp [hr] at h2
    | some R=>
      simp only [hr,Option.map_some] at h2
      cases q with
      | nil=>
        simp only [aw,List.getElem?_map] at h2
        cases ho:R.cs[o]? with
        | none=>simp [ho] at h2
        | some t=>
          simp only [ho,Option.map_some,Option.some.injEq] at h2
          subst h2
          have:=h t (by simp [cA,hr,aw,ho])
          cases t with
          | own s n cap aa xs=>exact this
          | v d0 u0=>
            unfold eS at this ⊢
            rw [Nn hg]
            simp only [T.er,hg.acE] at this ⊢
            exact this
      | cons p q=>
        rw [Er] at h2
        exact h t2 (by unfold cA; rw [hr]; exact h2)
  | ptr r q o=>
    intro R' eu
    rw [lJ] at eu
    cases hr:lk S r with
    | none=>simp [hr] at eu
    | some R=>
      simp only [hr,Option.map_some,Option.some.injEq] at eu
      subst eu
      exact ⟨(h R hr).1,fun b off ha=>(h R hr).2 b off (by rw [RL] at ha; exact ha)⟩
  | _=>exact h
theorem SR.sq {g:D→D} {S S1:List (Nat × RT)} (h:SR g S S1) {r:Nat} {R1:RT} (hr:lk S1 r=some R1):∃ R,lk S r=some R∧R1.box=R.box∧R1.cs.length=R.cs.length∧aD R1.cs=aD R.cs∧∀ (i:Nat) (t1:T),R1.cs[i]?=some t1→∃ t:T,R.cs[i]?=some t∧GT g t t1:=by
  obtain ⟨R,h1,h2,h3⟩:=h.look r R1 hr
  refine ⟨R,h1,h2,h3.len.symm,GT.acC h3,fun i t1 hi=>?_⟩
  have hl:=h3.len
  obtain ⟨cX,_⟩:=List.getElem?_eq_some_iff.1 hi
  obtain ⟨t1',h4,h5⟩:=h3.get (List.getElem?_eq_getElem (by omega:i < R.cs.length))
  rw [hi,Option.some.injEq] at h4
  subst h4
  exact ⟨_,List.getElem?_eq_getElem (by omega),h5⟩
section
variable {C:Ctx} {H H':List T} {w:World} {S S1 S':List (Nat × RT)}
theorem jJ (eF:∀ k∈cL S'++ai H',k∈cL S++ai H) (b:Bool) (k:Nat) (h:ah C w S H b k):ah C w S' H' b k:=by
  obtain ⟨h1,h2,h3,h4⟩:=h
  have:k∉cL S'++ai H':=fun hk=>by
    rcases List.mem_append.1 (eF k hk) with h | h
    · exact h2 h
    · exact h3 h
  exact ⟨h1,fun h=>this (List.mem_append.2 (.inl h)),fun h=>this (List.mem_append.2 (.inr h)),h4⟩
theorem RM (hm:Mem C w S H) {g:D→D} (hS:SR g S S1) {r:Nat} {q:List Nat} {o:Nat} {t t':T} (hc:kF S1 S' r q o t t') (hv:t'.val=t.val) (hs:bL w (ah C w S' H') t'∨∃ d u,t'=.v d u∧q=[]∧∀ R,lk S r=some R→R.box.isSome=true∧bB w (ah C w S' H') S' (bQ d) u)
    (fr:(cL S'++ai H').Nodup) (eF:∀ k∈cL S'++ai H',k∈cL S++ai H) (hh:bM w (ah C w S' H') H') (dW:∀ d u,bB w (ah C w S H) S d u→bB w (ah C w S' H') S' (g d) u) (qP:∀ d u,Ext w (ah C w S H) d u→Ext w (ah C w S' H') (g d) u):Mem C w S' H':=by
  have hX:∀ b k,ah C w S H b k→ah C w S' H' b k:=jJ eF
  have cE:∀ b k,ah C w S H b k→ah C w S' H' b k∧w.heap[k]?=w.heap[k]?:=fun b k h=>⟨hX b k h,rfl⟩
  have cell:∀ {bx:Bool} {t0 t1:T},jh w (ah C w S H) S bx t0→GT g t0 t1→jh w (ah C w S' H') S' bx t1:=by
    intro bx t0 t1 h0 hg
    rcases hg with ⟨d,d1,u,rfl,rfl,he⟩ | ⟨⟨s,n,cap,a,xs,rfl⟩,rfl⟩
    · simp only [jh] at h0 ⊢
      rw [he]
      rcases h0 with h0 | ⟨hb,h0⟩
      · exact .inl (qP _ _ h0)
      · exact .inr ⟨hb,dW _ _ h0⟩
    · exact dO cE _ h0 (fun _ _=>rfl)
  refine ⟨fr,?_,hh,fun k hk=>hm.lt k (eF k hk)⟩
  intro r' R' eu
  obtain ⟨R1,cs',l,h1,h2,h3,h4,rfl⟩:=hc.ex
  by_cases he:r'=r
  · subst he
    rw [cH,Option.some.injEq] at eu
    subst eu
    obtain ⟨R,g1,g2,g3,g4,g5⟩:=hS.sq h1
    obtain ⟨k1,k2⟩:=hm.root r' R g1
    cases q with
    | nil=>
      simp only [aw,Option.some.injEq] at h2
      simp only [dL,Option.some.injEq] at h4
      subst h2; subst h4
      obtain ⟨cX,hto⟩:=List.getElem?_eq_some_iff.1 h3
      have gO:aD (R1.cs.set o t')=aD R.cs:=by
        rw [← g4,qh,hv]
        apply List.ext_getElem?
        intro j
        by_cases hj:o=j
        · subst hj
          rw [List.getElem?_set_self (by rw [bS]; exact cX),fk,h3]; rfl
        · rw [List.getElem?_set_ne hj]
      refine ⟨?_,?_⟩
      · simp only [List.length_set]
        rw [gO,g3,g2]; exact k1
      · intro t0 kG
        obtain ⟨j,hj⟩:=List.mem_iff_getElem?.1 kG
        simp only at hj
        by_cases KA:o=j
        · subst KA
          rw [List.getElem?_set_self cX,Option.some.injEq] at hj
          subst hj
          rcases hs with hs | ⟨d,u,rfl,_,hs⟩
          · cases t' with
            | v d u=>exact .inl hs
            | own s n cap a xs=>exact hs
          · obtain ⟨hb,hs⟩:=hs R g1
            exact .inr ⟨by rw [g2]; exact hb,hs⟩
        · rw [List.getElem?_set_ne KA] at hj
          obtain ⟨RN,e1,e2⟩:=g5 j _ hj
          have:=cell (k2 _ (List.mem_of_getElem? e1)) e2
          rw [← g2] at this
          exact this
    | cons p q=>
      have vo:bL w (ah C w (pt S1 r' ⟨R1.box,cs'⟩) H') t':=by
        rcases hs with hs | ⟨d,u,_,hq,_⟩
        · exact hs
        · simp at hq
      have gO:=(mF h4).1
      have hlen:=(mF h4).2
      refine ⟨?_,?_⟩
      · simp only
        rw [gO,hlen,g4,g3,g2]; exact k1
      · intro t0 kG
        obtain ⟨j,hj⟩:=List.mem_iff_getElem?.1 kG
        simp only at hj
        rw [aw] at h2
        rw [dL] at h4
        cases hp:R1.cs[p]? with
        | none=>simp [hp] at h2
        | some x=>
          cases x with
          | v d u=>simp [hp] at h2
          | own s n cap a xs=>
            simp only [hp] at h2 h4
            cases hx:dL (fun l=>l.set o t') xs q with
            | none=>simp [hx] at h4
            | some kz=>
              simp only [hx,Option.some.injEq] at h4
              subst h4
              obtain ⟨cX,_⟩:=List.getElem?_eq_some_iff.1 hp
              by_cases uq:p=j
              · subst uq
                rw [List.getElem?_set_self cX,Option.some.injEq] at hj
                subst hj
                obtain ⟨RN,e1,e2⟩:=g5 p _ hp
                have e3:=cell (k2 _ (List.mem_of_getElem? e1)) e2
                simp only [jh,bL] at e3 ⊢
                obtain ⟨f1,f2,f3,f4⟩:=e3
                obtain ⟨f5,f6⟩:=aaN vo hv f4 h2 h3 hx
                have qm:kz.length=xs.length:=by have:=congrArg List.length f6; simpa [bS] using this
                exact ⟨f1,by rw [qm]; exact f2,by rw [f6]; exact f3,f5⟩
              · rw [List.getElem?_set_ne uq] at hj
                obtain ⟨RN,e1,e2⟩:=g5 j _ hj
                have:=cell (k2 _ (List.mem_of_getElem? e1)) e2
                rw [← g2] at this
                exact this
  · rw [dJ _ _ he] at eu
    obtain ⟨R,g1,g2,g3,g4,g5⟩:=hS.sq eu
    obtain ⟨k1,k2⟩:=hm.root r' R g1
    refine ⟨?_,?_⟩
    · rw [g4,g3,g2]; exact k1
    · intro t0 kG
      obtain ⟨j,hj⟩:=List.mem_iff_getElem?.1 kG
      obtain ⟨RN,e1,e2⟩:=g5 j _ hj
      have:=cell (k2 _ (List.mem_of_getElem? e1)) e2
      rw [← g2] at this
      exact this
end
end Go.Proofs.YtockoilcnmljiaaGreat
namespace Go.Proofs.YtockoilcnmljiaaGreat
theorem Xl {cs:List T} {o:Nat} {t t':T} (ho:cs[o]?=some t) (hv:t'.val=t.val):aD (cs.set o t')=aD cs:=by
  rw [qh,hv]
  apply List.ext_getElem?
  intro j
  by_cases hj:o=j
  · subst hj
    rw [List.getElem?_set_self (by rw [bS]; exact (List.getElem?_eq_some_iff.1 ho).1),fk,ho]; rfl
  · rw [List.getElem?_set_ne hj]
theorem kF.par {S S':List (Nat × RT)} {r:Nat} {q:List Nat} {o:Nat} {t t':T} (hc:kF S S' r q o t t') (hv:t'.val=t.val) {r':Nat} {R':RT} (h:lk S' r'=some R'):∃ R,lk S r'=some R∧R'.box=R.box∧aD R'.cs=aD R.cs:=by
  obtain ⟨R,cs',l,h1,h2,h3,h4,rfl⟩:=hc.ex
  by_cases he:r'=r
  · subst he
    rw [cH,Option.some.injEq] at h
    subst h
    refine ⟨R,h1,rfl,?_⟩
    cases q with
    | nil=>
      simp only [aw,Option.some.injEq] at h2
      simp only [dL,Option.some.injEq] at h4
      subst h2; subst h4
      exact Xl h3 hv
    | cons p q=>exact (mF h4).1
  · rw [dJ _ _ he] at h
    exact ⟨R',h,rfl,rfl⟩
theorem kF.KG {S S':List (Nat × RT)} {r:Nat} {q:List Nat} {o:Nat} {t t':T} (hc:kF S S' r q o t t') {r':Nat} {R:RT} (h:lk S r'=some R):∃ R',lk S' r'=some R'∧R'.box=R.box∧R'.cs.length=R.cs.length:=by
  obtain ⟨R0,cs',l,h1,h2,h3,h4,rfl⟩:=hc.ex
  by_cases he:r'=r
  · subst he
    rw [h1,Option.some.injEq] at h
    subst h
    refine ⟨_,cH _ _ _,rfl,?_⟩
    cases q with
    | nil=>
      simp only [dL,Option.some.injEq] at h4
      subst h4; simp
    | cons p q=>exact (mF h4).2
  · exact ⟨R,by rw [dJ _ _ he]; exact h,rfl,rfl⟩
theorem Es {st st':St} {S:List (Nat × RT)} (gf:hI st.rt S) {r:Nat} {q:List Nat} {o:Nat} {t t':T} {R:RT} {l:List T} (h1:lk S r=some R) (h2:aw R.cs q=some l) (h3:l[o]?=some t) (h:st.im r q o t'.er=some st'):
    ∃ S',kF S S' r q o t t'∧hI st'.rt S'∧st'.tm=st.tm∧st'.up=st.up∧st'.of=st.of:=by
  unfold St.im at h
  rw [gf,h1] at h
  simp only [Option.map_some,acv] at h
  obtain ⟨cs',h4⟩:=NM (f:=fun l=>l.set o t') h2
  rw [h4] at h
  simp only [Option.map_some,Option.some.injEq] at h
  subst h
  exact ⟨pt S r ⟨R.box,cs'⟩,⟨R,cs',l,h1,h2,h3,h4,rfl⟩,CS gf r ⟨R.box,cs'⟩,rfl,rfl,rfl⟩
theorem aaX:∀ {a b:List T},a.Sublist b→(ai a).Sublist (ai b):=by
  intro a b h
  induction h with
  | slnil=>exact List.Sublist.refl _
  | cons x _ ih=>rw [ai]; exact ih.trans (List.sublist_append_right _ _)
  | cons_cons x _ ih=>rw [ai,ai]; exact List.Sublist.append (List.Sublist.refl _) ih
theorem acF {w:World} {X:Bool→Nat→Prop} {s n cap:Nat} {a:Option (Nat × Nat)} {ts:List T} (hs:bL w X (.own s n cap a ts)) {x:Option (Nat × Nat)} {u:Value} (hr:eS x (.own s n cap a ts) u):
    ∃ t:T,t.er=.sl none s (trim x s n (bw ts)).1 (trim x s n (bw ts)).2∧t.val=u∧bL w X t∧t.ft.Sublist (T.own s n cap a ts).ft:=by
  cases x with
  | none=>
    simp only [eS,sn,T.er] at hr
    exact ⟨.own s n cap a ts,rfl,hr.symm,hs,List.Sublist.refl _⟩
  | some p=>
    obtain ⟨l,m⟩:=p
    simp only [eS,sn,T.er,T.val,wE,Value.slice.injEq] at hr
    obtain ⟨h1,base,C,k,⟨h2,_,h3⟩,h4,rfl,h5⟩:=hr
    subst h2; subst h3
    simp only [bL] at hs
    obtain ⟨g1,g2,g3,g4⟩:=hs
    refine ⟨.own s m (cap - l) (a.map fun p=>(p.1,p.2+k*s)) ((ts.drop (l*s)).take (m*s)),?_,?_,?_,?_⟩
    · simp only [T.er,trim,AG,AH]
    · simp only [T.val,wE,Option.map_map]
      congr 1
      cases a<;>simp [eZ]
    · simp only [bL]
      refine ⟨by omega,?_,?_,?_⟩
      · rw [List.length_take,List.length_drop,g2]
        have:l*s+m*s≤n*s:=by rw [← Nat.add_mul]; exact Nat.mul_le_mul_right _ h1
        omega
      · cases a with
        | none=>simp only at g3; simp only [Option.map_none]; omega
        | some p=>
          obtain ⟨b,off⟩:=p
          simp only [Option.map_some]
          obtain ⟨c,e,fz,k1,k2,k3,k4⟩:=g3
          refine ⟨c,e,fz,k1,k2,?_,?_⟩
          · rcases h5 with h5 | h5
            · rw [h5]
              have:k*s≤cap*s:=Nat.mul_le_mul_right _ h4
              omega
            · subst h5
              have:k*s+(cap - k)*s=cap*s:=by rw [← Nat.add_mul]; congr 1; omega
              omega
          · intro j u hj
            rw [cW,List.map_take,List.map_drop,← cW,List.getElem?_take] at hj
            split at hj
            · rename_i cX
              rw [List.getElem?_drop] at hj
              have hm:m≠0:=fun e=>by simp [e] at cX
              have:k=l:=by omega
              subst this
              rw [Nat.add_assoc]
              exact k4 _ _ hj
            · simp at hj
      · rw [cr] at g4 ⊢
        exact fun t ht=>g4 t (List.mem_of_mem_drop (List.mem_of_mem_take ht))
    · simp only [T.ft]
      refine List.Sublist.append ?_ (aaX ((List.take_sublist _ _).trans (List.drop_sublist _ _)))
      cases a<;>exact List.Sublist.refl _
structure qn (S S':List (Nat × RT)):Prop where
  fwd:∀ r R,lk S r=some R→∃ R',lk S' r=some R'∧R'.box=R.box∧aD R'.cs=aD R.cs
theorem qn.refl (S:List (Nat × RT)):qn S S:=⟨fun _ R h=>⟨R,h,rfl,rfl⟩⟩
theorem qn.trans {S S' zU:List (Nat × RT)} (h:qn S S') (h':qn S' zU):qn S zU:=⟨fun r R hr=>by
  obtain ⟨R1,h1,h2,h3⟩:=h.fwd r R hr
  obtain ⟨R2,h4,h5,h6⟩:=h'.fwd r R1 h1
  exact ⟨R2,h4,h5.trans h2,h6.trans h3⟩⟩
theorem yV {C:Ctx} {w:World} {S S':List (Nat × RT)} {H H':List T} (hk:Kept C w S H) (eF:∀ k∈cL S'++ai H',k∈cL S++ai H) (hp:∀ r R',lk S' r=some R'→∃ R,lk S r=some R∧R'.box=R.box∧aD R'.cs=aD R.cs):Kept C w S' H':=
  ⟨hk.os,hk.tape,hk.output,hk.size,hk.block,fun k h=>hk.iE k (eF k h),fun r b vs hm R' hr=>by
    obtain ⟨R,h1,h2,h3⟩:=hp r R' hr
    have:=hk.par r b vs hm R h1
    rw [h2,h3]; exact this⟩
section
variable {C:Ctx} {H:List T} {w:World} {st st':St} {aI:List (Array Value)} {S:List (Nat × RT)}
theorem Gi (h:Rel C H w st aI S) {d:D} {u:Value} (hu:Ext w (ah C w S H) d u) (hd:bQ d=d):Rel C (.v d u::H) w st aI S:=by
  have hf:∀ b k,ah C w S H b k→ah C w S (.v d u::H) b k:=jJ (by simp [ai,T.ft])
  have cE:∀ b k,ah C w S H b k→ah C w S (.v d u::H) b k∧w.heap[k]?=w.heap[k]?:=fun b k hh=>⟨hf b k hh,rfl⟩
  have dW:∀ d' u',bB w (ah C w S H) S d' u'→bB w (ah C w S (.v d u::H)) S d' u':=fun d' u' hh=>tD cE (fun _ _ h=>h) hh
  refine h.so h.rt rfl rfl dW ⟨by simpa [ai,T.ft] using h.mem.nd,?_,?_,by simpa [ai,T.ft] using h.mem.lt⟩ (yV h.kept (by simp [ai,T.ft]) (fun r R' hr=>⟨R',hr,rfl,rfl⟩))
  · intro r R hR
    obtain ⟨h1,h2⟩:=h.mem.root r R hR
    refine ⟨h1,fun t ht=>?_⟩
    have:=h2 t ht
    cases t with
    | v d' u'=>
      rcases this with this | ⟨hb,this⟩
      · exact .inl (gv cE _ _ this)
      · exact .inr ⟨hb,dW _ _ this⟩
    | own s n cap a xs=>exact dO cE _ this (fun _ _=>rfl)
  · simp only [bM,bL]
    exact ⟨by rw [hd]; exact gv cE _ _ hu,gy cE _ h.mem.hand (fun _ _=>rfl)⟩
theorem uV (h:Rel C H w st aI S) {d d':D} {u:Value} (hu:bB w (ah C w S H) S d u) (ht:jf st d=some (d',st')):
    ∃ t S',Rel C (t::H) w st' aI S'∧t.er=d'∧t.val=u∧(∀ d u,bB w (ah C w S H) S d u→bB w (ah C w S' (t::H)) S' d u)∧qn S S'∧(st'.tm=st.tm∧st'.up=st.up∧st'.of=st.of)∧(∀ r q o x,d=.ref r q o x→∃ d0 u0,(sn d0).isSome=true∧bQ d0=d0∧cA S' r q o=some (.v d0 u0)∧(x=none→lC (.v d0 u0) t)):=by
  have plain:∀ {d:D},Ext w (ah C w S H) d u→bQ d=d→∃ t S',Rel C (t::H) w st aI S'∧t.er=d∧t.val=u∧(∀ d u,bB w (ah C w S H) S d u→bB w (ah C w S' (t::H)) S' d u)∧qn S S'∧(st.tm=st.tm∧st.up=st.up∧st.of=st.of)∧S=S':=by
    intro d hu hd
    refine ⟨.v d u,S,Gi h hu hd,hd,rfl,fun d' u' hh=>tD (fun b k hh=>⟨jJ (by simp [ai,T.ft]) b k hh,rfl⟩) (fun _ _ h=>h) hh,qn.refl _,⟨rfl,rfl,rfl⟩,rfl⟩
  have AN:∀ {d:D},(∀ r q o x,d≠.ref r q o x)→Ext w (ah C w S H) d u→bQ d=d→∃ t S',Rel C (t::H) w st aI S'∧t.er=d∧t.val=u∧(∀ d u,bB w (ah C w S H) S d u→bB w (ah C w S' (t::H)) S' d u)∧qn S S'∧(st.tm=st.tm∧st.up=st.up∧st.of=st.of)∧(∀ r q o x,d=.ref r q o x→∃ d0 u0,(sn d0).isSome=true∧bQ d0=d0∧cA S' r q o=some (.v d0 u0)∧(x=none→lC (.v d0 u0) t)):=by
    intro d hn hu hd
    obtain ⟨t,S',a1,a2,a3,a4,a5,a6,_⟩:=plain hu hd
    exact ⟨t,S',a1,a2,a3,a4,a5,a6,fun r q o x e=>absurd e (hn r q o x)⟩
  cases d with
  | int k n=>simp only [jf,Option.some.injEq,Prod.mk.injEq] at ht; obtain ⟨rfl,rfl⟩:=ht; exact AN (by simp) hu rfl
  | bool b=>simp only [jf,Option.some.injEq,Prod.mk.injEq] at ht; obtain ⟨rfl,rfl⟩:=ht; exact AN (by simp) hu rfl
  | str s=>simp only [jf,Option.some.injEq,Prod.mk.injEq] at ht; obtain ⟨rfl,rfl⟩:=ht; exact AN (by simp) hu rfl
  | undef=>simp only [jf,Option.some.injEq,Prod.mk.injEq] at ht; obtain ⟨rfl,rfl⟩:=ht; exact AN (by simp) hu rfl
  | hole s n=>
    simp only [jf,Option.some.injEq,Prod.mk.injEq] at ht; obtain ⟨rfl,rfl⟩:=ht
    obtain ⟨t,S',a1,a2,a3,a4,a5,a6,_⟩:=plain (d:=.undef) (by simp [Ext]) rfl
    exact ⟨t,S',a1,a2,a3,a4,a5,a6,by simp⟩
  | sl g s n cs=>
    simp only [jf,Option.some.injEq,Prod.mk.injEq] at ht; obtain ⟨rfl,rfl⟩:=ht
    cases g with
    | none=>exact absurd hu (by simp [bB,Ext])
    | some g=>exact AN (by simp) hu rfl
  | nil s=>
    simp only [jf,Option.some.injEq,Prod.mk.injEq] at ht; obtain ⟨rfl,rfl⟩:=ht
    have hu':u=.slice none 0 0:=hu
    subst hu'
    have eT:(T.own s 0 0 none []).ft=[]:=rfl
    have hf:∀ b k,ah C w S H b k→ah C w S (.own s 0 0 none []::H) b k:=jJ (by simp [ai,eT])
    have cE:∀ b k,ah C w S H b k→ah C w S (.own s 0 0 none []::H) b k∧w.heap[k]?=w.heap[k]?:=fun b k hh=>⟨hf b k hh,rfl⟩
    have dW:∀ d' u',bB w (ah C w S H) S d' u'→bB w (ah C w S (.own s 0 0 none []::H)) S d' u':=fun d' u' hh=>tD cE (fun _ _ h=>h) hh
    refine ⟨.own s 0 0 none [],S,?_,rfl,rfl,dW,qn.refl _,⟨rfl,rfl,rfl⟩,by simp⟩
    refine h.so h.rt rfl rfl dW ⟨by simpa [ai,eT] using h.mem.nd,?_,?_,by simpa [ai,eT] using h.mem.lt⟩ (yV h.kept (by simp [ai,eT]) (fun r R' hr=>⟨R',hr,rfl,rfl⟩))
    · intro r R hR
      obtain ⟨h1,h2⟩:=h.mem.root r R hR
      refine ⟨h1,fun t ht=>?_⟩
      have:=h2 t ht
      cases t with
      | v d' u'=>
        rcases this with this | ⟨hb,this⟩
        · exact .inl (gv cE _ _ this)
        · exact .inr ⟨hb,dW _ _ this⟩
      | own s n cap a xs=>exact dO cE _ this (fun _ _=>rfl)
    · simp only [bM,bL]
      exact ⟨by simp,gy cE _ h.mem.hand (fun _ _=>rfl)⟩
  | ref r q o x=>
    simp only [jf] at ht
    split at ht
    · rename_i s n cs hc
      split at ht
      case h_2=>simp at ht
      rename_i aQ jd
      simp only [Option.some.injEq,Prod.mk.injEq] at ht
      obtain ⟨rfl,rfl⟩:=ht
      obtain ⟨R,l,t0,h1,h2,h3,h4,h5⟩:=iS h.rt hc
      obtain ⟨cap,a,ts,rfl,rfl⟩:=F1 h5.symm
      have Gh:=h.mem
      have dZ:bL w (ah C w S H) (.own s n cap a ts):=by
        obtain ⟨_,g2⟩:=Gh.root r R h1
        cases q with
        | nil=>
          simp only [aw,Option.some.injEq] at h2
          subst h2
          exact g2 _ (List.mem_of_getElem? h3)
        | cons p q=>
          rw [aw] at h2
          cases hp:R.cs[p]? with
          | none=>simp [hp] at h2
          | some y=>
            cases y with
            | v d u=>simp [hp] at h2
            | own s' n' uj a' kz=>
              simp only [hp] at h2
              have hs:bL w (ah C w S H) (.own s' n' uj a' kz):=g2 _ (List.mem_of_getElem? hp)
              simp only [bL] at hs
              exact fP (wF hs.2.2.2 h2) h3
      obtain ⟨t,e1,e2,e3,e4⟩:=acF dZ (hu _ h4)
      obtain ⟨S',Et,ahU,acG,acH,ahV⟩:=Es (t':=.v (.hole s n) (T.own s n cap a ts).val) h.rt h1 h2 h3 jd
      obtain ⟨A,B,f1,f2⟩:=Et.fts
      simp only [T.ft,List.append_nil] at f2
      have eF:∀ k∈cL S'++ai (t::H),k∈cL S++ai H:=by
        intro k hk
        rw [f1]
        rw [f2] at hk
        simp only [ai,List.mem_append] at hk ⊢
        rcases hk with (hk | hk) | (hk | hk)
        · exact .inl (.inl (.inl hk))
        · exact .inl (.inr hk)
        · exact .inl (.inl (.inr (e4.mem hk)))
        · exact .inr hk
      have fr:(cL S'++ai (t::H)).Nodup:=by
        have h0:=Gh.nd
        rw [f1] at h0
        rw [f2]
        have p1:(A++(T.own s n cap a ts).ft++B++ai H).Perm (A++B++((T.own s n cap a ts).ft++ai H)):=by
          simp only [List.append_assoc]
          refine List.Perm.append_left A ?_
          rw [← List.append_assoc,← List.append_assoc]
          exact List.Perm.append_right _ List.perm_append_comm
        have h00:=p1.nodup_iff.1 h0
        refine List.Nodup.sublist ?_ h00
        simp only [ai]
        exact List.Sublist.append (List.Sublist.refl _) (List.Sublist.append e4 (List.Sublist.refl _))
      have cE:ju w w (ah C w S H) (ah C w S' (t::H)):=fun b k hh=>⟨jJ eF b k hh,rfl⟩
      have dW:∀ d u,bB w (ah C w S H) S d u→bB w (ah C w S' (t::H)) S' d u:=fun d u hh=>NX cE Et (.inr ⟨rfl,fun p h=>by simpa [T.er,bQ,sn] using h⟩) hh
      have dn:Mem C w S' (t::H):=RM Gh (SR.refl S) Et rfl (.inl (by simp [bL,bQ,Ext])) fr eF (by
          simp only [bM]
          exact ⟨dO cE _ e3 (fun _ _=>rfl),gy cE _ Gh.hand (fun _ _=>rfl)⟩) dW (fun d u hh=>gv cE _ _ hh)
      exact ⟨t,S',h.so ahU acG acH dW dn (yV h.kept eF (fun r R' hr=>Et.par rfl hr)),e1,e2,dW,⟨fun r R hr=>by
        obtain ⟨R',k1,k2,k3⟩:=Et.KG hr
        obtain ⟨R0,k4,k5,k6⟩:=Et.par rfl k1
        rw [hr,Option.some.injEq] at k4
        subst k4
        exact ⟨R',k1,k2,k6⟩⟩,⟨acG,acH,ahV⟩,fun r' q' o' x' he=>by
        simp only [D.ref.injEq] at he
        obtain ⟨rfl,rfl,rfl,rfl⟩:=he
        refine ⟨_,_,rfl,rfl,Et.Ep,fun hx=>⟨?_,fun p he=>?_⟩⟩
        · subst hx
          have:=hu _ h4
          simp only [eS,sn,T.er] at this
          rw [e2,this]; rfl
        · subst hx
          rw [e1] at he
          simpa [T.er,bQ,sn,trim] using he⟩
    · rename_i g s n cs hc
      simp only [Option.some.injEq,Prod.mk.injEq] at ht
      obtain ⟨rfl,rfl⟩:=ht
      obtain ⟨R,l,t0,h1,h2,h3,h4,h5⟩:=iS h.rt hc
      have Gh:=h.mem
      have dZ:bL w (ah C w S H) t0:=by
        obtain ⟨_,g2⟩:=Gh.root r R h1
        cases q with
        | nil=>
          simp only [aw,Option.some.injEq] at h2
          subst h2
          have:=g2 _ (List.mem_of_getElem? h3)
          cases t0 with
          | own s n cap a xs=>exact this
          | v d u=>
            rcases this with h3 | ⟨_,h3⟩
            · exact h3
            · simp only [T.er] at h5
              simp only [bL]
              rw [← h5] at h3 ⊢
              exact h3
        | cons p q=>
          rw [aw] at h2
          cases hp:R.cs[p]? with
          | none=>simp [hp] at h2
          | some y=>
            cases y with
            | v d u=>simp [hp] at h2
            | own s' n' uj a' kz=>
              simp only [hp] at h2
              have hs:bL w (ah C w S H) (.own s' n' uj a' kz):=g2 _ (List.mem_of_getElem? hp)
              simp only [bL] at hs
              exact fP (wF hs.2.2.2 h2) h3
      have km:t0.ft=[]:=by
        cases t0 with
        | v d u=>rfl
        | own s' n' cap a ts=>simp [T.er] at h5
      have:=CT (X':=ah C w S H) (fun _ _ h=>h) false h5.symm dZ (by simp [km]) (hu _ h4)
      obtain ⟨t,S',a1,a2,a3,a4,a5,a6,a7⟩:=plain this rfl
      refine ⟨t,S',a1,a2,a3,a4,a5,a6,fun r' q' o' x' he=>?_⟩
      simp only [D.ref.injEq] at he
      obtain ⟨rfl,rfl,rfl,rfl⟩:=he
      cases t0 with
      | own s' n' cap a ts=>simp [T.er] at h5
      | v d0 u0=>
        simp only [T.er] at h5
        have hd0:d0=.sl (some g) s n cs:=by
          cases d0 with
          | sl g0 s0 n0 cs0=>
            cases g0 with
            | none=>simp [bQ] at h5
            | some g0=>exact h5.symm
          | _=>simp [bQ] at h5
        subst hd0
        refine ⟨_,u0,rfl,rfl,a7▸h4,fun hx=>⟨?_,fun p he=>?_⟩⟩
        · subst hx
          have:=hu _ h4
          simp only [eS,sn,T.er,bQ] at this
          rw [a3]; exact this
        · subst hx
          rw [a2] at he
          simpa [iB,trim,sn,T.er,bQ] using he
    · simp at ht
  | _=>simp [jf] at ht
end
end Go.Proofs.YtockoilcnmljiaaGreat
namespace Go.Proofs.YtockoilcnmljiaaGreat
theorem qQ (r:Nat):lD (cF r):=
  ⟨fun _ _ _ _=>rfl,fun _ _=>rfl,fun d h=>by cases d<;>simp only [cF]<;>first | rfl | (split<;>rfl) | exact h⟩
theorem Ta (r:Nat):lD (eC r):=
  ⟨fun _ _ _ _=>rfl,fun _ _=>rfl,fun d h=>by
    cases d with
    | ref r' q o x=>simp only [eC]; split<;>rfl
    | ptr r' q o=>cases q<;>simp only [eC]<;>first | rfl | (split<;>rfl)
    | _=>exact h⟩
theorem mI (r:Nat) (q:List Nat) (o:Nat) (e:Bool):lD (cz r q o e):=
  ⟨fun _ _ _ _=>rfl,fun _ _=>rfl,fun d h=>by
    cases d with
    | ref r' q' o' x=>
      simp only [cz]
      split
      · split
        · rfl
        · split<;>rfl
        · rfl
      · rfl
    | ptr r' q' o'=>
      simp only [cz]
      split
      · split<;>rfl
      · rfl
    | _=>exact h⟩
theorem AO (r:Nat) (q:List Nat) (o r1:Nat) (q1:List Nat) (o1:Nat):lD (r9 r q o r1 q1 o1):=
  ⟨fun _ _ _ _=>rfl,fun _ _=>rfl,fun d h=>by
    cases d with
    | ref r' q' o' x=>
      simp only [r9]
      split
      · split<;>rfl
      · rfl
    | ptr r' q' o'=>
      simp only [r9]
      split
      · split<;>rfl
      · rfl
    | _=>exact h⟩
theorem sr {g:D→D} (hg:lD g) (hs:∀ d,g d=d∨(∃ r q o x,d=.ref r q o x)∨∃ r q o,d=.ptr r q o) {w:World} {X:Bool→Nat→Prop} {d:D} {u:Value} (h:Ext w X d u):Ext w X (fh g d) u:=by
  rcases hs d with h1 | ⟨r,q,o,x,rfl⟩ | ⟨r,q,o,rfl⟩
  · cases d<;>first | (simp only [fh,h1]; exact h) | (simp [Ext] at h)
  · simp [Ext] at h
  · simp [Ext] at h
theorem Tb (r:Nat) (d:D):cF r d=d∨(∃ r q o x,d=.ref r q o x)∨∃ r q o,d=.ptr r q o:=by
  cases d<;>first | exact .inl rfl | exact .inr (.inl ⟨_,_,_,_,rfl⟩) | exact .inr (.inr ⟨_,_,_,rfl⟩)
theorem Tc (r:Nat) (d:D):eC r d=d∨(∃ r q o x,d=.ref r q o x)∨∃ r q o,d=.ptr r q o:=by
  cases d<;>first | exact .inl rfl | exact .inr (.inl ⟨_,_,_,_,rfl⟩) | exact .inr (.inr ⟨_,_,_,rfl⟩)
theorem yW (r:Nat) (q:List Nat) (o:Nat) (e:Bool) (d:D):cz r q o e d=d∨(∃ r q o x,d=.ref r q o x)∨∃ r q o,d=.ptr r q o:=by
  cases d<;>first | exact .inl rfl | exact .inr (.inl ⟨_,_,_,_,rfl⟩) | exact .inr (.inr ⟨_,_,_,rfl⟩)
theorem uW {w:World} {X:Bool→Nat→Prop} {S:List (Nat × RT)} {g:D→D} {d:D} {u:Value} (h:bB w X S d u):fh g d=g d:=by
  cases d<;>first | rfl | (simp [bB,Ext] at h)
section
variable {C:Ctx} {H Hs:List T} {w w':World} {st:St} {aI:List (Array Value)} {S:List (Nat × RT)}
theorem ZA {S:List (Nat × RT)} {k:Nat} (r:RT):∃ A B bO,cL S=A++bO++B∧cL (pt S k r)=A++r.ft++B:=by
  cases h:lk S k with
  | none=>exact ⟨cL S,[],[],by simp,by rw [S5 h]; simp⟩
  | some R=>
    obtain ⟨A,B,h1,h2⟩:=lY h
    exact ⟨A,B,R.ft,h1,h2 r⟩
theorem N0 (h:Rel C (Hs++H) w st aI S) {r:Nat} {R:RT} (eT:∀ k∈R.ft,k∈ai Hs∨w.heap.size≤k):
    ∀ k∈cL (pt (fS (cF r) S) r R)++ai H,k∈cL S++ai (Hs++H)∨w.heap.size≤k:=by
  obtain ⟨A,B,bO,f1,f2⟩:=ZA (S:=fS (cF r) S) (k:=r) R
  rw [uK] at f1
  intro k hk
  rw [f2] at hk
  rw [f1,bj]
  simp only [List.mem_append] at hk ⊢
  rcases hk with ((hk | hk) | hk) | hk
  · exact .inl (.inl (.inl (.inl hk)))
  · rcases eT k hk with h2 | h2
    · exact .inl (.inr (.inl h2))
    · exact .inr h2
  · exact .inl (.inl (.inr hk))
  · exact .inl (.inr (.inr hk))
theorem oN (h:Rel C (Hs++H) w st aI S) {r:Nat} {R:RT} (eT:∀ k∈R.ft,k∈ai Hs∨w.heap.size≤k) (cV:w.heap.size≤w'.heap.size) (hold:∀ k,k < w.heap.size→w'.heap[k]?=w.heap[k]?):
    ju w w' (ah C w S (Hs++H)) (ah C w' (pt (fS (cF r) S) r R) H):=by
  have eF:=N0 (r:=r) h eT
  intro b k hk
  refine ⟨⟨by have:=hk.1; omega,fun hx=>?_,fun hx=>?_,hk.2.2.2⟩,hold k hk.1⟩
  · rcases eF k (List.mem_append.2 (.inl hx)) with h2 | h2
    · rcases List.mem_append.1 h2 with h3 | h3
      · exact hk.2.1 h3
      · exact hk.2.2.1 h3
    · have:=hk.1; omega
  · rcases eF k (List.mem_append.2 (.inr hx)) with h2 | h2
    · rcases List.mem_append.1 h2 with h3 | h3
      · exact hk.2.1 h3
      · exact hk.2.2.1 h3
    · have:=hk.1; omega
theorem Gj (h:Rel C (Hs++H) w st aI S) {r:Nat} {R:RT} (eT:∀ k∈R.ft,k∈ai Hs∨w.heap.size≤k) (cV:w.heap.size≤w'.heap.size) (hold:∀ k,k < w.heap.size→w'.heap[k]?=w.heap[k]?):
    ∀ d u,bB w (ah C w S (Hs++H)) S d u→bB w' (ah C w' (pt (fS (cF r) S) r R) H) (pt (fS (cF r) S) r R) (cF r d) u:=
  fun _ _ hd=>Xi (oN h eT cV hold) rfl (qO (qQ r) hd)
theorem yX (h:Rel C (Hs++H) w st aI S) {r:Nat} {R:RT} (hR:NP w' (ah C w' (pt (fS (cF r) S) r R) H) (pt (fS (cF r) S) r R) R)
    (eT:R.ft.Nodup∧∀ k∈R.ft,k∈ai Hs∨w.heap.size≤k) (cX:∀ k∈R.ft,k < w'.heap.size) (cV:w.heap.size≤w'.heap.size) (hold:∀ k,k < w.heap.size→w'.heap[k]?=w.heap[k]?)
    (nE:w'.os=w.os) (uL:w'.tape=w.tape) (vt:w'.output=w.output) (hP:∀ p∈C.P0,p.1≠r):
    Rel C H w' { st.eY (cF r) with rt:=pz (st.eY (cF r)).rt r (bw R.cs) } aI (pt (fS (cF r) S) r R)∧
    ∀ d u,bB w (ah C w S (Hs++H)) S d u→bB w' (ah C w' (pt (fS (cF r) S) r R) H) (pt (fS (cF r) S) r R) (cF r d) u:=by
  obtain ⟨A,B,bO,f1,f2⟩:=ZA (S:=fS (cF r) S) (k:=r) R
  rw [uK] at f1
  have eF:=N0 (r:=r) h eT.2
  have cE:=oN (r:=r) h eT.2 cV hold
  have dW:=Gj (r:=r) h eT.2 cV hold
  have fr:(cL (pt (fS (cF r) S) r R)++ai H).Nodup:=by
    have h0:=h.mem.nd
    rw [f1,bj] at h0
    rw [f2]
    have acJ:=h.mem.lt
    rw [f1,bj] at acJ
    simp only [List.nodup_append,List.mem_append] at h0 ⊢
    obtain ⟨⟨⟨a1,a2,a3⟩,a4,a5⟩,⟨b1,b2,b3⟩,c⟩:=h0
    have new:∀ x,x∈R.ft→∀ y,(y∈A∨y∈B∨y∈ai H)→x≠y:=by
      intro x hx y hy e
      subst e
      rcases eT.2 x hx with h2 | h2
      · rcases hy with hy | hy | hy
        · exact c x (.inl (.inl hy)) x (.inl h2) rfl
        · exact c x (.inr hy) x (.inl h2) rfl
        · exact b3 x h2 x hy rfl
      · have:x < w.heap.size:=acJ x (by
          simp only [List.mem_append]
          rcases hy with hy | hy | hy
          · exact .inl (.inl (.inl hy))
          · exact .inl (.inr hy)
          · exact .inr (.inr hy))
        omega
    refine ⟨⟨⟨a1,eT.1,fun x hx y hy e=>new y hy x (.inl hx) e.symm⟩,a4,?_⟩,b2,?_⟩
    · intro x hx y hy e
      rcases hx with hx | hx
      · exact a5 x (.inl hx) y hy e
      · exact new x hx y (.inr (.inl hy)) e
    · intro x hx y hy e
      rcases hx with (hx | hx) | hx
      · exact c x (.inl (.inl hx)) y (.inr hy) e
      · exact new x hx y (.inr (.inr hy)) e
      · exact c x (.inr hx) y (.inr hy) e
  refine ⟨h.step (f:=cF r) ?_ rfl rfl dW ⟨fr,?_,?_,?_⟩ ⟨by rw [nE]; exact h.kept.os,by rw [uL]; exact h.kept.tape,by rw [vt]; exact h.kept.output,Nat.le_trans h.kept.size cV,?_,?_,?_⟩,dW⟩
  · exact CS (pT (qQ r) h.rt) r R
  · intro r' R' eE
    by_cases he:r'=r
    · subst he
      rw [cH,Option.some.injEq] at eE
      subst eE
      exact hR
    · rw [dJ _ _ he,lJ] at eE
      cases hx:lk S r' with
      | none=>simp [hx] at eE
      | some R0=>
        simp only [hx,Option.map_some,Option.some.injEq] at eE
        subst eE
        obtain ⟨k1,k2⟩:=h.mem.root r' R0 hx
        have ma:∀ k∈R0.ft,k∈cL S:=by
          intro k hk
          obtain ⟨A',B',e1,_⟩:=lY hx
          rw [e1]; simp [hk]
        refine ⟨?_,?_⟩
        · simp only [List.length_map]
          have hv:aD (R0.cs.map (fT (cF r)))=aD R0.cs:=by
            rw [cW,cW,List.map_map]
            congr 1
            funext t
            cases t<;>rfl
          rw [hv]
          cases hb:R0.box with
          | none=>trivial
          | some b=>
            simp only [hb] at k1 ⊢
            obtain ⟨c,e,fz,g1,g2⟩:=k1
            have ZB:b < w.heap.size:=h.mem.lt b (List.mem_append.2 (.inl (ma b (by simp [RT.ft,hb]))))
            exact ⟨c,e,fz,by rw [hold b ZB]; exact g1,g2⟩
        · intro t ht
          simp only [List.mem_map] at ht
          obtain ⟨t0,kG,rfl⟩:=ht
          have:=k2 t0 kG
          cases t0 with
          | v d u=>
            simp only [fT,jh] at this ⊢
            rw [(qQ r).leaf]
            rcases this with this | ⟨hb,this⟩
            · exact .inl (sr (qQ r) (Tb r) (gv cE _ _ this))
            · exact .inr ⟨hb,by rw [uW this]; exact dW _ _ this⟩
          | own s n cap a xs=>
            simp only [fT]
            refine dO cE _ this (fun k hk=>hold k (h.mem.lt k (List.mem_append.2 (.inl (ma k ?_)))))
            obtain ⟨i,hi⟩:=List.mem_iff_getElem?.1 kG
            obtain ⟨A',B',e1,_⟩:=dR R0.cs i _ hi
            rw [RT.ft,e1]; simp [hk]
  · have:=h.mem.hand
    rw [dP] at this
    refine gy cE _ this.2 (fun k hk=>hold k (h.mem.lt k ?_))
    rw [bj]; simp [hk]
  · intro k hk
    rw [f2] at hk
    simp only [List.mem_append] at hk
    have hl:=h.mem.lt k
    rw [f1,bj] at hl
    simp only [List.mem_append] at hl
    rcases hk with ((hk | hk) | hk) | hk
    · have:=hl (.inl (.inl (.inl hk))); omega
    · exact cX k hk
    · have:=hl (.inl (.inr hk)); omega
    · have:=hl (.inr (.inr hk)); omega
  · intro k hk hf
    rw [hold k (by have:=h.kept.size; omega)]
    exact h.kept.block k hk hf
  · intro k hk
    rcases eF k hk with h2 | h2
    · exact h.kept.iE k h2
    · have:=h.kept.size
      exact .inr (by omega)
  · intro r' b vs hm R' eE
    have dc:=hP _ hm
    rw [dJ _ _ dc,lJ] at eE
    cases hx:lk S r' with
    | none=>simp [hx] at eE
    | some R0=>
      simp only [hx,Option.map_some,Option.some.injEq] at eE
      subst eE
      obtain ⟨g1,g2⟩:=h.kept.par r' b vs hm R0 hx
      refine ⟨g1,fun hb=>?_⟩
      rw [← g2 hb]
      simp only [cW,List.map_map]
      congr 1
      funext t
      cases t<;>rfl
end
end Go.Proofs.YtockoilcnmljiaaGreat
namespace Go.Proofs.YtockoilcnmljiaaGreat
def qR:T→List Nat→Option T
  | t,[]=>some t
  | .own _ _ _ _ cs,o::q=>match cs[o]? with
    | some t=>qR t q
    | none=>none
  | _,_::_=>none
theorem UM (y:List Nat):∀ t:T,Ei t.er y=(qR t y).map T.er:=by
  induction y with
  | nil=>intro t; cases t<;>simp [Ei,qR]
  | cons o q ih=>
    intro t
    cases t with
    | v d u=>
      simp only [T.er,qR,Option.map_none]
      cases d with
      | sl g s n cs=>cases g<;>simp [bQ,Ei]
      | _=>simp [bQ,Ei]
    | own s n cap a cs=>
      simp only [T.er,Ei,qR,iv]
      cases cs[o]? with
      | none=>rfl
      | some t=>simp [ih]
theorem aaY {w:World} {X:Bool→Nat→Prop} (y:List Nat):∀ {t t2:T},bL w X t→qR t y=some t2→bL w X t2∧∀ k∈t2.ft,k∈t.ft:=by
  induction y with
  | nil=>
    intro t t2 hs h
    have:t2=t:=by cases t<;>simpa [qR] using h.symm
    subst this
    exact ⟨hs,fun _ h=>h⟩
  | cons o q ih=>
    intro t t2 hs h
    cases t with
    | v d u=>simp [qR] at h
    | own s n cap a cs=>
      simp only [qR] at h
      cases hc:cs[o]? with
      | none=>simp [hc] at h
      | some t1=>
        simp only [hc] at h
        simp only [bL] at hs
        obtain ⟨h1,h2⟩:=ih (fP hs.2.2.2 hc) h
        refine ⟨h1,fun k hk=>?_⟩
        obtain ⟨A,B,e,_⟩:=dR cs o _ hc
        simp [T.ft,e,h2 k hk]
theorem UN (y:List Nat):∀ {t:T} {cs:List T} {o:Nat},cs[o]?=some t→∀ {q':List Nat} {o':Nat},q'++[o']=o::y→(match aw cs q' with | some l=>l[o']? | none=>none)=qR t y:=by
  induction y with
  | nil=>
    intro t cs o ho q' o' he
    cases q' with
    | nil=>
      simp only [List.nil_append,List.cons.injEq,and_true] at he
      subst he
      simp only [aw,ho]
      cases t<;>rfl
    | cons p q'=>simp at he
  | cons z y ih=>
    intro t cs o ho q' o' he
    cases q' with
    | nil=>simp at he
    | cons p q'=>
      simp only [List.cons_append,List.cons.injEq] at he
      obtain ⟨rfl,he⟩:=he
      simp only [aw,ho]
      cases t with
      | v d u=>rfl
      | own s n cap a xs=>
        simp only [qR]
        cases hz:xs[z]? with
        | none=>
          simp only
          cases q' with
          | nil=>
            simp only [List.nil_append,List.cons.injEq] at he
            obtain ⟨rfl,_⟩:=he
            simp [aw,hz]
          | cons p' q''=>
            simp only [List.cons_append,List.cons.injEq] at he
            obtain ⟨rfl,_⟩:=he
            simp [aw,hz]
        | some t1=>exact ih hz he
theorem Xm {q:List Nat} {o:Nat} {y:List Nat} {t:T}:∀ {cs l:List T},aw cs q=some l→l[o]?=some t→∀ {q':List Nat} {o':Nat},under (q++[o]) (q'++[o'])=some y→(match aw cs q' with | some l=>l[o']? | none=>none)=qR t y:=by
  induction q with
  | nil=>
    intro cs l hc ho q' o' hu
    simp only [aw,Option.some.injEq] at hc
    subst hc
    have:=jt hu
    simp only [List.nil_append,List.singleton_append] at this
    exact UN y ho this
  | cons p q ih=>
    intro cs l hc ho q' o' hu
    rw [aw] at hc
    cases hp:cs[p]? with
    | none=>simp [hp] at hc
    | some x=>
      cases x with
      | v d u=>simp [hp] at hc
      | own s n cap a xs=>
        simp only [hp] at hc
        cases q' with
        | nil=>have:=jt hu; simp at this
        | cons p' q'=>
          simp only [List.cons_append,under] at hu
          split at hu
          · rename_i e
            subst e
            simp only [aw,hp]
            exact ih hc ho hu
          · simp at hu
section
variable {w w':World} {X X':Bool→Nat→Prop} {S S1 S':List (Nat × RT)} (hX:ju w w' X X')
include hX
theorem aaZ {r:Nat} {q:List Nat} {o:Nat} {t t':T} (hc:kF S S' r q o t t') (hs:bL w X t) (hf:∀ k∈t.ft,X' false k∧w'.heap[k]?=w.heap[k]?) {d:D} {u:Value} (h:bB w X S d u):bB w' X' S' (vd r q o t.er d) u:=by
  cases d with
  | ref r' q' o' x=>
    simp only [vd]
    split
    · rename_i hr
      subst hr
      cases hu:under (q++[o]) (q'++[o']) with
      | none=>
        simp only
        intro t2 h2
        obtain ⟨t1,h1,hl⟩:=hc.vq (.inr hu) h2
        exact kE hl (h t1 h1)
      | some y=>
        simp only
        obtain ⟨R,cs',l,h1,h2,h3,h4,rfl⟩:=hc.ex
        have cS:cA S r' q' o'=qR t y:=by
          unfold cA
          rw [h1]
          exact Xm h2 h3 hu
        cases hd:qR t y with
        | none=>rw [UM,hd]; simp [bB,Ext]
        | some t2=>
          rw [UM,hd]
          simp only [Option.map_some]
          cases he:t2.er with
          | sl g s n cs=>
            simp only
            obtain ⟨g1,g2⟩:=aaY y hs hd
            have hr:=h t2 (by rw [cS,hd])
            have vo:bL w' X' t2:=dO hX _ g1 (fun k hk=>(hf k (g2 k hk)).2)
            exact fG (CT (X':=X') (fun _ _ h=>h) false he vo (fun k hk=>(hf k (g2 k hk)).1) hr)
          | _=>simp [bB,Ext]
    · rename_i hr
      intro t2 h2
      obtain ⟨t1,h1,hl⟩:=hc.vq (.inl hr) h2
      exact kE hl (h t1 h1)
  | ptr r' q' o'=>exact yT hX hc (ex:=true) (by simp) h
  | cJ cs o'=>exact oM hX h
  | _=>simp only [vd]; exact yT hX hc (ex:=true) (by simp) h
end
section
variable {C:Ctx} {H H':List T} {w w':World} {S S1 S':List (Nat × RT)}
theorem UO (hm:Mem C w S H) {g:D→D} (hS:SR g S S1) {r:Nat} {q:List Nat} {o:Nat} {t t':T} (hc:kF S1 S' r q o t t') {R0:RT} (ZC:lk S r=some R0) {b off:Nat} (AP:q=[]→R0.box=some b∧off=0) (hq:q≠[]→cb R0.box R0.cs q=some (b,off)) (hu:RH w w' b (off+o) t'.val)
    (hs:bL w' (ah C w' S' H') t'∨∃ d u,t'=.v d u∧q=[]∧bB w' (ah C w' S' H') S' (bQ d) u) (cE:ju w w' (ah C w S H) (ah C w' S' H'))
    (fr:(cL S'++ai H').Nodup) (eF:∀ k∈cL S'++ai H',k∈cL S++ai H) (hh:bM w' (ah C w' S' H') H') (dW:∀ d u,bB w (ah C w S H) S d u→bB w' (ah C w' S' H') S' (g d) u) (qP:∀ d u,Ext w' (ah C w' S' H') d u→Ext w' (ah C w' S' H') (g d) u) (cV:w'.heap.size=w.heap.size):Mem C w' S' H':=by
  have DJ:b∈R0.ft:=by
    cases q with
    | nil=>obtain ⟨h1,_⟩:=AP rfl; simp [RT.ft,h1]
    | cons p q=>simp [RT.ft,sj (hq (by simp))]
  obtain ⟨A0,B0,f1,_⟩:=lY ZC
  have acK:=hm.nd
  rw [f1] at acK
  have ZD:∀ {r1:Nat} {R1:RT},lk S r1=some R1→r1≠r→∀ k∈R1.ft,k≠b:=by
    intro r1 R1 h1 dc k hk e
    subst e
    obtain ⟨A1,B1,e1,e2⟩:=lY ZC
    have hx:lk (pt S r ⟨none,[]⟩) r1=some R1:=by rw [dJ _ _ dc]; exact h1
    obtain ⟨A2,B2,e3,_⟩:=lY hx
    have dn:k∈cL (pt S r ⟨none,[]⟩):=by rw [e3]; simp [hk]
    have h0:(RT.mk none []).ft=[]:=rfl
    rw [e2,h0] at dn
    have hn:=hm.nd
    rw [e1] at hn
    simp only [List.append_nil,List.mem_append,List.nodup_append] at dn hn
    rcases dn with dn | dn
    · exact hn.1.1.2.2 k dn k DJ rfl
    · exact hn.1.2.2 k (.inr DJ) k dn rfl
  have afs:∀ t0:T,bL w (ah C w S H) t0→b∉t0.ft→bL w' (ah C w' S' H') t0:=fun t0 h0 hb=>dO cE _ h0 (fun k hk=>by
    obtain ⟨_,_,_,_,_,h3⟩:=hu
    exact h3 k (fun e=>hb (e▸hk)))
  have cell:∀ {bx:Bool} {t0 t1:T},jh w (ah C w S H) S bx t0→GT g t0 t1→b∉t0.ft→jh w' (ah C w' S' H') S' bx t1:=by
    intro bx t0 t1 h0 hg hb
    rcases hg with ⟨d,d1,u,rfl,rfl,he⟩ | ⟨⟨s,n,cap,a,xs,rfl⟩,rfl⟩
    · simp only [jh] at h0 ⊢
      rw [he]
      rcases h0 with h0 | ⟨hb,h0⟩
      · exact .inl (qP _ _ (gv cE _ _ h0))
      · exact .inr ⟨hb,dW _ _ h0⟩
    · exact afs _ h0 hb
  refine ⟨fr,?_,hh,fun k hk=>by rw [cV]; exact hm.lt k (eF k hk)⟩
  intro r' R' eu
  obtain ⟨R1,cs',l,h1,h2,h3,h4,rfl⟩:=hc.ex
  by_cases he:r'=r
  · subst he
    rw [cH,Option.some.injEq] at eu
    subst eu
    obtain ⟨R,g1,g2,g3,g4,g5⟩:=hS.sq h1
    rw [ZC,Option.some.injEq] at g1
    subst g1
    obtain ⟨k1,k2⟩:=hm.root r' R0 ZC
    have AQ:R0.ft.Nodup:=(List.nodup_append.1 (List.nodup_append.1 (List.nodup_append.1 acK).1).1).2.1
    cases q with
    | nil=>
      obtain ⟨DK,AI⟩:=AP rfl
      subst AI
      simp only [aw,Option.some.injEq] at h2
      simp only [dL,Option.some.injEq] at h4
      subst h2; subst h4
      obtain ⟨cX,hto⟩:=List.getElem?_eq_some_iff.1 h3
      simp only [DK] at k1
      rw [RT.ft,DK] at AQ
      simp only [Option.toList,List.cons_append,List.nil_append,List.nodup_cons] at AQ
      refine ⟨?_,?_⟩
      · simp only [List.length_set]
        rw [g2,DK]
        simp only
        rw [qh,g4,g3]
        exact RI hu (by omega) k1 (by rw [bS]; exact Nat.le_refl _)
      · intro t0 kG
        obtain ⟨j,hj⟩:=List.mem_iff_getElem?.1 kG
        simp only at hj
        by_cases KA:o=j
        · subst KA
          rw [List.getElem?_set_self cX,Option.some.injEq] at hj
          subst hj
          rcases hs with hs | ⟨d,u,rfl,_,hs⟩
          · cases t' with
            | v d u=>exact .inl hs
            | own s n cap a xs=>exact hs
          · exact .inr ⟨by rw [g2,DK]; rfl,hs⟩
        · rw [List.getElem?_set_ne KA] at hj
          obtain ⟨RN,e1,e2⟩:=g5 j _ hj
          have:=cell (k2 _ (List.mem_of_getElem? e1)) e2 (fun hb=>AQ.1 (by
            obtain ⟨A',B',e3,_⟩:=dR R0.cs j _ e1
            rw [e3]; simp [hb]))
          rw [← g2] at this
          exact this
    | cons p q=>
      have ha:=hq (by simp)
      have vo:bL w' (ah C w' (pt S1 r' ⟨R1.box,cs'⟩) H') t':=by
        rcases hs with hs | ⟨d,u,_,hq,_⟩
        · exact hs
        · simp at hq
      have gO:=(mF h4).1
      have hlen:=(mF h4).2
      rw [aw] at h2
      rw [dL] at h4
      cases hp:R1.cs[p]? with
      | none=>simp [hp] at h2
      | some x=>
        cases x with
        | v d u=>simp [hp] at h2
        | own s n cap a xs=>
          simp only [hp] at h2 h4
          cases hx:dL (fun l=>l.set o t') xs q with
          | none=>simp [hx] at h4
          | some kz=>
            simp only [hx,Option.some.injEq] at h4
            obtain ⟨RN,e1,e2⟩:=g5 p _ hp
            have ZE:R0.cs[p]?=some (.own s n cap a xs):=by
              rcases e2 with ⟨d,d1,u,_,e2,_⟩ | ⟨_,e2⟩
              · simp at e2
              · rw [e1,e2]
            have dZ:bL w (ah C w S H) (.own s n cap a xs):=k2 _ (List.mem_of_getElem? ZE)
            obtain ⟨A',B',e3,e4⟩:=dR R0.cs p _ ZE
            have su:(ai R0.cs).Nodup:=by rw [RT.ft] at AQ; exact (List.nodup_append.1 AQ).2.1
            have vu:b∈(T.own s n cap a xs).ft:=by
              rw [cb] at ha
              simp only [ZE] at ha
              cases q with
              | nil=>simp only at ha; subst ha; simp [T.ft,jg]
              | cons p' q'=>simp only at ha; simp [T.ft,sj ha]
            have aft:bL w' (ah C w' (pt S1 r' ⟨R1.box,cs'⟩) H') (.own s n cap a kz):=by
              have h5:bM w (ah C w S H) [T.own s n cap a xs]:=by simp only [bM]; exact ⟨dZ,trivial⟩
              have h6:(ai [T.own s n cap a xs]).Nodup:=by
                simp only [ai,List.append_nil]
                rw [e3] at su
                exact (List.nodup_append.1 (List.nodup_append.1 su).1).2.1
              have h7:cb none [T.own s n cap a xs] (0::q)=some (b,off):=by
                rw [cb] at ha
                simp only [ZE] at ha
                simp only [cb,List.getElem?_cons_zero]
                exact ha
              have h8:=aaO (cs':=[T.own s n cap a kz]) (l:=l) cE vo hu (q:=q) h5 h6 (by simp only [aw,List.getElem?_cons_zero]; exact h2) h7 (List.getElem?_eq_some_iff.1 h3).1 (by simp [dL,hx])
              simp only [bM] at h8
              exact h8.1
            refine ⟨?_,?_⟩
            · simp only
              rw [gO,hlen,g4,g3,g2]
              cases hb:R0.box with
              | none=>trivial
              | some b0=>
                simp only [hb] at k1 ⊢
                refine IH hu (fun e=>?_) k1
                subst e
                rw [RT.ft,hb] at AQ
                simp only [Option.toList,List.cons_append,List.nil_append,List.nodup_cons] at AQ
                exact AQ.1 (by rw [e3]; simp [vu])
            · intro t0 kG
              subst h4
              obtain ⟨j,hj⟩:=List.mem_iff_getElem?.1 kG
              simp only at hj
              obtain ⟨cX,_⟩:=List.getElem?_eq_some_iff.1 hp
              by_cases uq:p=j
              · subst uq
                rw [List.getElem?_set_self cX,Option.some.injEq] at hj
                subst hj
                exact aft
              · rw [List.getElem?_set_ne uq] at hj
                obtain ⟨t01,e5,e6⟩:=g5 j _ hj
                have AI:b∉t01.ft:=by
                  intro hb
                  have h7:=e4 (.v .undef undef)
                  have F3:(R0.cs.set p (.v .undef undef))[j]?=some t01:=by rw [List.getElem?_set_ne uq]; exact e5
                  obtain ⟨A2,B2,e7,_⟩:=dR _ j t01 F3
                  have fX:b∈ai (R0.cs.set p (.v .undef undef)):=by rw [e7]; simp [hb]
                  rw [h7] at fX
                  rw [e3] at su
                  simp only [T.ft,List.append_nil,List.mem_append] at fX
                  rw [List.nodup_append,List.nodup_append] at su
                  rcases fX with fX | fX
                  · exact su.1.2.2 b fX b vu rfl
                  · exact su.2.2 b (List.mem_append.2 (.inr vu)) b fX rfl
                have:=cell (k2 _ (List.mem_of_getElem? e5)) e6 AI
                rw [← g2] at this
                exact this
  · rw [dJ _ _ he] at eu
    obtain ⟨R,g1,g2,g3,g4,g5⟩:=hS.sq eu
    obtain ⟨k1,k2⟩:=hm.root r' R g1
    refine ⟨?_,?_⟩
    · rw [g4,g3,g2]
      cases hb:R.box with
      | none=>trivial
      | some b0=>
        simp only [hb] at k1 ⊢
        exact IH hu (ZD g1 he b0 (by simp [RT.ft,hb])) k1
    · intro t0 kG
      obtain ⟨j,hj⟩:=List.mem_iff_getElem?.1 kG
      obtain ⟨RN,e1,e2⟩:=g5 j _ hj
      have:=cell (k2 _ (List.mem_of_getElem? e1)) e2 (fun hb=>by
        refine ZD g1 he b ?_ rfl
        obtain ⟨A',B',e3,_⟩:=dR R.cs j _ e1
        rw [RT.ft,e3]; simp [hb])
      rw [← g2] at this
      exact this
end
theorem aa0 {w:World} {b off fm:Nat} {us:List Value} (h:lF w b off fm us) {o:Nat} (ho:o < fm) (u:Value):RH w (w.setCell ⟨b,off+o,none⟩ u) b (off+o) u:=by
  obtain ⟨c,e,fz,h1,_,h3,_⟩:=h
  refine ⟨c,e,fz,h1,?_,fun k hk=>?_⟩
  · simp [World.setCell,Array.getElem?_modify,h1]
  · simp only [World.setCell,Array.getElem?_modify]
    rw [if_neg (by simpa using (Ne.symm hk))]
end Go.Proofs.YtockoilcnmljiaaGreat
namespace Go.Proofs.YtockoilcnmljiaaGreat
theorem Eu {H H':List T} (h:H.Perm H'):(ai H).Perm (ai H'):=by
  induction h with
  | nil=>exact .refl _
  | cons x _ ih=>simp only [ai]; exact .append (.refl _) ih
  | swap x y l=>
    simp only [ai]
    rw [← List.append_assoc,← List.append_assoc]
    exact .append List.perm_append_comm (.refl _)
  | trans _ _ h1 h2=>exact h1.trans h2
theorem AR {C:Ctx} {w:World} {S:List (Nat × RT)} {H H':List T} (h:H.Perm H'):ah C w S H=ah C w S H':=by
  funext b k
  simp only [ah,(Eu h).mem_iff]
theorem Rel.perm {C:Ctx} {H H':List T} {w:World} {st:St} {aI:List (Array Value)} {S:List (Nat × RT)} (hp:H.Perm H') (h:Rel C H w st aI S):Rel C H' w st aI S:=by
  have hf:=AR (C:=C) (w:=w) (S:=S) hp
  have hfp:=Eu hp
  obtain ⟨h1,⟨m1,m2,m3,m4⟩,h3,k⟩:=h
  rw [hf] at m2 m3 h3
  refine ⟨h1,⟨(List.Perm.append (List.Perm.refl (cL S)) hfp).nodup_iff.1 m1,m2,?_,fun k hk=>m4 k ?_⟩,h3,⟨k.os,k.tape,k.output,k.size,k.block,fun x hx=>k.iE x ?_,k.par⟩⟩
  · rw [cr] at m3 ⊢
    exact fun t ht=>m3 t (hp.mem_iff.2 ht)
  · simpa [hfp.mem_iff] using hk
  · simpa [hfp.mem_iff] using hx
def hM (C:Ctx) (w w':World) (S S':List (Nat × RT)) (H H':List T) (f:D→D):Prop:=∀ d u,bB w (ah C w S H) S d u→bB w' (ah C w' S' H') S' (f d) u
def mb (st st':St):Prop:=st'.tm=st.tm∧st'.up=st.up∧st'.of=st.of
theorem mb.refl (st:St):mb st st:=⟨rfl,rfl,rfl⟩
theorem mb.trans {a b c:St} (h:mb a b) (h':mb b c):mb a c:=⟨h'.1.trans h.1,h'.2.1.trans h.2.1,h'.2.2.trans h.2.2⟩
section
variable {C:Ctx} {w:World} {aI:List (Array Value)}
theorem Gk:∀ {ds ds':List D} {us:List Value} {H:List T} {st st':St} {S:List (Nat × RT)},Rel C H w st aI S→cj (bB w (ah C w S H) S) ds us→rM st ds=some (ds',st')→
    ∃ ts S',Rel C (ts++H) w st' aI S'∧bw ts=ds'∧aD ts=us∧hM C w w S S' H (ts++H) id∧qn S S'∧mb st st':=by
  intro ds
  induction ds with
  | nil=>
    intro ds' us H st st' S h hu ht
    cases hu
    simp only [rM,Option.some.injEq,Prod.mk.injEq] at ht
    obtain ⟨rfl,rfl⟩:=ht
    exact ⟨[],S,h,rfl,rfl,fun _ _ h=>h,qn.refl _,mb.refl _⟩
  | cons d ds ih=>
    intro ds' us H st st' S h hu ht
    cases hu with
    | cons tE DL=>
    simp only [rM] at ht
    split at ht
    case h_2=>simp at ht
    rename_i d1 aQ h1
    split at ht
    case h_2=>simp at ht
    rename_i gp cq h2
    simp only [Option.some.injEq,Prod.mk.injEq] at ht
    obtain ⟨rfl,rfl⟩:=ht
    obtain ⟨t,S1,a1,rfl,rfl,a4,a5,a6,_⟩:=uV h tE h1
    obtain ⟨ts,S2,b1,rfl,rfl,b4,b5,b6⟩:=ih a1 (DL.mono (fun _ _ hh=>a4 _ _ hh)) h2
    have hp:(ts++t::H).Perm (t::ts++H):=List.perm_middle
    refine ⟨t::ts,S2,b1.perm hp,by simp [bw],by simp [aD],fun d u hd=>?_,a5.trans b5,mb.trans a6 b6⟩
    have:=b4 _ _ (a4 d u hd)
    rwa [AR hp] at this
end
end Go.Proofs.YtockoilcnmljiaaGreat
namespace Go.Proofs.YtockoilcnmljiaaGreat
structure Grown (w w':World):Prop where
  sz:w.heap.size≤w'.heap.size
  bO:∀ k,k < w.heap.size→w'.heap[k]?=w.heap[k]?
  os:w'.os=w.os
  tape:w'.tape=w.tape
  out:w'.output=w.output
theorem Grown.refl (w:World):Grown w w:=⟨Nat.le_refl _,fun _ _=>rfl,rfl,rfl,rfl⟩
theorem jv (w:World) (o:Obj):(w.alloc o).heap.size=w.heap.size+1:=by
  show (w.heap.push o).size=_
  simp
theorem KH (w:World) (o:Obj):(w.alloc o).heap[w.heap.size]?=some o:=by
  show (w.heap.push o)[w.heap.size]?=_
  simp
theorem Grown.alloc (w:World) (o:Obj):Grown w (w.alloc o):=
  ⟨by rw [jv]; omega,fun k hk=>by
    show (w.heap.push o)[k]?=_
    simp [Array.getElem?_push,Nat.ne_of_lt hk],rfl,rfl,rfl⟩
theorem Grown.drew (w:World):Grown w w.drew:=⟨Nat.le_refl _,fun _ _=>rfl,rfl,rfl,rfl⟩
theorem Grown.trans {a b c:World} (h:Grown a b) (h':Grown b c):Grown a c:=
  ⟨Nat.le_trans h.sz h'.sz,fun k hk=>(h'.bO k (Nat.lt_of_lt_of_le hk h.sz)).trans (h.bO k hk),h'.os.trans h.os,h'.tape.trans h.tape,h'.out.trans h.out⟩
theorem kH (w:World) (c:Array Value) (e:TypeId) {us:List Value} {fm:Nat} (h1:fm≤c.size) (h2:∀ (j:Nat) (u:Value),us[j]?=some u→c[j]?=some u):lF (w.alloc (.cells c e)) w.heap.size 0 fm us:=
  ⟨c,e,(0,0),KH w _,fun o _=>by simp,by omega,fun j u hj=>by rw [Nat.zero_add]; exact h2 j u hj⟩
theorem Rel.put {C:Ctx} {H:List T} {w:World} {st:St} {vs:Array Value} {aI:List (Array Value)} {S:List (Nat × RT)} (h:Rel C H w st (vs::aI) S) {t:Nat} (ht:t < vs.size) {d:D} {v:Value} (hv:cy w (ah C w S H) S d v):
    Rel C H w (st.put (some t) d) (vs.setIfInBounds t v::aI) S:=by
  obtain ⟨h1,h2,h3,h4⟩:=h
  refine ⟨h1,h2,?_,h4⟩
  cases h3 with
  | cons a b=>exact .cons (mA.put a ht hv) b
section
variable {C:Ctx} {H Hs:List T} {w w':World} {st st':St} {vs:Array Value} {aI:List (Array Value)} {S:List (Nat × RT)}
theorem sv (h:Rel C (Hs++H) w st (vs::aI) S) (hg:Grown w w') {t:Nat} {R:RT} (eT:∀ k∈R.ft,k∈ai Hs∨(w.heap.size≤k∧k < w'.heap.size)) (fr:R.ft.Nodup)
    (hR:∀ S':List (Nat × RT),ju w w' (ah C w S (Hs++H)) (ah C w' S' H)→(∀ d u,bB w (ah C w S (Hs++H)) S d u→bB w' (ah C w' S' H) S' (cF (st.of+t) d) u)→NP w' (ah C w' S' H) S' R)
    (ht:t < vs.size) (hP:∀ p∈C.P0,p.1≠st.of+t) {d:Nat→D} {v:Value} (hd:∀ S' X,lk S' (st.of+t)=some R→cy w' X S' (d (st.of+t)) v) (hr:st.root (some t) (bw R.cs) d=some st'):
    ∃ S',Rel C H w' st' (vs.setIfInBounds t v::aI) S':=by
  have Xn:∀ k∈R.ft,k∈ai Hs∨w.heap.size≤k:=fun k hk=>(eT k hk).imp id (·.1)
  have cX:∀ k∈R.ft,k < w'.heap.size:=fun k hk=>by
    rcases eT k hk with h1 | h1
    · have:=h.mem.lt k (List.mem_append.2 (.inr (by rw [bj]; exact List.mem_append.2 (.inl h1))))
      have:=hg.sz
      omega
    · exact h1.2
  have cE:=oN (r:=st.of+t) h Xn hg.sz hg.bO
  have dW:=Gj (r:=st.of+t) h Xn hg.sz hg.bO
  obtain ⟨h1,_⟩:=yX h (hR _ cE dW) ⟨fr,Xn⟩ cX hg.sz hg.bO hg.os hg.tape hg.out hP
  simp only [St.root,Option.some.injEq] at hr
  subst hr
  exact ⟨_,h1.put ht (hd _ _ (cH _ _ _))⟩
theorem CU (h:Rel C (Hs++H) w st (vs::aI) S) (hg:Grown w w') {t s n cap b:Nat} {ts:List T} (hb:w.heap.size≤b∧b < w'.heap.size) (hs:bM w (ah C w S (Hs++H)) ts) (eF:∀ k∈ai ts,k∈ai Hs) (fr:(ai ts).Nodup)
    (hn:n≤cap) (hl:ts.length=n*s) (eW:lF w' b 0 (cap*s) (aD ts)) (ht:t < vs.size) (hP:∀ p∈C.P0,p.1≠st.of+t) (hr:st.root (some t) [.sl none s n (bw ts)] (fun d=>.ref d [] 0 none)=some st'):
    ∃ S',Rel C H w' st' (vs.setIfInBounds t (.slice (some ⟨b,0,none⟩) n cap)::aI) S':=by
  have wJ:∀ k∈ai ts,k < w.heap.size:=fun k hk=>h.mem.lt k (List.mem_append.2 (.inr (by rw [bj]; exact List.mem_append.2 (.inl (eF k hk)))))
  refine sv (R:=⟨none,[.own s n cap (some (b,0)) ts]⟩) h hg ?_ ?_ ?_ ht hP ?_ (by simpa [bw,T.er] using hr)
  · intro k hk
    simp only [RT.ft,ai,T.ft,jg,Option.toList,List.nil_append,List.append_nil,List.cons_append,List.mem_cons] at hk
    rcases hk with rfl | hk
    · exact .inr hb
    · exact .inl (eF k hk)
  · simp only [RT.ft,ai,T.ft,jg,Option.toList,List.nil_append,List.append_nil,List.cons_append,List.nodup_cons]
    exact ⟨fun hk=>by have:=wJ b hk; omega,fr⟩
  · intro S' cE dW
    refine ⟨trivial,fun x hx=>?_⟩
    simp only [List.mem_singleton] at hx
    subst hx
    simp only [jh,bL]
    exact ⟨hn,hl,eW,gy cE _ hs (fun k hk=>hg.bO k (wJ k hk))⟩
  · intro S' X qm
    simp only [cy,gI,bB]
    intro x hx
    simp only [cA,qm,aw,List.getElem?_cons_zero,Option.some.injEq] at hx
    subst hx
    simp [eS,sn,T.er,T.val,wE]
theorem IK (h:Rel C (Hs++H) w st (vs::aI) S) (hg:Grown w w') {t b:Nat} {ts:List T} (hb:w.heap.size≤b∧b < w'.heap.size)
    (hs:∀ x∈ts,bL w (ah C w S (Hs++H)) x∨∃ d u,x=.v (cF (st.of+t) d) u∧bB w (ah C w S (Hs++H)) S d u) (eF:∀ k∈ai ts,k∈ai Hs) (fr:(ai ts).Nodup)
    (eW:lF w' b 0 ts.length (aD ts)) (ht:t < vs.size) (hP:∀ p∈C.P0,p.1≠st.of+t) (hr:st.root (some t) (bw ts) (fun d=>.ptr d [] 0)=some st'):
    ∃ S',Rel C H w' st' (vs.setIfInBounds t (.pointer (some ⟨b,0,none⟩))::aI) S':=by
  have wJ:∀ k∈ai ts,k < w.heap.size:=fun k hk=>h.mem.lt k (List.mem_append.2 (.inr (by rw [bj]; exact List.mem_append.2 (.inl (eF k hk)))))
  refine sv (R:=⟨some b,ts⟩) h hg ?_ ?_ ?_ ht hP ?_ hr
  · intro k hk
    simp only [RT.ft,Option.toList,List.cons_append,List.nil_append,List.mem_cons] at hk
    rcases hk with rfl | hk
    · exact .inr hb
    · exact .inl (eF k hk)
  · simp only [RT.ft,Option.toList,List.cons_append,List.nil_append,List.nodup_cons]
    exact ⟨fun hk=>by have:=wJ b hk; omega,fr⟩
  · intro S' cE dW
    refine ⟨eW,fun x hx=>?_⟩
    rcases hs x hx with h1 | ⟨d,u,rfl,h1⟩
    · have h2:bL w' (ah C w' S' H) x:=dO cE _ h1 (fun k hk=>hg.bO k (wJ k (by
        obtain ⟨i,hi⟩:=List.mem_iff_getElem?.1 hx
        obtain ⟨A,B,e,_⟩:=dR ts i x hi
        rw [e]; simp [hk])))
      cases x with
      | v d u=>exact .inl h2
      | own s n cap a cs=>exact h2
    · have h2:=dW d u h1
      have h3:bQ (cF (st.of+t) d)=cF (st.of+t) d:=by
        cases hd:cF (st.of+t) d with
        | sl g s n cs=>
          rw [hd] at h2
          cases g with
          | none=>simp [bB,Ext] at h2
          | some g=>rfl
        | _=>rfl
      simp only [jh]
      rw [h3]
      exact .inr ⟨rfl,h2⟩
  · intro S' X qm
    simp only [cy,gI,bB]
    intro R hR
    rw [qm,Option.some.injEq] at hR
    subst hR
    exact ⟨fun _=>rfl,fun b' off ha=>by simp only [cb,Option.map_some,Option.some.injEq,Prod.mk.injEq] at ha; obtain ⟨rfl,rfl⟩:=ha; rfl⟩
end
end Go.Proofs.YtockoilcnmljiaaGreat
namespace Go.Proofs.YtockoilcnmljiaaGreat
theorem vv {d:D} {u:Value} (h:RJ d u):bQ d=d:=by
  have h1:=h default (fun _ _=>False)
  cases d with
  | sl g s n cs=>cases g with
    | none=>simp [Ext] at h1
    | some g=>rfl
  | _=>rfl
def leaves (ds:List D) (us:List Value):List T:=List.zipWith T.v ds us
theorem KI {R:D→Value→Prop} {ds:List D} {us:List Value} (h:cj R ds us) (hl:∀ d u,R d u→bQ d=d):bw (leaves ds us)=ds∧aD (leaves ds us)=us∧ai (leaves ds us)=[]∧(leaves ds us).length=ds.length∧∀ x∈leaves ds us,∃ d u,x=.v d u∧R d u:=by
  induction h with
  | nil=>simp [leaves,bw,aD,ai]
  | cons h1 _ ih=>
    obtain ⟨e1,e2,e3,e4,e5⟩:=ih
    simp only [leaves,List.zipWith_cons_cons,bw,aD,ai,T.er,T.val,T.ft,List.length_cons] at*
    refine ⟨by rw [e1,hl _ _ h1],by rw [e2],by rw [e3]; rfl,by rw [e4],fun x hx=>?_⟩
    simp only [List.mem_cons] at hx
    rcases hx with rfl | hx
    · exact ⟨_,_,rfl,h1⟩
    · exact e5 x hx
theorem N1 {ds:List D} {us:List Value} (h:cj RJ ds us):∃ ts,bw ts=ds.map vc∧aD ts=us∧ai ts=[]∧∀ w X,bM w X ts:=by
  induction h with
  | nil=>exact ⟨[],rfl,rfl,rfl,fun _ _=>by simp [bM]⟩
  | @cons d u _ _ h1 _ ih=>
    obtain ⟨ts,e1,e2,e3,e4⟩:=ih
    have km:=vv h1
    by_cases hn:∃ s,d=.nil s
    · obtain ⟨s,rfl⟩:=hn
      have hu:u=.slice none 0 0:=h1 default (fun _ _=>False)
      subst hu
      exact ⟨.own s 0 0 none []::ts,by simp [bw,e1,T.er,vc],by simp [aD,e2,T.val,wE],by simp [ai,e3,T.ft,jg],fun w X=>by simp [bM,bL,e4]⟩
    · have hr:vc d=d:=by cases d<;>first | rfl | exact absurd ⟨_,rfl⟩ hn
      exact ⟨.v d u::ts,by simp [bw,e1,T.er,hr,km],by simp [aD,e2,T.val],by simp [ai,e3,T.ft],fun w X=>by simp only [bM,bL]; exact ⟨by rw [km]; exact h1 w X,e4 w X⟩⟩
theorem wK {ds:List D} {us:List Value} (h:cj RJ ds us) (n:Nat):∃ ts,bw ts=fF n ds∧aD ts=(List.replicate n us).flatten∧ai ts=[]∧∀ w X,bM w X ts:=by
  obtain ⟨t0,e1,e2,e3,e4⟩:=N1 h
  induction n with
  | zero=>exact ⟨[],by simp [bw,fF],by simp [aD],rfl,fun _ _=>by simp [bM]⟩
  | succ n ih=>
    obtain ⟨ts,f1,f2,f3,f4⟩:=ih
    refine ⟨t0++ts,?_,?_,?_,fun w X=>(dP _ _).2 ⟨e4 w X,f4 w X⟩⟩
    · rw [vl,e1,f1]; simp [fF,List.replicate_succ]
    · rw [AF,e2,f2]; simp [List.replicate_succ]
    · rw [bj,e3,f3]; rfl
theorem AS (z:Array Value) (n:Nat):((List.range (n*z.size)).map fun i=>z[i % z.size]!)=(List.replicate n z.toList).flatten:=by
  induction n with
  | zero=>simp
  | succ n ih=>
    rw [Nat.succ_mul,List.range_add,List.map_append,ih,List.replicate_succ',List.flatten_append]
    congr 1
    simp only [List.map_map,List.flatten_cons,List.flatten_nil,List.append_nil]
    apply List.ext_getElem?
    intro j
    simp only [List.getElem?_map,Array.getElem?_toList]
    by_cases hj:j < z.size
    · simp only [List.getElem?_range hj,Option.map_some,Function.comp_apply,Nat.mul_add_mod_self_right,Nat.mod_eq_of_lt hj]
      rw [getElem!_pos z j hj,Array.getElem?_eq_getElem hj]
    · rw [Array.getElem?_eq_none (by omega),List.getElem?_eq_none (by simp; omega)]
      rfl
theorem N2 (z:Array Value) (n:Nat) (j:Nat):(madeCells z (n*z.size))[j]?=(List.replicate n z.toList).flatten[j]?:=by
  rw [← AS,← Array.getElem?_toList]
  simp [madeCells]
theorem DM {α:Type} (l:List α) {m n:Nat} (h:m≤n) {j:Nat} {u:α} (hj:(List.replicate m l).flatten[j]?=some u):(List.replicate n l).flatten[j]?=some u:=by
  have:List.replicate n l=List.replicate m l++List.replicate (n - m) l:=by rw [List.replicate_append_replicate]; congr 1; omega
  rw [this,List.flatten_append,List.getElem?_append_left (List.getElem?_eq_some_iff.1 hj).1]
  exact hj
section
variable {P:Program} {c:cB} (av:ez c P) {C:Ctx} {Hx:List T} {w:World} {st st':St} {vs:Array Value} {aI:List (Array Value)} {S:List (Nat × RT)} (h:Rel C Hx w st (vs::aI) S)
include av h
theorem Xp {e:TypeId} {i:TI} (he:c.ty e=some i) {t:Nat} (ht:t < vs.size) (hP:∀ p∈C.P0,p.1≠st.of+t) (hr:st.root (some t) i.zero (fun d=>.ptr d [] 0)=some st'):
    ∃ v w',(Instr.alloc e true (.tuple #[])).run P w=.ok v w'∧dM w w'∧∃ S',Rel C Hx w' st' (vs.setIfInBounds t v::aI) S':=by
  obtain ⟨inf,h1,h2,h3,z,h4,h5⟩:=(av.ty _ _ he).info
  obtain ⟨e1,e2,e3,e4,e5⟩:=KI h5 (fun _ _=>vv)
  have eo:(Instr.alloc e true (.tuple #[])).run P w=.ok (.pointer (some ⟨w.heap.size,0,none⟩)) (w.alloc (.cells z.cells e)):=by
    simp [Instr.alloc,NQ h1 h4,newVar,newRow]
  refine ⟨_,_,eo,(Grown.alloc w _).bO,?_⟩
  refine IK (Hs:=[]) h (Grown.alloc w _) (ts:=leaves i.zero z.cells.toList) ⟨Nat.le_refl _,by rw [jv]; omega⟩ (fun x hx=>.inl ?_) (by rw [e3]; simp) (by rw [e3]; simp) ?_ ht hP (by rw [e1]; exact hr)
  · obtain ⟨d,u,rfl,h6⟩:=e5 x hx
    simp only [bL]
    rw [vv h6]
    exact h6 _ _
  · refine kH w _ _ (by rw [e4,h5.len]; simp) (fun j u hj=>?_)
    rw [e2] at hj
    simpa using hj
theorem N3 {t e:TypeId} {ei ti:TI} (kG:c.ty t=some ti) (ZF:ti.ty=.slice e) (he:c.ty e=some ei) {kl kc:IntKind} {l cp:Int} (h0:0≤l) (AT:l≤cp) (hb:0 < ei.bytes∧cp*ei.bytes≤140737488355328)
    {d:Nat} (ht:d < vs.size) (hP:∀ p∈C.P0,p.1≠st.of+d) (hr:st.root (some d) [.sl none ei.size l.toNat (fF l.toNat ei.zero)] (fun d=>.ref d [] 0 none)=some st'):
    ∃ v w',(Instr.makeSlice t (.int kl l) (.int kc cp)).run P w=.ok v w'∧dM w w'∧∃ S',Rel C Hx w' st' (vs.setIfInBounds d v::aI) S':=by
  obtain ⟨inf,h1,h2,h3,z,h4,h5⟩:=(av.ty _ _ he).info
  have DN:=(av.ty _ _ he).len
  obtain ⟨dd,g1,g2⟩:=(av.ty _ _ kG).desc
  rw [ZF] at g2
  simp only [kD] at g2
  subst g2
  have hcp:cp≤140737488355328:=by
    have:cp*1≤cp*ei.bytes:=Int.mul_le_mul_of_nonneg_left (by omega) (by omega)
    omega
  have eo:=run_make (P:=P) w t e inf z g1 h1 h4 kl kc l cp h0 AT (by rw [h3,Int.mul_comm]; omega) (by omega)
  refine ⟨_,_,eo,(Grown.alloc w _).bO,?_⟩
  obtain ⟨ts,e1,e2,e3,e4⟩:=wK h5 l.toNat
  have lG:z.cells.size=ei.size:=by rw [← DN,h5.len]; simp
  have hlen:ts.length=l.toNat*ei.size:=by
    have:=congrArg List.length e2
    rw [bS] at this
    simp only [List.length_flatten,List.map_replicate,List.sum_replicate_nat,Array.length_toList,lG] at this
    exact this
  rw [← e1] at hr
  refine CU (Hs:=[]) h (Grown.alloc w _) (ts:=ts) ⟨Nat.le_refl _,by rw [jv]; omega⟩ (e4 _ _) (by rw [e3]; simp) (by rw [e3]; simp) (by omega) hlen ?_ ht hP hr
  refine kH w _ _ (by rw [size_madeCells,h2]; exact Nat.le_refl _) (fun j u hj=>?_)
  rw [e2] at hj
  rw [h2,← lG,N2]
  exact DM _ (by omega) hj
end
end Go.Proofs.YtockoilcnmljiaaGreat
namespace Go.Proofs.YtockoilcnmljiaaGreat
def nW {α:Type}:List α→Nat→List α→List α
  | cs,_,[]=>cs
  | cs,o,d::ds=>nW (cs.set o d) (o+1) ds
theorem DO:∀ (ds cs:List D) (o:Nat),yO cs o ds=nW cs o ds
  | [],_,_=>rfl
  | d::ds,cs,o=>by simp only [yO,nW]; exact DO ds _ _
theorem Ew {α β:Type} (f:α→β):∀ (ds cs:List α) (o:Nat),(nW cs o ds).map f=nW (cs.map f) o (ds.map f)
  | [],_,_=>rfl
  | d::ds,cs,o=>by simp only [nW,List.map_cons,← List.map_set]; exact Ew f ds _ _
theorem N4 {α:Type}:∀ (ds cs:List α) (o:Nat),(nW cs o ds).length=cs.length
  | [],_,_=>rfl
  | d::ds,cs,o=>by simp only [nW]; rw [N4 ds]; simp
theorem N5 (off:Nat):∀ (l:List Value) (k:Nat) (arr:Array Value),((l.zipIdx k).foldl (fun cs (x:Value × Nat)=>cs.setIfInBounds (off+x.2) x.1) arr).toList=nW arr.toList (off+k) l
  | [],_,_=>rfl
  | v::l,k,arr=>by
    simp only [List.zipIdx_cons,List.foldl_cons,nW]
    rw [N5 off l (k+1)]
    simp [Nat.add_assoc]
theorem Td (off:Nat) (v arr:Array Value):(v.zipIdx.foldl (fun cs (x:Value × Nat)=>cs.setIfInBounds (off+x.2) x.1) arr).toList=nW arr.toList off v.toList:=by
  rw [← Array.foldl_toList,Array.toList_zipIdx]
  exact N5 off v.toList 0 arr
def pN {α:Type} (place:Nat→Option (Nat × Nat)):List α→List (Nat × List α)→Option (List α)
  | cs,[]=>some cs
  | cs,(i,vs)::rest=>match place i with
    | some (o,k)=>if vs.length=k∧o+vs.length≤cs.length then pN place (nW cs o vs) rest else none
    | none=>none
theorem KJ {ok:D→Bool} {place:Nat→Option (Nat × Nat)}:∀ {parts:List (Nat × List D)} {cs ds:List D},nD ok place cs parts=some ds→∀ p∈parts,∀ d∈p.2,ok d=true:=by
  intro parts
  induction parts with
  | nil=>intro cs ds _ p hp; simp at hp
  | cons p parts ih=>
    intro cs ds h q hq
    obtain ⟨i,vs⟩:=p
    simp only [nD] at h
    split at h
    case h_2=>simp at h
    split at h
    case isFalse=>simp at h
    rename_i hc
    rcases List.mem_cons.1 hq with rfl | hq
    · exact fun d hd=>List.all_eq_true.1 hc.2.2 d hd
    · exact ih h q hq
theorem RO {α:Type} (er:α→D) {ok:D→Bool} {place:Nat→Option (Nat × Nat)}:∀ {parts:List (Nat × List α)} {cs:List α} {ds:List D},nD ok place (cs.map er) (parts.map fun p=>(p.1,p.2.map er))=some ds→∃ cs',pN place cs parts=some cs'∧cs'.map er=ds:=by
  intro parts
  induction parts with
  | nil=>intro cs ds h; simp only [List.map_nil,nD,Option.some.injEq] at h; exact ⟨cs,rfl,h⟩
  | cons p parts ih=>
    intro cs ds h
    obtain ⟨i,vs⟩:=p
    simp only [List.map_cons,nD] at h
    simp only [pN]
    split at h
    case h_2=>simp at h
    rename_i o k hp
    try rw [hp]
    split at h
    case isFalse=>simp at h
    rename_i hc
    simp only [List.length_map] at hc
    rw [DO,← Ew] at h
    simp only [hc.1,hc.2.1]
    rw [hc.1] at hc
    simpa [hc.2.1] using ih h
theorem Gl {α:Type} (val:α→Value) {place:Nat→Option (Nat × Nat)}:∀ {parts:List (Nat × List α)} {qS:List (Nat × Value)} {cs cs':List α} {arr:Array Value},cj (fun p q=>q.1=p.1∧q.2.cells.toList=p.2.map val) parts qS→pN place cs parts=some cs'→arr.toList=cs.map val→
    ∃ acO,Instr.fill place arr qS=some acO∧acO.toList=cs'.map val:=by
  intro parts
  induction parts with
  | nil=>
    intro qS cs cs' arr h1 h2 h3
    cases h1
    simp only [pN,Option.some.injEq] at h2
    subst h2
    exact ⟨arr,rfl,h3⟩
  | cons p parts ih=>
    intro qS cs cs' arr h1 h2 h3
    obtain ⟨i,vs⟩:=p
    cases h1 with
    | cons hp afu=>
    rename_i q qs
    obtain ⟨j,v⟩:=q
    obtain ⟨rfl,hv⟩:=hp
    simp only [pN] at h2
    split at h2
    case h_2=>simp at h2
    rename_i o k hpl
    split at h2
    case isFalse=>simp at h2
    rename_i hc
    have UP:v.cells.size=vs.length:=by have:=congrArg List.length hv; simpa using this
    have has:arr.size=cs.length:=by have:=congrArg List.length h3; simpa using this
    simp only [Instr.fill,hpl]
    rw [if_neg (by simp only [Bool.or_eq_true,decide_eq_true_eq,UP,has,not_or]; exact ⟨by simpa using hc.1,by omega⟩)]
    refine ih afu h2 ?_
    rw [Td,h3,hv,← Ew]
theorem Xq {α:Type}:∀ {ds cs:List α} {o:Nat} {x:α},x∈nW cs o ds→x∈cs∨x∈ds:=by
  intro ds
  induction ds with
  | nil=>intro cs o x h; exact .inl h
  | cons d ds ih=>
    intro cs o x h
    rcases ih h with h | h
    · rcases List.mem_or_eq_of_mem_set h with h | h
      · exact .inl h
      · exact .inr (by simp [h])
    · exact .inr (by simp [h])
theorem KK {α:Type} {place:Nat→Option (Nat × Nat)}:∀ {parts:List (Nat × List α)} {cs cs':List α},pN place cs parts=some cs'→(∀ x∈cs',x∈cs∨∃ p∈parts,x∈p.2)∧cs'.length=cs.length:=by
  intro parts
  induction parts with
  | nil=>intro cs cs' h; simp only [pN,Option.some.injEq] at h; subst h; exact ⟨fun x hx=>.inl hx,rfl⟩
  | cons p parts ih=>
    intro cs cs' h
    obtain ⟨i,vs⟩:=p
    simp only [pN] at h
    split at h
    case h_2=>simp at h
    split at h
    case isFalse=>simp at h
    obtain ⟨h1,h2⟩:=ih h
    refine ⟨fun x hx=>?_,h2.trans (N4 _ _ _)⟩
    rcases h1 x hx with h3 | ⟨p,h3,h4⟩
    · rcases Xq h3 with h4 | h4
      · exact .inl h4
      · exact .inr ⟨_,List.mem_cons_self,h4⟩
    · exact .inr ⟨p,List.mem_cons_of_mem _ h3,h4⟩
theorem UQ:∀ {ds cs:List T} {o:Nat} {B:List Nat},(ai cs++ai ds++B).Nodup→(ai (nW cs o ds)++B).Nodup∧∀ k∈ai (nW cs o ds),k∈ai cs∨k∈ai ds:=by
  intro ds
  induction ds with
  | nil=>intro cs o B h; simpa [nW,ai] using h
  | cons d ds ih=>
    intro cs o B h
    simp only [nW]
    have key:(ai (cs.set o d)++ai ds++B).Nodup∧∀ k∈ai (cs.set o d),k∈ai cs∨k∈d.ft:=by
      by_cases ho:o < cs.length
      · obtain ⟨A,Z,e1,e2⟩:=dR cs o _ (List.getElem?_eq_getElem ho)
        rw [e2 d]
        refine ⟨?_,fun k hk=>?_⟩
        · rw [e1,ai] at h
          have p1:(A++cs[o].ft++Z++(d.ft++ai ds)++B).Perm (cs[o].ft++(A++d.ft++Z++ai ds++B)):=by
            refine List.perm_iff_count.2 fun a=>?_
            simp only [List.count_append]
            omega
          exact (List.nodup_append.1 (p1.nodup_iff.1 h)).2.1
        · rw [e1]
          simp only [List.mem_append] at hk ⊢
          rcases hk with (hk | hk) | hk
          · exact .inl (.inl (.inl hk))
          · exact .inr hk
          · exact .inl (.inr hk)
      · rw [List.set_eq_of_length_le (by omega)]
        refine ⟨?_,fun k hk=>.inl hk⟩
        rw [ai] at h
        have p1:(ai cs++(d.ft++ai ds)++B).Perm (d.ft++(ai cs++ai ds++B)):=by
          refine List.perm_iff_count.2 fun a=>?_
          simp only [List.count_append]
          omega
        exact (List.nodup_append.1 (p1.nodup_iff.1 h)).2.1
    obtain ⟨h1,h2⟩:=ih key.1
    refine ⟨h1,fun k hk=>?_⟩
    rcases h2 k hk with h3 | h3
    · rcases key.2 k h3 with h4 | h4
      · exact .inl h4
      · exact .inr (by simp [ai,h4])
    · exact .inr (by simp [ai,h3])
theorem Te {place:Nat→Option (Nat × Nat)}:∀ {parts:List (Nat × List T)} {cs cs':List T},pN place cs parts=some cs'→(ai cs++ai (parts.flatMap (·.2))).Nodup→(ai cs').Nodup∧∀ k∈ai cs',k∈ai cs∨k∈ai (parts.flatMap (·.2)):=by
  intro parts
  induction parts with
  | nil=>intro cs cs' h hn; simp only [pN,Option.some.injEq] at h; subst h; simpa [ai] using hn
  | cons p parts ih=>
    intro cs cs' h hn
    obtain ⟨i,vs⟩:=p
    simp only [pN] at h
    split at h
    case h_2=>simp at h
    rename_i o k hp
    split at h
    case isFalse=>simp at h
    simp only [List.flatMap_cons,bj,← List.append_assoc] at hn
    obtain ⟨g1,g2⟩:=UQ (o:=o) hn
    obtain ⟨h1,h2⟩:=ih h g1
    refine ⟨h1,fun k hk=>?_⟩
    simp only [List.flatMap_cons,bj,List.mem_append]
    rcases h2 k hk with h3 | h3
    · rcases g2 k h3 with h4 | h4
      · exact .inl h4
      · exact .inr (.inl h4)
    · exact .inr (.inr h3)
end Go.Proofs.YtockoilcnmljiaaGreat
namespace Go.Proofs.YtockoilcnmljiaaGreat
section
variable {C:Ctx} {Hx:List T} {w:World} {S:List (Nat × RT)} {st:St}
theorem IL {X:Bool→Nat→Prop} {d:D} {u:Value} (h:Ext w X d u) (hc:da d=true):u.oneCell'=true∧u.cells=#[u]:=by
  cases d with
  | int k n=>have:u=.int k n:=h; subst this; exact ⟨rfl,rfl⟩
  | bool b=>have:u=.bool b:=h; subst this; exact ⟨rfl,rfl⟩
  | str s=>have:u=.string s:=h; subst this; exact ⟨rfl,rfl⟩
  | nil s=>have:u=.slice none 0 0:=h; subst this; exact ⟨rfl,rfl⟩
  | sl g s n cs=>
    cases g with
    | none=>simp [Ext] at h
    | some g=>
      simp only [Ext] at h
      obtain ⟨base,cap,us,rfl,_⟩:=h
      exact ⟨rfl,rfl⟩
  | ref r q o x=>simp [Ext] at h
  | ptr r q o=>simp [Ext] at h
  | cJ cs o=>simp [Ext] at h
  | _=>simp [da] at hc
theorem mJ {X:Bool→Nat→Prop} {t:T} (h:bL w X t) (hc:da t.er=true):t.val.oneCell'=true∧t.val.cells=#[t.val]:=by
  cases t with
  | own s n cap a cs=>exact ⟨rfl,rfl⟩
  | v d u=>exact IL h hc
theorem N6 (gf:hI st.rt S) (hm:Mem C w S Hx) {d:D} {u:Value} (hd:bB w (ah C w S Hx) S d u) (cQ:fK st d=true):u.oneCell'=true∧u.cells=#[u]:=by
  cases d with
  | ref r q o x=>
    simp only [fK] at cQ
    split at cQ
    · rename_i g s n cs hc
      have:=(Nk gf hm (mG hd) (g:=g) (s:=s) (n:=(trim x s n cs).1) (cs:=(trim x s n cs).2) (by simp [St.qg,hc])).ok
      obtain ⟨base,cap,rfl,_⟩:=this
      exact ⟨rfl,rfl⟩
    · simp at cQ
  | ptr r q o=>
    simp only [fK] at cQ
    obtain ⟨R,b,off,_,_,rfl⟩:=uU gf hm cQ (mG hd)
    exact ⟨rfl,rfl⟩
  | cJ cs o=>
    obtain ⟨b,off,c,e,fz,us,rfl,_⟩:=hd
    exact ⟨rfl,rfl⟩
  | _=>exact IL hd cQ
theorem Ex (gf:hI st.rt S) (hm:Mem C w S Hx) {d:D} {u:Value} (hd:cy w (ah C w S Hx) S d u) (cQ:∀ x∈cellsOf d,fK st x=true):cj (bB w (ah C w S Hx) S) (cellsOf d) u.cells.toList:=by
  by_cases ha:∃ cs,d=.agg cs
  · obtain ⟨cs,rfl⟩:=ha
    obtain ⟨us,rfl,h⟩:=hd
    exact h
  · have hc:cellsOf d=[d]:=by cases d<;>first | rfl | exact absurd ⟨_,rfl⟩ ha
    rw [hc] at cQ ⊢
    have ho:=cQ d (by simp)
    have tB:bB w (ah C w S Hx) S d u:=by
      cases d<;>first | exact hd | (simp [fK,da] at ho; done) | exact absurd ⟨_,rfl⟩ ha
    rw [(N6 gf hm tB ho).2]
    exact .cons tB .nil
end
theorem yY {α β:Type} {R:α→β→Prop} {as9:List α} {bs:List β} (h:cj R as9 bs):∃ l:List (α × β),l.map Prod.fst=as9∧l.map Prod.snd=bs∧∀ x∈l,R x.1 x.2:=by
  induction h with
  | nil=>exact ⟨[],rfl,rfl,by simp⟩
  | @cons a b _ _ h1 _ ih=>
    obtain ⟨l,e1,e2,e3⟩:=ih
    exact ⟨(a,b)::l,by simp [e1],by simp [e2],fun x hx=>by
      rcases List.mem_cons.1 hx with rfl | hx
      · exact h1
      · exact e3 x hx⟩
theorem Gm {α β:Type} {R:α→β→Prop}:∀ (l:List (α × β)),(∀ x∈l,R x.1 x.2)→cj R (l.map Prod.fst) (l.map Prod.snd)
  | [],_=>.nil
  | x::l,h=>.cons (h x (by simp)) (Gm l (fun y hy=>h y (by simp [hy])))
theorem UR {P:Program}:∀ {fs:List Field} {szs:List Nat},szs.length=fs.length→(∀ (j:Nat) (f:Field),fs[j]?=some f→∃ i,P.info? f.type=some i∧i.size≠0∧szs[j]?=some i.size)→
    fs.mapM (fun f=>(P.info? f.type).map fun i=>(f.offset,i.size))=some ((fs.map (·.offset)).zip szs):=by
  intro fs
  induction fs with
  | nil=>intro szs h _; rfl
  | cons f fs ih=>
    intro szs hl h
    cases szs with
    | nil=>simp at hl
    | cons k szs=>
      obtain ⟨i,h1,_,h2⟩:=h 0 f rfl
      simp only [List.getElem?_cons_zero,Option.some.injEq] at h2
      subst h2
      have:=ih (szs:=szs) (by simpa using hl) (fun j f hj=>by simpa using h (j+1) f (by simpa using hj))
      simp [List.mapM_cons,h1,this]
section
variable {P:Program} {c:cB} (av:ez c P) {C:Ctx} {Hx:List T} {w:World} {st st':St} {a:Act} {aI:List (Array Value)} {S:List (Nat × RT)} (h:Rel C Hx w st (a.tmps::aI) S)
include h
theorem Xr:∀ (ps:List (Nat × Operand)),(∀ p∈ps.map (fun p=>(p.1,cellsOf (cw c st 0 p.2))),∀ d∈p.2,fK st d=true)→
    ∃ pp:List (Nat × List (D × Value)),pp.map (fun p=>(p.1,p.2.map Prod.fst))=ps.map (fun p=>(p.1,cellsOf (cw c st 0 p.2)))∧cj (fun p q=>q.1=p.1∧q.2.cells.toList=p.2.map Prod.snd) pp (ps.map fun p=>(p.1,a.eval p.2))∧
      ∀ p∈pp,∀ x∈p.2,bB w (ah C w S Hx) S x.1 x.2:=by
  have fY:mA w (ah C w S Hx) S st.tm a.tmps:=by cases h.pj with | cons a _=>exact a
  intro ps
  induction ps with
  | nil=>intro _; exact ⟨[],rfl,.nil,by simp⟩
  | cons p ps ih=>
    intro cQ
    obtain ⟨pp,e1,e2,e3⟩:=ih (fun q hq=>cQ q (by simp only [List.map_cons,List.mem_cons]; exact .inr hq))
    have h1:=Ex h.rt h.mem (wG (c:=c) fY 0 p.2) (cQ _ (by simp only [List.map_cons,List.mem_cons]; exact .inl rfl))
    obtain ⟨l,f1,f2,f3⟩:=yY h1
    refine ⟨(p.1,l)::pp,by simp [e1,f1],.cons ⟨rfl,f2.symm⟩ e2,fun q hq=>?_⟩
    rcases List.mem_cons.1 hq with rfl | hq
    · exact f3
    · exact e3 q hq
include av
theorem KL {t:TypeId} {ti:TI} (ht:c.ty t=some ti) {place:Nat→Option (Nat × Nat)} {ps:Array (Nat × Operand)} {cs:List D} (hf:nD (fK st) place ti.zero (ps.toList.map fun p=>(p.1,cellsOf (cw c st 0 p.2)))=some cs)
    (hb:∀ (z:Value) (qS:List (Nat × Value)),(∀ i,P.info? t=some i→i.zero=some z)→P.built t qS=Instr.fill place z.cells qS):
    ∃ v,(∀ w:World,(Instr.build t (ps.map fun (i,x)=>(i,a.eval x))).run P w=.ok v w)∧cy w (ah C w S Hx) S (.agg cs) v:=by
  obtain ⟨inf,h1,h2,h3,z,h4,h5⟩:=(av.ty _ _ ht).info
  obtain ⟨pp,e1,e2,e3⟩:=Xr (c:=c) h ps.toList (KJ hf)
  obtain ⟨zz,f1,f2,f3⟩:=yY h5
  rw [← e1,← f1] at hf
  obtain ⟨cs',g1,g2⟩:=RO Prod.fst hf
  obtain ⟨arr,k1,k2⟩:=Gl Prod.snd e2 g1 f2.symm
  refine ⟨.agg arr,fun w=>run_build w t _ arr ?_,?_⟩
  · rw [hb z _ (fun i hi=>by rw [h1,Option.some.injEq] at hi; subst hi; exact h4)]
    rw [← k1]
    simp
  · refine ⟨arr,rfl,?_⟩
    rw [← g2,k2]
    refine Gm _ (fun x hx=>?_)
    rcases (KK g1).1 x hx with h6 | ⟨p,h6,h7⟩
    · exact fG (f3 x h6 w _)
    · exact e3 p h6 x h7
theorem AU {t:TypeId} {lW szs:List Nat} {sz qk:Nat} {z:List D} (ht:c.ty t=some ⟨.struct lW szs,sz,qk,z⟩) {ps:Array (Nat × Operand)} {cs:List D}
    (hf:nD (fK st) (fun i=>match lW[i]?,szs[i]? with | some o,some k=>some (o,k) | _,_=>none) z (ps.toList.map fun p=>(p.1,cellsOf (cw c st 0 p.2)))=some cs):
    ∃ v,(∀ w:World,(Instr.build t (ps.map fun (i,x)=>(i,a.eval x))).run P w=.ok v w)∧cy w (ah C w S Hx) S (.agg cs) v:=by
  refine KL av h ht hf (fun zv qS hz=>?_)
  obtain ⟨inf,h1,_⟩:=(av.ty _ _ ht).info
  obtain ⟨dd,g1,fs,rfl,g2,g3,g4⟩:=(av.ty _ _ ht).desc
  simp only [Program.built,h1,g1,hz inf h1,UR g3 g4]
  congr 1
  funext i
  simp only [List.getElem?_toArray,List.zip_eq_zipWith,List.getElem?_zipWith,← g2]
  cases lW[i]? with
  | none=>rfl
  | some o=>cases szs[i]?<;>rfl
theorem DP {t e:TypeId} {n:Nat} {sz qk:Nat} {z:List D} {ei:TI} (ht:c.ty t=some ⟨.array n e,sz,qk,z⟩) (he:c.ty e=some ei) {ps:Array (Nat × Operand)} {cs:List D}
    (hf:nD (fK st) (fun i=>some (i*ei.size,ei.size)) z (ps.toList.map fun p=>(p.1,cellsOf (cw c st 0 p.2)))=some cs):
    ∃ v,(∀ w:World,(Instr.build t (ps.map fun (i,x)=>(i,a.eval x))).run P w=.ok v w)∧cy w (ah C w S Hx) S (.agg cs) v:=by
  refine KL av h ht hf (fun zv qS hz=>?_)
  obtain ⟨inf,h1,_⟩:=(av.ty _ _ ht).info
  obtain ⟨aoa,h2,h3,_⟩:=(av.ty _ _ he).info
  obtain ⟨dd,g1,rfl⟩:=(av.ty _ _ ht).desc
  simp only [Program.built,h1,g1,hz inf h1,h2,h3]
end
end Go.Proofs.YtockoilcnmljiaaGreat
