/- What the proof of FnExactLeave stands on, part 1: an abstract machine on plain data, its soundness, and the contracts of functions. -/
import Derived.Orders
import Derived.LoopN
import Derived.WalkKit
import Derived.Deep.AppendSrc
import Derived.Great.BuildSlice
set_option linter.all false
set_option linter.unusedSimpArgs false
set_option linter.unusedVariables false
set_option linter.unnecessarySimpa false
set_option linter.unusedSectionVars false
namespace Go.Proofs.YtockoilcnmljiaaGreat
inductive D where
  | int (k:IntKind) (n:Int)
  | bool (b:Bool)
  | str (s:ByteArray)
  | sl (g:Option Bool) (s n:Nat) (cs:List D)
  | ref (r:Nat) (q:List Nat) (o:Nat) (x:Option (Nat × Nat))
  | nil (s:Nat)
  | agg (cs:List D)
  | aL (vs:List D)
  | fn (f:FuncId) (gz:List D)
  | ptr (r:Nat) (q:List Nat) (o:Nat)
  | da (cs:List D) (o:Nat)
  | bf (cs:List D)
  | hole (s n:Nat)
  | undef
  deriving Inhabited
def lk {α:Type}:List (Nat × α)→Nat→Option α
  | [],_=>none
  | (j,v)::t,k=>if j=k then some v else lk t k
def pt {α:Type}:List (Nat × α)→Nat→α→List (Nat × α)
  | [],k,v=>[(k,v)]
  | (j,u)::t,k,v=>if j=k then (k,v)::t else (j,u)::pt t k v
def pz {α:Type}:List (Nat × α)→Nat→α→List (Nat × α)
  | [],k,v=>[(k,v)]
  | (j,u)::t,k,v=>if j < k then (j,u)::pz t k v else if j=k then (k,v)::t else (k,v)::(j,u)::t
structure St where
  tm:List (Nat × D)
  rt:List (Nat × List D)
  up:List (List (Nat × D)):=[]
  of:Nat:=0
def St.get (st:St) (t:Nat):D:=(lk st.tm t).getD .undef
def St.put (st:St) (dst:Option Nat) (d:D):St:=
  match dst with
  | some t=>{ st with tm:=pz st.tm t d }
  | none=>st
inductive Ty where
  | int (k:IntKind) | bool | str | slice (e:TypeId) | array (n:Nat) (e:TypeId) | struct (lG szs:List Nat) | ptr (e:TypeId) | fn | other
structure TI where
  ty:Ty
  size:Nat
  bytes:Nat
  zero:List D
structure cx where
  ty:TypeId→Option TI
  ext:FuncId→Option (List D→Option (D × List D))
  own:FuncId→List Bool
  inl:FuncId→Bool
  pZ:FuncId→Nat→Bool
  nm:FuncId→Nat→Option (List Nat × List Nat)
  gone:FuncId→List Bool
  base:FuncId→Nat→Option Nat
  xX:FuncId→Nat→List Nat
def cx.esz (c:cx) (t:TypeId):Nat:=
  match c.ty t with
  | some ⟨.slice e,_,_,_⟩=>match c.ty e with | some i=>i.size | none=>0
  | _=>0
def lH:List D→List Nat→Option (List D)
  | cs,[]=>some cs
  | cs,o::q=>match cs[o]? with
    | some (.sl none _ _ xs)=>lH xs q
    | _=>none
def o8 (f:List D→List D):List D→List Nat→Option (List D)
  | cs,[]=>some (f cs)
  | cs,o::q=>match cs[o]? with
    | some (.sl none s n xs)=>match o8 f xs q with
      | some kj=>some (cs.set o (.sl none s n kj))
      | none=>none
    | _=>none
def St.cells (st:St) (r:Nat) (q:List Nat):Option (List D):=
  match lk st.rt r with
  | some cs=>lH cs q
  | none=>none
def St.cell (st:St) (r:Nat) (q:List Nat) (o:Nat):Option D:=
  match st.cells r q with
  | some cs=>cs[o]?
  | none=>none
def under (q:List Nat) (x:List Nat):Option (List Nat):=
  match q,x with
  | [],x=>some x
  | p::ps,y::ys=>if p=y then under ps ys else none
  | _::_,[]=>none
def trim (x:Option (Nat × Nat)) (s n:Nat) (cs:List D):Nat × List D:=
  match x with
  | none=>(n,cs)
  | some (l,m)=>(m,(cs.drop (l*s)).take (m*s))
def cB (r:Nat):D→D
  | .ref r' q o x=>if r'=r then .undef else .ref r' q o x
  | .ptr r' q o=>if r'=r then .undef else .ptr r' q o
  | d=>d
def eu (r:Nat):D→D
  | .ref r' q o x=>if r'=r then .undef else .ref r' q o x
  | .ptr r' (p::q) o=>if r'=r then .undef else .ptr r' (p::q) o
  | d=>d
def ct (r:Nat) (q:List Nat) (o:Nat) (exact:Bool):D→D
  | .ref r' q' o' x=>if r'=r then
      match under (q++[o]) (q'++[o']) with
      | none=>.ref r' q' o' x
      | some []=>if exact then .undef else .ref r' q' o' x
      | some (_::_)=>.undef
    else .ref r' q' o' x
  | .ptr r' q' o'=>if r'=r then
      match under (q++[o]) q' with
      | none=>.ptr r' q' o'
      | some _=>.undef
    else .ptr r' q' o'
  | d=>d
def rj (r:Nat) (q:List Nat) (o:Nat) (r1:Nat) (q1:List Nat) (o1:Nat):D→D
  | .ref r' q' o' x=>if r'=r then
      match under (q++[o]) (q'++[o']) with
      | none=>.ref r' q' o' x
      | some []=>.ref r1 q1 o1 x
      | some (_::_)=>.undef
    else .ref r' q' o' x
  | .ptr r' q' o'=>if r'=r then
      match under (q++[o]) q' with
      | none=>.ptr r' q' o'
      | some _=>.undef
    else .ptr r' q' o'
  | d=>d
def fa (f:D→D):D→D
  | .agg cs=>.agg (cs.map f)
  | .fn g cs=>.fn g (cs.map f)
  | d=>f d
def oM (f:D→D):D→D
  | .aL vs=>.aL (vs.map (fa f))
  | d=>fa f d
def fR {α:Type} (f:α→α):List (Nat × α)→List (Nat × α)
  | []=>[]
  | (k,v)::t=>(k,f v)::fR f t
def St.eS (f:D→D) (st:St):St:={ st with tm:=fR (oM f) st.tm,rt:=fR (List.map (fa f)) st.rt,up:=st.up.map (fR (oM f)) }
def St.XN (f g:D→D) (st:St):St:={ st with tm:=fR (oM f) st.tm,rt:=fR (List.map (fa g)) st.rt,up:=st.up.map (fR (oM f)) }
def gA:D→Bool
  | .sl ..=>true
  | _=>false
def sn:D→Option (Nat × Nat)
  | .sl _ s n _=>some (s,n)
  | .hole s n=>some (s,n)
  | _=>none
def iH:D→Bool
  | .sl none _ _ _=>true
  | _=>false
mutual
def iw (b:Bool):D→D
  | .sl none s n cs=>.sl (some b) s n (cA b cs)
  | d=>d
def cA (b:Bool):List D→List D
  | []=>[]
  | d::ds=>iw b d::cA b ds
end
def kZ {α β:Type} (f:α→Option β):List α→Option (List β)
  | []=>some []
  | a::as9=>match f a with
    | some b=>match kZ f as9 with
      | some bs=>some (b::bs)
      | none=>none
    | none=>none
def tw (st:St):D→Option D
  | .int k n=>some (.int k n)
  | .bool b=>some (.bool b)
  | .str s=>some (.str s)
  | .nil s=>some (.nil s)
  | .sl g s n cs=>some (iw true (.sl g s n cs))
  | .ref r q o x=>match st.cell r q o with
    | some (.sl g s n cs)=>some (iw true (.sl g s (trim x s n cs).1 (trim x s n cs).2))
    | _=>none
  | .undef=>some .undef
  | .hole ..=>some .undef
  | _=>none
def P3 (st:St):D→Option D
  | .da cs o=>some (.da cs o)
  | .ptr r q o=>match st.cells r q with
    | some (c::cs)=>match kZ (tw st) (c::cs) with
      | some cs'=>some (.da cs' o)
      | none=>none
    | _=>none
  | d=>tw st d
def SL (st:St):D→Option D
  | .agg cs=>match kZ (tw st) cs with
    | some cs'=>some (.agg cs')
    | none=>none
  | .fn f gz=>match kZ (P3 st) gz with
    | some cs'=>some (.fn f cs')
    | none=>none
  | d=>P3 st d
def St.hL (st:St) (r:Nat) (q:List Nat) (o:Nat) (d:D):Option St:=
  match lk st.rt r with
  | some cs=>match o8 (fun l=>l.set o d) cs q with
    | some cs'=>some { st with rt:=pz st.rt r cs' }
    | none=>none
  | none=>none
def iU (st:St):D→Option (D × St)
  | .int k n=>some (.int k n,st)
  | .bool b=>some (.bool b,st)
  | .str s=>some (.str s,st)
  | .nil s=>some (.sl none s 0 [],st)
  | .sl b s n cs=>some (.sl b s n cs,st)
  | .ref r q o x=>match st.cell r q o with
    | some (.sl none s n cs)=>match st.hL r q o (.hole s n) with
      | some st'=>some (.sl none s (trim x s n cs).1 (trim x s n cs).2,st')
      | none=>none
    | some (.sl (some b) s n cs)=>some (.sl (some b) s (trim x s n cs).1 (trim x s n cs).2,st)
    | _=>none
  | .undef=>some (.undef,st)
  | .hole ..=>some (.undef,st)
  | _=>none
def qU (st:St):List D→Option (List D × St)
  | []=>some ([],st)
  | d::ds=>match iU st d with
    | some (d',st')=>match qU st' ds with
      | some (ds',xY)=>some (d'::ds',xY)
      | none=>none
    | none=>none
def gw (r:Nat) (q:List Nat) (j:Nat):D→D
  | .sl none _ _ _=>.ref r q j none
  | d=>d
def lp (r:Nat) (q:List Nat):Nat→List D→List D
  | _,[]=>[]
  | j,d::ds=>gw r q j d::lp r q (j+1) ds
def SM (st:St) (r:Nat):Option (List D × St):=
  match lk st.rt r with
  | some (c::cs)=>match qU st (lp r [] 0 (c::cs)) with
    | some (cs',st')=>some (cs',{ st' with rt:=pz st'.rt r [] })
    | none=>none
  | _=>none
def CE (st:St):D→Option (D × St)
  | .agg cs=>match qU st cs with
    | some (cs',st')=>some (.agg cs',st')
    | none=>none
  | .ptr r [] 0=>match SM st r with
    | some (cs',st')=>some (.bf cs',st')
    | none=>none
  | d=>iU st d
def L8 (st:St):List D→Option (List D × St)
  | []=>some ([],st)
  | d::ds=>match CE st d with
    | some (d',st')=>match L8 st' ds with
      | some (ds',xY)=>some (d'::ds',xY)
      | none=>none
    | none=>none
def dj:D→List D
  | .agg cs=>cs
  | .aL vs=>vs.flatMap fun | .agg cs=>cs | d=>[d]
  | d=>[d]
def BI (r:Nat) (j:Nat):D→D
  | .agg cs=>.agg (lp r [] j cs)
  | d=>gw r [] j d
def EK (r:Nat):Nat→List D→List D
  | _,[]=>[]
  | j,d::ds=>BI r j d::EK r (j+(dj d).length) ds
def BJ (r:Nat):D→D
  | .aL vs=>.aL (EK r 0 vs)
  | d=>BI r 0 d
def St.p7 (st:St) (r:Nat) (d:D):St × D:=
  match d with
  | .bf cs=>
    let st':=st.eS (cB r)
    ({ st' with rt:=pz st'.rt r cs },.ptr r [] 0)
  | d=>if (dj d).any iH then
      let st':=st.eS (cB r)
      ({ st' with rt:=pz st'.rt r (dj d) },BJ r d)
    else (st,d)
mutual
def bY:D→Bool
  | .sl g _ _ cs=>(match g with | some true=>false | _=>true)&&cd cs
  | _=>true
def cd:List D→Bool
  | []=>true
  | d::ds=>bY d&&cd ds
end
mutual
def hM (b:Bool):D→D
  | .sl none s n cs=>.sl none s n (ef b cs)
  | .sl (some _) s n cs=>.sl (some b) s n (ef b cs)
  | d=>d
def ef (b:Bool):List D→List D
  | []=>[]
  | d::ds=>hM b d::ef b ds
end
def gB (b:Bool):D→D
  | .agg cs=>.agg (ef b cs)
  | .bf cs=>.bf (ef b cs)
  | .aL vs=>.aL (vs.map fun | .agg cs=>.agg (ef b cs) | d=>hM b d)
  | d=>hM b d
def fr:D→Bool
  | .int .. | .bool _ | .str _ | .sl .. | .undef | .hole ..=>true
  | _=>false
def bZ:D→List D
  | .bf cs=>cs
  | d=>dj d
def dM (d:D):Bool:=(bZ d).all fun x=>fr x&&bY x
def BK (c:cx) (t:TypeId):Value→D
  | .int k n=>.int k n
  | .bool b=>.bool b
  | .string s=>.str s
  | .slice none 0 0=>.nil (c.esz t)
  | _=>.undef
def cn (c:cx) (st:St) (t:TypeId):Operand→D
  | .tmp i=>st.get i
  | .const v=>BK c t v
  | .func f=>.fn f []
  | .global _=>.undef
def zH (op:BinOp) (k:IntKind) (a b:Int):Option D:=
  match op with
  | .add=>some (.int k (k.wrap (a+b)))
  | .sub=>some (.int k (k.wrap (a - b)))
  | .mul=>some (.int k (k.wrap (a*b)))
  | .quo=>if b=0 then none else some (.int k (k.wrap (a.tdiv b)))
  | .rem=>if b=0 then none else some (.int k (a.tmod b))
  | .and=>some (.int k (k.wrap (BitVec.ofInt k.bits a&&& BitVec.ofInt k.bits b).toNat))
  | .or=>some (.int k (k.wrap (BitVec.ofInt k.bits a||| BitVec.ofInt k.bits b).toNat))
  | .xor=>some (.int k (k.wrap (BitVec.ofInt k.bits a ^^^ BitVec.ofInt k.bits b).toNat))
  | .eql=>some (.bool (a==b))
  | .neq=>some (.bool (a !=b))
  | .lss=>some (.bool (decide (a < b)))
  | .leq=>some (.bool (decide (a≤b)))
  | .gtr=>some (.bool (decide (a>b)))
  | .geq=>some (.bool (decide (a≥b)))
  | _=>none
def uw (op:BinOp) (k:IntKind) (a b:Int):Option D:=
  if b < 0 then none else
  match op with
  | .shl=>some (.int k (k.wrap (a*2 ^ (min b.toNat k.bits))))
  | .shr=>some (.int k (a.fdiv (2 ^ (min b.toNat k.bits))))
  | _=>none
def L9 (op:BinOp) (a b:ByteArray):Option D:=
  match op with
  | .add=>if a.size+b.size≤9223372036854775807 then some (.str (a++b)) else none
  | .eql=>some (.bool (a.toList==b.toList))
  | .neq=>some (.bool (!(a.toList==b.toList)))
  | _=>none
def Hh (op:BinOp) (a b:Bool):Option D:=
  match op with
  | .eql=>some (.bool (a==b))
  | .neq=>some (.bool (!(a==b)))
  | _=>none
def rk (c:cx) (t:TypeId) (op:BinOp) (x y:D):Option D:=
  match x,y with
  | .int k a,.int k' b=>match op with
    | .shl=>uw .shl k a b
    | .shr=>uw .shr k a b
    | op=>if k=k' then zH op k a b else none
  | .str a,.str b=>L9 op a b
  | .bool a,.bool b=>match c.ty t with
    | some ⟨.bool,_,_,_⟩=>Hh op a b
    | _=>none
  | _,_=>none
def XO (op:UnOp) (x:D):Option D:=
  match op,x with
  | .neg,.int k n=>some (.int k (k.wrap (0 - n)))
  | .not,.bool b=>some (.bool (!b))
  | _,_=>none
def St.pC (st:St):D→Option (Option Bool × Nat × Nat × List D)
  | .nil s=>some (none,s,0,[])
  | .sl b s n cs=>some (b,s,n,cs)
  | .ref r q o x=>match st.cell r q o with
    | some (.sl b s n cs)=>some (b,s,(trim x s n cs).1,(trim x s n cs).2)
    | _=>none
  | _=>none
def Ma (c:cx) (st:St) (t:TypeId) (x:D):Option D:=
  match c.ty t,x with
  | some ⟨.str,_,_,_⟩,.str s=>some (.int .i64 s.size)
  | some ⟨.slice _,_,_,_⟩,d=>match st.pC d with
    | some (_,_,n,_)=>some (.int .i64 n)
    | none=>none
  | _,_=>none
def byteOf:D→Option UInt8
  | .int .u8 n=>some (UInt8.ofNat n.toNat)
  | _=>none
def dq (b:UInt8):D:=.int .u8 b.toNat
def vJ (c:cx) (st:St) (src dst:TypeId) (x:D):Option (D × Option (List D)):=
  match c.ty src,c.ty dst with
  | some si,some di=>
    match di.ty,si.ty,x with
    | .int k,_,.int _ n=>some (.int k (k.wrap n),none)
    | .str,_,.int _ n=>some (.str (Utf8.encode n),none)
    | .str,_,.str s=>some (.str s,none)
    | .str,.slice e,x=>match c.ty e with
      | some ⟨.int .u8,_,_,_⟩=>match st.pC x with
        | some (_,s,_,cs)=>if s=1 then (match kZ byteOf cs with
          | some bs=>some (.str ⟨bs.toArray⟩,none)
          | none=>none) else none
        | none=>none
      | _=>none
    | .slice e,.str,.str s=>match c.ty e with
      | some ⟨.int .u8,_,_,_⟩=>some (.undef,some [.sl none 1 s.size (s.data.toList.map dq)])
      | _=>none
    | _,_,_=>none
  | _,_=>none
def p8 (st:St) (agg:Bool) (size:Nat):D→Option D
  | .ptr r q o=>match st.cells r q with
    | some cs=>
      if agg then (if 0 < size∧o+size≤cs.length then some (.agg (lp r q o ((cs.drop o).take size))) else none)
      else match cs[o]? with
        | some d=>some (gw r q o d)
        | none=>none
    | none=>none
  | .da cs o=>
      if agg then (if 0 < size∧o+size≤cs.length then some (.agg ((cs.drop o).take size)) else none)
      else cs[o]?
  | _=>none
def ka:Ty→Bool
  | .struct .. | .array ..=>true
  | _=>false
def live (st:St) (r:Nat) (q:List Nat):Bool:=
  match st.cells r q with
  | some (_::_)=>true
  | _=>false
def kd (i:Int) (n:Nat) (d:Option D):Option D:=if 0≤i then (if i < n then d else none) else none
def off (x:Option (Nat × Nat)):Nat:=
  match x with
  | none=>0
  | some (l,_)=>l
def p9 (st:St) (c:cx) (t:TypeId) (x:D) (i:Int):Option D:=
  match c.ty t with
  | some ⟨.slice e,_,_,_⟩=>match c.ty e with
    | some ei=>match x with
      | .ref r q o x=>match st.cell r q o with
        | some (.sl none s n cs)=>if s=ei.size∧0 < s then kd i (trim x s n cs).1 (some (.ptr r (q++[o]) ((off x+i.toNat)*s))) else none
        | some (.sl (some _) s n cs)=>if s=ei.size∧0 < s then kd i (trim x s n cs).1 (some (.da cs ((off x+i.toNat)*s))) else none
        | _=>none
      | .sl (some _) s n cs=>if s=ei.size∧0 < s then kd i n (some (.da cs (i.toNat*s))) else none
      | _=>none
    | none=>none
  | some ⟨.array n e,_,_,_⟩=>match c.ty e with
    | some ei=>match x with
      | .ptr r q o=>if live st r q then kd i n (some (.ptr r q (o+i.toNat*ei.size))) else none
      | .da cs o=>kd i n (some (.da cs (o+i.toNat*ei.size)))
      | _=>none
    | none=>none
  | _=>none
def wH (st:St) (k:Nat):D→Option D
  | .ptr r q i=>if live st r q then some (.ptr r q (i+k)) else none
  | .da cs i=>some (.da cs (i+k))
  | _=>none
def wI (c:cx) (t:TypeId) (x:D) (i:Int):Option D:=
  match c.ty t,x with
  | some ⟨.str,_,_,_⟩,.str s=>kd i s.size ((s.data.toList[i.toNat]?).map dq)
  | some ⟨.array n e,_,_,_⟩,.agg cs=>match c.ty e with
    | some ei=>kd i n (if ka ei.ty then some (.agg ((cs.drop (i.toNat*ei.size)).take ei.size)) else cs[i.toNat*ei.size]?)
    | none=>none
  | _,_=>none
def xZ:List D→Nat→List D→List D
  | cs,_,[]=>cs
  | cs,o,d::ds=>xZ (cs.set o d) (o+1) ds
def uy:D→D
  | .nil s=>.sl none s 0 []
  | d=>d
def fA (n:Nat) (z:List D):List D:=(List.replicate n (z.map uy)).flatten
def cW:D→Bool
  | .fn .. | .agg _ | .aL _ | .bf _ | .undef | .hole ..=>false
  | _=>true
def single:D→Bool
  | .agg _ | .aL _ | .fn ..=>false
  | _=>true
def fD (st:St):D→Bool
  | .ref r q o _=>match st.cell r q o with
    | some (.sl ..)=>true
    | _=>false
  | .ptr r q _=>live st r q
  | d=>cW d
def nb (ok:D→Bool) (place:Nat→Option (Nat × Nat)):List D→List (Nat × List D)→Option (List D)
  | cs,[]=>some cs
  | cs,(i,vs)::rest=>match place i with
    | some (o,k)=>if vs.length=k∧o+vs.length≤cs.length∧vs.all ok=true then nb ok place (xZ cs o vs) rest else none
    | none=>none
def cellsOf:D→List D
  | .agg cs=>cs
  | d=>[d]
def rl (st:St):List (Nat × D)→Option (List (Nat × List D) × St)
  | []=>some ([],st)
  | (i,d)::ps=>match qU st (cellsOf d) with
    | some (cs,st')=>match rl st' ps with
      | some (r,xY)=>some ((i,cs)::r,xY)
      | none=>none
    | none=>none
def gC:D→Bool
  | .int .. | .bool _ | .str _=>true
  | _=>false
def St.root (st:St) (dst:Option Nat) (cs:List D) (d:Nat→D):Option St:=
  match dst with
  | some t=>
    let st':=st.eS (cB (st.of+t))
    some { st' with tm:=pz st'.tm t (d (st.of+t)),rt:=pz st'.rt (st.of+t) cs }
  | none=>none
def elems (st:St) (flat:Bool) (z:List D) (sz:Nat):D→Option (List D × Nat × St)
  | .int .i64 n=>if 0≤n∧(z.map uy).all cW=true then some (fA n.toNat z,n.toNat,st) else none
  | .str s=>if sz=1 then some (s.data.toList.map dq,s.size,st) else none
  | .nil _=>some ([],0,st)
  | .sl (some _) s n cs=>if s=sz∧cs.all cW=true then some (cs,n,st) else none
  | .ref r q o x=>match st.cell r q o with
    | some (.sl none s n cs)=>if s≠sz then none else if flat=true then (if (trim x s n cs).2.all gC=true then some ((trim x s n cs).2,(trim x s n cs).1,st) else none) else
      match qU st (lp r (q++[o]) (off x*s) (trim x s n cs).2) with
      | some (ys,st')=>if ys.all cW=true then some (ys,(trim x s n cs).1,st') else none
      | none=>none
    | some (.sl (some _) s n cs)=>if s=sz∧(trim x s n cs).2.all cW=true then some ((trim x s n cs).2,(trim x s n cs).1,st) else none
    | _=>none
  | _=>none
def target (st:St) (sz:Nat) (d:D):Option (Nat × List D × St):=
  match iU st d with
  | some (.sl none s n cs,st')=>if s=sz then some (n,cs,st') else none
  | _=>none
def Hi (c:cx) (tx:TypeId):D→Bool
  | .int ..=>match c.ty tx with | some ⟨.int _,_,_,_⟩=>true | _=>false
  | .str _=>match c.ty tx with | some ⟨.str,_,_,_⟩=>true | _=>false
  | _=>match c.ty tx with | some ⟨.slice _,_,_,_⟩=>true | _=>false
def rm (c:cx) (st:St) (t tx:TypeId) (dst:Option Nat) (s x:D):Option St:=
  match c.ty t with
  | some ⟨.slice e,_,_,_⟩=>match c.ty e with
    | some ei=>if Hi c tx x=true then
        match target st ei.size s with
        | some (n,cs,aN)=>match elems aN (ei.zero.all gC) ei.zero ei.size x with
          | some (ys,m,ch)=>
            if 0 < ei.size∧0 < ei.bytes∧(n+m)*ei.bytes≤140737488355328 then ch.root dst [.sl none ei.size (n+m) (cs++ys)] (fun d=>.ref d [] 0 none) else none
          | none=>none
        | none=>none
      else none
    | none=>none
  | _=>none
def bound (d:Option D) (z:Int):Option Int:=
  match d with
  | none=>some z
  | some (.int _ i)=>some i
  | _=>none
def EL (s:ByteArray) (l h:Option D):Option D:=
  match bound l 0,bound h s.size with
  | some l,some h=>if 0≤l∧l≤h∧h≤s.size then some (.str (s.extract l.toNat h.toNat)) else none
  | _,_=>none
def EM (st:St) (sz:Nat) (x:D) (l h:Option D):Option D:=
  match st.pC x with
  | some (g,s,n,cs)=>match bound l 0,bound h n with
    | some l,some h=>if s=sz∧0≤l∧l≤h∧h≤n then
        match x with
        | .ref r q o y=>some (.ref r q o (some (off y+l.toNat,h.toNat - l.toNat)))
        | .nil s=>some (.nil s)
        | _=>some (.sl g s (h.toNat - l.toNat) ((cs.drop (l.toNat*s)).take ((h.toNat - l.toNat)*s)))
      else none
    | _,_=>none
  | none=>none
def zI (c:cx) (st:St) (t:TypeId) (x:D) (l h:Option D):Option D:=
  match c.ty t with
  | some ⟨.str,_,_,_⟩=>match x with
    | .str s=>EL s l h
    | _=>none
  | some ⟨.slice e,_,_,_⟩=>match c.ty e with
    | some ei=>EM st ei.size x l h
    | none=>none
  | _=>none
def Dh:D→List Nat→Option D
  | d,[]=>some d
  | .sl none _ _ cs,o::q=>match cs[o]? with
    | some d=>Dh d q
    | none=>none
  | _,_=>none
def uz (r:Nat) (q:List Nat) (o:Nat) (bN:D):D→D
  | .ref r' q' o' x=>if r'=r then (match under (q++[o]) (q'++[o']) with
      | none=>.ref r' q' o' x
      | some y=>match Dh bN y with
        | some (.sl g s n cs)=>iw false (.sl g s (trim x s n cs).1 (trim x s n cs).2)
        | _=>.undef) else .ref r' q' o' x
  | d=>ct r q o true d
def St.so (st:St) (r:Nat) (q:List Nat) (o:Nat) (d:D):Option (St × (D→D)):=
  match st.cell r q o with
  | some bN=>some (if gA bN then (st.XN (uz r q o bN) (ct r q o true),uz r q o bN) else if gA d then (st.eS (ct r q o true),ct r q o true) else (st,id))
  | none=>none
def nq (st:St) (r:Nat):Nat→(D→D)→List D→Option St
  | _,_,[]=>some st
  | o,h,d::ds=>if !fD st (h d) then none else match st.so r [] o (h d) with
    | some (aN,f)=>match aN.hL r [] o (f (h d)) with
      | some st'=>nq st' r (o+1) (fun x=>f (h x)) ds
      | none=>none
    | none=>none
def nr (st:St) (r:Nat):Nat→List D→Option St
  | _,[]=>some st
  | o,d::ds=>if !cW d then none else match st.so r [] o d with
    | some (aN,_)=>match aN.hL r [] o d with
      | some st'=>nr st' r (o+1) ds
      | none=>none
    | none=>none
def Di (r:Nat) (q:List Nat) (o:Nat):D→Bool
  | .ref r' q' o' none=>decide (r'=r)&&decide (q'=q)&&decide (o'=o)
  | _=>false
def wJ (d:D) (r:Nat) (q:List Nat) (o:Nat):D→D:=
  match d with
  | .ref r' q' o' none=>rj r' q' o' r q o
  | .ref r' q' o' (some _)=>ct r' q' o' true
  | _=>id
def St.tP (st:St) (d:D) (r:Nat) (q:List Nat) (o:Nat):St:=
  match d with
  | .ref _ _ _ _=>st.eS (wJ d r q o)
  | _=>st
def iR (st:St) (r:Nat) (q:List Nat):Nat→(D→D)→List D→Option St
  | _,_,[]=>some st
  | o,h,d::ds=>
    if Di r q o (h d)&&fD st (h d) then iR st r q (o+1) h ds else
    match iU st (h d) with
    | some (d',aN)=>if !cW d' then none else match aN.so r q o d' with
      | some (ch,f)=>match ch.hL r q o d' with
        | some CF=>iR (CF.tP (f (h d)) r q o) r q (o+1) (fun x=>wJ (f (h d)) r q o (f (h x))) ds
        | none=>none
      | none=>none
    | none=>none
def uA (st:St) (pZ:Nat→Bool) (size:Nat) (a v:D):Option St:=
  match a with
  | .ptr r q o=>
    if (cellsOf v).length=size∧live st r q=true then
      match q with
      | []=>if pZ (r - st.of) then (match qU st (cellsOf v) with
          | some (cs,aN)=>nr aN r o cs
          | none=>none) else nq st r o id (cellsOf v)
      | q=>iR st r q o id (cellsOf v)
    else none
  | _=>none
def mT (st:St):List Bool→List D→Option (List D × St)
  | _,[]=>some ([],st)
  | b,d::ds=>
    match (if b.headD false then CE st d else some (d,st):Option (D × St)) with
    | some (d',st')=>match mT st' b.tail ds with
      | some (ds',xY)=>some (d'::ds',xY)
      | none=>none
    | none=>none
def uB (st:St):List Bool→List D→Option (List D)
  | _,[]=>some []
  | b,d::ds=>
    match (if b.headD false then some d else SL st d) with
    | some d'=>match uB st b.tail ds with
      | some ds'=>some (d'::ds')
      | none=>none
    | none=>none
def mF (st:St) (b:List Bool) (ds:List D):Option (List D × St):=
  match mT st b ds with
  | some (gl,aN)=>match uB aN b gl with
    | some tA=>some (tA,aN)
    | none=>none
  | none=>none
def o9 (st:St) (h:D→D):List D→List D→Option (St × (D→D))
  | [],_=>some (st,h)
  | _::_,[]=>none
  | a::as9,d::ds=>
    match h a,d with
    | .ref r q o none,.sl none s n cs=>match st.cell r q o with
      | some (.hole s0 n0)=>if s0=s∧n0=n then
          (match (st.eS (ct r q o false)).hL r q o (.sl none s n cs) with
           | some st'=>o9 st' (fun x=>ct r q o false (h x)) as9 ds
           | none=>none)
        else none
      | _=>none
    | _,_=>o9 st h as9 ds
def BL (st:St) (h:D→D) (a out:D):Option (St × (D→D)):=
  match a,out with
  | .agg cs,.agg ds=>o9 st h cs ds
  | .ptr r [] 0,.bf ds=>match lk st.rt r with
    | some []=>some ({ st.eS (eu r) with rt:=pz (st.eS (eu r)).rt r ds },fun x=>eu r (h x))
    | _=>none
  | a,d=>o9 st h [a] [d]
def hZ (st:St) (h:D→D):List Bool→List D→List D→Option St
  | _,[],_=>some st
  | b,a::as9,o::os=>if b.headD false then match BL st h a o with
      | some (st',h')=>hZ st' h' b.tail as9 os
      | none=>none
    else hZ st h b.tail as9 os
  | _,_::_,[]=>none
def fu:List Bool→List D→Bool
  | _,[]=>false
  | b,d::ds=>(b.headD false&&!((bZ d).all bY))||fu b.tail ds
def j5:List Bool→List D→List D
  | _,[]=>[]
  | b,d::ds=>(if b.headD false then gB false d else d)::j5 b.tail ds
def km (c:cx) (cl:FuncId→List D→Option (D × List D)) (st:St) (dst:Option Nat) (f:FuncId) (args:List D):Option St:=
  match mF st (c.own f) args with
  | some (ds,aN)=>
    let t:=fu (c.own f) ds
    match cl f (if t then j5 (c.own f) ds else ds) with
    | some (r,outs)=>
      if dM r&&outs.all dM then
        match hZ aN id (c.own f) args (if t then outs.map (gB true) else outs) with
        | some ch=>match dst with
          | some i=>let p:=ch.p7 (ch.of+i) (if t then gB true r else r); some (p.1.put (some i) p.2)
          | none=>some ch
        | none=>none
      else none
    | none=>none
  | none=>none
def fb (c:cx) (cl:FuncId→List D→Option (D × List D)) (ci:FuncId→List D→Nat→St→Option (D × St)) (aB:FuncId) (st:St) (o:Oper):Option St:=
  let ev:=cn c st o.type
  let val (d:Option D):Option St:=match d with | some d=>some (st.put o.dst d) | none=>none
  match o.op with
  | .move x | .assign x=>some (st.put o.dst (ev x))
  | .pick b x y=>match ev b with
    | .bool t=>some (st.put o.dst (if t then ev x else ev y))
    | _=>none
  | .alloc e=>match c.ty e with
    | some i=>st.root o.dst i.zero (fun d=>.ptr d [] 0)
    | none=>none
  | .box e x=>match c.ty e with
    | some i=>if (cellsOf (cn c st e x)).length=i.size∧(if c.pZ aB (o.dst.getD 0)=true then true else (cellsOf (cn c st e x)).all (fD st))=true then
        match o.dst with
        | some t=>if c.pZ aB t then (match qU st (cellsOf (cn c st e x)) with
            | some (cs,aN)=>if cs.all cW then aN.root (some t) cs (fun d=>.ptr d [] 0) else none
            | none=>none)
          else st.root (some t) (cellsOf (oM (cB (st.of+t)) (cn c st e x))) (fun d=>.ptr d [] 0)
        | none=>none
      else none
    | none=>none
  | .build t ps=>match c.ty t with
    | some ⟨.struct lG szs,_,_,z⟩=>
      match nb (fD st) (fun i=>match lG[i]?,szs[i]? with | some o,some k=>some (o,k) | _,_=>none) z (ps.toList.map fun p=>(p.1,cellsOf (cn c st 0 p.2))) with
      | some cs=>some (st.put o.dst (.agg cs))
      | none=>none
    | some ⟨.array _ e,_,_,z⟩=>match c.ty e with
      | some ei=>
        match nb (fD st) (fun i=>some (i*ei.size,ei.size)) z (ps.toList.map fun p=>(p.1,cellsOf (cn c st 0 p.2))) with
        | some cs=>some (st.put o.dst (.agg cs))
        | none=>none
      | none=>none
    | _=>none
  | .buildSlice t n ps=>match c.ty t with
    | some ⟨.slice e,_,_,_⟩=>match c.ty e with
      | some ei=>
        if n*ei.size≤16777216 then
          match rl st (ps.toList.map fun p=>(p.1,cn c st e p.2)) with
          | some (vs,aN)=>match nb cW (fun i=>some (i*ei.size,ei.size)) (fA n ei.zero) vs with
            | some cs=>aN.root o.dst [.sl none ei.size n cs] (fun d=>.ref d [] 0 none)
            | none=>none
          | none=>none
        else none
      | none=>none
    | _=>none
  | .load t a=>match c.ty t with
    | some i=>val (p8 st (ka i.ty) i.size (ev a))
    | none=>none
  | .store t a x=>match c.ty t with
    | some i=>match uA st (c.pZ aB) i.size (ev a) (cn c st t x) with
      | some st'=>some (st'.put o.dst (.aL []))
      | none=>none
    | none=>none
  | .nilCheck x=>match ev x with
    | .ptr r q i=>if live st r q then some (st.put o.dst (.ptr r q i)) else none
    | .da cs i=>some (st.put o.dst (.da cs i))
    | _=>none
  | .binOp op t x y _=>val (rk c t op (cn c st t x) (cn c st t y))
  | .unOp op _ x=>val (XO op (ev x))
  | .convert src dst x=>match vJ c st src dst (cn c st src x) with
    | some (d,none)=>some (st.put o.dst d)
    | some (_,some cs)=>st.root o.dst cs (fun d=>.ref d [] 0 none)
    | none=>none
  | .makeFunc (.func f) first gz=>if first.size=0∧(gz.toList.map ev).all single=true then some (st.put o.dst (.fn f (gz.toList.map ev))) else none
  | .makeSlice t l cp=>match c.ty t with
    | some ⟨.slice e,_,_,_⟩=>match c.ty e,ev l,ev cp with
      | some ei,.int _ l,.int _ cp=>if 0≤l then (if l≤cp then (if 0 < ei.bytes∧cp*ei.bytes≤140737488355328 then st.root o.dst [.sl none ei.size l.toNat (fA l.toNat ei.zero)] (fun d=>.ref d [] 0 none) else none) else none) else none
      | _,_,_=>none
    | _=>none
  | .slice t x l h none=>val (zI c st t (cn c st t x) (l.map ev) (h.map ev))
  | .fieldAddr s x f=>match c.ty s with
    | some ⟨.struct lG szs,_,_,_⟩=>match lG[f]? with
      | some k=>val (wH st k (ev x))
      | none=>none
    | _=>none
  | .indexAddr t x i=>match ev i with
    | .int _ i=>val (p9 st c t (cn c st t x) i)
    | _=>none
  | .index t x i=>match ev i with
    | .int _ i=>val (wI c t (ev x) i)
    | _=>none
  | .extract x i=>match ev x with
    | .aL vs=>val vs[i]?
    | _=>none
  | .call cc=>if cc.args.size≠cc.argTypes.size then none else
    let args:=(cc.args.toList.zip cc.argTypes.toList).map fun p=>cn c st p.2 p.1
    match cc.callee with
    | .value f=>match ev f with
      | .fn g gz=>if c.inl g then (match ci g (args++gz) ((st.of+o.dst.getD 0+1)*100000) st with
          | some (d,st')=>some (st'.put o.dst d)
          | none=>none) else km c cl st o.dst g (args++gz)
      | _=>none
    | .builtin .len=>match args,cc.argTypes.toList with
      | [x],[t]=>val (Ma c st t x)
      | _,_=>none
    | .builtin .min=>match args with
      | [.int k a,.int _ b]=>some (st.put o.dst (.int k (if b < a then b else a)))
      | _=>none
    | .builtin .max=>match args with
      | [.int k a,.int _ b]=>some (st.put o.dst (.int k (if b>a then b else a)))
      | _=>none
    | .builtin .append=>match args,cc.argTypes.toList with
      | [s,x],[t,tx]=>rm c st t tx o.dst s x
      | _,_=>none
    | _=>none
  | _=>none
def BM (c:cx) (aB:FuncId) (o:Oper):List Nat:=
  match o.op with
  | .store _ (.tmp x) _=>c.xX aB x
  | .call cc=>(match cc.callee,o.dst with
    | .builtin .append,some d=>c.xX aB d
    | _,_=>[])
  | _=>[]
def wk (c:cx) (aB:FuncId) (st:St) (o:Oper):Bool:=
  match o.op with
  | .load _ (.tmp x)=>(match c.base aB x with
    | none=>true
    | some 0=>(match st.get x with
      | .da _ _=>true
      | _=>false)
    | some (r+1)=>(match st.get x with
      | .ptr r' [] _=>r'==st.of+r&&decide (r' < 10000)
      | _=>false))
  | .store _ (.tmp x) _=>(match c.xX aB x with
    | []=>true
    | l=>(match st.get x with
      | .ptr r' q _=>live st r' q&&l.all fun r=>(lk st.rt (st.of+r)).isSome&&r' !=st.of+r
      | _=>false))
  | _=>(BM c aB o).all fun r=>(lk st.rt (st.of+r)).isSome
def x4 (st:St) (ops:Array Oper) (o:Oper):Option Bool:=
  match o.guard with
  | none=>some true
  | some (j,want)=>match (ops[j]?).bind (·.dst) with
    | some t=>match st.get t with
      | .bool b=>some (b==want)
      | .aL []=>some false
      | _=>none
    | none=>some false
def uC (c:cx) (cl:FuncId→List D→Option (D × List D)) (ci:FuncId→List D→Nat→St→Option (D × St)) (aB:FuncId) (all:Array Oper):List Oper→St→Option St
  | [],st=>some st
  | o::rest,st=>match x4 st all o with
    | some true=>if wk c aB st o then (match fb c cl ci aB st o with
      | some st'=>uC c cl ci aB all rest st'
      | none=>none) else none
    | some false=>uC c cl ci aB all rest (st.put o.dst (.aL []))
    | none=>none
def ia (c:cx) (cl:FuncId→List D→Option (D × List D)) (ci:FuncId→List D→Nat→St→Option (D × St)) (aB:FuncId) (all:Array Oper):List Nat→St→Option St
  | [],st=>some st
  | i::rest,st=>match all[i]? with
    | none=>ia c cl ci aB all rest st
    | some o=>match x4 st all o with
      | some true=>if wk c aB st o then (match fb c cl ci aB st o with
        | some st'=>ia c cl ci aB all rest st'
        | none=>none) else none
      | some false=>ia c cl ci aB all rest (st.put o.dst (.aL []))
      | none=>none
def oq (c:cx) (o:Oper):Option Bool:=
  match o.op with
  | .move _ | .assign _ | .pick .. | .binOp .. | .unOp .. | .makeFunc .. | .slice .. | .fieldAddr .. | .indexAddr .. | .index .. | .extract .. | .build .. | .nilCheck _=>some true
  | .load ..=>some false
  | .convert _ d _=>(match c.ty d with
    | some ⟨.slice _,_,_,_⟩=>none
    | some _=>some false
    | none=>none)
  | .call cc=>(match cc.callee with
    | .builtin .len | .builtin .min | .builtin .max=>some true
    | _=>none)
  | _=>none
def sq (o:Oper):Bool:=
  match o.op with
  | .alloc _ | .box .. | .makeSlice .. | .buildSlice ..=>true
  | _=>false
def yS (c:cx) (o:Oper):Bool:=
  (oq c o).isSome||sq o||(match o.op with
    | .call cc=>(match cc.callee with
      | .value (.func f)=>!c.inl f&&!(c.own f).any id
      | _=>false)
    | _=>false)
def kbO (c:cx) (aB:FuncId) (r:Nat) (o:Oper):Bool:=yS c o||(BM c aB o).contains r
def waits (ops:Array Oper):Nat→Nat→Nat→Bool
  | 0,_,_=>false
  | n+1,j,i=>match ops[j]? with
    | some o=>o.after.toList.any fun e=>Region.binds .any e&&(e.on==i||waits ops n e.on i)
    | none=>false
def x5 (c:cx) (aB:FuncId) (oi:Oper) (b:Bool) (oj:Oper):Bool:=
  b||(match oi.op with
    | .load _ (.tmp x)=>(match c.base aB x with
      | some 0=>true
      | some (r+1)=>kbO c aB r oj
      | none=>yS c oj)
    | _=>yS c oj)
def LQ (c:cx) (aB:FuncId) (ops:Array Oper) (oi:Oper):Bool:=
  match oi.op with
  | .load _ (.tmp x)=>(match c.base aB x with
    | some (r+1)=>ops.toList.all fun o=>o.dst !=some r
    | _=>true)
  | _=>true
def Mb (c:cx) (aB:FuncId) (ops:Array Oper) (bT:Array Bool) (i:Nat):Bool:=
  match ops[i]? with
  | none=>false
  | some oi=>match oq c oi with
    | none=>false
    | some b=>LQ c aB ops oi&&(List.range ops.size).all fun j=>j==i||bT.getD j true||waits ops ops.size j i||(match ops[j]? with
      | some oj=>oi.apart ops oj&&x5 c aB oi b oj
      | none=>true)
def Jk (c:cx) (o:Oper):Option (List D × Bool):=
  match o.op with
  | .alloc e=>(match c.ty e with
    | some i=>some (i.zero,true)
    | none=>none)
  | .makeSlice t (.const l) (.const cp)=>(match c.ty t with
    | some ⟨.slice e,_,_,_⟩=>(match c.ty e,BK c o.type l,BK c o.type cp with
      | some ei,.int _ l,.int _ cp=>if 0≤l∧l≤cp∧0 < ei.bytes∧cp*ei.bytes≤140737488355328 then some ([.sl none ei.size l.toNat (fA l.toNat ei.zero)],false) else none
      | _,_,_=>none)
    | _=>none)
  | .buildSlice t n ps=>(match c.ty t with
    | some ⟨.slice e,_,_,_⟩=>(match c.ty e with
      | some ei=>if n=0∧ps.size=0 then some ([.sl none ei.size 0 []],false) else none
      | none=>none)
    | _=>none)
  | _=>none
def eaO (c:cx) (o:Oper):Bool:=o.guard.isNone&&o.dst.isSome&&(Jk c o).isSome
def Mc (c:cx) (ops:Array Oper) (bT:Array Bool) (rs:List Nat) (h:Nat):Bool:=
  match ops[h]? with
  | none=>false
  | some oh=>(List.range ops.size).all fun j=>j==h||bT.getD j true||waits ops ops.size j h||(match ops[j]? with
    | some oj=>eaO c oj&&rs.contains j&&oj.apart ops oh&&(List.range ops.size).all fun k=>k==j||bT.getD k true||(match ops[k]? with
      | some ok=>oj.apart ops ok||waits ops ops.size k j
      | none=>true)
    | none=>true)
def rT (c:cx) (aB:FuncId) (ops:Array Oper):Nat→Array Bool→Option (List Nat)
  | 0,bT=>match Region.ready .any ops bT with
    | []=>some []
    | _=>none
  | k+1,bT=>match Region.ready .any ops bT with
    | []=>some []
    | r::rs=>match (r::rs).find? (Mb c aB ops bT) with
      | some i=>(match rT c aB ops k (bT.setIfInBounds i true) with
        | some l=>some (i::l)
        | none=>none)
      | none=>match (r::rs).find? (Mc c ops bT (r::rs)) with
        | some h=>(match rT c aB ops k (bT.setIfInBounds h true) with
          | some l=>some (h::l)
          | none=>none)
        | none=>none
def rn (B:List Nat) (st:St) (r:Nat):Nat→Nat→Option St
  | _,0=>some st
  | o,k+1=>
    match st.cell r [] o with
    | some (.ref r' q' o' x)=>if (!q'.isEmpty||B.contains r')=true then rn B st r (o+1) k else
      (match iU st (.ref r' q' o' x) with
       | some (d',aN)=>match (aN.eS (ct r [] o true)).hL r [] o d' with
         | some ch=>rn B (ch.tP (.ref r' q' o' x) r [] o) r (o+1) k
         | none=>none
       | none=>none)
    | _=>rn B st r (o+1) k
def Jl (B:List Nat) (st:St) (r:Nat):Option St:=
  match lk st.rt r with
  | some cs=>rn B st r 0 cs.length
  | none=>some st
def Q0 (B:List Nat) (st:St) (t:Nat):Option St:=
  match st.get t with
  | .ref r [] o x=>if r=10000+st.of+t∨B.contains r=true then some st else
    match iU st (.ref r [] o x) with
    | some (d',aN)=>
      let ch:=(aN.eS (cB (10000+st.of+t))).tP (.ref r [] o x) (10000+st.of+t) [] 0
      some { ch with tm:=pz ch.tm t (.ref (10000+st.of+t) [] 0 none),rt:=pz ch.rt (10000+st.of+t) [d'] }
    | none=>none
  | _=>some st
def BN (f:St→Nat→Option St):St→List Nat→Option St
  | st,[]=>some st
  | st,t::ts=>match f st t with
    | some st'=>BN f st' ts
    | none=>none
def tQ {α:Type} (l:List (Nat × α)):List Nat→List (Nat × α)
  | []=>[]
  | t::ts=>match lk l t with
    | some v=>(t,v)::tQ l ts
    | none=>tQ l ts
def below {α:Type} (k:Nat):List (Nat × α)→List (Nat × α)
  | []=>[]
  | (j,v)::t=>if (k≤j∧j < k+100000)∨((k+1)*100000≤j∧j < (k+100001)*100000) then below k t else (j,v)::below k t
def BO (L B:List Nat) (st:St):Option St:=
  let bs:=B.map (st.of+·)++L.filterMap fun t=>match st.get t with
    | .ptr r [] _=>some r
    | _=>none
  match BN (Jl bs) st bs with
  | some aN=>match BN (Q0 bs) aN L with
    | some ch=>some { ch with tm:=tQ ch.tm L,rt:=below st.of ch.rt++tQ ch.rt ((B++L.map (10000+·)).map (st.of+·)) }
    | none=>none
  | none=>none
def tR (nm:St→Option St) (body:St→Option (Exit × St)):Nat→St→Option (Exit × St)
  | 0,_=>none
  | k+1,st=>match nm st with
    | some aN=>match body aN with
      | some (.normal,ch)=>tR nm body k ch
      | r=>r
    | none=>none
def eO (c:cx) (cl:FuncId→List D→Option (D × List D)) (ci:FuncId→List D→Nat→St→Option (D × St)) (K:Nat) (aB:FuncId):Code→Nat→St→Option (Exit × St)
  | .skip,_,st=>some (.normal,st)
  | .region _ ops false,_,st=>match uC c cl ci aB ops ops.toList st with
    | some st'=>some (.normal,st')
    | none=>none
  | .region _ ops true,_,st=>match rT c aB ops ops.size (Array.replicate ops.size false) with
    | some l=>(match ia c cl ci aB ops l st with
      | some st'=>some (.normal,st')
      | none=>none)
    | none=>none
  | .seq a b,i,st=>match eO c cl ci K aB a i st with
    | some (.normal,st')=>eO c cl ci K aB b i st'
    | r=>r
  | .cond x a b,i,st=>match cn c st 0 x with
    | .bool t=>if t then eO c cl ci K aB a i st else eO c cl ci K aB b i st
    | _=>none
  | .block id a,_,st=>match eO c cl ci K aB a id st with
    | some (.exit uD,st')=>if uD=id then some (.normal,st') else some (.exit uD,st')
    | r=>r
  | .loop a,i,st=>tR (match c.nm aB i with | some (L,B)=>BO L B | none=>some) (eO c cl ci K aB a i) K st
  | .exit id,_,st=>some (.exit id,st)
  | .ret,_,st=>some (.ret,st)
  | _,_,_=>none
def nt (n:Nat):Nat→List D→St→St
  | _,[],st=>st
  | i,d::ds,st=>
    nt n (i+1) ds (match d with
      | .bf cs=>{ st with tm:=pz st.tm i (.ptr (n+i) [] 0),rt:=pz st.rt (n+i) cs }
      | d=>if (dj d).any iH then { st with tm:=pz st.tm i (BJ (n+i) d),rt:=pz st.rt (n+i) (dj d) } else { st with tm:=pz st.tm i d })
def wm (c:cx) (st:St):List ResultVar→Option (List D)
  | []=>some []
  | .tmp t::rs=>match wm c st rs with
    | some ds=>some (st.get t::ds)
    | none=>none
  | .cell a t::rs=>match c.ty t with
    | some i=>match p8 st (ka i.ty) i.size (st.get a) with
      | some d=>match wm c st rs with
        | some ds=>some (d::ds)
        | none=>none
      | none=>none
    | none=>none
def eI:D→Bool
  | .bf _=>true
  | d=>(dj d).any iH
def nY (st:St) (r:Nat) (d:D):Option D:=
  if eI d then
    match d with
    | .bf _=>some (.ptr r [] 0)
    | .agg _=>match lk st.rt r with
      | some cs=>some (.agg (lp r [] 0 cs))
      | none=>none
    | _=>match lk st.rt r with
      | some [d']=>some (gw r [] 0 d')
      | _=>none
  else none
def pb (n:Nat):Nat→List D→St→Option (List D)
  | _,[],_=>some []
  | i,d::ds,st=>
    match nY st (n+i) d with
    | none=>match pb n (i+1) ds st with
      | some os=>some (.undef::os)
      | none=>none
    | some v=>match CE st v with
      | some (o,st')=>match pb n (i+1) ds st' with
        | some os=>some (o::os)
        | none=>none
      | none=>none
def nZ:List D→D
  | [d]=>d
  | ds=>.aL ds
def wK:Nat→List D→List (Nat × D)
  | _,[]=>[]
  | i,d::ds=>(i,d)::wK (i+1) ds
def uE:Exit→Bool
  | .normal | .ret=>true
  | _=>false
def uF (n k:Nat):Bool:=decide (k≤n)&&decide (n+k≤10000)
def Q1:D→Bool
  | .aL _=>false
  | _=>true
def LR (c:cx) (P:Program) (cl:FuncId→List D→Option (D × List D)) (ci:FuncId→List D→Nat→St→Option (D × St)) (K:Nat) (f:FuncId) (args:List D):Option (D × List D):=
  match c.ext f with
  | some e=>e args
  | none=>match P.funcs[f]? with
    | some fn=>match fn.body with
      | some body=>match eO c cl ci K f body 0 (nt fn.ntmps 0 args ⟨[],[],[],0⟩) with
        | some (x,st)=>if uE x&&uF fn.ntmps args.length then (match wm c st fn.results.toList with
            | some ds=>match L8 st ds with
              | some (ds',st')=>match pb fn.ntmps 0 args st' with
                | some os=>some (nZ ds',os)
                | none=>none
              | none=>none
            | none=>none) else none
        | none=>none
      | none=>none
    | none=>none
def Vs (c:cx) (P:Program) (cl:FuncId→List D→Option (D × List D)) (ci:FuncId→List D→Nat→St→Option (D × St)) (K:Nat) (f:FuncId) (args:List D) (of:Nat) (st:St):Option (D × St):=
  match P.funcs[f]? with
  | some fn=>match fn.body with
    | some body=>match eO c cl ci K f body 0 ⟨wK 0 args,st.rt,st.tm::st.up,of⟩ with
      | some (x,aN)=>if uE x&&uF fn.ntmps args.length then (match wm c aN fn.results.toList,aN.up with
          | some ds,tm::up=>if ds.all Q1 then some (nZ ds,⟨tm,aN.rt,up,st.of⟩) else none
          | _,_=>none) else none
      | none=>none
    | none=>none
  | none=>none
def forget:List Bool→List D→List D
  | true::b,.bf cs::os=>.bf cs::forget b os
  | true::b,_::os=>.undef::forget b os
  | false::b,o::os=>o::forget b os
  | _,os=>os
def SN (b:List Bool):Option (D × List D)→Option (D × List D)
  | some (r,os)=>some (r,forget b os)
  | none=>none
def x6 (c:cx) (P:Program) (cl:FuncId→List D→Option (D × List D)) (ci:FuncId→List D→Nat→St→Option (D × St)) (K:Nat) (f:FuncId) (args:List D):Option (D × List D):=
  match c.ext f with
  | some e=>e args
  | none=>SN (c.gone f) (LR c P cl ci K f args)
def nu (c:cx) (P:Program):Nat→(FuncId→List D→Option (D × List D)) × (FuncId→List D→Nat→St→Option (D × St))
  | 0=>(fun _ _=>none,fun _ _ _ _=>none)
  | k+1=>(x6 c P (nu c P k).1 (nu c P k).2 k,Vs c P (nu c P k).1 (nu c P k).2 k)
def Q2 (c:cx) (P:Program) (k:Nat):FuncId→List D→Option (D × List D):=(nu c P k).1
end Go.Proofs.YtockoilcnmljiaaGreat
namespace Go.Proofs.YtockoilcnmljiaaGreat
inductive T where
  | v (d:D) (u:Value)
  | own (s n cap:Nat) (a:Option (Nat × Nat)) (cs:List T)
  deriving Inhabited
def bL:D→D
  | .sl none _ _ _=>.undef
  | d=>d
def vK (a:Option (Nat × Nat)) (n cap:Nat):Value:=.slice (a.map fun p=>⟨p.1,p.2,none⟩) n cap
def T.val:T→Value
  | .v _ u=>u
  | .own _ n cap a _=>vK a n cap
mutual
def T.er:T→D
  | .v d _=>bL d
  | .own s n _ _ cs=>.sl none s n (bh cs)
def bh:List T→List D
  | []=>[]
  | t::ts=>t.er::bh ts
end
def iV:Option (Nat × Nat)→List Nat
  | some (b,_)=>[b]
  | none=>[]
mutual
def T.ft:T→List Nat
  | .v _ _=>[]
  | .own _ _ _ a cs=>iV a++ah cs
def ah:List T→List Nat
  | []=>[]
  | t::ts=>t.ft++ah ts
end
def aC:List T→List Value
  | []=>[]
  | t::ts=>t.val::aC ts
theorem eD (ts:List T):bh ts=ts.map T.er:=by
  induction ts with
  | nil=>rfl
  | cons t ts ih=>simp [bh,ih]
theorem cS (ts:List T):aC ts=ts.map T.val:=by
  induction ts with
  | nil=>rfl
  | cons t ts ih=>simp [aC,ih]
theorem nv (ts:List T):ah ts=(ts.map T.ft).flatten:=by
  induction ts with
  | nil=>rfl
  | cons t ts ih=>simp [ah,ih]
theorem ic (ts:List T) (o:Nat):(bh ts)[o]?=(ts[o]?).map T.er:=by simp [eD]
theorem fg (ts:List T):(bh ts).length=ts.length:=by simp [eD]
theorem uG (a b:List T):bh (a++b)=bh a++bh b:=by simp [eD]
theorem Md (ts:List T) (o:Nat) (t:T):(bh ts).set o t.er=bh (ts.set o t):=by
  simp [eD,List.map_set]
theorem fc (ts:List T) (o:Nat):(aC ts)[o]?=(ts[o]?).map T.val:=by simp [cS]
theorem bP (ts:List T):(aC ts).length=ts.length:=by simp [cS]
theorem pD (ts:List T) (o:Nat) (t:T):aC (ts.set o t)=(aC ts).set o t.val:=by simp [cS,List.map_set]
theorem zJ (a b:List T):aC (a++b)=aC a++aC b:=by simp [cS]
theorem bg (a b:List T):ah (a++b)=ah a++ah b:=by simp [nv]
theorem zK (ts:List T) (k:Nat):(bh ts).drop k=bh (ts.drop k):=by simp [eD,List.map_drop]
theorem zL (ts:List T) (k:Nat):(bh ts).take k=bh (ts.take k):=by simp [eD,List.map_take]
theorem EN {t:T} {s n:Nat} {cs:List D} (h:t.er=.sl none s n cs):∃ cap a ts,t=.own s n cap a ts∧cs=bh ts:=by
  cases t with
  | v d u=>
    simp only [T.er] at h
    cases d<;>simp only [bL] at h<;>try cases h
    rename_i g _ _ _
    cases g<;>simp at h
  | own s' n' cap a ts=>
    simp only [T.er,D.sl.injEq] at h
    obtain ⟨_,rfl,rfl,rfl⟩:=h
    exact ⟨cap,a,ts,rfl,rfl⟩
def aw:List T→List Nat→Option (List T)
  | cs,[]=>some cs
  | cs,o::q=>match cs[o]? with
    | some (.own _ _ _ _ xs)=>aw xs q
    | _=>none
def dF (f:List T→List T):List T→List Nat→Option (List T)
  | cs,[]=>some (f cs)
  | cs,o::q=>match cs[o]? with
    | some (.own s n cap a xs)=>match dF f xs q with
      | some kj=>some (cs.set o (.own s n cap a kj))
      | none=>none
    | _=>none
def bV (b:Option Nat):List T→List Nat→Option (Nat × Nat)
  | _,[]=>b.map fun k=>(k,0)
  | cs,o::q=>match cs[o]? with
    | some (.own _ _ _ a xs)=>(match q with | []=>a | _=>bV none xs q)
    | _=>none
theorem Me (q:List Nat):∀ cs:List T,lH (bh cs) q=(aw cs q).map bh:=by
  induction q with
  | nil=>intro cs; rfl
  | cons o q ih=>
    intro cs
    simp only [lH,aw,ic]
    cases h:cs[o]? with
    | none=>simp
    | some t=>
      cases t with
      | v d u=>
        cases d<;>simp [T.er,bL]
        rename_i g _ _ _
        cases g<;>simp
      | own s n cap a xs=>simp [T.er,ih]
theorem aaL (q:List Nat) (o:Nat) (t:T):∀ cs:List T,o8 (fun l=>l.set o t.er) (bh cs) q=(dF (fun l=>l.set o t) cs q).map bh:=by
  induction q with
  | nil=>intro cs; simp [o8,dF,Md]
  | cons p q ih=>
    intro cs
    simp only [o8,dF,ic]
    cases h:cs[p]? with
    | none=>simp
    | some x=>
      cases x with
      | v d u=>
        cases d<;>simp [T.er,bL]
        rename_i g _ _ _
        cases g<;>simp
      | own s n cap a xs=>
        simp only [Option.map_some,T.er,ih]
        cases hm:dF (fun l=>l.set o t) xs q with
        | none=>simp
        | some kj=>
          simp only [Option.map_some]
          rw [← Md]; simp [T.er]
theorem Mf {q:List Nat} {f:List T→List T}:∀ {cs l:List T},aw cs q=some l→∃ cs',dF f cs q=some cs':=by
  induction q with
  | nil=>intro cs l _; exact ⟨_,rfl⟩
  | cons p q ih=>
    intro cs l h
    simp only [aw] at h
    simp only [dF]
    cases hp:cs[p]? with
    | none=>simp [hp] at h
    | some x=>
      cases x with
      | v d u=>simp [hp] at h
      | own s n cap a xs=>
        simp only [hp] at h
        obtain ⟨kj,hx⟩:=ih h
        exact ⟨cs.set p (.own s n cap a kj),by simp [hx]⟩
theorem nw {q:List Nat} {f:List T→List T}:∀ {cs cs':List T},dF f cs q=some cs'→∃ l,aw cs q=some l∧aw cs' q=some (f l):=by
  induction q with
  | nil=>
    intro cs cs' h
    simp only [dF,Option.some.injEq] at h
    exact ⟨cs,rfl,by rw [← h]; rfl⟩
  | cons p q ih=>
    intro cs cs' h
    simp only [dF] at h
    cases hp:cs[p]? with
    | none=>simp [hp] at h
    | some x=>
      cases x with
      | v d u=>simp [hp] at h
      | own s n cap a xs=>
        simp only [hp] at h
        cases hm:dF f xs q with
        | none=>simp [hm] at h
        | some kj=>
          simp only [hm,Option.some.injEq] at h
          obtain ⟨l,h1,h2⟩:=ih hm
          refine ⟨l,by simp [aw,hp,h1],?_⟩
          have hl:p < cs.length:=(List.getElem?_eq_some_iff.1 hp).1
          rw [← h]
          simp [aw,hl,h2]
theorem mf {p:Nat} {q:List Nat} {f:List T→List T} {cs cs':List T} (h:dF f cs (p::q)=some cs'):aC cs'=aC cs∧cs'.length=cs.length:=by
  simp only [dF] at h
  cases hp:cs[p]? with
  | none=>simp [hp] at h
  | some x=>
    cases x with
    | v d u=>simp [hp] at h
    | own s n cap a xs=>
      simp only [hp] at h
      cases hm:dF f xs q with
      | none=>simp [hm] at h
      | some kj=>
        simp only [hm,Option.some.injEq] at h
        subst h
        obtain ⟨hl,hx⟩:=List.getElem?_eq_some_iff.1 hp
        refine ⟨?_,by simp⟩
        rw [pD]
        apply List.ext_getElem?
        intro j
        by_cases hj:p=j
        · subst hj
          rw [List.getElem?_set_self (by rw [bP]; exact hl),fc,hp]; rfl
        · simp [hj]
theorem dN (cs:List T) (o:Nat) (t:T) (h:cs[o]?=some t):∃ A B,ah cs=A++t.ft++B∧∀ t':T,ah (cs.set o t')=A++t'.ft++B:=by
  induction cs generalizing o with
  | nil=>simp at h
  | cons x xs ih=>
    cases o with
    | zero=>
      simp only [List.getElem?_cons_zero,Option.some.injEq] at h
      subst h
      exact ⟨[],ah xs,by simp [ah],fun t'=>by simp [ah]⟩
    | succ o=>
      simp only [List.getElem?_cons_succ] at h
      obtain ⟨A,B,h1,h2⟩:=ih o h
      exact ⟨x.ft++A,B,by simp [ah,h1],fun t'=>by simp [ah,h2]⟩
theorem EO {q:List Nat}:∀ {cs l:List T},aw cs q=some l→∃ A B,ah cs=A++ah l++B∧∀ f cs',dF f cs q=some cs'→ah cs'=A++ah (f l)++B:=by
  induction q with
  | nil=>
    intro cs l h
    simp only [aw,Option.some.injEq] at h
    subst h
    refine ⟨[],[],by simp,fun f cs' h=>?_⟩
    simp only [dF,Option.some.injEq] at h
    simp [← h]
  | cons p q ih=>
    intro cs l h
    simp only [aw] at h
    cases hp:cs[p]? with
    | none=>simp [hp] at h
    | some x=>
      cases x with
      | v d u=>simp [hp] at h
      | own s n cap a xs=>
        simp only [hp] at h
        obtain ⟨A,B,h1,h2⟩:=ih h
        obtain ⟨A',B',h3,h4⟩:=dN cs p _ hp
        refine ⟨A'++iV a++A,B++B',by rw [h3]; simp [T.ft,h1],fun f cs' hm=>?_⟩
        simp only [dF,hp] at hm
        cases hx:dF f xs q with
        | none=>simp [hx] at hm
        | some kj=>
          simp only [hx,Option.some.injEq] at hm
          rw [← hm,h4]
          simp [T.ft,h2 f kj hx]
theorem Q3 {q:List Nat} {o:Nat} {cs l:List T} {t:T} (h:aw cs q=some l) (ht:l[o]?=some t):
    ∃ A B,ah cs=A++t.ft++B∧∀ t' cs',dF (fun l=>l.set o t') cs q=some cs'→ah cs'=A++t'.ft++B:=by
  obtain ⟨A,B,h1,h2⟩:=EO h
  obtain ⟨A',B',h3,h4⟩:=dN l o t ht
  refine ⟨A++A',B'++B,by rw [h1,h3]; simp,fun t' cs' hm=>?_⟩
  rw [h2 _ _ hm,h4]; simp
structure RT where
  box:Option Nat
  cs:List T
def RT.ft (r:RT):List Nat:=r.box.toList++ah r.cs
def cF:List (Nat × RT)→List Nat
  | []=>[]
  | (_,r)::t=>r.ft++cF t
theorem cD {α:Type} (l:List (Nat × α)) (k:Nat) (v:α):lk (pt l k v) k=some v:=by
  induction l with
  | nil=>simp [pt,lk]
  | cons e t ih=>
    obtain ⟨j,u⟩:=e
    simp only [pt]
    split
    · simp [lk]
    · rename_i h; simp [lk,h,ih]
theorem dD {α:Type} (l:List (Nat × α)) {k j:Nat} (v:α) (h:j≠k):lk (pt l k v) j=lk l j:=by
  induction l with
  | nil=>simp [pt,lk,Ne.symm h]
  | cons e t ih=>
    obtain ⟨i,u⟩:=e
    simp only [pt]
    split
    · rename_i hi; subst hi; simp [lk,Ne.symm h]
    · simp only [lk]; split<;>simp [ih]
theorem kn {α:Type} (l:List (Nat × α)) (k:Nat) (v:α):lk (pz l k v) k=some v:=by
  induction l with
  | nil=>simp [pz,lk]
  | cons e t ih=>
    obtain ⟨j,u⟩:=e
    simp only [pz]
    split
    · rename_i h; simp [lk,Nat.ne_of_lt h,ih]
    · split<;>simp [lk]
theorem rp {α:Type} (l:List (Nat × α)) {k j:Nat} (v:α) (h:j≠k):lk (pz l k v) j=lk l j:=by
  induction l with
  | nil=>simp [pz,lk,Ne.symm h]
  | cons e t ih=>
    obtain ⟨i,u⟩:=e
    simp only [pz]
    split
    · simp only [lk]; split<;>simp [ih]
    · split
      · rename_i hi; subst hi; simp [lk,Ne.symm h]
      · simp [lk,Ne.symm h]
def gT (l:List (Nat × List D)) (S:List (Nat × RT)):Prop:=∀ k,lk l k=(lk S k).map fun r=>bh r.cs
theorem BP {l:List (Nat × List D)} {S:List (Nat × RT)} (h:gT l S) (k:Nat) (r:RT):gT (pz l k (bh r.cs)) (pt S k r):=by
  intro j
  by_cases hj:j=k
  · subst hj; rw [kn,cD]; rfl
  · rw [rp _ _ hj,dD _ _ hj]; exact h j
theorem lI {S:List (Nat × RT)} {k:Nat} {r:RT} (h:lk S k=some r):∃ A B,cF S=A++r.ft++B∧∀ r',cF (pt S k r')=A++r'.ft++B:=by
  induction S with
  | nil=>simp [lk] at h
  | cons e t ih=>
    obtain ⟨j,u⟩:=e
    simp only [lk] at h
    by_cases hj:j=k
    · simp only [hj,if_true,Option.some.injEq] at h
      subst h
      exact ⟨[],cF t,by simp [cF],fun r'=>by simp [pt,hj,cF]⟩
    · simp only [hj,if_false] at h
      obtain ⟨A,B,h1,h2⟩:=ih h
      exact ⟨u.ft++A,B,by simp [cF,h1],fun r'=>by simp [pt,hj,cF,h2]⟩
theorem Q4 {S:List (Nat × RT)} {k:Nat} (h:lk S k=none) (r:RT):cF (pt S k r)=cF S++r.ft:=by
  induction S with
  | nil=>simp [pt,cF]
  | cons e t ih=>
    obtain ⟨j,u⟩:=e
    simp only [lk] at h
    by_cases hj:j=k
    · simp [hj] at h
    · simp only [hj,if_false] at h
      simp [pt,hj,cF,ih h]
end Go.Proofs.YtockoilcnmljiaaGreat
namespace Go.Proofs.YtockoilcnmljiaaGreat
def Unf (fz:Nat × Nat) (n:Nat):Prop:=∀ o,o < n→¬ (fz.1≤o∧o < fz.2)
def lh (w:World) (b off fe:Nat) (us:List Value):Prop:=
  ∃ c e fz,w.heap[b]?=some (.cells c e fz)∧Unf fz c.size∧off+fe≤c.size∧∀ j u,us[j]?=some u→c[off+j]?=some u
mutual
def Ext (w:World) (X:Bool→Nat→Prop):D→Value→Prop
  | .int k n,u=>u=.int k n
  | .bool b,u=>u=.bool b
  | .str s,u=>u=.string s
  | .nil _,u=>u=.slice none 0 0
  | .undef,_=>True
  | .hole _ _,_=>True
  | .sl (some g) s n cs,u=>∃ base cap us,u=.slice base n cap∧n≤cap∧cs.length=n*s∧gh w X cs us∧
      (cs=[]∨∃ k off c e fz,base=some ⟨k,off,none⟩∧X g k∧w.heap[k]?=some (.cells c e fz)∧∀ j v,us[j]?=some v→c[off+j]?=some v)
  | _,_=>False
def gh (w:World) (X:Bool→Nat→Prop):List D→List Value→Prop
  | [],us=>us=[]
  | d::ds,us=>∃ v vs,us=v::vs∧Ext w X d v∧gh w X ds vs
end
mutual
def bE (w:World) (X:Bool→Nat→Prop):T→Prop
  | .v d u=>Ext w X (bL d) u
  | .own s n cap a cs=>n≤cap∧cs.length=n*s∧(match a with | none=>n=0∧cap=0 | some (b,off)=>lh w b off (cap*s) (aC cs))∧bF w X cs
def bF (w:World) (X:Bool→Nat→Prop):List T→Prop
  | []=>True
  | t::ts=>bE w X t∧bF w X ts
end
section
variable {w w':World} {X X':Bool→Nat→Prop}
mutual
theorem gi (h:∀ b k,X b k→X' b k∧w'.heap[k]?=w.heap[k]?):∀ (d:D) (u:Value),Ext w X d u→Ext w' X' d u
  | .int _ _,_,hu=>hu
  | .bool _,_,hu=>hu
  | .str _,_,hu=>hu
  | .nil _,_,hu=>hu
  | .undef,_,_=>trivial
  | .hole _ _,_,_=>trivial
  | .sl (some g) s n cs,u,hu=>by
    simp only [Ext] at hu ⊢
    obtain ⟨base,cap,us,h1,oN,h2,h3,h4⟩:=hu
    refine ⟨base,cap,us,h1,oN,h2,sr h cs us h3,?_⟩
    rcases h4 with h4 | ⟨k,off,c,e,fz,h5,h6,h7,h8⟩
    · exact .inl h4
    · exact .inr ⟨k,off,c,e,fz,h5,(h g k h6).1,by rw [(h g k h6).2]; exact h7,h8⟩
  | .sl none _ _ _,_,hu=>by simp [Ext] at hu
  | .ref ..,_,hu=>by simp [Ext] at hu
  | .agg _,_,hu=>by simp [Ext] at hu
  | .aL _,_,hu=>by simp [Ext] at hu
  | .fn ..,_,hu=>by simp [Ext] at hu
  | .ptr ..,_,hu=>by simp [Ext] at hu
  | .da ..,_,hu=>by simp [Ext] at hu
  | .bf _,_,hu=>by simp [Ext] at hu
theorem sr (h:∀ b k,X b k→X' b k∧w'.heap[k]?=w.heap[k]?):∀ (ds:List D) (us:List Value),gh w X ds us→gh w' X' ds us
  | [],_,hu=>hu
  | d::ds,us,hu=>by
    simp only [gh] at hu ⊢
    obtain ⟨v,vs,h1,h2,h3⟩:=hu
    exact ⟨v,vs,h1,gi h d v h2,sr h ds vs h3⟩
end
mutual
theorem dK (h:∀ b k,X b k→X' b k∧w'.heap[k]?=w.heap[k]?):∀ (t:T),bE w X t→(∀ k∈t.ft,w'.heap[k]?=w.heap[k]?)→bE w' X' t
  | .v d u,hs,_=>by simp only [bE] at hs ⊢; exact gi h _ _ hs
  | .own s n cap a cs,hs,hf=>by
    simp only [bE] at hs ⊢
    obtain ⟨h1,h2,h3,h4⟩:=hs
    refine ⟨h1,h2,?_,gn h cs h4 (fun k hk=>hf k (by simp [T.ft,hk]))⟩
    cases a with
    | none=>exact h3
    | some p=>
      obtain ⟨b,off⟩:=p
      obtain ⟨c,e,fz,hb,hr⟩:=h3
      exact ⟨c,e,fz,by rw [hf b (by simp [T.ft,iV])]; exact hb,hr⟩
theorem gn (h:∀ b k,X b k→X' b k∧w'.heap[k]?=w.heap[k]?):∀ (ts:List T),bF w X ts→(∀ k∈ah ts,w'.heap[k]?=w.heap[k]?)→bF w' X' ts
  | [],_,_=>by simp [bF]
  | t::ts,hs,hf=>by
    simp only [bF] at hs ⊢
    exact ⟨dK h t hs.1 (fun k hk=>hf k (by simp [ah,hk])),gn h ts hs.2 (fun k hk=>hf k (by simp [ah,hk]))⟩
end
end
theorem cj {w:World} {X:Bool→Nat→Prop} (ts:List T):bF w X ts↔∀ t∈ts,bE w X t:=by
  induction ts with
  | nil=>simp [bF]
  | cons t ts ih=>simp [bF,ih]
theorem fI {w:World} {X:Bool→Nat→Prop} {ts:List T} (h:bF w X ts) {o:Nat} {t:T} (ho:ts[o]?=some t):bE w X t:=
  (cj ts).1 h t (List.mem_of_getElem? ho)
theorem Mg {w:World} {X:Bool→Nat→Prop} {ts:List T} (h:bF w X ts) (o:Nat) {t:T} (ht:bE w X t):bF w X (ts.set o t):=by
  rw [cj] at h ⊢
  intro x hx
  rcases List.mem_or_eq_of_mem_set hx with hx | rfl
  · exact h x hx
  · exact ht
theorem dL {w:World} {X:Bool→Nat→Prop} (a b:List T):bF w X (a++b)↔bF w X a∧bF w X b:=by
  rw [cj,cj,cj]
  simp only [List.mem_append]
  exact ⟨fun h=>⟨fun t ht=>h t (.inl ht),fun t ht=>h t (.inr ht)⟩,fun h t ht=>ht.elim (h.1 t) (h.2 t)⟩
theorem vL {w:World} {X:Bool→Nat→Prop} {q:List Nat}:∀ {cs l:List T},bF w X cs→aw cs q=some l→bF w X l:=by
  induction q with
  | nil=>
    intro cs l h hc
    simp only [aw,Option.some.injEq] at hc
    exact hc▸h
  | cons p q ih=>
    intro cs l h hc
    simp only [aw] at hc
    cases hp:cs[p]? with
    | none=>simp [hp] at hc
    | some x=>
      cases x with
      | v d u=>simp [hp] at hc
      | own s n cap a xs=>
        simp only [hp] at hc
        have:=fI h hp
        simp only [bE] at this
        exact ih this.2.2.2 hc
theorem Y8 {w:World} {X:Bool→Nat→Prop} {o:Nat} {t t':T} (ht:bE w X t') (hv:t'.val=t.val) {q:List Nat}:∀ {cs cs' l:List T},bF w X cs→aw cs q=some l→l[o]?=some t→
    dF (fun l=>l.set o t') cs q=some cs'→bF w X cs'∧aC cs'=aC cs:=by
  induction q with
  | nil=>
    intro cs cs' l h hc ho hm
    simp only [aw,Option.some.injEq] at hc
    simp only [dF,Option.some.injEq] at hm
    subst hc; subst hm
    refine ⟨Mg h o ht,?_⟩
    rw [pD,hv]
    apply List.ext_getElem?
    intro j
    by_cases hj:o=j
    · subst hj
      obtain ⟨hl,_⟩:=List.getElem?_eq_some_iff.1 ho
      rw [List.getElem?_set_self (by rw [bP]; exact hl),fc,ho]; rfl
    · rw [List.getElem?_set_ne hj]
  | cons p q ih=>
    intro cs cs' l h hc ho hm
    refine ⟨?_,(mf hm).1⟩
    simp only [aw] at hc
    simp only [dF] at hm
    cases hp:cs[p]? with
    | none=>simp [hp] at hc
    | some x=>
      cases x with
      | v d u=>simp [hp] at hc
      | own s n cap a xs=>
        simp only [hp] at hc hm
        cases hx:dF (fun l=>l.set o t') xs q with
        | none=>simp [hx] at hm
        | some kj=>
          simp only [hx,Option.some.injEq] at hm
          have hs:=fI h hp
          simp only [bE] at hs
          obtain ⟨h1,h2,h3,h4⟩:=hs
          obtain ⟨h5,h6⟩:=ih h4 hc ho hx
          have hl:kj.length=xs.length:=by have:=congrArg List.length h6; simpa [bP] using this
          rw [← hm]
          refine Mg h p ?_
          simp only [bE]
          exact ⟨h1,by rw [hl]; exact h2,by rw [h6]; exact h3,h5⟩
def P4 (w w':World) (b i:Nat) (u:Value):Prop:=
  ∃ c e fz,w.heap[b]?=some (.cells c e fz)∧w'.heap[b]?=some (.cells (c.setIfInBounds i u) e fz)∧∀ k,k≠b→w'.heap[k]?=w.heap[k]?
theorem P5 {w w':World} {b i:Nat} {u:Value} (hu:P4 w w' b i u) {off fe o:Nat} {us:List Value} (hi:i=off+o) (hb:lh w b off fe us) (Vt:us.length≤fe):lh w' b off fe (us.set o u):=by
  obtain ⟨c,e,fz,h1,h2,h3⟩:=hu
  obtain ⟨c',e',fz',h4,h5,h6,h7⟩:=hb
  rw [h4] at h1
  simp only [Option.some.injEq,Obj.cells.injEq] at h1
  obtain ⟨rfl,rfl,rfl⟩:=h1
  refine ⟨_,e',fz',h2,by simpa using h5,by simpa using h6,fun j v hj=>?_⟩
  subst hi
  by_cases Jm:o=j
  · subst Jm
    by_cases hl:o < us.length
    · rw [List.getElem?_set_self hl] at hj
      have cT:off+o < c'.size:=by omega
      rw [Array.getElem?_setIfInBounds_self_of_lt cT]; exact hj
    · rw [List.getElem?_eq_none (by simpa using hl)] at hj
      simp at hj
  · rw [List.getElem?_set_ne Jm] at hj
    rw [Array.getElem?_setIfInBounds_ne (by omega)]
    exact h7 j v hj
theorem Hj {w w':World} {b k i:Nat} {u:Value} (hu:P4 w w' b i u) (hk:k≠b) {off fe:Nat} {us:List Value} (hb:lh w k off fe us):lh w' k off fe us:=by
  obtain ⟨c,e,fz,h1,h2⟩:=hb
  obtain ⟨_,_,_,_,_,h3⟩:=hu
  exact ⟨c,e,fz,by rw [h3 k hk]; exact h1,h2⟩
theorem rq {q:List Nat}:∀ {cs:List T} {bx:Option Nat} {p b off:Nat},bV bx cs (p::q)=some (b,off)→b∈ah cs:=by
  induction q with
  | nil=>
    intro cs bx p b off h
    simp only [bV] at h
    cases hp:cs[p]? with
    | none=>simp [hp] at h
    | some x=>
      cases x with
      | v d u=>simp [hp] at h
      | own s n cap a xs=>
        simp only [hp] at h
        obtain ⟨A,B,h1,_⟩:=dN cs p _ hp
        rw [h1,T.ft,h]; simp [iV]
  | cons p' q ih=>
    intro cs bx p b off h
    rw [bV] at h
    cases hp:cs[p]? with
    | none=>simp [hp] at h
    | some x=>
      cases x with
      | v d u=>simp [hp] at h
      | own s n cap a xs=>
        simp only [hp] at h
        obtain ⟨A,B,h1,_⟩:=dN cs p _ hp
        have:=ih h
        rw [h1,T.ft]; simp [this]
theorem Y9 {w w':World} {X X':Bool→Nat→Prop} {o b off:Nat} {t':T} (hX:∀ b k,X b k→X' b k∧w'.heap[k]?=w.heap[k]?) (ht:bE w' X' t') (hu:P4 w w' b (off+o) t'.val) {q:List Nat}:
    ∀ {cs cs' l:List T} {bx:Option Nat} {p:Nat},bF w X cs→(ah cs).Nodup→aw cs (p::q)=some l→bV bx cs (p::q)=some (b,off)→o < l.length→
    dF (fun l=>l.set o t') cs (p::q)=some cs'→bF w' X' cs':=by
  have Dj:∀ t:T,bE w X t→b∉t.ft→bE w' X' t:=fun t h hb=>dK hX t h (fun k hk=>by
    obtain ⟨_,_,_,_,_,h3⟩:=hu
    exact h3 k (fun e=>hb (e▸hk)))
  induction q with
  | nil=>
    intro cs cs' l bx p h hn hc ha ho hm
    simp only [aw,dF,bV] at hc hm ha
    cases hp:cs[p]? with
    | none=>simp [hp] at hc
    | some x=>
      cases x with
      | v d u=>simp [hp] at hc
      | own s n cap a xs=>
        simp only [hp,Option.some.injEq] at hc hm ha
        subst hc; subst ha; subst hm
        obtain ⟨A,B,h1,h2⟩:=dN cs p _ hp
        rw [h1] at hn
        have hs:=fI h hp
        simp only [bE] at hs
        obtain ⟨h3,h4,h5,h6⟩:=hs
        have Mh:(T.own s n cap (some (b,off)) xs).ft.Nodup:=((List.nodup_append.1 (List.nodup_append.1 hn).1).2.1)
        simp only [T.ft,iV,List.cons_append,List.nil_append,List.nodup_cons] at Mh
        rw [cj]
        intro t dg
        obtain ⟨j,hj⟩:=List.mem_iff_getElem?.1 dg
        by_cases tB:p=j
        · subst tB
          rw [List.getElem?_set_self (List.getElem?_eq_some_iff.1 hp).1,Option.some.injEq] at hj
          subst hj
          simp only [bE]
          refine ⟨h3,by simpa using h4,?_,?_⟩
          · rw [pD]
            exact P5 hu rfl h5 (by rw [bP,h4]; exact Nat.mul_le_mul_right _ h3)
          · rw [cj]
            intro y hy
            obtain ⟨i,hi⟩:=List.mem_iff_getElem?.1 hy
            by_cases hio:o=i
            · subst hio
              rw [List.getElem?_set_self ho,Option.some.injEq] at hi
              exact hi▸ht
            · rw [List.getElem?_set_ne hio] at hi
              refine Dj y (fI h6 hi) (fun hb=>Mh.1 ?_)
              obtain ⟨A',B',e1,_⟩:=dN xs i _ hi
              rw [e1]; simp [hb]
        · rw [List.getElem?_set_ne tB] at hj
          refine Dj t (fI h hj) (fun hb=>?_)
          have:b∈(T.own s n cap (some (b,off)) xs).ft:=by simp [T.ft,iV]
          rcases Nat.lt_or_gt_of_ne tB with cT | cT
          · have h7:=h2 (.v .undef undef)
            have EP:(cs.set p (.v .undef undef))[j]?=some t:=by rw [List.getElem?_set_ne tB]; exact hj
            obtain ⟨A',B',e1,_⟩:=dN _ j t EP
            have fO:b∈ah (cs.set p (.v .undef undef)):=by rw [e1]; simp [hb]
            rw [h7] at fO
            simp only [T.ft,List.append_nil,List.mem_append] at fO
            rw [List.nodup_append,List.nodup_append] at hn
            rcases fO with fO | fO
            · exact hn.1.2.2 b fO b this rfl
            · exact hn.2.2 b (List.mem_append.2 (.inr this)) b fO rfl
          · have h7:=h2 (.v .undef undef)
            have EP:(cs.set p (.v .undef undef))[j]?=some t:=by rw [List.getElem?_set_ne tB]; exact hj
            obtain ⟨A',B',e1,_⟩:=dN _ j t EP
            have fO:b∈ah (cs.set p (.v .undef undef)):=by rw [e1]; simp [hb]
            rw [h7] at fO
            simp only [T.ft,List.append_nil,List.mem_append] at fO
            rw [List.nodup_append,List.nodup_append] at hn
            rcases fO with fO | fO
            · exact hn.1.2.2 b fO b this rfl
            · exact hn.2.2 b (List.mem_append.2 (.inr this)) b fO rfl
  | cons p' q ih=>
    intro cs cs' l bx p h hn hc ha ho hm
    rw [aw] at hc
    rw [dF] at hm
    rw [bV] at ha
    cases hp:cs[p]? with
    | none=>simp [hp] at hc
    | some x=>
      cases x with
      | v d u=>simp [hp] at hc
      | own s n cap a xs=>
        simp only [hp] at hc hm ha
        cases hx:dF (fun l=>l.set o t') xs (p'::q) with
        | none=>simp [hx] at hm
        | some kj=>
          simp only [hx,Option.some.injEq] at hm
          subst hm
          obtain ⟨A,B,h1,h2⟩:=dN cs p _ hp
          rw [h1] at hn
          have hs:=fI h hp
          simp only [bE] at hs
          obtain ⟨h3,h4,h5,h6⟩:=hs
          have Mh:(T.own s n cap a xs).ft.Nodup:=((List.nodup_append.1 (List.nodup_append.1 hn).1).2.1)
          have hb:=rq ha
          have XP:b∈(T.own s n cap a xs).ft:=by simp [T.ft,hb]
          simp only [T.ft] at Mh
          have hnx:=(List.nodup_append.1 Mh).2.1
          obtain ⟨hv,hl⟩:=mf hx
          have hsx:=ih h6 hnx hc ha ho hx
          rw [cj]
          intro t dg
          obtain ⟨j,hj⟩:=List.mem_iff_getElem?.1 dg
          by_cases tB:p=j
          · subst tB
            rw [List.getElem?_set_self (List.getElem?_eq_some_iff.1 hp).1,Option.some.injEq] at hj
            subst hj
            simp only [bE]
            refine ⟨h3,by rw [hl]; exact h4,?_,hsx⟩
            cases a with
            | none=>exact h5
            | some pa=>
              obtain ⟨b1,alD⟩:=pa
              rw [hv]
              refine Hj hu (fun e=>?_) h5
              exact (List.nodup_append.1 Mh).2.2 b1 (by simp [iV]) b hb e
          · rw [List.getElem?_set_ne tB] at hj
            refine Dj t (fI h hj) (fun zM=>?_)
            have h7:=h2 (.v .undef undef)
            have EP:(cs.set p (.v .undef undef))[j]?=some t:=by rw [List.getElem?_set_ne tB]; exact hj
            obtain ⟨A',B',e1,_⟩:=dN _ j t EP
            have fO:b∈ah (cs.set p (.v .undef undef)):=by rw [e1]; simp [zM]
            rw [h7] at fO
            simp only [T.ft,List.append_nil,List.mem_append] at fO
            rw [List.nodup_append,List.nodup_append] at hn
            rcases fO with fO | fO
            · exact hn.1.2.2 b fO b XP rfl
            · exact hn.2.2 b (List.mem_append.2 (.inr XP)) b fO rfl
end Go.Proofs.YtockoilcnmljiaaGreat
namespace Go.Proofs.YtockoilcnmljiaaGreat
inductive cb {α β:Type} (R:α→β→Prop):List α→List β→Prop
  | nil:cb R [] []
  | cons {a b as9 bs}:R a b→cb R as9 bs→cb R (a::as9) (b::bs)
def cu (S:List (Nat × RT)) (r:Nat) (q:List Nat) (o:Nat):Option T:=
  match lk S r with
  | some R=>match aw R.cs q with
    | some l=>l[o]?
    | none=>none
  | none=>none
def eK (x:Option (Nat × Nat)) (t:T) (u:Value):Prop:=
  match sn t.er with
  | some (s,n)=>match x with
    | none=>u=t.val
    | some (l,m)=>l+m≤n∧∃ base C k,t.val=.slice base n C∧k≤C∧u=.slice (base.map (·.add (k*s))) m (C - l)∧(C - l=0∨k=l)
  | none=>True
def bj (w:World) (X:Bool→Nat→Prop) (S:List (Nat × RT)):D→Value→Prop
  | .ref r q o x,u=>∀ t,cu S r q o=some t→eK x t u
  | .ptr r q o,u=>∀ R,lk S r=some R→(q=[]→R.box.isSome)∧∀ b off,bV R.box R.cs q=some (b,off)→u=.pointer (some ⟨b,off+o,none⟩)
  | .da cs o,u=>∃ b off c e fz us,u=.pointer (some ⟨b,off+o,none⟩)∧X true b∧w.heap[b]?=some (.cells c e fz)∧gh w X cs us∧∀ j v,us[j]?=some v→c[off+j]?=some v
  | d,u=>Ext w X d u
def gD (w:World) (X:Bool→Nat→Prop) (S:List (Nat × RT)):D→Value→Prop
  | .agg cs,u=>∃ us,u=.agg us∧cb (bj w X S) cs us.toList
  | .fn f cs,u=>∃ us,u=.func (.func f) #[] us∧cb (bj w X S) cs us.toList
  | d,u=>bj w X S d u
def cr (w:World) (X:Bool→Nat→Prop) (S:List (Nat × RT)):D→Value→Prop
  | .aL ds,u=>∃ us,u=.tuple us∧cb (gD w X S) ds us.toList
  | d,u=>gD w X S d u
def iW (w:World) (X:Bool→Nat→Prop) (S:List (Nat × RT)) (b:Bool):T→Prop
  | .v d u=>Ext w X (bL d) u∨(b=true∧bj w X S (bL d) u)
  | t=>bE w X t
def Mi (w:World) (X:Bool→Nat→Prop) (S:List (Nat × RT)) (R:RT):Prop:=
  (match R.box with | some b=>lh w b 0 R.cs.length (aC R.cs) | none=>True)∧∀ t∈R.cs,iW w X S R.box.isSome t
structure Ctx where
  w0:World
  FA:List Nat
  Y:Nat→Prop
  P0:List (Nat × Option Nat × List Value)
def af (C:Ctx) (w:World) (S:List (Nat × RT)) (H:List T) (b:Bool) (k:Nat):Prop:=
  k < w.heap.size∧k∉cF S∧k∉ah H∧(b=false→C.Y k∨k∈C.FA∨C.w0.heap.size≤k)
structure Mem (C:Ctx) (w:World) (S:List (Nat × RT)) (H:List T):Prop where
  nd:(cF S++ah H).Nodup
  root:∀ r R,lk S r=some R→Mi w (af C w S H) S R
  hand:bF w (af C w S H) H
  lt:∀ k∈cF S++ah H,k < w.heap.size
def ma (w:World) (X:Bool→Nat→Prop) (S:List (Nat × RT)) (tm:List (Nat × D)) (vs:Array Value):Prop:=
  ∀ t,cr w X S ((lk tm t).getD .undef) (vs.getD t undef)
structure Kept (C:Ctx) (w:World) (S:List (Nat × RT)) (H:List T):Prop where
  os:w.os=C.w0.os
  tape:w.tape=C.w0.tape
  output:w.output=C.w0.output
  size:C.w0.heap.size≤w.heap.size
  block:∀ k,k < C.w0.heap.size→k∉C.FA→w.heap[k]?=C.w0.heap[k]?
  ix:∀ k∈cF S++ah H,k∈C.FA∨C.w0.heap.size≤k
  par:∀ r b vs,(r,b,vs)∈C.P0→∀ R,lk S r=some R→R.box=b∧(b=none→aC R.cs=vs)
structure Rel (C:Ctx) (H:List T) (w:World) (st:St) (aE:List (Array Value)) (S:List (Nat × RT)):Prop where
  rt:gT st.rt S
  mem:Mem C w S H
  oO:cb (ma w (af C w S H) S) (st.tm::st.up) aE
  kept:Kept C w S H
theorem Hk (st:St) (S:List (Nat × RT)) (h:gT st.rt S) (r:Nat) (q:List Nat) (o:Nat):st.cell r q o=(cu S r q o).map T.er:=by
  unfold St.cell St.cells cu
  rw [h]
  cases lk S r with
  | none=>rfl
  | some R=>
    simp only [Option.map_some,Me]
    cases aw R.cs q with
    | none=>rfl
    | some l=>simp [ic]
theorem uH (st:St) (S:List (Nat × RT)) (h:gT st.rt S) {r:Nat} {q:List Nat} {cs:List D} (hc:st.cells r q=some cs):∃ R l,lk S r=some R∧aw R.cs q=some l∧cs=bh l:=by
  unfold St.cells at hc
  rw [h] at hc
  cases hr:lk S r with
  | none=>simp [hr] at hc
  | some R=>
    simp only [hr,Option.map_some,Me] at hc
    cases hl:aw R.cs q with
    | none=>simp [hl] at hc
    | some l=>
      simp only [hl,Option.map_some,Option.some.injEq] at hc
      exact ⟨R,l,rfl,hl,hc.symm⟩
theorem iI {st:St} {S:List (Nat × RT)} (h:gT st.rt S) {r:Nat} {q:List Nat} {o:Nat} {d:D} (hc:st.cell r q o=some d):∃ R l t,lk S r=some R∧aw R.cs q=some l∧l[o]?=some t∧cu S r q o=some t∧d=t.er:=by
  rw [Hk st S h] at hc
  cases ht:cu S r q o with
  | none=>simp [ht] at hc
  | some t=>
    simp only [ht,Option.map_some,Option.some.injEq] at hc
    unfold cu at ht
    cases hr:lk S r with
    | none=>simp [hr] at ht
    | some R=>
      simp only [hr] at ht
      cases hl:aw R.cs q with
      | none=>simp [hl] at ht
      | some l=>
        simp only [hl] at ht
        exact ⟨R,l,t,rfl,hl,ht,rfl,hc.symm⟩
theorem cb.len {α β:Type} {R:α→β→Prop} {as9:List α} {bs:List β} (h:cb R as9 bs):as9.length=bs.length:=by
  induction h with
  | nil=>rfl
  | cons _ _ ih=>simp [ih]
theorem cb.get {α β:Type} {R:α→β→Prop} {as9:List α} {bs:List β} (h:cb R as9 bs):∀ {i:Nat} {a:α},as9[i]?=some a→∃ b,bs[i]?=some b∧R a b:=by
  induction h with
  | nil=>intro i a h; simp at h
  | cons h1 _ ih=>
    intro i a h
    cases i with
    | zero=>simp only [List.getElem?_cons_zero,Option.some.injEq] at h; exact ⟨_,rfl,h▸h1⟩
    | succ i=>simp only [List.getElem?_cons_succ] at h ⊢; exact ih h
theorem cb.mono {α β:Type} {R R':α→β→Prop} {as9:List α} {bs:List β} (h:cb R as9 bs) (hr:∀ a b,R a b→R' a b):cb R' as9 bs:=by
  induction h with
  | nil=>exact .nil
  | cons h1 _ ih=>exact .cons (hr _ _ h1) ih
theorem cb.map {α α' β:Type} {R:α→β→Prop} {R':α'→β→Prop} {as9:List α} {bs:List β} (h:cb R as9 bs) (f:α→α') (hr:∀ a b,R a b→R' (f a) b):cb R' (as9.map f) bs:=by
  induction h with
  | nil=>exact .nil
  | cons h1 _ ih=>exact .cons (hr _ _ h1) ih
theorem cb.app {α β:Type} {R:α→β→Prop} {as9 cq:List α} {bs XQ:List β} (h:cb R as9 bs) (h':cb R cq XQ):cb R (as9++cq) (bs++XQ):=by
  induction h with
  | nil=>exact h'
  | cons h1 _ ih=>exact .cons h1 ih
theorem cb.drop {α β:Type} {R:α→β→Prop} {as9:List α} {bs:List β} (h:cb R as9 bs):∀ n,cb R (as9.drop n) (bs.drop n):=by
  induction h with
  | nil=>intro n; simp; exact .nil
  | cons h1 h2 ih=>
    intro n
    cases n with
    | zero=>exact .cons h1 h2
    | succ n=>simpa using ih n
theorem cb.take {α β:Type} {R:α→β→Prop} {as9:List α} {bs:List β} (h:cb R as9 bs):∀ n,cb R (as9.take n) (bs.take n):=by
  induction h with
  | nil=>intro n; simp; exact .nil
  | cons h1 h2 ih=>
    intro n
    cases n with
    | zero=>exact .nil
    | succ n=>exact .cons h1 (ih n)
theorem dk {α β:Type} {R:α→β→Prop}:∀ {as9:List α} {bs:List β},as9.length=bs.length→(∀ (i:Nat) a b,as9[i]?=some a→bs[i]?=some b→R a b)→cb R as9 bs
  | [],[],_,_=>.nil
  | a::as9,b::bs,h,hr=>.cons (hr 0 a b rfl rfl) (dk (by simpa using h) (fun i a b ha hb=>hr (i+1) a b (by simpa using ha) (by simpa using hb)))
  | [],_::_,h,_=>by simp at h
  | _::_,[],h,_=>by simp at h
theorem gO {w:World} {X:Bool→Nat→Prop} (ds:List D):∀ us,gh w X ds us↔cb (Ext w X) ds us:=by
  induction ds with
  | nil=>intro us; simp only [gh]; exact ⟨fun h=>h▸.nil,fun h=>by cases h; rfl⟩
  | cons d ds ih=>
    intro us
    simp only [gh]
    constructor
    · rintro ⟨v,vs,rfl,h1,h2⟩
      exact .cons h1 ((ih vs).1 h2)
    · intro h
      cases h with
      | cons h1 h2=>exact ⟨_,_,rfl,h1,(ih _).2 h2⟩
theorem fZ {w:World} {X:Bool→Nat→Prop} {S:List (Nat × RT)}:∀ {d:D} {u:Value},Ext w X d u→bj w X S d u
  | .int ..,_,h=>h
  | .bool ..,_,h=>h
  | .str ..,_,h=>h
  | .nil ..,_,h=>h
  | .undef,_,h=>h
  | .hole ..,_,h=>h
  | .sl ..,_,h=>h
  | .ref ..,_,h=>by simp [Ext] at h
  | .agg ..,_,h=>by simp [Ext] at h
  | .aL ..,_,h=>by simp [Ext] at h
  | .fn ..,_,h=>by simp [Ext] at h
  | .ptr ..,_,h=>by simp [Ext] at h
  | .da ..,_,h=>by simp [Ext] at h
  | .bf ..,_,h=>by simp [Ext] at h
theorem ej {w:World} {X:Bool→Nat→Prop} {S:List (Nat × RT)} {d:D} {u:Value} (h:bj w X S d u):gD w X S d u:=by
  cases d<;>first | exact h | (simp [bj,Ext] at h)
theorem ko {w:World} {X:Bool→Nat→Prop} {S:List (Nat × RT)} {d:D} {u:Value} (h:gD w X S d u):cr w X S d u:=by
  cases d<;>first | exact h | (simp [gD,bj,Ext] at h)
theorem mg {w:World} {X:Bool→Nat→Prop} {S:List (Nat × RT)} {d:D} {u:Value} (h:bj w X S d u):cr w X S d u:=ko (ej h)
theorem ER {w:World} {X:Bool→Nat→Prop} {S:List (Nat × RT)} {d:D} {u:Value} (h:Ext w X d u):cr w X S d u:=mg (fZ h)
theorem mb {w:World} {X:Bool→Nat→Prop} {S:List (Nat × RT)} (u:Value):cr w X S .undef u:=ER (by simp [Ext])
theorem Vu (vs:Array Value) (d t:Nat) (v:Value):(vs.setIfInBounds d v).getD t undef=if d=t∧d < vs.size then v else vs.getD t undef:=by
  rw [Array.getD_eq_getD_getElem?,Array.getD_eq_getD_getElem?,Array.getElem?_setIfInBounds]
  by_cases h:d=t
  · subst h
    by_cases hd:d < vs.size
    · simp [hd]
    · simp [hd]
  · simp [h]
theorem ma.put {w:World} {X:Bool→Nat→Prop} {S:List (Nat × RT)} {tm:List (Nat × D)} {vs:Array Value} (h:ma w X S tm vs) {t:Nat} (ht:t < vs.size) {d:D} {v:Value} (hv:cr w X S d v):ma w X S (pz tm t d) (vs.setIfInBounds t v):=by
  intro i
  rw [Vu]
  by_cases hi:t=i
  · subst hi
    rw [kn]; simpa [ht] using hv
  · rw [rp _ _ (Ne.symm hi)]; simpa [hi] using h i
end Go.Proofs.YtockoilcnmljiaaGreat
namespace Go.Proofs.YtockoilcnmljiaaGreat
def P6 (d:D) (u:Value):Prop:=∀ w X,Ext w X d u
def Vv:TypeDesc→Bool
  | .struct _ | .array _ _=>true
  | _=>false
def kp (P:Program):Ty→TypeDesc→Prop
  | .int k,d=>d=.int k
  | .bool,d=>d=.bool
  | .str,d=>d=.string
  | .slice e,d=>d=.slice e
  | .array n e,d=>d=.array n e
  | .struct lG szs,d=>∃ fs,d=.struct fs∧lG=fs.toList.map (·.offset)∧szs.length=fs.toList.length∧∀ (j:Nat) (f:Field),fs.toList[j]?=some f→∃ i,P.info? f.type=some i∧i.size≠0∧szs[j]?=some i.size
  | .ptr e,d=>d=.pointer e
  | .fn,d=>Vv d=false
  | .other,d=>Vv d=false
structure Dk (P:Program) (t:TypeId) (ti:TI):Prop where
  info:∃ i,P.info? t=some i∧i.size=ti.size∧i.bytes=ti.bytes∧∃ z,i.zero=some z∧cb P6 ti.zero z.cells.toList
  desc:∃ d,P.underlying t=some d∧kp P ti.ty d
  len:ti.zero.length=ti.size
structure ek (c:cx) (P:Program):Prop where
  ty:∀ t ti,c.ty t=some ti→Dk P t ti
section
variable {P:Program} {w:World}
theorem SO {t:TypeId} {i:TypeInfo} (h:P.info? t=some i) (w:World):(typeInfo t).run P w=.ok i w:=by simp [typeInfo,h]
theorem SP {t:TypeId} {i:TypeInfo} (h:P.info? t=some i) (w:World):(Go.sizeOf t).run P w=Result.ok i.size w:=by
  simp [Go.sizeOf,SO h]
theorem Mj {t:TypeId} {i:TypeInfo} {z:Value} (h:P.info? t=some i) (hz:i.zero=some z) (w:World):(zeroValue t).run P w=.ok z w:=by
  simp [zeroValue,SO h,hz]
theorem Dk.sz {t:TypeId} {ti:TI} (h:Dk P t ti) (w:World):(Go.sizeOf t).run P w=Result.ok ti.size w:=by
  obtain ⟨i,h1,h2,_⟩:=h.info
  rw [SP h1,h2]
theorem Za {ty:Ty} {d:TypeDesc} (h:kp P ty d):Vv d=ka ty:=by
  cases ty<;>simp only [kp] at h<;>first | (subst h; rfl) | (obtain ⟨fs,rfl,_⟩:=h; rfl) | (rw [h]; rfl)
theorem Dk.agg {t:TypeId} {ti:TI} (h:Dk P t ti) (w:World):(isAgg t).run P w=.ok (ka ti.ty) w:=by
  obtain ⟨d,h1,h2⟩:=h.desc
  simp only [isAgg,Sem.run_bind,run_underlying h1,Result.andThen_ok]
  rw [← Za h2]
  cases d<;>rfl
end
section
variable {P:Program} {o:Oper} {a:Act} {w:World} {K:Act→World→Prop} {Q:Exit→Act→World→Prop}
theorem ph {v:Value} {w':World} (h:(execOp a.eval o).run P w=.ok (.value v) w') (hk:K (a.put o.dst v) w'):o.wp P a w K Q:=by
  unfold Oper.wp; rw [h]; exact hk
theorem Q5 {w':World} (h:(execOp a.eval o).run P w=.ok .skip w') (hk:K (a.put o.dst undef) w'):o.wp P a w K Q:=by
  unfold Oper.wp; rw [h]; exact hk
end
theorem eT (b off k:Nat):(⟨b,off,none⟩:Addr).add k=⟨b,off+k,none⟩:=by
  unfold Addr.add; split
  · rename_i h; subst h; rfl
  · rfl
theorem uI {w:World} {b off fe:Nat} {us:List Value} (h:lh w b off fe us) {j:Nat} {u:Value} (hj:us[j]?=some u):w.cell? ⟨b,off+j,none⟩=some u:=by
  obtain ⟨c,e,fz,h1,_,_,h4⟩:=h
  simp [World.cell?,h1,h4 j u hj]
theorem ES {w:World} {b off fe:Nat} {us:List Value} (h:lh w b off fe us) {j:Nat} (hj:j < fe):w.frozen? ⟨b,off+j,none⟩=false:=by
  obtain ⟨c,e,fz,h1,h2,h3,_⟩:=h
  have:=h2 (off+j) (by omega)
  simp only [World.frozen?,h1]
  simpa using this
theorem ET {w:World} {b off fe:Nat} {us:List Value} (h:lh w b off fe us) {j:Nat} (hj:j < fe):∃ u,w.cell? ⟨b,off+j,none⟩=some u:=by
  obtain ⟨c,e,fz,h1,_,h3,_⟩:=h
  have:off+j < c.size:=by omega
  exact ⟨c[off+j],by simp [World.cell?,h1,this]⟩
theorem Vw {w:World} {X:Bool→Nat→Prop} {q:List Nat}:∀ {s n cap:Nat} {a:Option (Nat × Nat)} {xs l:List T},bE w X (.own s n cap a xs)→aw xs q=some l→l≠[]→
    ∃ b off fe,(match q with | []=>a | _=>bV none xs q)=some (b,off)∧lh w b off fe (aC l)∧l.length≤fe∧bF w X l:=by
  induction q with
  | nil=>
    intro s n cap a xs l h hc hl
    simp only [aw,Option.some.injEq] at hc
    subst hc
    simp only [bE] at h
    obtain ⟨h1,h2,h3,h4⟩:=h
    cases a with
    | none=>
      have:xs.length=0:=by rw [h2,h3.1]; simp
      exact absurd (List.length_eq_zero_iff.1 this) hl
    | some p=>exact ⟨p.1,p.2,_,rfl,h3,by rw [h2]; exact Nat.mul_le_mul_right _ h1,h4⟩
  | cons p q ih=>
    intro s n cap a xs l h hc hl
    simp only [bE] at h
    rw [aw] at hc
    cases hp:xs[p]? with
    | none=>simp [hp] at hc
    | some x=>
      cases x with
      | v d u=>simp [hp] at hc
      | own s' n' tq a' kj=>
        simp only [hp] at hc
        obtain ⟨b,off,fe,h5,h6⟩:=ih (fI h.2.2.2 hp) hc hl
        exact ⟨b,off,fe,by simp only [bV,hp]; exact h5,h6⟩
theorem qc {C:Ctx} {w:World} {S:List (Nat × RT)} {H:List T} (hm:Mem C w S H) {r:Nat} {R:RT} {q:List Nat} {l:List T} (hr:lk S r=some R) (hc:aw R.cs q=some l) (hl:l≠[]) (hb:q=[]→R.box.isSome=true):
    ∃ b off fe,bV R.box R.cs q=some (b,off)∧lh w b off fe (aC l)∧l.length≤fe∧(q≠[]→bF w (af C w S H) l):=by
  obtain ⟨h1,h2⟩:=hm.root r R hr
  cases q with
  | nil=>
    simp only [aw,Option.some.injEq] at hc
    subst hc
    have hb:=hb rfl
    cases hx:R.box with
    | none=>simp [hx] at hb
    | some b=>exact ⟨b,0,_,by simp [bV],by simpa [hx] using h1,Nat.le_refl _,fun h=>absurd rfl h⟩
  | cons p q=>
    rw [aw] at hc
    cases hp:R.cs[p]? with
    | none=>simp [hp] at hc
    | some x=>
      cases x with
      | v d u=>simp [hp] at hc
      | own s n cap a xs=>
        simp only [hp] at hc
        have hs:bE w (af C w S H) (.own s n cap a xs):=h2 _ (List.mem_of_getElem? hp)
        obtain ⟨b,off,fe,h3,h4,h5,h6⟩:=Vw hs hc hl
        exact ⟨b,off,fe,by simp only [bV,hp]; exact h3,h4,h5,fun _=>h6⟩
theorem Mk {q:List Nat}:∀ {cs l:List T} {bx:Option Nat} {o s n cap:Nat} {a:Option (Nat × Nat)} {xs:List T},aw cs q=some l→l[o]?=some (.own s n cap a xs)→bV bx cs (q++[o])=a∧aw cs (q++[o])=some xs:=by
  induction q with
  | nil=>
    intro cs l bx o s n cap a xs hc ho
    simp only [aw,Option.some.injEq] at hc
    subst hc
    simp [bV,aw,ho]
  | cons p q ih=>
    intro cs l bx o s n cap a xs hc ho
    rw [aw] at hc
    cases hp:cs[p]? with
    | none=>simp [hp] at hc
    | some x=>
      cases x with
      | v d u=>simp [hp] at hc
      | own s' n' tq a' kj=>
        simp only [hp] at hc
        obtain ⟨h1,h2⟩:=ih (bx:=none) hc ho
        refine ⟨?_,by simp only [List.cons_append,aw,hp]; exact h2⟩
        rw [List.cons_append,bV]
        simp only [hp]
        cases hq:q++[o] with
        | nil=>simp at hq
        | cons y ys=>rw [hq] at h1; exact h1
theorem Dl {S:List (Nat × RT)} {r:Nat} {R:RT} {q:List Nat} {l:List T} {o:Nat} (hr:lk S r=some R) (hc:aw R.cs q=some l):cu S r q o=l[o]?:=by
  simp [cu,hr,hc]
theorem pE {C:Ctx} {w:World} {S:List (Nat × RT)} {H:List T} (hm:Mem C w S H) {r:Nat} {R:RT} {q:List Nat} {l:List T} {o:Nat} {t:T} (hr:lk S r=some R) (hc:aw R.cs q=some l) (ho:l[o]?=some t):
    bj w (af C w S H) S (gw r q o t.er) t.val:=by
  cases t with
  | own s n cap a xs=>
    simp only [T.er,gw,bj]
    intro t' oP
    rw [Dl hr hc,ho,Option.some.injEq] at oP
    subst oP
    simp [eK,sn,T.er]
  | v d u=>
    have hv:gw r q o (T.v d u).er=bL d:=by
      simp only [T.er]
      cases d<;>simp [bL,gw]
      rename_i g _ _ _
      cases g<;>simp [bL,gw]
    rw [hv]
    obtain ⟨_,h2⟩:=hm.root r R hr
    cases q with
    | nil=>
      simp only [aw,Option.some.injEq] at hc
      subst hc
      rcases h2 _ (List.mem_of_getElem? ho) with h3 | ⟨_,h3⟩
      · exact fZ h3
      · exact h3
    | cons p q=>
      rw [aw] at hc
      cases hp:R.cs[p]? with
      | none=>simp [hp] at hc
      | some x=>
        cases x with
        | v d u=>simp [hp] at hc
        | own s n cap a xs=>
          simp only [hp] at hc
          have hs:bE w (af C w S H) (.own s n cap a xs):=h2 _ (List.mem_of_getElem? hp)
          simp only [bE] at hs
          have:=fI (vL hs.2.2.2 hc) ho
          simp only [bE] at this
          exact fZ this
theorem nx (r:Nat) (q:List Nat):∀ (cs:List D) (o i:Nat),(lp r q o cs)[i]?=(cs[i]?).map (gw r q (o+i))
  | [],o,i=>by simp [lp]
  | d::ds,o,0=>by simp [lp]
  | d::ds,o,i+1=>by
    simp only [lp,List.getElem?_cons_succ,nx r q ds (o+1) i]
    congr 1
    rw [show o+1+i=o+(i+1) by omega]
theorem pF (r:Nat) (q:List Nat):∀ (cs:List D) (o:Nat),(lp r q o cs).length=cs.length
  | [],o=>rfl
  | d::ds,o=>by simp [lp,pF r q ds (o+1)]
def dG (w w2:World):Prop:=∀ k,k < w.heap.size→w2.heap[k]?=w.heap[k]?
theorem dG.refl (w:World):dG w w:=fun _ _=>rfl
theorem dG.trans {w w2 w3:World} (h:dG w w2) (h':dG w2 w3):dG w w3:=fun k hk=>by
  have h1:=h k hk
  have Ml:k < w2.heap.size:=by
    rcases Nat.lt_or_ge k w2.heap.size with h2 | h2
    · exact h2
    · rw [Array.getElem?_eq_none h2,Array.getElem?_eq_getElem hk] at h1
      simp at h1
  rw [h' k Ml,h1]
theorem dG.cell {w w2:World} (h:dG w w2) {A:Addr} {v:Value} (hc:w.cell? A=some v):w2.cell? A=some v:=by
  have hk:A.block < w.heap.size:=by
    rcases Nat.lt_or_ge A.block w.heap.size with h2 | h2
    · exact h2
    · simp [World.cell?,Array.getElem?_eq_none h2] at hc
  rw [← hc]
  unfold World.cell?
  rw [h _ hk]
def zN (u:Value) (w w2:World):Prop:=∀ B,u=.pointer (some B)→∀ A v,A.block=B.block→w.cell? A=some v→w2.cell? A=some v
theorem dG.af4 {w w2:World} (h:dG w w2) (u:Value):zN u w w2:=fun _ _ _ _ _ hc=>h.cell hc
theorem zN.refl (u:Value) (w:World):zN u w w:=fun _ _ _ _ _ h=>h
theorem P7 {u:Value} {w w2:World} {b:Nat} (hb:∀ B,u=.pointer (some B)→B.block=b) (h:w2.heap[b]?=w.heap[b]?):zN u w w2:=fun B hB A v hA hc=>by
  have e:A.block=b:=hA.trans (hb B hB)
  rw [← hc]
  unfold World.cell?
  rw [e,h]
theorem Hl {P:Program} {c:cx} (aq:ek c P) {C:Ctx} {Hx:List T} {w:World} {S:List (Nat × RT)} {st:St} (fU:gT st.rt S) (hm:Mem C w S Hx) {t:TypeId} {ti:TI} (ht:c.ty t=some ti) {d d':D} {u:Value} (hd:cr w (af C w S Hx) S d u) (h:p8 st (ka ti.ty) ti.size d=some d'):
    ∃ v,(∀ w2,zN u w w2→(Instr.loadAt t u).run P w2=.ok v w2)∧cr w (af C w S Hx) S d' v:=by
  have lJ:=aq.ty t ti ht
  cases d with
  | ptr r q o=>
    simp only [p8] at h
    cases eE:st.cells r q with
    | none=>simp [eE] at h
    | some cs=>
      simp only [eE] at h
      obtain ⟨R,l,hr,hl,rfl⟩:=uH st S fU eE
      have hp:=hd R hr
      cases eo:ka ti.ty with
      | true=>
        simp only [eo,if_true] at h
        split at h
        case isFalse=>simp at h
        rename_i hle
        obtain ⟨hz,hle⟩:=hle
        simp only [Option.some.injEq] at h
        subst h
        rw [fg] at hle
        · have cZ:l≠[]:=by intro e; subst e; simp at hle; omega
          obtain ⟨b,off,fe,h1,h2,h3,_⟩:=qc hm hr hl cZ hp.1
          have hu:=hp.2 b off h1
          subst hu
          refine ⟨.agg ((aC l).drop o |>.take ti.size).toArray,?_,?_⟩
          · intro w2 oQ
            simp only [Instr.loadAt,Instr.sureAddr,loadVar,Sem.run_bind,Sem.run_pure,Result.andThen_ok,lJ.agg,eo,if_true,lJ.sz]
            have hlen:((aC l).drop o |>.take ti.size).length=ti.size:=by simp [bP]; omega
            have:=run_loadCells_list (P:=P) w2 ⟨b,off+o,none⟩ ((aC l).drop o |>.take ti.size) (fun j v hj=>by
              rw [eT,Nat.add_assoc]
              refine oQ _ rfl _ _ rfl (uI h2 ?_)
              rw [List.getElem?_take] at hj
              split at hj
              · rw [List.getElem?_drop] at hj; exact hj
              · simp at hj)
            rw [hlen] at this
            simp [this]
          · refine ⟨_,rfl,dk ?_ ?_⟩
            · simp [pF,fg,bP]
            · intro i d1 v1 hi hv
              rw [nx,zK,zL,ic] at hi
              simp only [List.getElem?_take] at hv hi
              split at hv
              · rename_i cT
                rw [if_pos cT,List.getElem?_drop] at hi
                rw [List.getElem?_drop,fc] at hv
                cases hx:l[o+i]? with
                | none=>simp [hx] at hi
                | some t'=>
                  simp only [hx,Option.map_some,Option.some.injEq] at hi hv
                  subst hi; subst hv
                  exact pE hm hr hl hx
              · simp at hv
      | false=>
        simp only [eo,Bool.false_eq_true,if_false] at h
        rw [ic] at h
        cases hx:l[o]? with
        | none=>simp [hx] at h
        | some t'=>
          simp only [hx,Option.map_some,Option.some.injEq] at h
          subst h
          have cZ:l≠[]:=by intro e; subst e; simp at hx
          obtain ⟨b,off,fe,h1,h2,h3,_⟩:=qc hm hr hl cZ hp.1
          have hu:=hp.2 b off h1
          subst hu
          refine ⟨t'.val,?_,mg (pE hm hr hl hx)⟩
          intro w2 oQ
          simp only [Instr.loadAt,Instr.sureAddr,loadVar,Sem.run_bind,Sem.run_pure,Result.andThen_ok,lJ.agg,eo,Bool.false_eq_true,if_false]
          have cM:w2.cell? ⟨b,off+o,none⟩=some t'.val:=oQ _ rfl _ _ rfl (uI h2 (by rw [fc,hx]; rfl))
          simp [cM]
  | da cs o=>
    obtain ⟨b,off,cc,e,fz,us,rfl,hXb,eP,Mm,oR⟩:=hd
    simp only [p8] at h
    have dV:=(gO cs us).1 Mm
    cases eo:ka ti.ty with
    | true=>
      simp only [eo,if_true] at h
      split at h
      case isFalse=>simp at h
      rename_i hle
      obtain ⟨hz,hle⟩:=hle
      simp only [Option.some.injEq] at h
      subst h
      refine ⟨.agg ((us.drop o).take ti.size).toArray,?_,?_⟩
      · intro w2 oQ
        simp only [Instr.loadAt,Instr.sureAddr,loadVar,Sem.run_bind,Sem.run_pure,Result.andThen_ok,lJ.agg,eo,if_true,lJ.sz]
        have hlen:((us.drop o).take ti.size).length=ti.size:=by have:=dV.len; simp; omega
        have:=run_loadCells_list (P:=P) w2 ⟨b,off+o,none⟩ ((us.drop o).take ti.size) (fun j v hj=>by
          rw [eT]
          refine oQ _ rfl _ _ rfl ?_
          rw [List.getElem?_take] at hj
          split at hj
          · rw [List.getElem?_drop] at hj
            simp [World.cell?,eP,Nat.add_assoc,oR _ _ hj]
          · simp at hj)
        rw [hlen] at this
        simp [this]
      · exact ⟨_,rfl,by simpa using ((dV.drop o).take ti.size).mono (fun _ _ h=>fZ h)⟩
    | false=>
      simp only [eo,Bool.false_eq_true,if_false] at h
      obtain ⟨u,hu,he⟩:=dV.get h
      refine ⟨u,?_,ER he⟩
      intro w2 oQ
      simp only [Instr.loadAt,Instr.sureAddr,loadVar,Sem.run_bind,Sem.run_pure,Result.andThen_ok,lJ.agg,eo,Bool.false_eq_true,if_false]
      have cM:w.cell? ⟨b,off+o,none⟩=some u:=by simp [World.cell?,eP,oR _ _ hu]
      have cM:=oQ _ rfl _ _ rfl cM
      simp [cM]
  | _=>simp [p8] at h
end Go.Proofs.YtockoilcnmljiaaGreat
namespace Go.Proofs.YtockoilcnmljiaaGreat
section
variable {w:World} {X:Bool→Nat→Prop} {S:List (Nat × RT)}
theorem gp {k:IntKind} {n:Int} {u:Value} (h:cr w X S (.int k n) u):u=.int k n:=h
theorem wL {b:Bool} {u:Value} (h:cr w X S (.bool b) u):u=.bool b:=h
theorem wM {s:ByteArray} {u:Value} (h:cr w X S (.str s) u):u=.string s:=h
theorem SQ {s:Nat} {u:Value} (h:cr w X S (.nil s) u):u=.slice none 0 0:=h
theorem SS (k:IntKind) (n:Int):cr w X S (.int k n) (.int k n):=rfl
theorem tvs (s:ByteArray):cr w X S (.str s) (.string s):=rfl
end
theorem vM {c:cx} {w:World} {X:Bool→Nat→Prop} {S:List (Nat × RT)} {st:St} {a:Act} (h:ma w X S st.tm a.tmps) (t:TypeId) (x:Operand):cr w X S (cn c st t x) (a.eval x):=by
  cases x with
  | tmp i=>exact h i
  | const v=>
    simp only [cn,Act.eval]
    cases v<;>try exact mb _
    all_goals first | rfl | skip
    rename_i b n cap
    simp only [BK]
    split<;>first | exact mb _ | (rename_i e; first | cases e | skip)
    all_goals first | rfl | exact mb _ | skip
  | func f=>exact ⟨#[],rfl,.nil⟩
  | global g=>exact mb _
section
variable {P:Program} {w:World} {X:Bool→Nat→Prop} {S:List (Nat × RT)}
theorem EU (op:BinOp) (t:TypeId) (x y:Operand) (k k':IntKind) (a b:Int):(eqGuard op t x y (.int k a) (.int k' b)).run P w=.ok () w:=by
  unfold eqGuard; split<;>rfl
theorem EV (op:BinOp) (t:TypeId) (x y:Operand) (a b:ByteArray):(eqGuard op t x y (.string a) (.string b)).run P w=.ok () w:=by
  unfold eqGuard; split<;>rfl
theorem Dm (op:BinOp) (t:TypeId) (x y:Operand) (a b:Bool):(eqGuard op t x y (.bool a) (.bool b)).run P w=.ok () w:=by
  unfold eqGuard; split<;>rfl
theorem run_equal_bool {t:TypeId} (h:P.underlying t=some .bool) (a b:Bool):(Op.equal t (.bool a) (.bool b)).run P w=.ok (a==b) w:=by
  have:Op.equal t (.bool a) (.bool b)=Op.equalIn (9999+1) t (.bool a) (.bool b):=rfl
  rw [this,Op.equalIn,Sem.run_bind,run_underlying h]
  rfl
theorem SU {c:cx} (aq:ek c P) {op:BinOp} {t:TypeId} {x y:Operand} {dx dy d:D} {u v:Value} (hx:cr w X S dx u) (hy:cr w X S dy v) (h:rk c t op dx dy=some d):
    ∃ r,(∀ w:World,(do eqGuard op t x y u v; binOp op t u v:Sem Value).run P w=.ok r w)∧cr w X S d r:=by
  cases dx with
  | int k a=>
    cases dy with
    | int k' b=>
      have h1:=gp hx; have h2:=gp hy
      subst h1; subst h2
      simp only [Sem.run_bind,EU,Result.andThen_ok]
      cases op<;>simp only [rk] at h
      case shl=>
        simp only [uw] at h
        split at h
        · simp at h
        · rename_i hb
          simp only [Option.some.injEq] at h
          exact ⟨_,by intro w; simp [binOp,Op.shift,hb]; rfl,by subst h; rfl⟩
      case shr=>
        simp only [uw] at h
        split at h
        · simp at h
        · rename_i hb
          simp only [Option.some.injEq] at h
          exact ⟨_,by intro w; simp [binOp,Op.shift,hb]; rfl,by subst h; rfl⟩
      case quo | rem=>
        split at h
        case isFalse=>simp at h
        rename_i hk
        subst hk
        simp only [zH] at h
        split at h
        · simp at h
        · rename_i hb
          simp only [Option.some.injEq] at h
          exact ⟨_,by intro w; simp [binOp,Op.intDiv,hb]; rfl,by subst h; rfl⟩
      all_goals
        split at h
        case isFalse=>simp at h
        rename_i hk
        subst hk
        simp only [zH] at h
      all_goals
        first
        | (simp at h; done)
        | (simp only [Option.some.injEq] at h
           exact ⟨_,by intro w; simp [binOp,Op.intArith,Op.intBits,Op.intCmp]; rfl,by subst h; rfl⟩)
    | _=>simp [rk] at h
  | str a=>
    cases dy with
    | str b=>
      have h1:=wM hx; have h2:=wM hy
      subst h1; subst h2
      simp only [Sem.run_bind,EV,Result.andThen_ok]
      simp only [rk] at h
      cases op<;>simp only [L9] at h
      case add=>
        split at h
        case isFalse=>simp at h
        rename_i hs
        simp only [Option.some.injEq] at h
        have uJ:¬ (((a.size+b.size:Nat):Int)>IntKind.i64.max):=by
          have:IntKind.i64.max=9223372036854775807:=by decide
          rw [this]; omega
        exact ⟨.string (a++b),by intro w; simp only [binOp,Op.stringOp]; rw [if_neg uJ]; rfl,by subst h; rfl⟩
      all_goals
        first
        | (simp at h; done)
        | (simp only [Option.some.injEq] at h
           exact ⟨_,by intro w; simp [binOp,Op.stringOp]; rfl,by subst h; rfl⟩)
    | _=>simp [rk] at h
  | bool a=>
    cases dy with
    | bool b=>
      have h1:=wL hx; have h2:=wL hy
      subst h1; subst h2
      simp only [Sem.run_bind,Dm,Result.andThen_ok]
      simp only [rk] at h
      split at h
      case h_2=>simp at h
      rename_i lJ
      obtain ⟨dd,h3,h4⟩:=(aq.ty t _ lJ).desc
      simp only [kp] at h4
      subst h4
      cases op<;>simp only [Hh] at h
      all_goals
        first
        | (simp at h; done)
        | (simp only [Option.some.injEq] at h
           exact ⟨_,by intro w; simp only [binOp,Sem.run_bind,run_equal_bool h3,Result.andThen_ok,Sem.run_pure]; rfl,by subst h; rfl⟩)
    | _=>simp [rk] at h
  | _=>simp [rk] at h
theorem XR {op:UnOp} {dx d:D} {u:Value} (hx:cr w X S dx u) (h:XO op dx=some d):∃ r,(∀ w:World,(Op.unary op u).run P w=.ok r w)∧cr w X S d r:=by
  cases op<;>cases dx<;>simp only [XO] at h<;>first | (simp at h; done) | skip
  · have:=gp hx
    subst this
    simp only [Option.some.injEq] at h
    exact ⟨_,by intro w; simp [Op.unary,Op.intArith]; rfl,by subst h; simp [cr,gD,bj,Ext]⟩
  · have:=wL hx
    subst this
    simp only [Option.some.injEq] at h
    exact ⟨_,by intro w; simp [Op.unary]; rfl,by subst h; rfl⟩
theorem EW {ds:List D} {d:D} {u:Value} {i:Nat} (hx:cr w X S (.aL ds) u) (h:ds[i]?=some d):∃ r,(∀ w:World,(Instr.extract u i).run P w=.ok r w)∧cr w X S d r:=by
  obtain ⟨us,rfl,ha⟩:=hx
  obtain ⟨r,hr,ht⟩:=ha.get h
  have ey:us[i]?=some r:=by simpa using hr
  exact ⟨r,by intro w; simp [Instr.extract,ey],ko ht⟩
end
theorem ub {C:Ctx} {Hx:List T} {w:World} {S:List (Nat × RT)} {st:St} (fU:gT st.rt S) (hm:Mem C w S Hx) {r:Nat} {q:List Nat} (h:live st r q=true) {i:Nat} {u:Value} (hu:cr w (af C w S Hx) S (.ptr r q i) u):
    ∃ R b off,lk S r=some R∧bV R.box R.cs q=some (b,off)∧u=.pointer (some ⟨b,off+i,none⟩):=by
  unfold live at h
  split at h
  case h_2=>simp at h
  rename_i x xs eE
  obtain ⟨R,l,hr,hl,he⟩:=uH st S fU eE
  have hp:=hu R hr
  obtain ⟨b,off,fe,h1,_⟩:=qc hm hr hl (by rintro rfl; simp [bh] at he) hp.1
  exact ⟨R,b,off,hr,h1,hp.2 b off h1⟩
theorem SV {w:World} {X:Bool→Nat→Prop} {S:List (Nat × RT)} {r:Nat} {q:List Nat} {i j:Nat} {u:Value} {R:RT} {b off:Nat} (hu:cr w X S (.ptr r q i) u) (hr:lk S r=some R) (ha:bV R.box R.cs q=some (b,off)):cr w X S (.ptr r q j) (.pointer (some ⟨b,off+j,none⟩)):=by
  intro R' eh
  refine ⟨(hu R' eh).1,fun b' Dn eF=>?_⟩
  rw [hr,Option.some.injEq] at eh
  subst eh
  rw [ha,Option.some.injEq,Prod.mk.injEq] at eF
  obtain ⟨rfl,rfl⟩:=eF
  rfl
section
variable {P:Program} {c:cx} (aq:ek c P) {w:World} {C:Ctx} {Hx:List T} {S:List (Nat × RT)} {st:St} (fU:gT st.rt S) (hm:Mem C w S Hx)
include aq fU hm
theorem zO {s:TypeId} {lG szs:List Nat} {sz pG:Nat} {z:List D} {f k:Nat} {d d':D} {u:Value} (ht:c.ty s=some ⟨.struct lG szs,sz,pG,z⟩) (hk:lG[f]?=some k) (hd:cr w (af C w S Hx) S d u)
    (h:wH st k d=some d'):∃ r,(∀ w:World,(Instr.fieldAt s u f).run P w=.ok r w)∧cr w (af C w S Hx) S d' r:=by
  have lJ:=aq.ty s _ ht
  obtain ⟨dd,h1,h2⟩:=lJ.desc
  obtain ⟨fs,rfl,h3,_,h4⟩:=h2
  have hf:∃ fl,fs[f]?=some fl∧fl.offset=k:=by
    rw [h3] at hk
    simp only [List.getElem?_map] at hk
    cases hx:fs.toList[f]? with
    | none=>simp [hx] at hk
    | some fl=>simp only [hx,Option.map_some,Option.some.injEq] at hk; exact ⟨fl,by simpa using hx,hk⟩
  obtain ⟨fl,hfl,rfl⟩:=hf
  obtain ⟨inf,hi,hz,_⟩:=h4 f fl (by simpa using hfl)
  have key:∀ (A:Addr) (w:World),(Instr.fieldAt s (.pointer (some A)) f).run P w=.ok (.pointer (some (A.add fl.offset))) w:=fun A w=>by
    simp [Instr.fieldAt,run_underlying h1,hfl,Instr.sureAddr,fieldPlace,SP hi,hz]
  cases d with
  | ptr r q i=>
    simp only [wH] at h
    split at h
    case isFalse=>simp at h
    rename_i hl
    simp only [Option.some.injEq] at h
    subst h
    obtain ⟨R,b,off,hR,ha,rfl⟩:=ub fU hm hl hd
    refine ⟨_,key _,?_⟩
    rw [eT,Nat.add_assoc]
    exact SV hd hR ha
  | da cs i=>
    simp only [wH,Option.some.injEq] at h
    subst h
    obtain ⟨b,off,cc,e,fz,us,rfl,h5⟩:=hd
    exact ⟨_,key _,b,off,cc,e,fz,us,by rw [eT,Nat.add_assoc],h5⟩
  | _=>simp [wH] at h
omit aq in
theorem rU {d d':D} {u:Value} (hd:cr w (af C w S Hx) S d u) (h:(match d with | .ptr r q i=>if live st r q then some (.ptr r q i) else none | .da cs i=>some (.da cs i) | _=>none:Option D)=some d'):
    ∃ A,u=.pointer (some A)∧d'=d:=by
  cases d with
  | ptr r q i=>
    simp only at h
    split at h
    case isFalse=>simp at h
    rename_i hl
    obtain ⟨R,b,off,hR,ha,rfl⟩:=ub fU hm hl hd
    exact ⟨_,rfl,(Option.some.inj h).symm⟩
  | da cs i=>
    obtain ⟨b,off,cc,e,fz,us,rfl,h5⟩:=hd
    exact ⟨_,rfl,(Option.some.inj h).symm⟩
  | _=>simp at h
end
end Go.Proofs.YtockoilcnmljiaaGreat
namespace Go.Proofs.YtockoilcnmljiaaGreat
section
variable {P:Program} {C:Ctx} {w:World} {S:List (Nat × RT)} {st:St} {H:List T}
theorem su (hm:Mem C w S H) {r:Nat} {R:RT} {q:List Nat} {l:List T} {o:Nat} {t:T} (hr:lk S r=some R) (hc:aw R.cs q=some l) (ho:l[o]?=some t) {g:Option Bool} {s n:Nat} {cs:List D} (he:t.er=.sl g s n cs):
    bE w (af C w S H) t:=by
  obtain ⟨_,h2⟩:=hm.root r R hr
  cases q with
  | nil=>
    simp only [aw,Option.some.injEq] at hc
    subst hc
    have:=h2 _ (List.mem_of_getElem? ho)
    cases t with
    | own s n cap a xs=>exact this
    | v d u=>
      rcases this with h3 | ⟨_,h3⟩
      · exact h3
      · simp only [T.er] at he
        simp only [bE]
        rw [he] at h3 ⊢
        exact h3
  | cons p q=>
    rw [aw] at hc
    cases hp:R.cs[p]? with
    | none=>simp [hp] at hc
    | some x=>
      cases x with
      | v d u=>simp [hp] at hc
      | own s n cap a xs=>
        simp only [hp] at hc
        have hs:bE w (af C w S H) (.own s n cap a xs):=h2 _ (List.mem_of_getElem? hp)
        simp only [bE] at hs
        exact fI (vL hs.2.2.2 hc) ho
def aaN (w:World) (X:Bool→Nat→Prop) (d:D) (u:Value):Prop:=Ext w X d u∨∃ t:T,d=t.er∧u=t.val∧bE w X t
structure Q6 (w:World) (X:Bool→Nat→Prop) (s n:Nat) (cs:List D) (u:Value):Prop where
  ok:∃ base cap,u=.slice base n cap∧n≤cap∧cs.length=n*s∧(cs=[]∨∃ b off c e fz us,base=some ⟨b,off,none⟩∧w.heap[b]?=some (.cells c e fz)∧cb (aaN w X) cs us∧∀ j v,us[j]?=some v→c[off+j]?=some v)
theorem zP {X:Bool→Nat→Prop} {t:T} (h:bE w X t) {g:Option Bool} {s n:Nat} {cs:List D} (he:t.er=.sl g s n cs):Q6 w X s n cs t.val:=by
  cases t with
  | v d u=>
    simp only [bE] at h
    simp only [T.er] at he
    rw [he] at h
    cases g with
    | none=>simp [Ext] at h
    | some g=>
      simp only [Ext] at h
      obtain ⟨base,cap,us,rfl,h1,h2,h3,h4⟩:=h
      refine ⟨base,cap,rfl,h1,h2,?_⟩
      rcases h4 with h4 | ⟨k,off,c,e,fz,h5,h6,h7,h8⟩
      · exact .inl h4
      · exact .inr ⟨k,off,c,e,fz,us,h5,h7,((gO cs us).1 h3).mono (fun _ _ h=>.inl h),h8⟩
  | own s' n' cap a ts=>
    simp only [bE] at h
    simp only [T.er,D.sl.injEq] at he
    obtain ⟨_,rfl,rfl,rfl⟩:=he
    obtain ⟨h1,h2,h3,h4⟩:=h
    refine ⟨a.map fun p=>⟨p.1,p.2,none⟩,cap,rfl,h1,by rw [fg]; exact h2,?_⟩
    cases a with
    | none=>
      left
      have:ts.length=0:=by rw [h2,h3.1]; simp
      simp [List.length_eq_zero_iff.1 this,bh]
    | some p=>
      obtain ⟨b,off⟩:=p
      obtain ⟨c,e,fz,h5,_,_,h6⟩:=h3
      refine .inr ⟨b,off,c,e,fz,aC ts,rfl,h5,?_,h6⟩
      refine dk (by simp [fg,bP]) (fun i d u hd hu=>?_)
      rw [ic] at hd
      rw [fc] at hu
      cases hx:ts[i]? with
      | none=>simp [hx] at hd
      | some t=>
        simp only [hx,Option.map_some,Option.some.injEq] at hd hu
        exact .inr ⟨t,hd.symm,hu.symm,fI h4 hx⟩
theorem Zb {X:Bool→Nat→Prop} {x:Option (Nat × Nat)} {t:T} {u:Value} {g:Option Bool} {s n:Nat} {cs:List D} (he:t.er=.sl g s n cs) (hr:eK x t u) (h:Q6 w X s n cs t.val):Q6 w X s (trim x s n cs).1 (trim x s n cs).2 u:=by
  unfold eK at hr
  rw [he] at hr
  simp only [sn] at hr
  cases x with
  | none=>simp only at hr; subst hr; exact h
  | some p=>
    obtain ⟨l,m⟩:=p
    simp only at hr
    obtain ⟨h1,base,C,k,h2,h3,rfl,h4⟩:=hr
    obtain ⟨Q7,cap,h5,h6,h7,h8⟩:=h.ok
    rw [h2] at h5
    simp only [Value.slice.injEq] at h5
    obtain ⟨rfl,_,rfl⟩:=h5
    have hlen:((cs.drop (l*s)).take (m*s)).length=m*s:=by
      rw [List.length_take,List.length_drop,h7]
      have:l*s+m*s≤n*s:=by rw [← Nat.add_mul]; exact Nat.mul_le_mul_right _ h1
      omega
    refine ⟨_,_,rfl,(by show m≤C - l; omega),hlen,?_⟩
    by_cases hms:m*s=0
    · left
      have h9:((cs.drop (l*s)).take (m*s)).length=0:=by rw [hlen]; exact hms
      exact List.length_eq_zero_iff.1 h9
    · right
      rcases h8 with h8 | ⟨b,off,c,e,fz,us,rfl,mG,Mn,h12⟩
      · exfalso
        subst h8
        simp at hlen
        omega
      · have hk:k=l:=by
          rcases h4 with h4 | h4
          · exfalso
            have:m≠0:=fun e=>hms (by simp [e])
            omega
          · exact h4
        subst hk
        refine ⟨b,off+k*s,c,e,fz,(us.drop (k*s)).take (m*s),by simp [eT],mG,(Mn.drop _).take _,fun j v hj=>?_⟩
        rw [List.getElem?_take] at hj
        split at hj
        · rw [List.getElem?_drop] at hj
          rw [Nat.add_assoc]; exact h12 _ _ hj
        · simp at hj
theorem LS (fU:gT st.rt S) (hm:Mem C w S H) {d:D} {u:Value} (hd:cr w (af C w S H) S d u) {g:Option Bool} {s n:Nat} {cs:List D} (h:st.pC d=some (g,s,n,cs)):Q6 w (af C w S H) s n cs u:=by
  cases d with
  | nil k=>
    simp only [St.pC,Option.some.injEq,Prod.mk.injEq] at h
    obtain ⟨_,rfl,rfl,rfl⟩:=h
    have:=SQ hd
    subst this
    exact ⟨none,0,rfl,Nat.le_refl _,by simp,.inl rfl⟩
  | sl b s' n' cs'=>
    simp only [St.pC,Option.some.injEq,Prod.mk.injEq] at h
    obtain ⟨rfl,rfl,rfl,rfl⟩:=h
    cases b with
    | none=>exact absurd hd (by simp [cr,gD,bj,Ext])
    | some b=>exact zP (t:=.v (.sl (some b) s' n' cs') u) hd rfl
  | ref r q o x=>
    simp only [St.pC] at h
    split at h
    case h_2=>simp at h
    rename_i b s' n' cs' hc
    simp only [Option.some.injEq,Prod.mk.injEq] at h
    obtain ⟨rfl,rfl,rfl,rfl⟩:=h
    obtain ⟨R,l,t,h1,h2,h3,h4,h5⟩:=iI fU hc
    exact Zb h5.symm (hd t h4) (zP (su hm h1 h2 h3 h5.symm) h5.symm)
  | _=>simp [St.pC] at h
variable {c:cx} (aq:ek c P)
include aq
theorem SW (fU:gT st.rt S) (hm:Mem C w S H) {t:TypeId} {d d':D} {u:Value} (hd:cr w (af C w S H) S d u) (h:Ma c st t d=some d') (ty:TypeId):∃ r,(∀ w:World,(Builtin.len_ #[t] ty #[u]).run P w=.ok r w)∧cr w (af C w S H) S d' r:=by
  unfold Ma at h
  split at h
  · rename_i lJ
    obtain ⟨dd,h1,h2⟩:=(aq.ty t _ lJ).desc
    simp only [kp] at h2
    subst h2
    have:=wM hd
    subst this
    simp only [Option.some.injEq] at h
    subst h
    exact ⟨_,by intro w; simp [Builtin.len_,run_underlying h1]; rfl,rfl⟩
  · rename_i e lJ
    obtain ⟨dd,h1,h2⟩:=(aq.ty t _ lJ).desc
    simp only [kp] at h2
    subst h2
    split at h
    case h_2=>simp at h
    rename_i hs
    simp only [Option.some.injEq] at h
    subst h
    obtain ⟨base,cap,rfl,_⟩:=(LS fU hm hd hs).ok
    exact ⟨_,by intro w; simp [Builtin.len_,run_underlying h1]; rfl,rfl⟩
  · simp at h
end
end Go.Proofs.YtockoilcnmljiaaGreat
namespace Go.Proofs.YtockoilcnmljiaaGreat
theorem qd {P:Program} {w:World} {t e:TypeId} {A:Addr} {n cap:Nat} {k:IntKind} {i:Int} {sz:Nat} (h:P.underlying t=some (.slice e)) (hs:(Go.sizeOf e).run P w=Result.ok sz w) (h0:0≤i) (h1:i < n):
    (Instr.indexAt t (.slice (some A) n cap) (.int k i)).run P w=.ok (.pointer (some (A.add (i.toNat*sz)))) w:=by
  simp [Instr.indexAt,run_underlying h,asIntOf,h0,h1,hs]
theorem vN {P:Program} {w:World} {t e:TypeId} {A:Addr} {n:Nat} {k:IntKind} {i:Int} {sz:Nat} (h:P.underlying t=some (.array n e)) (hs:(Go.sizeOf e).run P w=Result.ok sz w) (h0:0≤i) (h1:i < n):
    (Instr.indexAt t (.pointer (some A)) (.int k i)).run P w=.ok (.pointer (some (A.add (i.toNat*sz)))) w:=by
  simp [Instr.indexAt,run_underlying h,asIntOf,h0,h1,hs,Instr.sureAddr]
theorem mh {i:Int} {n:Nat} {d:Option D} {d':D} (h:kd i n d=some d'):0≤i∧i < n∧d=some d':=by
  unfold kd at h
  split at h
  · split at h
    · exact ⟨by assumption,by assumption,h⟩
    · simp at h
  · simp at h
section
variable {P:Program} {c:cx} (aq:ek c P) {C:Ctx} {Hx:List T} {w:World} {S:List (Nat × RT)} {st:St} (fU:gT st.rt S) (hm:Mem C w S Hx)
include aq fU hm
theorem zQ {t:TypeId} {d d':D} {u:Value} {k:IntKind} {i:Int} (hd:cr w (af C w S Hx) S d u) (h:p9 st c t d i=some d'):
    ∃ r,(∀ w:World,(Instr.indexAt t u (.int k i)).run P w=.ok r w)∧cr w (af C w S Hx) S d' r:=by
  unfold p9 at h
  split at h
  · rename_i e sz pG z lJ
    obtain ⟨dd,h1,h2⟩:=(aq.ty t _ lJ).desc
    simp only [kp] at h2
    subst h2
    split at h
    case h_2=>simp at h
    rename_i ei uK
    have cX:=fun w=>(aq.ty e ei uK).sz w
    split at h
    · rename_i r q o x
      split at h
      · rename_i s n cs hc
        split at h
        case isFalse=>simp at h
        rename_i hs
        obtain ⟨hs,XS⟩:=hs
        subst hs
        obtain ⟨h3,h4,h5⟩:=mh h
        simp only [Option.some.injEq] at h5
        subst h5
        obtain ⟨R,l,t',h6,h7,h8,h9,mG⟩:=iI fU hc
        obtain ⟨cap,a,ts,rfl,rfl⟩:=EN mG.symm
        have dW:=su hm h6 h7 h8 mG.symm
        have hr:=hd _ h9
        have qe:0 < (trim x ei.size n (bh ts)).1:=by omega
        simp only [bE] at dW
        obtain ⟨g1,g2,g3,g4⟩:=dW
        obtain ⟨EX,ha2⟩:=Mk (bx:=R.box) h7 h8
        have key:∃ b off0 n' c',a=some (b,off0)∧u=.slice (some ⟨b,off0+off x*ei.size,none⟩) n' c'∧n'=(trim x ei.size n (bh ts)).1:=by
          cases x with
          | none=>
            simp only [eK,sn,T.er,T.val,vK] at hr
            cases a with
            | none=>simp only [trim] at qe; omega
            | some p=>exact ⟨p.1,p.2,n,cap,rfl,by simp [hr,off],rfl⟩
          | some p=>
            obtain ⟨l0,m⟩:=p
            simp only [eK,sn,T.er,T.val,vK,Value.slice.injEq] at hr
            obtain ⟨e1,base,C0,k0,⟨e2,_,e3⟩,e4,rfl,e5⟩:=hr
            subst e3
            simp only [trim] at qe
            cases a with
            | none=>simp only at g3; omega
            | some p=>
              simp only [Option.map_some] at e2
              subst e2
              have:k0=l0:=by
                rcases e5 with e5 | e5
                · omega
                · exact e5
              subst this
              exact ⟨p.1,p.2,m,cap - k0,rfl,by rw [Option.map_some,eT]; rfl,rfl⟩
        obtain ⟨b,off0,n',c',rfl,rfl,rfl⟩:=key
        refine ⟨_,fun w=>qd h1 (cX w) h3 h4,?_⟩
        intro R' eh
        rw [h6,Option.some.injEq] at eh
        subst eh
        refine ⟨fun e=>by simp at e,fun b' Dn fO=>?_⟩
        rw [EX,Option.some.injEq,Prod.mk.injEq] at fO
        obtain ⟨rfl,rfl⟩:=fO
        rw [eT,Nat.add_mul,Nat.add_assoc]
      · rename_i g s n cs hc
        split at h
        case isFalse=>simp at h
        rename_i hs
        obtain ⟨hs,XS⟩:=hs
        subst hs
        obtain ⟨h3,h4,h5⟩:=mh h
        simp only [Option.some.injEq] at h5
        subst h5
        obtain ⟨R,l,t',h6,h7,h8,h9,mG⟩:=iI fU hc
        have dW:=su hm h6 h7 h8 mG.symm
        have hr:=hd _ h9
        have qe:0 < (trim x ei.size n cs).1:=by omega
        cases t' with
        | own s' n' cap a ts=>simp [T.er] at mG
        | v dd uu=>
          simp only [bE] at dW
          simp only [T.er] at mG
          rw [← mG] at dW
          simp only [Ext] at dW
          obtain ⟨base,cap,us,e1,e2,e3,e4,e5⟩:=dW
          have cZ:cs≠[]:=by
            intro eE
            subst eE
            simp only [List.length_nil] at e3
            rcases Nat.mul_eq_zero.1 e3.symm with hn | hn
            · subst hn
              cases x with
              | none=>simp [trim] at qe
              | some p=>
                simp only [eK,sn,T.er,← mG] at hr
                obtain ⟨e6,_⟩:=hr
                simp only [trim] at qe; omega
            · omega
          rcases e5 with e5 | ⟨kb,off0,cc,e,fz,e6,e7,e8,e9⟩
          · exact absurd e5 cZ
          · subst e6
            have key:∃ n' c',u=.slice (some ⟨kb,off0+off x*ei.size,none⟩) n' c'∧n'=(trim x ei.size n cs).1:=by
              cases x with
              | none=>
                simp only [eK,sn,T.er,← mG,T.val] at hr
                exact ⟨n,cap,by simp [hr,e1,off],rfl⟩
              | some p=>
                obtain ⟨l0,m⟩:=p
                simp only [eK,sn,T.er,← mG,T.val,e1,Value.slice.injEq] at hr
                obtain ⟨f1,Q7,C0,k0,⟨f2,_,f3⟩,f4,rfl,f5⟩:=hr
                subst f3; subst f2
                simp only [trim] at qe
                have:k0=l0:=by
                  rcases f5 with f5 | f5
                  · omega
                  · exact f5
                subst this
                exact ⟨m,cap - k0,by rw [Option.map_some,eT]; rfl,rfl⟩
            obtain ⟨n',c',rfl,rfl⟩:=key
            refine ⟨_,fun w=>qd h1 (cX w) h3 h4,kb,off0,cc,e,fz,us,?_,?_,e8,e4,e9⟩
            · rw [eT,Nat.add_mul,Nat.add_assoc]
            · exact ⟨e7.1,e7.2.1,e7.2.2.1,fun h=>by simp at h⟩
      · simp at h
    · rename_i g s n cs
      split at h
      case isFalse=>simp at h
      rename_i hs
      obtain ⟨hs,XS⟩:=hs
      subst hs
      obtain ⟨h3,h4,h5⟩:=mh h
      simp only [Option.some.injEq] at h5
      subst h5
      have sv:Ext w (af C w S Hx) (.sl (some g) ei.size n cs) u:=hd
      simp only [Ext] at sv
      obtain ⟨base,cap,us,rfl,e2,e3,e4,e5⟩:=sv
      rcases e5 with e5 | ⟨kb,off0,cc,e,fz,rfl,e7,e8,e9⟩
      · exfalso
        subst e5
        simp only [List.length_nil] at e3
        rcases Nat.mul_eq_zero.1 e3.symm with hn | hn<;>omega
      · refine ⟨_,fun w=>qd h1 (cX w) h3 h4,kb,off0,cc,e,fz,us,by rw [eT],?_,e8,e4,e9⟩
        exact ⟨e7.1,e7.2.1,e7.2.2.1,fun h=>by simp at h⟩
    · simp at h
  · rename_i n e sz pG z lJ
    obtain ⟨dd,h1,h2⟩:=(aq.ty t _ lJ).desc
    simp only [kp] at h2
    subst h2
    split at h
    case h_2=>simp at h
    rename_i ei uK
    have cX:=fun w=>(aq.ty e ei uK).sz w
    split at h
    · rename_i r q o
      split at h
      case isFalse=>simp at h
      rename_i hl
      obtain ⟨h3,h4,h5⟩:=mh h
      simp only [Option.some.injEq] at h5
      subst h5
      obtain ⟨R,b,off0,hR,ha,rfl⟩:=ub fU hm hl hd
      refine ⟨_,fun w=>vN h1 (cX w) h3 h4,?_⟩
      rw [eT,Nat.add_assoc]
      exact SV hd hR ha
    · rename_i cs o
      obtain ⟨h3,h4,h5⟩:=mh h
      simp only [Option.some.injEq] at h5
      subst h5
      obtain ⟨b,off0,cc,e',fz,us,rfl,h6⟩:=hd
      exact ⟨_,fun w=>vN h1 (cX w) h3 h4,b,off0,cc,e',fz,us,by rw [eT,Nat.add_assoc],h6⟩
    · simp at h
  · simp at h
end
end Go.Proofs.YtockoilcnmljiaaGreat
namespace Go.Proofs.YtockoilcnmljiaaGreat
theorem add_add (A:Addr) (i j:Nat):(A.add i).add j=A.add (i+j):=by
  unfold Addr.add
  split<;>split<;>split<;>first | rfl | omega | simp_all [Nat.add_assoc]
theorem Mo (b:Option Addr):b.map (·.add 0)=b:=by
  cases b<;>simp [Addr.add]
def SX (d:Option D) (u:Option Value):Prop:=(d=none∧u=none)∨∃ k i,d=some (.int k i)∧u=some (.int k i)
theorem EY {w:World} {X:Bool→Nat→Prop} {S:List (Nat × RT)} {d:Option D} {u:Option Value} (h:(d=none∧u=none)∨∃ x y,d=some x∧u=some y∧cr w X S x y) {z i:Int} (hb:bound d z=some i):SX d u:=by
  rcases h with h | ⟨x,y,rfl,rfl,h⟩
  · exact .inl h
  · cases x<;>simp [bound] at hb
    have:=gp h
    subst this
    exact .inr ⟨_,_,rfl,rfl⟩
theorem EZ {P:Program} {w:World} {is:Bool} {len cap:Nat} {dl dh:Option D} {ul uh:Option Value} {l h:Int} (h1:SX dl ul) (h2:SX dh uh) (hl:bound dl 0=some l) (hh:bound dh len=some h) (h0:0≤l) (XT:l≤h) (hhn:h≤len) (x7:len≤cap):
    (Instr.sliceBounds is len cap ul uh none).run P w=.ok (l.toNat,h.toNat,cap) w:=by
  have e1:0≤h:=Int.le_trans h0 XT
  have e2:h≤(cap:Int):=by omega
  have e3:l≤(h.toNat:Int):=by omega
  rcases h1 with ⟨rfl,rfl⟩ | ⟨k,i,rfl,rfl⟩<;>rcases h2 with ⟨rfl,rfl⟩ | ⟨k',i',rfl,rfl⟩<;>simp only [bound,Option.some.injEq] at hl hh<;>subst hl<;>subst hh
  · simp [Instr.sliceBounds]
  · simp [Instr.sliceBounds,Instr.sliceBound,asIntOf,e1,e2]
  · simp [Instr.sliceBounds,Instr.sliceBound,asIntOf,h0,XT]
  · have e4:i≤((i'.toNat:Nat):Int):=e3
    simp only [Instr.sliceBounds,Instr.sliceBound,asIntOf,Sem.run_bind,Sem.run_pure,Result.andThen_ok,Sem.run_ite]
    rw [if_pos ⟨e1,e2⟩]
    simp only [Result.andThen_ok,Sem.run_pure,Sem.run_bind,Sem.run_ite]
    rw [if_pos ⟨h0,e4⟩]
    rfl
def Jo (w:World) (X:Bool→Nat→Prop) (S:List (Nat × RT)) (d:Option D) (u:Option Value):Prop:=(d=none∧u=none)∨∃ x y,d=some x∧u=some y∧cr w X S x y
section
variable {P:Program} {w:World}
theorem Kg {X:Bool→Nat→Prop} {S:List (Nat × RT)} {t:TypeId} (ht:P.underlying t=some .string) {s:ByteArray} {d':D} {dl dh:Option D} {ul uh:Option Value} (hl:Jo w X S dl ul) (hh:Jo w X S dh uh) (h:EL s dl dh=some d'):
    ∃ r,(∀ w:World,(Instr.sliceAt t (.string s) ul uh none).run P w=.ok r w)∧cr w X S d' r:=by
  unfold EL at h
  split at h
  case h_2=>simp at h
  rename_i l0 h0 e1 e2
  split at h
  case isFalse=>simp at h
  rename_i hc
  obtain ⟨i1,i2,i3⟩:=hc
  simp only [Option.some.injEq] at h
  subst h
  refine ⟨.string (s.extract l0.toNat h0.toNat),?_,rfl⟩
  intro w
  simp only [Instr.sliceAt,Sem.run_bind,run_underlying ht,Result.andThen_ok,Instr.slice]
  simp [EZ (EY hl e1) (EY hh e2) e1 e2 i1 i2 i3 (Nat.le_refl _)]
theorem Kh {t e:TypeId} (ht:P.underlying t=some (.slice e)) {sz:Nat} (hs:(Go.sizeOf e).run P w=Result.ok sz w) {base:Option Addr} {n cap:Nat} {dl dh:Option D} {ul uh:Option Value} {l h:Int} (h1:SX dl ul) (h2:SX dh uh) (hl:bound dl 0=some l) (hh:bound dh n=some h) (h0:0≤l) (XT:l≤h) (hhn:h≤n) (x7:n≤cap):
    (Instr.sliceAt t (.slice base n cap) ul uh none).run P w=.ok (.slice (if cap=l.toNat then base else base.map (·.add (l.toNat*sz))) (h.toNat - l.toNat) (cap - l.toNat)) w:=by
  simp only [Instr.sliceAt,Sem.run_bind,run_underlying ht,Result.andThen_ok,Instr.slice,EZ h1 h2 hl hh h0 XT hhn x7,hs]
  rfl
end
section
variable {P:Program} {c:cx} (aq:ek c P) {C:Ctx} {Hx:List T} {w:World} {S:List (Nat × RT)} {st:St} (fU:gT st.rt S) (hm:Mem C w S Hx)
include fU hm
theorem SY {t e:TypeId} (ht:P.underlying t=some (.slice e)) {sz:Nat} (hs:∀ w,(Go.sizeOf e).run P w=Result.ok sz w) {d d':D} {u:Value} {dl dh:Option D} {ul uh:Option Value} (hd:cr w (af C w S Hx) S d u) (hl:Jo w (af C w S Hx) S dl ul) (hh:Jo w (af C w S Hx) S dh uh)
    (h:EM st sz d dl dh=some d'):∃ r,(∀ w:World,(Instr.sliceAt t u ul uh none).run P w=.ok r w)∧cr w (af C w S Hx) S d' r:=by
  unfold EM at h
  split at h
  case h_2=>simp at h
  rename_i g s n cs gq
  split at h
  case h_2=>simp at h
  rename_i l0 h0 e1 e2
  split at h
  case isFalse=>simp at h
  rename_i hc
  obtain ⟨rfl,i1,i2,i3⟩:=hc
  have hSl:=LS fU hm hd gq
  obtain ⟨base,cap,rfl,x7,hlen,aaQ⟩:=hSl.ok
  refine ⟨_,fun w=>Kh ht (hs w) (EY hl e1) (EY hh e2) e1 e2 i1 i2 i3 x7,?_⟩
  have hle:l0.toNat≤h0.toNat∧h0.toNat≤n:=by omega
  cases d with
  | nil k=>
    simp only [Option.some.injEq] at h
    subst h
    have:=SQ hd
    simp only [Value.slice.injEq] at this
    obtain ⟨rfl,rfl,rfl⟩:=this
    have:l0.toNat=0∧h0.toNat=0:=by omega
    rw [this.1,this.2]
    rfl
  | sl g' s' n' cs'=>
    simp only [St.pC,Option.some.injEq,Prod.mk.injEq] at gq
    obtain ⟨rfl,rfl,rfl,rfl⟩:=gq
    simp only [Option.some.injEq] at h
    subst h
    cases g' with
    | none=>exact absurd hd (by simp [cr,gD,bj,Ext])
    | some g'=>
      have sv:Ext w (af C w S Hx) (.sl (some g') s' n' cs') (.slice base n' cap):=hd
      simp only [Ext,Value.slice.injEq] at sv
      obtain ⟨Q7,tq,us,⟨rfl,_,rfl⟩,e3,e4,e5,e6⟩:=sv
      show Ext w (af C w S Hx) (.sl (some g') s' (h0.toNat - l0.toNat) ((cs'.drop (l0.toNat*s')).take ((h0.toNat - l0.toNat)*s'))) _
      simp only [Ext]
      have E0:((cs'.drop (l0.toNat*s')).take ((h0.toNat - l0.toNat)*s')).length=(h0.toNat - l0.toNat)*s':=by
        rw [List.length_take,List.length_drop,e4]
        have:l0.toNat*s'+(h0.toNat - l0.toNat)*s'≤n'*s':=by rw [← Nat.add_mul]; exact Nat.mul_le_mul_right _ (by omega)
        omega
      have dV:=(gO cs' us).1 e5
      refine ⟨_,_,(us.drop (l0.toNat*s')).take ((h0.toNat - l0.toNat)*s'),rfl,by omega,E0,(gO _ _).2 ((dV.drop _).take _),?_⟩
      by_cases hz:(cs'.drop (l0.toNat*s')).take ((h0.toNat - l0.toNat)*s')=[]
      · exact .inl hz
      · right
        have qe:0 < (h0.toNat - l0.toNat)*s':=by
          rcases Nat.eq_zero_or_pos ((h0.toNat - l0.toNat)*s') with e7 | e7
          · exact absurd (List.length_eq_zero_iff.1 (by rw [E0,e7])) hz
          · exact e7
        rcases e6 with e6 | ⟨kb,off0,cc,ee,fz,rfl,e7,e8,e9⟩
        · subst e6; simp at hz
        · have cZ:¬ (cap=l0.toNat):=by
            intro e10
            have:h0.toNat - l0.toNat=0:=by omega
            simp [this] at qe
          refine ⟨kb,off0+l0.toNat*s',cc,ee,fz,by rw [if_neg cZ,Option.map_some,eT],e7,e8,fun j v hj=>?_⟩
          rw [List.getElem?_take] at hj
          split at hj
          · rw [List.getElem?_drop] at hj
            rw [Nat.add_assoc]; exact e9 _ _ hj
          · simp at hj
  | ref r q o y=>
    simp only [Option.some.injEq] at h
    subst h
    simp only [St.pC] at gq
    split at gq
    case h_2=>simp at gq
    rename_i g' s' n' cs' cM
    simp only [Option.some.injEq,Prod.mk.injEq] at gq
    obtain ⟨rfl,rfl,rfl,rfl⟩:=gq
    intro t' oP
    have hr:=hd t' oP
    obtain ⟨R,l,t'',h6,h7,h8,h9,mG⟩:=iI fU cM
    rw [h9,Option.some.injEq] at oP
    subst oP
    unfold eK at hr ⊢
    rw [← mG] at hr ⊢
    simp only [sn] at hr ⊢
    have hN:=(zP (su hm h6 h7 h8 mG.symm) mG.symm).ok
    obtain ⟨b0,C0,f1,f2,_⟩:=hN
    cases y with
    | none=>
      simp only at hr
      simp only [trim,off,Nat.zero_add] at*
      rw [f1] at hr
      simp only [Value.slice.injEq] at hr
      obtain ⟨rfl,_,rfl⟩:=hr
      refine ⟨by omega,base,cap,if cap=l0.toNat then 0 else l0.toNat,f1,by split<;>omega,?_,?_⟩
      · split
        · rename_i e; simp [Mo]
        · rfl
      · by_cases e:cap=l0.toNat
        · left; omega
        · right; simp [e]
    | some p=>
      obtain ⟨l1,m1⟩:=p
      simp only at hr
      obtain ⟨g1,b1,C1,k1,g2,g3,g4,g5⟩:=hr
      simp only [Value.slice.injEq] at g4
      obtain ⟨rfl,_,rfl⟩:=g4
      simp only [trim,off] at*
      rw [f1] at g2
      simp only [Value.slice.injEq] at g2
      obtain ⟨rfl,_,rfl⟩:=g2
      refine ⟨by omega,b0,C0,if C0 - l1=l0.toNat then k1 else k1+l0.toNat,f1,?_,?_,?_⟩
      · split
        · exact g3
        · rcases g5 with g5 | g5<;>omega
      · have e11:C0 - (l1+l0.toNat)=C0 - l1 - l0.toNat:=by omega
        rw [e11]
        split
        · rfl
        · congr 1
          cases b0 with
          | none=>rfl
          | some A=>simp [add_add,Nat.add_mul]
      · by_cases e:C0 - l1=l0.toNat
        · left; omega
        · right
          rw [if_neg e]
          rcases g5 with g5 | g5<;>omega
  | _=>simp [St.pC] at gq
include aq
theorem Mp {t:TypeId} {d d':D} {u:Value} {dl dh:Option D} {ul uh:Option Value} (hd:cr w (af C w S Hx) S d u) (hl:Jo w (af C w S Hx) S dl ul) (hh:Jo w (af C w S Hx) S dh uh)
    (h:zI c st t d dl dh=some d'):∃ r,(∀ w:World,(Instr.sliceAt t u ul uh none).run P w=.ok r w)∧cr w (af C w S Hx) S d' r:=by
  unfold zI at h
  split at h
  · rename_i lJ
    obtain ⟨dd,h1,h2⟩:=(aq.ty t _ lJ).desc
    simp only [kp] at h2
    subst h2
    split at h
    case h_2=>simp at h
    have:=wM hd
    subst this
    exact Kg h1 hl hh h
  · rename_i e _ _ _ lJ
    obtain ⟨dd,h1,h2⟩:=(aq.ty t _ lJ).desc
    simp only [kp] at h2
    subst h2
    split at h
    case h_2=>simp at h
    rename_i ei uK
    exact SY fU hm h1 (fun w=>(aq.ty e ei uK).sz w) hd hl hh h
  · simp at h
end
end Go.Proofs.YtockoilcnmljiaaGreat
namespace Go.Proofs.YtockoilcnmljiaaGreat
def la (t t':T):Prop:=t'.val=t.val∧∀ p,sn t'.er=some p→sn t.er=some p
theorem la.refl (t:T):la t t:=⟨rfl,fun _ h=>h⟩
theorem la.trans {a b c:T} (h:la a b) (h':la b c):la a c:=⟨h'.1.trans h.1,fun p e=>h.2 p (h'.2 p e)⟩
theorem kq {t t':T} (h:la t t') {x:Option (Nat × Nat)} {u:Value} (hr:eK x t u):eK x t' u:=by
  unfold eK at hr ⊢
  cases he:sn t'.er with
  | some p=>
    rw [h.2 p he] at hr
    simp only at hr ⊢
    rw [h.1]
    exact hr
  | none=>trivial
theorem Zc {q:List Nat} {o:Nat} {t':T}:∀ {cs cs':List T} {q':List Nat} {o':Nat} {l':List T},dF (fun l=>l.set o t') cs q=some cs'→under (q++[o]) (q'++[o'])=none→aw cs' q'=some l'→
    ∃ l,aw cs q'=some l∧∀ t2,l'[o']?=some t2→∃ t1,l[o']?=some t1∧la t1 t2:=by
  induction q with
  | nil=>
    intro cs cs' q' o' l' hm hu hc
    simp only [dF,Option.some.injEq] at hm
    subst hm
    cases q' with
    | nil=>
      simp only [aw,Option.some.injEq] at hc
      subst hc
      refine ⟨cs,rfl,fun t2 h2=>?_⟩
      simp only [List.nil_append,under] at hu
      split at hu
      · simp at hu
      · rename_i cZ
        rw [List.getElem?_set_ne cZ] at h2
        exact ⟨t2,h2,la.refl _⟩
    | cons p q'=>
      simp only [List.nil_append,List.cons_append,under] at hu
      split at hu
      · simp at hu
      · rename_i cZ
        rw [aw,List.getElem?_set_ne cZ] at hc
        rw [aw]
        exact ⟨l',hc,fun t2 h2=>⟨t2,h2,la.refl _⟩⟩
  | cons p q ih=>
    intro cs cs' q' o' l' hm hu hc
    rw [dF] at hm
    cases hp:cs[p]? with
    | none=>simp [hp] at hm
    | some x=>
      cases x with
      | v d u=>simp [hp] at hm
      | own s n cap a xs=>
        simp only [hp] at hm
        cases hx:dF (fun l=>l.set o t') xs q with
        | none=>simp [hx] at hm
        | some kj=>
          simp only [hx,Option.some.injEq] at hm
          subst hm
          obtain ⟨cT,_⟩:=List.getElem?_eq_some_iff.1 hp
          cases q' with
          | nil=>
            simp only [aw,Option.some.injEq] at hc
            subst hc
            refine ⟨cs,rfl,fun t2 h2=>?_⟩
            by_cases hpo:p=o'
            · subst hpo
              rw [List.getElem?_set_self cT,Option.some.injEq] at h2
              subst h2
              exact ⟨_,hp,rfl,fun p h=>by simpa [T.er,sn] using h⟩
            · rw [List.getElem?_set_ne hpo] at h2
              exact ⟨t2,h2,la.refl _⟩
          | cons p' q'=>
            by_cases E3:p=p'
            · subst E3
              simp only [List.cons_append,under,if_true] at hu
              rw [aw,List.getElem?_set_self cT] at hc
              simp only at hc
              obtain ⟨l,h1,h2⟩:=ih hx hu hc
              exact ⟨l,by rw [aw,hp]; exact h1,h2⟩
            · rw [aw,List.getElem?_set_ne E3] at hc
              exact ⟨l',by rw [aw]; exact hc,fun t2 h2=>⟨t2,h2,la.refl _⟩⟩
theorem ru {q:List Nat} {o:Nat} {t':T}:∀ {cs cs':List T} {q':List Nat} {bx:Option Nat},dF (fun l=>l.set o t') cs q=some cs'→under (q++[o]) q'=none→bV bx cs' q'=bV bx cs q':=by
  induction q with
  | nil=>
    intro cs cs' q' bx hm hu
    simp only [dF,Option.some.injEq] at hm
    subst hm
    cases q' with
    | nil=>rfl
    | cons p q'=>
      simp only [List.nil_append,under] at hu
      split at hu
      · simp at hu
      · rename_i cZ
        rw [bV,bV,List.getElem?_set_ne cZ]
  | cons p q ih=>
    intro cs cs' q' bx hm hu
    rw [dF] at hm
    cases hp:cs[p]? with
    | none=>simp [hp] at hm
    | some x=>
      cases x with
      | v d u=>simp [hp] at hm
      | own s n cap a xs=>
        simp only [hp] at hm
        cases hx:dF (fun l=>l.set o t') xs q with
        | none=>simp [hx] at hm
        | some kj=>
          simp only [hx,Option.some.injEq] at hm
          subst hm
          obtain ⟨cT,_⟩:=List.getElem?_eq_some_iff.1 hp
          cases q' with
          | nil=>rfl
          | cons p' q'=>
            rw [bV,bV]
            by_cases E3:p=p'
            · subst E3
              simp only [List.cons_append,under,if_true] at hu
              rw [List.getElem?_set_self cT,hp]
              simp only
              cases q' with
              | nil=>rfl
              | cons y ys=>exact ih (bx:=none) hx hu
            · rw [List.getElem?_set_ne E3]
theorem jg {q:List Nat}:∀ {x y:List Nat},under q x=some y→x=q++y:=by
  induction q with
  | nil=>intro x y h; simp only [under,Option.some.injEq] at h; exact h
  | cons p q ih=>
    intro x y h
    cases x with
    | nil=>simp [under] at h
    | cons z zs=>
      simp only [under] at h
      split at h
      · rename_i e; subst e; simp [ih h]
      · simp at h
theorem Vx {q:List Nat} {o:Nat} {t':T} {cs cs':List T} (hm:dF (fun l=>l.set o t') cs q=some cs') {l':List T} (hc:aw cs' q=some l') {t2:T} (h2:l'[o]?=some t2):t2=t':=by
  obtain ⟨l,h3,h4⟩:=nw hm
  rw [h4,Option.some.injEq] at hc
  subst hc
  obtain ⟨cT,he⟩:=List.getElem?_eq_some_iff.1 h2
  rw [← he]; simp
theorem E4 {q:List Nat} {o:Nat} {y:List Nat} {d:D} {u:Value}:∀ {cs l:List T},aw cs q=some l→l[o]?=some (.v d u)→aw cs (q++o::y)=none:=by
  induction q with
  | nil=>
    intro cs l hc ho
    simp only [aw,Option.some.injEq] at hc
    subst hc
    simp [aw,ho]
  | cons p q ih=>
    intro cs l hc ho
    rw [aw] at hc
    cases hp:cs[p]? with
    | none=>simp [hp] at hc
    | some x=>
      cases x with
      | v d u=>simp [hp] at hc
      | own s n cap a xs=>
        simp only [hp] at hc
        rw [List.cons_append,aw,hp]
        exact ih hc ho
theorem SZ {q:List Nat} {o:Nat} {y:List Nat} {d:D} {u:Value}:∀ {cs l:List T} {bx:Option Nat},aw cs q=some l→l[o]?=some (.v d u)→bV bx cs (q++o::y)=none:=by
  induction q with
  | nil=>
    intro cs l bx hc ho
    simp only [aw,Option.some.injEq] at hc
    subst hc
    simp [bV,ho]
  | cons p q ih=>
    intro cs l bx hc ho
    rw [aw] at hc
    cases hp:cs[p]? with
    | none=>simp [hp] at hc
    | some x=>
      cases x with
      | v d u=>simp [hp] at hc
      | own s n cap a xs=>
        simp only [hp] at hc
        rw [List.cons_append,bV,hp]
        simp only
        have:=ih (bx:=none) hc ho
        cases hq:q++o::y with
        | nil=>simp at hq
        | cons z zs=>rw [hq] at this; exact this
structure kr (S S':List (Nat × RT)) (r:Nat) (q:List Nat) (o:Nat) (t t':T):Prop where
  ex:∃ R cs' l,lk S r=some R∧aw R.cs q=some l∧l[o]?=some t∧dF (fun l=>l.set o t') R.cs q=some cs'∧S'=pt S r ⟨R.box,cs'⟩
section
variable {S S':List (Nat × RT)} {r:Nat} {q:List Nat} {o:Nat} {t t':T} (hc:kr S S' r q o t t')
include hc
theorem kr.LU {r':Nat} (h:r'≠r):lk S' r'=lk S r':=by
  obtain ⟨R,cs',l,h1,h2,h3,h4,rfl⟩:=hc.ex
  exact dD _ _ h
theorem kr.box {r':Nat} {R':RT} (h:lk S' r'=some R'):∃ R,lk S r'=some R∧R.box=R'.box:=by
  by_cases he:r'=r
  · subst he
    obtain ⟨R,cs',l,h1,h2,h3,h4,rfl⟩:=hc.ex
    rw [cD,Option.some.injEq] at h
    subst h
    exact ⟨R,h1,rfl⟩
  · rw [hc.LU he] at h
    exact ⟨R',h,rfl⟩
theorem kr.uL {r':Nat} {q':List Nat} {o':Nat} (hf:r'≠r∨under (q++[o]) (q'++[o'])=none) {t2:T} (h:cu S' r' q' o'=some t2):∃ t1,cu S r' q' o'=some t1∧la t1 t2:=by
  by_cases he:r'=r
  · subst he
    have hf:under (q++[o]) (q'++[o'])=none:=by rcases hf with hf | hf<;>first | exact absurd rfl hf | exact hf
    obtain ⟨R,cs',l,h1,h2,h3,h4,rfl⟩:=hc.ex
    unfold cu at h ⊢
    rw [cD] at h
    rw [h1]
    simp only at h ⊢
    cases hx:aw cs' q' with
    | none=>simp [hx] at h
    | some l'=>
      simp only [hx] at h
      obtain ⟨l1,h5,h6⟩:=Zc h4 hf hx
      rw [h5]
      exact h6 t2 h
  · unfold cu at h ⊢
    rw [hc.LU he] at h
    exact ⟨t2,h,la.refl _⟩
theorem kr.Jp {t2:T} (h:cu S' r q o=some t2):t2=t':=by
  obtain ⟨R,cs',l,h1,h2,h3,h4,rfl⟩:=hc.ex
  unfold cu at h
  rw [cD] at h
  simp only at h
  cases hx:aw cs' q with
  | none=>simp [hx] at h
  | some l'=>
    simp only [hx] at h
    exact Vx h4 hx h
theorem kr.Dp:cu S' r q o=some t':=by
  obtain ⟨R,cs',l,h1,h2,h3,h4,rfl⟩:=hc.ex
  obtain ⟨l',h5,h6⟩:=nw h4
  rw [h2,Option.some.injEq] at h5
  subst h5
  unfold cu
  rw [cD]
  simp only [h6]
  rw [List.getElem?_set_self (List.getElem?_eq_some_iff.1 h3).1]
theorem kr.Mq:cu S r q o=some t:=by
  obtain ⟨R,cs',l,h1,h2,h3,h4,rfl⟩:=hc.ex
  simp [cu,h1,h2,h3]
theorem kr.ru {r':Nat} {q':List Nat} (hf:r'≠r∨under (q++[o]) q'=none) {R':RT} (h:lk S' r'=some R'):∃ R,lk S r'=some R∧R.box=R'.box∧bV R'.box R'.cs q'=bV R.box R.cs q':=by
  by_cases he:r'=r
  · subst he
    have hf:under (q++[o]) q'=none:=by rcases hf with hf | hf<;>first | exact absurd rfl hf | exact hf
    obtain ⟨R,cs',l,h1,h2,h3,h4,rfl⟩:=hc.ex
    rw [cD,Option.some.injEq] at h
    subst h
    exact ⟨R,h1,rfl,ru h4 hf⟩
  · rw [hc.LU he] at h
    exact ⟨R',h,rfl,rfl⟩
theorem kr.fts:∃ A B,cF S=A++t.ft++B∧cF S'=A++t'.ft++B:=by
  obtain ⟨R,cs',l,h1,h2,h3,h4,rfl⟩:=hc.ex
  obtain ⟨A,B,h5,h6⟩:=lI h1
  obtain ⟨A',B',h7,h8⟩:=Q3 h2 h3
  refine ⟨A++R.box.toList++A',B'++B,?_,?_⟩
  · rw [h5,RT.ft,h7]; simp
  · rw [h6,RT.ft,h8 t' cs' h4]; simp
theorem kr.Vy {d:D} {u:Value} (ht:t'=.v d u) {r':Nat} {q':List Nat} {o':Nat} {y:Nat} {ys:List Nat} (hr:r'=r) (hy:under (q++[o]) (q'++[o'])=some (y::ys)):cu S' r' q' o'=none:=by
  subst hr; subst ht
  obtain ⟨R,cs',l,h1,h2,h3,h4,rfl⟩:=hc.ex
  obtain ⟨l',h5,h6⟩:=nw h4
  rw [h2,Option.some.injEq] at h5
  subst h5
  have h7:(l.set o (.v d u))[o]?=some (.v d u):=List.getElem?_set_self (List.getElem?_eq_some_iff.1 h3).1
  have h8:=jg hy
  have h9:q'=q++o::(y::ys).dropLast∧o'=(y::ys).getLast (by simp):=by
    have e1:q'++[o']=(q++o::(y::ys).dropLast)++[(y::ys).getLast (by simp)]:=by
      rw [h8]; simp only [List.append_assoc,List.singleton_append,List.cons_append,List.nil_append]; rw [List.dropLast_concat_getLast]
    exact ⟨List.append_inj_left' e1 rfl,by have:=List.append_inj_right' e1 rfl; simpa using this⟩
  unfold cu
  rw [cD]
  simp only
  rw [h9.1,E4 h6 h7]
theorem kr.Vz {d:D} {u:Value} (ht:t'=.v d u) {q' y:List Nat} (hy:under (q++[o]) q'=some y) {R':RT} (h:lk S' r=some R'):bV R'.box R'.cs q'=none:=by
  subst ht
  obtain ⟨R,cs',l,h1,h2,h3,h4,rfl⟩:=hc.ex
  obtain ⟨l',h5,h6⟩:=nw h4
  rw [h2,Option.some.injEq] at h5
  subst h5
  have h7:(l.set o (.v d u))[o]?=some (.v d u):=List.getElem?_set_self (List.getElem?_eq_some_iff.1 h3).1
  rw [cD,Option.some.injEq] at h
  subst h
  rw [jg hy,List.append_assoc]
  exact SZ h6 h7
end
end Go.Proofs.YtockoilcnmljiaaGreat
namespace Go.Proofs.YtockoilcnmljiaaGreat
section
variable {w w':World} {X X':Bool→Nat→Prop} {S S':List (Nat × RT)}
theorem vO {d:D} {u:Value} (h:cr w X S d u):(∃ ds us,d=.aL ds∧u=.tuple us∧cb (gD w X S) ds us.toList)∨((∀ ds,d≠.aL ds)∧gD w X S d u):=by
  cases d<;>first | exact .inr ⟨by simp,h⟩ | (obtain ⟨us,h1,h2⟩:=h; exact .inl ⟨_,us,rfl,h1,h2⟩)
theorem sw {d:D} {u:Value} (h:gD w X S d u):(∃ cs us,d=.agg cs∧u=.agg us∧cb (bj w X S) cs us.toList)∨(∃ f cs us,d=.fn f cs∧u=.func (.func f) #[] us∧cb (bj w X S) cs us.toList)∨((∀ cs,d≠.agg cs)∧(∀ f cs,d≠.fn f cs)∧bj w X S d u):=by
  cases d<;>first | exact .inr (.inr ⟨by simp,by simp,h⟩) | (obtain ⟨us,h1,h2⟩:=h; exact .inl ⟨_,us,rfl,h1,h2⟩) | (obtain ⟨us,h1,h2⟩:=h; exact .inr (.inl ⟨_,_,us,rfl,h1,h2⟩))
theorem Zd {f:D→D} (h:∀ d u,bj w X S d u→bj w' X' S' (f d) u) {d:D} {u:Value} (hd:cr w X S d u):cr w' X' S' (oM f d) u:=by
  have ha:∀ d u,gD w X S d u→gD w' X' S' (fa f d) u:=by
    intro d u hd
    rcases sw hd with ⟨cs,us,rfl,rfl,ha⟩ | ⟨g,cs,us,rfl,rfl,ha⟩ | ⟨h1,h2,h3⟩
    · exact ⟨us,rfl,ha.map f (fun _ _=>h _ _)⟩
    · exact ⟨us,rfl,ha.map f (fun _ _=>h _ _)⟩
    · have:fa f d=f d:=by cases d<;>first | rfl | exact absurd rfl (h1 _) | exact absurd rfl (h2 _ _)
      rw [this]; exact ej (h _ _ h3)
  rcases vO hd with ⟨ds,us,rfl,rfl,hb⟩ | ⟨h1,h2⟩
  · exact ⟨us,rfl,hb.map _ (fun _ _=>ha _ _)⟩
  · have:oM f d=fa f d:=by cases d<;>first | rfl | exact absurd rfl (h1 _)
    rw [this]; exact ko (ha _ _ h2)
theorem Ze {α:Type} (f:α→α) (l:List (Nat × α)) (k:Nat):lk (fR f l) k=(lk l k).map f:=by
  induction l with
  | nil=>rfl
  | cons e t ih=>
    obtain ⟨j,v⟩:=e
    simp only [fR,lk]
    split<;>simp [ih]
theorem VA {f:D→D} (h:∀ d u,bj w X S d u→bj w' X' S' (f d) u) {tm:List (Nat × D)} {vs:Array Value} (ht:ma w X S tm vs):ma w' X' S' (fR (oM f) tm) vs:=by
  intro t
  rw [Ze]
  have:=ht t
  cases hx:lk tm t with
  | none=>simpa [hx] using mb _
  | some d=>rw [hx] at this; simpa using Zd h this
theorem pH (h:∀ d u,bj w X S d u→bj w' X' S' d u) {d:D} {u:Value} (hd:cr w X S d u):cr w' X' S' d u:=by
  have ha:∀ d u,gD w X S d u→gD w' X' S' d u:=by
    intro d u hd
    rcases sw hd with ⟨cs,us,rfl,rfl,ha⟩ | ⟨g,cs,us,rfl,rfl,ha⟩ | ⟨h1,h2,h3⟩
    · exact ⟨us,rfl,ha.mono h⟩
    · exact ⟨us,rfl,ha.mono h⟩
    · exact ej (h _ _ h3)
  rcases vO hd with ⟨ds,us,rfl,rfl,hb⟩ | ⟨h1,h2⟩
  · exact ⟨us,rfl,hb.mono ha⟩
  · exact ko (ha _ _ h2)
theorem wo (h:∀ d u,bj w X S d u→bj w' X' S' d u) {tm:List (Nat × D)} {vs:Array Value} (ht:ma w X S tm vs):ma w' X' S' tm vs:=fun t=>pH h (ht t)
end
def jh (w w':World) (X X':Bool→Nat→Prop):Prop:=∀ b k,X b k→X' b k∧w'.heap[k]?=w.heap[k]?
theorem jh.refl (w:World) (X:Bool→Nat→Prop):jh w w X X:=fun _ _ h=>⟨h,rfl⟩
section
variable {w w':World} {X X':Bool→Nat→Prop} {S S':List (Nat × RT)} (hX:jh w w' X X')
include hX
theorem oa {cs:List D} {o:Nat} {u:Value} (h:bj w X S (.da cs o) u):bj w' X' S' (.da cs o) u:=by
  obtain ⟨b,off,c,e,fz,us,h1,h2,h3,h4,h5⟩:=h
  exact ⟨b,off,c,e,fz,us,h1,(hX _ _ h2).1,by rw [(hX _ _ h2).2]; exact h3,sr hX _ _ h4,h5⟩
theorem oS {d:D} (hr:∀ r q o x,d≠.ref r q o x) (hp:∀ r q o,d≠.ptr r q o) (hq:∀ cs o,d≠.da cs o) {u:Value} (h:bj w X S d u):bj w' X' S' d u:=by
  cases d with
  | ref r q o x=>exact absurd rfl (hr _ _ _ _)
  | ptr r q o=>exact absurd rfl (hp _ _ _)
  | da cs o=>exact absurd rfl (hq _ _)
  | _=>exact gi hX _ _ h
theorem Mr {r:Nat} {q:List Nat} {o:Nat} {t:T} {d0:D} {u0:Value} (hc:kr S S' r q o t (.v d0 u0)) (hn:sn (bL d0)=none∨la t (.v d0 u0)) {d:D} {u:Value} (h:bj w X S d u):bj w' X' S' d u:=by
  cases d with
  | ref r' q' o' x=>
    intro t2 h2
    by_cases hf:r'≠r∨under (q++[o]) (q'++[o'])=none
    · obtain ⟨t1,h1,hl⟩:=hc.uL hf h2
      exact kq hl (h t1 h1)
    · have hr:r'=r:=Classical.byContradiction fun e=>hf (.inl e)
      cases hu:under (q++[o]) (q'++[o']) with
      | none=>exact absurd (.inr hu) hf
      | some y=>
        cases y with
        | nil=>
          have e1:=jg hu
          simp only [List.append_nil] at e1
          obtain ⟨rfl,e2⟩:=List.append_inj' e1 rfl
          simp only [List.cons.injEq,and_true] at e2
          subst e2; subst hr
          have:=hc.Jp h2
          subst this
          rcases hn with hn | hn
          · unfold eK
            simp only [T.er,hn]
          · exact kq hn (h t hc.Mq)
        | cons y ys=>rw [hc.Vy rfl hr hu] at h2; simp at h2
  | ptr r' q' o'=>
    intro R' eh
    obtain ⟨R,h1,h2⟩:=hc.box eh
    refine ⟨fun e=>by rw [← h2]; exact (h R h1).1 e,fun b off ha=>?_⟩
    by_cases hf:r'≠r∨under (q++[o]) q'=none
    · obtain ⟨R1,h3,h4,h5⟩:=hc.ru hf eh
      rw [h3,Option.some.injEq] at h1
      subst h1
      exact (h _ h3).2 b off (h5▸ha)
    · have hr:r'=r:=Classical.byContradiction fun e=>hf (.inl e)
      subst hr
      cases hu:under (q++[o]) q' with
      | none=>exact absurd (.inr hu) hf
      | some y=>rw [hc.Vz rfl hu eh] at ha; simp at ha
  | da cs o'=>exact oa hX h
  | _=>exact oS hX (by simp) (by simp) (by simp) h
theorem x8 {r:Nat} {q:List Nat} {o:Nat} {t t':T} (hc:kr S S' r q o t t') {ex:Bool} (hl:ex=false→la t t') {d:D} {u:Value} (h:bj w X S d u):bj w' X' S' (ct r q o ex d) u:=by
  cases d with
  | ref r' q' o' x=>
    simp only [ct]
    split
    · rename_i hr
      subst hr
      cases hu:under (q++[o]) (q'++[o']) with
      | none=>
        simp only
        intro t2 h2
        obtain ⟨t1,h1,hl⟩:=hc.uL (.inr hu) h2
        exact kq hl (h t1 h1)
      | some y=>
        cases y with
        | nil=>
          cases ex with
          | true=>simp [bj,Ext]
          | false=>
            simp only [Bool.false_eq_true,if_false]
            intro t2 h2
            have e1:=jg hu
            simp only [List.append_nil] at e1
            obtain ⟨rfl,e2⟩:=List.append_inj' e1 rfl
            simp only [List.cons.injEq,and_true] at e2
            subst e2
            have:=hc.Jp h2
            subst this
            exact kq (hl rfl) (h t hc.Mq)
        | cons y ys=>simp [bj,Ext]
    · rename_i hr
      intro t2 h2
      obtain ⟨t1,h1,hl⟩:=hc.uL (.inl hr) h2
      exact kq hl (h t1 h1)
  | ptr r' q' o'=>
    simp only [ct]
    split
    · rename_i hr
      subst hr
      cases hu:under (q++[o]) q' with
      | none=>
        simp only
        intro R' eh
        obtain ⟨R1,h3,h4,h5⟩:=hc.ru (.inr hu) eh
        exact ⟨fun e=>by rw [← h4]; exact (h R1 h3).1 e,fun b off ha=>(h R1 h3).2 b off (h5▸ha)⟩
      | some y=>simp [bj,Ext]
    · rename_i hr
      intro R' eh
      obtain ⟨R1,h3,h4,h5⟩:=hc.ru (.inl hr) eh
      exact ⟨fun e=>by rw [← h4]; exact (h R1 h3).1 e,fun b off ha=>(h R1 h3).2 b off (h5▸ha)⟩
  | da cs o'=>exact oa hX h
  | _=>simp only [ct]; exact oS hX (by simp) (by simp) (by simp) h
theorem VB {r:Nat} {R:RT} (hS:S'=pt S r R) {d:D} {u:Value} (h:bj w X S d u):bj w' X' S' (cB r d) u:=by
  subst hS
  cases d with
  | ref r' q' o' x=>
    simp only [cB]
    split
    · simp [bj,Ext]
    · rename_i hr
      intro t2 h2
      unfold cu at h2
      rw [dD _ _ hr] at h2
      exact h t2 h2
  | ptr r' q' o'=>
    simp only [cB]
    split
    · simp [bj,Ext]
    · rename_i hr
      intro R' eh
      rw [dD _ _ hr] at eh
      exact h R' eh
  | da cs o'=>exact oa hX h
  | _=>simp only [cB]; exact oS hX (by simp) (by simp) (by simp) h
theorem Zf {r:Nat} {R0 R:RT} (h0:lk S r=some R0) (hb:R.box=R0.box) (hS:S'=pt S r R) {d:D} {u:Value} (h:bj w X S d u):bj w' X' S' (eu r d) u:=by
  subst hS
  cases d with
  | ref r' q' o' x=>
    simp only [eu]
    split
    · simp [bj,Ext]
    · rename_i hr
      intro t2 h2
      unfold cu at h2
      rw [dD _ _ hr] at h2
      exact h t2 h2
  | ptr r' q' o'=>
    cases q' with
    | nil=>
      simp only [eu]
      intro R' eh
      by_cases hr:r'=r
      · subst hr
        rw [cD,Option.some.injEq] at eh
        subst eh
        refine ⟨fun e=>by rw [hb]; exact (h R0 h0).1 e,fun b off ha=>(h R0 h0).2 b off ?_⟩
        simp only [bV] at ha ⊢
        rw [← hb]; exact ha
      · rw [dD _ _ hr] at eh
        exact h R' eh
    | cons p q'=>
      simp only [eu]
      split
      · simp [bj,Ext]
      · rename_i hr
        intro R' eh
        rw [dD _ _ hr] at eh
        exact h R' eh
  | da cs o'=>exact oa hX h
  | _=>simp only [eu]; exact oS hX (by simp) (by simp) (by simp) h
theorem sx (hS:∀ r R,lk S' r=some R→lk S r=some R) {d:D} {u:Value} (h:bj w X S d u):bj w' X' S' d u:=by
  cases d with
  | ref r' q' o' x=>
    intro t2 h2
    unfold cu at h2
    cases hr:lk S' r' with
    | none=>simp [hr] at h2
    | some R=>
      refine h t2 ?_
      unfold cu
      rw [hS _ _ hr]
      rw [hr] at h2
      exact h2
  | ptr r' q' o'=>exact fun R' eh=>h R' (hS _ _ eh)
  | da cs o'=>exact oa hX h
  | _=>exact oS hX (by simp) (by simp) (by simp) h
end
theorem VC (b:Bool) (d:D):iw b (bL d)=bL d:=by
  cases d with
  | sl g s n cs=>cases g<;>simp [bL,iw]
  | _=>simp [bL,iw]
mutual
theorem x9 {w:World} {X X':Bool→Nat→Prop} (hX:∀ b k,X b k→X' b k) (b:Bool):∀ (t:T),bE w X t→(∀ k∈t.ft,X' b k)→Ext w X' (iw b t.er) t.val
  | .v d u,hs,_=>by
    simp only [bE] at hs
    have h2:Ext w X' (bL d) u:=gi (fun b k h=>⟨hX b k h,rfl⟩) _ _ hs
    have h3:iw b (T.v d u).er=bL d:=VC b d
    rw [h3]; exact h2
  | .own s n cap a cs,hs,hf=>by
    simp only [bE] at hs
    obtain ⟨h1,h2,h3,h4⟩:=hs
    simp only [T.er,iw,Ext,T.val,vK]
    have h5:=CG hX b cs h4 (fun k hk=>hf k (by simp [T.ft,hk]))
    refine ⟨_,cap,aC cs,rfl,h1,?_,h5,?_⟩
    · have:=((gO _ _).1 h5).len
      rw [this,bP,h2]
    · cases a with
      | none=>
        left
        have:cs.length=0:=by rw [h2,h3.1]; simp
        simp [List.length_eq_zero_iff.1 this,bh,cA]
      | some p=>
        obtain ⟨k,off⟩:=p
        obtain ⟨c,e,fz,h6,_,_,h7⟩:=h3
        exact .inr ⟨k,off,c,e,fz,rfl,hf k (by simp [T.ft,iV]),h6,h7⟩
theorem CG {w:World} {X X':Bool→Nat→Prop} (hX:∀ b k,X b k→X' b k) (b:Bool):∀ (ts:List T),bF w X ts→(∀ k∈ah ts,X' b k)→gh w X' (cA b (bh ts)) (aC ts)
  | [],_,_=>by simp [bh,cA,aC,gh]
  | t::ts,hs,hf=>by
    simp only [bF] at hs
    simp only [bh,cA,aC,gh]
    exact ⟨t.val,aC ts,rfl,x9 hX b t hs.1 (fun k hk=>hf k (by simp [ah,hk])),CG hX b ts hs.2 (fun k hk=>hf k (by simp [ah,hk]))⟩
end
theorem Jq (b:Bool):∀ (ds:List D) (k:Nat),cA b (ds.drop k)=(cA b ds).drop k
  | [],k=>by simp [cA]
  | d::ds,0=>rfl
  | d::ds,k+1=>by simp [cA,Jq b ds k]
theorem Jr (b:Bool):∀ (ds:List D) (k:Nat),cA b (ds.take k)=(cA b ds).take k
  | [],k=>by simp [cA]
  | d::ds,0=>rfl
  | d::ds,k+1=>by simp [cA,Jr b ds k]
theorem Mt {w:World} {X:Bool→Nat→Prop} {g:Bool} {s n:Nat} {cs:List D} {l m k C:Nat} {base:Option Addr} (h:Ext w X (.sl (some g) s n cs) (.slice base n C)) (h1:l+m≤n) (h2:k≤C) (h3:C - l=0∨k=l):
    Ext w X (.sl (some g) s m ((cs.drop (l*s)).take (m*s))) (.slice (base.map (·.add (k*s))) m (C - l)):=by
  simp only [Ext,Value.slice.injEq] at h ⊢
  obtain ⟨Q7,tq,us,⟨rfl,_,rfl⟩,e3,e4,e5,e6⟩:=h
  have E0:((cs.drop (l*s)).take (m*s)).length=m*s:=by
    rw [List.length_take,List.length_drop,e4]
    have:l*s+m*s≤n*s:=by rw [← Nat.add_mul]; exact Nat.mul_le_mul_right _ h1
    omega
  have dV:=(gO cs us).1 e5
  refine ⟨_,_,(us.drop (l*s)).take (m*s),⟨rfl,trivial,rfl⟩,by omega,E0,(gO _ _).2 ((dV.drop _).take _),?_⟩
  by_cases hz:(cs.drop (l*s)).take (m*s)=[]
  · exact .inl hz
  · right
    have qe:0 < m*s:=by
      rcases Nat.eq_zero_or_pos (m*s) with e7 | e7
      · exact absurd (List.length_eq_zero_iff.1 (by rw [E0,e7])) hz
      · exact e7
    rcases e6 with e6 | ⟨kb,off0,cc,ee,fz,rfl,e7,e8,e9⟩
    · subst e6; simp at hz
    · have E5:m≠0:=fun e=>by simp [e] at qe
      have hkl:k=l:=by
        rcases h3 with h3 | h3
        · omega
        · exact h3
      subst hkl
      refine ⟨kb,off0+k*s,cc,ee,fz,by rw [Option.map_some,eT],e7,e8,fun j v hj=>?_⟩
      rw [List.getElem?_take] at hj
      split at hj
      · rw [List.getElem?_drop] at hj
        rw [Nat.add_assoc]; exact e9 _ _ hj
      · simp at hj
theorem BQ {w:World} {X X':Bool→Nat→Prop} (hX:∀ b k,X b k→X' b k) (b:Bool) {t:T} {g:Option Bool} {s n:Nat} {cs:List D} (he:t.er=.sl g s n cs) (hs:bE w X t) (hf:∀ k∈t.ft,X' b k) {x:Option (Nat × Nat)} {u:Value} (hr:eK x t u):
    Ext w X' (iw b (.sl g s (trim x s n cs).1 (trim x s n cs).2)) u:=by
  have h1:=x9 hX b t hs hf
  unfold eK at hr
  rw [he] at hr h1
  simp only [sn] at hr
  cases x with
  | none=>simp only at hr; subst hr; exact h1
  | some p=>
    obtain ⟨l,m⟩:=p
    simp only at hr
    obtain ⟨h2,base,C,k,h3,h4,rfl,h5⟩:=hr
    rw [h3] at h1
    cases g with
    | none=>
      simp only [iw,trim] at h1 ⊢
      rw [Jr,Jq]
      exact Mt h1 h2 h4 h5
    | some g=>
      simp only [iw,trim] at h1 ⊢
      exact Mt h1 h2 h4 h5
end Go.Proofs.YtockoilcnmljiaaGreat
namespace Go.Proofs.YtockoilcnmljiaaGreat
theorem Rel.step {C:Ctx} {H H':List T} {w w':World} {st st':St} {aE:List (Array Value)} {S S':List (Nat × RT)} (h:Rel C H w st aE S) {f:D→D} (fU:gT st'.rt S') (fP:st'.tm=fR (oM f) st.tm) (Mu:st'.up=st.up.map (fR (oM f)))
    (dR:∀ d u,bj w (af C w S H) S d u→bj w' (af C w' S' H') S' (f d) u) (dg:Mem C w' S' H') (hk:Kept C w' S' H'):Rel C H' w' st' aE S':=by
  refine ⟨fU,dg,?_,hk⟩
  rw [fP,Mu,show fR (oM f) st.tm::st.up.map (fR (oM f))=(st.tm::st.up).map (fR (oM f)) from rfl]
  exact h.oO.map _ (fun _ _=>VA dR)
theorem Rel.rv {C:Ctx} {H H':List T} {w w':World} {st st':St} {aE:List (Array Value)} {S S':List (Nat × RT)} (h:Rel C H w st aE S) (fU:gT st'.rt S') (fP:st'.tm=st.tm) (Mu:st'.up=st.up)
    (dR:∀ d u,bj w (af C w S H) S d u→bj w' (af C w' S' H') S' d u) (dg:Mem C w' S' H') (hk:Kept C w' S' H'):Rel C H' w' st' aE S':=by
  refine ⟨fU,dg,?_,hk⟩
  rw [fP,Mu]
  exact h.oO.mono (fun _ _=>wo dR)
def GT (g:D→D) (t t1:T):Prop:=(∃ d d1 u,t=.v d u∧t1=.v d1 u∧bL d1=g (bL d))∨((∃ s n cap a xs,t=.own s n cap a xs)∧t1=t)
structure SR (g:D→D) (S S1:List (Nat × RT)):Prop where
  look:∀ r R1,lk S1 r=some R1→∃ R,lk S r=some R∧R1.box=R.box∧cb (GT g) R.cs R1.cs
  ix:cF S1=cF S
theorem GT.val {g:D→D} {t t1:T} (h:GT g t t1):t1.val=t.val∧t1.ft=t.ft:=by
  rcases h with ⟨d,d1,u,rfl,rfl,_⟩ | ⟨_,rfl⟩
  · exact ⟨rfl,rfl⟩
  · exact ⟨rfl,rfl⟩
theorem GT.aaS {g:D→D} {ts ts1:List T} (h:cb (GT g) ts ts1):aC ts1=aC ts:=by
  induction h with
  | nil=>rfl
  | cons h1 _ ih=>simp [aC,h1.val.1,ih]
theorem SR.refl (S:List (Nat × RT)):SR id S S:=by
  refine ⟨fun r R1 h=>⟨R1,h,rfl,?_⟩,rfl⟩
  refine dk rfl (fun i a b ha hb=>?_)
  rw [ha,Option.some.injEq] at hb
  subst hb
  cases a with
  | v d u=>exact .inl ⟨d,d,u,rfl,rfl,rfl⟩
  | own s n cap aa xs=>exact .inr ⟨⟨s,n,cap,aa,xs,rfl⟩,rfl⟩
def fT (g:D→D):T→T
  | .v d u=>.v (fa g (bL d)) u
  | t=>t
def fS (g:D→D):List (Nat × RT)→List (Nat × RT)
  | []=>[]
  | (k,R)::t=>(k,⟨R.box,R.cs.map (fT g)⟩)::fS g t
structure ld (g:D→D):Prop where
  sl:∀ b s n cs,g (.sl b s n cs)=.sl b s n cs
  hole:∀ s n,g (.hole s n)=.hole s n
  no:∀ d,sn d=none→sn (g d)=none
theorem VD {d:D} (h:sn d=none):bL d=d:=by
  cases d<;>first | rfl | simp [sn] at h
theorem CH (d:D):bL (bL d)=bL d:=by
  cases d with
  | sl b s n cs=>cases b<;>rfl
  | _=>rfl
theorem Zg {d:D} {p:Nat × Nat} (h:sn (bL d)=some p):(∃ b s n cs,bL d=.sl (some b) s n cs)∨∃ s n,bL d=.hole s n:=by
  cases d with
  | sl b s n cs=>
    cases b with
    | none=>simp [bL,sn] at h
    | some b=>exact .inl ⟨b,s,n,cs,rfl⟩
  | hole s n=>exact .inr ⟨s,n,rfl⟩
  | _=>simp [bL,sn] at h
theorem ld.aaT {g:D→D} (hg:ld g) {d:D} (h:sn d=none):sn (fa g d)=none:=by
  cases d<;>first | rfl | (simp [sn] at h; done) | exact hg.no _ rfl
theorem ld.aaU {g:D→D} (hg:ld g) (d:D):sn (fa g d)=sn d:=by
  cases d<;>first | rfl | (simp only [fa,hg.sl,hg.hole]; done) | exact hg.no _ rfl
theorem ld.leaf {g:D→D} (hg:ld g) (d:D):bL (fa g (bL d))=fa g (bL d):=by
  cases hs:sn (bL d) with
  | none=>exact VD (hg.aaT hs)
  | some p=>
    rcases Zg hs with ⟨b,s,n,cs,h⟩ | ⟨s,n,h⟩
    · rw [h]
      simp [fa,hg.sl,bL]
    · rw [h]
      simp [fa,hg.hole,bL]
theorem LV {g:D→D} (hg:ld g) (t:T):(fT g t).er=fa g t.er:=by
  cases t with
  | v d u=>simp only [fT,T.er]; exact hg.leaf d
  | own s n cap a xs=>simp [fT,T.er,fa,hg.sl]
theorem lq (g:D→D) (S:List (Nat × RT)) (k:Nat):lk (fS g S) k=(lk S k).map fun R=>⟨R.box,R.cs.map (fT g)⟩:=by
  induction S with
  | nil=>rfl
  | cons e t ih=>
    obtain ⟨j,R⟩:=e
    simp only [fS,lk]
    split<;>simp [ih]
theorem Zh {α:Type} (f:α→α) (l:List (Nat × α)) (k:Nat):lk (fR f l) k=(lk l k).map f:=by
  induction l with
  | nil=>rfl
  | cons e t ih=>
    obtain ⟨j,v⟩:=e
    simp only [fR,lk]
    split<;>simp [ih]
theorem pj {g:D→D} (hg:ld g) {l:List (Nat × List D)} {S:List (Nat × RT)} (h:gT l S):gT (fR (List.map (fa g)) l) (fS g S):=by
  intro k
  rw [Zh,lq,h k]
  cases lk S k with
  | none=>rfl
  | some R=>
    simp only [Option.map_some,Option.some.injEq,eD,List.map_map]
    apply List.map_congr_left
    intro t _
    simp [LV hg]
theorem XU (g:D→D) (t:T):(fT g t).ft=t.ft:=by cases t<;>rfl
theorem tS (g:D→D) (S:List (Nat × RT)):cF (fS g S)=cF S:=by
  induction S with
  | nil=>rfl
  | cons e t ih=>
    obtain ⟨k,R⟩:=e
    simp only [fS,cF,ih,RT.ft]
    congr 2
    rw [nv,nv,List.map_map]
    congr 2
    funext t
    exact XU g t
theorem Q8 {g:D→D} (hg:ld g) (S:List (Nat × RT)):SR (fa g) S (fS g S):=by
  refine ⟨fun r R1 h=>?_,tS g S⟩
  rw [lq] at h
  cases hr:lk S r with
  | none=>simp [hr] at h
  | some R=>
    simp only [hr,Option.map_some,Option.some.injEq] at h
    subst h
    refine ⟨R,rfl,rfl,dk (by simp) (fun i a b ha hb=>?_)⟩
    simp only [List.getElem?_map,ha,Option.map_some,Option.some.injEq] at hb
    subst hb
    cases a with
    | v d u=>exact .inl ⟨d,_,u,rfl,rfl,hg.leaf d⟩
    | own s n cap aa xs=>exact .inr ⟨⟨s,n,cap,aa,xs,rfl⟩,rfl⟩
theorem Dq (g:D→D) {cs:List T} {p:Nat} {q:List Nat}:aw (cs.map (fT g)) (p::q)=aw cs (p::q):=by
  simp only [aw,List.getElem?_map]
  cases cs[p]? with
  | none=>rfl
  | some t=>cases t<;>rfl
theorem P8 (g:D→D) {cs:List T} {bx:Option Nat} {q:List Nat}:bV bx (cs.map (fT g)) q=bV bx cs q:=by
  cases q with
  | nil=>rfl
  | cons p q=>
    simp only [bV,List.getElem?_map]
    cases cs[p]? with
    | none=>rfl
    | some t=>cases t<;>rfl
theorem qf {g:D→D} (hg:ld g) {w:World} {X:Bool→Nat→Prop} {S:List (Nat × RT)} {d:D} {u:Value} (h:bj w X S d u):bj w X (fS g S) d u:=by
  cases d with
  | ref r q o x=>
    intro t2 h2
    unfold cu at h2
    rw [lq] at h2
    cases hr:lk S r with
    | none=>simp [hr] at h2
    | some R=>
      simp only [hr,Option.map_some] at h2
      cases q with
      | nil=>
        simp only [aw,List.getElem?_map] at h2
        cases ho:R.cs[o]? with
        | none=>simp [ho] at h2
        | some t=>
          simp only [ho,Option.map_some,Option.some.injEq] at h2
          subst h2
          have:=h t (by simp [cu,hr,aw,ho])
          cases t with
          | own s n cap aa xs=>exact this
          | v d0 u0=>
            unfold eK at this ⊢
            rw [LV hg]
            simp only [T.er,hg.aaU] at this ⊢
            exact this
      | cons p q=>
        rw [Dq] at h2
        exact h t2 (by unfold cu; rw [hr]; exact h2)
  | ptr r q o=>
    intro R' eh
    rw [lq] at eh
    cases hr:lk S r with
    | none=>simp [hr] at eh
    | some R=>
      simp only [hr,Option.map_some,Option.some.injEq] at eh
      subst eh
      exact ⟨(h R hr).1,fun b off ha=>(h R hr).2 b off (by rw [P8] at ha; exact ha)⟩
  | _=>exact h
theorem SR.ry {g:D→D} {S S1:List (Nat × RT)} (h:SR g S S1) {r:Nat} {R1:RT} (hr:lk S1 r=some R1):∃ R,lk S r=some R∧R1.box=R.box∧R1.cs.length=R.cs.length∧aC R1.cs=aC R.cs∧∀ (i:Nat) (t1:T),R1.cs[i]?=some t1→∃ t:T,R.cs[i]?=some t∧GT g t t1:=by
  obtain ⟨R,h1,h2,h3⟩:=h.look r R1 hr
  refine ⟨R,h1,h2,h3.len.symm,GT.aaS h3,fun i t1 hi=>?_⟩
  have hl:=h3.len
  obtain ⟨cT,_⟩:=List.getElem?_eq_some_iff.1 hi
  obtain ⟨t1',h4,h5⟩:=h3.get (List.getElem?_eq_getElem (by omega:i < R.cs.length))
  rw [hi,Option.some.injEq] at h4
  subst h4
  exact ⟨_,List.getElem?_eq_getElem (by omega),h5⟩
section
variable {C:Ctx} {H H':List T} {w:World} {S S1 S':List (Nat × RT)}
theorem jy (ez:∀ k∈cF S'++ah H',k∈cF S++ah H) (b:Bool) (k:Nat) (h:af C w S H b k):af C w S' H' b k:=by
  obtain ⟨h1,h2,h3,h4⟩:=h
  have:k∉cF S'++ah H':=fun hk=>by
    rcases List.mem_append.1 (ez k hk) with h | h
    · exact h2 h
    · exact h3 h
  exact ⟨h1,fun h=>this (List.mem_append.2 (.inl h)),fun h=>this (List.mem_append.2 (.inr h)),h4⟩
theorem P9 (hm:Mem C w S H) {g:D→D} (hS:SR g S S1) {r:Nat} {q:List Nat} {o:Nat} {t t':T} (hc:kr S1 S' r q o t t') (hv:t'.val=t.val) (hs:bE w (af C w S' H') t'∨∃ d u,t'=.v d u∧q=[]∧∀ R,lk S r=some R→R.box.isSome=true∧bj w (af C w S' H') S' (bL d) u)
    (fh:(cF S'++ah H').Nodup) (ez:∀ k∈cF S'++ah H',k∈cF S++ah H) (hh:bF w (af C w S' H') H') (dR:∀ d u,bj w (af C w S H) S d u→bj w (af C w S' H') S' (g d) u) (qg:∀ d u,Ext w (af C w S H) d u→Ext w (af C w S' H') (g d) u):Mem C w S' H':=by
  have hX:∀ b k,af C w S H b k→af C w S' H' b k:=jy ez
  have cy:∀ b k,af C w S H b k→af C w S' H' b k∧w.heap[k]?=w.heap[k]?:=fun b k h=>⟨hX b k h,rfl⟩
  have cell:∀ {bx:Bool} {t0 t1:T},iW w (af C w S H) S bx t0→GT g t0 t1→iW w (af C w S' H') S' bx t1:=by
    intro bx t0 t1 h0 hg
    rcases hg with ⟨d,d1,u,rfl,rfl,he⟩ | ⟨⟨s,n,cap,a,xs,rfl⟩,rfl⟩
    · simp only [iW] at h0 ⊢
      rw [he]
      rcases h0 with h0 | ⟨hb,h0⟩
      · exact .inl (qg _ _ h0)
      · exact .inr ⟨hb,dR _ _ h0⟩
    · exact dK cy _ h0 (fun _ _=>rfl)
  refine ⟨fh,?_,hh,fun k hk=>hm.lt k (ez k hk)⟩
  intro r' R' eh
  obtain ⟨R1,cs',l,h1,h2,h3,h4,rfl⟩:=hc.ex
  by_cases he:r'=r
  · subst he
    rw [cD,Option.some.injEq] at eh
    subst eh
    obtain ⟨R,g1,g2,g3,g4,g5⟩:=hS.ry h1
    obtain ⟨k1,k2⟩:=hm.root r' R g1
    cases q with
    | nil=>
      simp only [aw,Option.some.injEq] at h2
      simp only [dF,Option.some.injEq] at h4
      subst h2; subst h4
      obtain ⟨cT,hto⟩:=List.getElem?_eq_some_iff.1 h3
      have gE:aC (R1.cs.set o t')=aC R.cs:=by
        rw [← g4,pD,hv]
        apply List.ext_getElem?
        intro j
        by_cases hj:o=j
        · subst hj
          rw [List.getElem?_set_self (by rw [bP]; exact cT),fc,h3]; rfl
        · rw [List.getElem?_set_ne hj]
      refine ⟨?_,?_⟩
      · simp only [List.length_set]
        rw [gE,g3,g2]; exact k1
      · intro t0 ks
        obtain ⟨j,hj⟩:=List.mem_iff_getElem?.1 ks
        simp only at hj
        by_cases Jm:o=j
        · subst Jm
          rw [List.getElem?_set_self cT,Option.some.injEq] at hj
          subst hj
          rcases hs with hs | ⟨d,u,rfl,_,hs⟩
          · cases t' with
            | v d u=>exact .inl hs
            | own s n cap a xs=>exact hs
          · obtain ⟨hb,hs⟩:=hs R g1
            exact .inr ⟨by rw [g2]; exact hb,hs⟩
        · rw [List.getElem?_set_ne Jm] at hj
          obtain ⟨Qa,e1,e2⟩:=g5 j _ hj
          have:=cell (k2 _ (List.mem_of_getElem? e1)) e2
          rw [← g2] at this
          exact this
    | cons p q=>
      have uJ:bE w (af C w (pt S1 r' ⟨R1.box,cs'⟩) H') t':=by
        rcases hs with hs | ⟨d,u,_,hq,_⟩
        · exact hs
        · simp at hq
      have gE:=(mf h4).1
      have hlen:=(mf h4).2
      refine ⟨?_,?_⟩
      · simp only
        rw [gE,hlen,g4,g3,g2]; exact k1
      · intro t0 ks
        obtain ⟨j,hj⟩:=List.mem_iff_getElem?.1 ks
        simp only at hj
        rw [aw] at h2
        rw [dF] at h4
        cases hp:R1.cs[p]? with
        | none=>simp [hp] at h2
        | some x=>
          cases x with
          | v d u=>simp [hp] at h2
          | own s n cap a xs=>
            simp only [hp] at h2 h4
            cases hx:dF (fun l=>l.set o t') xs q with
            | none=>simp [hx] at h4
            | some kj=>
              simp only [hx,Option.some.injEq] at h4
              subst h4
              obtain ⟨cT,_⟩:=List.getElem?_eq_some_iff.1 hp
              by_cases tB:p=j
              · subst tB
                rw [List.getElem?_set_self cT,Option.some.injEq] at hj
                subst hj
                obtain ⟨Qa,e1,e2⟩:=g5 p _ hp
                have e3:=cell (k2 _ (List.mem_of_getElem? e1)) e2
                simp only [iW,bE] at e3 ⊢
                obtain ⟨f1,f2,f3,f4⟩:=e3
                obtain ⟨f5,f6⟩:=Y8 uJ hv f4 h2 h3 hx
                have pI:kj.length=xs.length:=by have:=congrArg List.length f6; simpa [bP] using this
                exact ⟨f1,by rw [pI]; exact f2,by rw [f6]; exact f3,f5⟩
              · rw [List.getElem?_set_ne tB] at hj
                obtain ⟨Qa,e1,e2⟩:=g5 j _ hj
                have:=cell (k2 _ (List.mem_of_getElem? e1)) e2
                rw [← g2] at this
                exact this
  · rw [dD _ _ he] at eh
    obtain ⟨R,g1,g2,g3,g4,g5⟩:=hS.ry eh
    obtain ⟨k1,k2⟩:=hm.root r' R g1
    refine ⟨?_,?_⟩
    · rw [g4,g3,g2]; exact k1
    · intro t0 ks
      obtain ⟨j,hj⟩:=List.mem_iff_getElem?.1 ks
      obtain ⟨Qa,e1,e2⟩:=g5 j _ hj
      have:=cell (k2 _ (List.mem_of_getElem? e1)) e2
      rw [← g2] at this
      exact this
end
end Go.Proofs.YtockoilcnmljiaaGreat
namespace Go.Proofs.YtockoilcnmljiaaGreat
theorem VE {cs:List T} {o:Nat} {t t':T} (ho:cs[o]?=some t) (hv:t'.val=t.val):aC (cs.set o t')=aC cs:=by
  rw [pD,hv]
  apply List.ext_getElem?
  intro j
  by_cases hj:o=j
  · subst hj
    rw [List.getElem?_set_self (by rw [bP]; exact (List.getElem?_eq_some_iff.1 ho).1),fc,ho]; rfl
  · rw [List.getElem?_set_ne hj]
theorem kr.par {S S':List (Nat × RT)} {r:Nat} {q:List Nat} {o:Nat} {t t':T} (hc:kr S S' r q o t t') (hv:t'.val=t.val) {r':Nat} {R':RT} (h:lk S' r'=some R'):∃ R,lk S r'=some R∧R'.box=R.box∧aC R'.cs=aC R.cs:=by
  obtain ⟨R,cs',l,h1,h2,h3,h4,rfl⟩:=hc.ex
  by_cases he:r'=r
  · subst he
    rw [cD,Option.some.injEq] at h
    subst h
    refine ⟨R,h1,rfl,?_⟩
    cases q with
    | nil=>
      simp only [aw,Option.some.injEq] at h2
      simp only [dF,Option.some.injEq] at h4
      subst h2; subst h4
      exact VE h3 hv
    | cons p q=>exact (mf h4).1
  · rw [dD _ _ he] at h
    exact ⟨R',h,rfl,rfl⟩
theorem kr.Js {S S':List (Nat × RT)} {r:Nat} {q:List Nat} {o:Nat} {t t':T} (hc:kr S S' r q o t t') {r':Nat} {R:RT} (h:lk S r'=some R):∃ R',lk S' r'=some R'∧R'.box=R.box∧R'.cs.length=R.cs.length:=by
  obtain ⟨R0,cs',l,h1,h2,h3,h4,rfl⟩:=hc.ex
  by_cases he:r'=r
  · subst he
    rw [h1,Option.some.injEq] at h
    subst h
    refine ⟨_,cD _ _ _,rfl,?_⟩
    cases q with
    | nil=>
      simp only [dF,Option.some.injEq] at h4
      subst h4; simp
    | cons p q=>exact (mf h4).2
  · exact ⟨R,by rw [dD _ _ he]; exact h,rfl,rfl⟩
theorem Dr {st st':St} {S:List (Nat × RT)} (fU:gT st.rt S) {r:Nat} {q:List Nat} {o:Nat} {t t':T} {R:RT} {l:List T} (h1:lk S r=some R) (h2:aw R.cs q=some l) (h3:l[o]?=some t) (h:st.hL r q o t'.er=some st'):
    ∃ S',kr S S' r q o t t'∧gT st'.rt S'∧st'.tm=st.tm∧st'.up=st.up∧st'.of=st.of:=by
  unfold St.hL at h
  rw [fU,h1] at h
  simp only [Option.map_some,aaL] at h
  obtain ⟨cs',h4⟩:=Mf (f:=fun l=>l.set o t') h2
  rw [h4] at h
  simp only [Option.map_some,Option.some.injEq] at h
  subst h
  exact ⟨pt S r ⟨R.box,cs'⟩,⟨R,cs',l,h1,h2,h3,h4,rfl⟩,BP fU r ⟨R.box,cs'⟩,rfl,rfl,rfl⟩
theorem Zi:∀ {a b:List T},a.Sublist b→(ah a).Sublist (ah b):=by
  intro a b h
  induction h with
  | slnil=>exact List.Sublist.refl _
  | cons x _ ih=>rw [ah]; exact ih.trans (List.sublist_append_right _ _)
  | cons_cons x _ ih=>rw [ah,ah]; exact List.Sublist.append (List.Sublist.refl _) ih
theorem aaV {w:World} {X:Bool→Nat→Prop} {s n cap:Nat} {a:Option (Nat × Nat)} {ts:List T} (hs:bE w X (.own s n cap a ts)) {x:Option (Nat × Nat)} {u:Value} (hr:eK x (.own s n cap a ts) u):
    ∃ t:T,t.er=.sl none s (trim x s n (bh ts)).1 (trim x s n (bh ts)).2∧t.val=u∧bE w X t∧t.ft.Sublist (T.own s n cap a ts).ft:=by
  cases x with
  | none=>
    simp only [eK,sn,T.er] at hr
    exact ⟨.own s n cap a ts,rfl,hr.symm,hs,List.Sublist.refl _⟩
  | some p=>
    obtain ⟨l,m⟩:=p
    simp only [eK,sn,T.er,T.val,vK,Value.slice.injEq] at hr
    obtain ⟨h1,base,C,k,⟨h2,_,h3⟩,h4,rfl,h5⟩:=hr
    subst h2; subst h3
    simp only [bE] at hs
    obtain ⟨g1,g2,g3,g4⟩:=hs
    refine ⟨.own s m (cap - l) (a.map fun p=>(p.1,p.2+k*s)) ((ts.drop (l*s)).take (m*s)),?_,?_,?_,?_⟩
    · simp only [T.er,trim,zK,zL]
    · simp only [T.val,vK,Option.map_map]
      congr 1
      cases a<;>simp [eT]
    · simp only [bE]
      refine ⟨by omega,?_,?_,?_⟩
      · rw [List.length_take,List.length_drop,g2]
        have:l*s+m*s≤n*s:=by rw [← Nat.add_mul]; exact Nat.mul_le_mul_right _ h1
        omega
      · cases a with
        | none=>simp only at g3; simp only [Option.map_none]; omega
        | some p=>
          obtain ⟨b,off⟩:=p
          simp only [Option.map_some]
          obtain ⟨c,e,fz,k1,k2,k3,k4⟩:=g3
          refine ⟨c,e,fz,k1,k2,?_,?_⟩
          · rcases h5 with h5 | h5
            · rw [h5]
              have:k*s≤cap*s:=Nat.mul_le_mul_right _ h4
              omega
            · subst h5
              have:k*s+(cap - k)*s=cap*s:=by rw [← Nat.add_mul]; congr 1; omega
              omega
          · intro j u hj
            rw [cS,List.map_take,List.map_drop,← cS,List.getElem?_take] at hj
            split at hj
            · rename_i cT
              rw [List.getElem?_drop] at hj
              have hm:m≠0:=fun e=>by simp [e] at cT
              have:k=l:=by omega
              subst this
              rw [Nat.add_assoc]
              exact k4 _ _ hj
            · simp at hj
      · rw [cj] at g4 ⊢
        exact fun t ht=>g4 t (List.mem_of_mem_drop (List.mem_of_mem_take ht))
    · simp only [T.ft]
      refine List.Sublist.append ?_ (Zi ((List.take_sublist _ _).trans (List.drop_sublist _ _)))
      cases a<;>exact List.Sublist.refl _
structure pJ (S S':List (Nat × RT)):Prop where
  fwd:∀ r R,lk S r=some R→∃ R',lk S' r=some R'∧R'.box=R.box∧aC R'.cs=aC R.cs
theorem pJ.refl (S:List (Nat × RT)):pJ S S:=⟨fun _ R h=>⟨R,h,rfl,rfl⟩⟩
theorem pJ.trans {S S' yT:List (Nat × RT)} (h:pJ S S') (h':pJ S' yT):pJ S yT:=⟨fun r R hr=>by
  obtain ⟨R1,h1,h2,h3⟩:=h.fwd r R hr
  obtain ⟨R2,h4,h5,h6⟩:=h'.fwd r R1 h1
  exact ⟨R2,h4,h5.trans h2,h6.trans h3⟩⟩
theorem ya {C:Ctx} {w:World} {S S':List (Nat × RT)} {H H':List T} (hk:Kept C w S H) (ez:∀ k∈cF S'++ah H',k∈cF S++ah H) (hp:∀ r R',lk S' r=some R'→∃ R,lk S r=some R∧R'.box=R.box∧aC R'.cs=aC R.cs):Kept C w S' H':=
  ⟨hk.os,hk.tape,hk.output,hk.size,hk.block,fun k h=>hk.ix k (ez k h),fun r b vs hm R' hr=>by
    obtain ⟨R,h1,h2,h3⟩:=hp r R' hr
    have:=hk.par r b vs hm R h1
    rw [h2,h3]; exact this⟩
section
variable {C:Ctx} {H:List T} {w:World} {st st':St} {aE:List (Array Value)} {S:List (Nat × RT)}
theorem E6 (h:Rel C H w st aE S) {d:D} {u:Value} (hu:Ext w (af C w S H) d u) (hd:bL d=d):Rel C (.v d u::H) w st aE S:=by
  have hf:∀ b k,af C w S H b k→af C w S (.v d u::H) b k:=jy (by simp [ah,T.ft])
  have cy:∀ b k,af C w S H b k→af C w S (.v d u::H) b k∧w.heap[k]?=w.heap[k]?:=fun b k hh=>⟨hf b k hh,rfl⟩
  have dR:∀ d' u',bj w (af C w S H) S d' u'→bj w (af C w S (.v d u::H)) S d' u':=fun d' u' hh=>sx cy (fun _ _ h=>h) hh
  refine h.rv h.rt rfl rfl dR ⟨by simpa [ah,T.ft] using h.mem.nd,?_,?_,by simpa [ah,T.ft] using h.mem.lt⟩ (ya h.kept (by simp [ah,T.ft]) (fun r R' hr=>⟨R',hr,rfl,rfl⟩))
  · intro r R hR
    obtain ⟨h1,h2⟩:=h.mem.root r R hR
    refine ⟨h1,fun t ht=>?_⟩
    have:=h2 t ht
    cases t with
    | v d' u'=>
      rcases this with this | ⟨hb,this⟩
      · exact .inl (gi cy _ _ this)
      · exact .inr ⟨hb,dR _ _ this⟩
    | own s n cap a xs=>exact dK cy _ this (fun _ _=>rfl)
  · simp only [bF,bE]
    exact ⟨by rw [hd]; exact gi cy _ _ hu,gn cy _ h.mem.hand (fun _ _=>rfl)⟩
theorem uc (h:Rel C H w st aE S) {d d':D} {u:Value} (hu:bj w (af C w S H) S d u) (ht:iU st d=some (d',st')):
    ∃ t S',Rel C (t::H) w st' aE S'∧t.er=d'∧t.val=u∧(∀ d u,bj w (af C w S H) S d u→bj w (af C w S' (t::H)) S' d u)∧pJ S S'∧(st'.tm=st.tm∧st'.up=st.up∧st'.of=st.of)∧(∀ r q o x,d=.ref r q o x→∃ d0 u0,(sn d0).isSome=true∧bL d0=d0∧cu S' r q o=some (.v d0 u0)∧(x=none→la (.v d0 u0) t)):=by
  have plain:∀ {d:D},Ext w (af C w S H) d u→bL d=d→∃ t S',Rel C (t::H) w st aE S'∧t.er=d∧t.val=u∧(∀ d u,bj w (af C w S H) S d u→bj w (af C w S' (t::H)) S' d u)∧pJ S S'∧(st.tm=st.tm∧st.up=st.up∧st.of=st.of)∧S=S':=by
    intro d hu hd
    refine ⟨.v d u,S,E6 h hu hd,hd,rfl,fun d' u' hh=>sx (fun b k hh=>⟨jy (by simp [ah,T.ft]) b k hh,rfl⟩) (fun _ _ h=>h) hh,pJ.refl _,⟨rfl,rfl,rfl⟩,rfl⟩
  have zR:∀ {d:D},(∀ r q o x,d≠.ref r q o x)→Ext w (af C w S H) d u→bL d=d→∃ t S',Rel C (t::H) w st aE S'∧t.er=d∧t.val=u∧(∀ d u,bj w (af C w S H) S d u→bj w (af C w S' (t::H)) S' d u)∧pJ S S'∧(st.tm=st.tm∧st.up=st.up∧st.of=st.of)∧(∀ r q o x,d=.ref r q o x→∃ d0 u0,(sn d0).isSome=true∧bL d0=d0∧cu S' r q o=some (.v d0 u0)∧(x=none→la (.v d0 u0) t)):=by
    intro d hn hu hd
    obtain ⟨t,S',a1,a2,a3,a4,a5,a6,_⟩:=plain hu hd
    exact ⟨t,S',a1,a2,a3,a4,a5,a6,fun r q o x e=>absurd e (hn r q o x)⟩
  cases d with
  | int k n=>simp only [iU,Option.some.injEq,Prod.mk.injEq] at ht; obtain ⟨rfl,rfl⟩:=ht; exact zR (by simp) hu rfl
  | bool b=>simp only [iU,Option.some.injEq,Prod.mk.injEq] at ht; obtain ⟨rfl,rfl⟩:=ht; exact zR (by simp) hu rfl
  | str s=>simp only [iU,Option.some.injEq,Prod.mk.injEq] at ht; obtain ⟨rfl,rfl⟩:=ht; exact zR (by simp) hu rfl
  | undef=>simp only [iU,Option.some.injEq,Prod.mk.injEq] at ht; obtain ⟨rfl,rfl⟩:=ht; exact zR (by simp) hu rfl
  | hole s n=>
    simp only [iU,Option.some.injEq,Prod.mk.injEq] at ht; obtain ⟨rfl,rfl⟩:=ht
    obtain ⟨t,S',a1,a2,a3,a4,a5,a6,_⟩:=plain (d:=.undef) (by simp [Ext]) rfl
    exact ⟨t,S',a1,a2,a3,a4,a5,a6,by simp⟩
  | sl g s n cs=>
    simp only [iU,Option.some.injEq,Prod.mk.injEq] at ht; obtain ⟨rfl,rfl⟩:=ht
    cases g with
    | none=>exact absurd hu (by simp [bj,Ext])
    | some g=>exact zR (by simp) hu rfl
  | nil s=>
    simp only [iU,Option.some.injEq,Prod.mk.injEq] at ht; obtain ⟨rfl,rfl⟩:=ht
    have hu':u=.slice none 0 0:=hu
    subst hu'
    have eL:(T.own s 0 0 none []).ft=[]:=rfl
    have hf:∀ b k,af C w S H b k→af C w S (.own s 0 0 none []::H) b k:=jy (by simp [ah,eL])
    have cy:∀ b k,af C w S H b k→af C w S (.own s 0 0 none []::H) b k∧w.heap[k]?=w.heap[k]?:=fun b k hh=>⟨hf b k hh,rfl⟩
    have dR:∀ d' u',bj w (af C w S H) S d' u'→bj w (af C w S (.own s 0 0 none []::H)) S d' u':=fun d' u' hh=>sx cy (fun _ _ h=>h) hh
    refine ⟨.own s 0 0 none [],S,?_,rfl,rfl,dR,pJ.refl _,⟨rfl,rfl,rfl⟩,by simp⟩
    refine h.rv h.rt rfl rfl dR ⟨by simpa [ah,eL] using h.mem.nd,?_,?_,by simpa [ah,eL] using h.mem.lt⟩ (ya h.kept (by simp [ah,eL]) (fun r R' hr=>⟨R',hr,rfl,rfl⟩))
    · intro r R hR
      obtain ⟨h1,h2⟩:=h.mem.root r R hR
      refine ⟨h1,fun t ht=>?_⟩
      have:=h2 t ht
      cases t with
      | v d' u'=>
        rcases this with this | ⟨hb,this⟩
        · exact .inl (gi cy _ _ this)
        · exact .inr ⟨hb,dR _ _ this⟩
      | own s n cap a xs=>exact dK cy _ this (fun _ _=>rfl)
    · simp only [bF,bE]
      exact ⟨by simp,gn cy _ h.mem.hand (fun _ _=>rfl)⟩
  | ref r q o x=>
    simp only [iU] at ht
    split at ht
    · rename_i s n cs hc
      split at ht
      case h_2=>simp at ht
      rename_i aN iS
      simp only [Option.some.injEq,Prod.mk.injEq] at ht
      obtain ⟨rfl,rfl⟩:=ht
      obtain ⟨R,l,t0,h1,h2,h3,h4,h5⟩:=iI h.rt hc
      obtain ⟨cap,a,ts,rfl,rfl⟩:=EN h5.symm
      have E5:=h.mem
      have dW:bE w (af C w S H) (.own s n cap a ts):=by
        obtain ⟨_,g2⟩:=E5.root r R h1
        cases q with
        | nil=>
          simp only [aw,Option.some.injEq] at h2
          subst h2
          exact g2 _ (List.mem_of_getElem? h3)
        | cons p q=>
          rw [aw] at h2
          cases hp:R.cs[p]? with
          | none=>simp [hp] at h2
          | some y=>
            cases y with
            | v d u=>simp [hp] at h2
            | own s' n' tq a' kj=>
              simp only [hp] at h2
              have hs:bE w (af C w S H) (.own s' n' tq a' kj):=g2 _ (List.mem_of_getElem? hp)
              simp only [bE] at hs
              exact fI (vL hs.2.2.2 h2) h3
      obtain ⟨t,e1,e2,e3,e4⟩:=aaV dW (hu _ h4)
      obtain ⟨S',Dt,af5,aaW,aaX,af6⟩:=Dr (t':=.v (.hole s n) (T.own s n cap a ts).val) h.rt h1 h2 h3 iS
      obtain ⟨A,B,f1,f2⟩:=Dt.fts
      simp only [T.ft,List.append_nil] at f2
      have ez:∀ k∈cF S'++ah (t::H),k∈cF S++ah H:=by
        intro k hk
        rw [f1]
        rw [f2] at hk
        simp only [ah,List.mem_append] at hk ⊢
        rcases hk with (hk | hk) | (hk | hk)
        · exact .inl (.inl (.inl hk))
        · exact .inl (.inr hk)
        · exact .inl (.inl (.inr (e4.mem hk)))
        · exact .inr hk
      have fh:(cF S'++ah (t::H)).Nodup:=by
        have h0:=E5.nd
        rw [f1] at h0
        rw [f2]
        have p1:(A++(T.own s n cap a ts).ft++B++ah H).Perm (A++B++((T.own s n cap a ts).ft++ah H)):=by
          simp only [List.append_assoc]
          refine List.Perm.append_left A ?_
          rw [← List.append_assoc,← List.append_assoc]
          exact List.Perm.append_right _ List.perm_append_comm
        have h00:=p1.nodup_iff.1 h0
        refine List.Nodup.sublist ?_ h00
        simp only [ah]
        exact List.Sublist.append (List.Sublist.refl _) (List.Sublist.append e4 (List.Sublist.refl _))
      have cy:jh w w (af C w S H) (af C w S' (t::H)):=fun b k hh=>⟨jy ez b k hh,rfl⟩
      have dR:∀ d u,bj w (af C w S H) S d u→bj w (af C w S' (t::H)) S' d u:=fun d u hh=>Mr cy Dt (.inr ⟨rfl,fun p h=>by simpa [T.er,bL,sn] using h⟩) hh
      have dg:Mem C w S' (t::H):=P9 E5 (SR.refl S) Dt rfl (.inl (by simp [bE,bL,Ext])) fh ez (by
          simp only [bF]
          exact ⟨dK cy _ e3 (fun _ _=>rfl),gn cy _ E5.hand (fun _ _=>rfl)⟩) dR (fun d u hh=>gi cy _ _ hh)
      exact ⟨t,S',h.rv af5 aaW aaX dR dg (ya h.kept ez (fun r R' hr=>Dt.par rfl hr)),e1,e2,dR,⟨fun r R hr=>by
        obtain ⟨R',k1,k2,k3⟩:=Dt.Js hr
        obtain ⟨R0,k4,k5,k6⟩:=Dt.par rfl k1
        rw [hr,Option.some.injEq] at k4
        subst k4
        exact ⟨R',k1,k2,k6⟩⟩,⟨aaW,aaX,af6⟩,fun r' q' o' x' he=>by
        simp only [D.ref.injEq] at he
        obtain ⟨rfl,rfl,rfl,rfl⟩:=he
        refine ⟨_,_,rfl,rfl,Dt.Dp,fun hx=>⟨?_,fun p he=>?_⟩⟩
        · subst hx
          have:=hu _ h4
          simp only [eK,sn,T.er] at this
          rw [e2,this]; rfl
        · subst hx
          rw [e1] at he
          simpa [T.er,bL,sn,trim] using he⟩
    · rename_i g s n cs hc
      simp only [Option.some.injEq,Prod.mk.injEq] at ht
      obtain ⟨rfl,rfl⟩:=ht
      obtain ⟨R,l,t0,h1,h2,h3,h4,h5⟩:=iI h.rt hc
      have E5:=h.mem
      have dW:bE w (af C w S H) t0:=by
        obtain ⟨_,g2⟩:=E5.root r R h1
        cases q with
        | nil=>
          simp only [aw,Option.some.injEq] at h2
          subst h2
          have:=g2 _ (List.mem_of_getElem? h3)
          cases t0 with
          | own s n cap a xs=>exact this
          | v d u=>
            rcases this with h3 | ⟨_,h3⟩
            · exact h3
            · simp only [T.er] at h5
              simp only [bE]
              rw [← h5] at h3 ⊢
              exact h3
        | cons p q=>
          rw [aw] at h2
          cases hp:R.cs[p]? with
          | none=>simp [hp] at h2
          | some y=>
            cases y with
            | v d u=>simp [hp] at h2
            | own s' n' tq a' kj=>
              simp only [hp] at h2
              have hs:bE w (af C w S H) (.own s' n' tq a' kj):=g2 _ (List.mem_of_getElem? hp)
              simp only [bE] at hs
              exact fI (vL hs.2.2.2 h2) h3
      have j6:t0.ft=[]:=by
        cases t0 with
        | v d u=>rfl
        | own s' n' cap a ts=>simp [T.er] at h5
      have:=BQ (X':=af C w S H) (fun _ _ h=>h) false h5.symm dW (by simp [j6]) (hu _ h4)
      obtain ⟨t,S',a1,a2,a3,a4,a5,a6,a7⟩:=plain this rfl
      refine ⟨t,S',a1,a2,a3,a4,a5,a6,fun r' q' o' x' he=>?_⟩
      simp only [D.ref.injEq] at he
      obtain ⟨rfl,rfl,rfl,rfl⟩:=he
      cases t0 with
      | own s' n' cap a ts=>simp [T.er] at h5
      | v d0 u0=>
        simp only [T.er] at h5
        have hd0:d0=.sl (some g) s n cs:=by
          cases d0 with
          | sl g0 s0 n0 cs0=>
            cases g0 with
            | none=>simp [bL] at h5
            | some g0=>exact h5.symm
          | _=>simp [bL] at h5
        subst hd0
        refine ⟨_,u0,rfl,rfl,a7▸h4,fun hx=>⟨?_,fun p he=>?_⟩⟩
        · subst hx
          have:=hu _ h4
          simp only [eK,sn,T.er,bL] at this
          rw [a3]; exact this
        · subst hx
          rw [a2] at he
          simpa [iw,trim,sn,T.er,bL] using he
    · simp at ht
  | _=>simp [iU] at ht
end
end Go.Proofs.YtockoilcnmljiaaGreat
namespace Go.Proofs.YtockoilcnmljiaaGreat
theorem qh (r:Nat):ld (cB r):=
  ⟨fun _ _ _ _=>rfl,fun _ _=>rfl,fun d h=>by cases d<;>simp only [cB]<;>first | rfl | (split<;>rfl) | exact h⟩
theorem Q9 (r:Nat):ld (eu r):=
  ⟨fun _ _ _ _=>rfl,fun _ _=>rfl,fun d h=>by
    cases d with
    | ref r' q o x=>simp only [eu]; split<;>rfl
    | ptr r' q o=>cases q<;>simp only [eu]<;>first | rfl | (split<;>rfl)
    | _=>exact h⟩
theorem mi (r:Nat) (q:List Nat) (o:Nat) (e:Bool):ld (ct r q o e):=
  ⟨fun _ _ _ _=>rfl,fun _ _=>rfl,fun d h=>by
    cases d with
    | ref r' q' o' x=>
      simp only [ct]
      split
      · split
        · rfl
        · split<;>rfl
        · rfl
      · rfl
    | ptr r' q' o'=>
      simp only [ct]
      split
      · split<;>rfl
      · rfl
    | _=>exact h⟩
theorem zS (r:Nat) (q:List Nat) (o r1:Nat) (q1:List Nat) (o1:Nat):ld (rj r q o r1 q1 o1):=
  ⟨fun _ _ _ _=>rfl,fun _ _=>rfl,fun d h=>by
    cases d with
    | ref r' q' o' x=>
      simp only [rj]
      split
      · split<;>rfl
      · rfl
    | ptr r' q' o'=>
      simp only [rj]
      split
      · split<;>rfl
      · rfl
    | _=>exact h⟩
theorem rz {g:D→D} (hg:ld g) (hs:∀ d,g d=d∨(∃ r q o x,d=.ref r q o x)∨∃ r q o,d=.ptr r q o) {w:World} {X:Bool→Nat→Prop} {d:D} {u:Value} (h:Ext w X d u):Ext w X (fa g d) u:=by
  rcases hs d with h1 | ⟨r,q,o,x,rfl⟩ | ⟨r,q,o,rfl⟩
  · cases d<;>first | (simp only [fa,h1]; exact h) | (simp [Ext] at h)
  · simp [Ext] at h
  · simp [Ext] at h
theorem Ra (r:Nat) (d:D):cB r d=d∨(∃ r q o x,d=.ref r q o x)∨∃ r q o,d=.ptr r q o:=by
  cases d<;>first | exact .inl rfl | exact .inr (.inl ⟨_,_,_,_,rfl⟩) | exact .inr (.inr ⟨_,_,_,rfl⟩)
theorem Rb (r:Nat) (d:D):eu r d=d∨(∃ r q o x,d=.ref r q o x)∨∃ r q o,d=.ptr r q o:=by
  cases d<;>first | exact .inl rfl | exact .inr (.inl ⟨_,_,_,_,rfl⟩) | exact .inr (.inr ⟨_,_,_,rfl⟩)
theorem yb (r:Nat) (q:List Nat) (o:Nat) (e:Bool) (d:D):ct r q o e d=d∨(∃ r q o x,d=.ref r q o x)∨∃ r q o,d=.ptr r q o:=by
  cases d<;>first | exact .inl rfl | exact .inr (.inl ⟨_,_,_,_,rfl⟩) | exact .inr (.inr ⟨_,_,_,rfl⟩)
theorem ud {w:World} {X:Bool→Nat→Prop} {S:List (Nat × RT)} {g:D→D} {d:D} {u:Value} (h:bj w X S d u):fa g d=g d:=by
  cases d<;>first | rfl | (simp [bj,Ext] at h)
section
variable {C:Ctx} {H Hs:List T} {w w':World} {st:St} {aE:List (Array Value)} {S:List (Nat × RT)}
theorem XV {S:List (Nat × RT)} {k:Nat} (r:RT):∃ A B bN,cF S=A++bN++B∧cF (pt S k r)=A++r.ft++B:=by
  cases h:lk S k with
  | none=>exact ⟨cF S,[],[],by simp,by rw [Q4 h]; simp⟩
  | some R=>
    obtain ⟨A,B,h1,h2⟩:=lI h
    exact ⟨A,B,R.ft,h1,h2 r⟩
theorem Mv (h:Rel C (Hs++H) w st aE S) {r:Nat} {R:RT} (eL:∀ k∈R.ft,k∈ah Hs∨w.heap.size≤k):
    ∀ k∈cF (pt (fS (cB r) S) r R)++ah H,k∈cF S++ah (Hs++H)∨w.heap.size≤k:=by
  obtain ⟨A,B,bN,f1,f2⟩:=XV (S:=fS (cB r) S) (k:=r) R
  rw [tS] at f1
  intro k hk
  rw [f2] at hk
  rw [f1,bg]
  simp only [List.mem_append] at hk ⊢
  rcases hk with ((hk | hk) | hk) | hk
  · exact .inl (.inl (.inl (.inl hk)))
  · rcases eL k hk with h2 | h2
    · exact .inl (.inr (.inl h2))
    · exact .inr h2
  · exact .inl (.inl (.inr hk))
  · exact .inl (.inr (.inr hk))
theorem oc (h:Rel C (Hs++H) w st aE S) {r:Nat} {R:RT} (eL:∀ k∈R.ft,k∈ah Hs∨w.heap.size≤k) (cX:w.heap.size≤w'.heap.size) (hold:∀ k,k < w.heap.size→w'.heap[k]?=w.heap[k]?):
    jh w w' (af C w S (Hs++H)) (af C w' (pt (fS (cB r) S) r R) H):=by
  have ez:=Mv (r:=r) h eL
  intro b k hk
  refine ⟨⟨by have:=hk.1; omega,fun hx=>?_,fun hx=>?_,hk.2.2.2⟩,hold k hk.1⟩
  · rcases ez k (List.mem_append.2 (.inl hx)) with h2 | h2
    · rcases List.mem_append.1 h2 with h3 | h3
      · exact hk.2.1 h3
      · exact hk.2.2.1 h3
    · have:=hk.1; omega
  · rcases ez k (List.mem_append.2 (.inr hx)) with h2 | h2
    · rcases List.mem_append.1 h2 with h3 | h3
      · exact hk.2.1 h3
      · exact hk.2.2.1 h3
    · have:=hk.1; omega
theorem E7 (h:Rel C (Hs++H) w st aE S) {r:Nat} {R:RT} (eL:∀ k∈R.ft,k∈ah Hs∨w.heap.size≤k) (cX:w.heap.size≤w'.heap.size) (hold:∀ k,k < w.heap.size→w'.heap[k]?=w.heap[k]?):
    ∀ d u,bj w (af C w S (Hs++H)) S d u→bj w' (af C w' (pt (fS (cB r) S) r R) H) (pt (fS (cB r) S) r R) (cB r d) u:=
  fun _ _ hd=>VB (oc h eL cX hold) rfl (qf (qh r) hd)
theorem yc (h:Rel C (Hs++H) w st aE S) {r:Nat} {R:RT} (hR:Mi w' (af C w' (pt (fS (cB r) S) r R) H) (pt (fS (cB r) S) r R) R)
    (eL:R.ft.Nodup∧∀ k∈R.ft,k∈ah Hs∨w.heap.size≤k) (cT:∀ k∈R.ft,k < w'.heap.size) (cX:w.heap.size≤w'.heap.size) (hold:∀ k,k < w.heap.size→w'.heap[k]?=w.heap[k]?)
    (nc:w'.os=w.os) (tT:w'.tape=w.tape) (uM:w'.output=w.output) (hP:∀ p∈C.P0,p.1≠r):
    Rel C H w' { st.eS (cB r) with rt:=pz (st.eS (cB r)).rt r (bh R.cs) } aE (pt (fS (cB r) S) r R)∧
    ∀ d u,bj w (af C w S (Hs++H)) S d u→bj w' (af C w' (pt (fS (cB r) S) r R) H) (pt (fS (cB r) S) r R) (cB r d) u:=by
  obtain ⟨A,B,bN,f1,f2⟩:=XV (S:=fS (cB r) S) (k:=r) R
  rw [tS] at f1
  have ez:=Mv (r:=r) h eL.2
  have cy:=oc (r:=r) h eL.2 cX hold
  have dR:=E7 (r:=r) h eL.2 cX hold
  have fh:(cF (pt (fS (cB r) S) r R)++ah H).Nodup:=by
    have h0:=h.mem.nd
    rw [f1,bg] at h0
    rw [f2]
    have aaZ:=h.mem.lt
    rw [f1,bg] at aaZ
    simp only [List.nodup_append,List.mem_append] at h0 ⊢
    obtain ⟨⟨⟨a1,a2,a3⟩,a4,a5⟩,⟨b1,b2,b3⟩,c⟩:=h0
    have new:∀ x,x∈R.ft→∀ y,(y∈A∨y∈B∨y∈ah H)→x≠y:=by
      intro x hx y hy e
      subst e
      rcases eL.2 x hx with h2 | h2
      · rcases hy with hy | hy | hy
        · exact c x (.inl (.inl hy)) x (.inl h2) rfl
        · exact c x (.inr hy) x (.inl h2) rfl
        · exact b3 x h2 x hy rfl
      · have:x < w.heap.size:=aaZ x (by
          simp only [List.mem_append]
          rcases hy with hy | hy | hy
          · exact .inl (.inl (.inl hy))
          · exact .inl (.inr hy)
          · exact .inr (.inr hy))
        omega
    refine ⟨⟨⟨a1,eL.1,fun x hx y hy e=>new y hy x (.inl hx) e.symm⟩,a4,?_⟩,b2,?_⟩
    · intro x hx y hy e
      rcases hx with hx | hx
      · exact a5 x (.inl hx) y hy e
      · exact new x hx y (.inr (.inl hy)) e
    · intro x hx y hy e
      rcases hx with (hx | hx) | hx
      · exact c x (.inl (.inl hx)) y (.inr hy) e
      · exact new x hx y (.inr (.inr hy)) e
      · exact c x (.inr hx) y (.inr hy) e
  refine ⟨h.step (f:=cB r) ?_ rfl rfl dR ⟨fh,?_,?_,?_⟩ ⟨by rw [nc]; exact h.kept.os,by rw [tT]; exact h.kept.tape,by rw [uM]; exact h.kept.output,Nat.le_trans h.kept.size cX,?_,?_,?_⟩,dR⟩
  · exact BP (pj (qh r) h.rt) r R
  · intro r' R' ey
    by_cases he:r'=r
    · subst he
      rw [cD,Option.some.injEq] at ey
      subst ey
      exact hR
    · rw [dD _ _ he,lq] at ey
      cases hx:lk S r' with
      | none=>simp [hx] at ey
      | some R0=>
        simp only [hx,Option.map_some,Option.some.injEq] at ey
        subst ey
        obtain ⟨k1,k2⟩:=h.mem.root r' R0 hx
        have lK:∀ k∈R0.ft,k∈cF S:=by
          intro k hk
          obtain ⟨A',B',e1,_⟩:=lI hx
          rw [e1]; simp [hk]
        refine ⟨?_,?_⟩
        · simp only [List.length_map]
          have hv:aC (R0.cs.map (fT (cB r)))=aC R0.cs:=by
            rw [cS,cS,List.map_map]
            congr 1
            funext t
            cases t<;>rfl
          rw [hv]
          cases hb:R0.box with
          | none=>trivial
          | some b=>
            simp only [hb] at k1 ⊢
            obtain ⟨c,e,fz,g1,g2⟩:=k1
            have XW:b < w.heap.size:=h.mem.lt b (List.mem_append.2 (.inl (lK b (by simp [RT.ft,hb]))))
            exact ⟨c,e,fz,by rw [hold b XW]; exact g1,g2⟩
        · intro t ht
          simp only [List.mem_map] at ht
          obtain ⟨t0,ks,rfl⟩:=ht
          have:=k2 t0 ks
          cases t0 with
          | v d u=>
            simp only [fT,iW] at this ⊢
            rw [(qh r).leaf]
            rcases this with this | ⟨hb,this⟩
            · exact .inl (rz (qh r) (Ra r) (gi cy _ _ this))
            · exact .inr ⟨hb,by rw [ud this]; exact dR _ _ this⟩
          | own s n cap a xs=>
            simp only [fT]
            refine dK cy _ this (fun k hk=>hold k (h.mem.lt k (List.mem_append.2 (.inl (lK k ?_)))))
            obtain ⟨i,hi⟩:=List.mem_iff_getElem?.1 ks
            obtain ⟨A',B',e1,_⟩:=dN R0.cs i _ hi
            rw [RT.ft,e1]; simp [hk]
  · have:=h.mem.hand
    rw [dL] at this
    refine gn cy _ this.2 (fun k hk=>hold k (h.mem.lt k ?_))
    rw [bg]; simp [hk]
  · intro k hk
    rw [f2] at hk
    simp only [List.mem_append] at hk
    have hl:=h.mem.lt k
    rw [f1,bg] at hl
    simp only [List.mem_append] at hl
    rcases hk with ((hk | hk) | hk) | hk
    · have:=hl (.inl (.inl (.inl hk))); omega
    · exact cT k hk
    · have:=hl (.inl (.inr hk)); omega
    · have:=hl (.inr (.inr hk)); omega
  · intro k hk hf
    rw [hold k (by have:=h.kept.size; omega)]
    exact h.kept.block k hk hf
  · intro k hk
    rcases ez k hk with h2 | h2
    · exact h.kept.ix k h2
    · have:=h.kept.size
      exact .inr (by omega)
  · intro r' b vs hm R' ey
    have cZ:=hP _ hm
    rw [dD _ _ cZ,lq] at ey
    cases hx:lk S r' with
    | none=>simp [hx] at ey
    | some R0=>
      simp only [hx,Option.map_some,Option.some.injEq] at ey
      subst ey
      obtain ⟨g1,g2⟩:=h.kept.par r' b vs hm R0 hx
      refine ⟨g1,fun hb=>?_⟩
      rw [← g2 hb]
      simp only [cS,List.map_map]
      congr 1
      funext t
      cases t<;>rfl
end
end Go.Proofs.YtockoilcnmljiaaGreat
namespace Go.Proofs.YtockoilcnmljiaaGreat
def qi:T→List Nat→Option T
  | t,[]=>some t
  | .own _ _ _ _ cs,o::q=>match cs[o]? with
    | some t=>qi t q
    | none=>none
  | _,_::_=>none
theorem S5 (y:List Nat):∀ t:T,Dh t.er y=(qi t y).map T.er:=by
  induction y with
  | nil=>intro t; cases t<;>simp [Dh,qi]
  | cons o q ih=>
    intro t
    cases t with
    | v d u=>
      simp only [T.er,qi,Option.map_none]
      cases d with
      | sl g s n cs=>cases g<;>simp [bL,Dh]
      | _=>simp [bL,Dh]
    | own s n cap a cs=>
      simp only [T.er,Dh,qi,ic]
      cases cs[o]? with
      | none=>rfl
      | some t=>simp [ih]
theorem Zj {w:World} {X:Bool→Nat→Prop} (y:List Nat):∀ {t t2:T},bE w X t→qi t y=some t2→bE w X t2∧∀ k∈t2.ft,k∈t.ft:=by
  induction y with
  | nil=>
    intro t t2 hs h
    have:t2=t:=by cases t<;>simpa [qi] using h.symm
    subst this
    exact ⟨hs,fun _ h=>h⟩
  | cons o q ih=>
    intro t t2 hs h
    cases t with
    | v d u=>simp [qi] at h
    | own s n cap a cs=>
      simp only [qi] at h
      cases hc:cs[o]? with
      | none=>simp [hc] at h
      | some t1=>
        simp only [hc] at h
        simp only [bE] at hs
        obtain ⟨h1,h2⟩:=ih (fI hs.2.2.2 hc) h
        refine ⟨h1,fun k hk=>?_⟩
        obtain ⟨A,B,e,_⟩:=dN cs o _ hc
        simp [T.ft,e,h2 k hk]
theorem S6 (y:List Nat):∀ {t:T} {cs:List T} {o:Nat},cs[o]?=some t→∀ {q':List Nat} {o':Nat},q'++[o']=o::y→(match aw cs q' with | some l=>l[o']? | none=>none)=qi t y:=by
  induction y with
  | nil=>
    intro t cs o ho q' o' he
    cases q' with
    | nil=>
      simp only [List.nil_append,List.cons.injEq,and_true] at he
      subst he
      simp only [aw,ho]
      cases t<;>rfl
    | cons p q'=>simp at he
  | cons z y ih=>
    intro t cs o ho q' o' he
    cases q' with
    | nil=>simp at he
    | cons p q'=>
      simp only [List.cons_append,List.cons.injEq] at he
      obtain ⟨rfl,he⟩:=he
      simp only [aw,ho]
      cases t with
      | v d u=>rfl
      | own s n cap a xs=>
        simp only [qi]
        cases hz:xs[z]? with
        | none=>
          simp only
          cases q' with
          | nil=>
            simp only [List.nil_append,List.cons.injEq] at he
            obtain ⟨rfl,_⟩:=he
            simp [aw,hz]
          | cons p' q''=>
            simp only [List.cons_append,List.cons.injEq] at he
            obtain ⟨rfl,_⟩:=he
            simp [aw,hz]
        | some t1=>exact ih hz he
theorem VF {q:List Nat} {o:Nat} {y:List Nat} {t:T}:∀ {cs l:List T},aw cs q=some l→l[o]?=some t→∀ {q':List Nat} {o':Nat},under (q++[o]) (q'++[o'])=some y→(match aw cs q' with | some l=>l[o']? | none=>none)=qi t y:=by
  induction q with
  | nil=>
    intro cs l hc ho q' o' hu
    simp only [aw,Option.some.injEq] at hc
    subst hc
    have:=jg hu
    simp only [List.nil_append,List.singleton_append] at this
    exact S6 y ho this
  | cons p q ih=>
    intro cs l hc ho q' o' hu
    rw [aw] at hc
    cases hp:cs[p]? with
    | none=>simp [hp] at hc
    | some x=>
      cases x with
      | v d u=>simp [hp] at hc
      | own s n cap a xs=>
        simp only [hp] at hc
        cases q' with
        | nil=>have:=jg hu; simp at this
        | cons p' q'=>
          simp only [List.cons_append,under] at hu
          split at hu
          · rename_i e
            subst e
            simp only [aw,hp]
            exact ih hc ho hu
          · simp at hu
section
variable {w w':World} {X X':Bool→Nat→Prop} {S S1 S':List (Nat × RT)} (hX:jh w w' X X')
include hX
theorem Zk {r:Nat} {q:List Nat} {o:Nat} {t t':T} (hc:kr S S' r q o t t') (hs:bE w X t) (hf:∀ k∈t.ft,X' false k∧w'.heap[k]?=w.heap[k]?) {d:D} {u:Value} (h:bj w X S d u):bj w' X' S' (uz r q o t.er d) u:=by
  cases d with
  | ref r' q' o' x=>
    simp only [uz]
    split
    · rename_i hr
      subst hr
      cases hu:under (q++[o]) (q'++[o']) with
      | none=>
        simp only
        intro t2 h2
        obtain ⟨t1,h1,hl⟩:=hc.uL (.inr hu) h2
        exact kq hl (h t1 h1)
      | some y=>
        simp only
        obtain ⟨R,cs',l,h1,h2,h3,h4,rfl⟩:=hc.ex
        have cM:cu S r' q' o'=qi t y:=by
          unfold cu
          rw [h1]
          exact VF h2 h3 hu
        cases hd:qi t y with
        | none=>rw [S5,hd]; simp [bj,Ext]
        | some t2=>
          rw [S5,hd]
          simp only [Option.map_some]
          cases he:t2.er with
          | sl g s n cs=>
            simp only
            obtain ⟨g1,g2⟩:=Zj y hs hd
            have hr:=h t2 (by rw [cM,hd])
            have uJ:bE w' X' t2:=dK hX _ g1 (fun k hk=>(hf k (g2 k hk)).2)
            exact fZ (BQ (X':=X') (fun _ _ h=>h) false he uJ (fun k hk=>(hf k (g2 k hk)).1) hr)
          | _=>simp [bj,Ext]
    · rename_i hr
      intro t2 h2
      obtain ⟨t1,h1,hl⟩:=hc.uL (.inl hr) h2
      exact kq hl (h t1 h1)
  | ptr r' q' o'=>exact x8 hX hc (ex:=true) (by simp) h
  | da cs o'=>exact oa hX h
  | _=>simp only [uz]; exact x8 hX hc (ex:=true) (by simp) h
end
section
variable {C:Ctx} {H H':List T} {w w':World} {S S1 S':List (Nat × RT)}
theorem S7 (hm:Mem C w S H) {g:D→D} (hS:SR g S S1) {r:Nat} {q:List Nat} {o:Nat} {t t':T} (hc:kr S1 S' r q o t t') {R0:RT} (XX:lk S r=some R0) {b off:Nat} (zT:q=[]→R0.box=some b∧off=0) (hq:q≠[]→bV R0.box R0.cs q=some (b,off)) (hu:P4 w w' b (off+o) t'.val)
    (hs:bE w' (af C w' S' H') t'∨∃ d u,t'=.v d u∧q=[]∧bj w' (af C w' S' H') S' (bL d) u) (cy:jh w w' (af C w S H) (af C w' S' H'))
    (fh:(cF S'++ah H').Nodup) (ez:∀ k∈cF S'++ah H',k∈cF S++ah H) (hh:bF w' (af C w' S' H') H') (dR:∀ d u,bj w (af C w S H) S d u→bj w' (af C w' S' H') S' (g d) u) (qg:∀ d u,Ext w' (af C w' S' H') d u→Ext w' (af C w' S' H') (g d) u) (cX:w'.heap.size=w.heap.size):Mem C w' S' H':=by
  have CI:b∈R0.ft:=by
    cases q with
    | nil=>obtain ⟨h1,_⟩:=zT rfl; simp [RT.ft,h1]
    | cons p q=>simp [RT.ft,rq (hq (by simp))]
  obtain ⟨A0,B0,f1,_⟩:=lI XX
  have aa0:=hm.nd
  rw [f1] at aa0
  have XY:∀ {r1:Nat} {R1:RT},lk S r1=some R1→r1≠r→∀ k∈R1.ft,k≠b:=by
    intro r1 R1 h1 cZ k hk e
    subst e
    obtain ⟨A1,B1,e1,e2⟩:=lI XX
    have hx:lk (pt S r ⟨none,[]⟩) r1=some R1:=by rw [dD _ _ cZ]; exact h1
    obtain ⟨A2,B2,e3,_⟩:=lI hx
    have dg:k∈cF (pt S r ⟨none,[]⟩):=by rw [e3]; simp [hk]
    have h0:(RT.mk none []).ft=[]:=rfl
    rw [e2,h0] at dg
    have hn:=hm.nd
    rw [e1] at hn
    simp only [List.append_nil,List.mem_append,List.nodup_append] at dg hn
    rcases dg with dg | dg
    · exact hn.1.1.2.2 k dg k CI rfl
    · exact hn.1.2.2 k (.inr CI) k dg rfl
  have adJ:∀ t0:T,bE w (af C w S H) t0→b∉t0.ft→bE w' (af C w' S' H') t0:=fun t0 h0 hb=>dK cy _ h0 (fun k hk=>by
    obtain ⟨_,_,_,_,_,h3⟩:=hu
    exact h3 k (fun e=>hb (e▸hk)))
  have cell:∀ {bx:Bool} {t0 t1:T},iW w (af C w S H) S bx t0→GT g t0 t1→b∉t0.ft→iW w' (af C w' S' H') S' bx t1:=by
    intro bx t0 t1 h0 hg hb
    rcases hg with ⟨d,d1,u,rfl,rfl,he⟩ | ⟨⟨s,n,cap,a,xs,rfl⟩,rfl⟩
    · simp only [iW] at h0 ⊢
      rw [he]
      rcases h0 with h0 | ⟨hb,h0⟩
      · exact .inl (qg _ _ (gi cy _ _ h0))
      · exact .inr ⟨hb,dR _ _ h0⟩
    · exact adJ _ h0 hb
  refine ⟨fh,?_,hh,fun k hk=>by rw [cX]; exact hm.lt k (ez k hk)⟩
  intro r' R' eh
  obtain ⟨R1,cs',l,h1,h2,h3,h4,rfl⟩:=hc.ex
  by_cases he:r'=r
  · subst he
    rw [cD,Option.some.injEq] at eh
    subst eh
    obtain ⟨R,g1,g2,g3,g4,g5⟩:=hS.ry h1
    rw [XX,Option.some.injEq] at g1
    subst g1
    obtain ⟨k1,k2⟩:=hm.root r' R0 XX
    have zU:R0.ft.Nodup:=(List.nodup_append.1 (List.nodup_append.1 (List.nodup_append.1 aa0).1).1).2.1
    cases q with
    | nil=>
      obtain ⟨CJ,zM⟩:=zT rfl
      subst zM
      simp only [aw,Option.some.injEq] at h2
      simp only [dF,Option.some.injEq] at h4
      subst h2; subst h4
      obtain ⟨cT,hto⟩:=List.getElem?_eq_some_iff.1 h3
      simp only [CJ] at k1
      rw [RT.ft,CJ] at zU
      simp only [Option.toList,List.cons_append,List.nil_append,List.nodup_cons] at zU
      refine ⟨?_,?_⟩
      · simp only [List.length_set]
        rw [g2,CJ]
        simp only
        rw [pD,g4,g3]
        exact P5 hu (by omega) k1 (by rw [bP]; exact Nat.le_refl _)
      · intro t0 ks
        obtain ⟨j,hj⟩:=List.mem_iff_getElem?.1 ks
        simp only at hj
        by_cases Jm:o=j
        · subst Jm
          rw [List.getElem?_set_self cT,Option.some.injEq] at hj
          subst hj
          rcases hs with hs | ⟨d,u,rfl,_,hs⟩
          · cases t' with
            | v d u=>exact .inl hs
            | own s n cap a xs=>exact hs
          · exact .inr ⟨by rw [g2,CJ]; rfl,hs⟩
        · rw [List.getElem?_set_ne Jm] at hj
          obtain ⟨Qa,e1,e2⟩:=g5 j _ hj
          have:=cell (k2 _ (List.mem_of_getElem? e1)) e2 (fun hb=>zU.1 (by
            obtain ⟨A',B',e3,_⟩:=dN R0.cs j _ e1
            rw [e3]; simp [hb]))
          rw [← g2] at this
          exact this
    | cons p q=>
      have ha:=hq (by simp)
      have uJ:bE w' (af C w' (pt S1 r' ⟨R1.box,cs'⟩) H') t':=by
        rcases hs with hs | ⟨d,u,_,hq,_⟩
        · exact hs
        · simp at hq
      have gE:=(mf h4).1
      have hlen:=(mf h4).2
      rw [aw] at h2
      rw [dF] at h4
      cases hp:R1.cs[p]? with
      | none=>simp [hp] at h2
      | some x=>
        cases x with
        | v d u=>simp [hp] at h2
        | own s n cap a xs=>
          simp only [hp] at h2 h4
          cases hx:dF (fun l=>l.set o t') xs q with
          | none=>simp [hx] at h4
          | some kj=>
            simp only [hx,Option.some.injEq] at h4
            obtain ⟨Qa,e1,e2⟩:=g5 p _ hp
            have XZ:R0.cs[p]?=some (.own s n cap a xs):=by
              rcases e2 with ⟨d,d1,u,_,e2,_⟩ | ⟨_,e2⟩
              · simp at e2
              · rw [e1,e2]
            have dW:bE w (af C w S H) (.own s n cap a xs):=k2 _ (List.mem_of_getElem? XZ)
            obtain ⟨A',B',e3,e4⟩:=dN R0.cs p _ XZ
            have rA:(ah R0.cs).Nodup:=by rw [RT.ft] at zU; exact (List.nodup_append.1 zU).2.1
            have uN:b∈(T.own s n cap a xs).ft:=by
              rw [bV] at ha
              simp only [XZ] at ha
              cases q with
              | nil=>simp only at ha; subst ha; simp [T.ft,iV]
              | cons p' q'=>simp only at ha; simp [T.ft,rq ha]
            have adK:bE w' (af C w' (pt S1 r' ⟨R1.box,cs'⟩) H') (.own s n cap a kj):=by
              have h5:bF w (af C w S H) [T.own s n cap a xs]:=by simp only [bF]; exact ⟨dW,trivial⟩
              have h6:(ah [T.own s n cap a xs]).Nodup:=by
                simp only [ah,List.append_nil]
                rw [e3] at rA
                exact (List.nodup_append.1 (List.nodup_append.1 rA).1).2.1
              have h7:bV none [T.own s n cap a xs] (0::q)=some (b,off):=by
                rw [bV] at ha
                simp only [XZ] at ha
                simp only [bV,List.getElem?_cons_zero]
                exact ha
              have h8:=Y9 (cs':=[T.own s n cap a kj]) (l:=l) cy uJ hu (q:=q) h5 h6 (by simp only [aw,List.getElem?_cons_zero]; exact h2) h7 (List.getElem?_eq_some_iff.1 h3).1 (by simp [dF,hx])
              simp only [bF] at h8
              exact h8.1
            refine ⟨?_,?_⟩
            · simp only
              rw [gE,hlen,g4,g3,g2]
              cases hb:R0.box with
              | none=>trivial
              | some b0=>
                simp only [hb] at k1 ⊢
                refine Hj hu (fun e=>?_) k1
                subst e
                rw [RT.ft,hb] at zU
                simp only [Option.toList,List.cons_append,List.nil_append,List.nodup_cons] at zU
                exact zU.1 (by rw [e3]; simp [uN])
            · intro t0 ks
              subst h4
              obtain ⟨j,hj⟩:=List.mem_iff_getElem?.1 ks
              simp only at hj
              obtain ⟨cT,_⟩:=List.getElem?_eq_some_iff.1 hp
              by_cases tB:p=j
              · subst tB
                rw [List.getElem?_set_self cT,Option.some.injEq] at hj
                subst hj
                exact adK
              · rw [List.getElem?_set_ne tB] at hj
                obtain ⟨t01,e5,e6⟩:=g5 j _ hj
                have zM:b∉t01.ft:=by
                  intro hb
                  have h7:=e4 (.v .undef undef)
                  have EP:(R0.cs.set p (.v .undef undef))[j]?=some t01:=by rw [List.getElem?_set_ne tB]; exact e5
                  obtain ⟨A2,B2,e7,_⟩:=dN _ j t01 EP
                  have fO:b∈ah (R0.cs.set p (.v .undef undef)):=by rw [e7]; simp [hb]
                  rw [h7] at fO
                  rw [e3] at rA
                  simp only [T.ft,List.append_nil,List.mem_append] at fO
                  rw [List.nodup_append,List.nodup_append] at rA
                  rcases fO with fO | fO
                  · exact rA.1.2.2 b fO b uN rfl
                  · exact rA.2.2 b (List.mem_append.2 (.inr uN)) b fO rfl
                have:=cell (k2 _ (List.mem_of_getElem? e5)) e6 zM
                rw [← g2] at this
                exact this
  · rw [dD _ _ he] at eh
    obtain ⟨R,g1,g2,g3,g4,g5⟩:=hS.ry eh
    obtain ⟨k1,k2⟩:=hm.root r' R g1
    refine ⟨?_,?_⟩
    · rw [g4,g3,g2]
      cases hb:R.box with
      | none=>trivial
      | some b0=>
        simp only [hb] at k1 ⊢
        exact Hj hu (XY g1 he b0 (by simp [RT.ft,hb])) k1
    · intro t0 ks
      obtain ⟨j,hj⟩:=List.mem_iff_getElem?.1 ks
      obtain ⟨Qa,e1,e2⟩:=g5 j _ hj
      have:=cell (k2 _ (List.mem_of_getElem? e1)) e2 (fun hb=>by
        refine XY g1 he b ?_ rfl
        obtain ⟨A',B',e3,_⟩:=dN R.cs j _ e1
        rw [RT.ft,e3]; simp [hb])
      rw [← g2] at this
      exact this
end
theorem Zl {w:World} {b off fe:Nat} {us:List Value} (h:lh w b off fe us) {o:Nat} (ho:o < fe) (u:Value):P4 w (w.setCell ⟨b,off+o,none⟩ u) b (off+o) u:=by
  obtain ⟨c,e,fz,h1,_,h3,_⟩:=h
  refine ⟨c,e,fz,h1,?_,fun k hk=>?_⟩
  · simp [World.setCell,Array.getElem?_modify,h1]
  · simp only [World.setCell,Array.getElem?_modify]
    rw [if_neg (by simpa using (Ne.symm hk))]
end Go.Proofs.YtockoilcnmljiaaGreat
namespace Go.Proofs.YtockoilcnmljiaaGreat
theorem Du {H H':List T} (h:H.Perm H'):(ah H).Perm (ah H'):=by
  induction h with
  | nil=>exact .refl _
  | cons x _ ih=>simp only [ah]; exact .append (.refl _) ih
  | swap x y l=>
    simp only [ah]
    rw [← List.append_assoc,← List.append_assoc]
    exact .append List.perm_append_comm (.refl _)
  | trans _ _ h1 h2=>exact h1.trans h2
theorem zV {C:Ctx} {w:World} {S:List (Nat × RT)} {H H':List T} (h:H.Perm H'):af C w S H=af C w S H':=by
  funext b k
  simp only [af,(Du h).mem_iff]
theorem Rel.perm {C:Ctx} {H H':List T} {w:World} {st:St} {aE:List (Array Value)} {S:List (Nat × RT)} (hp:H.Perm H') (h:Rel C H w st aE S):Rel C H' w st aE S:=by
  have hf:=zV (C:=C) (w:=w) (S:=S) hp
  have hfp:=Du hp
  obtain ⟨h1,⟨m1,m2,m3,m4⟩,h3,k⟩:=h
  rw [hf] at m2 m3 h3
  refine ⟨h1,⟨(List.Perm.append (List.Perm.refl (cF S)) hfp).nodup_iff.1 m1,m2,?_,fun k hk=>m4 k ?_⟩,h3,⟨k.os,k.tape,k.output,k.size,k.block,fun x hx=>k.ix x ?_,k.par⟩⟩
  · rw [cj] at m3 ⊢
    exact fun t ht=>m3 t (hp.mem_iff.2 ht)
  · simpa [hfp.mem_iff] using hk
  · simpa [hfp.mem_iff] using hx
def gV (C:Ctx) (w w':World) (S S':List (Nat × RT)) (H H':List T) (f:D→D):Prop:=∀ d u,bj w (af C w S H) S d u→bj w' (af C w' S' H') S' (f d) u
def lL (st st':St):Prop:=st'.tm=st.tm∧st'.up=st.up∧st'.of=st.of
theorem lL.refl (st:St):lL st st:=⟨rfl,rfl,rfl⟩
theorem lL.trans {a b c:St} (h:lL a b) (h':lL b c):lL a c:=⟨h'.1.trans h.1,h'.2.1.trans h.2.1,h'.2.2.trans h.2.2⟩
section
variable {C:Ctx} {w:World} {aE:List (Array Value)}
theorem E8:∀ {ds ds':List D} {us:List Value} {H:List T} {st st':St} {S:List (Nat × RT)},Rel C H w st aE S→cb (bj w (af C w S H) S) ds us→qU st ds=some (ds',st')→
    ∃ ts S',Rel C (ts++H) w st' aE S'∧bh ts=ds'∧aC ts=us∧gV C w w S S' H (ts++H) id∧pJ S S'∧lL st st':=by
  intro ds
  induction ds with
  | nil=>
    intro ds' us H st st' S h hu ht
    cases hu
    simp only [qU,Option.some.injEq,Prod.mk.injEq] at ht
    obtain ⟨rfl,rfl⟩:=ht
    exact ⟨[],S,h,rfl,rfl,fun _ _ h=>h,pJ.refl _,lL.refl _⟩
  | cons d ds ih=>
    intro ds' us H st st' S h hu ht
    cases hu with
    | cons sA CK=>
    simp only [qU] at ht
    split at ht
    case h_2=>simp at ht
    rename_i d1 aN h1
    split at ht
    case h_2=>simp at ht
    rename_i gl ch h2
    simp only [Option.some.injEq,Prod.mk.injEq] at ht
    obtain ⟨rfl,rfl⟩:=ht
    obtain ⟨t,S1,a1,rfl,rfl,a4,a5,a6,_⟩:=uc h sA h1
    obtain ⟨ts,S2,b1,rfl,rfl,b4,b5,b6⟩:=ih a1 (CK.mono (fun _ _ hh=>a4 _ _ hh)) h2
    have hp:(ts++t::H).Perm (t::ts++H):=List.perm_middle
    refine ⟨t::ts,S2,b1.perm hp,by simp [bh],by simp [aC],fun d u hd=>?_,a5.trans b5,lL.trans a6 b6⟩
    have:=b4 _ _ (a4 d u hd)
    rwa [zV hp] at this
end
end Go.Proofs.YtockoilcnmljiaaGreat
namespace Go.Proofs.YtockoilcnmljiaaGreat
structure Grown (w w':World):Prop where
  sz:w.heap.size≤w'.heap.size
  bN:∀ k,k < w.heap.size→w'.heap[k]?=w.heap[k]?
  os:w'.os=w.os
  tape:w'.tape=w.tape
  out:w'.output=w.output
theorem Grown.refl (w:World):Grown w w:=⟨Nat.le_refl _,fun _ _=>rfl,rfl,rfl,rfl⟩
theorem ji (w:World) (o:Obj):(w.alloc o).heap.size=w.heap.size+1:=by
  show (w.heap.push o).size=_
  simp
theorem Jt (w:World) (o:Obj):(w.alloc o).heap[w.heap.size]?=some o:=by
  show (w.heap.push o)[w.heap.size]?=_
  simp
theorem Grown.alloc (w:World) (o:Obj):Grown w (w.alloc o):=
  ⟨by rw [ji]; omega,fun k hk=>by
    show (w.heap.push o)[k]?=_
    simp [Array.getElem?_push,Nat.ne_of_lt hk],rfl,rfl,rfl⟩
theorem Grown.drew (w:World):Grown w w.drew:=⟨Nat.le_refl _,fun _ _=>rfl,rfl,rfl,rfl⟩
theorem Grown.trans {a b c:World} (h:Grown a b) (h':Grown b c):Grown a c:=
  ⟨Nat.le_trans h.sz h'.sz,fun k hk=>(h'.bN k (Nat.lt_of_lt_of_le hk h.sz)).trans (h.bN k hk),h'.os.trans h.os,h'.tape.trans h.tape,h'.out.trans h.out⟩
theorem kt (w:World) (c:Array Value) (e:TypeId) {us:List Value} {fe:Nat} (h1:fe≤c.size) (h2:∀ (j:Nat) (u:Value),us[j]?=some u→c[j]?=some u):lh (w.alloc (.cells c e)) w.heap.size 0 fe us:=
  ⟨c,e,(0,0),Jt w _,fun o _=>by simp,by omega,fun j u hj=>by rw [Nat.zero_add]; exact h2 j u hj⟩
theorem Rel.put {C:Ctx} {H:List T} {w:World} {st:St} {vs:Array Value} {aE:List (Array Value)} {S:List (Nat × RT)} (h:Rel C H w st (vs::aE) S) {t:Nat} (ht:t < vs.size) {d:D} {v:Value} (hv:cr w (af C w S H) S d v):
    Rel C H w (st.put (some t) d) (vs.setIfInBounds t v::aE) S:=by
  obtain ⟨h1,h2,h3,h4⟩:=h
  refine ⟨h1,h2,?_,h4⟩
  cases h3 with
  | cons a b=>exact .cons (ma.put a ht hv) b
section
variable {C:Ctx} {H Hs:List T} {w w':World} {st st':St} {vs:Array Value} {aE:List (Array Value)} {S:List (Nat × RT)}
theorem rB (h:Rel C (Hs++H) w st (vs::aE) S) (hg:Grown w w') {t:Nat} {R:RT} (eL:∀ k∈R.ft,k∈ah Hs∨(w.heap.size≤k∧k < w'.heap.size)) (fh:R.ft.Nodup)
    (hR:∀ S':List (Nat × RT),jh w w' (af C w S (Hs++H)) (af C w' S' H)→(∀ d u,bj w (af C w S (Hs++H)) S d u→bj w' (af C w' S' H) S' (cB (st.of+t) d) u)→Mi w' (af C w' S' H) S' R)
    (ht:t < vs.size) (hP:∀ p∈C.P0,p.1≠st.of+t) {d:Nat→D} {v:Value} (hd:∀ S' X,lk S' (st.of+t)=some R→cr w' X S' (d (st.of+t)) v) (hr:st.root (some t) (bh R.cs) d=some st'):
    ∃ S',Rel C H w' st' (vs.setIfInBounds t v::aE) S':=by
  have VG:∀ k∈R.ft,k∈ah Hs∨w.heap.size≤k:=fun k hk=>(eL k hk).imp id (·.1)
  have cT:∀ k∈R.ft,k < w'.heap.size:=fun k hk=>by
    rcases eL k hk with h1 | h1
    · have:=h.mem.lt k (List.mem_append.2 (.inr (by rw [bg]; exact List.mem_append.2 (.inl h1))))
      have:=hg.sz
      omega
    · exact h1.2
  have cy:=oc (r:=st.of+t) h VG hg.sz hg.bN
  have dR:=E7 (r:=st.of+t) h VG hg.sz hg.bN
  obtain ⟨h1,_⟩:=yc h (hR _ cy dR) ⟨fh,VG⟩ cT hg.sz hg.bN hg.os hg.tape hg.out hP
  simp only [St.root,Option.some.injEq] at hr
  subst hr
  exact ⟨_,h1.put ht (hd _ _ (cD _ _ _))⟩
theorem BR (h:Rel C (Hs++H) w st (vs::aE) S) (hg:Grown w w') {t s n cap b:Nat} {ts:List T} (hb:w.heap.size≤b∧b < w'.heap.size) (hs:bF w (af C w S (Hs++H)) ts) (ez:∀ k∈ah ts,k∈ah Hs) (fh:(ah ts).Nodup)
    (hn:n≤cap) (hl:ts.length=n*s) (eP:lh w' b 0 (cap*s) (aC ts)) (ht:t < vs.size) (hP:∀ p∈C.P0,p.1≠st.of+t) (hr:st.root (some t) [.sl none s n (bh ts)] (fun d=>.ref d [] 0 none)=some st'):
    ∃ S',Rel C H w' st' (vs.setIfInBounds t (.slice (some ⟨b,0,none⟩) n cap)::aE) S':=by
  have vP:∀ k∈ah ts,k < w.heap.size:=fun k hk=>h.mem.lt k (List.mem_append.2 (.inr (by rw [bg]; exact List.mem_append.2 (.inl (ez k hk)))))
  refine rB (R:=⟨none,[.own s n cap (some (b,0)) ts]⟩) h hg ?_ ?_ ?_ ht hP ?_ (by simpa [bh,T.er] using hr)
  · intro k hk
    simp only [RT.ft,ah,T.ft,iV,Option.toList,List.nil_append,List.append_nil,List.cons_append,List.mem_cons] at hk
    rcases hk with rfl | hk
    · exact .inr hb
    · exact .inl (ez k hk)
  · simp only [RT.ft,ah,T.ft,iV,Option.toList,List.nil_append,List.append_nil,List.cons_append,List.nodup_cons]
    exact ⟨fun hk=>by have:=vP b hk; omega,fh⟩
  · intro S' cy dR
    refine ⟨trivial,fun x hx=>?_⟩
    simp only [List.mem_singleton] at hx
    subst hx
    simp only [iW,bE]
    exact ⟨hn,hl,eP,gn cy _ hs (fun k hk=>hg.bN k (vP k hk))⟩
  · intro S' X pI
    simp only [cr,gD,bj]
    intro x hx
    simp only [cu,pI,aw,List.getElem?_cons_zero,Option.some.injEq] at hx
    subst hx
    simp [eK,sn,T.er,T.val,vK]
theorem Hm (h:Rel C (Hs++H) w st (vs::aE) S) (hg:Grown w w') {t b:Nat} {ts:List T} (hb:w.heap.size≤b∧b < w'.heap.size)
    (hs:∀ x∈ts,bE w (af C w S (Hs++H)) x∨∃ d u,x=.v (cB (st.of+t) d) u∧bj w (af C w S (Hs++H)) S d u) (ez:∀ k∈ah ts,k∈ah Hs) (fh:(ah ts).Nodup)
    (eP:lh w' b 0 ts.length (aC ts)) (ht:t < vs.size) (hP:∀ p∈C.P0,p.1≠st.of+t) (hr:st.root (some t) (bh ts) (fun d=>.ptr d [] 0)=some st'):
    ∃ S',Rel C H w' st' (vs.setIfInBounds t (.pointer (some ⟨b,0,none⟩))::aE) S':=by
  have vP:∀ k∈ah ts,k < w.heap.size:=fun k hk=>h.mem.lt k (List.mem_append.2 (.inr (by rw [bg]; exact List.mem_append.2 (.inl (ez k hk)))))
  refine rB (R:=⟨some b,ts⟩) h hg ?_ ?_ ?_ ht hP ?_ hr
  · intro k hk
    simp only [RT.ft,Option.toList,List.cons_append,List.nil_append,List.mem_cons] at hk
    rcases hk with rfl | hk
    · exact .inr hb
    · exact .inl (ez k hk)
  · simp only [RT.ft,Option.toList,List.cons_append,List.nil_append,List.nodup_cons]
    exact ⟨fun hk=>by have:=vP b hk; omega,fh⟩
  · intro S' cy dR
    refine ⟨eP,fun x hx=>?_⟩
    rcases hs x hx with h1 | ⟨d,u,rfl,h1⟩
    · have h2:bE w' (af C w' S' H) x:=dK cy _ h1 (fun k hk=>hg.bN k (vP k (by
        obtain ⟨i,hi⟩:=List.mem_iff_getElem?.1 hx
        obtain ⟨A,B,e,_⟩:=dN ts i x hi
        rw [e]; simp [hk])))
      cases x with
      | v d u=>exact .inl h2
      | own s n cap a cs=>exact h2
    · have h2:=dR d u h1
      have h3:bL (cB (st.of+t) d)=cB (st.of+t) d:=by
        cases hd:cB (st.of+t) d with
        | sl g s n cs=>
          rw [hd] at h2
          cases g with
          | none=>simp [bj,Ext] at h2
          | some g=>rfl
        | _=>rfl
      simp only [iW]
      rw [h3]
      exact .inr ⟨rfl,h2⟩
  · intro S' X pI
    simp only [cr,gD,bj]
    intro R hR
    rw [pI,Option.some.injEq] at hR
    subst hR
    exact ⟨fun _=>rfl,fun b' off ha=>by simp only [bV,Option.map_some,Option.some.injEq,Prod.mk.injEq] at ha; obtain ⟨rfl,rfl⟩:=ha; rfl⟩
end
end Go.Proofs.YtockoilcnmljiaaGreat
namespace Go.Proofs.YtockoilcnmljiaaGreat
theorem uO {d:D} {u:Value} (h:P6 d u):bL d=d:=by
  have h1:=h default (fun _ _=>False)
  cases d with
  | sl g s n cs=>cases g with
    | none=>simp [Ext] at h1
    | some g=>rfl
  | _=>rfl
def leaves (ds:List D) (us:List Value):List T:=List.zipWith T.v ds us
theorem Ju {R:D→Value→Prop} {ds:List D} {us:List Value} (h:cb R ds us) (hl:∀ d u,R d u→bL d=d):bh (leaves ds us)=ds∧aC (leaves ds us)=us∧ah (leaves ds us)=[]∧(leaves ds us).length=ds.length∧∀ x∈leaves ds us,∃ d u,x=.v d u∧R d u:=by
  induction h with
  | nil=>simp [leaves,bh,aC,ah]
  | cons h1 _ ih=>
    obtain ⟨e1,e2,e3,e4,e5⟩:=ih
    simp only [leaves,List.zipWith_cons_cons,bh,aC,ah,T.er,T.val,T.ft,List.length_cons] at*
    refine ⟨by rw [e1,hl _ _ h1],by rw [e2],by rw [e3]; rfl,by rw [e4],fun x hx=>?_⟩
    simp only [List.mem_cons] at hx
    rcases hx with rfl | hx
    · exact ⟨_,_,rfl,h1⟩
    · exact e5 x hx
theorem Mw {ds:List D} {us:List Value} (h:cb P6 ds us):∃ ts,bh ts=ds.map uy∧aC ts=us∧ah ts=[]∧∀ w X,bF w X ts:=by
  induction h with
  | nil=>exact ⟨[],rfl,rfl,rfl,fun _ _=>by simp [bF]⟩
  | @cons d u _ _ h1 _ ih=>
    obtain ⟨ts,e1,e2,e3,e4⟩:=ih
    have j6:=uO h1
    by_cases hn:∃ s,d=.nil s
    · obtain ⟨s,rfl⟩:=hn
      have hu:u=.slice none 0 0:=h1 default (fun _ _=>False)
      subst hu
      exact ⟨.own s 0 0 none []::ts,by simp [bh,e1,T.er,uy],by simp [aC,e2,T.val,vK],by simp [ah,e3,T.ft,iV],fun w X=>by simp [bF,bE,e4]⟩
    · have hr:uy d=d:=by cases d<;>first | rfl | exact absurd ⟨_,rfl⟩ hn
      exact ⟨.v d u::ts,by simp [bh,e1,T.er,hr,j6],by simp [aC,e2,T.val],by simp [ah,e3,T.ft],fun w X=>by simp only [bF,bE]; exact ⟨by rw [j6]; exact h1 w X,e4 w X⟩⟩
theorem vQ {ds:List D} {us:List Value} (h:cb P6 ds us) (n:Nat):∃ ts,bh ts=fA n ds∧aC ts=(List.replicate n us).flatten∧ah ts=[]∧∀ w X,bF w X ts:=by
  obtain ⟨t0,e1,e2,e3,e4⟩:=Mw h
  induction n with
  | zero=>exact ⟨[],by simp [bh,fA],by simp [aC],rfl,fun _ _=>by simp [bF]⟩
  | succ n ih=>
    obtain ⟨ts,f1,f2,f3,f4⟩:=ih
    refine ⟨t0++ts,?_,?_,?_,fun w X=>(dL _ _).2 ⟨e4 w X,f4 w X⟩⟩
    · rw [uG,e1,f1]; simp [fA,List.replicate_succ]
    · rw [zJ,e2,f2]; simp [List.replicate_succ]
    · rw [bg,e3,f3]; rfl
theorem zW (z:Array Value) (n:Nat):((List.range (n*z.size)).map fun i=>z[i % z.size]!)=(List.replicate n z.toList).flatten:=by
  induction n with
  | zero=>simp
  | succ n ih=>
    rw [Nat.succ_mul,List.range_add,List.map_append,ih,List.replicate_succ',List.flatten_append]
    congr 1
    simp only [List.map_map,List.flatten_cons,List.flatten_nil,List.append_nil]
    apply List.ext_getElem?
    intro j
    simp only [List.getElem?_map,Array.getElem?_toList]
    by_cases hj:j < z.size
    · simp only [List.getElem?_range hj,Option.map_some,Function.comp_apply,Nat.mul_add_mod_self_right,Nat.mod_eq_of_lt hj]
      rw [getElem!_pos z j hj,Array.getElem?_eq_getElem hj]
    · rw [Array.getElem?_eq_none (by omega),List.getElem?_eq_none (by simp; omega)]
      rfl
theorem Mx (z:Array Value) (n:Nat) (j:Nat):(madeCells z (n*z.size))[j]?=(List.replicate n z.toList).flatten[j]?:=by
  rw [← zW,← Array.getElem?_toList]
  simp [madeCells]
theorem CL {α:Type} (l:List α) {m n:Nat} (h:m≤n) {j:Nat} {u:α} (hj:(List.replicate m l).flatten[j]?=some u):(List.replicate n l).flatten[j]?=some u:=by
  have:List.replicate n l=List.replicate m l++List.replicate (n - m) l:=by rw [List.replicate_append_replicate]; congr 1; omega
  rw [this,List.flatten_append,List.getElem?_append_left (List.getElem?_eq_some_iff.1 hj).1]
  exact hj
section
variable {P:Program} {c:cx} (aq:ek c P) {C:Ctx} {Hx:List T} {w:World} {st st':St} {vs:Array Value} {aE:List (Array Value)} {S:List (Nat × RT)} (h:Rel C Hx w st (vs::aE) S)
include aq h
theorem VH {e:TypeId} {i:TI} (he:c.ty e=some i) {t:Nat} (ht:t < vs.size) (hP:∀ p∈C.P0,p.1≠st.of+t) (hr:st.root (some t) i.zero (fun d=>.ptr d [] 0)=some st'):
    ∃ v w',(Instr.alloc e true (.tuple #[])).run P w=.ok v w'∧dG w w'∧∃ S',Rel C Hx w' st' (vs.setIfInBounds t v::aE) S':=by
  obtain ⟨inf,h1,h2,h3,z,h4,h5⟩:=(aq.ty _ _ he).info
  obtain ⟨e1,e2,e3,e4,e5⟩:=Ju h5 (fun _ _=>uO)
  have eg:(Instr.alloc e true (.tuple #[])).run P w=.ok (.pointer (some ⟨w.heap.size,0,none⟩)) (w.alloc (.cells z.cells e)):=by
    simp [Instr.alloc,Mj h1 h4,newVar,newRow]
  refine ⟨_,_,eg,(Grown.alloc w _).bN,?_⟩
  refine Hm (Hs:=[]) h (Grown.alloc w _) (ts:=leaves i.zero z.cells.toList) ⟨Nat.le_refl _,by rw [ji]; omega⟩ (fun x hx=>.inl ?_) (by rw [e3]; simp) (by rw [e3]; simp) ?_ ht hP (by rw [e1]; exact hr)
  · obtain ⟨d,u,rfl,h6⟩:=e5 x hx
    simp only [bE]
    rw [uO h6]
    exact h6 _ _
  · refine kt w _ _ (by rw [e4,h5.len]; simp) (fun j u hj=>?_)
    rw [e2] at hj
    simpa using hj
theorem My {t e:TypeId} {ei ti:TI} (ks:c.ty t=some ti) (X0:ti.ty=.slice e) (he:c.ty e=some ei) {kl kc:IntKind} {l cp:Int} (h0:0≤l) (zX:l≤cp) (hb:0 < ei.bytes∧cp*ei.bytes≤140737488355328)
    {d:Nat} (ht:d < vs.size) (hP:∀ p∈C.P0,p.1≠st.of+d) (hr:st.root (some d) [.sl none ei.size l.toNat (fA l.toNat ei.zero)] (fun d=>.ref d [] 0 none)=some st'):
    ∃ v w',(Instr.makeSlice t (.int kl l) (.int kc cp)).run P w=.ok v w'∧dG w w'∧∃ S',Rel C Hx w' st' (vs.setIfInBounds d v::aE) S':=by
  obtain ⟨inf,h1,h2,h3,z,h4,h5⟩:=(aq.ty _ _ he).info
  have CM:=(aq.ty _ _ he).len
  obtain ⟨dd,g1,g2⟩:=(aq.ty _ _ ks).desc
  rw [X0] at g2
  simp only [kp] at g2
  subst g2
  have hcp:cp≤140737488355328:=by
    have:cp*1≤cp*ei.bytes:=Int.mul_le_mul_of_nonneg_left (by omega) (by omega)
    omega
  have eg:=run_make (P:=P) w t e inf z g1 h1 h4 kl kc l cp h0 zX (by rw [h3,Int.mul_comm]; omega) (by omega)
  refine ⟨_,_,eg,(Grown.alloc w _).bN,?_⟩
  obtain ⟨ts,e1,e2,e3,e4⟩:=vQ h5 l.toNat
  have lj:z.cells.size=ei.size:=by rw [← CM,h5.len]; simp
  have hlen:ts.length=l.toNat*ei.size:=by
    have:=congrArg List.length e2
    rw [bP] at this
    simp only [List.length_flatten,List.map_replicate,List.sum_replicate_nat,Array.length_toList,lj] at this
    exact this
  rw [← e1] at hr
  refine BR (Hs:=[]) h (Grown.alloc w _) (ts:=ts) ⟨Nat.le_refl _,by rw [ji]; omega⟩ (e4 _ _) (by rw [e3]; simp) (by rw [e3]; simp) (by omega) hlen ?_ ht hP hr
  refine kt w _ _ (by rw [size_madeCells,h2]; exact Nat.le_refl _) (fun j u hj=>?_)
  rw [e2] at hj
  rw [h2,← lj,Mx]
  exact CL _ (by omega) hj
end
end Go.Proofs.YtockoilcnmljiaaGreat
namespace Go.Proofs.YtockoilcnmljiaaGreat
def ny {α:Type}:List α→Nat→List α→List α
  | cs,_,[]=>cs
  | cs,o,d::ds=>ny (cs.set o d) (o+1) ds
theorem CN:∀ (ds cs:List D) (o:Nat),xZ cs o ds=ny cs o ds
  | [],_,_=>rfl
  | d::ds,cs,o=>by simp only [xZ,ny]; exact CN ds _ _
theorem Dv {α β:Type} (f:α→β):∀ (ds cs:List α) (o:Nat),(ny cs o ds).map f=ny (cs.map f) o (ds.map f)
  | [],_,_=>rfl
  | d::ds,cs,o=>by simp only [ny,List.map_cons,← List.map_set]; exact Dv f ds _ _
theorem Mz {α:Type}:∀ (ds cs:List α) (o:Nat),(ny cs o ds).length=cs.length
  | [],_,_=>rfl
  | d::ds,cs,o=>by simp only [ny]; rw [Mz ds]; simp
theorem MA (off:Nat):∀ (l:List Value) (k:Nat) (arr:Array Value),((l.zipIdx k).foldl (fun cs (x:Value × Nat)=>cs.setIfInBounds (off+x.2) x.1) arr).toList=ny arr.toList (off+k) l
  | [],_,_=>rfl
  | v::l,k,arr=>by
    simp only [List.zipIdx_cons,List.foldl_cons,ny]
    rw [MA off l (k+1)]
    simp [Nat.add_assoc]
theorem Rc (off:Nat) (v arr:Array Value):(v.zipIdx.foldl (fun cs (x:Value × Nat)=>cs.setIfInBounds (off+x.2) x.1) arr).toList=ny arr.toList off v.toList:=by
  rw [← Array.foldl_toList,Array.toList_zipIdx]
  exact MA off v.toList 0 arr
def pc {α:Type} (place:Nat→Option (Nat × Nat)):List α→List (Nat × List α)→Option (List α)
  | cs,[]=>some cs
  | cs,(i,vs)::rest=>match place i with
    | some (o,k)=>if vs.length=k∧o+vs.length≤cs.length then pc place (ny cs o vs) rest else none
    | none=>none
theorem Jv {ok:D→Bool} {place:Nat→Option (Nat × Nat)}:∀ {parts:List (Nat × List D)} {cs ds:List D},nb ok place cs parts=some ds→∀ p∈parts,∀ d∈p.2,ok d=true:=by
  intro parts
  induction parts with
  | nil=>intro cs ds _ p hp; simp at hp
  | cons p parts ih=>
    intro cs ds h q hq
    obtain ⟨i,vs⟩:=p
    simp only [nb] at h
    split at h
    case h_2=>simp at h
    split at h
    case isFalse=>simp at h
    rename_i hc
    rcases List.mem_cons.1 hq with rfl | hq
    · exact fun d hd=>List.all_eq_true.1 hc.2.2 d hd
    · exact ih h q hq
theorem Qb {α:Type} (er:α→D) {ok:D→Bool} {place:Nat→Option (Nat × Nat)}:∀ {parts:List (Nat × List α)} {cs:List α} {ds:List D},nb ok place (cs.map er) (parts.map fun p=>(p.1,p.2.map er))=some ds→∃ cs',pc place cs parts=some cs'∧cs'.map er=ds:=by
  intro parts
  induction parts with
  | nil=>intro cs ds h; simp only [List.map_nil,nb,Option.some.injEq] at h; exact ⟨cs,rfl,h⟩
  | cons p parts ih=>
    intro cs ds h
    obtain ⟨i,vs⟩:=p
    simp only [List.map_cons,nb] at h
    simp only [pc]
    split at h
    case h_2=>simp at h
    rename_i o k hp
    try rw [hp]
    split at h
    case isFalse=>simp at h
    rename_i hc
    simp only [List.length_map] at hc
    rw [CN,← Dv] at h
    simp only [hc.1,hc.2.1]
    rw [hc.1] at hc
    simpa [hc.2.1] using ih h
theorem E9 {α:Type} (val:α→Value) {place:Nat→Option (Nat × Nat)}:∀ {parts:List (Nat × List α)} {qj:List (Nat × Value)} {cs cs':List α} {arr:Array Value},cb (fun p q=>q.1=p.1∧q.2.cells.toList=p.2.map val) parts qj→pc place cs parts=some cs'→arr.toList=cs.map val→
    ∃ aa4,Instr.fill place arr qj=some aa4∧aa4.toList=cs'.map val:=by
  intro parts
  induction parts with
  | nil=>
    intro qj cs cs' arr h1 h2 h3
    cases h1
    simp only [pc,Option.some.injEq] at h2
    subst h2
    exact ⟨arr,rfl,h3⟩
  | cons p parts ih=>
    intro qj cs cs' arr h1 h2 h3
    obtain ⟨i,vs⟩:=p
    cases h1 with
    | cons hp adL=>
    rename_i q qs
    obtain ⟨j,v⟩:=q
    obtain ⟨rfl,hv⟩:=hp
    simp only [pc] at h2
    split at h2
    case h_2=>simp at h2
    rename_i o k hpl
    split at h2
    case isFalse=>simp at h2
    rename_i hc
    have S8:v.cells.size=vs.length:=by have:=congrArg List.length hv; simpa using this
    have has:arr.size=cs.length:=by have:=congrArg List.length h3; simpa using this
    simp only [Instr.fill,hpl]
    rw [if_neg (by simp only [Bool.or_eq_true,decide_eq_true_eq,S8,has,not_or]; exact ⟨by simpa using hc.1,by omega⟩)]
    refine ih adL h2 ?_
    rw [Rc,h3,hv,← Dv]
theorem VI {α:Type}:∀ {ds cs:List α} {o:Nat} {x:α},x∈ny cs o ds→x∈cs∨x∈ds:=by
  intro ds
  induction ds with
  | nil=>intro cs o x h; exact .inl h
  | cons d ds ih=>
    intro cs o x h
    rcases ih h with h | h
    · rcases List.mem_or_eq_of_mem_set h with h | h
      · exact .inl h
      · exact .inr (by simp [h])
    · exact .inr (by simp [h])
theorem Jw {α:Type} {place:Nat→Option (Nat × Nat)}:∀ {parts:List (Nat × List α)} {cs cs':List α},pc place cs parts=some cs'→(∀ x∈cs',x∈cs∨∃ p∈parts,x∈p.2)∧cs'.length=cs.length:=by
  intro parts
  induction parts with
  | nil=>intro cs cs' h; simp only [pc,Option.some.injEq] at h; subst h; exact ⟨fun x hx=>.inl hx,rfl⟩
  | cons p parts ih=>
    intro cs cs' h
    obtain ⟨i,vs⟩:=p
    simp only [pc] at h
    split at h
    case h_2=>simp at h
    split at h
    case isFalse=>simp at h
    obtain ⟨h1,h2⟩:=ih h
    refine ⟨fun x hx=>?_,h2.trans (Mz _ _ _)⟩
    rcases h1 x hx with h3 | ⟨p,h3,h4⟩
    · rcases VI h3 with h4 | h4
      · exact .inl h4
      · exact .inr ⟨_,List.mem_cons_self,h4⟩
    · exact .inr ⟨p,List.mem_cons_of_mem _ h3,h4⟩
theorem S9:∀ {ds cs:List T} {o:Nat} {B:List Nat},(ah cs++ah ds++B).Nodup→(ah (ny cs o ds)++B).Nodup∧∀ k∈ah (ny cs o ds),k∈ah cs∨k∈ah ds:=by
  intro ds
  induction ds with
  | nil=>intro cs o B h; simpa [ny,ah] using h
  | cons d ds ih=>
    intro cs o B h
    simp only [ny]
    have key:(ah (cs.set o d)++ah ds++B).Nodup∧∀ k∈ah (cs.set o d),k∈ah cs∨k∈d.ft:=by
      by_cases ho:o < cs.length
      · obtain ⟨A,Z,e1,e2⟩:=dN cs o _ (List.getElem?_eq_getElem ho)
        rw [e2 d]
        refine ⟨?_,fun k hk=>?_⟩
        · rw [e1,ah] at h
          have p1:(A++cs[o].ft++Z++(d.ft++ah ds)++B).Perm (cs[o].ft++(A++d.ft++Z++ah ds++B)):=by
            refine List.perm_iff_count.2 fun a=>?_
            simp only [List.count_append]
            omega
          exact (List.nodup_append.1 (p1.nodup_iff.1 h)).2.1
        · rw [e1]
          simp only [List.mem_append] at hk ⊢
          rcases hk with (hk | hk) | hk
          · exact .inl (.inl (.inl hk))
          · exact .inr hk
          · exact .inl (.inr hk)
      · rw [List.set_eq_of_length_le (by omega)]
        refine ⟨?_,fun k hk=>.inl hk⟩
        rw [ah] at h
        have p1:(ah cs++(d.ft++ah ds)++B).Perm (d.ft++(ah cs++ah ds++B)):=by
          refine List.perm_iff_count.2 fun a=>?_
          simp only [List.count_append]
          omega
        exact (List.nodup_append.1 (p1.nodup_iff.1 h)).2.1
    obtain ⟨h1,h2⟩:=ih key.1
    refine ⟨h1,fun k hk=>?_⟩
    rcases h2 k hk with h3 | h3
    · rcases key.2 k h3 with h4 | h4
      · exact .inl h4
      · exact .inr (by simp [ah,h4])
    · exact .inr (by simp [ah,h3])
theorem Re {place:Nat→Option (Nat × Nat)}:∀ {parts:List (Nat × List T)} {cs cs':List T},pc place cs parts=some cs'→(ah cs++ah (parts.flatMap (·.2))).Nodup→(ah cs').Nodup∧∀ k∈ah cs',k∈ah cs∨k∈ah (parts.flatMap (·.2)):=by
  intro parts
  induction parts with
  | nil=>intro cs cs' h hn; simp only [pc,Option.some.injEq] at h; subst h; simpa [ah] using hn
  | cons p parts ih=>
    intro cs cs' h hn
    obtain ⟨i,vs⟩:=p
    simp only [pc] at h
    split at h
    case h_2=>simp at h
    rename_i o k hp
    split at h
    case isFalse=>simp at h
    simp only [List.flatMap_cons,bg,← List.append_assoc] at hn
    obtain ⟨g1,g2⟩:=S9 (o:=o) hn
    obtain ⟨h1,h2⟩:=ih h g1
    refine ⟨h1,fun k hk=>?_⟩
    simp only [List.flatMap_cons,bg,List.mem_append]
    rcases h2 k hk with h3 | h3
    · rcases g2 k h3 with h4 | h4
      · exact .inl h4
      · exact .inr (.inl h4)
    · exact .inr (.inr h3)
end Go.Proofs.YtockoilcnmljiaaGreat
namespace Go.Proofs.YtockoilcnmljiaaGreat
section
variable {C:Ctx} {Hx:List T} {w:World} {S:List (Nat × RT)} {st:St}
theorem Hn {X:Bool→Nat→Prop} {d:D} {u:Value} (h:Ext w X d u) (hc:cW d=true):u.oneCell'=true∧u.cells=#[u]:=by
  cases d with
  | int k n=>have:u=.int k n:=h; subst this; exact ⟨rfl,rfl⟩
  | bool b=>have:u=.bool b:=h; subst this; exact ⟨rfl,rfl⟩
  | str s=>have:u=.string s:=h; subst this; exact ⟨rfl,rfl⟩
  | nil s=>have:u=.slice none 0 0:=h; subst this; exact ⟨rfl,rfl⟩
  | sl g s n cs=>
    cases g with
    | none=>simp [Ext] at h
    | some g=>
      simp only [Ext] at h
      obtain ⟨base,cap,us,rfl,_⟩:=h
      exact ⟨rfl,rfl⟩
  | ref r q o x=>simp [Ext] at h
  | ptr r q o=>simp [Ext] at h
  | da cs o=>simp [Ext] at h
  | _=>simp [cW] at hc
theorem mj {X:Bool→Nat→Prop} {t:T} (h:bE w X t) (hc:cW t.er=true):t.val.oneCell'=true∧t.val.cells=#[t.val]:=by
  cases t with
  | own s n cap a cs=>exact ⟨rfl,rfl⟩
  | v d u=>exact Hn h hc
theorem MB (fU:gT st.rt S) (hm:Mem C w S Hx) {d:D} {u:Value} (hd:bj w (af C w S Hx) S d u) (cL:fD st d=true):u.oneCell'=true∧u.cells=#[u]:=by
  cases d with
  | ref r q o x=>
    simp only [fD] at cL
    split at cL
    · rename_i g s n cs hc
      have:=(LS fU hm (mg hd) (g:=g) (s:=s) (n:=(trim x s n cs).1) (cs:=(trim x s n cs).2) (by simp [St.pC,hc])).ok
      obtain ⟨base,cap,rfl,_⟩:=this
      exact ⟨rfl,rfl⟩
    · simp at cL
  | ptr r q o=>
    simp only [fD] at cL
    obtain ⟨R,b,off,_,_,rfl⟩:=ub fU hm cL (mg hd)
    exact ⟨rfl,rfl⟩
  | da cs o=>
    obtain ⟨b,off,c,e,fz,us,rfl,_⟩:=hd
    exact ⟨rfl,rfl⟩
  | _=>exact Hn hd cL
theorem Dw (fU:gT st.rt S) (hm:Mem C w S Hx) {d:D} {u:Value} (hd:cr w (af C w S Hx) S d u) (cL:∀ x∈cellsOf d,fD st x=true):cb (bj w (af C w S Hx) S) (cellsOf d) u.cells.toList:=by
  by_cases ha:∃ cs,d=.agg cs
  · obtain ⟨cs,rfl⟩:=ha
    obtain ⟨us,rfl,h⟩:=hd
    exact h
  · have hc:cellsOf d=[d]:=by cases d<;>first | rfl | exact absurd ⟨_,rfl⟩ ha
    rw [hc] at cL ⊢
    have ho:=cL d (by simp)
    have sv:bj w (af C w S Hx) S d u:=by
      cases d<;>first | exact hd | (simp [fD,cW] at ho; done) | exact absurd ⟨_,rfl⟩ ha
    rw [(MB fU hm sv ho).2]
    exact .cons sv .nil
end
theorem yd {α β:Type} {R:α→β→Prop} {as9:List α} {bs:List β} (h:cb R as9 bs):∃ l:List (α × β),l.map Prod.fst=as9∧l.map Prod.snd=bs∧∀ x∈l,R x.1 x.2:=by
  induction h with
  | nil=>exact ⟨[],rfl,rfl,by simp⟩
  | @cons a b _ _ h1 _ ih=>
    obtain ⟨l,e1,e2,e3⟩:=ih
    exact ⟨(a,b)::l,by simp [e1],by simp [e2],fun x hx=>by
      rcases List.mem_cons.1 hx with rfl | hx
      · exact h1
      · exact e3 x hx⟩
theorem Fa {α β:Type} {R:α→β→Prop}:∀ (l:List (α × β)),(∀ x∈l,R x.1 x.2)→cb R (l.map Prod.fst) (l.map Prod.snd)
  | [],_=>.nil
  | x::l,h=>.cons (h x (by simp)) (Fa l (fun y hy=>h y (by simp [hy])))
theorem Ta {P:Program}:∀ {fs:List Field} {szs:List Nat},szs.length=fs.length→(∀ (j:Nat) (f:Field),fs[j]?=some f→∃ i,P.info? f.type=some i∧i.size≠0∧szs[j]?=some i.size)→
    fs.mapM (fun f=>(P.info? f.type).map fun i=>(f.offset,i.size))=some ((fs.map (·.offset)).zip szs):=by
  intro fs
  induction fs with
  | nil=>intro szs h _; rfl
  | cons f fs ih=>
    intro szs hl h
    cases szs with
    | nil=>simp at hl
    | cons k szs=>
      obtain ⟨i,h1,_,h2⟩:=h 0 f rfl
      simp only [List.getElem?_cons_zero,Option.some.injEq] at h2
      subst h2
      have:=ih (szs:=szs) (by simpa using hl) (fun j f hj=>by simpa using h (j+1) f (by simpa using hj))
      simp [List.mapM_cons,h1,this]
section
variable {P:Program} {c:cx} (aq:ek c P) {C:Ctx} {Hx:List T} {w:World} {st st':St} {a:Act} {aE:List (Array Value)} {S:List (Nat × RT)} (h:Rel C Hx w st (a.tmps::aE) S)
include h
theorem VJ:∀ (ps:List (Nat × Operand)),(∀ p∈ps.map (fun p=>(p.1,cellsOf (cn c st 0 p.2))),∀ d∈p.2,fD st d=true)→
    ∃ pp:List (Nat × List (D × Value)),pp.map (fun p=>(p.1,p.2.map Prod.fst))=ps.map (fun p=>(p.1,cellsOf (cn c st 0 p.2)))∧cb (fun p q=>q.1=p.1∧q.2.cells.toList=p.2.map Prod.snd) pp (ps.map fun p=>(p.1,a.eval p.2))∧
      ∀ p∈pp,∀ x∈p.2,bj w (af C w S Hx) S x.1 x.2:=by
  have fP:ma w (af C w S Hx) S st.tm a.tmps:=by cases h.oO with | cons a _=>exact a
  intro ps
  induction ps with
  | nil=>intro _; exact ⟨[],rfl,.nil,by simp⟩
  | cons p ps ih=>
    intro cL
    obtain ⟨pp,e1,e2,e3⟩:=ih (fun q hq=>cL q (by simp only [List.map_cons,List.mem_cons]; exact .inr hq))
    have h1:=Dw h.rt h.mem (vM (c:=c) fP 0 p.2) (cL _ (by simp only [List.map_cons,List.mem_cons]; exact .inl rfl))
    obtain ⟨l,f1,f2,f3⟩:=yd h1
    refine ⟨(p.1,l)::pp,by simp [e1,f1],.cons ⟨rfl,f2.symm⟩ e2,fun q hq=>?_⟩
    rcases List.mem_cons.1 hq with rfl | hq
    · exact f3
    · exact e3 q hq
include aq
theorem Jx {t:TypeId} {ti:TI} (ht:c.ty t=some ti) {place:Nat→Option (Nat × Nat)} {ps:Array (Nat × Operand)} {cs:List D} (hf:nb (fD st) place ti.zero (ps.toList.map fun p=>(p.1,cellsOf (cn c st 0 p.2)))=some cs)
    (hb:∀ (z:Value) (qj:List (Nat × Value)),(∀ i,P.info? t=some i→i.zero=some z)→P.built t qj=Instr.fill place z.cells qj):
    ∃ v,(∀ w:World,(Instr.build t (ps.map fun (i,x)=>(i,a.eval x))).run P w=.ok v w)∧cr w (af C w S Hx) S (.agg cs) v:=by
  obtain ⟨inf,h1,h2,h3,z,h4,h5⟩:=(aq.ty _ _ ht).info
  obtain ⟨pp,e1,e2,e3⟩:=VJ (c:=c) h ps.toList (Jv hf)
  obtain ⟨zz,f1,f2,f3⟩:=yd h5
  rw [← e1,← f1] at hf
  obtain ⟨cs',g1,g2⟩:=Qb Prod.fst hf
  obtain ⟨arr,k1,k2⟩:=E9 Prod.snd e2 g1 f2.symm
  refine ⟨.agg arr,fun w=>run_build w t _ arr ?_,?_⟩
  · rw [hb z _ (fun i hi=>by rw [h1,Option.some.injEq] at hi; subst hi; exact h4)]
    rw [← k1]
    simp
  · refine ⟨arr,rfl,?_⟩
    rw [← g2,k2]
    refine Fa _ (fun x hx=>?_)
    rcases (Jw g1).1 x hx with h6 | ⟨p,h6,h7⟩
    · exact fZ (f3 x h6 w _)
    · exact e3 p h6 x h7
theorem zY {t:TypeId} {lG szs:List Nat} {sz pG:Nat} {z:List D} (ht:c.ty t=some ⟨.struct lG szs,sz,pG,z⟩) {ps:Array (Nat × Operand)} {cs:List D}
    (hf:nb (fD st) (fun i=>match lG[i]?,szs[i]? with | some o,some k=>some (o,k) | _,_=>none) z (ps.toList.map fun p=>(p.1,cellsOf (cn c st 0 p.2)))=some cs):
    ∃ v,(∀ w:World,(Instr.build t (ps.map fun (i,x)=>(i,a.eval x))).run P w=.ok v w)∧cr w (af C w S Hx) S (.agg cs) v:=by
  refine Jx aq h ht hf (fun zv qj hz=>?_)
  obtain ⟨inf,h1,_⟩:=(aq.ty _ _ ht).info
  obtain ⟨dd,g1,fs,rfl,g2,g3,g4⟩:=(aq.ty _ _ ht).desc
  simp only [Program.built,h1,g1,hz inf h1,Ta g3 g4]
  congr 1
  funext i
  simp only [List.getElem?_toArray,List.zip_eq_zipWith,List.getElem?_zipWith,← g2]
  cases lG[i]? with
  | none=>rfl
  | some o=>cases szs[i]?<;>rfl
theorem CO {t e:TypeId} {n:Nat} {sz pG:Nat} {z:List D} {ei:TI} (ht:c.ty t=some ⟨.array n e,sz,pG,z⟩) (he:c.ty e=some ei) {ps:Array (Nat × Operand)} {cs:List D}
    (hf:nb (fD st) (fun i=>some (i*ei.size,ei.size)) z (ps.toList.map fun p=>(p.1,cellsOf (cn c st 0 p.2)))=some cs):
    ∃ v,(∀ w:World,(Instr.build t (ps.map fun (i,x)=>(i,a.eval x))).run P w=.ok v w)∧cr w (af C w S Hx) S (.agg cs) v:=by
  refine Jx aq h ht hf (fun zv qj hz=>?_)
  obtain ⟨inf,h1,_⟩:=(aq.ty _ _ ht).info
  obtain ⟨alE,h2,h3,_⟩:=(aq.ty _ _ he).info
  obtain ⟨dd,g1,rfl⟩:=(aq.ty _ _ ht).desc
  simp only [Program.built,h1,g1,hz inf h1,h2,h3]
end
end Go.Proofs.YtockoilcnmljiaaGreat
