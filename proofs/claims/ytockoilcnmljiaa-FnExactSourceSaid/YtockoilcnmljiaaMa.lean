/- What the proof of FnExactSource stands on, part 1: an abstract machine on plain data, its soundness, and the contracts of functions. -/
import Derived.Orders
import Derived.LoopN
import Derived.WalkKit
import Derived.Deep.AppendSrc
import Derived.Great.BuildSlice
set_option linter.all false
set_option linter.unusedSimpArgs false
set_option linter.unusedVariables false
set_option linter.unnecessarySimpa false
set_option linter.unusedSectionVars false
namespace Go.Proofs.Ytockoilcnmljiaa
inductive D where
  | int (k:IntKind) (n:Int)
  | bool (b:Bool)
  | str (s:ByteArray)
  | sl (g:Option Bool) (s n:Nat) (cs:List D)
  | ref (r:Nat) (q:List Nat) (o:Nat) (x:Option (Nat × Nat))
  | nil (s:Nat)
  | agg (cs:List D)
  | aR (vs:List D)
  | fn (f:FuncId) (gb:List D)
  | ptr (r:Nat) (q:List Nat) (o:Nat)
  | dt (cs:List D) (o:Nat)
  | aM (cs:List D)
  | hole (s n:Nat)
  | undef
  deriving Inhabited
def lk {α:Type}:List (Nat × α)→Nat→Option α
  | [],_=>none
  | (j,v)::t,k=>if j=k then some v else lk t k
def pt {α:Type}:List (Nat × α)→Nat→α→List (Nat × α)
  | [],k,v=>[(k,v)]
  | (j,u)::t,k,v=>if j=k then (k,v)::t else (j,u)::pt t k v
def pz {α:Type}:List (Nat × α)→Nat→α→List (Nat × α)
  | [],k,v=>[(k,v)]
  | (j,u)::t,k,v=>if j < k then (j,u)::pz t k v else if j=k then (k,v)::t else (k,v)::(j,u)::t
structure St where
  tm:List (Nat × D)
  rt:List (Nat × List D)
  up:List (List (Nat × D)):=[]
  of:Nat:=0
def St.get (st:St) (t:Nat):D:=(lk st.tm t).getD .undef
def St.put (st:St) (dst:Option Nat) (d:D):St:=
  match dst with
  | some t=>{ st with tm:=pz st.tm t d }
  | none=>st
inductive Ty where
  | int (k:IntKind) | bool | str | slice (e:TypeId) | array (n:Nat) (e:TypeId) | struct (kr szs:List Nat) | ptr (e:TypeId) | fn | other
structure TI where
  ty:Ty
  size:Nat
  bytes:Nat
  zero:List D
structure cf where
  ty:TypeId→Option TI
  ext:FuncId→Option (List D→Option (D × List D))
  own:FuncId→List Bool
  inl:FuncId→Bool
  oz:FuncId→Nat→Bool
  nm:FuncId→Nat→Option (List Nat × List Nat)
  gone:FuncId→List Bool
  base:FuncId→Nat→Option Nat
  vG:FuncId→Nat→List Nat
def cf.esz (c:cf) (t:TypeId):Nat:=
  match c.ty t with
  | some ⟨.slice e,_,_,_⟩=>match c.ty e with | some i=>i.size | none=>0
  | _=>0
def ks:List D→List Nat→Option (List D)
  | cs,[]=>some cs
  | cs,o::q=>match cs[o]? with
    | some (.sl none _ _ xs)=>ks xs q
    | _=>none
def nw (f:List D→List D):List D→List Nat→Option (List D)
  | cs,[]=>some (f cs)
  | cs,o::q=>match cs[o]? with
    | some (.sl none s n xs)=>match nw f xs q with
      | some jw=>some (cs.set o (.sl none s n jw))
      | none=>none
    | _=>none
def St.cells (st:St) (r:Nat) (q:List Nat):Option (List D):=
  match lk st.rt r with
  | some cs=>ks cs q
  | none=>none
def St.cell (st:St) (r:Nat) (q:List Nat) (o:Nat):Option D:=
  match st.cells r q with
  | some cs=>cs[o]?
  | none=>none
def under (q:List Nat) (x:List Nat):Option (List Nat):=
  match q,x with
  | [],x=>some x
  | p::ps,y::ys=>if p=y then under ps ys else none
  | _::_,[]=>none
def trim (x:Option (Nat × Nat)) (s n:Nat) (cs:List D):Nat × List D:=
  match x with
  | none=>(n,cs)
  | some (l,m)=>(m,(cs.drop (l*s)).take (m*s))
def cj (r:Nat):D→D
  | .ref r' q o x=>if r'=r then .undef else .ref r' q o x
  | .ptr r' q o=>if r'=r then .undef else .ptr r' q o
  | d=>d
def dY (r:Nat):D→D
  | .ref r' q o x=>if r'=r then .undef else .ref r' q o x
  | .ptr r' (p::q) o=>if r'=r then .undef else .ptr r' (p::q) o
  | d=>d
def cb (r:Nat) (q:List Nat) (o:Nat) (exact:Bool):D→D
  | .ref r' q' o' x=>if r'=r then
      match under (q++[o]) (q'++[o']) with
      | none=>.ref r' q' o' x
      | some []=>if exact then .undef else .ref r' q' o' x
      | some (_::_)=>.undef
    else .ref r' q' o' x
  | .ptr r' q' o'=>if r'=r then
      match under (q++[o]) q' with
      | none=>.ptr r' q' o'
      | some _=>.undef
    else .ptr r' q' o'
  | d=>d
def py (r:Nat) (q:List Nat) (o:Nat) (r1:Nat) (q1:List Nat) (o1:Nat):D→D
  | .ref r' q' o' x=>if r'=r then
      match under (q++[o]) (q'++[o']) with
      | none=>.ref r' q' o' x
      | some []=>.ref r1 q1 o1 x
      | some (_::_)=>.undef
    else .ref r' q' o' x
  | .ptr r' q' o'=>if r'=r then
      match under (q++[o]) q' with
      | none=>.ptr r' q' o'
      | some _=>.undef
    else .ptr r' q' o'
  | d=>d
def eO (f:D→D):D→D
  | .agg cs=>.agg (cs.map f)
  | .fn g cs=>.fn g (cs.map f)
  | d=>f d
def mX (f:D→D):D→D
  | .aR vs=>.aR (vs.map (eO f))
  | d=>eO f d
def fy {α:Type} (f:α→α):List (Nat × α)→List (Nat × α)
  | []=>[]
  | (k,v)::t=>(k,f v)::fy f t
def St.eG (f:D→D) (st:St):St:={ st with tm:=fy (mX f) st.tm,rt:=fy (List.map (eO f)) st.rt,up:=st.up.map (fy (mX f)) }
def St.TH (f g:D→D) (st:St):St:={ st with tm:=fy (mX f) st.tm,rt:=fy (List.map (eO g)) st.rt,up:=st.up.map (fy (mX f)) }
def gd:D→Bool
  | .sl ..=>true
  | _=>false
def sn:D→Option (Nat × Nat)
  | .sl _ s n _=>some (s,n)
  | .hole s n=>some (s,n)
  | _=>none
def hI:D→Bool
  | .sl none _ _ _=>true
  | _=>false
mutual
def gS (b:Bool):D→D
  | .sl none s n cs=>.sl (some b) s n (cW b cs)
  | d=>d
def cW (b:Bool):List D→List D
  | []=>[]
  | d::ds=>gS b d::cW b ds
end
def j6 {α β:Type} (f:α→Option β):List α→Option (List β)
  | []=>some []
  | a::as9=>match f a with
    | some b=>match j6 f as9 with
      | some bs=>some (b::bs)
      | none=>none
    | none=>none
def rm (st:St):D→Option D
  | .int k n=>some (.int k n)
  | .bool b=>some (.bool b)
  | .str s=>some (.str s)
  | .nil s=>some (.nil s)
  | .sl g s n cs=>some (gS true (.sl g s n cs))
  | .ref r q o x=>match st.cell r q o with
    | some (.sl g s n cs)=>some (gS true (.sl g s (trim x s n cs).1 (trim x s n cs).2))
    | _=>none
  | .undef=>some .undef
  | .hole ..=>some .undef
  | _=>none
def Ls (st:St):D→Option D
  | .dt cs o=>some (.dt cs o)
  | .ptr r q o=>match st.cells r q with
    | some (c::cs)=>match j6 (rm st) (c::cs) with
      | some cs'=>some (.dt cs' o)
      | none=>none
    | _=>none
  | d=>rm st d
def N7 (st:St):D→Option D
  | .agg cs=>match j6 (rm st) cs with
    | some cs'=>some (.agg cs')
    | none=>none
  | .fn f gb=>match j6 (Ls st) gb with
    | some cs'=>some (.fn f cs')
    | none=>none
  | d=>Ls st d
def St.gH (st:St) (r:Nat) (q:List Nat) (o:Nat) (d:D):Option St:=
  match lk st.rt r with
  | some cs=>match nw (fun l=>l.set o d) cs q with
    | some cs'=>some { st with rt:=pz st.rt r cs' }
    | none=>none
  | none=>none
def iv (st:St):D→Option (D × St)
  | .int k n=>some (.int k n,st)
  | .bool b=>some (.bool b,st)
  | .str s=>some (.str s,st)
  | .nil s=>some (.sl none s 0 [],st)
  | .sl b s n cs=>some (.sl b s n cs,st)
  | .ref r q o x=>match st.cell r q o with
    | some (.sl none s n cs)=>match st.gH r q o (.hole s n) with
      | some st'=>some (.sl none s (trim x s n cs).1 (trim x s n cs).2,st')
      | none=>none
    | some (.sl (some b) s n cs)=>some (.sl (some b) s (trim x s n cs).1 (trim x s n cs).2,st)
    | _=>none
  | .undef=>some (.undef,st)
  | .hole ..=>some (.undef,st)
  | _=>none
def pd (st:St):List D→Option (List D × St)
  | []=>some ([],st)
  | d::ds=>match iv st d with
    | some (d',st')=>match pd st' ds with
      | some (ds',vH)=>some (d'::ds',vH)
      | none=>none
    | none=>none
def fW (r:Nat) (q:List Nat) (j:Nat):D→D
  | .sl none _ _ _=>.ref r q j none
  | d=>d
def kf (r:Nat) (q:List Nat):Nat→List D→List D
  | _,[]=>[]
  | j,d::ds=>fW r q j d::kf r q (j+1) ds
def N8 (st:St) (r:Nat):Option (List D × St):=
  match lk st.rt r with
  | some (c::cs)=>match pd st (kf r [] 0 (c::cs)) with
    | some (cs',st')=>some (cs',{ st' with rt:=pz st'.rt r [] })
    | none=>none
  | _=>none
def Af (st:St):D→Option (D × St)
  | .agg cs=>match pd st cs with
    | some (cs',st')=>some (.agg cs',st')
    | none=>none
  | .ptr r [] 0=>match N8 st r with
    | some (cs',st')=>some (.aM cs',st')
    | none=>none
  | d=>iv st d
def Ie (st:St):List D→Option (List D × St)
  | []=>some ([],st)
  | d::ds=>match Af st d with
    | some (d',st')=>match Ie st' ds with
      | some (ds',vH)=>some (d'::ds',vH)
      | none=>none
    | none=>none
def cS:D→List D
  | .agg cs=>cs
  | .aR vs=>vs.flatMap fun | .agg cs=>cs | d=>[d]
  | d=>[d]
def zj (r:Nat) (j:Nat):D→D
  | .agg cs=>.agg (kf r [] j cs)
  | d=>fW r [] j d
def B4 (r:Nat):Nat→List D→List D
  | _,[]=>[]
  | j,d::ds=>zj r j d::B4 r (j+(cS d).length) ds
def zk (r:Nat):D→D
  | .aR vs=>.aR (B4 r 0 vs)
  | d=>zj r 0 d
def St.oA (st:St) (r:Nat) (d:D):St × D:=
  match d with
  | .aM cs=>
    let st':=st.eG (cj r)
    ({ st' with rt:=pz st'.rt r cs },.ptr r [] 0)
  | d=>if (cS d).any hI then
      let st':=st.eG (cj r)
      ({ st' with rt:=pz st'.rt r (cS d) },zk r d)
    else (st,d)
mutual
def bL:D→Bool
  | .sl g _ _ cs=>(match g with | some true=>false | _=>true)&&bP cs
  | _=>true
def bP:List D→Bool
  | []=>true
  | d::ds=>bL d&&bP ds
end
mutual
def gI (b:Bool):D→D
  | .sl none s n cs=>.sl none s n (dO b cs)
  | .sl (some _) s n cs=>.sl (some b) s n (dO b cs)
  | d=>d
def dO (b:Bool):List D→List D
  | []=>[]
  | d::ds=>gI b d::dO b ds
end
def gf (b:Bool):D→D
  | .agg cs=>.agg (dO b cs)
  | .aM cs=>.aM (dO b cs)
  | .aR vs=>.aR (vs.map fun | .agg cs=>.agg (dO b cs) | d=>gI b d)
  | d=>gI b d
def eX:D→Bool
  | .int .. | .bool _ | .str _ | .sl .. | .undef | .hole ..=>true
  | _=>false
def bN:D→List D
  | .aM cs=>cs
  | d=>cS d
def dA (d:D):Bool:=(bN d).all fun x=>eX x&&bL x
def zl (c:cf) (t:TypeId):Value→D
  | .int k n=>.int k n
  | .bool b=>.bool b
  | .string s=>.str s
  | .slice none 0 0=>.nil (c.esz t)
  | _=>.undef
def bW (c:cf) (st:St) (t:TypeId):Operand→D
  | .tmp i=>st.get i
  | .const v=>zl c t v
  | .func f=>.fn f []
  | .global _=>.undef
def xM (op:BinOp) (k:IntKind) (a b:Int):Option D:=
  match op with
  | .add=>some (.int k (k.wrap (a+b)))
  | .sub=>some (.int k (k.wrap (a - b)))
  | .mul=>some (.int k (k.wrap (a*b)))
  | .quo=>if b=0 then none else some (.int k (k.wrap (a.tdiv b)))
  | .rem=>if b=0 then none else some (.int k (a.tmod b))
  | .and=>some (.int k (k.wrap (BitVec.ofInt k.bits a&&& BitVec.ofInt k.bits b).toNat))
  | .or=>some (.int k (k.wrap (BitVec.ofInt k.bits a||| BitVec.ofInt k.bits b).toNat))
  | .xor=>some (.int k (k.wrap (BitVec.ofInt k.bits a ^^^ BitVec.ofInt k.bits b).toNat))
  | .eql=>some (.bool (a==b))
  | .neq=>some (.bool (a !=b))
  | .lss=>some (.bool (decide (a < b)))
  | .leq=>some (.bool (decide (a≤b)))
  | .gtr=>some (.bool (decide (a>b)))
  | .geq=>some (.bool (decide (a≥b)))
  | _=>none
def rY (op:BinOp) (k:IntKind) (a b:Int):Option D:=
  if b < 0 then none else
  match op with
  | .shl=>some (.int k (k.wrap (a*2 ^ (min b.toNat k.bits))))
  | .shr=>some (.int k (a.fdiv (2 ^ (min b.toNat k.bits))))
  | _=>none
def Ig (op:BinOp) (a b:ByteArray):Option D:=
  match op with
  | .add=>if a.size+b.size≤9223372036854775807 then some (.str (a++b)) else none
  | .eql=>some (.bool (a.toList==b.toList))
  | .neq=>some (.bool (!(a.toList==b.toList)))
  | _=>none
def DH (op:BinOp) (a b:Bool):Option D:=
  match op with
  | .eql=>some (.bool (a==b))
  | .neq=>some (.bool (!(a==b)))
  | _=>none
def pA (c:cf) (t:TypeId) (op:BinOp) (x y:D):Option D:=
  match x,y with
  | .int k a,.int k' b=>match op with
    | .shl=>rY .shl k a b
    | .shr=>rY .shr k a b
    | op=>if k=k' then xM op k a b else none
  | .str a,.str b=>Ig op a b
  | .bool a,.bool b=>match c.ty t with
    | some ⟨.bool,_,_,_⟩=>DH op a b
    | _=>none
  | _,_=>none
def TJ (op:UnOp) (x:D):Option D:=
  match op,x with
  | .neg,.int k n=>some (.int k (k.wrap (0 - n)))
  | .not,.bool b=>some (.bool (!b))
  | _,_=>none
def St.nP (st:St):D→Option (Option Bool × Nat × Nat × List D)
  | .nil s=>some (none,s,0,[])
  | .sl b s n cs=>some (b,s,n,cs)
  | .ref r q o x=>match st.cell r q o with
    | some (.sl b s n cs)=>some (b,s,(trim x s n cs).1,(trim x s n cs).2)
    | _=>none
  | _=>none
def Ih (c:cf) (st:St) (t:TypeId) (x:D):Option D:=
  match c.ty t,x with
  | some ⟨.str,_,_,_⟩,.str s=>some (.int .i64 s.size)
  | some ⟨.slice _,_,_,_⟩,d=>match st.nP d with
    | some (_,_,n,_)=>some (.int .i64 n)
    | none=>none
  | _,_=>none
def byteOf:D→Option UInt8
  | .int .u8 n=>some (UInt8.ofNat n.toNat)
  | _=>none
def ef (b:UInt8):D:=.int .u8 b.toNat
def tU (c:cf) (st:St) (src dst:TypeId) (x:D):Option (D × Option (List D)):=
  match c.ty src,c.ty dst with
  | some si,some di=>
    match di.ty,si.ty,x with
    | .int k,_,.int _ n=>some (.int k (k.wrap n),none)
    | .str,_,.int _ n=>some (.str (Utf8.encode n),none)
    | .str,_,.str s=>some (.str s,none)
    | .str,.slice e,x=>match c.ty e with
      | some ⟨.int .u8,_,_,_⟩=>match st.nP x with
        | some (_,s,_,cs)=>if s=1 then (match j6 byteOf cs with
          | some bs=>some (.str ⟨bs.toArray⟩,none)
          | none=>none) else none
        | none=>none
      | _=>none
    | .slice e,.str,.str s=>match c.ty e with
      | some ⟨.int .u8,_,_,_⟩=>some (.undef,some [.sl none 1 s.size (s.data.toList.map ef)])
      | _=>none
    | _,_,_=>none
  | _,_=>none
def oB (st:St) (agg:Bool) (size:Nat):D→Option D
  | .ptr r q o=>match st.cells r q with
    | some cs=>
      if agg then (if 0 < size∧o+size≤cs.length then some (.agg (kf r q o ((cs.drop o).take size))) else none)
      else match cs[o]? with
        | some d=>some (fW r q o d)
        | none=>none
    | none=>none
  | .dt cs o=>
      if agg then (if 0 < size∧o+size≤cs.length then some (.agg ((cs.drop o).take size)) else none)
      else cs[o]?
  | _=>none
def jt:Ty→Bool
  | .struct .. | .array ..=>true
  | _=>false
def live (st:St) (r:Nat) (q:List Nat):Bool:=
  match st.cells r q with
  | some (_::_)=>true
  | _=>false
def ju (i:Int) (n:Nat) (d:Option D):Option D:=if 0≤i then (if i < n then d else none) else none
def off (x:Option (Nat × Nat)):Nat:=
  match x with
  | none=>0
  | some (l,_)=>l
def oC (st:St) (c:cf) (t:TypeId) (x:D) (i:Int):Option D:=
  match c.ty t with
  | some ⟨.slice e,_,_,_⟩=>match c.ty e with
    | some ei=>match x with
      | .ref r q o x=>match st.cell r q o with
        | some (.sl none s n cs)=>if s=ei.size∧0 < s then ju i (trim x s n cs).1 (some (.ptr r (q++[o]) ((off x+i.toNat)*s))) else none
        | some (.sl (some _) s n cs)=>if s=ei.size∧0 < s then ju i (trim x s n cs).1 (some (.dt cs ((off x+i.toNat)*s))) else none
        | _=>none
      | .sl (some _) s n cs=>if s=ei.size∧0 < s then ju i n (some (.dt cs (i.toNat*s))) else none
      | _=>none
    | none=>none
  | some ⟨.array n e,_,_,_⟩=>match c.ty e with
    | some ei=>match x with
      | .ptr r q o=>if live st r q then ju i n (some (.ptr r q (o+i.toNat*ei.size))) else none
      | .dt cs o=>ju i n (some (.dt cs (o+i.toNat*ei.size)))
      | _=>none
    | none=>none
  | _=>none
def uS (st:St) (k:Nat):D→Option D
  | .ptr r q i=>if live st r q then some (.ptr r q (i+k)) else none
  | .dt cs i=>some (.dt cs (i+k))
  | _=>none
def uT (c:cf) (t:TypeId) (x:D) (i:Int):Option D:=
  match c.ty t,x with
  | some ⟨.str,_,_,_⟩,.str s=>ju i s.size ((s.data.toList[i.toNat]?).map ef)
  | some ⟨.array n e,_,_,_⟩,.agg cs=>match c.ty e with
    | some ei=>ju i n (if jt ei.ty then some (.agg ((cs.drop (i.toNat*ei.size)).take ei.size)) else cs[i.toNat*ei.size]?)
    | none=>none
  | _,_=>none
def vI:List D→Nat→List D→List D
  | cs,_,[]=>cs
  | cs,o,d::ds=>vI (cs.set o d) (o+1) ds
def rZ:D→D
  | .nil s=>.sl none s 0 []
  | d=>d
def fm (n:Nat) (z:List D):List D:=(List.replicate n (z.map rZ)).flatten
def cy:D→Bool
  | .fn .. | .agg _ | .aR _ | .aM _ | .undef | .hole ..=>false
  | _=>true
def single:D→Bool
  | .agg _ | .aR _ | .fn ..=>false
  | _=>true
def fe (st:St):D→Bool
  | .ref r q o _=>match st.cell r q o with
    | some (.sl ..)=>true
    | _=>false
  | .ptr r q _=>live st r q
  | d=>cy d
def lJ (ok:D→Bool) (place:Nat→Option (Nat × Nat)):List D→List (Nat × List D)→Option (List D)
  | cs,[]=>some cs
  | cs,(i,vs)::rest=>match place i with
    | some (o,k)=>if vs.length=k∧o+vs.length≤cs.length∧vs.all ok=true then lJ ok place (vI cs o vs) rest else none
    | none=>none
def cellsOf:D→List D
  | .agg cs=>cs
  | d=>[d]
def pB (st:St):List (Nat × D)→Option (List (Nat × List D) × St)
  | []=>some ([],st)
  | (i,d)::ps=>match pd st (cellsOf d) with
    | some (cs,st')=>match pB st' ps with
      | some (r,vH)=>some ((i,cs)::r,vH)
      | none=>none
    | none=>none
def hL:D→Bool
  | .int .. | .bool _ | .str _=>true
  | _=>false
def St.root (st:St) (dst:Option Nat) (cs:List D) (d:Nat→D):Option St:=
  match dst with
  | some t=>
    let st':=st.eG (cj (st.of+t))
    some { st' with tm:=pz st'.tm t (d (st.of+t)),rt:=pz st'.rt (st.of+t) cs }
  | none=>none
def elems (st:St) (flat:Bool) (z:List D) (sz:Nat):D→Option (List D × Nat × St)
  | .int .i64 n=>if 0≤n∧(z.map rZ).all cy=true then some (fm n.toNat z,n.toNat,st) else none
  | .str s=>if sz=1 then some (s.data.toList.map ef,s.size,st) else none
  | .nil _=>some ([],0,st)
  | .sl (some _) s n cs=>if s=sz∧cs.all cy=true then some (cs,n,st) else none
  | .ref r q o x=>match st.cell r q o with
    | some (.sl none s n cs)=>if s≠sz then none else if flat=true then (if (trim x s n cs).2.all hL=true then some ((trim x s n cs).2,(trim x s n cs).1,st) else none) else
      match pd st (kf r (q++[o]) (off x*s) (trim x s n cs).2) with
      | some (ys,st')=>if ys.all cy=true then some (ys,(trim x s n cs).1,st') else none
      | none=>none
    | some (.sl (some _) s n cs)=>if s=sz∧(trim x s n cs).2.all cy=true then some ((trim x s n cs).2,(trim x s n cs).1,st) else none
    | _=>none
  | _=>none
def target (st:St) (sz:Nat) (d:D):Option (Nat × List D × St):=
  match iv st d with
  | some (.sl none s n cs,st')=>if s=sz then some (n,cs,st') else none
  | _=>none
def DI (c:cf) (tx:TypeId):D→Bool
  | .int ..=>match c.ty tx with | some ⟨.int _,_,_,_⟩=>true | _=>false
  | .str _=>match c.ty tx with | some ⟨.str,_,_,_⟩=>true | _=>false
  | _=>match c.ty tx with | some ⟨.slice _,_,_,_⟩=>true | _=>false
def pC (c:cf) (st:St) (t tx:TypeId) (dst:Option Nat) (s x:D):Option St:=
  match c.ty t with
  | some ⟨.slice e,_,_,_⟩=>match c.ty e with
    | some ei=>if DI c tx x=true then
        match target st ei.size s with
        | some (n,cs,aE)=>match elems aE (ei.zero.all hL) ei.zero ei.size x with
          | some (ys,m,bS)=>
            if 0 < ei.size∧0 < ei.bytes∧(n+m)*ei.bytes≤140737488355328 then bS.root dst [.sl none ei.size (n+m) (cs++ys)] (fun d=>.ref d [] 0 none) else none
          | none=>none
        | none=>none
      else none
    | none=>none
  | _=>none
def bound (d:Option D) (z:Int):Option Int:=
  match d with
  | none=>some z
  | some (.int _ i)=>some i
  | _=>none
def B5 (s:ByteArray) (l h:Option D):Option D:=
  match bound l 0,bound h s.size with
  | some l,some h=>if 0≤l∧l≤h∧h≤s.size then some (.str (s.extract l.toNat h.toNat)) else none
  | _,_=>none
def B6 (st:St) (sz:Nat) (x:D) (l h:Option D):Option D:=
  match st.nP x with
  | some (g,s,n,cs)=>match bound l 0,bound h n with
    | some l,some h=>if s=sz∧0≤l∧l≤h∧h≤n then
        match x with
        | .ref r q o y=>some (.ref r q o (some (off y+l.toNat,h.toNat - l.toNat)))
        | .nil s=>some (.nil s)
        | _=>some (.sl g s (h.toNat - l.toNat) ((cs.drop (l.toNat*s)).take ((h.toNat - l.toNat)*s)))
      else none
    | _,_=>none
  | none=>none
def xN (c:cf) (st:St) (t:TypeId) (x:D) (l h:Option D):Option D:=
  match c.ty t with
  | some ⟨.str,_,_,_⟩=>match x with
    | .str s=>B5 s l h
    | _=>none
  | some ⟨.slice e,_,_,_⟩=>match c.ty e with
    | some ei=>B6 st ei.size x l h
    | none=>none
  | _=>none
def AU:D→List Nat→Option D
  | d,[]=>some d
  | .sl none _ _ cs,o::q=>match cs[o]? with
    | some d=>AU d q
    | none=>none
  | _,_=>none
def r8 (r:Nat) (q:List Nat) (o:Nat) (bQ:D):D→D
  | .ref r' q' o' x=>if r'=r then (match under (q++[o]) (q'++[o']) with
      | none=>.ref r' q' o' x
      | some y=>match AU bQ y with
        | some (.sl g s n cs)=>gS false (.sl g s (trim x s n cs).1 (trim x s n cs).2)
        | _=>.undef) else .ref r' q' o' x
  | d=>cb r q o true d
def St.qp (st:St) (r:Nat) (q:List Nat) (o:Nat) (d:D):Option (St × (D→D)):=
  match st.cell r q o with
  | some bQ=>some (if gd bQ then (st.TH (r8 r q o bQ) (cb r q o true),r8 r q o bQ) else if gd d then (st.eG (cb r q o true),cb r q o true) else (st,id))
  | none=>none
def lT (st:St) (r:Nat):Nat→(D→D)→List D→Option St
  | _,_,[]=>some st
  | o,h,d::ds=>if !fe st (h d) then none else match st.qp r [] o (h d) with
    | some (aE,f)=>match aE.gH r [] o (f (h d)) with
      | some st'=>lT st' r (o+1) (fun x=>f (h x)) ds
      | none=>none
    | none=>none
def lU (st:St) (r:Nat):Nat→List D→Option St
  | _,[]=>some st
  | o,d::ds=>if !cy d then none else match st.qp r [] o d with
    | some (aE,_)=>match aE.gH r [] o d with
      | some st'=>lU st' r (o+1) ds
      | none=>none
    | none=>none
def AV (r:Nat) (q:List Nat) (o:Nat):D→Bool
  | .ref r' q' o' none=>decide (r'=r)&&decide (q'=q)&&decide (o'=o)
  | _=>false
def uU (d:D) (r:Nat) (q:List Nat) (o:Nat):D→D:=
  match d with
  | .ref r' q' o' none=>py r' q' o' r q o
  | .ref r' q' o' (some _)=>cb r' q' o' true
  | _=>id
def St.rC (st:St) (d:D) (r:Nat) (q:List Nat) (o:Nat):St:=
  match d with
  | .ref _ _ _ _=>st.eG (uU d r q o)
  | _=>st
def iq (st:St) (r:Nat) (q:List Nat):Nat→(D→D)→List D→Option St
  | _,_,[]=>some st
  | o,h,d::ds=>
    if AV r q o (h d)&&fe st (h d) then iq st r q (o+1) h ds else
    match iv st (h d) with
    | some (d',aE)=>if !cy d' then none else match aE.qp r q o d' with
      | some (bS,f)=>match bS.gH r q o d' with
        | some Ag=>iq (Ag.rC (f (h d)) r q o) r q (o+1) (fun x=>uU (f (h d)) r q o (f (h x))) ds
        | none=>none
      | none=>none
    | none=>none
def r9 (st:St) (oz:Nat→Bool) (size:Nat) (a v:D):Option St:=
  match a with
  | .ptr r q o=>
    if (cellsOf v).length=size∧live st r q=true then
      match q with
      | []=>if oz (r - st.of) then (match pd st (cellsOf v) with
          | some (cs,aE)=>lU aE r o cs
          | none=>none) else lT st r o id (cellsOf v)
      | q=>iq st r q o id (cellsOf v)
    else none
  | _=>none
def lx (st:St):List Bool→List D→Option (List D × St)
  | _,[]=>some ([],st)
  | b,d::ds=>
    match (if b.headD false then Af st d else some (d,st):Option (D × St)) with
    | some (d',st')=>match lx st' b.tail ds with
      | some (ds',vH)=>some (d'::ds',vH)
      | none=>none
    | none=>none
def sa (st:St):List Bool→List D→Option (List D)
  | _,[]=>some []
  | b,d::ds=>
    match (if b.headD false then some d else N7 st d) with
    | some d'=>match sa st b.tail ds with
      | some ds'=>some (d'::ds')
      | none=>none
    | none=>none
def lg (st:St) (b:List Bool) (ds:List D):Option (List D × St):=
  match lx st b ds with
  | some (fJ,aE)=>match sa aE b fJ with
    | some rn=>some (rn,aE)
    | none=>none
  | none=>none
def nx (st:St) (h:D→D):List D→List D→Option (St × (D→D))
  | [],_=>some (st,h)
  | _::_,[]=>none
  | a::as9,d::ds=>
    match h a,d with
    | .ref r q o none,.sl none s n cs=>match st.cell r q o with
      | some (.hole s0 n0)=>if s0=s∧n0=n then
          (match (st.eG (cb r q o false)).gH r q o (.sl none s n cs) with
           | some st'=>nx st' (fun x=>cb r q o false (h x)) as9 ds
           | none=>none)
        else none
      | _=>none
    | _,_=>nx st h as9 ds
def zm (st:St) (h:D→D) (a out:D):Option (St × (D→D)):=
  match a,out with
  | .agg cs,.agg ds=>nx st h cs ds
  | .ptr r [] 0,.aM ds=>match lk st.rt r with
    | some []=>some ({ st.eG (dY r) with rt:=pz (st.eG (dY r)).rt r ds },fun x=>dY r (h x))
    | _=>none
  | a,d=>nx st h [a] [d]
def gJ (st:St) (h:D→D):List Bool→List D→List D→Option St
  | _,[],_=>some st
  | b,a::as9,o::os=>if b.headD false then match zm st h a o with
      | some (st',h')=>gJ st' h' b.tail as9 os
      | none=>none
    else gJ st h b.tail as9 os
  | _,_::_,[]=>none
def eY:List Bool→List D→Bool
  | _,[]=>false
  | b,d::ds=>(b.headD false&&!((bN d).all bL))||eY b.tail ds
def jm:List Bool→List D→List D
  | _,[]=>[]
  | b,d::ds=>(if b.headD false then gf false d else d)::jm b.tail ds
def jx (c:cf) (cl:FuncId→List D→Option (D × List D)) (st:St) (dst:Option Nat) (f:FuncId) (args:List D):Option St:=
  match lg st (c.own f) args with
  | some (ds,aE)=>
    let t:=eY (c.own f) ds
    match cl f (if t then jm (c.own f) ds else ds) with
    | some (r,outs)=>
      if dA r&&outs.all dA then
        match gJ aE id (c.own f) args (if t then outs.map (gf true) else outs) with
        | some bS=>match dst with
          | some i=>let p:=bS.oA (bS.of+i) (if t then gf true r else r); some (p.1.put (some i) p.2)
          | none=>some bS
        | none=>none
      else none
    | none=>none
  | none=>none
def eP (c:cf) (cl:FuncId→List D→Option (D × List D)) (ci:FuncId→List D→Nat→St→Option (D × St)) (ax:FuncId) (st:St) (o:Oper):Option St:=
  let ev:=bW c st o.type
  let val (d:Option D):Option St:=match d with | some d=>some (st.put o.dst d) | none=>none
  match o.op with
  | .move x | .assign x=>some (st.put o.dst (ev x))
  | .pick b x y=>match ev b with
    | .bool t=>some (st.put o.dst (if t then ev x else ev y))
    | _=>none
  | .alloc e=>match c.ty e with
    | some i=>st.root o.dst i.zero (fun d=>.ptr d [] 0)
    | none=>none
  | .box e x=>match c.ty e with
    | some i=>if (cellsOf (bW c st e x)).length=i.size∧(if c.oz ax (o.dst.getD 0)=true then true else (cellsOf (bW c st e x)).all (fe st))=true then
        match o.dst with
        | some t=>if c.oz ax t then (match pd st (cellsOf (bW c st e x)) with
            | some (cs,aE)=>if cs.all cy then aE.root (some t) cs (fun d=>.ptr d [] 0) else none
            | none=>none)
          else st.root (some t) (cellsOf (mX (cj (st.of+t)) (bW c st e x))) (fun d=>.ptr d [] 0)
        | none=>none
      else none
    | none=>none
  | .build t ps=>match c.ty t with
    | some ⟨.struct kr szs,_,_,z⟩=>
      match lJ (fe st) (fun i=>match kr[i]?,szs[i]? with | some o,some k=>some (o,k) | _,_=>none) z (ps.toList.map fun p=>(p.1,cellsOf (bW c st 0 p.2))) with
      | some cs=>some (st.put o.dst (.agg cs))
      | none=>none
    | some ⟨.array _ e,_,_,z⟩=>match c.ty e with
      | some ei=>
        match lJ (fe st) (fun i=>some (i*ei.size,ei.size)) z (ps.toList.map fun p=>(p.1,cellsOf (bW c st 0 p.2))) with
        | some cs=>some (st.put o.dst (.agg cs))
        | none=>none
      | none=>none
    | _=>none
  | .buildSlice t n ps=>match c.ty t with
    | some ⟨.slice e,_,_,_⟩=>match c.ty e with
      | some ei=>
        if n*ei.size≤16777216 then
          match pB st (ps.toList.map fun p=>(p.1,bW c st e p.2)) with
          | some (vs,aE)=>match lJ cy (fun i=>some (i*ei.size,ei.size)) (fm n ei.zero) vs with
            | some cs=>aE.root o.dst [.sl none ei.size n cs] (fun d=>.ref d [] 0 none)
            | none=>none
          | none=>none
        else none
      | none=>none
    | _=>none
  | .load t a=>match c.ty t with
    | some i=>val (oB st (jt i.ty) i.size (ev a))
    | none=>none
  | .store t a x=>match c.ty t with
    | some i=>match r9 st (c.oz ax) i.size (ev a) (bW c st t x) with
      | some st'=>some (st'.put o.dst (.aR []))
      | none=>none
    | none=>none
  | .nilCheck x=>match ev x with
    | .ptr r q i=>if live st r q then some (st.put o.dst (.ptr r q i)) else none
    | .dt cs i=>some (st.put o.dst (.dt cs i))
    | _=>none
  | .binOp op t x y _=>val (pA c t op (bW c st t x) (bW c st t y))
  | .unOp op _ x=>val (TJ op (ev x))
  | .convert src dst x=>match tU c st src dst (bW c st src x) with
    | some (d,none)=>some (st.put o.dst d)
    | some (_,some cs)=>st.root o.dst cs (fun d=>.ref d [] 0 none)
    | none=>none
  | .makeFunc (.func f) first gb=>if first.size=0∧(gb.toList.map ev).all single=true then some (st.put o.dst (.fn f (gb.toList.map ev))) else none
  | .makeSlice t l cp=>match c.ty t with
    | some ⟨.slice e,_,_,_⟩=>match c.ty e,ev l,ev cp with
      | some ei,.int _ l,.int _ cp=>if 0≤l then (if l≤cp then (if 0 < ei.bytes∧cp*ei.bytes≤140737488355328 then st.root o.dst [.sl none ei.size l.toNat (fm l.toNat ei.zero)] (fun d=>.ref d [] 0 none) else none) else none) else none
      | _,_,_=>none
    | _=>none
  | .slice t x l h none=>val (xN c st t (bW c st t x) (l.map ev) (h.map ev))
  | .fieldAddr s x f=>match c.ty s with
    | some ⟨.struct kr szs,_,_,_⟩=>match kr[f]? with
      | some k=>val (uS st k (ev x))
      | none=>none
    | _=>none
  | .indexAddr t x i=>match ev i with
    | .int _ i=>val (oC st c t (bW c st t x) i)
    | _=>none
  | .index t x i=>match ev i with
    | .int _ i=>val (uT c t (ev x) i)
    | _=>none
  | .extract x i=>match ev x with
    | .aR vs=>val vs[i]?
    | _=>none
  | .call cc=>if cc.args.size≠cc.argTypes.size then none else
    let args:=(cc.args.toList.zip cc.argTypes.toList).map fun p=>bW c st p.2 p.1
    match cc.callee with
    | .value f=>match ev f with
      | .fn g gb=>if c.inl g then (match ci g (args++gb) ((st.of+o.dst.getD 0+1)*100000) st with
          | some (d,st')=>some (st'.put o.dst d)
          | none=>none) else jx c cl st o.dst g (args++gb)
      | _=>none
    | .builtin .len=>match args,cc.argTypes.toList with
      | [x],[t]=>val (Ih c st t x)
      | _,_=>none
    | .builtin .min=>match args with
      | [.int k a,.int _ b]=>some (st.put o.dst (.int k (if b < a then b else a)))
      | _=>none
    | .builtin .max=>match args with
      | [.int k a,.int _ b]=>some (st.put o.dst (.int k (if b>a then b else a)))
      | _=>none
    | .builtin .append=>match args,cc.argTypes.toList with
      | [s,x],[t,tx]=>pC c st t tx o.dst s x
      | _,_=>none
    | _=>none
  | _=>none
def zn (c:cf) (ax:FuncId) (o:Oper):List Nat:=
  match o.op with
  | .store _ (.tmp x) _=>c.vG ax x
  | .call cc=>(match cc.callee,o.dst with
    | .builtin .append,some d=>c.vG ax d
    | _,_=>[])
  | _=>[]
def uF (c:cf) (ax:FuncId) (st:St) (o:Oper):Bool:=
  match o.op with
  | .load _ (.tmp x)=>(match c.base ax x with
    | none=>true
    | some 0=>(match st.get x with
      | .dt _ _=>true
      | _=>false)
    | some (r+1)=>(match st.get x with
      | .ptr r' [] _=>r'==st.of+r&&decide (r' < 10000)
      | _=>false))
  | .store _ (.tmp x) _=>(match c.vG ax x with
    | []=>true
    | l=>(match st.get x with
      | .ptr r' q _=>live st r' q&&l.all fun r=>(lk st.rt (st.of+r)).isSome&&r' !=st.of+r
      | _=>false))
  | _=>(zn c ax o).all fun r=>(lk st.rt (st.of+r)).isSome
def vJ (st:St) (ops:Array Oper) (o:Oper):Option Bool:=
  match o.guard with
  | none=>some true
  | some (j,want)=>match (ops[j]?).bind (·.dst) with
    | some t=>match st.get t with
      | .bool b=>some (b==want)
      | .aR []=>some false
      | _=>none
    | none=>some false
def sb (c:cf) (cl:FuncId→List D→Option (D × List D)) (ci:FuncId→List D→Nat→St→Option (D × St)) (ax:FuncId) (all:Array Oper):List Oper→St→Option St
  | [],st=>some st
  | o::rest,st=>match vJ st all o with
    | some true=>if uF c ax st o then (match eP c cl ci ax st o with
      | some st'=>sb c cl ci ax all rest st'
      | none=>none) else none
    | some false=>sb c cl ci ax all rest (st.put o.dst (.aR []))
    | none=>none
def gK (c:cf) (cl:FuncId→List D→Option (D × List D)) (ci:FuncId→List D→Nat→St→Option (D × St)) (ax:FuncId) (all:Array Oper):List Nat→St→Option St
  | [],st=>some st
  | i::rest,st=>match all[i]? with
    | none=>gK c cl ci ax all rest st
    | some o=>match vJ st all o with
      | some true=>if uF c ax st o then (match eP c cl ci ax st o with
        | some st'=>gK c cl ci ax all rest st'
        | none=>none) else none
      | some false=>gK c cl ci ax all rest (st.put o.dst (.aR []))
      | none=>none
def mL (c:cf) (o:Oper):Option Bool:=
  match o.op with
  | .move _ | .assign _ | .pick .. | .binOp .. | .unOp .. | .makeFunc .. | .slice .. | .fieldAddr .. | .indexAddr .. | .index .. | .extract .. | .build .. | .nilCheck _=>some true
  | .load ..=>some false
  | .convert _ d _=>(match c.ty d with
    | some ⟨.slice _,_,_,_⟩=>none
    | some _=>some false
    | none=>none)
  | .call cc=>(match cc.callee with
    | .builtin .len | .builtin .min | .builtin .max=>some true
    | _=>none)
  | _=>none
def qq (o:Oper):Bool:=
  match o.op with
  | .alloc _ | .box .. | .makeSlice .. | .buildSlice ..=>true
  | _=>false
def wO (c:cf) (o:Oper):Bool:=
  (mL c o).isSome||qq o||(match o.op with
    | .call cc=>(match cc.callee with
      | .value (.func f)=>!c.inl f&&!(c.own f).any id
      | _=>false)
    | _=>false)
def Xd (c:cf) (ax:FuncId) (r:Nat) (o:Oper):Bool:=wO c o||(zn c ax o).contains r
def waits (ops:Array Oper):Nat→Nat→Nat→Bool
  | 0,_,_=>false
  | n+1,j,i=>match ops[j]? with
    | some o=>o.after.toList.any fun e=>Region.binds .any e&&(e.on==i||waits ops n e.on i)
    | none=>false
def vK (c:cf) (ax:FuncId) (oi:Oper) (b:Bool) (oj:Oper):Bool:=
  b||(match oi.op with
    | .load _ (.tmp x)=>(match c.base ax x with
      | some 0=>true
      | some (r+1)=>Xd c ax r oj
      | none=>wO c oj)
    | _=>wO c oj)
def HS (c:cf) (ax:FuncId) (ops:Array Oper) (oi:Oper):Bool:=
  match oi.op with
  | .load _ (.tmp x)=>(match c.base ax x with
    | some (r+1)=>ops.toList.all fun o=>o.dst !=some r
    | _=>true)
  | _=>true
def Ii (c:cf) (ax:FuncId) (ops:Array Oper) (bH:Array Bool) (i:Nat):Bool:=
  match ops[i]? with
  | none=>false
  | some oi=>match mL c oi with
    | none=>false
    | some b=>HS c ax ops oi&&(List.range ops.size).all fun j=>j==i||bH.getD j true||waits ops ops.size j i||(match ops[j]? with
      | some oj=>oi.apart ops oj&&vK c ax oi b oj
      | none=>true)
def Fg (c:cf) (o:Oper):Option (List D × Bool):=
  match o.op with
  | .alloc e=>(match c.ty e with
    | some i=>some (i.zero,true)
    | none=>none)
  | .makeSlice t (.const l) (.const cp)=>(match c.ty t with
    | some ⟨.slice e,_,_,_⟩=>(match c.ty e,zl c o.type l,zl c o.type cp with
      | some ei,.int _ l,.int _ cp=>if 0≤l∧l≤cp∧0 < ei.bytes∧cp*ei.bytes≤140737488355328 then some ([.sl none ei.size l.toNat (fm l.toNat ei.zero)],false) else none
      | _,_,_=>none)
    | _=>none)
  | .buildSlice t n ps=>(match c.ty t with
    | some ⟨.slice e,_,_,_⟩=>(match c.ty e with
      | some ei=>if n=0∧ps.size=0 then some ([.sl none ei.size 0 []],false) else none
      | none=>none)
    | _=>none)
  | _=>none
def Xe (c:cf) (o:Oper):Bool:=o.guard.isNone&&o.dst.isSome&&(Fg c o).isSome
def Ij (c:cf) (ops:Array Oper) (bH:Array Bool) (rs:List Nat) (h:Nat):Bool:=
  match ops[h]? with
  | none=>false
  | some oh=>(List.range ops.size).all fun j=>j==h||bH.getD j true||waits ops ops.size j h||(match ops[j]? with
    | some oj=>Xe c oj&&rs.contains j&&oj.apart ops oh&&(List.range ops.size).all fun k=>k==j||bH.getD k true||(match ops[k]? with
      | some ok=>oj.apart ops ok||waits ops ops.size k j
      | none=>true)
    | none=>true)
def qd (c:cf) (ax:FuncId) (ops:Array Oper):Nat→Array Bool→Option (List Nat)
  | 0,bH=>match Region.ready .any ops bH with
    | []=>some []
    | _=>none
  | k+1,bH=>match Region.ready .any ops bH with
    | []=>some []
    | r::rs=>match (r::rs).find? (Ii c ax ops bH) with
      | some i=>(match qd c ax ops k (bH.setIfInBounds i true) with
        | some l=>some (i::l)
        | none=>none)
      | none=>match (r::rs).find? (Ij c ops bH (r::rs)) with
        | some h=>(match qd c ax ops k (bH.setIfInBounds h true) with
          | some l=>some (h::l)
          | none=>none)
        | none=>none
def pD (B:List Nat) (st:St) (r:Nat):Nat→Nat→Option St
  | _,0=>some st
  | o,k+1=>
    match st.cell r [] o with
    | some (.ref r' q' o' x)=>if (!q'.isEmpty||B.contains r')=true then pD B st r (o+1) k else
      (match iv st (.ref r' q' o' x) with
       | some (d',aE)=>match (aE.eG (cb r [] o true)).gH r [] o d' with
         | some bS=>pD B (bS.rC (.ref r' q' o' x) r [] o) r (o+1) k
         | none=>none
       | none=>none)
    | _=>pD B st r (o+1) k
def Fh (B:List Nat) (st:St) (r:Nat):Option St:=
  match lk st.rt r with
  | some cs=>pD B st r 0 cs.length
  | none=>some st
def MA (B:List Nat) (st:St) (t:Nat):Option St:=
  match st.get t with
  | .ref r [] o x=>if r=10000+st.of+t∨B.contains r=true then some st else
    match iv st (.ref r [] o x) with
    | some (d',aE)=>
      let bS:=(aE.eG (cj (10000+st.of+t))).rC (.ref r [] o x) (10000+st.of+t) [] 0
      some { bS with tm:=pz bS.tm t (.ref (10000+st.of+t) [] 0 none),rt:=pz bS.rt (10000+st.of+t) [d'] }
    | none=>none
  | _=>some st
def zo (f:St→Nat→Option St):St→List Nat→Option St
  | st,[]=>some st
  | st,t::ts=>match f st t with
    | some st'=>zo f st' ts
    | none=>none
def rD {α:Type} (l:List (Nat × α)):List Nat→List (Nat × α)
  | []=>[]
  | t::ts=>match lk l t with
    | some v=>(t,v)::rD l ts
    | none=>rD l ts
def below {α:Type} (k:Nat):List (Nat × α)→List (Nat × α)
  | []=>[]
  | (j,v)::t=>if (k≤j∧j < k+100000)∨((k+1)*100000≤j∧j < (k+100001)*100000) then below k t else (j,v)::below k t
def zp (L B:List Nat) (st:St):Option St:=
  let bs:=B.map (st.of+·)++L.filterMap fun t=>match st.get t with
    | .ptr r [] _=>some r
    | _=>none
  match zo (Fh bs) st bs with
  | some aE=>match zo (MA bs) aE L with
    | some bS=>some { bS with tm:=rD bS.tm L,rt:=below st.of bS.rt++rD bS.rt ((B++L.map (10000+·)).map (st.of+·)) }
    | none=>none
  | none=>none
def rE (nm:St→Option St) (body:St→Option (Exit × St)):Nat→St→Option (Exit × St)
  | 0,_=>none
  | k+1,st=>match nm st with
    | some aE=>match body aE with
      | some (.normal,bS)=>rE nm body k bS
      | r=>r
    | none=>none
def eE (c:cf) (cl:FuncId→List D→Option (D × List D)) (ci:FuncId→List D→Nat→St→Option (D × St)) (K:Nat) (ax:FuncId):Code→Nat→St→Option (Exit × St)
  | .skip,_,st=>some (.normal,st)
  | .region _ ops false,_,st=>match sb c cl ci ax ops ops.toList st with
    | some st'=>some (.normal,st')
    | none=>none
  | .region _ ops true,_,st=>match qd c ax ops ops.size (Array.replicate ops.size false) with
    | some l=>(match gK c cl ci ax ops l st with
      | some st'=>some (.normal,st')
      | none=>none)
    | none=>none
  | .seq a b,i,st=>match eE c cl ci K ax a i st with
    | some (.normal,st')=>eE c cl ci K ax b i st'
    | r=>r
  | .cond x a b,i,st=>match bW c st 0 x with
    | .bool t=>if t then eE c cl ci K ax a i st else eE c cl ci K ax b i st
    | _=>none
  | .block id a,_,st=>match eE c cl ci K ax a id st with
    | some (.exit sc,st')=>if sc=id then some (.normal,st') else some (.exit sc,st')
    | r=>r
  | .loop a,i,st=>rE (match c.nm ax i with | some (L,B)=>zp L B | none=>some) (eE c cl ci K ax a i) K st
  | .exit id,_,st=>some (.exit id,st)
  | .ret,_,st=>some (.ret,st)
  | _,_,_=>none
def lV (n:Nat):Nat→List D→St→St
  | _,[],st=>st
  | i,d::ds,st=>
    lV n (i+1) ds (match d with
      | .aM cs=>{ st with tm:=pz st.tm i (.ptr (n+i) [] 0),rt:=pz st.rt (n+i) cs }
      | d=>if (cS d).any hI then { st with tm:=pz st.tm i (zk (n+i) d),rt:=pz st.rt (n+i) (cS d) } else { st with tm:=pz st.tm i d })
def uG (c:cf) (st:St):List ResultVar→Option (List D)
  | []=>some []
  | .tmp t::rs=>match uG c st rs with
    | some ds=>some (st.get t::ds)
    | none=>none
  | .cell a t::rs=>match c.ty t with
    | some i=>match oB st (jt i.ty) i.size (st.get a) with
      | some d=>match uG c st rs with
        | some ds=>some (d::ds)
        | none=>none
      | none=>none
    | none=>none
def ew:D→Bool
  | .aM _=>true
  | d=>(cS d).any hI
def mF (st:St) (r:Nat) (d:D):Option D:=
  if ew d then
    match d with
    | .aM _=>some (.ptr r [] 0)
    | .agg _=>match lk st.rt r with
      | some cs=>some (.agg (kf r [] 0 cs))
      | none=>none
    | _=>match lk st.rt r with
      | some [d']=>some (fW r [] 0 d')
      | _=>none
  else none
def ny (n:Nat):Nat→List D→St→Option (List D)
  | _,[],_=>some []
  | i,d::ds,st=>
    match mF st (n+i) d with
    | none=>match ny n (i+1) ds st with
      | some os=>some (.undef::os)
      | none=>none
    | some v=>match Af st v with
      | some (o,st')=>match ny n (i+1) ds st' with
        | some os=>some (o::os)
        | none=>none
      | none=>none
def mG:List D→D
  | [d]=>d
  | ds=>.aR ds
def uV:Nat→List D→List (Nat × D)
  | _,[]=>[]
  | i,d::ds=>(i,d)::uV (i+1) ds
def sd:Exit→Bool
  | .normal | .ret=>true
  | _=>false
def se (n k:Nat):Bool:=decide (k≤n)&&decide (n+k≤10000)
def MB:D→Bool
  | .aR _=>false
  | _=>true
def HT (c:cf) (P:Program) (cl:FuncId→List D→Option (D × List D)) (ci:FuncId→List D→Nat→St→Option (D × St)) (K:Nat) (f:FuncId) (args:List D):Option (D × List D):=
  match c.ext f with
  | some e=>e args
  | none=>match P.funcs[f]? with
    | some fn=>match fn.body with
      | some body=>match eE c cl ci K f body 0 (lV fn.ntmps 0 args ⟨[],[],[],0⟩) with
        | some (x,st)=>if sd x&&se fn.ntmps args.length then (match uG c st fn.results.toList with
            | some ds=>match Ie st ds with
              | some (ds',st')=>match ny fn.ntmps 0 args st' with
                | some os=>some (mG ds',os)
                | none=>none
              | none=>none
            | none=>none) else none
        | none=>none
      | none=>none
    | none=>none
def Rb (c:cf) (P:Program) (cl:FuncId→List D→Option (D × List D)) (ci:FuncId→List D→Nat→St→Option (D × St)) (K:Nat) (f:FuncId) (args:List D) (of:Nat) (st:St):Option (D × St):=
  match P.funcs[f]? with
  | some fn=>match fn.body with
    | some body=>match eE c cl ci K f body 0 ⟨uV 0 args,st.rt,st.tm::st.up,of⟩ with
      | some (x,aE)=>if sd x&&se fn.ntmps args.length then (match uG c aE fn.results.toList,aE.up with
          | some ds,tm::up=>if ds.all MB then some (mG ds,⟨tm,aE.rt,up,st.of⟩) else none
          | _,_=>none) else none
      | none=>none
    | none=>none
  | none=>none
def forget:List Bool→List D→List D
  | true::b,.aM cs::os=>.aM cs::forget b os
  | true::b,_::os=>.undef::forget b os
  | false::b,o::os=>o::forget b os
  | _,os=>os
def N9 (b:List Bool):Option (D × List D)→Option (D × List D)
  | some (r,os)=>some (r,forget b os)
  | none=>none
def vL (c:cf) (P:Program) (cl:FuncId→List D→Option (D × List D)) (ci:FuncId→List D→Nat→St→Option (D × St)) (K:Nat) (f:FuncId) (args:List D):Option (D × List D):=
  match c.ext f with
  | some e=>e args
  | none=>N9 (c.gone f) (HT c P cl ci K f args)
def lW (c:cf) (P:Program):Nat→(FuncId→List D→Option (D × List D)) × (FuncId→List D→Nat→St→Option (D × St))
  | 0=>(fun _ _=>none,fun _ _ _ _=>none)
  | k+1=>(vL c P (lW c P k).1 (lW c P k).2 k,Rb c P (lW c P k).1 (lW c P k).2 k)
def MC (c:cf) (P:Program) (k:Nat):FuncId→List D→Option (D × List D):=(lW c P k).1
end Go.Proofs.Ytockoilcnmljiaa
namespace Go.Proofs.Ytockoilcnmljiaa
inductive T where
  | v (d:D) (u:Value)
  | own (s n cap:Nat) (a:Option (Nat × Nat)) (cs:List T)
  deriving Inhabited
def bj:D→D
  | .sl none _ _ _=>.undef
  | d=>d
def tV (a:Option (Nat × Nat)) (n cap:Nat):Value:=.slice (a.map fun p=>⟨p.1,p.2,none⟩) n cap
def T.val:T→Value
  | .v _ u=>u
  | .own _ n cap a _=>tV a n cap
mutual
def T.er:T→D
  | .v d _=>bj d
  | .own s n _ _ cs=>.sl none s n (aP cs)
def aP:List T→List D
  | []=>[]
  | t::ts=>t.er::aP ts
end
def iw:Option (Nat × Nat)→List Nat
  | some (b,_)=>[b]
  | none=>[]
mutual
def T.ft:T→List Nat
  | .v _ _=>[]
  | .own _ _ _ a cs=>iw a++ae cs
def ae:List T→List Nat
  | []=>[]
  | t::ts=>t.ft++ae ts
end
def ay:List T→List Value
  | []=>[]
  | t::ts=>t.val::ay ts
theorem eg (ts:List T):aP ts=ts.map T.er:=by
  induction ts with
  | nil=>rfl
  | cons t ts ih=>simp [aP,ih]
theorem cD (ts:List T):ay ts=ts.map T.val:=by
  induction ts with
  | nil=>rfl
  | cons t ts ih=>simp [ay,ih]
theorem lX (ts:List T):ae ts=(ts.map T.ft).flatten:=by
  induction ts with
  | nil=>rfl
  | cons t ts ih=>simp [ae,ih]
theorem gL (ts:List T) (o:Nat):(aP ts)[o]?=(ts[o]?).map T.er:=by simp [eg]
theorem eS (ts:List T):(aP ts).length=ts.length:=by simp [eg]
theorem sj (a b:List T):aP (a++b)=aP a++aP b:=by simp [eg]
theorem Ik (ts:List T) (o:Nat) (t:T):(aP ts).set o t.er=aP (ts.set o t):=by
  simp [eg,List.map_set]
theorem eQ (ts:List T) (o:Nat):(ay ts)[o]?=(ts[o]?).map T.val:=by simp [cD]
theorem bw (ts:List T):(ay ts).length=ts.length:=by simp [cD]
theorem nQ (ts:List T) (o:Nat) (t:T):ay (ts.set o t)=(ay ts).set o t.val:=by simp [cD,List.map_set]
theorem xO (a b:List T):ay (a++b)=ay a++ay b:=by simp [cD]
theorem aO (a b:List T):ae (a++b)=ae a++ae b:=by simp [lX]
theorem xP (ts:List T) (k:Nat):(aP ts).drop k=aP (ts.drop k):=by simp [eg,List.map_drop]
theorem xQ (ts:List T) (k:Nat):(aP ts).take k=aP (ts.take k):=by simp [eg,List.map_take]
theorem B7 {t:T} {s n:Nat} {cs:List D} (h:t.er=.sl none s n cs):∃ cap a ts,t=.own s n cap a ts∧cs=aP ts:=by
  cases t with
  | v d u=>
    simp only [T.er] at h
    cases d<;>simp only [bj] at h<;>try cases h
    rename_i g _ _ _
    cases g<;>simp at h
  | own s' n' cap a ts=>
    simp only [T.er,D.sl.injEq] at h
    obtain ⟨_,rfl,rfl,rfl⟩:=h
    exact ⟨cap,a,ts,rfl,rfl⟩
def au:List T→List Nat→Option (List T)
  | cs,[]=>some cs
  | cs,o::q=>match cs[o]? with
    | some (.own _ _ _ _ xs)=>au xs q
    | _=>none
def dn (f:List T→List T):List T→List Nat→Option (List T)
  | cs,[]=>some (f cs)
  | cs,o::q=>match cs[o]? with
    | some (.own s n cap a xs)=>match dn f xs q with
      | some jw=>some (cs.set o (.own s n cap a jw))
      | none=>none
    | _=>none
def bI (b:Option Nat):List T→List Nat→Option (Nat × Nat)
  | _,[]=>b.map fun k=>(k,0)
  | cs,o::q=>match cs[o]? with
    | some (.own _ _ _ a xs)=>(match q with | []=>a | _=>bI none xs q)
    | _=>none
theorem Il (q:List Nat):∀ cs:List T,ks (aP cs) q=(au cs q).map aP:=by
  induction q with
  | nil=>intro cs; rfl
  | cons o q ih=>
    intro cs
    simp only [ks,au,gL]
    cases h:cs[o]? with
    | none=>simp
    | some t=>
      cases t with
      | v d u=>
        cases d<;>simp [T.er,bj]
        rename_i g _ _ _
        cases g<;>simp
      | own s n cap a xs=>simp [T.er,ih]
theorem Xf (q:List Nat) (o:Nat) (t:T):∀ cs:List T,nw (fun l=>l.set o t.er) (aP cs) q=(dn (fun l=>l.set o t) cs q).map aP:=by
  induction q with
  | nil=>intro cs; simp [nw,dn,Ik]
  | cons p q ih=>
    intro cs
    simp only [nw,dn,gL]
    cases h:cs[p]? with
    | none=>simp
    | some x=>
      cases x with
      | v d u=>
        cases d<;>simp [T.er,bj]
        rename_i g _ _ _
        cases g<;>simp
      | own s n cap a xs=>
        simp only [Option.map_some,T.er,ih]
        cases hm:dn (fun l=>l.set o t) xs q with
        | none=>simp
        | some jw=>
          simp only [Option.map_some]
          rw [← Ik]; simp [T.er]
theorem Im {q:List Nat} {f:List T→List T}:∀ {cs l:List T},au cs q=some l→∃ cs',dn f cs q=some cs':=by
  induction q with
  | nil=>intro cs l _; exact ⟨_,rfl⟩
  | cons p q ih=>
    intro cs l h
    simp only [au] at h
    simp only [dn]
    cases hp:cs[p]? with
    | none=>simp [hp] at h
    | some x=>
      cases x with
      | v d u=>simp [hp] at h
      | own s n cap a xs=>
        simp only [hp] at h
        obtain ⟨jw,hx⟩:=ih h
        exact ⟨cs.set p (.own s n cap a jw),by simp [hx]⟩
theorem lY {q:List Nat} {f:List T→List T}:∀ {cs cs':List T},dn f cs q=some cs'→∃ l,au cs q=some l∧au cs' q=some (f l):=by
  induction q with
  | nil=>
    intro cs cs' h
    simp only [dn,Option.some.injEq] at h
    exact ⟨cs,rfl,by rw [← h]; rfl⟩
  | cons p q ih=>
    intro cs cs' h
    simp only [dn] at h
    cases hp:cs[p]? with
    | none=>simp [hp] at h
    | some x=>
      cases x with
      | v d u=>simp [hp] at h
      | own s n cap a xs=>
        simp only [hp] at h
        cases hm:dn f xs q with
        | none=>simp [hm] at h
        | some jw=>
          simp only [hm,Option.some.injEq] at h
          obtain ⟨l,h1,h2⟩:=ih hm
          refine ⟨l,by simp [au,hp,h1],?_⟩
          have hl:p < cs.length:=(List.getElem?_eq_some_iff.1 hp).1
          rw [← h]
          simp [au,hl,h2]
theorem kQ {p:Nat} {q:List Nat} {f:List T→List T} {cs cs':List T} (h:dn f cs (p::q)=some cs'):ay cs'=ay cs∧cs'.length=cs.length:=by
  simp only [dn] at h
  cases hp:cs[p]? with
  | none=>simp [hp] at h
  | some x=>
    cases x with
    | v d u=>simp [hp] at h
    | own s n cap a xs=>
      simp only [hp] at h
      cases hm:dn f xs q with
      | none=>simp [hm] at h
      | some jw=>
        simp only [hm,Option.some.injEq] at h
        subst h
        obtain ⟨hl,hx⟩:=List.getElem?_eq_some_iff.1 hp
        refine ⟨?_,by simp⟩
        rw [nQ]
        apply List.ext_getElem?
        intro j
        by_cases hj:p=j
        · subst hj
          rw [List.getElem?_set_self (by rw [bw]; exact hl),eQ,hp]; rfl
        · simp [hj]
theorem dB (cs:List T) (o:Nat) (t:T) (h:cs[o]?=some t):∃ A B,ae cs=A++t.ft++B∧∀ t':T,ae (cs.set o t')=A++t'.ft++B:=by
  induction cs generalizing o with
  | nil=>simp at h
  | cons x xs ih=>
    cases o with
    | zero=>
      simp only [List.getElem?_cons_zero,Option.some.injEq] at h
      subst h
      exact ⟨[],ae xs,by simp [ae],fun t'=>by simp [ae]⟩
    | succ o=>
      simp only [List.getElem?_cons_succ] at h
      obtain ⟨A,B,h1,h2⟩:=ih o h
      exact ⟨x.ft++A,B,by simp [ae,h1],fun t'=>by simp [ae,h2]⟩
theorem B8 {q:List Nat}:∀ {cs l:List T},au cs q=some l→∃ A B,ae cs=A++ae l++B∧∀ f cs',dn f cs q=some cs'→ae cs'=A++ae (f l)++B:=by
  induction q with
  | nil=>
    intro cs l h
    simp only [au,Option.some.injEq] at h
    subst h
    refine ⟨[],[],by simp,fun f cs' h=>?_⟩
    simp only [dn,Option.some.injEq] at h
    simp [← h]
  | cons p q ih=>
    intro cs l h
    simp only [au] at h
    cases hp:cs[p]? with
    | none=>simp [hp] at h
    | some x=>
      cases x with
      | v d u=>simp [hp] at h
      | own s n cap a xs=>
        simp only [hp] at h
        obtain ⟨A,B,h1,h2⟩:=ih h
        obtain ⟨A',B',h3,h4⟩:=dB cs p _ hp
        refine ⟨A'++iw a++A,B++B',by rw [h3]; simp [T.ft,h1],fun f cs' hm=>?_⟩
        simp only [dn,hp] at hm
        cases hx:dn f xs q with
        | none=>simp [hx] at hm
        | some jw=>
          simp only [hx,Option.some.injEq] at hm
          rw [← hm,h4]
          simp [T.ft,h2 f jw hx]
theorem MD {q:List Nat} {o:Nat} {cs l:List T} {t:T} (h:au cs q=some l) (ht:l[o]?=some t):
    ∃ A B,ae cs=A++t.ft++B∧∀ t' cs',dn (fun l=>l.set o t') cs q=some cs'→ae cs'=A++t'.ft++B:=by
  obtain ⟨A,B,h1,h2⟩:=B8 h
  obtain ⟨A',B',h3,h4⟩:=dB l o t ht
  refine ⟨A++A',B'++B,by rw [h1,h3]; simp,fun t' cs' hm=>?_⟩
  rw [h2 _ _ hm,h4]; simp
structure RT where
  box:Option Nat
  cs:List T
def RT.ft (r:RT):List Nat:=r.box.toList++ae r.cs
def cr:List (Nat × RT)→List Nat
  | []=>[]
  | (_,r)::t=>r.ft++cr t
theorem cm {α:Type} (l:List (Nat × α)) (k:Nat) (v:α):lk (pt l k v) k=some v:=by
  induction l with
  | nil=>simp [pt,lk]
  | cons e t ih=>
    obtain ⟨j,u⟩:=e
    simp only [pt]
    split
    · simp [lk]
    · rename_i h; simp [lk,h,ih]
theorem dk {α:Type} (l:List (Nat × α)) {k j:Nat} (v:α) (h:j≠k):lk (pt l k v) j=lk l j:=by
  induction l with
  | nil=>simp [pt,lk,Ne.symm h]
  | cons e t ih=>
    obtain ⟨i,u⟩:=e
    simp only [pt]
    split
    · rename_i hi; subst hi; simp [lk,Ne.symm h]
    · simp only [lk]; split<;>simp [ih]
theorem jy {α:Type} (l:List (Nat × α)) (k:Nat) (v:α):lk (pz l k v) k=some v:=by
  induction l with
  | nil=>simp [pz,lk]
  | cons e t ih=>
    obtain ⟨j,u⟩:=e
    simp only [pz]
    split
    · rename_i h; simp [lk,Nat.ne_of_lt h,ih]
    · split<;>simp [lk]
theorem pE {α:Type} (l:List (Nat × α)) {k j:Nat} (v:α) (h:j≠k):lk (pz l k v) j=lk l j:=by
  induction l with
  | nil=>simp [pz,lk,Ne.symm h]
  | cons e t ih=>
    obtain ⟨i,u⟩:=e
    simp only [pz]
    split
    · simp only [lk]; split<;>simp [ih]
    · split
      · rename_i hi; subst hi; simp [lk,Ne.symm h]
      · simp [lk,Ne.symm h]
def gy (l:List (Nat × List D)) (S:List (Nat × RT)):Prop:=∀ k,lk l k=(lk S k).map fun r=>aP r.cs
theorem zq {l:List (Nat × List D)} {S:List (Nat × RT)} (h:gy l S) (k:Nat) (r:RT):gy (pz l k (aP r.cs)) (pt S k r):=by
  intro j
  by_cases hj:j=k
  · subst hj; rw [jy,cm]; rfl
  · rw [pE _ _ hj,dk _ _ hj]; exact h j
theorem kt {S:List (Nat × RT)} {k:Nat} {r:RT} (h:lk S k=some r):∃ A B,cr S=A++r.ft++B∧∀ r',cr (pt S k r')=A++r'.ft++B:=by
  induction S with
  | nil=>simp [lk] at h
  | cons e t ih=>
    obtain ⟨j,u⟩:=e
    simp only [lk] at h
    by_cases hj:j=k
    · simp only [hj,if_true,Option.some.injEq] at h
      subst h
      exact ⟨[],cr t,by simp [cr],fun r'=>by simp [pt,hj,cr]⟩
    · simp only [hj,if_false] at h
      obtain ⟨A,B,h1,h2⟩:=ih h
      exact ⟨u.ft++A,B,by simp [cr,h1],fun r'=>by simp [pt,hj,cr,h2]⟩
theorem ME {S:List (Nat × RT)} {k:Nat} (h:lk S k=none) (r:RT):cr (pt S k r)=cr S++r.ft:=by
  induction S with
  | nil=>simp [pt,cr]
  | cons e t ih=>
    obtain ⟨j,u⟩:=e
    simp only [lk] at h
    by_cases hj:j=k
    · simp [hj] at h
    · simp only [hj,if_false] at h
      simp [pt,hj,cr,ih h]
end Go.Proofs.Ytockoilcnmljiaa
namespace Go.Proofs.Ytockoilcnmljiaa
def Unf (fz:Nat × Nat) (n:Nat):Prop:=∀ o,o < n→¬ (fz.1≤o∧o < fz.2)
def ka (w:World) (b off eR:Nat) (us:List Value):Prop:=
  ∃ c e fz,w.heap[b]?=some (.cells c e fz)∧Unf fz c.size∧off+eR≤c.size∧∀ j u,us[j]?=some u→c[off+j]?=some u
mutual
def Ext (w:World) (X:Bool→Nat→Prop):D→Value→Prop
  | .int k n,u=>u=.int k n
  | .bool b,u=>u=.bool b
  | .str s,u=>u=.string s
  | .nil _,u=>u=.slice none 0 0
  | .undef,_=>True
  | .hole _ _,_=>True
  | .sl (some g) s n cs,u=>∃ base cap us,u=.slice base n cap∧n≤cap∧cs.length=n*s∧fM w X cs us∧
      (cs=[]∨∃ k off c e fz,base=some ⟨k,off,none⟩∧X g k∧w.heap[k]?=some (.cells c e fz)∧∀ j v,us[j]?=some v→c[off+j]?=some v)
  | _,_=>False
def fM (w:World) (X:Bool→Nat→Prop):List D→List Value→Prop
  | [],us=>us=[]
  | d::ds,us=>∃ v vs,us=v::vs∧Ext w X d v∧fM w X ds vs
end
mutual
def aZ (w:World) (X:Bool→Nat→Prop):T→Prop
  | .v d u=>Ext w X (bj d) u
  | .own s n cap a cs=>n≤cap∧cs.length=n*s∧(match a with | none=>n=0∧cap=0 | some (b,off)=>ka w b off (cap*s) (ay cs))∧ba w X cs
def ba (w:World) (X:Bool→Nat→Prop):List T→Prop
  | []=>True
  | t::ts=>aZ w X t∧ba w X ts
end
section
variable {w w':World} {X X':Bool→Nat→Prop}
mutual
theorem fN (h:∀ b k,X b k→X' b k∧w'.heap[k]?=w.heap[k]?):∀ (d:D) (u:Value),Ext w X d u→Ext w' X' d u
  | .int _ _,_,hu=>hu
  | .bool _,_,hu=>hu
  | .str _,_,hu=>hu
  | .nil _,_,hu=>hu
  | .undef,_,_=>trivial
  | .hole _ _,_,_=>trivial
  | .sl (some g) s n cs,u,hu=>by
    simp only [Ext] at hu ⊢
    obtain ⟨base,cap,us,h1,mY,h2,h3,h4⟩:=hu
    refine ⟨base,cap,us,h1,mY,h2,qt h cs us h3,?_⟩
    rcases h4 with h4 | ⟨k,off,c,e,fz,h5,h6,h7,h8⟩
    · exact .inl h4
    · exact .inr ⟨k,off,c,e,fz,h5,(h g k h6).1,by rw [(h g k h6).2]; exact h7,h8⟩
  | .sl none _ _ _,_,hu=>by simp [Ext] at hu
  | .ref ..,_,hu=>by simp [Ext] at hu
  | .agg _,_,hu=>by simp [Ext] at hu
  | .aR _,_,hu=>by simp [Ext] at hu
  | .fn ..,_,hu=>by simp [Ext] at hu
  | .ptr ..,_,hu=>by simp [Ext] at hu
  | .dt ..,_,hu=>by simp [Ext] at hu
  | .aM _,_,hu=>by simp [Ext] at hu
theorem qt (h:∀ b k,X b k→X' b k∧w'.heap[k]?=w.heap[k]?):∀ (ds:List D) (us:List Value),fM w X ds us→fM w' X' ds us
  | [],_,hu=>hu
  | d::ds,us,hu=>by
    simp only [fM] at hu ⊢
    obtain ⟨v,vs,h1,h2,h3⟩:=hu
    exact ⟨v,vs,h1,fN h d v h2,qt h ds vs h3⟩
end
mutual
theorem du (h:∀ b k,X b k→X' b k∧w'.heap[k]?=w.heap[k]?):∀ (t:T),aZ w X t→(∀ k∈t.ft,w'.heap[k]?=w.heap[k]?)→aZ w' X' t
  | .v d u,hs,_=>by simp only [aZ] at hs ⊢; exact fN h _ _ hs
  | .own s n cap a cs,hs,hf=>by
    simp only [aZ] at hs ⊢
    obtain ⟨h1,h2,h3,h4⟩:=hs
    refine ⟨h1,h2,?_,fP h cs h4 (fun k hk=>hf k (by simp [T.ft,hk]))⟩
    cases a with
    | none=>exact h3
    | some p=>
      obtain ⟨b,off⟩:=p
      obtain ⟨c,e,fz,hb,hr⟩:=h3
      exact ⟨c,e,fz,by rw [hf b (by simp [T.ft,iw])]; exact hb,hr⟩
theorem fP (h:∀ b k,X b k→X' b k∧w'.heap[k]?=w.heap[k]?):∀ (ts:List T),ba w X ts→(∀ k∈ae ts,w'.heap[k]?=w.heap[k]?)→ba w' X' ts
  | [],_,_=>by simp [ba]
  | t::ts,hs,hf=>by
    simp only [ba] at hs ⊢
    exact ⟨du h t hs.1 (fun k hk=>hf k (by simp [ae,hk])),fP h ts hs.2 (fun k hk=>hf k (by simp [ae,hk]))⟩
end
end
theorem bU {w:World} {X:Bool→Nat→Prop} (ts:List T):ba w X ts↔∀ t∈ts,aZ w X t:=by
  induction ts with
  | nil=>simp [ba]
  | cons t ts ih=>simp [ba,ih]
theorem fo {w:World} {X:Bool→Nat→Prop} {ts:List T} (h:ba w X ts) {o:Nat} {t:T} (ho:ts[o]?=some t):aZ w X t:=
  (bU ts).1 h t (List.mem_of_getElem? ho)
theorem Io {w:World} {X:Bool→Nat→Prop} {ts:List T} (h:ba w X ts) (o:Nat) {t:T} (ht:aZ w X t):ba w X (ts.set o t):=by
  rw [bU] at h ⊢
  intro x hx
  rcases List.mem_or_eq_of_mem_set hx with hx | rfl
  · exact h x hx
  · exact ht
theorem dv {w:World} {X:Bool→Nat→Prop} (a b:List T):ba w X (a++b)↔ba w X a∧ba w X b:=by
  rw [bU,bU,bU]
  simp only [List.mem_append]
  exact ⟨fun h=>⟨fun t ht=>h t (.inl ht),fun t ht=>h t (.inr ht)⟩,fun h t ht=>ht.elim (h.1 t) (h.2 t)⟩
theorem tW {w:World} {X:Bool→Nat→Prop} {q:List Nat}:∀ {cs l:List T},ba w X cs→au cs q=some l→ba w X l:=by
  induction q with
  | nil=>
    intro cs l h hc
    simp only [au,Option.some.injEq] at hc
    exact hc▸h
  | cons p q ih=>
    intro cs l h hc
    simp only [au] at hc
    cases hp:cs[p]? with
    | none=>simp [hp] at hc
    | some x=>
      cases x with
      | v d u=>simp [hp] at hc
      | own s n cap a xs=>
        simp only [hp] at hc
        have:=fo h hp
        simp only [aZ] at this
        exact ih this.2.2.2 hc
theorem VA {w:World} {X:Bool→Nat→Prop} {o:Nat} {t t':T} (ht:aZ w X t') (hv:t'.val=t.val) {q:List Nat}:∀ {cs cs' l:List T},ba w X cs→au cs q=some l→l[o]?=some t→
    dn (fun l=>l.set o t') cs q=some cs'→ba w X cs'∧ay cs'=ay cs:=by
  induction q with
  | nil=>
    intro cs cs' l h hc ho hm
    simp only [au,Option.some.injEq] at hc
    simp only [dn,Option.some.injEq] at hm
    subst hc; subst hm
    refine ⟨Io h o ht,?_⟩
    rw [nQ,hv]
    apply List.ext_getElem?
    intro j
    by_cases hj:o=j
    · subst hj
      obtain ⟨hl,_⟩:=List.getElem?_eq_some_iff.1 ho
      rw [List.getElem?_set_self (by rw [bw]; exact hl),eQ,ho]; rfl
    · rw [List.getElem?_set_ne hj]
  | cons p q ih=>
    intro cs cs' l h hc ho hm
    refine ⟨?_,(kQ hm).1⟩
    simp only [au] at hc
    simp only [dn] at hm
    cases hp:cs[p]? with
    | none=>simp [hp] at hc
    | some x=>
      cases x with
      | v d u=>simp [hp] at hc
      | own s n cap a xs=>
        simp only [hp] at hc hm
        cases hx:dn (fun l=>l.set o t') xs q with
        | none=>simp [hx] at hm
        | some jw=>
          simp only [hx,Option.some.injEq] at hm
          have hs:=fo h hp
          simp only [aZ] at hs
          obtain ⟨h1,h2,h3,h4⟩:=hs
          obtain ⟨h5,h6⟩:=ih h4 hc ho hx
          have hl:jw.length=xs.length:=by have:=congrArg List.length h6; simpa [bw] using this
          rw [← hm]
          refine Io h p ?_
          simp only [aZ]
          exact ⟨h1,by rw [hl]; exact h2,by rw [h6]; exact h3,h5⟩
def Lt (w w':World) (b i:Nat) (u:Value):Prop:=
  ∃ c e fz,w.heap[b]?=some (.cells c e fz)∧w'.heap[b]?=some (.cells (c.setIfInBounds i u) e fz)∧∀ k,k≠b→w'.heap[k]?=w.heap[k]?
theorem Lu {w w':World} {b i:Nat} {u:Value} (hu:Lt w w' b i u) {off eR o:Nat} {us:List Value} (hi:i=off+o) (hb:ka w b off eR us) (Rc:us.length≤eR):ka w' b off eR (us.set o u):=by
  obtain ⟨c,e,fz,h1,h2,h3⟩:=hu
  obtain ⟨c',e',fz',h4,h5,h6,h7⟩:=hb
  rw [h4] at h1
  simp only [Option.some.injEq,Obj.cells.injEq] at h1
  obtain ⟨rfl,rfl,rfl⟩:=h1
  refine ⟨_,e',fz',h2,by simpa using h5,by simpa using h6,fun j v hj=>?_⟩
  subst hi
  by_cases Fi:o=j
  · subst Fi
    by_cases hl:o < us.length
    · rw [List.getElem?_set_self hl] at hj
      have cR:off+o < c'.size:=by omega
      rw [Array.getElem?_setIfInBounds_self_of_lt cR]; exact hj
    · rw [List.getElem?_eq_none (by simpa using hl)] at hj
      simp at hj
  · rw [List.getElem?_set_ne Fi] at hj
    rw [Array.getElem?_setIfInBounds_ne (by omega)]
    exact h7 j v hj
theorem DJ {w w':World} {b k i:Nat} {u:Value} (hu:Lt w w' b i u) (hk:k≠b) {off eR:Nat} {us:List Value} (hb:ka w k off eR us):ka w' k off eR us:=by
  obtain ⟨c,e,fz,h1,h2⟩:=hb
  obtain ⟨_,_,_,_,_,h3⟩:=hu
  exact ⟨c,e,fz,by rw [h3 k hk]; exact h1,h2⟩
theorem pF {q:List Nat}:∀ {cs:List T} {bx:Option Nat} {p b off:Nat},bI bx cs (p::q)=some (b,off)→b∈ae cs:=by
  induction q with
  | nil=>
    intro cs bx p b off h
    simp only [bI] at h
    cases hp:cs[p]? with
    | none=>simp [hp] at h
    | some x=>
      cases x with
      | v d u=>simp [hp] at h
      | own s n cap a xs=>
        simp only [hp] at h
        obtain ⟨A,B,h1,_⟩:=dB cs p _ hp
        rw [h1,T.ft,h]; simp [iw]
  | cons p' q ih=>
    intro cs bx p b off h
    rw [bI] at h
    cases hp:cs[p]? with
    | none=>simp [hp] at h
    | some x=>
      cases x with
      | v d u=>simp [hp] at h
      | own s n cap a xs=>
        simp only [hp] at h
        obtain ⟨A,B,h1,_⟩:=dB cs p _ hp
        have:=ih h
        rw [h1,T.ft]; simp [this]
theorem VB {w w':World} {X X':Bool→Nat→Prop} {o b off:Nat} {t':T} (hX:∀ b k,X b k→X' b k∧w'.heap[k]?=w.heap[k]?) (ht:aZ w' X' t') (hu:Lt w w' b (off+o) t'.val) {q:List Nat}:
    ∀ {cs cs' l:List T} {bx:Option Nat} {p:Nat},ba w X cs→(ae cs).Nodup→au cs (p::q)=some l→bI bx cs (p::q)=some (b,off)→o < l.length→
    dn (fun l=>l.set o t') cs (p::q)=some cs'→ba w' X' cs':=by
  have AW:∀ t:T,aZ w X t→b∉t.ft→aZ w' X' t:=fun t h hb=>du hX t h (fun k hk=>by
    obtain ⟨_,_,_,_,_,h3⟩:=hu
    exact h3 k (fun e=>hb (e▸hk)))
  induction q with
  | nil=>
    intro cs cs' l bx p h hn hc ha ho hm
    simp only [au,dn,bI] at hc hm ha
    cases hp:cs[p]? with
    | none=>simp [hp] at hc
    | some x=>
      cases x with
      | v d u=>simp [hp] at hc
      | own s n cap a xs=>
        simp only [hp,Option.some.injEq] at hc hm ha
        subst hc; subst ha; subst hm
        obtain ⟨A,B,h1,h2⟩:=dB cs p _ hp
        rw [h1] at hn
        have hs:=fo h hp
        simp only [aZ] at hs
        obtain ⟨h3,h4,h5,h6⟩:=hs
        have Lv:(T.own s n cap (some (b,off)) xs).ft.Nodup:=((List.nodup_append.1 (List.nodup_append.1 hn).1).2.1)
        simp only [T.ft,iw,List.cons_append,List.nil_append,List.nodup_cons] at Lv
        rw [bU]
        intro t cQ
        obtain ⟨j,hj⟩:=List.mem_iff_getElem?.1 cQ
        by_cases rp:p=j
        · subst rp
          rw [List.getElem?_set_self (List.getElem?_eq_some_iff.1 hp).1,Option.some.injEq] at hj
          subst hj
          simp only [aZ]
          refine ⟨h3,by simpa using h4,?_,?_⟩
          · rw [nQ]
            exact Lu hu rfl h5 (by rw [bw,h4]; exact Nat.mul_le_mul_right _ h3)
          · rw [bU]
            intro y hy
            obtain ⟨i,hi⟩:=List.mem_iff_getElem?.1 hy
            by_cases hio:o=i
            · subst hio
              rw [List.getElem?_set_self ho,Option.some.injEq] at hi
              exact hi▸ht
            · rw [List.getElem?_set_ne hio] at hi
              refine AW y (fo h6 hi) (fun hb=>Lv.1 ?_)
              obtain ⟨A',B',e1,_⟩:=dB xs i _ hi
              rw [e1]; simp [hb]
        · rw [List.getElem?_set_ne rp] at hj
          refine AW t (fo h hj) (fun hb=>?_)
          have:b∈(T.own s n cap (some (b,off)) xs).ft:=by simp [T.ft,iw]
          rcases Nat.lt_or_gt_of_ne rp with cR | cR
          · have h7:=h2 (.v .undef undef)
            have B9:(cs.set p (.v .undef undef))[j]?=some t:=by rw [List.getElem?_set_ne rp]; exact hj
            obtain ⟨A',B',e1,_⟩:=dB _ j t B9
            have fu:b∈ae (cs.set p (.v .undef undef)):=by rw [e1]; simp [hb]
            rw [h7] at fu
            simp only [T.ft,List.append_nil,List.mem_append] at fu
            rw [List.nodup_append,List.nodup_append] at hn
            rcases fu with fu | fu
            · exact hn.1.2.2 b fu b this rfl
            · exact hn.2.2 b (List.mem_append.2 (.inr this)) b fu rfl
          · have h7:=h2 (.v .undef undef)
            have B9:(cs.set p (.v .undef undef))[j]?=some t:=by rw [List.getElem?_set_ne rp]; exact hj
            obtain ⟨A',B',e1,_⟩:=dB _ j t B9
            have fu:b∈ae (cs.set p (.v .undef undef)):=by rw [e1]; simp [hb]
            rw [h7] at fu
            simp only [T.ft,List.append_nil,List.mem_append] at fu
            rw [List.nodup_append,List.nodup_append] at hn
            rcases fu with fu | fu
            · exact hn.1.2.2 b fu b this rfl
            · exact hn.2.2 b (List.mem_append.2 (.inr this)) b fu rfl
  | cons p' q ih=>
    intro cs cs' l bx p h hn hc ha ho hm
    rw [au] at hc
    rw [dn] at hm
    rw [bI] at ha
    cases hp:cs[p]? with
    | none=>simp [hp] at hc
    | some x=>
      cases x with
      | v d u=>simp [hp] at hc
      | own s n cap a xs=>
        simp only [hp] at hc hm ha
        cases hx:dn (fun l=>l.set o t') xs (p'::q) with
        | none=>simp [hx] at hm
        | some jw=>
          simp only [hx,Option.some.injEq] at hm
          subst hm
          obtain ⟨A,B,h1,h2⟩:=dB cs p _ hp
          rw [h1] at hn
          have hs:=fo h hp
          simp only [aZ] at hs
          obtain ⟨h3,h4,h5,h6⟩:=hs
          have Lv:(T.own s n cap a xs).ft.Nodup:=((List.nodup_append.1 (List.nodup_append.1 hn).1).2.1)
          have hb:=pF ha
          have TK:b∈(T.own s n cap a xs).ft:=by simp [T.ft,hb]
          simp only [T.ft] at Lv
          have hnx:=(List.nodup_append.1 Lv).2.1
          obtain ⟨hv,hl⟩:=kQ hx
          have hsx:=ih h6 hnx hc ha ho hx
          rw [bU]
          intro t cQ
          obtain ⟨j,hj⟩:=List.mem_iff_getElem?.1 cQ
          by_cases rp:p=j
          · subst rp
            rw [List.getElem?_set_self (List.getElem?_eq_some_iff.1 hp).1,Option.some.injEq] at hj
            subst hj
            simp only [aZ]
            refine ⟨h3,by rw [hl]; exact h4,?_,hsx⟩
            cases a with
            | none=>exact h5
            | some pa=>
              obtain ⟨b1,ajR⟩:=pa
              rw [hv]
              refine DJ hu (fun e=>?_) h5
              exact (List.nodup_append.1 Lv).2.2 b1 (by simp [iw]) b hb e
          · rw [List.getElem?_set_ne rp] at hj
            refine AW t (fo h hj) (fun xR=>?_)
            have h7:=h2 (.v .undef undef)
            have B9:(cs.set p (.v .undef undef))[j]?=some t:=by rw [List.getElem?_set_ne rp]; exact hj
            obtain ⟨A',B',e1,_⟩:=dB _ j t B9
            have fu:b∈ae (cs.set p (.v .undef undef)):=by rw [e1]; simp [xR]
            rw [h7] at fu
            simp only [T.ft,List.append_nil,List.mem_append] at fu
            rw [List.nodup_append,List.nodup_append] at hn
            rcases fu with fu | fu
            · exact hn.1.2.2 b fu b TK rfl
            · exact hn.2.2 b (List.mem_append.2 (.inr TK)) b fu rfl
end Go.Proofs.Ytockoilcnmljiaa
namespace Go.Proofs.Ytockoilcnmljiaa
inductive bO {α β:Type} (R:α→β→Prop):List α→List β→Prop
  | nil:bO R [] []
  | cons {a b as9 bs}:R a b→bO R as9 bs→bO R (a::as9) (b::bs)
def cd (S:List (Nat × RT)) (r:Nat) (q:List Nat) (o:Nat):Option T:=
  match lk S r with
  | some R=>match au R.cs q with
    | some l=>l[o]?
    | none=>none
  | none=>none
def ey (x:Option (Nat × Nat)) (t:T) (u:Value):Prop:=
  match sn t.er with
  | some (s,n)=>match x with
    | none=>u=t.val
    | some (l,m)=>l+m≤n∧∃ base C k,t.val=.slice base n C∧k≤C∧u=.slice (base.map (·.add (k*s))) m (C - l)∧(C - l=0∨k=l)
  | none=>True
def aQ (w:World) (X:Bool→Nat→Prop) (S:List (Nat × RT)):D→Value→Prop
  | .ref r q o x,u=>∀ t,cd S r q o=some t→ey x t u
  | .ptr r q o,u=>∀ R,lk S r=some R→(q=[]→R.box.isSome)∧∀ b off,bI R.box R.cs q=some (b,off)→u=.pointer (some ⟨b,off+o,none⟩)
  | .dt cs o,u=>∃ b off c e fz us,u=.pointer (some ⟨b,off+o,none⟩)∧X true b∧w.heap[b]?=some (.cells c e fz)∧fM w X cs us∧∀ j v,us[j]?=some v→c[off+j]?=some v
  | d,u=>Ext w X d u
def gg (w:World) (X:Bool→Nat→Prop) (S:List (Nat × RT)):D→Value→Prop
  | .agg cs,u=>∃ us,u=.agg us∧bO (aQ w X S) cs us.toList
  | .fn f cs,u=>∃ us,u=.func (.func f) #[] us∧bO (aQ w X S) cs us.toList
  | d,u=>aQ w X S d u
def bZ (w:World) (X:Bool→Nat→Prop) (S:List (Nat × RT)):D→Value→Prop
  | .aR ds,u=>∃ us,u=.tuple us∧bO (gg w X S) ds us.toList
  | d,u=>gg w X S d u
def ix (w:World) (X:Bool→Nat→Prop) (S:List (Nat × RT)) (b:Bool):T→Prop
  | .v d u=>Ext w X (bj d) u∨(b=true∧aQ w X S (bj d) u)
  | t=>aZ w X t
def Ip (w:World) (X:Bool→Nat→Prop) (S:List (Nat × RT)) (R:RT):Prop:=
  (match R.box with | some b=>ka w b 0 R.cs.length (ay R.cs) | none=>True)∧∀ t∈R.cs,ix w X S R.box.isSome t
structure Ctx where
  w0:World
  FA:List Nat
  Y:Nat→Prop
  P0:List (Nat × Option Nat × List Value)
def ad (C:Ctx) (w:World) (S:List (Nat × RT)) (H:List T) (b:Bool) (k:Nat):Prop:=
  k < w.heap.size∧k∉cr S∧k∉ae H∧(b=false→C.Y k∨k∈C.FA∨C.w0.heap.size≤k)
structure Mem (C:Ctx) (w:World) (S:List (Nat × RT)) (H:List T):Prop where
  nd:(cr S++ae H).Nodup
  root:∀ r R,lk S r=some R→Ip w (ad C w S H) S R
  hand:ba w (ad C w S H) H
  lt:∀ k∈cr S++ae H,k < w.heap.size
def kJ (w:World) (X:Bool→Nat→Prop) (S:List (Nat × RT)) (tm:List (Nat × D)) (vs:Array Value):Prop:=
  ∀ t,bZ w X S ((lk tm t).getD .undef) (vs.getD t undef)
structure Kept (C:Ctx) (w:World) (S:List (Nat × RT)) (H:List T):Prop where
  os:w.os=C.w0.os
  tape:w.tape=C.w0.tape
  output:w.output=C.w0.output
  size:C.w0.heap.size≤w.heap.size
  block:∀ k,k < C.w0.heap.size→k∉C.FA→w.heap[k]?=C.w0.heap[k]?
  gT:∀ k∈cr S++ae H,k∈C.FA∨C.w0.heap.size≤k
  par:∀ r b vs,(r,b,vs)∈C.P0→∀ R,lk S r=some R→R.box=b∧(b=none→ay R.cs=vs)
structure Rel (C:Ctx) (H:List T) (w:World) (st:St) (aB:List (Array Value)) (S:List (Nat × RT)):Prop where
  rt:gy st.rt S
  mem:Mem C w S H
  mZ:bO (kJ w (ad C w S H) S) (st.tm::st.up) aB
  kept:Kept C w S H
theorem DK (st:St) (S:List (Nat × RT)) (h:gy st.rt S) (r:Nat) (q:List Nat) (o:Nat):st.cell r q o=(cd S r q o).map T.er:=by
  unfold St.cell St.cells cd
  rw [h]
  cases lk S r with
  | none=>rfl
  | some R=>
    simp only [Option.map_some,Il]
    cases au R.cs q with
    | none=>rfl
    | some l=>simp [gL]
theorem sm (st:St) (S:List (Nat × RT)) (h:gy st.rt S) {r:Nat} {q:List Nat} {cs:List D} (hc:st.cells r q=some cs):∃ R l,lk S r=some R∧au R.cs q=some l∧cs=aP l:=by
  unfold St.cells at hc
  rw [h] at hc
  cases hr:lk S r with
  | none=>simp [hr] at hc
  | some R=>
    simp only [hr,Option.map_some,Il] at hc
    cases hl:au R.cs q with
    | none=>simp [hl] at hc
    | some l=>
      simp only [hl,Option.map_some,Option.some.injEq] at hc
      exact ⟨R,l,rfl,hl,hc.symm⟩
theorem hM {st:St} {S:List (Nat × RT)} (h:gy st.rt S) {r:Nat} {q:List Nat} {o:Nat} {d:D} (hc:st.cell r q o=some d):∃ R l t,lk S r=some R∧au R.cs q=some l∧l[o]?=some t∧cd S r q o=some t∧d=t.er:=by
  rw [DK st S h] at hc
  cases ht:cd S r q o with
  | none=>simp [ht] at hc
  | some t=>
    simp only [ht,Option.map_some,Option.some.injEq] at hc
    unfold cd at ht
    cases hr:lk S r with
    | none=>simp [hr] at ht
    | some R=>
      simp only [hr] at ht
      cases hl:au R.cs q with
      | none=>simp [hl] at ht
      | some l=>
        simp only [hl] at ht
        exact ⟨R,l,t,rfl,hl,ht,rfl,hc.symm⟩
theorem bO.len {α β:Type} {R:α→β→Prop} {as9:List α} {bs:List β} (h:bO R as9 bs):as9.length=bs.length:=by
  induction h with
  | nil=>rfl
  | cons _ _ ih=>simp [ih]
theorem bO.get {α β:Type} {R:α→β→Prop} {as9:List α} {bs:List β} (h:bO R as9 bs):∀ {i:Nat} {a:α},as9[i]?=some a→∃ b,bs[i]?=some b∧R a b:=by
  induction h with
  | nil=>intro i a h; simp at h
  | cons h1 _ ih=>
    intro i a h
    cases i with
    | zero=>simp only [List.getElem?_cons_zero,Option.some.injEq] at h; exact ⟨_,rfl,h▸h1⟩
    | succ i=>simp only [List.getElem?_cons_succ] at h ⊢; exact ih h
theorem bO.mono {α β:Type} {R R':α→β→Prop} {as9:List α} {bs:List β} (h:bO R as9 bs) (hr:∀ a b,R a b→R' a b):bO R' as9 bs:=by
  induction h with
  | nil=>exact .nil
  | cons h1 _ ih=>exact .cons (hr _ _ h1) ih
theorem bO.map {α α' β:Type} {R:α→β→Prop} {R':α'→β→Prop} {as9:List α} {bs:List β} (h:bO R as9 bs) (f:α→α') (hr:∀ a b,R a b→R' (f a) b):bO R' (as9.map f) bs:=by
  induction h with
  | nil=>exact .nil
  | cons h1 _ ih=>exact .cons (hr _ _ h1) ih
theorem bO.app {α β:Type} {R:α→β→Prop} {as9 bX:List α} {bs TL:List β} (h:bO R as9 bs) (h':bO R bX TL):bO R (as9++bX) (bs++TL):=by
  induction h with
  | nil=>exact h'
  | cons h1 _ ih=>exact .cons h1 ih
theorem bO.drop {α β:Type} {R:α→β→Prop} {as9:List α} {bs:List β} (h:bO R as9 bs):∀ n,bO R (as9.drop n) (bs.drop n):=by
  induction h with
  | nil=>intro n; simp; exact .nil
  | cons h1 h2 ih=>
    intro n
    cases n with
    | zero=>exact .cons h1 h2
    | succ n=>simpa using ih n
theorem bO.take {α β:Type} {R:α→β→Prop} {as9:List α} {bs:List β} (h:bO R as9 bs):∀ n,bO R (as9.take n) (bs.take n):=by
  induction h with
  | nil=>intro n; simp; exact .nil
  | cons h1 h2 ih=>
    intro n
    cases n with
    | zero=>exact .nil
    | succ n=>exact .cons h1 (ih n)
theorem cV {α β:Type} {R:α→β→Prop}:∀ {as9:List α} {bs:List β},as9.length=bs.length→(∀ (i:Nat) a b,as9[i]?=some a→bs[i]?=some b→R a b)→bO R as9 bs
  | [],[],_,_=>.nil
  | a::as9,b::bs,h,hr=>.cons (hr 0 a b rfl rfl) (cV (by simpa using h) (fun i a b ha hb=>hr (i+1) a b (by simpa using ha) (by simpa using hb)))
  | [],_::_,h,_=>by simp at h
  | _::_,[],h,_=>by simp at h
theorem gu {w:World} {X:Bool→Nat→Prop} (ds:List D):∀ us,fM w X ds us↔bO (Ext w X) ds us:=by
  induction ds with
  | nil=>intro us; simp only [fM]; exact ⟨fun h=>h▸.nil,fun h=>by cases h; rfl⟩
  | cons d ds ih=>
    intro us
    simp only [fM]
    constructor
    · rintro ⟨v,vs,rfl,h1,h2⟩
      exact .cons h1 ((ih vs).1 h2)
    · intro h
      cases h with
      | cons h1 h2=>exact ⟨_,_,rfl,h1,(ih _).2 h2⟩
theorem fF {w:World} {X:Bool→Nat→Prop} {S:List (Nat × RT)}:∀ {d:D} {u:Value},Ext w X d u→aQ w X S d u
  | .int ..,_,h=>h
  | .bool ..,_,h=>h
  | .str ..,_,h=>h
  | .nil ..,_,h=>h
  | .undef,_,h=>h
  | .hole ..,_,h=>h
  | .sl ..,_,h=>h
  | .ref ..,_,h=>by simp [Ext] at h
  | .agg ..,_,h=>by simp [Ext] at h
  | .aR ..,_,h=>by simp [Ext] at h
  | .fn ..,_,h=>by simp [Ext] at h
  | .ptr ..,_,h=>by simp [Ext] at h
  | .dt ..,_,h=>by simp [Ext] at h
  | .aM ..,_,h=>by simp [Ext] at h
theorem dT {w:World} {X:Bool→Nat→Prop} {S:List (Nat × RT)} {d:D} {u:Value} (h:aQ w X S d u):gg w X S d u:=by
  cases d<;>first | exact h | (simp [aQ,Ext] at h)
theorem jz {w:World} {X:Bool→Nat→Prop} {S:List (Nat × RT)} {d:D} {u:Value} (h:gg w X S d u):bZ w X S d u:=by
  cases d<;>first | exact h | (simp [gg,aQ,Ext] at h)
theorem kR {w:World} {X:Bool→Nat→Prop} {S:List (Nat × RT)} {d:D} {u:Value} (h:aQ w X S d u):bZ w X S d u:=jz (dT h)
theorem Ca {w:World} {X:Bool→Nat→Prop} {S:List (Nat × RT)} {d:D} {u:Value} (h:Ext w X d u):bZ w X S d u:=kR (fF h)
theorem kK {w:World} {X:Bool→Nat→Prop} {S:List (Nat × RT)} (u:Value):bZ w X S .undef u:=Ca (by simp [Ext])
theorem Re (vs:Array Value) (d t:Nat) (v:Value):(vs.setIfInBounds d v).getD t undef=if d=t∧d < vs.size then v else vs.getD t undef:=by
  rw [Array.getD_eq_getD_getElem?,Array.getD_eq_getD_getElem?,Array.getElem?_setIfInBounds]
  by_cases h:d=t
  · subst h
    by_cases hd:d < vs.size
    · simp [hd]
    · simp [hd]
  · simp [h]
theorem kJ.put {w:World} {X:Bool→Nat→Prop} {S:List (Nat × RT)} {tm:List (Nat × D)} {vs:Array Value} (h:kJ w X S tm vs) {t:Nat} (ht:t < vs.size) {d:D} {v:Value} (hv:bZ w X S d v):kJ w X S (pz tm t d) (vs.setIfInBounds t v):=by
  intro i
  rw [Re]
  by_cases hi:t=i
  · subst hi
    rw [jy]; simpa [ht] using hv
  · rw [pE _ _ (Ne.symm hi)]; simpa [hi] using h i
end Go.Proofs.Ytockoilcnmljiaa
namespace Go.Proofs.Ytockoilcnmljiaa
def Lw (d:D) (u:Value):Prop:=∀ w X,Ext w X d u
def Rf:TypeDesc→Bool
  | .struct _ | .array _ _=>true
  | _=>false
def jA (P:Program):Ty→TypeDesc→Prop
  | .int k,d=>d=.int k
  | .bool,d=>d=.bool
  | .str,d=>d=.string
  | .slice e,d=>d=.slice e
  | .array n e,d=>d=.array n e
  | .struct kr szs,d=>∃ fs,d=.struct fs∧kr=fs.toList.map (·.offset)∧szs.length=fs.toList.length∧∀ (j:Nat) (f:Field),fs.toList[j]?=some f→∃ i,P.info? f.type=some i∧i.size≠0∧szs[j]?=some i.size
  | .ptr e,d=>d=.pointer e
  | .fn,d=>Rf d=false
  | .other,d=>Rf d=false
structure AX (P:Program) (t:TypeId) (ti:TI):Prop where
  info:∃ i,P.info? t=some i∧i.size=ti.size∧i.bytes=ti.bytes∧∃ z,i.zero=some z∧bO Lw ti.zero z.cells.toList
  desc:∃ d,P.underlying t=some d∧jA P ti.ty d
  len:ti.zero.length=ti.size
structure dU (c:cf) (P:Program):Prop where
  ty:∀ t ti,c.ty t=some ti→AX P t ti
section
variable {P:Program} {w:World}
theorem Oa {t:TypeId} {i:TypeInfo} (h:P.info? t=some i) (w:World):(typeInfo t).run P w=.ok i w:=by simp [typeInfo,h]
theorem Ob {t:TypeId} {i:TypeInfo} (h:P.info? t=some i) (w:World):(Go.sizeOf t).run P w=Result.ok i.size w:=by
  simp [Go.sizeOf,Oa h]
theorem Iq {t:TypeId} {i:TypeInfo} {z:Value} (h:P.info? t=some i) (hz:i.zero=some z) (w:World):(zeroValue t).run P w=.ok z w:=by
  simp [zeroValue,Oa h,hz]
theorem AX.sz {t:TypeId} {ti:TI} (h:AX P t ti) (w:World):(Go.sizeOf t).run P w=Result.ok ti.size w:=by
  obtain ⟨i,h1,h2,_⟩:=h.info
  rw [Ob h1,h2]
theorem VC {ty:Ty} {d:TypeDesc} (h:jA P ty d):Rf d=jt ty:=by
  cases ty<;>simp only [jA] at h<;>first | (subst h; rfl) | (obtain ⟨fs,rfl,_⟩:=h; rfl) | (rw [h]; rfl)
theorem AX.agg {t:TypeId} {ti:TI} (h:AX P t ti) (w:World):(isAgg t).run P w=.ok (jt ti.ty) w:=by
  obtain ⟨d,h1,h2⟩:=h.desc
  simp only [isAgg,Sem.run_bind,run_underlying h1,Result.andThen_ok]
  rw [← VC h2]
  cases d<;>rfl
end
section
variable {P:Program} {o:Oper} {a:Act} {w:World} {K:Act→World→Prop} {Q:Exit→Act→World→Prop}
theorem nD {v:Value} {w':World} (h:(execOp a.eval o).run P w=.ok (.value v) w') (hk:K (a.put o.dst v) w'):o.wp P a w K Q:=by
  unfold Oper.wp; rw [h]; exact hk
theorem MF {w':World} (h:(execOp a.eval o).run P w=.ok .skip w') (hk:K (a.put o.dst undef) w'):o.wp P a w K Q:=by
  unfold Oper.wp; rw [h]; exact hk
end
theorem eH (b off k:Nat):(⟨b,off,none⟩:Addr).add k=⟨b,off+k,none⟩:=by
  unfold Addr.add; split
  · rename_i h; subst h; rfl
  · rfl
theorem so {w:World} {b off eR:Nat} {us:List Value} (h:ka w b off eR us) {j:Nat} {u:Value} (hj:us[j]?=some u):w.cell? ⟨b,off+j,none⟩=some u:=by
  obtain ⟨c,e,fz,h1,_,_,h4⟩:=h
  simp [World.cell?,h1,h4 j u hj]
theorem Cb {w:World} {b off eR:Nat} {us:List Value} (h:ka w b off eR us) {j:Nat} (hj:j < eR):w.frozen? ⟨b,off+j,none⟩=false:=by
  obtain ⟨c,e,fz,h1,h2,h3,_⟩:=h
  have:=h2 (off+j) (by omega)
  simp only [World.frozen?,h1]
  simpa using this
theorem Cc {w:World} {b off eR:Nat} {us:List Value} (h:ka w b off eR us) {j:Nat} (hj:j < eR):∃ u,w.cell? ⟨b,off+j,none⟩=some u:=by
  obtain ⟨c,e,fz,h1,_,h3,_⟩:=h
  have:off+j < c.size:=by omega
  exact ⟨c[off+j],by simp [World.cell?,h1,this]⟩
theorem Rg {w:World} {X:Bool→Nat→Prop} {q:List Nat}:∀ {s n cap:Nat} {a:Option (Nat × Nat)} {xs l:List T},aZ w X (.own s n cap a xs)→au xs q=some l→l≠[]→
    ∃ b off eR,(match q with | []=>a | _=>bI none xs q)=some (b,off)∧ka w b off eR (ay l)∧l.length≤eR∧ba w X l:=by
  induction q with
  | nil=>
    intro s n cap a xs l h hc hl
    simp only [au,Option.some.injEq] at hc
    subst hc
    simp only [aZ] at h
    obtain ⟨h1,h2,h3,h4⟩:=h
    cases a with
    | none=>
      have:xs.length=0:=by rw [h2,h3.1]; simp
      exact absurd (List.length_eq_zero_iff.1 this) hl
    | some p=>exact ⟨p.1,p.2,_,rfl,h3,by rw [h2]; exact Nat.mul_le_mul_right _ h1,h4⟩
  | cons p q ih=>
    intro s n cap a xs l h hc hl
    simp only [aZ] at h
    rw [au] at hc
    cases hp:xs[p]? with
    | none=>simp [hp] at hc
    | some x=>
      cases x with
      | v d u=>simp [hp] at hc
      | own s' n' rb a' jw=>
        simp only [hp] at hc
        obtain ⟨b,off,eR,h5,h6⟩:=ih (fo h.2.2.2 hp) hc hl
        exact ⟨b,off,eR,by simp only [bI,hp]; exact h5,h6⟩
theorem oD {C:Ctx} {w:World} {S:List (Nat × RT)} {H:List T} (hm:Mem C w S H) {r:Nat} {R:RT} {q:List Nat} {l:List T} (hr:lk S r=some R) (hc:au R.cs q=some l) (hl:l≠[]) (hb:q=[]→R.box.isSome=true):
    ∃ b off eR,bI R.box R.cs q=some (b,off)∧ka w b off eR (ay l)∧l.length≤eR∧(q≠[]→ba w (ad C w S H) l):=by
  obtain ⟨h1,h2⟩:=hm.root r R hr
  cases q with
  | nil=>
    simp only [au,Option.some.injEq] at hc
    subst hc
    have hb:=hb rfl
    cases hx:R.box with
    | none=>simp [hx] at hb
    | some b=>exact ⟨b,0,_,by simp [bI],by simpa [hx] using h1,Nat.le_refl _,fun h=>absurd rfl h⟩
  | cons p q=>
    rw [au] at hc
    cases hp:R.cs[p]? with
    | none=>simp [hp] at hc
    | some x=>
      cases x with
      | v d u=>simp [hp] at hc
      | own s n cap a xs=>
        simp only [hp] at hc
        have hs:aZ w (ad C w S H) (.own s n cap a xs):=h2 _ (List.mem_of_getElem? hp)
        obtain ⟨b,off,eR,h3,h4,h5,h6⟩:=Rg hs hc hl
        exact ⟨b,off,eR,by simp only [bI,hp]; exact h3,h4,h5,fun _=>h6⟩
theorem Ir {q:List Nat}:∀ {cs l:List T} {bx:Option Nat} {o s n cap:Nat} {a:Option (Nat × Nat)} {xs:List T},au cs q=some l→l[o]?=some (.own s n cap a xs)→bI bx cs (q++[o])=a∧au cs (q++[o])=some xs:=by
  induction q with
  | nil=>
    intro cs l bx o s n cap a xs hc ho
    simp only [au,Option.some.injEq] at hc
    subst hc
    simp [bI,au,ho]
  | cons p q ih=>
    intro cs l bx o s n cap a xs hc ho
    rw [au] at hc
    cases hp:cs[p]? with
    | none=>simp [hp] at hc
    | some x=>
      cases x with
      | v d u=>simp [hp] at hc
      | own s' n' rb a' jw=>
        simp only [hp] at hc
        obtain ⟨h1,h2⟩:=ih (bx:=none) hc ho
        refine ⟨?_,by simp only [List.cons_append,au,hp]; exact h2⟩
        rw [List.cons_append,bI]
        simp only [hp]
        cases hq:q++[o] with
        | nil=>simp at hq
        | cons y ys=>rw [hq] at h1; exact h1
theorem AY {S:List (Nat × RT)} {r:Nat} {R:RT} {q:List Nat} {l:List T} {o:Nat} (hr:lk S r=some R) (hc:au R.cs q=some l):cd S r q o=l[o]?:=by
  simp [cd,hr,hc]
theorem nR {C:Ctx} {w:World} {S:List (Nat × RT)} {H:List T} (hm:Mem C w S H) {r:Nat} {R:RT} {q:List Nat} {l:List T} {o:Nat} {t:T} (hr:lk S r=some R) (hc:au R.cs q=some l) (ho:l[o]?=some t):
    aQ w (ad C w S H) S (fW r q o t.er) t.val:=by
  cases t with
  | own s n cap a xs=>
    simp only [T.er,fW,aQ]
    intro t' m8
    rw [AY hr hc,ho,Option.some.injEq] at m8
    subst m8
    simp [ey,sn,T.er]
  | v d u=>
    have hv:fW r q o (T.v d u).er=bj d:=by
      simp only [T.er]
      cases d<;>simp [bj,fW]
      rename_i g _ _ _
      cases g<;>simp [bj,fW]
    rw [hv]
    obtain ⟨_,h2⟩:=hm.root r R hr
    cases q with
    | nil=>
      simp only [au,Option.some.injEq] at hc
      subst hc
      rcases h2 _ (List.mem_of_getElem? ho) with h3 | ⟨_,h3⟩
      · exact fF h3
      · exact h3
    | cons p q=>
      rw [au] at hc
      cases hp:R.cs[p]? with
      | none=>simp [hp] at hc
      | some x=>
        cases x with
        | v d u=>simp [hp] at hc
        | own s n cap a xs=>
          simp only [hp] at hc
          have hs:aZ w (ad C w S H) (.own s n cap a xs):=h2 _ (List.mem_of_getElem? hp)
          simp only [aZ] at hs
          have:=fo (tW hs.2.2.2 hc) ho
          simp only [aZ] at this
          exact fF this
theorem lZ (r:Nat) (q:List Nat):∀ (cs:List D) (o i:Nat),(kf r q o cs)[i]?=(cs[i]?).map (fW r q (o+i))
  | [],o,i=>by simp [kf]
  | d::ds,o,0=>by simp [kf]
  | d::ds,o,i+1=>by
    simp only [kf,List.getElem?_cons_succ,lZ r q ds (o+1) i]
    congr 1
    rw [show o+1+i=o+(i+1) by omega]
theorem nT (r:Nat) (q:List Nat):∀ (cs:List D) (o:Nat),(kf r q o cs).length=cs.length
  | [],o=>rfl
  | d::ds,o=>by simp [kf,nT r q ds (o+1)]
def dp (w w2:World):Prop:=∀ k,k < w.heap.size→w2.heap[k]?=w.heap[k]?
theorem dp.refl (w:World):dp w w:=fun _ _=>rfl
theorem dp.trans {w w2 w3:World} (h:dp w w2) (h':dp w2 w3):dp w w3:=fun k hk=>by
  have h1:=h k hk
  have Is:k < w2.heap.size:=by
    rcases Nat.lt_or_ge k w2.heap.size with h2 | h2
    · exact h2
    · rw [Array.getElem?_eq_none h2,Array.getElem?_eq_getElem hk] at h1
      simp at h1
  rw [h' k Is,h1]
theorem dp.cell {w w2:World} (h:dp w w2) {A:Addr} {v:Value} (hc:w.cell? A=some v):w2.cell? A=some v:=by
  have hk:A.block < w.heap.size:=by
    rcases Nat.lt_or_ge A.block w.heap.size with h2 | h2
    · exact h2
    · simp [World.cell?,Array.getElem?_eq_none h2] at hc
  rw [← hc]
  unfold World.cell?
  rw [h _ hk]
def xS (u:Value) (w w2:World):Prop:=∀ B,u=.pointer (some B)→∀ A v,A.block=B.block→w.cell? A=some v→w2.cell? A=some v
theorem dp.acp {w w2:World} (h:dp w w2) (u:Value):xS u w w2:=fun _ _ _ _ _ hc=>h.cell hc
theorem xS.refl (u:Value) (w:World):xS u w w:=fun _ _ _ _ _ h=>h
theorem Lx {u:Value} {w w2:World} {b:Nat} (hb:∀ B,u=.pointer (some B)→B.block=b) (h:w2.heap[b]?=w.heap[b]?):xS u w w2:=fun B hB A v hA hc=>by
  have e:A.block=b:=hA.trans (hb B hB)
  rw [← hc]
  unfold World.cell?
  rw [e,h]
theorem DL {P:Program} {c:cf} (ao:dU c P) {C:Ctx} {Hx:List T} {w:World} {S:List (Nat × RT)} {st:St} (fA:gy st.rt S) (hm:Mem C w S Hx) {t:TypeId} {ti:TI} (ht:c.ty t=some ti) {d d':D} {u:Value} (hd:bZ w (ad C w S Hx) S d u) (h:oB st (jt ti.ty) ti.size d=some d'):
    ∃ v,(∀ w2,xS u w w2→(Instr.loadAt t u).run P w2=.ok v w2)∧bZ w (ad C w S Hx) S d' v:=by
  have ku:=ao.ty t ti ht
  cases d with
  | ptr r q o=>
    simp only [oB] at h
    cases eh:st.cells r q with
    | none=>simp [eh] at h
    | some cs=>
      simp only [eh] at h
      obtain ⟨R,l,hr,hl,rfl⟩:=sm st S fA eh
      have hp:=hd R hr
      cases dV:jt ti.ty with
      | true=>
        simp only [dV,if_true] at h
        split at h
        case isFalse=>simp at h
        rename_i hle
        obtain ⟨hz,hle⟩:=hle
        simp only [Option.some.injEq] at h
        subst h
        rw [eS] at hle
        · have cK:l≠[]:=by intro e; subst e; simp at hle; omega
          obtain ⟨b,off,eR,h1,h2,h3,_⟩:=oD hm hr hl cK hp.1
          have hu:=hp.2 b off h1
          subst hu
          refine ⟨.agg ((ay l).drop o |>.take ti.size).toArray,?_,?_⟩
          · intro w2 m9
            simp only [Instr.loadAt,Instr.sureAddr,loadVar,Sem.run_bind,Sem.run_pure,Result.andThen_ok,ku.agg,dV,if_true,ku.sz]
            have hlen:((ay l).drop o |>.take ti.size).length=ti.size:=by simp [bw]; omega
            have:=run_loadCells_list (P:=P) w2 ⟨b,off+o,none⟩ ((ay l).drop o |>.take ti.size) (fun j v hj=>by
              rw [eH,Nat.add_assoc]
              refine m9 _ rfl _ _ rfl (so h2 ?_)
              rw [List.getElem?_take] at hj
              split at hj
              · rw [List.getElem?_drop] at hj; exact hj
              · simp at hj)
            rw [hlen] at this
            simp [this]
          · refine ⟨_,rfl,cV ?_ ?_⟩
            · simp [nT,eS,bw]
            · intro i d1 v1 hi hv
              rw [lZ,xP,xQ,gL] at hi
              simp only [List.getElem?_take] at hv hi
              split at hv
              · rename_i cR
                rw [if_pos cR,List.getElem?_drop] at hi
                rw [List.getElem?_drop,eQ] at hv
                cases hx:l[o+i]? with
                | none=>simp [hx] at hi
                | some t'=>
                  simp only [hx,Option.map_some,Option.some.injEq] at hi hv
                  subst hi; subst hv
                  exact nR hm hr hl hx
              · simp at hv
      | false=>
        simp only [dV,Bool.false_eq_true,if_false] at h
        rw [gL] at h
        cases hx:l[o]? with
        | none=>simp [hx] at h
        | some t'=>
          simp only [hx,Option.map_some,Option.some.injEq] at h
          subst h
          have cK:l≠[]:=by intro e; subst e; simp at hx
          obtain ⟨b,off,eR,h1,h2,h3,_⟩:=oD hm hr hl cK hp.1
          have hu:=hp.2 b off h1
          subst hu
          refine ⟨t'.val,?_,kR (nR hm hr hl hx)⟩
          intro w2 m9
          simp only [Instr.loadAt,Instr.sureAddr,loadVar,Sem.run_bind,Sem.run_pure,Result.andThen_ok,ku.agg,dV,Bool.false_eq_true,if_false]
          have cx:w2.cell? ⟨b,off+o,none⟩=some t'.val:=m9 _ rfl _ _ rfl (so h2 (by rw [eQ,hx]; rfl))
          simp [cx]
  | dt cs o=>
    obtain ⟨b,off,cc,e,fz,us,rfl,hXb,eF,It,na⟩:=hd
    simp only [oB] at h
    have dJ:=(gu cs us).1 It
    cases dV:jt ti.ty with
    | true=>
      simp only [dV,if_true] at h
      split at h
      case isFalse=>simp at h
      rename_i hle
      obtain ⟨hz,hle⟩:=hle
      simp only [Option.some.injEq] at h
      subst h
      refine ⟨.agg ((us.drop o).take ti.size).toArray,?_,?_⟩
      · intro w2 m9
        simp only [Instr.loadAt,Instr.sureAddr,loadVar,Sem.run_bind,Sem.run_pure,Result.andThen_ok,ku.agg,dV,if_true,ku.sz]
        have hlen:((us.drop o).take ti.size).length=ti.size:=by have:=dJ.len; simp; omega
        have:=run_loadCells_list (P:=P) w2 ⟨b,off+o,none⟩ ((us.drop o).take ti.size) (fun j v hj=>by
          rw [eH]
          refine m9 _ rfl _ _ rfl ?_
          rw [List.getElem?_take] at hj
          split at hj
          · rw [List.getElem?_drop] at hj
            simp [World.cell?,eF,Nat.add_assoc,na _ _ hj]
          · simp at hj)
        rw [hlen] at this
        simp [this]
      · exact ⟨_,rfl,by simpa using ((dJ.drop o).take ti.size).mono (fun _ _ h=>fF h)⟩
    | false=>
      simp only [dV,Bool.false_eq_true,if_false] at h
      obtain ⟨u,hu,he⟩:=dJ.get h
      refine ⟨u,?_,Ca he⟩
      intro w2 m9
      simp only [Instr.loadAt,Instr.sureAddr,loadVar,Sem.run_bind,Sem.run_pure,Result.andThen_ok,ku.agg,dV,Bool.false_eq_true,if_false]
      have cx:w.cell? ⟨b,off+o,none⟩=some u:=by simp [World.cell?,eF,na _ _ hu]
      have cx:=m9 _ rfl _ _ rfl cx
      simp [cx]
  | _=>simp [oB] at h
end Go.Proofs.Ytockoilcnmljiaa
namespace Go.Proofs.Ytockoilcnmljiaa
section
variable {w:World} {X:Bool→Nat→Prop} {S:List (Nat × RT)}
theorem fQ {k:IntKind} {n:Int} {u:Value} (h:bZ w X S (.int k n) u):u=.int k n:=h
theorem uW {b:Bool} {u:Value} (h:bZ w X S (.bool b) u):u=.bool b:=h
theorem uX {s:ByteArray} {u:Value} (h:bZ w X S (.str s) u):u=.string s:=h
theorem Oc {s:Nat} {u:Value} (h:bZ w X S (.nil s) u):u=.slice none 0 0:=h
theorem Od (k:IntKind) (n:Int):bZ w X S (.int k n) (.int k n):=rfl
theorem Xg (s:ByteArray):bZ w X S (.str s) (.string s):=rfl
end
theorem tX {c:cf} {w:World} {X:Bool→Nat→Prop} {S:List (Nat × RT)} {st:St} {a:Act} (h:kJ w X S st.tm a.tmps) (t:TypeId) (x:Operand):bZ w X S (bW c st t x) (a.eval x):=by
  cases x with
  | tmp i=>exact h i
  | const v=>
    simp only [bW,Act.eval]
    cases v<;>try exact kK _
    all_goals first | rfl | skip
    rename_i b n cap
    simp only [zl]
    split<;>first | exact kK _ | (rename_i e; first | cases e | skip)
    all_goals first | rfl | exact kK _ | skip
  | func f=>exact ⟨#[],rfl,.nil⟩
  | global g=>exact kK _
section
variable {P:Program} {w:World} {X:Bool→Nat→Prop} {S:List (Nat × RT)}
theorem Cd (op:BinOp) (t:TypeId) (x y:Operand) (k k':IntKind) (a b:Int):(eqGuard op t x y (.int k a) (.int k' b)).run P w=.ok () w:=by
  unfold eqGuard; split<;>rfl
theorem Ce (op:BinOp) (t:TypeId) (x y:Operand) (a b:ByteArray):(eqGuard op t x y (.string a) (.string b)).run P w=.ok () w:=by
  unfold eqGuard; split<;>rfl
theorem AZ (op:BinOp) (t:TypeId) (x y:Operand) (a b:Bool):(eqGuard op t x y (.bool a) (.bool b)).run P w=.ok () w:=by
  unfold eqGuard; split<;>rfl
theorem run_equal_bool {t:TypeId} (h:P.underlying t=some .bool) (a b:Bool):(Op.equal t (.bool a) (.bool b)).run P w=.ok (a==b) w:=by
  have:Op.equal t (.bool a) (.bool b)=Op.equalIn (9999+1) t (.bool a) (.bool b):=rfl
  rw [this,Op.equalIn,Sem.run_bind,run_underlying h]
  rfl
theorem Oe {c:cf} (ao:dU c P) {op:BinOp} {t:TypeId} {x y:Operand} {dx dy d:D} {u v:Value} (hx:bZ w X S dx u) (hy:bZ w X S dy v) (h:pA c t op dx dy=some d):
    ∃ r,(∀ w:World,(do eqGuard op t x y u v; binOp op t u v:Sem Value).run P w=.ok r w)∧bZ w X S d r:=by
  cases dx with
  | int k a=>
    cases dy with
    | int k' b=>
      have h1:=fQ hx; have h2:=fQ hy
      subst h1; subst h2
      simp only [Sem.run_bind,Cd,Result.andThen_ok]
      cases op<;>simp only [pA] at h
      case shl=>
        simp only [rY] at h
        split at h
        · simp at h
        · rename_i hb
          simp only [Option.some.injEq] at h
          exact ⟨_,by intro w; simp [binOp,Op.shift,hb]; rfl,by subst h; rfl⟩
      case shr=>
        simp only [rY] at h
        split at h
        · simp at h
        · rename_i hb
          simp only [Option.some.injEq] at h
          exact ⟨_,by intro w; simp [binOp,Op.shift,hb]; rfl,by subst h; rfl⟩
      case quo | rem=>
        split at h
        case isFalse=>simp at h
        rename_i hk
        subst hk
        simp only [xM] at h
        split at h
        · simp at h
        · rename_i hb
          simp only [Option.some.injEq] at h
          exact ⟨_,by intro w; simp [binOp,Op.intDiv,hb]; rfl,by subst h; rfl⟩
      all_goals
        split at h
        case isFalse=>simp at h
        rename_i hk
        subst hk
        simp only [xM] at h
      all_goals
        first
        | (simp at h; done)
        | (simp only [Option.some.injEq] at h
           exact ⟨_,by intro w; simp [binOp,Op.intArith,Op.intBits,Op.intCmp]; rfl,by subst h; rfl⟩)
    | _=>simp [pA] at h
  | str a=>
    cases dy with
    | str b=>
      have h1:=uX hx; have h2:=uX hy
      subst h1; subst h2
      simp only [Sem.run_bind,Ce,Result.andThen_ok]
      simp only [pA] at h
      cases op<;>simp only [Ig] at h
      case add=>
        split at h
        case isFalse=>simp at h
        rename_i hs
        simp only [Option.some.injEq] at h
        have sq:¬ (((a.size+b.size:Nat):Int)>IntKind.i64.max):=by
          have:IntKind.i64.max=9223372036854775807:=by decide
          rw [this]; omega
        exact ⟨.string (a++b),by intro w; simp only [binOp,Op.stringOp]; rw [if_neg sq]; rfl,by subst h; rfl⟩
      all_goals
        first
        | (simp at h; done)
        | (simp only [Option.some.injEq] at h
           exact ⟨_,by intro w; simp [binOp,Op.stringOp]; rfl,by subst h; rfl⟩)
    | _=>simp [pA] at h
  | bool a=>
    cases dy with
    | bool b=>
      have h1:=uW hx; have h2:=uW hy
      subst h1; subst h2
      simp only [Sem.run_bind,AZ,Result.andThen_ok]
      simp only [pA] at h
      split at h
      case h_2=>simp at h
      rename_i ku
      obtain ⟨dd,h3,h4⟩:=(ao.ty t _ ku).desc
      simp only [jA] at h4
      subst h4
      cases op<;>simp only [DH] at h
      all_goals
        first
        | (simp at h; done)
        | (simp only [Option.some.injEq] at h
           exact ⟨_,by intro w; simp only [binOp,Sem.run_bind,run_equal_bool h3,Result.andThen_ok,Sem.run_pure]; rfl,by subst h; rfl⟩)
    | _=>simp [pA] at h
  | _=>simp [pA] at h
theorem TM {op:UnOp} {dx d:D} {u:Value} (hx:bZ w X S dx u) (h:TJ op dx=some d):∃ r,(∀ w:World,(Op.unary op u).run P w=.ok r w)∧bZ w X S d r:=by
  cases op<;>cases dx<;>simp only [TJ] at h<;>first | (simp at h; done) | skip
  · have:=fQ hx
    subst this
    simp only [Option.some.injEq] at h
    exact ⟨_,by intro w; simp [Op.unary,Op.intArith]; rfl,by subst h; simp [bZ,gg,aQ,Ext]⟩
  · have:=uW hx
    subst this
    simp only [Option.some.injEq] at h
    exact ⟨_,by intro w; simp [Op.unary]; rfl,by subst h; rfl⟩
theorem Cf {ds:List D} {d:D} {u:Value} {i:Nat} (hx:bZ w X S (.aR ds) u) (h:ds[i]?=some d):∃ r,(∀ w:World,(Instr.extract u i).run P w=.ok r w)∧bZ w X S d r:=by
  obtain ⟨us,rfl,ha⟩:=hx
  obtain ⟨r,hr,ht⟩:=ha.get h
  have eb:us[i]?=some r:=by simpa using hr
  exact ⟨r,by intro w; simp [Instr.extract,eb],jz ht⟩
end
theorem rN {C:Ctx} {Hx:List T} {w:World} {S:List (Nat × RT)} {st:St} (fA:gy st.rt S) (hm:Mem C w S Hx) {r:Nat} {q:List Nat} (h:live st r q=true) {i:Nat} {u:Value} (hu:bZ w (ad C w S Hx) S (.ptr r q i) u):
    ∃ R b off,lk S r=some R∧bI R.box R.cs q=some (b,off)∧u=.pointer (some ⟨b,off+i,none⟩):=by
  unfold live at h
  split at h
  case h_2=>simp at h
  rename_i x xs eh
  obtain ⟨R,l,hr,hl,he⟩:=sm st S fA eh
  have hp:=hu R hr
  obtain ⟨b,off,eR,h1,_⟩:=oD hm hr hl (by rintro rfl; simp [aP] at he) hp.1
  exact ⟨R,b,off,hr,h1,hp.2 b off h1⟩
theorem Of {w:World} {X:Bool→Nat→Prop} {S:List (Nat × RT)} {r:Nat} {q:List Nat} {i j:Nat} {u:Value} {R:RT} {b off:Nat} (hu:bZ w X S (.ptr r q i) u) (hr:lk S r=some R) (ha:bI R.box R.cs q=some (b,off)):bZ w X S (.ptr r q j) (.pointer (some ⟨b,off+j,none⟩)):=by
  intro R' dQ
  refine ⟨(hu R' dQ).1,fun b' A3 ej=>?_⟩
  rw [hr,Option.some.injEq] at dQ
  subst dQ
  rw [ha,Option.some.injEq,Prod.mk.injEq] at ej
  obtain ⟨rfl,rfl⟩:=ej
  rfl
section
variable {P:Program} {c:cf} (ao:dU c P) {w:World} {C:Ctx} {Hx:List T} {S:List (Nat × RT)} {st:St} (fA:gy st.rt S) (hm:Mem C w S Hx)
include ao fA hm
theorem xT {s:TypeId} {kr szs:List Nat} {sz nU:Nat} {z:List D} {f k:Nat} {d d':D} {u:Value} (ht:c.ty s=some ⟨.struct kr szs,sz,nU,z⟩) (hk:kr[f]?=some k) (hd:bZ w (ad C w S Hx) S d u)
    (h:uS st k d=some d'):∃ r,(∀ w:World,(Instr.fieldAt s u f).run P w=.ok r w)∧bZ w (ad C w S Hx) S d' r:=by
  have ku:=ao.ty s _ ht
  obtain ⟨dd,h1,h2⟩:=ku.desc
  obtain ⟨fs,rfl,h3,_,h4⟩:=h2
  have hf:∃ fl,fs[f]?=some fl∧fl.offset=k:=by
    rw [h3] at hk
    simp only [List.getElem?_map] at hk
    cases hx:fs.toList[f]? with
    | none=>simp [hx] at hk
    | some fl=>simp only [hx,Option.map_some,Option.some.injEq] at hk; exact ⟨fl,by simpa using hx,hk⟩
  obtain ⟨fl,hfl,rfl⟩:=hf
  obtain ⟨inf,hi,hz,_⟩:=h4 f fl (by simpa using hfl)
  have key:∀ (A:Addr) (w:World),(Instr.fieldAt s (.pointer (some A)) f).run P w=.ok (.pointer (some (A.add fl.offset))) w:=fun A w=>by
    simp [Instr.fieldAt,run_underlying h1,hfl,Instr.sureAddr,fieldPlace,Ob hi,hz]
  cases d with
  | ptr r q i=>
    simp only [uS] at h
    split at h
    case isFalse=>simp at h
    rename_i hl
    simp only [Option.some.injEq] at h
    subst h
    obtain ⟨R,b,off,hR,ha,rfl⟩:=rN fA hm hl hd
    refine ⟨_,key _,?_⟩
    rw [eH,Nat.add_assoc]
    exact Of hd hR ha
  | dt cs i=>
    simp only [uS,Option.some.injEq] at h
    subst h
    obtain ⟨b,off,cc,e,fz,us,rfl,h5⟩:=hd
    exact ⟨_,key _,b,off,cc,e,fz,us,by rw [eH,Nat.add_assoc],h5⟩
  | _=>simp [uS] at h
omit ao in
theorem qe {d d':D} {u:Value} (hd:bZ w (ad C w S Hx) S d u) (h:(match d with | .ptr r q i=>if live st r q then some (.ptr r q i) else none | .dt cs i=>some (.dt cs i) | _=>none:Option D)=some d'):
    ∃ A,u=.pointer (some A)∧d'=d:=by
  cases d with
  | ptr r q i=>
    simp only at h
    split at h
    case isFalse=>simp at h
    rename_i hl
    obtain ⟨R,b,off,hR,ha,rfl⟩:=rN fA hm hl hd
    exact ⟨_,rfl,(Option.some.inj h).symm⟩
  | dt cs i=>
    obtain ⟨b,off,cc,e,fz,us,rfl,h5⟩:=hd
    exact ⟨_,rfl,(Option.some.inj h).symm⟩
  | _=>simp at h
end
end Go.Proofs.Ytockoilcnmljiaa
namespace Go.Proofs.Ytockoilcnmljiaa
section
variable {P:Program} {C:Ctx} {w:World} {S:List (Nat × RT)} {st:St} {H:List T}
theorem qu (hm:Mem C w S H) {r:Nat} {R:RT} {q:List Nat} {l:List T} {o:Nat} {t:T} (hr:lk S r=some R) (hc:au R.cs q=some l) (ho:l[o]?=some t) {g:Option Bool} {s n:Nat} {cs:List D} (he:t.er=.sl g s n cs):
    aZ w (ad C w S H) t:=by
  obtain ⟨_,h2⟩:=hm.root r R hr
  cases q with
  | nil=>
    simp only [au,Option.some.injEq] at hc
    subst hc
    have:=h2 _ (List.mem_of_getElem? ho)
    cases t with
    | own s n cap a xs=>exact this
    | v d u=>
      rcases this with h3 | ⟨_,h3⟩
      · exact h3
      · simp only [T.er] at he
        simp only [aZ]
        rw [he] at h3 ⊢
        exact h3
  | cons p q=>
    rw [au] at hc
    cases hp:R.cs[p]? with
    | none=>simp [hp] at hc
    | some x=>
      cases x with
      | v d u=>simp [hp] at hc
      | own s n cap a xs=>
        simp only [hp] at hc
        have hs:aZ w (ad C w S H) (.own s n cap a xs):=h2 _ (List.mem_of_getElem? hp)
        simp only [aZ] at hs
        exact fo (tW hs.2.2.2 hc) ho
def Xh (w:World) (X:Bool→Nat→Prop) (d:D) (u:Value):Prop:=Ext w X d u∨∃ t:T,d=t.er∧u=t.val∧aZ w X t
structure MG (w:World) (X:Bool→Nat→Prop) (s n:Nat) (cs:List D) (u:Value):Prop where
  ok:∃ base cap,u=.slice base n cap∧n≤cap∧cs.length=n*s∧(cs=[]∨∃ b off c e fz us,base=some ⟨b,off,none⟩∧w.heap[b]?=some (.cells c e fz)∧bO (Xh w X) cs us∧∀ j v,us[j]?=some v→c[off+j]?=some v)
theorem xU {X:Bool→Nat→Prop} {t:T} (h:aZ w X t) {g:Option Bool} {s n:Nat} {cs:List D} (he:t.er=.sl g s n cs):MG w X s n cs t.val:=by
  cases t with
  | v d u=>
    simp only [aZ] at h
    simp only [T.er] at he
    rw [he] at h
    cases g with
    | none=>simp [Ext] at h
    | some g=>
      simp only [Ext] at h
      obtain ⟨base,cap,us,rfl,h1,h2,h3,h4⟩:=h
      refine ⟨base,cap,rfl,h1,h2,?_⟩
      rcases h4 with h4 | ⟨k,off,c,e,fz,h5,h6,h7,h8⟩
      · exact .inl h4
      · exact .inr ⟨k,off,c,e,fz,us,h5,h7,((gu cs us).1 h3).mono (fun _ _ h=>.inl h),h8⟩
  | own s' n' cap a ts=>
    simp only [aZ] at h
    simp only [T.er,D.sl.injEq] at he
    obtain ⟨_,rfl,rfl,rfl⟩:=he
    obtain ⟨h1,h2,h3,h4⟩:=h
    refine ⟨a.map fun p=>⟨p.1,p.2,none⟩,cap,rfl,h1,by rw [eS]; exact h2,?_⟩
    cases a with
    | none=>
      left
      have:ts.length=0:=by rw [h2,h3.1]; simp
      simp [List.length_eq_zero_iff.1 this,aP]
    | some p=>
      obtain ⟨b,off⟩:=p
      obtain ⟨c,e,fz,h5,_,_,h6⟩:=h3
      refine .inr ⟨b,off,c,e,fz,ay ts,rfl,h5,?_,h6⟩
      refine cV (by simp [eS,bw]) (fun i d u hd hu=>?_)
      rw [gL] at hd
      rw [eQ] at hu
      cases hx:ts[i]? with
      | none=>simp [hx] at hd
      | some t=>
        simp only [hx,Option.map_some,Option.some.injEq] at hd hu
        exact .inr ⟨t,hd.symm,hu.symm,fo h4 hx⟩
theorem VD {X:Bool→Nat→Prop} {x:Option (Nat × Nat)} {t:T} {u:Value} {g:Option Bool} {s n:Nat} {cs:List D} (he:t.er=.sl g s n cs) (hr:ey x t u) (h:MG w X s n cs t.val):MG w X s (trim x s n cs).1 (trim x s n cs).2 u:=by
  unfold ey at hr
  rw [he] at hr
  simp only [sn] at hr
  cases x with
  | none=>simp only at hr; subst hr; exact h
  | some p=>
    obtain ⟨l,m⟩:=p
    simp only at hr
    obtain ⟨h1,base,C,k,h2,h3,rfl,h4⟩:=hr
    obtain ⟨MH,cap,h5,h6,h7,h8⟩:=h.ok
    rw [h2] at h5
    simp only [Value.slice.injEq] at h5
    obtain ⟨rfl,_,rfl⟩:=h5
    have hlen:((cs.drop (l*s)).take (m*s)).length=m*s:=by
      rw [List.length_take,List.length_drop,h7]
      have:l*s+m*s≤n*s:=by rw [← Nat.add_mul]; exact Nat.mul_le_mul_right _ h1
      omega
    refine ⟨_,_,rfl,(by show m≤C - l; omega),hlen,?_⟩
    by_cases hms:m*s=0
    · left
      have h9:((cs.drop (l*s)).take (m*s)).length=0:=by rw [hlen]; exact hms
      exact List.length_eq_zero_iff.1 h9
    · right
      rcases h8 with h8 | ⟨b,off,c,e,fz,us,rfl,lh,Iu,Xi⟩
      · exfalso
        subst h8
        simp at hlen
        omega
      · have hk:k=l:=by
          rcases h4 with h4 | h4
          · exfalso
            have:m≠0:=fun e=>hms (by simp [e])
            omega
          · exact h4
        subst hk
        refine ⟨b,off+k*s,c,e,fz,(us.drop (k*s)).take (m*s),by simp [eH],lh,(Iu.drop _).take _,fun j v hj=>?_⟩
        rw [List.getElem?_take] at hj
        split at hj
        · rw [List.getElem?_drop] at hj
          rw [Nat.add_assoc]; exact Xi _ _ hj
        · simp at hj
theorem HU (fA:gy st.rt S) (hm:Mem C w S H) {d:D} {u:Value} (hd:bZ w (ad C w S H) S d u) {g:Option Bool} {s n:Nat} {cs:List D} (h:st.nP d=some (g,s,n,cs)):MG w (ad C w S H) s n cs u:=by
  cases d with
  | nil k=>
    simp only [St.nP,Option.some.injEq,Prod.mk.injEq] at h
    obtain ⟨_,rfl,rfl,rfl⟩:=h
    have:=Oc hd
    subst this
    exact ⟨none,0,rfl,Nat.le_refl _,by simp,.inl rfl⟩
  | sl b s' n' cs'=>
    simp only [St.nP,Option.some.injEq,Prod.mk.injEq] at h
    obtain ⟨rfl,rfl,rfl,rfl⟩:=h
    cases b with
    | none=>exact absurd hd (by simp [bZ,gg,aQ,Ext])
    | some b=>exact xU (t:=.v (.sl (some b) s' n' cs') u) hd rfl
  | ref r q o x=>
    simp only [St.nP] at h
    split at h
    case h_2=>simp at h
    rename_i b s' n' cs' hc
    simp only [Option.some.injEq,Prod.mk.injEq] at h
    obtain ⟨rfl,rfl,rfl,rfl⟩:=h
    obtain ⟨R,l,t,h1,h2,h3,h4,h5⟩:=hM fA hc
    exact VD h5.symm (hd t h4) (xU (qu hm h1 h2 h3 h5.symm) h5.symm)
  | _=>simp [St.nP] at h
variable {c:cf} (ao:dU c P)
include ao
theorem Og (fA:gy st.rt S) (hm:Mem C w S H) {t:TypeId} {d d':D} {u:Value} (hd:bZ w (ad C w S H) S d u) (h:Ih c st t d=some d') (ty:TypeId):∃ r,(∀ w:World,(Builtin.len_ #[t] ty #[u]).run P w=.ok r w)∧bZ w (ad C w S H) S d' r:=by
  unfold Ih at h
  split at h
  · rename_i ku
    obtain ⟨dd,h1,h2⟩:=(ao.ty t _ ku).desc
    simp only [jA] at h2
    subst h2
    have:=uX hd
    subst this
    simp only [Option.some.injEq] at h
    subst h
    exact ⟨_,by intro w; simp [Builtin.len_,run_underlying h1]; rfl,rfl⟩
  · rename_i e ku
    obtain ⟨dd,h1,h2⟩:=(ao.ty t _ ku).desc
    simp only [jA] at h2
    subst h2
    split at h
    case h_2=>simp at h
    rename_i hs
    simp only [Option.some.injEq] at h
    subst h
    obtain ⟨base,cap,rfl,_⟩:=(HU fA hm hd hs).ok
    exact ⟨_,by intro w; simp [Builtin.len_,run_underlying h1]; rfl,rfl⟩
  · simp at h
end
end Go.Proofs.Ytockoilcnmljiaa
namespace Go.Proofs.Ytockoilcnmljiaa
theorem oE {P:Program} {w:World} {t e:TypeId} {A:Addr} {n cap:Nat} {k:IntKind} {i:Int} {sz:Nat} (h:P.underlying t=some (.slice e)) (hs:(Go.sizeOf e).run P w=Result.ok sz w) (h0:0≤i) (h1:i < n):
    (Instr.indexAt t (.slice (some A) n cap) (.int k i)).run P w=.ok (.pointer (some (A.add (i.toNat*sz)))) w:=by
  simp [Instr.indexAt,run_underlying h,asIntOf,h0,h1,hs]
theorem tY {P:Program} {w:World} {t e:TypeId} {A:Addr} {n:Nat} {k:IntKind} {i:Int} {sz:Nat} (h:P.underlying t=some (.array n e)) (hs:(Go.sizeOf e).run P w=Result.ok sz w) (h0:0≤i) (h1:i < n):
    (Instr.indexAt t (.pointer (some A)) (.int k i)).run P w=.ok (.pointer (some (A.add (i.toNat*sz)))) w:=by
  simp [Instr.indexAt,run_underlying h,asIntOf,h0,h1,hs,Instr.sureAddr]
theorem kS {i:Int} {n:Nat} {d:Option D} {d':D} (h:ju i n d=some d'):0≤i∧i < n∧d=some d':=by
  unfold ju at h
  split at h
  · split at h
    · exact ⟨by assumption,by assumption,h⟩
    · simp at h
  · simp at h
section
variable {P:Program} {c:cf} (ao:dU c P) {C:Ctx} {Hx:List T} {w:World} {S:List (Nat × RT)} {st:St} (fA:gy st.rt S) (hm:Mem C w S Hx)
include ao fA hm
theorem xV {t:TypeId} {d d':D} {u:Value} {k:IntKind} {i:Int} (hd:bZ w (ad C w S Hx) S d u) (h:oC st c t d i=some d'):
    ∃ r,(∀ w:World,(Instr.indexAt t u (.int k i)).run P w=.ok r w)∧bZ w (ad C w S Hx) S d' r:=by
  unfold oC at h
  split at h
  · rename_i e sz nU z ku
    obtain ⟨dd,h1,h2⟩:=(ao.ty t _ ku).desc
    simp only [jA] at h2
    subst h2
    split at h
    case h_2=>simp at h
    rename_i ei sr
    have cE:=fun w=>(ao.ty e ei sr).sz w
    split at h
    · rename_i r q o x
      split at h
      · rename_i s n cs hc
        split at h
        case isFalse=>simp at h
        rename_i hs
        obtain ⟨hs,TN⟩:=hs
        subst hs
        obtain ⟨h3,h4,h5⟩:=kS h
        simp only [Option.some.injEq] at h5
        subst h5
        obtain ⟨R,l,t',h6,h7,h8,h9,lh⟩:=hM fA hc
        obtain ⟨cap,a,ts,rfl,rfl⟩:=B7 lh.symm
        have dK:=qu hm h6 h7 h8 lh.symm
        have hr:=hd _ h9
        have oF:0 < (trim x ei.size n (aP ts)).1:=by omega
        simp only [aZ] at dK
        obtain ⟨g1,g2,g3,g4⟩:=dK
        obtain ⟨Cg,Xj⟩:=Ir (bx:=R.box) h7 h8
        have key:∃ b off0 n' c',a=some (b,off0)∧u=.slice (some ⟨b,off0+off x*ei.size,none⟩) n' c'∧n'=(trim x ei.size n (aP ts)).1:=by
          cases x with
          | none=>
            simp only [ey,sn,T.er,T.val,tV] at hr
            cases a with
            | none=>simp only [trim] at oF; omega
            | some p=>exact ⟨p.1,p.2,n,cap,rfl,by simp [hr,off],rfl⟩
          | some p=>
            obtain ⟨l0,m⟩:=p
            simp only [ey,sn,T.er,T.val,tV,Value.slice.injEq] at hr
            obtain ⟨e1,base,C0,k0,⟨e2,_,e3⟩,e4,rfl,e5⟩:=hr
            subst e3
            simp only [trim] at oF
            cases a with
            | none=>simp only at g3; omega
            | some p=>
              simp only [Option.map_some] at e2
              subst e2
              have:k0=l0:=by
                rcases e5 with e5 | e5
                · omega
                · exact e5
              subst this
              exact ⟨p.1,p.2,m,cap - k0,rfl,by rw [Option.map_some,eH]; rfl,rfl⟩
        obtain ⟨b,off0,n',c',rfl,rfl,rfl⟩:=key
        refine ⟨_,fun w=>oE h1 (cE w) h3 h4,?_⟩
        intro R' dQ
        rw [h6,Option.some.injEq] at dQ
        subst dQ
        refine ⟨fun e=>by simp at e,fun b' A3 fu=>?_⟩
        rw [Cg,Option.some.injEq,Prod.mk.injEq] at fu
        obtain ⟨rfl,rfl⟩:=fu
        rw [eH,Nat.add_mul,Nat.add_assoc]
      · rename_i g s n cs hc
        split at h
        case isFalse=>simp at h
        rename_i hs
        obtain ⟨hs,TN⟩:=hs
        subst hs
        obtain ⟨h3,h4,h5⟩:=kS h
        simp only [Option.some.injEq] at h5
        subst h5
        obtain ⟨R,l,t',h6,h7,h8,h9,lh⟩:=hM fA hc
        have dK:=qu hm h6 h7 h8 lh.symm
        have hr:=hd _ h9
        have oF:0 < (trim x ei.size n cs).1:=by omega
        cases t' with
        | own s' n' cap a ts=>simp [T.er] at lh
        | v dd uu=>
          simp only [aZ] at dK
          simp only [T.er] at lh
          rw [← lh] at dK
          simp only [Ext] at dK
          obtain ⟨base,cap,us,e1,e2,e3,e4,e5⟩:=dK
          have cK:cs≠[]:=by
            intro eh
            subst eh
            simp only [List.length_nil] at e3
            rcases Nat.mul_eq_zero.1 e3.symm with hn | hn
            · subst hn
              cases x with
              | none=>simp [trim] at oF
              | some p=>
                simp only [ey,sn,T.er,← lh] at hr
                obtain ⟨e6,_⟩:=hr
                simp only [trim] at oF; omega
            · omega
          rcases e5 with e5 | ⟨kb,off0,cc,e,fz,e6,e7,e8,e9⟩
          · exact absurd e5 cK
          · subst e6
            have key:∃ n' c',u=.slice (some ⟨kb,off0+off x*ei.size,none⟩) n' c'∧n'=(trim x ei.size n cs).1:=by
              cases x with
              | none=>
                simp only [ey,sn,T.er,← lh,T.val] at hr
                exact ⟨n,cap,by simp [hr,e1,off],rfl⟩
              | some p=>
                obtain ⟨l0,m⟩:=p
                simp only [ey,sn,T.er,← lh,T.val,e1,Value.slice.injEq] at hr
                obtain ⟨f1,MH,C0,k0,⟨f2,_,f3⟩,f4,rfl,f5⟩:=hr
                subst f3; subst f2
                simp only [trim] at oF
                have:k0=l0:=by
                  rcases f5 with f5 | f5
                  · omega
                  · exact f5
                subst this
                exact ⟨m,cap - k0,by rw [Option.map_some,eH]; rfl,rfl⟩
            obtain ⟨n',c',rfl,rfl⟩:=key
            refine ⟨_,fun w=>oE h1 (cE w) h3 h4,kb,off0,cc,e,fz,us,?_,?_,e8,e4,e9⟩
            · rw [eH,Nat.add_mul,Nat.add_assoc]
            · exact ⟨e7.1,e7.2.1,e7.2.2.1,fun h=>by simp at h⟩
      · simp at h
    · rename_i g s n cs
      split at h
      case isFalse=>simp at h
      rename_i hs
      obtain ⟨hs,TN⟩:=hs
      subst hs
      obtain ⟨h3,h4,h5⟩:=kS h
      simp only [Option.some.injEq] at h5
      subst h5
      have qv:Ext w (ad C w S Hx) (.sl (some g) ei.size n cs) u:=hd
      simp only [Ext] at qv
      obtain ⟨base,cap,us,rfl,e2,e3,e4,e5⟩:=qv
      rcases e5 with e5 | ⟨kb,off0,cc,e,fz,rfl,e7,e8,e9⟩
      · exfalso
        subst e5
        simp only [List.length_nil] at e3
        rcases Nat.mul_eq_zero.1 e3.symm with hn | hn<;>omega
      · refine ⟨_,fun w=>oE h1 (cE w) h3 h4,kb,off0,cc,e,fz,us,by rw [eH],?_,e8,e4,e9⟩
        exact ⟨e7.1,e7.2.1,e7.2.2.1,fun h=>by simp at h⟩
    · simp at h
  · rename_i n e sz nU z ku
    obtain ⟨dd,h1,h2⟩:=(ao.ty t _ ku).desc
    simp only [jA] at h2
    subst h2
    split at h
    case h_2=>simp at h
    rename_i ei sr
    have cE:=fun w=>(ao.ty e ei sr).sz w
    split at h
    · rename_i r q o
      split at h
      case isFalse=>simp at h
      rename_i hl
      obtain ⟨h3,h4,h5⟩:=kS h
      simp only [Option.some.injEq] at h5
      subst h5
      obtain ⟨R,b,off0,hR,ha,rfl⟩:=rN fA hm hl hd
      refine ⟨_,fun w=>tY h1 (cE w) h3 h4,?_⟩
      rw [eH,Nat.add_assoc]
      exact Of hd hR ha
    · rename_i cs o
      obtain ⟨h3,h4,h5⟩:=kS h
      simp only [Option.some.injEq] at h5
      subst h5
      obtain ⟨b,off0,cc,e',fz,us,rfl,h6⟩:=hd
      exact ⟨_,fun w=>tY h1 (cE w) h3 h4,b,off0,cc,e',fz,us,by rw [eH,Nat.add_assoc],h6⟩
    · simp at h
  · simp at h
end
end Go.Proofs.Ytockoilcnmljiaa
namespace Go.Proofs.Ytockoilcnmljiaa
theorem add_add (A:Addr) (i j:Nat):(A.add i).add j=A.add (i+j):=by
  unfold Addr.add
  split<;>split<;>split<;>first | rfl | omega | simp_all [Nat.add_assoc]
theorem Iv (b:Option Addr):b.map (·.add 0)=b:=by
  cases b<;>simp [Addr.add]
def Oh (d:Option D) (u:Option Value):Prop:=(d=none∧u=none)∨∃ k i,d=some (.int k i)∧u=some (.int k i)
theorem Ch {w:World} {X:Bool→Nat→Prop} {S:List (Nat × RT)} {d:Option D} {u:Option Value} (h:(d=none∧u=none)∨∃ x y,d=some x∧u=some y∧bZ w X S x y) {z i:Int} (hb:bound d z=some i):Oh d u:=by
  rcases h with h | ⟨x,y,rfl,rfl,h⟩
  · exact .inl h
  · cases x<;>simp [bound] at hb
    have:=fQ h
    subst this
    exact .inr ⟨_,_,rfl,rfl⟩
theorem Ci {P:Program} {w:World} {is:Bool} {len cap:Nat} {dl dh:Option D} {ul uh:Option Value} {l h:Int} (h1:Oh dl ul) (h2:Oh dh uh) (hl:bound dl 0=some l) (hh:bound dh len=some h) (h0:0≤l) (TO:l≤h) (hhn:h≤len) (vM:len≤cap):
    (Instr.sliceBounds is len cap ul uh none).run P w=.ok (l.toNat,h.toNat,cap) w:=by
  have e1:0≤h:=Int.le_trans h0 TO
  have e2:h≤(cap:Int):=by omega
  have e3:l≤(h.toNat:Int):=by omega
  rcases h1 with ⟨rfl,rfl⟩ | ⟨k,i,rfl,rfl⟩<;>rcases h2 with ⟨rfl,rfl⟩ | ⟨k',i',rfl,rfl⟩<;>simp only [bound,Option.some.injEq] at hl hh<;>subst hl<;>subst hh
  · simp [Instr.sliceBounds]
  · simp [Instr.sliceBounds,Instr.sliceBound,asIntOf,e1,e2]
  · simp [Instr.sliceBounds,Instr.sliceBound,asIntOf,h0,TO]
  · have e4:i≤((i'.toNat:Nat):Int):=e3
    simp only [Instr.sliceBounds,Instr.sliceBound,asIntOf,Sem.run_bind,Sem.run_pure,Result.andThen_ok,Sem.run_ite]
    rw [if_pos ⟨e1,e2⟩]
    simp only [Result.andThen_ok,Sem.run_pure,Sem.run_bind,Sem.run_ite]
    rw [if_pos ⟨h0,e4⟩]
    rfl
def Fj (w:World) (X:Bool→Nat→Prop) (S:List (Nat × RT)) (d:Option D) (u:Option Value):Prop:=(d=none∧u=none)∨∃ x y,d=some x∧u=some y∧bZ w X S x y
section
variable {P:Program} {w:World}
theorem Gn {X:Bool→Nat→Prop} {S:List (Nat × RT)} {t:TypeId} (ht:P.underlying t=some .string) {s:ByteArray} {d':D} {dl dh:Option D} {ul uh:Option Value} (hl:Fj w X S dl ul) (hh:Fj w X S dh uh) (h:B5 s dl dh=some d'):
    ∃ r,(∀ w:World,(Instr.sliceAt t (.string s) ul uh none).run P w=.ok r w)∧bZ w X S d' r:=by
  unfold B5 at h
  split at h
  case h_2=>simp at h
  rename_i l0 h0 e1 e2
  split at h
  case isFalse=>simp at h
  rename_i hc
  obtain ⟨i1,i2,i3⟩:=hc
  simp only [Option.some.injEq] at h
  subst h
  refine ⟨.string (s.extract l0.toNat h0.toNat),?_,rfl⟩
  intro w
  simp only [Instr.sliceAt,Sem.run_bind,run_underlying ht,Result.andThen_ok,Instr.slice]
  simp [Ci (Ch hl e1) (Ch hh e2) e1 e2 i1 i2 i3 (Nat.le_refl _)]
theorem Gp {t e:TypeId} (ht:P.underlying t=some (.slice e)) {sz:Nat} (hs:(Go.sizeOf e).run P w=Result.ok sz w) {base:Option Addr} {n cap:Nat} {dl dh:Option D} {ul uh:Option Value} {l h:Int} (h1:Oh dl ul) (h2:Oh dh uh) (hl:bound dl 0=some l) (hh:bound dh n=some h) (h0:0≤l) (TO:l≤h) (hhn:h≤n) (vM:n≤cap):
    (Instr.sliceAt t (.slice base n cap) ul uh none).run P w=.ok (.slice (if cap=l.toNat then base else base.map (·.add (l.toNat*sz))) (h.toNat - l.toNat) (cap - l.toNat)) w:=by
  simp only [Instr.sliceAt,Sem.run_bind,run_underlying ht,Result.andThen_ok,Instr.slice,Ci h1 h2 hl hh h0 TO hhn vM,hs]
  rfl
end
section
variable {P:Program} {c:cf} (ao:dU c P) {C:Ctx} {Hx:List T} {w:World} {S:List (Nat × RT)} {st:St} (fA:gy st.rt S) (hm:Mem C w S Hx)
include fA hm
theorem Oi {t e:TypeId} (ht:P.underlying t=some (.slice e)) {sz:Nat} (hs:∀ w,(Go.sizeOf e).run P w=Result.ok sz w) {d d':D} {u:Value} {dl dh:Option D} {ul uh:Option Value} (hd:bZ w (ad C w S Hx) S d u) (hl:Fj w (ad C w S Hx) S dl ul) (hh:Fj w (ad C w S Hx) S dh uh)
    (h:B6 st sz d dl dh=some d'):∃ r,(∀ w:World,(Instr.sliceAt t u ul uh none).run P w=.ok r w)∧bZ w (ad C w S Hx) S d' r:=by
  unfold B6 at h
  split at h
  case h_2=>simp at h
  rename_i g s n cs fR
  split at h
  case h_2=>simp at h
  rename_i l0 h0 e1 e2
  split at h
  case isFalse=>simp at h
  rename_i hc
  obtain ⟨rfl,i1,i2,i3⟩:=hc
  have hSl:=HU fA hm hd fR
  obtain ⟨base,cap,rfl,vM,hlen,Xk⟩:=hSl.ok
  refine ⟨_,fun w=>Gp ht (hs w) (Ch hl e1) (Ch hh e2) e1 e2 i1 i2 i3 vM,?_⟩
  have hle:l0.toNat≤h0.toNat∧h0.toNat≤n:=by omega
  cases d with
  | nil k=>
    simp only [Option.some.injEq] at h
    subst h
    have:=Oc hd
    simp only [Value.slice.injEq] at this
    obtain ⟨rfl,rfl,rfl⟩:=this
    have:l0.toNat=0∧h0.toNat=0:=by omega
    rw [this.1,this.2]
    rfl
  | sl g' s' n' cs'=>
    simp only [St.nP,Option.some.injEq,Prod.mk.injEq] at fR
    obtain ⟨rfl,rfl,rfl,rfl⟩:=fR
    simp only [Option.some.injEq] at h
    subst h
    cases g' with
    | none=>exact absurd hd (by simp [bZ,gg,aQ,Ext])
    | some g'=>
      have qv:Ext w (ad C w S Hx) (.sl (some g') s' n' cs') (.slice base n' cap):=hd
      simp only [Ext,Value.slice.injEq] at qv
      obtain ⟨MH,rb,us,⟨rfl,_,rfl⟩,e3,e4,e5,e6⟩:=qv
      show Ext w (ad C w S Hx) (.sl (some g') s' (h0.toNat - l0.toNat) ((cs'.drop (l0.toNat*s')).take ((h0.toNat - l0.toNat)*s'))) _
      simp only [Ext]
      have Cj:((cs'.drop (l0.toNat*s')).take ((h0.toNat - l0.toNat)*s')).length=(h0.toNat - l0.toNat)*s':=by
        rw [List.length_take,List.length_drop,e4]
        have:l0.toNat*s'+(h0.toNat - l0.toNat)*s'≤n'*s':=by rw [← Nat.add_mul]; exact Nat.mul_le_mul_right _ (by omega)
        omega
      have dJ:=(gu cs' us).1 e5
      refine ⟨_,_,(us.drop (l0.toNat*s')).take ((h0.toNat - l0.toNat)*s'),rfl,by omega,Cj,(gu _ _).2 ((dJ.drop _).take _),?_⟩
      by_cases hz:(cs'.drop (l0.toNat*s')).take ((h0.toNat - l0.toNat)*s')=[]
      · exact .inl hz
      · right
        have oF:0 < (h0.toNat - l0.toNat)*s':=by
          rcases Nat.eq_zero_or_pos ((h0.toNat - l0.toNat)*s') with e7 | e7
          · exact absurd (List.length_eq_zero_iff.1 (by rw [Cj,e7])) hz
          · exact e7
        rcases e6 with e6 | ⟨kb,off0,cc,ee,fz,rfl,e7,e8,e9⟩
        · subst e6; simp at hz
        · have cK:¬ (cap=l0.toNat):=by
            intro e10
            have:h0.toNat - l0.toNat=0:=by omega
            simp [this] at oF
          refine ⟨kb,off0+l0.toNat*s',cc,ee,fz,by rw [if_neg cK,Option.map_some,eH],e7,e8,fun j v hj=>?_⟩
          rw [List.getElem?_take] at hj
          split at hj
          · rw [List.getElem?_drop] at hj
            rw [Nat.add_assoc]; exact e9 _ _ hj
          · simp at hj
  | ref r q o y=>
    simp only [Option.some.injEq] at h
    subst h
    simp only [St.nP] at fR
    split at fR
    case h_2=>simp at fR
    rename_i g' s' n' cs' cx
    simp only [Option.some.injEq,Prod.mk.injEq] at fR
    obtain ⟨rfl,rfl,rfl,rfl⟩:=fR
    intro t' m8
    have hr:=hd t' m8
    obtain ⟨R,l,t'',h6,h7,h8,h9,lh⟩:=hM fA cx
    rw [h9,Option.some.injEq] at m8
    subst m8
    unfold ey at hr ⊢
    rw [← lh] at hr ⊢
    simp only [sn] at hr ⊢
    have hN:=(xU (qu hm h6 h7 h8 lh.symm) lh.symm).ok
    obtain ⟨b0,C0,f1,f2,_⟩:=hN
    cases y with
    | none=>
      simp only at hr
      simp only [trim,off,Nat.zero_add] at*
      rw [f1] at hr
      simp only [Value.slice.injEq] at hr
      obtain ⟨rfl,_,rfl⟩:=hr
      refine ⟨by omega,base,cap,if cap=l0.toNat then 0 else l0.toNat,f1,by split<;>omega,?_,?_⟩
      · split
        · rename_i e; simp [Iv]
        · rfl
      · by_cases e:cap=l0.toNat
        · left; omega
        · right; simp [e]
    | some p=>
      obtain ⟨l1,m1⟩:=p
      simp only at hr
      obtain ⟨g1,b1,C1,k1,g2,g3,g4,g5⟩:=hr
      simp only [Value.slice.injEq] at g4
      obtain ⟨rfl,_,rfl⟩:=g4
      simp only [trim,off] at*
      rw [f1] at g2
      simp only [Value.slice.injEq] at g2
      obtain ⟨rfl,_,rfl⟩:=g2
      refine ⟨by omega,b0,C0,if C0 - l1=l0.toNat then k1 else k1+l0.toNat,f1,?_,?_,?_⟩
      · split
        · exact g3
        · rcases g5 with g5 | g5<;>omega
      · have e11:C0 - (l1+l0.toNat)=C0 - l1 - l0.toNat:=by omega
        rw [e11]
        split
        · rfl
        · congr 1
          cases b0 with
          | none=>rfl
          | some A=>simp [add_add,Nat.add_mul]
      · by_cases e:C0 - l1=l0.toNat
        · left; omega
        · right
          rw [if_neg e]
          rcases g5 with g5 | g5<;>omega
  | _=>simp [St.nP] at fR
include ao
theorem Iw {t:TypeId} {d d':D} {u:Value} {dl dh:Option D} {ul uh:Option Value} (hd:bZ w (ad C w S Hx) S d u) (hl:Fj w (ad C w S Hx) S dl ul) (hh:Fj w (ad C w S Hx) S dh uh)
    (h:xN c st t d dl dh=some d'):∃ r,(∀ w:World,(Instr.sliceAt t u ul uh none).run P w=.ok r w)∧bZ w (ad C w S Hx) S d' r:=by
  unfold xN at h
  split at h
  · rename_i ku
    obtain ⟨dd,h1,h2⟩:=(ao.ty t _ ku).desc
    simp only [jA] at h2
    subst h2
    split at h
    case h_2=>simp at h
    have:=uX hd
    subst this
    exact Gn h1 hl hh h
  · rename_i e _ _ _ ku
    obtain ⟨dd,h1,h2⟩:=(ao.ty t _ ku).desc
    simp only [jA] at h2
    subst h2
    split at h
    case h_2=>simp at h
    rename_i ei sr
    exact Oi fA hm h1 (fun w=>(ao.ty e ei sr).sz w) hd hl hh h
  · simp at h
end
end Go.Proofs.Ytockoilcnmljiaa
namespace Go.Proofs.Ytockoilcnmljiaa
def j7 (t t':T):Prop:=t'.val=t.val∧∀ p,sn t'.er=some p→sn t.er=some p
theorem j7.refl (t:T):j7 t t:=⟨rfl,fun _ h=>h⟩
theorem j7.trans {a b c:T} (h:j7 a b) (h':j7 b c):j7 a c:=⟨h'.1.trans h.1,fun p e=>h.2 p (h'.2 p e)⟩
theorem jB {t t':T} (h:j7 t t') {x:Option (Nat × Nat)} {u:Value} (hr:ey x t u):ey x t' u:=by
  unfold ey at hr ⊢
  cases he:sn t'.er with
  | some p=>
    rw [h.2 p he] at hr
    simp only at hr ⊢
    rw [h.1]
    exact hr
  | none=>trivial
theorem VE {q:List Nat} {o:Nat} {t':T}:∀ {cs cs':List T} {q':List Nat} {o':Nat} {l':List T},dn (fun l=>l.set o t') cs q=some cs'→under (q++[o]) (q'++[o'])=none→au cs' q'=some l'→
    ∃ l,au cs q'=some l∧∀ t2,l'[o']?=some t2→∃ t1,l[o']?=some t1∧j7 t1 t2:=by
  induction q with
  | nil=>
    intro cs cs' q' o' l' hm hu hc
    simp only [dn,Option.some.injEq] at hm
    subst hm
    cases q' with
    | nil=>
      simp only [au,Option.some.injEq] at hc
      subst hc
      refine ⟨cs,rfl,fun t2 h2=>?_⟩
      simp only [List.nil_append,under] at hu
      split at hu
      · simp at hu
      · rename_i cK
        rw [List.getElem?_set_ne cK] at h2
        exact ⟨t2,h2,j7.refl _⟩
    | cons p q'=>
      simp only [List.nil_append,List.cons_append,under] at hu
      split at hu
      · simp at hu
      · rename_i cK
        rw [au,List.getElem?_set_ne cK] at hc
        rw [au]
        exact ⟨l',hc,fun t2 h2=>⟨t2,h2,j7.refl _⟩⟩
  | cons p q ih=>
    intro cs cs' q' o' l' hm hu hc
    rw [dn] at hm
    cases hp:cs[p]? with
    | none=>simp [hp] at hm
    | some x=>
      cases x with
      | v d u=>simp [hp] at hm
      | own s n cap a xs=>
        simp only [hp] at hm
        cases hx:dn (fun l=>l.set o t') xs q with
        | none=>simp [hx] at hm
        | some jw=>
          simp only [hx,Option.some.injEq] at hm
          subst hm
          obtain ⟨cR,_⟩:=List.getElem?_eq_some_iff.1 hp
          cases q' with
          | nil=>
            simp only [au,Option.some.injEq] at hc
            subst hc
            refine ⟨cs,rfl,fun t2 h2=>?_⟩
            by_cases hpo:p=o'
            · subst hpo
              rw [List.getElem?_set_self cR,Option.some.injEq] at h2
              subst h2
              exact ⟨_,hp,rfl,fun p h=>by simpa [T.er,sn] using h⟩
            · rw [List.getElem?_set_ne hpo] at h2
              exact ⟨t2,h2,j7.refl _⟩
          | cons p' q'=>
            by_cases Ck:p=p'
            · subst Ck
              simp only [List.cons_append,under,if_true] at hu
              rw [au,List.getElem?_set_self cR] at hc
              simp only at hc
              obtain ⟨l,h1,h2⟩:=ih hx hu hc
              exact ⟨l,by rw [au,hp]; exact h1,h2⟩
            · rw [au,List.getElem?_set_ne Ck] at hc
              exact ⟨l',by rw [au]; exact hc,fun t2 h2=>⟨t2,h2,j7.refl _⟩⟩
theorem pG {q:List Nat} {o:Nat} {t':T}:∀ {cs cs':List T} {q':List Nat} {bx:Option Nat},dn (fun l=>l.set o t') cs q=some cs'→under (q++[o]) q'=none→bI bx cs' q'=bI bx cs q':=by
  induction q with
  | nil=>
    intro cs cs' q' bx hm hu
    simp only [dn,Option.some.injEq] at hm
    subst hm
    cases q' with
    | nil=>rfl
    | cons p q'=>
      simp only [List.nil_append,under] at hu
      split at hu
      · simp at hu
      · rename_i cK
        rw [bI,bI,List.getElem?_set_ne cK]
  | cons p q ih=>
    intro cs cs' q' bx hm hu
    rw [dn] at hm
    cases hp:cs[p]? with
    | none=>simp [hp] at hm
    | some x=>
      cases x with
      | v d u=>simp [hp] at hm
      | own s n cap a xs=>
        simp only [hp] at hm
        cases hx:dn (fun l=>l.set o t') xs q with
        | none=>simp [hx] at hm
        | some jw=>
          simp only [hx,Option.some.injEq] at hm
          subst hm
          obtain ⟨cR,_⟩:=List.getElem?_eq_some_iff.1 hp
          cases q' with
          | nil=>rfl
          | cons p' q'=>
            rw [bI,bI]
            by_cases Ck:p=p'
            · subst Ck
              simp only [List.cons_append,under,if_true] at hu
              rw [List.getElem?_set_self cR,hp]
              simp only
              cases q' with
              | nil=>rfl
              | cons y ys=>exact ih (bx:=none) hx hu
            · rw [List.getElem?_set_ne Ck]
theorem iD {q:List Nat}:∀ {x y:List Nat},under q x=some y→x=q++y:=by
  induction q with
  | nil=>intro x y h; simp only [under,Option.some.injEq] at h; exact h
  | cons p q ih=>
    intro x y h
    cases x with
    | nil=>simp [under] at h
    | cons z zs=>
      simp only [under] at h
      split at h
      · rename_i e; subst e; simp [ih h]
      · simp at h
theorem Rh {q:List Nat} {o:Nat} {t':T} {cs cs':List T} (hm:dn (fun l=>l.set o t') cs q=some cs') {l':List T} (hc:au cs' q=some l') {t2:T} (h2:l'[o]?=some t2):t2=t':=by
  obtain ⟨l,h3,h4⟩:=lY hm
  rw [h4,Option.some.injEq] at hc
  subst hc
  obtain ⟨cR,he⟩:=List.getElem?_eq_some_iff.1 h2
  rw [← he]; simp
theorem Cl {q:List Nat} {o:Nat} {y:List Nat} {d:D} {u:Value}:∀ {cs l:List T},au cs q=some l→l[o]?=some (.v d u)→au cs (q++o::y)=none:=by
  induction q with
  | nil=>
    intro cs l hc ho
    simp only [au,Option.some.injEq] at hc
    subst hc
    simp [au,ho]
  | cons p q ih=>
    intro cs l hc ho
    rw [au] at hc
    cases hp:cs[p]? with
    | none=>simp [hp] at hc
    | some x=>
      cases x with
      | v d u=>simp [hp] at hc
      | own s n cap a xs=>
        simp only [hp] at hc
        rw [List.cons_append,au,hp]
        exact ih hc ho
theorem Oj {q:List Nat} {o:Nat} {y:List Nat} {d:D} {u:Value}:∀ {cs l:List T} {bx:Option Nat},au cs q=some l→l[o]?=some (.v d u)→bI bx cs (q++o::y)=none:=by
  induction q with
  | nil=>
    intro cs l bx hc ho
    simp only [au,Option.some.injEq] at hc
    subst hc
    simp [bI,ho]
  | cons p q ih=>
    intro cs l bx hc ho
    rw [au] at hc
    cases hp:cs[p]? with
    | none=>simp [hp] at hc
    | some x=>
      cases x with
      | v d u=>simp [hp] at hc
      | own s n cap a xs=>
        simp only [hp] at hc
        rw [List.cons_append,bI,hp]
        simp only
        have:=ih (bx:=none) hc ho
        cases hq:q++o::y with
        | nil=>simp at hq
        | cons z zs=>rw [hq] at this; exact this
structure jC (S S':List (Nat × RT)) (r:Nat) (q:List Nat) (o:Nat) (t t':T):Prop where
  ex:∃ R cs' l,lk S r=some R∧au R.cs q=some l∧l[o]?=some t∧dn (fun l=>l.set o t') R.cs q=some cs'∧S'=pt S r ⟨R.box,cs'⟩
section
variable {S S':List (Nat × RT)} {r:Nat} {q:List Nat} {o:Nat} {t t':T} (hc:jC S S' r q o t t')
include hc
theorem jC.HV {r':Nat} (h:r'≠r):lk S' r'=lk S r':=by
  obtain ⟨R,cs',l,h1,h2,h3,h4,rfl⟩:=hc.ex
  exact dk _ _ h
theorem jC.box {r':Nat} {R':RT} (h:lk S' r'=some R'):∃ R,lk S r'=some R∧R.box=R'.box:=by
  by_cases he:r'=r
  · subst he
    obtain ⟨R,cs',l,h1,h2,h3,h4,rfl⟩:=hc.ex
    rw [cm,Option.some.injEq] at h
    subst h
    exact ⟨R,h1,rfl⟩
  · rw [hc.HV he] at h
    exact ⟨R',h,rfl⟩
theorem jC.su {r':Nat} {q':List Nat} {o':Nat} (hf:r'≠r∨under (q++[o]) (q'++[o'])=none) {t2:T} (h:cd S' r' q' o'=some t2):∃ t1,cd S r' q' o'=some t1∧j7 t1 t2:=by
  by_cases he:r'=r
  · subst he
    have hf:under (q++[o]) (q'++[o'])=none:=by rcases hf with hf | hf<;>first | exact absurd rfl hf | exact hf
    obtain ⟨R,cs',l,h1,h2,h3,h4,rfl⟩:=hc.ex
    unfold cd at h ⊢
    rw [cm] at h
    rw [h1]
    simp only at h ⊢
    cases hx:au cs' q' with
    | none=>simp [hx] at h
    | some l'=>
      simp only [hx] at h
      obtain ⟨l1,h5,h6⟩:=VE h4 hf hx
      rw [h5]
      exact h6 t2 h
  · unfold cd at h ⊢
    rw [hc.HV he] at h
    exact ⟨t2,h,j7.refl _⟩
theorem jC.Fk {t2:T} (h:cd S' r q o=some t2):t2=t':=by
  obtain ⟨R,cs',l,h1,h2,h3,h4,rfl⟩:=hc.ex
  unfold cd at h
  rw [cm] at h
  simp only at h
  cases hx:au cs' q with
  | none=>simp [hx] at h
  | some l'=>
    simp only [hx] at h
    exact Rh h4 hx h
theorem jC.A4:cd S' r q o=some t':=by
  obtain ⟨R,cs',l,h1,h2,h3,h4,rfl⟩:=hc.ex
  obtain ⟨l',h5,h6⟩:=lY h4
  rw [h2,Option.some.injEq] at h5
  subst h5
  unfold cd
  rw [cm]
  simp only [h6]
  rw [List.getElem?_set_self (List.getElem?_eq_some_iff.1 h3).1]
theorem jC.Ix:cd S r q o=some t:=by
  obtain ⟨R,cs',l,h1,h2,h3,h4,rfl⟩:=hc.ex
  simp [cd,h1,h2,h3]
theorem jC.pG {r':Nat} {q':List Nat} (hf:r'≠r∨under (q++[o]) q'=none) {R':RT} (h:lk S' r'=some R'):∃ R,lk S r'=some R∧R.box=R'.box∧bI R'.box R'.cs q'=bI R.box R.cs q':=by
  by_cases he:r'=r
  · subst he
    have hf:under (q++[o]) q'=none:=by rcases hf with hf | hf<;>first | exact absurd rfl hf | exact hf
    obtain ⟨R,cs',l,h1,h2,h3,h4,rfl⟩:=hc.ex
    rw [cm,Option.some.injEq] at h
    subst h
    exact ⟨R,h1,rfl,pG h4 hf⟩
  · rw [hc.HV he] at h
    exact ⟨R',h,rfl,rfl⟩
theorem jC.Xl:∃ A B,cr S=A++t.ft++B∧cr S'=A++t'.ft++B:=by
  obtain ⟨R,cs',l,h1,h2,h3,h4,rfl⟩:=hc.ex
  obtain ⟨A,B,h5,h6⟩:=kt h1
  obtain ⟨A',B',h7,h8⟩:=MD h2 h3
  refine ⟨A++R.box.toList++A',B'++B,?_,?_⟩
  · rw [h5,RT.ft,h7]; simp
  · rw [h6,RT.ft,h8 t' cs' h4]; simp
theorem jC.Ri {d:D} {u:Value} (ht:t'=.v d u) {r':Nat} {q':List Nat} {o':Nat} {y:Nat} {ys:List Nat} (hr:r'=r) (hy:under (q++[o]) (q'++[o'])=some (y::ys)):cd S' r' q' o'=none:=by
  subst hr; subst ht
  obtain ⟨R,cs',l,h1,h2,h3,h4,rfl⟩:=hc.ex
  obtain ⟨l',h5,h6⟩:=lY h4
  rw [h2,Option.some.injEq] at h5
  subst h5
  have h7:(l.set o (.v d u))[o]?=some (.v d u):=List.getElem?_set_self (List.getElem?_eq_some_iff.1 h3).1
  have h8:=iD hy
  have h9:q'=q++o::(y::ys).dropLast∧o'=(y::ys).getLast (by simp):=by
    have e1:q'++[o']=(q++o::(y::ys).dropLast)++[(y::ys).getLast (by simp)]:=by
      rw [h8]; simp only [List.append_assoc,List.singleton_append,List.cons_append,List.nil_append]; rw [List.dropLast_concat_getLast]
    exact ⟨List.append_inj_left' e1 rfl,by have:=List.append_inj_right' e1 rfl; simpa using this⟩
  unfold cd
  rw [cm]
  simp only
  rw [h9.1,Cl h6 h7]
theorem jC.Rj {d:D} {u:Value} (ht:t'=.v d u) {q' y:List Nat} (hy:under (q++[o]) q'=some y) {R':RT} (h:lk S' r=some R'):bI R'.box R'.cs q'=none:=by
  subst ht
  obtain ⟨R,cs',l,h1,h2,h3,h4,rfl⟩:=hc.ex
  obtain ⟨l',h5,h6⟩:=lY h4
  rw [h2,Option.some.injEq] at h5
  subst h5
  have h7:(l.set o (.v d u))[o]?=some (.v d u):=List.getElem?_set_self (List.getElem?_eq_some_iff.1 h3).1
  rw [cm,Option.some.injEq] at h
  subst h
  rw [iD hy,List.append_assoc]
  exact Oj h6 h7
end
end Go.Proofs.Ytockoilcnmljiaa
namespace Go.Proofs.Ytockoilcnmljiaa
section
variable {w w':World} {X X':Bool→Nat→Prop} {S S':List (Nat × RT)}
theorem tZ {d:D} {u:Value} (h:bZ w X S d u):(∃ ds us,d=.aR ds∧u=.tuple us∧bO (gg w X S) ds us.toList)∨((∀ ds,d≠.aR ds)∧gg w X S d u):=by
  cases d<;>first | exact .inr ⟨by simp,h⟩ | (obtain ⟨us,h1,h2⟩:=h; exact .inl ⟨_,us,rfl,h1,h2⟩)
theorem qw {d:D} {u:Value} (h:gg w X S d u):(∃ cs us,d=.agg cs∧u=.agg us∧bO (aQ w X S) cs us.toList)∨(∃ f cs us,d=.fn f cs∧u=.func (.func f) #[] us∧bO (aQ w X S) cs us.toList)∨((∀ cs,d≠.agg cs)∧(∀ f cs,d≠.fn f cs)∧aQ w X S d u):=by
  cases d<;>first | exact .inr (.inr ⟨by simp,by simp,h⟩) | (obtain ⟨us,h1,h2⟩:=h; exact .inl ⟨_,us,rfl,h1,h2⟩) | (obtain ⟨us,h1,h2⟩:=h; exact .inr (.inl ⟨_,_,us,rfl,h1,h2⟩))
theorem VF {f:D→D} (h:∀ d u,aQ w X S d u→aQ w' X' S' (f d) u) {d:D} {u:Value} (hd:bZ w X S d u):bZ w' X' S' (mX f d) u:=by
  have ha:∀ d u,gg w X S d u→gg w' X' S' (eO f d) u:=by
    intro d u hd
    rcases qw hd with ⟨cs,us,rfl,rfl,ha⟩ | ⟨g,cs,us,rfl,rfl,ha⟩ | ⟨h1,h2,h3⟩
    · exact ⟨us,rfl,ha.map f (fun _ _=>h _ _)⟩
    · exact ⟨us,rfl,ha.map f (fun _ _=>h _ _)⟩
    · have:eO f d=f d:=by cases d<;>first | rfl | exact absurd rfl (h1 _) | exact absurd rfl (h2 _ _)
      rw [this]; exact dT (h _ _ h3)
  rcases tZ hd with ⟨ds,us,rfl,rfl,hb⟩ | ⟨h1,h2⟩
  · exact ⟨us,rfl,hb.map _ (fun _ _=>ha _ _)⟩
  · have:mX f d=eO f d:=by cases d<;>first | rfl | exact absurd rfl (h1 _)
    rw [this]; exact jz (ha _ _ h2)
theorem VG {α:Type} (f:α→α) (l:List (Nat × α)) (k:Nat):lk (fy f l) k=(lk l k).map f:=by
  induction l with
  | nil=>rfl
  | cons e t ih=>
    obtain ⟨j,v⟩:=e
    simp only [fy,lk]
    split<;>simp [ih]
theorem Rk {f:D→D} (h:∀ d u,aQ w X S d u→aQ w' X' S' (f d) u) {tm:List (Nat × D)} {vs:Array Value} (ht:kJ w X S tm vs):kJ w' X' S' (fy (mX f) tm) vs:=by
  intro t
  rw [VG]
  have:=ht t
  cases hx:lk tm t with
  | none=>simpa [hx] using kK _
  | some d=>rw [hx] at this; simpa using VF h this
theorem nV (h:∀ d u,aQ w X S d u→aQ w' X' S' d u) {d:D} {u:Value} (hd:bZ w X S d u):bZ w' X' S' d u:=by
  have ha:∀ d u,gg w X S d u→gg w' X' S' d u:=by
    intro d u hd
    rcases qw hd with ⟨cs,us,rfl,rfl,ha⟩ | ⟨g,cs,us,rfl,rfl,ha⟩ | ⟨h1,h2,h3⟩
    · exact ⟨us,rfl,ha.mono h⟩
    · exact ⟨us,rfl,ha.mono h⟩
    · exact dT (h _ _ h3)
  rcases tZ hd with ⟨ds,us,rfl,rfl,hb⟩ | ⟨h1,h2⟩
  · exact ⟨us,rfl,hb.mono ha⟩
  · exact jz (ha _ _ h2)
theorem uH (h:∀ d u,aQ w X S d u→aQ w' X' S' d u) {tm:List (Nat × D)} {vs:Array Value} (ht:kJ w X S tm vs):kJ w' X' S' tm vs:=fun t=>nV h (ht t)
end
def iE (w w':World) (X X':Bool→Nat→Prop):Prop:=∀ b k,X b k→X' b k∧w'.heap[k]?=w.heap[k]?
theorem iE.refl (w:World) (X:Bool→Nat→Prop):iE w w X X:=fun _ _ h=>⟨h,rfl⟩
section
variable {w w':World} {X X':Bool→Nat→Prop} {S S':List (Nat × RT)} (hX:iE w w' X X')
include hX
theorem mH {cs:List D} {o:Nat} {u:Value} (h:aQ w X S (.dt cs o) u):aQ w' X' S' (.dt cs o) u:=by
  obtain ⟨b,off,c,e,fz,us,h1,h2,h3,h4,h5⟩:=h
  exact ⟨b,off,c,e,fz,us,h1,(hX _ _ h2).1,by rw [(hX _ _ h2).2]; exact h3,qt hX _ _ h4,h5⟩
theorem nb {d:D} (hr:∀ r q o x,d≠.ref r q o x) (hp:∀ r q o,d≠.ptr r q o) (hq:∀ cs o,d≠.dt cs o) {u:Value} (h:aQ w X S d u):aQ w' X' S' d u:=by
  cases d with
  | ref r q o x=>exact absurd rfl (hr _ _ _ _)
  | ptr r q o=>exact absurd rfl (hp _ _ _)
  | dt cs o=>exact absurd rfl (hq _ _)
  | _=>exact fN hX _ _ h
theorem Iy {r:Nat} {q:List Nat} {o:Nat} {t:T} {d0:D} {u0:Value} (hc:jC S S' r q o t (.v d0 u0)) (hn:sn (bj d0)=none∨j7 t (.v d0 u0)) {d:D} {u:Value} (h:aQ w X S d u):aQ w' X' S' d u:=by
  cases d with
  | ref r' q' o' x=>
    intro t2 h2
    by_cases hf:r'≠r∨under (q++[o]) (q'++[o'])=none
    · obtain ⟨t1,h1,hl⟩:=hc.su hf h2
      exact jB hl (h t1 h1)
    · have hr:r'=r:=Classical.byContradiction fun e=>hf (.inl e)
      cases hu:under (q++[o]) (q'++[o']) with
      | none=>exact absurd (.inr hu) hf
      | some y=>
        cases y with
        | nil=>
          have e1:=iD hu
          simp only [List.append_nil] at e1
          obtain ⟨rfl,e2⟩:=List.append_inj' e1 rfl
          simp only [List.cons.injEq,and_true] at e2
          subst e2; subst hr
          have:=hc.Fk h2
          subst this
          rcases hn with hn | hn
          · unfold ey
            simp only [T.er,hn]
          · exact jB hn (h t hc.Ix)
        | cons y ys=>rw [hc.Ri rfl hr hu] at h2; simp at h2
  | ptr r' q' o'=>
    intro R' dQ
    obtain ⟨R,h1,h2⟩:=hc.box dQ
    refine ⟨fun e=>by rw [← h2]; exact (h R h1).1 e,fun b off ha=>?_⟩
    by_cases hf:r'≠r∨under (q++[o]) q'=none
    · obtain ⟨R1,h3,h4,h5⟩:=hc.pG hf dQ
      rw [h3,Option.some.injEq] at h1
      subst h1
      exact (h _ h3).2 b off (h5▸ha)
    · have hr:r'=r:=Classical.byContradiction fun e=>hf (.inl e)
      subst hr
      cases hu:under (q++[o]) q' with
      | none=>exact absurd (.inr hu) hf
      | some y=>rw [hc.Rj rfl hu dQ] at ha; simp at ha
  | dt cs o'=>exact mH hX h
  | _=>exact nb hX (by simp) (by simp) (by simp) h
theorem vN {r:Nat} {q:List Nat} {o:Nat} {t t':T} (hc:jC S S' r q o t t') {ex:Bool} (hl:ex=false→j7 t t') {d:D} {u:Value} (h:aQ w X S d u):aQ w' X' S' (cb r q o ex d) u:=by
  cases d with
  | ref r' q' o' x=>
    simp only [cb]
    split
    · rename_i hr
      subst hr
      cases hu:under (q++[o]) (q'++[o']) with
      | none=>
        simp only
        intro t2 h2
        obtain ⟨t1,h1,hl⟩:=hc.su (.inr hu) h2
        exact jB hl (h t1 h1)
      | some y=>
        cases y with
        | nil=>
          cases ex with
          | true=>simp [aQ,Ext]
          | false=>
            simp only [Bool.false_eq_true,if_false]
            intro t2 h2
            have e1:=iD hu
            simp only [List.append_nil] at e1
            obtain ⟨rfl,e2⟩:=List.append_inj' e1 rfl
            simp only [List.cons.injEq,and_true] at e2
            subst e2
            have:=hc.Fk h2
            subst this
            exact jB (hl rfl) (h t hc.Ix)
        | cons y ys=>simp [aQ,Ext]
    · rename_i hr
      intro t2 h2
      obtain ⟨t1,h1,hl⟩:=hc.su (.inl hr) h2
      exact jB hl (h t1 h1)
  | ptr r' q' o'=>
    simp only [cb]
    split
    · rename_i hr
      subst hr
      cases hu:under (q++[o]) q' with
      | none=>
        simp only
        intro R' dQ
        obtain ⟨R1,h3,h4,h5⟩:=hc.pG (.inr hu) dQ
        exact ⟨fun e=>by rw [← h4]; exact (h R1 h3).1 e,fun b off ha=>(h R1 h3).2 b off (h5▸ha)⟩
      | some y=>simp [aQ,Ext]
    · rename_i hr
      intro R' dQ
      obtain ⟨R1,h3,h4,h5⟩:=hc.pG (.inl hr) dQ
      exact ⟨fun e=>by rw [← h4]; exact (h R1 h3).1 e,fun b off ha=>(h R1 h3).2 b off (h5▸ha)⟩
  | dt cs o'=>exact mH hX h
  | _=>simp only [cb]; exact nb hX (by simp) (by simp) (by simp) h
theorem Rl {r:Nat} {R:RT} (hS:S'=pt S r R) {d:D} {u:Value} (h:aQ w X S d u):aQ w' X' S' (cj r d) u:=by
  subst hS
  cases d with
  | ref r' q' o' x=>
    simp only [cj]
    split
    · simp [aQ,Ext]
    · rename_i hr
      intro t2 h2
      unfold cd at h2
      rw [dk _ _ hr] at h2
      exact h t2 h2
  | ptr r' q' o'=>
    simp only [cj]
    split
    · simp [aQ,Ext]
    · rename_i hr
      intro R' dQ
      rw [dk _ _ hr] at dQ
      exact h R' dQ
  | dt cs o'=>exact mH hX h
  | _=>simp only [cj]; exact nb hX (by simp) (by simp) (by simp) h
theorem VH {r:Nat} {R0 R:RT} (h0:lk S r=some R0) (hb:R.box=R0.box) (hS:S'=pt S r R) {d:D} {u:Value} (h:aQ w X S d u):aQ w' X' S' (dY r d) u:=by
  subst hS
  cases d with
  | ref r' q' o' x=>
    simp only [dY]
    split
    · simp [aQ,Ext]
    · rename_i hr
      intro t2 h2
      unfold cd at h2
      rw [dk _ _ hr] at h2
      exact h t2 h2
  | ptr r' q' o'=>
    cases q' with
    | nil=>
      simp only [dY]
      intro R' dQ
      by_cases hr:r'=r
      · subst hr
        rw [cm,Option.some.injEq] at dQ
        subst dQ
        refine ⟨fun e=>by rw [hb]; exact (h R0 h0).1 e,fun b off ha=>(h R0 h0).2 b off ?_⟩
        simp only [bI] at ha ⊢
        rw [← hb]; exact ha
      · rw [dk _ _ hr] at dQ
        exact h R' dQ
    | cons p q'=>
      simp only [dY]
      split
      · simp [aQ,Ext]
      · rename_i hr
        intro R' dQ
        rw [dk _ _ hr] at dQ
        exact h R' dQ
  | dt cs o'=>exact mH hX h
  | _=>simp only [dY]; exact nb hX (by simp) (by simp) (by simp) h
theorem qx (hS:∀ r R,lk S' r=some R→lk S r=some R) {d:D} {u:Value} (h:aQ w X S d u):aQ w' X' S' d u:=by
  cases d with
  | ref r' q' o' x=>
    intro t2 h2
    unfold cd at h2
    cases hr:lk S' r' with
    | none=>simp [hr] at h2
    | some R=>
      refine h t2 ?_
      unfold cd
      rw [hS _ _ hr]
      rw [hr] at h2
      exact h2
  | ptr r' q' o'=>exact fun R' dQ=>h R' (hS _ _ dQ)
  | dt cs o'=>exact mH hX h
  | _=>exact nb hX (by simp) (by simp) (by simp) h
end
theorem Rm (b:Bool) (d:D):gS b (bj d)=bj d:=by
  cases d with
  | sl g s n cs=>cases g<;>simp [bj,gS]
  | _=>simp [bj,gS]
mutual
theorem vO {w:World} {X X':Bool→Nat→Prop} (hX:∀ b k,X b k→X' b k) (b:Bool):∀ (t:T),aZ w X t→(∀ k∈t.ft,X' b k)→Ext w X' (gS b t.er) t.val
  | .v d u,hs,_=>by
    simp only [aZ] at hs
    have h2:Ext w X' (bj d) u:=fN (fun b k h=>⟨hX b k h,rfl⟩) _ _ hs
    have h3:gS b (T.v d u).er=bj d:=Rm b d
    rw [h3]; exact h2
  | .own s n cap a cs,hs,hf=>by
    simp only [aZ] at hs
    obtain ⟨h1,h2,h3,h4⟩:=hs
    simp only [T.er,gS,Ext,T.val,tV]
    have h5:=Ah hX b cs h4 (fun k hk=>hf k (by simp [T.ft,hk]))
    refine ⟨_,cap,ay cs,rfl,h1,?_,h5,?_⟩
    · have:=((gu _ _).1 h5).len
      rw [this,bw,h2]
    · cases a with
      | none=>
        left
        have:cs.length=0:=by rw [h2,h3.1]; simp
        simp [List.length_eq_zero_iff.1 this,aP,cW]
      | some p=>
        obtain ⟨k,off⟩:=p
        obtain ⟨c,e,fz,h6,_,_,h7⟩:=h3
        exact .inr ⟨k,off,c,e,fz,rfl,hf k (by simp [T.ft,iw]),h6,h7⟩
theorem Ah {w:World} {X X':Bool→Nat→Prop} (hX:∀ b k,X b k→X' b k) (b:Bool):∀ (ts:List T),ba w X ts→(∀ k∈ae ts,X' b k)→fM w X' (cW b (aP ts)) (ay ts)
  | [],_,_=>by simp [aP,cW,ay,fM]
  | t::ts,hs,hf=>by
    simp only [ba] at hs
    simp only [aP,cW,ay,fM]
    exact ⟨t.val,ay ts,rfl,vO hX b t hs.1 (fun k hk=>hf k (by simp [ae,hk])),Ah hX b ts hs.2 (fun k hk=>hf k (by simp [ae,hk]))⟩
end
theorem Fl (b:Bool):∀ (ds:List D) (k:Nat),cW b (ds.drop k)=(cW b ds).drop k
  | [],k=>by simp [cW]
  | d::ds,0=>rfl
  | d::ds,k+1=>by simp [cW,Fl b ds k]
theorem Fm (b:Bool):∀ (ds:List D) (k:Nat),cW b (ds.take k)=(cW b ds).take k
  | [],k=>by simp [cW]
  | d::ds,0=>rfl
  | d::ds,k+1=>by simp [cW,Fm b ds k]
theorem Iz {w:World} {X:Bool→Nat→Prop} {g:Bool} {s n:Nat} {cs:List D} {l m k C:Nat} {base:Option Addr} (h:Ext w X (.sl (some g) s n cs) (.slice base n C)) (h1:l+m≤n) (h2:k≤C) (h3:C - l=0∨k=l):
    Ext w X (.sl (some g) s m ((cs.drop (l*s)).take (m*s))) (.slice (base.map (·.add (k*s))) m (C - l)):=by
  simp only [Ext,Value.slice.injEq] at h ⊢
  obtain ⟨MH,rb,us,⟨rfl,_,rfl⟩,e3,e4,e5,e6⟩:=h
  have Cj:((cs.drop (l*s)).take (m*s)).length=m*s:=by
    rw [List.length_take,List.length_drop,e4]
    have:l*s+m*s≤n*s:=by rw [← Nat.add_mul]; exact Nat.mul_le_mul_right _ h1
    omega
  have dJ:=(gu cs us).1 e5
  refine ⟨_,_,(us.drop (l*s)).take (m*s),⟨rfl,trivial,rfl⟩,by omega,Cj,(gu _ _).2 ((dJ.drop _).take _),?_⟩
  by_cases hz:(cs.drop (l*s)).take (m*s)=[]
  · exact .inl hz
  · right
    have oF:0 < m*s:=by
      rcases Nat.eq_zero_or_pos (m*s) with e7 | e7
      · exact absurd (List.length_eq_zero_iff.1 (by rw [Cj,e7])) hz
      · exact e7
    rcases e6 with e6 | ⟨kb,off0,cc,ee,fz,rfl,e7,e8,e9⟩
    · subst e6; simp at hz
    · have Cn:m≠0:=fun e=>by simp [e] at oF
      have hkl:k=l:=by
        rcases h3 with h3 | h3
        · omega
        · exact h3
      subst hkl
      refine ⟨kb,off0+k*s,cc,ee,fz,by rw [Option.map_some,eH],e7,e8,fun j v hj=>?_⟩
      rw [List.getElem?_take] at hj
      split at hj
      · rw [List.getElem?_drop] at hj
        rw [Nat.add_assoc]; exact e9 _ _ hj
      · simp at hj
theorem zr {w:World} {X X':Bool→Nat→Prop} (hX:∀ b k,X b k→X' b k) (b:Bool) {t:T} {g:Option Bool} {s n:Nat} {cs:List D} (he:t.er=.sl g s n cs) (hs:aZ w X t) (hf:∀ k∈t.ft,X' b k) {x:Option (Nat × Nat)} {u:Value} (hr:ey x t u):
    Ext w X' (gS b (.sl g s (trim x s n cs).1 (trim x s n cs).2)) u:=by
  have h1:=vO hX b t hs hf
  unfold ey at hr
  rw [he] at hr h1
  simp only [sn] at hr
  cases x with
  | none=>simp only at hr; subst hr; exact h1
  | some p=>
    obtain ⟨l,m⟩:=p
    simp only at hr
    obtain ⟨h2,base,C,k,h3,h4,rfl,h5⟩:=hr
    rw [h3] at h1
    cases g with
    | none=>
      simp only [gS,trim] at h1 ⊢
      rw [Fm,Fl]
      exact Iz h1 h2 h4 h5
    | some g=>
      simp only [gS,trim] at h1 ⊢
      exact Iz h1 h2 h4 h5
end Go.Proofs.Ytockoilcnmljiaa
namespace Go.Proofs.Ytockoilcnmljiaa
theorem Rel.step {C:Ctx} {H H':List T} {w w':World} {st st':St} {aB:List (Array Value)} {S S':List (Nat × RT)} (h:Rel C H w st aB S) {f:D→D} (fA:gy st'.rt S') (fv:st'.tm=fy (mX f) st.tm) (IA:st'.up=st.up.map (fy (mX f)))
    (dH:∀ d u,aQ w (ad C w S H) S d u→aQ w' (ad C w' S' H') S' (f d) u) (cQ:Mem C w' S' H') (hk:Kept C w' S' H'):Rel C H' w' st' aB S':=by
  refine ⟨fA,cQ,?_,hk⟩
  rw [fv,IA,show fy (mX f) st.tm::st.up.map (fy (mX f))=(st.tm::st.up).map (fy (mX f)) from rfl]
  exact h.mZ.map _ (fun _ _=>Rk dH)
theorem Rel.pH {C:Ctx} {H H':List T} {w w':World} {st st':St} {aB:List (Array Value)} {S S':List (Nat × RT)} (h:Rel C H w st aB S) (fA:gy st'.rt S') (fv:st'.tm=st.tm) (IA:st'.up=st.up)
    (dH:∀ d u,aQ w (ad C w S H) S d u→aQ w' (ad C w' S' H') S' d u) (cQ:Mem C w' S' H') (hk:Kept C w' S' H'):Rel C H' w' st' aB S':=by
  refine ⟨fA,cQ,?_,hk⟩
  rw [fv,IA]
  exact h.mZ.mono (fun _ _=>uH dH)
def GT (g:D→D) (t t1:T):Prop:=(∃ d d1 u,t=.v d u∧t1=.v d1 u∧bj d1=g (bj d))∨((∃ s n cap a xs,t=.own s n cap a xs)∧t1=t)
structure SR (g:D→D) (S S1:List (Nat × RT)):Prop where
  look:∀ r R1,lk S1 r=some R1→∃ R,lk S r=some R∧R1.box=R.box∧bO (GT g) R.cs R1.cs
  gT:cr S1=cr S
theorem GT.val {g:D→D} {t t1:T} (h:GT g t t1):t1.val=t.val∧t1.ft=t.ft:=by
  rcases h with ⟨d,d1,u,rfl,rfl,_⟩ | ⟨_,rfl⟩
  · exact ⟨rfl,rfl⟩
  · exact ⟨rfl,rfl⟩
theorem GT.Xm {g:D→D} {ts ts1:List T} (h:bO (GT g) ts ts1):ay ts1=ay ts:=by
  induction h with
  | nil=>rfl
  | cons h1 _ ih=>simp [ay,h1.val.1,ih]
theorem SR.refl (S:List (Nat × RT)):SR id S S:=by
  refine ⟨fun r R1 h=>⟨R1,h,rfl,?_⟩,rfl⟩
  refine cV rfl (fun i a b ha hb=>?_)
  rw [ha,Option.some.injEq] at hb
  subst hb
  cases a with
  | v d u=>exact .inl ⟨d,d,u,rfl,rfl,rfl⟩
  | own s n cap aa xs=>exact .inr ⟨⟨s,n,cap,aa,xs,rfl⟩,rfl⟩
def fT (g:D→D):T→T
  | .v d u=>.v (eO g (bj d)) u
  | t=>t
def fS (g:D→D):List (Nat × RT)→List (Nat × RT)
  | []=>[]
  | (k,R)::t=>(k,⟨R.box,R.cs.map (fT g)⟩)::fS g t
structure j8 (g:D→D):Prop where
  sl:∀ b s n cs,g (.sl b s n cs)=.sl b s n cs
  hole:∀ s n,g (.hole s n)=.hole s n
  no:∀ d,sn d=none→sn (g d)=none
theorem Rn {d:D} (h:sn d=none):bj d=d:=by
  cases d<;>first | rfl | simp [sn] at h
theorem Ai (d:D):bj (bj d)=bj d:=by
  cases d with
  | sl b s n cs=>cases b<;>rfl
  | _=>rfl
theorem VI {d:D} {p:Nat × Nat} (h:sn (bj d)=some p):(∃ b s n cs,bj d=.sl (some b) s n cs)∨∃ s n,bj d=.hole s n:=by
  cases d with
  | sl b s n cs=>
    cases b with
    | none=>simp [bj,sn] at h
    | some b=>exact .inl ⟨b,s,n,cs,rfl⟩
  | hole s n=>exact .inr ⟨s,n,rfl⟩
  | _=>simp [bj,sn] at h
theorem j8.Xn {g:D→D} (hg:j8 g) {d:D} (h:sn d=none):sn (eO g d)=none:=by
  cases d<;>first | rfl | (simp [sn] at h; done) | exact hg.no _ rfl
theorem j8.Xp {g:D→D} (hg:j8 g) (d:D):sn (eO g d)=sn d:=by
  cases d<;>first | rfl | (simp only [eO,hg.sl,hg.hole]; done) | exact hg.no _ rfl
theorem j8.leaf {g:D→D} (hg:j8 g) (d:D):bj (eO g (bj d))=eO g (bj d):=by
  cases hs:sn (bj d) with
  | none=>exact Rn (hg.Xn hs)
  | some p=>
    rcases VI hs with ⟨b,s,n,cs,h⟩ | ⟨s,n,h⟩
    · rw [h]
      simp [eO,hg.sl,bj]
    · rw [h]
      simp [eO,hg.hole,bj]
theorem HW {g:D→D} (hg:j8 g) (t:T):(fT g t).er=eO g t.er:=by
  cases t with
  | v d u=>simp only [fT,T.er]; exact hg.leaf d
  | own s n cap a xs=>simp [fT,T.er,eO,hg.sl]
theorem kg (g:D→D) (S:List (Nat × RT)) (k:Nat):lk (fS g S) k=(lk S k).map fun R=>⟨R.box,R.cs.map (fT g)⟩:=by
  induction S with
  | nil=>rfl
  | cons e t ih=>
    obtain ⟨j,R⟩:=e
    simp only [fS,lk]
    split<;>simp [ih]
theorem VJ {α:Type} (f:α→α) (l:List (Nat × α)) (k:Nat):lk (fy f l) k=(lk l k).map f:=by
  induction l with
  | nil=>rfl
  | cons e t ih=>
    obtain ⟨j,v⟩:=e
    simp only [fy,lk]
    split<;>simp [ih]
theorem nE {g:D→D} (hg:j8 g) {l:List (Nat × List D)} {S:List (Nat × RT)} (h:gy l S):gy (fy (List.map (eO g)) l) (fS g S):=by
  intro k
  rw [VJ,kg,h k]
  cases lk S k with
  | none=>rfl
  | some R=>
    simp only [Option.map_some,Option.some.injEq,eg,List.map_map]
    apply List.map_congr_left
    intro t _
    simp [HW hg]
theorem TP (g:D→D) (t:T):(fT g t).ft=t.ft:=by cases t<;>rfl
theorem rF (g:D→D) (S:List (Nat × RT)):cr (fS g S)=cr S:=by
  induction S with
  | nil=>rfl
  | cons e t ih=>
    obtain ⟨k,R⟩:=e
    simp only [fS,cr,ih,RT.ft]
    congr 2
    rw [lX,lX,List.map_map]
    congr 2
    funext t
    exact TP g t
theorem MI {g:D→D} (hg:j8 g) (S:List (Nat × RT)):SR (eO g) S (fS g S):=by
  refine ⟨fun r R1 h=>?_,rF g S⟩
  rw [kg] at h
  cases hr:lk S r with
  | none=>simp [hr] at h
  | some R=>
    simp only [hr,Option.map_some,Option.some.injEq] at h
    subst h
    refine ⟨R,rfl,rfl,cV (by simp) (fun i a b ha hb=>?_)⟩
    simp only [List.getElem?_map,ha,Option.map_some,Option.some.injEq] at hb
    subst hb
    cases a with
    | v d u=>exact .inl ⟨d,_,u,rfl,rfl,hg.leaf d⟩
    | own s n cap aa xs=>exact .inr ⟨⟨s,n,cap,aa,xs,rfl⟩,rfl⟩
theorem A5 (g:D→D) {cs:List T} {p:Nat} {q:List Nat}:au (cs.map (fT g)) (p::q)=au cs (p::q):=by
  simp only [au,List.getElem?_map]
  cases cs[p]? with
  | none=>rfl
  | some t=>cases t<;>rfl
theorem Ly (g:D→D) {cs:List T} {bx:Option Nat} {q:List Nat}:bI bx (cs.map (fT g)) q=bI bx cs q:=by
  cases q with
  | nil=>rfl
  | cons p q=>
    simp only [bI,List.getElem?_map]
    cases cs[p]? with
    | none=>rfl
    | some t=>cases t<;>rfl
theorem oG {g:D→D} (hg:j8 g) {w:World} {X:Bool→Nat→Prop} {S:List (Nat × RT)} {d:D} {u:Value} (h:aQ w X S d u):aQ w X (fS g S) d u:=by
  cases d with
  | ref r q o x=>
    intro t2 h2
    unfold cd at h2
    rw [kg] at h2
    cases hr:lk S r with
    | none=>simp [hr] at h2
    | some R=>
      simp only [hr,Option.map_some] at h2
      cases q with
      | nil=>
        simp only [au,List.getElem?_map] at h2
        cases ho:R.cs[o]? with
        | none=>simp [ho] at h2
        | some t=>
          simp only [ho,Option.map_some,Option.some.injEq] at h2
          subst h2
          have:=h t (by simp [cd,hr,au,ho])
          cases t with
          | own s n cap aa xs=>exact this
          | v d0 u0=>
            unfold ey at this ⊢
            rw [HW hg]
            simp only [T.er,hg.Xp] at this ⊢
            exact this
      | cons p q=>
        rw [A5] at h2
        exact h t2 (by unfold cd; rw [hr]; exact h2)
  | ptr r q o=>
    intro R' dQ
    rw [kg] at dQ
    cases hr:lk S r with
    | none=>simp [hr] at dQ
    | some R=>
      simp only [hr,Option.map_some,Option.some.injEq] at dQ
      subst dQ
      exact ⟨(h R hr).1,fun b off ha=>(h R hr).2 b off (by rw [Ly] at ha; exact ha)⟩
  | _=>exact h
theorem SR.pI {g:D→D} {S S1:List (Nat × RT)} (h:SR g S S1) {r:Nat} {R1:RT} (hr:lk S1 r=some R1):∃ R,lk S r=some R∧R1.box=R.box∧R1.cs.length=R.cs.length∧ay R1.cs=ay R.cs∧∀ (i:Nat) (t1:T),R1.cs[i]?=some t1→∃ t:T,R.cs[i]?=some t∧GT g t t1:=by
  obtain ⟨R,h1,h2,h3⟩:=h.look r R1 hr
  refine ⟨R,h1,h2,h3.len.symm,GT.Xm h3,fun i t1 hi=>?_⟩
  have hl:=h3.len
  obtain ⟨cR,_⟩:=List.getElem?_eq_some_iff.1 hi
  obtain ⟨t1',h4,h5⟩:=h3.get (List.getElem?_eq_getElem (by omega:i < R.cs.length))
  rw [hi,Option.some.injEq] at h4
  subst h4
  exact ⟨_,List.getElem?_eq_getElem (by omega),h5⟩
section
variable {C:Ctx} {H H':List T} {w:World} {S S1 S':List (Nat × RT)}
theorem iP (ec:∀ k∈cr S'++ae H',k∈cr S++ae H) (b:Bool) (k:Nat) (h:ad C w S H b k):ad C w S' H' b k:=by
  obtain ⟨h1,h2,h3,h4⟩:=h
  have:k∉cr S'++ae H':=fun hk=>by
    rcases List.mem_append.1 (ec k hk) with h | h
    · exact h2 h
    · exact h3 h
  exact ⟨h1,fun h=>this (List.mem_append.2 (.inl h)),fun h=>this (List.mem_append.2 (.inr h)),h4⟩
theorem Lz (hm:Mem C w S H) {g:D→D} (hS:SR g S S1) {r:Nat} {q:List Nat} {o:Nat} {t t':T} (hc:jC S1 S' r q o t t') (hv:t'.val=t.val) (hs:aZ w (ad C w S' H') t'∨∃ d u,t'=.v d u∧q=[]∧∀ R,lk S r=some R→R.box.isSome=true∧aQ w (ad C w S' H') S' (bj d) u)
    (eT:(cr S'++ae H').Nodup) (ec:∀ k∈cr S'++ae H',k∈cr S++ae H) (hh:ba w (ad C w S' H') H') (dH:∀ d u,aQ w (ad C w S H) S d u→aQ w (ad C w S' H') S' (g d) u) (xW:∀ d u,Ext w (ad C w S H) d u→Ext w (ad C w S' H') (g d) u):Mem C w S' H':=by
  have hX:∀ b k,ad C w S H b k→ad C w S' H' b k:=iP ec
  have ch:∀ b k,ad C w S H b k→ad C w S' H' b k∧w.heap[k]?=w.heap[k]?:=fun b k h=>⟨hX b k h,rfl⟩
  have cell:∀ {bx:Bool} {t0 t1:T},ix w (ad C w S H) S bx t0→GT g t0 t1→ix w (ad C w S' H') S' bx t1:=by
    intro bx t0 t1 h0 hg
    rcases hg with ⟨d,d1,u,rfl,rfl,he⟩ | ⟨⟨s,n,cap,a,xs,rfl⟩,rfl⟩
    · simp only [ix] at h0 ⊢
      rw [he]
      rcases h0 with h0 | ⟨hb,h0⟩
      · exact .inl (xW _ _ h0)
      · exact .inr ⟨hb,dH _ _ h0⟩
    · exact du ch _ h0 (fun _ _=>rfl)
  refine ⟨eT,?_,hh,fun k hk=>hm.lt k (ec k hk)⟩
  intro r' R' dQ
  obtain ⟨R1,cs',l,h1,h2,h3,h4,rfl⟩:=hc.ex
  by_cases he:r'=r
  · subst he
    rw [cm,Option.some.injEq] at dQ
    subst dQ
    obtain ⟨R,g1,g2,g3,g4,g5⟩:=hS.pI h1
    obtain ⟨k1,k2⟩:=hm.root r' R g1
    cases q with
    | nil=>
      simp only [au,Option.some.injEq] at h2
      simp only [dn,Option.some.injEq] at h4
      subst h2; subst h4
      obtain ⟨cR,hto⟩:=List.getElem?_eq_some_iff.1 h3
      have gh:ay (R1.cs.set o t')=ay R.cs:=by
        rw [← g4,nQ,hv]
        apply List.ext_getElem?
        intro j
        by_cases hj:o=j
        · subst hj
          rw [List.getElem?_set_self (by rw [bw]; exact cR),eQ,h3]; rfl
        · rw [List.getElem?_set_ne hj]
      refine ⟨?_,?_⟩
      · simp only [List.length_set]
        rw [gh,g3,g2]; exact k1
      · intro t0 jD
        obtain ⟨j,hj⟩:=List.mem_iff_getElem?.1 jD
        simp only at hj
        by_cases Fi:o=j
        · subst Fi
          rw [List.getElem?_set_self cR,Option.some.injEq] at hj
          subst hj
          rcases hs with hs | ⟨d,u,rfl,_,hs⟩
          · cases t' with
            | v d u=>exact .inl hs
            | own s n cap a xs=>exact hs
          · obtain ⟨hb,hs⟩:=hs R g1
            exact .inr ⟨by rw [g2]; exact hb,hs⟩
        · rw [List.getElem?_set_ne Fi] at hj
          obtain ⟨LA,e1,e2⟩:=g5 j _ hj
          have:=cell (k2 _ (List.mem_of_getElem? e1)) e2
          rw [← g2] at this
          exact this
    | cons p q=>
      have sq:aZ w (ad C w (pt S1 r' ⟨R1.box,cs'⟩) H') t':=by
        rcases hs with hs | ⟨d,u,_,hq,_⟩
        · exact hs
        · simp at hq
      have gh:=(kQ h4).1
      have hlen:=(kQ h4).2
      refine ⟨?_,?_⟩
      · simp only
        rw [gh,hlen,g4,g3,g2]; exact k1
      · intro t0 jD
        obtain ⟨j,hj⟩:=List.mem_iff_getElem?.1 jD
        simp only at hj
        rw [au] at h2
        rw [dn] at h4
        cases hp:R1.cs[p]? with
        | none=>simp [hp] at h2
        | some x=>
          cases x with
          | v d u=>simp [hp] at h2
          | own s n cap a xs=>
            simp only [hp] at h2 h4
            cases hx:dn (fun l=>l.set o t') xs q with
            | none=>simp [hx] at h4
            | some jw=>
              simp only [hx,Option.some.injEq] at h4
              subst h4
              obtain ⟨cR,_⟩:=List.getElem?_eq_some_iff.1 hp
              by_cases rp:p=j
              · subst rp
                rw [List.getElem?_set_self cR,Option.some.injEq] at hj
                subst hj
                obtain ⟨LA,e1,e2⟩:=g5 p _ hp
                have e3:=cell (k2 _ (List.mem_of_getElem? e1)) e2
                simp only [ix,aZ] at e3 ⊢
                obtain ⟨f1,f2,f3,f4⟩:=e3
                obtain ⟨f5,f6⟩:=VA sq hv f4 h2 h3 hx
                have nW:jw.length=xs.length:=by have:=congrArg List.length f6; simpa [bw] using this
                exact ⟨f1,by rw [nW]; exact f2,by rw [f6]; exact f3,f5⟩
              · rw [List.getElem?_set_ne rp] at hj
                obtain ⟨LA,e1,e2⟩:=g5 j _ hj
                have:=cell (k2 _ (List.mem_of_getElem? e1)) e2
                rw [← g2] at this
                exact this
  · rw [dk _ _ he] at dQ
    obtain ⟨R,g1,g2,g3,g4,g5⟩:=hS.pI dQ
    obtain ⟨k1,k2⟩:=hm.root r' R g1
    refine ⟨?_,?_⟩
    · rw [g4,g3,g2]; exact k1
    · intro t0 jD
      obtain ⟨j,hj⟩:=List.mem_iff_getElem?.1 jD
      obtain ⟨LA,e1,e2⟩:=g5 j _ hj
      have:=cell (k2 _ (List.mem_of_getElem? e1)) e2
      rw [← g2] at this
      exact this
end
end Go.Proofs.Ytockoilcnmljiaa
namespace Go.Proofs.Ytockoilcnmljiaa
theorem Ro {cs:List T} {o:Nat} {t t':T} (ho:cs[o]?=some t) (hv:t'.val=t.val):ay (cs.set o t')=ay cs:=by
  rw [nQ,hv]
  apply List.ext_getElem?
  intro j
  by_cases hj:o=j
  · subst hj
    rw [List.getElem?_set_self (by rw [bw]; exact (List.getElem?_eq_some_iff.1 ho).1),eQ,ho]; rfl
  · rw [List.getElem?_set_ne hj]
theorem jC.par {S S':List (Nat × RT)} {r:Nat} {q:List Nat} {o:Nat} {t t':T} (hc:jC S S' r q o t t') (hv:t'.val=t.val) {r':Nat} {R':RT} (h:lk S' r'=some R'):∃ R,lk S r'=some R∧R'.box=R.box∧ay R'.cs=ay R.cs:=by
  obtain ⟨R,cs',l,h1,h2,h3,h4,rfl⟩:=hc.ex
  by_cases he:r'=r
  · subst he
    rw [cm,Option.some.injEq] at h
    subst h
    refine ⟨R,h1,rfl,?_⟩
    cases q with
    | nil=>
      simp only [au,Option.some.injEq] at h2
      simp only [dn,Option.some.injEq] at h4
      subst h2; subst h4
      exact Ro h3 hv
    | cons p q=>exact (kQ h4).1
  · rw [dk _ _ he] at h
    exact ⟨R',h,rfl,rfl⟩
theorem jC.Fo {S S':List (Nat × RT)} {r:Nat} {q:List Nat} {o:Nat} {t t':T} (hc:jC S S' r q o t t') {r':Nat} {R:RT} (h:lk S r'=some R):∃ R',lk S' r'=some R'∧R'.box=R.box∧R'.cs.length=R.cs.length:=by
  obtain ⟨R0,cs',l,h1,h2,h3,h4,rfl⟩:=hc.ex
  by_cases he:r'=r
  · subst he
    rw [h1,Option.some.injEq] at h
    subst h
    refine ⟨_,cm _ _ _,rfl,?_⟩
    cases q with
    | nil=>
      simp only [dn,Option.some.injEq] at h4
      subst h4; simp
    | cons p q=>exact (kQ h4).2
  · exact ⟨R,by rw [dk _ _ he]; exact h,rfl,rfl⟩
theorem A6 {st st':St} {S:List (Nat × RT)} (fA:gy st.rt S) {r:Nat} {q:List Nat} {o:Nat} {t t':T} {R:RT} {l:List T} (h1:lk S r=some R) (h2:au R.cs q=some l) (h3:l[o]?=some t) (h:st.gH r q o t'.er=some st'):
    ∃ S',jC S S' r q o t t'∧gy st'.rt S'∧st'.tm=st.tm∧st'.up=st.up∧st'.of=st.of:=by
  unfold St.gH at h
  rw [fA,h1] at h
  simp only [Option.map_some,Xf] at h
  obtain ⟨cs',h4⟩:=Im (f:=fun l=>l.set o t') h2
  rw [h4] at h
  simp only [Option.map_some,Option.some.injEq] at h
  subst h
  exact ⟨pt S r ⟨R.box,cs'⟩,⟨R,cs',l,h1,h2,h3,h4,rfl⟩,zq fA r ⟨R.box,cs'⟩,rfl,rfl,rfl⟩
theorem VK:∀ {a b:List T},a.Sublist b→(ae a).Sublist (ae b):=by
  intro a b h
  induction h with
  | slnil=>exact List.Sublist.refl _
  | cons x _ ih=>rw [ae]; exact ih.trans (List.sublist_append_right _ _)
  | cons_cons x _ ih=>rw [ae,ae]; exact List.Sublist.append (List.Sublist.refl _) ih
theorem Xq {w:World} {X:Bool→Nat→Prop} {s n cap:Nat} {a:Option (Nat × Nat)} {ts:List T} (hs:aZ w X (.own s n cap a ts)) {x:Option (Nat × Nat)} {u:Value} (hr:ey x (.own s n cap a ts) u):
    ∃ t:T,t.er=.sl none s (trim x s n (aP ts)).1 (trim x s n (aP ts)).2∧t.val=u∧aZ w X t∧t.ft.Sublist (T.own s n cap a ts).ft:=by
  cases x with
  | none=>
    simp only [ey,sn,T.er] at hr
    exact ⟨.own s n cap a ts,rfl,hr.symm,hs,List.Sublist.refl _⟩
  | some p=>
    obtain ⟨l,m⟩:=p
    simp only [ey,sn,T.er,T.val,tV,Value.slice.injEq] at hr
    obtain ⟨h1,base,C,k,⟨h2,_,h3⟩,h4,rfl,h5⟩:=hr
    subst h2; subst h3
    simp only [aZ] at hs
    obtain ⟨g1,g2,g3,g4⟩:=hs
    refine ⟨.own s m (cap - l) (a.map fun p=>(p.1,p.2+k*s)) ((ts.drop (l*s)).take (m*s)),?_,?_,?_,?_⟩
    · simp only [T.er,trim,xP,xQ]
    · simp only [T.val,tV,Option.map_map]
      congr 1
      cases a<;>simp [eH]
    · simp only [aZ]
      refine ⟨by omega,?_,?_,?_⟩
      · rw [List.length_take,List.length_drop,g2]
        have:l*s+m*s≤n*s:=by rw [← Nat.add_mul]; exact Nat.mul_le_mul_right _ h1
        omega
      · cases a with
        | none=>simp only at g3; simp only [Option.map_none]; omega
        | some p=>
          obtain ⟨b,off⟩:=p
          simp only [Option.map_some]
          obtain ⟨c,e,fz,k1,k2,k3,k4⟩:=g3
          refine ⟨c,e,fz,k1,k2,?_,?_⟩
          · rcases h5 with h5 | h5
            · rw [h5]
              have:k*s≤cap*s:=Nat.mul_le_mul_right _ h4
              omega
            · subst h5
              have:k*s+(cap - k)*s=cap*s:=by rw [← Nat.add_mul]; congr 1; omega
              omega
          · intro j u hj
            rw [cD,List.map_take,List.map_drop,← cD,List.getElem?_take] at hj
            split at hj
            · rename_i cR
              rw [List.getElem?_drop] at hj
              have hm:m≠0:=fun e=>by simp [e] at cR
              have:k=l:=by omega
              subst this
              rw [Nat.add_assoc]
              exact k4 _ _ hj
            · simp at hj
      · rw [bU] at g4 ⊢
        exact fun t ht=>g4 t (List.mem_of_mem_drop (List.mem_of_mem_take ht))
    · simp only [T.ft]
      refine List.Sublist.append ?_ (VK ((List.take_sublist _ _).trans (List.drop_sublist _ _)))
      cases a<;>exact List.Sublist.refl _
structure nX (S S':List (Nat × RT)):Prop where
  fwd:∀ r R,lk S r=some R→∃ R',lk S' r=some R'∧R'.box=R.box∧ay R'.cs=ay R.cs
theorem nX.refl (S:List (Nat × RT)):nX S S:=⟨fun _ R h=>⟨R,h,rfl,rfl⟩⟩
theorem nX.trans {S S' wP:List (Nat × RT)} (h:nX S S') (h':nX S' wP):nX S wP:=⟨fun r R hr=>by
  obtain ⟨R1,h1,h2,h3⟩:=h.fwd r R hr
  obtain ⟨R2,h4,h5,h6⟩:=h'.fwd r R1 h1
  exact ⟨R2,h4,h5.trans h2,h6.trans h3⟩⟩
theorem vP {C:Ctx} {w:World} {S S':List (Nat × RT)} {H H':List T} (hk:Kept C w S H) (ec:∀ k∈cr S'++ae H',k∈cr S++ae H) (hp:∀ r R',lk S' r=some R'→∃ R,lk S r=some R∧R'.box=R.box∧ay R'.cs=ay R.cs):Kept C w S' H':=
  ⟨hk.os,hk.tape,hk.output,hk.size,hk.block,fun k h=>hk.gT k (ec k h),fun r b vs hm R' hr=>by
    obtain ⟨R,h1,h2,h3⟩:=hp r R' hr
    have:=hk.par r b vs hm R h1
    rw [h2,h3]; exact this⟩
section
variable {C:Ctx} {H:List T} {w:World} {st st':St} {aB:List (Array Value)} {S:List (Nat × RT)}
theorem Co (h:Rel C H w st aB S) {d:D} {u:Value} (hu:Ext w (ad C w S H) d u) (hd:bj d=d):Rel C (.v d u::H) w st aB S:=by
  have hf:∀ b k,ad C w S H b k→ad C w S (.v d u::H) b k:=iP (by simp [ae,T.ft])
  have ch:∀ b k,ad C w S H b k→ad C w S (.v d u::H) b k∧w.heap[k]?=w.heap[k]?:=fun b k hh=>⟨hf b k hh,rfl⟩
  have dH:∀ d' u',aQ w (ad C w S H) S d' u'→aQ w (ad C w S (.v d u::H)) S d' u':=fun d' u' hh=>qx ch (fun _ _ h=>h) hh
  refine h.pH h.rt rfl rfl dH ⟨by simpa [ae,T.ft] using h.mem.nd,?_,?_,by simpa [ae,T.ft] using h.mem.lt⟩ (vP h.kept (by simp [ae,T.ft]) (fun r R' hr=>⟨R',hr,rfl,rfl⟩))
  · intro r R hR
    obtain ⟨h1,h2⟩:=h.mem.root r R hR
    refine ⟨h1,fun t ht=>?_⟩
    have:=h2 t ht
    cases t with
    | v d' u'=>
      rcases this with this | ⟨hb,this⟩
      · exact .inl (fN ch _ _ this)
      · exact .inr ⟨hb,dH _ _ this⟩
    | own s n cap a xs=>exact du ch _ this (fun _ _=>rfl)
  · simp only [ba,aZ]
    exact ⟨by rw [hd]; exact fN ch _ _ hu,fP ch _ h.mem.hand (fun _ _=>rfl)⟩
theorem rO (h:Rel C H w st aB S) {d d':D} {u:Value} (hu:aQ w (ad C w S H) S d u) (ht:iv st d=some (d',st')):
    ∃ t S',Rel C (t::H) w st' aB S'∧t.er=d'∧t.val=u∧(∀ d u,aQ w (ad C w S H) S d u→aQ w (ad C w S' (t::H)) S' d u)∧nX S S'∧(st'.tm=st.tm∧st'.up=st.up∧st'.of=st.of)∧(∀ r q o x,d=.ref r q o x→∃ d0 u0,(sn d0).isSome=true∧bj d0=d0∧cd S' r q o=some (.v d0 u0)∧(x=none→j7 (.v d0 u0) t)):=by
  have plain:∀ {d:D},Ext w (ad C w S H) d u→bj d=d→∃ t S',Rel C (t::H) w st aB S'∧t.er=d∧t.val=u∧(∀ d u,aQ w (ad C w S H) S d u→aQ w (ad C w S' (t::H)) S' d u)∧nX S S'∧(st.tm=st.tm∧st.up=st.up∧st.of=st.of)∧S=S':=by
    intro d hu hd
    refine ⟨.v d u,S,Co h hu hd,hd,rfl,fun d' u' hh=>qx (fun b k hh=>⟨iP (by simp [ae,T.ft]) b k hh,rfl⟩) (fun _ _ h=>h) hh,nX.refl _,⟨rfl,rfl,rfl⟩,rfl⟩
  have xX:∀ {d:D},(∀ r q o x,d≠.ref r q o x)→Ext w (ad C w S H) d u→bj d=d→∃ t S',Rel C (t::H) w st aB S'∧t.er=d∧t.val=u∧(∀ d u,aQ w (ad C w S H) S d u→aQ w (ad C w S' (t::H)) S' d u)∧nX S S'∧(st.tm=st.tm∧st.up=st.up∧st.of=st.of)∧(∀ r q o x,d=.ref r q o x→∃ d0 u0,(sn d0).isSome=true∧bj d0=d0∧cd S' r q o=some (.v d0 u0)∧(x=none→j7 (.v d0 u0) t)):=by
    intro d hn hu hd
    obtain ⟨t,S',a1,a2,a3,a4,a5,a6,_⟩:=plain hu hd
    exact ⟨t,S',a1,a2,a3,a4,a5,a6,fun r q o x e=>absurd e (hn r q o x)⟩
  cases d with
  | int k n=>simp only [iv,Option.some.injEq,Prod.mk.injEq] at ht; obtain ⟨rfl,rfl⟩:=ht; exact xX (by simp) hu rfl
  | bool b=>simp only [iv,Option.some.injEq,Prod.mk.injEq] at ht; obtain ⟨rfl,rfl⟩:=ht; exact xX (by simp) hu rfl
  | str s=>simp only [iv,Option.some.injEq,Prod.mk.injEq] at ht; obtain ⟨rfl,rfl⟩:=ht; exact xX (by simp) hu rfl
  | undef=>simp only [iv,Option.some.injEq,Prod.mk.injEq] at ht; obtain ⟨rfl,rfl⟩:=ht; exact xX (by simp) hu rfl
  | hole s n=>
    simp only [iv,Option.some.injEq,Prod.mk.injEq] at ht; obtain ⟨rfl,rfl⟩:=ht
    obtain ⟨t,S',a1,a2,a3,a4,a5,a6,_⟩:=plain (d:=.undef) (by simp [Ext]) rfl
    exact ⟨t,S',a1,a2,a3,a4,a5,a6,by simp⟩
  | sl g s n cs=>
    simp only [iv,Option.some.injEq,Prod.mk.injEq] at ht; obtain ⟨rfl,rfl⟩:=ht
    cases g with
    | none=>exact absurd hu (by simp [aQ,Ext])
    | some g=>exact xX (by simp) hu rfl
  | nil s=>
    simp only [iv,Option.some.injEq,Prod.mk.injEq] at ht; obtain ⟨rfl,rfl⟩:=ht
    have hu':u=.slice none 0 0:=hu
    subst hu'
    have ez:(T.own s 0 0 none []).ft=[]:=rfl
    have hf:∀ b k,ad C w S H b k→ad C w S (.own s 0 0 none []::H) b k:=iP (by simp [ae,ez])
    have ch:∀ b k,ad C w S H b k→ad C w S (.own s 0 0 none []::H) b k∧w.heap[k]?=w.heap[k]?:=fun b k hh=>⟨hf b k hh,rfl⟩
    have dH:∀ d' u',aQ w (ad C w S H) S d' u'→aQ w (ad C w S (.own s 0 0 none []::H)) S d' u':=fun d' u' hh=>qx ch (fun _ _ h=>h) hh
    refine ⟨.own s 0 0 none [],S,?_,rfl,rfl,dH,nX.refl _,⟨rfl,rfl,rfl⟩,by simp⟩
    refine h.pH h.rt rfl rfl dH ⟨by simpa [ae,ez] using h.mem.nd,?_,?_,by simpa [ae,ez] using h.mem.lt⟩ (vP h.kept (by simp [ae,ez]) (fun r R' hr=>⟨R',hr,rfl,rfl⟩))
    · intro r R hR
      obtain ⟨h1,h2⟩:=h.mem.root r R hR
      refine ⟨h1,fun t ht=>?_⟩
      have:=h2 t ht
      cases t with
      | v d' u'=>
        rcases this with this | ⟨hb,this⟩
        · exact .inl (fN ch _ _ this)
        · exact .inr ⟨hb,dH _ _ this⟩
      | own s n cap a xs=>exact du ch _ this (fun _ _=>rfl)
    · simp only [ba,aZ]
      exact ⟨by simp,fP ch _ h.mem.hand (fun _ _=>rfl)⟩
  | ref r q o x=>
    simp only [iv] at ht
    split at ht
    · rename_i s n cs hc
      split at ht
      case h_2=>simp at ht
      rename_i aE ir
      simp only [Option.some.injEq,Prod.mk.injEq] at ht
      obtain ⟨rfl,rfl⟩:=ht
      obtain ⟨R,l,t0,h1,h2,h3,h4,h5⟩:=hM h.rt hc
      obtain ⟨cap,a,ts,rfl,rfl⟩:=B7 h5.symm
      have Cn:=h.mem
      have dK:aZ w (ad C w S H) (.own s n cap a ts):=by
        obtain ⟨_,g2⟩:=Cn.root r R h1
        cases q with
        | nil=>
          simp only [au,Option.some.injEq] at h2
          subst h2
          exact g2 _ (List.mem_of_getElem? h3)
        | cons p q=>
          rw [au] at h2
          cases hp:R.cs[p]? with
          | none=>simp [hp] at h2
          | some y=>
            cases y with
            | v d u=>simp [hp] at h2
            | own s' n' rb a' jw=>
              simp only [hp] at h2
              have hs:aZ w (ad C w S H) (.own s' n' rb a' jw):=g2 _ (List.mem_of_getElem? hp)
              simp only [aZ] at hs
              exact fo (tW hs.2.2.2 h2) h3
      obtain ⟨t,e1,e2,e3,e4⟩:=Xq dK (hu _ h4)
      obtain ⟨S',A7,acq,Xr,Xs,acr⟩:=A6 (t':=.v (.hole s n) (T.own s n cap a ts).val) h.rt h1 h2 h3 ir
      obtain ⟨A,B,f1,f2⟩:=A7.Xl
      simp only [T.ft,List.append_nil] at f2
      have ec:∀ k∈cr S'++ae (t::H),k∈cr S++ae H:=by
        intro k hk
        rw [f1]
        rw [f2] at hk
        simp only [ae,List.mem_append] at hk ⊢
        rcases hk with (hk | hk) | (hk | hk)
        · exact .inl (.inl (.inl hk))
        · exact .inl (.inr hk)
        · exact .inl (.inl (.inr (e4.mem hk)))
        · exact .inr hk
      have eT:(cr S'++ae (t::H)).Nodup:=by
        have h0:=Cn.nd
        rw [f1] at h0
        rw [f2]
        have p1:(A++(T.own s n cap a ts).ft++B++ae H).Perm (A++B++((T.own s n cap a ts).ft++ae H)):=by
          simp only [List.append_assoc]
          refine List.Perm.append_left A ?_
          rw [← List.append_assoc,← List.append_assoc]
          exact List.Perm.append_right _ List.perm_append_comm
        have h00:=p1.nodup_iff.1 h0
        refine List.Nodup.sublist ?_ h00
        simp only [ae]
        exact List.Sublist.append (List.Sublist.refl _) (List.Sublist.append e4 (List.Sublist.refl _))
      have ch:iE w w (ad C w S H) (ad C w S' (t::H)):=fun b k hh=>⟨iP ec b k hh,rfl⟩
      have dH:∀ d u,aQ w (ad C w S H) S d u→aQ w (ad C w S' (t::H)) S' d u:=fun d u hh=>Iy ch A7 (.inr ⟨rfl,fun p h=>by simpa [T.er,bj,sn] using h⟩) hh
      have cQ:Mem C w S' (t::H):=Lz Cn (SR.refl S) A7 rfl (.inl (by simp [aZ,bj,Ext])) eT ec (by
          simp only [ba]
          exact ⟨du ch _ e3 (fun _ _=>rfl),fP ch _ Cn.hand (fun _ _=>rfl)⟩) dH (fun d u hh=>fN ch _ _ hh)
      exact ⟨t,S',h.pH acq Xr Xs dH cQ (vP h.kept ec (fun r R' hr=>A7.par rfl hr)),e1,e2,dH,⟨fun r R hr=>by
        obtain ⟨R',k1,k2,k3⟩:=A7.Fo hr
        obtain ⟨R0,k4,k5,k6⟩:=A7.par rfl k1
        rw [hr,Option.some.injEq] at k4
        subst k4
        exact ⟨R',k1,k2,k6⟩⟩,⟨Xr,Xs,acr⟩,fun r' q' o' x' he=>by
        simp only [D.ref.injEq] at he
        obtain ⟨rfl,rfl,rfl,rfl⟩:=he
        refine ⟨_,_,rfl,rfl,A7.A4,fun hx=>⟨?_,fun p he=>?_⟩⟩
        · subst hx
          have:=hu _ h4
          simp only [ey,sn,T.er] at this
          rw [e2,this]; rfl
        · subst hx
          rw [e1] at he
          simpa [T.er,bj,sn,trim] using he⟩
    · rename_i g s n cs hc
      simp only [Option.some.injEq,Prod.mk.injEq] at ht
      obtain ⟨rfl,rfl⟩:=ht
      obtain ⟨R,l,t0,h1,h2,h3,h4,h5⟩:=hM h.rt hc
      have Cn:=h.mem
      have dK:aZ w (ad C w S H) t0:=by
        obtain ⟨_,g2⟩:=Cn.root r R h1
        cases q with
        | nil=>
          simp only [au,Option.some.injEq] at h2
          subst h2
          have:=g2 _ (List.mem_of_getElem? h3)
          cases t0 with
          | own s n cap a xs=>exact this
          | v d u=>
            rcases this with h3 | ⟨_,h3⟩
            · exact h3
            · simp only [T.er] at h5
              simp only [aZ]
              rw [← h5] at h3 ⊢
              exact h3
        | cons p q=>
          rw [au] at h2
          cases hp:R.cs[p]? with
          | none=>simp [hp] at h2
          | some y=>
            cases y with
            | v d u=>simp [hp] at h2
            | own s' n' rb a' jw=>
              simp only [hp] at h2
              have hs:aZ w (ad C w S H) (.own s' n' rb a' jw):=g2 _ (List.mem_of_getElem? hp)
              simp only [aZ] at hs
              exact fo (tW hs.2.2.2 h2) h3
      have jn:t0.ft=[]:=by
        cases t0 with
        | v d u=>rfl
        | own s' n' cap a ts=>simp [T.er] at h5
      have:=zr (X':=ad C w S H) (fun _ _ h=>h) false h5.symm dK (by simp [jn]) (hu _ h4)
      obtain ⟨t,S',a1,a2,a3,a4,a5,a6,a7⟩:=plain this rfl
      refine ⟨t,S',a1,a2,a3,a4,a5,a6,fun r' q' o' x' he=>?_⟩
      simp only [D.ref.injEq] at he
      obtain ⟨rfl,rfl,rfl,rfl⟩:=he
      cases t0 with
      | own s' n' cap a ts=>simp [T.er] at h5
      | v d0 u0=>
        simp only [T.er] at h5
        have Xt:d0=.sl (some g) s n cs:=by
          cases d0 with
          | sl g0 s0 n0 cs0=>
            cases g0 with
            | none=>simp [bj] at h5
            | some g0=>exact h5.symm
          | _=>simp [bj] at h5
        subst Xt
        refine ⟨_,u0,rfl,rfl,a7▸h4,fun hx=>⟨?_,fun p he=>?_⟩⟩
        · subst hx
          have:=hu _ h4
          simp only [ey,sn,T.er,bj] at this
          rw [a3]; exact this
        · subst hx
          rw [a2] at he
          simpa [gS,trim,sn,T.er,bj] using he
    · simp at ht
  | _=>simp [iv] at ht
end
end Go.Proofs.Ytockoilcnmljiaa
namespace Go.Proofs.Ytockoilcnmljiaa
theorem oH (r:Nat):j8 (cj r):=
  ⟨fun _ _ _ _=>rfl,fun _ _=>rfl,fun d h=>by cases d<;>simp only [cj]<;>first | rfl | (split<;>rfl) | exact h⟩
theorem MJ (r:Nat):j8 (dY r):=
  ⟨fun _ _ _ _=>rfl,fun _ _=>rfl,fun d h=>by
    cases d with
    | ref r' q o x=>simp only [dY]; split<;>rfl
    | ptr r' q o=>cases q<;>simp only [dY]<;>first | rfl | (split<;>rfl)
    | _=>exact h⟩
theorem kT (r:Nat) (q:List Nat) (o:Nat) (e:Bool):j8 (cb r q o e):=
  ⟨fun _ _ _ _=>rfl,fun _ _=>rfl,fun d h=>by
    cases d with
    | ref r' q' o' x=>
      simp only [cb]
      split
      · split
        · rfl
        · split<;>rfl
        · rfl
      · rfl
    | ptr r' q' o'=>
      simp only [cb]
      split
      · split<;>rfl
      · rfl
    | _=>exact h⟩
theorem xY (r:Nat) (q:List Nat) (o r1:Nat) (q1:List Nat) (o1:Nat):j8 (py r q o r1 q1 o1):=
  ⟨fun _ _ _ _=>rfl,fun _ _=>rfl,fun d h=>by
    cases d with
    | ref r' q' o' x=>
      simp only [py]
      split
      · split<;>rfl
      · rfl
    | ptr r' q' o'=>
      simp only [py]
      split
      · split<;>rfl
      · rfl
    | _=>exact h⟩
theorem pJ {g:D→D} (hg:j8 g) (hs:∀ d,g d=d∨(∃ r q o x,d=.ref r q o x)∨∃ r q o,d=.ptr r q o) {w:World} {X:Bool→Nat→Prop} {d:D} {u:Value} (h:Ext w X d u):Ext w X (eO g d) u:=by
  rcases hs d with h1 | ⟨r,q,o,x,rfl⟩ | ⟨r,q,o,rfl⟩
  · cases d<;>first | (simp only [eO,h1]; exact h) | (simp [Ext] at h)
  · simp [Ext] at h
  · simp [Ext] at h
theorem MK (r:Nat) (d:D):cj r d=d∨(∃ r q o x,d=.ref r q o x)∨∃ r q o,d=.ptr r q o:=by
  cases d<;>first | exact .inl rfl | exact .inr (.inl ⟨_,_,_,_,rfl⟩) | exact .inr (.inr ⟨_,_,_,rfl⟩)
theorem ML (r:Nat) (d:D):dY r d=d∨(∃ r q o x,d=.ref r q o x)∨∃ r q o,d=.ptr r q o:=by
  cases d<;>first | exact .inl rfl | exact .inr (.inl ⟨_,_,_,_,rfl⟩) | exact .inr (.inr ⟨_,_,_,rfl⟩)
theorem vQ (r:Nat) (q:List Nat) (o:Nat) (e:Bool) (d:D):cb r q o e d=d∨(∃ r q o x,d=.ref r q o x)∨∃ r q o,d=.ptr r q o:=by
  cases d<;>first | exact .inl rfl | exact .inr (.inl ⟨_,_,_,_,rfl⟩) | exact .inr (.inr ⟨_,_,_,rfl⟩)
theorem rP {w:World} {X:Bool→Nat→Prop} {S:List (Nat × RT)} {g:D→D} {d:D} {u:Value} (h:aQ w X S d u):eO g d=g d:=by
  cases d<;>first | rfl | (simp [aQ,Ext] at h)
section
variable {C:Ctx} {H Hs:List T} {w w':World} {st:St} {aB:List (Array Value)} {S:List (Nat × RT)}
theorem TQ {S:List (Nat × RT)} {k:Nat} (r:RT):∃ A B bQ,cr S=A++bQ++B∧cr (pt S k r)=A++r.ft++B:=by
  cases h:lk S k with
  | none=>exact ⟨cr S,[],[],by simp,by rw [ME h]; simp⟩
  | some R=>
    obtain ⟨A,B,h1,h2⟩:=kt h
    exact ⟨A,B,R.ft,h1,h2 r⟩
theorem IB (h:Rel C (Hs++H) w st aB S) {r:Nat} {R:RT} (ez:∀ k∈R.ft,k∈ae Hs∨w.heap.size≤k):
    ∀ k∈cr (pt (fS (cj r) S) r R)++ae H,k∈cr S++ae (Hs++H)∨w.heap.size≤k:=by
  obtain ⟨A,B,bQ,f1,f2⟩:=TQ (S:=fS (cj r) S) (k:=r) R
  rw [rF] at f1
  intro k hk
  rw [f2] at hk
  rw [f1,aO]
  simp only [List.mem_append] at hk ⊢
  rcases hk with ((hk | hk) | hk) | hk
  · exact .inl (.inl (.inl (.inl hk)))
  · rcases ez k hk with h2 | h2
    · exact .inl (.inr (.inl h2))
    · exact .inr h2
  · exact .inl (.inl (.inr hk))
  · exact .inl (.inr (.inr hk))
theorem mI (h:Rel C (Hs++H) w st aB S) {r:Nat} {R:RT} (ez:∀ k∈R.ft,k∈ae Hs∨w.heap.size≤k) (cE:w.heap.size≤w'.heap.size) (hold:∀ k,k < w.heap.size→w'.heap[k]?=w.heap[k]?):
    iE w w' (ad C w S (Hs++H)) (ad C w' (pt (fS (cj r) S) r R) H):=by
  have ec:=IB (r:=r) h ez
  intro b k hk
  refine ⟨⟨by have:=hk.1; omega,fun hx=>?_,fun hx=>?_,hk.2.2.2⟩,hold k hk.1⟩
  · rcases ec k (List.mem_append.2 (.inl hx)) with h2 | h2
    · rcases List.mem_append.1 h2 with h3 | h3
      · exact hk.2.1 h3
      · exact hk.2.2.1 h3
    · have:=hk.1; omega
  · rcases ec k (List.mem_append.2 (.inr hx)) with h2 | h2
    · rcases List.mem_append.1 h2 with h3 | h3
      · exact hk.2.1 h3
      · exact hk.2.2.1 h3
    · have:=hk.1; omega
theorem Cp (h:Rel C (Hs++H) w st aB S) {r:Nat} {R:RT} (ez:∀ k∈R.ft,k∈ae Hs∨w.heap.size≤k) (cE:w.heap.size≤w'.heap.size) (hold:∀ k,k < w.heap.size→w'.heap[k]?=w.heap[k]?):
    ∀ d u,aQ w (ad C w S (Hs++H)) S d u→aQ w' (ad C w' (pt (fS (cj r) S) r R) H) (pt (fS (cj r) S) r R) (cj r d) u:=
  fun _ _ hd=>Rl (mI h ez cE hold) rfl (oG (oH r) hd)
theorem vR (h:Rel C (Hs++H) w st aB S) {r:Nat} {R:RT} (hR:Ip w' (ad C w' (pt (fS (cj r) S) r R) H) (pt (fS (cj r) S) r R) R)
    (ez:R.ft.Nodup∧∀ k∈R.ft,k∈ae Hs∨w.heap.size≤k) (cR:∀ k∈R.ft,k < w'.heap.size) (cE:w.heap.size≤w'.heap.size) (hold:∀ k,k < w.heap.size→w'.heap[k]?=w.heap[k]?)
    (lK:w'.os=w.os) (rG:w'.tape=w.tape) (sv:w'.output=w.output) (hP:∀ p∈C.P0,p.1≠r):
    Rel C H w' { st.eG (cj r) with rt:=pz (st.eG (cj r)).rt r (aP R.cs) } aB (pt (fS (cj r) S) r R)∧
    ∀ d u,aQ w (ad C w S (Hs++H)) S d u→aQ w' (ad C w' (pt (fS (cj r) S) r R) H) (pt (fS (cj r) S) r R) (cj r d) u:=by
  obtain ⟨A,B,bQ,f1,f2⟩:=TQ (S:=fS (cj r) S) (k:=r) R
  rw [rF] at f1
  have ec:=IB (r:=r) h ez.2
  have ch:=mI (r:=r) h ez.2 cE hold
  have dH:=Cp (r:=r) h ez.2 cE hold
  have eT:(cr (pt (fS (cj r) S) r R)++ae H).Nodup:=by
    have h0:=h.mem.nd
    rw [f1,aO] at h0
    rw [f2]
    have Xu:=h.mem.lt
    rw [f1,aO] at Xu
    simp only [List.nodup_append,List.mem_append] at h0 ⊢
    obtain ⟨⟨⟨a1,a2,a3⟩,a4,a5⟩,⟨b1,b2,b3⟩,c⟩:=h0
    have new:∀ x,x∈R.ft→∀ y,(y∈A∨y∈B∨y∈ae H)→x≠y:=by
      intro x hx y hy e
      subst e
      rcases ez.2 x hx with h2 | h2
      · rcases hy with hy | hy | hy
        · exact c x (.inl (.inl hy)) x (.inl h2) rfl
        · exact c x (.inr hy) x (.inl h2) rfl
        · exact b3 x h2 x hy rfl
      · have:x < w.heap.size:=Xu x (by
          simp only [List.mem_append]
          rcases hy with hy | hy | hy
          · exact .inl (.inl (.inl hy))
          · exact .inl (.inr hy)
          · exact .inr (.inr hy))
        omega
    refine ⟨⟨⟨a1,ez.1,fun x hx y hy e=>new y hy x (.inl hx) e.symm⟩,a4,?_⟩,b2,?_⟩
    · intro x hx y hy e
      rcases hx with hx | hx
      · exact a5 x (.inl hx) y hy e
      · exact new x hx y (.inr (.inl hy)) e
    · intro x hx y hy e
      rcases hx with (hx | hx) | hx
      · exact c x (.inl (.inl hx)) y (.inr hy) e
      · exact new x hx y (.inr (.inr hy)) e
      · exact c x (.inr hx) y (.inr hy) e
  refine ⟨h.step (f:=cj r) ?_ rfl rfl dH ⟨eT,?_,?_,?_⟩ ⟨by rw [lK]; exact h.kept.os,by rw [rG]; exact h.kept.tape,by rw [sv]; exact h.kept.output,Nat.le_trans h.kept.size cE,?_,?_,?_⟩,dH⟩
  · exact zq (nE (oH r) h.rt) r R
  · intro r' R' eb
    by_cases he:r'=r
    · subst he
      rw [cm,Option.some.injEq] at eb
      subst eb
      exact hR
    · rw [dk _ _ he,kg] at eb
      cases hx:lk S r' with
      | none=>simp [hx] at eb
      | some R0=>
        simp only [hx,Option.map_some,Option.some.injEq] at eb
        subst eb
        obtain ⟨k1,k2⟩:=h.mem.root r' R0 hx
        have kv:∀ k∈R0.ft,k∈cr S:=by
          intro k hk
          obtain ⟨A',B',e1,_⟩:=kt hx
          rw [e1]; simp [hk]
        refine ⟨?_,?_⟩
        · simp only [List.length_map]
          have hv:ay (R0.cs.map (fT (cj r)))=ay R0.cs:=by
            rw [cD,cD,List.map_map]
            congr 1
            funext t
            cases t<;>rfl
          rw [hv]
          cases hb:R0.box with
          | none=>trivial
          | some b=>
            simp only [hb] at k1 ⊢
            obtain ⟨c,e,fz,g1,g2⟩:=k1
            have TR:b < w.heap.size:=h.mem.lt b (List.mem_append.2 (.inl (kv b (by simp [RT.ft,hb]))))
            exact ⟨c,e,fz,by rw [hold b TR]; exact g1,g2⟩
        · intro t ht
          simp only [List.mem_map] at ht
          obtain ⟨t0,jD,rfl⟩:=ht
          have:=k2 t0 jD
          cases t0 with
          | v d u=>
            simp only [fT,ix] at this ⊢
            rw [(oH r).leaf]
            rcases this with this | ⟨hb,this⟩
            · exact .inl (pJ (oH r) (MK r) (fN ch _ _ this))
            · exact .inr ⟨hb,by rw [rP this]; exact dH _ _ this⟩
          | own s n cap a xs=>
            simp only [fT]
            refine du ch _ this (fun k hk=>hold k (h.mem.lt k (List.mem_append.2 (.inl (kv k ?_)))))
            obtain ⟨i,hi⟩:=List.mem_iff_getElem?.1 jD
            obtain ⟨A',B',e1,_⟩:=dB R0.cs i _ hi
            rw [RT.ft,e1]; simp [hk]
  · have:=h.mem.hand
    rw [dv] at this
    refine fP ch _ this.2 (fun k hk=>hold k (h.mem.lt k ?_))
    rw [aO]; simp [hk]
  · intro k hk
    rw [f2] at hk
    simp only [List.mem_append] at hk
    have hl:=h.mem.lt k
    rw [f1,aO] at hl
    simp only [List.mem_append] at hl
    rcases hk with ((hk | hk) | hk) | hk
    · have:=hl (.inl (.inl (.inl hk))); omega
    · exact cR k hk
    · have:=hl (.inl (.inr hk)); omega
    · have:=hl (.inr (.inr hk)); omega
  · intro k hk hf
    rw [hold k (by have:=h.kept.size; omega)]
    exact h.kept.block k hk hf
  · intro k hk
    rcases ec k hk with h2 | h2
    · exact h.kept.gT k h2
    · have:=h.kept.size
      exact .inr (by omega)
  · intro r' b vs hm R' eb
    have cK:=hP _ hm
    rw [dk _ _ cK,kg] at eb
    cases hx:lk S r' with
    | none=>simp [hx] at eb
    | some R0=>
      simp only [hx,Option.map_some,Option.some.injEq] at eb
      subst eb
      obtain ⟨g1,g2⟩:=h.kept.par r' b vs hm R0 hx
      refine ⟨g1,fun hb=>?_⟩
      rw [← g2 hb]
      simp only [cD,List.map_map]
      congr 1
      funext t
      cases t<;>rfl
end
end Go.Proofs.Ytockoilcnmljiaa
namespace Go.Proofs.Ytockoilcnmljiaa
def oI:T→List Nat→Option T
  | t,[]=>some t
  | .own _ _ _ _ cs,o::q=>match cs[o]? with
    | some t=>oI t q
    | none=>none
  | _,_::_=>none
theorem Ok (y:List Nat):∀ t:T,AU t.er y=(oI t y).map T.er:=by
  induction y with
  | nil=>intro t; cases t<;>simp [AU,oI]
  | cons o q ih=>
    intro t
    cases t with
    | v d u=>
      simp only [T.er,oI,Option.map_none]
      cases d with
      | sl g s n cs=>cases g<;>simp [bj,AU]
      | _=>simp [bj,AU]
    | own s n cap a cs=>
      simp only [T.er,AU,oI,gL]
      cases cs[o]? with
      | none=>rfl
      | some t=>simp [ih]
theorem VL {w:World} {X:Bool→Nat→Prop} (y:List Nat):∀ {t t2:T},aZ w X t→oI t y=some t2→aZ w X t2∧∀ k∈t2.ft,k∈t.ft:=by
  induction y with
  | nil=>
    intro t t2 hs h
    have:t2=t:=by cases t<;>simpa [oI] using h.symm
    subst this
    exact ⟨hs,fun _ h=>h⟩
  | cons o q ih=>
    intro t t2 hs h
    cases t with
    | v d u=>simp [oI] at h
    | own s n cap a cs=>
      simp only [oI] at h
      cases hc:cs[o]? with
      | none=>simp [hc] at h
      | some t1=>
        simp only [hc] at h
        simp only [aZ] at hs
        obtain ⟨h1,h2⟩:=ih (fo hs.2.2.2 hc) h
        refine ⟨h1,fun k hk=>?_⟩
        obtain ⟨A,B,e,_⟩:=dB cs o _ hc
        simp [T.ft,e,h2 k hk]
theorem Ol (y:List Nat):∀ {t:T} {cs:List T} {o:Nat},cs[o]?=some t→∀ {q':List Nat} {o':Nat},q'++[o']=o::y→(match au cs q' with | some l=>l[o']? | none=>none)=oI t y:=by
  induction y with
  | nil=>
    intro t cs o ho q' o' he
    cases q' with
    | nil=>
      simp only [List.nil_append,List.cons.injEq,and_true] at he
      subst he
      simp only [au,ho]
      cases t<;>rfl
    | cons p q'=>simp at he
  | cons z y ih=>
    intro t cs o ho q' o' he
    cases q' with
    | nil=>simp at he
    | cons p q'=>
      simp only [List.cons_append,List.cons.injEq] at he
      obtain ⟨rfl,he⟩:=he
      simp only [au,ho]
      cases t with
      | v d u=>rfl
      | own s n cap a xs=>
        simp only [oI]
        cases hz:xs[z]? with
        | none=>
          simp only
          cases q' with
          | nil=>
            simp only [List.nil_append,List.cons.injEq] at he
            obtain ⟨rfl,_⟩:=he
            simp [au,hz]
          | cons p' q''=>
            simp only [List.cons_append,List.cons.injEq] at he
            obtain ⟨rfl,_⟩:=he
            simp [au,hz]
        | some t1=>exact ih hz he
theorem Rp {q:List Nat} {o:Nat} {y:List Nat} {t:T}:∀ {cs l:List T},au cs q=some l→l[o]?=some t→∀ {q':List Nat} {o':Nat},under (q++[o]) (q'++[o'])=some y→(match au cs q' with | some l=>l[o']? | none=>none)=oI t y:=by
  induction q with
  | nil=>
    intro cs l hc ho q' o' hu
    simp only [au,Option.some.injEq] at hc
    subst hc
    have:=iD hu
    simp only [List.nil_append,List.singleton_append] at this
    exact Ol y ho this
  | cons p q ih=>
    intro cs l hc ho q' o' hu
    rw [au] at hc
    cases hp:cs[p]? with
    | none=>simp [hp] at hc
    | some x=>
      cases x with
      | v d u=>simp [hp] at hc
      | own s n cap a xs=>
        simp only [hp] at hc
        cases q' with
        | nil=>have:=iD hu; simp at this
        | cons p' q'=>
          simp only [List.cons_append,under] at hu
          split at hu
          · rename_i e
            subst e
            simp only [au,hp]
            exact ih hc ho hu
          · simp at hu
section
variable {w w':World} {X X':Bool→Nat→Prop} {S S1 S':List (Nat × RT)} (hX:iE w w' X X')
include hX
theorem VM {r:Nat} {q:List Nat} {o:Nat} {t t':T} (hc:jC S S' r q o t t') (hs:aZ w X t) (hf:∀ k∈t.ft,X' false k∧w'.heap[k]?=w.heap[k]?) {d:D} {u:Value} (h:aQ w X S d u):aQ w' X' S' (r8 r q o t.er d) u:=by
  cases d with
  | ref r' q' o' x=>
    simp only [r8]
    split
    · rename_i hr
      subst hr
      cases hu:under (q++[o]) (q'++[o']) with
      | none=>
        simp only
        intro t2 h2
        obtain ⟨t1,h1,hl⟩:=hc.su (.inr hu) h2
        exact jB hl (h t1 h1)
      | some y=>
        simp only
        obtain ⟨R,cs',l,h1,h2,h3,h4,rfl⟩:=hc.ex
        have cx:cd S r' q' o'=oI t y:=by
          unfold cd
          rw [h1]
          exact Rp h2 h3 hu
        cases hd:oI t y with
        | none=>rw [Ok,hd]; simp [aQ,Ext]
        | some t2=>
          rw [Ok,hd]
          simp only [Option.map_some]
          cases he:t2.er with
          | sl g s n cs=>
            simp only
            obtain ⟨g1,g2⟩:=VL y hs hd
            have hr:=h t2 (by rw [cx,hd])
            have sq:aZ w' X' t2:=du hX _ g1 (fun k hk=>(hf k (g2 k hk)).2)
            exact fF (zr (X':=X') (fun _ _ h=>h) false he sq (fun k hk=>(hf k (g2 k hk)).1) hr)
          | _=>simp [aQ,Ext]
    · rename_i hr
      intro t2 h2
      obtain ⟨t1,h1,hl⟩:=hc.su (.inl hr) h2
      exact jB hl (h t1 h1)
  | ptr r' q' o'=>exact vN hX hc (ex:=true) (by simp) h
  | dt cs o'=>exact mH hX h
  | _=>simp only [r8]; exact vN hX hc (ex:=true) (by simp) h
end
section
variable {C:Ctx} {H H':List T} {w w':World} {S S1 S':List (Nat × RT)}
theorem Om (hm:Mem C w S H) {g:D→D} (hS:SR g S S1) {r:Nat} {q:List Nat} {o:Nat} {t t':T} (hc:jC S1 S' r q o t t') {R0:RT} (TS:lk S r=some R0) {b off:Nat} (xZ:q=[]→R0.box=some b∧off=0) (hq:q≠[]→bI R0.box R0.cs q=some (b,off)) (hu:Lt w w' b (off+o) t'.val)
    (hs:aZ w' (ad C w' S' H') t'∨∃ d u,t'=.v d u∧q=[]∧aQ w' (ad C w' S' H') S' (bj d) u) (ch:iE w w' (ad C w S H) (ad C w' S' H'))
    (eT:(cr S'++ae H').Nodup) (ec:∀ k∈cr S'++ae H',k∈cr S++ae H) (hh:ba w' (ad C w' S' H') H') (dH:∀ d u,aQ w (ad C w S H) S d u→aQ w' (ad C w' S' H') S' (g d) u) (xW:∀ d u,Ext w' (ad C w' S' H') d u→Ext w' (ad C w' S' H') (g d) u) (cE:w'.heap.size=w.heap.size):Mem C w' S' H':=by
  have Aj:b∈R0.ft:=by
    cases q with
    | nil=>obtain ⟨h1,_⟩:=xZ rfl; simp [RT.ft,h1]
    | cons p q=>simp [RT.ft,pF (hq (by simp))]
  obtain ⟨A0,B0,f1,_⟩:=kt TS
  have Xv:=hm.nd
  rw [f1] at Xv
  have TT:∀ {r1:Nat} {R1:RT},lk S r1=some R1→r1≠r→∀ k∈R1.ft,k≠b:=by
    intro r1 R1 h1 cK k hk e
    subst e
    obtain ⟨A1,B1,e1,e2⟩:=kt TS
    have hx:lk (pt S r ⟨none,[]⟩) r1=some R1:=by rw [dk _ _ cK]; exact h1
    obtain ⟨A2,B2,e3,_⟩:=kt hx
    have cQ:k∈cr (pt S r ⟨none,[]⟩):=by rw [e3]; simp [hk]
    have h0:(RT.mk none []).ft=[]:=rfl
    rw [e2,h0] at cQ
    have hn:=hm.nd
    rw [e1] at hn
    simp only [List.append_nil,List.mem_append,List.nodup_append] at cQ hn
    rcases cQ with cQ | cQ
    · exact hn.1.1.2.2 k cQ k Aj rfl
    · exact hn.1.2.2 k (.inr Aj) k cQ rfl
  have aab:∀ t0:T,aZ w (ad C w S H) t0→b∉t0.ft→aZ w' (ad C w' S' H') t0:=fun t0 h0 hb=>du ch _ h0 (fun k hk=>by
    obtain ⟨_,_,_,_,_,h3⟩:=hu
    exact h3 k (fun e=>hb (e▸hk)))
  have cell:∀ {bx:Bool} {t0 t1:T},ix w (ad C w S H) S bx t0→GT g t0 t1→b∉t0.ft→ix w' (ad C w' S' H') S' bx t1:=by
    intro bx t0 t1 h0 hg hb
    rcases hg with ⟨d,d1,u,rfl,rfl,he⟩ | ⟨⟨s,n,cap,a,xs,rfl⟩,rfl⟩
    · simp only [ix] at h0 ⊢
      rw [he]
      rcases h0 with h0 | ⟨hb,h0⟩
      · exact .inl (xW _ _ (fN ch _ _ h0))
      · exact .inr ⟨hb,dH _ _ h0⟩
    · exact aab _ h0 hb
  refine ⟨eT,?_,hh,fun k hk=>by rw [cE]; exact hm.lt k (ec k hk)⟩
  intro r' R' dQ
  obtain ⟨R1,cs',l,h1,h2,h3,h4,rfl⟩:=hc.ex
  by_cases he:r'=r
  · subst he
    rw [cm,Option.some.injEq] at dQ
    subst dQ
    obtain ⟨R,g1,g2,g3,g4,g5⟩:=hS.pI h1
    rw [TS,Option.some.injEq] at g1
    subst g1
    obtain ⟨k1,k2⟩:=hm.root r' R0 TS
    have x4:R0.ft.Nodup:=(List.nodup_append.1 (List.nodup_append.1 (List.nodup_append.1 Xv).1).1).2.1
    cases q with
    | nil=>
      obtain ⟨Ak,xR⟩:=xZ rfl
      subst xR
      simp only [au,Option.some.injEq] at h2
      simp only [dn,Option.some.injEq] at h4
      subst h2; subst h4
      obtain ⟨cR,hto⟩:=List.getElem?_eq_some_iff.1 h3
      simp only [Ak] at k1
      rw [RT.ft,Ak] at x4
      simp only [Option.toList,List.cons_append,List.nil_append,List.nodup_cons] at x4
      refine ⟨?_,?_⟩
      · simp only [List.length_set]
        rw [g2,Ak]
        simp only
        rw [nQ,g4,g3]
        exact Lu hu (by omega) k1 (by rw [bw]; exact Nat.le_refl _)
      · intro t0 jD
        obtain ⟨j,hj⟩:=List.mem_iff_getElem?.1 jD
        simp only at hj
        by_cases Fi:o=j
        · subst Fi
          rw [List.getElem?_set_self cR,Option.some.injEq] at hj
          subst hj
          rcases hs with hs | ⟨d,u,rfl,_,hs⟩
          · cases t' with
            | v d u=>exact .inl hs
            | own s n cap a xs=>exact hs
          · exact .inr ⟨by rw [g2,Ak]; rfl,hs⟩
        · rw [List.getElem?_set_ne Fi] at hj
          obtain ⟨LA,e1,e2⟩:=g5 j _ hj
          have:=cell (k2 _ (List.mem_of_getElem? e1)) e2 (fun hb=>x4.1 (by
            obtain ⟨A',B',e3,_⟩:=dB R0.cs j _ e1
            rw [e3]; simp [hb]))
          rw [← g2] at this
          exact this
    | cons p q=>
      have ha:=hq (by simp)
      have sq:aZ w' (ad C w' (pt S1 r' ⟨R1.box,cs'⟩) H') t':=by
        rcases hs with hs | ⟨d,u,_,hq,_⟩
        · exact hs
        · simp at hq
      have gh:=(kQ h4).1
      have hlen:=(kQ h4).2
      rw [au] at h2
      rw [dn] at h4
      cases hp:R1.cs[p]? with
      | none=>simp [hp] at h2
      | some x=>
        cases x with
        | v d u=>simp [hp] at h2
        | own s n cap a xs=>
          simp only [hp] at h2 h4
          cases hx:dn (fun l=>l.set o t') xs q with
          | none=>simp [hx] at h4
          | some jw=>
            simp only [hx,Option.some.injEq] at h4
            obtain ⟨LA,e1,e2⟩:=g5 p _ hp
            have TU:R0.cs[p]?=some (.own s n cap a xs):=by
              rcases e2 with ⟨d,d1,u,_,e2,_⟩ | ⟨_,e2⟩
              · simp at e2
              · rw [e1,e2]
            have dK:aZ w (ad C w S H) (.own s n cap a xs):=k2 _ (List.mem_of_getElem? TU)
            obtain ⟨A',B',e3,e4⟩:=dB R0.cs p _ TU
            have pK:(ae R0.cs).Nodup:=by rw [RT.ft] at x4; exact (List.nodup_append.1 x4).2.1
            have sw:b∈(T.own s n cap a xs).ft:=by
              rw [bI] at ha
              simp only [TU] at ha
              cases q with
              | nil=>simp only at ha; subst ha; simp [T.ft,iw]
              | cons p' q'=>simp only at ha; simp [T.ft,pF ha]
            have aac:aZ w' (ad C w' (pt S1 r' ⟨R1.box,cs'⟩) H') (.own s n cap a jw):=by
              have h5:ba w (ad C w S H) [T.own s n cap a xs]:=by simp only [ba]; exact ⟨dK,trivial⟩
              have h6:(ae [T.own s n cap a xs]).Nodup:=by
                simp only [ae,List.append_nil]
                rw [e3] at pK
                exact (List.nodup_append.1 (List.nodup_append.1 pK).1).2.1
              have h7:bI none [T.own s n cap a xs] (0::q)=some (b,off):=by
                rw [bI] at ha
                simp only [TU] at ha
                simp only [bI,List.getElem?_cons_zero]
                exact ha
              have h8:=VB (cs':=[T.own s n cap a jw]) (l:=l) ch sq hu (q:=q) h5 h6 (by simp only [au,List.getElem?_cons_zero]; exact h2) h7 (List.getElem?_eq_some_iff.1 h3).1 (by simp [dn,hx])
              simp only [ba] at h8
              exact h8.1
            refine ⟨?_,?_⟩
            · simp only
              rw [gh,hlen,g4,g3,g2]
              cases hb:R0.box with
              | none=>trivial
              | some b0=>
                simp only [hb] at k1 ⊢
                refine DJ hu (fun e=>?_) k1
                subst e
                rw [RT.ft,hb] at x4
                simp only [Option.toList,List.cons_append,List.nil_append,List.nodup_cons] at x4
                exact x4.1 (by rw [e3]; simp [sw])
            · intro t0 jD
              subst h4
              obtain ⟨j,hj⟩:=List.mem_iff_getElem?.1 jD
              simp only at hj
              obtain ⟨cR,_⟩:=List.getElem?_eq_some_iff.1 hp
              by_cases rp:p=j
              · subst rp
                rw [List.getElem?_set_self cR,Option.some.injEq] at hj
                subst hj
                exact aac
              · rw [List.getElem?_set_ne rp] at hj
                obtain ⟨Xw,e5,e6⟩:=g5 j _ hj
                have xR:b∉Xw.ft:=by
                  intro hb
                  have h7:=e4 (.v .undef undef)
                  have B9:(R0.cs.set p (.v .undef undef))[j]?=some Xw:=by rw [List.getElem?_set_ne rp]; exact e5
                  obtain ⟨A2,B2,e7,_⟩:=dB _ j Xw B9
                  have fu:b∈ae (R0.cs.set p (.v .undef undef)):=by rw [e7]; simp [hb]
                  rw [h7] at fu
                  rw [e3] at pK
                  simp only [T.ft,List.append_nil,List.mem_append] at fu
                  rw [List.nodup_append,List.nodup_append] at pK
                  rcases fu with fu | fu
                  · exact pK.1.2.2 b fu b sw rfl
                  · exact pK.2.2 b (List.mem_append.2 (.inr sw)) b fu rfl
                have:=cell (k2 _ (List.mem_of_getElem? e5)) e6 xR
                rw [← g2] at this
                exact this
  · rw [dk _ _ he] at dQ
    obtain ⟨R,g1,g2,g3,g4,g5⟩:=hS.pI dQ
    obtain ⟨k1,k2⟩:=hm.root r' R g1
    refine ⟨?_,?_⟩
    · rw [g4,g3,g2]
      cases hb:R.box with
      | none=>trivial
      | some b0=>
        simp only [hb] at k1 ⊢
        exact DJ hu (TT g1 he b0 (by simp [RT.ft,hb])) k1
    · intro t0 jD
      obtain ⟨j,hj⟩:=List.mem_iff_getElem?.1 jD
      obtain ⟨LA,e1,e2⟩:=g5 j _ hj
      have:=cell (k2 _ (List.mem_of_getElem? e1)) e2 (fun hb=>by
        refine TT g1 he b ?_ rfl
        obtain ⟨A',B',e3,_⟩:=dB R.cs j _ e1
        rw [RT.ft,e3]; simp [hb])
      rw [← g2] at this
      exact this
end
theorem VN {w:World} {b off eR:Nat} {us:List Value} (h:ka w b off eR us) {o:Nat} (ho:o < eR) (u:Value):Lt w (w.setCell ⟨b,off+o,none⟩ u) b (off+o) u:=by
  obtain ⟨c,e,fz,h1,_,h3,_⟩:=h
  refine ⟨c,e,fz,h1,?_,fun k hk=>?_⟩
  · simp [World.setCell,Array.getElem?_modify,h1]
  · simp only [World.setCell,Array.getElem?_modify]
    rw [if_neg (by simpa using (Ne.symm hk))]
end Go.Proofs.Ytockoilcnmljiaa
namespace Go.Proofs.Ytockoilcnmljiaa
theorem A8 {H H':List T} (h:H.Perm H'):(ae H).Perm (ae H'):=by
  induction h with
  | nil=>exact .refl _
  | cons x _ ih=>simp only [ae]; exact .append (.refl _) ih
  | swap x y l=>
    simp only [ae]
    rw [← List.append_assoc,← List.append_assoc]
    exact .append List.perm_append_comm (.refl _)
  | trans _ _ h1 h2=>exact h1.trans h2
theorem x5 {C:Ctx} {w:World} {S:List (Nat × RT)} {H H':List T} (h:H.Perm H'):ad C w S H=ad C w S H':=by
  funext b k
  simp only [ad,(A8 h).mem_iff]
theorem Rel.perm {C:Ctx} {H H':List T} {w:World} {st:St} {aB:List (Array Value)} {S:List (Nat × RT)} (hp:H.Perm H') (h:Rel C H w st aB S):Rel C H' w st aB S:=by
  have hf:=x5 (C:=C) (w:=w) (S:=S) hp
  have Xx:=A8 hp
  obtain ⟨h1,⟨m1,m2,m3,m4⟩,h3,k⟩:=h
  rw [hf] at m2 m3 h3
  refine ⟨h1,⟨(List.Perm.append (List.Perm.refl (cr S)) Xx).nodup_iff.1 m1,m2,?_,fun k hk=>m4 k ?_⟩,h3,⟨k.os,k.tape,k.output,k.size,k.block,fun x hx=>k.gT x ?_,k.par⟩⟩
  · rw [bU] at m3 ⊢
    exact fun t ht=>m3 t (hp.mem_iff.2 ht)
  · simpa [Xx.mem_iff] using hk
  · simpa [Xx.mem_iff] using hx
def gB (C:Ctx) (w w':World) (S S':List (Nat × RT)) (H H':List T) (f:D→D):Prop:=∀ d u,aQ w (ad C w S H) S d u→aQ w' (ad C w' S' H') S' (f d) u
def ky (st st':St):Prop:=st'.tm=st.tm∧st'.up=st.up∧st'.of=st.of
theorem ky.refl (st:St):ky st st:=⟨rfl,rfl,rfl⟩
theorem ky.trans {a b c:St} (h:ky a b) (h':ky b c):ky a c:=⟨h'.1.trans h.1,h'.2.1.trans h.2.1,h'.2.2.trans h.2.2⟩
section
variable {C:Ctx} {w:World} {aB:List (Array Value)}
theorem Cq:∀ {ds ds':List D} {us:List Value} {H:List T} {st st':St} {S:List (Nat × RT)},Rel C H w st aB S→bO (aQ w (ad C w S H) S) ds us→pd st ds=some (ds',st')→
    ∃ ts S',Rel C (ts++H) w st' aB S'∧aP ts=ds'∧ay ts=us∧gB C w w S S' H (ts++H) id∧nX S S'∧ky st st':=by
  intro ds
  induction ds with
  | nil=>
    intro ds' us H st st' S h hu ht
    cases hu
    simp only [pd,Option.some.injEq,Prod.mk.injEq] at ht
    obtain ⟨rfl,rfl⟩:=ht
    exact ⟨[],S,h,rfl,rfl,fun _ _ h=>h,nX.refl _,ky.refl _⟩
  | cons d ds ih=>
    intro ds' us H st st' S h hu ht
    cases hu with
    | cons qy Al=>
    simp only [pd] at ht
    split at ht
    case h_2=>simp at ht
    rename_i d1 aE h1
    split at ht
    case h_2=>simp at ht
    rename_i fJ bS h2
    simp only [Option.some.injEq,Prod.mk.injEq] at ht
    obtain ⟨rfl,rfl⟩:=ht
    obtain ⟨t,S1,a1,rfl,rfl,a4,a5,a6,_⟩:=rO h qy h1
    obtain ⟨ts,S2,b1,rfl,rfl,b4,b5,b6⟩:=ih a1 (Al.mono (fun _ _ hh=>a4 _ _ hh)) h2
    have hp:(ts++t::H).Perm (t::ts++H):=List.perm_middle
    refine ⟨t::ts,S2,b1.perm hp,by simp [aP],by simp [ay],fun d u hd=>?_,a5.trans b5,ky.trans a6 b6⟩
    have:=b4 _ _ (a4 d u hd)
    rwa [x5 hp] at this
end
end Go.Proofs.Ytockoilcnmljiaa
namespace Go.Proofs.Ytockoilcnmljiaa
structure Grown (w w':World):Prop where
  sz:w.heap.size≤w'.heap.size
  bQ:∀ k,k < w.heap.size→w'.heap[k]?=w.heap[k]?
  os:w'.os=w.os
  tape:w'.tape=w.tape
  out:w'.output=w.output
theorem Grown.refl (w:World):Grown w w:=⟨Nat.le_refl _,fun _ _=>rfl,rfl,rfl,rfl⟩
theorem iF (w:World) (o:Obj):(w.alloc o).heap.size=w.heap.size+1:=by
  show (w.heap.push o).size=_
  simp
theorem Fp (w:World) (o:Obj):(w.alloc o).heap[w.heap.size]?=some o:=by
  show (w.heap.push o)[w.heap.size]?=_
  simp
theorem Grown.alloc (w:World) (o:Obj):Grown w (w.alloc o):=
  ⟨by rw [iF]; omega,fun k hk=>by
    show (w.heap.push o)[k]?=_
    simp [Array.getElem?_push,Nat.ne_of_lt hk],rfl,rfl,rfl⟩
theorem Grown.drew (w:World):Grown w w.drew:=⟨Nat.le_refl _,fun _ _=>rfl,rfl,rfl,rfl⟩
theorem Grown.trans {a b c:World} (h:Grown a b) (h':Grown b c):Grown a c:=
  ⟨Nat.le_trans h.sz h'.sz,fun k hk=>(h'.bQ k (Nat.lt_of_lt_of_le hk h.sz)).trans (h.bQ k hk),h'.os.trans h.os,h'.tape.trans h.tape,h'.out.trans h.out⟩
theorem jE (w:World) (c:Array Value) (e:TypeId) {us:List Value} {eR:Nat} (h1:eR≤c.size) (h2:∀ (j:Nat) (u:Value),us[j]?=some u→c[j]?=some u):ka (w.alloc (.cells c e)) w.heap.size 0 eR us:=
  ⟨c,e,(0,0),Fp w _,fun o _=>by simp,by omega,fun j u hj=>by rw [Nat.zero_add]; exact h2 j u hj⟩
theorem Rel.put {C:Ctx} {H:List T} {w:World} {st:St} {vs:Array Value} {aB:List (Array Value)} {S:List (Nat × RT)} (h:Rel C H w st (vs::aB) S) {t:Nat} (ht:t < vs.size) {d:D} {v:Value} (hv:bZ w (ad C w S H) S d v):
    Rel C H w (st.put (some t) d) (vs.setIfInBounds t v::aB) S:=by
  obtain ⟨h1,h2,h3,h4⟩:=h
  refine ⟨h1,h2,?_,h4⟩
  cases h3 with
  | cons a b=>exact .cons (kJ.put a ht hv) b
section
variable {C:Ctx} {H Hs:List T} {w w':World} {st st':St} {vs:Array Value} {aB:List (Array Value)} {S:List (Nat × RT)}
theorem pL (h:Rel C (Hs++H) w st (vs::aB) S) (hg:Grown w w') {t:Nat} {R:RT} (ez:∀ k∈R.ft,k∈ae Hs∨(w.heap.size≤k∧k < w'.heap.size)) (eT:R.ft.Nodup)
    (hR:∀ S':List (Nat × RT),iE w w' (ad C w S (Hs++H)) (ad C w' S' H)→(∀ d u,aQ w (ad C w S (Hs++H)) S d u→aQ w' (ad C w' S' H) S' (cj (st.of+t) d) u)→Ip w' (ad C w' S' H) S' R)
    (ht:t < vs.size) (hP:∀ p∈C.P0,p.1≠st.of+t) {d:Nat→D} {v:Value} (hd:∀ S' X,lk S' (st.of+t)=some R→bZ w' X S' (d (st.of+t)) v) (hr:st.root (some t) (aP R.cs) d=some st'):
    ∃ S',Rel C H w' st' (vs.setIfInBounds t v::aB) S':=by
  have Rq:∀ k∈R.ft,k∈ae Hs∨w.heap.size≤k:=fun k hk=>(ez k hk).imp id (·.1)
  have cR:∀ k∈R.ft,k < w'.heap.size:=fun k hk=>by
    rcases ez k hk with h1 | h1
    · have:=h.mem.lt k (List.mem_append.2 (.inr (by rw [aO]; exact List.mem_append.2 (.inl h1))))
      have:=hg.sz
      omega
    · exact h1.2
  have ch:=mI (r:=st.of+t) h Rq hg.sz hg.bQ
  have dH:=Cp (r:=st.of+t) h Rq hg.sz hg.bQ
  obtain ⟨h1,_⟩:=vR h (hR _ ch dH) ⟨eT,Rq⟩ cR hg.sz hg.bQ hg.os hg.tape hg.out hP
  simp only [St.root,Option.some.injEq] at hr
  subst hr
  exact ⟨_,h1.put ht (hd _ _ (cm _ _ _))⟩
theorem zu (h:Rel C (Hs++H) w st (vs::aB) S) (hg:Grown w w') {t s n cap b:Nat} {ts:List T} (hb:w.heap.size≤b∧b < w'.heap.size) (hs:ba w (ad C w S (Hs++H)) ts) (ec:∀ k∈ae ts,k∈ae Hs) (eT:(ae ts).Nodup)
    (hn:n≤cap) (hl:ts.length=n*s) (eF:ka w' b 0 (cap*s) (ay ts)) (ht:t < vs.size) (hP:∀ p∈C.P0,p.1≠st.of+t) (hr:st.root (some t) [.sl none s n (aP ts)] (fun d=>.ref d [] 0 none)=some st'):
    ∃ S',Rel C H w' st' (vs.setIfInBounds t (.slice (some ⟨b,0,none⟩) n cap)::aB) S':=by
  have ub:∀ k∈ae ts,k < w.heap.size:=fun k hk=>h.mem.lt k (List.mem_append.2 (.inr (by rw [aO]; exact List.mem_append.2 (.inl (ec k hk)))))
  refine pL (R:=⟨none,[.own s n cap (some (b,0)) ts]⟩) h hg ?_ ?_ ?_ ht hP ?_ (by simpa [aP,T.er] using hr)
  · intro k hk
    simp only [RT.ft,ae,T.ft,iw,Option.toList,List.nil_append,List.append_nil,List.cons_append,List.mem_cons] at hk
    rcases hk with rfl | hk
    · exact .inr hb
    · exact .inl (ec k hk)
  · simp only [RT.ft,ae,T.ft,iw,Option.toList,List.nil_append,List.append_nil,List.cons_append,List.nodup_cons]
    exact ⟨fun hk=>by have:=ub b hk; omega,eT⟩
  · intro S' ch dH
    refine ⟨trivial,fun x hx=>?_⟩
    simp only [List.mem_singleton] at hx
    subst hx
    simp only [ix,aZ]
    exact ⟨hn,hl,eF,fP ch _ hs (fun k hk=>hg.bQ k (ub k hk))⟩
  · intro S' X nW
    simp only [bZ,gg,aQ]
    intro x hx
    simp only [cd,nW,au,List.getElem?_cons_zero,Option.some.injEq] at hx
    subst hx
    simp [ey,sn,T.er,T.val,tV]
theorem DM (h:Rel C (Hs++H) w st (vs::aB) S) (hg:Grown w w') {t b:Nat} {ts:List T} (hb:w.heap.size≤b∧b < w'.heap.size)
    (hs:∀ x∈ts,aZ w (ad C w S (Hs++H)) x∨∃ d u,x=.v (cj (st.of+t) d) u∧aQ w (ad C w S (Hs++H)) S d u) (ec:∀ k∈ae ts,k∈ae Hs) (eT:(ae ts).Nodup)
    (eF:ka w' b 0 ts.length (ay ts)) (ht:t < vs.size) (hP:∀ p∈C.P0,p.1≠st.of+t) (hr:st.root (some t) (aP ts) (fun d=>.ptr d [] 0)=some st'):
    ∃ S',Rel C H w' st' (vs.setIfInBounds t (.pointer (some ⟨b,0,none⟩))::aB) S':=by
  have ub:∀ k∈ae ts,k < w.heap.size:=fun k hk=>h.mem.lt k (List.mem_append.2 (.inr (by rw [aO]; exact List.mem_append.2 (.inl (ec k hk)))))
  refine pL (R:=⟨some b,ts⟩) h hg ?_ ?_ ?_ ht hP ?_ hr
  · intro k hk
    simp only [RT.ft,Option.toList,List.cons_append,List.nil_append,List.mem_cons] at hk
    rcases hk with rfl | hk
    · exact .inr hb
    · exact .inl (ec k hk)
  · simp only [RT.ft,Option.toList,List.cons_append,List.nil_append,List.nodup_cons]
    exact ⟨fun hk=>by have:=ub b hk; omega,eT⟩
  · intro S' ch dH
    refine ⟨eF,fun x hx=>?_⟩
    rcases hs x hx with h1 | ⟨d,u,rfl,h1⟩
    · have h2:aZ w' (ad C w' S' H) x:=du ch _ h1 (fun k hk=>hg.bQ k (ub k (by
        obtain ⟨i,hi⟩:=List.mem_iff_getElem?.1 hx
        obtain ⟨A,B,e,_⟩:=dB ts i x hi
        rw [e]; simp [hk])))
      cases x with
      | v d u=>exact .inl h2
      | own s n cap a cs=>exact h2
    · have h2:=dH d u h1
      have h3:bj (cj (st.of+t) d)=cj (st.of+t) d:=by
        cases hd:cj (st.of+t) d with
        | sl g s n cs=>
          rw [hd] at h2
          cases g with
          | none=>simp [aQ,Ext] at h2
          | some g=>rfl
        | _=>rfl
      simp only [ix]
      rw [h3]
      exact .inr ⟨rfl,h2⟩
  · intro S' X nW
    simp only [bZ,gg,aQ]
    intro R hR
    rw [nW,Option.some.injEq] at hR
    subst hR
    exact ⟨fun _=>rfl,fun b' off ha=>by simp only [bI,Option.map_some,Option.some.injEq,Prod.mk.injEq] at ha; obtain ⟨rfl,rfl⟩:=ha; rfl⟩
end
end Go.Proofs.Ytockoilcnmljiaa
namespace Go.Proofs.Ytockoilcnmljiaa
theorem sx {d:D} {u:Value} (h:Lw d u):bj d=d:=by
  have h1:=h default (fun _ _=>False)
  cases d with
  | sl g s n cs=>cases g with
    | none=>simp [Ext] at h1
    | some g=>rfl
  | _=>rfl
def leaves (ds:List D) (us:List Value):List T:=List.zipWith T.v ds us
theorem Fq {R:D→Value→Prop} {ds:List D} {us:List Value} (h:bO R ds us) (hl:∀ d u,R d u→bj d=d):aP (leaves ds us)=ds∧ay (leaves ds us)=us∧ae (leaves ds us)=[]∧(leaves ds us).length=ds.length∧∀ x∈leaves ds us,∃ d u,x=.v d u∧R d u:=by
  induction h with
  | nil=>simp [leaves,aP,ay,ae]
  | cons h1 _ ih=>
    obtain ⟨e1,e2,e3,e4,e5⟩:=ih
    simp only [leaves,List.zipWith_cons_cons,aP,ay,ae,T.er,T.val,T.ft,List.length_cons] at*
    refine ⟨by rw [e1,hl _ _ h1],by rw [e2],by rw [e3]; rfl,by rw [e4],fun x hx=>?_⟩
    simp only [List.mem_cons] at hx
    rcases hx with rfl | hx
    · exact ⟨_,_,rfl,h1⟩
    · exact e5 x hx
theorem IC {ds:List D} {us:List Value} (h:bO Lw ds us):∃ ts,aP ts=ds.map rZ∧ay ts=us∧ae ts=[]∧∀ w X,ba w X ts:=by
  induction h with
  | nil=>exact ⟨[],rfl,rfl,rfl,fun _ _=>by simp [ba]⟩
  | @cons d u _ _ h1 _ ih=>
    obtain ⟨ts,e1,e2,e3,e4⟩:=ih
    have jn:=sx h1
    by_cases hn:∃ s,d=.nil s
    · obtain ⟨s,rfl⟩:=hn
      have hu:u=.slice none 0 0:=h1 default (fun _ _=>False)
      subst hu
      exact ⟨.own s 0 0 none []::ts,by simp [aP,e1,T.er,rZ],by simp [ay,e2,T.val,tV],by simp [ae,e3,T.ft,iw],fun w X=>by simp [ba,aZ,e4]⟩
    · have hr:rZ d=d:=by cases d<;>first | rfl | exact absurd ⟨_,rfl⟩ hn
      exact ⟨.v d u::ts,by simp [aP,e1,T.er,hr,jn],by simp [ay,e2,T.val],by simp [ae,e3,T.ft],fun w X=>by simp only [ba,aZ]; exact ⟨by rw [jn]; exact h1 w X,e4 w X⟩⟩
theorem uc {ds:List D} {us:List Value} (h:bO Lw ds us) (n:Nat):∃ ts,aP ts=fm n ds∧ay ts=(List.replicate n us).flatten∧ae ts=[]∧∀ w X,ba w X ts:=by
  obtain ⟨t0,e1,e2,e3,e4⟩:=IC h
  induction n with
  | zero=>exact ⟨[],by simp [aP,fm],by simp [ay],rfl,fun _ _=>by simp [ba]⟩
  | succ n ih=>
    obtain ⟨ts,f1,f2,f3,f4⟩:=ih
    refine ⟨t0++ts,?_,?_,?_,fun w X=>(dv _ _).2 ⟨e4 w X,f4 w X⟩⟩
    · rw [sj,e1,f1]; simp [fm,List.replicate_succ]
    · rw [xO,e2,f2]; simp [List.replicate_succ]
    · rw [aO,e3,f3]; rfl
theorem x6 (z:Array Value) (n:Nat):((List.range (n*z.size)).map fun i=>z[i % z.size]!)=(List.replicate n z.toList).flatten:=by
  induction n with
  | zero=>simp
  | succ n ih=>
    rw [Nat.succ_mul,List.range_add,List.map_append,ih,List.replicate_succ',List.flatten_append]
    congr 1
    simp only [List.map_map,List.flatten_cons,List.flatten_nil,List.append_nil]
    apply List.ext_getElem?
    intro j
    simp only [List.getElem?_map,Array.getElem?_toList]
    by_cases hj:j < z.size
    · simp only [List.getElem?_range hj,Option.map_some,Function.comp_apply,Nat.mul_add_mod_self_right,Nat.mod_eq_of_lt hj]
      rw [getElem!_pos z j hj,Array.getElem?_eq_getElem hj]
    · rw [Array.getElem?_eq_none (by omega),List.getElem?_eq_none (by simp; omega)]
      rfl
theorem ID (z:Array Value) (n:Nat) (j:Nat):(madeCells z (n*z.size))[j]?=(List.replicate n z.toList).flatten[j]?:=by
  rw [← x6,← Array.getElem?_toList]
  simp [madeCells]
theorem Am {α:Type} (l:List α) {m n:Nat} (h:m≤n) {j:Nat} {u:α} (hj:(List.replicate m l).flatten[j]?=some u):(List.replicate n l).flatten[j]?=some u:=by
  have:List.replicate n l=List.replicate m l++List.replicate (n - m) l:=by rw [List.replicate_append_replicate]; congr 1; omega
  rw [this,List.flatten_append,List.getElem?_append_left (List.getElem?_eq_some_iff.1 hj).1]
  exact hj
section
variable {P:Program} {c:cf} (ao:dU c P) {C:Ctx} {Hx:List T} {w:World} {st st':St} {vs:Array Value} {aB:List (Array Value)} {S:List (Nat × RT)} (h:Rel C Hx w st (vs::aB) S)
include ao h
theorem Rr {e:TypeId} {i:TI} (he:c.ty e=some i) {t:Nat} (ht:t < vs.size) (hP:∀ p∈C.P0,p.1≠st.of+t) (hr:st.root (some t) i.zero (fun d=>.ptr d [] 0)=some st'):
    ∃ v w',(Instr.alloc e true (.tuple #[])).run P w=.ok v w'∧dp w w'∧∃ S',Rel C Hx w' st' (vs.setIfInBounds t v::aB) S':=by
  obtain ⟨inf,h1,h2,h3,z,h4,h5⟩:=(ao.ty _ _ he).info
  obtain ⟨e1,e2,e3,e4,e5⟩:=Fq h5 (fun _ _=>sx)
  have dP:(Instr.alloc e true (.tuple #[])).run P w=.ok (.pointer (some ⟨w.heap.size,0,none⟩)) (w.alloc (.cells z.cells e)):=by
    simp [Instr.alloc,Iq h1 h4,newVar,newRow]
  refine ⟨_,_,dP,(Grown.alloc w _).bQ,?_⟩
  refine DM (Hs:=[]) h (Grown.alloc w _) (ts:=leaves i.zero z.cells.toList) ⟨Nat.le_refl _,by rw [iF]; omega⟩ (fun x hx=>.inl ?_) (by rw [e3]; simp) (by rw [e3]; simp) ?_ ht hP (by rw [e1]; exact hr)
  · obtain ⟨d,u,rfl,h6⟩:=e5 x hx
    simp only [aZ]
    rw [sx h6]
    exact h6 _ _
  · refine jE w _ _ (by rw [e4,h5.len]; simp) (fun j u hj=>?_)
    rw [e2] at hj
    simpa using hj
theorem IE {t e:TypeId} {ei ti:TI} (jD:c.ty t=some ti) (TV:ti.ty=.slice e) (he:c.ty e=some ei) {kl kc:IntKind} {l cp:Int} (h0:0≤l) (x7:l≤cp) (hb:0 < ei.bytes∧cp*ei.bytes≤140737488355328)
    {d:Nat} (ht:d < vs.size) (hP:∀ p∈C.P0,p.1≠st.of+d) (hr:st.root (some d) [.sl none ei.size l.toNat (fm l.toNat ei.zero)] (fun d=>.ref d [] 0 none)=some st'):
    ∃ v w',(Instr.makeSlice t (.int kl l) (.int kc cp)).run P w=.ok v w'∧dp w w'∧∃ S',Rel C Hx w' st' (vs.setIfInBounds d v::aB) S':=by
  obtain ⟨inf,h1,h2,h3,z,h4,h5⟩:=(ao.ty _ _ he).info
  have An:=(ao.ty _ _ he).len
  obtain ⟨dd,g1,g2⟩:=(ao.ty _ _ jD).desc
  rw [TV] at g2
  simp only [jA] at g2
  subst g2
  have Xy:cp≤140737488355328:=by
    have:cp*1≤cp*ei.bytes:=Int.mul_le_mul_of_nonneg_left (by omega) (by omega)
    omega
  have dP:=run_make (P:=P) w t e inf z g1 h1 h4 kl kc l cp h0 x7 (by rw [h3,Int.mul_comm]; omega) (by omega)
  refine ⟨_,_,dP,(Grown.alloc w _).bQ,?_⟩
  obtain ⟨ts,e1,e2,e3,e4⟩:=uc h5 l.toNat
  have kd:z.cells.size=ei.size:=by rw [← An,h5.len]; simp
  have hlen:ts.length=l.toNat*ei.size:=by
    have:=congrArg List.length e2
    rw [bw] at this
    simp only [List.length_flatten,List.map_replicate,List.sum_replicate_nat,Array.length_toList,kd] at this
    exact this
  rw [← e1] at hr
  refine zu (Hs:=[]) h (Grown.alloc w _) (ts:=ts) ⟨Nat.le_refl _,by rw [iF]; omega⟩ (e4 _ _) (by rw [e3]; simp) (by rw [e3]; simp) (by omega) hlen ?_ ht hP hr
  refine jE w _ _ (by rw [size_madeCells,h2]; exact Nat.le_refl _) (fun j u hj=>?_)
  rw [e2] at hj
  rw [h2,← kd,ID]
  exact Am _ (by omega) hj
end
end Go.Proofs.Ytockoilcnmljiaa
namespace Go.Proofs.Ytockoilcnmljiaa
def ma {α:Type}:List α→Nat→List α→List α
  | cs,_,[]=>cs
  | cs,o,d::ds=>ma (cs.set o d) (o+1) ds
theorem Ao:∀ (ds cs:List D) (o:Nat),vI cs o ds=ma cs o ds
  | [],_,_=>rfl
  | d::ds,cs,o=>by simp only [vI,ma]; exact Ao ds _ _
theorem A9 {α β:Type} (f:α→β):∀ (ds cs:List α) (o:Nat),(ma cs o ds).map f=ma (cs.map f) o (ds.map f)
  | [],_,_=>rfl
  | d::ds,cs,o=>by simp only [ma,List.map_cons,← List.map_set]; exact A9 f ds _ _
theorem IF {α:Type}:∀ (ds cs:List α) (o:Nat),(ma cs o ds).length=cs.length
  | [],_,_=>rfl
  | d::ds,cs,o=>by simp only [ma]; rw [IF ds]; simp
theorem IG (off:Nat):∀ (l:List Value) (k:Nat) (arr:Array Value),((l.zipIdx k).foldl (fun cs (x:Value × Nat)=>cs.setIfInBounds (off+x.2) x.1) arr).toList=ma arr.toList (off+k) l
  | [],_,_=>rfl
  | v::l,k,arr=>by
    simp only [List.zipIdx_cons,List.foldl_cons,ma]
    rw [IG off l (k+1)]
    simp [Nat.add_assoc]
theorem MM (off:Nat) (v arr:Array Value):(v.zipIdx.foldl (fun cs (x:Value × Nat)=>cs.setIfInBounds (off+x.2) x.1) arr).toList=ma arr.toList off v.toList:=by
  rw [← Array.foldl_toList,Array.toList_zipIdx]
  exact IG off v.toList 0 arr
def nz {α:Type} (place:Nat→Option (Nat × Nat)):List α→List (Nat × List α)→Option (List α)
  | cs,[]=>some cs
  | cs,(i,vs)::rest=>match place i with
    | some (o,k)=>if vs.length=k∧o+vs.length≤cs.length then nz place (ma cs o vs) rest else none
    | none=>none
theorem Fs {ok:D→Bool} {place:Nat→Option (Nat × Nat)}:∀ {parts:List (Nat × List D)} {cs ds:List D},lJ ok place cs parts=some ds→∀ p∈parts,∀ d∈p.2,ok d=true:=by
  intro parts
  induction parts with
  | nil=>intro cs ds _ p hp; simp at hp
  | cons p parts ih=>
    intro cs ds h q hq
    obtain ⟨i,vs⟩:=p
    simp only [lJ] at h
    split at h
    case h_2=>simp at h
    split at h
    case isFalse=>simp at h
    rename_i hc
    rcases List.mem_cons.1 hq with rfl | hq
    · exact fun d hd=>List.all_eq_true.1 hc.2.2 d hd
    · exact ih h q hq
theorem LB {α:Type} (er:α→D) {ok:D→Bool} {place:Nat→Option (Nat × Nat)}:∀ {parts:List (Nat × List α)} {cs:List α} {ds:List D},lJ ok place (cs.map er) (parts.map fun p=>(p.1,p.2.map er))=some ds→∃ cs',nz place cs parts=some cs'∧cs'.map er=ds:=by
  intro parts
  induction parts with
  | nil=>intro cs ds h; simp only [List.map_nil,lJ,Option.some.injEq] at h; exact ⟨cs,rfl,h⟩
  | cons p parts ih=>
    intro cs ds h
    obtain ⟨i,vs⟩:=p
    simp only [List.map_cons,lJ] at h
    simp only [nz]
    split at h
    case h_2=>simp at h
    rename_i o k hp
    try rw [hp]
    split at h
    case isFalse=>simp at h
    rename_i hc
    simp only [List.length_map] at hc
    rw [Ao,← A9] at h
    simp only [hc.1,hc.2.1]
    rw [hc.1] at hc
    simpa [hc.2.1] using ih h
theorem Cr {α:Type} (val:α→Value) {place:Nat→Option (Nat × Nat)}:∀ {parts:List (Nat × List α)} {oJ:List (Nat × Value)} {cs cs':List α} {arr:Array Value},bO (fun p q=>q.1=p.1∧q.2.cells.toList=p.2.map val) parts oJ→nz place cs parts=some cs'→arr.toList=cs.map val→
    ∃ Xz,Instr.fill place arr oJ=some Xz∧Xz.toList=cs'.map val:=by
  intro parts
  induction parts with
  | nil=>
    intro oJ cs cs' arr h1 h2 h3
    cases h1
    simp only [nz,Option.some.injEq] at h2
    subst h2
    exact ⟨arr,rfl,h3⟩
  | cons p parts ih=>
    intro oJ cs cs' arr h1 h2 h3
    obtain ⟨i,vs⟩:=p
    cases h1 with
    | cons hp aad=>
    rename_i q qs
    obtain ⟨j,v⟩:=q
    obtain ⟨rfl,hv⟩:=hp
    simp only [nz] at h2
    split at h2
    case h_2=>simp at h2
    rename_i o k hpl
    split at h2
    case isFalse=>simp at h2
    rename_i hc
    have On:v.cells.size=vs.length:=by have:=congrArg List.length hv; simpa using this
    have has:arr.size=cs.length:=by have:=congrArg List.length h3; simpa using this
    simp only [Instr.fill,hpl]
    rw [if_neg (by simp only [Bool.or_eq_true,decide_eq_true_eq,On,has,not_or]; exact ⟨by simpa using hc.1,by omega⟩)]
    refine ih aad h2 ?_
    rw [MM,h3,hv,← A9]
theorem Rs {α:Type}:∀ {ds cs:List α} {o:Nat} {x:α},x∈ma cs o ds→x∈cs∨x∈ds:=by
  intro ds
  induction ds with
  | nil=>intro cs o x h; exact .inl h
  | cons d ds ih=>
    intro cs o x h
    rcases ih h with h | h
    · rcases List.mem_or_eq_of_mem_set h with h | h
      · exact .inl h
      · exact .inr (by simp [h])
    · exact .inr (by simp [h])
theorem Ft {α:Type} {place:Nat→Option (Nat × Nat)}:∀ {parts:List (Nat × List α)} {cs cs':List α},nz place cs parts=some cs'→(∀ x∈cs',x∈cs∨∃ p∈parts,x∈p.2)∧cs'.length=cs.length:=by
  intro parts
  induction parts with
  | nil=>intro cs cs' h; simp only [nz,Option.some.injEq] at h; subst h; exact ⟨fun x hx=>.inl hx,rfl⟩
  | cons p parts ih=>
    intro cs cs' h
    obtain ⟨i,vs⟩:=p
    simp only [nz] at h
    split at h
    case h_2=>simp at h
    split at h
    case isFalse=>simp at h
    obtain ⟨h1,h2⟩:=ih h
    refine ⟨fun x hx=>?_,h2.trans (IF _ _ _)⟩
    rcases h1 x hx with h3 | ⟨p,h3,h4⟩
    · rcases Rs h3 with h4 | h4
      · exact .inl h4
      · exact .inr ⟨_,List.mem_cons_self,h4⟩
    · exact .inr ⟨p,List.mem_cons_of_mem _ h3,h4⟩
theorem Oo:∀ {ds cs:List T} {o:Nat} {B:List Nat},(ae cs++ae ds++B).Nodup→(ae (ma cs o ds)++B).Nodup∧∀ k∈ae (ma cs o ds),k∈ae cs∨k∈ae ds:=by
  intro ds
  induction ds with
  | nil=>intro cs o B h; simpa [ma,ae] using h
  | cons d ds ih=>
    intro cs o B h
    simp only [ma]
    have key:(ae (cs.set o d)++ae ds++B).Nodup∧∀ k∈ae (cs.set o d),k∈ae cs∨k∈d.ft:=by
      by_cases ho:o < cs.length
      · obtain ⟨A,Z,e1,e2⟩:=dB cs o _ (List.getElem?_eq_getElem ho)
        rw [e2 d]
        refine ⟨?_,fun k hk=>?_⟩
        · rw [e1,ae] at h
          have p1:(A++cs[o].ft++Z++(d.ft++ae ds)++B).Perm (cs[o].ft++(A++d.ft++Z++ae ds++B)):=by
            refine List.perm_iff_count.2 fun a=>?_
            simp only [List.count_append]
            omega
          exact (List.nodup_append.1 (p1.nodup_iff.1 h)).2.1
        · rw [e1]
          simp only [List.mem_append] at hk ⊢
          rcases hk with (hk | hk) | hk
          · exact .inl (.inl (.inl hk))
          · exact .inr hk
          · exact .inl (.inr hk)
      · rw [List.set_eq_of_length_le (by omega)]
        refine ⟨?_,fun k hk=>.inl hk⟩
        rw [ae] at h
        have p1:(ae cs++(d.ft++ae ds)++B).Perm (d.ft++(ae cs++ae ds++B)):=by
          refine List.perm_iff_count.2 fun a=>?_
          simp only [List.count_append]
          omega
        exact (List.nodup_append.1 (p1.nodup_iff.1 h)).2.1
    obtain ⟨h1,h2⟩:=ih key.1
    refine ⟨h1,fun k hk=>?_⟩
    rcases h2 k hk with h3 | h3
    · rcases key.2 k h3 with h4 | h4
      · exact .inl h4
      · exact .inr (by simp [ae,h4])
    · exact .inr (by simp [ae,h3])
theorem MN {place:Nat→Option (Nat × Nat)}:∀ {parts:List (Nat × List T)} {cs cs':List T},nz place cs parts=some cs'→(ae cs++ae (parts.flatMap (·.2))).Nodup→(ae cs').Nodup∧∀ k∈ae cs',k∈ae cs∨k∈ae (parts.flatMap (·.2)):=by
  intro parts
  induction parts with
  | nil=>intro cs cs' h hn; simp only [nz,Option.some.injEq] at h; subst h; simpa [ae] using hn
  | cons p parts ih=>
    intro cs cs' h hn
    obtain ⟨i,vs⟩:=p
    simp only [nz] at h
    split at h
    case h_2=>simp at h
    rename_i o k hp
    split at h
    case isFalse=>simp at h
    simp only [List.flatMap_cons,aO,← List.append_assoc] at hn
    obtain ⟨g1,g2⟩:=Oo (o:=o) hn
    obtain ⟨h1,h2⟩:=ih h g1
    refine ⟨h1,fun k hk=>?_⟩
    simp only [List.flatMap_cons,aO,List.mem_append]
    rcases h2 k hk with h3 | h3
    · rcases g2 k h3 with h4 | h4
      · exact .inl h4
      · exact .inr (.inl h4)
    · exact .inr (.inr h3)
end Go.Proofs.Ytockoilcnmljiaa
namespace Go.Proofs.Ytockoilcnmljiaa
section
variable {C:Ctx} {Hx:List T} {w:World} {S:List (Nat × RT)} {st:St}
theorem DN {X:Bool→Nat→Prop} {d:D} {u:Value} (h:Ext w X d u) (hc:cy d=true):u.oneCell'=true∧u.cells=#[u]:=by
  cases d with
  | int k n=>have:u=.int k n:=h; subst this; exact ⟨rfl,rfl⟩
  | bool b=>have:u=.bool b:=h; subst this; exact ⟨rfl,rfl⟩
  | str s=>have:u=.string s:=h; subst this; exact ⟨rfl,rfl⟩
  | nil s=>have:u=.slice none 0 0:=h; subst this; exact ⟨rfl,rfl⟩
  | sl g s n cs=>
    cases g with
    | none=>simp [Ext] at h
    | some g=>
      simp only [Ext] at h
      obtain ⟨base,cap,us,rfl,_⟩:=h
      exact ⟨rfl,rfl⟩
  | ref r q o x=>simp [Ext] at h
  | ptr r q o=>simp [Ext] at h
  | dt cs o=>simp [Ext] at h
  | _=>simp [cy] at hc
theorem kU {X:Bool→Nat→Prop} {t:T} (h:aZ w X t) (hc:cy t.er=true):t.val.oneCell'=true∧t.val.cells=#[t.val]:=by
  cases t with
  | own s n cap a cs=>exact ⟨rfl,rfl⟩
  | v d u=>exact DN h hc
theorem IH (fA:gy st.rt S) (hm:Mem C w S Hx) {d:D} {u:Value} (hd:aQ w (ad C w S Hx) S d u) (cw:fe st d=true):u.oneCell'=true∧u.cells=#[u]:=by
  cases d with
  | ref r q o x=>
    simp only [fe] at cw
    split at cw
    · rename_i g s n cs hc
      have:=(HU fA hm (kR hd) (g:=g) (s:=s) (n:=(trim x s n cs).1) (cs:=(trim x s n cs).2) (by simp [St.nP,hc])).ok
      obtain ⟨base,cap,rfl,_⟩:=this
      exact ⟨rfl,rfl⟩
    · simp at cw
  | ptr r q o=>
    simp only [fe] at cw
    obtain ⟨R,b,off,_,_,rfl⟩:=rN fA hm cw (kR hd)
    exact ⟨rfl,rfl⟩
  | dt cs o=>
    obtain ⟨b,off,c,e,fz,us,rfl,_⟩:=hd
    exact ⟨rfl,rfl⟩
  | _=>exact DN hd cw
theorem Ba (fA:gy st.rt S) (hm:Mem C w S Hx) {d:D} {u:Value} (hd:bZ w (ad C w S Hx) S d u) (cw:∀ x∈cellsOf d,fe st x=true):bO (aQ w (ad C w S Hx) S) (cellsOf d) u.cells.toList:=by
  by_cases ha:∃ cs,d=.agg cs
  · obtain ⟨cs,rfl⟩:=ha
    obtain ⟨us,rfl,h⟩:=hd
    exact h
  · have hc:cellsOf d=[d]:=by cases d<;>first | rfl | exact absurd ⟨_,rfl⟩ ha
    rw [hc] at cw ⊢
    have ho:=cw d (by simp)
    have qv:aQ w (ad C w S Hx) S d u:=by
      cases d<;>first | exact hd | (simp [fe,cy] at ho; done) | exact absurd ⟨_,rfl⟩ ha
    rw [(IH fA hm qv ho).2]
    exact .cons qv .nil
end
theorem vS {α β:Type} {R:α→β→Prop} {as9:List α} {bs:List β} (h:bO R as9 bs):∃ l:List (α × β),l.map Prod.fst=as9∧l.map Prod.snd=bs∧∀ x∈l,R x.1 x.2:=by
  induction h with
  | nil=>exact ⟨[],rfl,rfl,by simp⟩
  | @cons a b _ _ h1 _ ih=>
    obtain ⟨l,e1,e2,e3⟩:=ih
    exact ⟨(a,b)::l,by simp [e1],by simp [e2],fun x hx=>by
      rcases List.mem_cons.1 hx with rfl | hx
      · exact h1
      · exact e3 x hx⟩
theorem Cs {α β:Type} {R:α→β→Prop}:∀ (l:List (α × β)),(∀ x∈l,R x.1 x.2)→bO R (l.map Prod.fst) (l.map Prod.snd)
  | [],_=>.nil
  | x::l,h=>.cons (h x (by simp)) (Cs l (fun y hy=>h y (by simp [hy])))
theorem Oq {P:Program}:∀ {fs:List Field} {szs:List Nat},szs.length=fs.length→(∀ (j:Nat) (f:Field),fs[j]?=some f→∃ i,P.info? f.type=some i∧i.size≠0∧szs[j]?=some i.size)→
    fs.mapM (fun f=>(P.info? f.type).map fun i=>(f.offset,i.size))=some ((fs.map (·.offset)).zip szs):=by
  intro fs
  induction fs with
  | nil=>intro szs h _; rfl
  | cons f fs ih=>
    intro szs hl h
    cases szs with
    | nil=>simp at hl
    | cons k szs=>
      obtain ⟨i,h1,_,h2⟩:=h 0 f rfl
      simp only [List.getElem?_cons_zero,Option.some.injEq] at h2
      subst h2
      have:=ih (szs:=szs) (by simpa using hl) (fun j f hj=>by simpa using h (j+1) f (by simpa using hj))
      simp [List.mapM_cons,h1,this]
section
variable {P:Program} {c:cf} (ao:dU c P) {C:Ctx} {Hx:List T} {w:World} {st st':St} {a:Act} {aB:List (Array Value)} {S:List (Nat × RT)} (h:Rel C Hx w st (a.tmps::aB) S)
include h
theorem Rt:∀ (ps:List (Nat × Operand)),(∀ p∈ps.map (fun p=>(p.1,cellsOf (bW c st 0 p.2))),∀ d∈p.2,fe st d=true)→
    ∃ pp:List (Nat × List (D × Value)),pp.map (fun p=>(p.1,p.2.map Prod.fst))=ps.map (fun p=>(p.1,cellsOf (bW c st 0 p.2)))∧bO (fun p q=>q.1=p.1∧q.2.cells.toList=p.2.map Prod.snd) pp (ps.map fun p=>(p.1,a.eval p.2))∧
      ∀ p∈pp,∀ x∈p.2,aQ w (ad C w S Hx) S x.1 x.2:=by
  have fv:kJ w (ad C w S Hx) S st.tm a.tmps:=by cases h.mZ with | cons a _=>exact a
  intro ps
  induction ps with
  | nil=>intro _; exact ⟨[],rfl,.nil,by simp⟩
  | cons p ps ih=>
    intro cw
    obtain ⟨pp,e1,e2,e3⟩:=ih (fun q hq=>cw q (by simp only [List.map_cons,List.mem_cons]; exact .inr hq))
    have h1:=Ba h.rt h.mem (tX (c:=c) fv 0 p.2) (cw _ (by simp only [List.map_cons,List.mem_cons]; exact .inl rfl))
    obtain ⟨l,f1,f2,f3⟩:=vS h1
    refine ⟨(p.1,l)::pp,by simp [e1,f1],.cons ⟨rfl,f2.symm⟩ e2,fun q hq=>?_⟩
    rcases List.mem_cons.1 hq with rfl | hq
    · exact f3
    · exact e3 q hq
include ao
theorem Fu {t:TypeId} {ti:TI} (ht:c.ty t=some ti) {place:Nat→Option (Nat × Nat)} {ps:Array (Nat × Operand)} {cs:List D} (hf:lJ (fe st) place ti.zero (ps.toList.map fun p=>(p.1,cellsOf (bW c st 0 p.2)))=some cs)
    (hb:∀ (z:Value) (oJ:List (Nat × Value)),(∀ i,P.info? t=some i→i.zero=some z)→P.built t oJ=Instr.fill place z.cells oJ):
    ∃ v,(∀ w:World,(Instr.build t (ps.map fun (i,x)=>(i,a.eval x))).run P w=.ok v w)∧bZ w (ad C w S Hx) S (.agg cs) v:=by
  obtain ⟨inf,h1,h2,h3,z,h4,h5⟩:=(ao.ty _ _ ht).info
  obtain ⟨pp,e1,e2,e3⟩:=Rt (c:=c) h ps.toList (Fs hf)
  obtain ⟨zz,f1,f2,f3⟩:=vS h5
  rw [← e1,← f1] at hf
  obtain ⟨cs',g1,g2⟩:=LB Prod.fst hf
  obtain ⟨arr,k1,k2⟩:=Cr Prod.snd e2 g1 f2.symm
  refine ⟨.agg arr,fun w=>run_build w t _ arr ?_,?_⟩
  · rw [hb z _ (fun i hi=>by rw [h1,Option.some.injEq] at hi; subst hi; exact h4)]
    rw [← k1]
    simp
  · refine ⟨arr,rfl,?_⟩
    rw [← g2,k2]
    refine Cs _ (fun x hx=>?_)
    rcases (Ft g1).1 x hx with h6 | ⟨p,h6,h7⟩
    · exact fF (f3 x h6 w _)
    · exact e3 p h6 x h7
theorem x8 {t:TypeId} {kr szs:List Nat} {sz nU:Nat} {z:List D} (ht:c.ty t=some ⟨.struct kr szs,sz,nU,z⟩) {ps:Array (Nat × Operand)} {cs:List D}
    (hf:lJ (fe st) (fun i=>match kr[i]?,szs[i]? with | some o,some k=>some (o,k) | _,_=>none) z (ps.toList.map fun p=>(p.1,cellsOf (bW c st 0 p.2)))=some cs):
    ∃ v,(∀ w:World,(Instr.build t (ps.map fun (i,x)=>(i,a.eval x))).run P w=.ok v w)∧bZ w (ad C w S Hx) S (.agg cs) v:=by
  refine Fu ao h ht hf (fun zv oJ hz=>?_)
  obtain ⟨inf,h1,_⟩:=(ao.ty _ _ ht).info
  obtain ⟨dd,g1,fs,rfl,g2,g3,g4⟩:=(ao.ty _ _ ht).desc
  simp only [Program.built,h1,g1,hz inf h1,Oq g3 g4]
  congr 1
  funext i
  simp only [List.getElem?_toArray,List.zip_eq_zipWith,List.getElem?_zipWith,← g2]
  cases kr[i]? with
  | none=>rfl
  | some o=>cases szs[i]?<;>rfl
theorem Ap {t e:TypeId} {n:Nat} {sz nU:Nat} {z:List D} {ei:TI} (ht:c.ty t=some ⟨.array n e,sz,nU,z⟩) (he:c.ty e=some ei) {ps:Array (Nat × Operand)} {cs:List D}
    (hf:lJ (fe st) (fun i=>some (i*ei.size,ei.size)) z (ps.toList.map fun p=>(p.1,cellsOf (bW c st 0 p.2)))=some cs):
    ∃ v,(∀ w:World,(Instr.build t (ps.map fun (i,x)=>(i,a.eval x))).run P w=.ok v w)∧bZ w (ad C w S Hx) S (.agg cs) v:=by
  refine Fu ao h ht hf (fun zv oJ hz=>?_)
  obtain ⟨inf,h1,_⟩:=(ao.ty _ _ ht).info
  obtain ⟨ajS,h2,h3,_⟩:=(ao.ty _ _ he).info
  obtain ⟨dd,g1,rfl⟩:=(ao.ty _ _ ht).desc
  simp only [Program.built,h1,g1,hz inf h1,h2,h3]
end
end Go.Proofs.Ytockoilcnmljiaa
