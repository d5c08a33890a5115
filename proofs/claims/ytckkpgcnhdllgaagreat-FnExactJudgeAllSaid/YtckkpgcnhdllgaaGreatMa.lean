/- What the proof of FnExactJudgeAll stands on, part 1: an abstract machine on plain data, its soundness, and the contracts of functions. -/
import Derived.Orders
import Derived.LoopN
import Derived.WalkKit
import Derived.Deep.AppendSrc
import Derived.Great.BuildSlice
set_option linter.all false
set_option linter.unusedSimpArgs false
set_option linter.unusedVariables false
set_option linter.unnecessarySimpa false
set_option linter.unusedSectionVars false
namespace Go.Proofs.YtckkpgcnhdllgaaGreat
def jf:=@Option.some.injEq
def tC:=@Bool.and_self
def tD:=@List.mem_append
def tE:=@Prod.mk.injEq
def yq:=@List.nodup_append
def Bh:=@Bool.and_eq_true
def OB:=@Option.map_some
def UL:=@List.all_cons
def aaa:=@List.getElem?_eq_some_iff
def aab:=@List.all_nil
def aac:=@List.all_eq_true
def aad:=@List.length_append
def aaf:=@List.getElem?_eq_getElem
def aah:=@List.append_nil
def aai:=@Bool.false_eq_true
def aak:=@List.mem_of_getElem?
def aal:=@List.getElem?_set_ne
def aam:=@List.mem_map
def aan:=@List.getElem_mem
def aao:=@List.cons_append
def aap:=@List.mem_cons
def aaq:=@List.nil_append
def aav:=@Nat.le_refl
def aay:=@List.append_assoc
def aaz:=@List.getElem?_cons_zero
def aaB:=@List.length_take
def aaD:=@List.getElem?_eq_none
def aaE:=@List.getElem?_set_self
def aaF:=@List.cons.injEq
def aaM:=@List.map_cons
def aaO:=@List.take_length
def aaQ:=@Nat.mul_le_mul_right
def aaY:=@Array.getD_eq_getD_getElem?
def aaZ:=@List.getElem?_cons_succ
def aa5:=@List.getElem?_map
def aa6:=@List.getElem?_append_right
def aa7:=@List.length_cons
def aa8:=@List.length_eq_zero_iff
def aa9:=@Nat.zero_le
def aba:=@List.take_append_getElem
def abb:=@Bool.not_eq_true'
def abc:=@List.getElem?_append_left
def abd:=@Array.toArray_toList
def abe:=@List.mem_iff_getElem?
def abf:=@List.filterMap_cons
def abg:=@List.length_singleton
def abh:=@Nat.add_assoc
def abi:=@List.getD_eq_getElem?_getD
def abj:=@List.Sublist.refl
def abk:=@List.mem_singleton
def abl:=@List.perm_iff_count
def abm:=@List.nodup_cons
def abn:=@Nat.zero_add
def abo:=@List.flatMap_cons
def abp:=@List.singleton_append
def abq:=@List.replicate_succ
def abr:=@List.getElem?_take
def abt:=@List.getElem?_drop
def abu:=@List.length_map
def abv:=@Bool.or_eq_true
def abw:=@Nat.add_mul
def abx:=@List.length_nil
def aby:=@Option.isSome_iff_exists
def abz:=@List.Sublist.append
def abA:=@List.replicate_zero
def abB:=@List.flatten_cons
def abC:=@Array.eq_empty_of_size_eq_zero
def abD:=@List.count_append
def abE:=@List.length_drop
def abF:=@Bool.or_eq_false_iff
def abG:=@Array.mem_toList_iff
def abH:=@List.map_map
def abI:=@Nat.le_trans
def abJ:=@Array.getElem?_append_left
def abK:=@Array.getElem?_eq_some_iff
def abL:=@Bool.false_and
def abM:=@List.getElem_cons_drop
def abN:=@List.ext_getElem?
def abO:=@Option.some.inj
def abP:=@Nat.not_lt
def abQ:=@List.Perm.append_left
def abR:=@Array.getElem?_modify
def abS:=@Array.mem_of_getElem?
def abT:=@Array.getElem?_eq_none
def abU:=@Bool.true_and
def abV:=@Option.getD_some
def adr:=@Array.getElem?_toList
def adN:=@Array.getElem?_eq_getElem
def adQ:=@Classical.byContradiction
def adR:=@List.mem_of_find?_eq_some
def adT:=@Nat.sub_self
def adV:=@Int.toNat_natCast
def adW:=@Array.length_toList
def ad3:=@Array.getElem?_setIfInBounds
def ad6:=@Array.toList_map
def ad7:=@List.sum_replicate_nat
def ad8:=@List.take_of_length_le
def aeb:=@List.drop_of_length_le
def aef:=@Nat.lt_of_lt_of_le
def aeg:=@Bool.not_eq_false
def aei:=@Array.size_append
def aej:=@List.size_toArray
def aek:=@List.sublist_append_right
def ael:=@List.mem_of_mem_take
def aeo:=@Bool.and_false
def aer:=@List.map_set
def aew:=@Nat.mod_eq_of_lt
def aeH:=@Nat.add_zero
def aeJ:=@List.mem_flatten
def aeK:=@List.getElem?_take_of_lt
def aeM:=@List.length_flatten
def aeN:=@Nat.mul_le_mul_left
def aeQ:=@List.getElem_of_mem
def aeR:=@Ne.symm
def aeX:=@List.map_replicate
def aeY:=@List.mem_cons_self
def ae0:=@List.perm_append_comm
def ae1:=@List.take_append_drop
def ae2:=@BitVec.ofInt_natCast
def ae4:=@List.map_drop
def ae7:=@List.map_take
def ae9:=@Bool.and_true
def afa:=@Bool.not_true
def afb:=@List.map_congr_left
def afd:=@List.mem_or_eq_of_mem_set
def afe:=@Option.map_none
def aff:=@List.map_append
def afh:=@List.getElem?_zip_eq_some
def afn:=@Nat.min_eq_left
def afp:=@List.Nodup.sublist
def afq:=@Bool.not_eq_false'
def afz:=@List.set_cons_succ
def afA:=@List.set_cons_zero
def afJ:=@Nat.add_sub_cancel
def afK:=@BitVec.toNat_ofNat
def afN:=@Nat.pow_succ
def af0:=@List.drop_zero
def af2:=@Decidable.not_not
def af4:=@List.getElem?_set
inductive D where
 | int (k:IntKind) (n:Int)
 | bool (b:Bool)
 | str (s:ByteArray)
 | sl (g:Option Bool) (s n:Nat) (cs:List D)
 | ref (r:Nat) (q:List Nat) (o:Nat) (x:Option (Nat × Nat))
 | nil (s:Nat)
 | agg (cs:List D)
 | aM (vs:List D)
 | fn (f:FuncId) (gY:List D)
 | ptr (r:Nat) (q:List Nat) (o:Nat)
 | cr (cs:List D) (o:Nat)
 | aZ (cs:List D)
 | hole (s n:Nat)
 | undef
 deriving Inhabited
def lk {α:Type}:List (Nat × α)->Nat->Option α
 | [],_=>none
 | (j,v)::t,k=>if j=k then some v else lk t k
def pt {α:Type}:List (Nat × α)->Nat->α->List (Nat × α)
 | [],k,v=>[(k,v)]
 | (j,u)::t,k,v=>if j=k then (k,v)::t else (j,u)::pt t k v
def pz {α:Type}:List (Nat × α)->Nat->α->List (Nat × α)
 | [],k,v=>[(k,v)]
 | (j,u)::t,k,v=>if j < k then (j,u)::pz t k v else if j=k then (k,v)::t else (k,v)::(j,u)::t
structure St where
 tm:List (Nat × D)
 rt:List (Nat × List D)
 up:List (List (Nat × D)):=[]
 of:Nat:=0
def St.get (st:St) (t:Nat):D:=(lk st.tm t).getD .undef
def St.put (st:St) (dst:Option Nat) (d:D):St:=
 match dst with
 | some t=>{ st with tm:=pz st.tm t d }
 | none=>st
inductive Ty where
 | int (k:IntKind) | bool | str | slice (e:TypeId) | array (n:Nat) (e:TypeId) | struct (mo szs:List Nat) | ptr (e:TypeId) | fn | other
structure TI where
 ty:Ty
 size:Nat
 bytes:Nat
 zero:List D
structure cA where
 ty:TypeId->Option TI
 ext:FuncId->Option (List D->Option (D × List D))
 own:FuncId->List Bool
 inl:FuncId->Bool
 qY:FuncId->Nat->Bool
 nm:FuncId->Nat->Option (List Nat × List Nat)
 gone:FuncId->List Bool
 base:FuncId->Nat->Option Nat
 nY:FuncId->Nat->List Nat
def cA.esz (c:cA) (t:TypeId):Nat:=
 match c.ty t with
 | some ⟨.slice e,_,_,_⟩=>match c.ty e with | some i=>i.size | none=>0
 | _=>0
def jS:List D->List Nat->Option (List D)
 | cs,[]=>some cs
 | cs,o::q=>match cs[o]? with
  | some (.sl none _ _ xs)=>jS xs q
  | _=>none
def oX (f:List D->List D):List D->List Nat->Option (List D)
 | cs,[]=>some (f cs)
 | cs,o::q=>match cs[o]? with
  | some (.sl none s n xs)=>match oX f xs q with
   | some kS=>some (cs.set o (.sl none s n kS))
   | none=>none
  | _=>none
def St.cells (st:St) (r:Nat) (q:List Nat):Option (List D):=
 match lk st.rt r with
 | some cs=>jS cs q
 | none=>none
def St.cell (st:St) (r:Nat) (q:List Nat) (o:Nat):Option D:=
 match st.cells r q with
 | some cs=>cs[o]?
 | none=>none
def under (q:List Nat) (x:List Nat):Option (List Nat):=
 match q,x with
 | [],x=>some x
 | p::ps,y::ys=>if p=y then under ps ys else none
 | _::_,[]=>none
def trim (x:Option (Nat × Nat)) (s n:Nat) (cs:List D):Nat × List D:=
 match x with
 | none=>(n,cs)
 | some (l,m)=>(m,(cs.drop (l*s)).take (m*s))
def cH (r:Nat):D->D
 | .ref r' q o x=>if r'=r then .undef else .ref r' q o x
 | .ptr r' q o=>if r'=r then .undef else .ptr r' q o
 | d=>d
def eC (r:Nat):D->D
 | .ref r' q o x=>if r'=r then .undef else .ref r' q o x
 | .ptr r' (p::q) o=>if r'=r then .undef else .ptr r' (p::q) o
 | d=>d
def cB (r:Nat) (q:List Nat) (o:Nat) (exact:Bool):D->D
 | .ref r' q' o' x=>if r'=r then
   match under (q++[o]) (q'++[o']) with
   | none=>.ref r' q' o' x
   | some []=>if exact then .undef else .ref r' q' o' x
   | some (_::_)=>.undef
  else .ref r' q' o' x
 | .ptr r' q' o'=>if r'=r then
   match under (q++[o]) q' with
   | none=>.ptr r' q' o'
   | some _=>.undef
  else .ptr r' q' o'
 | d=>d
def sm (r:Nat) (q:List Nat) (o:Nat) (r1:Nat) (q1:List Nat) (o1:Nat):D->D
 | .ref r' q' o' x=>if r'=r then
   match under (q++[o]) (q'++[o']) with
   | none=>.ref r' q' o' x
   | some []=>.ref r1 q1 o1 x
   | some (_::_)=>.undef
  else .ref r' q' o' x
 | .ptr r' q' o'=>if r'=r then
   match under (q++[o]) q' with
   | none=>.ptr r' q' o'
   | some _=>.undef
  else .ptr r' q' o'
 | d=>d
def fp (f:D->D):D->D
 | .agg cs=>.agg (cs.map f)
 | .fn g cs=>.fn g (cs.map f)
 | d=>f d
def pI (f:D->D):D->D
 | .aM vs=>.aM (vs.map (fp f))
 | d=>fp f d
def gn {α:Type} (f:α->α):List (Nat × α)->List (Nat × α)
 | []=>[]
 | (k,v)::t=>(k,f v)::gn f t
def St.eZ (f:D->D) (st:St):St:={ st with tm:=gn (pI f) st.tm,rt:=gn (List.map (fp f)) st.rt,up:=st.up.map (gn (pI f)) }
def St.ZY (f g:D->D) (st:St):St:={ st with tm:=gn (pI f) st.tm,rt:=gn (List.map (fp g)) st.rt,up:=st.up.map (gn (pI f)) }
def gE:D->Bool
 | .sl ..=>true
 | _=>false
def sn:D->Option (Nat × Nat)
 | .sl _ s n _=>some (s,n)
 | .hole s n=>some (s,n)
 | _=>none
def jg:D->Bool
 | .sl none _ _ _=>true
 | _=>false
mutual
def fC (b:Bool):D->D
 | .sl none s n cs=>.sl (some b) s n (cI b cs)
 | d=>d
def cI (b:Bool):List D->List D
 | []=>[]
 | d::ds=>fC b d::cI b ds
end
def lM {α β:Type} (f:α->Option β):List α->Option (List β)
 | []=>some []
 | a::as9=>match f a with
  | some b=>match lM f as9 with
   | some bs=>some (b::bs)
   | none=>none
  | none=>none
def uD (st:St):D->Option D
 | .int k n=>some (.int k n)
 | .bool b=>some (.bool b)
 | .str s=>some (.str s)
 | .nil s=>some (.nil s)
 | .sl g s n cs=>some (fC true (.sl g s n cs))
 | .ref r q o x=>match st.cell r q o with
  | some (.sl g s n cs)=>some (fC true (.sl g s (trim x s n cs).1 (trim x s n cs).2))
  | _=>none
 | .undef=>some .undef
 | .hole ..=>some .undef
 | _=>none
def R6 (st:St):D->Option D
 | .cr cs o=>some (.cr cs o)
 | .ptr r q o=>match st.cells r q with
  | some (c::cs)=>match lM (uD st) (c::cs) with
   | some cs'=>some (.cr cs' o)
   | none=>none
  | _=>none
 | d=>uD st d
def exN (st:St) (d:D):Option D:=match uD st d with
 | some (.nil s)=>some (.sl (some true) s 0 [])
 | r=>r
def UM (st:St):D->Option D
 | .agg cs=>match lM (exN st) cs with
  | some cs'=>some (.agg cs')
  | none=>none
 | .fn f gY=>match lM (R6 st) gY with
  | some cs'=>some (.fn f cs')
  | none=>none
 | d=>R6 st d
def St.gZ (st:St) (r:Nat) (q:List Nat) (o:Nat) (d:D):Option St:=
 match lk st.rt r with
 | some cs=>match oX (fun l=>l.set o d) cs q with
  | some cs'=>some { st with rt:=pz st.rt r cs' }
  | none=>none
 | none=>none
def jh (st:St):D->Option (D × St)
 | .int k n=>some (.int k n,st)
 | .bool b=>some (.bool b,st)
 | .str s=>some (.str s,st)
 | .nil s=>some (.sl none s 0 [],st)
 | .sl b s n cs=>some (.sl b s n cs,st)
 | .ref r q o x=>match st.cell r q o with
  | some (.sl none s n cs)=>match st.gZ r q o (.hole s n) with
   | some st'=>some (.sl none s (trim x s n cs).1 (trim x s n cs).2,st')
   | none=>none
  | some (.sl (some b) s n cs)=>some (.sl (some b) s (trim x s n cs).1 (trim x s n cs).2,st)
  | _=>none
 | .undef=>some (.undef,st)
 | .hole ..=>some (.undef,st)
 | _=>none
def r8 (st:St):List D->Option (List D × St)
 | []=>some ([],st)
 | d::ds=>match jh st d with
  | some (d',st')=>match r8 st' ds with
   | some (ds',zy)=>some (d'::ds',zy)
   | none=>none
  | none=>none
def gP (r:Nat) (q:List Nat) (j:Nat):D->D
 | .sl none _ _ _=>.ref r q j none
 | d=>d
def lW (r:Nat) (q:List Nat):Nat->List D->List D
 | _,[]=>[]
 | j,d::ds=>gP r q j d::lW r q (j+1) ds
def UN (st:St) (r:Nat):Option (List D × St):=
 match lk st.rt r with
 | some (c::cs)=>match r8 st (lW r [] 0 (c::cs)) with
  | some (cs',st')=>some (cs',{ st' with rt:=pz st'.rt r [] })
  | none=>none
 | _=>none
def En (st:St):D->Option (D × St)
 | .agg cs=>match r8 st cs with
  | some (cs',st')=>some (.agg cs',st')
  | none=>none
 | .ptr r [] 0=>match UN st r with
  | some (cs',st')=>some (.aZ cs',st')
  | none=>none
 | d=>jh st d
def OC (st:St):List D->Option (List D × St)
 | []=>some ([],st)
 | d::ds=>match En st d with
  | some (d',st')=>match OC st' ds with
   | some (ds',zy)=>some (d'::ds',zy)
   | none=>none
  | none=>none
def dq:D->List D
 | .agg cs=>cs
 | .aM vs=>vs.flatMap fun | .agg cs=>cs | d=>[d]
 | d=>[d]
def De (r:Nat) (j:Nat):D->D
 | .agg cs=>.agg (lW r [] j cs)
 | d=>gP r [] j d
def Gu (r:Nat):Nat->List D->List D
 | _,[]=>[]
 | j,d::ds=>De r j d::Gu r (j+(dq d).length) ds
def Df (r:Nat):D->D
 | .aM vs=>.aM (Gu r 0 vs)
 | d=>De r 0 d
def St.qZ (st:St) (r:Nat) (d:D):St × D:=
 match d with
 | .aZ cs=>
  let st':=st.eZ (cH r)
  ({ st' with rt:=pz st'.rt r cs },.ptr r [] 0)
 | d=>if (dq d).any jg then
   let st':=st.eZ (cH r)
   ({ st' with rt:=pz st'.rt r (dq d) },Df r d)
  else (st,d)
mutual
def cg:D->Bool
 | .sl g _ _ cs=>(match g with | some true=>false | _=>true)&&cq cs
 | _=>true
def cq:List D->Bool
 | []=>true
 | d::ds=>cg d&&cq ds
end
mutual
def iI (b:Bool):D->D
 | .sl none s n cs=>.sl none s n (ej b cs)
 | .sl (some _) s n cs=>.sl (some b) s n (ej b cs)
 | d=>d
def ej (b:Bool):List D->List D
 | []=>[]
 | d::ds=>iI b d::ej b ds
end
def hC (b:Bool):D->D
 | .agg cs=>.agg (ej b cs)
 | .aZ cs=>.aZ (ej b cs)
 | .aM vs=>.aM (vs.map fun | .agg cs=>.agg (ej b cs) | d=>iI b d)
 | d=>iI b d
def fD:D->Bool
 | .int .. | .bool _ | .str _ | .sl .. | .undef | .hole ..=>true
 | _=>false
def ch:D->List D
 | .aZ cs=>cs
 | d=>dq d
def dG (d:D):Bool:=(ch d).all fun x=>fD x&&cg x
def Dg (c:cA) (t:TypeId):Value->D
 | .int k n=>.int k n
 | .bool b=>.bool b
 | .string s=>.str s
 | .slice none 0 0=>.nil (c.esz t)
 | _=>.undef
def ct (c:cA) (st:St) (t:TypeId):Operand->D
 | .tmp i=>st.get i
 | .const v=>Dg c t v
 | .func f=>.fn f []
 | .global _=>.undef
def Bi (op:BinOp) (k:IntKind) (a b:Int):Option D:=
 match op with
 | .add=>some (.int k (k.wrap (a+b)))
 | .sub=>some (.int k (k.wrap (a - b)))
 | .mul=>some (.int k (k.wrap (a*b)))
 | .quo=>if b=0 then none else some (.int k (k.wrap (a.tdiv b)))
 | .rem=>if b=0 then none else some (.int k (a.tmod b))
 | .and=>some (.int k (k.wrap (BitVec.ofInt k.bits a&&& BitVec.ofInt k.bits b).toNat))
 | .or=>some (.int k (k.wrap (BitVec.ofInt k.bits a||| BitVec.ofInt k.bits b).toNat))
 | .xor=>some (.int k (k.wrap (BitVec.ofInt k.bits a ^^^ BitVec.ofInt k.bits b).toNat))
 | .eql=>some (.bool (a==b))
 | .neq=>some (.bool (a !=b))
 | .lss=>some (.bool (decide (a < b)))
 | .leq=>some (.bool (decide (a<=b)))
 | .gtr=>some (.bool (decide (a>b)))
 | .geq=>some (.bool (decide (a≥b)))
 | _=>none
def vw (op:BinOp) (k:IntKind) (a b:Int):Option D:=
 if b < 0 then none else
 match op with
 | .shl=>some (.int k (k.wrap (a*2 ^ (min b.toNat k.bits))))
 | .shr=>some (.int k (a.fdiv (2 ^ (min b.toNat k.bits))))
 | _=>none
def OD (op:BinOp) (a b:ByteArray):Option D:=
 match op with
 | .add=>if a.size+b.size<=9223372036854775807 then some (.str (a++b)) else none
 | .eql=>some (.bool (a.toList==b.toList))
 | .neq=>some (.bool (!(a.toList==b.toList)))
 | _=>none
def Jd (op:BinOp) (a b:Bool):Option D:=
 match op with
 | .eql=>some (.bool (a==b))
 | .neq=>some (.bool (!(a==b)))
 | _=>none
def so (c:cA) (t:TypeId) (op:BinOp) (x y:D):Option D:=
 match x,y with
 | .int k a,.int k' b=>match op with
  | .shl=>vw .shl k a b
  | .shr=>vw .shr k a b
  | op=>if k=k' then Bi op k a b else none
 | .str a,.str b=>OD op a b
 | .bool a,.bool b=>match c.ty t with
  | some ⟨.bool,_,_,_⟩=>Jd op a b
  | _=>none
 | _,_=>none
def ZZ (op:UnOp) (x:D):Option D:=
 match op,x with
 | .neg,.int k n=>some (.int k (k.wrap (0 - n)))
 | .not,.bool b=>some (.bool (!b))
 | _,_=>none
def St.qx (st:St):D->Option (Option Bool × Nat × Nat × List D)
 | .nil s=>some (none,s,0,[])
 | .sl b s n cs=>some (b,s,n,cs)
 | .ref r q o x=>match st.cell r q o with
  | some (.sl b s n cs)=>some (b,s,(trim x s n cs).1,(trim x s n cs).2)
  | _=>none
 | _=>none
def OE (c:cA) (st:St) (t:TypeId) (x:D):Option D:=
 match c.ty t,x with
 | some ⟨.str,_,_,_⟩,.str s=>some (.int .i64 s.size)
 | some ⟨.slice _,_,_,_⟩,d=>match st.qx d with
  | some (_,_,n,_)=>some (.int .i64 n)
  | none=>none
 | _,_=>none
def byteOf:D->Option UInt8
 | .int .u8 n=>some (UInt8.ofNat n.toNat)
 | _=>none
def dP (b:UInt8):D:=.int .u8 b.toNat
def wZ (c:cA) (st:St) (src dst:TypeId) (x:D):Option (D × Option (List D)):=
 match c.ty src,c.ty dst with
 | some si,some di=>
  match di.ty,si.ty,x with
  | .int k,_,.int _ n=>some (.int k (k.wrap n),none)
  | .str,_,.int _ n=>some (.str (Utf8.encode n),none)
  | .str,_,.str s=>some (.str s,none)
  | .str,.slice e,x=>match c.ty e with
   | some ⟨.int .u8,_,_,_⟩=>match st.qx x with
    | some (_,s,_,cs)=>if s=1 then (match lM byteOf cs with
     | some bs=>some (.str ⟨bs.toArray⟩,none)
     | none=>none) else none
    | none=>none
   | _=>none
  | _,_,_=>none
 | _,_=>none
def q8 (st:St) (agg:Bool) (size:Nat):D->Option D
 | .ptr r q o=>match st.cells r q with
  | some cs=>
   if agg then (if 0 < size/\o+size<=cs.length then some (.agg (lW r q o ((cs.drop o).take size))) else none)
   else match cs[o]? with
    | some d=>some (gP r q o d)
    | none=>none
  | none=>none
 | .cr cs o=>
   if agg then (if 0 < size/\o+size<=cs.length then some (.agg ((cs.drop o).take size)) else none)
   else cs[o]?
 | _=>none
def kN:Ty->Bool
 | .struct .. | .array ..=>true
 | _=>false
def live (st:St) (r:Nat) (q:List Nat):Bool:=
 match st.cells r q with
 | some (_::_)=>true
 | _=>false
def kO (i:Int) (n:Nat) (d:Option D):Option D:=if 0<=i then (if i < n then d else none) else none
def off (x:Option (Nat × Nat)):Nat:=
 match x with
 | none=>0
 | some (l,_)=>l
def q9 (st:St) (c:cA) (t:TypeId) (x:D) (i:Int):Option D:=
 match c.ty t with
 | some ⟨.slice e,_,_,_⟩=>match c.ty e with
  | some ei=>match x with
   | .ref r q o x=>match st.cell r q o with
    | some (.sl none s n cs)=>if s=ei.size/\0 < s then kO i (trim x s n cs).1 (some (.ptr r (q++[o]) ((off x+i.toNat)*s))) else none
    | some (.sl (some _) s n cs)=>if s=ei.size/\0 < s then kO i (trim x s n cs).1 (some (.cr cs ((off x+i.toNat)*s))) else none
    | _=>none
   | .sl (some _) s n cs=>if s=ei.size/\0 < s then kO i n (some (.cr cs (i.toNat*s))) else none
   | _=>none
  | none=>none
 | some ⟨.array n e,_,_,_⟩=>match c.ty e with
  | some ei=>match x with
   | .ptr r q o=>if live st r q then kO i n (some (.ptr r q (o+i.toNat*ei.size))) else none
   | .cr cs o=>kO i n (some (.cr cs (o+i.toNat*ei.size)))
   | _=>none
  | none=>none
 | _=>none
def yr (st:St) (k:Nat):D->Option D
 | .ptr r q i=>if live st r q then some (.ptr r q (i+k)) else none
 | .cr cs i=>some (.cr cs (i+k))
 | _=>none
def yt (c:cA) (t:TypeId) (x:D) (i:Int):Option D:=
 match c.ty t,x with
 | some ⟨.str,_,_,_⟩,.str s=>kO i s.size ((s.data.toList[i.toNat]?).map dP)
 | some ⟨.array n e,_,_,_⟩,.agg cs=>match c.ty e with
  | some ei=>kO i n (if kN ei.ty then some (.agg ((cs.drop (i.toNat*ei.size)).take ei.size)) else cs[i.toNat*ei.size]?)
  | none=>none
 | _,_=>none
def zA:List D->Nat->List D->List D
 | cs,_,[]=>cs
 | cs,o,d::ds=>zA (cs.set o d) (o+1) ds
def sq:D->D
 | .nil s=>.sl none s 0 []
 | d=>d
def fa (n:Nat) (z:List D):List D:=(List.replicate n (z.map sq)).flatten
def da:D->Bool
 | .fn .. | .agg _ | .aM _ | .aZ _ | .undef | .hole ..=>false
 | _=>true
def single:D->Bool
 | .agg _ | .aM _ | .fn ..=>false
 | _=>true
def fW (st:St):D->Bool
 | .ref r q o _=>match st.cell r q o with
  | some (.sl ..)=>true
  | _=>false
 | .ptr r q _=>live st r q
 | d=>da d
def nI (ok:D->Bool) (place:Nat->Option (Nat × Nat)):List D->List (Nat × List D)->Option (List D)
 | cs,[]=>some cs
 | cs,(i,vs)::rest=>match place i with
  | some (o,k)=>if vs.length=k/\o+vs.length<=cs.length/\vs.all ok=true then nI ok place (zA cs o vs) rest else none
  | none=>none
def cellsOf:D->List D
 | .agg cs=>cs
 | d=>[d]
def sr (st:St):List (Nat × D)->Option (List (Nat × List D) × St)
 | []=>some ([],st)
 | (i,d)::ps=>match r8 st (cellsOf d) with
  | some (cs,st')=>match sr st' ps with
   | some (r,zy)=>some ((i,cs)::r,zy)
   | none=>none
  | none=>none
def eD:D->Bool
 | .int .. | .bool _ | .str _=>true
 | _=>false
def St.root (st:St) (dst:Option Nat) (cs:List D) (d:Nat->D):Option St:=
 match dst with
 | some t=>
  let st':=st.eZ (cH (st.of+t))
  some { st' with tm:=pz st'.tm t (d (st.of+t)),rt:=pz st'.rt (st.of+t) cs }
 | none=>none
def elems (st:St) (flat:Bool) (z:List D) (sz:Nat):D->Option (List D × Nat × St)
 | .int .i64 n=>if 0<=n/\(z.map sq).all da=true then some (fa n.toNat z,n.toNat,st) else none
 | .str s=>if sz=1 then some (s.data.toList.map dP,s.size,st) else none
 | .nil _=>some ([],0,st)
 | .sl (some _) s n cs=>if s=sz/\cs.all da=true then some (cs,n,st) else none
 | .ref r q o x=>match st.cell r q o with
  | some (.sl none s n cs)=>if s≠sz then none else if flat=true then (if (trim x s n cs).2.all eD=true then some ((trim x s n cs).2,(trim x s n cs).1,st) else none) else
   match r8 st (lW r (q++[o]) (off x*s) (trim x s n cs).2) with
   | some (ys,st')=>if ys.all da=true then some (ys,(trim x s n cs).1,st') else none
   | none=>none
  | some (.sl (some _) s n cs)=>if s=sz/\(trim x s n cs).2.all da=true then some ((trim x s n cs).2,(trim x s n cs).1,st) else none
  | _=>none
 | _=>none
def target (st:St) (sz:Nat) (d:D):Option (Nat × List D × St):=
 match jh st d with
 | some (.sl none s n cs,st')=>if s=sz then some (n,cs,st') else none
 | _=>none
def Je (c:cA) (tx:TypeId):D->Bool
 | .int ..=>match c.ty tx with | some ⟨.int _,_,_,_⟩=>true | _=>false
 | .str _=>match c.ty tx with | some ⟨.str,_,_,_⟩=>true | _=>false
 | _=>match c.ty tx with | some ⟨.slice _,_,_,_⟩=>true | _=>false
def su (c:cA) (st:St) (t tx:TypeId) (dst:Option Nat) (s x:D):Option St:=
 match c.ty t with
 | some ⟨.slice e,_,_,_⟩=>match c.ty e with
  | some ei=>if Je c tx x=true then
    match target st ei.size s with
    | some (n,cs,aQ)=>match elems aQ (ei.zero.all eD) ei.zero ei.size x with
     | some (ys,m,cu)=>
      if 0 < ei.size/\0 < ei.bytes/\(n+m)*ei.bytes<=140737488355328 then cu.root dst [.sl none ei.size (n+m) (cs++ys)] (fun d=>.ref d [] 0 none) else none
     | none=>none
    | none=>none
   else none
  | none=>none
 | _=>none
def bound (d:Option D) (z:Int):Option Int:=
 match d with
 | none=>some z
 | some (.int _ i)=>some i
 | _=>none
def Gv (s:ByteArray) (l h:Option D):Option D:=
 match bound l 0,bound h s.size with
 | some l,some h=>if 0<=l/\l<=h/\h<=s.size then some (.str (s.extract l.toNat h.toNat)) else none
 | _,_=>none
def Gw (st:St) (sz:Nat) (x:D) (l h:Option D):Option D:=
 match st.qx x with
 | some (g,s,n,cs)=>match bound l 0,bound h n with
  | some l,some h=>if s=sz/\0<=l/\l<=h/\h<=n then
    match x with
    | .ref r q o y=>some (.ref r q o (some (off y+l.toNat,h.toNat - l.toNat)))
    | .nil s=>some (.nil s)
    | _=>some (.sl g s (h.toNat - l.toNat) ((cs.drop (l.toNat*s)).take ((h.toNat - l.toNat)*s)))
   else none
  | _,_=>none
 | none=>none
def Bj (c:cA) (st:St) (t:TypeId) (x:D) (l h:Option D):Option D:=
 match c.ty t with
 | some ⟨.str,_,_,_⟩=>match x with
  | .str s=>Gv s l h
  | _=>none
 | some ⟨.slice e,_,_,_⟩=>match c.ty e with
  | some ei=>Gw st ei.size x l h
  | none=>none
 | _=>none
def Fa:D->List Nat->Option D
 | d,[]=>some d
 | .sl none _ _ cs,o::q=>match cs[o]? with
  | some d=>Fa d q
  | none=>none
 | _,_=>none
def vx (r:Nat) (q:List Nat) (o:Nat) (bY:D):D->D
 | .ref r' q' o' x=>if r'=r then (match under (q++[o]) (q'++[o']) with
  | none=>.ref r' q' o' x
  | some y=>match Fa bY y with
   | some (.sl g s n cs)=>fC false (.sl g s (trim x s n cs).1 (trim x s n cs).2)
   | _=>.undef) else .ref r' q' o' x
 | d=>cB r q o true d
def St.r9 (st:St) (r:Nat) (q:List Nat) (o:Nat) (d:D):Option (St × (D->D)):=
 match st.cell r q o with
 | some bY=>some (if gE bY then (st.ZY (vx r q o bY) (cB r q o true),vx r q o bY) else if gE d then (st.eZ (cB r q o true),cB r q o true) else (st,id))
 | none=>none
def nZ (st:St) (r:Nat):Nat->(D->D)->List D->Option St
 | _,_,[]=>some st
 | o,h,d::ds=>if !fW st (h d) then none else match st.r9 r [] o (h d) with
  | some (aQ,f)=>match aQ.gZ r [] o (f (h d)) with
   | some st'=>nZ st' r (o+1) (fun x=>f (h x)) ds
   | none=>none
  | none=>none
def oa (st:St) (r:Nat):Nat->List D->Option St
 | _,[]=>some st
 | o,d::ds=>if !da d then none else match st.r9 r [] o d with
  | some (aQ,_)=>match aQ.gZ r [] o d with
   | some st'=>oa st' r (o+1) ds
   | none=>none
  | none=>none
def Bk (r:Nat) (q:List Nat) (o:Nat):D->Bool
 | .ref r' q' o' none=>decide (r'=r)&&decide (q'=q)&&decide (o'=o)
 | _=>false
def vy (d:D) (r:Nat) (q:List Nat) (o:Nat):D->D:=
 match d with
 | .ref r' q' o' none=>sm r' q' o' r q o
 | .ref r' q' o' (some _)=>cB r' q' o' true
 | _=>id
def St.tj (st:St) (d:D) (r:Nat) (q:List Nat) (o:Nat):St:=
 match d with
 | .ref _ _ _ _=>st.eZ (vy d r q o)
 | _=>st
def fE (st:St) (r:Nat) (q:List Nat):Nat->(D->D)->List D->Option St
 | _,_,[]=>some st
 | o,h,d::ds=>
  if Bk r q o (h d)&&fW st (h d) then fE st r q (o+1) h ds else
  match jh st (h d) with
  | some (d',aQ)=>if !da d' then none else match aQ.r9 r q o d' with
   | some (cu,f)=>match cu.gZ r q o d' with
    | some Eo=>fE (Eo.tj (f (h d)) r q o) r q (o+1) (fun x=>vy (f (h d)) r q o (f (h x))) ds
    | none=>none
   | none=>none
  | none=>none
def vz (st:St) (qY:Nat->Bool) (size:Nat) (a v:D):Option St:=
 match a with
 | .ptr r q o=>
  if (cellsOf v).length=size/\live st r q=true then
   match q with
   | []=>if qY (r - st.of) then (match r8 st (cellsOf v) with
    | some (cs,aQ)=>oa aQ r o cs
    | none=>none) else nZ st r o id (cellsOf v)
   | q=>fE st r q o id (cellsOf v)
  else none
 | _=>none
def Bl (c:cA) (st:St) (t:TypeId) (x:D):Option St:=
 match c.ty t with
 | some ⟨.slice e,_,_,_⟩=>match c.ty e with
  | some ei=>match x with
   | .ref r q o y=>match lk st.rt r with
    | some R=>match st.cell r q o with
     | some (.sl none s n cs)=>if s=ei.size/\0 < s then fE { st with rt:=pz st.rt r R } r (q++[o]) (off y*s) id (List.replicate (trim y s n cs).1 ei.zero).flatten else none
     | _=>none
    | none=>none
   | _=>none
  | none=>none
 | _=>none
def nt (st:St):List Bool->List D->Option (List D × St)
 | _,[]=>some ([],st)
 | b,d::ds=>
  match (if b.headD false then En st d else some (d,st):Option (D × St)) with
  | some (d',st')=>match nt st' b.tail ds with
   | some (ds',zy)=>some (d'::ds',zy)
   | none=>none
  | none=>none
def vA (st:St):List Bool->List D->Option (List D)
 | _,[]=>some []
 | b,d::ds=>
  match (if b.headD false then some d else UM st d) with
  | some d'=>match vA st b.tail ds with
   | some ds'=>some (d'::ds')
   | none=>none
  | none=>none
def nf (st:St) (b:List Bool) (ds:List D):Option (List D × St):=
 match nt st b ds with
 | some (gG,aQ)=>match vA aQ b gG with
  | some uE=>some (uE,aQ)
  | none=>none
 | none=>none
def pX (st:St) (h:D->D):List D->List D->Option (St × (D->D))
 | [],_=>some (st,h)
 | _::_,[]=>none
 | a::as9,d::ds=>
  match h a,d with
  | .ref r q o none,.sl none s n cs=>match st.cell r q o with
   | some (.hole s0 n0)=>if s0=s/\n0=n then
     (match (st.eZ (cB r q o false)).gZ r q o (.sl none s n cs) with
      | some st'=>pX st' (fun x=>cB r q o false (h x)) as9 ds
      | none=>none)
    else none
   | _=>none
  | _,_=>pX st h as9 ds
def Dh (st:St) (h:D->D) (a out:D):Option (St × (D->D)):=
 match a,out with
 | .agg cs,.agg ds=>pX st h cs ds
 | .ptr r [] 0,.aZ ds=>match lk st.rt r with
  | some []=>some ({ st.eZ (eC r) with rt:=pz (st.eZ (eC r)).rt r ds },fun x=>eC r (h x))
  | _=>none
 | a,d=>pX st h [a] [d]
def iJ (st:St) (h:D->D):List Bool->List D->List D->Option St
 | _,[],_=>some st
 | b,a::as9,o::os=>if b.headD false then match Dh st h a o with
   | some (st',h')=>iJ st' h' b.tail as9 os
   | none=>none
  else iJ st h b.tail as9 os
 | _,_::_,[]=>none
def fF:List Bool->List D->Bool
 | _,[]=>false
 | b,d::ds=>(b.headD false&&!((ch d).all cg))||fF b.tail ds
def kt:List Bool->List D->List D
 | _,[]=>[]
 | b,d::ds=>(if b.headD false then hC false d else d)::kt b.tail ds
def kT (c:cA) (cl:FuncId->List D->Option (D × List D)) (st:St) (dst:Option Nat) (f:FuncId) (args:List D):Option St:=
 match nf st (c.own f) args with
 | some (ds,aQ)=>
  let t:=fF (c.own f) ds
  match cl f (if t then kt (c.own f) ds else ds) with
  | some (r,outs)=>
   if dG r&&outs.all dG then
    match iJ aQ id (c.own f) args (if t then outs.map (hC true) else outs) with
    | some cu=>match dst with
     | some i=>let p:=cu.qZ (cu.of+i) (if t then hC true r else r); some (p.1.put (some i) p.2)
     | none=>some cu
    | none=>none
   else none
  | none=>none
 | none=>none
def fb (c:cA) (cl:FuncId->List D->Option (D × List D)) (ci:FuncId->List D->Nat->St->Option (D × St)) (aA:FuncId) (st:St) (o:Oper):Option St:=
 let ev:=ct c st o.type
 let val (d:Option D):Option St:=match d with | some d=>some (st.put o.dst d) | none=>none
 match o.op with
 | .move x | .assign x=>some (st.put o.dst (ev x))
 | .pick b x y=>match ev b with
  | .bool t=>some (st.put o.dst (if t then ev x else ev y))
  | _=>none
 | .alloc e=>match c.ty e with
  | some i=>st.root o.dst i.zero (fun d=>.ptr d [] 0)
  | none=>none
 | .box e x=>match c.ty e with
  | some i=>if (cellsOf (ct c st e x)).length=i.size/\(if c.qY aA (o.dst.getD 0)=true then true else (cellsOf (ct c st e x)).all (fW st))=true then
    match o.dst with
    | some t=>if c.qY aA t then (match r8 st (cellsOf (ct c st e x)) with
      | some (cs,aQ)=>if cs.all da then aQ.root (some t) cs (fun d=>.ptr d [] 0) else none
      | none=>none)
     else st.root (some t) (cellsOf (pI (cH (st.of+t)) (ct c st e x))) (fun d=>.ptr d [] 0)
    | none=>none
   else none
  | none=>none
 | .build t ps=>match c.ty t with
  | some ⟨.struct mo szs,_,_,z⟩=>
   match nI (fW st) (fun i=>match mo[i]?,szs[i]? with | some o,some k=>some (o,k) | _,_=>none) z (ps.toList.map fun p=>(p.1,cellsOf (ct c st 0 p.2))) with
   | some cs=>some (st.put o.dst (.agg cs))
   | none=>none
  | some ⟨.array _ e,_,_,z⟩=>match c.ty e with
   | some ei=>
    match nI (fW st) (fun i=>some (i*ei.size,ei.size)) z (ps.toList.map fun p=>(p.1,cellsOf (ct c st 0 p.2))) with
    | some cs=>some (st.put o.dst (.agg cs))
    | none=>none
   | none=>none
  | _=>none
 | .buildSlice t n ps=>match c.ty t with
  | some ⟨.slice e,_,_,_⟩=>match c.ty e with
   | some ei=>
    if n*ei.size<=16777216/\n<=16777216 then
     match sr st (ps.toList.map fun p=>(p.1,ct c st e p.2)) with
     | some (vs,aQ)=>match nI da (fun i=>some (i*ei.size,ei.size)) (fa n ei.zero) vs with
      | some cs=>aQ.root o.dst [.sl none ei.size n cs] (fun d=>.ref d [] 0 none)
      | none=>none
     | none=>none
    else none
   | none=>none
  | _=>none
 | .load t a=>match c.ty t with
  | some i=>val (q8 st (kN i.ty) i.size (ev a))
  | none=>none
 | .store t a x=>match c.ty t with
  | some i=>match vz st (c.qY aA) i.size (ev a) (ct c st t x) with
   | some st'=>some (st'.put o.dst (.aM []))
   | none=>none
  | none=>none
 | .nilCheck x=>match ev x with
  | .ptr r q i=>if live st r q then some (st.put o.dst (.ptr r q i)) else none
  | .cr cs i=>some (st.put o.dst (.cr cs i))
  | _=>none
 | .binOp op t x y _=>val (so c t op (ct c st t x) (ct c st t y))
 | .unOp op _ x=>val (ZZ op (ev x))
 | .convert src dst x=>match wZ c st src dst (ct c st src x) with
  | some (d,none)=>some (st.put o.dst d)
  | some (_,some cs)=>st.root o.dst cs (fun d=>.ref d [] 0 none)
  | none=>none
 | .makeFunc (.func f) first gY=>if first.size=0/\(gY.toList.map ev).all single=true then some (st.put o.dst (.fn f (gY.toList.map ev))) else none
 | .makeSlice t l cp=>match c.ty t with
  | some ⟨.slice e,_,_,_⟩=>match c.ty e,ev l,ev cp with
   | some ei,.int _ l,.int _ cp=>if 0<=l then (if l<=cp then (if 0 < ei.bytes/\cp*ei.bytes<=140737488355328 then st.root o.dst [.sl none ei.size l.toNat (fa l.toNat ei.zero)] (fun d=>.ref d [] 0 none) else none) else none) else none
   | _,_,_=>none
  | _=>none
 | .slice t x l h none=>val (Bj c st t (ct c st t x) (l.map ev) (h.map ev))
 | .fieldAddr s x f=>match c.ty s with
  | some ⟨.struct mo szs,_,_,_⟩=>match mo[f]? with
   | some k=>val (yr st k (ev x))
   | none=>none
  | _=>none
 | .indexAddr t x i=>match ev i with
  | .int _ i=>val (q9 st c t (ct c st t x) i)
  | _=>none
 | .index t x i=>match ev i with
  | .int _ i=>val (yt c t (ev x) i)
  | _=>none
 | .extract x i=>match ev x with
  | .aM vs=>val vs[i]?
  | _=>none
 | .call cc=>if cc.args.size≠cc.argTypes.size then none else
  let args:=(cc.args.toList.zip cc.argTypes.toList).map fun p=>ct c st p.2 p.1
  match cc.callee with
  | .value f=>match ev f with
   | .fn g gY=>if c.inl g then (match ci g (args++gY) ((st.of+o.dst.getD 0+1)*100000) st with
     | some (d,st')=>some (st'.put o.dst d)
     | none=>none) else kT c cl st o.dst g (args++gY)
   | _=>none
  | .builtin .len=>match args,cc.argTypes.toList with
   | [x],[t]=>val (OE c st t x)
   | _,_=>none
  | .builtin .min=>match args with
   | [.int k a,.int _ b]=>some (st.put o.dst (.int k (if b < a then b else a)))
   | _=>none
  | .builtin .max=>match args with
   | [.int k a,.int _ b]=>some (st.put o.dst (.int k (if b>a then b else a)))
   | _=>none
  | .builtin .append=>match args,cc.argTypes.toList with
   | [s,x],[t,tx]=>su c st t tx o.dst s x
   | _,_=>none
  | .builtin .clear=>match args,cc.argTypes.toList with
   | [x],[t]=>match Bl c st t x with
    | some st'=>some (st'.put o.dst (.aM []))
    | none=>none
   | _,_=>none
  | _=>none
 | _=>none
def adO (x:Nat):Operand->Nat
 | .tmp v=>v+500000
 | _=>x
def Jf (c:cA) (aA:FuncId) (o:Oper):Option Nat:=
 match o.op with
 | .store _ (.tmp x) _=>(match c.base aA x with
  | some (s+1)=>if s=999999 then none else some s
  | _=>none)
 | _=>none
def adP (st:St) (s:Nat):Bool:=
 match st.get s with
 | .ptr r [] _=>r==st.of+s&&decide (r < 10000)
 | _=>false
def Di (c:cA) (aA:FuncId) (o:Oper):List Nat:=
 match o.op with
 | .store _ (.tmp x) y=>c.nY aA (adO x y)
 | .call cc=>(match cc.callee,o.dst with
  | .builtin .append,some d=>c.nY aA d
  | _,_=>[])
 | _=>[]
def vB (c:cA) (aA:FuncId) (st:St) (o:Oper):Bool:=
 match o.op with
 | .load _ (.tmp x)=>(match c.base aA x with
  | none=>true
  | some 0=>(match st.get x with
   | .cr _ _=>true
   | _=>false)
  | some (r+1)=>if r=999999 then (match st.get x with
    | .ptr r' (p::q) _=>live st r' (p::q)&&(c.nY aA x).all fun s=>adP st s
    | _=>false) else (match st.get x with
   | .ptr r' [] _=>r'==st.of+r&&decide (r' < 10000)
   | _=>false))
 | .store _ (.tmp x) y=>(match Jf c aA o with
  | some s=>(match st.get x with
   | .ptr r' [] _=>r'==st.of+s&&live st r' []
   | _=>false)
  | none=>true)&&(match c.nY aA (adO x y) with
  | []=>true
  | l=>(match st.get x with
   | .ptr r' q _=>live st r' q&&l.all fun r=>(lk st.rt (st.of+r)).isSome&&r' !=st.of+r
   | _=>false))
 | _=>(Di c aA o).all fun r=>(lk st.rt (st.of+r)).isSome
def zB (st:St) (ops:Array Oper) (o:Oper):Option Bool:=
 match o.guard with
 | none=>some true
 | some (j,want)=>match (ops[j]?).bind (·.dst) with
  | some t=>match st.get t with
   | .bool b=>some (b==want)
   | .aM []=>some false
   | _=>none
  | none=>some false
def vC (c:cA) (cl:FuncId->List D->Option (D × List D)) (ci:FuncId->List D->Nat->St->Option (D × St)) (aA:FuncId) (all:Array Oper):List Oper->St->Option St
 | [],st=>some st
 | o::rest,st=>match zB st all o with
  | some true=>if vB c aA st o then (match fb c cl ci aA st o with
   | some st'=>vC c cl ci aA all rest st'
   | none=>none) else none
  | some false=>vC c cl ci aA all rest (st.put o.dst (.aM []))
  | none=>none
def iK (c:cA) (cl:FuncId->List D->Option (D × List D)) (ci:FuncId->List D->Nat->St->Option (D × St)) (aA:FuncId) (all:Array Oper):List Nat->St->Option St
 | [],st=>some st
 | i::rest,st=>match all[i]? with
  | none=>iK c cl ci aA all rest st
  | some o=>match zB st all o with
   | some true=>if vB c aA st o then (match fb c cl ci aA st o with
    | some st'=>iK c cl ci aA all rest st'
    | none=>none) else none
   | some false=>iK c cl ci aA all rest (st.put o.dst (.aM []))
   | none=>none
def nJ (c:cA) (o:Oper):Option Bool:=
 match o.op with
 | .move _ | .assign _ | .pick .. | .binOp .. | .unOp .. | .makeFunc .. | .slice .. | .fieldAddr .. | .indexAddr .. | .index .. | .extract .. | .build .. | .nilCheck _=>some true
 | .load ..=>some false
 | .convert _ d _=>(match c.ty d with
  | some ⟨.slice _,_,_,_⟩=>none
  | some _=>some false
  | none=>none)
 | .call cc=>(match cc.callee with
  | .builtin .len | .builtin .min | .builtin .max=>some true
  | _=>none)
 | _=>none
def sa (o:Oper):Bool:=
 match o.op with
 | .alloc _ | .box .. | .makeSlice .. | .buildSlice ..=>true
 | _=>false
def w5 (c:cA) (o:Oper):Bool:=
 (nJ c o).isSome||sa o||(match o.op with
  | .call cc=>(match cc.callee with
   | .value (.func f)=>!c.inl f&&!(c.own f).any id
   | _=>false)
  | _=>false)
def kbO (c:cA) (aA:FuncId) (r:Nat) (o:Oper):Bool:=w5 c o||(Di c aA o).contains r
def waits (ops:Array Oper):Nat->Nat->Nat->Bool
 | 0,_,_=>false
 | n+1,j,i=>match ops[j]? with
  | some o=>o.after.toList.any fun e=>Region.binds .any e&&(e.on==i||waits ops n e.on i)
  | none=>false
def w6 (c:cA) (aA:FuncId) (oi:Oper) (b:Bool) (oj:Oper):Bool:=
 b||(match oi.op with
  | .load _ (.tmp x)=>(match c.base aA x with
   | some 0=>true
   | some (r+1)=>if r=999999 then w5 c oj||(match Jf c aA oj with
    | some s=>(c.nY aA x).contains s
    | none=>false) else kbO c aA r oj
   | none=>w5 c oj)
  | _=>w5 c oj)
def Og (c:cA) (aA:FuncId) (ops:Array Oper) (oi:Oper):Bool:=
 match oi.op with
 | .load _ (.tmp x)=>(match c.base aA x with
  | some (r+1)=>if r=999999 then (c.nY aA x).all fun s=>ops.toList.all fun o=>o.dst !=some s else ops.toList.all fun o=>o.dst !=some r
  | _=>true)
 | _=>true
def OF (c:cA) (aA:FuncId) (ops:Array Oper) (cf:Array Bool) (i:Nat):Bool:=
 match ops[i]? with
 | none=>false
 | some oi=>match nJ c oi with
  | none=>false
  | some b=>Og c aA ops oi&&(List.range ops.size).all fun j=>j==i||cf.getD j true||waits ops ops.size j i||(match ops[j]? with
   | some oj=>oi.apart ops oj&&w6 c aA oi b oj
   | none=>true)
def Lh (c:cA) (o:Oper):Option (List D × Bool):=
 match o.op with
 | .alloc e=>(match c.ty e with
  | some i=>some (i.zero,true)
  | none=>none)
 | .makeSlice t (.const l) (.const cp)=>(match c.ty t with
  | some ⟨.slice e,_,_,_⟩=>(match c.ty e,Dg c o.type l,Dg c o.type cp with
   | some ei,.int _ l,.int _ cp=>if 0<=l/\l<=cp/\0 < ei.bytes/\cp*ei.bytes<=140737488355328 then some ([.sl none ei.size l.toNat (fa l.toNat ei.zero)],false) else none
   | _,_,_=>none)
  | _=>none)
 | .buildSlice t n ps=>(match c.ty t with
  | some ⟨.slice e,_,_,_⟩=>(match c.ty e with
   | some ei=>if n=0/\ps.size=0 then some ([.sl none ei.size 0 []],false) else none
   | none=>none)
  | _=>none)
 | _=>none
def eaO (c:cA) (o:Oper):Bool:=o.guard.isNone&&o.dst.isSome&&(Lh c o).isSome
def OG (c:cA) (ops:Array Oper) (cf:Array Bool) (rs:List Nat) (h:Nat):Bool:=
 match ops[h]? with
 | none=>false
 | some oh=>(List.range ops.size).all fun j=>j==h||cf.getD j true||waits ops ops.size j h||(match ops[j]? with
  | some oj=>eaO c oj&&rs.contains j&&oj.apart ops oh&&(List.range ops.size).all fun k=>k==j||cf.getD k true||(match ops[k]? with
   | some ok=>oj.apart ops ok||waits ops ops.size k j
   | none=>true)
  | none=>true)
def tk (c:cA) (aA:FuncId) (ops:Array Oper):Nat->Array Bool->Option (List Nat)
 | 0,cf=>match Region.ready .any ops cf with
  | []=>some []
  | _=>none
 | k+1,cf=>match Region.ready .any ops cf with
  | []=>some []
  | r::rs=>match (r::rs).find? (OF c aA ops cf) with
   | some i=>(match tk c aA ops k (cf.setIfInBounds i true) with
    | some l=>some (i::l)
    | none=>none)
   | none=>match (r::rs).find? (OG c ops cf (r::rs)) with
    | some h=>(match tk c aA ops k (cf.setIfInBounds h true) with
     | some l=>some (h::l)
     | none=>none)
    | none=>none
def sv (B:List Nat) (st:St) (r:Nat):Nat->Nat->Option St
 | _,0=>some st
 | o,k+1=>
  match st.cell r [] o with
  | some (.ref r' q' o' x)=>if (!q'.isEmpty||B.contains r')=true then sv B st r (o+1) k else
   (match jh st (.ref r' q' o' x) with
    | some (d',aQ)=>match (aQ.eZ (cB r [] o true)).gZ r [] o d' with
     | some cu=>sv B (cu.tj (.ref r' q' o' x) r [] o) r (o+1) k
     | none=>none
    | none=>none)
  | _=>sv B st r (o+1) k
def Li (B:List Nat) (st:St) (r:Nat):Option St:=
 match lk st.rt r with
 | some cs=>sv B st r 0 cs.length
 | none=>some st
def Te (B:List Nat) (st:St) (t:Nat):Option St:=
 match st.get t with
 | .ref r [] o x=>if r=10000+st.of+t∨B.contains r=true then some st else
  match jh st (.ref r [] o x) with
  | some (d',aQ)=>
   let cu:=(aQ.eZ (cH (10000+st.of+t))).tj (.ref r [] o x) (10000+st.of+t) [] 0
   some { cu with tm:=pz cu.tm t (.ref (10000+st.of+t) [] 0 none),rt:=pz cu.rt (10000+st.of+t) [d'] }
  | none=>none
 | _=>some st
def Dj (f:St->Nat->Option St):St->List Nat->Option St
 | st,[]=>some st
 | st,t::ts=>match f st t with
  | some st'=>Dj f st' ts
  | none=>none
def uS {α:Type} (l:List (Nat × α)):List Nat->List (Nat × α)
 | []=>[]
 | t::ts=>match lk l t with
  | some v=>(t,v)::uS l ts
  | none=>uS l ts
def below {α:Type} (k:Nat):List (Nat × α)->List (Nat × α)
 | []=>[]
 | (j,v)::t=>if (k<=j/\j < k+100000)∨((k+1)*100000<=j/\j < (k+100001)*100000) then below k t else (j,v)::below k t
def Dk (L B:List Nat) (st:St):Option St:=
 let bs:=B.map (st.of+·)++L.filterMap fun t=>match st.get t with
  | .ptr r [] _=>some r
  | _=>none
 match Dj (Li bs) st bs with
 | some aQ=>match Dj (Te bs) aQ L with
  | some cu=>some { cu with tm:=uS cu.tm L,rt:=below st.of cu.rt++uS cu.rt ((B++L.map (10000+·)).map (st.of+·)) }
  | none=>none
 | none=>none
def uT (nm:St->Option St) (body:St->Option (Exit × St)):Nat->St->Option (Exit × St)
 | 0,_=>none
 | k+1,st=>match nm st with
  | some aQ=>match body aQ with
   | some (.normal,cu)=>uT nm body k cu
   | r=>r
  | none=>none
def eW (c:cA) (cl:FuncId->List D->Option (D × List D)) (ci:FuncId->List D->Nat->St->Option (D × St)) (K:Nat) (aA:FuncId):Code->Nat->St->Option (Exit × St)
 | .skip,_,st=>some (.normal,st)
 | .region _ ops false,_,st=>match vC c cl ci aA ops ops.toList st with
  | some st'=>some (.normal,st')
  | none=>none
 | .region _ ops true,_,st=>match tk c aA ops ops.size (Array.replicate ops.size false) with
  | some l=>(match iK c cl ci aA ops l st with
   | some st'=>some (.normal,st')
   | none=>none)
  | none=>none
 | .seq a b,i,st=>match eW c cl ci K aA a i st with
  | some (.normal,st')=>eW c cl ci K aA b i st'
  | r=>r
 | .cond x a b,i,st=>match ct c st 0 x with
  | .bool t=>if t then eW c cl ci K aA a i st else eW c cl ci K aA b i st
  | _=>none
 | .block id a,_,st=>match eW c cl ci K aA a id st with
  | some (.exit vD,st')=>if vD=id then some (.normal,st') else some (.exit vD,st')
  | r=>r
 | .loop a,i,st=>uT (match c.nm aA i with | some (L,B)=>Dk L B | none=>some) (eW c cl ci K aA a i) K st
 | .exit id,_,st=>some (.exit id,st)
 | .ret,_,st=>some (.ret,st)
 | _,_,_=>none
def oc (n:Nat):Nat->List D->St->St
 | _,[],st=>st
 | i,d::ds,st=>
  oc n (i+1) ds (match d with
   | .aZ cs=>{ st with tm:=pz st.tm i (.ptr (n+i) [] 0),rt:=pz st.rt (n+i) cs }
   | d=>if (dq d).any jg then { st with tm:=pz st.tm i (Df (n+i) d),rt:=pz st.rt (n+i) (dq d) } else { st with tm:=pz st.tm i d })
def xX (c:cA) (st:St):List ResultVar->Option (List D)
 | []=>some []
 | .tmp t::rs=>match xX c st rs with
  | some ds=>some (st.get t::ds)
  | none=>none
 | .cell a t::rs=>match c.ty t with
  | some i=>match q8 st (kN i.ty) i.size (st.get a) with
   | some d=>match xX c st rs with
    | some ds=>some (d::ds)
    | none=>none
   | none=>none
  | none=>none
def eS:D->Bool
 | .aZ _=>true
 | d=>(dq d).any jg
def oY (st:St) (r:Nat) (d:D):Option D:=
 if eS d then
  match d with
  | .aZ _=>some (.ptr r [] 0)
  | .agg _=>match lk st.rt r with
   | some cs=>some (.agg (lW r [] 0 cs))
   | none=>none
  | _=>match lk st.rt r with
   | some [d']=>some (gP r [] 0 d')
   | _=>none
 else none
def pY (n:Nat):Nat->List D->St->Option (List D)
 | _,[],_=>some []
 | i,d::ds,st=>
  match oY st (n+i) d with
  | none=>match pY n (i+1) ds st with
   | some os=>some (.undef::os)
   | none=>none
  | some v=>match En st v with
   | some (o,st')=>match pY n (i+1) ds st' with
    | some os=>some (o::os)
    | none=>none
   | none=>none
def oZ:List D->D
 | [d]=>d
 | ds=>.aM ds
def yu:Nat->List D->List (Nat × D)
 | _,[]=>[]
 | i,d::ds=>(i,d)::yu (i+1) ds
def vE:Exit->Bool
 | .normal | .ret=>true
 | _=>false
def vF (n k:Nat):Bool:=decide (k<=n)&&decide (n+k<=10000)
def Tf:D->Bool
 | .aM _=>false
 | _=>true
def Oh (c:cA) (P:Program) (cl:FuncId->List D->Option (D × List D)) (ci:FuncId->List D->Nat->St->Option (D × St)) (K:Nat) (f:FuncId) (args:List D):Option (D × List D):=
 match c.ext f with
 | some e=>e args
 | none=>match P.funcs[f]? with
  | some fn=>match fn.body with
   | some body=>match eW c cl ci K f body 0 (oc fn.ntmps 0 args ⟨[],[],[],0⟩) with
    | some (x,st)=>if vE x&&vF fn.ntmps args.length then (match xX c st fn.results.toList with
     | some ds=>match OC st ds with
      | some (ds',st')=>match pY fn.ntmps 0 args st' with
       | some os=>some (oZ ds',os)
       | none=>none
      | none=>none
     | none=>none) else none
    | none=>none
   | none=>none
  | none=>none
def XP (c:cA) (P:Program) (cl:FuncId->List D->Option (D × List D)) (ci:FuncId->List D->Nat->St->Option (D × St)) (K:Nat) (f:FuncId) (args:List D) (of:Nat) (st:St):Option (D × St):=
 match P.funcs[f]? with
 | some fn=>match fn.body with
  | some body=>match eW c cl ci K f body 0 ⟨yu 0 args,st.rt,st.tm::st.up,of⟩ with
   | some (x,aQ)=>if vE x&&vF fn.ntmps args.length then (match xX c aQ fn.results.toList,aQ.up with
    | some ds,tm::up=>if ds.all Tf then some (oZ ds,⟨tm,aQ.rt,up,st.of⟩) else none
    | _,_=>none) else none
   | none=>none
  | none=>none
 | none=>none
def forget:List Bool->List D->List D
 | true::b,.aZ cs::os=>.aZ cs::forget b os
 | true::b,_::os=>.undef::forget b os
 | false::b,o::os=>o::forget b os
 | _,os=>os
def UO (b:List Bool):Option (D × List D)->Option (D × List D)
 | some (r,os)=>some (r,forget b os)
 | none=>none
def zC (c:cA) (P:Program) (cl:FuncId->List D->Option (D × List D)) (ci:FuncId->List D->Nat->St->Option (D × St)) (K:Nat) (f:FuncId) (args:List D):Option (D × List D):=
 match c.ext f with
 | some e=>e args
 | none=>UO (c.gone f) (Oh c P cl ci K f args)
def od (c:cA) (P:Program):Nat->(FuncId->List D->Option (D × List D)) × (FuncId->List D->Nat->St->Option (D × St))
 | 0=>(fun _ _=>none,fun _ _ _ _=>none)
 | k+1=>(zC c P (od c P k).1 (od c P k).2 k,XP c P (od c P k).1 (od c P k).2 k)
def Tg (c:cA) (P:Program) (k:Nat):FuncId->List D->Option (D × List D):=(od c P k).1
inductive T where
 | v (d:D) (u:Value)
 | own (s n cap:Nat) (a:Option (Nat × Nat)) (cs:List T)
 deriving Inhabited
def bS:D->D
 | .sl none _ _ _=>.undef
 | d=>d
def uF (a:Option (Nat × Nat)) (n cap:Nat):Value:=.slice (a.map fun p=>⟨p.1,p.2,none⟩) n cap
def T.val:T->Value
 | .v _ u=>u
 | .own _ n cap a _=>uF a n cap
mutual
def T.er:T->D
 | .v d _=>bS d
 | .own s n _ _ cs=>.sl none s n (ba cs)
def ba:List T->List D
 | []=>[]
 | t::ts=>t.er::ba ts
end
def fG:Option (Nat × Nat)->List Nat
 | some (b,_)=>[b]
 | none=>[]
mutual
def T.ft:T->List Nat
 | .v _ _=>[]
 | .own _ _ _ a cs=>fG a++ai cs
def ai:List T->List Nat
 | []=>[]
 | t::ts=>t.ft++ai ts
end
def ax:List T->List Value
 | []=>[]
 | t::ts=>t.val::ax ts
theorem eO (ts:List T):ba ts=ts.map T.er:=by
 induction ts with
 | nil=>rfl
 | cons t ts ih=>simp [ba,ih]
theorem cK (ts:List T):ax ts=ts.map T.val:=by
 induction ts with
 | nil=>rfl
 | cons t ts ih=>simp [ax,ih]
theorem og (ts:List T):ai ts=(ts.map T.ft).flatten:=by
 induction ts with
 | nil=>rfl
 | cons t ts ih=>simp [ai,ih]
theorem iL (ts:List T) (o:Nat):(ba ts)[o]?=(ts[o]?).map T.er:=by simp [eO]
theorem fu (ts:List T):(ba ts).length=ts.length:=by simp [eO]
theorem qf (a b:List T):ba (a++b)=ba a++ba b:=by simp [eO]
theorem OI (ts:List T) (o:Nat) (t:T):(ba ts).set o t.er=ba (ts.set o t):=by
 simp [eO,aer]
theorem fq (ts:List T) (o:Nat):(ax ts)[o]?=(ts[o]?).map T.val:=by simp [cK]
theorem bV (ts:List T):(ax ts).length=ts.length:=by simp [cK]
theorem qy (ts:List T) (o:Nat) (t:T):ax (ts.set o t)=(ax ts).set o t.val:=by simp [cK,aer]
theorem tF (a b:List T):ax (a++b)=ax a++ax b:=by simp [cK]
theorem bd (a b:List T):ai (a++b)=ai a++ai b:=by simp [og]
theorem w7 (ts:List T) (k:Nat):(ba ts).drop k=ba (ts.drop k):=by simp [eO,ae4]
theorem w8 (ts:List T) (k:Nat):(ba ts).take k=ba (ts.take k):=by simp [eO,ae7]
theorem vG {t:T} {s n:Nat} {cs:List D} (h:t.er=.sl none s n cs):∃ cap a ts,t=.own s n cap a ts/\cs=ba ts:=by
 cases t with
 | v d u=>
  simp only [T.er] at h;cases d<;>simp only [bS] at h<;>try cases h
  rename_i g _ _ _;cases g<;>simp at h
 | own s' n' cap a ts=>
  simp only [T.er,D.sl.injEq] at h;obtain ⟨_,rfl,rfl,rfl⟩:=h;exact ⟨cap,a,ts,rfl,rfl⟩
def ay:List T->List Nat->Option (List T)
 | cs,[]=>some cs
 | cs,o::q=>match cs[o]? with
  | some (.own _ _ _ _ xs)=>ay xs q
  | _=>none
def dL (f:List T->List T):List T->List Nat->Option (List T)
 | cs,[]=>some (f cs)
 | cs,o::q=>match cs[o]? with
  | some (.own s n cap a xs)=>match dL f xs q with
   | some kS=>some (cs.set o (.own s n cap a kS))
   | none=>none
  | _=>none
def bZ (b:Option Nat):List T->List Nat->Option (Nat × Nat)
 | _,[]=>b.map fun k=>(k,0)
 | cs,o::q=>match cs[o]? with
  | some (.own _ _ _ a xs)=>(match q with | []=>a | _=>bZ none xs q)
  | _=>none
theorem OJ (q:List Nat):∀ cs:List T,jS (ba cs) q=(ay cs q).map ba:=by
 induction q with
 | nil=>intro cs; rfl
 | cons o q ih=>
  intro cs;simp only [jS,ay,iL];cases h:cs[o]? with
  | none=>simp
  | some t=>
   cases t with
   | v d u=>
    cases d<;>simp [T.er,bS]
    rename_i g _ _ _;cases g<;>simp
   | own s n cap a xs=>simp [T.er,ih]
theorem adS (q:List Nat) (o:Nat) (t:T):∀ cs:List T,oX (fun l=>l.set o t.er) (ba cs) q=(dL (fun l=>l.set o t) cs q).map ba:=by
 induction q with
 | nil=>intro cs; simp [oX,dL,OI]
 | cons p q ih=>
  intro cs;simp only [oX,dL,iL];cases h:cs[p]? with
  | none=>simp
  | some x=>
   cases x with
   | v d u=>
    cases d<;>simp [T.er,bS]
    rename_i g _ _ _;cases g<;>simp
   | own s n cap a xs=>
    simp only [OB,T.er,ih];cases hm:dL (fun l=>l.set o t) xs q with
    | none=>simp
    | some kS=>
     simp only [OB];rw [<- OI]; simp [T.er]
theorem OK {q:List Nat} {f:List T->List T}:∀ {cs l:List T},ay cs q=some l->∃ cs',dL f cs q=some cs':=by
 induction q with
 | nil=>intro cs l _; exact ⟨_,rfl⟩
 | cons p q ih=>
  intro cs l h;simp only [ay] at h;simp only [dL];cases hp:cs[p]? with
  | none=>simp [hp] at h
  | some x=>
   cases x with
   | v d u=>simp [hp] at h
   | own s n cap a xs=>
    simp only [hp] at h;obtain ⟨kS,hx⟩:=ih h;exact ⟨cs.set p (.own s n cap a kS),by simp [hx]⟩
theorem om {q:List Nat} {f:List T->List T}:∀ {cs cs':List T},dL f cs q=some cs'->∃ l,ay cs q=some l/\ay cs' q=some (f l):=by
 induction q with
 | nil=>
  intro cs cs' h;simp only [dL,jf] at h;exact ⟨cs,rfl,by rw [<- h]; rfl⟩
 | cons p q ih=>
  intro cs cs' h;simp only [dL] at h;cases hp:cs[p]? with
  | none=>simp [hp] at h
  | some x=>
   cases x with
   | v d u=>simp [hp] at h
   | own s n cap a xs=>
    simp only [hp] at h;cases hm:dL f xs q with
    | none=>simp [hm] at h
    | some kS=>
     simp only [hm,jf] at h;obtain ⟨l,h1,h2⟩:=ih hm;refine ⟨l,by simp [ay,hp,h1],?_⟩
     have hl:p < cs.length:=(aaa.1 hp).1;rw [<- h];simp [ay,hl,h2]
theorem mM {p:Nat} {q:List Nat} {f:List T->List T} {cs cs':List T} (h:dL f cs (p::q)=some cs'):ax cs'=ax cs/\cs'.length=cs.length:=by
 simp only [dL] at h;cases hp:cs[p]? with
 | none=>simp [hp] at h
 | some x=>
  cases x with
  | v d u=>simp [hp] at h
  | own s n cap a xs=>
   simp only [hp] at h;cases hm:dL f xs q with
   | none=>simp [hm] at h
   | some kS=>
    simp only [hm,jf] at h;subst h;obtain ⟨hl,hx⟩:=aaa.1 hp;refine ⟨?_,by simp⟩
    rw [qy];apply abN;intro j;by_cases hj:p=j
    ·subst hj;rw [aaE (by rw [bV]; exact hl),fq,hp]; rfl
    ·simp [hj]
theorem dU (cs:List T) (o:Nat) (t:T) (h:cs[o]?=some t):∃ A B,ai cs=A++t.ft++B/\∀ t':T,ai (cs.set o t')=A++t'.ft++B:=by
 induction cs generalizing o with
 | nil=>simp at h
 | cons x xs ih=>
  cases o with
  | zero=>
   simp only [aaz,jf] at h;subst h;exact ⟨[],ai xs,by simp [ai],fun t'=>by simp [ai]⟩
  | succ o=>
   simp only [aaZ] at h;obtain ⟨A,B,h1,h2⟩:=ih o h;exact ⟨x.ft++A,B,by simp [ai,h1],fun t'=>by simp [ai,h2]⟩
theorem Gx {q:List Nat}:∀ {cs l:List T},ay cs q=some l->∃ A B,ai cs=A++ai l++B/\∀ f cs',dL f cs q=some cs'->ai cs'=A++ai (f l)++B:=by
 induction q with
 | nil=>
  intro cs l h;simp only [ay,jf] at h;subst h;refine ⟨[],[],by simp,fun f cs' h=>?_⟩
  simp only [dL,jf] at h;simp [<- h]
 | cons p q ih=>
  intro cs l h;simp only [ay] at h;cases hp:cs[p]? with
  | none=>simp [hp] at h
  | some x=>
   cases x with
   | v d u=>simp [hp] at h
   | own s n cap a xs=>
    simp only [hp] at h;obtain ⟨A,B,h1,h2⟩:=ih h;obtain ⟨A',B',h3,h4⟩:=dU cs p _ hp;refine ⟨A'++fG a++A,B++B',by rw [h3]; simp [T.ft,h1],fun f cs' hm=>?_⟩
    simp only [dL,hp] at hm;cases hx:dL f xs q with
    | none=>simp [hx] at hm
    | some kS=>
     simp only [hx,jf] at hm;rw [<- hm,h4];simp [T.ft,h2 f kS hx]
theorem Th {q:List Nat} {o:Nat} {cs l:List T} {t:T} (h:ay cs q=some l) (ht:l[o]?=some t):
  ∃ A B,ai cs=A++t.ft++B/\∀ t' cs',dL (fun l=>l.set o t') cs q=some cs'->ai cs'=A++t'.ft++B:=by
 obtain ⟨A,B,h1,h2⟩:=Gx h;obtain ⟨A',B',h3,h4⟩:=dU l o t ht;refine ⟨A++A',B'++B,by rw [h1,h3]; simp,fun t' cs' hm=>?_⟩
 rw [h2 _ _ hm,h4]; simp
structure RT where
 box:Option Nat
 cs:List T
def RT.ft (r:RT):List Nat:=r.box.toList++ai r.cs
def cM:List (Nat × RT)->List Nat
 | []=>[]
 | (_,r)::t=>r.ft++cM t
theorem cJ {α:Type} (l:List (Nat × α)) (k:Nat) (v:α):lk (pt l k v) k=some v:=by
 induction l with
 | nil=>simp [pt,lk]
 | cons e t ih=>
  obtain ⟨j,u⟩:=e;simp only [pt];split
  ·simp [lk]
  ·rename_i h; simp [lk,h,ih]
theorem dJ {α:Type} (l:List (Nat × α)) {k j:Nat} (v:α) (h:j≠k):lk (pt l k v) j=lk l j:=by
 induction l with
 | nil=>simp [pt,lk,aeR h]
 | cons e t ih=>
  obtain ⟨i,u⟩:=e;simp only [pt];split
  ·rename_i hi; subst hi; simp [lk,aeR h]
  ·simp only [lk]; split<;>simp [ih]
theorem hD {α:Type} (l:List (Nat × α)) (k:Nat) (v:α):lk (pz l k v) k=some v:=by
 induction l with
 | nil=>simp [pz,lk]
 | cons e t ih=>
  obtain ⟨j,u⟩:=e;simp only [pz];split
  ·rename_i h; simp [lk,Nat.ne_of_lt h,ih]
  ·split<;>simp [lk]
theorem qg {α:Type} (l:List (Nat × α)) {k j:Nat} (v:α) (h:j≠k):lk (pz l k v) j=lk l j:=by
 induction l with
 | nil=>simp [pz,lk,aeR h]
 | cons e t ih=>
  obtain ⟨i,u⟩:=e;simp only [pz];split
  ·simp only [lk]; split<;>simp [ih]
  ·split
   ·rename_i hi; subst hi; simp [lk,aeR h]
   ·simp [lk,aeR h]
theorem Fb {α:Type}:∀ (l:List (Nat × α)) (k:Nat) (u v:α),pz (pz l k u) k v=pz l k v
 | [],k,u,v=>by simp [pz]
 | (j,w)::t,k,u,v=>by
  simp only [pz];split
  ·rename_i h;simp only [pz,if_pos h,Fb t k u v]
  ·rename_i h;split
   ·simp [pz]
   ·simp [pz]
def gS (l:List (Nat × List D)) (S:List (Nat × RT)):Prop:=∀ k,lk l k=(lk S k).map fun r=>ba r.cs
theorem Dl {l:List (Nat × List D)} {S:List (Nat × RT)} (h:gS l S) (k:Nat) (r:RT):gS (pz l k (ba r.cs)) (pt S k r):=by
 intro j;by_cases hj:j=k
 ·subst hj; rw [hD,cJ]; rfl
 ·rw [qg _ _ hj,dJ _ _ hj]; exact h j
theorem kU {S:List (Nat × RT)} {k:Nat} {r:RT} (h:lk S k=some r):∃ A B,cM S=A++r.ft++B/\∀ r',cM (pt S k r')=A++r'.ft++B:=by
 induction S with
 | nil=>simp [lk] at h
 | cons e t ih=>
  obtain ⟨j,u⟩:=e;simp only [lk] at h;by_cases hj:j=k
  ·simp only [hj,if_true,jf] at h;subst h;exact ⟨[],cM t,by simp [cM],fun r'=>by simp [pt,hj,cM]⟩
  ·simp only [hj,if_false] at h;obtain ⟨A,B,h1,h2⟩:=ih h;exact ⟨u.ft++A,B,by simp [cM,h1],fun r'=>by simp [pt,hj,cM,h2]⟩
theorem Ti {S:List (Nat × RT)} {k:Nat} (h:lk S k=none) (r:RT):cM (pt S k r)=cM S++r.ft:=by
 induction S with
 | nil=>simp [pt,cM]
 | cons e t ih=>
  obtain ⟨j,u⟩:=e;simp only [lk] at h;by_cases hj:j=k
  ·simp [hj] at h
  ·simp only [hj,if_false] at h;simp [pt,hj,cM,ih h]
def Unf (fz:Nat × Nat) (n:Nat):Prop:=∀ o,o<=n->¬ (fz.1<=o/\o < fz.2)
def lR (w:World) (b off fr:Nat) (us:List Value):Prop:=
 ∃ c e fz,w.heap[b]?=some (.cells c e fz)/\Unf fz c.size/\off+fr<=c.size/\∀ j u,us[j]?=some u->c[off+j]?=some u
mutual
def Ext (w:World) (X:Bool->Nat->Prop):D->Value->Prop
 | .int k n,u=>u=.int k n
 | .bool b,u=>u=.bool b
 | .str s,u=>u=.string s
 | .nil _,u=>u=.slice none 0 0
 | .undef,_=>True
 | .hole _ _,_=>True
 | .sl (some g) s n cs,u=>∃ base cap us,u=.slice base n cap/\n<=cap/\cs.length=n*s/\gp w X cs us/\
  (cs=[]∨∃ k off c e fz,base=some ⟨k,off,none⟩/\X g k/\w.heap[k]?=some (.cells c e fz)/\∀ j v,us[j]?=some v->c[off+j]?=some v)
 | _,_=>False
def gp (w:World) (X:Bool->Nat->Prop):List D->List Value->Prop
 | [],us=>us=[]
 | d::ds,us=>∃ v vs,us=v::vs/\Ext w X d v/\gp w X ds vs
end
mutual
def bI (w:World) (X:Bool->Nat->Prop):T->Prop
 | .v d u=>Ext w X (bS d) u
 | .own s n cap a cs=>(n<=cap/\cap<=9223372036854775807)/\cs.length=n*s/\(match a with | none=>n=0/\cap=0 | some (b,off)=>lR w b off (cap*s) (ax cs))/\bJ w X cs
def bJ (w:World) (X:Bool->Nat->Prop):List T->Prop
 | []=>True
 | t::ts=>bI w X t/\bJ w X ts
end
section
variable {w w':World} {X X':Bool->Nat->Prop}
mutual
theorem gF (h:∀ b k,X b k->X' b k/\w'.heap[k]?=w.heap[k]?):∀ (d:D) (u:Value),Ext w X d u->Ext w' X' d u
 | .int _ _,_,hu=>hu
 | .bool _,_,hu=>hu
 | .str _,_,hu=>hu
 | .nil _,_,hu=>hu
 | .undef,_,_=>trivial
 | .hole _ _,_,_=>trivial
 | .sl (some g) s n cs,u,hu=>by
  simp only [Ext] at hu ⊢;obtain ⟨base,cap,us,h1,pJ,h2,h3,h4⟩:=hu;refine ⟨base,cap,us,h1,pJ,h2,tG h cs us h3,?_⟩;rcases h4 with h4 | ⟨k,off,c,e,fz,h5,h6,h7,h8⟩
  ·exact .inl h4
  ·exact .inr ⟨k,off,c,e,fz,h5,(h g k h6).1,by rw [(h g k h6).2]; exact h7,h8⟩
 | .sl none _ _ _,_,hu=>by simp [Ext] at hu
 | .ref ..,_,hu=>by simp [Ext] at hu
 | .agg _,_,hu=>by simp [Ext] at hu
 | .aM _,_,hu=>by simp [Ext] at hu
 | .fn ..,_,hu=>by simp [Ext] at hu
 | .ptr ..,_,hu=>by simp [Ext] at hu
 | .cr ..,_,hu=>by simp [Ext] at hu
 | .aZ _,_,hu=>by simp [Ext] at hu
theorem tG (h:∀ b k,X b k->X' b k/\w'.heap[k]?=w.heap[k]?):∀ (ds:List D) (us:List Value),gp w X ds us->gp w' X' ds us
 | [],_,hu=>hu
 | d::ds,us,hu=>by
  simp only [gp] at hu ⊢;obtain ⟨v,vs,h1,h2,h3⟩:=hu;exact ⟨v,vs,h1,gF h d v h2,tG h ds vs h3⟩
end
mutual
theorem dQ (h:∀ b k,X b k->X' b k/\w'.heap[k]?=w.heap[k]?):∀ (t:T),bI w X t->(∀ k∈t.ft,w'.heap[k]?=w.heap[k]?)->bI w' X' t
 | .v d u,hs,_=>by simp only [bI] at hs ⊢; exact gF h _ _ hs
 | .own s n cap a cs,hs,hf=>by
  simp only [bI] at hs ⊢;obtain ⟨h1,h2,h3,h4⟩:=hs;refine ⟨h1,h2,?_,gH h cs h4 (fun k hk=>hf k (by simp [T.ft,hk]))⟩
  cases a with
  | none=>exact h3
  | some p=>
   obtain ⟨b,off⟩:=p;obtain ⟨c,e,fz,hb,hr⟩:=h3;exact ⟨c,e,fz,by rw [hf b (by simp [T.ft,fG])]; exact hb,hr⟩
theorem gH (h:∀ b k,X b k->X' b k/\w'.heap[k]?=w.heap[k]?):∀ (ts:List T),bJ w X ts->(∀ k∈ai ts,w'.heap[k]?=w.heap[k]?)->bJ w' X' ts
 | [],_,_=>by simp [bJ]
 | t::ts,hs,hf=>by
  simp only [bJ] at hs ⊢;exact ⟨dQ h t hs.1 (fun k hk=>hf k (by simp [ai,hk])),gH h ts hs.2 (fun k hk=>hf k (by simp [ai,hk]))⟩
end
end
theorem cj {w:World} {X:Bool->Nat->Prop} (ts:List T):bJ w X ts↔∀ t∈ts,bI w X t:=by
 induction ts with
 | nil=>simp [bJ]
 | cons t ts ih=>simp [bJ,ih]
theorem gb {w:World} {X:Bool->Nat->Prop} {ts:List T} (h:bJ w X ts) {o:Nat} {t:T} (ho:ts[o]?=some t):bI w X t:=
 (cj ts).1 h t (aak ho)
theorem OL {w:World} {X:Bool->Nat->Prop} {ts:List T} (h:bJ w X ts) (o:Nat) {t:T} (ht:bI w X t):bJ w X (ts.set o t):=by
 rw [cj] at h ⊢;intro x hx;rcases afd hx with hx | rfl
 ·exact h x hx
 ·exact ht
theorem ea {w:World} {X:Bool->Nat->Prop} (a b:List T):bJ w X (a++b)↔bJ w X a/\bJ w X b:=by
 rw [cj,cj,cj];simp only [tD];exact ⟨fun h=>⟨fun t ht=>h t (.inl ht),fun t ht=>h t (.inr ht)⟩,fun h t ht=>ht.elim (h.1 t) (h.2 t)⟩
theorem w9 {w:World} {X:Bool->Nat->Prop} {q:List Nat}:∀ {cs l:List T},bJ w X cs->ay cs q=some l->bJ w X l:=by
 induction q with
 | nil=>
  intro cs l h hc;simp only [ay,jf] at hc;exact hc▸h
 | cons p q ih=>
  intro cs l h hc;simp only [ay] at hc;cases hp:cs[p]? with
  | none=>simp [hp] at hc
  | some x=>
   cases x with
   | v d u=>simp [hp] at hc
   | own s n cap a xs=>
    simp only [hp] at hc;have:=gb h hp;simp only [bI] at this;exact ih this.2.2.2 hc
theorem abZ {w:World} {X:Bool->Nat->Prop} {o:Nat} {t t':T} (ht:bI w X t') (hv:t'.val=t.val) {q:List Nat}:∀ {cs cs' l:List T},bJ w X cs->ay cs q=some l->l[o]?=some t->
  dL (fun l=>l.set o t') cs q=some cs'->bJ w X cs'/\ax cs'=ax cs:=by
 induction q with
 | nil=>
  intro cs cs' l h hc ho hm;simp only [ay,jf] at hc;simp only [dL,jf] at hm;subst hc; subst hm;refine ⟨OL h o ht,?_⟩;rw [qy,hv];apply abN;intro j;by_cases hj:o=j
  ·subst hj;obtain ⟨hl,_⟩:=aaa.1 ho;rw [aaE (by rw [bV]; exact hl),fq,ho]; rfl
  ·rw [aal hj]
 | cons p q ih=>
  intro cs cs' l h hc ho hm;refine ⟨?_,(mM hm).1⟩;simp only [ay] at hc;simp only [dL] at hm;cases hp:cs[p]? with
  | none=>simp [hp] at hc
  | some x=>
   cases x with
   | v d u=>simp [hp] at hc
   | own s n cap a xs=>
    simp only [hp] at hc hm;cases hx:dL (fun l=>l.set o t') xs q with
    | none=>simp [hx] at hm
    | some kS=>
     simp only [hx,jf] at hm;have hs:=gb h hp;simp only [bI] at hs;obtain ⟨h1,h2,h3,h4⟩:=hs;obtain ⟨h5,h6⟩:=ih h4 hc ho hx;have hl:kS.length=xs.length:=by have:=congrArg List.length h6; simpa [bV] using this
     rw [<- hm];refine OL h p ?_;simp only [bI];exact ⟨h1,by rw [hl]; exact h2,by rw [h6]; exact h3,h5⟩
def R7 (w w':World) (b i:Nat) (u:Value):Prop:=
 ∃ c e fz,w.heap[b]?=some (.cells c e fz)/\w'.heap[b]?=some (.cells (c.setIfInBounds i u) e fz)/\∀ k,k≠b->w'.heap[k]?=w.heap[k]?
theorem R8 {w w':World} {b i:Nat} {u:Value} (hu:R7 w w' b i u) {off fr o:Nat} {us:List Value} (hi:i=off+o) (hb:lR w b off fr us) (XQ:us.length<=fr):lR w' b off fr (us.set o u):=by
 obtain ⟨c,e,fz,h1,h2,h3⟩:=hu;obtain ⟨c',e',fz',h4,h5,h6,h7⟩:=hb;rw [h4] at h1;simp only [jf,Obj.cells.injEq] at h1;obtain ⟨rfl,rfl,rfl⟩:=h1;refine ⟨_,e',fz',h2,by simpa using h5,by simpa using h6,fun j v hj=>?_⟩
 subst hi;by_cases Lj:o=j
 ·subst Lj;by_cases hl:o < us.length
  ·rw [aaE hl] at hj;have dg:off+o < c'.size:=by omega
   rw [Array.getElem?_setIfInBounds_self_of_lt dg]; exact hj
  ·rw [aaD (by simpa using hl)] at hj
   simp at hj
 ·rw [aal Lj] at hj;rw [Array.getElem?_setIfInBounds_ne (by omega)]
  exact h7 j v hj
theorem Jg {w w':World} {b k i:Nat} {u:Value} (hu:R7 w w' b i u) (hk:k≠b) {off fr:Nat} {us:List Value} (hb:lR w k off fr us):lR w' k off fr us:=by
 obtain ⟨c,e,fz,h1,h2⟩:=hb;obtain ⟨_,_,_,_,_,h3⟩:=hu;exact ⟨c,e,fz,by rw [h3 k hk]; exact h1,h2⟩
theorem qh {q:List Nat}:∀ {cs:List T} {bx:Option Nat} {p b off:Nat},bZ bx cs (p::q)=some (b,off)->b∈ai cs:=by
 induction q with
 | nil=>
  intro cs bx p b off h;simp only [bZ] at h;cases hp:cs[p]? with
  | none=>simp [hp] at h
  | some x=>
   cases x with
   | v d u=>simp [hp] at h
   | own s n cap a xs=>
    simp only [hp] at h;obtain ⟨A,B,h1,_⟩:=dU cs p _ hp;rw [h1,T.ft,h]; simp [fG]
 | cons p' q ih=>
  intro cs bx p b off h;rw [bZ] at h;cases hp:cs[p]? with
  | none=>simp [hp] at h
  | some x=>
   cases x with
   | v d u=>simp [hp] at h
   | own s n cap a xs=>
    simp only [hp] at h;obtain ⟨A,B,h1,_⟩:=dU cs p _ hp;have:=ih h;rw [h1,T.ft]; simp [this]
theorem ab0 {w w':World} {X X':Bool->Nat->Prop} {o b off:Nat} {t':T} (hX:∀ b k,X b k->X' b k/\w'.heap[k]?=w.heap[k]?) (ht:bI w' X' t') (hu:R7 w w' b (off+o) t'.val) {q:List Nat}:
  ∀ {cs cs' l:List T} {bx:Option Nat} {p:Nat},bJ w X cs->(ai cs).Nodup->ay cs (p::q)=some l->bZ bx cs (p::q)=some (b,off)->o < l.length->
  dL (fun l=>l.set o t') cs (p::q)=some cs'->bJ w' X' cs':=by
 have Fc:∀ t:T,bI w X t->b∉t.ft->bI w' X' t:=fun t h hb=>dQ hX t h (fun k hk=>by
  obtain ⟨_,_,_,_,_,h3⟩:=hu;exact h3 k (fun e=>hb (e▸hk)))
 induction q with
 | nil=>
  intro cs cs' l bx p h hn hc ha ho hm;simp only [ay,dL,bZ] at hc hm ha;cases hp:cs[p]? with
  | none=>simp [hp] at hc
  | some x=>
   cases x with
   | v d u=>simp [hp] at hc
   | own s n cap a xs=>
    simp only [hp,jf] at hc hm ha;subst hc; subst ha; subst hm;obtain ⟨A,B,h1,h2⟩:=dU cs p _ hp;rw [h1] at hn;have hs:=gb h hp;simp only [bI] at hs;obtain ⟨h3,h4,h5,h6⟩:=hs;have Ll:(T.own s n cap (some (b,off)) xs).ft.Nodup:=((yq.1 (yq.1 hn).1).2.1);simp only [T.ft,fG,aao,aaq,abm] at Ll;rw [cj];intro t db;obtain ⟨j,hj⟩:=abe.1 db;by_cases uG:p=j
    ·subst uG;rw [aaE (aaa.1 hp).1,jf] at hj;subst hj;simp only [bI];refine ⟨h3,by simpa using h4,?_,?_⟩
     ·rw [qy];exact R8 hu rfl h5 (by rw [bV,h4]; exact aaQ _ h3.1)
     ·rw [cj];intro y hy;obtain ⟨i,hi⟩:=abe.1 hy;by_cases hio:o=i
      ·subst hio;rw [aaE ho,jf] at hi;exact hi▸ht
      ·rw [aal hio] at hi;refine Fc y (gb h6 hi) (fun hb=>Ll.1 ?_);obtain ⟨A',B',e1,_⟩:=dU xs i _ hi;rw [e1]; simp [hb]
    ·rw [aal uG] at hj;refine Fc t (gb h hj) (fun hb=>?_);have:b∈(T.own s n cap (some (b,off)) xs).ft:=by simp [T.ft,fG]
     rcases Nat.lt_or_gt_of_ne uG with dg | dg
     ·have h7:=h2 (.v .undef undef);have Gy:(cs.set p (.v .undef undef))[j]?=some t:=by rw [aal uG]; exact hj
      obtain ⟨A',B',e1,_⟩:=dU _ j t Gy;have fH:b∈ai (cs.set p (.v .undef undef)):=by rw [e1]; simp [hb]
      rw [h7] at fH;simp only [T.ft,aah,tD] at fH;rw [yq,yq] at hn;rcases fH with fH | fH
      ·exact hn.1.2.2 b fH b this rfl
      ·exact hn.2.2 b (tD.2 (.inr this)) b fH rfl
     ·have h7:=h2 (.v .undef undef);have Gy:(cs.set p (.v .undef undef))[j]?=some t:=by rw [aal uG]; exact hj
      obtain ⟨A',B',e1,_⟩:=dU _ j t Gy;have fH:b∈ai (cs.set p (.v .undef undef)):=by rw [e1]; simp [hb]
      rw [h7] at fH;simp only [T.ft,aah,tD] at fH;rw [yq,yq] at hn;rcases fH with fH | fH
      ·exact hn.1.2.2 b fH b this rfl
      ·exact hn.2.2 b (tD.2 (.inr this)) b fH rfl
 | cons p' q ih=>
  intro cs cs' l bx p h hn hc ha ho hm;rw [ay] at hc;rw [dL] at hm;rw [bZ] at ha;cases hp:cs[p]? with
  | none=>simp [hp] at hc
  | some x=>
   cases x with
   | v d u=>simp [hp] at hc
   | own s n cap a xs=>
    simp only [hp] at hc hm ha;cases hx:dL (fun l=>l.set o t') xs (p'::q) with
    | none=>simp [hx] at hm
    | some kS=>
     simp only [hx,jf] at hm;subst hm;obtain ⟨A,B,h1,h2⟩:=dU cs p _ hp;rw [h1] at hn;have hs:=gb h hp;simp only [bI] at hs;obtain ⟨h3,h4,h5,h6⟩:=hs;have Ll:(T.own s n cap a xs).ft.Nodup:=((yq.1 (yq.1 hn).1).2.1);have hb:=qh ha;have Z0:b∈(T.own s n cap a xs).ft:=by simp [T.ft,hb]
     simp only [T.ft] at Ll;have hnx:=(yq.1 Ll).2.1;obtain ⟨hv,hl⟩:=mM hx;have hsx:=ih h6 hnx hc ha ho hx;rw [cj];intro t db;obtain ⟨j,hj⟩:=abe.1 db;by_cases uG:p=j
     ·subst uG;rw [aaE (aaa.1 hp).1,jf] at hj;subst hj;simp only [bI];refine ⟨h3,by rw [hl]; exact h4,?_,hsx⟩
      cases a with
      | none=>exact h5
      | some pa=>
       obtain ⟨b1,aoz⟩:=pa;rw [hv];refine Jg hu (fun e=>?_) h5;exact (yq.1 Ll).2.2 b1 (by simp [fG]) b hb e
     ·rw [aal uG] at hj;refine Fc t (gb h hj) (fun xd=>?_);have h7:=h2 (.v .undef undef);have Gy:(cs.set p (.v .undef undef))[j]?=some t:=by rw [aal uG]; exact hj
      obtain ⟨A',B',e1,_⟩:=dU _ j t Gy;have fH:b∈ai (cs.set p (.v .undef undef)):=by rw [e1]; simp [xd]
      rw [h7] at fH;simp only [T.ft,aah,tD] at fH;rw [yq,yq] at hn;rcases fH with fH | fH
      ·exact hn.1.2.2 b fH b Z0 rfl
      ·exact hn.2.2 b (tD.2 (.inr Z0)) b fH rfl
inductive cm {α β:Type} (R:α->β->Prop):List α->List β->Prop
 | nil:cm R [] []
 | cons {a b as9 bs}:R a b->cm R as9 bs->cm R (a::as9) (b::bs)
def cD (S:List (Nat × RT)) (r:Nat) (q:List Nat) (o:Nat):Option T:=
 match lk S r with
 | some R=>match ay R.cs q with
  | some l=>l[o]?
  | none=>none
 | none=>none
def eM (x:Option (Nat × Nat)) (t:T) (u:Value):Prop:=
 match sn t.er with
 | some (s,n)=>match x with
  | none=>u=t.val
  | some (l,m)=>l+m<=n/\∃ base C k,t.val=.slice base n C/\k<=C/\u=.slice (base.map (·.add (k*s))) m (C - l)/\(C - l=0∨k=l)
 | none=>True
def bD (w:World) (X:Bool->Nat->Prop) (S:List (Nat × RT)):D->Value->Prop
 | .ref r q o x,u=>∀ t,cD S r q o=some t->eM x t u
 | .ptr r q o,u=>∀ R,lk S r=some R->(q=[]->R.box.isSome)/\∀ b off,bZ R.box R.cs q=some (b,off)->u=.pointer (some ⟨b,off+o,none⟩)
 | .cr cs o,u=>∃ b off c e fz us,u=.pointer (some ⟨b,off+o,none⟩)/\X true b/\w.heap[b]?=some (.cells c e fz)/\gp w X cs us/\∀ j v,us[j]?=some v->c[off+j]?=some v
 | d,u=>Ext w X d u
def gI (w:World) (X:Bool->Nat->Prop) (S:List (Nat × RT)):D->Value->Prop
 | .agg cs,u=>∃ us,u=.agg us/\cm (bD w X S) cs us.toList
 | .fn f cs,u=>∃ us,u=.func (.func f) #[] us/\cm (bD w X S) cs us.toList
 | d,u=>bD w X S d u
def cx (w:World) (X:Bool->Nat->Prop) (S:List (Nat × RT)):D->Value->Prop
 | .aM ds,u=>∃ us,u=.tuple us/\cm (gI w X S) ds us.toList
 | d,u=>gI w X S d u
def jw (w:World) (X:Bool->Nat->Prop) (S:List (Nat × RT)) (b:Bool):T->Prop
 | .v d u=>Ext w X (bS d) u∨(b=true/\bD w X S (bS d) u)
 | t=>bI w X t
def OM (w:World) (X:Bool->Nat->Prop) (S:List (Nat × RT)) (R:RT):Prop:=
 (match R.box with | some b=>lR w b 0 R.cs.length (ax R.cs) | none=>True)/\∀ t∈R.cs,jw w X S R.box.isSome t
structure Ctx where
 w0:World
 FA:List Nat
 Y:Nat->Prop
 P0:List (Nat × Option Nat × List Value)
def ah (C:Ctx) (w:World) (S:List (Nat × RT)) (H:List T) (b:Bool) (k:Nat):Prop:=
 k < w.heap.size/\k∉cM S/\k∉ai H/\(b=false->C.Y k∨k∈C.FA∨C.w0.heap.size<=k)
structure Mem (C:Ctx) (w:World) (S:List (Nat × RT)) (H:List T):Prop where
 nd:(cM S++ai H).Nodup
 root:∀ r R,lk S r=some R->OM w (ah C w S H) S R
 hand:bJ w (ah C w S H) H
 lt:∀ k∈cM S++ai H,k < w.heap.size
def mF (w:World) (X:Bool->Nat->Prop) (S:List (Nat × RT)) (tm:List (Nat × D)) (vs:Array Value):Prop:=
 ∀ t,cx w X S ((lk tm t).getD .undef) (vs.getD t undef)
structure Kept (C:Ctx) (w:World) (S:List (Nat × RT)) (H:List T):Prop where
 os:w.os=C.w0.os
 tape:w.tape=C.w0.tape
 output:w.output=C.w0.output
 size:C.w0.heap.size<=w.heap.size
 block:∀ k,k < C.w0.heap.size->k∉C.FA->w.heap[k]?=C.w0.heap[k]?
 iQ:∀ k∈cM S++ai H,k∈C.FA∨C.w0.heap.size<=k
 par:∀ r b vs,(r,b,vs)∈C.P0->∀ R,lk S r=some R->R.box=b/\(b=none->ax R.cs=vs)
structure Rel (C:Ctx) (H:List T) (w:World) (st:St) (aI:List (Array Value)) (S:List (Nat × RT)):Prop where
 rt:gS st.rt S
 mem:Mem C w S H
 pd:cm (mF w (ah C w S H) S) (st.tm::st.up) aI
 kept:Kept C w S H
theorem Jh (st:St) (S:List (Nat × RT)) (h:gS st.rt S) (r:Nat) (q:List Nat) (o:Nat):st.cell r q o=(cD S r q o).map T.er:=by
 unfold St.cell St.cells cD;rw [h];cases lk S r with
 | none=>rfl
 | some R=>
  simp only [OB,OJ];cases ay R.cs q with
  | none=>rfl
  | some l=>simp [iL]
theorem vH (st:St) (S:List (Nat × RT)) (h:gS st.rt S) {r:Nat} {q:List Nat} {cs:List D} (hc:st.cells r q=some cs):∃ R l,lk S r=some R/\ay R.cs q=some l/\cs=ba l:=by
 unfold St.cells at hc;rw [h] at hc;cases hr:lk S r with
 | none=>simp [hr] at hc
 | some R=>
  simp only [hr,OB,OJ] at hc;cases hl:ay R.cs q with
  | none=>simp [hl] at hc
  | some l=>
   simp only [hl,OB,jf] at hc;exact ⟨R,l,rfl,hl,hc.symm⟩
theorem iM {st:St} {S:List (Nat × RT)} (h:gS st.rt S) {r:Nat} {q:List Nat} {o:Nat} {d:D} (hc:st.cell r q o=some d):∃ R l t,lk S r=some R/\ay R.cs q=some l/\l[o]?=some t/\cD S r q o=some t/\d=t.er:=by
 rw [Jh st S h] at hc;cases ht:cD S r q o with
 | none=>simp [ht] at hc
 | some t=>
  simp only [ht,OB,jf] at hc;unfold cD at ht;cases hr:lk S r with
  | none=>simp [hr] at ht
  | some R=>
   simp only [hr] at ht;cases hl:ay R.cs q with
   | none=>simp [hl] at ht
   | some l=>
    simp only [hl] at ht;exact ⟨R,l,t,rfl,hl,ht,rfl,hc.symm⟩
theorem cm.len {α β:Type} {R:α->β->Prop} {as9:List α} {bs:List β} (h:cm R as9 bs):as9.length=bs.length:=by
 induction h with
 | nil=>rfl
 | cons _ _ ih=>simp [ih]
theorem cm.get {α β:Type} {R:α->β->Prop} {as9:List α} {bs:List β} (h:cm R as9 bs):∀ {i:Nat} {a:α},as9[i]?=some a->∃ b,bs[i]?=some b/\R a b:=by
 induction h with
 | nil=>intro i a h; simp at h
 | cons h1 _ ih=>
  intro i a h;cases i with
  | zero=>simp only [aaz,jf] at h; exact ⟨_,rfl,h▸h1⟩
  | succ i=>simp only [aaZ] at h ⊢; exact ih h
theorem cm.mono {α β:Type} {R R':α->β->Prop} {as9:List α} {bs:List β} (h:cm R as9 bs) (hr:∀ a b,R a b->R' a b):cm R' as9 bs:=by
 induction h with
 | nil=>exact .nil
 | cons h1 _ ih=>exact .cons (hr _ _ h1) ih
theorem cm.map {α α' β:Type} {R:α->β->Prop} {R':α'->β->Prop} {as9:List α} {bs:List β} (h:cm R as9 bs) (f:α->α') (hr:∀ a b,R a b->R' (f a) b):cm R' (as9.map f) bs:=by
 induction h with
 | nil=>exact .nil
 | cons h1 _ ih=>exact .cons (hr _ _ h1) ih
theorem cm.app {α β:Type} {R:α->β->Prop} {as9 cy:List α} {bs Z1:List β} (h:cm R as9 bs) (h':cm R cy Z1):cm R (as9++cy) (bs++Z1):=by
 induction h with
 | nil=>exact h'
 | cons h1 _ ih=>exact .cons h1 ih
theorem cm.drop {α β:Type} {R:α->β->Prop} {as9:List α} {bs:List β} (h:cm R as9 bs):∀ n,cm R (as9.drop n) (bs.drop n):=by
 induction h with
 | nil=>intro n; simp; exact .nil
 | cons h1 h2 ih=>
  intro n;cases n with
  | zero=>exact .cons h1 h2
  | succ n=>simpa using ih n
theorem cm.take {α β:Type} {R:α->β->Prop} {as9:List α} {bs:List β} (h:cm R as9 bs):∀ n,cm R (as9.take n) (bs.take n):=by
 induction h with
 | nil=>intro n; simp; exact .nil
 | cons h1 h2 ih=>
  intro n;cases n with
  | zero=>exact .nil
  | succ n=>exact .cons h1 (ih n)
theorem du {α β:Type} {R:α->β->Prop}:∀ {as9:List α} {bs:List β},as9.length=bs.length->(∀ (i:Nat) a b,as9[i]?=some a->bs[i]?=some b->R a b)->cm R as9 bs
 | [],[],_,_=>.nil
 | a::as9,b::bs,h,hr=>.cons (hr 0 a b rfl rfl) (du (by simpa using h) (fun i a b ha hb=>hr (i+1) a b (by simpa using ha) (by simpa using hb)))
 | [],_::_,h,_=>by simp at h
 | _::_,[],h,_=>by simp at h
theorem ir {w:World} {X:Bool->Nat->Prop} (ds:List D):∀ us,gp w X ds us↔cm (Ext w X) ds us:=by
 induction ds with
 | nil=>intro us; simp only [gp]; exact ⟨fun h=>h▸.nil,fun h=>by cases h; rfl⟩
 | cons d ds ih=>
  intro us;simp only [gp];constructor
  ·rintro ⟨v,vs,rfl,h1,h2⟩;exact .cons h1 ((ih vs).1 h2)
  ·intro h;cases h with
   | cons h1 h2=>exact ⟨_,_,rfl,h1,(ih _).2 h2⟩
theorem fP {w:World} {X:Bool->Nat->Prop} {S:List (Nat × RT)}:∀ {d:D} {u:Value},Ext w X d u->bD w X S d u
 | .int ..,_,h=>h
 | .bool ..,_,h=>h
 | .str ..,_,h=>h
 | .nil ..,_,h=>h
 | .undef,_,h=>h
 | .hole ..,_,h=>h
 | .sl ..,_,h=>h
 | .ref ..,_,h=>by simp [Ext] at h
 | .agg ..,_,h=>by simp [Ext] at h
 | .aM ..,_,h=>by simp [Ext] at h
 | .fn ..,_,h=>by simp [Ext] at h
 | .ptr ..,_,h=>by simp [Ext] at h
 | .cr ..,_,h=>by simp [Ext] at h
 | .aZ ..,_,h=>by simp [Ext] at h
theorem eo {w:World} {X:Bool->Nat->Prop} {S:List (Nat × RT)} {d:D} {u:Value} (h:bD w X S d u):gI w X S d u:=by
 cases d<;>first | exact h | (simp [bD,Ext] at h)
theorem kV {w:World} {X:Bool->Nat->Prop} {S:List (Nat × RT)} {d:D} {u:Value} (h:gI w X S d u):cx w X S d u:=by
 cases d<;>first | exact h | (simp [gI,bD,Ext] at h)
theorem mN {w:World} {X:Bool->Nat->Prop} {S:List (Nat × RT)} {d:D} {u:Value} (h:bD w X S d u):cx w X S d u:=kV (eo h)
theorem Gz {w:World} {X:Bool->Nat->Prop} {S:List (Nat × RT)} {d:D} {u:Value} (h:Ext w X d u):cx w X S d u:=mN (fP h)
theorem mG {w:World} {X:Bool->Nat->Prop} {S:List (Nat × RT)} (u:Value):cx w X S .undef u:=Gz (by simp [Ext])
theorem XR (vs:Array Value) (d t:Nat) (v:Value):(vs.setIfInBounds d v).getD t undef=if d=t/\d < vs.size then v else vs.getD t undef:=by
 rw [aaY,aaY,ad3];by_cases h:d=t
 ·subst h;by_cases hd:d < vs.size
  ·simp [hd]
  ·simp [hd]
 ·simp [h]
theorem mF.put {w:World} {X:Bool->Nat->Prop} {S:List (Nat × RT)} {tm:List (Nat × D)} {vs:Array Value} (h:mF w X S tm vs) {t:Nat} (ht:t < vs.size) {d:D} {v:Value} (hv:cx w X S d v):mF w X S (pz tm t d) (vs.setIfInBounds t v):=by
 intro i;rw [XR];by_cases hi:t=i
 ·subst hi;rw [hD]; simpa [ht] using hv
 ·rw [qg _ _ (aeR hi)]; simpa [hi] using h i
def R9 (d:D) (u:Value):Prop:=∀ w X,Ext w X d u
def XS:TypeDesc->Bool
 | .struct _ | .array _ _=>true
 | _=>false
def lS (P:Program):Ty->TypeDesc->Prop
 | .int k,d=>d=.int k
 | .bool,d=>d=.bool
 | .str,d=>d=.string
 | .slice e,d=>d=.slice e
 | .array n e,d=>d=.array n e
 | .struct mo szs,d=>∃ fs,d=.struct fs/\mo=fs.toList.map (·.offset)/\szs.length=fs.toList.length/\∀ (j:Nat) (f:Field),fs.toList[j]?=some f->∃ i,P.info? f.type=some i/\i.size≠0/\szs[j]?=some i.size
 | .ptr e,d=>d=.pointer e
 | .fn,d=>XS d=false
 | .other,d=>XS d=false
structure Fe (P:Program) (t:TypeId) (ti:TI):Prop where
 info:∃ i,P.info? t=some i/\i.size=ti.size/\i.bytes=ti.bytes/\∃ z,i.zero=some z/\cm R9 ti.zero z.cells.toList
 desc:∃ d,P.underlying t=some d/\lS P ti.ty d
 len:ti.zero.length=ti.size
structure eu (c:cA) (P:Program):Prop where
 ty:∀ t ti,c.ty t=some ti->Fe P t ti
section
variable {P:Program} {w:World}
theorem UP {t:TypeId} {i:TypeInfo} (h:P.info? t=some i) (w:World):(typeInfo t).run P w=.ok i w:=by simp [typeInfo,h]
theorem UQ {t:TypeId} {i:TypeInfo} (h:P.info? t=some i) (w:World):(Go.sizeOf t).run P w=Result.ok i.size w:=by
 simp [Go.sizeOf,UP h]
theorem Ff {t:TypeId} {i:TypeInfo} {z:Value} (h:P.info? t=some i) (hz:i.zero=some z) (w:World):(zeroValue t).run P w=.ok z w:=by
 simp [zeroValue,UP h,hz]
theorem Fe.sz {t:TypeId} {ti:TI} (h:Fe P t ti) (w:World):(Go.sizeOf t).run P w=Result.ok ti.size w:=by
 obtain ⟨i,h1,h2,_⟩:=h.info;rw [UQ h1,h2]
theorem ab1 {ty:Ty} {d:TypeDesc} (h:lS P ty d):XS d=kN ty:=by
 cases ty<;>simp only [lS] at h<;>first | (subst h; rfl) | (obtain ⟨fs,rfl,_⟩:=h; rfl) | (rw [h]; rfl)
theorem Fe.agg {t:TypeId} {ti:TI} (h:Fe P t ti) (w:World):(isAgg t).run P w=.ok (kN ti.ty) w:=by
 obtain ⟨d,h1,h2⟩:=h.desc;simp only [isAgg,Sem.run_bind,run_underlying h1,Result.andThen_ok];rw [<- ab1 h2];cases d<;>rfl
end
section
variable {P:Program} {o:Oper} {a:Act} {w:World} {K:Act->World->Prop} {Q:Exit->Act->World->Prop}
theorem oo {v:Value} {w':World} (h:(execOp a.eval o).run P w=.ok (.value v) w') (hk:K (a.put o.dst v) w'):o.wp P a w K Q:=by
 unfold Oper.wp; rw [h]; exact hk
theorem Tj {w':World} (h:(execOp a.eval o).run P w=.ok .skip w') (hk:K (a.put o.dst undef) w'):o.wp P a w K Q:=by
 unfold Oper.wp; rw [h]; exact hk
end
theorem eV (b off k:Nat):(⟨b,off,none⟩:Addr).add k=⟨b,off+k,none⟩:=by
 unfold Addr.add; split
 ·rename_i h; subst h; rfl
 ·rfl
theorem mO {w:World} {b off fr:Nat} {us:List Value} (h:lR w b off fr us) {j:Nat} {u:Value} (hj:us[j]?=some u):w.cell? ⟨b,off+j,none⟩=some u:=by
 obtain ⟨c,e,fz,h1,_,_,h4⟩:=h;simp [World.cell?,h1,h4 j u hj]
theorem GA {w:World} {b off fr:Nat} {us:List Value} (h:lR w b off fr us) {j:Nat} (hj:j < fr):w.frozen? ⟨b,off+j,none⟩=false:=by
 obtain ⟨c,e,fz,h1,h2,h3,_⟩:=h;have:=h2 (off+j) (by omega)
 simp only [World.frozen?,h1]
 simpa using this
theorem GB {w:World} {b off fr:Nat} {us:List Value} (h:lR w b off fr us) {j:Nat} (hj:j < fr):∃ u,w.cell? ⟨b,off+j,none⟩=some u:=by
 obtain ⟨c,e,fz,h1,_,h3,_⟩:=h;have:off+j < c.size:=by omega
 exact ⟨c[off+j],by simp [World.cell?,h1,this]⟩
theorem XT {w:World} {X:Bool->Nat->Prop} {q:List Nat}:∀ {s n cap:Nat} {a:Option (Nat × Nat)} {xs l:List T},bI w X (.own s n cap a xs)->ay xs q=some l->l≠[]->
  ∃ b off fr,(match q with | []=>a | _=>bZ none xs q)=some (b,off)/\lR w b off fr (ax l)/\l.length<=fr/\bJ w X l:=by
 induction q with
 | nil=>
  intro s n cap a xs l h hc hl;simp only [ay,jf] at hc;subst hc;simp only [bI] at h;obtain ⟨h1,h2,h3,h4⟩:=h;cases a with
  | none=>
   have:xs.length=0:=by rw [h2,h3.1]; simp
   exact absurd (aa8.1 this) hl
  | some p=>exact ⟨p.1,p.2,_,rfl,h3,by rw [h2]; exact aaQ _ h1.1,h4⟩
 | cons p q ih=>
  intro s n cap a xs l h hc hl;simp only [bI] at h;rw [ay] at hc;cases hp:xs[p]? with
  | none=>simp [hp] at hc
  | some x=>
   cases x with
   | v d u=>simp [hp] at hc
   | own s' n' cap' a' kS=>
    simp only [hp] at hc;obtain ⟨b,off,fr,h5,h6⟩:=ih (gb h.2.2.2 hp) hc hl;exact ⟨b,off,fr,by simp only [bZ,hp]; exact h5,h6⟩
theorem ra {C:Ctx} {w:World} {S:List (Nat × RT)} {H:List T} (hm:Mem C w S H) {r:Nat} {R:RT} {q:List Nat} {l:List T} (hr:lk S r=some R) (hc:ay R.cs q=some l) (hl:l≠[]) (hb:q=[]->R.box.isSome=true):
  ∃ b off fr,bZ R.box R.cs q=some (b,off)/\lR w b off fr (ax l)/\l.length<=fr/\(q≠[]->bJ w (ah C w S H) l):=by
 obtain ⟨h1,h2⟩:=hm.root r R hr;cases q with
 | nil=>
  simp only [ay,jf] at hc;subst hc;have hb:=hb rfl;cases hx:R.box with
  | none=>simp [hx] at hb
  | some b=>exact ⟨b,0,_,by simp [bZ],by simpa [hx] using h1,aav _,fun h=>absurd rfl h⟩
 | cons p q=>
  rw [ay] at hc;cases hp:R.cs[p]? with
  | none=>simp [hp] at hc
  | some x=>
   cases x with
   | v d u=>simp [hp] at hc
   | own s n cap a xs=>
    simp only [hp] at hc;have hs:bI w (ah C w S H) (.own s n cap a xs):=h2 _ (aak hp);obtain ⟨b,off,fr,h3,h4,h5,h6⟩:=XT hs hc hl;exact ⟨b,off,fr,by simp only [bZ,hp]; exact h3,h4,h5,fun _=>h6⟩
theorem Fg {q:List Nat}:∀ {cs l:List T} {bx:Option Nat} {o s n cap:Nat} {a:Option (Nat × Nat)} {xs:List T},ay cs q=some l->l[o]?=some (.own s n cap a xs)->bZ bx cs (q++[o])=a/\ay cs (q++[o])=some xs:=by
 induction q with
 | nil=>
  intro cs l bx o s n cap a xs hc ho;simp only [ay,jf] at hc;subst hc;simp [bZ,ay,ho]
 | cons p q ih=>
  intro cs l bx o s n cap a xs hc ho;rw [ay] at hc;cases hp:cs[p]? with
  | none=>simp [hp] at hc
  | some x=>
   cases x with
   | v d u=>simp [hp] at hc
   | own s' n' cap' a' kS=>
    simp only [hp] at hc;obtain ⟨h1,h2⟩:=ih (bx:=none) hc ho;refine ⟨?_,by simp only [aao,ay,hp]; exact h2⟩
    rw [aao,bZ];simp only [hp];cases hq:q++[o] with
    | nil=>simp at hq
    | cons y ys=>rw [hq] at h1; exact h1
theorem Fh {S:List (Nat × RT)} {r:Nat} {R:RT} {q:List Nat} {l:List T} {o:Nat} (hr:lk S r=some R) (hc:ay R.cs q=some l):cD S r q o=l[o]?:=by
 simp [cD,hr,hc]
theorem qz {C:Ctx} {w:World} {S:List (Nat × RT)} {H:List T} (hm:Mem C w S H) {r:Nat} {R:RT} {q:List Nat} {l:List T} {o:Nat} {t:T} (hr:lk S r=some R) (hc:ay R.cs q=some l) (ho:l[o]?=some t):
  bD w (ah C w S H) S (gP r q o t.er) t.val:=by
 cases t with
 | own s n cap a xs=>
  simp only [T.er,gP,bD];intro t' pK;rw [Fh hr hc,ho,jf] at pK;subst pK;simp [eM,sn,T.er]
 | v d u=>
  have hv:gP r q o (T.v d u).er=bS d:=by
   simp only [T.er];cases d<;>simp [bS,gP]
   rename_i g _ _ _;cases g<;>simp [bS,gP]
  rw [hv];obtain ⟨_,h2⟩:=hm.root r R hr;cases q with
  | nil=>
   simp only [ay,jf] at hc;subst hc;rcases h2 _ (aak ho) with h3 | ⟨_,h3⟩
   ·exact fP h3
   ·exact h3
  | cons p q=>
   rw [ay] at hc;cases hp:R.cs[p]? with
   | none=>simp [hp] at hc
   | some x=>
    cases x with
    | v d u=>simp [hp] at hc
    | own s n cap a xs=>
     simp only [hp] at hc;have hs:bI w (ah C w S H) (.own s n cap a xs):=h2 _ (aak hp);simp only [bI] at hs;have:=gb (w9 hs.2.2.2 hc) ho;simp only [bI] at this;exact fP this
theorem oq (r:Nat) (q:List Nat):∀ (cs:List D) (o i:Nat),(lW r q o cs)[i]?=(cs[i]?).map (gP r q (o+i))
 | [],o,i=>by simp [lW]
 | d::ds,o,0=>by simp [lW]
 | d::ds,o,i+1=>by
  simp only [lW,aaZ,oq r q ds (o+1) i]
  congr 1
  rw [show o+1+i=o+(i+1) by omega]
theorem qA (r:Nat) (q:List Nat):∀ (cs:List D) (o:Nat),(lW r q o cs).length=cs.length
 | [],o=>rfl
 | d::ds,o=>by simp [lW,qA r q ds (o+1)]
def dM (w w2:World):Prop:=∀ k,k < w.heap.size->w2.heap[k]?=w.heap[k]?
theorem dM.refl (w:World):dM w w:=fun _ _=>rfl
theorem dM.trans {w w2 w3:World} (h:dM w w2) (h':dM w2 w3):dM w w3:=fun k hk=>by
 have h1:=h k hk;have yv:k < w2.heap.size:=by
  rcases Nat.lt_or_ge k w2.heap.size with h2 | h2
  ·exact h2
  ·rw [abT h2,adN hk] at h1;simp at h1
 rw [h' k yv,h1]
theorem dM.cell {w w2:World} (h:dM w w2) {A:Addr} {v:Value} (hc:w.cell? A=some v):w2.cell? A=some v:=by
 have hk:A.block < w.heap.size:=by
  rcases Nat.lt_or_ge A.block w.heap.size with h2 | h2
  ·exact h2
  ·simp [World.cell?,abT h2] at hc
 rw [<- hc];unfold World.cell?;rw [h _ hk]
def Bm (u:Value) (w w2:World):Prop:=∀ B,u=.pointer (some B)->∀ A v,A.block=B.block->w.cell? A=some v->w2.cell? A=some v
theorem dM.aiY {w w2:World} (h:dM w w2) (u:Value):Bm u w w2:=fun _ _ _ _ _ hc=>h.cell hc
theorem Bm.refl (u:Value) (w:World):Bm u w w:=fun _ _ _ _ _ h=>h
theorem Ji {u:Value} {w w2:World} {b:Nat} (hb:∀ B,u=.pointer (some B)->B.block=b) (h:w2.heap[b]?=w.heap[b]?):Bm u w w2:=fun B hB A v hA hc=>by
 have e:A.block=b:=hA.trans (hb B hB);rw [<- hc];unfold World.cell?;rw [e,h]
theorem Jj {P:Program} {c:cA} (aw:eu c P) {C:Ctx} {Hx:List T} {w:World} {S:List (Nat × RT)} {st:St} (gq:gS st.rt S) (hm:Mem C w S Hx) {t:TypeId} {ti:TI} (ht:c.ty t=some ti) {d d':D} {u:Value} (hd:cx w (ah C w S Hx) S d u) (h:q8 st (kN ti.ty) ti.size d=some d'):
  ∃ v,(∀ w2,Bm u w w2->(Instr.loadAt t u).run P w2=.ok v w2)/\cx w (ah C w S Hx) S d' v:=by
 have mq:=aw.ty t ti ht;cases d with
 | ptr r q o=>
  simp only [q8] at h;cases ed:st.cells r q with
  | none=>simp [ed] at h
  | some cs=>
   simp only [ed] at h;obtain ⟨R,l,hr,hl,rfl⟩:=vH st S gq ed;have hp:=hd R hr;cases ew:kN ti.ty with
   | true=>
    simp only [ew,if_true] at h;split at h
    case isFalse=>simp at h
    rename_i hle;obtain ⟨hz,hle⟩:=hle;simp only [jf] at h;subst h;rw [fu] at hle
    ·have cX:l≠[]:=by intro e; subst e; simp at hle; omega
     obtain ⟨b,off,fr,h1,h2,h3,_⟩:=ra hm hr hl cX hp.1;have hu:=hp.2 b off h1;subst hu;refine ⟨.agg ((ax l).drop o |>.take ti.size).toArray,?_,?_⟩
     ·intro w2 ot;simp only [Instr.loadAt,Instr.sureAddr,loadVar,Sem.run_bind,Sem.run_pure,Result.andThen_ok,mq.agg,ew,if_true,mq.sz];have hlen:((ax l).drop o |>.take ti.size).length=ti.size:=by simp [bV]; omega
      have:=run_loadCells_list (P:=P) w2 ⟨b,off+o,none⟩ ((ax l).drop o |>.take ti.size) (fun j v hj=>by
       rw [eV,abh];refine ot _ rfl _ _ rfl (mO h2 ?_);rw [abr] at hj;split at hj
       ·rw [abt] at hj; exact hj
       ·simp at hj)
      rw [hlen] at this;simp [this]
     ·refine ⟨_,rfl,du ?_ ?_⟩
      ·simp [qA,fu,bV]
      ·intro i d1 v1 hi hv;rw [oq,w7,w8,iL] at hi;simp only [abr] at hv hi;split at hv
       ·rename_i dg;rw [if_pos dg,abt] at hi;rw [abt,fq] at hv;cases hx:l[o+i]? with
        | none=>simp [hx] at hi
        | some t'=>
         simp only [hx,OB,jf] at hi hv;subst hi; subst hv;exact qz hm hr hl hx
       ·simp at hv
   | false=>
    simp only [ew,aai,if_false] at h;rw [iL] at h;cases hx:l[o]? with
    | none=>simp [hx] at h
    | some t'=>
     simp only [hx,OB,jf] at h;subst h;have cX:l≠[]:=by intro e; subst e; simp at hx
     obtain ⟨b,off,fr,h1,h2,h3,_⟩:=ra hm hr hl cX hp.1;have hu:=hp.2 b off h1;subst hu;refine ⟨t'.val,?_,mN (qz hm hr hl hx)⟩;intro w2 ot;simp only [Instr.loadAt,Instr.sureAddr,loadVar,Sem.run_bind,Sem.run_pure,Result.andThen_ok,mq.agg,ew,aai,if_false];have cO:w2.cell? ⟨b,off+o,none⟩=some t'.val:=ot _ rfl _ _ rfl (mO h2 (by rw [fq,hx]; rfl))
     simp [cO]
 | cr cs o=>
  obtain ⟨b,off,cc,e,fz,us,rfl,hXb,fv,ON,pL⟩:=hd;simp only [q8] at h;have dR:=(ir cs us).1 ON;cases ew:kN ti.ty with
  | true=>
   simp only [ew,if_true] at h;split at h
   case isFalse=>simp at h
   rename_i hle;obtain ⟨hz,hle⟩:=hle;simp only [jf] at h;subst h;refine ⟨.agg ((us.drop o).take ti.size).toArray,?_,?_⟩
   ·intro w2 ot;simp only [Instr.loadAt,Instr.sureAddr,loadVar,Sem.run_bind,Sem.run_pure,Result.andThen_ok,mq.agg,ew,if_true,mq.sz];have hlen:((us.drop o).take ti.size).length=ti.size:=by have:=dR.len; simp; omega
    have:=run_loadCells_list (P:=P) w2 ⟨b,off+o,none⟩ ((us.drop o).take ti.size) (fun j v hj=>by
     rw [eV];refine ot _ rfl _ _ rfl ?_;rw [abr] at hj;split at hj
     ·rw [abt] at hj;simp [World.cell?,fv,abh,pL _ _ hj]
     ·simp at hj)
    rw [hlen] at this;simp [this]
   ·exact ⟨_,rfl,by simpa using ((dR.drop o).take ti.size).mono (fun _ _ h=>fP h)⟩
  | false=>
   simp only [ew,aai,if_false] at h;obtain ⟨u,hu,he⟩:=dR.get h;refine ⟨u,?_,Gz he⟩;intro w2 ot;simp only [Instr.loadAt,Instr.sureAddr,loadVar,Sem.run_bind,Sem.run_pure,Result.andThen_ok,mq.agg,ew,aai,if_false];have cO:w.cell? ⟨b,off+o,none⟩=some u:=by simp [World.cell?,fv,pL _ _ hu]
   have cO:=ot _ rfl _ _ rfl cO;simp [cO]
 | _=>simp [q8] at h
section
variable {w:World} {X:Bool->Nat->Prop} {S:List (Nat × RT)}
theorem gJ {k:IntKind} {n:Int} {u:Value} (h:cx w X S (.int k n) u):u=.int k n:=h
theorem yw {b:Bool} {u:Value} (h:cx w X S (.bool b) u):u=.bool b:=h
theorem Bn {s:ByteArray} {u:Value} (h:cx w X S (.str s) u):u=.string s:=h
theorem UR {s:Nat} {u:Value} (h:cx w X S (.nil s) u):u=.slice none 0 0:=h
theorem US (k:IntKind) (n:Int):cx w X S (.int k n) (.int k n):=rfl
theorem tvs (s:ByteArray):cx w X S (.str s) (.string s):=rfl
end
theorem xe {c:cA} {w:World} {X:Bool->Nat->Prop} {S:List (Nat × RT)} {st:St} {a:Act} (h:mF w X S st.tm a.tmps) (t:TypeId) (x:Operand):cx w X S (ct c st t x) (a.eval x):=by
 cases x with
 | tmp i=>exact h i
 | const v=>
  simp only [ct,Act.eval];cases v<;>try exact mG _
  all_goals first | rfl | skip
  rename_i b n cap;simp only [Dg];split<;>first | exact mG _ | (rename_i e; first | cases e | skip)
  all_goals first | rfl | exact mG _ | skip
 | func f=>exact ⟨#[],rfl,.nil⟩
 | global g=>exact mG _
section
variable {P:Program} {w:World} {X:Bool->Nat->Prop} {S:List (Nat × RT)}
theorem GC (op:BinOp) (t:TypeId) (x y:Operand) (k k':IntKind) (a b:Int):(eqGuard op t x y (.int k a) (.int k' b)).run P w=.ok () w:=by
 unfold eqGuard; split<;>rfl
theorem GD (op:BinOp) (t:TypeId) (x y:Operand) (a b:ByteArray):(eqGuard op t x y (.string a) (.string b)).run P w=.ok () w:=by
 unfold eqGuard; split<;>rfl
theorem Fi (op:BinOp) (t:TypeId) (x y:Operand) (a b:Bool):(eqGuard op t x y (.bool a) (.bool b)).run P w=.ok () w:=by
 unfold eqGuard; split<;>rfl
theorem run_equal_bool {t:TypeId} (h:P.underlying t=some .bool) (a b:Bool):(Op.equal t (.bool a) (.bool b)).run P w=.ok (a==b) w:=by
 have:Op.equal t (.bool a) (.bool b)=Op.equalIn (9999+1) t (.bool a) (.bool b):=rfl;rw [this,Op.equalIn,Sem.run_bind,run_underlying h];rfl
theorem UT {c:cA} (aw:eu c P) {op:BinOp} {t:TypeId} {x y:Operand} {dx dy d:D} {u v:Value} (hx:cx w X S dx u) (hy:cx w X S dy v) (h:so c t op dx dy=some d):
    ∃ r,(∀ w:World,(do eqGuard op t x y u v; binOp op t u v:Sem Value).run P w=.ok r w)/\cx w X S d r:=by
  cases dx with
  | int k a=>
    cases dy with
    | int k' b=>
      have h1:=gJ hx; have h2:=gJ hy;subst h1; subst h2;simp only [Sem.run_bind,GC,Result.andThen_ok];cases op<;>simp only [so] at h
      case shl=>
        simp only [vw] at h;split at h
        · simp at h
        · rename_i hb
          simp only [jf] at h;exact ⟨_,by intro w; simp [binOp,Op.shift,hb]; rfl,by subst h; rfl⟩
      case shr=>
        simp only [vw] at h;split at h
        · simp at h
        · rename_i hb
          simp only [jf] at h;exact ⟨_,by intro w; simp [binOp,Op.shift,hb]; rfl,by subst h; rfl⟩
      case quo | rem=>
        split at h
        case isFalse=>simp at h
        rename_i hk;subst hk;simp only [Bi] at h;split at h
        · simp at h
        · rename_i hb
          simp only [jf] at h;exact ⟨_,by intro w; simp [binOp,Op.intDiv,hb]; rfl,by subst h; rfl⟩
      all_goals
        split at h
        case isFalse=>simp at h
        rename_i hk;subst hk;simp only [Bi] at h
      all_goals
        first
        | (simp at h; done)
        | (simp only [jf] at h
           exact ⟨_,by intro w; simp [binOp,Op.intArith,Op.intBits,Op.intCmp]; rfl,by subst h; rfl⟩)
    | _=>simp [so] at h
  | str a=>
    cases dy with
    | str b=>
      have h1:=Bn hx; have h2:=Bn hy;subst h1; subst h2;simp only [Sem.run_bind,GD,Result.andThen_ok];simp only [so] at h;cases op<;>simp only [OD] at h
      case add=>
        split at h
        case isFalse=>simp at h
        rename_i hs;simp only [jf] at h;have sb:¬ (((a.size+b.size:Nat):Int)>IntKind.i64.max):=by
          have:IntKind.i64.max=9223372036854775807:=by decide
          rw [this]; omega
        exact ⟨.string (a++b),by intro w; simp only [binOp,Op.stringOp]; rw [if_neg sb]; rfl,by subst h; rfl⟩
      all_goals
        first
        | (simp at h; done)
        | (simp only [jf] at h
           exact ⟨_,by intro w; simp [binOp,Op.stringOp]; rfl,by subst h; rfl⟩)
    | _=>simp [so] at h
  | bool a=>
    cases dy with
    | bool b=>
      have h1:=yw hx; have h2:=yw hy;subst h1; subst h2;simp only [Sem.run_bind,Fi,Result.andThen_ok];simp only [so] at h;split at h
      case h_2=>simp at h
      rename_i mq;obtain ⟨dd,h3,h4⟩:=(aw.ty t _ mq).desc;simp only [lS] at h4;subst h4;cases op<;>simp only [Jd] at h
      all_goals
        first
        | (simp at h; done)
        | (simp only [jf] at h
           exact ⟨_,by intro w; simp only [binOp,Sem.run_bind,run_equal_bool h3,Result.andThen_ok,Sem.run_pure]; rfl,by subst h; rfl⟩)
    | _=>simp [so] at h
  | _=>simp [so] at h
theorem Z2 {op:UnOp} {dx d:D} {u:Value} (hx:cx w X S dx u) (h:ZZ op dx=some d):∃ r,(∀ w:World,(Op.unary op u).run P w=.ok r w)/\cx w X S d r:=by
 cases op<;>cases dx<;>simp only [ZZ] at h<;>first | (simp at h; done) | skip
 ·have:=gJ hx;subst this;simp only [jf] at h;exact ⟨_,by intro w; simp [Op.unary,Op.intArith]; rfl,by subst h; simp [cx,gI,bD,Ext]⟩
 ·have:=yw hx;subst this;simp only [jf] at h;exact ⟨_,by intro w; simp [Op.unary]; rfl,by subst h; rfl⟩
theorem GF {ds:List D} {d:D} {u:Value} {i:Nat} (hx:cx w X S (.aM ds) u) (h:ds[i]?=some d):∃ r,(∀ w:World,(Instr.extract u i).run P w=.ok r w)/\cx w X S d r:=by
 obtain ⟨us,rfl,ha⟩:=hx;obtain ⟨r,hr,ht⟩:=ha.get h;have eF:us[i]?=some r:=by simpa using hr
 exact ⟨r,by intro w; simp [Instr.extract,eF],kV ht⟩
end
theorem sw {C:Ctx} {Hx:List T} {w:World} {S:List (Nat × RT)} {st:St} (gq:gS st.rt S) (hm:Mem C w S Hx) {r:Nat} {q:List Nat} (h:live st r q=true) {i:Nat} {u:Value} (hu:cx w (ah C w S Hx) S (.ptr r q i) u):
  ∃ R b off,lk S r=some R/\bZ R.box R.cs q=some (b,off)/\u=.pointer (some ⟨b,off+i,none⟩):=by
 unfold live at h;split at h
 case h_2=>simp at h
 rename_i x xs ed;obtain ⟨R,l,hr,hl,he⟩:=vH st S gq ed;have hp:=hu R hr;obtain ⟨b,off,fr,h1,_⟩:=ra hm hr hl (by rintro rfl; simp [ba] at he) hp.1
 exact ⟨R,b,off,hr,h1,hp.2 b off h1⟩
theorem UU {w:World} {X:Bool->Nat->Prop} {S:List (Nat × RT)} {r:Nat} {q:List Nat} {i j:Nat} {u:Value} {R:RT} {b off:Nat} (hu:cx w X S (.ptr r q i) u) (hr:lk S r=some R) (ha:bZ R.box R.cs q=some (b,off)):cx w X S (.ptr r q j) (.pointer (some ⟨b,off+j,none⟩)):=by
 intro R' dV;refine ⟨(hu R' dV).1,fun b' off' ey=>?_⟩;rw [hr,jf] at dV;subst dV;rw [ha,jf,tE] at ey;obtain ⟨rfl,rfl⟩:=ey;rfl
section
variable {P:Program} {c:cA} (aw:eu c P) {w:World} {C:Ctx} {Hx:List T} {S:List (Nat × RT)} {st:St} (gq:gS st.rt S) (hm:Mem C w S Hx)
include aw gq hm
theorem Bo {s:TypeId} {mo szs:List Nat} {sz qB:Nat} {z:List D} {f k:Nat} {d d':D} {u:Value} (ht:c.ty s=some ⟨.struct mo szs,sz,qB,z⟩) (hk:mo[f]?=some k) (hd:cx w (ah C w S Hx) S d u)
  (h:yr st k d=some d'):∃ r,(∀ w:World,(Instr.fieldAt s u f).run P w=.ok r w)/\cx w (ah C w S Hx) S d' r:=by
 have mq:=aw.ty s _ ht;obtain ⟨dd,h1,h2⟩:=mq.desc;obtain ⟨fs,rfl,h3,_,h4⟩:=h2;have hf:∃ fl,fs[f]?=some fl/\fl.offset=k:=by
  rw [h3] at hk;simp only [aa5] at hk;cases hx:fs.toList[f]? with
  | none=>simp [hx] at hk
  | some fl=>simp only [hx,OB,jf] at hk; exact ⟨fl,by simpa using hx,hk⟩
 obtain ⟨fl,hfl,rfl⟩:=hf;obtain ⟨inf,hi,hz,_⟩:=h4 f fl (by simpa using hfl)
 have key:∀ (A:Addr) (w:World),(Instr.fieldAt s (.pointer (some A)) f).run P w=.ok (.pointer (some (A.add fl.offset))) w:=fun A w=>by
  simp [Instr.fieldAt,run_underlying h1,hfl,Instr.sureAddr,fieldPlace,UQ hi,hz]
 cases d with
 | ptr r q i=>
  simp only [yr] at h;split at h
  case isFalse=>simp at h
  rename_i hl;simp only [jf] at h;subst h;obtain ⟨R,b,off,hR,ha,rfl⟩:=sw gq hm hl hd;refine ⟨_,key _,?_⟩;rw [eV,abh];exact UU hd hR ha
 | cr cs i=>
  simp only [yr,jf] at h;subst h;obtain ⟨b,off,cc,e,fz,us,rfl,h5⟩:=hd;exact ⟨_,key _,b,off,cc,e,fz,us,by rw [eV,abh],h5⟩
 | _=>simp [yr] at h
omit aw in
theorem tn {d d':D} {u:Value} (hd:cx w (ah C w S Hx) S d u) (h:(match d with | .ptr r q i=>if live st r q then some (.ptr r q i) else none | .cr cs i=>some (.cr cs i) | _=>none:Option D)=some d'):
  ∃ A,u=.pointer (some A)/\d'=d:=by
 cases d with
 | ptr r q i=>
  simp only at h;split at h
  case isFalse=>simp at h
  rename_i hl;obtain ⟨R,b,off,hR,ha,rfl⟩:=sw gq hm hl hd;exact ⟨_,rfl,(abO h).symm⟩
 | cr cs i=>
  obtain ⟨b,off,cc,e,fz,us,rfl,h5⟩:=hd;exact ⟨_,rfl,(abO h).symm⟩
 | _=>simp at h
end
section
variable {P:Program} {C:Ctx} {w:World} {S:List (Nat × RT)} {st:St} {H:List T}
theorem rb (hm:Mem C w S H) {r:Nat} {R:RT} {q:List Nat} {l:List T} {o:Nat} {t:T} (hr:lk S r=some R) (hc:ay R.cs q=some l) (ho:l[o]?=some t) {g:Option Bool} {s n:Nat} {cs:List D} (he:t.er=.sl g s n cs):
  bI w (ah C w S H) t:=by
 obtain ⟨_,h2⟩:=hm.root r R hr;cases q with
 | nil=>
  simp only [ay,jf] at hc;subst hc;have:=h2 _ (aak ho);cases t with
  | own s n cap a xs=>exact this
  | v d u=>
   rcases this with h3 | ⟨_,h3⟩
   ·exact h3
   ·simp only [T.er] at he;simp only [bI];rw [he] at h3 ⊢;exact h3
 | cons p q=>
  rw [ay] at hc;cases hp:R.cs[p]? with
  | none=>simp [hp] at hc
  | some x=>
   cases x with
   | v d u=>simp [hp] at hc
   | own s n cap a xs=>
    simp only [hp] at hc;have hs:bI w (ah C w S H) (.own s n cap a xs):=h2 _ (aak hp);simp only [bI] at hs;exact gb (w9 hs.2.2.2 hc) ho
def adU (w:World) (X:Bool->Nat->Prop) (d:D) (u:Value):Prop:=Ext w X d u∨∃ t:T,d=t.er/\u=t.val/\bI w X t
structure Tk (w:World) (X:Bool->Nat->Prop) (s n:Nat) (cs:List D) (u:Value):Prop where
 ok:∃ base cap,u=.slice base n cap/\n<=cap/\cs.length=n*s/\(cs=[]∨∃ b off c e fz us,base=some ⟨b,off,none⟩/\w.heap[b]?=some (.cells c e fz)/\cm (adU w X) cs us/\∀ j v,us[j]?=some v->c[off+j]?=some v)
theorem Bp {X:Bool->Nat->Prop} {t:T} (h:bI w X t) {g:Option Bool} {s n:Nat} {cs:List D} (he:t.er=.sl g s n cs):Tk w X s n cs t.val:=by
 cases t with
 | v d u=>
  simp only [bI] at h;simp only [T.er] at he;rw [he] at h;cases g with
  | none=>simp [Ext] at h
  | some g=>
   simp only [Ext] at h;obtain ⟨base,cap,us,rfl,h1,h2,h3,h4⟩:=h;refine ⟨base,cap,rfl,h1,h2,?_⟩;rcases h4 with h4 | ⟨k,off,c,e,fz,h5,h6,h7,h8⟩
   ·exact .inl h4
   ·exact .inr ⟨k,off,c,e,fz,us,h5,h7,((ir cs us).1 h3).mono (fun _ _ h=>.inl h),h8⟩
 | own s' n' cap a ts=>
  simp only [bI] at h;simp only [T.er,D.sl.injEq] at he;obtain ⟨_,rfl,rfl,rfl⟩:=he;obtain ⟨h1,h2,h3,h4⟩:=h;refine ⟨a.map fun p=>⟨p.1,p.2,none⟩,cap,rfl,h1.1,by rw [fu]; exact h2,?_⟩
  cases a with
  | none=>
   left
   have:ts.length=0:=by rw [h2,h3.1]; simp
   simp [aa8.1 this,ba]
  | some p=>
   obtain ⟨b,off⟩:=p;obtain ⟨c,e,fz,h5,_,_,h6⟩:=h3;refine .inr ⟨b,off,c,e,fz,ax ts,rfl,h5,?_,h6⟩;refine du (by simp [fu,bV]) (fun i d u hd hu=>?_)
   rw [iL] at hd;rw [fq] at hu;cases hx:ts[i]? with
   | none=>simp [hx] at hd
   | some t=>
    simp only [hx,OB,jf] at hd hu;exact .inr ⟨t,hd.symm,hu.symm,gb h4 hx⟩
theorem ab2 {X:Bool->Nat->Prop} {x:Option (Nat × Nat)} {t:T} {u:Value} {g:Option Bool} {s n:Nat} {cs:List D} (he:t.er=.sl g s n cs) (hr:eM x t u) (h:Tk w X s n cs t.val):Tk w X s (trim x s n cs).1 (trim x s n cs).2 u:=by
 unfold eM at hr;rw [he] at hr;simp only [sn] at hr;cases x with
 | none=>simp only at hr; subst hr; exact h
 | some p=>
  obtain ⟨l,m⟩:=p;simp only at hr;obtain ⟨h1,base,C,k,h2,h3,rfl,h4⟩:=hr;obtain ⟨Tl,cap,h5,h6,h7,h8⟩:=h.ok;rw [h2] at h5;simp only [Value.slice.injEq] at h5;obtain ⟨rfl,_,rfl⟩:=h5;have hlen:((cs.drop (l*s)).take (m*s)).length=m*s:=by
   rw [aaB,abE,h7];have:l*s+m*s<=n*s:=by rw [<- abw]; exact aaQ _ h1
   omega
  refine ⟨_,_,rfl,(by show m<=C - l; omega),hlen,?_⟩
  by_cases hms:m*s=0
  ·left
   have h9:((cs.drop (l*s)).take (m*s)).length=0:=by rw [hlen]; exact hms
   exact aa8.1 h9
  ·right
   rcases h8 with h8 | ⟨b,off,c,e,fz,us,rfl,lT,OO,h12⟩
   ·exfalso;subst h8;simp at hlen;omega
   ·have hk:k=l:=by
     rcases h4 with h4 | h4
     ·exfalso;have:m≠0:=fun e=>hms (by simp [e])
      omega
     ·exact h4
    subst hk;refine ⟨b,off+k*s,c,e,fz,(us.drop (k*s)).take (m*s),by simp [eV],lT,(OO.drop _).take _,fun j v hj=>?_⟩
    rw [abr] at hj;split at hj
    ·rw [abt] at hj;rw [abh]; exact h12 _ _ hj
    ·simp at hj
theorem Oi (gq:gS st.rt S) (hm:Mem C w S H) {d:D} {u:Value} (hd:cx w (ah C w S H) S d u) {g:Option Bool} {s n:Nat} {cs:List D} (h:st.qx d=some (g,s,n,cs)):Tk w (ah C w S H) s n cs u:=by
 cases d with
 | nil k=>
  simp only [St.qx,jf,tE] at h;obtain ⟨_,rfl,rfl,rfl⟩:=h;have:=UR hd;subst this;exact ⟨none,0,rfl,aav _,by simp,.inl rfl⟩
 | sl b s' n' cs'=>
  simp only [St.qx,jf,tE] at h;obtain ⟨rfl,rfl,rfl,rfl⟩:=h;cases b with
  | none=>exact absurd hd (by simp [cx,gI,bD,Ext])
  | some b=>exact Bp (t:=.v (.sl (some b) s' n' cs') u) hd rfl
 | ref r q o x=>
  simp only [St.qx] at h;split at h
  case h_2=>simp at h
  rename_i b s' n' cs' hc;simp only [jf,tE] at h;obtain ⟨rfl,rfl,rfl,rfl⟩:=h;obtain ⟨R,l,t,h1,h2,h3,h4,h5⟩:=iM gq hc;exact ab2 h5.symm (hd t h4) (Bp (rb hm h1 h2 h3 h5.symm) h5.symm)
 | _=>simp [St.qx] at h
variable {c:cA} (aw:eu c P)
include aw
theorem UW (gq:gS st.rt S) (hm:Mem C w S H) {t:TypeId} {d d':D} {u:Value} (hd:cx w (ah C w S H) S d u) (h:OE c st t d=some d') (ty:TypeId):∃ r,(∀ w:World,(Builtin.len_ #[t] ty #[u]).run P w=.ok r w)/\cx w (ah C w S H) S d' r:=by
 unfold OE at h;split at h
 ·rename_i mq;obtain ⟨dd,h1,h2⟩:=(aw.ty t _ mq).desc;simp only [lS] at h2;subst h2;have:=Bn hd;subst this;simp only [jf] at h;subst h;exact ⟨_,by intro w; simp [Builtin.len_,run_underlying h1]; rfl,rfl⟩
 ·rename_i e mq;obtain ⟨dd,h1,h2⟩:=(aw.ty t _ mq).desc;simp only [lS] at h2;subst h2;split at h
  case h_2=>simp at h
  rename_i hs;simp only [jf] at h;subst h;obtain ⟨base,cap,rfl,_⟩:=(Oi gq hm hd hs).ok;exact ⟨_,by intro w; simp [Builtin.len_,run_underlying h1]; rfl,rfl⟩
 ·simp at h
end
theorem re {P:Program} {w:World} {t e:TypeId} {A:Addr} {n cap:Nat} {k:IntKind} {i:Int} {sz:Nat} (h:P.underlying t=some (.slice e)) (hs:(Go.sizeOf e).run P w=Result.ok sz w) (h0:0<=i) (h1:i < n):
  (Instr.indexAt t (.slice (some A) n cap) (.int k i)).run P w=.ok (.pointer (some (A.add (i.toNat*sz)))) w:=by
 simp [Instr.indexAt,run_underlying h,asIntOf,h0,h1,hs]
theorem xj {P:Program} {w:World} {t e:TypeId} {A:Addr} {n:Nat} {k:IntKind} {i:Int} {sz:Nat} (h:P.underlying t=some (.array n e)) (hs:(Go.sizeOf e).run P w=Result.ok sz w) (h0:0<=i) (h1:i < n):
  (Instr.indexAt t (.pointer (some A)) (.int k i)).run P w=.ok (.pointer (some (A.add (i.toNat*sz)))) w:=by
 simp [Instr.indexAt,run_underlying h,asIntOf,h0,h1,hs,Instr.sureAddr]
theorem mP {i:Int} {n:Nat} {d:Option D} {d':D} (h:kO i n d=some d'):0<=i/\i < n/\d=some d':=by
 unfold kO at h;split at h
 ·split at h
  ·exact ⟨by assumption,by assumption,h⟩
  ·simp at h
 ·simp at h
theorem Lm {w:World} {X:Bool->Nat->Prop} {s n cap:Nat} {a:Option (Nat × Nat)} {ts:List T} (hs:bI w X (.own s n cap a ts)) {x:Option (Nat × Nat)} {u:Value} (hr:eM x (.own s n cap a ts) u) (pj:0 < (trim x s n (ba ts)).1):∃ b off0 n' c',a=some (b,off0)/\u=.slice (some ⟨b,off0+off x*s,none⟩) n' c'/\n'=(trim x s n (ba ts)).1:=by
 simp only [bI] at hs;obtain ⟨g1,g2,g3,g4⟩:=hs;cases x with
 | none=>
  simp only [eM,sn,T.er,T.val,uF] at hr;cases a with
  | none=>simp only [trim] at pj; omega
  | some p=>exact ⟨p.1,p.2,n,cap,rfl,by simp [hr,off],rfl⟩
 | some p=>
  obtain ⟨l0,m⟩:=p;simp only [eM,sn,T.er,T.val,uF,Value.slice.injEq] at hr;obtain ⟨e1,base,C0,k0,⟨e2,_,e3⟩,e4,rfl,e5⟩:=hr;subst e3;simp only [trim] at pj;cases a with
  | none=>simp only at g3; omega
  | some p=>
   simp only [OB] at e2;subst e2;have:k0=l0:=by
    rcases e5 with e5 | e5
    ·omega
    ·exact e5
   subst this;exact ⟨p.1,p.2,m,cap - k0,rfl,by rw [OB,eV]; rfl,rfl⟩
section
variable {P:Program} {c:cA} (aw:eu c P) {C:Ctx} {Hx:List T} {w:World} {S:List (Nat × RT)} {st:St} (gq:gS st.rt S) (hm:Mem C w S Hx)
include aw gq hm
theorem Bq {t:TypeId} {d d':D} {u:Value} {k:IntKind} {i:Int} (hd:cx w (ah C w S Hx) S d u) (h:q9 st c t d i=some d'):
  ∃ r,(∀ w:World,(Instr.indexAt t u (.int k i)).run P w=.ok r w)/\cx w (ah C w S Hx) S d' r:=by
 unfold q9 at h;split at h
 ·rename_i e sz qB z mq;obtain ⟨dd,h1,h2⟩:=(aw.ty t _ mq).desc;simp only [lS] at h2;subst h2;split at h
  case h_2=>simp at h
  rename_i ei vI;have cU:=fun w=>(aw.ty e ei vI).sz w;split at h
  ·rename_i r q o x;split at h
   ·rename_i s n cs hc;split at h
    case isFalse=>simp at h
    rename_i hs;obtain ⟨hs,UX⟩:=hs;subst hs;obtain ⟨h3,h4,h5⟩:=mP h;simp only [jf] at h5;subst h5;obtain ⟨R,l,t',h6,h7,h8,h9,lT⟩:=iM gq hc;obtain ⟨cap,a,ts,rfl,rfl⟩:=vG lT.symm;have dF:=rb hm h6 h7 h8 lT.symm;have hr:=hd _ h9;have pj:0 < (trim x ei.size n (ba ts)).1:=by omega
    simp only [bI] at dF;obtain ⟨g1,g2,g3,g4⟩:=dF;obtain ⟨Br,Z3⟩:=Fg (bx:=R.box) h7 h8;obtain ⟨b,off0,n',c',rfl,rfl,rfl⟩:=Lm (by simpa only [bI] using ⟨g1,g2,g3,g4⟩) hr pj
    refine ⟨_,fun w=>re h1 (cU w) h3 h4,?_⟩;intro R' dV;rw [h6,jf] at dV;subst dV;refine ⟨fun e=>by simp at e,fun b' off' fH=>?_⟩
    rw [Br,jf,tE] at fH;obtain ⟨rfl,rfl⟩:=fH;rw [eV,abw,abh]
   ·rename_i g s n cs hc;split at h
    case isFalse=>simp at h
    rename_i hs;obtain ⟨hs,UX⟩:=hs;subst hs;obtain ⟨h3,h4,h5⟩:=mP h;simp only [jf] at h5;subst h5;obtain ⟨R,l,t',h6,h7,h8,h9,lT⟩:=iM gq hc;have dF:=rb hm h6 h7 h8 lT.symm;have hr:=hd _ h9;have pj:0 < (trim x ei.size n cs).1:=by omega
    cases t' with
    | own s' n' cap a ts=>simp [T.er] at lT
    | v dd uu=>
     simp only [bI] at dF;simp only [T.er] at lT;rw [<- lT] at dF;simp only [Ext] at dF;obtain ⟨base,cap,us,e1,e2,e3,e4,e5⟩:=dF;have cX:cs≠[]:=by
      intro ed;subst ed;simp only [abx] at e3;rcases Nat.mul_eq_zero.1 e3.symm with hn | hn
      ·subst hn;cases x with
       | none=>simp [trim] at pj
       | some p=>
        simp only [eM,sn,T.er,<- lT] at hr;obtain ⟨e6,_⟩:=hr;simp only [trim] at pj; omega
      ·omega
     rcases e5 with e5 | ⟨kb,off0,cc,e,fz,e6,e7,e8,e9⟩
     ·exact absurd e5 cX
     ·subst e6;have key:∃ n' c',u=.slice (some ⟨kb,off0+off x*ei.size,none⟩) n' c'/\n'=(trim x ei.size n cs).1:=by
       cases x with
       | none=>
        simp only [eM,sn,T.er,<- lT,T.val] at hr;exact ⟨n,cap,by simp [hr,e1,off],rfl⟩
       | some p=>
        obtain ⟨l0,m⟩:=p;simp only [eM,sn,T.er,<- lT,T.val,e1,Value.slice.injEq] at hr;obtain ⟨f1,Tl,C0,k0,⟨f2,_,f3⟩,f4,rfl,f5⟩:=hr;subst f3; subst f2;simp only [trim] at pj;have:k0=l0:=by
         rcases f5 with f5 | f5
         ·omega
         ·exact f5
        subst this;exact ⟨m,cap - k0,by rw [OB,eV]; rfl,rfl⟩
      obtain ⟨n',c',rfl,rfl⟩:=key;refine ⟨_,fun w=>re h1 (cU w) h3 h4,kb,off0,cc,e,fz,us,?_,?_,e8,e4,e9⟩
      ·rw [eV,abw,abh]
      ·exact ⟨e7.1,e7.2.1,e7.2.2.1,fun h=>by simp at h⟩
   ·simp at h
  ·rename_i g s n cs;split at h
   case isFalse=>simp at h
   rename_i hs;obtain ⟨hs,UX⟩:=hs;subst hs;obtain ⟨h3,h4,h5⟩:=mP h;simp only [jf] at h5;subst h5;have tH:Ext w (ah C w S Hx) (.sl (some g) ei.size n cs) u:=hd;simp only [Ext] at tH;obtain ⟨base,cap,us,rfl,e2,e3,e4,e5⟩:=tH;rcases e5 with e5 | ⟨kb,off0,cc,e,fz,rfl,e7,e8,e9⟩
   ·exfalso;subst e5;simp only [abx] at e3;rcases Nat.mul_eq_zero.1 e3.symm with hn | hn<;>omega
   ·refine ⟨_,fun w=>re h1 (cU w) h3 h4,kb,off0,cc,e,fz,us,by rw [eV],?_,e8,e4,e9⟩
    exact ⟨e7.1,e7.2.1,e7.2.2.1,fun h=>by simp at h⟩
  ·simp at h
 ·rename_i n e sz qB z mq;obtain ⟨dd,h1,h2⟩:=(aw.ty t _ mq).desc;simp only [lS] at h2;subst h2;split at h
  case h_2=>simp at h
  rename_i ei vI;have cU:=fun w=>(aw.ty e ei vI).sz w;split at h
  ·rename_i r q o;split at h
   case isFalse=>simp at h
   rename_i hl;obtain ⟨h3,h4,h5⟩:=mP h;simp only [jf] at h5;subst h5;obtain ⟨R,b,off0,hR,ha,rfl⟩:=sw gq hm hl hd;refine ⟨_,fun w=>xj h1 (cU w) h3 h4,?_⟩;rw [eV,abh];exact UU hd hR ha
  ·rename_i cs o;obtain ⟨h3,h4,h5⟩:=mP h;simp only [jf] at h5;subst h5;obtain ⟨b,off0,cc,e',fz,us,rfl,h6⟩:=hd;exact ⟨_,fun w=>xj h1 (cU w) h3 h4,b,off0,cc,e',fz,us,by rw [eV,abh],h6⟩
  ·simp at h
 ·simp at h
end
theorem add_add (A:Addr) (i j:Nat):(A.add i).add j=A.add (i+j):=by
 unfold Addr.add;split<;>split<;>split<;>first | rfl | omega | simp_all [abh]
theorem OP (b:Option Addr):b.map (·.add 0)=b:=by
 cases b<;>simp [Addr.add]
def UY (d:Option D) (u:Option Value):Prop:=(d=none/\u=none)∨∃ k i,d=some (.int k i)/\u=some (.int k i)
theorem GG {w:World} {X:Bool->Nat->Prop} {S:List (Nat × RT)} {d:Option D} {u:Option Value} (h:(d=none/\u=none)∨∃ x y,d=some x/\u=some y/\cx w X S x y) {z i:Int} (hb:bound d z=some i):UY d u:=by
 rcases h with h | ⟨x,y,rfl,rfl,h⟩
 ·exact .inl h
 ·cases x<;>simp [bound] at hb
  have:=gJ h;subst this;exact .inr ⟨_,_,rfl,rfl⟩
theorem GH {P:Program} {w:World} {is:Bool} {len cap:Nat} {dl dh:Option D} {ul uh:Option Value} {l h:Int} (h1:UY dl ul) (h2:UY dh uh) (hl:bound dl 0=some l) (hh:bound dh len=some h) (h0:0<=l) (Z4:l<=h) (hhn:h<=len) (Fj:len<=cap):
  (Instr.sliceBounds is len cap ul uh none).run P w=.ok (l.toNat,h.toNat,cap) w:=by
 have e1:0<=h:=Int.le_trans h0 Z4;have e2:h<=(cap:Int):=by omega
 have e3:l<=(h.toNat:Int):=by omega
 rcases h1 with ⟨rfl,rfl⟩ | ⟨k,i,rfl,rfl⟩<;>rcases h2 with ⟨rfl,rfl⟩ | ⟨k',i',rfl,rfl⟩<;>simp only [bound,jf] at hl hh<;>subst hl<;>subst hh
 ·simp [Instr.sliceBounds]
 ·simp [Instr.sliceBounds,Instr.sliceBound,asIntOf,e1,e2]
 ·simp [Instr.sliceBounds,Instr.sliceBound,asIntOf,h0,Z4]
 ·have e4:i<=((i'.toNat:Nat):Int):=e3;simp only [Instr.sliceBounds,Instr.sliceBound,asIntOf,Sem.run_bind,Sem.run_pure,Result.andThen_ok,Sem.run_ite];rw [if_pos ⟨e1,e2⟩];simp only [Result.andThen_ok,Sem.run_pure,Sem.run_bind,Sem.run_ite];rw [if_pos ⟨h0,e4⟩];rfl
def Ln (w:World) (X:Bool->Nat->Prop) (S:List (Nat × RT)) (d:Option D) (u:Option Value):Prop:=(d=none/\u=none)∨∃ x y,d=some x/\u=some y/\cx w X S x y
section
variable {P:Program} {w:World}
theorem Mt {X:Bool->Nat->Prop} {S:List (Nat × RT)} {t:TypeId} (ht:P.underlying t=some .string) {s:ByteArray} {d':D} {dl dh:Option D} {ul uh:Option Value} (hl:Ln w X S dl ul) (hh:Ln w X S dh uh) (h:Gv s dl dh=some d'):
  ∃ r,(∀ w:World,(Instr.sliceAt t (.string s) ul uh none).run P w=.ok r w)/\cx w X S d' r:=by
 unfold Gv at h;split at h
 case h_2=>simp at h
 rename_i l0 h0 e1 e2;split at h
 case isFalse=>simp at h
 rename_i hc;obtain ⟨i1,i2,i3⟩:=hc;simp only [jf] at h;subst h;refine ⟨.string (s.extract l0.toNat h0.toNat),?_,rfl⟩;intro w;simp only [Instr.sliceAt,Sem.run_bind,run_underlying ht,Result.andThen_ok,Instr.slice];simp [GH (GG hl e1) (GG hh e2) e1 e2 i1 i2 i3 (aav _)]
theorem Mu {t e:TypeId} (ht:P.underlying t=some (.slice e)) {sz:Nat} (hs:(Go.sizeOf e).run P w=Result.ok sz w) {base:Option Addr} {n cap:Nat} {dl dh:Option D} {ul uh:Option Value} {l h:Int} (h1:UY dl ul) (h2:UY dh uh) (hl:bound dl 0=some l) (hh:bound dh n=some h) (h0:0<=l) (Z4:l<=h) (hhn:h<=n) (Fj:n<=cap):
  (Instr.sliceAt t (.slice base n cap) ul uh none).run P w=.ok (.slice (if cap=l.toNat then base else base.map (·.add (l.toNat*sz))) (h.toNat - l.toNat) (cap - l.toNat)) w:=by
 simp only [Instr.sliceAt,Sem.run_bind,run_underlying ht,Result.andThen_ok,Instr.slice,GH h1 h2 hl hh h0 Z4 hhn Fj,hs];rfl
end
section
variable {P:Program} {c:cA} (aw:eu c P) {C:Ctx} {Hx:List T} {w:World} {S:List (Nat × RT)} {st:St} (gq:gS st.rt S) (hm:Mem C w S Hx)
include gq hm
theorem UZ {t e:TypeId} (ht:P.underlying t=some (.slice e)) {sz:Nat} (hs:∀ w,(Go.sizeOf e).run P w=Result.ok sz w) {d d':D} {u:Value} {dl dh:Option D} {ul uh:Option Value} (hd:cx w (ah C w S Hx) S d u) (hl:Ln w (ah C w S Hx) S dl ul) (hh:Ln w (ah C w S Hx) S dh uh)
  (h:Gw st sz d dl dh=some d'):∃ r,(∀ w:World,(Instr.sliceAt t u ul uh none).run P w=.ok r w)/\cx w (ah C w S Hx) S d' r:=by
 unfold Gw at h;split at h
 case h_2=>simp at h
 rename_i g s n cs gK;split at h
 case h_2=>simp at h
 rename_i l0 h0 e1 e2;split at h
 case isFalse=>simp at h
 rename_i hc;obtain ⟨rfl,i1,i2,i3⟩:=hc;have hSl:=Oi gq hm hd gK;obtain ⟨base,cap,rfl,Fj,hlen,Fk⟩:=hSl.ok;refine ⟨_,fun w=>Mu ht (hs w) (GG hl e1) (GG hh e2) e1 e2 i1 i2 i3 Fj,?_⟩;have hle:l0.toNat<=h0.toNat/\h0.toNat<=n:=by omega
 cases d with
 | nil k=>
  simp only [jf] at h;subst h;have:=UR hd;simp only [Value.slice.injEq] at this;obtain ⟨rfl,rfl,rfl⟩:=this;have:l0.toNat=0/\h0.toNat=0:=by omega
  rw [this.1,this.2];rfl
 | sl g' s' n' cs'=>
  simp only [St.qx,jf,tE] at gK;obtain ⟨rfl,rfl,rfl,rfl⟩:=gK;simp only [jf] at h;subst h;cases g' with
  | none=>exact absurd hd (by simp [cx,gI,bD,Ext])
  | some g'=>
   have tH:Ext w (ah C w S Hx) (.sl (some g') s' n' cs') (.slice base n' cap):=hd;simp only [Ext,Value.slice.injEq] at tH;obtain ⟨Tl,cap',us,⟨rfl,_,rfl⟩,e3,e4,e5,e6⟩:=tH;show Ext w (ah C w S Hx) (.sl (some g') s' (h0.toNat - l0.toNat) ((cs'.drop (l0.toNat*s')).take ((h0.toNat - l0.toNat)*s'))) _;simp only [Ext];have GI:((cs'.drop (l0.toNat*s')).take ((h0.toNat - l0.toNat)*s')).length=(h0.toNat - l0.toNat)*s':=by
    rw [aaB,abE,e4];have:l0.toNat*s'+(h0.toNat - l0.toNat)*s'<=n'*s':=by rw [<- abw]; exact aaQ _ (by omega)
    omega
   have dR:=(ir cs' us).1 e5;refine ⟨_,_,(us.drop (l0.toNat*s')).take ((h0.toNat - l0.toNat)*s'),rfl,by omega,GI,(ir _ _).2 ((dR.drop _).take _),?_⟩
   by_cases hz:(cs'.drop (l0.toNat*s')).take ((h0.toNat - l0.toNat)*s')=[]
   ·exact .inl hz
   ·right
    have pj:0 < (h0.toNat - l0.toNat)*s':=by
     rcases Nat.eq_zero_or_pos ((h0.toNat - l0.toNat)*s') with e7 | e7
     ·exact absurd (aa8.1 (by rw [GI,e7])) hz
     ·exact e7
    rcases e6 with e6 | ⟨kb,off0,cc,ee,fz,rfl,e7,e8,e9⟩
    ·subst e6; simp at hz
    ·have cX:¬ (cap=l0.toNat):=by
      intro e10;have:h0.toNat - l0.toNat=0:=by omega
      simp [this] at pj
     refine ⟨kb,off0+l0.toNat*s',cc,ee,fz,by rw [if_neg cX,OB,eV],e7,e8,fun j v hj=>?_⟩
     rw [abr] at hj;split at hj
     ·rw [abt] at hj;rw [abh]; exact e9 _ _ hj
     ·simp at hj
 | ref r q o y=>
  simp only [jf] at h;subst h;simp only [St.qx] at gK;split at gK
  case h_2=>simp at gK
  rename_i g' s' n' cs' cO;simp only [jf,tE] at gK;obtain ⟨rfl,rfl,rfl,rfl⟩:=gK;intro t' pK;have hr:=hd t' pK;obtain ⟨R,l,t'',h6,h7,h8,h9,lT⟩:=iM gq cO;rw [h9,jf] at pK;subst pK;unfold eM at hr ⊢;rw [<- lT] at hr ⊢;simp only [sn] at hr ⊢;have hN:=(Bp (rb hm h6 h7 h8 lT.symm) lT.symm).ok;obtain ⟨b0,C0,f1,f2,_⟩:=hN;cases y with
  | none=>
   simp only at hr;simp only [trim,off,abn] at*;rw [f1] at hr;simp only [Value.slice.injEq] at hr;obtain ⟨rfl,_,rfl⟩:=hr;refine ⟨by omega,base,cap,if cap=l0.toNat then 0 else l0.toNat,f1,by split<;>omega,?_,?_⟩
   ·split
    ·rename_i e; simp [OP]
    ·rfl
   ·by_cases e:cap=l0.toNat
    ·left; omega
    ·right; simp [e]
  | some p=>
   obtain ⟨l1,m1⟩:=p;simp only at hr;obtain ⟨g1,b1,C1,k1,g2,g3,g4,g5⟩:=hr;simp only [Value.slice.injEq] at g4;obtain ⟨rfl,_,rfl⟩:=g4;simp only [trim,off] at*;rw [f1] at g2;simp only [Value.slice.injEq] at g2;obtain ⟨rfl,_,rfl⟩:=g2;refine ⟨by omega,b0,C0,if C0 - l1=l0.toNat then k1 else k1+l0.toNat,f1,?_,?_,?_⟩
   ·split
    ·exact g3
    ·rcases g5 with g5 | g5<;>omega
   ·have e11:C0 - (l1+l0.toNat)=C0 - l1 - l0.toNat:=by omega
    rw [e11];split
    ·rfl
    ·congr 1
     cases b0 with
     | none=>rfl
     | some A=>simp [add_add,abw]
   ·by_cases e:C0 - l1=l0.toNat
    ·left; omega
    ·right
     rw [if_neg e];rcases g5 with g5 | g5<;>omega
 | _=>simp [St.qx] at gK
include aw
theorem OQ {t:TypeId} {d d':D} {u:Value} {dl dh:Option D} {ul uh:Option Value} (hd:cx w (ah C w S Hx) S d u) (hl:Ln w (ah C w S Hx) S dl ul) (hh:Ln w (ah C w S Hx) S dh uh)
  (h:Bj c st t d dl dh=some d'):∃ r,(∀ w:World,(Instr.sliceAt t u ul uh none).run P w=.ok r w)/\cx w (ah C w S Hx) S d' r:=by
 unfold Bj at h;split at h
 ·rename_i mq;obtain ⟨dd,h1,h2⟩:=(aw.ty t _ mq).desc;simp only [lS] at h2;subst h2;split at h
  case h_2=>simp at h
  have:=Bn hd;subst this;exact Mt h1 hl hh h
 ·rename_i e _ _ _ mq;obtain ⟨dd,h1,h2⟩:=(aw.ty t _ mq).desc;simp only [lS] at h2;subst h2;split at h
  case h_2=>simp at h
  rename_i ei vI;exact UZ gq hm h1 (fun w=>(aw.ty e ei vI).sz w) hd hl hh h
 ·simp at h
end
def lN (t t':T):Prop:=t'.val=t.val/\∀ p,sn t'.er=some p->sn t.er=some p
theorem lN.refl (t:T):lN t t:=⟨rfl,fun _ h=>h⟩
theorem lN.trans {a b c:T} (h:lN a b) (h':lN b c):lN a c:=⟨h'.1.trans h.1,fun p e=>h.2 p (h'.2 p e)⟩
theorem kW {t t':T} (h:lN t t') {x:Option (Nat × Nat)} {u:Value} (hr:eM x t u):eM x t' u:=by
 unfold eM at hr ⊢;cases he:sn t'.er with
 | some p=>
  rw [h.2 p he] at hr;simp only at hr ⊢;rw [h.1];exact hr
 | none=>trivial
theorem ab3 {q:List Nat} {o:Nat} {t':T}:∀ {cs cs':List T} {q':List Nat} {o':Nat} {l':List T},dL (fun l=>l.set o t') cs q=some cs'->under (q++[o]) (q'++[o'])=none->ay cs' q'=some l'->
  ∃ l,ay cs q'=some l/\∀ t2,l'[o']?=some t2->∃ t1,l[o']?=some t1/\lN t1 t2:=by
 induction q with
 | nil=>
  intro cs cs' q' o' l' hm hu hc;simp only [dL,jf] at hm;subst hm;cases q' with
  | nil=>
   simp only [ay,jf] at hc;subst hc;refine ⟨cs,rfl,fun t2 h2=>?_⟩;simp only [aaq,under] at hu;split at hu
   ·simp at hu
   ·rename_i cX;rw [aal cX] at h2;exact ⟨t2,h2,lN.refl _⟩
  | cons p q'=>
   simp only [aaq,aao,under] at hu;split at hu
   ·simp at hu
   ·rename_i cX;rw [ay,aal cX] at hc;rw [ay];exact ⟨l',hc,fun t2 h2=>⟨t2,h2,lN.refl _⟩⟩
 | cons p q ih=>
  intro cs cs' q' o' l' hm hu hc;rw [dL] at hm;cases hp:cs[p]? with
  | none=>simp [hp] at hm
  | some x=>
   cases x with
   | v d u=>simp [hp] at hm
   | own s n cap a xs=>
    simp only [hp] at hm;cases hx:dL (fun l=>l.set o t') xs q with
    | none=>simp [hx] at hm
    | some kS=>
     simp only [hx,jf] at hm;subst hm;obtain ⟨dg,_⟩:=aaa.1 hp;cases q' with
     | nil=>
      simp only [ay,jf] at hc;subst hc;refine ⟨cs,rfl,fun t2 h2=>?_⟩;by_cases hpo:p=o'
      ·subst hpo;rw [aaE dg,jf] at h2;subst h2;exact ⟨_,hp,rfl,fun p h=>by simpa [T.er,sn] using h⟩
      ·rw [aal hpo] at h2;exact ⟨t2,h2,lN.refl _⟩
     | cons p' q'=>
      by_cases GJ:p=p'
      ·subst GJ;simp only [aao,under,if_true] at hu;rw [ay,aaE dg] at hc;simp only at hc;obtain ⟨l,h1,h2⟩:=ih hx hu hc;exact ⟨l,by rw [ay,hp]; exact h1,h2⟩
      ·rw [ay,aal GJ] at hc;exact ⟨l',by rw [ay]; exact hc,fun t2 h2=>⟨t2,h2,lN.refl _⟩⟩
theorem sx {q:List Nat} {o:Nat} {t':T}:∀ {cs cs':List T} {q':List Nat} {bx:Option Nat},dL (fun l=>l.set o t') cs q=some cs'->under (q++[o]) q'=none->bZ bx cs' q'=bZ bx cs q':=by
 induction q with
 | nil=>
  intro cs cs' q' bx hm hu;simp only [dL,jf] at hm;subst hm;cases q' with
  | nil=>rfl
  | cons p q'=>
   simp only [aaq,under] at hu;split at hu
   ·simp at hu
   ·rename_i cX;rw [bZ,bZ,aal cX]
 | cons p q ih=>
  intro cs cs' q' bx hm hu;rw [dL] at hm;cases hp:cs[p]? with
  | none=>simp [hp] at hm
  | some x=>
   cases x with
   | v d u=>simp [hp] at hm
   | own s n cap a xs=>
    simp only [hp] at hm;cases hx:dL (fun l=>l.set o t') xs q with
    | none=>simp [hx] at hm
    | some kS=>
     simp only [hx,jf] at hm;subst hm;obtain ⟨dg,_⟩:=aaa.1 hp;cases q' with
     | nil=>rfl
     | cons p' q'=>
      rw [bZ,bZ];by_cases GJ:p=p'
      ·subst GJ;simp only [aao,under,if_true] at hu;rw [aaE dg,hp];simp only;cases q' with
       | nil=>rfl
       | cons y ys=>exact ih (bx:=none) hx hu
      ·rw [aal GJ]
theorem jE {q:List Nat}:∀ {x y:List Nat},under q x=some y->x=q++y:=by
 induction q with
 | nil=>intro x y h; simp only [under,jf] at h; exact h
 | cons p q ih=>
  intro x y h;cases x with
  | nil=>simp [under] at h
  | cons z zs=>
   simp only [under] at h;split at h
   ·rename_i e; subst e; simp [ih h]
   ·simp at h
theorem XU {q:List Nat} {o:Nat} {t':T} {cs cs':List T} (hm:dL (fun l=>l.set o t') cs q=some cs') {l':List T} (hc:ay cs' q=some l') {t2:T} (h2:l'[o]?=some t2):t2=t':=by
 obtain ⟨l,h3,h4⟩:=om hm;rw [h4,jf] at hc;subst hc;obtain ⟨dg,he⟩:=aaa.1 h2;rw [<- he]; simp
theorem GK {q:List Nat} {o:Nat} {y:List Nat} {d:D} {u:Value}:∀ {cs l:List T},ay cs q=some l->l[o]?=some (.v d u)->ay cs (q++o::y)=none:=by
 induction q with
 | nil=>
  intro cs l hc ho;simp only [ay,jf] at hc;subst hc;simp [ay,ho]
 | cons p q ih=>
  intro cs l hc ho;rw [ay] at hc;cases hp:cs[p]? with
  | none=>simp [hp] at hc
  | some x=>
   cases x with
   | v d u=>simp [hp] at hc
   | own s n cap a xs=>
    simp only [hp] at hc;rw [aao,ay,hp];exact ih hc ho
theorem U0 {q:List Nat} {o:Nat} {y:List Nat} {d:D} {u:Value}:∀ {cs l:List T} {bx:Option Nat},ay cs q=some l->l[o]?=some (.v d u)->bZ bx cs (q++o::y)=none:=by
 induction q with
 | nil=>
  intro cs l bx hc ho;simp only [ay,jf] at hc;subst hc;simp [bZ,ho]
 | cons p q ih=>
  intro cs l bx hc ho;rw [ay] at hc;cases hp:cs[p]? with
  | none=>simp [hp] at hc
  | some x=>
   cases x with
   | v d u=>simp [hp] at hc
   | own s n cap a xs=>
    simp only [hp] at hc;rw [aao,bZ,hp];simp only;have:=ih (bx:=none) hc ho;cases hq:q++o::y with
    | nil=>simp at hq
    | cons z zs=>rw [hq] at this; exact this
structure kX (S S':List (Nat × RT)) (r:Nat) (q:List Nat) (o:Nat) (t t':T):Prop where
 ex:∃ R cs' l,lk S r=some R/\ay R.cs q=some l/\l[o]?=some t/\dL (fun l=>l.set o t') R.cs q=some cs'/\S'=pt S r ⟨R.box,cs'⟩
section
variable {S S':List (Nat × RT)} {r:Nat} {q:List Nat} {o:Nat} {t t':T} (hc:kX S S' r q o t t')
include hc
theorem kX.Oj {r':Nat} (h:r'≠r):lk S' r'=lk S r':=by
 obtain ⟨R,cs',l,h1,h2,h3,h4,rfl⟩:=hc.ex;exact dJ _ _ h
theorem kX.box {r':Nat} {R':RT} (h:lk S' r'=some R'):∃ R,lk S r'=some R/\R.box=R'.box:=by
 by_cases he:r'=r
 ·subst he;obtain ⟨R,cs',l,h1,h2,h3,h4,rfl⟩:=hc.ex;rw [cJ,jf] at h;subst h;exact ⟨R,h1,rfl⟩
 ·rw [hc.Oj he] at h;exact ⟨R',h,rfl⟩
theorem kX.vJ {r':Nat} {q':List Nat} {o':Nat} (hf:r'≠r∨under (q++[o]) (q'++[o'])=none) {t2:T} (h:cD S' r' q' o'=some t2):∃ t1,cD S r' q' o'=some t1/\lN t1 t2:=by
 by_cases he:r'=r
 ·subst he;have hf:under (q++[o]) (q'++[o'])=none:=by rcases hf with hf | hf<;>first | exact absurd rfl hf | exact hf
  obtain ⟨R,cs',l,h1,h2,h3,h4,rfl⟩:=hc.ex;unfold cD at h ⊢;rw [cJ] at h;rw [h1];simp only at h ⊢;cases hx:ay cs' q' with
  | none=>simp [hx] at h
  | some l'=>
   simp only [hx] at h;obtain ⟨l1,h5,h6⟩:=ab3 h4 hf hx;rw [h5];exact h6 t2 h
 ·unfold cD at h ⊢;rw [hc.Oj he] at h;exact ⟨t2,h,lN.refl _⟩
theorem kX.Lo {t2:T} (h:cD S' r q o=some t2):t2=t':=by
 obtain ⟨R,cs',l,h1,h2,h3,h4,rfl⟩:=hc.ex;unfold cD at h;rw [cJ] at h;simp only at h;cases hx:ay cs' q with
 | none=>simp [hx] at h
 | some l'=>
  simp only [hx] at h;exact XU h4 hx h
theorem kX.Fl:cD S' r q o=some t':=by
 obtain ⟨R,cs',l,h1,h2,h3,h4,rfl⟩:=hc.ex;obtain ⟨l',h5,h6⟩:=om h4;rw [h2,jf] at h5;subst h5;unfold cD;rw [cJ];simp only [h6];rw [aaE (aaa.1 h3).1]
theorem kX.OR:cD S r q o=some t:=by
 obtain ⟨R,cs',l,h1,h2,h3,h4,rfl⟩:=hc.ex;simp [cD,h1,h2,h3]
theorem kX.sx {r':Nat} {q':List Nat} (hf:r'≠r∨under (q++[o]) q'=none) {R':RT} (h:lk S' r'=some R'):∃ R,lk S r'=some R/\R.box=R'.box/\bZ R'.box R'.cs q'=bZ R.box R.cs q':=by
 by_cases he:r'=r
 ·subst he;have hf:under (q++[o]) q'=none:=by rcases hf with hf | hf<;>first | exact absurd rfl hf | exact hf
  obtain ⟨R,cs',l,h1,h2,h3,h4,rfl⟩:=hc.ex;rw [cJ,jf] at h;subst h;exact ⟨R,h1,rfl,sx h4 hf⟩
 ·rw [hc.Oj he] at h;exact ⟨R',h,rfl,rfl⟩
theorem kX.fts:∃ A B,cM S=A++t.ft++B/\cM S'=A++t'.ft++B:=by
 obtain ⟨R,cs',l,h1,h2,h3,h4,rfl⟩:=hc.ex;obtain ⟨A,B,h5,h6⟩:=kU h1;obtain ⟨A',B',h7,h8⟩:=Th h2 h3;refine ⟨A++R.box.toList++A',B'++B,?_,?_⟩
 ·rw [h5,RT.ft,h7]; simp
 ·rw [h6,RT.ft,h8 t' cs' h4]; simp
theorem kX.XV {d:D} {u:Value} (ht:t'=.v d u) {r':Nat} {q':List Nat} {o':Nat} {y:Nat} {ys:List Nat} (hr:r'=r) (hy:under (q++[o]) (q'++[o'])=some (y::ys)):cD S' r' q' o'=none:=by
 subst hr; subst ht;obtain ⟨R,cs',l,h1,h2,h3,h4,rfl⟩:=hc.ex;obtain ⟨l',h5,h6⟩:=om h4;rw [h2,jf] at h5;subst h5;have h7:(l.set o (.v d u))[o]?=some (.v d u):=aaE (aaa.1 h3).1;have h8:=jE hy;have h9:q'=q++o::(y::ys).dropLast/\o'=(y::ys).getLast (by simp):=by
  have e1:q'++[o']=(q++o::(y::ys).dropLast)++[(y::ys).getLast (by simp)]:=by
   rw [h8]; simp only [aay,abp,aao,aaq]; rw [List.dropLast_concat_getLast]
  exact ⟨List.append_inj_left' e1 rfl,by have:=List.append_inj_right' e1 rfl; simpa using this⟩
 unfold cD;rw [cJ];simp only;rw [h9.1,GK h6 h7]
theorem kX.XW {d:D} {u:Value} (ht:t'=.v d u) {q' y:List Nat} (hy:under (q++[o]) q'=some y) {R':RT} (h:lk S' r=some R'):bZ R'.box R'.cs q'=none:=by
 subst ht;obtain ⟨R,cs',l,h1,h2,h3,h4,rfl⟩:=hc.ex;obtain ⟨l',h5,h6⟩:=om h4;rw [h2,jf] at h5;subst h5;have h7:(l.set o (.v d u))[o]?=some (.v d u):=aaE (aaa.1 h3).1;rw [cJ,jf] at h;subst h;rw [jE hy,aay];exact U0 h6 h7
end
section
variable {w w':World} {X X':Bool->Nat->Prop} {S S':List (Nat × RT)}
theorem xm {d:D} {u:Value} (h:cx w X S d u):(∃ ds us,d=.aM ds/\u=.tuple us/\cm (gI w X S) ds us.toList)∨((∀ ds,d≠.aM ds)/\gI w X S d u):=by
 cases d<;>first | exact .inr ⟨by simp,h⟩ | (obtain ⟨us,h1,h2⟩:=h; exact .inl ⟨_,us,rfl,h1,h2⟩)
theorem tI {d:D} {u:Value} (h:gI w X S d u):(∃ cs us,d=.agg cs/\u=.agg us/\cm (bD w X S) cs us.toList)∨(∃ f cs us,d=.fn f cs/\u=.func (.func f) #[] us/\cm (bD w X S) cs us.toList)∨((∀ cs,d≠.agg cs)/\(∀ f cs,d≠.fn f cs)/\bD w X S d u):=by
 cases d<;>first | exact .inr (.inr ⟨by simp,by simp,h⟩) | (obtain ⟨us,h1,h2⟩:=h; exact .inl ⟨_,us,rfl,h1,h2⟩) | (obtain ⟨us,h1,h2⟩:=h; exact .inr (.inl ⟨_,_,us,rfl,h1,h2⟩))
theorem ab4 {f:D->D} (h:∀ d u,bD w X S d u->bD w' X' S' (f d) u) {d:D} {u:Value} (hd:cx w X S d u):cx w' X' S' (pI f d) u:=by
 have ha:∀ d u,gI w X S d u->gI w' X' S' (fp f d) u:=by
  intro d u hd;rcases tI hd with ⟨cs,us,rfl,rfl,ha⟩ | ⟨g,cs,us,rfl,rfl,ha⟩ | ⟨h1,h2,h3⟩
  ·exact ⟨us,rfl,ha.map f (fun _ _=>h _ _)⟩
  ·exact ⟨us,rfl,ha.map f (fun _ _=>h _ _)⟩
  ·have:fp f d=f d:=by cases d<;>first | rfl | exact absurd rfl (h1 _) | exact absurd rfl (h2 _ _)
   rw [this]; exact eo (h _ _ h3)
 rcases xm hd with ⟨ds,us,rfl,rfl,hb⟩ | ⟨h1,h2⟩
 ·exact ⟨us,rfl,hb.map _ (fun _ _=>ha _ _)⟩
 ·have:pI f d=fp f d:=by cases d<;>first | rfl | exact absurd rfl (h1 _)
  rw [this]; exact kV (ha _ _ h2)
theorem ab5 {α:Type} (f:α->α) (l:List (Nat × α)) (k:Nat):lk (gn f l) k=(lk l k).map f:=by
 induction l with
 | nil=>rfl
 | cons e t ih=>
  obtain ⟨j,v⟩:=e;simp only [gn,lk];split<;>simp [ih]
theorem XX {f:D->D} (h:∀ d u,bD w X S d u->bD w' X' S' (f d) u) {tm:List (Nat × D)} {vs:Array Value} (ht:mF w X S tm vs):mF w' X' S' (gn (pI f) tm) vs:=by
 intro t;rw [ab5];have:=ht t;cases hx:lk tm t with
 | none=>simpa [hx] using mG _
 | some d=>rw [hx] at this; simpa using ab4 h this
theorem qC (h:∀ d u,bD w X S d u->bD w' X' S' d u) {d:D} {u:Value} (hd:cx w X S d u):cx w' X' S' d u:=by
 have ha:∀ d u,gI w X S d u->gI w' X' S' d u:=by
  intro d u hd;rcases tI hd with ⟨cs,us,rfl,rfl,ha⟩ | ⟨g,cs,us,rfl,rfl,ha⟩ | ⟨h1,h2,h3⟩
  ·exact ⟨us,rfl,ha.mono h⟩
  ·exact ⟨us,rfl,ha.mono h⟩
  ·exact eo (h _ _ h3)
 rcases xm hd with ⟨ds,us,rfl,rfl,hb⟩ | ⟨h1,h2⟩
 ·exact ⟨us,rfl,hb.mono ha⟩
 ·exact kV (ha _ _ h2)
theorem xY (h:∀ d u,bD w X S d u->bD w' X' S' d u) {tm:List (Nat × D)} {vs:Array Value} (ht:mF w X S tm vs):mF w' X' S' tm vs:=fun t=>qC h (ht t)
end
def jF (w w':World) (X X':Bool->Nat->Prop):Prop:=∀ b k,X b k->X' b k/\w'.heap[k]?=w.heap[k]?
theorem jF.refl (w:World) (X:Bool->Nat->Prop):jF w w X X:=fun _ _ h=>⟨h,rfl⟩
section
variable {w w':World} {X X':Bool->Nat->Prop} {S S':List (Nat × RT)} (hX:jF w w' X X')
include hX
theorem o0 {cs:List D} {o:Nat} {u:Value} (h:bD w X S (.cr cs o) u):bD w' X' S' (.cr cs o) u:=by
 obtain ⟨b,off,c,e,fz,us,h1,h2,h3,h4,h5⟩:=h;exact ⟨b,off,c,e,fz,us,h1,(hX _ _ h2).1,by rw [(hX _ _ h2).2]; exact h3,tG hX _ _ h4,h5⟩
theorem pM {d:D} (hr:∀ r q o x,d≠.ref r q o x) (hp:∀ r q o,d≠.ptr r q o) (hq:∀ cs o,d≠.cr cs o) {u:Value} (h:bD w X S d u):bD w' X' S' d u:=by
 cases d with
 | ref r q o x=>exact absurd rfl (hr _ _ _ _)
 | ptr r q o=>exact absurd rfl (hp _ _ _)
 | cr cs o=>exact absurd rfl (hq _ _)
 | _=>exact gF hX _ _ h
theorem OT {r:Nat} {q:List Nat} {o:Nat} {t:T} {d0:D} {u0:Value} (hc:kX S S' r q o t (.v d0 u0)) (hn:sn (bS d0)=none∨lN t (.v d0 u0)) {d:D} {u:Value} (h:bD w X S d u):bD w' X' S' d u:=by
 cases d with
 | ref r' q' o' x=>
  intro t2 h2;by_cases hf:r'≠r∨under (q++[o]) (q'++[o'])=none
  ·obtain ⟨t1,h1,hl⟩:=hc.vJ hf h2;exact kW hl (h t1 h1)
  ·have hr:r'=r:=adQ fun e=>hf (.inl e);cases hu:under (q++[o]) (q'++[o']) with
   | none=>exact absurd (.inr hu) hf
   | some y=>
    cases y with
    | nil=>
     have e1:=jE hu;simp only [aah] at e1;obtain ⟨rfl,e2⟩:=List.append_inj' e1 rfl;simp only [aaF,and_true] at e2;subst e2; subst hr;have:=hc.Lo h2;subst this;rcases hn with hn | hn
     ·unfold eM;simp only [T.er,hn]
     ·exact kW hn (h t hc.OR)
    | cons y ys=>rw [hc.XV rfl hr hu] at h2; simp at h2
 | ptr r' q' o'=>
  intro R' dV;obtain ⟨R,h1,h2⟩:=hc.box dV;refine ⟨fun e=>by rw [<- h2]; exact (h R h1).1 e,fun b off ha=>?_⟩
  by_cases hf:r'≠r∨under (q++[o]) q'=none
  ·obtain ⟨R1,h3,h4,h5⟩:=hc.sx hf dV;rw [h3,jf] at h1;subst h1;exact (h _ h3).2 b off (h5▸ha)
  ·have hr:r'=r:=adQ fun e=>hf (.inl e);subst hr;cases hu:under (q++[o]) q' with
   | none=>exact absurd (.inr hu) hf
   | some y=>rw [hc.XW rfl hu dV] at ha; simp at ha
 | cr cs o'=>exact o0 hX h
 | _=>exact pM hX (by simp) (by simp) (by simp) h
theorem zD {r:Nat} {q:List Nat} {o:Nat} {t t':T} (hc:kX S S' r q o t t') {ex:Bool} (hl:ex=false->lN t t') {d:D} {u:Value} (h:bD w X S d u):bD w' X' S' (cB r q o ex d) u:=by
 cases d with
 | ref r' q' o' x=>
  simp only [cB];split
  ·rename_i hr;subst hr;cases hu:under (q++[o]) (q'++[o']) with
   | none=>
    simp only;intro t2 h2;obtain ⟨t1,h1,hl⟩:=hc.vJ (.inr hu) h2;exact kW hl (h t1 h1)
   | some y=>
    cases y with
    | nil=>
     cases ex with
     | true=>simp [bD,Ext]
     | false=>
      simp only [aai,if_false];intro t2 h2;have e1:=jE hu;simp only [aah] at e1;obtain ⟨rfl,e2⟩:=List.append_inj' e1 rfl;simp only [aaF,and_true] at e2;subst e2;have:=hc.Lo h2;subst this;exact kW (hl rfl) (h t hc.OR)
    | cons y ys=>simp [bD,Ext]
  ·rename_i hr;intro t2 h2;obtain ⟨t1,h1,hl⟩:=hc.vJ (.inl hr) h2;exact kW hl (h t1 h1)
 | ptr r' q' o'=>
  simp only [cB];split
  ·rename_i hr;subst hr;cases hu:under (q++[o]) q' with
   | none=>
    simp only;intro R' dV;obtain ⟨R1,h3,h4,h5⟩:=hc.sx (.inr hu) dV;exact ⟨fun e=>by rw [<- h4]; exact (h R1 h3).1 e,fun b off ha=>(h R1 h3).2 b off (h5▸ha)⟩
   | some y=>simp [bD,Ext]
  ·rename_i hr;intro R' dV;obtain ⟨R1,h3,h4,h5⟩:=hc.sx (.inl hr) dV;exact ⟨fun e=>by rw [<- h4]; exact (h R1 h3).1 e,fun b off ha=>(h R1 h3).2 b off (h5▸ha)⟩
 | cr cs o'=>exact o0 hX h
 | _=>simp only [cB]; exact pM hX (by simp) (by simp) (by simp) h
theorem XY {r:Nat} {R:RT} (hS:S'=pt S r R) {d:D} {u:Value} (h:bD w X S d u):bD w' X' S' (cH r d) u:=by
 subst hS;cases d with
 | ref r' q' o' x=>
  simp only [cH];split
  ·simp [bD,Ext]
  ·rename_i hr;intro t2 h2;unfold cD at h2;rw [dJ _ _ hr] at h2;exact h t2 h2
 | ptr r' q' o'=>
  simp only [cH];split
  ·simp [bD,Ext]
  ·rename_i hr;intro R' dV;rw [dJ _ _ hr] at dV;exact h R' dV
 | cr cs o'=>exact o0 hX h
 | _=>simp only [cH]; exact pM hX (by simp) (by simp) (by simp) h
theorem ab6 {r:Nat} {R0 R:RT} (h0:lk S r=some R0) (hb:R.box=R0.box) (hS:S'=pt S r R) {d:D} {u:Value} (h:bD w X S d u):bD w' X' S' (eC r d) u:=by
 subst hS;cases d with
 | ref r' q' o' x=>
  simp only [eC];split
  ·simp [bD,Ext]
  ·rename_i hr;intro t2 h2;unfold cD at h2;rw [dJ _ _ hr] at h2;exact h t2 h2
 | ptr r' q' o'=>
  cases q' with
  | nil=>
   simp only [eC];intro R' dV;by_cases hr:r'=r
   ·subst hr;rw [cJ,jf] at dV;subst dV;refine ⟨fun e=>by rw [hb]; exact (h R0 h0).1 e,fun b off ha=>(h R0 h0).2 b off ?_⟩
    simp only [bZ] at ha ⊢;rw [<- hb]; exact ha
   ·rw [dJ _ _ hr] at dV;exact h R' dV
  | cons p q'=>
   simp only [eC];split
   ·simp [bD,Ext]
   ·rename_i hr;intro R' dV;rw [dJ _ _ hr] at dV;exact h R' dV
 | cr cs o'=>exact o0 hX h
 | _=>simp only [eC]; exact pM hX (by simp) (by simp) (by simp) h
theorem tJ (hS:∀ r R,lk S' r=some R->lk S r=some R) {d:D} {u:Value} (h:bD w X S d u):bD w' X' S' d u:=by
 cases d with
 | ref r' q' o' x=>
  intro t2 h2;unfold cD at h2;cases hr:lk S' r' with
  | none=>simp [hr] at h2
  | some R=>
   refine h t2 ?_;unfold cD;rw [hS _ _ hr];rw [hr] at h2;exact h2
 | ptr r' q' o'=>exact fun R' dV=>h R' (hS _ _ dV)
 | cr cs o'=>exact o0 hX h
 | _=>exact pM hX (by simp) (by simp) (by simp) h
end
theorem XZ (b:Bool) (d:D):fC b (bS d)=bS d:=by
 cases d with
 | sl g s n cs=>cases g<;>simp [bS,fC]
 | _=>simp [bS,fC]
mutual
theorem zE {w:World} {X X':Bool->Nat->Prop} (hX:∀ b k,X b k->X' b k) (b:Bool):∀ (t:T),bI w X t->(∀ k∈t.ft,X' b k)->Ext w X' (fC b t.er) t.val
 | .v d u,hs,_=>by
  simp only [bI] at hs;have h2:Ext w X' (bS d) u:=gF (fun b k h=>⟨hX b k h,rfl⟩) _ _ hs;have h3:fC b (T.v d u).er=bS d:=XZ b d;rw [h3]; exact h2
 | .own s n cap a cs,hs,hf=>by
  simp only [bI] at hs;obtain ⟨h1,h2,h3,h4⟩:=hs;simp only [T.er,fC,Ext,T.val,uF];have h5:=Ep hX b cs h4 (fun k hk=>hf k (by simp [T.ft,hk]))
  refine ⟨_,cap,ax cs,rfl,h1.1,?_,h5,?_⟩
  ·have:=((ir _ _).1 h5).len;rw [this,bV,h2]
  ·cases a with
   | none=>
    left
    have:cs.length=0:=by rw [h2,h3.1]; simp
    simp [aa8.1 this,ba,cI]
   | some p=>
    obtain ⟨k,off⟩:=p;obtain ⟨c,e,fz,h6,_,_,h7⟩:=h3;exact .inr ⟨k,off,c,e,fz,rfl,hf k (by simp [T.ft,fG]),h6,h7⟩
theorem Ep {w:World} {X X':Bool->Nat->Prop} (hX:∀ b k,X b k->X' b k) (b:Bool):∀ (ts:List T),bJ w X ts->(∀ k∈ai ts,X' b k)->gp w X' (cI b (ba ts)) (ax ts)
 | [],_,_=>by simp [ba,cI,ax,gp]
 | t::ts,hs,hf=>by
  simp only [bJ] at hs;simp only [ba,cI,ax,gp];exact ⟨t.val,ax ts,rfl,zE hX b t hs.1 (fun k hk=>hf k (by simp [ai,hk])),Ep hX b ts hs.2 (fun k hk=>hf k (by simp [ai,hk]))⟩
end
theorem Lp (b:Bool):∀ (ds:List D) (k:Nat),cI b (ds.drop k)=(cI b ds).drop k
 | [],k=>by simp [cI]
 | d::ds,0=>rfl
 | d::ds,k+1=>by simp [cI,Lp b ds k]
theorem Lq (b:Bool):∀ (ds:List D) (k:Nat),cI b (ds.take k)=(cI b ds).take k
 | [],k=>by simp [cI]
 | d::ds,0=>rfl
 | d::ds,k+1=>by simp [cI,Lq b ds k]
theorem OU {w:World} {X:Bool->Nat->Prop} {g:Bool} {s n:Nat} {cs:List D} {l m k C:Nat} {base:Option Addr} (h:Ext w X (.sl (some g) s n cs) (.slice base n C)) (h1:l+m<=n) (h2:k<=C) (h3:C - l=0∨k=l):
  Ext w X (.sl (some g) s m ((cs.drop (l*s)).take (m*s))) (.slice (base.map (·.add (k*s))) m (C - l)):=by
 simp only [Ext,Value.slice.injEq] at h ⊢;obtain ⟨Tl,cap',us,⟨rfl,_,rfl⟩,e3,e4,e5,e6⟩:=h;have GI:((cs.drop (l*s)).take (m*s)).length=m*s:=by
  rw [aaB,abE,e4];have:l*s+m*s<=n*s:=by rw [<- abw]; exact aaQ _ h1
  omega
 have dR:=(ir cs us).1 e5;refine ⟨_,_,(us.drop (l*s)).take (m*s),⟨rfl,trivial,rfl⟩,by omega,GI,(ir _ _).2 ((dR.drop _).take _),?_⟩
 by_cases hz:(cs.drop (l*s)).take (m*s)=[]
 ·exact .inl hz
 ·right
  have pj:0 < m*s:=by
   rcases Nat.eq_zero_or_pos (m*s) with e7 | e7
   ·exact absurd (aa8.1 (by rw [GI,e7])) hz
   ·exact e7
  rcases e6 with e6 | ⟨kb,off0,cc,ee,fz,rfl,e7,e8,e9⟩
  ·subst e6; simp at hz
  ·have yx:m≠0:=fun e=>by simp [e] at pj
   have hkl:k=l:=by
    rcases h3 with h3 | h3
    ·omega
    ·exact h3
   subst hkl;refine ⟨kb,off0+k*s,cc,ee,fz,by rw [OB,eV],e7,e8,fun j v hj=>?_⟩
   rw [abr] at hj;split at hj
   ·rw [abt] at hj;rw [abh]; exact e9 _ _ hj
   ·simp at hj
theorem Dm {w:World} {X X':Bool->Nat->Prop} (hX:∀ b k,X b k->X' b k) (b:Bool) {t:T} {g:Option Bool} {s n:Nat} {cs:List D} (he:t.er=.sl g s n cs) (hs:bI w X t) (hf:∀ k∈t.ft,X' b k) {x:Option (Nat × Nat)} {u:Value} (hr:eM x t u):
  Ext w X' (fC b (.sl g s (trim x s n cs).1 (trim x s n cs).2)) u:=by
 have h1:=zE hX b t hs hf;unfold eM at hr;rw [he] at hr h1;simp only [sn] at hr;cases x with
 | none=>simp only at hr; subst hr; exact h1
 | some p=>
  obtain ⟨l,m⟩:=p;simp only at hr;obtain ⟨h2,base,C,k,h3,h4,rfl,h5⟩:=hr;rw [h3] at h1;cases g with
  | none=>
   simp only [fC,trim] at h1 ⊢;rw [Lq,Lp];exact OU h1 h2 h4 h5
  | some g=>
   simp only [fC,trim] at h1 ⊢;exact OU h1 h2 h4 h5
theorem Rel.step {C:Ctx} {H H':List T} {w w':World} {st st':St} {aI:List (Array Value)} {S S':List (Nat × RT)} (h:Rel C H w st aI S) {f:D->D} (gq:gS st'.rt S') (fX:st'.tm=gn (pI f) st.tm) (OV:st'.up=st.up.map (gn (pI f)))
  (dZ:∀ d u,bD w (ah C w S H) S d u->bD w' (ah C w' S' H') S' (f d) u) (db:Mem C w' S' H') (hk:Kept C w' S' H'):Rel C H' w' st' aI S':=by
 refine ⟨gq,db,?_,hk⟩;rw [fX,OV,show gn (pI f) st.tm::st.up.map (gn (pI f))=(st.tm::st.up).map (gn (pI f)) from rfl];exact h.pd.map _ (fun _ _=>XX dZ)
theorem Rel.sA {C:Ctx} {H H':List T} {w w':World} {st st':St} {aI:List (Array Value)} {S S':List (Nat × RT)} (h:Rel C H w st aI S) (gq:gS st'.rt S') (fX:st'.tm=st.tm) (OV:st'.up=st.up)
  (dZ:∀ d u,bD w (ah C w S H) S d u->bD w' (ah C w' S' H') S' d u) (db:Mem C w' S' H') (hk:Kept C w' S' H'):Rel C H' w' st' aI S':=by
 refine ⟨gq,db,?_,hk⟩;rw [fX,OV];exact h.pd.mono (fun _ _=>xY dZ)
def GT (g:D->D) (t t1:T):Prop:=(∃ d d1 u,t=.v d u/\t1=.v d1 u/\bS d1=g (bS d))∨((∃ s n cap a xs,t=.own s n cap a xs)/\t1=t)
structure SR (g:D->D) (S S1:List (Nat × RT)):Prop where
 look:∀ r R1,lk S1 r=some R1->∃ R,lk S r=some R/\R1.box=R.box/\cm (GT g) R.cs R1.cs
 iQ:cM S1=cM S
theorem GT.val {g:D->D} {t t1:T} (h:GT g t t1):t1.val=t.val/\t1.ft=t.ft:=by
 rcases h with ⟨d,d1,u,rfl,rfl,_⟩ | ⟨_,rfl⟩
 ·exact ⟨rfl,rfl⟩
 ·exact ⟨rfl,rfl⟩
theorem GT.adX {g:D->D} {ts ts1:List T} (h:cm (GT g) ts ts1):ax ts1=ax ts:=by
 induction h with
 | nil=>rfl
 | cons h1 _ ih=>simp [ax,h1.val.1,ih]
theorem SR.refl (S:List (Nat × RT)):SR id S S:=by
 refine ⟨fun r R1 h=>⟨R1,h,rfl,?_⟩,rfl⟩;refine du rfl (fun i a b ha hb=>?_);rw [ha,jf] at hb;subst hb;cases a with
 | v d u=>exact .inl ⟨d,d,u,rfl,rfl,rfl⟩
 | own s n cap aa xs=>exact .inr ⟨⟨s,n,cap,aa,xs,rfl⟩,rfl⟩
def fT (g:D->D):T->T
 | .v d u=>.v (fp g (bS d)) u
 | t=>t
def fS (g:D->D):List (Nat × RT)->List (Nat × RT)
 | []=>[]
 | (k,R)::t=>(k,⟨R.box,R.cs.map (fT g)⟩)::fS g t
structure lO (g:D->D):Prop where
 sl:∀ b s n cs,g (.sl b s n cs)=.sl b s n cs
 hole:∀ s n,g (.hole s n)=.hole s n
 no:∀ d,sn d=none->sn (g d)=none
theorem X0 {d:D} (h:sn d=none):bS d=d:=by
 cases d<;>first | rfl | simp [sn] at h
theorem Er (d:D):bS (bS d)=bS d:=by
 cases d with
 | sl b s n cs=>cases b<;>rfl
 | _=>rfl
theorem ab7 {d:D} {p:Nat × Nat} (h:sn (bS d)=some p):(∃ b s n cs,bS d=.sl (some b) s n cs)∨∃ s n,bS d=.hole s n:=by
 cases d with
 | sl b s n cs=>
  cases b with
  | none=>simp [bS,sn] at h
  | some b=>exact .inl ⟨b,s,n,cs,rfl⟩
 | hole s n=>exact .inr ⟨s,n,rfl⟩
 | _=>simp [bS,sn] at h
theorem lO.adY {g:D->D} (hg:lO g) {d:D} (h:sn d=none):sn (fp g d)=none:=by
 cases d<;>first | rfl | (simp [sn] at h; done) | exact hg.no _ rfl
theorem lO.adZ {g:D->D} (hg:lO g) (d:D):sn (fp g d)=sn d:=by
 cases d<;>first | rfl | (simp only [fp,hg.sl,hg.hole]; done) | exact hg.no _ rfl
theorem lO.leaf {g:D->D} (hg:lO g) (d:D):bS (fp g (bS d))=fp g (bS d):=by
 cases hs:sn (bS d) with
 | none=>exact X0 (hg.adY hs)
 | some p=>
  rcases ab7 hs with ⟨b,s,n,cs,h⟩ | ⟨s,n,h⟩
  ·rw [h];simp [fp,hg.sl,bS]
  ·rw [h];simp [fp,hg.hole,bS]
theorem Ok {g:D->D} (hg:lO g) (t:T):(fT g t).er=fp g t.er:=by
 cases t with
 | v d u=>simp only [fT,T.er]; exact hg.leaf d
 | own s n cap a xs=>simp [fT,T.er,fp,hg.sl]
theorem lX (g:D->D) (S:List (Nat × RT)) (k:Nat):lk (fS g S) k=(lk S k).map fun R=>⟨R.box,R.cs.map (fT g)⟩:=by
 induction S with
 | nil=>rfl
 | cons e t ih=>
  obtain ⟨j,R⟩:=e;simp only [fS,lk];split<;>simp [ih]
theorem ab8 {α:Type} (f:α->α) (l:List (Nat × α)) (k:Nat):lk (gn f l) k=(lk l k).map f:=by
 induction l with
 | nil=>rfl
 | cons e t ih=>
  obtain ⟨j,v⟩:=e;simp only [gn,lk];split<;>simp [ih]
theorem qi {g:D->D} (hg:lO g) {l:List (Nat × List D)} {S:List (Nat × RT)} (h:gS l S):gS (gn (List.map (fp g)) l) (fS g S):=by
 intro k;rw [ab8,lX,h k];cases lk S k with
 | none=>rfl
 | some R=>
  simp only [OB,jf,eO,abH];apply afb;intro t _;simp [Ok hg]
theorem Z5 (g:D->D) (t:T):(fT g t).ft=t.ft:=by cases t<;>rfl
theorem uU (g:D->D) (S:List (Nat × RT)):cM (fS g S)=cM S:=by
 induction S with
 | nil=>rfl
 | cons e t ih=>
  obtain ⟨k,R⟩:=e;simp only [fS,cM,ih,RT.ft]
  congr 2
  rw [og,og,abH]
  congr 2
  funext t;exact Z5 g t
theorem Tm {g:D->D} (hg:lO g) (S:List (Nat × RT)):SR (fp g) S (fS g S):=by
 refine ⟨fun r R1 h=>?_,uU g S⟩;rw [lX] at h;cases hr:lk S r with
 | none=>simp [hr] at h
 | some R=>
  simp only [hr,OB,jf] at h;subst h;refine ⟨R,rfl,rfl,du (by simp) (fun i a b ha hb=>?_)⟩
  simp only [aa5,ha,OB,jf] at hb;subst hb;cases a with
  | v d u=>exact .inl ⟨d,_,u,rfl,rfl,hg.leaf d⟩
  | own s n cap aa xs=>exact .inr ⟨⟨s,n,cap,aa,xs,rfl⟩,rfl⟩
theorem Fm (g:D->D) {cs:List T} {p:Nat} {q:List Nat}:ay (cs.map (fT g)) (p::q)=ay cs (p::q):=by
 simp only [ay,aa5];cases cs[p]? with
 | none=>rfl
 | some t=>cases t<;>rfl
theorem Sa (g:D->D) {cs:List T} {bx:Option Nat} {q:List Nat}:bZ bx (cs.map (fT g)) q=bZ bx cs q:=by
 cases q with
 | nil=>rfl
 | cons p q=>
  simp only [bZ,aa5];cases cs[p]? with
  | none=>rfl
  | some t=>cases t<;>rfl
theorem rf {g:D->D} (hg:lO g) {w:World} {X:Bool->Nat->Prop} {S:List (Nat × RT)} {d:D} {u:Value} (h:bD w X S d u):bD w X (fS g S) d u:=by
 cases d with
 | ref r q o x=>
  intro t2 h2;unfold cD at h2;rw [lX] at h2;cases hr:lk S r with
  | none=>simp [hr] at h2
  | some R=>
   simp only [hr,OB] at h2;cases q with
   | nil=>
    simp only [ay,aa5] at h2;cases ho:R.cs[o]? with
    | none=>simp [ho] at h2
    | some t=>
     simp only [ho,OB,jf] at h2;subst h2;have:=h t (by simp [cD,hr,ay,ho])
     cases t with
     | own s n cap aa xs=>exact this
     | v d0 u0=>
      unfold eM at this ⊢;rw [Ok hg];simp only [T.er,hg.adZ] at this ⊢;exact this
   | cons p q=>
    rw [Fm] at h2;exact h t2 (by unfold cD; rw [hr]; exact h2)
 | ptr r q o=>
  intro R' dV;rw [lX] at dV;cases hr:lk S r with
  | none=>simp [hr] at dV
  | some R=>
   simp only [hr,OB,jf] at dV;subst dV;exact ⟨(h R hr).1,fun b off ha=>(h R hr).2 b off (by rw [Sa] at ha; exact ha)⟩
 | _=>exact h
theorem SR.sC {g:D->D} {S S1:List (Nat × RT)} (h:SR g S S1) {r:Nat} {R1:RT} (hr:lk S1 r=some R1):∃ R,lk S r=some R/\R1.box=R.box/\R1.cs.length=R.cs.length/\ax R1.cs=ax R.cs/\∀ (i:Nat) (t1:T),R1.cs[i]?=some t1->∃ t:T,R.cs[i]?=some t/\GT g t t1:=by
 obtain ⟨R,h1,h2,h3⟩:=h.look r R1 hr;refine ⟨R,h1,h2,h3.len.symm,GT.adX h3,fun i t1 hi=>?_⟩;have hl:=h3.len;obtain ⟨dg,_⟩:=aaa.1 hi;obtain ⟨t1',h4,h5⟩:=h3.get (aaf (by omega:i < R.cs.length))
 rw [hi,jf] at h4;subst h4;exact ⟨_,aaf (by omega),h5⟩
section
variable {C:Ctx} {H H':List T} {w:World} {S S1 S':List (Nat × RT)}
theorem jV (eI:∀ k∈cM S'++ai H',k∈cM S++ai H) (b:Bool) (k:Nat) (h:ah C w S H b k):ah C w S' H' b k:=by
 obtain ⟨h1,h2,h3,h4⟩:=h;have:k∉cM S'++ai H':=fun hk=>by
  rcases tD.1 (eI k hk) with h | h
  ·exact h2 h
  ·exact h3 h
 exact ⟨h1,fun h=>this (tD.2 (.inl h)),fun h=>this (tD.2 (.inr h)),h4⟩
theorem Sb (hm:Mem C w S H) {g:D->D} (hS:SR g S S1) {r:Nat} {q:List Nat} {o:Nat} {t t':T} (hc:kX S1 S' r q o t t') (hv:t'.val=t.val) (hs:bI w (ah C w S' H') t'∨∃ d u,t'=.v d u/\q=[]/\∀ R,lk S r=some R->R.box.isSome=true/\bD w (ah C w S' H') S' (bS d) u)
  (eT:(cM S'++ai H').Nodup) (eI:∀ k∈cM S'++ai H',k∈cM S++ai H) (hh:bJ w (ah C w S' H') H') (dZ:∀ d u,bD w (ah C w S H) S d u->bD w (ah C w S' H') S' (g d) u) (Bs:∀ d u,Ext w (ah C w S H) d u->Ext w (ah C w S' H') (g d) u):Mem C w S' H':=by
 have hX:∀ b k,ah C w S H b k->ah C w S' H' b k:=jV eI;have cF:∀ b k,ah C w S H b k->ah C w S' H' b k/\w.heap[k]?=w.heap[k]?:=fun b k h=>⟨hX b k h,rfl⟩;have cell:∀ {bx:Bool} {t0 t1:T},jw w (ah C w S H) S bx t0->GT g t0 t1->jw w (ah C w S' H') S' bx t1:=by
  intro bx t0 t1 h0 hg;rcases hg with ⟨d,d1,u,rfl,rfl,he⟩ | ⟨⟨s,n,cap,a,xs,rfl⟩,rfl⟩
  ·simp only [jw] at h0 ⊢;rw [he];rcases h0 with h0 | ⟨hb,h0⟩
   ·exact .inl (Bs _ _ h0)
   ·exact .inr ⟨hb,dZ _ _ h0⟩
  ·exact dQ cF _ h0 (fun _ _=>rfl)
 refine ⟨eT,?_,hh,fun k hk=>hm.lt k (eI k hk)⟩;intro r' R' dV;obtain ⟨R1,cs',l,h1,h2,h3,h4,rfl⟩:=hc.ex;by_cases he:r'=r
 ·subst he;rw [cJ,jf] at dV;subst dV;obtain ⟨R,g1,g2,g3,g4,g5⟩:=hS.sC h1;obtain ⟨k1,k2⟩:=hm.root r' R g1;cases q with
  | nil=>
   simp only [ay,jf] at h2;simp only [dL,jf] at h4;subst h2; subst h4;obtain ⟨dg,hto⟩:=aaa.1 h3;have hI:ax (R1.cs.set o t')=ax R.cs:=by
    rw [<- g4,qy,hv];apply abN;intro j;by_cases hj:o=j
    ·subst hj;rw [aaE (by rw [bV]; exact dg),fq,h3]; rfl
    ·rw [aal hj]
   refine ⟨?_,?_⟩
   ·simp only [List.length_set];rw [hI,g3,g2]; exact k1
   ·intro t0 kY;obtain ⟨j,hj⟩:=abe.1 kY;simp only at hj;by_cases Lj:o=j
    ·subst Lj;rw [aaE dg,jf] at hj;subst hj;rcases hs with hs | ⟨d,u,rfl,_,hs⟩
     ·cases t' with
      | v d u=>exact .inl hs
      | own s n cap a xs=>exact hs
     ·obtain ⟨hb,hs⟩:=hs R g1;exact .inr ⟨by rw [g2]; exact hb,hs⟩
    ·rw [aal Lj] at hj;obtain ⟨Sc,e1,e2⟩:=g5 j _ hj;have:=cell (k2 _ (aak e1)) e2;rw [<- g2] at this;exact this
  | cons p q=>
   have sb:bI w (ah C w (pt S1 r' ⟨R1.box,cs'⟩) H') t':=by
    rcases hs with hs | ⟨d,u,_,hq,_⟩
    ·exact hs
    ·simp at hq
   have hI:=(mM h4).1;have hlen:=(mM h4).2;refine ⟨?_,?_⟩
   ·simp only;rw [hI,hlen,g4,g3,g2]; exact k1
   ·intro t0 kY;obtain ⟨j,hj⟩:=abe.1 kY;simp only at hj;rw [ay] at h2;rw [dL] at h4;cases hp:R1.cs[p]? with
    | none=>simp [hp] at h2
    | some x=>
     cases x with
     | v d u=>simp [hp] at h2
     | own s n cap a xs=>
      simp only [hp] at h2 h4;cases hx:dL (fun l=>l.set o t') xs q with
      | none=>simp [hx] at h4
      | some kS=>
       simp only [hx,jf] at h4;subst h4;obtain ⟨dg,_⟩:=aaa.1 hp;by_cases uG:p=j
       ·subst uG;rw [aaE dg,jf] at hj;subst hj;obtain ⟨Sc,e1,e2⟩:=g5 p _ hp;have e3:=cell (k2 _ (aak e1)) e2;simp only [jw,bI] at e3 ⊢;obtain ⟨f1,f2,f3,f4⟩:=e3;obtain ⟨f5,f6⟩:=abZ sb hv f4 h2 h3 hx;have qD:kS.length=xs.length:=by have:=congrArg List.length f6; simpa [bV] using this
        exact ⟨f1,by rw [qD]; exact f2,by rw [f6]; exact f3,f5⟩
       ·rw [aal uG] at hj;obtain ⟨Sc,e1,e2⟩:=g5 j _ hj;have:=cell (k2 _ (aak e1)) e2;rw [<- g2] at this;exact this
 ·rw [dJ _ _ he] at dV;obtain ⟨R,g1,g2,g3,g4,g5⟩:=hS.sC dV;obtain ⟨k1,k2⟩:=hm.root r' R g1;refine ⟨?_,?_⟩
  ·rw [g4,g3,g2]; exact k1
  ·intro t0 kY;obtain ⟨j,hj⟩:=abe.1 kY;obtain ⟨Sc,e1,e2⟩:=g5 j _ hj;have:=cell (k2 _ (aak e1)) e2;rw [<- g2] at this;exact this
end
theorem X3 {cs:List T} {o:Nat} {t t':T} (ho:cs[o]?=some t) (hv:t'.val=t.val):ax (cs.set o t')=ax cs:=by
 rw [qy,hv];apply abN;intro j;by_cases hj:o=j
 ·subst hj;rw [aaE (by rw [bV]; exact (aaa.1 ho).1),fq,ho]; rfl
 ·rw [aal hj]
theorem kX.par {S S':List (Nat × RT)} {r:Nat} {q:List Nat} {o:Nat} {t t':T} (hc:kX S S' r q o t t') (hv:t'.val=t.val) {r':Nat} {R':RT} (h:lk S' r'=some R'):∃ R,lk S r'=some R/\R'.box=R.box/\ax R'.cs=ax R.cs:=by
 obtain ⟨R,cs',l,h1,h2,h3,h4,rfl⟩:=hc.ex;by_cases he:r'=r
 ·subst he;rw [cJ,jf] at h;subst h;refine ⟨R,h1,rfl,?_⟩;cases q with
  | nil=>
   simp only [ay,jf] at h2;simp only [dL,jf] at h4;subst h2; subst h4;exact X3 h3 hv
  | cons p q=>exact (mM h4).1
 ·rw [dJ _ _ he] at h;exact ⟨R',h,rfl,rfl⟩
theorem kX.Lr {S S':List (Nat × RT)} {r:Nat} {q:List Nat} {o:Nat} {t t':T} (hc:kX S S' r q o t t') {r':Nat} {R:RT} (h:lk S r'=some R):∃ R',lk S' r'=some R'/\R'.box=R.box/\R'.cs.length=R.cs.length:=by
 obtain ⟨R0,cs',l,h1,h2,h3,h4,rfl⟩:=hc.ex;by_cases he:r'=r
 ·subst he;rw [h1,jf] at h;subst h;refine ⟨_,cJ _ _ _,rfl,?_⟩;cases q with
  | nil=>
   simp only [dL,jf] at h4;subst h4; simp
  | cons p q=>exact (mM h4).2
 ·exact ⟨R,by rw [dJ _ _ he]; exact h,rfl,rfl⟩
theorem Fo {st st':St} {S:List (Nat × RT)} (gq:gS st.rt S) {r:Nat} {q:List Nat} {o:Nat} {t t':T} {R:RT} {l:List T} (h1:lk S r=some R) (h2:ay R.cs q=some l) (h3:l[o]?=some t) (h:st.gZ r q o t'.er=some st'):
  ∃ S',kX S S' r q o t t'/\gS st'.rt S'/\st'.tm=st.tm/\st'.up=st.up/\st'.of=st.of:=by
 unfold St.gZ at h;rw [gq,h1] at h;simp only [OB,adS] at h;obtain ⟨cs',h4⟩:=OK (f:=fun l=>l.set o t') h2;rw [h4] at h;simp only [OB,jf] at h;subst h;exact ⟨pt S r ⟨R.box,cs'⟩,⟨R,cs',l,h1,h2,h3,h4,rfl⟩,Dl gq r ⟨R.box,cs'⟩,rfl,rfl,rfl⟩
theorem ab9:∀ {a b:List T},a.Sublist b->(ai a).Sublist (ai b):=by
 intro a b h
 induction h with
 | slnil=>exact abj _
 | cons x _ ih=>rw [ai]; exact ih.trans (aek _ _)
 | cons_cons x _ ih=>rw [ai,ai]; exact abz (abj _) ih
theorem ad0 {w:World} {X:Bool->Nat->Prop} {s n cap:Nat} {a:Option (Nat × Nat)} {ts:List T} (hs:bI w X (.own s n cap a ts)) {x:Option (Nat × Nat)} {u:Value} (hr:eM x (.own s n cap a ts) u):
  ∃ t:T,t.er=.sl none s (trim x s n (ba ts)).1 (trim x s n (ba ts)).2/\t.val=u/\bI w X t/\t.ft.Sublist (T.own s n cap a ts).ft:=by
 cases x with
 | none=>
  simp only [eM,sn,T.er] at hr;exact ⟨.own s n cap a ts,rfl,hr.symm,hs,abj _⟩
 | some p=>
  obtain ⟨l,m⟩:=p;simp only [eM,sn,T.er,T.val,uF,Value.slice.injEq] at hr;obtain ⟨h1,base,C,k,⟨h2,_,h3⟩,h4,rfl,h5⟩:=hr;subst h2; subst h3;simp only [bI] at hs;obtain ⟨g1,g2,g3,g4⟩:=hs;refine ⟨.own s m (cap - l) (a.map fun p=>(p.1,p.2+k*s)) ((ts.drop (l*s)).take (m*s)),?_,?_,?_,?_⟩
  ·simp only [T.er,trim,w7,w8]
  ·simp only [T.val,uF,Option.map_map]
   congr 1
   cases a<;>simp [eV]
  ·simp only [bI];refine ⟨by omega,?_,?_,?_⟩
   ·rw [aaB,abE,g2];have:l*s+m*s<=n*s:=by rw [<- abw]; exact aaQ _ h1
    omega
   ·cases a with
    | none=>simp only at g3; simp only [afe]; omega
    | some p=>
     obtain ⟨b,off⟩:=p;simp only [OB];obtain ⟨c,e,fz,k1,k2,k3,k4⟩:=g3;refine ⟨c,e,fz,k1,k2,?_,?_⟩
     ·rcases h5 with h5 | h5
      ·rw [h5];have:k*s<=cap*s:=aaQ _ h4;omega
      ·subst h5;have:k*s+(cap - k)*s=cap*s:=by rw [<- abw]; congr 1; omega
       omega
     ·intro j u hj;rw [cK,ae7,ae4,<- cK,abr] at hj;split at hj
      ·rename_i dg;rw [abt] at hj;have hm:m≠0:=fun e=>by simp [e] at dg
       have:k=l:=by omega
       subst this;rw [abh];exact k4 _ _ hj
      ·simp at hj
   ·rw [cj] at g4 ⊢;exact fun t ht=>g4 t (List.mem_of_mem_drop (ael ht))
  ·simp only [T.ft];refine abz ?_ (ab9 ((List.take_sublist _ _).trans (List.drop_sublist _ _)));cases a<;>exact abj _
structure qE (S S':List (Nat × RT)):Prop where
 fwd:∀ r R,lk S r=some R->∃ R',lk S' r=some R'/\R'.box=R.box/\ax R'.cs=ax R.cs
theorem qE.refl (S:List (Nat × RT)):qE S S:=⟨fun _ R h=>⟨R,h,rfl,rfl⟩⟩
theorem qE.trans {S S' AA:List (Nat × RT)} (h:qE S S') (h':qE S' AA):qE S AA:=⟨fun r R hr=>by
 obtain ⟨R1,h1,h2,h3⟩:=h.fwd r R hr;obtain ⟨R2,h4,h5,h6⟩:=h'.fwd r R1 h1;exact ⟨R2,h4,h5.trans h2,h6.trans h3⟩⟩
theorem zF {C:Ctx} {w:World} {S S':List (Nat × RT)} {H H':List T} (hk:Kept C w S H) (eI:∀ k∈cM S'++ai H',k∈cM S++ai H) (hp:∀ r R',lk S' r=some R'->∃ R,lk S r=some R/\R'.box=R.box/\ax R'.cs=ax R.cs):Kept C w S' H':=
 ⟨hk.os,hk.tape,hk.output,hk.size,hk.block,fun k h=>hk.iQ k (eI k h),fun r b vs hm R' hr=>by
  obtain ⟨R,h1,h2,h3⟩:=hp r R' hr;have:=hk.par r b vs hm R h1;rw [h2,h3]; exact this⟩
section
variable {C:Ctx} {H:List T} {w:World} {st st':St} {aI:List (Array Value)} {S:List (Nat × RT)}
theorem GL (h:Rel C H w st aI S) {d:D} {u:Value} (hu:Ext w (ah C w S H) d u) (hd:bS d=d):Rel C (.v d u::H) w st aI S:=by
 have hf:∀ b k,ah C w S H b k->ah C w S (.v d u::H) b k:=jV (by simp [ai,T.ft])
 have cF:∀ b k,ah C w S H b k->ah C w S (.v d u::H) b k/\w.heap[k]?=w.heap[k]?:=fun b k hh=>⟨hf b k hh,rfl⟩;have dZ:∀ d' u',bD w (ah C w S H) S d' u'->bD w (ah C w S (.v d u::H)) S d' u':=fun d' u' hh=>tJ cF (fun _ _ h=>h) hh;refine h.sA h.rt rfl rfl dZ ⟨by simpa [ai,T.ft] using h.mem.nd,?_,?_,by simpa [ai,T.ft] using h.mem.lt⟩ (zF h.kept (by simp [ai,T.ft]) (fun r R' hr=>⟨R',hr,rfl,rfl⟩))
 ·intro r R hR;obtain ⟨h1,h2⟩:=h.mem.root r R hR;refine ⟨h1,fun t ht=>?_⟩;have:=h2 t ht;cases t with
  | v d' u'=>
   rcases this with this | ⟨hb,this⟩
   ·exact .inl (gF cF _ _ this)
   ·exact .inr ⟨hb,dZ _ _ this⟩
  | own s n cap a xs=>exact dQ cF _ this (fun _ _=>rfl)
 ·simp only [bJ,bI];exact ⟨by rw [hd]; exact gF cF _ _ hu,gH cF _ h.mem.hand (fun _ _=>rfl)⟩
theorem vk (h:Rel C H w st aI S) {d d':D} {u:Value} (hu:bD w (ah C w S H) S d u) (ht:jh st d=some (d',st')):
  ∃ t S',Rel C (t::H) w st' aI S'/\t.er=d'/\t.val=u/\(∀ d u,bD w (ah C w S H) S d u->bD w (ah C w S' (t::H)) S' d u)/\qE S S'/\(st'.tm=st.tm/\st'.up=st.up/\st'.of=st.of)/\(∀ r q o x,d=.ref r q o x->∃ d0 u0,(sn d0).isSome=true/\bS d0=d0/\cD S' r q o=some (.v d0 u0)/\(x=none->lN (.v d0 u0) t)):=by
 have plain:∀ {d:D},Ext w (ah C w S H) d u->bS d=d->∃ t S',Rel C (t::H) w st aI S'/\t.er=d/\t.val=u/\(∀ d u,bD w (ah C w S H) S d u->bD w (ah C w S' (t::H)) S' d u)/\qE S S'/\(st.tm=st.tm/\st.up=st.up/\st.of=st.of)/\S=S':=by
  intro d hu hd;refine ⟨.v d u,S,GL h hu hd,hd,rfl,fun d' u' hh=>tJ (fun b k hh=>⟨jV (by simp [ai,T.ft]) b k hh,rfl⟩) (fun _ _ h=>h) hh,qE.refl _,⟨rfl,rfl,rfl⟩,rfl⟩
 have Bt:∀ {d:D},(∀ r q o x,d≠.ref r q o x)->Ext w (ah C w S H) d u->bS d=d->∃ t S',Rel C (t::H) w st aI S'/\t.er=d/\t.val=u/\(∀ d u,bD w (ah C w S H) S d u->bD w (ah C w S' (t::H)) S' d u)/\qE S S'/\(st.tm=st.tm/\st.up=st.up/\st.of=st.of)/\(∀ r q o x,d=.ref r q o x->∃ d0 u0,(sn d0).isSome=true/\bS d0=d0/\cD S' r q o=some (.v d0 u0)/\(x=none->lN (.v d0 u0) t)):=by
  intro d hn hu hd;obtain ⟨t,S',a1,a2,a3,a4,a5,a6,_⟩:=plain hu hd;exact ⟨t,S',a1,a2,a3,a4,a5,a6,fun r q o x e=>absurd e (hn r q o x)⟩
 cases d with
 | int k n=>simp only [jh,jf,tE] at ht; obtain ⟨rfl,rfl⟩:=ht; exact Bt (by simp) hu rfl
 | bool b=>simp only [jh,jf,tE] at ht; obtain ⟨rfl,rfl⟩:=ht; exact Bt (by simp) hu rfl
 | str s=>simp only [jh,jf,tE] at ht; obtain ⟨rfl,rfl⟩:=ht; exact Bt (by simp) hu rfl
 | undef=>simp only [jh,jf,tE] at ht; obtain ⟨rfl,rfl⟩:=ht; exact Bt (by simp) hu rfl
 | hole s n=>
  simp only [jh,jf,tE] at ht; obtain ⟨rfl,rfl⟩:=ht;obtain ⟨t,S',a1,a2,a3,a4,a5,a6,_⟩:=plain (d:=.undef) (by simp [Ext]) rfl
  exact ⟨t,S',a1,a2,a3,a4,a5,a6,by simp⟩
 | sl g s n cs=>
  simp only [jh,jf,tE] at ht; obtain ⟨rfl,rfl⟩:=ht;cases g with
  | none=>exact absurd hu (by simp [bD,Ext])
  | some g=>exact Bt (by simp) hu rfl
 | nil s=>
  simp only [jh,jf,tE] at ht; obtain ⟨rfl,rfl⟩:=ht;have hu':u=.slice none 0 0:=hu;subst hu';have eG:(T.own s 0 0 none []).ft=[]:=rfl;have hf:∀ b k,ah C w S H b k->ah C w S (.own s 0 0 none []::H) b k:=jV (by simp [ai,eG])
  have cF:∀ b k,ah C w S H b k->ah C w S (.own s 0 0 none []::H) b k/\w.heap[k]?=w.heap[k]?:=fun b k hh=>⟨hf b k hh,rfl⟩;have dZ:∀ d' u',bD w (ah C w S H) S d' u'->bD w (ah C w S (.own s 0 0 none []::H)) S d' u':=fun d' u' hh=>tJ cF (fun _ _ h=>h) hh;refine ⟨.own s 0 0 none [],S,?_,rfl,rfl,dZ,qE.refl _,⟨rfl,rfl,rfl⟩,by simp⟩
  refine h.sA h.rt rfl rfl dZ ⟨by simpa [ai,eG] using h.mem.nd,?_,?_,by simpa [ai,eG] using h.mem.lt⟩ (zF h.kept (by simp [ai,eG]) (fun r R' hr=>⟨R',hr,rfl,rfl⟩))
  ·intro r R hR;obtain ⟨h1,h2⟩:=h.mem.root r R hR;refine ⟨h1,fun t ht=>?_⟩;have:=h2 t ht;cases t with
   | v d' u'=>
    rcases this with this | ⟨hb,this⟩
    ·exact .inl (gF cF _ _ this)
    ·exact .inr ⟨hb,dZ _ _ this⟩
   | own s n cap a xs=>exact dQ cF _ this (fun _ _=>rfl)
  ·simp only [bJ,bI];exact ⟨by simp,gH cF _ h.mem.hand (fun _ _=>rfl)⟩
 | ref r q o x=>
  simp only [jh] at ht;split at ht
  ·rename_i s n cs hc;split at ht
   case h_2=>simp at ht
   rename_i aQ iN;simp only [jf,tE] at ht;obtain ⟨rfl,rfl⟩:=ht;obtain ⟨R,l,t0,h1,h2,h3,h4,h5⟩:=iM h.rt hc;obtain ⟨cap,a,ts,rfl,rfl⟩:=vG h5.symm;have yx:=h.mem;have dF:bI w (ah C w S H) (.own s n cap a ts):=by
    obtain ⟨_,g2⟩:=yx.root r R h1;cases q with
    | nil=>
     simp only [ay,jf] at h2;subst h2;exact g2 _ (aak h3)
    | cons p q=>
     rw [ay] at h2;cases hp:R.cs[p]? with
     | none=>simp [hp] at h2
     | some y=>
      cases y with
      | v d u=>simp [hp] at h2
      | own s' n' cap' a' kS=>
       simp only [hp] at h2;have hs:bI w (ah C w S H) (.own s' n' cap' a' kS):=g2 _ (aak hp);simp only [bI] at hs;exact gb (w9 hs.2.2.2 h2) h3
   obtain ⟨t,e1,e2,e3,e4⟩:=ad0 dF (hu _ h4);obtain ⟨S',Fp,aiZ,ad1,ad2,ai0⟩:=Fo (t':=.v (.hole s n) (T.own s n cap a ts).val) h.rt h1 h2 h3 iN;obtain ⟨A,B,f1,f2⟩:=Fp.fts;simp only [T.ft,aah] at f2;have eI:∀ k∈cM S'++ai (t::H),k∈cM S++ai H:=by
    intro k hk;rw [f1];rw [f2] at hk;simp only [ai,tD] at hk ⊢;rcases hk with (hk | hk) | (hk | hk)
    ·exact .inl (.inl (.inl hk))
    ·exact .inl (.inr hk)
    ·exact .inl (.inl (.inr (e4.mem hk)))
    ·exact .inr hk
   have eT:(cM S'++ai (t::H)).Nodup:=by
    have h0:=yx.nd;rw [f1] at h0;rw [f2];have p1:(A++(T.own s n cap a ts).ft++B++ai H).Perm (A++B++((T.own s n cap a ts).ft++ai H)):=by
     simp only [aay];refine abQ A ?_;rw [<- aay,<- aay];exact List.Perm.append_right _ ae0
    have h00:=p1.nodup_iff.1 h0;refine afp ?_ h00;simp only [ai];exact abz (abj _) (abz e4 (abj _))
   have cF:jF w w (ah C w S H) (ah C w S' (t::H)):=fun b k hh=>⟨jV eI b k hh,rfl⟩;have dZ:∀ d u,bD w (ah C w S H) S d u->bD w (ah C w S' (t::H)) S' d u:=fun d u hh=>OT cF Fp (.inr ⟨rfl,fun p h=>by simpa [T.er,bS,sn] using h⟩) hh
   have db:Mem C w S' (t::H):=Sb yx (SR.refl S) Fp rfl (.inl (by simp [bI,bS,Ext])) eT eI (by
     simp only [bJ];exact ⟨dQ cF _ e3 (fun _ _=>rfl),gH cF _ yx.hand (fun _ _=>rfl)⟩) dZ (fun d u hh=>gF cF _ _ hh)
   exact ⟨t,S',h.sA aiZ ad1 ad2 dZ db (zF h.kept eI (fun r R' hr=>Fp.par rfl hr)),e1,e2,dZ,⟨fun r R hr=>by
    obtain ⟨R',k1,k2,k3⟩:=Fp.Lr hr;obtain ⟨R0,k4,k5,k6⟩:=Fp.par rfl k1;rw [hr,jf] at k4;subst k4;exact ⟨R',k1,k2,k6⟩⟩,⟨ad1,ad2,ai0⟩,fun r' q' o' x' he=>by
    simp only [D.ref.injEq] at he;obtain ⟨rfl,rfl,rfl,rfl⟩:=he;refine ⟨_,_,rfl,rfl,Fp.Fl,fun hx=>⟨?_,fun p he=>?_⟩⟩
    ·subst hx;have:=hu _ h4;simp only [eM,sn,T.er] at this;rw [e2,this]; rfl
    ·subst hx;rw [e1] at he
     simpa [T.er,bS,sn,trim] using he⟩
  ·rename_i g s n cs hc;simp only [jf,tE] at ht;obtain ⟨rfl,rfl⟩:=ht;obtain ⟨R,l,t0,h1,h2,h3,h4,h5⟩:=iM h.rt hc;have yx:=h.mem;have dF:bI w (ah C w S H) t0:=by
    obtain ⟨_,g2⟩:=yx.root r R h1;cases q with
    | nil=>
     simp only [ay,jf] at h2;subst h2;have:=g2 _ (aak h3);cases t0 with
     | own s n cap a xs=>exact this
     | v d u=>
      rcases this with h3 | ⟨_,h3⟩
      ·exact h3
      ·simp only [T.er] at h5;simp only [bI];rw [<- h5] at h3 ⊢;exact h3
    | cons p q=>
     rw [ay] at h2;cases hp:R.cs[p]? with
     | none=>simp [hp] at h2
     | some y=>
      cases y with
      | v d u=>simp [hp] at h2
      | own s' n' cap' a' kS=>
       simp only [hp] at h2;have hs:bI w (ah C w S H) (.own s' n' cap' a' kS):=g2 _ (aak hp);simp only [bI] at hs;exact gb (w9 hs.2.2.2 h2) h3
   have ku:t0.ft=[]:=by
    cases t0 with
    | v d u=>rfl
    | own s' n' cap a ts=>simp [T.er] at h5
   have:=Dm (X':=ah C w S H) (fun _ _ h=>h) false h5.symm dF (by simp [ku]) (hu _ h4)
   obtain ⟨t,S',a1,a2,a3,a4,a5,a6,a7⟩:=plain this rfl;refine ⟨t,S',a1,a2,a3,a4,a5,a6,fun r' q' o' x' he=>?_⟩;simp only [D.ref.injEq] at he;obtain ⟨rfl,rfl,rfl,rfl⟩:=he;cases t0 with
   | own s' n' cap a ts=>simp [T.er] at h5
   | v d0 u0=>
    simp only [T.er] at h5;have hd0:d0=.sl (some g) s n cs:=by
     cases d0 with
     | sl g0 s0 n0 cs0=>
      cases g0 with
      | none=>simp [bS] at h5
      | some g0=>exact h5.symm
     | _=>simp [bS] at h5
    subst hd0;refine ⟨_,u0,rfl,rfl,a7▸h4,fun hx=>⟨?_,fun p he=>?_⟩⟩
    ·subst hx;have:=hu _ h4;simp only [eM,sn,T.er,bS] at this;rw [a3]; exact this
    ·subst hx;rw [a2] at he
     simpa [fC,trim,sn,T.er,bS] using he
  ·simp at ht
 | _=>simp [jh] at ht
end
theorem rh (r:Nat):lO (cH r):=
 ⟨fun _ _ _ _=>rfl,fun _ _=>rfl,fun d h=>by cases d<;>simp only [cH]<;>first | rfl | (split<;>rfl) | exact h⟩
theorem Tn (r:Nat):lO (eC r):=
 ⟨fun _ _ _ _=>rfl,fun _ _=>rfl,fun d h=>by
  cases d with
  | ref r' q o x=>simp only [eC]; split<;>rfl
  | ptr r' q o=>cases q<;>simp only [eC]<;>first | rfl | (split<;>rfl)
  | _=>exact h⟩
theorem mQ (r:Nat) (q:List Nat) (o:Nat) (e:Bool):lO (cB r q o e):=
 ⟨fun _ _ _ _=>rfl,fun _ _=>rfl,fun d h=>by
  cases d with
  | ref r' q' o' x=>
   simp only [cB];split
   ·split
    ·rfl
    ·split<;>rfl
    ·rfl
   ·rfl
  | ptr r' q' o'=>
   simp only [cB];split
   ·split<;>rfl
   ·rfl
  | _=>exact h⟩
theorem Bu (r:Nat) (q:List Nat) (o r1:Nat) (q1:List Nat) (o1:Nat):lO (sm r q o r1 q1 o1):=
 ⟨fun _ _ _ _=>rfl,fun _ _=>rfl,fun d h=>by
  cases d with
  | ref r' q' o' x=>
   simp only [sm];split
   ·split<;>rfl
   ·rfl
  | ptr r' q' o'=>
   simp only [sm];split
   ·split<;>rfl
   ·rfl
  | _=>exact h⟩
theorem sE {g:D->D} (hg:lO g) (hs:∀ d,g d=d∨(∃ r q o x,d=.ref r q o x)∨∃ r q o,d=.ptr r q o) {w:World} {X:Bool->Nat->Prop} {d:D} {u:Value} (h:Ext w X d u):Ext w X (fp g d) u:=by
 rcases hs d with h1 | ⟨r,q,o,x,rfl⟩ | ⟨r,q,o,rfl⟩
 ·cases d<;>first | (simp only [fp,h1]; exact h) | (simp [Ext] at h)
 ·simp [Ext] at h
 ·simp [Ext] at h
theorem To (r:Nat) (d:D):cH r d=d∨(∃ r q o x,d=.ref r q o x)∨∃ r q o,d=.ptr r q o:=by
 cases d<;>first | exact .inl rfl | exact .inr (.inl ⟨_,_,_,_,rfl⟩) | exact .inr (.inr ⟨_,_,_,rfl⟩)
theorem Tp (r:Nat) (d:D):eC r d=d∨(∃ r q o x,d=.ref r q o x)∨∃ r q o,d=.ptr r q o:=by
 cases d<;>first | exact .inl rfl | exact .inr (.inl ⟨_,_,_,_,rfl⟩) | exact .inr (.inr ⟨_,_,_,rfl⟩)
theorem zG (r:Nat) (q:List Nat) (o:Nat) (e:Bool) (d:D):cB r q o e d=d∨(∃ r q o x,d=.ref r q o x)∨∃ r q o,d=.ptr r q o:=by
 cases d<;>first | exact .inl rfl | exact .inr (.inl ⟨_,_,_,_,rfl⟩) | exact .inr (.inr ⟨_,_,_,rfl⟩)
theorem vl {w:World} {X:Bool->Nat->Prop} {S:List (Nat × RT)} {g:D->D} {d:D} {u:Value} (h:bD w X S d u):fp g d=g d:=by
 cases d<;>first | rfl | (simp [bD,Ext] at h)
section
variable {C:Ctx} {H Hs:List T} {w w':World} {st:St} {aI:List (Array Value)} {S:List (Nat × RT)}
theorem Z6 {S:List (Nat × RT)} {k:Nat} (r:RT):∃ A B bY,cM S=A++bY++B/\cM (pt S k r)=A++r.ft++B:=by
 cases h:lk S k with
 | none=>exact ⟨cM S,[],[],by simp,by rw [Ti h]; simp⟩
 | some R=>
  obtain ⟨A,B,h1,h2⟩:=kU h;exact ⟨A,B,R.ft,h1,h2 r⟩
theorem OW (h:Rel C (Hs++H) w st aI S) {r:Nat} {R:RT} (eG:∀ k∈R.ft,k∈ai Hs∨w.heap.size<=k):
  ∀ k∈cM (pt (fS (cH r) S) r R)++ai H,k∈cM S++ai (Hs++H)∨w.heap.size<=k:=by
 obtain ⟨A,B,bY,f1,f2⟩:=Z6 (S:=fS (cH r) S) (k:=r) R;rw [uU] at f1;intro k hk;rw [f2] at hk;rw [f1,bd];simp only [tD] at hk ⊢;rcases hk with ((hk | hk) | hk) | hk
 ·exact .inl (.inl (.inl (.inl hk)))
 ·rcases eG k hk with h2 | h2
  ·exact .inl (.inr (.inl h2))
  ·exact .inr h2
 ·exact .inl (.inl (.inr hk))
 ·exact .inl (.inr (.inr hk))
theorem o4 (h:Rel C (Hs++H) w st aI S) {r:Nat} {R:RT} (eG:∀ k∈R.ft,k∈ai Hs∨w.heap.size<=k) (cU:w.heap.size<=w'.heap.size) (hold:∀ k,k < w.heap.size->w'.heap[k]?=w.heap[k]?):
  jF w w' (ah C w S (Hs++H)) (ah C w' (pt (fS (cH r) S) r R) H):=by
 have eI:=OW (r:=r) h eG;intro b k hk;refine ⟨⟨by have:=hk.1; omega,fun hx=>?_,fun hx=>?_,hk.2.2.2⟩,hold k hk.1⟩
 ·rcases eI k (tD.2 (.inl hx)) with h2 | h2
  ·rcases tD.1 h2 with h3 | h3
   ·exact hk.2.1 h3
   ·exact hk.2.2.1 h3
  ·have:=hk.1; omega
 ·rcases eI k (tD.2 (.inr hx)) with h2 | h2
  ·rcases tD.1 h2 with h3 | h3
   ·exact hk.2.1 h3
   ·exact hk.2.2.1 h3
  ·have:=hk.1; omega
theorem GM (h:Rel C (Hs++H) w st aI S) {r:Nat} {R:RT} (eG:∀ k∈R.ft,k∈ai Hs∨w.heap.size<=k) (cU:w.heap.size<=w'.heap.size) (hold:∀ k,k < w.heap.size->w'.heap[k]?=w.heap[k]?):
  ∀ d u,bD w (ah C w S (Hs++H)) S d u->bD w' (ah C w' (pt (fS (cH r) S) r R) H) (pt (fS (cH r) S) r R) (cH r d) u:=
 fun _ _ hd=>XY (o4 h eG cU hold) rfl (rf (rh r) hd)
theorem zH (h:Rel C (Hs++H) w st aI S) {r:Nat} {R:RT} (hR:OM w' (ah C w' (pt (fS (cH r) S) r R) H) (pt (fS (cH r) S) r R) R)
  (eG:R.ft.Nodup/\∀ k∈R.ft,k∈ai Hs∨w.heap.size<=k) (dg:∀ k∈R.ft,k < w'.heap.size) (cU:w.heap.size<=w'.heap.size) (hold:∀ k,k < w.heap.size->w'.heap[k]?=w.heap[k]?)
  (mH:w'.os=w.os) (ri:w'.tape=w.tape) (sF:w'.output=w.output) (hP:∀ p∈C.P0,p.1≠r):
  Rel C H w' { st.eZ (cH r) with rt:=pz (st.eZ (cH r)).rt r (ba R.cs) } aI (pt (fS (cH r) S) r R)/\
  ∀ d u,bD w (ah C w S (Hs++H)) S d u->bD w' (ah C w' (pt (fS (cH r) S) r R) H) (pt (fS (cH r) S) r R) (cH r d) u:=by
 obtain ⟨A,B,bY,f1,f2⟩:=Z6 (S:=fS (cH r) S) (k:=r) R;rw [uU] at f1;have eI:=OW (r:=r) h eG.2;have cF:=o4 (r:=r) h eG.2 cU hold;have dZ:=GM (r:=r) h eG.2 cU hold;have eT:(cM (pt (fS (cH r) S) r R)++ai H).Nodup:=by
  have h0:=h.mem.nd;rw [f1,bd] at h0;rw [f2];have ad4:=h.mem.lt;rw [f1,bd] at ad4;simp only [yq,tD] at h0 ⊢;obtain ⟨⟨⟨a1,a2,a3⟩,a4,a5⟩,⟨b1,b2,b3⟩,c⟩:=h0;have new:∀ x,x∈R.ft->∀ y,(y∈A∨y∈B∨y∈ai H)->x≠y:=by
   intro x hx y hy e;subst e;rcases eG.2 x hx with h2 | h2
   ·rcases hy with hy | hy | hy
    ·exact c x (.inl (.inl hy)) x (.inl h2) rfl
    ·exact c x (.inr hy) x (.inl h2) rfl
    ·exact b3 x h2 x hy rfl
   ·have:x < w.heap.size:=ad4 x (by
     simp only [tD];rcases hy with hy | hy | hy
     ·exact .inl (.inl (.inl hy))
     ·exact .inl (.inr hy)
     ·exact .inr (.inr hy))
    omega
  refine ⟨⟨⟨a1,eG.1,fun x hx y hy e=>new y hy x (.inl hx) e.symm⟩,a4,?_⟩,b2,?_⟩
  ·intro x hx y hy e;rcases hx with hx | hx
   ·exact a5 x (.inl hx) y hy e
   ·exact new x hx y (.inr (.inl hy)) e
  ·intro x hx y hy e;rcases hx with (hx | hx) | hx
   ·exact c x (.inl (.inl hx)) y (.inr hy) e
   ·exact new x hx y (.inr (.inr hy)) e
   ·exact c x (.inr hx) y (.inr hy) e
 refine ⟨h.step (f:=cH r) ?_ rfl rfl dZ ⟨eT,?_,?_,?_⟩ ⟨by rw [mH]; exact h.kept.os,by rw [ri]; exact h.kept.tape,by rw [sF]; exact h.kept.output,abI h.kept.size cU,?_,?_,?_⟩,dZ⟩
 ·exact Dl (qi (rh r) h.rt) r R
 ·intro r' R' eF;by_cases he:r'=r
  ·subst he;rw [cJ,jf] at eF;subst eF;exact hR
  ·rw [dJ _ _ he,lX] at eF;cases hx:lk S r' with
   | none=>simp [hx] at eF
   | some R0=>
    simp only [hx,OB,jf] at eF;subst eF;obtain ⟨k1,k2⟩:=h.mem.root r' R0 hx;have lU:∀ k∈R0.ft,k∈cM S:=by
     intro k hk;obtain ⟨A',B',e1,_⟩:=kU hx;rw [e1]; simp [hk]
    refine ⟨?_,?_⟩
    ·simp only [abu];have hv:ax (R0.cs.map (fT (cH r)))=ax R0.cs:=by
      rw [cK,cK,abH]
      congr 1
      funext t;cases t<;>rfl
     rw [hv];cases hb:R0.box with
     | none=>trivial
     | some b=>
      simp only [hb] at k1 ⊢;obtain ⟨c,e,fz,g1,g2⟩:=k1;have Z7:b < w.heap.size:=h.mem.lt b (tD.2 (.inl (lU b (by simp [RT.ft,hb]))))
      exact ⟨c,e,fz,by rw [hold b Z7]; exact g1,g2⟩
    ·intro t ht;simp only [aam] at ht;obtain ⟨t0,kY,rfl⟩:=ht;have:=k2 t0 kY;cases t0 with
     | v d u=>
      simp only [fT,jw] at this ⊢;rw [(rh r).leaf];rcases this with this | ⟨hb,this⟩
      ·exact .inl (sE (rh r) (To r) (gF cF _ _ this))
      ·exact .inr ⟨hb,by rw [vl this]; exact dZ _ _ this⟩
     | own s n cap a xs=>
      simp only [fT];refine dQ cF _ this (fun k hk=>hold k (h.mem.lt k (tD.2 (.inl (lU k ?_)))));obtain ⟨i,hi⟩:=abe.1 kY;obtain ⟨A',B',e1,_⟩:=dU R0.cs i _ hi;rw [RT.ft,e1]; simp [hk]
 ·have:=h.mem.hand;rw [ea] at this;refine gH cF _ this.2 (fun k hk=>hold k (h.mem.lt k ?_));rw [bd]; simp [hk]
 ·intro k hk;rw [f2] at hk;simp only [tD] at hk;have hl:=h.mem.lt k;rw [f1,bd] at hl;simp only [tD] at hl;rcases hk with ((hk | hk) | hk) | hk
  ·have:=hl (.inl (.inl (.inl hk))); omega
  ·exact dg k hk
  ·have:=hl (.inl (.inr hk)); omega
  ·have:=hl (.inr (.inr hk)); omega
 ·intro k hk hf;rw [hold k (by have:=h.kept.size; omega)]
  exact h.kept.block k hk hf
 ·intro k hk;rcases eI k hk with h2 | h2
  ·exact h.kept.iQ k h2
  ·have:=h.kept.size;exact .inr (by omega)
 ·intro r' b vs hm R' eF;have cX:=hP _ hm;rw [dJ _ _ cX,lX] at eF;cases hx:lk S r' with
  | none=>simp [hx] at eF
  | some R0=>
   simp only [hx,OB,jf] at eF;subst eF;obtain ⟨g1,g2⟩:=h.kept.par r' b vs hm R0 hx;refine ⟨g1,fun hb=>?_⟩;rw [<- g2 hb];simp only [cK,abH]
   congr 1
   funext t;cases t<;>rfl
end
def rj:T->List Nat->Option T
 | t,[]=>some t
 | .own _ _ _ _ cs,o::q=>match cs[o]? with
  | some t=>rj t q
  | none=>none
 | _,_::_=>none
theorem U1 (y:List Nat):∀ t:T,Fa t.er y=(rj t y).map T.er:=by
 induction y with
 | nil=>intro t; cases t<;>simp [Fa,rj]
 | cons o q ih=>
  intro t;cases t with
  | v d u=>
   simp only [T.er,rj,afe];cases d with
   | sl g s n cs=>cases g<;>simp [bS,Fa]
   | _=>simp [bS,Fa]
  | own s n cap a cs=>
   simp only [T.er,Fa,rj,iL];cases cs[o]? with
   | none=>rfl
   | some t=>simp [ih]
theorem aca {w:World} {X:Bool->Nat->Prop} (y:List Nat):∀ {t t2:T},bI w X t->rj t y=some t2->bI w X t2/\∀ k∈t2.ft,k∈t.ft:=by
 induction y with
 | nil=>
  intro t t2 hs h;have:t2=t:=by cases t<;>simpa [rj] using h.symm
  subst this;exact ⟨hs,fun _ h=>h⟩
 | cons o q ih=>
  intro t t2 hs h;cases t with
  | v d u=>simp [rj] at h
  | own s n cap a cs=>
   simp only [rj] at h;cases hc:cs[o]? with
   | none=>simp [hc] at h
   | some t1=>
    simp only [hc] at h;simp only [bI] at hs;obtain ⟨h1,h2⟩:=ih (gb hs.2.2.2 hc) h;refine ⟨h1,fun k hk=>?_⟩;obtain ⟨A,B,e,_⟩:=dU cs o _ hc;simp [T.ft,e,h2 k hk]
theorem U2 (y:List Nat):∀ {t:T} {cs:List T} {o:Nat},cs[o]?=some t->∀ {q':List Nat} {o':Nat},q'++[o']=o::y->(match ay cs q' with | some l=>l[o']? | none=>none)=rj t y:=by
 induction y with
 | nil=>
  intro t cs o ho q' o' he;cases q' with
  | nil=>
   simp only [aaq,aaF,and_true] at he;subst he;simp only [ay,ho];cases t<;>rfl
  | cons p q'=>simp at he
 | cons z y ih=>
  intro t cs o ho q' o' he;cases q' with
  | nil=>simp at he
  | cons p q'=>
   simp only [aao,aaF] at he;obtain ⟨rfl,he⟩:=he;simp only [ay,ho];cases t with
   | v d u=>rfl
   | own s n cap a xs=>
    simp only [rj];cases hz:xs[z]? with
    | none=>
     simp only;cases q' with
     | nil=>
      simp only [aaq,aaF] at he;obtain ⟨rfl,_⟩:=he;simp [ay,hz]
     | cons p' q''=>
      simp only [aao,aaF] at he;obtain ⟨rfl,_⟩:=he;simp [ay,hz]
    | some t1=>exact ih hz he
theorem X4 {q:List Nat} {o:Nat} {y:List Nat} {t:T}:∀ {cs l:List T},ay cs q=some l->l[o]?=some t->∀ {q':List Nat} {o':Nat},under (q++[o]) (q'++[o'])=some y->(match ay cs q' with | some l=>l[o']? | none=>none)=rj t y:=by
 induction q with
 | nil=>
  intro cs l hc ho q' o' hu;simp only [ay,jf] at hc;subst hc;have:=jE hu;simp only [aaq,abp] at this;exact U2 y ho this
 | cons p q ih=>
  intro cs l hc ho q' o' hu;rw [ay] at hc;cases hp:cs[p]? with
  | none=>simp [hp] at hc
  | some x=>
   cases x with
   | v d u=>simp [hp] at hc
   | own s n cap a xs=>
    simp only [hp] at hc;cases q' with
    | nil=>have:=jE hu; simp at this
    | cons p' q'=>
     simp only [aao,under] at hu;split at hu
     ·rename_i e;subst e;simp only [ay,hp];exact ih hc ho hu
     ·simp at hu
section
variable {w w':World} {X X':Bool->Nat->Prop} {S S1 S':List (Nat × RT)} (hX:jF w w' X X')
include hX
theorem acb {r:Nat} {q:List Nat} {o:Nat} {t t':T} (hc:kX S S' r q o t t') (hs:bI w X t) (hf:∀ k∈t.ft,X' false k/\w'.heap[k]?=w.heap[k]?) {d:D} {u:Value} (h:bD w X S d u):bD w' X' S' (vx r q o t.er d) u:=by
 cases d with
 | ref r' q' o' x=>
  simp only [vx];split
  ·rename_i hr;subst hr;cases hu:under (q++[o]) (q'++[o']) with
   | none=>
    simp only;intro t2 h2;obtain ⟨t1,h1,hl⟩:=hc.vJ (.inr hu) h2;exact kW hl (h t1 h1)
   | some y=>
    simp only;obtain ⟨R,cs',l,h1,h2,h3,h4,rfl⟩:=hc.ex;have cO:cD S r' q' o'=rj t y:=by
     unfold cD;rw [h1];exact X4 h2 h3 hu
    cases hd:rj t y with
    | none=>rw [U1,hd]; simp [bD,Ext]
    | some t2=>
     rw [U1,hd];simp only [OB];cases he:t2.er with
     | sl g s n cs=>
      simp only;obtain ⟨g1,g2⟩:=aca y hs hd;have hr:=h t2 (by rw [cO,hd])
      have sb:bI w' X' t2:=dQ hX _ g1 (fun k hk=>(hf k (g2 k hk)).2);exact fP (Dm (X':=X') (fun _ _ h=>h) false he sb (fun k hk=>(hf k (g2 k hk)).1) hr)
     | _=>simp [bD,Ext]
  ·rename_i hr;intro t2 h2;obtain ⟨t1,h1,hl⟩:=hc.vJ (.inl hr) h2;exact kW hl (h t1 h1)
 | ptr r' q' o'=>exact zD hX hc (ex:=true) (by simp) h
 | cr cs o'=>exact o0 hX h
 | _=>simp only [vx]; exact zD hX hc (ex:=true) (by simp) h
end
section
variable {C:Ctx} {H H':List T} {w w':World} {S S1 S':List (Nat × RT)}
theorem U3 (hm:Mem C w S H) {g:D->D} (hS:SR g S S1) {r:Nat} {q:List Nat} {o:Nat} {t t':T} (hc:kX S1 S' r q o t t') {R0:RT} (Sd:lk S r=some R0) {b off:Nat} (xZ:q=[]->R0.box=some b/\off=0) (hq:q≠[]->bZ R0.box R0.cs q=some (b,off)) (hu:R7 w w' b (off+o) t'.val)
  (hs:bI w' (ah C w' S' H') t'∨∃ d u,t'=.v d u/\q=[]/\bD w' (ah C w' S' H') S' (bS d) u) (cF:jF w w' (ah C w S H) (ah C w' S' H'))
  (eT:(cM S'++ai H').Nodup) (eI:∀ k∈cM S'++ai H',k∈cM S++ai H) (hh:bJ w' (ah C w' S' H') H') (dZ:∀ d u,bD w (ah C w S H) S d u->bD w' (ah C w' S' H') S' (g d) u) (Bs:∀ d u,Ext w' (ah C w' S' H') d u->Ext w' (ah C w' S' H') (g d) u) (cU:w'.heap.size=w.heap.size):Mem C w' S' H':=by
 have Es:b∈R0.ft:=by
  cases q with
  | nil=>obtain ⟨h1,_⟩:=xZ rfl; simp [RT.ft,h1]
  | cons p q=>simp [RT.ft,qh (hq (by simp))]
 obtain ⟨A0,B0,f1,_⟩:=kU Sd;have ad5:=hm.nd;rw [f1] at ad5;have Z8:∀ {r1:Nat} {R1:RT},lk S r1=some R1->r1≠r->∀ k∈R1.ft,k≠b:=by
  intro r1 R1 h1 cX k hk e;subst e;obtain ⟨A1,B1,e1,e2⟩:=kU Sd;have hx:lk (pt S r ⟨none,[]⟩) r1=some R1:=by rw [dJ _ _ cX]; exact h1
  obtain ⟨A2,B2,e3,_⟩:=kU hx;have db:k∈cM (pt S r ⟨none,[]⟩):=by rw [e3]; simp [hk]
  have h0:(RT.mk none []).ft=[]:=rfl;rw [e2,h0] at db;have hn:=hm.nd;rw [e1] at hn;simp only [aah,tD,yq] at db hn;rcases db with db | db
  ·exact hn.1.1.2.2 k db k Es rfl
  ·exact hn.1.2.2 k (.inr Es) k db rfl
 have agz:∀ t0:T,bI w (ah C w S H) t0->b∉t0.ft->bI w' (ah C w' S' H') t0:=fun t0 h0 hb=>dQ cF _ h0 (fun k hk=>by
  obtain ⟨_,_,_,_,_,h3⟩:=hu;exact h3 k (fun e=>hb (e▸hk)))
 have cell:∀ {bx:Bool} {t0 t1:T},jw w (ah C w S H) S bx t0->GT g t0 t1->b∉t0.ft->jw w' (ah C w' S' H') S' bx t1:=by
  intro bx t0 t1 h0 hg hb;rcases hg with ⟨d,d1,u,rfl,rfl,he⟩ | ⟨⟨s,n,cap,a,xs,rfl⟩,rfl⟩
  ·simp only [jw] at h0 ⊢;rw [he];rcases h0 with h0 | ⟨hb,h0⟩
   ·exact .inl (Bs _ _ (gF cF _ _ h0))
   ·exact .inr ⟨hb,dZ _ _ h0⟩
  ·exact agz _ h0 hb
 refine ⟨eT,?_,hh,fun k hk=>by rw [cU]; exact hm.lt k (eI k hk)⟩
 intro r' R' dV;obtain ⟨R1,cs',l,h1,h2,h3,h4,rfl⟩:=hc.ex;by_cases he:r'=r
 ·subst he;rw [cJ,jf] at dV;subst dV;obtain ⟨R,g1,g2,g3,g4,g5⟩:=hS.sC h1;rw [Sd,jf] at g1;subst g1;obtain ⟨k1,k2⟩:=hm.root r' R0 Sd;have Bv:R0.ft.Nodup:=(yq.1 (yq.1 (yq.1 ad5).1).1).2.1;cases q with
  | nil=>
   obtain ⟨xq,xd⟩:=xZ rfl;subst xd;simp only [ay,jf] at h2;simp only [dL,jf] at h4;subst h2; subst h4;obtain ⟨dg,hto⟩:=aaa.1 h3;simp only [xq] at k1;rw [RT.ft,xq] at Bv;simp only [Option.toList,aao,aaq,abm] at Bv;refine ⟨?_,?_⟩
   ·simp only [List.length_set];rw [g2,xq];simp only;rw [qy,g4,g3];exact R8 hu (by omega) k1 (by rw [bV]; exact aav _)
   ·intro t0 kY;obtain ⟨j,hj⟩:=abe.1 kY;simp only at hj;by_cases Lj:o=j
    ·subst Lj;rw [aaE dg,jf] at hj;subst hj;rcases hs with hs | ⟨d,u,rfl,_,hs⟩
     ·cases t' with
      | v d u=>exact .inl hs
      | own s n cap a xs=>exact hs
     ·exact .inr ⟨by rw [g2,xq]; rfl,hs⟩
    ·rw [aal Lj] at hj;obtain ⟨Sc,e1,e2⟩:=g5 j _ hj;have:=cell (k2 _ (aak e1)) e2 (fun hb=>Bv.1 (by
      obtain ⟨A',B',e3,_⟩:=dU R0.cs j _ e1;rw [e3]; simp [hb]))
     rw [<- g2] at this;exact this
  | cons p q=>
   have ha:=hq (by simp)
   have sb:bI w' (ah C w' (pt S1 r' ⟨R1.box,cs'⟩) H') t':=by
    rcases hs with hs | ⟨d,u,_,hq,_⟩
    ·exact hs
    ·simp at hq
   have hI:=(mM h4).1;have hlen:=(mM h4).2;rw [ay] at h2;rw [dL] at h4;cases hp:R1.cs[p]? with
   | none=>simp [hp] at h2
   | some x=>
    cases x with
    | v d u=>simp [hp] at h2
    | own s n cap a xs=>
     simp only [hp] at h2 h4;cases hx:dL (fun l=>l.set o t') xs q with
     | none=>simp [hx] at h4
     | some kS=>
      simp only [hx,jf] at h4;obtain ⟨Sc,e1,e2⟩:=g5 p _ hp;have Z9:R0.cs[p]?=some (.own s n cap a xs):=by
       rcases e2 with ⟨d,d1,u,_,e2,_⟩ | ⟨_,e2⟩
       ·simp at e2
       ·rw [e1,e2]
      have dF:bI w (ah C w S H) (.own s n cap a xs):=k2 _ (aak Z9);obtain ⟨A',B',e3,e4⟩:=dU R0.cs p _ Z9;have sG:(ai R0.cs).Nodup:=by rw [RT.ft] at Bv; exact (yq.1 Bv).2.1
      have rk:b∈(T.own s n cap a xs).ft:=by
       rw [bZ] at ha;simp only [Z9] at ha;cases q with
       | nil=>simp only at ha; subst ha; simp [T.ft,fG]
       | cons p' q'=>simp only at ha; simp [T.ft,qh ha]
      have agA:bI w' (ah C w' (pt S1 r' ⟨R1.box,cs'⟩) H') (.own s n cap a kS):=by
       have h5:bJ w (ah C w S H) [T.own s n cap a xs]:=by simp only [bJ]; exact ⟨dF,trivial⟩
       have h6:(ai [T.own s n cap a xs]).Nodup:=by
        simp only [ai,aah];rw [e3] at sG;exact (yq.1 (yq.1 sG).1).2.1
       have h7:bZ none [T.own s n cap a xs] (0::q)=some (b,off):=by
        rw [bZ] at ha;simp only [Z9] at ha;simp only [bZ,aaz];exact ha
       have h8:=ab0 (cs':=[T.own s n cap a kS]) (l:=l) cF sb hu (q:=q) h5 h6 (by simp only [ay,aaz]; exact h2) h7 (aaa.1 h3).1 (by simp [dL,hx])
       simp only [bJ] at h8;exact h8.1
      refine ⟨?_,?_⟩
      ·simp only;rw [hI,hlen,g4,g3,g2];cases hb:R0.box with
       | none=>trivial
       | some b0=>
        simp only [hb] at k1 ⊢;refine Jg hu (fun e=>?_) k1;subst e;rw [RT.ft,hb] at Bv;simp only [Option.toList,aao,aaq,abm] at Bv;exact Bv.1 (by rw [e3]; simp [rk])
      ·intro t0 kY;subst h4;obtain ⟨j,hj⟩:=abe.1 kY;simp only at hj;obtain ⟨dg,_⟩:=aaa.1 hp;by_cases uG:p=j
       ·subst uG;rw [aaE dg,jf] at hj;subst hj;exact agA
       ·rw [aal uG] at hj;obtain ⟨t01,e5,e6⟩:=g5 j _ hj;have xd:b∉t01.ft:=by
         intro hb;have h7:=e4 (.v .undef undef);have Gy:(R0.cs.set p (.v .undef undef))[j]?=some t01:=by rw [aal uG]; exact e5
         obtain ⟨A2,B2,e7,_⟩:=dU _ j t01 Gy;have fH:b∈ai (R0.cs.set p (.v .undef undef)):=by rw [e7]; simp [hb]
         rw [h7] at fH;rw [e3] at sG;simp only [T.ft,aah,tD] at fH;rw [yq,yq] at sG;rcases fH with fH | fH
         ·exact sG.1.2.2 b fH b rk rfl
         ·exact sG.2.2 b (tD.2 (.inr rk)) b fH rfl
        have:=cell (k2 _ (aak e5)) e6 xd;rw [<- g2] at this;exact this
 ·rw [dJ _ _ he] at dV;obtain ⟨R,g1,g2,g3,g4,g5⟩:=hS.sC dV;obtain ⟨k1,k2⟩:=hm.root r' R g1;refine ⟨?_,?_⟩
  ·rw [g4,g3,g2];cases hb:R.box with
   | none=>trivial
   | some b0=>
    simp only [hb] at k1 ⊢;exact Jg hu (Z8 g1 he b0 (by simp [RT.ft,hb])) k1
  ·intro t0 kY;obtain ⟨j,hj⟩:=abe.1 kY;obtain ⟨Sc,e1,e2⟩:=g5 j _ hj;have:=cell (k2 _ (aak e1)) e2 (fun hb=>by
    refine Z8 g1 he b ?_ rfl;obtain ⟨A',B',e3,_⟩:=dU R.cs j _ e1;rw [RT.ft,e3]; simp [hb])
   rw [<- g2] at this;exact this
end
theorem acd {w:World} {b off fr:Nat} {us:List Value} (h:lR w b off fr us) {o:Nat} (ho:o < fr) (u:Value):R7 w (w.setCell ⟨b,off+o,none⟩ u) b (off+o) u:=by
 obtain ⟨c,e,fz,h1,_,h3,_⟩:=h;refine ⟨c,e,fz,h1,?_,fun k hk=>?_⟩
 ·simp [World.setCell,abR,h1]
 ·simp only [World.setCell,abR];rw [if_neg (by simpa using (aeR hk))]
theorem Fq {H H':List T} (h:H.Perm H'):(ai H).Perm (ai H'):=by
 induction h with
 | nil=>exact .refl _
 | cons x _ ih=>simp only [ai]; exact .append (.refl _) ih
 | swap x y l=>
  simp only [ai];rw [<- aay,<- aay];exact .append ae0 (.refl _)
 | trans _ _ h1 h2=>exact h1.trans h2
theorem Bw {C:Ctx} {w:World} {S:List (Nat × RT)} {H H':List T} (h:H.Perm H'):ah C w S H=ah C w S H':=by
 funext b k;simp only [ah,(Fq h).mem_iff]
theorem Rel.perm {C:Ctx} {H H':List T} {w:World} {st:St} {aI:List (Array Value)} {S:List (Nat × RT)} (hp:H.Perm H') (h:Rel C H w st aI S):Rel C H' w st aI S:=by
 have hf:=Bw (C:=C) (w:=w) (S:=S) hp;have hfp:=Fq hp;obtain ⟨h1,⟨m1,m2,m3,m4⟩,h3,k⟩:=h;rw [hf] at m2 m3 h3;refine ⟨h1,⟨(List.Perm.append (List.Perm.refl (cM S)) hfp).nodup_iff.1 m1,m2,?_,fun k hk=>m4 k ?_⟩,h3,⟨k.os,k.tape,k.output,k.size,k.block,fun x hx=>k.iQ x ?_,k.par⟩⟩
 ·rw [cj] at m3 ⊢;exact fun t ht=>m3 t (hp.mem_iff.2 ht)
 ·simpa [hfp.mem_iff] using hk
 ·simpa [hfp.mem_iff] using hx
def iB (C:Ctx) (w w':World) (S S':List (Nat × RT)) (H H':List T) (f:D->D):Prop:=∀ d u,bD w (ah C w S H) S d u->bD w' (ah C w' S' H') S' (f d) u
def mr (st st':St):Prop:=st'.tm=st.tm/\st'.up=st.up/\st'.of=st.of
theorem mr.refl (st:St):mr st st:=⟨rfl,rfl,rfl⟩
theorem mr.trans {a b c:St} (h:mr a b) (h':mr b c):mr a c:=⟨h'.1.trans h.1,h'.2.1.trans h.2.1,h'.2.2.trans h.2.2⟩
section
variable {C:Ctx} {w:World} {aI:List (Array Value)}
theorem GN:∀ {ds ds':List D} {us:List Value} {H:List T} {st st':St} {S:List (Nat × RT)},Rel C H w st aI S->cm (bD w (ah C w S H) S) ds us->r8 st ds=some (ds',st')->
  ∃ ts S',Rel C (ts++H) w st' aI S'/\ba ts=ds'/\ax ts=us/\iB C w w S S' H (ts++H) id/\qE S S'/\mr st st':=by
 intro ds
 induction ds with
 | nil=>
  intro ds' us H st st' S h hu ht;cases hu;simp only [r8,jf,tE] at ht;obtain ⟨rfl,rfl⟩:=ht;exact ⟨[],S,h,rfl,rfl,fun _ _ h=>h,qE.refl _,mr.refl _⟩
 | cons d ds ih=>
  intro ds' us H st st' S h hu ht;cases hu with
  | cons tK Et=>
  simp only [r8] at ht;split at ht
  case h_2=>simp at ht
  rename_i d1 aQ h1;split at ht
  case h_2=>simp at ht
  rename_i gG cu h2;simp only [jf,tE] at ht;obtain ⟨rfl,rfl⟩:=ht;obtain ⟨t,S1,a1,rfl,rfl,a4,a5,a6,_⟩:=vk h tK h1;obtain ⟨ts,S2,b1,rfl,rfl,b4,b5,b6⟩:=ih a1 (Et.mono (fun _ _ hh=>a4 _ _ hh)) h2;have hp:(ts++t::H).Perm (t::ts++H):=List.perm_middle;refine ⟨t::ts,S2,b1.perm hp,by simp [ba],by simp [ax],fun d u hd=>?_,a5.trans b5,mr.trans a6 b6⟩
  have:=b4 _ _ (a4 d u hd)
  rwa [Bw hp] at this
end
structure Grown (w w':World):Prop where
 sz:w.heap.size<=w'.heap.size
 bY:∀ k,k < w.heap.size->w'.heap[k]?=w.heap[k]?
 os:w'.os=w.os
 tape:w'.tape=w.tape
 out:w'.output=w.output
theorem Grown.refl (w:World):Grown w w:=⟨aav _,fun _ _=>rfl,rfl,rfl,rfl⟩
theorem iP (w:World) (o:Obj):(w.alloc o).heap.size=w.heap.size+1:=by
 show (w.heap.push o).size=_;simp
theorem Ls (w:World) (o:Obj):(w.alloc o).heap[w.heap.size]?=some o:=by
 show (w.heap.push o)[w.heap.size]?=_;simp
theorem Grown.alloc (w:World) (o:Obj):Grown w (w.alloc o):=
 ⟨by rw [iP]; omega,fun k hk=>by
  show (w.heap.push o)[k]?=_;simp [Array.getElem?_push,Nat.ne_of_lt hk],rfl,rfl,rfl⟩
theorem Grown.drew (w:World):Grown w w.drew:=⟨aav _,fun _ _=>rfl,rfl,rfl,rfl⟩
theorem Grown.trans {a b c:World} (h:Grown a b) (h':Grown b c):Grown a c:=
 ⟨abI h.sz h'.sz,fun k hk=>(h'.bY k (aef hk h.sz)).trans (h.bY k hk),h'.os.trans h.os,h'.tape.trans h.tape,h'.out.trans h.out⟩
theorem jM (w:World) (c:Array Value) (e:TypeId) {us:List Value} {fr:Nat} (h1:fr<=c.size) (h2:∀ (j:Nat) (u:Value),us[j]?=some u->c[j]?=some u):lR (w.alloc (.cells c e)) w.heap.size 0 fr us:=
 ⟨c,e,(0,0),Ls w _,fun o _=>by simp,by omega,fun j u hj=>by rw [abn]; exact h2 j u hj⟩
theorem Rel.put {C:Ctx} {H:List T} {w:World} {st:St} {vs:Array Value} {aI:List (Array Value)} {S:List (Nat × RT)} (h:Rel C H w st (vs::aI) S) {t:Nat} (ht:t < vs.size) {d:D} {v:Value} (hv:cx w (ah C w S H) S d v):
  Rel C H w (st.put (some t) d) (vs.setIfInBounds t v::aI) S:=by
 obtain ⟨h1,h2,h3,h4⟩:=h;refine ⟨h1,h2,?_,h4⟩;cases h3 with
 | cons a b=>exact .cons (mF.put a ht hv) b
section
variable {C:Ctx} {H Hs:List T} {w w':World} {st st':St} {vs:Array Value} {aI:List (Array Value)} {S:List (Nat × RT)}
theorem sH (h:Rel C (Hs++H) w st (vs::aI) S) (hg:Grown w w') {t:Nat} {R:RT} (eG:∀ k∈R.ft,k∈ai Hs∨(w.heap.size<=k/\k < w'.heap.size)) (eT:R.ft.Nodup)
  (hR:∀ S':List (Nat × RT),jF w w' (ah C w S (Hs++H)) (ah C w' S' H)->(∀ d u,bD w (ah C w S (Hs++H)) S d u->bD w' (ah C w' S' H) S' (cH (st.of+t) d) u)->OM w' (ah C w' S' H) S' R)
  (ht:t < vs.size) (hP:∀ p∈C.P0,p.1≠st.of+t) {d:Nat->D} {v:Value} (hd:∀ S' X,lk S' (st.of+t)=some R->cx w' X S' (d (st.of+t)) v) (hr:st.root (some t) (ba R.cs) d=some st'):
  ∃ S',Rel C H w' st' (vs.setIfInBounds t v::aI) S':=by
 have X5:∀ k∈R.ft,k∈ai Hs∨w.heap.size<=k:=fun k hk=>(eG k hk).imp id (·.1);have dg:∀ k∈R.ft,k < w'.heap.size:=fun k hk=>by
  rcases eG k hk with h1 | h1
  ·have:=h.mem.lt k (tD.2 (.inr (by rw [bd]; exact tD.2 (.inl h1))))
   have:=hg.sz;omega
  ·exact h1.2
 have cF:=o4 (r:=st.of+t) h X5 hg.sz hg.bY;have dZ:=GM (r:=st.of+t) h X5 hg.sz hg.bY;obtain ⟨h1,_⟩:=zH h (hR _ cF dZ) ⟨eT,X5⟩ dg hg.sz hg.bY hg.os hg.tape hg.out hP;simp only [St.root,jf] at hr;subst hr;exact ⟨_,h1.put ht (hd _ _ (cJ _ _ _))⟩
theorem Jk (h:Rel C (Hs++H) w st (vs::aI) S) (hg:Grown w w') {t s n cap b:Nat} {ts:List T} (hb:w.heap.size<=b/\b < w'.heap.size) (hs:bJ w (ah C w S (Hs++H)) ts) (eI:∀ k∈ai ts,k∈ai Hs) (eT:(ai ts).Nodup)
  (hn:n<=cap/\cap<=9223372036854775807) (hl:ts.length=n*s) (fv:lR w' b 0 (cap*s) (ax ts)) (ht:t < vs.size) (hP:∀ p∈C.P0,p.1≠st.of+t) (hr:st.root (some t) [.sl none s n (ba ts)] (fun d=>.ref d [] 0 none)=some st'):
  ∃ S',Rel C H w' st' (vs.setIfInBounds t (.slice (some ⟨b,0,none⟩) n cap)::aI) S':=by
 have xr:∀ k∈ai ts,k < w.heap.size:=fun k hk=>h.mem.lt k (tD.2 (.inr (by rw [bd]; exact tD.2 (.inl (eI k hk)))))
 refine sH (R:=⟨none,[.own s n cap (some (b,0)) ts]⟩) h hg ?_ ?_ ?_ ht hP ?_ (by simpa [ba,T.er] using hr)
 ·intro k hk;simp only [RT.ft,ai,T.ft,fG,Option.toList,aaq,aah,aao,aap] at hk;rcases hk with rfl | hk
  ·exact .inr hb
  ·exact .inl (eI k hk)
 ·simp only [RT.ft,ai,T.ft,fG,Option.toList,aaq,aah,aao,abm];exact ⟨fun hk=>by have:=xr b hk; omega,eT⟩
 ·intro S' cF dZ;refine ⟨trivial,fun x hx=>?_⟩;simp only [abk] at hx;subst hx;simp only [jw,bI];exact ⟨hn,hl,fv,gH cF _ hs (fun k hk=>hg.bY k (xr k hk))⟩
 ·intro S' X qD;simp only [cx,gI,bD];intro x hx;simp only [cD,qD,ay,aaz,jf] at hx;subst hx;simp [eM,sn,T.er,T.val,uF]
theorem Jl (h:Rel C (Hs++H) w st (vs::aI) S) (hg:Grown w w') {t b:Nat} {ts:List T} (hb:w.heap.size<=b/\b < w'.heap.size)
  (hs:∀ x∈ts,bI w (ah C w S (Hs++H)) x∨∃ d u,x=.v (cH (st.of+t) d) u/\bD w (ah C w S (Hs++H)) S d u) (eI:∀ k∈ai ts,k∈ai Hs) (eT:(ai ts).Nodup)
  (fv:lR w' b 0 ts.length (ax ts)) (ht:t < vs.size) (hP:∀ p∈C.P0,p.1≠st.of+t) (hr:st.root (some t) (ba ts) (fun d=>.ptr d [] 0)=some st'):
  ∃ S',Rel C H w' st' (vs.setIfInBounds t (.pointer (some ⟨b,0,none⟩))::aI) S':=by
 have xr:∀ k∈ai ts,k < w.heap.size:=fun k hk=>h.mem.lt k (tD.2 (.inr (by rw [bd]; exact tD.2 (.inl (eI k hk)))))
 refine sH (R:=⟨some b,ts⟩) h hg ?_ ?_ ?_ ht hP ?_ hr
 ·intro k hk;simp only [RT.ft,Option.toList,aao,aaq,aap] at hk;rcases hk with rfl | hk
  ·exact .inr hb
  ·exact .inl (eI k hk)
 ·simp only [RT.ft,Option.toList,aao,aaq,abm];exact ⟨fun hk=>by have:=xr b hk; omega,eT⟩
 ·intro S' cF dZ;refine ⟨fv,fun x hx=>?_⟩;rcases hs x hx with h1 | ⟨d,u,rfl,h1⟩
  ·have h2:bI w' (ah C w' S' H) x:=dQ cF _ h1 (fun k hk=>hg.bY k (xr k (by
    obtain ⟨i,hi⟩:=abe.1 hx;obtain ⟨A,B,e,_⟩:=dU ts i x hi;rw [e]; simp [hk])))
   cases x with
   | v d u=>exact .inl h2
   | own s n cap a cs=>exact h2
  ·have h2:=dZ d u h1;have h3:bS (cH (st.of+t) d)=cH (st.of+t) d:=by
    cases hd:cH (st.of+t) d with
    | sl g s n cs=>
     rw [hd] at h2;cases g with
     | none=>simp [bD,Ext] at h2
     | some g=>rfl
    | _=>rfl
   simp only [jw];rw [h3];exact .inr ⟨rfl,h2⟩
 ·intro S' X qD;simp only [cx,gI,bD];intro R hR;rw [qD,jf] at hR;subst hR;exact ⟨fun _=>rfl,fun b' off ha=>by simp only [bZ,OB,jf,tE] at ha; obtain ⟨rfl,rfl⟩:=ha; rfl⟩
end
theorem vK {d:D} {u:Value} (h:R9 d u):bS d=d:=by
 have h1:=h default (fun _ _=>False);cases d with
 | sl g s n cs=>cases g with
  | none=>simp [Ext] at h1
  | some g=>rfl
 | _=>rfl
def leaves (ds:List D) (us:List Value):List T:=List.zipWith T.v ds us
theorem Lt {R:D->Value->Prop} {ds:List D} {us:List Value} (h:cm R ds us) (hl:∀ d u,R d u->bS d=d):ba (leaves ds us)=ds/\ax (leaves ds us)=us/\ai (leaves ds us)=[]/\(leaves ds us).length=ds.length/\∀ x∈leaves ds us,∃ d u,x=.v d u/\R d u:=by
 induction h with
 | nil=>simp [leaves,ba,ax,ai]
 | cons h1 _ ih=>
  obtain ⟨e1,e2,e3,e4,e5⟩:=ih;simp only [leaves,List.zipWith_cons_cons,ba,ax,ai,T.er,T.val,T.ft,aa7] at*;refine ⟨by rw [e1,hl _ _ h1],by rw [e2],by rw [e3]; rfl,by rw [e4],fun x hx=>?_⟩
  simp only [aap] at hx;rcases hx with rfl | hx
  ·exact ⟨_,_,rfl,h1⟩
  ·exact e5 x hx
theorem OX {ds:List D} {us:List Value} (h:cm R9 ds us):∃ ts,ba ts=ds.map sq/\ax ts=us/\ai ts=[]/\∀ w X,bJ w X ts:=by
 induction h with
 | nil=>exact ⟨[],rfl,rfl,rfl,fun _ _=>by simp [bJ]⟩
 | @cons d u _ _ h1 _ ih=>
  obtain ⟨ts,e1,e2,e3,e4⟩:=ih;have ku:=vK h1;by_cases hn:∃ s,d=.nil s
  ·obtain ⟨s,rfl⟩:=hn;have hu:u=.slice none 0 0:=h1 default (fun _ _=>False);subst hu;exact ⟨.own s 0 0 none []::ts,by simp [ba,e1,T.er,sq],by simp [ax,e2,T.val,uF],by simp [ai,e3,T.ft,fG],fun w X=>by simp [bJ,bI,e4]⟩
  ·have hr:sq d=d:=by cases d<;>first | rfl | exact absurd ⟨_,rfl⟩ hn
   exact ⟨.v d u::ts,by simp [ba,e1,T.er,hr,ku],by simp [ax,e2,T.val],by simp [ai,e3,T.ft],fun w X=>by simp only [bJ,bI]; exact ⟨by rw [ku]; exact h1 w X,e4 w X⟩⟩
theorem xx {ds:List D} {us:List Value} (h:cm R9 ds us) (n:Nat):∃ ts,ba ts=fa n ds/\ax ts=(List.replicate n us).flatten/\ai ts=[]/\∀ w X,bJ w X ts:=by
 obtain ⟨t0,e1,e2,e3,e4⟩:=OX h
 induction n with
 | zero=>exact ⟨[],by simp [ba,fa],by simp [ax],rfl,fun _ _=>by simp [bJ]⟩
 | succ n ih=>
  obtain ⟨ts,f1,f2,f3,f4⟩:=ih;refine ⟨t0++ts,?_,?_,?_,fun w X=>(ea _ _).2 ⟨e4 w X,f4 w X⟩⟩
  ·rw [qf,e1,f1]; simp [fa,abq]
  ·rw [tF,e2,f2]; simp [abq]
  ·rw [bd,e3,f3]; rfl
theorem xz (z:Array Value) (n:Nat):((List.range (n*z.size)).map fun i=>z[i % z.size]!)=(List.replicate n z.toList).flatten:=by
 induction n with
 | zero=>simp
 | succ n ih=>
  rw [Nat.succ_mul,List.range_add,aff,ih,List.replicate_succ',List.flatten_append]
  congr 1
  simp only [abH,abB,List.flatten_nil,aah];apply abN;intro j;simp only [aa5,adr];by_cases hj:j < z.size
  ·simp only [List.getElem?_range hj,OB,Function.comp_apply,Nat.mul_add_mod_self_right,aew hj];rw [getElem!_pos z j hj,adN hj]
  ·rw [abT (by omega),aaD (by simp; omega)]
   rfl
theorem OY (z:Array Value) (n:Nat) (j:Nat):(madeCells z (n*z.size))[j]?=(List.replicate n z.toList).flatten[j]?:=by
 rw [<- xz,<- adr];simp [madeCells]
theorem Eu {α:Type} (l:List α) {m n:Nat} (h:m<=n) {j:Nat} {u:α} (hj:(List.replicate m l).flatten[j]?=some u):(List.replicate n l).flatten[j]?=some u:=by
 have:List.replicate n l=List.replicate m l++List.replicate (n - m) l:=by rw [List.replicate_append_replicate]; congr 1; omega
 rw [this,List.flatten_append,abc (aaa.1 hj).1];exact hj
section
variable {P:Program} {c:cA} (aw:eu c P) {C:Ctx} {Hx:List T} {w:World} {st st':St} {vs:Array Value} {aI:List (Array Value)} {S:List (Nat × RT)} (h:Rel C Hx w st (vs::aI) S)
include aw h
theorem X6 {e:TypeId} {i:TI} (he:c.ty e=some i) {t:Nat} (ht:t < vs.size) (hP:∀ p∈C.P0,p.1≠st.of+t) (hr:st.root (some t) i.zero (fun d=>.ptr d [] 0)=some st'):
  ∃ v w',(Instr.alloc e true (.tuple #[])).run P w=.ok v w'/\dM w w'/\∃ S',Rel C Hx w' st' (vs.setIfInBounds t v::aI) S':=by
 obtain ⟨inf,h1,h2,h3,z,h4,h5⟩:=(aw.ty _ _ he).info;obtain ⟨e1,e2,e3,e4,e5⟩:=Lt h5 (fun _ _=>vK);have eB:(Instr.alloc e true (.tuple #[])).run P w=.ok (.pointer (some ⟨w.heap.size,0,none⟩)) (w.alloc (.cells z.cells e)):=by
  simp [Instr.alloc,Ff h1 h4,newVar,newRow]
 refine ⟨_,_,eB,(Grown.alloc w _).bY,?_⟩;refine Jl (Hs:=[]) h (Grown.alloc w _) (ts:=leaves i.zero z.cells.toList) ⟨aav _,by rw [iP]; omega⟩ (fun x hx=>.inl ?_) (by rw [e3]; simp) (by rw [e3]; simp) ?_ ht hP (by rw [e1]; exact hr)
 ·obtain ⟨d,u,rfl,h6⟩:=e5 x hx;simp only [bI];rw [vK h6];exact h6 _ _
 ·refine jM w _ _ (by rw [e4,h5.len]; simp) (fun j u hj=>?_)
  rw [e2] at hj
  simpa using hj
theorem OZ {t e:TypeId} {ei ti:TI} (kY:c.ty t=some ti) (hti:ti.ty=.slice e) (he:c.ty e=some ei) {kl kc:IntKind} {l cp:Int} (h0:0<=l) (Bx:l<=cp) (hb:0 < ei.bytes/\cp*ei.bytes<=140737488355328)
  {d:Nat} (ht:d < vs.size) (hP:∀ p∈C.P0,p.1≠st.of+d) (hr:st.root (some d) [.sl none ei.size l.toNat (fa l.toNat ei.zero)] (fun d=>.ref d [] 0 none)=some st'):
  ∃ v w',(Instr.makeSlice t (.int kl l) (.int kc cp)).run P w=.ok v w'/\dM w w'/\∃ S',Rel C Hx w' st' (vs.setIfInBounds d v::aI) S':=by
 obtain ⟨inf,h1,h2,h3,z,h4,h5⟩:=(aw.ty _ _ he).info;have AB:=(aw.ty _ _ he).len;obtain ⟨dd,g1,g2⟩:=(aw.ty _ _ kY).desc;rw [hti] at g2;simp only [lS] at g2;subst g2;have hcp:cp<=140737488355328:=by
  have:cp*1<=cp*ei.bytes:=Int.mul_le_mul_of_nonneg_left (by omega) (by omega)
  omega
 have eB:=run_make (P:=P) w t e inf z g1 h1 h4 kl kc l cp h0 Bx (by rw [h3,Int.mul_comm]; omega) (by omega)
 refine ⟨_,_,eB,(Grown.alloc w _).bY,?_⟩;obtain ⟨ts,e1,e2,e3,e4⟩:=xx h5 l.toNat;have kF:z.cells.size=ei.size:=by rw [<- AB,h5.len]; simp
 have hlen:ts.length=l.toNat*ei.size:=by
  have:=congrArg List.length e2;rw [bV] at this;simp only [aeM,aeX,ad7,adW,kF] at this;exact this
 rw [<- e1] at hr;refine Jk (Hs:=[]) h (Grown.alloc w _) (ts:=ts) ⟨aav _,by rw [iP]; omega⟩ (e4 _ _) (by rw [e3]; simp) (by rw [e3]; simp) (by omega) hlen ?_ ht hP hr
 refine jM w _ _ (by rw [size_madeCells,h2]; exact aav _) (fun j u hj=>?_)
 rw [e2] at hj;rw [h2,<- kF,OY];exact Eu _ (by omega) hj
end
def ou {α:Type}:List α->Nat->List α->List α
 | cs,_,[]=>cs
 | cs,o,d::ds=>ou (cs.set o d) (o+1) ds
theorem Ew:∀ (ds cs:List D) (o:Nat),zA cs o ds=ou cs o ds
 | [],_,_=>rfl
 | d::ds,cs,o=>by simp only [zA,ou]; exact Ew ds _ _
theorem Fs {α β:Type} (f:α->β):∀ (ds cs:List α) (o:Nat),(ou cs o ds).map f=ou (cs.map f) o (ds.map f)
 | [],_,_=>rfl
 | d::ds,cs,o=>by simp only [ou,aaM,<- aer]; exact Fs f ds _ _
theorem O0 {α:Type}:∀ (ds cs:List α) (o:Nat),(ou cs o ds).length=cs.length
 | [],_,_=>rfl
 | d::ds,cs,o=>by simp only [ou]; rw [O0 ds]; simp
theorem O1 (off:Nat):∀ (l:List Value) (k:Nat) (arr:Array Value),((l.zipIdx k).foldl (fun cs (x:Value × Nat)=>cs.setIfInBounds (off+x.2) x.1) arr).toList=ou arr.toList (off+k) l
 | [],_,_=>rfl
 | v::l,k,arr=>by
  simp only [List.zipIdx_cons,List.foldl_cons,ou];rw [O1 off l (k+1)];simp [abh]
theorem Tq (off:Nat) (v arr:Array Value):(v.zipIdx.foldl (fun cs (x:Value × Nat)=>cs.setIfInBounds (off+x.2) x.1) arr).toList=ou arr.toList off v.toList:=by
 rw [<- Array.foldl_toList,Array.toList_zipIdx];exact O1 off v.toList 0 arr
def pZ {α:Type} (place:Nat->Option (Nat × Nat)):List α->List (Nat × List α)->Option (List α)
 | cs,[]=>some cs
 | cs,(i,vs)::rest=>match place i with
  | some (o,k)=>if vs.length=k/\o+vs.length<=cs.length then pZ place (ou cs o vs) rest else none
  | none=>none
theorem Lu {ok:D->Bool} {place:Nat->Option (Nat × Nat)}:∀ {parts:List (Nat × List D)} {cs ds:List D},nI ok place cs parts=some ds->∀ p∈parts,∀ d∈p.2,ok d=true:=by
 intro parts
 induction parts with
 | nil=>intro cs ds _ p hp; simp at hp
 | cons p parts ih=>
  intro cs ds h q hq;obtain ⟨i,vs⟩:=p;simp only [nI] at h;split at h
  case h_2=>simp at h
  split at h
  case isFalse=>simp at h
  rename_i hc;rcases aap.1 hq with rfl | hq
  ·exact fun d hd=>aac.1 hc.2.2 d hd
  ·exact ih h q hq
theorem Se {α:Type} (er:α->D) {ok:D->Bool} {place:Nat->Option (Nat × Nat)}:∀ {parts:List (Nat × List α)} {cs:List α} {ds:List D},nI ok place (cs.map er) (parts.map fun p=>(p.1,p.2.map er))=some ds->∃ cs',pZ place cs parts=some cs'/\cs'.map er=ds:=by
 intro parts
 induction parts with
 | nil=>intro cs ds h; simp only [List.map_nil,nI,jf] at h; exact ⟨cs,rfl,h⟩
 | cons p parts ih=>
  intro cs ds h;obtain ⟨i,vs⟩:=p;simp only [aaM,nI] at h;simp only [pZ];split at h
  case h_2=>simp at h
  rename_i o k hp
  try rw [hp]
  split at h
  case isFalse=>simp at h
  rename_i hc;simp only [abu] at hc;rw [Ew,<- Fs] at h;simp only [hc.1,hc.2.1];rw [hc.1] at hc
  simpa [hc.2.1] using ih h
theorem GO {α:Type} (val:α->Value) {place:Nat->Option (Nat × Nat)}:∀ {parts:List (Nat × List α)} {rl:List (Nat × Value)} {cs cs':List α} {arr:Array Value},cm (fun p q=>q.1=p.1/\q.2.cells.toList=p.2.map val) parts rl->pZ place cs parts=some cs'->arr.toList=cs.map val->
  ∃ ad9,Instr.fill place arr rl=some ad9/\ad9.toList=cs'.map val:=by
 intro parts
 induction parts with
 | nil=>
  intro rl cs cs' arr h1 h2 h3;cases h1;simp only [pZ,jf] at h2;subst h2;exact ⟨arr,rfl,h3⟩
 | cons p parts ih=>
  intro rl cs cs' arr h1 h2 h3;obtain ⟨i,vs⟩:=p;cases h1 with
  | cons hp agB=>
  rename_i q qs;obtain ⟨j,v⟩:=q;obtain ⟨rfl,hv⟩:=hp;simp only [pZ] at h2;split at h2
  case h_2=>simp at h2
  rename_i o k hpl;split at h2
  case isFalse=>simp at h2
  rename_i hc;have Ex:v.cells.size=vs.length:=by have:=congrArg List.length hv; simpa using this
  have has:arr.size=cs.length:=by have:=congrArg List.length h3; simpa using this
  simp only [Instr.fill,hpl];rw [if_neg (by simp only [abv,decide_eq_true_eq,Ex,has,not_or]; exact ⟨by simpa using hc.1,by omega⟩)]
  refine ih agB h2 ?_;rw [Tq,h3,hv,<- Fs]
theorem X7 {α:Type}:∀ {ds cs:List α} {o:Nat} {x:α},x∈ou cs o ds->x∈cs∨x∈ds:=by
 intro ds
 induction ds with
 | nil=>intro cs o x h; exact .inl h
 | cons d ds ih=>
  intro cs o x h;rcases ih h with h | h
  ·rcases afd h with h | h
   ·exact .inl h
   ·exact .inr (by simp [h])
  ·exact .inr (by simp [h])
theorem Lv {α:Type} {place:Nat->Option (Nat × Nat)}:∀ {parts:List (Nat × List α)} {cs cs':List α},pZ place cs parts=some cs'->(∀ x∈cs',x∈cs∨∃ p∈parts,x∈p.2)/\cs'.length=cs.length:=by
 intro parts
 induction parts with
 | nil=>intro cs cs' h; simp only [pZ,jf] at h; subst h; exact ⟨fun x hx=>.inl hx,rfl⟩
 | cons p parts ih=>
  intro cs cs' h;obtain ⟨i,vs⟩:=p;simp only [pZ] at h;split at h
  case h_2=>simp at h
  split at h
  case isFalse=>simp at h
  obtain ⟨h1,h2⟩:=ih h;refine ⟨fun x hx=>?_,h2.trans (O0 _ _ _)⟩;rcases h1 x hx with h3 | ⟨p,h3,h4⟩
  ·rcases X7 h3 with h4 | h4
   ·exact .inl h4
   ·exact .inr ⟨_,aeY,h4⟩
  ·exact .inr ⟨p,List.mem_cons_of_mem _ h3,h4⟩
theorem U4:∀ {ds cs:List T} {o:Nat} {B:List Nat},(ai cs++ai ds++B).Nodup->(ai (ou cs o ds)++B).Nodup/\∀ k∈ai (ou cs o ds),k∈ai cs∨k∈ai ds:=by
 intro ds
 induction ds with
 | nil=>intro cs o B h; simpa [ou,ai] using h
 | cons d ds ih=>
  intro cs o B h;simp only [ou];have key:(ai (cs.set o d)++ai ds++B).Nodup/\∀ k∈ai (cs.set o d),k∈ai cs∨k∈d.ft:=by
   by_cases ho:o < cs.length
   ·obtain ⟨A,Z,e1,e2⟩:=dU cs o _ (aaf ho);rw [e2 d];refine ⟨?_,fun k hk=>?_⟩
    ·rw [e1,ai] at h;have p1:(A++cs[o].ft++Z++(d.ft++ai ds)++B).Perm (cs[o].ft++(A++d.ft++Z++ai ds++B)):=by
      refine abl.2 fun a=>?_;simp only [abD];omega
     exact (yq.1 (p1.nodup_iff.1 h)).2.1
    ·rw [e1];simp only [tD] at hk ⊢;rcases hk with (hk | hk) | hk
     ·exact .inl (.inl (.inl hk))
     ·exact .inr hk
     ·exact .inl (.inr hk)
   ·rw [List.set_eq_of_length_le (by omega)]
    refine ⟨?_,fun k hk=>.inl hk⟩;rw [ai] at h;have p1:(ai cs++(d.ft++ai ds)++B).Perm (d.ft++(ai cs++ai ds++B)):=by
     refine abl.2 fun a=>?_;simp only [abD];omega
    exact (yq.1 (p1.nodup_iff.1 h)).2.1
  obtain ⟨h1,h2⟩:=ih key.1;refine ⟨h1,fun k hk=>?_⟩;rcases h2 k hk with h3 | h3
  ·rcases key.2 k h3 with h4 | h4
   ·exact .inl h4
   ·exact .inr (by simp [ai,h4])
  ·exact .inr (by simp [ai,h3])
theorem Tr {place:Nat->Option (Nat × Nat)}:∀ {parts:List (Nat × List T)} {cs cs':List T},pZ place cs parts=some cs'->(ai cs++ai (parts.flatMap (·.2))).Nodup->(ai cs').Nodup/\∀ k∈ai cs',k∈ai cs∨k∈ai (parts.flatMap (·.2)):=by
 intro parts
 induction parts with
 | nil=>intro cs cs' h hn; simp only [pZ,jf] at h; subst h; simpa [ai] using hn
 | cons p parts ih=>
  intro cs cs' h hn;obtain ⟨i,vs⟩:=p;simp only [pZ] at h;split at h
  case h_2=>simp at h
  rename_i o k hp;split at h
  case isFalse=>simp at h
  simp only [abo,bd,<- aay] at hn;obtain ⟨g1,g2⟩:=U4 (o:=o) hn;obtain ⟨h1,h2⟩:=ih h g1;refine ⟨h1,fun k hk=>?_⟩;simp only [abo,bd,tD];rcases h2 k hk with h3 | h3
  ·rcases g2 k h3 with h4 | h4
   ·exact .inl h4
   ·exact .inr (.inl h4)
  ·exact .inr (.inr h3)
section
variable {C:Ctx} {Hx:List T} {w:World} {S:List (Nat × RT)} {st:St}
theorem Jm {X:Bool->Nat->Prop} {d:D} {u:Value} (h:Ext w X d u) (hc:da d=true):u.oneCell'=true/\u.cells=#[u]:=by
 cases d with
 | int k n=>have:u=.int k n:=h; subst this; exact ⟨rfl,rfl⟩
 | bool b=>have:u=.bool b:=h; subst this; exact ⟨rfl,rfl⟩
 | str s=>have:u=.string s:=h; subst this; exact ⟨rfl,rfl⟩
 | nil s=>have:u=.slice none 0 0:=h; subst this; exact ⟨rfl,rfl⟩
 | sl g s n cs=>
  cases g with
  | none=>simp [Ext] at h
  | some g=>
   simp only [Ext] at h;obtain ⟨base,cap,us,rfl,_⟩:=h;exact ⟨rfl,rfl⟩
 | ref r q o x=>simp [Ext] at h
 | ptr r q o=>simp [Ext] at h
 | cr cs o=>simp [Ext] at h
 | _=>simp [da] at hc
theorem mR {X:Bool->Nat->Prop} {t:T} (h:bI w X t) (hc:da t.er=true):t.val.oneCell'=true/\t.val.cells=#[t.val]:=by
 cases t with
 | own s n cap a cs=>exact ⟨rfl,rfl⟩
 | v d u=>exact Jm h hc
theorem O2 (gq:gS st.rt S) (hm:Mem C w S Hx) {d:D} {u:Value} (hd:bD w (ah C w S Hx) S d u) (cS:fW st d=true):u.oneCell'=true/\u.cells=#[u]:=by
 cases d with
 | ref r q o x=>
  simp only [fW] at cS;split at cS
  ·rename_i g s n cs hc;have:=(Oi gq hm (mN hd) (g:=g) (s:=s) (n:=(trim x s n cs).1) (cs:=(trim x s n cs).2) (by simp [St.qx,hc])).ok
   obtain ⟨base,cap,rfl,_⟩:=this;exact ⟨rfl,rfl⟩
  ·simp at cS
 | ptr r q o=>
  simp only [fW] at cS;obtain ⟨R,b,off,_,_,rfl⟩:=sw gq hm cS (mN hd);exact ⟨rfl,rfl⟩
 | cr cs o=>
  obtain ⟨b,off,c,e,fz,us,rfl,_⟩:=hd;exact ⟨rfl,rfl⟩
 | _=>exact Jm hd cS
theorem Ft (gq:gS st.rt S) (hm:Mem C w S Hx) {d:D} {u:Value} (hd:cx w (ah C w S Hx) S d u) (cS:∀ x∈cellsOf d,fW st x=true):cm (bD w (ah C w S Hx) S) (cellsOf d) u.cells.toList:=by
 by_cases ha:∃ cs,d=.agg cs
 ·obtain ⟨cs,rfl⟩:=ha;obtain ⟨us,rfl,h⟩:=hd;exact h
 ·have hc:cellsOf d=[d]:=by cases d<;>first | rfl | exact absurd ⟨_,rfl⟩ ha
  rw [hc] at cS ⊢;have ho:=cS d (by simp)
  have tH:bD w (ah C w S Hx) S d u:=by
   cases d<;>first | exact hd | (simp [fW,da] at ho; done) | exact absurd ⟨_,rfl⟩ ha
  rw [(O2 gq hm tH ho).2];exact .cons tH .nil
end
theorem zI {α β:Type} {R:α->β->Prop} {as9:List α} {bs:List β} (h:cm R as9 bs):∃ l:List (α × β),l.map Prod.fst=as9/\l.map Prod.snd=bs/\∀ x∈l,R x.1 x.2:=by
 induction h with
 | nil=>exact ⟨[],rfl,rfl,by simp⟩
 | @cons a b _ _ h1 _ ih=>
  obtain ⟨l,e1,e2,e3⟩:=ih;exact ⟨(a,b)::l,by simp [e1],by simp [e2],fun x hx=>by
   rcases aap.1 hx with rfl | hx
   ·exact h1
   ·exact e3 x hx⟩
theorem GP {α β:Type} {R:α->β->Prop}:∀ (l:List (α × β)),(∀ x∈l,R x.1 x.2)->cm R (l.map Prod.fst) (l.map Prod.snd)
 | [],_=>.nil
 | x::l,h=>.cons (h x (by simp)) (GP l (fun y hy=>h y (by simp [hy])))
theorem U5 {P:Program}:∀ {fs:List Field} {szs:List Nat},szs.length=fs.length->(∀ (j:Nat) (f:Field),fs[j]?=some f->∃ i,P.info? f.type=some i/\i.size≠0/\szs[j]?=some i.size)->
  fs.mapM (fun f=>(P.info? f.type).map fun i=>(f.offset,i.size))=some ((fs.map (·.offset)).zip szs):=by
 intro fs
 induction fs with
 | nil=>intro szs h _; rfl
 | cons f fs ih=>
  intro szs hl h;cases szs with
  | nil=>simp at hl
  | cons k szs=>
   obtain ⟨i,h1,_,h2⟩:=h 0 f rfl;simp only [aaz,jf] at h2;subst h2;have:=ih (szs:=szs) (by simpa using hl) (fun j f hj=>by simpa using h (j+1) f (by simpa using hj))
   simp [List.mapM_cons,h1,this]
section
variable {P:Program} {c:cA} (aw:eu c P) {C:Ctx} {Hx:List T} {w:World} {st st':St} {a:Act} {aI:List (Array Value)} {S:List (Nat × RT)} (h:Rel C Hx w st (a.tmps::aI) S)
include h
theorem X8:∀ (ps:List (Nat × Operand)),(∀ p∈ps.map (fun p=>(p.1,cellsOf (ct c st 0 p.2))),∀ d∈p.2,fW st d=true)->
  ∃ pp:List (Nat × List (D × Value)),pp.map (fun p=>(p.1,p.2.map Prod.fst))=ps.map (fun p=>(p.1,cellsOf (ct c st 0 p.2)))/\cm (fun p q=>q.1=p.1/\q.2.cells.toList=p.2.map Prod.snd) pp (ps.map fun p=>(p.1,a.eval p.2))/\
   ∀ p∈pp,∀ x∈p.2,bD w (ah C w S Hx) S x.1 x.2:=by
 have fX:mF w (ah C w S Hx) S st.tm a.tmps:=by cases h.pd with | cons a _=>exact a
 intro ps
 induction ps with
 | nil=>intro _; exact ⟨[],rfl,.nil,by simp⟩
 | cons p ps ih=>
  intro cS;obtain ⟨pp,e1,e2,e3⟩:=ih (fun q hq=>cS q (by simp only [aaM,aap]; exact .inr hq))
  have h1:=Ft h.rt h.mem (xe (c:=c) fX 0 p.2) (cS _ (by simp only [aaM,aap]; exact .inl rfl))
  obtain ⟨l,f1,f2,f3⟩:=zI h1;refine ⟨(p.1,l)::pp,by simp [e1,f1],.cons ⟨rfl,f2.symm⟩ e2,fun q hq=>?_⟩
  rcases aap.1 hq with rfl | hq
  ·exact f3
  ·exact e3 q hq
include aw
theorem Lw {t:TypeId} {ti:TI} (ht:c.ty t=some ti) {place:Nat->Option (Nat × Nat)} {ps:Array (Nat × Operand)} {cs:List D} (hf:nI (fW st) place ti.zero (ps.toList.map fun p=>(p.1,cellsOf (ct c st 0 p.2)))=some cs)
  (hb:∀ (z:Value) (rl:List (Nat × Value)),(∀ i,P.info? t=some i->i.zero=some z)->P.built t rl=Instr.fill place z.cells rl):
  ∃ v,(∀ w:World,(Instr.build t (ps.map fun (i,x)=>(i,a.eval x))).run P w=.ok v w)/\cx w (ah C w S Hx) S (.agg cs) v:=by
 obtain ⟨inf,h1,h2,h3,z,h4,h5⟩:=(aw.ty _ _ ht).info;obtain ⟨pp,e1,e2,e3⟩:=X8 (c:=c) h ps.toList (Lu hf);obtain ⟨zz,f1,f2,f3⟩:=zI h5;rw [<- e1,<- f1] at hf;obtain ⟨cs',g1,g2⟩:=Se Prod.fst hf;obtain ⟨arr,k1,k2⟩:=GO Prod.snd e2 g1 f2.symm;refine ⟨.agg arr,fun w=>run_build w t _ arr ?_,?_⟩
 ·rw [hb z _ (fun i hi=>by rw [h1,jf] at hi; subst hi; exact h4)]
  rw [<- k1];simp
 ·refine ⟨arr,rfl,?_⟩;rw [<- g2,k2];refine GP _ (fun x hx=>?_);rcases (Lv g1).1 x hx with h6 | ⟨p,h6,h7⟩
  ·exact fP (f3 x h6 w _)
  ·exact e3 p h6 x h7
theorem By {t:TypeId} {mo szs:List Nat} {sz qB:Nat} {z:List D} (ht:c.ty t=some ⟨.struct mo szs,sz,qB,z⟩) {ps:Array (Nat × Operand)} {cs:List D}
  (hf:nI (fW st) (fun i=>match mo[i]?,szs[i]? with | some o,some k=>some (o,k) | _,_=>none) z (ps.toList.map fun p=>(p.1,cellsOf (ct c st 0 p.2)))=some cs):
  ∃ v,(∀ w:World,(Instr.build t (ps.map fun (i,x)=>(i,a.eval x))).run P w=.ok v w)/\cx w (ah C w S Hx) S (.agg cs) v:=by
 refine Lw aw h ht hf (fun zv rl hz=>?_);obtain ⟨inf,h1,_⟩:=(aw.ty _ _ ht).info;obtain ⟨dd,g1,fs,rfl,g2,g3,g4⟩:=(aw.ty _ _ ht).desc;simp only [Program.built,h1,g1,hz inf h1,U5 g3 g4]
 congr 1
 funext i;simp only [List.getElem?_toArray,List.zip_eq_zipWith,List.getElem?_zipWith,<- g2];cases mo[i]? with
 | none=>rfl
 | some o=>cases szs[i]?<;>rfl
theorem Ey {t e:TypeId} {n:Nat} {sz qB:Nat} {z:List D} {ei:TI} (ht:c.ty t=some ⟨.array n e,sz,qB,z⟩) (he:c.ty e=some ei) {ps:Array (Nat × Operand)} {cs:List D}
  (hf:nI (fW st) (fun i=>some (i*ei.size,ei.size)) z (ps.toList.map fun p=>(p.1,cellsOf (ct c st 0 p.2)))=some cs):
  ∃ v,(∀ w:World,(Instr.build t (ps.map fun (i,x)=>(i,a.eval x))).run P w=.ok v w)/\cx w (ah C w S Hx) S (.agg cs) v:=by
 refine Lw aw h ht hf (fun zv rl hz=>?_);obtain ⟨inf,h1,_⟩:=(aw.ty _ _ ht).info;obtain ⟨aoA,h2,h3,_⟩:=(aw.ty _ _ he).info;obtain ⟨dd,g1,rfl⟩:=(aw.ty _ _ ht).desc;simp only [Program.built,h1,g1,hz inf h1,h2,h3]
end
end Go.Proofs.YtckkpgcnhdllgaaGreat
