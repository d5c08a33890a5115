/- What the proof of FnExactHold stands on, part 1: an abstract machine on plain data, its soundness, and the contracts of functions. -/
import Derived.Orders
import Derived.LoopN
import Derived.WalkKit
import Derived.Deep.AppendSrc
import Derived.Great.BuildSlice
set_option linter.all false
set_option linter.unusedSimpArgs false
set_option linter.unusedVariables false
set_option linter.unnecessarySimpa false
set_option linter.unusedSectionVars false
namespace Go.Proofs.YtckkpgcnhdllgaaGreat
def mN:=@Option.some.injEq
def sC:=@Bool.and_self
def sE:=@List.mem_append
def sF:=@Prod.mk.injEq
def wX:=@Bool.and_eq_true
def zX:=@List.nodup_append
def MD:=@Option.map_some
def TO:=@List.all_cons
def aaa:=@List.getElem?_eq_some_iff
def aap:=@List.length_append
def ab9:=@List.all_eq_true
def acd:=@List.all_nil
def ace:=@List.getElem?_eq_getElem
def acg:=@List.append_nil
def aci:=@List.mem_of_getElem?
def acq:=@Bool.false_eq_true
def acu:=@List.getElem?_set_ne
def acv:=@List.mem_map
def acw:=@List.nil_append
def acz:=@List.append_assoc
def acD:=@Nat.le_refl
def acE:=@List.cons_append
def acG:=@List.length_take
def acH:=@List.getElem?_cons_zero
def acK:=@List.mem_cons
def acN:=@List.getElem_mem
def acS:=@List.cons.injEq
def ac3:=@List.getElem?_eq_none
def ac5:=@List.getElem?_set_self
def ac6:=@List.map_cons
def ac8:=@List.take_length
def ac9:=@List.length_eq_zero_iff
def adj:=@List.length_cons
def adl:=@Nat.mul_le_mul_right
def adm:=@Array.getD_eq_getD_getElem?
def adn:=@List.getElem?_cons_succ
def adp:=@List.getElem?_map
def adr:=@List.getElem?_append_right
def adt:=@Nat.zero_le
def adv:=@Bool.not_eq_true'
def adw:=@List.take_append_getElem
def adx:=@List.getElem?_append_left
def adz:=@Array.toArray_toList
def adA:=@List.mem_iff_getElem?
def adB:=@List.length_singleton
def adD:=@List.filterMap_cons
def adJ:=@Nat.add_assoc
def adK:=@List.Sublist.refl
def adL:=@List.flatMap_cons
def adU:=@List.mem_singleton
def adV:=@List.perm_iff_count
def adW:=@List.nodup_cons
def aef:=@Nat.zero_add
def aeg:=@List.singleton_append
def aeh:=@List.replicate_succ
def aei:=@List.length_nil
def aej:=@Bool.or_eq_true
def aek:=@List.take_of_length_le
def ael:=@List.getElem?_take
def aen:=@List.getElem?_drop
def aeR:=@List.length_map
def af1:=@List.length_drop
def af2:=@Nat.add_mul
def af3:=@Option.isSome_iff_exists
def af4:=@List.Sublist.append
def af5:=@List.replicate_zero
def af6:=@List.getD_eq_getElem?_getD
def af7:=@List.drop_zero
def af8:=@Array.eq_empty_of_size_eq_zero
def af9:=@List.getElem_cons_drop
def aga:=@List.flatten_cons
def agb:=@List.count_append
def agc:=@Bool.or_eq_false_iff
def agd:=@Array.mem_toList_iff
def age:=@List.map_map
def agf:=@Nat.le_trans
def agh:=@Array.getElem?_append_left
def agi:=@Array.getElem?_eq_some_iff
def agj:=@Bool.false_and
def agk:=@List.ext_getElem?
def agl:=@Option.some.inj
def agm:=@Nat.not_lt
def agn:=@List.Perm.append_left
def ago:=@Array.getElem?_modify
def agp:=@Array.mem_of_getElem?
def agq:=@List.mem_range
def agr:=@Array.getElem?_eq_none
def ags:=@Option.getD_some
def agt:=@Array.getElem?_toList
def agu:=@Array.getElem?_eq_getElem
def agv:=@List.mem_of_find?_eq_some
def agw:=@Nat.sub_zero
def agx:=@Nat.sub_self
def agy:=@Array.length_toList
def agz:=@Array.getElem?_setIfInBounds
def agA:=@Array.toList_map
def agB:=@List.sum_replicate_nat
def agC:=@List.drop_of_length_le
def agD:=@Nat.lt_of_lt_of_le
def agE:=@List.mem_cons_self
def agF:=@Nat.add_zero
def agG:=@List.map_append
def agH:=@List.take_append_drop
def agI:=@Bool.true_and
def agJ:=@Bool.not_eq_false
def agK:=@Array.size_append
def agL:=@List.size_toArray
def agM:=@List.sublist_append_right
def agN:=@List.mem_of_mem_take
def agO:=@Bool.and_false
def agP:=@List.map_set
def agQ:=@Nat.mod_eq_of_lt
def agR:=@List.mem_flatten
def agS:=@List.length_flatten
def agT:=@Nat.mul_le_mul_left
def agU:=@Ne.symm
def agV:=@List.map_replicate
def agW:=@List.set_cons_zero
def agX:=@Nat.add_sub_cancel
def agY:=@List.perm_append_comm
def agZ:=@List.map_nil
def ag0:=@List.set_append_right
def ag3:=@List.mem_cons_of_mem
def ag4:=@BitVec.ofInt_natCast
def ag5:=@List.map_drop
def ag6:=@List.map_take
def ag7:=@Bool.and_true
def ahc:=@Bool.not_true
def ajw:=@List.map_congr_left
def ajx:=@List.mem_or_eq_of_mem_set
def ajy:=@Classical.byContradiction
def ajz:=@Option.map_none
def ajA:=@List.getElem?_zip_eq_some
def ajB:=@Nat.min_eq_left
def ajC:=@List.Nodup.sublist
def ajD:=@List.set_cons_succ
def ajE:=@List.getElem?_take_of_lt
def ajF:=@BitVec.toNat_ofNat
def ajG:=@Nat.pow_succ
def ajH:=@Int.zero_add
def ajI:=@Decidable.not_not
def ajJ:=@List.getElem?_set
inductive D where
 | int (k:IntKind) (n:Int)
 | bool (b:Bool)
 | str (s:ByteArray)
 | sl (g:Option Bool) (s n:Nat) (cs:List D)
 | ref (r:Nat) (q:List Nat) (o:Nat) (x:Option (Nat × Nat))
 | nil (s:Nat)
 | agg (cs:List D)
 | aG (vs:List D)
 | fn (f:FuncId) (gH:List D)
 | ptr (r:Nat) (q:List Nat) (o:Nat)
 | dK (cs:List D) (o:Nat)
 | aW (cs:List D)
 | hole (s n:Nat)
 | undef
 deriving Inhabited
def lk {α:Type}:List (Nat × α)->Nat->Option α
 | [],_=>none
 | (j,v)::t,k=>if j=k then some v else lk t k
def pt {α:Type}:List (Nat × α)->Nat->α->List (Nat × α)
 | [],k,v=>[(k,v)]
 | (j,u)::t,k,v=>if j=k then (k,v)::t else (j,u)::pt t k v
def pz {α:Type}:List (Nat × α)->Nat->α->List (Nat × α)
 | [],k,v=>[(k,v)]
 | (j,u)::t,k,v=>if j < k then (j,u)::pz t k v else if j=k then (k,v)::t else (k,v)::(j,u)::t
structure St where
 tm:List (Nat × D)
 rt:List (Nat × List D)
 up:List (List (Nat × D)):=[]
 of:Nat:=0
def St.get (st:St) (t:Nat):D:=(lk st.tm t).getD .undef
def St.put (st:St) (dst:Option Nat) (d:D):St:=
 match dst with
 | some t=>{ st with tm:=pz st.tm t d }
 | none=>st
inductive Ty where
 | int (k:IntKind) | bool | str | slice (e:TypeId) | array (n:Nat) (e:TypeId) | struct (lN szs:List Nat) | ptr (e:TypeId) | fn | other
structure TI where
 ty:Ty
 size:Nat
 bytes:Nat
 zero:List D
structure cn where
 ty:TypeId->Option TI
 ext:FuncId->Option (List D->Option (D × List D))
 own:FuncId->List Bool
 inl:FuncId->Bool
 ql:FuncId->Nat->Bool
 nm:FuncId->Nat->Option (List Nat × List Nat)
 gone:FuncId->List Bool
 base:FuncId->Nat->Option Nat
 nj:FuncId->Nat->List Nat
def cn.esz (c:cn) (t:TypeId):Nat:=
 match c.ty t with
 | some ⟨.slice e,_,_,_⟩=>match c.ty e with | some i=>i.size | none=>0
 | _=>0
def jF:List D->List Nat->Option (List D)
 | cs,[]=>some cs
 | cs,o::q=>match cs[o]? with
  | some (.sl none _ _ xs)=>jF xs q
  | _=>none
def n9 (f:List D->List D):List D->List Nat->Option (List D)
 | cs,[]=>some (f cs)
 | cs,o::q=>match cs[o]? with
  | some (.sl none s n xs)=>match n9 f xs q with
   | some kt=>some (cs.set o (.sl none s n kt))
   | none=>none
  | _=>none
def St.cells (st:St) (r:Nat) (q:List Nat):Option (List D):=
 match lk st.rt r with
 | some cs=>jF cs q
 | none=>none
def St.cell (st:St) (r:Nat) (q:List Nat) (o:Nat):Option D:=
 match st.cells r q with
 | some cs=>cs[o]?
 | none=>none
def under (q:List Nat) (x:List Nat):Option (List Nat):=
 match q,x with
 | [],x=>some x
 | p::ps,y::ys=>if p=y then under ps ys else none
 | _::_,[]=>none
def trim (x:Option (Nat × Nat)) (s n:Nat) (cs:List D):Nat × List D:=
 match x with
 | none=>(n,cs)
 | some (l,m)=>(m,(cs.drop (l*s)).take (m*s))
def cw (r:Nat):D->D
 | .ref r' q o x=>if r'=r then .undef else .ref r' q o x
 | .ptr r' q o=>if r'=r then .undef else .ptr r' q o
 | d=>d
def eE (r:Nat):D->D
 | .ref r' q o x=>if r'=r then .undef else .ref r' q o x
 | .ptr r' (p::q) o=>if r'=r then .undef else .ptr r' (p::q) o
 | d=>d
def cq (r:Nat) (q:List Nat) (o:Nat) (exact:Bool):D->D
 | .ref r' q' o' x=>if r'=r then
   match under (q++[o]) (q'++[o']) with
   | none=>.ref r' q' o' x
   | some []=>if exact then .undef else .ref r' q' o' x
   | some (_::_)=>.undef
  else .ref r' q' o' x
 | .ptr r' q' o'=>if r'=r then
   match under (q++[o]) q' with
   | none=>.ptr r' q' o'
   | some _=>.undef
  else .ptr r' q' o'
 | d=>d
def rB (r:Nat) (q:List Nat) (o:Nat) (r1:Nat) (q1:List Nat) (o1:Nat):D->D
 | .ref r' q' o' x=>if r'=r then
   match under (q++[o]) (q'++[o']) with
   | none=>.ref r' q' o' x
   | some []=>.ref r1 q1 o1 x
   | some (_::_)=>.undef
  else .ref r' q' o' x
 | .ptr r' q' o'=>if r'=r then
   match under (q++[o]) q' with
   | none=>.ptr r' q' o'
   | some _=>.undef
  else .ptr r' q' o'
 | d=>d
def fg (f:D->D):D->D
 | .agg cs=>.agg (cs.map f)
 | .fn g cs=>.fn g (cs.map f)
 | d=>f d
def oR (f:D->D):D->D
 | .aG vs=>.aG (vs.map (fg f))
 | d=>fg f d
def gd {α:Type} (f:α->α):List (Nat × α)->List (Nat × α)
 | []=>[]
 | (k,v)::t=>(k,f v)::gd f t
def St.eX (f:D->D) (st:St):St:={ st with tm:=gd (oR f) st.tm,rt:=gd (List.map (fg f)) st.rt,up:=st.up.map (gd (oR f)) }
def St.Zd (f g:D->D) (st:St):St:={ st with tm:=gd (oR f) st.tm,rt:=gd (List.map (fg g)) st.rt,up:=st.up.map (gd (oR f)) }
def gr:D->Bool
 | .sl ..=>true
 | _=>false
def sn:D->Option (Nat × Nat)
 | .sl _ s n _=>some (s,n)
 | .hole s n=>some (s,n)
 | _=>none
def iR:D->Bool
 | .sl none _ _ _=>true
 | _=>false
mutual
def eb (b:Bool):D->D
 | .sl none s n cs=>.sl (some b) s n (bz b cs)
 | d=>d
def bz (b:Bool):List D->List D
 | []=>[]
 | d::ds=>eb b d::bz b ds
end
def lp {α β:Type} (f:α->Option β):List α->Option (List β)
 | []=>some []
 | a::as9=>match f a with
  | some b=>match lp f as9 with
   | some bs=>some (b::bs)
   | none=>none
  | none=>none
def tJ (st:St):D->Option D
 | .int k n=>some (.int k n)
 | .bool b=>some (.bool b)
 | .str s=>some (.str s)
 | .nil s=>some (.nil s)
 | .sl g s n cs=>some (eb true (.sl g s n cs))
 | .ref r q o x=>match st.cell r q o with
  | some (.sl g s n cs)=>some (eb true (.sl g s (trim x s n cs).1 (trim x s n cs).2))
  | _=>none
 | .undef=>some .undef
 | .hole ..=>some .undef
 | _=>none
def QH (st:St):D->Option D
 | .dK cs o=>some (.dK cs o)
 | .ptr r q o=>match st.cells r q with
  | some (c::cs)=>match lp (tJ st) (c::cs) with
   | some cs'=>some (.dK cs' o)
   | none=>none
  | _=>none
 | d=>tJ st d
def exN (st:St) (d:D):Option D:=match tJ st d with
 | some (.nil s)=>some (.sl (some true) s 0 [])
 | r=>r
def TP (st:St):D->Option D
 | .agg cs=>match lp (exN st) cs with
  | some cs'=>some (.agg cs')
  | none=>none
 | .fn f gH=>match lp (QH st) gH with
  | some cs'=>some (.fn f cs')
  | none=>none
 | d=>QH st d
def St.gI (st:St) (r:Nat) (q:List Nat) (o:Nat) (d:D):Option St:=
 match lk st.rt r with
 | some cs=>match n9 (fun l=>l.set o d) cs q with
  | some cs'=>some { st with rt:=pz st.rt r cs' }
  | none=>none
 | none=>none
def iS (st:St):D->Option (D × St)
 | .int k n=>some (.int k n,st)
 | .bool b=>some (.bool b,st)
 | .str s=>some (.str s,st)
 | .nil s=>some (.sl none s 0 [],st)
 | .sl b s n cs=>some (.sl b s n cs,st)
 | .ref r q o x=>match st.cell r q o with
  | some (.sl none s n cs)=>match st.gI r q o (.hole s n) with
   | some st'=>some (.sl none s (trim x s n cs).1 (trim x s n cs).2,st')
   | none=>none
  | some (.sl (some b) s n cs)=>some (.sl (some b) s (trim x s n cs).1 (trim x s n cs).2,st)
  | _=>none
 | .undef=>some (.undef,st)
 | .hole ..=>some (.undef,st)
 | _=>none
def re (st:St):List D->Option (List D × St)
 | []=>some ([],st)
 | d::ds=>match iS st d with
  | some (d',st')=>match re st' ds with
   | some (ds',yu)=>some (d'::ds',yu)
   | none=>none
  | none=>none
def gA (r:Nat) (q:List Nat) (j:Nat):D->D
 | .sl none _ _ _=>.ref r q j none
 | d=>d
def lC (r:Nat) (q:List Nat):Nat->List D->List D
 | _,[]=>[]
 | j,d::ds=>gA r q j d::lC r q (j+1) ds
def TQ (st:St) (r:Nat):Option (List D × St):=
 match lk st.rt r with
 | some (c::cs)=>match re st (lC r [] 0 (c::cs)) with
  | some (cs',st')=>some (cs',{ st' with rt:=pz st'.rt r [] })
  | none=>none
 | _=>none
def Cj (st:St):D->Option (D × St)
 | .agg cs=>match re st cs with
  | some (cs',st')=>some (.agg cs',st')
  | none=>none
 | .ptr r [] 0=>match TQ st r with
  | some (cs',st')=>some (.aW cs',st')
  | none=>none
 | d=>iS st d
def ME (st:St):List D->Option (List D × St)
 | []=>some ([],st)
 | d::ds=>match Cj st d with
  | some (d',st')=>match ME st' ds with
   | some (ds',yu)=>some (d'::ds',yu)
   | none=>none
  | none=>none
def dc:D->List D
 | .agg cs=>cs
 | .aG vs=>vs.flatMap fun | .agg cs=>cs | d=>[d]
 | d=>[d]
def By (r:Nat) (j:Nat):D->D
 | .agg cs=>.agg (lC r [] j cs)
 | d=>gA r [] j d
def Es (r:Nat):Nat->List D->List D
 | _,[]=>[]
 | j,d::ds=>By r j d::Es r (j+(dc d).length) ds
def Bz (r:Nat):D->D
 | .aG vs=>.aG (Es r 0 vs)
 | d=>By r 0 d
def St.qm (st:St) (r:Nat) (d:D):St × D:=
 match d with
 | .aW cs=>
  let st':=st.eX (cw r)
  ({ st' with rt:=pz st'.rt r cs },.ptr r [] 0)
 | d=>if (dc d).any iR then
   let st':=st.eX (cw r)
   ({ st' with rt:=pz st'.rt r (dc d) },Bz r d)
  else (st,d)
mutual
def bW:D->Bool
 | .sl g _ _ cs=>(match g with | some true=>false | _=>true)&&cb cs
 | _=>true
def cb:List D->Bool
 | []=>true
 | d::ds=>bW d&&cb ds
end
mutual
def il (b:Bool):D->D
 | .sl none s n cs=>.sl none s n (ek b cs)
 | .sl (some _) s n cs=>.sl (some b) s n (ek b cs)
 | d=>d
def ek (b:Bool):List D->List D
 | []=>[]
 | d::ds=>il b d::ek b ds
end
def gJ (b:Bool):D->D
 | .agg cs=>.agg (ek b cs)
 | .aW cs=>.aW (ek b cs)
 | .aG vs=>.aG (vs.map fun | .agg cs=>.agg (ek b cs) | d=>il b d)
 | d=>il b d
def fy:D->Bool
 | .int .. | .bool _ | .str _ | .sl .. | .undef | .hole ..=>true
 | _=>false
def bX:D->List D
 | .aW cs=>cs
 | d=>dc d
def dw (d:D):Bool:=(bX d).all fun x=>fy x&&bW x
def BA (c:cn) (t:TypeId):Value->D
 | .int k n=>.int k n
 | .bool b=>.bool b
 | .string s=>.str s
 | .slice none 0 0=>.nil (c.esz t)
 | _=>.undef
def ch (c:cn) (st:St) (t:TypeId):Operand->D
 | .tmp i=>st.get i
 | .const v=>BA c t v
 | .func f=>.fn f []
 | .global _=>.undef
def zY (op:BinOp) (k:IntKind) (a b:Int):Option D:=
 match op with
 | .add=>some (.int k (k.wrap (a+b)))
 | .sub=>some (.int k (k.wrap (a - b)))
 | .mul=>some (.int k (k.wrap (a*b)))
 | .quo=>if b=0 then none else some (.int k (k.wrap (a.tdiv b)))
 | .rem=>if b=0 then none else some (.int k (a.tmod b))
 | .and=>some (.int k (k.wrap (BitVec.ofInt k.bits a&&& BitVec.ofInt k.bits b).toNat))
 | .or=>some (.int k (k.wrap (BitVec.ofInt k.bits a||| BitVec.ofInt k.bits b).toNat))
 | .xor=>some (.int k (k.wrap (BitVec.ofInt k.bits a ^^^ BitVec.ofInt k.bits b).toNat))
 | .eql=>some (.bool (a==b))
 | .neq=>some (.bool (a !=b))
 | .lss=>some (.bool (decide (a < b)))
 | .leq=>some (.bool (decide (a<=b)))
 | .gtr=>some (.bool (decide (a>b)))
 | .geq=>some (.bool (decide (a≥b)))
 | _=>none
def uC (op:BinOp) (k:IntKind) (a b:Int):Option D:=
 if b < 0 then none else
 match op with
 | .shl=>some (.int k (k.wrap (a*2 ^ (min b.toNat k.bits))))
 | .shr=>some (.int k (a.fdiv (2 ^ (min b.toNat k.bits))))
 | _=>none
def MF (op:BinOp) (a b:ByteArray):Option D:=
 match op with
 | .add=>if a.size+b.size<=9223372036854775807 then some (.str (a++b)) else none
 | .eql=>some (.bool (a.toList==b.toList))
 | .neq=>some (.bool (!(a.toList==b.toList)))
 | _=>none
def GS (op:BinOp) (a b:Bool):Option D:=
 match op with
 | .eql=>some (.bool (a==b))
 | .neq=>some (.bool (!(a==b)))
 | _=>none
def rC (c:cn) (t:TypeId) (op:BinOp) (x y:D):Option D:=
 match x,y with
 | .int k a,.int k' b=>match op with
  | .shl=>uC .shl k a b
  | .shr=>uC .shr k a b
  | op=>if k=k' then zY op k a b else none
 | .str a,.str b=>MF op a b
 | .bool a,.bool b=>match c.ty t with
  | some ⟨.bool,_,_,_⟩=>GS op a b
  | _=>none
 | _,_=>none
def Ze (op:UnOp) (x:D):Option D:=
 match op,x with
 | .neg,.int k n=>some (.int k (k.wrap (0 - n)))
 | .not,.bool b=>some (.bool (!b))
 | _,_=>none
def St.pN (st:St):D->Option (Option Bool × Nat × Nat × List D)
 | .nil s=>some (none,s,0,[])
 | .sl b s n cs=>some (b,s,n,cs)
 | .ref r q o x=>match st.cell r q o with
  | some (.sl b s n cs)=>some (b,s,(trim x s n cs).1,(trim x s n cs).2)
  | _=>none
 | _=>none
def MG (c:cn) (st:St) (t:TypeId) (x:D):Option D:=
 match c.ty t,x with
 | some ⟨.str,_,_,_⟩,.str s=>some (.int .i64 s.size)
 | some ⟨.slice _,_,_,_⟩,d=>match st.pN d with
  | some (_,_,n,_)=>some (.int .i64 n)
  | none=>none
 | _,_=>none
def byteOf:D->Option UInt8
 | .int .u8 n=>some (UInt8.ofNat n.toNat)
 | _=>none
def dz (b:UInt8):D:=.int .u8 b.toNat
def vO (c:cn) (st:St) (src dst:TypeId) (x:D):Option (D × Option (List D)):=
 match c.ty src,c.ty dst with
 | some si,some di=>
  match di.ty,si.ty,x with
  | .int k,_,.int _ n=>some (.int k (k.wrap n),none)
  | .str,_,.int _ n=>some (.str (Utf8.encode n),none)
  | .str,_,.str s=>some (.str s,none)
  | .str,.slice e,x=>match c.ty e with
   | some ⟨.int .u8,_,_,_⟩=>match st.pN x with
    | some (_,s,_,cs)=>if s=1 then (match lp byteOf cs with
     | some bs=>some (.str ⟨bs.toArray⟩,none)
     | none=>none) else none
    | none=>none
   | _=>none
  | _,_,_=>none
 | _,_=>none
def qn (st:St) (agg:Bool) (size:Nat):D->Option D
 | .ptr r q o=>match st.cells r q with
  | some cs=>
   if agg then (if 0 < size/\o+size<=cs.length then some (.agg (lC r q o ((cs.drop o).take size))) else none)
   else match cs[o]? with
    | some d=>some (gA r q o d)
    | none=>none
  | none=>none
 | .dK cs o=>
   if agg then (if 0 < size/\o+size<=cs.length then some (.agg ((cs.drop o).take size)) else none)
   else cs[o]?
 | _=>none
def kj:Ty->Bool
 | .struct .. | .array ..=>true
 | _=>false
def live (st:St) (r:Nat) (q:List Nat):Bool:=
 match st.cells r q with
 | some (_::_)=>true
 | _=>false
def km (i:Int) (n:Nat) (d:Option D):Option D:=if 0<=i then (if i < n then d else none) else none
def off (x:Option (Nat × Nat)):Nat:=
 match x with
 | none=>0
 | some (l,_)=>l
def qo (st:St) (c:cn) (t:TypeId) (x:D) (i:Int):Option D:=
 match c.ty t with
 | some ⟨.slice e,_,_,_⟩=>match c.ty e with
  | some ei=>match x with
   | .ref r q o x=>match st.cell r q o with
    | some (.sl none s n cs)=>if s=ei.size/\0 < s then km i (trim x s n cs).1 (some (.ptr r (q++[o]) ((off x+i.toNat)*s))) else none
    | some (.sl (some _) s n cs)=>if s=ei.size/\0 < s then km i (trim x s n cs).1 (some (.dK cs ((off x+i.toNat)*s))) else none
    | _=>none
   | .sl (some _) s n cs=>if s=ei.size/\0 < s then km i n (some (.dK cs (i.toNat*s))) else none
   | _=>none
  | none=>none
 | some ⟨.array n e,_,_,_⟩=>match c.ty e with
  | some ei=>match x with
   | .ptr r q o=>if live st r q then km i n (some (.ptr r q (o+i.toNat*ei.size))) else none
   | .dK cs o=>km i n (some (.dK cs (o+i.toNat*ei.size)))
   | _=>none
  | none=>none
 | _=>none
def wY (st:St) (k:Nat):D->Option D
 | .ptr r q i=>if live st r q then some (.ptr r q (i+k)) else none
 | .dK cs i=>some (.dK cs (i+k))
 | _=>none
def wZ (c:cn) (t:TypeId) (x:D) (i:Int):Option D:=
 match c.ty t,x with
 | some ⟨.str,_,_,_⟩,.str s=>km i s.size ((s.data.toList[i.toNat]?).map dz)
 | some ⟨.array n e,_,_,_⟩,.agg cs=>match c.ty e with
  | some ei=>km i n (if kj ei.ty then some (.agg ((cs.drop (i.toNat*ei.size)).take ei.size)) else cs[i.toNat*ei.size]?)
  | none=>none
 | _,_=>none
def yv:List D->Nat->List D->List D
 | cs,_,[]=>cs
 | cs,o,d::ds=>yv (cs.set o d) (o+1) ds
def rD:D->D
 | .nil s=>.sl none s 0 []
 | d=>d
def fu (n:Nat) (z:List D):List D:=(List.replicate n (z.map rD)).flatten
def cM:D->Bool
 | .fn .. | .agg _ | .aG _ | .aW _ | .undef | .hole ..=>false
 | _=>true
def single:D->Bool
 | .agg _ | .aG _ | .fn ..=>false
 | _=>true
def fO (st:St):D->Bool
 | .ref r q o _=>match st.cell r q o with
  | some (.sl ..)=>true
  | _=>false
 | .ptr r q _=>live st r q
 | d=>cM d
def mY (ok:D->Bool) (place:Nat->Option (Nat × Nat)):List D->List (Nat × List D)->Option (List D)
 | cs,[]=>some cs
 | cs,(i,vs)::rest=>match place i with
  | some (o,k)=>if vs.length=k/\o+vs.length<=cs.length/\vs.all ok=true then mY ok place (yv cs o vs) rest else none
  | none=>none
def cellsOf:D->List D
 | .agg cs=>cs
 | d=>[d]
def rE (st:St):List (Nat × D)->Option (List (Nat × List D) × St)
 | []=>some ([],st)
 | (i,d)::ps=>match re st (cellsOf d) with
  | some (cs,st')=>match rE st' ps with
   | some (r,yu)=>some ((i,cs)::r,yu)
   | none=>none
  | none=>none
def dY:D->Bool
 | .int .. | .bool _ | .str _=>true
 | _=>false
def St.root (st:St) (dst:Option Nat) (cs:List D) (d:Nat->D):Option St:=
 match dst with
 | some t=>
  let st':=st.eX (cw (st.of+t))
  some { st' with tm:=pz st'.tm t (d (st.of+t)),rt:=pz st'.rt (st.of+t) cs }
 | none=>none
def elems (st:St) (flat:Bool) (z:List D) (sz:Nat):D->Option (List D × Nat × St)
 | .int .i64 n=>if 0<=n/\(z.map rD).all cM=true then some (fu n.toNat z,n.toNat,st) else none
 | .str s=>if sz=1 then some (s.data.toList.map dz,s.size,st) else none
 | .nil _=>some ([],0,st)
 | .sl (some _) s n cs=>if s=sz/\cs.all cM=true then some (cs,n,st) else none
 | .ref r q o x=>match st.cell r q o with
  | some (.sl none s n cs)=>if s≠sz then none else if flat=true then (if (trim x s n cs).2.all dY=true then some ((trim x s n cs).2,(trim x s n cs).1,st) else none) else
   match re st (lC r (q++[o]) (off x*s) (trim x s n cs).2) with
   | some (ys,st')=>if ys.all cM=true then some (ys,(trim x s n cs).1,st') else none
   | none=>none
  | some (.sl (some _) s n cs)=>if s=sz/\(trim x s n cs).2.all cM=true then some ((trim x s n cs).2,(trim x s n cs).1,st) else none
  | _=>none
 | _=>none
def target (st:St) (sz:Nat) (d:D):Option (Nat × List D × St):=
 match iS st d with
 | some (.sl none s n cs,st')=>if s=sz then some (n,cs,st') else none
 | _=>none
def GU (c:cn) (tx:TypeId):D->Bool
 | .int ..=>match c.ty tx with | some ⟨.int _,_,_,_⟩=>true | _=>false
 | .str _=>match c.ty tx with | some ⟨.str,_,_,_⟩=>true | _=>false
 | _=>match c.ty tx with | some ⟨.slice _,_,_,_⟩=>true | _=>false
def rF (c:cn) (st:St) (t tx:TypeId) (dst:Option Nat) (s x:D):Option St:=
 match c.ty t with
 | some ⟨.slice e,_,_,_⟩=>match c.ty e with
  | some ei=>if GU c tx x=true then
    match target st ei.size s with
    | some (n,cs,aP)=>match elems aP (ei.zero.all dY) ei.zero ei.size x with
     | some (ys,m,cj)=>
      if 0 < ei.size/\0 < ei.bytes/\(n+m)*ei.bytes<=140737488355328 then cj.root dst [.sl none ei.size (n+m) (cs++ys)] (fun d=>.ref d [] 0 none) else none
     | none=>none
    | none=>none
   else none
  | none=>none
 | _=>none
def bound (d:Option D) (z:Int):Option Int:=
 match d with
 | none=>some z
 | some (.int _ i)=>some i
 | _=>none
def Et (s:ByteArray) (l h:Option D):Option D:=
 match bound l 0,bound h s.size with
 | some l,some h=>if 0<=l/\l<=h/\h<=s.size then some (.str (s.extract l.toNat h.toNat)) else none
 | _,_=>none
def Eu (st:St) (sz:Nat) (x:D) (l h:Option D):Option D:=
 match st.pN x with
 | some (g,s,n,cs)=>match bound l 0,bound h n with
  | some l,some h=>if s=sz/\0<=l/\l<=h/\h<=n then
    match x with
    | .ref r q o y=>some (.ref r q o (some (off y+l.toNat,h.toNat - l.toNat)))
    | .nil s=>some (.nil s)
    | _=>some (.sl g s (h.toNat - l.toNat) ((cs.drop (l.toNat*s)).take ((h.toNat - l.toNat)*s)))
   else none
  | _,_=>none
 | none=>none
def zZ (c:cn) (st:St) (t:TypeId) (x:D) (l h:Option D):Option D:=
 match c.ty t with
 | some ⟨.str,_,_,_⟩=>match x with
  | .str s=>Et s l h
  | _=>none
 | some ⟨.slice e,_,_,_⟩=>match c.ty e with
  | some ei=>Eu st ei.size x l h
  | none=>none
 | _=>none
def CZ:D->List Nat->Option D
 | d,[]=>some d
 | .sl none _ _ cs,o::q=>match cs[o]? with
  | some d=>CZ d q
  | none=>none
 | _,_=>none
def uD (r:Nat) (q:List Nat) (o:Nat) (bB:D):D->D
 | .ref r' q' o' x=>if r'=r then (match under (q++[o]) (q'++[o']) with
  | none=>.ref r' q' o' x
  | some y=>match CZ bB y with
   | some (.sl g s n cs)=>eb false (.sl g s (trim x s n cs).1 (trim x s n cs).2)
   | _=>.undef) else .ref r' q' o' x
 | d=>cq r q o true d
def St.rf (st:St) (r:Nat) (q:List Nat) (o:Nat) (d:D):Option (St × (D->D)):=
 match st.cell r q o with
 | some bB=>some (if gr bB then (st.Zd (uD r q o bB) (cq r q o true),uD r q o bB) else if gr d then (st.eX (cq r q o true),cq r q o true) else (st,id))
 | none=>none
def nk (st:St) (r:Nat):Nat->(D->D)->List D->Option St
 | _,_,[]=>some st
 | o,h,d::ds=>if !fO st (h d) then none else match st.rf r [] o (h d) with
  | some (aP,f)=>match aP.gI r [] o (f (h d)) with
   | some st'=>nk st' r (o+1) (fun x=>f (h x)) ds
   | none=>none
  | none=>none
def nn (st:St) (r:Nat):Nat->List D->Option St
 | _,[]=>some st
 | o,d::ds=>if !cM d then none else match st.rf r [] o d with
  | some (aP,_)=>match aP.gI r [] o d with
   | some st'=>nn st' r (o+1) ds
   | none=>none
  | none=>none
def z7 (r:Nat) (q:List Nat) (o:Nat):D->Bool
 | .ref r' q' o' none=>decide (r'=r)&&decide (q'=q)&&decide (o'=o)
 | _=>false
def uE (d:D) (r:Nat) (q:List Nat) (o:Nat):D->D:=
 match d with
 | .ref r' q' o' none=>rB r' q' o' r q o
 | .ref r' q' o' (some _)=>cq r' q' o' true
 | _=>id
def St.sj (st:St) (d:D) (r:Nat) (q:List Nat) (o:Nat):St:=
 match d with
 | .ref _ _ _ _=>st.eX (uE d r q o)
 | _=>st
def fA (st:St) (r:Nat) (q:List Nat):Nat->(D->D)->List D->Option St
 | _,_,[]=>some st
 | o,h,d::ds=>
  if z7 r q o (h d)&&fO st (h d) then fA st r q (o+1) h ds else
  match iS st (h d) with
  | some (d',aP)=>if !cM d' then none else match aP.rf r q o d' with
   | some (cj,f)=>match cj.gI r q o d' with
    | some Ck=>fA (Ck.sj (f (h d)) r q o) r q (o+1) (fun x=>uE (f (h d)) r q o (f (h x))) ds
    | none=>none
   | none=>none
  | none=>none
def uF (st:St) (ql:Nat->Bool) (size:Nat) (a v:D):Option St:=
 match a with
 | .ptr r q o=>
  if (cellsOf v).length=size/\live st r q=true then
   match q with
   | []=>if ql (r - st.of) then (match re st (cellsOf v) with
    | some (cs,aP)=>nn aP r o cs
    | none=>none) else nk st r o id (cellsOf v)
   | q=>fA st r q o id (cellsOf v)
  else none
 | _=>none
def z8 (c:cn) (st:St) (t:TypeId) (x:D):Option St:=
 match c.ty t with
 | some ⟨.slice e,_,_,_⟩=>match c.ty e with
  | some ei=>match x with
   | .ref r q o y=>match lk st.rt r with
    | some R=>match st.cell r q o with
     | some (.sl none s n cs)=>if s=ei.size/\0 < s then fA { st with rt:=pz st.rt r R } r (q++[o]) (off y*s) id (List.replicate (trim y s n cs).1 ei.zero).flatten else none
     | _=>none
    | none=>none
   | _=>none
  | none=>none
 | _=>none
def mO (st:St):List Bool->List D->Option (List D × St)
 | _,[]=>some ([],st)
 | b,d::ds=>
  match (if b.headD false then Cj st d else some (d,st):Option (D × St)) with
  | some (d',st')=>match mO st' b.tail ds with
   | some (ds',yu)=>some (d'::ds',yu)
   | none=>none
  | none=>none
def uG (st:St):List Bool->List D->Option (List D)
 | _,[]=>some []
 | b,d::ds=>
  match (if b.headD false then some d else TP st d) with
  | some d'=>match uG st b.tail ds with
   | some ds'=>some (d'::ds')
   | none=>none
  | none=>none
def mH (st:St) (b:List Bool) (ds:List D):Option (List D × St):=
 match mO st b ds with
 | some (gn,aP)=>match uG aP b gn with
  | some sG=>some (sG,aP)
  | none=>none
 | none=>none
def pn (st:St) (h:D->D):List D->List D->Option (St × (D->D))
 | [],_=>some (st,h)
 | _::_,[]=>none
 | a::as9,d::ds=>
  match h a,d with
  | .ref r q o none,.sl none s n cs=>match st.cell r q o with
   | some (.hole s0 n0)=>if s0=s/\n0=n then
     (match (st.eX (cq r q o false)).gI r q o (.sl none s n cs) with
      | some st'=>pn st' (fun x=>cq r q o false (h x)) as9 ds
      | none=>none)
    else none
   | _=>none
  | _,_=>pn st h as9 ds
def BB (st:St) (h:D->D) (a out:D):Option (St × (D->D)):=
 match a,out with
 | .agg cs,.agg ds=>pn st h cs ds
 | .ptr r [] 0,.aW ds=>match lk st.rt r with
  | some []=>some ({ st.eX (eE r) with rt:=pz (st.eX (eE r)).rt r ds },fun x=>eE r (h x))
  | _=>none
 | a,d=>pn st h [a] [d]
def im (st:St) (h:D->D):List Bool->List D->List D->Option St
 | _,[],_=>some st
 | b,a::as9,o::os=>if b.headD false then match BB st h a o with
   | some (st',h')=>im st' h' b.tail as9 os
   | none=>none
  else im st h b.tail as9 os
 | _,_::_,[]=>none
def fB:List Bool->List D->Bool
 | _,[]=>false
 | b,d::ds=>(b.headD false&&!((bX d).all bW))||fB b.tail ds
def j8:List Bool->List D->List D
 | _,[]=>[]
 | b,d::ds=>(if b.headD false then gJ false d else d)::j8 b.tail ds
def ku (c:cn) (cl:FuncId->List D->Option (D × List D)) (st:St) (dst:Option Nat) (f:FuncId) (args:List D):Option St:=
 match mH st (c.own f) args with
 | some (ds,aP)=>
  let t:=fB (c.own f) ds
  match cl f (if t then j8 (c.own f) ds else ds) with
  | some (r,outs)=>
   if dw r&&outs.all dw then
    match im aP id (c.own f) args (if t then outs.map (gJ true) else outs) with
    | some cj=>match dst with
     | some i=>let p:=cj.qm (cj.of+i) (if t then gJ true r else r); some (p.1.put (some i) p.2)
     | none=>some cj
    | none=>none
   else none
  | none=>none
 | none=>none
def eY (c:cn) (cl:FuncId->List D->Option (D × List D)) (ci:FuncId->List D->Nat->St->Option (D × St)) (aC:FuncId) (st:St) (o:Oper):Option St:=
 let ev:=ch c st o.type
 let val (d:Option D):Option St:=match d with | some d=>some (st.put o.dst d) | none=>none
 match o.op with
 | .move x | .assign x=>some (st.put o.dst (ev x))
 | .pick b x y=>match ev b with
  | .bool t=>some (st.put o.dst (if t then ev x else ev y))
  | _=>none
 | .alloc e=>match c.ty e with
  | some i=>st.root o.dst i.zero (fun d=>.ptr d [] 0)
  | none=>none
 | .box e x=>match c.ty e with
  | some i=>if (cellsOf (ch c st e x)).length=i.size/\(if c.ql aC (o.dst.getD 0)=true then true else (cellsOf (ch c st e x)).all (fO st))=true then
    match o.dst with
    | some t=>if c.ql aC t then (match re st (cellsOf (ch c st e x)) with
      | some (cs,aP)=>if cs.all cM then aP.root (some t) cs (fun d=>.ptr d [] 0) else none
      | none=>none)
     else st.root (some t) (cellsOf (oR (cw (st.of+t)) (ch c st e x))) (fun d=>.ptr d [] 0)
    | none=>none
   else none
  | none=>none
 | .build t ps=>match c.ty t with
  | some ⟨.struct lN szs,_,_,z⟩=>
   match mY (fO st) (fun i=>match lN[i]?,szs[i]? with | some o,some k=>some (o,k) | _,_=>none) z (ps.toList.map fun p=>(p.1,cellsOf (ch c st 0 p.2))) with
   | some cs=>some (st.put o.dst (.agg cs))
   | none=>none
  | some ⟨.array _ e,_,_,z⟩=>match c.ty e with
   | some ei=>
    match mY (fO st) (fun i=>some (i*ei.size,ei.size)) z (ps.toList.map fun p=>(p.1,cellsOf (ch c st 0 p.2))) with
    | some cs=>some (st.put o.dst (.agg cs))
    | none=>none
   | none=>none
  | _=>none
 | .buildSlice t n ps=>match c.ty t with
  | some ⟨.slice e,_,_,_⟩=>match c.ty e with
   | some ei=>
    if n*ei.size<=16777216/\n<=16777216 then
     match rE st (ps.toList.map fun p=>(p.1,ch c st e p.2)) with
     | some (vs,aP)=>match mY cM (fun i=>some (i*ei.size,ei.size)) (fu n ei.zero) vs with
      | some cs=>aP.root o.dst [.sl none ei.size n cs] (fun d=>.ref d [] 0 none)
      | none=>none
     | none=>none
    else none
   | none=>none
  | _=>none
 | .load t a=>match c.ty t with
  | some i=>val (qn st (kj i.ty) i.size (ev a))
  | none=>none
 | .store t a x=>match c.ty t with
  | some i=>match uF st (c.ql aC) i.size (ev a) (ch c st t x) with
   | some st'=>some (st'.put o.dst (.aG []))
   | none=>none
  | none=>none
 | .nilCheck x=>match ev x with
  | .ptr r q i=>if live st r q then some (st.put o.dst (.ptr r q i)) else none
  | .dK cs i=>some (st.put o.dst (.dK cs i))
  | _=>none
 | .binOp op t x y _=>val (rC c t op (ch c st t x) (ch c st t y))
 | .unOp op _ x=>val (Ze op (ev x))
 | .convert src dst x=>match vO c st src dst (ch c st src x) with
  | some (d,none)=>some (st.put o.dst d)
  | some (_,some cs)=>st.root o.dst cs (fun d=>.ref d [] 0 none)
  | none=>none
 | .makeFunc (.func f) first gH=>if first.size=0/\(gH.toList.map ev).all single=true then some (st.put o.dst (.fn f (gH.toList.map ev))) else none
 | .makeSlice t l cp=>match c.ty t with
  | some ⟨.slice e,_,_,_⟩=>match c.ty e,ev l,ev cp with
   | some ei,.int _ l,.int _ cp=>if 0<=l then (if l<=cp then (if 0 < ei.bytes/\cp*ei.bytes<=140737488355328 then st.root o.dst [.sl none ei.size l.toNat (fu l.toNat ei.zero)] (fun d=>.ref d [] 0 none) else none) else none) else none
   | _,_,_=>none
  | _=>none
 | .slice t x l h none=>val (zZ c st t (ch c st t x) (l.map ev) (h.map ev))
 | .fieldAddr s x f=>match c.ty s with
  | some ⟨.struct lN szs,_,_,_⟩=>match lN[f]? with
   | some k=>val (wY st k (ev x))
   | none=>none
  | _=>none
 | .indexAddr t x i=>match ev i with
  | .int _ i=>val (qo st c t (ch c st t x) i)
  | _=>none
 | .index t x i=>match ev i with
  | .int _ i=>val (wZ c t (ev x) i)
  | _=>none
 | .extract x i=>match ev x with
  | .aG vs=>val vs[i]?
  | _=>none
 | .call cc=>if cc.args.size≠cc.argTypes.size then none else
  let args:=(cc.args.toList.zip cc.argTypes.toList).map fun p=>ch c st p.2 p.1
  match cc.callee with
  | .value f=>match ev f with
   | .fn g gH=>if c.inl g then (match ci g (args++gH) ((st.of+o.dst.getD 0+1)*100000) st with
     | some (d,st')=>some (st'.put o.dst d)
     | none=>none) else ku c cl st o.dst g (args++gH)
   | _=>none
  | .builtin .len=>match args,cc.argTypes.toList with
   | [x],[t]=>val (MG c st t x)
   | _,_=>none
  | .builtin .min=>match args with
   | [.int k a,.int _ b]=>some (st.put o.dst (.int k (if b < a then b else a)))
   | _=>none
  | .builtin .max=>match args with
   | [.int k a,.int _ b]=>some (st.put o.dst (.int k (if b>a then b else a)))
   | _=>none
  | .builtin .append=>match args,cc.argTypes.toList with
   | [s,x],[t,tx]=>rF c st t tx o.dst s x
   | _,_=>none
  | .builtin .clear=>match args,cc.argTypes.toList with
   | [x],[t]=>match z8 c st t x with
    | some st'=>some (st'.put o.dst (.aG []))
    | none=>none
   | _,_=>none
  | _=>none
 | _=>none
def aca (x:Nat):Operand->Nat
 | .tmp v=>v+500000
 | _=>x
def GV (c:cn) (aC:FuncId) (o:Oper):Option Nat:=
 match o.op with
 | .store _ (.tmp x) _=>(match c.base aC x with
  | some (s+1)=>if s=999999 then none else some s
  | _=>none)
 | _=>none
def acb (st:St) (s:Nat):Bool:=
 match st.get s with
 | .ptr r [] _=>r==st.of+s&&decide (r < 10000)
 | _=>false
def BC (c:cn) (aC:FuncId) (o:Oper):List Nat:=
 match o.op with
 | .store _ (.tmp x) y=>c.nj aC (aca x y)
 | .call cc=>(match cc.callee,o.dst with
  | .builtin .append,some d=>c.nj aC d
  | _,_=>[])
 | _=>[]
def uH (c:cn) (aC:FuncId) (st:St) (o:Oper):Bool:=
 match o.op with
 | .load _ (.tmp x)=>(match c.base aC x with
  | none=>true
  | some 0=>(match st.get x with
   | .dK _ _=>true
   | _=>false)
  | some (r+1)=>if r=999999 then (match st.get x with
    | .ptr r' (p::q) _=>live st r' (p::q)&&(c.nj aC x).all fun s=>acb st s
    | _=>false) else (match st.get x with
   | .ptr r' [] _=>r'==st.of+r&&decide (r' < 10000)
   | _=>false))
 | .store _ (.tmp x) y=>(match GV c aC o with
  | some s=>(match st.get x with
   | .ptr r' [] _=>r'==st.of+s&&live st r' []
   | _=>false)
  | none=>true)&&(match c.nj aC (aca x y) with
  | []=>true
  | l=>(match st.get x with
   | .ptr r' q _=>live st r' q&&l.all fun r=>(lk st.rt (st.of+r)).isSome&&r' !=st.of+r
   | _=>false))
 | _=>(BC c aC o).all fun r=>(lk st.rt (st.of+r)).isSome
def yw (st:St) (ops:Array Oper) (o:Oper):Option Bool:=
 match o.guard with
 | none=>some true
 | some (j,want)=>match (ops[j]?).bind (·.dst) with
  | some t=>match st.get t with
   | .bool b=>some (b==want)
   | .aG []=>some false
   | _=>none
  | none=>some false
def uI (c:cn) (cl:FuncId->List D->Option (D × List D)) (ci:FuncId->List D->Nat->St->Option (D × St)) (aC:FuncId) (all:Array Oper):List Oper->St->Option St
 | [],st=>some st
 | o::rest,st=>match yw st all o with
  | some true=>if uH c aC st o then (match eY c cl ci aC st o with
   | some st'=>uI c cl ci aC all rest st'
   | none=>none) else none
  | some false=>uI c cl ci aC all rest (st.put o.dst (.aG []))
  | none=>none
def iq (c:cn) (cl:FuncId->List D->Option (D × List D)) (ci:FuncId->List D->Nat->St->Option (D × St)) (aC:FuncId) (all:Array Oper):List Nat->St->Option St
 | [],st=>some st
 | i::rest,st=>match all[i]? with
  | none=>iq c cl ci aC all rest st
  | some o=>match yw st all o with
   | some true=>if uH c aC st o then (match eY c cl ci aC st o with
    | some st'=>iq c cl ci aC all rest st'
    | none=>none) else none
   | some false=>iq c cl ci aC all rest (st.put o.dst (.aG []))
   | none=>none
def mZ (c:cn) (o:Oper):Option Bool:=
 match o.op with
 | .move _ | .assign _ | .pick .. | .binOp .. | .unOp .. | .makeFunc .. | .slice .. | .fieldAddr .. | .indexAddr .. | .index .. | .extract .. | .build .. | .nilCheck _=>some true
 | .load ..=>some false
 | .convert _ d _=>(match c.ty d with
  | some ⟨.slice _,_,_,_⟩=>none
  | some _=>some false
  | none=>none)
 | .call cc=>(match cc.callee with
  | .builtin .len | .builtin .min | .builtin .max=>some true
  | _=>none)
 | _=>none
def rh (o:Oper):Bool:=
 match o.op with
 | .alloc _ | .box .. | .makeSlice .. | .buildSlice ..=>true
 | _=>false
def vP (c:cn) (o:Oper):Bool:=
 (mZ c o).isSome||rh o||(match o.op with
  | .call cc=>(match cc.callee with
   | .value (.func f)=>!c.inl f&&!(c.own f).any id
   | _=>false)
  | _=>false)
def kbO (c:cn) (aC:FuncId) (r:Nat) (o:Oper):Bool:=vP c o||(BC c aC o).contains r
def waits (ops:Array Oper):Nat->Nat->Nat->Bool
 | 0,_,_=>false
 | n+1,j,i=>match ops[j]? with
  | some o=>o.after.toList.any fun e=>Region.binds .any e&&(e.on==i||waits ops n e.on i)
  | none=>false
def vQ (c:cn) (aC:FuncId) (oi:Oper) (b:Bool) (oj:Oper):Bool:=
 b||(match oi.op with
  | .load _ (.tmp x)=>(match c.base aC x with
   | some 0=>true
   | some (r+1)=>if r=999999 then vP c oj||(match GV c aC oj with
    | some s=>(c.nj aC x).contains s
    | none=>false) else kbO c aC r oj
   | none=>vP c oj)
  | _=>vP c oj)
def LN (c:cn) (aC:FuncId) (ops:Array Oper) (oi:Oper):Bool:=
 match oi.op with
 | .load _ (.tmp x)=>(match c.base aC x with
  | some (r+1)=>if r=999999 then (c.nj aC x).all fun s=>ops.toList.all fun o=>o.dst !=some s else ops.toList.all fun o=>o.dst !=some r
  | _=>true)
 | _=>true
def MH (c:cn) (aC:FuncId) (ops:Array Oper) (bQ:Array Bool) (i:Nat):Bool:=
 match ops[i]? with
 | none=>false
 | some oi=>match mZ c oi with
  | none=>false
  | some b=>LN c aC ops oi&&(List.range ops.size).all fun j=>j==i||bQ.getD j true||waits ops ops.size j i||(match ops[j]? with
   | some oj=>oi.apart ops oj&&vQ c aC oi b oj
   | none=>true)
def I2 (c:cn) (o:Oper):Option (List D × Bool):=
 match o.op with
 | .alloc e=>(match c.ty e with
  | some i=>some (i.zero,true)
  | none=>none)
 | .makeSlice t (.const l) (.const cp)=>(match c.ty t with
  | some ⟨.slice e,_,_,_⟩=>(match c.ty e,BA c o.type l,BA c o.type cp with
   | some ei,.int _ l,.int _ cp=>if 0<=l/\l<=cp/\0 < ei.bytes/\cp*ei.bytes<=140737488355328 then some ([.sl none ei.size l.toNat (fu l.toNat ei.zero)],false) else none
   | _,_,_=>none)
  | _=>none)
 | .buildSlice t n ps=>(match c.ty t with
  | some ⟨.slice e,_,_,_⟩=>(match c.ty e with
   | some ei=>if n=0/\ps.size=0 then some ([.sl none ei.size 0 []],false) else none
   | none=>none)
  | _=>none)
 | _=>none
def eaO (c:cn) (o:Oper):Bool:=o.guard.isNone&&o.dst.isSome&&(I2 c o).isSome
def MI (c:cn) (ops:Array Oper) (bQ:Array Bool) (rs:List Nat) (h:Nat):Bool:=
 match ops[h]? with
 | none=>false
 | some oh=>(List.range ops.size).all fun j=>j==h||bQ.getD j true||waits ops ops.size j h||(match ops[j]? with
  | some oj=>eaO c oj&&rs.contains j&&oj.apart ops oh&&(List.range ops.size).all fun k=>k==j||bQ.getD k true||(match ops[k]? with
   | some ok=>oj.apart ops ok||waits ops ops.size k j
   | none=>true)
  | none=>true)
def sm (c:cn) (aC:FuncId) (ops:Array Oper):Nat->Array Bool->Option (List Nat)
 | 0,bQ=>match Region.ready .any ops bQ with
  | []=>some []
  | _=>none
 | k+1,bQ=>match Region.ready .any ops bQ with
  | []=>some []
  | r::rs=>match (r::rs).find? (MH c aC ops bQ) with
   | some i=>(match sm c aC ops k (bQ.setIfInBounds i true) with
    | some l=>some (i::l)
    | none=>none)
   | none=>match (r::rs).find? (MI c ops bQ (r::rs)) with
    | some h=>(match sm c aC ops k (bQ.setIfInBounds h true) with
     | some l=>some (h::l)
     | none=>none)
    | none=>none
def rG (B:List Nat) (st:St) (r:Nat):Nat->Nat->Option St
 | _,0=>some st
 | o,k+1=>
  match st.cell r [] o with
  | some (.ref r' q' o' x)=>if (!q'.isEmpty||B.contains r')=true then rG B st r (o+1) k else
   (match iS st (.ref r' q' o' x) with
    | some (d',aP)=>match (aP.eX (cq r [] o true)).gI r [] o d' with
     | some cj=>rG B (cj.sj (.ref r' q' o' x) r [] o) r (o+1) k
     | none=>none
    | none=>none)
  | _=>rG B st r (o+1) k
def I3 (B:List Nat) (st:St) (r:Nat):Option St:=
 match lk st.rt r with
 | some cs=>rG B st r 0 cs.length
 | none=>some st
def RF (B:List Nat) (st:St) (t:Nat):Option St:=
 match st.get t with
 | .ref r [] o x=>if r=10000+st.of+t∨B.contains r=true then some st else
  match iS st (.ref r [] o x) with
  | some (d',aP)=>
   let cj:=(aP.eX (cw (10000+st.of+t))).sj (.ref r [] o x) (10000+st.of+t) [] 0
   some { cj with tm:=pz cj.tm t (.ref (10000+st.of+t) [] 0 none),rt:=pz cj.rt (10000+st.of+t) [d'] }
  | none=>none
 | _=>some st
def BD (f:St->Nat->Option St):St->List Nat->Option St
 | st,[]=>some st
 | st,t::ts=>match f st t with
  | some st'=>BD f st' ts
  | none=>none
def tV {α:Type} (l:List (Nat × α)):List Nat->List (Nat × α)
 | []=>[]
 | t::ts=>match lk l t with
  | some v=>(t,v)::tV l ts
  | none=>tV l ts
def below {α:Type} (k:Nat):List (Nat × α)->List (Nat × α)
 | []=>[]
 | (j,v)::t=>if (k<=j/\j < k+100000)∨((k+1)*100000<=j/\j < (k+100001)*100000) then below k t else (j,v)::below k t
def BE (L B:List Nat) (st:St):Option St:=
 let bs:=B.map (st.of+·)++L.filterMap fun t=>match st.get t with
  | .ptr r [] _=>some r
  | _=>none
 match BD (I3 bs) st bs with
 | some aP=>match BD (RF bs) aP L with
  | some cj=>some { cj with tm:=tV cj.tm L,rt:=below st.of cj.rt++tV cj.rt ((B++L.map (10000+·)).map (st.of+·)) }
  | none=>none
 | none=>none
def tW (nm:St->Option St) (body:St->Option (Exit × St)):Nat->St->Option (Exit × St)
 | 0,_=>none
 | k+1,st=>match nm st with
  | some aP=>match body aP with
   | some (.normal,cj)=>tW nm body k cj
   | r=>r
  | none=>none
def eT (c:cn) (cl:FuncId->List D->Option (D × List D)) (ci:FuncId->List D->Nat->St->Option (D × St)) (K:Nat) (aC:FuncId):Code->Nat->St->Option (Exit × St)
 | .skip,_,st=>some (.normal,st)
 | .region _ ops false,_,st=>match uI c cl ci aC ops ops.toList st with
  | some st'=>some (.normal,st')
  | none=>none
 | .region _ ops true,_,st=>match sm c aC ops ops.size (Array.replicate ops.size false) with
  | some l=>(match iq c cl ci aC ops l st with
   | some st'=>some (.normal,st')
   | none=>none)
  | none=>none
 | .seq a b,i,st=>match eT c cl ci K aC a i st with
  | some (.normal,st')=>eT c cl ci K aC b i st'
  | r=>r
 | .cond x a b,i,st=>match ch c st 0 x with
  | .bool t=>if t then eT c cl ci K aC a i st else eT c cl ci K aC b i st
  | _=>none
 | .block id a,_,st=>match eT c cl ci K aC a id st with
  | some (.exit uJ,st')=>if uJ=id then some (.normal,st') else some (.exit uJ,st')
  | r=>r
 | .loop a,i,st=>tW (match c.nm aC i with | some (L,B)=>BE L B | none=>some) (eT c cl ci K aC a i) K st
 | .exit id,_,st=>some (.exit id,st)
 | .ret,_,st=>some (.ret,st)
 | _,_,_=>none
def np (n:Nat):Nat->List D->St->St
 | _,[],st=>st
 | i,d::ds,st=>
  np n (i+1) ds (match d with
   | .aW cs=>{ st with tm:=pz st.tm i (.ptr (n+i) [] 0),rt:=pz st.rt (n+i) cs }
   | d=>if (dc d).any iR then { st with tm:=pz st.tm i (Bz (n+i) d),rt:=pz st.rt (n+i) (dc d) } else { st with tm:=pz st.tm i d })
def wG (c:cn) (st:St):List ResultVar->Option (List D)
 | []=>some []
 | .tmp t::rs=>match wG c st rs with
  | some ds=>some (st.get t::ds)
  | none=>none
 | .cell a t::rs=>match c.ty t with
  | some i=>match qn st (kj i.ty) i.size (st.get a) with
   | some d=>match wG c st rs with
    | some ds=>some (d::ds)
    | none=>none
   | none=>none
  | none=>none
def eQ:D->Bool
 | .aW _=>true
 | d=>(dc d).any iR
def oa (st:St) (r:Nat) (d:D):Option D:=
 if eQ d then
  match d with
  | .aW _=>some (.ptr r [] 0)
  | .agg _=>match lk st.rt r with
   | some cs=>some (.agg (lC r [] 0 cs))
   | none=>none
  | _=>match lk st.rt r with
   | some [d']=>some (gA r [] 0 d')
   | _=>none
 else none
def po (n:Nat):Nat->List D->St->Option (List D)
 | _,[],_=>some []
 | i,d::ds,st=>
  match oa st (n+i) d with
  | none=>match po n (i+1) ds st with
   | some os=>some (.undef::os)
   | none=>none
  | some v=>match Cj st v with
   | some (o,st')=>match po n (i+1) ds st' with
    | some os=>some (o::os)
    | none=>none
   | none=>none
def oc:List D->D
 | [d]=>d
 | ds=>.aG ds
def w5:Nat->List D->List (Nat × D)
 | _,[]=>[]
 | i,d::ds=>(i,d)::w5 (i+1) ds
def uK:Exit->Bool
 | .normal | .ret=>true
 | _=>false
def uL (n k:Nat):Bool:=decide (k<=n)&&decide (n+k<=10000)
def RG:D->Bool
 | .aG _=>false
 | _=>true
def LO (c:cn) (P:Program) (cl:FuncId->List D->Option (D × List D)) (ci:FuncId->List D->Nat->St->Option (D × St)) (K:Nat) (f:FuncId) (args:List D):Option (D × List D):=
 match c.ext f with
 | some e=>e args
 | none=>match P.funcs[f]? with
  | some fn=>match fn.body with
   | some body=>match eT c cl ci K f body 0 (np fn.ntmps 0 args ⟨[],[],[],0⟩) with
    | some (x,st)=>if uK x&&uL fn.ntmps args.length then (match wG c st fn.results.toList with
     | some ds=>match ME st ds with
      | some (ds',st')=>match po fn.ntmps 0 args st' with
       | some os=>some (oc ds',os)
       | none=>none
      | none=>none
     | none=>none) else none
    | none=>none
   | none=>none
  | none=>none
def WL (c:cn) (P:Program) (cl:FuncId->List D->Option (D × List D)) (ci:FuncId->List D->Nat->St->Option (D × St)) (K:Nat) (f:FuncId) (args:List D) (of:Nat) (st:St):Option (D × St):=
 match P.funcs[f]? with
 | some fn=>match fn.body with
  | some body=>match eT c cl ci K f body 0 ⟨w5 0 args,st.rt,st.tm::st.up,of⟩ with
   | some (x,aP)=>if uK x&&uL fn.ntmps args.length then (match wG c aP fn.results.toList,aP.up with
    | some ds,tm::up=>if ds.all RG then some (oc ds,⟨tm,aP.rt,up,st.of⟩) else none
    | _,_=>none) else none
   | none=>none
  | none=>none
 | none=>none
def forget:List Bool->List D->List D
 | true::b,.aW cs::os=>.aW cs::forget b os
 | true::b,_::os=>.undef::forget b os
 | false::b,o::os=>o::forget b os
 | _,os=>os
def TR (b:List Bool):Option (D × List D)->Option (D × List D)
 | some (r,os)=>some (r,forget b os)
 | none=>none
def yx (c:cn) (P:Program) (cl:FuncId->List D->Option (D × List D)) (ci:FuncId->List D->Nat->St->Option (D × St)) (K:Nat) (f:FuncId) (args:List D):Option (D × List D):=
 match c.ext f with
 | some e=>e args
 | none=>TR (c.gone f) (LO c P cl ci K f args)
def nq (c:cn) (P:Program):Nat->(FuncId->List D->Option (D × List D)) × (FuncId->List D->Nat->St->Option (D × St))
 | 0=>(fun _ _=>none,fun _ _ _ _=>none)
 | k+1=>(yx c P (nq c P k).1 (nq c P k).2 k,WL c P (nq c P k).1 (nq c P k).2 k)
def RH (c:cn) (P:Program) (k:Nat):FuncId->List D->Option (D × List D):=(nq c P k).1
inductive T where
 | v (d:D) (u:Value)
 | own (s n cap:Nat) (a:Option (Nat × Nat)) (cs:List T)
 deriving Inhabited
def bH:D->D
 | .sl none _ _ _=>.undef
 | d=>d
def tK (a:Option (Nat × Nat)) (n cap:Nat):Value:=.slice (a.map fun p=>⟨p.1,p.2,none⟩) n cap
def T.val:T->Value
 | .v _ u=>u
 | .own _ n cap a _=>tK a n cap
mutual
def T.er:T->D
 | .v d _=>bH d
 | .own s n _ _ cs=>.sl none s n (aX cs)
def aX:List T->List D
 | []=>[]
 | t::ts=>t.er::aX ts
end
def fC:Option (Nat × Nat)->List Nat
 | some (b,_)=>[b]
 | none=>[]
mutual
def T.ft:T->List Nat
 | .v _ _=>[]
 | .own _ _ _ a cs=>fC a++ah cs
def ah:List T->List Nat
 | []=>[]
 | t::ts=>t.ft++ah ts
end
def ax:List T->List Value
 | []=>[]
 | t::ts=>t.val::ax ts
theorem eO (ts:List T):aX ts=ts.map T.er:=by
 induction ts with
 | nil=>rfl
 | cons t ts ih=>simp [aX,ih]
theorem cz (ts:List T):ax ts=ts.map T.val:=by
 induction ts with
 | nil=>rfl
 | cons t ts ih=>simp [ax,ih]
theorem nr (ts:List T):ah ts=(ts.map T.ft).flatten:=by
 induction ts with
 | nil=>rfl
 | cons t ts ih=>simp [ah,ih]
theorem ir (ts:List T) (o:Nat):(aX ts)[o]?=(ts[o]?).map T.er:=by simp [eO]
theorem fm (ts:List T):(aX ts).length=ts.length:=by simp [eO]
theorem pA (a b:List T):aX (a++b)=aX a++aX b:=by simp [eO]
theorem MJ (ts:List T) (o:Nat) (t:T):(aX ts).set o t.er=aX (ts.set o t):=by
 simp [eO,agP]
theorem fh (ts:List T) (o:Nat):(ax ts)[o]?=(ts[o]?).map T.val:=by simp [cz]
theorem bK (ts:List T):(ax ts).length=ts.length:=by simp [cz]
theorem pO (ts:List T) (o:Nat) (t:T):ax (ts.set o t)=(ax ts).set o t.val:=by simp [cz,agP]
theorem sH (a b:List T):ax (a++b)=ax a++ax b:=by simp [cz]
theorem aY (a b:List T):ah (a++b)=ah a++ah b:=by simp [nr]
theorem vR (ts:List T) (k:Nat):(aX ts).drop k=aX (ts.drop k):=by simp [eO,ag5]
theorem vS (ts:List T) (k:Nat):(aX ts).take k=aX (ts.take k):=by simp [eO,ag6]
theorem uM {t:T} {s n:Nat} {cs:List D} (h:t.er=.sl none s n cs):∃ cap a ts,t=.own s n cap a ts/\cs=aX ts:=by
 cases t with
 | v d u=>
  simp only [T.er] at h;cases d<;>simp only [bH] at h<;>try cases h
  rename_i g _ _ _;cases g<;>simp at h
 | own s' n' cap a ts=>
  simp only [T.er,D.sl.injEq] at h;obtain ⟨_,rfl,rfl,rfl⟩:=h;exact ⟨cap,a,ts,rfl,rfl⟩
def ay:List T->List Nat->Option (List T)
 | cs,[]=>some cs
 | cs,o::q=>match cs[o]? with
  | some (.own _ _ _ _ xs)=>ay xs q
  | _=>none
def dG (f:List T->List T):List T->List Nat->Option (List T)
 | cs,[]=>some (f cs)
 | cs,o::q=>match cs[o]? with
  | some (.own s n cap a xs)=>match dG f xs q with
   | some kt=>some (cs.set o (.own s n cap a kt))
   | none=>none
  | _=>none
def bN (b:Option Nat):List T->List Nat->Option (Nat × Nat)
 | _,[]=>b.map fun k=>(k,0)
 | cs,o::q=>match cs[o]? with
  | some (.own _ _ _ a xs)=>(match q with | []=>a | _=>bN none xs q)
  | _=>none
theorem MK (q:List Nat):∀ cs:List T,jF (aX cs) q=(ay cs q).map aX:=by
 induction q with
 | nil=>intro cs; rfl
 | cons o q ih=>
  intro cs;simp only [jF,ay,ir];cases h:cs[o]? with
  | none=>simp
  | some t=>
   cases t with
   | v d u=>
    cases d<;>simp [T.er,bH]
    rename_i g _ _ _;cases g<;>simp
   | own s n cap a xs=>simp [T.er,ih]
theorem acf (q:List Nat) (o:Nat) (t:T):∀ cs:List T,n9 (fun l=>l.set o t.er) (aX cs) q=(dG (fun l=>l.set o t) cs q).map aX:=by
 induction q with
 | nil=>intro cs; simp [n9,dG,MJ]
 | cons p q ih=>
  intro cs;simp only [n9,dG,ir];cases h:cs[p]? with
  | none=>simp
  | some x=>
   cases x with
   | v d u=>
    cases d<;>simp [T.er,bH]
    rename_i g _ _ _;cases g<;>simp
   | own s n cap a xs=>
    simp only [MD,T.er,ih];cases hm:dG (fun l=>l.set o t) xs q with
    | none=>simp
    | some kt=>
     simp only [MD];rw [<- MJ]; simp [T.er]
theorem ML {q:List Nat} {f:List T->List T}:∀ {cs l:List T},ay cs q=some l->∃ cs',dG f cs q=some cs':=by
 induction q with
 | nil=>intro cs l _; exact ⟨_,rfl⟩
 | cons p q ih=>
  intro cs l h;simp only [ay] at h;simp only [dG];cases hp:cs[p]? with
  | none=>simp [hp] at h
  | some x=>
   cases x with
   | v d u=>simp [hp] at h
   | own s n cap a xs=>
    simp only [hp] at h;obtain ⟨kt,hx⟩:=ih h;exact ⟨cs.set p (.own s n cap a kt),by simp [hx]⟩
theorem nt {q:List Nat} {f:List T->List T}:∀ {cs cs':List T},dG f cs q=some cs'->∃ l,ay cs q=some l/\ay cs' q=some (f l):=by
 induction q with
 | nil=>
  intro cs cs' h;simp only [dG,mN] at h;exact ⟨cs,rfl,by rw [<- h]; rfl⟩
 | cons p q ih=>
  intro cs cs' h;simp only [dG] at h;cases hp:cs[p]? with
  | none=>simp [hp] at h
  | some x=>
   cases x with
   | v d u=>simp [hp] at h
   | own s n cap a xs=>
    simp only [hp] at h;cases hm:dG f xs q with
    | none=>simp [hm] at h
    | some kt=>
     simp only [hm,mN] at h;obtain ⟨l,h1,h2⟩:=ih hm;refine ⟨l,by simp [ay,hp,h1],?_⟩
     have hl:p < cs.length:=(aaa.1 hp).1;rw [<- h];simp [ay,hl,h2]
theorem mj {p:Nat} {q:List Nat} {f:List T->List T} {cs cs':List T} (h:dG f cs (p::q)=some cs'):ax cs'=ax cs/\cs'.length=cs.length:=by
 simp only [dG] at h;cases hp:cs[p]? with
 | none=>simp [hp] at h
 | some x=>
  cases x with
  | v d u=>simp [hp] at h
  | own s n cap a xs=>
   simp only [hp] at h;cases hm:dG f xs q with
   | none=>simp [hm] at h
   | some kt=>
    simp only [hm,mN] at h;subst h;obtain ⟨hl,hx⟩:=aaa.1 hp;refine ⟨?_,by simp⟩
    rw [pO];apply agk;intro j;by_cases hj:p=j
    ·subst hj;rw [ac5 (by rw [bK]; exact hl),fh,hp]; rfl
    ·simp [hj]
theorem dN (cs:List T) (o:Nat) (t:T) (h:cs[o]?=some t):∃ A B,ah cs=A++t.ft++B/\∀ t':T,ah (cs.set o t')=A++t'.ft++B:=by
 induction cs generalizing o with
 | nil=>simp at h
 | cons x xs ih=>
  cases o with
  | zero=>
   simp only [acH,mN] at h;subst h;exact ⟨[],ah xs,by simp [ah],fun t'=>by simp [ah]⟩
  | succ o=>
   simp only [adn] at h;obtain ⟨A,B,h1,h2⟩:=ih o h;exact ⟨x.ft++A,B,by simp [ah,h1],fun t'=>by simp [ah,h2]⟩
theorem Ew {q:List Nat}:∀ {cs l:List T},ay cs q=some l->∃ A B,ah cs=A++ah l++B/\∀ f cs',dG f cs q=some cs'->ah cs'=A++ah (f l)++B:=by
 induction q with
 | nil=>
  intro cs l h;simp only [ay,mN] at h;subst h;refine ⟨[],[],by simp,fun f cs' h=>?_⟩
  simp only [dG,mN] at h;simp [<- h]
 | cons p q ih=>
  intro cs l h;simp only [ay] at h;cases hp:cs[p]? with
  | none=>simp [hp] at h
  | some x=>
   cases x with
   | v d u=>simp [hp] at h
   | own s n cap a xs=>
    simp only [hp] at h;obtain ⟨A,B,h1,h2⟩:=ih h;obtain ⟨A',B',h3,h4⟩:=dN cs p _ hp;refine ⟨A'++fC a++A,B++B',by rw [h3]; simp [T.ft,h1],fun f cs' hm=>?_⟩
    simp only [dG,hp] at hm;cases hx:dG f xs q with
    | none=>simp [hx] at hm
    | some kt=>
     simp only [hx,mN] at hm;rw [<- hm,h4];simp [T.ft,h2 f kt hx]
theorem RI {q:List Nat} {o:Nat} {cs l:List T} {t:T} (h:ay cs q=some l) (ht:l[o]?=some t):
  ∃ A B,ah cs=A++t.ft++B/\∀ t' cs',dG (fun l=>l.set o t') cs q=some cs'->ah cs'=A++t'.ft++B:=by
 obtain ⟨A,B,h1,h2⟩:=Ew h;obtain ⟨A',B',h3,h4⟩:=dN l o t ht;refine ⟨A++A',B'++B,by rw [h1,h3]; simp,fun t' cs' hm=>?_⟩
 rw [h2 _ _ hm,h4]; simp
structure RT where
 box:Option Nat
 cs:List T
def RT.ft (r:RT):List Nat:=r.box.toList++ah r.cs
def cA:List (Nat × RT)->List Nat
 | []=>[]
 | (_,r)::t=>r.ft++cA t
theorem cx {α:Type} (l:List (Nat × α)) (k:Nat) (v:α):lk (pt l k v) k=some v:=by
 induction l with
 | nil=>simp [pt,lk]
 | cons e t ih=>
  obtain ⟨j,u⟩:=e;simp only [pt];split
  ·simp [lk]
  ·rename_i h; simp [lk,h,ih]
theorem dE {α:Type} (l:List (Nat × α)) {k j:Nat} (v:α) (h:j≠k):lk (pt l k v) j=lk l j:=by
 induction l with
 | nil=>simp [pt,lk,agU h]
 | cons e t ih=>
  obtain ⟨i,u⟩:=e;simp only [pt];split
  ·rename_i hi; subst hi; simp [lk,agU h]
  ·simp only [lk]; split<;>simp [ih]
theorem gK {α:Type} (l:List (Nat × α)) (k:Nat) (v:α):lk (pz l k v) k=some v:=by
 induction l with
 | nil=>simp [pz,lk]
 | cons e t ih=>
  obtain ⟨j,u⟩:=e;simp only [pz];split
  ·rename_i h; simp [lk,Nat.ne_of_lt h,ih]
  ·split<;>simp [lk]
theorem pB {α:Type} (l:List (Nat × α)) {k j:Nat} (v:α) (h:j≠k):lk (pz l k v) j=lk l j:=by
 induction l with
 | nil=>simp [pz,lk,agU h]
 | cons e t ih=>
  obtain ⟨i,u⟩:=e;simp only [pz];split
  ·simp only [lk]; split<;>simp [ih]
  ·split
   ·rename_i hi; subst hi; simp [lk,agU h]
   ·simp [lk,agU h]
theorem C2 {α:Type}:∀ (l:List (Nat × α)) (k:Nat) (u v:α),pz (pz l k u) k v=pz l k v
 | [],k,u,v=>by simp [pz]
 | (j,w)::t,k,u,v=>by
  simp only [pz];split
  ·rename_i h;simp only [pz,if_pos h,C2 t k u v]
  ·rename_i h;split
   ·simp [pz]
   ·simp [pz]
def gC (l:List (Nat × List D)) (S:List (Nat × RT)):Prop:=∀ k,lk l k=(lk S k).map fun r=>aX r.cs
theorem BF {l:List (Nat × List D)} {S:List (Nat × RT)} (h:gC l S) (k:Nat) (r:RT):gC (pz l k (aX r.cs)) (pt S k r):=by
 intro j;by_cases hj:j=k
 ·subst hj; rw [gK,cx]; rfl
 ·rw [pB _ _ hj,dE _ _ hj]; exact h j
theorem kv {S:List (Nat × RT)} {k:Nat} {r:RT} (h:lk S k=some r):∃ A B,cA S=A++r.ft++B/\∀ r',cA (pt S k r')=A++r'.ft++B:=by
 induction S with
 | nil=>simp [lk] at h
 | cons e t ih=>
  obtain ⟨j,u⟩:=e;simp only [lk] at h;by_cases hj:j=k
  ·simp only [hj,if_true,mN] at h;subst h;exact ⟨[],cA t,by simp [cA],fun r'=>by simp [pt,hj,cA]⟩
  ·simp only [hj,if_false] at h;obtain ⟨A,B,h1,h2⟩:=ih h;exact ⟨u.ft++A,B,by simp [cA,h1],fun r'=>by simp [pt,hj,cA,h2]⟩
theorem RJ {S:List (Nat × RT)} {k:Nat} (h:lk S k=none) (r:RT):cA (pt S k r)=cA S++r.ft:=by
 induction S with
 | nil=>simp [pt,cA]
 | cons e t ih=>
  obtain ⟨j,u⟩:=e;simp only [lk] at h;by_cases hj:j=k
  ·simp [hj] at h
  ·simp only [hj,if_false] at h;simp [pt,hj,cA,ih h]
def Unf (fz:Nat × Nat) (n:Nat):Prop:=∀ o,o<=n->¬ (fz.1<=o/\o < fz.2)
def lx (w:World) (b off fj:Nat) (us:List Value):Prop:=
 ∃ c e fz,w.heap[b]?=some (.cells c e fz)/\Unf fz c.size/\off+fj<=c.size/\∀ j u,us[j]?=some u->c[off+j]?=some u
mutual
def Ext (w:World) (X:Bool->Nat->Prop):D->Value->Prop
 | .int k n,u=>u=.int k n
 | .bool b,u=>u=.bool b
 | .str s,u=>u=.string s
 | .nil _,u=>u=.slice none 0 0
 | .undef,_=>True
 | .hole _ _,_=>True
 | .sl (some g) s n cs,u=>∃ base cap us,u=.slice base n cap/\n<=cap/\cs.length=n*s/\fV w X cs us/\
  (cs=[]∨∃ k off c e fz,base=some ⟨k,off,none⟩/\X g k/\w.heap[k]?=some (.cells c e fz)/\∀ j v,us[j]?=some v->c[off+j]?=some v)
 | _,_=>False
def fV (w:World) (X:Bool->Nat->Prop):List D->List Value->Prop
 | [],us=>us=[]
 | d::ds,us=>∃ v vs,us=v::vs/\Ext w X d v/\fV w X ds vs
end
mutual
def bA (w:World) (X:Bool->Nat->Prop):T->Prop
 | .v d u=>Ext w X (bH d) u
 | .own s n cap a cs=>(n<=cap/\cap<=9223372036854775807)/\cs.length=n*s/\(match a with | none=>n=0/\cap=0 | some (b,off)=>lx w b off (cap*s) (ax cs))/\bC w X cs
def bC (w:World) (X:Bool->Nat->Prop):List T->Prop
 | []=>True
 | t::ts=>bA w X t/\bC w X ts
end
section
variable {w w':World} {X X':Bool->Nat->Prop}
mutual
theorem gu (h:∀ b k,X b k->X' b k/\w'.heap[k]?=w.heap[k]?):∀ (d:D) (u:Value),Ext w X d u->Ext w' X' d u
 | .int _ _,_,hu=>hu
 | .bool _,_,hu=>hu
 | .str _,_,hu=>hu
 | .nil _,_,hu=>hu
 | .undef,_,_=>trivial
 | .hole _ _,_,_=>trivial
 | .sl (some g) s n cs,u,hu=>by
  simp only [Ext] at hu ⊢;obtain ⟨base,cap,us,h1,oS,h2,h3,h4⟩:=hu;refine ⟨base,cap,us,h1,oS,h2,sJ h cs us h3,?_⟩;rcases h4 with h4 | ⟨k,off,c,e,fz,h5,h6,h7,h8⟩
  ·exact .inl h4
  ·exact .inr ⟨k,off,c,e,fz,h5,(h g k h6).1,by rw [(h g k h6).2]; exact h7,h8⟩
 | .sl none _ _ _,_,hu=>by simp [Ext] at hu
 | .ref ..,_,hu=>by simp [Ext] at hu
 | .agg _,_,hu=>by simp [Ext] at hu
 | .aG _,_,hu=>by simp [Ext] at hu
 | .fn ..,_,hu=>by simp [Ext] at hu
 | .ptr ..,_,hu=>by simp [Ext] at hu
 | .dK ..,_,hu=>by simp [Ext] at hu
 | .aW _,_,hu=>by simp [Ext] at hu
theorem sJ (h:∀ b k,X b k->X' b k/\w'.heap[k]?=w.heap[k]?):∀ (ds:List D) (us:List Value),fV w X ds us->fV w' X' ds us
 | [],_,hu=>hu
 | d::ds,us,hu=>by
  simp only [fV] at hu ⊢;obtain ⟨v,vs,h1,h2,h3⟩:=hu;exact ⟨v,vs,h1,gu h d v h2,sJ h ds vs h3⟩
end
mutual
theorem dL (h:∀ b k,X b k->X' b k/\w'.heap[k]?=w.heap[k]?):∀ (t:T),bA w X t->(∀ k∈t.ft,w'.heap[k]?=w.heap[k]?)->bA w' X' t
 | .v d u,hs,_=>by simp only [bA] at hs ⊢; exact gu h _ _ hs
 | .own s n cap a cs,hs,hf=>by
  simp only [bA] at hs ⊢;obtain ⟨h1,h2,h3,h4⟩:=hs;refine ⟨h1,h2,?_,gv h cs h4 (fun k hk=>hf k (by simp [T.ft,hk]))⟩
  cases a with
  | none=>exact h3
  | some p=>
   obtain ⟨b,off⟩:=p;obtain ⟨c,e,fz,hb,hr⟩:=h3;exact ⟨c,e,fz,by rw [hf b (by simp [T.ft,fC])]; exact hb,hr⟩
theorem gv (h:∀ b k,X b k->X' b k/\w'.heap[k]?=w.heap[k]?):∀ (ts:List T),bC w X ts->(∀ k∈ah ts,w'.heap[k]?=w.heap[k]?)->bC w' X' ts
 | [],_,_=>by simp [bC]
 | t::ts,hs,hf=>by
  simp only [bC] at hs ⊢;exact ⟨dL h t hs.1 (fun k hk=>hf k (by simp [ah,hk])),gv h ts hs.2 (fun k hk=>hf k (by simp [ah,hk]))⟩
end
end
theorem bY {w:World} {X:Bool->Nat->Prop} (ts:List T):bC w X ts↔∀ t∈ts,bA w X t:=by
 induction ts with
 | nil=>simp [bC]
 | cons t ts ih=>simp [bC,ih]
theorem fW {w:World} {X:Bool->Nat->Prop} {ts:List T} (h:bC w X ts) {o:Nat} {t:T} (ho:ts[o]?=some t):bA w X t:=
 (bY ts).1 h t (aci ho)
theorem MM {w:World} {X:Bool->Nat->Prop} {ts:List T} (h:bC w X ts) (o:Nat) {t:T} (ht:bA w X t):bC w X (ts.set o t):=by
 rw [bY] at h ⊢;intro x hx;rcases ajx hx with hx | rfl
 ·exact h x hx
 ·exact ht
theorem dV {w:World} {X:Bool->Nat->Prop} (a b:List T):bC w X (a++b)↔bC w X a/\bC w X b:=by
 rw [bY,bY,bY];simp only [sE];exact ⟨fun h=>⟨fun t ht=>h t (.inl ht),fun t ht=>h t (.inr ht)⟩,fun h t ht=>ht.elim (h.1 t) (h.2 t)⟩
theorem vT {w:World} {X:Bool->Nat->Prop} {q:List Nat}:∀ {cs l:List T},bC w X cs->ay cs q=some l->bC w X l:=by
 induction q with
 | nil=>
  intro cs l h hc;simp only [ay,mN] at hc;exact hc▸h
 | cons p q ih=>
  intro cs l h hc;simp only [ay] at hc;cases hp:cs[p]? with
  | none=>simp [hp] at hc
  | some x=>
   cases x with
   | v d u=>simp [hp] at hc
   | own s n cap a xs=>
    simp only [hp] at hc;have:=fW h hp;simp only [bA] at this;exact ih this.2.2.2 hc
theorem aaq {w:World} {X:Bool->Nat->Prop} {o:Nat} {t t':T} (ht:bA w X t') (hv:t'.val=t.val) {q:List Nat}:∀ {cs cs' l:List T},bC w X cs->ay cs q=some l->l[o]?=some t->
  dG (fun l=>l.set o t') cs q=some cs'->bC w X cs'/\ax cs'=ax cs:=by
 induction q with
 | nil=>
  intro cs cs' l h hc ho hm;simp only [ay,mN] at hc;simp only [dG,mN] at hm;subst hc; subst hm;refine ⟨MM h o ht,?_⟩;rw [pO,hv];apply agk;intro j;by_cases hj:o=j
  ·subst hj;obtain ⟨hl,_⟩:=aaa.1 ho;rw [ac5 (by rw [bK]; exact hl),fh,ho]; rfl
  ·rw [acu hj]
 | cons p q ih=>
  intro cs cs' l h hc ho hm;refine ⟨?_,(mj hm).1⟩;simp only [ay] at hc;simp only [dG] at hm;cases hp:cs[p]? with
  | none=>simp [hp] at hc
  | some x=>
   cases x with
   | v d u=>simp [hp] at hc
   | own s n cap a xs=>
    simp only [hp] at hc hm;cases hx:dG (fun l=>l.set o t') xs q with
    | none=>simp [hx] at hm
    | some kt=>
     simp only [hx,mN] at hm;have hs:=fW h hp;simp only [bA] at hs;obtain ⟨h1,h2,h3,h4⟩:=hs;obtain ⟨h5,h6⟩:=ih h4 hc ho hx;have hl:kt.length=xs.length:=by have:=congrArg List.length h6; simpa [bK] using this
     rw [<- hm];refine MM h p ?_;simp only [bA];exact ⟨h1,by rw [hl]; exact h2,by rw [h6]; exact h3,h5⟩
def QI (w w':World) (b i:Nat) (u:Value):Prop:=
 ∃ c e fz,w.heap[b]?=some (.cells c e fz)/\w'.heap[b]?=some (.cells (c.setIfInBounds i u) e fz)/\∀ k,k≠b->w'.heap[k]?=w.heap[k]?
theorem QJ {w w':World} {b i:Nat} {u:Value} (hu:QI w w' b i u) {off fj o:Nat} {us:List Value} (hi:i=off+o) (hb:lx w b off fj us) (WM:us.length<=fj):lx w' b off fj (us.set o u):=by
 obtain ⟨c,e,fz,h1,h2,h3⟩:=hu;obtain ⟨c',e',fz',h4,h5,h6,h7⟩:=hb;rw [h4] at h1;simp only [mN,Obj.cells.injEq] at h1;obtain ⟨rfl,rfl,rfl⟩:=h1;refine ⟨_,e',fz',h2,by simpa using h5,by simpa using h6,fun j v hj=>?_⟩
 subst hi;by_cases I4:o=j
 ·subst I4;by_cases hl:o < us.length
  ·rw [ac5 hl] at hj;have cK:off+o < c'.size:=by omega
   rw [Array.getElem?_setIfInBounds_self_of_lt cK]; exact hj
  ·rw [ac3 (by simpa using hl)] at hj
   simp at hj
 ·rw [acu I4] at hj;rw [Array.getElem?_setIfInBounds_ne (by omega)]
  exact h7 j v hj
theorem GW {w w':World} {b k i:Nat} {u:Value} (hu:QI w w' b i u) (hk:k≠b) {off fj:Nat} {us:List Value} (hb:lx w k off fj us):lx w' k off fj us:=by
 obtain ⟨c,e,fz,h1,h2⟩:=hb;obtain ⟨_,_,_,_,_,h3⟩:=hu;exact ⟨c,e,fz,by rw [h3 k hk]; exact h1,h2⟩
theorem pC {q:List Nat}:∀ {cs:List T} {bx:Option Nat} {p b off:Nat},bN bx cs (p::q)=some (b,off)->b∈ah cs:=by
 induction q with
 | nil=>
  intro cs bx p b off h;simp only [bN] at h;cases hp:cs[p]? with
  | none=>simp [hp] at h
  | some x=>
   cases x with
   | v d u=>simp [hp] at h
   | own s n cap a xs=>
    simp only [hp] at h;obtain ⟨A,B,h1,_⟩:=dN cs p _ hp;rw [h1,T.ft,h]; simp [fC]
 | cons p' q ih=>
  intro cs bx p b off h;rw [bN] at h;cases hp:cs[p]? with
  | none=>simp [hp] at h
  | some x=>
   cases x with
   | v d u=>simp [hp] at h
   | own s n cap a xs=>
    simp only [hp] at h;obtain ⟨A,B,h1,_⟩:=dN cs p _ hp;have:=ih h;rw [h1,T.ft]; simp [this]
theorem aar {w w':World} {X X':Bool->Nat->Prop} {o b off:Nat} {t':T} (hX:∀ b k,X b k->X' b k/\w'.heap[k]?=w.heap[k]?) (ht:bA w' X' t') (hu:QI w w' b (off+o) t'.val) {q:List Nat}:
  ∀ {cs cs' l:List T} {bx:Option Nat} {p:Nat},bC w X cs->(ah cs).Nodup->ay cs (p::q)=some l->bN bx cs (p::q)=some (b,off)->o < l.length->
  dG (fun l=>l.set o t') cs (p::q)=some cs'->bC w' X' cs':=by
 have C3:∀ t:T,bA w X t->b∉t.ft->bA w' X' t:=fun t h hb=>dL hX t h (fun k hk=>by
  obtain ⟨_,_,_,_,_,h3⟩:=hu;exact h3 k (fun e=>hb (e▸hk)))
 induction q with
 | nil=>
  intro cs cs' l bx p h hn hc ha ho hm;simp only [ay,dG,bN] at hc hm ha;cases hp:cs[p]? with
  | none=>simp [hp] at hc
  | some x=>
   cases x with
   | v d u=>simp [hp] at hc
   | own s n cap a xs=>
    simp only [hp,mN] at hc hm ha;subst hc; subst ha; subst hm;obtain ⟨A,B,h1,h2⟩:=dN cs p _ hp;rw [h1] at hn;have hs:=fW h hp;simp only [bA] at hs;obtain ⟨h3,h4,h5,h6⟩:=hs;have Ex:(T.own s n cap (some (b,off)) xs).ft.Nodup:=((zX.1 (zX.1 hn).1).2.1);simp only [T.ft,fC,acE,acw,adW] at Ex;rw [bY];intro t cW;obtain ⟨j,hj⟩:=adA.1 cW;by_cases tL:p=j
    ·subst tL;rw [ac5 (aaa.1 hp).1,mN] at hj;subst hj;simp only [bA];refine ⟨h3,by simpa using h4,?_,?_⟩
     ·rw [pO];exact QJ hu rfl h5 (by rw [bK,h4]; exact adl _ h3.1)
     ·rw [bY];intro y hy;obtain ⟨i,hi⟩:=adA.1 hy;by_cases hio:o=i
      ·subst hio;rw [ac5 ho,mN] at hi;exact hi▸ht
      ·rw [acu hio] at hi;refine C3 y (fW h6 hi) (fun hb=>Ex.1 ?_);obtain ⟨A',B',e1,_⟩:=dN xs i _ hi;rw [e1]; simp [hb]
    ·rw [acu tL] at hj;refine C3 t (fW h hj) (fun hb=>?_);have:b∈(T.own s n cap (some (b,off)) xs).ft:=by simp [T.ft,fC]
     rcases Nat.lt_or_gt_of_ne tL with cK | cK
     ·have h7:=h2 (.v .undef undef);have Ey:(cs.set p (.v .undef undef))[j]?=some t:=by rw [acu tL]; exact hj
      obtain ⟨A',B',e1,_⟩:=dN _ j t Ey;have fD:b∈ah (cs.set p (.v .undef undef)):=by rw [e1]; simp [hb]
      rw [h7] at fD;simp only [T.ft,acg,sE] at fD;rw [zX,zX] at hn;rcases fD with fD | fD
      ·exact hn.1.2.2 b fD b this rfl
      ·exact hn.2.2 b (sE.2 (.inr this)) b fD rfl
     ·have h7:=h2 (.v .undef undef);have Ey:(cs.set p (.v .undef undef))[j]?=some t:=by rw [acu tL]; exact hj
      obtain ⟨A',B',e1,_⟩:=dN _ j t Ey;have fD:b∈ah (cs.set p (.v .undef undef)):=by rw [e1]; simp [hb]
      rw [h7] at fD;simp only [T.ft,acg,sE] at fD;rw [zX,zX] at hn;rcases fD with fD | fD
      ·exact hn.1.2.2 b fD b this rfl
      ·exact hn.2.2 b (sE.2 (.inr this)) b fD rfl
 | cons p' q ih=>
  intro cs cs' l bx p h hn hc ha ho hm;rw [ay] at hc;rw [dG] at hm;rw [bN] at ha;cases hp:cs[p]? with
  | none=>simp [hp] at hc
  | some x=>
   cases x with
   | v d u=>simp [hp] at hc
   | own s n cap a xs=>
    simp only [hp] at hc hm ha;cases hx:dG (fun l=>l.set o t') xs (p'::q) with
    | none=>simp [hx] at hm
    | some kt=>
     simp only [hx,mN] at hm;subst hm;obtain ⟨A,B,h1,h2⟩:=dN cs p _ hp;rw [h1] at hn;have hs:=fW h hp;simp only [bA] at hs;obtain ⟨h3,h4,h5,h6⟩:=hs;have Ex:(T.own s n cap a xs).ft.Nodup:=((zX.1 (zX.1 hn).1).2.1);have hb:=pC ha;have Zf:b∈(T.own s n cap a xs).ft:=by simp [T.ft,hb]
     simp only [T.ft] at Ex;have hnx:=(zX.1 Ex).2.1;obtain ⟨hv,hl⟩:=mj hx;have hsx:=ih h6 hnx hc ha ho hx;rw [bY];intro t cW;obtain ⟨j,hj⟩:=adA.1 cW;by_cases tL:p=j
     ·subst tL;rw [ac5 (aaa.1 hp).1,mN] at hj;subst hj;simp only [bA];refine ⟨h3,by rw [hl]; exact h4,?_,hsx⟩
      cases a with
      | none=>exact h5
      | some pa=>
       obtain ⟨b1,amo⟩:=pa;rw [hv];refine GW hu (fun e=>?_) h5;exact (zX.1 Ex).2.2 b1 (by simp [fC]) b hb e
     ·rw [acu tL] at hj;refine C3 t (fW h hj) (fun vU=>?_);have h7:=h2 (.v .undef undef);have Ey:(cs.set p (.v .undef undef))[j]?=some t:=by rw [acu tL]; exact hj
      obtain ⟨A',B',e1,_⟩:=dN _ j t Ey;have fD:b∈ah (cs.set p (.v .undef undef)):=by rw [e1]; simp [vU]
      rw [h7] at fD;simp only [T.ft,acg,sE] at fD;rw [zX,zX] at hn;rcases fD with fD | fD
      ·exact hn.1.2.2 b fD b Zf rfl
      ·exact hn.2.2 b (sE.2 (.inr Zf)) b fD rfl
inductive bZ {α β:Type} (R:α->β->Prop):List α->List β->Prop
 | nil:bZ R [] []
 | cons {a b as9 bs}:R a b->bZ R as9 bs->bZ R (a::as9) (b::bs)
def cr (S:List (Nat × RT)) (r:Nat) (q:List Nat) (o:Nat):Option T:=
 match lk S r with
 | some R=>match ay R.cs q with
  | some l=>l[o]?
  | none=>none
 | none=>none
def eL (x:Option (Nat × Nat)) (t:T) (u:Value):Prop:=
 match sn t.er with
 | some (s,n)=>match x with
  | none=>u=t.val
  | some (l,m)=>l+m<=n/\∃ base C k,t.val=.slice base n C/\k<=C/\u=.slice (base.map (·.add (k*s))) m (C - l)/\(C - l=0∨k=l)
 | none=>True
def bp (w:World) (X:Bool->Nat->Prop) (S:List (Nat × RT)):D->Value->Prop
 | .ref r q o x,u=>∀ t,cr S r q o=some t->eL x t u
 | .ptr r q o,u=>∀ R,lk S r=some R->(q=[]->R.box.isSome)/\∀ b off,bN R.box R.cs q=some (b,off)->u=.pointer (some ⟨b,off+o,none⟩)
 | .dK cs o,u=>∃ b off c e fz us,u=.pointer (some ⟨b,off+o,none⟩)/\X true b/\w.heap[b]?=some (.cells c e fz)/\fV w X cs us/\∀ j v,us[j]?=some v->c[off+j]?=some v
 | d,u=>Ext w X d u
def gp (w:World) (X:Bool->Nat->Prop) (S:List (Nat × RT)):D->Value->Prop
 | .agg cs,u=>∃ us,u=.agg us/\bZ (bp w X S) cs us.toList
 | .fn f cs,u=>∃ us,u=.func (.func f) #[] us/\bZ (bp w X S) cs us.toList
 | d,u=>bp w X S d u
def ck (w:World) (X:Bool->Nat->Prop) (S:List (Nat × RT)):D->Value->Prop
 | .aG ds,u=>∃ us,u=.tuple us/\bZ (gp w X S) ds us.toList
 | d,u=>gp w X S d u
def jg (w:World) (X:Bool->Nat->Prop) (S:List (Nat × RT)) (b:Bool):T->Prop
 | .v d u=>Ext w X (bH d) u∨(b=true/\bp w X S (bH d) u)
 | t=>bA w X t
def MN (w:World) (X:Bool->Nat->Prop) (S:List (Nat × RT)) (R:RT):Prop:=
 (match R.box with | some b=>lx w b 0 R.cs.length (ax R.cs) | none=>True)/\∀ t∈R.cs,jg w X S R.box.isSome t
structure Ctx where
 w0:World
 FA:List Nat
 Y:Nat->Prop
 P0:List (Nat × Option Nat × List Value)
def af (C:Ctx) (w:World) (S:List (Nat × RT)) (H:List T) (b:Bool) (k:Nat):Prop:=
 k < w.heap.size/\k∉cA S/\k∉ah H/\(b=false->C.Y k∨k∈C.FA∨C.w0.heap.size<=k)
structure Mem (C:Ctx) (w:World) (S:List (Nat × RT)) (H:List T):Prop where
 nd:(cA S++ah H).Nodup
 root:∀ r R,lk S r=some R->MN w (af C w S H) S R
 hand:bC w (af C w S H) H
 lt:∀ k∈cA S++ah H,k < w.heap.size
def mb (w:World) (X:Bool->Nat->Prop) (S:List (Nat × RT)) (tm:List (Nat × D)) (vs:Array Value):Prop:=
 ∀ t,ck w X S ((lk tm t).getD .undef) (vs.getD t undef)
structure Kept (C:Ctx) (w:World) (S:List (Nat × RT)) (H:List T):Prop where
 os:w.os=C.w0.os
 tape:w.tape=C.w0.tape
 output:w.output=C.w0.output
 size:C.w0.heap.size<=w.heap.size
 block:∀ k,k < C.w0.heap.size->k∉C.FA->w.heap[k]?=C.w0.heap[k]?
 iD:∀ k∈cA S++ah H,k∈C.FA∨C.w0.heap.size<=k
 par:∀ r b vs,(r,b,vs)∈C.P0->∀ R,lk S r=some R->R.box=b/\(b=none->ax R.cs=vs)
structure Rel (C:Ctx) (H:List T) (w:World) (st:St) (aJ:List (Array Value)) (S:List (Nat × RT)):Prop where
 rt:gC st.rt S
 mem:Mem C w S H
 ov:bZ (mb w (af C w S H) S) (st.tm::st.up) aJ
 kept:Kept C w S H
theorem GX (st:St) (S:List (Nat × RT)) (h:gC st.rt S) (r:Nat) (q:List Nat) (o:Nat):st.cell r q o=(cr S r q o).map T.er:=by
 unfold St.cell St.cells cr;rw [h];cases lk S r with
 | none=>rfl
 | some R=>
  simp only [MD,MK];cases ay R.cs q with
  | none=>rfl
  | some l=>simp [ir]
theorem uN (st:St) (S:List (Nat × RT)) (h:gC st.rt S) {r:Nat} {q:List Nat} {cs:List D} (hc:st.cells r q=some cs):∃ R l,lk S r=some R/\ay R.cs q=some l/\cs=aX l:=by
 unfold St.cells at hc;rw [h] at hc;cases hr:lk S r with
 | none=>simp [hr] at hc
 | some R=>
  simp only [hr,MD,MK] at hc;cases hl:ay R.cs q with
  | none=>simp [hl] at hc
  | some l=>
   simp only [hl,MD,mN] at hc;exact ⟨R,l,rfl,hl,hc.symm⟩
theorem iu {st:St} {S:List (Nat × RT)} (h:gC st.rt S) {r:Nat} {q:List Nat} {o:Nat} {d:D} (hc:st.cell r q o=some d):∃ R l t,lk S r=some R/\ay R.cs q=some l/\l[o]?=some t/\cr S r q o=some t/\d=t.er:=by
 rw [GX st S h] at hc;cases ht:cr S r q o with
 | none=>simp [ht] at hc
 | some t=>
  simp only [ht,MD,mN] at hc;unfold cr at ht;cases hr:lk S r with
  | none=>simp [hr] at ht
  | some R=>
   simp only [hr] at ht;cases hl:ay R.cs q with
   | none=>simp [hl] at ht
   | some l=>
    simp only [hl] at ht;exact ⟨R,l,t,rfl,hl,ht,rfl,hc.symm⟩
theorem bZ.len {α β:Type} {R:α->β->Prop} {as9:List α} {bs:List β} (h:bZ R as9 bs):as9.length=bs.length:=by
 induction h with
 | nil=>rfl
 | cons _ _ ih=>simp [ih]
theorem bZ.get {α β:Type} {R:α->β->Prop} {as9:List α} {bs:List β} (h:bZ R as9 bs):∀ {i:Nat} {a:α},as9[i]?=some a->∃ b,bs[i]?=some b/\R a b:=by
 induction h with
 | nil=>intro i a h; simp at h
 | cons h1 _ ih=>
  intro i a h;cases i with
  | zero=>simp only [acH,mN] at h; exact ⟨_,rfl,h▸h1⟩
  | succ i=>simp only [adn] at h ⊢; exact ih h
theorem bZ.mono {α β:Type} {R R':α->β->Prop} {as9:List α} {bs:List β} (h:bZ R as9 bs) (hr:∀ a b,R a b->R' a b):bZ R' as9 bs:=by
 induction h with
 | nil=>exact .nil
 | cons h1 _ ih=>exact .cons (hr _ _ h1) ih
theorem bZ.map {α α' β:Type} {R:α->β->Prop} {R':α'->β->Prop} {as9:List α} {bs:List β} (h:bZ R as9 bs) (f:α->α') (hr:∀ a b,R a b->R' (f a) b):bZ R' (as9.map f) bs:=by
 induction h with
 | nil=>exact .nil
 | cons h1 _ ih=>exact .cons (hr _ _ h1) ih
theorem bZ.app {α β:Type} {R:α->β->Prop} {as9 cm:List α} {bs Zg:List β} (h:bZ R as9 bs) (h':bZ R cm Zg):bZ R (as9++cm) (bs++Zg):=by
 induction h with
 | nil=>exact h'
 | cons h1 _ ih=>exact .cons h1 ih
theorem bZ.drop {α β:Type} {R:α->β->Prop} {as9:List α} {bs:List β} (h:bZ R as9 bs):∀ n,bZ R (as9.drop n) (bs.drop n):=by
 induction h with
 | nil=>intro n; simp; exact .nil
 | cons h1 h2 ih=>
  intro n;cases n with
  | zero=>exact .cons h1 h2
  | succ n=>simpa using ih n
theorem bZ.take {α β:Type} {R:α->β->Prop} {as9:List α} {bs:List β} (h:bZ R as9 bs):∀ n,bZ R (as9.take n) (bs.take n):=by
 induction h with
 | nil=>intro n; simp; exact .nil
 | cons h1 h2 ih=>
  intro n;cases n with
  | zero=>exact .nil
  | succ n=>exact .cons h1 (ih n)
theorem dk {α β:Type} {R:α->β->Prop}:∀ {as9:List α} {bs:List β},as9.length=bs.length->(∀ (i:Nat) a b,as9[i]?=some a->bs[i]?=some b->R a b)->bZ R as9 bs
 | [],[],_,_=>.nil
 | a::as9,b::bs,h,hr=>.cons (hr 0 a b rfl rfl) (dk (by simpa using h) (fun i a b ha hb=>hr (i+1) a b (by simpa using ha) (by simpa using hb)))
 | [],_::_,h,_=>by simp at h
 | _::_,[],h,_=>by simp at h
theorem gY {w:World} {X:Bool->Nat->Prop} (ds:List D):∀ us,fV w X ds us↔bZ (Ext w X) ds us:=by
 induction ds with
 | nil=>intro us; simp only [fV]; exact ⟨fun h=>h▸.nil,fun h=>by cases h; rfl⟩
 | cons d ds ih=>
  intro us;simp only [fV];constructor
  ·rintro ⟨v,vs,rfl,h1,h2⟩;exact .cons h1 ((ih vs).1 h2)
  ·intro h;cases h with
   | cons h1 h2=>exact ⟨_,_,rfl,h1,(ih _).2 h2⟩
theorem fq {w:World} {X:Bool->Nat->Prop} {S:List (Nat × RT)}:∀ {d:D} {u:Value},Ext w X d u->bp w X S d u
 | .int ..,_,h=>h
 | .bool ..,_,h=>h
 | .str ..,_,h=>h
 | .nil ..,_,h=>h
 | .undef,_,h=>h
 | .hole ..,_,h=>h
 | .sl ..,_,h=>h
 | .ref ..,_,h=>by simp [Ext] at h
 | .agg ..,_,h=>by simp [Ext] at h
 | .aG ..,_,h=>by simp [Ext] at h
 | .fn ..,_,h=>by simp [Ext] at h
 | .ptr ..,_,h=>by simp [Ext] at h
 | .dK ..,_,h=>by simp [Ext] at h
 | .aW ..,_,h=>by simp [Ext] at h
theorem ew {w:World} {X:Bool->Nat->Prop} {S:List (Nat × RT)} {d:D} {u:Value} (h:bp w X S d u):gp w X S d u:=by
 cases d<;>first | exact h | (simp [bp,Ext] at h)
theorem ky {w:World} {X:Bool->Nat->Prop} {S:List (Nat × RT)} {d:D} {u:Value} (h:gp w X S d u):ck w X S d u:=by
 cases d<;>first | exact h | (simp [gp,bp,Ext] at h)
theorem mm {w:World} {X:Bool->Nat->Prop} {S:List (Nat × RT)} {d:D} {u:Value} (h:bp w X S d u):ck w X S d u:=ky (ew h)
theorem Ez {w:World} {X:Bool->Nat->Prop} {S:List (Nat × RT)} {d:D} {u:Value} (h:Ext w X d u):ck w X S d u:=mm (fq h)
theorem mc {w:World} {X:Bool->Nat->Prop} {S:List (Nat × RT)} (u:Value):ck w X S .undef u:=Ez (by simp [Ext])
theorem WN (vs:Array Value) (d t:Nat) (v:Value):(vs.setIfInBounds d v).getD t undef=if d=t/\d < vs.size then v else vs.getD t undef:=by
 rw [adm,adm,agz];by_cases h:d=t
 ·subst h;by_cases hd:d < vs.size
  ·simp [hd]
  ·simp [hd]
 ·simp [h]
theorem mb.put {w:World} {X:Bool->Nat->Prop} {S:List (Nat × RT)} {tm:List (Nat × D)} {vs:Array Value} (h:mb w X S tm vs) {t:Nat} (ht:t < vs.size) {d:D} {v:Value} (hv:ck w X S d v):mb w X S (pz tm t d) (vs.setIfInBounds t v):=by
 intro i;rw [WN];by_cases hi:t=i
 ·subst hi;rw [gK]; simpa [ht] using hv
 ·rw [pB _ _ (agU hi)]; simpa [hi] using h i
def QK (d:D) (u:Value):Prop:=∀ w X,Ext w X d u
def WO:TypeDesc->Bool
 | .struct _ | .array _ _=>true
 | _=>false
def ly (P:Program):Ty->TypeDesc->Prop
 | .int k,d=>d=.int k
 | .bool,d=>d=.bool
 | .str,d=>d=.string
 | .slice e,d=>d=.slice e
 | .array n e,d=>d=.array n e
 | .struct lN szs,d=>∃ fs,d=.struct fs/\lN=fs.toList.map (·.offset)/\szs.length=fs.toList.length/\∀ (j:Nat) (f:Field),fs.toList[j]?=some f->∃ i,P.info? f.type=some i/\i.size≠0/\szs[j]?=some i.size
 | .ptr e,d=>d=.pointer e
 | .fn,d=>WO d=false
 | .other,d=>WO d=false
structure C4 (P:Program) (t:TypeId) (ti:TI):Prop where
 info:∃ i,P.info? t=some i/\i.size=ti.size/\i.bytes=ti.bytes/\∃ z,i.zero=some z/\bZ QK ti.zero z.cells.toList
 desc:∃ d,P.underlying t=some d/\ly P ti.ty d
 len:ti.zero.length=ti.size
structure ey (c:cn) (P:Program):Prop where
 ty:∀ t ti,c.ty t=some ti->C4 P t ti
section
variable {P:Program} {w:World}
theorem TS {t:TypeId} {i:TypeInfo} (h:P.info? t=some i) (w:World):(typeInfo t).run P w=.ok i w:=by simp [typeInfo,h]
theorem TT {t:TypeId} {i:TypeInfo} (h:P.info? t=some i) (w:World):(Go.sizeOf t).run P w=Result.ok i.size w:=by
 simp [Go.sizeOf,TS h]
theorem C5 {t:TypeId} {i:TypeInfo} {z:Value} (h:P.info? t=some i) (hz:i.zero=some z) (w:World):(zeroValue t).run P w=.ok z w:=by
 simp [zeroValue,TS h,hz]
theorem C4.sz {t:TypeId} {ti:TI} (h:C4 P t ti) (w:World):(Go.sizeOf t).run P w=Result.ok ti.size w:=by
 obtain ⟨i,h1,h2,_⟩:=h.info;rw [TT h1,h2]
theorem aas {ty:Ty} {d:TypeDesc} (h:ly P ty d):WO d=kj ty:=by
 cases ty<;>simp only [ly] at h<;>first | (subst h; rfl) | (obtain ⟨fs,rfl,_⟩:=h; rfl) | (rw [h]; rfl)
theorem C4.agg {t:TypeId} {ti:TI} (h:C4 P t ti) (w:World):(isAgg t).run P w=.ok (kj ti.ty) w:=by
 obtain ⟨d,h1,h2⟩:=h.desc;simp only [isAgg,Sem.run_bind,run_underlying h1,Result.andThen_ok];rw [<- aas h2];cases d<;>rfl
end
section
variable {P:Program} {o:Oper} {a:Act} {w:World} {K:Act->World->Prop} {Q:Exit->Act->World->Prop}
theorem nu {v:Value} {w':World} (h:(execOp a.eval o).run P w=.ok (.value v) w') (hk:K (a.put o.dst v) w'):o.wp P a w K Q:=by
 unfold Oper.wp; rw [h]; exact hk
theorem RK {w':World} (h:(execOp a.eval o).run P w=.ok .skip w') (hk:K (a.put o.dst undef) w'):o.wp P a w K Q:=by
 unfold Oper.wp; rw [h]; exact hk
end
theorem eS (b off k:Nat):(⟨b,off,none⟩:Addr).add k=⟨b,off+k,none⟩:=by
 unfold Addr.add; split
 ·rename_i h; subst h; rfl
 ·rfl
theorem mo {w:World} {b off fj:Nat} {us:List Value} (h:lx w b off fj us) {j:Nat} {u:Value} (hj:us[j]?=some u):w.cell? ⟨b,off+j,none⟩=some u:=by
 obtain ⟨c,e,fz,h1,_,_,h4⟩:=h;simp [World.cell?,h1,h4 j u hj]
theorem EA {w:World} {b off fj:Nat} {us:List Value} (h:lx w b off fj us) {j:Nat} (hj:j < fj):w.frozen? ⟨b,off+j,none⟩=false:=by
 obtain ⟨c,e,fz,h1,h2,h3,_⟩:=h;have:=h2 (off+j) (by omega)
 simp only [World.frozen?,h1]
 simpa using this
theorem EB {w:World} {b off fj:Nat} {us:List Value} (h:lx w b off fj us) {j:Nat} (hj:j < fj):∃ u,w.cell? ⟨b,off+j,none⟩=some u:=by
 obtain ⟨c,e,fz,h1,_,h3,_⟩:=h;have:off+j < c.size:=by omega
 exact ⟨c[off+j],by simp [World.cell?,h1,this]⟩
theorem WQ {w:World} {X:Bool->Nat->Prop} {q:List Nat}:∀ {s n cap:Nat} {a:Option (Nat × Nat)} {xs l:List T},bA w X (.own s n cap a xs)->ay xs q=some l->l≠[]->
  ∃ b off fj,(match q with | []=>a | _=>bN none xs q)=some (b,off)/\lx w b off fj (ax l)/\l.length<=fj/\bC w X l:=by
 induction q with
 | nil=>
  intro s n cap a xs l h hc hl;simp only [ay,mN] at hc;subst hc;simp only [bA] at h;obtain ⟨h1,h2,h3,h4⟩:=h;cases a with
  | none=>
   have:xs.length=0:=by rw [h2,h3.1]; simp
   exact absurd (ac9.1 this) hl
  | some p=>exact ⟨p.1,p.2,_,rfl,h3,by rw [h2]; exact adl _ h1.1,h4⟩
 | cons p q ih=>
  intro s n cap a xs l h hc hl;simp only [bA] at h;rw [ay] at hc;cases hp:xs[p]? with
  | none=>simp [hp] at hc
  | some x=>
   cases x with
   | v d u=>simp [hp] at hc
   | own s' n' cap' a' kt=>
    simp only [hp] at hc;obtain ⟨b,off,fj,h5,h6⟩:=ih (fW h.2.2.2 hp) hc hl;exact ⟨b,off,fj,by simp only [bN,hp]; exact h5,h6⟩
theorem qp {C:Ctx} {w:World} {S:List (Nat × RT)} {H:List T} (hm:Mem C w S H) {r:Nat} {R:RT} {q:List Nat} {l:List T} (hr:lk S r=some R) (hc:ay R.cs q=some l) (hl:l≠[]) (hb:q=[]->R.box.isSome=true):
  ∃ b off fj,bN R.box R.cs q=some (b,off)/\lx w b off fj (ax l)/\l.length<=fj/\(q≠[]->bC w (af C w S H) l):=by
 obtain ⟨h1,h2⟩:=hm.root r R hr;cases q with
 | nil=>
  simp only [ay,mN] at hc;subst hc;have hb:=hb rfl;cases hx:R.box with
  | none=>simp [hx] at hb
  | some b=>exact ⟨b,0,_,by simp [bN],by simpa [hx] using h1,acD _,fun h=>absurd rfl h⟩
 | cons p q=>
  rw [ay] at hc;cases hp:R.cs[p]? with
  | none=>simp [hp] at hc
  | some x=>
   cases x with
   | v d u=>simp [hp] at hc
   | own s n cap a xs=>
    simp only [hp] at hc;have hs:bA w (af C w S H) (.own s n cap a xs):=h2 _ (aci hp);obtain ⟨b,off,fj,h3,h4,h5,h6⟩:=WQ hs hc hl;exact ⟨b,off,fj,by simp only [bN,hp]; exact h3,h4,h5,fun _=>h6⟩
theorem C6 {q:List Nat}:∀ {cs l:List T} {bx:Option Nat} {o s n cap:Nat} {a:Option (Nat × Nat)} {xs:List T},ay cs q=some l->l[o]?=some (.own s n cap a xs)->bN bx cs (q++[o])=a/\ay cs (q++[o])=some xs:=by
 induction q with
 | nil=>
  intro cs l bx o s n cap a xs hc ho;simp only [ay,mN] at hc;subst hc;simp [bN,ay,ho]
 | cons p q ih=>
  intro cs l bx o s n cap a xs hc ho;rw [ay] at hc;cases hp:cs[p]? with
  | none=>simp [hp] at hc
  | some x=>
   cases x with
   | v d u=>simp [hp] at hc
   | own s' n' cap' a' kt=>
    simp only [hp] at hc;obtain ⟨h1,h2⟩:=ih (bx:=none) hc ho;refine ⟨?_,by simp only [acE,ay,hp]; exact h2⟩
    rw [acE,bN];simp only [hp];cases hq:q++[o] with
    | nil=>simp at hq
    | cons y ys=>rw [hq] at h1; exact h1
theorem C7 {S:List (Nat × RT)} {r:Nat} {R:RT} {q:List Nat} {l:List T} {o:Nat} (hr:lk S r=some R) (hc:ay R.cs q=some l):cr S r q o=l[o]?:=by
 simp [cr,hr,hc]
theorem pP {C:Ctx} {w:World} {S:List (Nat × RT)} {H:List T} (hm:Mem C w S H) {r:Nat} {R:RT} {q:List Nat} {l:List T} {o:Nat} {t:T} (hr:lk S r=some R) (hc:ay R.cs q=some l) (ho:l[o]?=some t):
  bp w (af C w S H) S (gA r q o t.er) t.val:=by
 cases t with
 | own s n cap a xs=>
  simp only [T.er,gA,bp];intro t' oT;rw [C7 hr hc,ho,mN] at oT;subst oT;simp [eL,sn,T.er]
 | v d u=>
  have hv:gA r q o (T.v d u).er=bH d:=by
   simp only [T.er];cases d<;>simp [bH,gA]
   rename_i g _ _ _;cases g<;>simp [bH,gA]
  rw [hv];obtain ⟨_,h2⟩:=hm.root r R hr;cases q with
  | nil=>
   simp only [ay,mN] at hc;subst hc;rcases h2 _ (aci ho) with h3 | ⟨_,h3⟩
   ·exact fq h3
   ·exact h3
  | cons p q=>
   rw [ay] at hc;cases hp:R.cs[p]? with
   | none=>simp [hp] at hc
   | some x=>
    cases x with
    | v d u=>simp [hp] at hc
    | own s n cap a xs=>
     simp only [hp] at hc;have hs:bA w (af C w S H) (.own s n cap a xs):=h2 _ (aci hp);simp only [bA] at hs;have:=fW (vT hs.2.2.2 hc) ho;simp only [bA] at this;exact fq this
theorem nv (r:Nat) (q:List Nat):∀ (cs:List D) (o i:Nat),(lC r q o cs)[i]?=(cs[i]?).map (gA r q (o+i))
 | [],o,i=>by simp [lC]
 | d::ds,o,0=>by simp [lC]
 | d::ds,o,i+1=>by
  simp only [lC,adn,nv r q ds (o+1) i]
  congr 1
  rw [show o+1+i=o+(i+1) by omega]
theorem pQ (r:Nat) (q:List Nat):∀ (cs:List D) (o:Nat),(lC r q o cs).length=cs.length
 | [],o=>rfl
 | d::ds,o=>by simp [lC,pQ r q ds (o+1)]
def dH (w w2:World):Prop:=∀ k,k < w.heap.size->w2.heap[k]?=w.heap[k]?
theorem dH.refl (w:World):dH w w:=fun _ _=>rfl
theorem dH.trans {w w2 w3:World} (h:dH w w2) (h':dH w2 w3):dH w w3:=fun k hk=>by
 have h1:=h k hk;have EC:k < w2.heap.size:=by
  rcases Nat.lt_or_ge k w2.heap.size with h2 | h2
  ·exact h2
  ·rw [agr h2,agu hk] at h1;simp at h1
 rw [h' k EC,h1]
theorem dH.cell {w w2:World} (h:dH w w2) {A:Addr} {v:Value} (hc:w.cell? A=some v):w2.cell? A=some v:=by
 have hk:A.block < w.heap.size:=by
  rcases Nat.lt_or_ge A.block w.heap.size with h2 | h2
  ·exact h2
  ·simp [World.cell?,agr h2] at hc
 rw [<- hc];unfold World.cell?;rw [h _ hk]
def Aa (u:Value) (w w2:World):Prop:=∀ B,u=.pointer (some B)->∀ A v,A.block=B.block->w.cell? A=some v->w2.cell? A=some v
theorem dH.ahd {w w2:World} (h:dH w w2) (u:Value):Aa u w w2:=fun _ _ _ _ _ hc=>h.cell hc
theorem Aa.refl (u:Value) (w:World):Aa u w w:=fun _ _ _ _ _ h=>h
theorem GY {u:Value} {w w2:World} {b:Nat} (hb:∀ B,u=.pointer (some B)->B.block=b) (h:w2.heap[b]?=w.heap[b]?):Aa u w w2:=fun B hB A v hA hc=>by
 have e:A.block=b:=hA.trans (hb B hB);rw [<- hc];unfold World.cell?;rw [e,h]
theorem GZ {P:Program} {c:cn} (aw:ey c P) {C:Ctx} {Hx:List T} {w:World} {S:List (Nat × RT)} {st:St} (gf:gC st.rt S) (hm:Mem C w S Hx) {t:TypeId} {ti:TI} (ht:c.ty t=some ti) {d d':D} {u:Value} (hd:ck w (af C w S Hx) S d u) (h:qn st (kj ti.ty) ti.size d=some d'):
  ∃ v,(∀ w2,Aa u w w2->(Instr.loadAt t u).run P w2=.ok v w2)/\ck w (af C w S Hx) S d' v:=by
 have lO:=aw.ty t ti ht;cases d with
 | ptr r q o=>
  simp only [qn] at h;cases ec:st.cells r q with
  | none=>simp [ec] at h
  | some cs=>
   simp only [ec] at h;obtain ⟨R,l,hr,hl,rfl⟩:=uN st S gf ec;have hp:=hd R hr;cases ez:kj ti.ty with
   | true=>
    simp only [ez,if_true] at h;split at h
    case isFalse=>simp at h
    rename_i hle;obtain ⟨hz,hle⟩:=hle;simp only [mN] at h;subst h;rw [fm] at hle
    ·have cQ:l≠[]:=by intro e; subst e; simp at hle; omega
     obtain ⟨b,off,fj,h1,h2,h3,_⟩:=qp hm hr hl cQ hp.1;have hu:=hp.2 b off h1;subst hu;refine ⟨.agg ((ax l).drop o |>.take ti.size).toArray,?_,?_⟩
     ·intro w2 nw;simp only [Instr.loadAt,Instr.sureAddr,loadVar,Sem.run_bind,Sem.run_pure,Result.andThen_ok,lO.agg,ez,if_true,lO.sz];have hlen:((ax l).drop o |>.take ti.size).length=ti.size:=by simp [bK]; omega
      have:=run_loadCells_list (P:=P) w2 ⟨b,off+o,none⟩ ((ax l).drop o |>.take ti.size) (fun j v hj=>by
       rw [eS,adJ];refine nw _ rfl _ _ rfl (mo h2 ?_);rw [ael] at hj;split at hj
       ·rw [aen] at hj; exact hj
       ·simp at hj)
      rw [hlen] at this;simp [this]
     ·refine ⟨_,rfl,dk ?_ ?_⟩
      ·simp [pQ,fm,bK]
      ·intro i d1 v1 hi hv;rw [nv,vR,vS,ir] at hi;simp only [ael] at hv hi;split at hv
       ·rename_i cK;rw [if_pos cK,aen] at hi;rw [aen,fh] at hv;cases hx:l[o+i]? with
        | none=>simp [hx] at hi
        | some t'=>
         simp only [hx,MD,mN] at hi hv;subst hi; subst hv;exact pP hm hr hl hx
       ·simp at hv
   | false=>
    simp only [ez,acq,if_false] at h;rw [ir] at h;cases hx:l[o]? with
    | none=>simp [hx] at h
    | some t'=>
     simp only [hx,MD,mN] at h;subst h;have cQ:l≠[]:=by intro e; subst e; simp at hx
     obtain ⟨b,off,fj,h1,h2,h3,_⟩:=qp hm hr hl cQ hp.1;have hu:=hp.2 b off h1;subst hu;refine ⟨t'.val,?_,mm (pP hm hr hl hx)⟩;intro w2 nw;simp only [Instr.loadAt,Instr.sureAddr,loadVar,Sem.run_bind,Sem.run_pure,Result.andThen_ok,lO.agg,ez,acq,if_false];have cB:w2.cell? ⟨b,off+o,none⟩=some t'.val:=nw _ rfl _ _ rfl (mo h2 (by rw [fh,hx]; rfl))
     simp [cB]
 | dK cs o=>
  obtain ⟨b,off,cc,e,fz,us,rfl,hXb,fo,MO,oU⟩:=hd;simp only [qn] at h;have dM:=(gY cs us).1 MO;cases ez:kj ti.ty with
  | true=>
   simp only [ez,if_true] at h;split at h
   case isFalse=>simp at h
   rename_i hle;obtain ⟨hz,hle⟩:=hle;simp only [mN] at h;subst h;refine ⟨.agg ((us.drop o).take ti.size).toArray,?_,?_⟩
   ·intro w2 nw;simp only [Instr.loadAt,Instr.sureAddr,loadVar,Sem.run_bind,Sem.run_pure,Result.andThen_ok,lO.agg,ez,if_true,lO.sz];have hlen:((us.drop o).take ti.size).length=ti.size:=by have:=dM.len; simp; omega
    have:=run_loadCells_list (P:=P) w2 ⟨b,off+o,none⟩ ((us.drop o).take ti.size) (fun j v hj=>by
     rw [eS];refine nw _ rfl _ _ rfl ?_;rw [ael] at hj;split at hj
     ·rw [aen] at hj;simp [World.cell?,fo,adJ,oU _ _ hj]
     ·simp at hj)
    rw [hlen] at this;simp [this]
   ·exact ⟨_,rfl,by simpa using ((dM.drop o).take ti.size).mono (fun _ _ h=>fq h)⟩
  | false=>
   simp only [ez,acq,if_false] at h;obtain ⟨u,hu,he⟩:=dM.get h;refine ⟨u,?_,Ez he⟩;intro w2 nw;simp only [Instr.loadAt,Instr.sureAddr,loadVar,Sem.run_bind,Sem.run_pure,Result.andThen_ok,lO.agg,ez,acq,if_false];have cB:w.cell? ⟨b,off+o,none⟩=some u:=by simp [World.cell?,fo,oU _ _ hu]
   have cB:=nw _ rfl _ _ rfl cB;simp [cB]
 | _=>simp [qn] at h
section
variable {w:World} {X:Bool->Nat->Prop} {S:List (Nat × RT)}
theorem gw {k:IntKind} {n:Int} {u:Value} (h:ck w X S (.int k n) u):u=.int k n:=h
theorem w6 {b:Bool} {u:Value} (h:ck w X S (.bool b) u):u=.bool b:=h
theorem Ab {s:ByteArray} {u:Value} (h:ck w X S (.str s) u):u=.string s:=h
theorem TU {s:Nat} {u:Value} (h:ck w X S (.nil s) u):u=.slice none 0 0:=h
theorem TV (k:IntKind) (n:Int):ck w X S (.int k n) (.int k n):=rfl
theorem tvs (s:ByteArray):ck w X S (.str s) (.string s):=rfl
end
theorem vV {c:cn} {w:World} {X:Bool->Nat->Prop} {S:List (Nat × RT)} {st:St} {a:Act} (h:mb w X S st.tm a.tmps) (t:TypeId) (x:Operand):ck w X S (ch c st t x) (a.eval x):=by
 cases x with
 | tmp i=>exact h i
 | const v=>
  simp only [ch,Act.eval];cases v<;>try exact mc _
  all_goals first | rfl | skip
  rename_i b n cap;simp only [BA];split<;>first | exact mc _ | (rename_i e; first | cases e | skip)
  all_goals first | rfl | exact mc _ | skip
 | func f=>exact ⟨#[],rfl,.nil⟩
 | global g=>exact mc _
section
variable {P:Program} {w:World} {X:Bool->Nat->Prop} {S:List (Nat × RT)}
theorem ED (op:BinOp) (t:TypeId) (x y:Operand) (k k':IntKind) (a b:Int):(eqGuard op t x y (.int k a) (.int k' b)).run P w=.ok () w:=by
 unfold eqGuard; split<;>rfl
theorem EE (op:BinOp) (t:TypeId) (x y:Operand) (a b:ByteArray):(eqGuard op t x y (.string a) (.string b)).run P w=.ok () w:=by
 unfold eqGuard; split<;>rfl
theorem C8 (op:BinOp) (t:TypeId) (x y:Operand) (a b:Bool):(eqGuard op t x y (.bool a) (.bool b)).run P w=.ok () w:=by
 unfold eqGuard; split<;>rfl
theorem run_equal_bool {t:TypeId} (h:P.underlying t=some .bool) (a b:Bool):(Op.equal t (.bool a) (.bool b)).run P w=.ok (a==b) w:=by
 have:Op.equal t (.bool a) (.bool b)=Op.equalIn (9999+1) t (.bool a) (.bool b):=rfl;rw [this,Op.equalIn,Sem.run_bind,run_underlying h];rfl
theorem TW {c:cn} (aw:ey c P) {op:BinOp} {t:TypeId} {x y:Operand} {dx dy d:D} {u v:Value} (hx:ck w X S dx u) (hy:ck w X S dy v) (h:rC c t op dx dy=some d):
    ∃ r,(∀ w:World,(do eqGuard op t x y u v; binOp op t u v:Sem Value).run P w=.ok r w)/\ck w X S d r:=by
  cases dx with
  | int k a=>
    cases dy with
    | int k' b=>
      have h1:=gw hx; have h2:=gw hy;subst h1; subst h2;simp only [Sem.run_bind,ED,Result.andThen_ok];cases op<;>simp only [rC] at h
      case shl=>
        simp only [uC] at h;split at h
        · simp at h
        · rename_i hb
          simp only [mN] at h;exact ⟨_,by intro w; simp [binOp,Op.shift,hb]; rfl,by subst h; rfl⟩
      case shr=>
        simp only [uC] at h;split at h
        · simp at h
        · rename_i hb
          simp only [mN] at h;exact ⟨_,by intro w; simp [binOp,Op.shift,hb]; rfl,by subst h; rfl⟩
      case quo | rem=>
        split at h
        case isFalse=>simp at h
        rename_i hk;subst hk;simp only [zY] at h;split at h
        · simp at h
        · rename_i hb
          simp only [mN] at h;exact ⟨_,by intro w; simp [binOp,Op.intDiv,hb]; rfl,by subst h; rfl⟩
      all_goals
        split at h
        case isFalse=>simp at h
        rename_i hk;subst hk;simp only [zY] at h
      all_goals
        first
        | (simp at h; done)
        | (simp only [mN] at h
           exact ⟨_,by intro w; simp [binOp,Op.intArith,Op.intBits,Op.intCmp]; rfl,by subst h; rfl⟩)
    | _=>simp [rC] at h
  | str a=>
    cases dy with
    | str b=>
      have h1:=Ab hx; have h2:=Ab hy;subst h1; subst h2;simp only [Sem.run_bind,EE,Result.andThen_ok];simp only [rC] at h;cases op<;>simp only [MF] at h
      case add=>
        split at h
        case isFalse=>simp at h
        rename_i hs;simp only [mN] at h;have ri:¬ (((a.size+b.size:Nat):Int)>IntKind.i64.max):=by
          have:IntKind.i64.max=9223372036854775807:=by decide
          rw [this]; omega
        exact ⟨.string (a++b),by intro w; simp only [binOp,Op.stringOp]; rw [if_neg ri]; rfl,by subst h; rfl⟩
      all_goals
        first
        | (simp at h; done)
        | (simp only [mN] at h
           exact ⟨_,by intro w; simp [binOp,Op.stringOp]; rfl,by subst h; rfl⟩)
    | _=>simp [rC] at h
  | bool a=>
    cases dy with
    | bool b=>
      have h1:=w6 hx; have h2:=w6 hy;subst h1; subst h2;simp only [Sem.run_bind,C8,Result.andThen_ok];simp only [rC] at h;split at h
      case h_2=>simp at h
      rename_i lO;obtain ⟨dd,h3,h4⟩:=(aw.ty t _ lO).desc;simp only [ly] at h4;subst h4;cases op<;>simp only [GS] at h
      all_goals
        first
        | (simp at h; done)
        | (simp only [mN] at h
           exact ⟨_,by intro w; simp only [binOp,Sem.run_bind,run_equal_bool h3,Result.andThen_ok,Sem.run_pure]; rfl,by subst h; rfl⟩)
    | _=>simp [rC] at h
  | _=>simp [rC] at h
theorem Zh {op:UnOp} {dx d:D} {u:Value} (hx:ck w X S dx u) (h:Ze op dx=some d):∃ r,(∀ w:World,(Op.unary op u).run P w=.ok r w)/\ck w X S d r:=by
 cases op<;>cases dx<;>simp only [Ze] at h<;>first | (simp at h; done) | skip
 ·have:=gw hx;subst this;simp only [mN] at h;exact ⟨_,by intro w; simp [Op.unary,Op.intArith]; rfl,by subst h; simp [ck,gp,bp,Ext]⟩
 ·have:=w6 hx;subst this;simp only [mN] at h;exact ⟨_,by intro w; simp [Op.unary]; rfl,by subst h; rfl⟩
theorem EF {ds:List D} {d:D} {u:Value} {i:Nat} (hx:ck w X S (.aG ds) u) (h:ds[i]?=some d):∃ r,(∀ w:World,(Instr.extract u i).run P w=.ok r w)/\ck w X S d r:=by
 obtain ⟨us,rfl,ha⟩:=hx;obtain ⟨r,hr,ht⟩:=ha.get h;have eF:us[i]?=some r:=by simpa using hr
 exact ⟨r,by intro w; simp [Instr.extract,eF],ky ht⟩
end
theorem rH {C:Ctx} {Hx:List T} {w:World} {S:List (Nat × RT)} {st:St} (gf:gC st.rt S) (hm:Mem C w S Hx) {r:Nat} {q:List Nat} (h:live st r q=true) {i:Nat} {u:Value} (hu:ck w (af C w S Hx) S (.ptr r q i) u):
  ∃ R b off,lk S r=some R/\bN R.box R.cs q=some (b,off)/\u=.pointer (some ⟨b,off+i,none⟩):=by
 unfold live at h;split at h
 case h_2=>simp at h
 rename_i x xs ec;obtain ⟨R,l,hr,hl,he⟩:=uN st S gf ec;have hp:=hu R hr;obtain ⟨b,off,fj,h1,_⟩:=qp hm hr hl (by rintro rfl; simp [aX] at he) hp.1
 exact ⟨R,b,off,hr,h1,hp.2 b off h1⟩
theorem TX {w:World} {X:Bool->Nat->Prop} {S:List (Nat × RT)} {r:Nat} {q:List Nat} {i j:Nat} {u:Value} {R:RT} {b off:Nat} (hu:ck w X S (.ptr r q i) u) (hr:lk S r=some R) (ha:bN R.box R.cs q=some (b,off)):ck w X S (.ptr r q j) (.pointer (some ⟨b,off+j,none⟩)):=by
 intro R' dO;refine ⟨(hu R' dO).1,fun b' off' eA=>?_⟩;rw [hr,mN] at dO;subst dO;rw [ha,mN,sF] at eA;obtain ⟨rfl,rfl⟩:=eA;rfl
section
variable {P:Program} {c:cn} (aw:ey c P) {w:World} {C:Ctx} {Hx:List T} {S:List (Nat × RT)} {st:St} (gf:gC st.rt S) (hm:Mem C w S Hx)
include aw gf hm
theorem Ac {s:TypeId} {lN szs:List Nat} {sz pR:Nat} {z:List D} {f k:Nat} {d d':D} {u:Value} (ht:c.ty s=some ⟨.struct lN szs,sz,pR,z⟩) (hk:lN[f]?=some k) (hd:ck w (af C w S Hx) S d u)
  (h:wY st k d=some d'):∃ r,(∀ w:World,(Instr.fieldAt s u f).run P w=.ok r w)/\ck w (af C w S Hx) S d' r:=by
 have lO:=aw.ty s _ ht;obtain ⟨dd,h1,h2⟩:=lO.desc;obtain ⟨fs,rfl,h3,_,h4⟩:=h2;have hf:∃ fl,fs[f]?=some fl/\fl.offset=k:=by
  rw [h3] at hk;simp only [adp] at hk;cases hx:fs.toList[f]? with
  | none=>simp [hx] at hk
  | some fl=>simp only [hx,MD,mN] at hk; exact ⟨fl,by simpa using hx,hk⟩
 obtain ⟨fl,hfl,rfl⟩:=hf;obtain ⟨inf,hi,hz,_⟩:=h4 f fl (by simpa using hfl)
 have key:∀ (A:Addr) (w:World),(Instr.fieldAt s (.pointer (some A)) f).run P w=.ok (.pointer (some (A.add fl.offset))) w:=fun A w=>by
  simp [Instr.fieldAt,run_underlying h1,hfl,Instr.sureAddr,fieldPlace,TT hi,hz]
 cases d with
 | ptr r q i=>
  simp only [wY] at h;split at h
  case isFalse=>simp at h
  rename_i hl;simp only [mN] at h;subst h;obtain ⟨R,b,off,hR,ha,rfl⟩:=rH gf hm hl hd;refine ⟨_,key _,?_⟩;rw [eS,adJ];exact TX hd hR ha
 | dK cs i=>
  simp only [wY,mN] at h;subst h;obtain ⟨b,off,cc,e,fz,us,rfl,h5⟩:=hd;exact ⟨_,key _,b,off,cc,e,fz,us,by rw [eS,adJ],h5⟩
 | _=>simp [wY] at h
omit aw in
theorem so {d d':D} {u:Value} (hd:ck w (af C w S Hx) S d u) (h:(match d with | .ptr r q i=>if live st r q then some (.ptr r q i) else none | .dK cs i=>some (.dK cs i) | _=>none:Option D)=some d'):
  ∃ A,u=.pointer (some A)/\d'=d:=by
 cases d with
 | ptr r q i=>
  simp only at h;split at h
  case isFalse=>simp at h
  rename_i hl;obtain ⟨R,b,off,hR,ha,rfl⟩:=rH gf hm hl hd;exact ⟨_,rfl,(agl h).symm⟩
 | dK cs i=>
  obtain ⟨b,off,cc,e,fz,us,rfl,h5⟩:=hd;exact ⟨_,rfl,(agl h).symm⟩
 | _=>simp at h
end
section
variable {P:Program} {C:Ctx} {w:World} {S:List (Nat × RT)} {st:St} {H:List T}
theorem qq (hm:Mem C w S H) {r:Nat} {R:RT} {q:List Nat} {l:List T} {o:Nat} {t:T} (hr:lk S r=some R) (hc:ay R.cs q=some l) (ho:l[o]?=some t) {g:Option Bool} {s n:Nat} {cs:List D} (he:t.er=.sl g s n cs):
  bA w (af C w S H) t:=by
 obtain ⟨_,h2⟩:=hm.root r R hr;cases q with
 | nil=>
  simp only [ay,mN] at hc;subst hc;have:=h2 _ (aci ho);cases t with
  | own s n cap a xs=>exact this
  | v d u=>
   rcases this with h3 | ⟨_,h3⟩
   ·exact h3
   ·simp only [T.er] at he;simp only [bA];rw [he] at h3 ⊢;exact h3
 | cons p q=>
  rw [ay] at hc;cases hp:R.cs[p]? with
  | none=>simp [hp] at hc
  | some x=>
   cases x with
   | v d u=>simp [hp] at hc
   | own s n cap a xs=>
    simp only [hp] at hc;have hs:bA w (af C w S H) (.own s n cap a xs):=h2 _ (aci hp);simp only [bA] at hs;exact fW (vT hs.2.2.2 hc) ho
def ach (w:World) (X:Bool->Nat->Prop) (d:D) (u:Value):Prop:=Ext w X d u∨∃ t:T,d=t.er/\u=t.val/\bA w X t
structure RL (w:World) (X:Bool->Nat->Prop) (s n:Nat) (cs:List D) (u:Value):Prop where
 ok:∃ base cap,u=.slice base n cap/\n<=cap/\cs.length=n*s/\(cs=[]∨∃ b off c e fz us,base=some ⟨b,off,none⟩/\w.heap[b]?=some (.cells c e fz)/\bZ (ach w X) cs us/\∀ j v,us[j]?=some v->c[off+j]?=some v)
theorem Ad {X:Bool->Nat->Prop} {t:T} (h:bA w X t) {g:Option Bool} {s n:Nat} {cs:List D} (he:t.er=.sl g s n cs):RL w X s n cs t.val:=by
 cases t with
 | v d u=>
  simp only [bA] at h;simp only [T.er] at he;rw [he] at h;cases g with
  | none=>simp [Ext] at h
  | some g=>
   simp only [Ext] at h;obtain ⟨base,cap,us,rfl,h1,h2,h3,h4⟩:=h;refine ⟨base,cap,rfl,h1,h2,?_⟩;rcases h4 with h4 | ⟨k,off,c,e,fz,h5,h6,h7,h8⟩
   ·exact .inl h4
   ·exact .inr ⟨k,off,c,e,fz,us,h5,h7,((gY cs us).1 h3).mono (fun _ _ h=>.inl h),h8⟩
 | own s' n' cap a ts=>
  simp only [bA] at h;simp only [T.er,D.sl.injEq] at he;obtain ⟨_,rfl,rfl,rfl⟩:=he;obtain ⟨h1,h2,h3,h4⟩:=h;refine ⟨a.map fun p=>⟨p.1,p.2,none⟩,cap,rfl,h1.1,by rw [fm]; exact h2,?_⟩
  cases a with
  | none=>
   left
   have:ts.length=0:=by rw [h2,h3.1]; simp
   simp [ac9.1 this,aX]
  | some p=>
   obtain ⟨b,off⟩:=p;obtain ⟨c,e,fz,h5,_,_,h6⟩:=h3;refine .inr ⟨b,off,c,e,fz,ax ts,rfl,h5,?_,h6⟩;refine dk (by simp [fm,bK]) (fun i d u hd hu=>?_)
   rw [ir] at hd;rw [fh] at hu;cases hx:ts[i]? with
   | none=>simp [hx] at hd
   | some t=>
    simp only [hx,MD,mN] at hd hu;exact .inr ⟨t,hd.symm,hu.symm,fW h4 hx⟩
theorem aat {X:Bool->Nat->Prop} {x:Option (Nat × Nat)} {t:T} {u:Value} {g:Option Bool} {s n:Nat} {cs:List D} (he:t.er=.sl g s n cs) (hr:eL x t u) (h:RL w X s n cs t.val):RL w X s (trim x s n cs).1 (trim x s n cs).2 u:=by
 unfold eL at hr;rw [he] at hr;simp only [sn] at hr;cases x with
 | none=>simp only at hr; subst hr; exact h
 | some p=>
  obtain ⟨l,m⟩:=p;simp only at hr;obtain ⟨h1,base,C,k,h2,h3,rfl,h4⟩:=hr;obtain ⟨RM,cap,h5,h6,h7,h8⟩:=h.ok;rw [h2] at h5;simp only [Value.slice.injEq] at h5;obtain ⟨rfl,_,rfl⟩:=h5;have hlen:((cs.drop (l*s)).take (m*s)).length=m*s:=by
   rw [acG,af1,h7];have:l*s+m*s<=n*s:=by rw [<- af2]; exact adl _ h1
   omega
  refine ⟨_,_,rfl,(by show m<=C - l; omega),hlen,?_⟩
  by_cases hms:m*s=0
  ·left
   have h9:((cs.drop (l*s)).take (m*s)).length=0:=by rw [hlen]; exact hms
   exact ac9.1 h9
  ·right
   rcases h8 with h8 | ⟨b,off,c,e,fz,us,rfl,lz,MP,TY⟩
   ·exfalso;subst h8;simp at hlen;omega
   ·have hk:k=l:=by
     rcases h4 with h4 | h4
     ·exfalso;have:m≠0:=fun e=>hms (by simp [e])
      omega
     ·exact h4
    subst hk;refine ⟨b,off+k*s,c,e,fz,(us.drop (k*s)).take (m*s),by simp [eS],lz,(MP.drop _).take _,fun j v hj=>?_⟩
    rw [ael] at hj;split at hj
    ·rw [aen] at hj;rw [adJ]; exact TY _ _ hj
    ·simp at hj
theorem LP (gf:gC st.rt S) (hm:Mem C w S H) {d:D} {u:Value} (hd:ck w (af C w S H) S d u) {g:Option Bool} {s n:Nat} {cs:List D} (h:st.pN d=some (g,s,n,cs)):RL w (af C w S H) s n cs u:=by
 cases d with
 | nil k=>
  simp only [St.pN,mN,sF] at h;obtain ⟨_,rfl,rfl,rfl⟩:=h;have:=TU hd;subst this;exact ⟨none,0,rfl,acD _,by simp,.inl rfl⟩
 | sl b s' n' cs'=>
  simp only [St.pN,mN,sF] at h;obtain ⟨rfl,rfl,rfl,rfl⟩:=h;cases b with
  | none=>exact absurd hd (by simp [ck,gp,bp,Ext])
  | some b=>exact Ad (t:=.v (.sl (some b) s' n' cs') u) hd rfl
 | ref r q o x=>
  simp only [St.pN] at h;split at h
  case h_2=>simp at h
  rename_i b s' n' cs' hc;simp only [mN,sF] at h;obtain ⟨rfl,rfl,rfl,rfl⟩:=h;obtain ⟨R,l,t,h1,h2,h3,h4,h5⟩:=iu gf hc;exact aat h5.symm (hd t h4) (Ad (qq hm h1 h2 h3 h5.symm) h5.symm)
 | _=>simp [St.pN] at h
variable {c:cn} (aw:ey c P)
include aw
theorem TZ (gf:gC st.rt S) (hm:Mem C w S H) {t:TypeId} {d d':D} {u:Value} (hd:ck w (af C w S H) S d u) (h:MG c st t d=some d') (ty:TypeId):∃ r,(∀ w:World,(Builtin.len_ #[t] ty #[u]).run P w=.ok r w)/\ck w (af C w S H) S d' r:=by
 unfold MG at h;split at h
 ·rename_i lO;obtain ⟨dd,h1,h2⟩:=(aw.ty t _ lO).desc;simp only [ly] at h2;subst h2;have:=Ab hd;subst this;simp only [mN] at h;subst h;exact ⟨_,by intro w; simp [Builtin.len_,run_underlying h1]; rfl,rfl⟩
 ·rename_i e lO;obtain ⟨dd,h1,h2⟩:=(aw.ty t _ lO).desc;simp only [ly] at h2;subst h2;split at h
  case h_2=>simp at h
  rename_i hs;simp only [mN] at h;subst h;obtain ⟨base,cap,rfl,_⟩:=(LP gf hm hd hs).ok;exact ⟨_,by intro w; simp [Builtin.len_,run_underlying h1]; rfl,rfl⟩
 ·simp at h
end
theorem qt {P:Program} {w:World} {t e:TypeId} {A:Addr} {n cap:Nat} {k:IntKind} {i:Int} {sz:Nat} (h:P.underlying t=some (.slice e)) (hs:(Go.sizeOf e).run P w=Result.ok sz w) (h0:0<=i) (h1:i < n):
  (Instr.indexAt t (.slice (some A) n cap) (.int k i)).run P w=.ok (.pointer (some (A.add (i.toNat*sz)))) w:=by
 simp [Instr.indexAt,run_underlying h,asIntOf,h0,h1,hs]
theorem vW {P:Program} {w:World} {t e:TypeId} {A:Addr} {n:Nat} {k:IntKind} {i:Int} {sz:Nat} (h:P.underlying t=some (.array n e)) (hs:(Go.sizeOf e).run P w=Result.ok sz w) (h0:0<=i) (h1:i < n):
  (Instr.indexAt t (.pointer (some A)) (.int k i)).run P w=.ok (.pointer (some (A.add (i.toNat*sz)))) w:=by
 simp [Instr.indexAt,run_underlying h,asIntOf,h0,h1,hs,Instr.sureAddr]
theorem mq {i:Int} {n:Nat} {d:Option D} {d':D} (h:km i n d=some d'):0<=i/\i < n/\d=some d':=by
 unfold km at h;split at h
 ·split at h
  ·exact ⟨by assumption,by assumption,h⟩
  ·simp at h
 ·simp at h
theorem I5 {w:World} {X:Bool->Nat->Prop} {s n cap:Nat} {a:Option (Nat × Nat)} {ts:List T} (hs:bA w X (.own s n cap a ts)) {x:Option (Nat × Nat)} {u:Value} (hr:eL x (.own s n cap a ts) u) (oE:0 < (trim x s n (aX ts)).1):∃ b off0 n' c',a=some (b,off0)/\u=.slice (some ⟨b,off0+off x*s,none⟩) n' c'/\n'=(trim x s n (aX ts)).1:=by
 simp only [bA] at hs;obtain ⟨g1,g2,g3,g4⟩:=hs;cases x with
 | none=>
  simp only [eL,sn,T.er,T.val,tK] at hr;cases a with
  | none=>simp only [trim] at oE; omega
  | some p=>exact ⟨p.1,p.2,n,cap,rfl,by simp [hr,off],rfl⟩
 | some p=>
  obtain ⟨l0,m⟩:=p;simp only [eL,sn,T.er,T.val,tK,Value.slice.injEq] at hr;obtain ⟨e1,base,C0,k0,⟨e2,_,e3⟩,e4,rfl,e5⟩:=hr;subst e3;simp only [trim] at oE;cases a with
  | none=>simp only at g3; omega
  | some p=>
   simp only [MD] at e2;subst e2;have:k0=l0:=by
    rcases e5 with e5 | e5
    ·omega
    ·exact e5
   subst this;exact ⟨p.1,p.2,m,cap - k0,rfl,by rw [MD,eS]; rfl,rfl⟩
section
variable {P:Program} {c:cn} (aw:ey c P) {C:Ctx} {Hx:List T} {w:World} {S:List (Nat × RT)} {st:St} (gf:gC st.rt S) (hm:Mem C w S Hx)
include aw gf hm
theorem Ae {t:TypeId} {d d':D} {u:Value} {k:IntKind} {i:Int} (hd:ck w (af C w S Hx) S d u) (h:qo st c t d i=some d'):
  ∃ r,(∀ w:World,(Instr.indexAt t u (.int k i)).run P w=.ok r w)/\ck w (af C w S Hx) S d' r:=by
 unfold qo at h;split at h
 ·rename_i e sz pR z lO;obtain ⟨dd,h1,h2⟩:=(aw.ty t _ lO).desc;simp only [ly] at h2;subst h2;split at h
  case h_2=>simp at h
  rename_i ei uO;have cI:=fun w=>(aw.ty e ei uO).sz w;split at h
  ·rename_i r q o x;split at h
   ·rename_i s n cs hc;split at h
    case isFalse=>simp at h
    rename_i hs;obtain ⟨hs,T0⟩:=hs;subst hs;obtain ⟨h3,h4,h5⟩:=mq h;simp only [mN] at h5;subst h5;obtain ⟨R,l,t',h6,h7,h8,h9,lz⟩:=iu gf hc;obtain ⟨cap,a,ts,rfl,rfl⟩:=uM lz.symm;have du:=qq hm h6 h7 h8 lz.symm;have hr:=hd _ h9;have oE:0 < (trim x ei.size n (aX ts)).1:=by omega
    simp only [bA] at du;obtain ⟨g1,g2,g3,g4⟩:=du;obtain ⟨Af,Zi⟩:=C6 (bx:=R.box) h7 h8;obtain ⟨b,off0,n',c',rfl,rfl,rfl⟩:=I5 (by simpa only [bA] using ⟨g1,g2,g3,g4⟩) hr oE
    refine ⟨_,fun w=>qt h1 (cI w) h3 h4,?_⟩;intro R' dO;rw [h6,mN] at dO;subst dO;refine ⟨fun e=>by simp at e,fun b' off' fD=>?_⟩
    rw [Af,mN,sF] at fD;obtain ⟨rfl,rfl⟩:=fD;rw [eS,af2,adJ]
   ·rename_i g s n cs hc;split at h
    case isFalse=>simp at h
    rename_i hs;obtain ⟨hs,T0⟩:=hs;subst hs;obtain ⟨h3,h4,h5⟩:=mq h;simp only [mN] at h5;subst h5;obtain ⟨R,l,t',h6,h7,h8,h9,lz⟩:=iu gf hc;have du:=qq hm h6 h7 h8 lz.symm;have hr:=hd _ h9;have oE:0 < (trim x ei.size n cs).1:=by omega
    cases t' with
    | own s' n' cap a ts=>simp [T.er] at lz
    | v dd uu=>
     simp only [bA] at du;simp only [T.er] at lz;rw [<- lz] at du;simp only [Ext] at du;obtain ⟨base,cap,us,e1,e2,e3,e4,e5⟩:=du;have cQ:cs≠[]:=by
      intro ec;subst ec;simp only [aei] at e3;rcases Nat.mul_eq_zero.1 e3.symm with hn | hn
      ·subst hn;cases x with
       | none=>simp [trim] at oE
       | some p=>
        simp only [eL,sn,T.er,<- lz] at hr;obtain ⟨e6,_⟩:=hr;simp only [trim] at oE; omega
      ·omega
     rcases e5 with e5 | ⟨kb,off0,cc,e,fz,e6,e7,e8,e9⟩
     ·exact absurd e5 cQ
     ·subst e6;have key:∃ n' c',u=.slice (some ⟨kb,off0+off x*ei.size,none⟩) n' c'/\n'=(trim x ei.size n cs).1:=by
       cases x with
       | none=>
        simp only [eL,sn,T.er,<- lz,T.val] at hr;exact ⟨n,cap,by simp [hr,e1,off],rfl⟩
       | some p=>
        obtain ⟨l0,m⟩:=p;simp only [eL,sn,T.er,<- lz,T.val,e1,Value.slice.injEq] at hr;obtain ⟨f1,RM,C0,k0,⟨f2,_,f3⟩,f4,rfl,f5⟩:=hr;subst f3; subst f2;simp only [trim] at oE;have:k0=l0:=by
         rcases f5 with f5 | f5
         ·omega
         ·exact f5
        subst this;exact ⟨m,cap - k0,by rw [MD,eS]; rfl,rfl⟩
      obtain ⟨n',c',rfl,rfl⟩:=key;refine ⟨_,fun w=>qt h1 (cI w) h3 h4,kb,off0,cc,e,fz,us,?_,?_,e8,e4,e9⟩
      ·rw [eS,af2,adJ]
      ·exact ⟨e7.1,e7.2.1,e7.2.2.1,fun h=>by simp at h⟩
   ·simp at h
  ·rename_i g s n cs;split at h
   case isFalse=>simp at h
   rename_i hs;obtain ⟨hs,T0⟩:=hs;subst hs;obtain ⟨h3,h4,h5⟩:=mq h;simp only [mN] at h5;subst h5;have sL:Ext w (af C w S Hx) (.sl (some g) ei.size n cs) u:=hd;simp only [Ext] at sL;obtain ⟨base,cap,us,rfl,e2,e3,e4,e5⟩:=sL;rcases e5 with e5 | ⟨kb,off0,cc,e,fz,rfl,e7,e8,e9⟩
   ·exfalso;subst e5;simp only [aei] at e3;rcases Nat.mul_eq_zero.1 e3.symm with hn | hn<;>omega
   ·refine ⟨_,fun w=>qt h1 (cI w) h3 h4,kb,off0,cc,e,fz,us,by rw [eS],?_,e8,e4,e9⟩
    exact ⟨e7.1,e7.2.1,e7.2.2.1,fun h=>by simp at h⟩
  ·simp at h
 ·rename_i n e sz pR z lO;obtain ⟨dd,h1,h2⟩:=(aw.ty t _ lO).desc;simp only [ly] at h2;subst h2;split at h
  case h_2=>simp at h
  rename_i ei uO;have cI:=fun w=>(aw.ty e ei uO).sz w;split at h
  ·rename_i r q o;split at h
   case isFalse=>simp at h
   rename_i hl;obtain ⟨h3,h4,h5⟩:=mq h;simp only [mN] at h5;subst h5;obtain ⟨R,b,off0,hR,ha,rfl⟩:=rH gf hm hl hd;refine ⟨_,fun w=>vW h1 (cI w) h3 h4,?_⟩;rw [eS,adJ];exact TX hd hR ha
  ·rename_i cs o;obtain ⟨h3,h4,h5⟩:=mq h;simp only [mN] at h5;subst h5;obtain ⟨b,off0,cc,e',fz,us,rfl,h6⟩:=hd;exact ⟨_,fun w=>vW h1 (cI w) h3 h4,b,off0,cc,e',fz,us,by rw [eS,adJ],h6⟩
  ·simp at h
 ·simp at h
end
theorem add_add (A:Addr) (i j:Nat):(A.add i).add j=A.add (i+j):=by
 unfold Addr.add;split<;>split<;>split<;>first | rfl | omega | simp_all [adJ]
theorem MQ (b:Option Addr):b.map (·.add 0)=b:=by
 cases b<;>simp [Addr.add]
def T2 (d:Option D) (u:Option Value):Prop:=(d=none/\u=none)∨∃ k i,d=some (.int k i)/\u=some (.int k i)
theorem EG {w:World} {X:Bool->Nat->Prop} {S:List (Nat × RT)} {d:Option D} {u:Option Value} (h:(d=none/\u=none)∨∃ x y,d=some x/\u=some y/\ck w X S x y) {z i:Int} (hb:bound d z=some i):T2 d u:=by
 rcases h with h | ⟨x,y,rfl,rfl,h⟩
 ·exact .inl h
 ·cases x<;>simp [bound] at hb
  have:=gw h;subst this;exact .inr ⟨_,_,rfl,rfl⟩
theorem EH {P:Program} {w:World} {is:Bool} {len cap:Nat} {dl dh:Option D} {ul uh:Option Value} {l h:Int} (h1:T2 dl ul) (h2:T2 dh uh) (hl:bound dl 0=some l) (hh:bound dh len=some h) (h0:0<=l) (Zj:l<=h) (hhn:h<=len) (C9:len<=cap):
  (Instr.sliceBounds is len cap ul uh none).run P w=.ok (l.toNat,h.toNat,cap) w:=by
 have e1:0<=h:=Int.le_trans h0 Zj;have e2:h<=(cap:Int):=by omega
 have e3:l<=(h.toNat:Int):=by omega
 rcases h1 with ⟨rfl,rfl⟩ | ⟨k,i,rfl,rfl⟩<;>rcases h2 with ⟨rfl,rfl⟩ | ⟨k',i',rfl,rfl⟩<;>simp only [bound,mN] at hl hh<;>subst hl<;>subst hh
 ·simp [Instr.sliceBounds]
 ·simp [Instr.sliceBounds,Instr.sliceBound,asIntOf,e1,e2]
 ·simp [Instr.sliceBounds,Instr.sliceBound,asIntOf,h0,Zj]
 ·have e4:i<=((i'.toNat:Nat):Int):=e3;simp only [Instr.sliceBounds,Instr.sliceBound,asIntOf,Sem.run_bind,Sem.run_pure,Result.andThen_ok,Sem.run_ite];rw [if_pos ⟨e1,e2⟩];simp only [Result.andThen_ok,Sem.run_pure,Sem.run_bind,Sem.run_ite];rw [if_pos ⟨h0,e4⟩];rfl
def I6 (w:World) (X:Bool->Nat->Prop) (S:List (Nat × RT)) (d:Option D) (u:Option Value):Prop:=(d=none/\u=none)∨∃ x y,d=some x/\u=some y/\ck w X S x y
section
variable {P:Program} {w:World}
theorem J8 {X:Bool->Nat->Prop} {S:List (Nat × RT)} {t:TypeId} (ht:P.underlying t=some .string) {s:ByteArray} {d':D} {dl dh:Option D} {ul uh:Option Value} (hl:I6 w X S dl ul) (hh:I6 w X S dh uh) (h:Et s dl dh=some d'):
  ∃ r,(∀ w:World,(Instr.sliceAt t (.string s) ul uh none).run P w=.ok r w)/\ck w X S d' r:=by
 unfold Et at h;split at h
 case h_2=>simp at h
 rename_i l0 h0 e1 e2;split at h
 case isFalse=>simp at h
 rename_i hc;obtain ⟨i1,i2,i3⟩:=hc;simp only [mN] at h;subst h;refine ⟨.string (s.extract l0.toNat h0.toNat),?_,rfl⟩;intro w;simp only [Instr.sliceAt,Sem.run_bind,run_underlying ht,Result.andThen_ok,Instr.slice];simp [EH (EG hl e1) (EG hh e2) e1 e2 i1 i2 i3 (acD _)]
theorem J9 {t e:TypeId} (ht:P.underlying t=some (.slice e)) {sz:Nat} (hs:(Go.sizeOf e).run P w=Result.ok sz w) {base:Option Addr} {n cap:Nat} {dl dh:Option D} {ul uh:Option Value} {l h:Int} (h1:T2 dl ul) (h2:T2 dh uh) (hl:bound dl 0=some l) (hh:bound dh n=some h) (h0:0<=l) (Zj:l<=h) (hhn:h<=n) (C9:n<=cap):
  (Instr.sliceAt t (.slice base n cap) ul uh none).run P w=.ok (.slice (if cap=l.toNat then base else base.map (·.add (l.toNat*sz))) (h.toNat - l.toNat) (cap - l.toNat)) w:=by
 simp only [Instr.sliceAt,Sem.run_bind,run_underlying ht,Result.andThen_ok,Instr.slice,EH h1 h2 hl hh h0 Zj hhn C9,hs];rfl
end
section
variable {P:Program} {c:cn} (aw:ey c P) {C:Ctx} {Hx:List T} {w:World} {S:List (Nat × RT)} {st:St} (gf:gC st.rt S) (hm:Mem C w S Hx)
include gf hm
theorem T3 {t e:TypeId} (ht:P.underlying t=some (.slice e)) {sz:Nat} (hs:∀ w,(Go.sizeOf e).run P w=Result.ok sz w) {d d':D} {u:Value} {dl dh:Option D} {ul uh:Option Value} (hd:ck w (af C w S Hx) S d u) (hl:I6 w (af C w S Hx) S dl ul) (hh:I6 w (af C w S Hx) S dh uh)
  (h:Eu st sz d dl dh=some d'):∃ r,(∀ w:World,(Instr.sliceAt t u ul uh none).run P w=.ok r w)/\ck w (af C w S Hx) S d' r:=by
 unfold Eu at h;split at h
 case h_2=>simp at h
 rename_i g s n cs gx;split at h
 case h_2=>simp at h
 rename_i l0 h0 e1 e2;split at h
 case isFalse=>simp at h
 rename_i hc;obtain ⟨rfl,i1,i2,i3⟩:=hc;have hSl:=LP gf hm hd gx;obtain ⟨base,cap,rfl,C9,hlen,Da⟩:=hSl.ok;refine ⟨_,fun w=>J9 ht (hs w) (EG hl e1) (EG hh e2) e1 e2 i1 i2 i3 C9,?_⟩;have hle:l0.toNat<=h0.toNat/\h0.toNat<=n:=by omega
 cases d with
 | nil k=>
  simp only [mN] at h;subst h;have:=TU hd;simp only [Value.slice.injEq] at this;obtain ⟨rfl,rfl,rfl⟩:=this;have:l0.toNat=0/\h0.toNat=0:=by omega
  rw [this.1,this.2];rfl
 | sl g' s' n' cs'=>
  simp only [St.pN,mN,sF] at gx;obtain ⟨rfl,rfl,rfl,rfl⟩:=gx;simp only [mN] at h;subst h;cases g' with
  | none=>exact absurd hd (by simp [ck,gp,bp,Ext])
  | some g'=>
   have sL:Ext w (af C w S Hx) (.sl (some g') s' n' cs') (.slice base n' cap):=hd;simp only [Ext,Value.slice.injEq] at sL;obtain ⟨RM,cap',us,⟨rfl,_,rfl⟩,e3,e4,e5,e6⟩:=sL;show Ext w (af C w S Hx) (.sl (some g') s' (h0.toNat - l0.toNat) ((cs'.drop (l0.toNat*s')).take ((h0.toNat - l0.toNat)*s'))) _;simp only [Ext];have EI:((cs'.drop (l0.toNat*s')).take ((h0.toNat - l0.toNat)*s')).length=(h0.toNat - l0.toNat)*s':=by
    rw [acG,af1,e4];have:l0.toNat*s'+(h0.toNat - l0.toNat)*s'<=n'*s':=by rw [<- af2]; exact adl _ (by omega)
    omega
   have dM:=(gY cs' us).1 e5;refine ⟨_,_,(us.drop (l0.toNat*s')).take ((h0.toNat - l0.toNat)*s'),rfl,by omega,EI,(gY _ _).2 ((dM.drop _).take _),?_⟩
   by_cases hz:(cs'.drop (l0.toNat*s')).take ((h0.toNat - l0.toNat)*s')=[]
   ·exact .inl hz
   ·right
    have oE:0 < (h0.toNat - l0.toNat)*s':=by
     rcases Nat.eq_zero_or_pos ((h0.toNat - l0.toNat)*s') with e7 | e7
     ·exact absurd (ac9.1 (by rw [EI,e7])) hz
     ·exact e7
    rcases e6 with e6 | ⟨kb,off0,cc,ee,fz,rfl,e7,e8,e9⟩
    ·subst e6; simp at hz
    ·have cQ:¬ (cap=l0.toNat):=by
      intro e10;have:h0.toNat - l0.toNat=0:=by omega
      simp [this] at oE
     refine ⟨kb,off0+l0.toNat*s',cc,ee,fz,by rw [if_neg cQ,MD,eS],e7,e8,fun j v hj=>?_⟩
     rw [ael] at hj;split at hj
     ·rw [aen] at hj;rw [adJ]; exact e9 _ _ hj
     ·simp at hj
 | ref r q o y=>
  simp only [mN] at h;subst h;simp only [St.pN] at gx;split at gx
  case h_2=>simp at gx
  rename_i g' s' n' cs' cB;simp only [mN,sF] at gx;obtain ⟨rfl,rfl,rfl,rfl⟩:=gx;intro t' oT;have hr:=hd t' oT;obtain ⟨R,l,t'',h6,h7,h8,h9,lz⟩:=iu gf cB;rw [h9,mN] at oT;subst oT;unfold eL at hr ⊢;rw [<- lz] at hr ⊢;simp only [sn] at hr ⊢;have hN:=(Ad (qq hm h6 h7 h8 lz.symm) lz.symm).ok;obtain ⟨b0,C0,f1,f2,_⟩:=hN;cases y with
  | none=>
   simp only at hr;simp only [trim,off,aef] at*;rw [f1] at hr;simp only [Value.slice.injEq] at hr;obtain ⟨rfl,_,rfl⟩:=hr;refine ⟨by omega,base,cap,if cap=l0.toNat then 0 else l0.toNat,f1,by split<;>omega,?_,?_⟩
   ·split
    ·rename_i e; simp [MQ]
    ·rfl
   ·by_cases e:cap=l0.toNat
    ·left; omega
    ·right; simp [e]
  | some p=>
   obtain ⟨l1,m1⟩:=p;simp only at hr;obtain ⟨g1,b1,C1,k1,g2,g3,g4,g5⟩:=hr;simp only [Value.slice.injEq] at g4;obtain ⟨rfl,_,rfl⟩:=g4;simp only [trim,off] at*;rw [f1] at g2;simp only [Value.slice.injEq] at g2;obtain ⟨rfl,_,rfl⟩:=g2;refine ⟨by omega,b0,C0,if C0 - l1=l0.toNat then k1 else k1+l0.toNat,f1,?_,?_,?_⟩
   ·split
    ·exact g3
    ·rcases g5 with g5 | g5<;>omega
   ·have e11:C0 - (l1+l0.toNat)=C0 - l1 - l0.toNat:=by omega
    rw [e11];split
    ·rfl
    ·congr 1
     cases b0 with
     | none=>rfl
     | some A=>simp [add_add,af2]
   ·by_cases e:C0 - l1=l0.toNat
    ·left; omega
    ·right
     rw [if_neg e];rcases g5 with g5 | g5<;>omega
 | _=>simp [St.pN] at gx
include aw
theorem MR {t:TypeId} {d d':D} {u:Value} {dl dh:Option D} {ul uh:Option Value} (hd:ck w (af C w S Hx) S d u) (hl:I6 w (af C w S Hx) S dl ul) (hh:I6 w (af C w S Hx) S dh uh)
  (h:zZ c st t d dl dh=some d'):∃ r,(∀ w:World,(Instr.sliceAt t u ul uh none).run P w=.ok r w)/\ck w (af C w S Hx) S d' r:=by
 unfold zZ at h;split at h
 ·rename_i lO;obtain ⟨dd,h1,h2⟩:=(aw.ty t _ lO).desc;simp only [ly] at h2;subst h2;split at h
  case h_2=>simp at h
  have:=Ab hd;subst this;exact J8 h1 hl hh h
 ·rename_i e _ _ _ lO;obtain ⟨dd,h1,h2⟩:=(aw.ty t _ lO).desc;simp only [ly] at h2;subst h2;split at h
  case h_2=>simp at h
  rename_i ei uO;exact T3 gf hm h1 (fun w=>(aw.ty e ei uO).sz w) hd hl hh h
 ·simp at h
end
def lq (t t':T):Prop:=t'.val=t.val/\∀ p,sn t'.er=some p->sn t.er=some p
theorem lq.refl (t:T):lq t t:=⟨rfl,fun _ h=>h⟩
theorem lq.trans {a b c:T} (h:lq a b) (h':lq b c):lq a c:=⟨h'.1.trans h.1,fun p e=>h.2 p (h'.2 p e)⟩
theorem kz {t t':T} (h:lq t t') {x:Option (Nat × Nat)} {u:Value} (hr:eL x t u):eL x t' u:=by
 unfold eL at hr ⊢;cases he:sn t'.er with
 | some p=>
  rw [h.2 p he] at hr;simp only at hr ⊢;rw [h.1];exact hr
 | none=>trivial
theorem aau {q:List Nat} {o:Nat} {t':T}:∀ {cs cs':List T} {q':List Nat} {o':Nat} {l':List T},dG (fun l=>l.set o t') cs q=some cs'->under (q++[o]) (q'++[o'])=none->ay cs' q'=some l'->
  ∃ l,ay cs q'=some l/\∀ t2,l'[o']?=some t2->∃ t1,l[o']?=some t1/\lq t1 t2:=by
 induction q with
 | nil=>
  intro cs cs' q' o' l' hm hu hc;simp only [dG,mN] at hm;subst hm;cases q' with
  | nil=>
   simp only [ay,mN] at hc;subst hc;refine ⟨cs,rfl,fun t2 h2=>?_⟩;simp only [acw,under] at hu;split at hu
   ·simp at hu
   ·rename_i cQ;rw [acu cQ] at h2;exact ⟨t2,h2,lq.refl _⟩
  | cons p q'=>
   simp only [acw,acE,under] at hu;split at hu
   ·simp at hu
   ·rename_i cQ;rw [ay,acu cQ] at hc;rw [ay];exact ⟨l',hc,fun t2 h2=>⟨t2,h2,lq.refl _⟩⟩
 | cons p q ih=>
  intro cs cs' q' o' l' hm hu hc;rw [dG] at hm;cases hp:cs[p]? with
  | none=>simp [hp] at hm
  | some x=>
   cases x with
   | v d u=>simp [hp] at hm
   | own s n cap a xs=>
    simp only [hp] at hm;cases hx:dG (fun l=>l.set o t') xs q with
    | none=>simp [hx] at hm
    | some kt=>
     simp only [hx,mN] at hm;subst hm;obtain ⟨cK,_⟩:=aaa.1 hp;cases q' with
     | nil=>
      simp only [ay,mN] at hc;subst hc;refine ⟨cs,rfl,fun t2 h2=>?_⟩;by_cases hpo:p=o'
      ·subst hpo;rw [ac5 cK,mN] at h2;subst h2;exact ⟨_,hp,rfl,fun p h=>by simpa [T.er,sn] using h⟩
      ·rw [acu hpo] at h2;exact ⟨t2,h2,lq.refl _⟩
     | cons p' q'=>
      by_cases EJ:p=p'
      ·subst EJ;simp only [acE,under,if_true] at hu;rw [ay,ac5 cK] at hc;simp only at hc;obtain ⟨l,h1,h2⟩:=ih hx hu hc;exact ⟨l,by rw [ay,hp]; exact h1,h2⟩
      ·rw [ay,acu EJ] at hc;exact ⟨l',by rw [ay]; exact hc,fun t2 h2=>⟨t2,h2,lq.refl _⟩⟩
theorem rI {q:List Nat} {o:Nat} {t':T}:∀ {cs cs':List T} {q':List Nat} {bx:Option Nat},dG (fun l=>l.set o t') cs q=some cs'->under (q++[o]) q'=none->bN bx cs' q'=bN bx cs q':=by
 induction q with
 | nil=>
  intro cs cs' q' bx hm hu;simp only [dG,mN] at hm;subst hm;cases q' with
  | nil=>rfl
  | cons p q'=>
   simp only [acw,under] at hu;split at hu
   ·simp at hu
   ·rename_i cQ;rw [bN,bN,acu cQ]
 | cons p q ih=>
  intro cs cs' q' bx hm hu;rw [dG] at hm;cases hp:cs[p]? with
  | none=>simp [hp] at hm
  | some x=>
   cases x with
   | v d u=>simp [hp] at hm
   | own s n cap a xs=>
    simp only [hp] at hm;cases hx:dG (fun l=>l.set o t') xs q with
    | none=>simp [hx] at hm
    | some kt=>
     simp only [hx,mN] at hm;subst hm;obtain ⟨cK,_⟩:=aaa.1 hp;cases q' with
     | nil=>rfl
     | cons p' q'=>
      rw [bN,bN];by_cases EJ:p=p'
      ·subst EJ;simp only [acE,under,if_true] at hu;rw [ac5 cK,hp];simp only;cases q' with
       | nil=>rfl
       | cons y ys=>exact ih (bx:=none) hx hu
      ·rw [acu EJ]
theorem jn {q:List Nat}:∀ {x y:List Nat},under q x=some y->x=q++y:=by
 induction q with
 | nil=>intro x y h; simp only [under,mN] at h; exact h
 | cons p q ih=>
  intro x y h;cases x with
  | nil=>simp [under] at h
  | cons z zs=>
   simp only [under] at h;split at h
   ·rename_i e; subst e; simp [ih h]
   ·simp at h
theorem WR {q:List Nat} {o:Nat} {t':T} {cs cs':List T} (hm:dG (fun l=>l.set o t') cs q=some cs') {l':List T} (hc:ay cs' q=some l') {t2:T} (h2:l'[o]?=some t2):t2=t':=by
 obtain ⟨l,h3,h4⟩:=nt hm;rw [h4,mN] at hc;subst hc;obtain ⟨cK,he⟩:=aaa.1 h2;rw [<- he]; simp
theorem EK {q:List Nat} {o:Nat} {y:List Nat} {d:D} {u:Value}:∀ {cs l:List T},ay cs q=some l->l[o]?=some (.v d u)->ay cs (q++o::y)=none:=by
 induction q with
 | nil=>
  intro cs l hc ho;simp only [ay,mN] at hc;subst hc;simp [ay,ho]
 | cons p q ih=>
  intro cs l hc ho;rw [ay] at hc;cases hp:cs[p]? with
  | none=>simp [hp] at hc
  | some x=>
   cases x with
   | v d u=>simp [hp] at hc
   | own s n cap a xs=>
    simp only [hp] at hc;rw [acE,ay,hp];exact ih hc ho
theorem T4 {q:List Nat} {o:Nat} {y:List Nat} {d:D} {u:Value}:∀ {cs l:List T} {bx:Option Nat},ay cs q=some l->l[o]?=some (.v d u)->bN bx cs (q++o::y)=none:=by
 induction q with
 | nil=>
  intro cs l bx hc ho;simp only [ay,mN] at hc;subst hc;simp [bN,ho]
 | cons p q ih=>
  intro cs l bx hc ho;rw [ay] at hc;cases hp:cs[p]? with
  | none=>simp [hp] at hc
  | some x=>
   cases x with
   | v d u=>simp [hp] at hc
   | own s n cap a xs=>
    simp only [hp] at hc;rw [acE,bN,hp];simp only;have:=ih (bx:=none) hc ho;cases hq:q++o::y with
    | nil=>simp at hq
    | cons z zs=>rw [hq] at this; exact this
structure kA (S S':List (Nat × RT)) (r:Nat) (q:List Nat) (o:Nat) (t t':T):Prop where
 ex:∃ R cs' l,lk S r=some R/\ay R.cs q=some l/\l[o]?=some t/\dG (fun l=>l.set o t') R.cs q=some cs'/\S'=pt S r ⟨R.box,cs'⟩
section
variable {S S':List (Nat × RT)} {r:Nat} {q:List Nat} {o:Nat} {t t':T} (hc:kA S S' r q o t t')
include hc
theorem kA.LQ {r':Nat} (h:r'≠r):lk S' r'=lk S r':=by
 obtain ⟨R,cs',l,h1,h2,h3,h4,rfl⟩:=hc.ex;exact dE _ _ h
theorem kA.box {r':Nat} {R':RT} (h:lk S' r'=some R'):∃ R,lk S r'=some R/\R.box=R'.box:=by
 by_cases he:r'=r
 ·subst he;obtain ⟨R,cs',l,h1,h2,h3,h4,rfl⟩:=hc.ex;rw [cx,mN] at h;subst h;exact ⟨R,h1,rfl⟩
 ·rw [hc.LQ he] at h;exact ⟨R',h,rfl⟩
theorem kA.uP {r':Nat} {q':List Nat} {o':Nat} (hf:r'≠r∨under (q++[o]) (q'++[o'])=none) {t2:T} (h:cr S' r' q' o'=some t2):∃ t1,cr S r' q' o'=some t1/\lq t1 t2:=by
 by_cases he:r'=r
 ·subst he;have hf:under (q++[o]) (q'++[o'])=none:=by rcases hf with hf | hf<;>first | exact absurd rfl hf | exact hf
  obtain ⟨R,cs',l,h1,h2,h3,h4,rfl⟩:=hc.ex;unfold cr at h ⊢;rw [cx] at h;rw [h1];simp only at h ⊢;cases hx:ay cs' q' with
  | none=>simp [hx] at h
  | some l'=>
   simp only [hx] at h;obtain ⟨l1,h5,h6⟩:=aau h4 hf hx;rw [h5];exact h6 t2 h
 ·unfold cr at h ⊢;rw [hc.LQ he] at h;exact ⟨t2,h,lq.refl _⟩
theorem kA.I7 {t2:T} (h:cr S' r q o=some t2):t2=t':=by
 obtain ⟨R,cs',l,h1,h2,h3,h4,rfl⟩:=hc.ex;unfold cr at h;rw [cx] at h;simp only at h;cases hx:ay cs' q with
 | none=>simp [hx] at h
 | some l'=>
  simp only [hx] at h;exact WR h4 hx h
theorem kA.Db:cr S' r q o=some t':=by
 obtain ⟨R,cs',l,h1,h2,h3,h4,rfl⟩:=hc.ex;obtain ⟨l',h5,h6⟩:=nt h4;rw [h2,mN] at h5;subst h5;unfold cr;rw [cx];simp only [h6];rw [ac5 (aaa.1 h3).1]
theorem kA.MS:cr S r q o=some t:=by
 obtain ⟨R,cs',l,h1,h2,h3,h4,rfl⟩:=hc.ex;simp [cr,h1,h2,h3]
theorem kA.rI {r':Nat} {q':List Nat} (hf:r'≠r∨under (q++[o]) q'=none) {R':RT} (h:lk S' r'=some R'):∃ R,lk S r'=some R/\R.box=R'.box/\bN R'.box R'.cs q'=bN R.box R.cs q':=by
 by_cases he:r'=r
 ·subst he;have hf:under (q++[o]) q'=none:=by rcases hf with hf | hf<;>first | exact absurd rfl hf | exact hf
  obtain ⟨R,cs',l,h1,h2,h3,h4,rfl⟩:=hc.ex;rw [cx,mN] at h;subst h;exact ⟨R,h1,rfl,rI h4 hf⟩
 ·rw [hc.LQ he] at h;exact ⟨R',h,rfl,rfl⟩
theorem kA.fts:∃ A B,cA S=A++t.ft++B/\cA S'=A++t'.ft++B:=by
 obtain ⟨R,cs',l,h1,h2,h3,h4,rfl⟩:=hc.ex;obtain ⟨A,B,h5,h6⟩:=kv h1;obtain ⟨A',B',h7,h8⟩:=RI h2 h3;refine ⟨A++R.box.toList++A',B'++B,?_,?_⟩
 ·rw [h5,RT.ft,h7]; simp
 ·rw [h6,RT.ft,h8 t' cs' h4]; simp
theorem kA.WS {d:D} {u:Value} (ht:t'=.v d u) {r':Nat} {q':List Nat} {o':Nat} {y:Nat} {ys:List Nat} (hr:r'=r) (hy:under (q++[o]) (q'++[o'])=some (y::ys)):cr S' r' q' o'=none:=by
 subst hr; subst ht;obtain ⟨R,cs',l,h1,h2,h3,h4,rfl⟩:=hc.ex;obtain ⟨l',h5,h6⟩:=nt h4;rw [h2,mN] at h5;subst h5;have h7:(l.set o (.v d u))[o]?=some (.v d u):=ac5 (aaa.1 h3).1;have h8:=jn hy;have h9:q'=q++o::(y::ys).dropLast/\o'=(y::ys).getLast (by simp):=by
  have e1:q'++[o']=(q++o::(y::ys).dropLast)++[(y::ys).getLast (by simp)]:=by
   rw [h8]; simp only [acz,aeg,acE,acw]; rw [List.dropLast_concat_getLast]
  exact ⟨List.append_inj_left' e1 rfl,by have:=List.append_inj_right' e1 rfl; simpa using this⟩
 unfold cr;rw [cx];simp only;rw [h9.1,EK h6 h7]
theorem kA.WU {d:D} {u:Value} (ht:t'=.v d u) {q' y:List Nat} (hy:under (q++[o]) q'=some y) {R':RT} (h:lk S' r=some R'):bN R'.box R'.cs q'=none:=by
 subst ht;obtain ⟨R,cs',l,h1,h2,h3,h4,rfl⟩:=hc.ex;obtain ⟨l',h5,h6⟩:=nt h4;rw [h2,mN] at h5;subst h5;have h7:(l.set o (.v d u))[o]?=some (.v d u):=ac5 (aaa.1 h3).1;rw [cx,mN] at h;subst h;rw [jn hy,acz];exact T4 h6 h7
end
section
variable {w w':World} {X X':Bool->Nat->Prop} {S S':List (Nat × RT)}
theorem vX {d:D} {u:Value} (h:ck w X S d u):(∃ ds us,d=.aG ds/\u=.tuple us/\bZ (gp w X S) ds us.toList)∨((∀ ds,d≠.aG ds)/\gp w X S d u):=by
 cases d<;>first | exact .inr ⟨by simp,h⟩ | (obtain ⟨us,h1,h2⟩:=h; exact .inl ⟨_,us,rfl,h1,h2⟩)
theorem sO {d:D} {u:Value} (h:gp w X S d u):(∃ cs us,d=.agg cs/\u=.agg us/\bZ (bp w X S) cs us.toList)∨(∃ f cs us,d=.fn f cs/\u=.func (.func f) #[] us/\bZ (bp w X S) cs us.toList)∨((∀ cs,d≠.agg cs)/\(∀ f cs,d≠.fn f cs)/\bp w X S d u):=by
 cases d<;>first | exact .inr (.inr ⟨by simp,by simp,h⟩) | (obtain ⟨us,h1,h2⟩:=h; exact .inl ⟨_,us,rfl,h1,h2⟩) | (obtain ⟨us,h1,h2⟩:=h; exact .inr (.inl ⟨_,_,us,rfl,h1,h2⟩))
theorem aav {f:D->D} (h:∀ d u,bp w X S d u->bp w' X' S' (f d) u) {d:D} {u:Value} (hd:ck w X S d u):ck w' X' S' (oR f d) u:=by
 have ha:∀ d u,gp w X S d u->gp w' X' S' (fg f d) u:=by
  intro d u hd;rcases sO hd with ⟨cs,us,rfl,rfl,ha⟩ | ⟨g,cs,us,rfl,rfl,ha⟩ | ⟨h1,h2,h3⟩
  ·exact ⟨us,rfl,ha.map f (fun _ _=>h _ _)⟩
  ·exact ⟨us,rfl,ha.map f (fun _ _=>h _ _)⟩
  ·have:fg f d=f d:=by cases d<;>first | rfl | exact absurd rfl (h1 _) | exact absurd rfl (h2 _ _)
   rw [this]; exact ew (h _ _ h3)
 rcases vX hd with ⟨ds,us,rfl,rfl,hb⟩ | ⟨h1,h2⟩
 ·exact ⟨us,rfl,hb.map _ (fun _ _=>ha _ _)⟩
 ·have:oR f d=fg f d:=by cases d<;>first | rfl | exact absurd rfl (h1 _)
  rw [this]; exact ky (ha _ _ h2)
theorem aaw {α:Type} (f:α->α) (l:List (Nat × α)) (k:Nat):lk (gd f l) k=(lk l k).map f:=by
 induction l with
 | nil=>rfl
 | cons e t ih=>
  obtain ⟨j,v⟩:=e;simp only [gd,lk];split<;>simp [ih]
theorem WV {f:D->D} (h:∀ d u,bp w X S d u->bp w' X' S' (f d) u) {tm:List (Nat × D)} {vs:Array Value} (ht:mb w X S tm vs):mb w' X' S' (gd (oR f) tm) vs:=by
 intro t;rw [aaw];have:=ht t;cases hx:lk tm t with
 | none=>simpa [hx] using mc _
 | some d=>rw [hx] at this; simpa using aav h this
theorem pS (h:∀ d u,bp w X S d u->bp w' X' S' d u) {d:D} {u:Value} (hd:ck w X S d u):ck w' X' S' d u:=by
 have ha:∀ d u,gp w X S d u->gp w' X' S' d u:=by
  intro d u hd;rcases sO hd with ⟨cs,us,rfl,rfl,ha⟩ | ⟨g,cs,us,rfl,rfl,ha⟩ | ⟨h1,h2,h3⟩
  ·exact ⟨us,rfl,ha.mono h⟩
  ·exact ⟨us,rfl,ha.mono h⟩
  ·exact ew (h _ _ h3)
 rcases vX hd with ⟨ds,us,rfl,rfl,hb⟩ | ⟨h1,h2⟩
 ·exact ⟨us,rfl,hb.mono ha⟩
 ·exact ky (ha _ _ h2)
theorem wH (h:∀ d u,bp w X S d u->bp w' X' S' d u) {tm:List (Nat × D)} {vs:Array Value} (ht:mb w X S tm vs):mb w' X' S' tm vs:=fun t=>pS h (ht t)
end
def jo (w w':World) (X X':Bool->Nat->Prop):Prop:=∀ b k,X b k->X' b k/\w'.heap[k]?=w.heap[k]?
theorem jo.refl (w:World) (X:Bool->Nat->Prop):jo w w X X:=fun _ _ h=>⟨h,rfl⟩
section
variable {w w':World} {X X':Bool->Nat->Prop} {S S':List (Nat × RT)} (hX:jo w w' X X')
include hX
theorem od {cs:List D} {o:Nat} {u:Value} (h:bp w X S (.dK cs o) u):bp w' X' S' (.dK cs o) u:=by
 obtain ⟨b,off,c,e,fz,us,h1,h2,h3,h4,h5⟩:=h;exact ⟨b,off,c,e,fz,us,h1,(hX _ _ h2).1,by rw [(hX _ _ h2).2]; exact h3,sJ hX _ _ h4,h5⟩
theorem oV {d:D} (hr:∀ r q o x,d≠.ref r q o x) (hp:∀ r q o,d≠.ptr r q o) (hq:∀ cs o,d≠.dK cs o) {u:Value} (h:bp w X S d u):bp w' X' S' d u:=by
 cases d with
 | ref r q o x=>exact absurd rfl (hr _ _ _ _)
 | ptr r q o=>exact absurd rfl (hp _ _ _)
 | dK cs o=>exact absurd rfl (hq _ _)
 | _=>exact gu hX _ _ h
theorem MT {r:Nat} {q:List Nat} {o:Nat} {t:T} {d0:D} {u0:Value} (hc:kA S S' r q o t (.v d0 u0)) (hn:sn (bH d0)=none∨lq t (.v d0 u0)) {d:D} {u:Value} (h:bp w X S d u):bp w' X' S' d u:=by
 cases d with
 | ref r' q' o' x=>
  intro t2 h2;by_cases hf:r'≠r∨under (q++[o]) (q'++[o'])=none
  ·obtain ⟨t1,h1,hl⟩:=hc.uP hf h2;exact kz hl (h t1 h1)
  ·have hr:r'=r:=ajy fun e=>hf (.inl e);cases hu:under (q++[o]) (q'++[o']) with
   | none=>exact absurd (.inr hu) hf
   | some y=>
    cases y with
    | nil=>
     have e1:=jn hu;simp only [acg] at e1;obtain ⟨rfl,e2⟩:=List.append_inj' e1 rfl;simp only [acS,and_true] at e2;subst e2; subst hr;have:=hc.I7 h2;subst this;rcases hn with hn | hn
     ·unfold eL;simp only [T.er,hn]
     ·exact kz hn (h t hc.MS)
    | cons y ys=>rw [hc.WS rfl hr hu] at h2; simp at h2
 | ptr r' q' o'=>
  intro R' dO;obtain ⟨R,h1,h2⟩:=hc.box dO;refine ⟨fun e=>by rw [<- h2]; exact (h R h1).1 e,fun b off ha=>?_⟩
  by_cases hf:r'≠r∨under (q++[o]) q'=none
  ·obtain ⟨R1,h3,h4,h5⟩:=hc.rI hf dO;rw [h3,mN] at h1;subst h1;exact (h _ h3).2 b off (h5▸ha)
  ·have hr:r'=r:=ajy fun e=>hf (.inl e);subst hr;cases hu:under (q++[o]) q' with
   | none=>exact absurd (.inr hu) hf
   | some y=>rw [hc.WU rfl hu dO] at ha; simp at ha
 | dK cs o'=>exact od hX h
 | _=>exact oV hX (by simp) (by simp) (by simp) h
theorem yy {r:Nat} {q:List Nat} {o:Nat} {t t':T} (hc:kA S S' r q o t t') {ex:Bool} (hl:ex=false->lq t t') {d:D} {u:Value} (h:bp w X S d u):bp w' X' S' (cq r q o ex d) u:=by
 cases d with
 | ref r' q' o' x=>
  simp only [cq];split
  ·rename_i hr;subst hr;cases hu:under (q++[o]) (q'++[o']) with
   | none=>
    simp only;intro t2 h2;obtain ⟨t1,h1,hl⟩:=hc.uP (.inr hu) h2;exact kz hl (h t1 h1)
   | some y=>
    cases y with
    | nil=>
     cases ex with
     | true=>simp [bp,Ext]
     | false=>
      simp only [acq,if_false];intro t2 h2;have e1:=jn hu;simp only [acg] at e1;obtain ⟨rfl,e2⟩:=List.append_inj' e1 rfl;simp only [acS,and_true] at e2;subst e2;have:=hc.I7 h2;subst this;exact kz (hl rfl) (h t hc.MS)
    | cons y ys=>simp [bp,Ext]
  ·rename_i hr;intro t2 h2;obtain ⟨t1,h1,hl⟩:=hc.uP (.inl hr) h2;exact kz hl (h t1 h1)
 | ptr r' q' o'=>
  simp only [cq];split
  ·rename_i hr;subst hr;cases hu:under (q++[o]) q' with
   | none=>
    simp only;intro R' dO;obtain ⟨R1,h3,h4,h5⟩:=hc.rI (.inr hu) dO;exact ⟨fun e=>by rw [<- h4]; exact (h R1 h3).1 e,fun b off ha=>(h R1 h3).2 b off (h5▸ha)⟩
   | some y=>simp [bp,Ext]
  ·rename_i hr;intro R' dO;obtain ⟨R1,h3,h4,h5⟩:=hc.rI (.inl hr) dO;exact ⟨fun e=>by rw [<- h4]; exact (h R1 h3).1 e,fun b off ha=>(h R1 h3).2 b off (h5▸ha)⟩
 | dK cs o'=>exact od hX h
 | _=>simp only [cq]; exact oV hX (by simp) (by simp) (by simp) h
theorem WW {r:Nat} {R:RT} (hS:S'=pt S r R) {d:D} {u:Value} (h:bp w X S d u):bp w' X' S' (cw r d) u:=by
 subst hS;cases d with
 | ref r' q' o' x=>
  simp only [cw];split
  ·simp [bp,Ext]
  ·rename_i hr;intro t2 h2;unfold cr at h2;rw [dE _ _ hr] at h2;exact h t2 h2
 | ptr r' q' o'=>
  simp only [cw];split
  ·simp [bp,Ext]
  ·rename_i hr;intro R' dO;rw [dE _ _ hr] at dO;exact h R' dO
 | dK cs o'=>exact od hX h
 | _=>simp only [cw]; exact oV hX (by simp) (by simp) (by simp) h
theorem aax {r:Nat} {R0 R:RT} (h0:lk S r=some R0) (hb:R.box=R0.box) (hS:S'=pt S r R) {d:D} {u:Value} (h:bp w X S d u):bp w' X' S' (eE r d) u:=by
 subst hS;cases d with
 | ref r' q' o' x=>
  simp only [eE];split
  ·simp [bp,Ext]
  ·rename_i hr;intro t2 h2;unfold cr at h2;rw [dE _ _ hr] at h2;exact h t2 h2
 | ptr r' q' o'=>
  cases q' with
  | nil=>
   simp only [eE];intro R' dO;by_cases hr:r'=r
   ·subst hr;rw [cx,mN] at dO;subst dO;refine ⟨fun e=>by rw [hb]; exact (h R0 h0).1 e,fun b off ha=>(h R0 h0).2 b off ?_⟩
    simp only [bN] at ha ⊢;rw [<- hb]; exact ha
   ·rw [dE _ _ hr] at dO;exact h R' dO
  | cons p q'=>
   simp only [eE];split
   ·simp [bp,Ext]
   ·rename_i hr;intro R' dO;rw [dE _ _ hr] at dO;exact h R' dO
 | dK cs o'=>exact od hX h
 | _=>simp only [eE]; exact oV hX (by simp) (by simp) (by simp) h
theorem sQ (hS:∀ r R,lk S' r=some R->lk S r=some R) {d:D} {u:Value} (h:bp w X S d u):bp w' X' S' d u:=by
 cases d with
 | ref r' q' o' x=>
  intro t2 h2;unfold cr at h2;cases hr:lk S' r' with
  | none=>simp [hr] at h2
  | some R=>
   refine h t2 ?_;unfold cr;rw [hS _ _ hr];rw [hr] at h2;exact h2
 | ptr r' q' o'=>exact fun R' dO=>h R' (hS _ _ dO)
 | dK cs o'=>exact od hX h
 | _=>exact oV hX (by simp) (by simp) (by simp) h
end
theorem WX (b:Bool) (d:D):eb b (bH d)=bH d:=by
 cases d with
 | sl g s n cs=>cases g<;>simp [bH,eb]
 | _=>simp [bH,eb]
mutual
theorem yz {w:World} {X X':Bool->Nat->Prop} (hX:∀ b k,X b k->X' b k) (b:Bool):∀ (t:T),bA w X t->(∀ k∈t.ft,X' b k)->Ext w X' (eb b t.er) t.val
 | .v d u,hs,_=>by
  simp only [bA] at hs;have h2:Ext w X' (bH d) u:=gu (fun b k h=>⟨hX b k h,rfl⟩) _ _ hs;have h3:eb b (T.v d u).er=bH d:=WX b d;rw [h3]; exact h2
 | .own s n cap a cs,hs,hf=>by
  simp only [bA] at hs;obtain ⟨h1,h2,h3,h4⟩:=hs;simp only [T.er,eb,Ext,T.val,tK];have h5:=Cl hX b cs h4 (fun k hk=>hf k (by simp [T.ft,hk]))
  refine ⟨_,cap,ax cs,rfl,h1.1,?_,h5,?_⟩
  ·have:=((gY _ _).1 h5).len;rw [this,bK,h2]
  ·cases a with
   | none=>
    left
    have:cs.length=0:=by rw [h2,h3.1]; simp
    simp [ac9.1 this,aX,bz]
   | some p=>
    obtain ⟨k,off⟩:=p;obtain ⟨c,e,fz,h6,_,_,h7⟩:=h3;exact .inr ⟨k,off,c,e,fz,rfl,hf k (by simp [T.ft,fC]),h6,h7⟩
theorem Cl {w:World} {X X':Bool->Nat->Prop} (hX:∀ b k,X b k->X' b k) (b:Bool):∀ (ts:List T),bC w X ts->(∀ k∈ah ts,X' b k)->fV w X' (bz b (aX ts)) (ax ts)
 | [],_,_=>by simp [aX,bz,ax,fV]
 | t::ts,hs,hf=>by
  simp only [bC] at hs;simp only [aX,bz,ax,fV];exact ⟨t.val,ax ts,rfl,yz hX b t hs.1 (fun k hk=>hf k (by simp [ah,hk])),Cl hX b ts hs.2 (fun k hk=>hf k (by simp [ah,hk]))⟩
end
theorem I8 (b:Bool):∀ (ds:List D) (k:Nat),bz b (ds.drop k)=(bz b ds).drop k
 | [],k=>by simp [bz]
 | d::ds,0=>rfl
 | d::ds,k+1=>by simp [bz,I8 b ds k]
theorem I9 (b:Bool):∀ (ds:List D) (k:Nat),bz b (ds.take k)=(bz b ds).take k
 | [],k=>by simp [bz]
 | d::ds,0=>rfl
 | d::ds,k+1=>by simp [bz,I9 b ds k]
theorem MU {w:World} {X:Bool->Nat->Prop} {g:Bool} {s n:Nat} {cs:List D} {l m k C:Nat} {base:Option Addr} (h:Ext w X (.sl (some g) s n cs) (.slice base n C)) (h1:l+m<=n) (h2:k<=C) (h3:C - l=0∨k=l):
  Ext w X (.sl (some g) s m ((cs.drop (l*s)).take (m*s))) (.slice (base.map (·.add (k*s))) m (C - l)):=by
 simp only [Ext,Value.slice.injEq] at h ⊢;obtain ⟨RM,cap',us,⟨rfl,_,rfl⟩,e3,e4,e5,e6⟩:=h;have EI:((cs.drop (l*s)).take (m*s)).length=m*s:=by
  rw [acG,af1,e4];have:l*s+m*s<=n*s:=by rw [<- af2]; exact adl _ h1
  omega
 have dM:=(gY cs us).1 e5;refine ⟨_,_,(us.drop (l*s)).take (m*s),⟨rfl,trivial,rfl⟩,by omega,EI,(gY _ _).2 ((dM.drop _).take _),?_⟩
 by_cases hz:(cs.drop (l*s)).take (m*s)=[]
 ·exact .inl hz
 ·right
  have oE:0 < m*s:=by
   rcases Nat.eq_zero_or_pos (m*s) with e7 | e7
   ·exact absurd (ac9.1 (by rw [EI,e7])) hz
   ·exact e7
  rcases e6 with e6 | ⟨kb,off0,cc,ee,fz,rfl,e7,e8,e9⟩
  ·subst e6; simp at hz
  ·have w7:m≠0:=fun e=>by simp [e] at oE
   have hkl:k=l:=by
    rcases h3 with h3 | h3
    ·omega
    ·exact h3
   subst hkl;refine ⟨kb,off0+k*s,cc,ee,fz,by rw [MD,eS],e7,e8,fun j v hj=>?_⟩
   rw [ael] at hj;split at hj
   ·rw [aen] at hj;rw [adJ]; exact e9 _ _ hj
   ·simp at hj
theorem BG {w:World} {X X':Bool->Nat->Prop} (hX:∀ b k,X b k->X' b k) (b:Bool) {t:T} {g:Option Bool} {s n:Nat} {cs:List D} (he:t.er=.sl g s n cs) (hs:bA w X t) (hf:∀ k∈t.ft,X' b k) {x:Option (Nat × Nat)} {u:Value} (hr:eL x t u):
  Ext w X' (eb b (.sl g s (trim x s n cs).1 (trim x s n cs).2)) u:=by
 have h1:=yz hX b t hs hf;unfold eL at hr;rw [he] at hr h1;simp only [sn] at hr;cases x with
 | none=>simp only at hr; subst hr; exact h1
 | some p=>
  obtain ⟨l,m⟩:=p;simp only at hr;obtain ⟨h2,base,C,k,h3,h4,rfl,h5⟩:=hr;rw [h3] at h1;cases g with
  | none=>
   simp only [eb,trim] at h1 ⊢;rw [I9,I8];exact MU h1 h2 h4 h5
  | some g=>
   simp only [eb,trim] at h1 ⊢;exact MU h1 h2 h4 h5
theorem Rel.step {C:Ctx} {H H':List T} {w w':World} {st st':St} {aJ:List (Array Value)} {S S':List (Nat × RT)} (h:Rel C H w st aJ S) {f:D->D} (gf:gC st'.rt S') (fP:st'.tm=gd (oR f) st.tm) (MV:st'.up=st.up.map (gd (oR f)))
  (dT:∀ d u,bp w (af C w S H) S d u->bp w' (af C w' S' H') S' (f d) u) (cW:Mem C w' S' H') (hk:Kept C w' S' H'):Rel C H' w' st' aJ S':=by
 refine ⟨gf,cW,?_,hk⟩;rw [fP,MV,show gd (oR f) st.tm::st.up.map (gd (oR f))=(st.tm::st.up).map (gd (oR f)) from rfl];exact h.ov.map _ (fun _ _=>WV dT)
theorem Rel.rJ {C:Ctx} {H H':List T} {w w':World} {st st':St} {aJ:List (Array Value)} {S S':List (Nat × RT)} (h:Rel C H w st aJ S) (gf:gC st'.rt S') (fP:st'.tm=st.tm) (MV:st'.up=st.up)
  (dT:∀ d u,bp w (af C w S H) S d u->bp w' (af C w' S' H') S' d u) (cW:Mem C w' S' H') (hk:Kept C w' S' H'):Rel C H' w' st' aJ S':=by
 refine ⟨gf,cW,?_,hk⟩;rw [fP,MV];exact h.ov.mono (fun _ _=>wH dT)
def GT (g:D->D) (t t1:T):Prop:=(∃ d d1 u,t=.v d u/\t1=.v d1 u/\bH d1=g (bH d))∨((∃ s n cap a xs,t=.own s n cap a xs)/\t1=t)
structure SR (g:D->D) (S S1:List (Nat × RT)):Prop where
 look:∀ r R1,lk S1 r=some R1->∃ R,lk S r=some R/\R1.box=R.box/\bZ (GT g) R.cs R1.cs
 iD:cA S1=cA S
theorem GT.val {g:D->D} {t t1:T} (h:GT g t t1):t1.val=t.val/\t1.ft=t.ft:=by
 rcases h with ⟨d,d1,u,rfl,rfl,_⟩ | ⟨_,rfl⟩
 ·exact ⟨rfl,rfl⟩
 ·exact ⟨rfl,rfl⟩
theorem GT.acj {g:D->D} {ts ts1:List T} (h:bZ (GT g) ts ts1):ax ts1=ax ts:=by
 induction h with
 | nil=>rfl
 | cons h1 _ ih=>simp [ax,h1.val.1,ih]
theorem SR.refl (S:List (Nat × RT)):SR id S S:=by
 refine ⟨fun r R1 h=>⟨R1,h,rfl,?_⟩,rfl⟩;refine dk rfl (fun i a b ha hb=>?_);rw [ha,mN] at hb;subst hb;cases a with
 | v d u=>exact .inl ⟨d,d,u,rfl,rfl,rfl⟩
 | own s n cap aa xs=>exact .inr ⟨⟨s,n,cap,aa,xs,rfl⟩,rfl⟩
def fT (g:D->D):T->T
 | .v d u=>.v (fg g (bH d)) u
 | t=>t
def fS (g:D->D):List (Nat × RT)->List (Nat × RT)
 | []=>[]
 | (k,R)::t=>(k,⟨R.box,R.cs.map (fT g)⟩)::fS g t
structure lr (g:D->D):Prop where
 sl:∀ b s n cs,g (.sl b s n cs)=.sl b s n cs
 hole:∀ s n,g (.hole s n)=.hole s n
 no:∀ d,sn d=none->sn (g d)=none
theorem WY {d:D} (h:sn d=none):bH d=d:=by
 cases d<;>first | rfl | simp [sn] at h
theorem Cn (d:D):bH (bH d)=bH d:=by
 cases d with
 | sl b s n cs=>cases b<;>rfl
 | _=>rfl
theorem aay {d:D} {p:Nat × Nat} (h:sn (bH d)=some p):(∃ b s n cs,bH d=.sl (some b) s n cs)∨∃ s n,bH d=.hole s n:=by
 cases d with
 | sl b s n cs=>
  cases b with
  | none=>simp [bH,sn] at h
  | some b=>exact .inl ⟨b,s,n,cs,rfl⟩
 | hole s n=>exact .inr ⟨s,n,rfl⟩
 | _=>simp [bH,sn] at h
theorem lr.ack {g:D->D} (hg:lr g) {d:D} (h:sn d=none):sn (fg g d)=none:=by
 cases d<;>first | rfl | (simp [sn] at h; done) | exact hg.no _ rfl
theorem lr.acm {g:D->D} (hg:lr g) (d:D):sn (fg g d)=sn d:=by
 cases d<;>first | rfl | (simp only [fg,hg.sl,hg.hole]; done) | exact hg.no _ rfl
theorem lr.leaf {g:D->D} (hg:lr g) (d:D):bH (fg g (bH d))=fg g (bH d):=by
 cases hs:sn (bH d) with
 | none=>exact WY (hg.ack hs)
 | some p=>
  rcases aay hs with ⟨b,s,n,cs,h⟩ | ⟨s,n,h⟩
  ·rw [h];simp [fg,hg.sl,bH]
  ·rw [h];simp [fg,hg.hole,bH]
theorem LR {g:D->D} (hg:lr g) (t:T):(fT g t).er=fg g t.er:=by
 cases t with
 | v d u=>simp only [fT,T.er]; exact hg.leaf d
 | own s n cap a xs=>simp [fT,T.er,fg,hg.sl]
theorem lD (g:D->D) (S:List (Nat × RT)) (k:Nat):lk (fS g S) k=(lk S k).map fun R=>⟨R.box,R.cs.map (fT g)⟩:=by
 induction S with
 | nil=>rfl
 | cons e t ih=>
  obtain ⟨j,R⟩:=e;simp only [fS,lk];split<;>simp [ih]
theorem aaz {α:Type} (f:α->α) (l:List (Nat × α)) (k:Nat):lk (gd f l) k=(lk l k).map f:=by
 induction l with
 | nil=>rfl
 | cons e t ih=>
  obtain ⟨j,v⟩:=e;simp only [gd,lk];split<;>simp [ih]
theorem pD {g:D->D} (hg:lr g) {l:List (Nat × List D)} {S:List (Nat × RT)} (h:gC l S):gC (gd (List.map (fg g)) l) (fS g S):=by
 intro k;rw [aaz,lD,h k];cases lk S k with
 | none=>rfl
 | some R=>
  simp only [MD,mN,eO,age];apply ajw;intro t _;simp [LR hg]
theorem Zk (g:D->D) (t:T):(fT g t).ft=t.ft:=by cases t<;>rfl
theorem tX (g:D->D) (S:List (Nat × RT)):cA (fS g S)=cA S:=by
 induction S with
 | nil=>rfl
 | cons e t ih=>
  obtain ⟨k,R⟩:=e;simp only [fS,cA,ih,RT.ft]
  congr 2
  rw [nr,nr,age]
  congr 2
  funext t;exact Zk g t
theorem RN {g:D->D} (hg:lr g) (S:List (Nat × RT)):SR (fg g) S (fS g S):=by
 refine ⟨fun r R1 h=>?_,tX g S⟩;rw [lD] at h;cases hr:lk S r with
 | none=>simp [hr] at h
 | some R=>
  simp only [hr,MD,mN] at h;subst h;refine ⟨R,rfl,rfl,dk (by simp) (fun i a b ha hb=>?_)⟩
  simp only [adp,ha,MD,mN] at hb;subst hb;cases a with
  | v d u=>exact .inl ⟨d,_,u,rfl,rfl,hg.leaf d⟩
  | own s n cap aa xs=>exact .inr ⟨⟨s,n,cap,aa,xs,rfl⟩,rfl⟩
theorem Dc (g:D->D) {cs:List T} {p:Nat} {q:List Nat}:ay (cs.map (fT g)) (p::q)=ay cs (p::q):=by
 simp only [ay,adp];cases cs[p]? with
 | none=>rfl
 | some t=>cases t<;>rfl
theorem QL (g:D->D) {cs:List T} {bx:Option Nat} {q:List Nat}:bN bx (cs.map (fT g)) q=bN bx cs q:=by
 cases q with
 | nil=>rfl
 | cons p q=>
  simp only [bN,adp];cases cs[p]? with
  | none=>rfl
  | some t=>cases t<;>rfl
theorem qu {g:D->D} (hg:lr g) {w:World} {X:Bool->Nat->Prop} {S:List (Nat × RT)} {d:D} {u:Value} (h:bp w X S d u):bp w X (fS g S) d u:=by
 cases d with
 | ref r q o x=>
  intro t2 h2;unfold cr at h2;rw [lD] at h2;cases hr:lk S r with
  | none=>simp [hr] at h2
  | some R=>
   simp only [hr,MD] at h2;cases q with
   | nil=>
    simp only [ay,adp] at h2;cases ho:R.cs[o]? with
    | none=>simp [ho] at h2
    | some t=>
     simp only [ho,MD,mN] at h2;subst h2;have:=h t (by simp [cr,hr,ay,ho])
     cases t with
     | own s n cap aa xs=>exact this
     | v d0 u0=>
      unfold eL at this ⊢;rw [LR hg];simp only [T.er,hg.acm] at this ⊢;exact this
   | cons p q=>
    rw [Dc] at h2;exact h t2 (by unfold cr; rw [hr]; exact h2)
 | ptr r q o=>
  intro R' dO;rw [lD] at dO;cases hr:lk S r with
  | none=>simp [hr] at dO
  | some R=>
   simp only [hr,MD,mN] at dO;subst dO;exact ⟨(h R hr).1,fun b off ha=>(h R hr).2 b off (by rw [QL] at ha; exact ha)⟩
 | _=>exact h
theorem SR.rK {g:D->D} {S S1:List (Nat × RT)} (h:SR g S S1) {r:Nat} {R1:RT} (hr:lk S1 r=some R1):∃ R,lk S r=some R/\R1.box=R.box/\R1.cs.length=R.cs.length/\ax R1.cs=ax R.cs/\∀ (i:Nat) (t1:T),R1.cs[i]?=some t1->∃ t:T,R.cs[i]?=some t/\GT g t t1:=by
 obtain ⟨R,h1,h2,h3⟩:=h.look r R1 hr;refine ⟨R,h1,h2,h3.len.symm,GT.acj h3,fun i t1 hi=>?_⟩;have hl:=h3.len;obtain ⟨cK,_⟩:=aaa.1 hi;obtain ⟨t1',h4,h5⟩:=h3.get (ace (by omega:i < R.cs.length))
 rw [hi,mN] at h4;subst h4;exact ⟨_,ace (by omega),h5⟩
section
variable {C:Ctx} {H H':List T} {w:World} {S S1 S':List (Nat × RT)}
theorem jH (eI:∀ k∈cA S'++ah H',k∈cA S++ah H) (b:Bool) (k:Nat) (h:af C w S H b k):af C w S' H' b k:=by
 obtain ⟨h1,h2,h3,h4⟩:=h;have:k∉cA S'++ah H':=fun hk=>by
  rcases sE.1 (eI k hk) with h | h
  ·exact h2 h
  ·exact h3 h
 exact ⟨h1,fun h=>this (sE.2 (.inl h)),fun h=>this (sE.2 (.inr h)),h4⟩
theorem QM (hm:Mem C w S H) {g:D->D} (hS:SR g S S1) {r:Nat} {q:List Nat} {o:Nat} {t t':T} (hc:kA S1 S' r q o t t') (hv:t'.val=t.val) (hs:bA w (af C w S' H') t'∨∃ d u,t'=.v d u/\q=[]/\∀ R,lk S r=some R->R.box.isSome=true/\bp w (af C w S' H') S' (bH d) u)
  (eR:(cA S'++ah H').Nodup) (eI:∀ k∈cA S'++ah H',k∈cA S++ah H) (hh:bC w (af C w S' H') H') (dT:∀ d u,bp w (af C w S H) S d u->bp w (af C w S' H') S' (g d) u) (qv:∀ d u,Ext w (af C w S H) d u->Ext w (af C w S' H') (g d) u):Mem C w S' H':=by
 have hX:∀ b k,af C w S H b k->af C w S' H' b k:=jH eI;have cu:∀ b k,af C w S H b k->af C w S' H' b k/\w.heap[k]?=w.heap[k]?:=fun b k h=>⟨hX b k h,rfl⟩;have cell:∀ {bx:Bool} {t0 t1:T},jg w (af C w S H) S bx t0->GT g t0 t1->jg w (af C w S' H') S' bx t1:=by
  intro bx t0 t1 h0 hg;rcases hg with ⟨d,d1,u,rfl,rfl,he⟩ | ⟨⟨s,n,cap,a,xs,rfl⟩,rfl⟩
  ·simp only [jg] at h0 ⊢;rw [he];rcases h0 with h0 | ⟨hb,h0⟩
   ·exact .inl (qv _ _ h0)
   ·exact .inr ⟨hb,dT _ _ h0⟩
  ·exact dL cu _ h0 (fun _ _=>rfl)
 refine ⟨eR,?_,hh,fun k hk=>hm.lt k (eI k hk)⟩;intro r' R' dO;obtain ⟨R1,cs',l,h1,h2,h3,h4,rfl⟩:=hc.ex;by_cases he:r'=r
 ·subst he;rw [cx,mN] at dO;subst dO;obtain ⟨R,g1,g2,g3,g4,g5⟩:=hS.rK h1;obtain ⟨k1,k2⟩:=hm.root r' R g1;cases q with
  | nil=>
   simp only [ay,mN] at h2;simp only [dG,mN] at h4;subst h2; subst h4;obtain ⟨cK,hto⟩:=aaa.1 h3;have gL:ax (R1.cs.set o t')=ax R.cs:=by
    rw [<- g4,pO,hv];apply agk;intro j;by_cases hj:o=j
    ·subst hj;rw [ac5 (by rw [bK]; exact cK),fh,h3]; rfl
    ·rw [acu hj]
   refine ⟨?_,?_⟩
   ·simp only [List.length_set];rw [gL,g3,g2]; exact k1
   ·intro t0 kB;obtain ⟨j,hj⟩:=adA.1 kB;simp only at hj;by_cases I4:o=j
    ·subst I4;rw [ac5 cK,mN] at hj;subst hj;rcases hs with hs | ⟨d,u,rfl,_,hs⟩
     ·cases t' with
      | v d u=>exact .inl hs
      | own s n cap a xs=>exact hs
     ·obtain ⟨hb,hs⟩:=hs R g1;exact .inr ⟨by rw [g2]; exact hb,hs⟩
    ·rw [acu I4] at hj;obtain ⟨QN,e1,e2⟩:=g5 j _ hj;have:=cell (k2 _ (aci e1)) e2;rw [<- g2] at this;exact this
  | cons p q=>
   have ri:bA w (af C w (pt S1 r' ⟨R1.box,cs'⟩) H') t':=by
    rcases hs with hs | ⟨d,u,_,hq,_⟩
    ·exact hs
    ·simp at hq
   have gL:=(mj h4).1;have hlen:=(mj h4).2;refine ⟨?_,?_⟩
   ·simp only;rw [gL,hlen,g4,g3,g2]; exact k1
   ·intro t0 kB;obtain ⟨j,hj⟩:=adA.1 kB;simp only at hj;rw [ay] at h2;rw [dG] at h4;cases hp:R1.cs[p]? with
    | none=>simp [hp] at h2
    | some x=>
     cases x with
     | v d u=>simp [hp] at h2
     | own s n cap a xs=>
      simp only [hp] at h2 h4;cases hx:dG (fun l=>l.set o t') xs q with
      | none=>simp [hx] at h4
      | some kt=>
       simp only [hx,mN] at h4;subst h4;obtain ⟨cK,_⟩:=aaa.1 hp;by_cases tL:p=j
       ·subst tL;rw [ac5 cK,mN] at hj;subst hj;obtain ⟨QN,e1,e2⟩:=g5 p _ hp;have e3:=cell (k2 _ (aci e1)) e2;simp only [jg,bA] at e3 ⊢;obtain ⟨f1,f2,f3,f4⟩:=e3;obtain ⟨f5,f6⟩:=aaq ri hv f4 h2 h3 hx;have pT:kt.length=xs.length:=by have:=congrArg List.length f6; simpa [bK] using this
        exact ⟨f1,by rw [pT]; exact f2,by rw [f6]; exact f3,f5⟩
       ·rw [acu tL] at hj;obtain ⟨QN,e1,e2⟩:=g5 j _ hj;have:=cell (k2 _ (aci e1)) e2;rw [<- g2] at this;exact this
 ·rw [dE _ _ he] at dO;obtain ⟨R,g1,g2,g3,g4,g5⟩:=hS.rK dO;obtain ⟨k1,k2⟩:=hm.root r' R g1;refine ⟨?_,?_⟩
  ·rw [g4,g3,g2]; exact k1
  ·intro t0 kB;obtain ⟨j,hj⟩:=adA.1 kB;obtain ⟨QN,e1,e2⟩:=g5 j _ hj;have:=cell (k2 _ (aci e1)) e2;rw [<- g2] at this;exact this
end
theorem WZ {cs:List T} {o:Nat} {t t':T} (ho:cs[o]?=some t) (hv:t'.val=t.val):ax (cs.set o t')=ax cs:=by
 rw [pO,hv];apply agk;intro j;by_cases hj:o=j
 ·subst hj;rw [ac5 (by rw [bK]; exact (aaa.1 ho).1),fh,ho]; rfl
 ·rw [acu hj]
theorem kA.par {S S':List (Nat × RT)} {r:Nat} {q:List Nat} {o:Nat} {t t':T} (hc:kA S S' r q o t t') (hv:t'.val=t.val) {r':Nat} {R':RT} (h:lk S' r'=some R'):∃ R,lk S r'=some R/\R'.box=R.box/\ax R'.cs=ax R.cs:=by
 obtain ⟨R,cs',l,h1,h2,h3,h4,rfl⟩:=hc.ex;by_cases he:r'=r
 ·subst he;rw [cx,mN] at h;subst h;refine ⟨R,h1,rfl,?_⟩;cases q with
  | nil=>
   simp only [ay,mN] at h2;simp only [dG,mN] at h4;subst h2; subst h4;exact WZ h3 hv
  | cons p q=>exact (mj h4).1
 ·rw [dE _ _ he] at h;exact ⟨R',h,rfl,rfl⟩
theorem kA.Ja {S S':List (Nat × RT)} {r:Nat} {q:List Nat} {o:Nat} {t t':T} (hc:kA S S' r q o t t') {r':Nat} {R:RT} (h:lk S r'=some R):∃ R',lk S' r'=some R'/\R'.box=R.box/\R'.cs.length=R.cs.length:=by
 obtain ⟨R0,cs',l,h1,h2,h3,h4,rfl⟩:=hc.ex;by_cases he:r'=r
 ·subst he;rw [h1,mN] at h;subst h;refine ⟨_,cx _ _ _,rfl,?_⟩;cases q with
  | nil=>
   simp only [dG,mN] at h4;subst h4; simp
  | cons p q=>exact (mj h4).2
 ·exact ⟨R,by rw [dE _ _ he]; exact h,rfl,rfl⟩
theorem Dd {st st':St} {S:List (Nat × RT)} (gf:gC st.rt S) {r:Nat} {q:List Nat} {o:Nat} {t t':T} {R:RT} {l:List T} (h1:lk S r=some R) (h2:ay R.cs q=some l) (h3:l[o]?=some t) (h:st.gI r q o t'.er=some st'):
  ∃ S',kA S S' r q o t t'/\gC st'.rt S'/\st'.tm=st.tm/\st'.up=st.up/\st'.of=st.of:=by
 unfold St.gI at h;rw [gf,h1] at h;simp only [MD,acf] at h;obtain ⟨cs',h4⟩:=ML (f:=fun l=>l.set o t') h2;rw [h4] at h;simp only [MD,mN] at h;subst h;exact ⟨pt S r ⟨R.box,cs'⟩,⟨R,cs',l,h1,h2,h3,h4,rfl⟩,BF gf r ⟨R.box,cs'⟩,rfl,rfl,rfl⟩
theorem aaA:∀ {a b:List T},a.Sublist b->(ah a).Sublist (ah b):=by
 intro a b h
 induction h with
 | slnil=>exact adK _
 | cons x _ ih=>rw [ah]; exact ih.trans (agM _ _)
 | cons_cons x _ ih=>rw [ah,ah]; exact af4 (adK _) ih
theorem acn {w:World} {X:Bool->Nat->Prop} {s n cap:Nat} {a:Option (Nat × Nat)} {ts:List T} (hs:bA w X (.own s n cap a ts)) {x:Option (Nat × Nat)} {u:Value} (hr:eL x (.own s n cap a ts) u):
  ∃ t:T,t.er=.sl none s (trim x s n (aX ts)).1 (trim x s n (aX ts)).2/\t.val=u/\bA w X t/\t.ft.Sublist (T.own s n cap a ts).ft:=by
 cases x with
 | none=>
  simp only [eL,sn,T.er] at hr;exact ⟨.own s n cap a ts,rfl,hr.symm,hs,adK _⟩
 | some p=>
  obtain ⟨l,m⟩:=p;simp only [eL,sn,T.er,T.val,tK,Value.slice.injEq] at hr;obtain ⟨h1,base,C,k,⟨h2,_,h3⟩,h4,rfl,h5⟩:=hr;subst h2; subst h3;simp only [bA] at hs;obtain ⟨g1,g2,g3,g4⟩:=hs;refine ⟨.own s m (cap - l) (a.map fun p=>(p.1,p.2+k*s)) ((ts.drop (l*s)).take (m*s)),?_,?_,?_,?_⟩
  ·simp only [T.er,trim,vR,vS]
  ·simp only [T.val,tK,Option.map_map]
   congr 1
   cases a<;>simp [eS]
  ·simp only [bA];refine ⟨by omega,?_,?_,?_⟩
   ·rw [acG,af1,g2];have:l*s+m*s<=n*s:=by rw [<- af2]; exact adl _ h1
    omega
   ·cases a with
    | none=>simp only at g3; simp only [ajz]; omega
    | some p=>
     obtain ⟨b,off⟩:=p;simp only [MD];obtain ⟨c,e,fz,k1,k2,k3,k4⟩:=g3;refine ⟨c,e,fz,k1,k2,?_,?_⟩
     ·rcases h5 with h5 | h5
      ·rw [h5];have:k*s<=cap*s:=adl _ h4;omega
      ·subst h5;have:k*s+(cap - k)*s=cap*s:=by rw [<- af2]; congr 1; omega
       omega
     ·intro j u hj;rw [cz,ag6,ag5,<- cz,ael] at hj;split at hj
      ·rename_i cK;rw [aen] at hj;have hm:m≠0:=fun e=>by simp [e] at cK
       have:k=l:=by omega
       subst this;rw [adJ];exact k4 _ _ hj
      ·simp at hj
   ·rw [bY] at g4 ⊢;exact fun t ht=>g4 t (List.mem_of_mem_drop (agN ht))
  ·simp only [T.ft];refine af4 ?_ (aaA ((List.take_sublist _ _).trans (List.drop_sublist _ _)));cases a<;>exact adK _
structure pU (S S':List (Nat × RT)):Prop where
 fwd:∀ r R,lk S r=some R->∃ R',lk S' r=some R'/\R'.box=R.box/\ax R'.cs=ax R.cs
theorem pU.refl (S:List (Nat × RT)):pU S S:=⟨fun _ R h=>⟨R,h,rfl,rfl⟩⟩
theorem pU.trans {S S' zo:List (Nat × RT)} (h:pU S S') (h':pU S' zo):pU S zo:=⟨fun r R hr=>by
 obtain ⟨R1,h1,h2,h3⟩:=h.fwd r R hr;obtain ⟨R2,h4,h5,h6⟩:=h'.fwd r R1 h1;exact ⟨R2,h4,h5.trans h2,h6.trans h3⟩⟩
theorem yA {C:Ctx} {w:World} {S S':List (Nat × RT)} {H H':List T} (hk:Kept C w S H) (eI:∀ k∈cA S'++ah H',k∈cA S++ah H) (hp:∀ r R',lk S' r=some R'->∃ R,lk S r=some R/\R'.box=R.box/\ax R'.cs=ax R.cs):Kept C w S' H':=
 ⟨hk.os,hk.tape,hk.output,hk.size,hk.block,fun k h=>hk.iD k (eI k h),fun r b vs hm R' hr=>by
  obtain ⟨R,h1,h2,h3⟩:=hp r R' hr;have:=hk.par r b vs hm R h1;rw [h2,h3]; exact this⟩
section
variable {C:Ctx} {H:List T} {w:World} {st st':St} {aJ:List (Array Value)} {S:List (Nat × RT)}
theorem EL (h:Rel C H w st aJ S) {d:D} {u:Value} (hu:Ext w (af C w S H) d u) (hd:bH d=d):Rel C (.v d u::H) w st aJ S:=by
 have hf:∀ b k,af C w S H b k->af C w S (.v d u::H) b k:=jH (by simp [ah,T.ft])
 have cu:∀ b k,af C w S H b k->af C w S (.v d u::H) b k/\w.heap[k]?=w.heap[k]?:=fun b k hh=>⟨hf b k hh,rfl⟩;have dT:∀ d' u',bp w (af C w S H) S d' u'->bp w (af C w S (.v d u::H)) S d' u':=fun d' u' hh=>sQ cu (fun _ _ h=>h) hh;refine h.rJ h.rt rfl rfl dT ⟨by simpa [ah,T.ft] using h.mem.nd,?_,?_,by simpa [ah,T.ft] using h.mem.lt⟩ (yA h.kept (by simp [ah,T.ft]) (fun r R' hr=>⟨R',hr,rfl,rfl⟩))
 ·intro r R hR;obtain ⟨h1,h2⟩:=h.mem.root r R hR;refine ⟨h1,fun t ht=>?_⟩;have:=h2 t ht;cases t with
  | v d' u'=>
   rcases this with this | ⟨hb,this⟩
   ·exact .inl (gu cu _ _ this)
   ·exact .inr ⟨hb,dT _ _ this⟩
  | own s n cap a xs=>exact dL cu _ this (fun _ _=>rfl)
 ·simp only [bC,bA];exact ⟨by rw [hd]; exact gu cu _ _ hu,gv cu _ h.mem.hand (fun _ _=>rfl)⟩
theorem ui (h:Rel C H w st aJ S) {d d':D} {u:Value} (hu:bp w (af C w S H) S d u) (ht:iS st d=some (d',st')):
  ∃ t S',Rel C (t::H) w st' aJ S'/\t.er=d'/\t.val=u/\(∀ d u,bp w (af C w S H) S d u->bp w (af C w S' (t::H)) S' d u)/\pU S S'/\(st'.tm=st.tm/\st'.up=st.up/\st'.of=st.of)/\(∀ r q o x,d=.ref r q o x->∃ d0 u0,(sn d0).isSome=true/\bH d0=d0/\cr S' r q o=some (.v d0 u0)/\(x=none->lq (.v d0 u0) t)):=by
 have plain:∀ {d:D},Ext w (af C w S H) d u->bH d=d->∃ t S',Rel C (t::H) w st aJ S'/\t.er=d/\t.val=u/\(∀ d u,bp w (af C w S H) S d u->bp w (af C w S' (t::H)) S' d u)/\pU S S'/\(st.tm=st.tm/\st.up=st.up/\st.of=st.of)/\S=S':=by
  intro d hu hd;refine ⟨.v d u,S,EL h hu hd,hd,rfl,fun d' u' hh=>sQ (fun b k hh=>⟨jH (by simp [ah,T.ft]) b k hh,rfl⟩) (fun _ _ h=>h) hh,pU.refl _,⟨rfl,rfl,rfl⟩,rfl⟩
 have Ag:∀ {d:D},(∀ r q o x,d≠.ref r q o x)->Ext w (af C w S H) d u->bH d=d->∃ t S',Rel C (t::H) w st aJ S'/\t.er=d/\t.val=u/\(∀ d u,bp w (af C w S H) S d u->bp w (af C w S' (t::H)) S' d u)/\pU S S'/\(st.tm=st.tm/\st.up=st.up/\st.of=st.of)/\(∀ r q o x,d=.ref r q o x->∃ d0 u0,(sn d0).isSome=true/\bH d0=d0/\cr S' r q o=some (.v d0 u0)/\(x=none->lq (.v d0 u0) t)):=by
  intro d hn hu hd;obtain ⟨t,S',a1,a2,a3,a4,a5,a6,_⟩:=plain hu hd;exact ⟨t,S',a1,a2,a3,a4,a5,a6,fun r q o x e=>absurd e (hn r q o x)⟩
 cases d with
 | int k n=>simp only [iS,mN,sF] at ht; obtain ⟨rfl,rfl⟩:=ht; exact Ag (by simp) hu rfl
 | bool b=>simp only [iS,mN,sF] at ht; obtain ⟨rfl,rfl⟩:=ht; exact Ag (by simp) hu rfl
 | str s=>simp only [iS,mN,sF] at ht; obtain ⟨rfl,rfl⟩:=ht; exact Ag (by simp) hu rfl
 | undef=>simp only [iS,mN,sF] at ht; obtain ⟨rfl,rfl⟩:=ht; exact Ag (by simp) hu rfl
 | hole s n=>
  simp only [iS,mN,sF] at ht; obtain ⟨rfl,rfl⟩:=ht;obtain ⟨t,S',a1,a2,a3,a4,a5,a6,_⟩:=plain (d:=.undef) (by simp [Ext]) rfl
  exact ⟨t,S',a1,a2,a3,a4,a5,a6,by simp⟩
 | sl g s n cs=>
  simp only [iS,mN,sF] at ht; obtain ⟨rfl,rfl⟩:=ht;cases g with
  | none=>exact absurd hu (by simp [bp,Ext])
  | some g=>exact Ag (by simp) hu rfl
 | nil s=>
  simp only [iS,mN,sF] at ht; obtain ⟨rfl,rfl⟩:=ht;have hu':u=.slice none 0 0:=hu;subst hu';have eG:(T.own s 0 0 none []).ft=[]:=rfl;have hf:∀ b k,af C w S H b k->af C w S (.own s 0 0 none []::H) b k:=jH (by simp [ah,eG])
  have cu:∀ b k,af C w S H b k->af C w S (.own s 0 0 none []::H) b k/\w.heap[k]?=w.heap[k]?:=fun b k hh=>⟨hf b k hh,rfl⟩;have dT:∀ d' u',bp w (af C w S H) S d' u'->bp w (af C w S (.own s 0 0 none []::H)) S d' u':=fun d' u' hh=>sQ cu (fun _ _ h=>h) hh;refine ⟨.own s 0 0 none [],S,?_,rfl,rfl,dT,pU.refl _,⟨rfl,rfl,rfl⟩,by simp⟩
  refine h.rJ h.rt rfl rfl dT ⟨by simpa [ah,eG] using h.mem.nd,?_,?_,by simpa [ah,eG] using h.mem.lt⟩ (yA h.kept (by simp [ah,eG]) (fun r R' hr=>⟨R',hr,rfl,rfl⟩))
  ·intro r R hR;obtain ⟨h1,h2⟩:=h.mem.root r R hR;refine ⟨h1,fun t ht=>?_⟩;have:=h2 t ht;cases t with
   | v d' u'=>
    rcases this with this | ⟨hb,this⟩
    ·exact .inl (gu cu _ _ this)
    ·exact .inr ⟨hb,dT _ _ this⟩
   | own s n cap a xs=>exact dL cu _ this (fun _ _=>rfl)
  ·simp only [bC,bA];exact ⟨by simp,gv cu _ h.mem.hand (fun _ _=>rfl)⟩
 | ref r q o x=>
  simp only [iS] at ht;split at ht
  ·rename_i s n cs hc;split at ht
   case h_2=>simp at ht
   rename_i aP iv;simp only [mN,sF] at ht;obtain ⟨rfl,rfl⟩:=ht;obtain ⟨R,l,t0,h1,h2,h3,h4,h5⟩:=iu h.rt hc;obtain ⟨cap,a,ts,rfl,rfl⟩:=uM h5.symm;have w7:=h.mem;have du:bA w (af C w S H) (.own s n cap a ts):=by
    obtain ⟨_,g2⟩:=w7.root r R h1;cases q with
    | nil=>
     simp only [ay,mN] at h2;subst h2;exact g2 _ (aci h3)
    | cons p q=>
     rw [ay] at h2;cases hp:R.cs[p]? with
     | none=>simp [hp] at h2
     | some y=>
      cases y with
      | v d u=>simp [hp] at h2
      | own s' n' cap' a' kt=>
       simp only [hp] at h2;have hs:bA w (af C w S H) (.own s' n' cap' a' kt):=g2 _ (aci hp);simp only [bA] at hs;exact fW (vT hs.2.2.2 h2) h3
   obtain ⟨t,e1,e2,e3,e4⟩:=acn du (hu _ h4);obtain ⟨S',De,ahe,aco,acp,ahf⟩:=Dd (t':=.v (.hole s n) (T.own s n cap a ts).val) h.rt h1 h2 h3 iv;obtain ⟨A,B,f1,f2⟩:=De.fts;simp only [T.ft,acg] at f2;have eI:∀ k∈cA S'++ah (t::H),k∈cA S++ah H:=by
    intro k hk;rw [f1];rw [f2] at hk;simp only [ah,sE] at hk ⊢;rcases hk with (hk | hk) | (hk | hk)
    ·exact .inl (.inl (.inl hk))
    ·exact .inl (.inr hk)
    ·exact .inl (.inl (.inr (e4.mem hk)))
    ·exact .inr hk
   have eR:(cA S'++ah (t::H)).Nodup:=by
    have h0:=w7.nd;rw [f1] at h0;rw [f2];have p1:(A++(T.own s n cap a ts).ft++B++ah H).Perm (A++B++((T.own s n cap a ts).ft++ah H)):=by
     simp only [acz];refine agn A ?_;rw [<- acz,<- acz];exact List.Perm.append_right _ agY
    have h00:=p1.nodup_iff.1 h0;refine ajC ?_ h00;simp only [ah];exact af4 (adK _) (af4 e4 (adK _))
   have cu:jo w w (af C w S H) (af C w S' (t::H)):=fun b k hh=>⟨jH eI b k hh,rfl⟩;have dT:∀ d u,bp w (af C w S H) S d u->bp w (af C w S' (t::H)) S' d u:=fun d u hh=>MT cu De (.inr ⟨rfl,fun p h=>by simpa [T.er,bH,sn] using h⟩) hh
   have cW:Mem C w S' (t::H):=QM w7 (SR.refl S) De rfl (.inl (by simp [bA,bH,Ext])) eR eI (by
     simp only [bC];exact ⟨dL cu _ e3 (fun _ _=>rfl),gv cu _ w7.hand (fun _ _=>rfl)⟩) dT (fun d u hh=>gu cu _ _ hh)
   exact ⟨t,S',h.rJ ahe aco acp dT cW (yA h.kept eI (fun r R' hr=>De.par rfl hr)),e1,e2,dT,⟨fun r R hr=>by
    obtain ⟨R',k1,k2,k3⟩:=De.Ja hr;obtain ⟨R0,k4,k5,k6⟩:=De.par rfl k1;rw [hr,mN] at k4;subst k4;exact ⟨R',k1,k2,k6⟩⟩,⟨aco,acp,ahf⟩,fun r' q' o' x' he=>by
    simp only [D.ref.injEq] at he;obtain ⟨rfl,rfl,rfl,rfl⟩:=he;refine ⟨_,_,rfl,rfl,De.Db,fun hx=>⟨?_,fun p he=>?_⟩⟩
    ·subst hx;have:=hu _ h4;simp only [eL,sn,T.er] at this;rw [e2,this]; rfl
    ·subst hx;rw [e1] at he
     simpa [T.er,bH,sn,trim] using he⟩
  ·rename_i g s n cs hc;simp only [mN,sF] at ht;obtain ⟨rfl,rfl⟩:=ht;obtain ⟨R,l,t0,h1,h2,h3,h4,h5⟩:=iu h.rt hc;have w7:=h.mem;have du:bA w (af C w S H) t0:=by
    obtain ⟨_,g2⟩:=w7.root r R h1;cases q with
    | nil=>
     simp only [ay,mN] at h2;subst h2;have:=g2 _ (aci h3);cases t0 with
     | own s n cap a xs=>exact this
     | v d u=>
      rcases this with h3 | ⟨_,h3⟩
      ·exact h3
      ·simp only [T.er] at h5;simp only [bA];rw [<- h5] at h3 ⊢;exact h3
    | cons p q=>
     rw [ay] at h2;cases hp:R.cs[p]? with
     | none=>simp [hp] at h2
     | some y=>
      cases y with
      | v d u=>simp [hp] at h2
      | own s' n' cap' a' kt=>
       simp only [hp] at h2;have hs:bA w (af C w S H) (.own s' n' cap' a' kt):=g2 _ (aci hp);simp only [bA] at hs;exact fW (vT hs.2.2.2 h2) h3
   have j9:t0.ft=[]:=by
    cases t0 with
    | v d u=>rfl
    | own s' n' cap a ts=>simp [T.er] at h5
   have:=BG (X':=af C w S H) (fun _ _ h=>h) false h5.symm du (by simp [j9]) (hu _ h4)
   obtain ⟨t,S',a1,a2,a3,a4,a5,a6,a7⟩:=plain this rfl;refine ⟨t,S',a1,a2,a3,a4,a5,a6,fun r' q' o' x' he=>?_⟩;simp only [D.ref.injEq] at he;obtain ⟨rfl,rfl,rfl,rfl⟩:=he;cases t0 with
   | own s' n' cap a ts=>simp [T.er] at h5
   | v d0 u0=>
    simp only [T.er] at h5;have hd0:d0=.sl (some g) s n cs:=by
     cases d0 with
     | sl g0 s0 n0 cs0=>
      cases g0 with
      | none=>simp [bH] at h5
      | some g0=>exact h5.symm
     | _=>simp [bH] at h5
    subst hd0;refine ⟨_,u0,rfl,rfl,a7▸h4,fun hx=>⟨?_,fun p he=>?_⟩⟩
    ·subst hx;have:=hu _ h4;simp only [eL,sn,T.er,bH] at this;rw [a3]; exact this
    ·subst hx;rw [a2] at he
     simpa [eb,trim,sn,T.er,bH] using he
  ·simp at ht
 | _=>simp [iS] at ht
end
theorem qw (r:Nat):lr (cw r):=
 ⟨fun _ _ _ _=>rfl,fun _ _=>rfl,fun d h=>by cases d<;>simp only [cw]<;>first | rfl | (split<;>rfl) | exact h⟩
theorem RO (r:Nat):lr (eE r):=
 ⟨fun _ _ _ _=>rfl,fun _ _=>rfl,fun d h=>by
  cases d with
  | ref r' q o x=>simp only [eE]; split<;>rfl
  | ptr r' q o=>cases q<;>simp only [eE]<;>first | rfl | (split<;>rfl)
  | _=>exact h⟩
theorem mr (r:Nat) (q:List Nat) (o:Nat) (e:Bool):lr (cq r q o e):=
 ⟨fun _ _ _ _=>rfl,fun _ _=>rfl,fun d h=>by
  cases d with
  | ref r' q' o' x=>
   simp only [cq];split
   ·split
    ·rfl
    ·split<;>rfl
    ·rfl
   ·rfl
  | ptr r' q' o'=>
   simp only [cq];split
   ·split<;>rfl
   ·rfl
  | _=>exact h⟩
theorem Ah (r:Nat) (q:List Nat) (o r1:Nat) (q1:List Nat) (o1:Nat):lr (rB r q o r1 q1 o1):=
 ⟨fun _ _ _ _=>rfl,fun _ _=>rfl,fun d h=>by
  cases d with
  | ref r' q' o' x=>
   simp only [rB];split
   ·split<;>rfl
   ·rfl
  | ptr r' q' o'=>
   simp only [rB];split
   ·split<;>rfl
   ·rfl
  | _=>exact h⟩
theorem rL {g:D->D} (hg:lr g) (hs:∀ d,g d=d∨(∃ r q o x,d=.ref r q o x)∨∃ r q o,d=.ptr r q o) {w:World} {X:Bool->Nat->Prop} {d:D} {u:Value} (h:Ext w X d u):Ext w X (fg g d) u:=by
 rcases hs d with h1 | ⟨r,q,o,x,rfl⟩ | ⟨r,q,o,rfl⟩
 ·cases d<;>first | (simp only [fg,h1]; exact h) | (simp [Ext] at h)
 ·simp [Ext] at h
 ·simp [Ext] at h
theorem RP (r:Nat) (d:D):cw r d=d∨(∃ r q o x,d=.ref r q o x)∨∃ r q o,d=.ptr r q o:=by
 cases d<;>first | exact .inl rfl | exact .inr (.inl ⟨_,_,_,_,rfl⟩) | exact .inr (.inr ⟨_,_,_,rfl⟩)
theorem RQ (r:Nat) (d:D):eE r d=d∨(∃ r q o x,d=.ref r q o x)∨∃ r q o,d=.ptr r q o:=by
 cases d<;>first | exact .inl rfl | exact .inr (.inl ⟨_,_,_,_,rfl⟩) | exact .inr (.inr ⟨_,_,_,rfl⟩)
theorem yB (r:Nat) (q:List Nat) (o:Nat) (e:Bool) (d:D):cq r q o e d=d∨(∃ r q o x,d=.ref r q o x)∨∃ r q o,d=.ptr r q o:=by
 cases d<;>first | exact .inl rfl | exact .inr (.inl ⟨_,_,_,_,rfl⟩) | exact .inr (.inr ⟨_,_,_,rfl⟩)
theorem uj {w:World} {X:Bool->Nat->Prop} {S:List (Nat × RT)} {g:D->D} {d:D} {u:Value} (h:bp w X S d u):fg g d=g d:=by
 cases d<;>first | rfl | (simp [bp,Ext] at h)
section
variable {C:Ctx} {H Hs:List T} {w w':World} {st:St} {aJ:List (Array Value)} {S:List (Nat × RT)}
theorem Zl {S:List (Nat × RT)} {k:Nat} (r:RT):∃ A B bB,cA S=A++bB++B/\cA (pt S k r)=A++r.ft++B:=by
 cases h:lk S k with
 | none=>exact ⟨cA S,[],[],by simp,by rw [RJ h]; simp⟩
 | some R=>
  obtain ⟨A,B,h1,h2⟩:=kv h;exact ⟨A,B,R.ft,h1,h2 r⟩
theorem MW (h:Rel C (Hs++H) w st aJ S) {r:Nat} {R:RT} (eG:∀ k∈R.ft,k∈ah Hs∨w.heap.size<=k):
  ∀ k∈cA (pt (fS (cw r) S) r R)++ah H,k∈cA S++ah (Hs++H)∨w.heap.size<=k:=by
 obtain ⟨A,B,bB,f1,f2⟩:=Zl (S:=fS (cw r) S) (k:=r) R;rw [tX] at f1;intro k hk;rw [f2] at hk;rw [f1,aY];simp only [sE] at hk ⊢;rcases hk with ((hk | hk) | hk) | hk
 ·exact .inl (.inl (.inl (.inl hk)))
 ·rcases eG k hk with h2 | h2
  ·exact .inl (.inr (.inl h2))
  ·exact .inr h2
 ·exact .inl (.inl (.inr hk))
 ·exact .inl (.inr (.inr hk))
theorem og (h:Rel C (Hs++H) w st aJ S) {r:Nat} {R:RT} (eG:∀ k∈R.ft,k∈ah Hs∨w.heap.size<=k) (cI:w.heap.size<=w'.heap.size) (hold:∀ k,k < w.heap.size->w'.heap[k]?=w.heap[k]?):
  jo w w' (af C w S (Hs++H)) (af C w' (pt (fS (cw r) S) r R) H):=by
 have eI:=MW (r:=r) h eG;intro b k hk;refine ⟨⟨by have:=hk.1; omega,fun hx=>?_,fun hx=>?_,hk.2.2.2⟩,hold k hk.1⟩
 ·rcases eI k (sE.2 (.inl hx)) with h2 | h2
  ·rcases sE.1 h2 with h3 | h3
   ·exact hk.2.1 h3
   ·exact hk.2.2.1 h3
  ·have:=hk.1; omega
 ·rcases eI k (sE.2 (.inr hx)) with h2 | h2
  ·rcases sE.1 h2 with h3 | h3
   ·exact hk.2.1 h3
   ·exact hk.2.2.1 h3
  ·have:=hk.1; omega
theorem EM (h:Rel C (Hs++H) w st aJ S) {r:Nat} {R:RT} (eG:∀ k∈R.ft,k∈ah Hs∨w.heap.size<=k) (cI:w.heap.size<=w'.heap.size) (hold:∀ k,k < w.heap.size->w'.heap[k]?=w.heap[k]?):
  ∀ d u,bp w (af C w S (Hs++H)) S d u->bp w' (af C w' (pt (fS (cw r) S) r R) H) (pt (fS (cw r) S) r R) (cw r d) u:=
 fun _ _ hd=>WW (og h eG cI hold) rfl (qu (qw r) hd)
theorem yC (h:Rel C (Hs++H) w st aJ S) {r:Nat} {R:RT} (hR:MN w' (af C w' (pt (fS (cw r) S) r R) H) (pt (fS (cw r) S) r R) R)
  (eG:R.ft.Nodup/\∀ k∈R.ft,k∈ah Hs∨w.heap.size<=k) (cK:∀ k∈R.ft,k < w'.heap.size) (cI:w.heap.size<=w'.heap.size) (hold:∀ k,k < w.heap.size->w'.heap[k]?=w.heap[k]?)
  (me:w'.os=w.os) (qx:w'.tape=w.tape) (rM:w'.output=w.output) (hP:∀ p∈C.P0,p.1≠r):
  Rel C H w' { st.eX (cw r) with rt:=pz (st.eX (cw r)).rt r (aX R.cs) } aJ (pt (fS (cw r) S) r R)/\
  ∀ d u,bp w (af C w S (Hs++H)) S d u->bp w' (af C w' (pt (fS (cw r) S) r R) H) (pt (fS (cw r) S) r R) (cw r d) u:=by
 obtain ⟨A,B,bB,f1,f2⟩:=Zl (S:=fS (cw r) S) (k:=r) R;rw [tX] at f1;have eI:=MW (r:=r) h eG.2;have cu:=og (r:=r) h eG.2 cI hold;have dT:=EM (r:=r) h eG.2 cI hold;have eR:(cA (pt (fS (cw r) S) r R)++ah H).Nodup:=by
  have h0:=h.mem.nd;rw [f1,aY] at h0;rw [f2];have acr:=h.mem.lt;rw [f1,aY] at acr;simp only [zX,sE] at h0 ⊢;obtain ⟨⟨⟨a1,a2,a3⟩,a4,a5⟩,⟨b1,b2,b3⟩,c⟩:=h0;have new:∀ x,x∈R.ft->∀ y,(y∈A∨y∈B∨y∈ah H)->x≠y:=by
   intro x hx y hy e;subst e;rcases eG.2 x hx with h2 | h2
   ·rcases hy with hy | hy | hy
    ·exact c x (.inl (.inl hy)) x (.inl h2) rfl
    ·exact c x (.inr hy) x (.inl h2) rfl
    ·exact b3 x h2 x hy rfl
   ·have:x < w.heap.size:=acr x (by
     simp only [sE];rcases hy with hy | hy | hy
     ·exact .inl (.inl (.inl hy))
     ·exact .inl (.inr hy)
     ·exact .inr (.inr hy))
    omega
  refine ⟨⟨⟨a1,eG.1,fun x hx y hy e=>new y hy x (.inl hx) e.symm⟩,a4,?_⟩,b2,?_⟩
  ·intro x hx y hy e;rcases hx with hx | hx
   ·exact a5 x (.inl hx) y hy e
   ·exact new x hx y (.inr (.inl hy)) e
  ·intro x hx y hy e;rcases hx with (hx | hx) | hx
   ·exact c x (.inl (.inl hx)) y (.inr hy) e
   ·exact new x hx y (.inr (.inr hy)) e
   ·exact c x (.inr hx) y (.inr hy) e
 refine ⟨h.step (f:=cw r) ?_ rfl rfl dT ⟨eR,?_,?_,?_⟩ ⟨by rw [me]; exact h.kept.os,by rw [qx]; exact h.kept.tape,by rw [rM]; exact h.kept.output,agf h.kept.size cI,?_,?_,?_⟩,dT⟩
 ·exact BF (pD (qw r) h.rt) r R
 ·intro r' R' eF;by_cases he:r'=r
  ·subst he;rw [cx,mN] at eF;subst eF;exact hR
  ·rw [dE _ _ he,lD] at eF;cases hx:lk S r' with
   | none=>simp [hx] at eF
   | some R0=>
    simp only [hx,MD,mN] at eF;subst eF;obtain ⟨k1,k2⟩:=h.mem.root r' R0 hx;have lA:∀ k∈R0.ft,k∈cA S:=by
     intro k hk;obtain ⟨A',B',e1,_⟩:=kv hx;rw [e1]; simp [hk]
    refine ⟨?_,?_⟩
    ·simp only [aeR];have hv:ax (R0.cs.map (fT (cw r)))=ax R0.cs:=by
      rw [cz,cz,age]
      congr 1
      funext t;cases t<;>rfl
     rw [hv];cases hb:R0.box with
     | none=>trivial
     | some b=>
      simp only [hb] at k1 ⊢;obtain ⟨c,e,fz,g1,g2⟩:=k1;have Zm:b < w.heap.size:=h.mem.lt b (sE.2 (.inl (lA b (by simp [RT.ft,hb]))))
      exact ⟨c,e,fz,by rw [hold b Zm]; exact g1,g2⟩
    ·intro t ht;simp only [acv] at ht;obtain ⟨t0,kB,rfl⟩:=ht;have:=k2 t0 kB;cases t0 with
     | v d u=>
      simp only [fT,jg] at this ⊢;rw [(qw r).leaf];rcases this with this | ⟨hb,this⟩
      ·exact .inl (rL (qw r) (RP r) (gu cu _ _ this))
      ·exact .inr ⟨hb,by rw [uj this]; exact dT _ _ this⟩
     | own s n cap a xs=>
      simp only [fT];refine dL cu _ this (fun k hk=>hold k (h.mem.lt k (sE.2 (.inl (lA k ?_)))));obtain ⟨i,hi⟩:=adA.1 kB;obtain ⟨A',B',e1,_⟩:=dN R0.cs i _ hi;rw [RT.ft,e1]; simp [hk]
 ·have:=h.mem.hand;rw [dV] at this;refine gv cu _ this.2 (fun k hk=>hold k (h.mem.lt k ?_));rw [aY]; simp [hk]
 ·intro k hk;rw [f2] at hk;simp only [sE] at hk;have hl:=h.mem.lt k;rw [f1,aY] at hl;simp only [sE] at hl;rcases hk with ((hk | hk) | hk) | hk
  ·have:=hl (.inl (.inl (.inl hk))); omega
  ·exact cK k hk
  ·have:=hl (.inl (.inr hk)); omega
  ·have:=hl (.inr (.inr hk)); omega
 ·intro k hk hf;rw [hold k (by have:=h.kept.size; omega)]
  exact h.kept.block k hk hf
 ·intro k hk;rcases eI k hk with h2 | h2
  ·exact h.kept.iD k h2
  ·have:=h.kept.size;exact .inr (by omega)
 ·intro r' b vs hm R' eF;have cQ:=hP _ hm;rw [dE _ _ cQ,lD] at eF;cases hx:lk S r' with
  | none=>simp [hx] at eF
  | some R0=>
   simp only [hx,MD,mN] at eF;subst eF;obtain ⟨g1,g2⟩:=h.kept.par r' b vs hm R0 hx;refine ⟨g1,fun hb=>?_⟩;rw [<- g2 hb];simp only [cz,age]
   congr 1
   funext t;cases t<;>rfl
end
def qy:T->List Nat->Option T
 | t,[]=>some t
 | .own _ _ _ _ cs,o::q=>match cs[o]? with
  | some t=>qy t q
  | none=>none
 | _,_::_=>none
theorem T5 (y:List Nat):∀ t:T,CZ t.er y=(qy t y).map T.er:=by
 induction y with
 | nil=>intro t; cases t<;>simp [CZ,qy]
 | cons o q ih=>
  intro t;cases t with
  | v d u=>
   simp only [T.er,qy,ajz];cases d with
   | sl g s n cs=>cases g<;>simp [bH,CZ]
   | _=>simp [bH,CZ]
  | own s n cap a cs=>
   simp only [T.er,CZ,qy,ir];cases cs[o]? with
   | none=>rfl
   | some t=>simp [ih]
theorem aaB {w:World} {X:Bool->Nat->Prop} (y:List Nat):∀ {t t2:T},bA w X t->qy t y=some t2->bA w X t2/\∀ k∈t2.ft,k∈t.ft:=by
 induction y with
 | nil=>
  intro t t2 hs h;have:t2=t:=by cases t<;>simpa [qy] using h.symm
  subst this;exact ⟨hs,fun _ h=>h⟩
 | cons o q ih=>
  intro t t2 hs h;cases t with
  | v d u=>simp [qy] at h
  | own s n cap a cs=>
   simp only [qy] at h;cases hc:cs[o]? with
   | none=>simp [hc] at h
   | some t1=>
    simp only [hc] at h;simp only [bA] at hs;obtain ⟨h1,h2⟩:=ih (fW hs.2.2.2 hc) h;refine ⟨h1,fun k hk=>?_⟩;obtain ⟨A,B,e,_⟩:=dN cs o _ hc;simp [T.ft,e,h2 k hk]
theorem T6 (y:List Nat):∀ {t:T} {cs:List T} {o:Nat},cs[o]?=some t->∀ {q':List Nat} {o':Nat},q'++[o']=o::y->(match ay cs q' with | some l=>l[o']? | none=>none)=qy t y:=by
 induction y with
 | nil=>
  intro t cs o ho q' o' he;cases q' with
  | nil=>
   simp only [acw,acS,and_true] at he;subst he;simp only [ay,ho];cases t<;>rfl
  | cons p q'=>simp at he
 | cons z y ih=>
  intro t cs o ho q' o' he;cases q' with
  | nil=>simp at he
  | cons p q'=>
   simp only [acE,acS] at he;obtain ⟨rfl,he⟩:=he;simp only [ay,ho];cases t with
   | v d u=>rfl
   | own s n cap a xs=>
    simp only [qy];cases hz:xs[z]? with
    | none=>
     simp only;cases q' with
     | nil=>
      simp only [acw,acS] at he;obtain ⟨rfl,_⟩:=he;simp [ay,hz]
     | cons p' q''=>
      simp only [acE,acS] at he;obtain ⟨rfl,_⟩:=he;simp [ay,hz]
    | some t1=>exact ih hz he
theorem W0 {q:List Nat} {o:Nat} {y:List Nat} {t:T}:∀ {cs l:List T},ay cs q=some l->l[o]?=some t->∀ {q':List Nat} {o':Nat},under (q++[o]) (q'++[o'])=some y->(match ay cs q' with | some l=>l[o']? | none=>none)=qy t y:=by
 induction q with
 | nil=>
  intro cs l hc ho q' o' hu;simp only [ay,mN] at hc;subst hc;have:=jn hu;simp only [acw,aeg] at this;exact T6 y ho this
 | cons p q ih=>
  intro cs l hc ho q' o' hu;rw [ay] at hc;cases hp:cs[p]? with
  | none=>simp [hp] at hc
  | some x=>
   cases x with
   | v d u=>simp [hp] at hc
   | own s n cap a xs=>
    simp only [hp] at hc;cases q' with
    | nil=>have:=jn hu; simp at this
    | cons p' q'=>
     simp only [acE,under] at hu;split at hu
     ·rename_i e;subst e;simp only [ay,hp];exact ih hc ho hu
     ·simp at hu
section
variable {w w':World} {X X':Bool->Nat->Prop} {S S1 S':List (Nat × RT)} (hX:jo w w' X X')
include hX
theorem aaC {r:Nat} {q:List Nat} {o:Nat} {t t':T} (hc:kA S S' r q o t t') (hs:bA w X t) (hf:∀ k∈t.ft,X' false k/\w'.heap[k]?=w.heap[k]?) {d:D} {u:Value} (h:bp w X S d u):bp w' X' S' (uD r q o t.er d) u:=by
 cases d with
 | ref r' q' o' x=>
  simp only [uD];split
  ·rename_i hr;subst hr;cases hu:under (q++[o]) (q'++[o']) with
   | none=>
    simp only;intro t2 h2;obtain ⟨t1,h1,hl⟩:=hc.uP (.inr hu) h2;exact kz hl (h t1 h1)
   | some y=>
    simp only;obtain ⟨R,cs',l,h1,h2,h3,h4,rfl⟩:=hc.ex;have cB:cr S r' q' o'=qy t y:=by
     unfold cr;rw [h1];exact W0 h2 h3 hu
    cases hd:qy t y with
    | none=>rw [T5,hd]; simp [bp,Ext]
    | some t2=>
     rw [T5,hd];simp only [MD];cases he:t2.er with
     | sl g s n cs=>
      simp only;obtain ⟨g1,g2⟩:=aaB y hs hd;have hr:=h t2 (by rw [cB,hd])
      have ri:bA w' X' t2:=dL hX _ g1 (fun k hk=>(hf k (g2 k hk)).2);exact fq (BG (X':=X') (fun _ _ h=>h) false he ri (fun k hk=>(hf k (g2 k hk)).1) hr)
     | _=>simp [bp,Ext]
  ·rename_i hr;intro t2 h2;obtain ⟨t1,h1,hl⟩:=hc.uP (.inl hr) h2;exact kz hl (h t1 h1)
 | ptr r' q' o'=>exact yy hX hc (ex:=true) (by simp) h
 | dK cs o'=>exact od hX h
 | _=>simp only [uD]; exact yy hX hc (ex:=true) (by simp) h
end
section
variable {C:Ctx} {H H':List T} {w w':World} {S S1 S':List (Nat × RT)}
theorem T7 (hm:Mem C w S H) {g:D->D} (hS:SR g S S1) {r:Nat} {q:List Nat} {o:Nat} {t t':T} (hc:kA S1 S' r q o t t') {R0:RT} (QO:lk S r=some R0) {b off:Nat} (wI:q=[]->R0.box=some b/\off=0) (hq:q≠[]->bN R0.box R0.cs q=some (b,off)) (hu:QI w w' b (off+o) t'.val)
  (hs:bA w' (af C w' S' H') t'∨∃ d u,t'=.v d u/\q=[]/\bp w' (af C w' S' H') S' (bH d) u) (cu:jo w w' (af C w S H) (af C w' S' H'))
  (eR:(cA S'++ah H').Nodup) (eI:∀ k∈cA S'++ah H',k∈cA S++ah H) (hh:bC w' (af C w' S' H') H') (dT:∀ d u,bp w (af C w S H) S d u->bp w' (af C w' S' H') S' (g d) u) (qv:∀ d u,Ext w' (af C w' S' H') d u->Ext w' (af C w' S' H') (g d) u) (cI:w'.heap.size=w.heap.size):Mem C w' S' H':=by
 have Co:b∈R0.ft:=by
  cases q with
  | nil=>obtain ⟨h1,_⟩:=wI rfl; simp [RT.ft,h1]
  | cons p q=>simp [RT.ft,pC (hq (by simp))]
 obtain ⟨A0,B0,f1,_⟩:=kv QO;have acs:=hm.nd;rw [f1] at acs;have Zn:∀ {r1:Nat} {R1:RT},lk S r1=some R1->r1≠r->∀ k∈R1.ft,k≠b:=by
  intro r1 R1 h1 cQ k hk e;subst e;obtain ⟨A1,B1,e1,e2⟩:=kv QO;have hx:lk (pt S r ⟨none,[]⟩) r1=some R1:=by rw [dE _ _ cQ]; exact h1
  obtain ⟨A2,B2,e3,_⟩:=kv hx;have cW:k∈cA (pt S r ⟨none,[]⟩):=by rw [e3]; simp [hk]
  have h0:(RT.mk none []).ft=[]:=rfl;rw [e2,h0] at cW;have hn:=hm.nd;rw [e1] at hn;simp only [acg,sE,zX] at cW hn;rcases cW with cW | cW
  ·exact hn.1.1.2.2 k cW k Co rfl
  ·exact hn.1.2.2 k (.inr Co) k cW rfl
 have aeV:∀ t0:T,bA w (af C w S H) t0->b∉t0.ft->bA w' (af C w' S' H') t0:=fun t0 h0 hb=>dL cu _ h0 (fun k hk=>by
  obtain ⟨_,_,_,_,_,h3⟩:=hu;exact h3 k (fun e=>hb (e▸hk)))
 have cell:∀ {bx:Bool} {t0 t1:T},jg w (af C w S H) S bx t0->GT g t0 t1->b∉t0.ft->jg w' (af C w' S' H') S' bx t1:=by
  intro bx t0 t1 h0 hg hb;rcases hg with ⟨d,d1,u,rfl,rfl,he⟩ | ⟨⟨s,n,cap,a,xs,rfl⟩,rfl⟩
  ·simp only [jg] at h0 ⊢;rw [he];rcases h0 with h0 | ⟨hb,h0⟩
   ·exact .inl (qv _ _ (gu cu _ _ h0))
   ·exact .inr ⟨hb,dT _ _ h0⟩
  ·exact aeV _ h0 hb
 refine ⟨eR,?_,hh,fun k hk=>by rw [cI]; exact hm.lt k (eI k hk)⟩
 intro r' R' dO;obtain ⟨R1,cs',l,h1,h2,h3,h4,rfl⟩:=hc.ex;by_cases he:r'=r
 ·subst he;rw [cx,mN] at dO;subst dO;obtain ⟨R,g1,g2,g3,g4,g5⟩:=hS.rK h1;rw [QO,mN] at g1;subst g1;obtain ⟨k1,k2⟩:=hm.root r' R0 QO;have Ai:R0.ft.Nodup:=(zX.1 (zX.1 (zX.1 acs).1).1).2.1;cases q with
  | nil=>
   obtain ⟨vY,vU⟩:=wI rfl;subst vU;simp only [ay,mN] at h2;simp only [dG,mN] at h4;subst h2; subst h4;obtain ⟨cK,hto⟩:=aaa.1 h3;simp only [vY] at k1;rw [RT.ft,vY] at Ai;simp only [Option.toList,acE,acw,adW] at Ai;refine ⟨?_,?_⟩
   ·simp only [List.length_set];rw [g2,vY];simp only;rw [pO,g4,g3];exact QJ hu (by omega) k1 (by rw [bK]; exact acD _)
   ·intro t0 kB;obtain ⟨j,hj⟩:=adA.1 kB;simp only at hj;by_cases I4:o=j
    ·subst I4;rw [ac5 cK,mN] at hj;subst hj;rcases hs with hs | ⟨d,u,rfl,_,hs⟩
     ·cases t' with
      | v d u=>exact .inl hs
      | own s n cap a xs=>exact hs
     ·exact .inr ⟨by rw [g2,vY]; rfl,hs⟩
    ·rw [acu I4] at hj;obtain ⟨QN,e1,e2⟩:=g5 j _ hj;have:=cell (k2 _ (aci e1)) e2 (fun hb=>Ai.1 (by
      obtain ⟨A',B',e3,_⟩:=dN R0.cs j _ e1;rw [e3]; simp [hb]))
     rw [<- g2] at this;exact this
  | cons p q=>
   have ha:=hq (by simp)
   have ri:bA w' (af C w' (pt S1 r' ⟨R1.box,cs'⟩) H') t':=by
    rcases hs with hs | ⟨d,u,_,hq,_⟩
    ·exact hs
    ·simp at hq
   have gL:=(mj h4).1;have hlen:=(mj h4).2;rw [ay] at h2;rw [dG] at h4;cases hp:R1.cs[p]? with
   | none=>simp [hp] at h2
   | some x=>
    cases x with
    | v d u=>simp [hp] at h2
    | own s n cap a xs=>
     simp only [hp] at h2 h4;cases hx:dG (fun l=>l.set o t') xs q with
     | none=>simp [hx] at h4
     | some kt=>
      simp only [hx,mN] at h4;obtain ⟨QN,e1,e2⟩:=g5 p _ hp;have Zo:R0.cs[p]?=some (.own s n cap a xs):=by
       rcases e2 with ⟨d,d1,u,_,e2,_⟩ | ⟨_,e2⟩
       ·simp at e2
       ·rw [e1,e2]
      have du:bA w (af C w S H) (.own s n cap a xs):=k2 _ (aci Zo);obtain ⟨A',B',e3,e4⟩:=dN R0.cs p _ Zo;have rN:(ah R0.cs).Nodup:=by rw [RT.ft] at Ai; exact (zX.1 Ai).2.1
      have qz:b∈(T.own s n cap a xs).ft:=by
       rw [bN] at ha;simp only [Zo] at ha;cases q with
       | nil=>simp only at ha; subst ha; simp [T.ft,fC]
       | cons p' q'=>simp only at ha; simp [T.ft,pC ha]
      have aeW:bA w' (af C w' (pt S1 r' ⟨R1.box,cs'⟩) H') (.own s n cap a kt):=by
       have h5:bC w (af C w S H) [T.own s n cap a xs]:=by simp only [bC]; exact ⟨du,trivial⟩
       have h6:(ah [T.own s n cap a xs]).Nodup:=by
        simp only [ah,acg];rw [e3] at rN;exact (zX.1 (zX.1 rN).1).2.1
       have h7:bN none [T.own s n cap a xs] (0::q)=some (b,off):=by
        rw [bN] at ha;simp only [Zo] at ha;simp only [bN,acH];exact ha
       have h8:=aar (cs':=[T.own s n cap a kt]) (l:=l) cu ri hu (q:=q) h5 h6 (by simp only [ay,acH]; exact h2) h7 (aaa.1 h3).1 (by simp [dG,hx])
       simp only [bC] at h8;exact h8.1
      refine ⟨?_,?_⟩
      ·simp only;rw [gL,hlen,g4,g3,g2];cases hb:R0.box with
       | none=>trivial
       | some b0=>
        simp only [hb] at k1 ⊢;refine GW hu (fun e=>?_) k1;subst e;rw [RT.ft,hb] at Ai;simp only [Option.toList,acE,acw,adW] at Ai;exact Ai.1 (by rw [e3]; simp [qz])
      ·intro t0 kB;subst h4;obtain ⟨j,hj⟩:=adA.1 kB;simp only at hj;obtain ⟨cK,_⟩:=aaa.1 hp;by_cases tL:p=j
       ·subst tL;rw [ac5 cK,mN] at hj;subst hj;exact aeW
       ·rw [acu tL] at hj;obtain ⟨t01,e5,e6⟩:=g5 j _ hj;have vU:b∉t01.ft:=by
         intro hb;have h7:=e4 (.v .undef undef);have Ey:(R0.cs.set p (.v .undef undef))[j]?=some t01:=by rw [acu tL]; exact e5
         obtain ⟨A2,B2,e7,_⟩:=dN _ j t01 Ey;have fD:b∈ah (R0.cs.set p (.v .undef undef)):=by rw [e7]; simp [hb]
         rw [h7] at fD;rw [e3] at rN;simp only [T.ft,acg,sE] at fD;rw [zX,zX] at rN;rcases fD with fD | fD
         ·exact rN.1.2.2 b fD b qz rfl
         ·exact rN.2.2 b (sE.2 (.inr qz)) b fD rfl
        have:=cell (k2 _ (aci e5)) e6 vU;rw [<- g2] at this;exact this
 ·rw [dE _ _ he] at dO;obtain ⟨R,g1,g2,g3,g4,g5⟩:=hS.rK dO;obtain ⟨k1,k2⟩:=hm.root r' R g1;refine ⟨?_,?_⟩
  ·rw [g4,g3,g2];cases hb:R.box with
   | none=>trivial
   | some b0=>
    simp only [hb] at k1 ⊢;exact GW hu (Zn g1 he b0 (by simp [RT.ft,hb])) k1
  ·intro t0 kB;obtain ⟨j,hj⟩:=adA.1 kB;obtain ⟨QN,e1,e2⟩:=g5 j _ hj;have:=cell (k2 _ (aci e1)) e2 (fun hb=>by
    refine Zn g1 he b ?_ rfl;obtain ⟨A',B',e3,_⟩:=dN R.cs j _ e1;rw [RT.ft,e3]; simp [hb])
   rw [<- g2] at this;exact this
end
theorem aaD {w:World} {b off fj:Nat} {us:List Value} (h:lx w b off fj us) {o:Nat} (ho:o < fj) (u:Value):QI w (w.setCell ⟨b,off+o,none⟩ u) b (off+o) u:=by
 obtain ⟨c,e,fz,h1,_,h3,_⟩:=h;refine ⟨c,e,fz,h1,?_,fun k hk=>?_⟩
 ·simp [World.setCell,ago,h1]
 ·simp only [World.setCell,ago];rw [if_neg (by simpa using (agU hk))]
theorem Df {H H':List T} (h:H.Perm H'):(ah H).Perm (ah H'):=by
 induction h with
 | nil=>exact .refl _
 | cons x _ ih=>simp only [ah]; exact .append (.refl _) ih
 | swap x y l=>
  simp only [ah];rw [<- acz,<- acz];exact .append agY (.refl _)
 | trans _ _ h1 h2=>exact h1.trans h2
theorem Aj {C:Ctx} {w:World} {S:List (Nat × RT)} {H H':List T} (h:H.Perm H'):af C w S H=af C w S H':=by
 funext b k;simp only [af,(Df h).mem_iff]
theorem Rel.perm {C:Ctx} {H H':List T} {w:World} {st:St} {aJ:List (Array Value)} {S:List (Nat × RT)} (hp:H.Perm H') (h:Rel C H w st aJ S):Rel C H' w st aJ S:=by
 have hf:=Aj (C:=C) (w:=w) (S:=S) hp;have hfp:=Df hp;obtain ⟨h1,⟨m1,m2,m3,m4⟩,h3,k⟩:=h;rw [hf] at m2 m3 h3;refine ⟨h1,⟨(List.Perm.append (List.Perm.refl (cA S)) hfp).nodup_iff.1 m1,m2,?_,fun k hk=>m4 k ?_⟩,h3,⟨k.os,k.tape,k.output,k.size,k.block,fun x hx=>k.iD x ?_,k.par⟩⟩
 ·rw [bY] at m3 ⊢;exact fun t ht=>m3 t (hp.mem_iff.2 ht)
 ·simpa [hfp.mem_iff] using hk
 ·simpa [hfp.mem_iff] using hx
def hM (C:Ctx) (w w':World) (S S':List (Nat × RT)) (H H':List T) (f:D->D):Prop:=∀ d u,bp w (af C w S H) S d u->bp w' (af C w' S' H') S' (f d) u
def lP (st st':St):Prop:=st'.tm=st.tm/\st'.up=st.up/\st'.of=st.of
theorem lP.refl (st:St):lP st st:=⟨rfl,rfl,rfl⟩
theorem lP.trans {a b c:St} (h:lP a b) (h':lP b c):lP a c:=⟨h'.1.trans h.1,h'.2.1.trans h.2.1,h'.2.2.trans h.2.2⟩
section
variable {C:Ctx} {w:World} {aJ:List (Array Value)}
theorem EN:∀ {ds ds':List D} {us:List Value} {H:List T} {st st':St} {S:List (Nat × RT)},Rel C H w st aJ S->bZ (bp w (af C w S H) S) ds us->re st ds=some (ds',st')->
  ∃ ts S',Rel C (ts++H) w st' aJ S'/\aX ts=ds'/\ax ts=us/\hM C w w S S' H (ts++H) id/\pU S S'/\lP st st':=by
 intro ds
 induction ds with
 | nil=>
  intro ds' us H st st' S h hu ht;cases hu;simp only [re,mN,sF] at ht;obtain ⟨rfl,rfl⟩:=ht;exact ⟨[],S,h,rfl,rfl,fun _ _ h=>h,pU.refl _,lP.refl _⟩
 | cons d ds ih=>
  intro ds' us H st st' S h hu ht;cases hu with
  | cons sS Cp=>
  simp only [re] at ht;split at ht
  case h_2=>simp at ht
  rename_i d1 aP h1;split at ht
  case h_2=>simp at ht
  rename_i gn cj h2;simp only [mN,sF] at ht;obtain ⟨rfl,rfl⟩:=ht;obtain ⟨t,S1,a1,rfl,rfl,a4,a5,a6,_⟩:=ui h sS h1;obtain ⟨ts,S2,b1,rfl,rfl,b4,b5,b6⟩:=ih a1 (Cp.mono (fun _ _ hh=>a4 _ _ hh)) h2;have hp:(ts++t::H).Perm (t::ts++H):=List.perm_middle;refine ⟨t::ts,S2,b1.perm hp,by simp [aX],by simp [ax],fun d u hd=>?_,a5.trans b5,lP.trans a6 b6⟩
  have:=b4 _ _ (a4 d u hd)
  rwa [Aj hp] at this
end
structure Grown (w w':World):Prop where
 sz:w.heap.size<=w'.heap.size
 bB:∀ k,k < w.heap.size->w'.heap[k]?=w.heap[k]?
 os:w'.os=w.os
 tape:w'.tape=w.tape
 out:w'.output=w.output
theorem Grown.refl (w:World):Grown w w:=⟨acD _,fun _ _=>rfl,rfl,rfl,rfl⟩
theorem iz (w:World) (o:Obj):(w.alloc o).heap.size=w.heap.size+1:=by
 show (w.heap.push o).size=_;simp
theorem Jb (w:World) (o:Obj):(w.alloc o).heap[w.heap.size]?=some o:=by
 show (w.heap.push o)[w.heap.size]?=_;simp
theorem Grown.alloc (w:World) (o:Obj):Grown w (w.alloc o):=
 ⟨by rw [iz]; omega,fun k hk=>by
  show (w.heap.push o)[k]?=_;simp [Array.getElem?_push,Nat.ne_of_lt hk],rfl,rfl,rfl⟩
theorem Grown.drew (w:World):Grown w w.drew:=⟨acD _,fun _ _=>rfl,rfl,rfl,rfl⟩
theorem Grown.trans {a b c:World} (h:Grown a b) (h':Grown b c):Grown a c:=
 ⟨agf h.sz h'.sz,fun k hk=>(h'.bB k (agD hk h.sz)).trans (h.bB k hk),h'.os.trans h.os,h'.tape.trans h.tape,h'.out.trans h.out⟩
theorem jy (w:World) (c:Array Value) (e:TypeId) {us:List Value} {fj:Nat} (h1:fj<=c.size) (h2:∀ (j:Nat) (u:Value),us[j]?=some u->c[j]?=some u):lx (w.alloc (.cells c e)) w.heap.size 0 fj us:=
 ⟨c,e,(0,0),Jb w _,fun o _=>by simp,by omega,fun j u hj=>by rw [aef]; exact h2 j u hj⟩
theorem Rel.put {C:Ctx} {H:List T} {w:World} {st:St} {vs:Array Value} {aJ:List (Array Value)} {S:List (Nat × RT)} (h:Rel C H w st (vs::aJ) S) {t:Nat} (ht:t < vs.size) {d:D} {v:Value} (hv:ck w (af C w S H) S d v):
  Rel C H w (st.put (some t) d) (vs.setIfInBounds t v::aJ) S:=by
 obtain ⟨h1,h2,h3,h4⟩:=h;refine ⟨h1,h2,?_,h4⟩;cases h3 with
 | cons a b=>exact .cons (mb.put a ht hv) b
section
variable {C:Ctx} {H Hs:List T} {w w':World} {st st':St} {vs:Array Value} {aJ:List (Array Value)} {S:List (Nat × RT)}
theorem rO (h:Rel C (Hs++H) w st (vs::aJ) S) (hg:Grown w w') {t:Nat} {R:RT} (eG:∀ k∈R.ft,k∈ah Hs∨(w.heap.size<=k/\k < w'.heap.size)) (eR:R.ft.Nodup)
  (hR:∀ S':List (Nat × RT),jo w w' (af C w S (Hs++H)) (af C w' S' H)->(∀ d u,bp w (af C w S (Hs++H)) S d u->bp w' (af C w' S' H) S' (cw (st.of+t) d) u)->MN w' (af C w' S' H) S' R)
  (ht:t < vs.size) (hP:∀ p∈C.P0,p.1≠st.of+t) {d:Nat->D} {v:Value} (hd:∀ S' X,lk S' (st.of+t)=some R->ck w' X S' (d (st.of+t)) v) (hr:st.root (some t) (aX R.cs) d=some st'):
  ∃ S',Rel C H w' st' (vs.setIfInBounds t v::aJ) S':=by
 have W1:∀ k∈R.ft,k∈ah Hs∨w.heap.size<=k:=fun k hk=>(eG k hk).imp id (·.1);have cK:∀ k∈R.ft,k < w'.heap.size:=fun k hk=>by
  rcases eG k hk with h1 | h1
  ·have:=h.mem.lt k (sE.2 (.inr (by rw [aY]; exact sE.2 (.inl h1))))
   have:=hg.sz;omega
  ·exact h1.2
 have cu:=og (r:=st.of+t) h W1 hg.sz hg.bB;have dT:=EM (r:=st.of+t) h W1 hg.sz hg.bB;obtain ⟨h1,_⟩:=yC h (hR _ cu dT) ⟨eR,W1⟩ cK hg.sz hg.bB hg.os hg.tape hg.out hP;simp only [St.root,mN] at hr;subst hr;exact ⟨_,h1.put ht (hd _ _ (cx _ _ _))⟩
theorem G0 (h:Rel C (Hs++H) w st (vs::aJ) S) (hg:Grown w w') {t s n cap b:Nat} {ts:List T} (hb:w.heap.size<=b/\b < w'.heap.size) (hs:bC w (af C w S (Hs++H)) ts) (eI:∀ k∈ah ts,k∈ah Hs) (eR:(ah ts).Nodup)
  (hn:n<=cap/\cap<=9223372036854775807) (hl:ts.length=n*s) (fo:lx w' b 0 (cap*s) (ax ts)) (ht:t < vs.size) (hP:∀ p∈C.P0,p.1≠st.of+t) (hr:st.root (some t) [.sl none s n (aX ts)] (fun d=>.ref d [] 0 none)=some st'):
  ∃ S',Rel C H w' st' (vs.setIfInBounds t (.slice (some ⟨b,0,none⟩) n cap)::aJ) S':=by
 have vZ:∀ k∈ah ts,k < w.heap.size:=fun k hk=>h.mem.lt k (sE.2 (.inr (by rw [aY]; exact sE.2 (.inl (eI k hk)))))
 refine rO (R:=⟨none,[.own s n cap (some (b,0)) ts]⟩) h hg ?_ ?_ ?_ ht hP ?_ (by simpa [aX,T.er] using hr)
 ·intro k hk;simp only [RT.ft,ah,T.ft,fC,Option.toList,acw,acg,acE,acK] at hk;rcases hk with rfl | hk
  ·exact .inr hb
  ·exact .inl (eI k hk)
 ·simp only [RT.ft,ah,T.ft,fC,Option.toList,acw,acg,acE,adW];exact ⟨fun hk=>by have:=vZ b hk; omega,eR⟩
 ·intro S' cu dT;refine ⟨trivial,fun x hx=>?_⟩;simp only [adU] at hx;subst hx;simp only [jg,bA];exact ⟨hn,hl,fo,gv cu _ hs (fun k hk=>hg.bB k (vZ k hk))⟩
 ·intro S' X pT;simp only [ck,gp,bp];intro x hx;simp only [cr,pT,ay,acH,mN] at hx;subst hx;simp [eL,sn,T.er,T.val,tK]
theorem G1 (h:Rel C (Hs++H) w st (vs::aJ) S) (hg:Grown w w') {t b:Nat} {ts:List T} (hb:w.heap.size<=b/\b < w'.heap.size)
  (hs:∀ x∈ts,bA w (af C w S (Hs++H)) x∨∃ d u,x=.v (cw (st.of+t) d) u/\bp w (af C w S (Hs++H)) S d u) (eI:∀ k∈ah ts,k∈ah Hs) (eR:(ah ts).Nodup)
  (fo:lx w' b 0 ts.length (ax ts)) (ht:t < vs.size) (hP:∀ p∈C.P0,p.1≠st.of+t) (hr:st.root (some t) (aX ts) (fun d=>.ptr d [] 0)=some st'):
  ∃ S',Rel C H w' st' (vs.setIfInBounds t (.pointer (some ⟨b,0,none⟩))::aJ) S':=by
 have vZ:∀ k∈ah ts,k < w.heap.size:=fun k hk=>h.mem.lt k (sE.2 (.inr (by rw [aY]; exact sE.2 (.inl (eI k hk)))))
 refine rO (R:=⟨some b,ts⟩) h hg ?_ ?_ ?_ ht hP ?_ hr
 ·intro k hk;simp only [RT.ft,Option.toList,acE,acw,acK] at hk;rcases hk with rfl | hk
  ·exact .inr hb
  ·exact .inl (eI k hk)
 ·simp only [RT.ft,Option.toList,acE,acw,adW];exact ⟨fun hk=>by have:=vZ b hk; omega,eR⟩
 ·intro S' cu dT;refine ⟨fo,fun x hx=>?_⟩;rcases hs x hx with h1 | ⟨d,u,rfl,h1⟩
  ·have h2:bA w' (af C w' S' H) x:=dL cu _ h1 (fun k hk=>hg.bB k (vZ k (by
    obtain ⟨i,hi⟩:=adA.1 hx;obtain ⟨A,B,e,_⟩:=dN ts i x hi;rw [e]; simp [hk])))
   cases x with
   | v d u=>exact .inl h2
   | own s n cap a cs=>exact h2
  ·have h2:=dT d u h1;have h3:bH (cw (st.of+t) d)=cw (st.of+t) d:=by
    cases hd:cw (st.of+t) d with
    | sl g s n cs=>
     rw [hd] at h2;cases g with
     | none=>simp [bp,Ext] at h2
     | some g=>rfl
    | _=>rfl
   simp only [jg];rw [h3];exact .inr ⟨rfl,h2⟩
 ·intro S' X pT;simp only [ck,gp,bp];intro R hR;rw [pT,mN] at hR;subst hR;exact ⟨fun _=>rfl,fun b' off ha=>by simp only [bN,MD,mN,sF] at ha; obtain ⟨rfl,rfl⟩:=ha; rfl⟩
end
theorem uQ {d:D} {u:Value} (h:QK d u):bH d=d:=by
 have h1:=h default (fun _ _=>False);cases d with
 | sl g s n cs=>cases g with
  | none=>simp [Ext] at h1
  | some g=>rfl
 | _=>rfl
def leaves (ds:List D) (us:List Value):List T:=List.zipWith T.v ds us
theorem Jc {R:D->Value->Prop} {ds:List D} {us:List Value} (h:bZ R ds us) (hl:∀ d u,R d u->bH d=d):aX (leaves ds us)=ds/\ax (leaves ds us)=us/\ah (leaves ds us)=[]/\(leaves ds us).length=ds.length/\∀ x∈leaves ds us,∃ d u,x=.v d u/\R d u:=by
 induction h with
 | nil=>simp [leaves,aX,ax,ah]
 | cons h1 _ ih=>
  obtain ⟨e1,e2,e3,e4,e5⟩:=ih;simp only [leaves,List.zipWith_cons_cons,aX,ax,ah,T.er,T.val,T.ft,adj] at*;refine ⟨by rw [e1,hl _ _ h1],by rw [e2],by rw [e3]; rfl,by rw [e4],fun x hx=>?_⟩
  simp only [acK] at hx;rcases hx with rfl | hx
  ·exact ⟨_,_,rfl,h1⟩
  ·exact e5 x hx
theorem MX {ds:List D} {us:List Value} (h:bZ QK ds us):∃ ts,aX ts=ds.map rD/\ax ts=us/\ah ts=[]/\∀ w X,bC w X ts:=by
 induction h with
 | nil=>exact ⟨[],rfl,rfl,rfl,fun _ _=>by simp [bC]⟩
 | @cons d u _ _ h1 _ ih=>
  obtain ⟨ts,e1,e2,e3,e4⟩:=ih;have j9:=uQ h1;by_cases hn:∃ s,d=.nil s
  ·obtain ⟨s,rfl⟩:=hn;have hu:u=.slice none 0 0:=h1 default (fun _ _=>False);subst hu;exact ⟨.own s 0 0 none []::ts,by simp [aX,e1,T.er,rD],by simp [ax,e2,T.val,tK],by simp [ah,e3,T.ft,fC],fun w X=>by simp [bC,bA,e4]⟩
  ·have hr:rD d=d:=by cases d<;>first | rfl | exact absurd ⟨_,rfl⟩ hn
   exact ⟨.v d u::ts,by simp [aX,e1,T.er,hr,j9],by simp [ax,e2,T.val],by simp [ah,e3,T.ft],fun w X=>by simp only [bC,bA]; exact ⟨by rw [j9]; exact h1 w X,e4 w X⟩⟩
theorem v7 {ds:List D} {us:List Value} (h:bZ QK ds us) (n:Nat):∃ ts,aX ts=fu n ds/\ax ts=(List.replicate n us).flatten/\ah ts=[]/\∀ w X,bC w X ts:=by
 obtain ⟨t0,e1,e2,e3,e4⟩:=MX h
 induction n with
 | zero=>exact ⟨[],by simp [aX,fu],by simp [ax],rfl,fun _ _=>by simp [bC]⟩
 | succ n ih=>
  obtain ⟨ts,f1,f2,f3,f4⟩:=ih;refine ⟨t0++ts,?_,?_,?_,fun w X=>(dV _ _).2 ⟨e4 w X,f4 w X⟩⟩
  ·rw [pA,e1,f1]; simp [fu,aeh]
  ·rw [sH,e2,f2]; simp [aeh]
  ·rw [aY,e3,f3]; rfl
theorem v8 (z:Array Value) (n:Nat):((List.range (n*z.size)).map fun i=>z[i % z.size]!)=(List.replicate n z.toList).flatten:=by
 induction n with
 | zero=>simp
 | succ n ih=>
  rw [Nat.succ_mul,List.range_add,agG,ih,List.replicate_succ',List.flatten_append]
  congr 1
  simp only [age,aga,List.flatten_nil,acg];apply agk;intro j;simp only [adp,agt];by_cases hj:j < z.size
  ·simp only [List.getElem?_range hj,MD,Function.comp_apply,Nat.mul_add_mod_self_right,agQ hj];rw [getElem!_pos z j hj,agu hj]
  ·rw [agr (by omega),ac3 (by simp; omega)]
   rfl
theorem MY (z:Array Value) (n:Nat) (j:Nat):(madeCells z (n*z.size))[j]?=(List.replicate n z.toList).flatten[j]?:=by
 rw [<- v8,<- agt];simp [madeCells]
theorem Cq {α:Type} (l:List α) {m n:Nat} (h:m<=n) {j:Nat} {u:α} (hj:(List.replicate m l).flatten[j]?=some u):(List.replicate n l).flatten[j]?=some u:=by
 have:List.replicate n l=List.replicate m l++List.replicate (n - m) l:=by rw [List.replicate_append_replicate]; congr 1; omega
 rw [this,List.flatten_append,adx (aaa.1 hj).1];exact hj
section
variable {P:Program} {c:cn} (aw:ey c P) {C:Ctx} {Hx:List T} {w:World} {st st':St} {vs:Array Value} {aJ:List (Array Value)} {S:List (Nat × RT)} (h:Rel C Hx w st (vs::aJ) S)
include aw h
theorem W2 {e:TypeId} {i:TI} (he:c.ty e=some i) {t:Nat} (ht:t < vs.size) (hP:∀ p∈C.P0,p.1≠st.of+t) (hr:st.root (some t) i.zero (fun d=>.ptr d [] 0)=some st'):
  ∃ v w',(Instr.alloc e true (.tuple #[])).run P w=.ok v w'/\dH w w'/\∃ S',Rel C Hx w' st' (vs.setIfInBounds t v::aJ) S':=by
 obtain ⟨inf,h1,h2,h3,z,h4,h5⟩:=(aw.ty _ _ he).info;obtain ⟨e1,e2,e3,e4,e5⟩:=Jc h5 (fun _ _=>uQ);have eD:(Instr.alloc e true (.tuple #[])).run P w=.ok (.pointer (some ⟨w.heap.size,0,none⟩)) (w.alloc (.cells z.cells e)):=by
  simp [Instr.alloc,C5 h1 h4,newVar,newRow]
 refine ⟨_,_,eD,(Grown.alloc w _).bB,?_⟩;refine G1 (Hs:=[]) h (Grown.alloc w _) (ts:=leaves i.zero z.cells.toList) ⟨acD _,by rw [iz]; omega⟩ (fun x hx=>.inl ?_) (by rw [e3]; simp) (by rw [e3]; simp) ?_ ht hP (by rw [e1]; exact hr)
 ·obtain ⟨d,u,rfl,h6⟩:=e5 x hx;simp only [bA];rw [uQ h6];exact h6 _ _
 ·refine jy w _ _ (by rw [e4,h5.len]; simp) (fun j u hj=>?_)
  rw [e2] at hj
  simpa using hj
theorem MZ {t e:TypeId} {ei ti:TI} (kB:c.ty t=some ti) (Zp:ti.ty=.slice e) (he:c.ty e=some ei) {kl kc:IntKind} {l cp:Int} (h0:0<=l) (Ak:l<=cp) (hb:0 < ei.bytes/\cp*ei.bytes<=140737488355328)
  {d:Nat} (ht:d < vs.size) (hP:∀ p∈C.P0,p.1≠st.of+d) (hr:st.root (some d) [.sl none ei.size l.toNat (fu l.toNat ei.zero)] (fun d=>.ref d [] 0 none)=some st'):
  ∃ v w',(Instr.makeSlice t (.int kl l) (.int kc cp)).run P w=.ok v w'/\dH w w'/\∃ S',Rel C Hx w' st' (vs.setIfInBounds d v::aJ) S':=by
 obtain ⟨inf,h1,h2,h3,z,h4,h5⟩:=(aw.ty _ _ he).info;have zp:=(aw.ty _ _ he).len;obtain ⟨dd,g1,g2⟩:=(aw.ty _ _ kB).desc;rw [Zp] at g2;simp only [ly] at g2;subst g2;have hcp:cp<=140737488355328:=by
  have:cp*1<=cp*ei.bytes:=Int.mul_le_mul_of_nonneg_left (by omega) (by omega)
  omega
 have eD:=run_make (P:=P) w t e inf z g1 h1 h4 kl kc l cp h0 Ak (by rw [h3,Int.mul_comm]; omega) (by omega)
 refine ⟨_,_,eD,(Grown.alloc w _).bB,?_⟩;obtain ⟨ts,e1,e2,e3,e4⟩:=v7 h5 l.toNat;have ke:z.cells.size=ei.size:=by rw [<- zp,h5.len]; simp
 have hlen:ts.length=l.toNat*ei.size:=by
  have:=congrArg List.length e2;rw [bK] at this;simp only [agS,agV,agB,agy,ke] at this;exact this
 rw [<- e1] at hr;refine G0 (Hs:=[]) h (Grown.alloc w _) (ts:=ts) ⟨acD _,by rw [iz]; omega⟩ (e4 _ _) (by rw [e3]; simp) (by rw [e3]; simp) (by omega) hlen ?_ ht hP hr
 refine jy w _ _ (by rw [size_madeCells,h2]; exact acD _) (fun j u hj=>?_)
 rw [e2] at hj;rw [h2,<- ke,MY];exact Cq _ (by omega) hj
end
def nx {α:Type}:List α->Nat->List α->List α
 | cs,_,[]=>cs
 | cs,o,d::ds=>nx (cs.set o d) (o+1) ds
theorem Cr:∀ (ds cs:List D) (o:Nat),yv cs o ds=nx cs o ds
 | [],_,_=>rfl
 | d::ds,cs,o=>by simp only [yv,nx]; exact Cr ds _ _
theorem Dg {α β:Type} (f:α->β):∀ (ds cs:List α) (o:Nat),(nx cs o ds).map f=nx (cs.map f) o (ds.map f)
 | [],_,_=>rfl
 | d::ds,cs,o=>by simp only [nx,ac6,<- agP]; exact Dg f ds _ _
theorem M0 {α:Type}:∀ (ds cs:List α) (o:Nat),(nx cs o ds).length=cs.length
 | [],_,_=>rfl
 | d::ds,cs,o=>by simp only [nx]; rw [M0 ds]; simp
theorem M1 (off:Nat):∀ (l:List Value) (k:Nat) (arr:Array Value),((l.zipIdx k).foldl (fun cs (x:Value × Nat)=>cs.setIfInBounds (off+x.2) x.1) arr).toList=nx arr.toList (off+k) l
 | [],_,_=>rfl
 | v::l,k,arr=>by
  simp only [List.zipIdx_cons,List.foldl_cons,nx];rw [M1 off l (k+1)];simp [adJ]
theorem RR (off:Nat) (v arr:Array Value):(v.zipIdx.foldl (fun cs (x:Value × Nat)=>cs.setIfInBounds (off+x.2) x.1) arr).toList=nx arr.toList off v.toList:=by
 rw [<- Array.foldl_toList,Array.toList_zipIdx];exact M1 off v.toList 0 arr
def pq {α:Type} (place:Nat->Option (Nat × Nat)):List α->List (Nat × List α)->Option (List α)
 | cs,[]=>some cs
 | cs,(i,vs)::rest=>match place i with
  | some (o,k)=>if vs.length=k/\o+vs.length<=cs.length then pq place (nx cs o vs) rest else none
  | none=>none
theorem Jd {ok:D->Bool} {place:Nat->Option (Nat × Nat)}:∀ {parts:List (Nat × List D)} {cs ds:List D},mY ok place cs parts=some ds->∀ p∈parts,∀ d∈p.2,ok d=true:=by
 intro parts
 induction parts with
 | nil=>intro cs ds _ p hp; simp at hp
 | cons p parts ih=>
  intro cs ds h q hq;obtain ⟨i,vs⟩:=p;simp only [mY] at h;split at h
  case h_2=>simp at h
  split at h
  case isFalse=>simp at h
  rename_i hc;rcases acK.1 hq with rfl | hq
  ·exact fun d hd=>ab9.1 hc.2.2 d hd
  ·exact ih h q hq
theorem QP {α:Type} (er:α->D) {ok:D->Bool} {place:Nat->Option (Nat × Nat)}:∀ {parts:List (Nat × List α)} {cs:List α} {ds:List D},mY ok place (cs.map er) (parts.map fun p=>(p.1,p.2.map er))=some ds->∃ cs',pq place cs parts=some cs'/\cs'.map er=ds:=by
 intro parts
 induction parts with
 | nil=>intro cs ds h; simp only [agZ,mY,mN] at h; exact ⟨cs,rfl,h⟩
 | cons p parts ih=>
  intro cs ds h;obtain ⟨i,vs⟩:=p;simp only [ac6,mY] at h;simp only [pq];split at h
  case h_2=>simp at h
  rename_i o k hp
  try rw [hp]
  split at h
  case isFalse=>simp at h
  rename_i hc;simp only [aeR] at hc;rw [Cr,<- Dg] at h;simp only [hc.1,hc.2.1];rw [hc.1] at hc
  simpa [hc.2.1] using ih h
theorem EO {α:Type} (val:α->Value) {place:Nat->Option (Nat × Nat)}:∀ {parts:List (Nat × List α)} {qA:List (Nat × Value)} {cs cs':List α} {arr:Array Value},bZ (fun p q=>q.1=p.1/\q.2.cells.toList=p.2.map val) parts qA->pq place cs parts=some cs'->arr.toList=cs.map val->
  ∃ acx,Instr.fill place arr qA=some acx/\acx.toList=cs'.map val:=by
 intro parts
 induction parts with
 | nil=>
  intro qA cs cs' arr h1 h2 h3;cases h1;simp only [pq,mN] at h2;subst h2;exact ⟨arr,rfl,h3⟩
 | cons p parts ih=>
  intro qA cs cs' arr h1 h2 h3;obtain ⟨i,vs⟩:=p;cases h1 with
  | cons hp aeX=>
  rename_i q qs;obtain ⟨j,v⟩:=q;obtain ⟨rfl,hv⟩:=hp;simp only [pq] at h2;split at h2
  case h_2=>simp at h2
  rename_i o k hpl;split at h2
  case isFalse=>simp at h2
  rename_i hc;have Cs:v.cells.size=vs.length:=by have:=congrArg List.length hv; simpa using this
  have has:arr.size=cs.length:=by have:=congrArg List.length h3; simpa using this
  simp only [Instr.fill,hpl];rw [if_neg (by simp only [aej,decide_eq_true_eq,Cs,has,not_or]; exact ⟨by simpa using hc.1,by omega⟩)]
  refine ih aeX h2 ?_;rw [RR,h3,hv,<- Dg]
theorem W3 {α:Type}:∀ {ds cs:List α} {o:Nat} {x:α},x∈nx cs o ds->x∈cs∨x∈ds:=by
 intro ds
 induction ds with
 | nil=>intro cs o x h; exact .inl h
 | cons d ds ih=>
  intro cs o x h;rcases ih h with h | h
  ·rcases ajx h with h | h
   ·exact .inl h
   ·exact .inr (by simp [h])
  ·exact .inr (by simp [h])
theorem Je {α:Type} {place:Nat->Option (Nat × Nat)}:∀ {parts:List (Nat × List α)} {cs cs':List α},pq place cs parts=some cs'->(∀ x∈cs',x∈cs∨∃ p∈parts,x∈p.2)/\cs'.length=cs.length:=by
 intro parts
 induction parts with
 | nil=>intro cs cs' h; simp only [pq,mN] at h; subst h; exact ⟨fun x hx=>.inl hx,rfl⟩
 | cons p parts ih=>
  intro cs cs' h;obtain ⟨i,vs⟩:=p;simp only [pq] at h;split at h
  case h_2=>simp at h
  split at h
  case isFalse=>simp at h
  obtain ⟨h1,h2⟩:=ih h;refine ⟨fun x hx=>?_,h2.trans (M0 _ _ _)⟩;rcases h1 x hx with h3 | ⟨p,h3,h4⟩
  ·rcases W3 h3 with h4 | h4
   ·exact .inl h4
   ·exact .inr ⟨_,agE,h4⟩
  ·exact .inr ⟨p,ag3 _ h3,h4⟩
theorem T8:∀ {ds cs:List T} {o:Nat} {B:List Nat},(ah cs++ah ds++B).Nodup->(ah (nx cs o ds)++B).Nodup/\∀ k∈ah (nx cs o ds),k∈ah cs∨k∈ah ds:=by
 intro ds
 induction ds with
 | nil=>intro cs o B h; simpa [nx,ah] using h
 | cons d ds ih=>
  intro cs o B h;simp only [nx];have key:(ah (cs.set o d)++ah ds++B).Nodup/\∀ k∈ah (cs.set o d),k∈ah cs∨k∈d.ft:=by
   by_cases ho:o < cs.length
   ·obtain ⟨A,Z,e1,e2⟩:=dN cs o _ (ace ho);rw [e2 d];refine ⟨?_,fun k hk=>?_⟩
    ·rw [e1,ah] at h;have p1:(A++cs[o].ft++Z++(d.ft++ah ds)++B).Perm (cs[o].ft++(A++d.ft++Z++ah ds++B)):=by
      refine adV.2 fun a=>?_;simp only [agb];omega
     exact (zX.1 (p1.nodup_iff.1 h)).2.1
    ·rw [e1];simp only [sE] at hk ⊢;rcases hk with (hk | hk) | hk
     ·exact .inl (.inl (.inl hk))
     ·exact .inr hk
     ·exact .inl (.inr hk)
   ·rw [List.set_eq_of_length_le (by omega)]
    refine ⟨?_,fun k hk=>.inl hk⟩;rw [ah] at h;have p1:(ah cs++(d.ft++ah ds)++B).Perm (d.ft++(ah cs++ah ds++B)):=by
     refine adV.2 fun a=>?_;simp only [agb];omega
    exact (zX.1 (p1.nodup_iff.1 h)).2.1
  obtain ⟨h1,h2⟩:=ih key.1;refine ⟨h1,fun k hk=>?_⟩;rcases h2 k hk with h3 | h3
  ·rcases key.2 k h3 with h4 | h4
   ·exact .inl h4
   ·exact .inr (by simp [ah,h4])
  ·exact .inr (by simp [ah,h3])
theorem RU {place:Nat->Option (Nat × Nat)}:∀ {parts:List (Nat × List T)} {cs cs':List T},pq place cs parts=some cs'->(ah cs++ah (parts.flatMap (·.2))).Nodup->(ah cs').Nodup/\∀ k∈ah cs',k∈ah cs∨k∈ah (parts.flatMap (·.2)):=by
 intro parts
 induction parts with
 | nil=>intro cs cs' h hn; simp only [pq,mN] at h; subst h; simpa [ah] using hn
 | cons p parts ih=>
  intro cs cs' h hn;obtain ⟨i,vs⟩:=p;simp only [pq] at h;split at h
  case h_2=>simp at h
  rename_i o k hp;split at h
  case isFalse=>simp at h
  simp only [adL,aY,<- acz] at hn;obtain ⟨g1,g2⟩:=T8 (o:=o) hn;obtain ⟨h1,h2⟩:=ih h g1;refine ⟨h1,fun k hk=>?_⟩;simp only [adL,aY,sE];rcases h2 k hk with h3 | h3
  ·rcases g2 k h3 with h4 | h4
   ·exact .inl h4
   ·exact .inr (.inl h4)
  ·exact .inr (.inr h3)
section
variable {C:Ctx} {Hx:List T} {w:World} {S:List (Nat × RT)} {st:St}
theorem G2 {X:Bool->Nat->Prop} {d:D} {u:Value} (h:Ext w X d u) (hc:cM d=true):u.oneCell'=true/\u.cells=#[u]:=by
 cases d with
 | int k n=>have:u=.int k n:=h; subst this; exact ⟨rfl,rfl⟩
 | bool b=>have:u=.bool b:=h; subst this; exact ⟨rfl,rfl⟩
 | str s=>have:u=.string s:=h; subst this; exact ⟨rfl,rfl⟩
 | nil s=>have:u=.slice none 0 0:=h; subst this; exact ⟨rfl,rfl⟩
 | sl g s n cs=>
  cases g with
  | none=>simp [Ext] at h
  | some g=>
   simp only [Ext] at h;obtain ⟨base,cap,us,rfl,_⟩:=h;exact ⟨rfl,rfl⟩
 | ref r q o x=>simp [Ext] at h
 | ptr r q o=>simp [Ext] at h
 | dK cs o=>simp [Ext] at h
 | _=>simp [cM] at hc
theorem mu {X:Bool->Nat->Prop} {t:T} (h:bA w X t) (hc:cM t.er=true):t.val.oneCell'=true/\t.val.cells=#[t.val]:=by
 cases t with
 | own s n cap a cs=>exact ⟨rfl,rfl⟩
 | v d u=>exact G2 h hc
theorem M3 (gf:gC st.rt S) (hm:Mem C w S Hx) {d:D} {u:Value} (hd:bp w (af C w S Hx) S d u) (cF:fO st d=true):u.oneCell'=true/\u.cells=#[u]:=by
 cases d with
 | ref r q o x=>
  simp only [fO] at cF;split at cF
  ·rename_i g s n cs hc;have:=(LP gf hm (mm hd) (g:=g) (s:=s) (n:=(trim x s n cs).1) (cs:=(trim x s n cs).2) (by simp [St.pN,hc])).ok
   obtain ⟨base,cap,rfl,_⟩:=this;exact ⟨rfl,rfl⟩
  ·simp at cF
 | ptr r q o=>
  simp only [fO] at cF;obtain ⟨R,b,off,_,_,rfl⟩:=rH gf hm cF (mm hd);exact ⟨rfl,rfl⟩
 | dK cs o=>
  obtain ⟨b,off,c,e,fz,us,rfl,_⟩:=hd;exact ⟨rfl,rfl⟩
 | _=>exact G2 hd cF
theorem Dh (gf:gC st.rt S) (hm:Mem C w S Hx) {d:D} {u:Value} (hd:ck w (af C w S Hx) S d u) (cF:∀ x∈cellsOf d,fO st x=true):bZ (bp w (af C w S Hx) S) (cellsOf d) u.cells.toList:=by
 by_cases ha:∃ cs,d=.agg cs
 ·obtain ⟨cs,rfl⟩:=ha;obtain ⟨us,rfl,h⟩:=hd;exact h
 ·have hc:cellsOf d=[d]:=by cases d<;>first | rfl | exact absurd ⟨_,rfl⟩ ha
  rw [hc] at cF ⊢;have ho:=cF d (by simp)
  have sL:bp w (af C w S Hx) S d u:=by
   cases d<;>first | exact hd | (simp [fO,cM] at ho; done) | exact absurd ⟨_,rfl⟩ ha
  rw [(M3 gf hm sL ho).2];exact .cons sL .nil
end
theorem yD {α β:Type} {R:α->β->Prop} {as9:List α} {bs:List β} (h:bZ R as9 bs):∃ l:List (α × β),l.map Prod.fst=as9/\l.map Prod.snd=bs/\∀ x∈l,R x.1 x.2:=by
 induction h with
 | nil=>exact ⟨[],rfl,rfl,by simp⟩
 | @cons a b _ _ h1 _ ih=>
  obtain ⟨l,e1,e2,e3⟩:=ih;exact ⟨(a,b)::l,by simp [e1],by simp [e2],fun x hx=>by
   rcases acK.1 hx with rfl | hx
   ·exact h1
   ·exact e3 x hx⟩
theorem EP {α β:Type} {R:α->β->Prop}:∀ (l:List (α × β)),(∀ x∈l,R x.1 x.2)->bZ R (l.map Prod.fst) (l.map Prod.snd)
 | [],_=>.nil
 | x::l,h=>.cons (h x (by simp)) (EP l (fun y hy=>h y (by simp [hy])))
theorem T9 {P:Program}:∀ {fs:List Field} {szs:List Nat},szs.length=fs.length->(∀ (j:Nat) (f:Field),fs[j]?=some f->∃ i,P.info? f.type=some i/\i.size≠0/\szs[j]?=some i.size)->
  fs.mapM (fun f=>(P.info? f.type).map fun i=>(f.offset,i.size))=some ((fs.map (·.offset)).zip szs):=by
 intro fs
 induction fs with
 | nil=>intro szs h _; rfl
 | cons f fs ih=>
  intro szs hl h;cases szs with
  | nil=>simp at hl
  | cons k szs=>
   obtain ⟨i,h1,_,h2⟩:=h 0 f rfl;simp only [acH,mN] at h2;subst h2;have:=ih (szs:=szs) (by simpa using hl) (fun j f hj=>by simpa using h (j+1) f (by simpa using hj))
   simp [List.mapM_cons,h1,this]
section
variable {P:Program} {c:cn} (aw:ey c P) {C:Ctx} {Hx:List T} {w:World} {st st':St} {a:Act} {aJ:List (Array Value)} {S:List (Nat × RT)} (h:Rel C Hx w st (a.tmps::aJ) S)
include h
theorem W4:∀ (ps:List (Nat × Operand)),(∀ p∈ps.map (fun p=>(p.1,cellsOf (ch c st 0 p.2))),∀ d∈p.2,fO st d=true)->
  ∃ pp:List (Nat × List (D × Value)),pp.map (fun p=>(p.1,p.2.map Prod.fst))=ps.map (fun p=>(p.1,cellsOf (ch c st 0 p.2)))/\bZ (fun p q=>q.1=p.1/\q.2.cells.toList=p.2.map Prod.snd) pp (ps.map fun p=>(p.1,a.eval p.2))/\
   ∀ p∈pp,∀ x∈p.2,bp w (af C w S Hx) S x.1 x.2:=by
 have fP:mb w (af C w S Hx) S st.tm a.tmps:=by cases h.ov with | cons a _=>exact a
 intro ps
 induction ps with
 | nil=>intro _; exact ⟨[],rfl,.nil,by simp⟩
 | cons p ps ih=>
  intro cF;obtain ⟨pp,e1,e2,e3⟩:=ih (fun q hq=>cF q (by simp only [ac6,acK]; exact .inr hq))
  have h1:=Dh h.rt h.mem (vV (c:=c) fP 0 p.2) (cF _ (by simp only [ac6,acK]; exact .inl rfl))
  obtain ⟨l,f1,f2,f3⟩:=yD h1;refine ⟨(p.1,l)::pp,by simp [e1,f1],.cons ⟨rfl,f2.symm⟩ e2,fun q hq=>?_⟩
  rcases acK.1 hq with rfl | hq
  ·exact f3
  ·exact e3 q hq
include aw
theorem Jf {t:TypeId} {ti:TI} (ht:c.ty t=some ti) {place:Nat->Option (Nat × Nat)} {ps:Array (Nat × Operand)} {cs:List D} (hf:mY (fO st) place ti.zero (ps.toList.map fun p=>(p.1,cellsOf (ch c st 0 p.2)))=some cs)
  (hb:∀ (z:Value) (qA:List (Nat × Value)),(∀ i,P.info? t=some i->i.zero=some z)->P.built t qA=Instr.fill place z.cells qA):
  ∃ v,(∀ w:World,(Instr.build t (ps.map fun (i,x)=>(i,a.eval x))).run P w=.ok v w)/\ck w (af C w S Hx) S (.agg cs) v:=by
 obtain ⟨inf,h1,h2,h3,z,h4,h5⟩:=(aw.ty _ _ ht).info;obtain ⟨pp,e1,e2,e3⟩:=W4 (c:=c) h ps.toList (Jd hf);obtain ⟨zz,f1,f2,f3⟩:=yD h5;rw [<- e1,<- f1] at hf;obtain ⟨cs',g1,g2⟩:=QP Prod.fst hf;obtain ⟨arr,k1,k2⟩:=EO Prod.snd e2 g1 f2.symm;refine ⟨.agg arr,fun w=>run_build w t _ arr ?_,?_⟩
 ·rw [hb z _ (fun i hi=>by rw [h1,mN] at hi; subst hi; exact h4)]
  rw [<- k1];simp
 ·refine ⟨arr,rfl,?_⟩;rw [<- g2,k2];refine EP _ (fun x hx=>?_);rcases (Je g1).1 x hx with h6 | ⟨p,h6,h7⟩
  ·exact fq (f3 x h6 w _)
  ·exact e3 p h6 x h7
theorem Al {t:TypeId} {lN szs:List Nat} {sz pR:Nat} {z:List D} (ht:c.ty t=some ⟨.struct lN szs,sz,pR,z⟩) {ps:Array (Nat × Operand)} {cs:List D}
  (hf:mY (fO st) (fun i=>match lN[i]?,szs[i]? with | some o,some k=>some (o,k) | _,_=>none) z (ps.toList.map fun p=>(p.1,cellsOf (ch c st 0 p.2)))=some cs):
  ∃ v,(∀ w:World,(Instr.build t (ps.map fun (i,x)=>(i,a.eval x))).run P w=.ok v w)/\ck w (af C w S Hx) S (.agg cs) v:=by
 refine Jf aw h ht hf (fun zv qA hz=>?_);obtain ⟨inf,h1,_⟩:=(aw.ty _ _ ht).info;obtain ⟨dd,g1,fs,rfl,g2,g3,g4⟩:=(aw.ty _ _ ht).desc;simp only [Program.built,h1,g1,hz inf h1,T9 g3 g4]
 congr 1
 funext i;simp only [List.getElem?_toArray,List.zip_eq_zipWith,List.getElem?_zipWith,<- g2];cases lN[i]? with
 | none=>rfl
 | some o=>cases szs[i]?<;>rfl
theorem Ct {t e:TypeId} {n:Nat} {sz pR:Nat} {z:List D} {ei:TI} (ht:c.ty t=some ⟨.array n e,sz,pR,z⟩) (he:c.ty e=some ei) {ps:Array (Nat × Operand)} {cs:List D}
  (hf:mY (fO st) (fun i=>some (i*ei.size,ei.size)) z (ps.toList.map fun p=>(p.1,cellsOf (ch c st 0 p.2)))=some cs):
  ∃ v,(∀ w:World,(Instr.build t (ps.map fun (i,x)=>(i,a.eval x))).run P w=.ok v w)/\ck w (af C w S Hx) S (.agg cs) v:=by
 refine Jf aw h ht hf (fun zv qA hz=>?_);obtain ⟨inf,h1,_⟩:=(aw.ty _ _ ht).info;obtain ⟨amp,h2,h3,_⟩:=(aw.ty _ _ he).info;obtain ⟨dd,g1,rfl⟩:=(aw.ty _ _ ht).desc;simp only [Program.built,h1,g1,hz inf h1,h2,h3]
end
end Go.Proofs.YtckkpgcnhdllgaaGreat
