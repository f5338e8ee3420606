import GoSem.Step
import GoSem.ClaimData
import Derived.Calls
set_option linter.all false
namespace Go.Ab
abbrev Bytes:=List UInt8
inductive PV where
 |int (k:IntKind) (n:Int)
 |bool (b:Bool)
 |str (s:Bytes)
 |agg (cs:List PV)
 |aO (vs:List PV)
 |rQ
 |rp (cs:List PV)
 |rs (sz:Nat) (es:List PV)
 |qS (sz:Nat) (es:List PV)
 |vq
 |rm (kt:TypeId) (ks vs:List PV)
 |DN
 |fn (f:FuncId) (caps:List PV)
 |Zx (b:Bool)
 |bad
 deriving Inhabited
def PV.cells:PV→List PV
 |.agg cs=>cs
 |v=>[v]
def cell(p:PV)(j:Nat):PV:=p.cells.getD j .bad
def dS(p:PV):(j n:Nat)→List PV
 |_,0=>[]
 |j,n+1=>cell p j::dS p (j+1) n
def aC(sz:Nat)(p:PV):List PV:=dS p 0 sz
inductive Jmp where
 |ret
 |exit (id:Nat)
inductive M8 where
 |ready
 |busy
 |done (j:Jmp)
inductive V where
 |pv (p:PV)
 |iy
 |op (id off:Nat)
 |oe (id i off:Nat)
 |os (id:Nat)
 |fR (id lo len:Nat)
 |om (id:Nat)
 |xn (id i off:Nat)
 |AX (id i off s j off2:Nat)
 |fn (f:FuncId) (caps:List V)
 |yl (id:Nat)
 |it (id:Nat)
 |agg (cs:List V)
 |aO (vs:List V)
 |top
 deriving Inhabited
inductive bH where
 |box (cs:List V)
 |arr (sz:Nat) (et:TypeId) (es:List PV)
 |rD (sz:Nat) (et:TypeId) (es:List PV)
 |map (kt:TypeId) (es:List (PV×PV))
 |nest (sz:Nat) (et:TypeId) (es:List PV)
 |fh (kt e:TypeId) (es:List (PV×PV))
 |loop (st:M8)
 |iter (t:TypeId) (es:List (PV×PV)) (cur:Option (PV×PV))
 deriving Inhabited
abbrev Fr:=Nat→V
abbrev Mem:=Nat→Option bH
def gu(f:Fr)(d:Nat)(v:V):Fr:=fun t=>bif Nat.beq t d then v else f t
def jB(f:Fr)(d:Option Nat)(v:V):Fr:=match d with|some d=>gu f d v|none=>f
def ao(m:Mem)(d:Nat)(b:bH):Mem:=fun t=>bif Nat.beq t d then some b else m t
def bh(m:Mem)(d:Nat):Mem:=fun t=>bif Nat.beq t d then none else m t
def Nl:List (Nat×V)→Fr
 |[]=>fun _=>.top
 |(d,v)::r=>gu (Nl r) d v
def Et:List (Nat×Option bH)→Mem
 |[]=>fun _=>none
 |(d,b)::r=>fun t=>bif Nat.beq t d then b else Et r t
abbrev bq:=List (Bool×Nat)
def asInt(q:IntKind):PV→Option Int
 |.int q' n=>if q'=q then some n else none
 |_=>none
def asBool:PV→Option Bool
 |.bool b=>some b
 |_=>none
def bu:PV→Option Bytes
 |.str s=>some s
 |_=>none
def PR:PV→Option Bool
 |.Zx b=>some b
 |_=>none
def aw(sz:Nat):PV→Option (List PV)
 |.rs GW es=>if GW=sz then some es else match es with|[]=>some []|_=>none
 |_=>none
def dn(n:Nat):PV→Option (List PV)
 |.aO vs=>if vs.length=n then some vs else none
 |_=>none
def asAgg(n:Nat):PV→Option Unit
 |.agg cs=>if cs.length=n then some ()else none
 |_=>none
def fi(sz:Nat):PV→Option (List PV)
 |.qS GW es=>if GW=sz then some es else none
 |_=>none
def PV.isRow:PV→Bool
 |.qS _ _=>true
 |_=>false
def PV.oM:PV→PV
 |.qS sz es=>.rs sz es
 |p=>p
def PV.strip:PV→PV
 |.agg cs=>.agg (cs.map PV.oM)
 |p=>p.oM
def fj(es:List PV)(i:Int):Option PV:=if 0≤i then es[i.toNat]? else none
def Zy(s:Bytes)(i:Int):Option UInt8:=if 0≤i then s[i.toNat]? else none
def fS(s:Nat):List PV→List PV
 |[]=>[]
 |e::es=>aC s e++fS s es
def fu(s n:Nat)(p:PV):List PV:=(List.range n).map fun i=>.agg (dS p (i*s) s)
def Eu:Nat:=1000
inductive Kd where
 |int (q:IntKind)
 |bool
 |str
def uF:Kd→PV→Bool
 |.int q,.int q' _=>decide (q'=q)
 |.bool,.bool _=>true
 |.str,.str _=>true
 |_,_=>false
def lK:List Kd→List PV→Bool
 |[],[]=>true
 |k::ks,p::ps=>uF k p&&lK ks ps
 |_,_=>false
def PV.isAgg:PV→Bool
 |.agg _=>true
 |_=>false
def PV.plain:PV→Bool
 |.aO _=>false
 |.bad=>false
 |_=>true
def peq:PV→PV→Bool
 |.int _ a,.int _ b=>a==b
 |.bool a,.bool b=>a==b
 |.str a,.str b=>a==b
 |_,_=>false
def cu:List PV→List PV→Bool
 |[],[]=>true
 |a::as,b::bs=>peq a b&&cu as bs
 |_,_=>false
def b9(k:PV)(z:PV):List (PV×PV)→PV
 |[]=>z
 |(a,v)::r=>if cu k.cells a.cells then v else b9 k z r
def th(k:PV):List (PV×PV)→Bool
 |[]=>false
 |(a,_)::r=>cu k.cells a.cells||th k r
def dh(k v:PV):List (PV×PV)→List (PV×PV)
 |[]=>[(k,v)]
 |(a,u)::r=>if cu k.cells a.cells then(k,v)::r else(a,u)::dh k v r
def uG(k:PV):List (PV×PV)→List (PV×PV)
 |[]=>[]
 |(a,u)::r=>if cu k.cells a.cells then(a,.bad)::r else(a,u)::uG k r
def KJ(sz:Nat)(k:PV):List (PV×PV)→Option (List PV)
 |[]=>some []
 |(a,u)::r=>if cu k.cells a.cells then fi sz u else KJ sz k r
section
variable (P:Program)
def aN(t:TypeId):Nat:=((P.info? t).map (·.size)).getD 0
def GZ(t:TypeId):Nat:=((P.info? t).map (·.bytes)).getD 0
def ax(t:TypeId):Bool:=match P.underlying t with|some (.struct _)|some (.array _ _)=>true|_=>false
def rR(B6:TypeId→Option (List Kd)):List Field→Nat→Option (List Kd)
 |[],_=>some []
 |f::r,off=>if f.offset=off∧f.name≠ "_" then(B6 f.type).bind fun a=>(rR B6 r (off+a.length)).bind fun b=>some (a++b)else none
def rS(a:List Kd):Nat→List Kd
 |0=>[]
 |n+1=>a++rS a n
def B6:Nat→TypeId→Option (List Kd)
 |0,_=>none
 |d+1,t=>match P.underlying t with
  |some (.int q)=>some [.int q]
  |some .bool=>some [.bool]
  |some .string=>some [.str]
  |some (.struct fs)=>if P.stoodInHeld t then none else(rR (B6 d) fs.toList 0).bind fun a=>if a.length=aN P t then some a else none
  |some (.array n e)=>(B6 d e).bind fun a=>if a.length=aN P e∧n*a.length=aN P t then some (rS a n)else none
  |_=>none
def wv(kt:TypeId)(ks:List Kd)(k:PV):Bool:=lK ks k.cells&&(ax P kt==k.isAgg)
def tx(t:TypeId):Option (List Kd):=if P.eqGuardType P.depth t then none else B6 P 8 t
end
def B7:Value→V
 |.int k n=>if(Lit.int k n).wf then .pv (.int k n)else .top
 |.bool b=>.pv (.bool b)
 |.string s=>if s.data.toList.length≤maxLen then .pv (.str s.data.toList)else .top
 |.pointer none=>.pv .rQ
 |.slice none 0 0=>.iy
 |.map none=>.pv .vq
 |.nilFunc=>.pv .DN
 |.nilIface=>.pv (.Zx false)
 |_=>.top
def Hr:Value→V
 |.agg cs=>if cs.toList.all (fun c=>match c with|.agg _=>false|.tuple _=>false|_=>true)then .agg (cs.toList.map B7)else .top
 |v=>B7 v
def zeroV(P:Program)(t:TypeId):Option V:=((P.info? t).bind (·.zero)).map Hr
def toCells(n:Nat):V→Option (List V)
 |.pv (.agg cs)=>if cs.length=n then some (cs.map .pv)else none
 |.agg cs=>if cs.length=n then some cs else none
 |.top|.aO _|.pv (.aO _)|.pv .bad=>none
 |v=>if n=1 then some [v]else none
def aeJ:PV→Option PV
 |.qS s rs=>some (.rs s rs)
 |_=>none
def qT(f:V→Option PV):List V→Option (List PV)
 |[]=>some []
 |v::r=>(f v).bind fun p=>(qT f r).bind fun ps=>some (p::ps)
def lF(m:Mem):Nat→V→Option PV
 |0,_=>none
 |_+1,.pv p=>some p
 |_+1,.iy=>some (.rs 0 [])
 |d+1,.agg cs=>(qT (lF m d) cs).bind fun ps=>some (.agg ps)
 |d+1,.aO cs=>(qT (lF m d) cs).bind fun ps=>some (.aO ps)
 |d+1,.fn g cs=>(qT (lF m d) cs).bind fun ps=>some (.fn g ps)
 |_+1,.os id=>match m id with
  |some (.arr s _ es)=>some (.rs s es)
  |some (.rD s _ es)=>some (.rs s es)
  |some (.nest s _ es)=>some (.rs s (es.map PV.strip))
  |_=>none
 |_+1,.xn id i off=>match m id with
  |some (.nest _ _ es)=>(es[i]?).bind fun e=>aeJ (cell e off)
  |_=>none
 |_+1,.fR id lo len=>match m id with
  |some (.arr s _ es)=>some (.rs s ((es.drop lo).take len))
  |some (.rD s _ es)=>some (.rs s ((es.drop lo).take len))
  |_=>none
 |d+1,.op id off=>match m id with
  |some (.box cs)=>(qT (lF m d) (cs.drop off)).bind fun ps=>some (.rp ps)
  |_=>none
 |_+1,.oe id i off=>match m id with
  |some (.arr s _ es)=>(es[i]?).bind fun e=>some (.rp ((aC s e).drop off))
  |some (.rD s _ es)=>(es[i]?).bind fun e=>some (.rp ((aC s e).drop off))
  |_=>none
 |_+1,.om id=>match m id with
  |some (.map kt es)=>some (.rm kt (es.map (·.1)) (es.map (·.2)))
  |some (.fh kt _ es)=>some (.rm kt (es.map (·.1)) (es.map fun x=>x.2.oM))
  |_=>none
 |_+1,_=>none
def eE:Nat:=6
def iW(f:V→List Nat):List V→List Nat
 |[]=>[]
 |v::r=>f v++iW f r
def cE(m:Mem):Nat→V→List Nat
 |0,_=>[]
 |d+1,.agg cs=>iW (cE m d) cs
 |d+1,.aO cs=>iW (cE m d) cs
 |d+1,.fn _ cs=>iW (cE m d) cs
 |_+1,.os id=>[id]
 |_+1,.fR id _ _=>[id]
 |_+1,.oe id _ _=>[id]
 |_+1,.om id=>[id]
 |_+1,.xn id _ _=>[id]
 |d+1,.op id off=>id::(match m id with|some (.box cs)=>iW (cE m d) (cs.drop off)|_=>[])
 |_+1,_=>[]
def Ev(m:Mem):V→Option (PV×Mem)
 |.pv p=>some (p,m)
 |.iy=>some (.rs 0 [],m)
 |.os id=>match m id with
  |some (.arr s et es)=>some (.rs s es,ao m id (.rD s et es))
  |some (.rD s _ es)=>some (.rs s es,m)
  |some (.nest s et es)=>some (.rs s (es.map PV.strip),ao m id (.rD s et (es.map PV.strip)))
  |_=>none
 |_=>none
def mY:Mem→List V→Option (List PV×Mem)
 |m,[]=>some ([],m)
 |m,v::r=>match Ev m v with
  |some (p,m)=>match mY m r with
   |some (ps,m)=>some (p::ps,m)
   |none=>none
  |none=>none
def vr(m:Mem):V→Option (PV×Mem)
 |.agg cs=>match mY m cs with
  |some (ps,m)=>some (.agg ps,m)
  |none=>none
 |v=>Ev m v
def kR(m:Mem)(n:Nat)(agg:Bool)(v:V):Option (PV×Mem):=
 match toCells n v with
 |some cs=>match mY m cs with
  |some (ps,m)=>if agg then some (.agg ps,m)else match ps with|[p]=>some (p,m)|_=>none
  |none=>none
 |none=>none
mutual
def V.has(id:Nat):V→Bool
 |.agg cs=>b8 id cs
 |.aO cs=>b8 id cs
 |.fn _ cs=>b8 id cs
 |.os j=>Nat.beq j id
 |.fR j _ _=>Nat.beq j id
 |.oe j _ _=>Nat.beq j id
 |.om j=>Nat.beq j id
 |.xn j _ _=>Nat.beq j id
 |.AX j _ _ _ _ _=>Nat.beq j id
 |.op j _=>Nat.beq j id
 |.yl j=>Nat.beq j id
 |.it j=>Nat.beq j id
 |_=>false
def b8(id:Nat):List V→Bool
 |[]=>false
 |v::r=>v.has id||b8 id r
end
mutual
def V.within(M:List Nat):V→Bool
 |.agg cs=>kS M cs
 |.aO cs=>kS M cs
 |.fn _ cs=>kS M cs
 |.os j=>M.elem j
 |.fR j _ _=>M.elem j
 |.oe j _ _=>M.elem j
 |.om j=>M.elem j
 |.xn j _ _=>M.elem j
 |.AX j _ _ _ _ _=>M.elem j
 |.op j _=>M.elem j
 |.yl j=>M.elem j
 |.it j=>M.elem j
 |_=>true
def kS(M:List Nat):List V→Bool
 |[]=>true
 |v::r=>v.within M&&kS M r
end
mutual
def V.xo(id:Nat):V→Bool
 |.agg cs=>AY id cs
 |.aO cs=>AY id cs
 |.fn _ cs=>AY id cs
 |.xn j _ _=>Nat.beq j id
 |.AX j _ _ _ _ _=>Nat.beq j id
 |_=>false
def AY(id:Nat):List V→Bool
 |[]=>false
 |v::r=>v.xo id||AY id r
end
def tz(id:Nat)(v:V):V:=bif v.has id then .top else v
def eS(id:Nat)(f:Fr):Fr:=fun t=>tz id (f t)
def gv(id:Nat):bH→bH
 |.box cs=>.box (cs.map (tz id))
 |b=>b
def bE(id:Nat)(m:Mem):Mem:=fun j=>match m j with|some b=>some (gv id b)|none=>none
def oN(id:Nat)(v:V):V:=bif v.xo id then .top else v
def iA(id:Nat)(f:Fr):Fr:=fun t=>oN id (f t)
def dM(id:Nat):bH→bH
 |.box cs=>.box (cs.map (oN id))
 |b=>b
def fa(id:Nat)(m:Mem):Mem:=fun j=>match m j with|some b=>some (dM id b)|none=>none
abbrev Kl:=List (Bool×Nat)
def kf:Kl→Fr→Fr
 |[],f=>f
 |(true,id)::r,f=>kf r (eS id f)
 |(false,id)::r,f=>kf r (iA id f)
def km:Kl→Mem→Mem
 |[],m=>m
 |(true,id)::r,m=>km r (bh (bE id m) id)
 |(false,id)::r,m=>km r (fa id m)
def uD:List (Nat×bH)→Mem→Mem
 |[],m=>m
 |(id,b)::r,m=>uD r (ao m id b)
def bH.names:bH→Nat→Bool
 |.box cs,id=>b8 id cs
 |_,_=>false
def bH.within(M:List Nat):bH→Bool
 |.box cs=>kS M cs
 |_=>true
set_option linter.defProp false
def cN:=@List.getElem?_eq_getElem
def cO:=@Option.some.injEq
def cQ:=@Bool.false_eq_true
def cT:=@Option.bind_eq_some_iff
def AI:=@if_pos
def AT:=@decide_eq_true_eq
def By:=@List.getElem?_eq_some_iff
def BY:=@List.length_map
def IN:=@Nat.eq_of_beq_eq_true
def IS:=@if_neg
def IT:=@List.getElem?_map
def Ko:=@if_true
def No:=@Bool.and_eq_true
def OF:=@Array.getElem?_eq_getElem
def Ua:=@Prod.mk.injEq
def abp:=@if_false
def abq:=@Array.getElem?_eq_some_iff
def acG:=@Option.map_eq_some_iff
def aeB:=@List.mem_of_getElem?
def ahw:=@Nat.mul_le_mul_right
def ajc:=@List.getD_cons_zero
def aka:=@List.getD_cons_succ
def akb:=@Option.map_some
def akc:=@Int.toNat_natCast
def akd:=@List.length_cons
def ake:=@List.mem_cons
def akf:=@Bool.not_true
def akg:=@List.eq_nil_of_length_eq_zero
def akh:=@List.append_assoc
def aki:=@List.getElem_mem
def akj:=@Option.bind_some
def akk:=@Nat.le_refl
def akl:=@Array.getD_eq_getD_getElem?
def akm:=@List.length_nil
def akn:=@List.map_cons
def ako:=@List.length_append
def akp:=@Bool.or_eq_true
def akq:=@Option.isSome_iff_exists
def akr:=@List.take_succ_eq_append_getElem
def aks:=@List.ext_getElem?
def akt:=@List.mem_map
def aku:=@List.mem_append
def akv:=@decide_true
def akw:=@decide_false
def akx:=@decide_eq_false_iff_not
def aky:=@List.getElem?_of_mem
def akz:=@Bool.not_false
def akA:=@List.getElem?_append
def akB:=@Int.lt_irrefl
def akC:=@List.mem_iff_getElem?
def akD:=@Bool.true_eq_false
def akE:=@List.take_of_length_le
def akF:=@List.map_congr_left
def akG:=@List.getElem?_cons_zero
def akH:=@List.getElem?_toArray
def akI:=@List.length_take
def akJ:=@List.all_eq_true
def akK:=@Bool.not_eq_true'
def akL:=@Array.getElem?_toList
def akM:=@List.exists_of_findSome?_eq_some
def akN:=@Bool.or_eq_false_iff
def akO:=@Nat.add_assoc
def akP:=@List.append_nil
def akQ:=@List.getElem?_set
def akR:=@Nat.add_mul
def akS:=@List.mem_range
def akT:=@Nat.le_trans
def akU:=@List.findSome?_cons
def akV:=@Nat.zero_add
def akW:=@List.length_replicate
def akX:=@List.getElem?_append_right
def akY:=@Classical.byContradiction
def akZ:=@List.map_append
def ak0:=@List.drop_eq_getElem_cons
def ak1:=@List.getElem?_append_left
def ak2:=@Option.getD_some
def ak3:=@Bool.not_eq_true
def ak4:=@Bool.true_and
def ak5:=@List.length_singleton
def ak6:=@Nat.blt_eq
def ak7:=@List.size_toArray
def ak8:=@List.pairwise_cons
def ak9:=@Bool.eq_iff_iff
def ala:=@Bool.not_eq_false'
def alb:=@List.mem_singleton
def alc:=@List.cons.injEq
def ald:=@Nat.min_eq_left
def ale:=@List.mem_of_mem_take
def alf:=@List.pairwise_append
def alg:=@List.take_length
def alh:=@Array.getElem?_append_left
def ali:=@List.getElem_of_mem
def alj:=@Bool.false_or
def alk:=@List.not_mem_nil
def alm:=@List.mem_of_mem_drop
def aln:=@Bool.and_true
def alo:=@Array.getElem?_setIfInBounds
def alp:=@Nat.add_zero
def alq:=@List.getElem?_range
def alr:=@Nat.mul_le_mul_left
def als:=@List.any_eq_true
def alu:=@Array.getElem?_modify
def alv:=@List.getElem?_eq_none
def alw:=@List.pairwise_iff_getElem
def alx:=@Array.mem_toList_iff
def aly:=@List.mem_cons_of_mem
def alz:=@List.nil_append
def alA:=@Array.getElem?_setIfInBounds_ne
def alC:=@decide_eq_false
def alD:=@List.getElem?_take_of_lt
def alE:=@List.take_append_getElem
def alF:=@List.mem_filter
def alG:=@Array.ext'
def alH:=@Int.mul_le_mul_of_nonneg_right
def alI:=@List.getElem?_cons_succ
def alJ:=@Bool.or_false
def alK:=@Int.eq_ofNat_of_zero_le
def alL:=@Nat.mod_eq_of_lt
def alM:=@List.drop_length
def alN:=@List.cons_append
def alO:=@List.length_drop
def alP:=@List.range_succ_eq_map
def alQ:=@Nat.add_sub_cancel
def alR:=@List.length_filter_le
def alS:=@List.length_set
def alU:=@Int.tdiv_eq_ediv_of_nonneg
def alV:=@List.getD_eq_getElem?_getD
def alW:=@List.range_eq_range'
def alX:=@List.drop_drop
def alY:=@decide_eq_true
def alZ:=@List.take_zero
def al0:=@List.range'_succ
def al1:=@List.mem_flatMap
def al2:=@List.mem_toArray
def al3:=@beq_eq_false_iff_ne
def al4:=@Nat.zero_le
def al5:=@List.map_map
def al6:=@List.range_succ
def al7:=@List.any_cons
def al8:=@List.map_take
def al9:=@Option.some.inj
def ama:=@List.head?_eq_getElem?
def amb:=@Function.comp_def
def amc:=@Bool.false_and
def amd:=@Nat.mul_le_mul
def ame:=@Array.eq_empty_of_size_eq_zero
def amf:=@Nat.mul_comm
def amg:=@List.getLast?_eq_some_getLast
def amh:=@List.countP_cons
def ami:=@List.flatMap_def
def amj:=@List.reverse_reverse
def amk:=@List.getElem?_modify
def aml:=@Array.getElem?_push
def amm:=@List.nodup_cons
def amn:=@List.foldl_cons
def amo:=@Array.length_toList
def amp:=@List.flatMap_append
def amq:=@Int.fdiv_eq_ediv_of_nonneg
def ams:=@Array.toList_setIfInBounds
def amt:=@Nat.sub_self
def amu:=@BitVec.toNat_ofInt
def amv:=@List.zip_cons_cons
def amw:=@Option.isSome_none
def amx:=@List.findSome?_nil
def amy:=@Option.isSome_some
def amz:=@Int.mul_nonneg
def amA:=@List.mem_of_find?_eq_some
def amB:=@List.mapM_cons
def amC:=@List.Pairwise.imp_of_mem
def amD:=@List.take_add_one
def amE:=@List.Perm.eq_of_pairwise
def amG:=@Nat.le_succ_of_le
def amH:=@Array.size_append
def amI:=@List.getElem?_replicate
def amJ:=@List.map_drop
def amK:=@List.all_cons
def amL:=@or_false
def amN:=@Nat.and_le_right
def amO:=@List.drop_of_length_le
def amP:=@Nat.le_of_ble_eq_true
def amR:=@Bool.and_eq_false_iff
def amS:=@Bool.or_true
def amT:=@Int.ediv_nonneg
def amU:=@Array.mem_of_getElem?
def amV:=@List.pairwise_flatMap
def amX:=@List.set_set
def amZ:=@Nat.mod_lt
def am0:=@List.replicate_succ'
def am1:=@List.length_eraseIdx
def am2:=@List.drop_zero
def am4:=@Bool.and_false
def am6:=@List.countP_eq_zero
def am7:=@List.filter_eq_self
def am8:=@List.map_nil
def am9:=@Bool.true_or
def ana:=@not_or
def anb:=@Nat.ne_of_lt
def anc:=@Nat.le_of_eq
def ane:=@Nat.zero_mul
def anf:=@Nat.sub_zero
def anh:=@List.map_set
def ani:=@Nat.pow_succ
def anj:=@and_self
def ank:=@dif_pos
end Go.Ab
