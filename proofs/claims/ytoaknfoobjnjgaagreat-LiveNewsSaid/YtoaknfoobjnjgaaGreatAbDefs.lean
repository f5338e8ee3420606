import GoSem.Step
import GoSem.ClaimData
import Derived.Calls
set_option linter.all false
namespace Go.Ab
abbrev Bytes:=List UInt8
inductive PV where
 |int (k:IntKind) (n:Int)
 |bool (b:Bool)
 |str (s:Bytes)
 |agg (cs:List PV)
 |aI (vs:List PV)
 |ig
 |rp (cs:List PV)
 |rs (sz:Nat) (es:List PV)
 |qg (sz:Nat) (es:List PV)
 |od
 |rm (kt:TypeId) (ks vs:List PV)
 |CJ
 |fn (f:FuncId) (caps:List PV)
 |Wm (b:Bool)
 |bad
 deriving Inhabited
def PV.cells:PV→List PV
 |.agg cs=>cs
 |v=>[v]
def cell(p:PV)(j:Nat):PV:=p.cells.getD j .bad
def dZ(p:PV):(j n:Nat)→List PV
 |_,0=>[]
 |j,n+1=>cell p j::dZ p (j+1) n
def aK(sz:Nat)(p:PV):List PV:=dZ p 0 sz
inductive Jmp where
 |ret
 |exit (id:Nat)
inductive Q9 where
 |ready
 |busy
 |done (j:Jmp)
inductive V where
 |pv (p:PV)
 |fM
 |op (id off:Nat)
 |oe (id i off:Nat)
 |os (id:Nat)
 |gh (id lo len:Nat)
 |om (id:Nat)
 |AJ (id i off:Nat)
 |Ef (id i off s j off2:Nat)
 |fn (f:FuncId) (caps:List V)
 |yl (id:Nat)
 |it (id:Nat)
 |agg (cs:List V)
 |aI (vs:List V)
 |top
 deriving Inhabited
inductive bL where
 |box (cs:List V)
 |arr (sz:Nat) (et:TypeId) (es:List PV)
 |sq (sz:Nat) (et:TypeId) (es:List PV)
 |map (kt:TypeId) (es:List (PV×PV))
 |nest (sz:Nat) (et:TypeId) (es:List PV)
 |fG (kt e:TypeId) (es:List (PV×PV))
 |loop (st:Q9)
 |iter (t:TypeId) (es:List (PV×PV)) (cur:Option (PV×PV))
 deriving Inhabited
abbrev Fr:=Nat→V
abbrev Mem:=Nat→Option bL
def gJ(f:Fr)(d:Nat)(v:V):Fr:=fun t=>bif Nat.beq t d then v else f t
def iQ(f:Fr)(d:Option Nat)(v:V):Fr:=match d with|some d=>gJ f d v|none=>f
def aw(m:Mem)(d:Nat)(b:bL):Mem:=fun t=>bif Nat.beq t d then some b else m t
def bq(m:Mem)(d:Nat):Mem:=fun t=>bif Nat.beq t d then none else m t
def Rl:List (Nat×V)→Fr
 |[]=>fun _=>.top
 |(d,v)::r=>gJ (Rl r) d v
def Ib:List (Nat×Option bL)→Mem
 |[]=>fun _=>none
 |(d,b)::r=>fun t=>bif Nat.beq t d then b else Ib r t
abbrev bB:=List (Bool×Nat)
def asInt(q:IntKind):PV→Option Int
 |.int q' n=>if q'=q then some n else none
 |_=>none
def asBool:PV→Option Bool
 |.bool b=>some b
 |_=>none
def aZ:PV→Option Bytes
 |.str s=>some s
 |_=>none
def TN:PV→Option Bool
 |.Wm b=>some b
 |_=>none
def ah(sz:Nat):PV→Option (List PV)
 |.rs Ky es=>if Ky=sz then some es else match es with|[]=>some []|_=>none
 |_=>none
def bN(n:Nat):PV→Option (List PV)
 |.aI vs=>if vs.length=n then some vs else none
 |_=>none
def asAgg(n:Nat):PV→Option Unit
 |.agg cs=>if cs.length=n then some ()else none
 |_=>none
def dQ(sz:Nat):PV→Option (List PV)
 |.qg Ky es=>if Ky=sz then some es else none
 |_=>none
def PV.isRow:PV→Bool
 |.qg _ _=>true
 |_=>false
def PV.qA:PV→PV
 |.qg sz es=>.rs sz es
 |p=>p
def PV.strip:PV→PV
 |.agg cs=>.agg (cs.map PV.qA)
 |p=>p.qA
def og(es:List PV)(i:Int):Option PV:=if 0≤i then es[i.toNat]? else none
def Rm(s:Bytes)(i:Int):Option UInt8:=if 0≤i then s[i.toNat]? else none
def Eg(s:Nat):List PV→List PV
 |[]=>[]
 |e::es=>aK s e++Eg s es
def qB(s n:Nat)(p:PV):List PV:=(List.range n).map fun i=>.agg (dZ p (i*s) s)
def Ic:Nat:=1000
inductive Kd where
 |int (q:IntKind)
 |bool
 |str
def xV:Kd→PV→Bool
 |.int q,.int q' _=>decide (q'=q)
 |.bool,.bool _=>true
 |.str,.str _=>true
 |_,_=>false
def jo:List Kd→List PV→Bool
 |[],[]=>true
 |k::ks,p::ps=>xV k p&&jo ks ps
 |_,_=>false
def PV.isAgg:PV→Bool
 |.agg _=>true
 |_=>false
def PV.plain:PV→Bool
 |.aI _=>false
 |.bad=>false
 |_=>true
def peq:PV→PV→Bool
 |.int _ a,.int _ b=>a==b
 |.bool a,.bool b=>a==b
 |.str a,.str b=>a==b
 |_,_=>false
def bO:List PV→List PV→Bool
 |[],[]=>true
 |a::as,b::bs=>peq a b&&bO as bs
 |_,_=>false
def bS(k:PV)(z:PV):List (PV×PV)→PV
 |[]=>z
 |(a,v)::r=>if bO k.cells a.cells then v else bS k z r
def ml(k:PV):List (PV×PV)→Bool
 |[]=>false
 |(a,_)::r=>bO k.cells a.cells||ml k r
def dd(k v:PV):List (PV×PV)→List (PV×PV)
 |[]=>[(k,v)]
 |(a,u)::r=>if bO k.cells a.cells then(k,v)::r else(a,u)::dd k v r
def xW(k:PV):List (PV×PV)→List (PV×PV)
 |[]=>[]
 |(a,u)::r=>if bO k.cells a.cells then(a,.bad)::r else(a,u)::xW k r
def OH(sz:Nat)(k:PV):List (PV×PV)→Option (List PV)
 |[]=>some []
 |(a,u)::r=>if bO k.cells a.cells then dQ sz u else OH sz k r
section
variable (P:Program)
def aS(t:TypeId):Nat:=((P.info? t).map (·.size)).getD 0
def KD(t:TypeId):Nat:=((P.info? t).map (·.bytes)).getD 0
def aG(t:TypeId):Bool:=match P.underlying t with|some (.struct _)|some (.array _ _)=>true|_=>false
def ud(Fq:TypeId→Option (List Kd)):List Field→Nat→Option (List Kd)
 |[],_=>some []
 |f::r,off=>if f.offset=off∧f.name≠ "_" then(Fq f.type).bind fun a=>(ud Fq r (off+a.length)).bind fun b=>some (a++b)else none
def ue(a:List Kd):Nat→List Kd
 |0=>[]
 |n+1=>a++ue a n
def Fq:Nat→TypeId→Option (List Kd)
 |0,_=>none
 |d+1,t=>match P.underlying t with
  |some (.int q)=>some [.int q]
  |some .bool=>some [.bool]
  |some .string=>some [.str]
  |some (.struct fs)=>if P.stoodInHeld t then none else(ud (Fq d) fs.toList 0).bind fun a=>if a.length=aS P t then some a else none
  |some (.array n e)=>(Fq d e).bind fun a=>if a.length=aS P e∧n*a.length=aS P t then some (ue a n)else none
  |_=>none
def Af(kt:TypeId)(ks:List Kd)(k:PV):Bool:=jo ks k.cells&&(aG P kt==k.isAgg)
def vS(t:TypeId):Option (List Kd):=if P.eqGuardType P.depth t then none else Fq P 8 t
end
def FA:Value→V
 |.int k n=>if(Lit.int k n).wf then .pv (.int k n)else .top
 |.bool b=>.pv (.bool b)
 |.string s=>if s.data.toList.length≤maxLen then .pv (.str s.data.toList)else .top
 |.pointer none=>.pv .ig
 |.slice none 0 0=>.fM
 |.map none=>.pv .od
 |.nilFunc=>.pv .CJ
 |.nilIface=>.pv (.Wm false)
 |_=>.top
def Le:Value→V
 |.agg cs=>if cs.toList.all (fun c=>match c with|.agg _=>false|.tuple _=>false|_=>true)then .agg (cs.toList.map FA)else .top
 |v=>FA v
def zeroV(P:Program)(t:TypeId):Option V:=((P.info? t).bind (·.zero)).map Le
def toCells(n:Nat):V→Option (List V)
 |.pv (.agg cs)=>if cs.length=n then some (cs.map .pv)else none
 |.agg cs=>if cs.length=n then some cs else none
 |.top|.aI _|.pv (.aI _)|.pv .bad=>none
 |v=>if n=1 then some [v]else none
def aij:PV→Option PV
 |.qg s rs=>some (.rs s rs)
 |_=>none
def sr(f:V→Option PV):List V→Option (List PV)
 |[]=>some []
 |v::r=>(f v).bind fun p=>(sr f r).bind fun ps=>some (p::ps)
def l0(m:Mem):Nat→V→Option PV
 |0,_=>none
 |_+1,.pv p=>some p
 |_+1,.fM=>some (.rs 0 [])
 |d+1,.agg cs=>(sr (l0 m d) cs).bind fun ps=>some (.agg ps)
 |d+1,.aI cs=>(sr (l0 m d) cs).bind fun ps=>some (.aI ps)
 |d+1,.fn g cs=>(sr (l0 m d) cs).bind fun ps=>some (.fn g ps)
 |_+1,.os id=>match m id with
  |some (.arr s _ es)=>some (.rs s es)
  |some (.sq s _ es)=>some (.rs s es)
  |some (.nest s _ es)=>some (.rs s (es.map PV.strip))
  |_=>none
 |_+1,.AJ id i off=>match m id with
  |some (.nest _ _ es)=>(es[i]?).bind fun e=>aij (cell e off)
  |_=>none
 |_+1,.gh id lo len=>match m id with
  |some (.arr s _ es)=>some (.rs s ((es.drop lo).take len))
  |some (.sq s _ es)=>some (.rs s ((es.drop lo).take len))
  |_=>none
 |d+1,.op id off=>match m id with
  |some (.box cs)=>(sr (l0 m d) (cs.drop off)).bind fun ps=>some (.rp ps)
  |_=>none
 |_+1,.oe id i off=>match m id with
  |some (.arr s _ es)=>(es[i]?).bind fun e=>some (.rp ((aK s e).drop off))
  |some (.sq s _ es)=>(es[i]?).bind fun e=>some (.rp ((aK s e).drop off))
  |_=>none
 |_+1,.om id=>match m id with
  |some (.map kt es)=>some (.rm kt (es.map (·.1)) (es.map (·.2)))
  |some (.fG kt _ es)=>some (.rm kt (es.map (·.1)) (es.map fun x=>x.2.qA))
  |_=>none
 |_+1,_=>none
def eW:Nat:=6
def jr(f:V→List Nat):List V→List Nat
 |[]=>[]
 |v::r=>f v++jr f r
def cP(m:Mem):Nat→V→List Nat
 |0,_=>[]
 |d+1,.agg cs=>jr (cP m d) cs
 |d+1,.aI cs=>jr (cP m d) cs
 |d+1,.fn _ cs=>jr (cP m d) cs
 |_+1,.os id=>[id]
 |_+1,.gh id _ _=>[id]
 |_+1,.oe id _ _=>[id]
 |_+1,.om id=>[id]
 |_+1,.AJ id _ _=>[id]
 |d+1,.op id off=>id::(match m id with|some (.box cs)=>jr (cP m d) (cs.drop off)|_=>[])
 |_+1,_=>[]
def Ie(m:Mem):V→Option (PV×Mem)
 |.pv p=>some (p,m)
 |.fM=>some (.rs 0 [],m)
 |.os id=>match m id with
  |some (.arr s et es)=>some (.rs s es,aw m id (.sq s et es))
  |some (.sq s _ es)=>some (.rs s es,m)
  |some (.nest s et es)=>some (.rs s (es.map PV.strip),aw m id (.sq s et (es.map PV.strip)))
  |_=>none
 |_=>none
def nR:Mem→List V→Option (List PV×Mem)
 |m,[]=>some ([],m)
 |m,v::r=>match Ie m v with
  |some (p,m)=>match nR m r with
   |some (ps,m)=>some (p::ps,m)
   |none=>none
  |none=>none
def yP(m:Mem):V→Option (PV×Mem)
 |.agg cs=>match nR m cs with
  |some (ps,m)=>some (.agg ps,m)
  |none=>none
 |v=>Ie m v
def k9(m:Mem)(n:Nat)(agg:Bool)(v:V):Option (PV×Mem):=
 match toCells n v with
 |some cs=>match nR m cs with
  |some (ps,m)=>if agg then some (.agg ps,m)else match ps with|[p]=>some (p,m)|_=>none
  |none=>none
 |none=>none
mutual
def V.has(id:Nat):V→Bool
 |.agg cs=>cp id cs
 |.aI cs=>cp id cs
 |.fn _ cs=>cp id cs
 |.os j=>Nat.beq j id
 |.gh j _ _=>Nat.beq j id
 |.oe j _ _=>Nat.beq j id
 |.om j=>Nat.beq j id
 |.AJ j _ _=>Nat.beq j id
 |.Ef j _ _ _ _ _=>Nat.beq j id
 |.op j _=>Nat.beq j id
 |.yl j=>Nat.beq j id
 |.it j=>Nat.beq j id
 |_=>false
def cp(id:Nat):List V→Bool
 |[]=>false
 |v::r=>v.has id||cp id r
end
mutual
def V.within(M:List Nat):V→Bool
 |.agg cs=>lf M cs
 |.aI cs=>lf M cs
 |.fn _ cs=>lf M cs
 |.os j=>M.elem j
 |.gh j _ _=>M.elem j
 |.oe j _ _=>M.elem j
 |.om j=>M.elem j
 |.AJ j _ _=>M.elem j
 |.Ef j _ _ _ _ _=>M.elem j
 |.op j _=>M.elem j
 |.yl j=>M.elem j
 |.it j=>M.elem j
 |_=>true
def lf(M:List Nat):List V→Bool
 |[]=>true
 |v::r=>v.within M&&lf M r
end
mutual
def V.Aw(id:Nat):V→Bool
 |.agg cs=>Eh id cs
 |.aI cs=>Eh id cs
 |.fn _ cs=>Eh id cs
 |.AJ j _ _=>Nat.beq j id
 |.Ef j _ _ _ _ _=>Nat.beq j id
 |_=>false
def Eh(id:Nat):List V→Bool
 |[]=>false
 |v::r=>v.Aw id||Eh id r
end
def uf(id:Nat)(v:V):V:=bif v.has id then .top else v
def eP(id:Nat)(f:Fr):Fr:=fun t=>uf id (f t)
def gK(id:Nat):bL→bL
 |.box cs=>.box (cs.map (uf id))
 |b=>b
def bK(id:Nat)(m:Mem):Mem:=fun j=>match m j with|some b=>some (gK id b)|none=>none
def oC(id:Nat)(v:V):V:=bif v.Aw id then .top else v
def gA(id:Nat)(f:Fr):Fr:=fun t=>oC id (f t)
def dR(id:Nat):bL→bL
 |.box cs=>.box (cs.map (oC id))
 |b=>b
def fE(id:Nat)(m:Mem):Mem:=fun j=>match m j with|some b=>some (dR id b)|none=>none
abbrev Kl:=List (Bool×Nat)
def kf:Kl→Fr→Fr
 |[],f=>f
 |(true,id)::r,f=>kf r (eP id f)
 |(false,id)::r,f=>kf r (gA id f)
def km:Kl→Mem→Mem
 |[],m=>m
 |(true,id)::r,m=>km r (bq (bK id m) id)
 |(false,id)::r,m=>km r (fE id m)
def vT:List (Nat×bL)→Mem→Mem
 |[],m=>m
 |(id,b)::r,m=>vT r (aw m id b)
def bL.names:bL→Nat→Bool
 |.box cs,id=>cp id cs
 |_,_=>false
def bL.within(M:List Nat):bL→Bool
 |.box cs=>lf M cs
 |_=>true
set_option linter.defProp false
def ta:=@List.getElem?_eq_getElem
def tb:=@Option.some.injEq
def tc:=@decide_eq_true_eq
def te:=@List.length_map
def AI:=@Bool.false_eq_true
def AT:=@List.getElem?_map
def By:=@Option.bind_eq_some_iff
def BY:=@if_true
def IN:=@List.getElem?_eq_some_iff
def IS:=@Option.map_some
def IT:=@Nat.eq_of_beq_eq_true
def No:=@if_pos
def OF:=@if_false
def QU:=@if_neg
def T0:=@Array.getElem?_eq_some_iff
def Yh:=@Array.getElem?_eq_getElem
def aeu:=@Bool.and_eq_true
def aev:=@List.getD_cons_zero
def afu:=@Prod.mk.injEq
def ali:=@List.getD_cons_succ
def alj:=@Option.map_eq_some_iff
def alk:=@Bool.not_true
def alx:=@List.length_cons
def am8:=@Array.getD_eq_getD_getElem?
def an4:=@List.mem_of_getElem?
def an5:=@List.length_nil
def an6:=@Int.lt_irrefl
def an7:=@List.getElem_mem
def an8:=@Nat.mul_le_mul_right
def an9:=@Int.toNat_natCast
def aoa:=@Nat.le_refl
def aob:=@List.length_append
def aoc:=@List.mem_cons
def aod:=@Bool.true_eq_false
def aoe:=@Option.bind_some
def aof:=@List.eq_nil_of_length_eq_zero
def aog:=@List.map_cons
def aoh:=@List.mem_iff_getElem?
def aoi:=@List.mem_map
def aoj:=@Bool.not_false
def aok:=@List.mem_filter
def aol:=@List.mem_append
def aom:=@List.take_succ_eq_append_getElem
def aon:=@Bool.or_eq_true
def aoo:=@decide_false
def aop:=@Option.isSome_iff_exists
def aoq:=@Option.some.inj
def aor:=@Array.getElem?_setIfInBounds
def aos:=@List.map_append
def aot:=@decide_true
def aou:=@Bool.not_eq_true'
def aov:=@Nat.le_trans
def aow:=@List.append_assoc
def aox:=@List.ext_getElem?
def aoy:=@Bool.eq_iff_iff
def aoz:=@List.length_take
def aoA:=@List.mem_range
def aoB:=@List.map_congr_left
def aoC:=@Bool.or_eq_false_iff
def aoD:=@Option.getD_some
def aoE:=@List.mem_flatMap
def aoF:=@List.take_of_length_le
def aoG:=@List.getElem?_append
def aoH:=@List.pairwise_iff_getElem
def aoI:=@List.length_replicate
def aoJ:=@List.take_length
def aoK:=@List.exists_of_findSome?_eq_some
def aoL:=@List.getElem?_toArray
def aoM:=@List.append_nil
def aoN:=@List.all_eq_true
def aoO:=@List.getElem?_set
def aoP:=@decide_eq_false_iff_not
def aoQ:=@List.range_succ
def aoR:=@List.getElem?_cons_zero
def aoS:=@Array.getElem?_toList
def aoT:=@Nat.add_assoc
def aoU:=@List.getElem?_of_mem
def aoV:=@Nat.add_mul
def aoW:=@List.Pairwise.imp_of_mem
def aoX:=@List.pairwise_cons
def aoY:=@List.getElem?_eq_none
def aoZ:=@Bool.not_eq_true
def ao0:=@Nat.min_eq_left
def ao1:=@Classical.byContradiction
def ao2:=@List.pairwise_append
def ao3:=@List.findSome?_cons
def ao4:=@Bool.true_and
def ao5:=@Bool.or_false
def ao6:=@List.cons.injEq
def ao7:=@List.any_eq_true
def ao8:=@List.take_append_getElem
def ao9:=@Nat.blt_eq
def apa:=@Nat.zero_add
def apb:=@List.size_toArray
def apc:=@List.pairwise_flatMap
def apd:=@List.any_eq_false
def ape:=@List.map_nil
def apf:=@decide_eq_true
def apg:=@List.mem_singleton
def aph:=@decide_eq_false
def apj:=@List.getElem?_append_right
def apk:=@Array.toList_setIfInBounds
def apl:=@Array.getElem?_append_left
def apm:=@List.mem_of_find?_eq_some
def apn:=@List.getElem?_append_left
def apo:=@Int.mul_le_mul_of_nonneg_right
def apq:=@Nat.add_sub_cancel
def apr:=@Option.toList_none
def aps:=@List.flatMap_def
def apt:=@List.cons_append
def apu:=@Array.mem_toList_iff
def apv:=@List.mem_of_mem_take
def apw:=@Bool.and_true
def apx:=@List.nodup_cons
def apy:=@Nat.mul_le_mul_left
def apz:=@List.getElem?_range
def apA:=@List.nil_append
def apB:=@List.range_succ_eq_map
def apC:=@List.elem_iff
def apD:=@Array.getElem?_modify
def apE:=@Bool.not_eq_false'
def apF:=@Bool.false_and
def apG:=@List.drop_eq_getElem_cons
def apH:=@Function.comp_def
def apI:=@Array.ext'
def apJ:=@List.getElem?_take_of_lt
def apK:=@Array.getElem?_setIfInBounds_ne
def apL:=@List.map_map
def apM:=@List.getElem?_replicate
def apN:=@Int.eq_ofNat_of_zero_le
def apO:=@Bool.false_or
def apP:=@List.getElem?_cons_succ
def apQ:=@List.flatMap_append
def apR:=@Nat.mul_le_mul
def apS:=@Option.isSome_none
def apT:=@List.mem_filterMap
def apU:=@Nat.add_zero
def apV:=@List.length_filter_le
def apW:=@List.length_set
def apX:=@List.findSome?_eq_none_iff
def apY:=@List.reverse_reverse
def apZ:=@List.mem_cons_of_mem
def ap0:=@List.range_eq_range'
def ap1:=@List.mem_of_mem_drop
def ap2:=@Option.isNone_iff_eq_none
def ap3:=@List.drop_drop
def ap4:=@List.take_zero
def ap5:=@List.mem_toArray
def ap6:=@List.range'_succ
def ap7:=@List.nodup_range
def ap8:=@beq_eq_false_iff_ne
def ap9:=@List.find?_eq_none
def aqa:=@Option.isSome_some
def aqb:=@List.head?_eq_getElem?
def aqd:=@List.drop_zero
def aqe:=@Int.mul_nonneg
def aqf:=@Nat.mul_comm
def aqh:=@List.length_singleton
def aqi:=@Array.eq_empty_of_size_eq_zero
def aqj:=@Nat.le_of_lt
def aqk:=@List.eq_nil_iff_forall_not_mem
def aql:=@Nat.lt_succ_self
def aqm:=@List.length_drop
def aqn:=@decide_eq_decide
def aqo:=@List.getElem?_modify
def aqp:=@List.replicate_succ'
def aqq:=@List.map_take
def aqr:=@List.any_cons
def aqs:=@List.find?_cons
def aqt:=@List.countP_eq_zero
def aqu:=@Array.getElem?_push
def aqv:=@List.getElem_of_mem
def aqw:=@Array.length_toList
def aqx:=@List.countP_set
def aqz:=@Int.fdiv_eq_ediv_of_nonneg
def aqA:=@Nat.lt_of_le_of_lt
def aqB:=@Option.toList_some
def aqC:=@List.map_findSome?
def aqD:=@List.findSome?_nil
def aqE:=@Int.toNat_zero
def aqF:=@List.mapM_cons
def aqG:=@List.take_add_one
def aqH:=@List.pairwise_map
def aqI:=@Array.size_append
def aqJ:=@List.Perm.eq_of_pairwise
def aqL:=@List.find?_range_eq_some
def aqM:=@List.all_cons
def aqN:=@Nat.zero_le
def aqP:=@List.not_mem_nil
def aqQ:=@List.drop_of_length_le
def aqR:=@Array.getElem?_eq_none
def aqS:=@List.drop_eq_nil_of_le
def aqU:=@List.findSome?_append
def aqV:=@Int.ediv_nonneg
def aqX:=@List.foldl_cons
def aqY:=@Array.mem_of_getElem?
def aqZ:=@List.set_set
def aq1:=@Nat.mod_lt
def aq2:=@Classical.not_forall
def aq3:=@List.length_eraseIdx
def aq4:=@List.mem_append_left
def aq5:=@not_or
def aq7:=@List.filter_eq_self
def aq9:=@and_assoc
def ara:=@beq_iff_eq
def arb:=@Nat.zero_mul
def arc:=@Bool.true_or
def ard:=@Bool.or_true
def are:=@Nat.le_of_eq
def arf:=@Nat.sub_zero
def ari:=@Bool.not_not
def arj:=@Prod.ext
def ark:=@and_true
def arl:=@Nat.le_zero
def arn:=@ne_eq
end Go.Ab
