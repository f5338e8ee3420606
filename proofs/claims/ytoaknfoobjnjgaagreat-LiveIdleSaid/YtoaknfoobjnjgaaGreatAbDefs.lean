import GoSem.Step
import GoSem.ClaimData
import Derived.Calls
set_option linter.all false
namespace Go.Ab
abbrev Bytes:=List UInt8
inductive PV where
 |int (k:IntKind) (n:Int)
 |bool (b:Bool)
 |str (s:Bytes)
 |agg (cs:List PV)
 |aV (vs:List PV)
 |oh
 |rp (cs:List PV)
 |rs (sz:Nat) (es:List PV)
 |jr (sz:Nat) (es:List PV)
 |nW
 |rm (kt:TypeId) (ks vs:List PV)
 |AM
 |fn (f:FuncId) (caps:List PV)
 |Uu (b:Bool)
 |bad
 deriving Inhabited
def PV.cells:PV→List PV
 |.agg cs=>cs
 |v=>[v]
def cell(p:PV)(j:Nat):PV:=p.cells.getD j .bad
def eh(p:PV):(j n:Nat)→List PV
 |_,0=>[]
 |j,n+1=>cell p j::eh p (j+1) n
def aM(sz:Nat)(p:PV):List PV:=eh p 0 sz
inductive Jmp where
 |ret
 |exit (id:Nat)
inductive Qe where
 |ready
 |busy
 |done (j:Jmp)
inductive V where
 |pv (p:PV)
 |gy
 |op (id off:Nat)
 |oe (id i off:Nat)
 |os (id:Nat)
 |fX (id lo len:Nat)
 |om (id:Nat)
 |yK (id i off:Nat)
 |Cv (id i off s j off2:Nat)
 |fn (f:FuncId) (caps:List V)
 |yl (id:Nat)
 |it (id:Nat)
 |agg (cs:List V)
 |aV (vs:List V)
 |top
 deriving Inhabited
inductive bI where
 |box (cs:List V)
 |arr (sz:Nat) (et:TypeId) (es:List PV)
 |rE (sz:Nat) (et:TypeId) (es:List PV)
 |map (kt:TypeId) (es:List (PV×PV))
 |nest (sz:Nat) (et:TypeId) (es:List PV)
 |fH (kt e:TypeId) (es:List (PV×PV))
 |loop (st:Qe)
 |iter (t:TypeId) (es:List (PV×PV)) (cur:Option (PV×PV))
 deriving Inhabited
abbrev Fr:=Nat→V
abbrev Mem:=Nat→Option bI
def gH(f:Fr)(d:Nat)(v:V):Fr:=fun t=>bif Nat.beq t d then v else f t
def iO(f:Fr)(d:Option Nat)(v:V):Fr:=match d with|some d=>gH f d v|none=>f
def aB(m:Mem)(d:Nat)(b:bI):Mem:=fun t=>bif Nat.beq t d then some b else m t
def br(m:Mem)(d:Nat):Mem:=fun t=>bif Nat.beq t d then none else m t
def Qn:List (Nat×V)→Fr
 |[]=>fun _=>.top
 |(d,v)::r=>gH (Qn r) d v
def Gn:List (Nat×Option bI)→Mem
 |[]=>fun _=>none
 |(d,b)::r=>fun t=>bif Nat.beq t d then b else Gn r t
abbrev bx:=List (Bool×Nat)
def asInt(q:IntKind):PV→Option Int
 |.int q' n=>if q'=q then some n else none
 |_=>none
def asBool:PV→Option Bool
 |.bool b=>some b
 |_=>none
def bt:PV→Option Bytes
 |.str s=>some s
 |_=>none
def Sr:PV→Option Bool
 |.Uu b=>some b
 |_=>none
def ak(sz:Nat):PV→Option (List PV)
 |.rs I3 es=>if I3=sz then some es else match es with|[]=>some []|_=>none
 |_=>none
def cz(n:Nat):PV→Option (List PV)
 |.aV vs=>if vs.length=n then some vs else none
 |_=>none
def asAgg(n:Nat):PV→Option Unit
 |.agg cs=>if cs.length=n then some ()else none
 |_=>none
def bW(sz:Nat):PV→Option (List PV)
 |.jr I3 es=>if I3=sz then some es else none
 |_=>none
def PV.isRow:PV→Bool
 |.jr _ _=>true
 |_=>false
def PV.pW:PV→PV
 |.jr sz es=>.rs sz es
 |p=>p
def PV.strip:PV→PV
 |.agg cs=>.agg (cs.map PV.pW)
 |p=>p.pW
def yB(es:List PV)(i:Int):Option PV:=if 0≤i then es[i.toNat]? else none
def W5(s:Bytes)(i:Int):Option UInt8:=if 0≤i then s[i.toNat]? else none
def Cw(s:Nat):List PV→List PV
 |[]=>[]
 |e::es=>aM s e++Cw s es
def pX(s n:Nat)(p:PV):List PV:=(List.range n).map fun i=>.agg (eh p (i*s) s)
def Gp:Nat:=1000
inductive Kd where
 |int (q:IntKind)
 |bool
 |str
def we:Kd→PV→Bool
 |.int q,.int q' _=>decide (q'=q)
 |.bool,.bool _=>true
 |.str,.str _=>true
 |_,_=>false
def ju:List Kd→List PV→Bool
 |[],[]=>true
 |k::ks,p::ps=>we k p&&ju ks ps
 |_,_=>false
def PV.isAgg:PV→Bool
 |.agg _=>true
 |_=>false
def PV.plain:PV→Bool
 |.aV _=>false
 |.bad=>false
 |_=>true
def peq:PV→PV→Bool
 |.int _ a,.int _ b=>a==b
 |.bool a,.bool b=>a==b
 |.str a,.str b=>a==b
 |_,_=>false
def bR:List PV→List PV→Bool
 |[],[]=>true
 |a::as,b::bs=>peq a b&&bR as bs
 |_,_=>false
def bT(k:PV)(z:PV):List (PV×PV)→PV
 |[]=>z
 |(a,v)::r=>if bR k.cells a.cells then v else bT k z r
def me(k:PV):List (PV×PV)→Bool
 |[]=>false
 |(a,_)::r=>bR k.cells a.cells||me k r
def dr(k v:PV):List (PV×PV)→List (PV×PV)
 |[]=>[(k,v)]
 |(a,u)::r=>if bR k.cells a.cells then(k,v)::r else(a,u)::dr k v r
def wg(k:PV):List (PV×PV)→List (PV×PV)
 |[]=>[]
 |(a,u)::r=>if bR k.cells a.cells then(a,.bad)::r else(a,u)::wg k r
def Nn(sz:Nat)(k:PV):List (PV×PV)→Option (List PV)
 |[]=>some []
 |(a,u)::r=>if bR k.cells a.cells then bW sz u else Nn sz k r
section
variable (P:Program)
def aW(t:TypeId):Nat:=((P.info? t).map (·.size)).getD 0
def Jb(t:TypeId):Nat:=((P.info? t).map (·.bytes)).getD 0
def aJ(t:TypeId):Bool:=match P.underlying t with|some (.struct _)|some (.array _ _)=>true|_=>false
def sQ(DK:TypeId→Option (List Kd)):List Field→Nat→Option (List Kd)
 |[],_=>some []
 |f::r,off=>if f.offset=off∧f.name≠ "_" then(DK f.type).bind fun a=>(sQ DK r (off+a.length)).bind fun b=>some (a++b)else none
def sR(a:List Kd):Nat→List Kd
 |0=>[]
 |n+1=>a++sR a n
def DK:Nat→TypeId→Option (List Kd)
 |0,_=>none
 |d+1,t=>match P.underlying t with
  |some (.int q)=>some [.int q]
  |some .bool=>some [.bool]
  |some .string=>some [.str]
  |some (.struct fs)=>if P.stoodInHeld t then none else(sQ (DK d) fs.toList 0).bind fun a=>if a.length=aW P t then some a else none
  |some (.array n e)=>(DK d e).bind fun a=>if a.length=aW P e∧n*a.length=aW P t then some (sR a n)else none
  |_=>none
def yn(kt:TypeId)(ks:List Kd)(k:PV):Bool:=ju ks k.cells&&(aJ P kt==k.isAgg)
def uD(t:TypeId):Option (List Kd):=if P.eqGuardType P.depth t then none else DK P 8 t
end
def DQ:Value→V
 |.int k n=>if(Lit.int k n).wf then .pv (.int k n)else .top
 |.bool b=>.pv (.bool b)
 |.string s=>if s.data.toList.length≤maxLen then .pv (.str s.data.toList)else .top
 |.pointer none=>.pv .oh
 |.slice none 0 0=>.gy
 |.map none=>.pv .nW
 |.nilFunc=>.pv .AM
 |.nilIface=>.pv (.Uu false)
 |_=>.top
def JE:Value→V
 |.agg cs=>if cs.toList.all (fun c=>match c with|.agg _=>false|.tuple _=>false|_=>true)then .agg (cs.toList.map DQ)else .top
 |v=>DQ v
def zeroV(P:Program)(t:TypeId):Option V:=((P.info? t).bind (·.zero)).map JE
def toCells(n:Nat):V→Option (List V)
 |.pv (.agg cs)=>if cs.length=n then some (cs.map .pv)else none
 |.agg cs=>if cs.length=n then some cs else none
 |.top|.aV _|.pv (.aV _)|.pv .bad=>none
 |v=>if n=1 then some [v]else none
def acz:PV→Option PV
 |.jr s rs=>some (.rs s rs)
 |_=>none
def rF(f:V→Option PV):List V→Option (List PV)
 |[]=>some []
 |v::r=>(f v).bind fun p=>(rF f r).bind fun ps=>some (p::ps)
def lU(m:Mem):Nat→V→Option PV
 |0,_=>none
 |_+1,.pv p=>some p
 |_+1,.gy=>some (.rs 0 [])
 |d+1,.agg cs=>(rF (lU m d) cs).bind fun ps=>some (.agg ps)
 |d+1,.aV cs=>(rF (lU m d) cs).bind fun ps=>some (.aV ps)
 |d+1,.fn g cs=>(rF (lU m d) cs).bind fun ps=>some (.fn g ps)
 |_+1,.os id=>match m id with
  |some (.arr s _ es)=>some (.rs s es)
  |some (.rE s _ es)=>some (.rs s es)
  |some (.nest s _ es)=>some (.rs s (es.map PV.strip))
  |_=>none
 |_+1,.yK id i off=>match m id with
  |some (.nest _ _ es)=>(es[i]?).bind fun e=>acz (cell e off)
  |_=>none
 |_+1,.fX id lo len=>match m id with
  |some (.arr s _ es)=>some (.rs s ((es.drop lo).take len))
  |some (.rE s _ es)=>some (.rs s ((es.drop lo).take len))
  |_=>none
 |d+1,.op id off=>match m id with
  |some (.box cs)=>(rF (lU m d) (cs.drop off)).bind fun ps=>some (.rp ps)
  |_=>none
 |_+1,.oe id i off=>match m id with
  |some (.arr s _ es)=>(es[i]?).bind fun e=>some (.rp ((aM s e).drop off))
  |some (.rE s _ es)=>(es[i]?).bind fun e=>some (.rp ((aM s e).drop off))
  |_=>none
 |_+1,.om id=>match m id with
  |some (.map kt es)=>some (.rm kt (es.map (·.1)) (es.map (·.2)))
  |some (.fH kt _ es)=>some (.rm kt (es.map (·.1)) (es.map fun x=>x.2.pW))
  |_=>none
 |_+1,_=>none
def fa:Nat:=6
def jy(f:V→List Nat):List V→List Nat
 |[]=>[]
 |v::r=>f v++jy f r
def cZ(m:Mem):Nat→V→List Nat
 |0,_=>[]
 |d+1,.agg cs=>jy (cZ m d) cs
 |d+1,.aV cs=>jy (cZ m d) cs
 |d+1,.fn _ cs=>jy (cZ m d) cs
 |_+1,.os id=>[id]
 |_+1,.fX id _ _=>[id]
 |_+1,.oe id _ _=>[id]
 |_+1,.om id=>[id]
 |_+1,.yK id _ _=>[id]
 |d+1,.op id off=>id::(match m id with|some (.box cs)=>jy (cZ m d) (cs.drop off)|_=>[])
 |_+1,_=>[]
def Gq(m:Mem):V→Option (PV×Mem)
 |.pv p=>some (p,m)
 |.gy=>some (.rs 0 [],m)
 |.os id=>match m id with
  |some (.arr s et es)=>some (.rs s es,aB m id (.rE s et es))
  |some (.rE s _ es)=>some (.rs s es,m)
  |some (.nest s et es)=>some (.rs s (es.map PV.strip),aB m id (.rE s et (es.map PV.strip)))
  |_=>none
 |_=>none
def nI:Mem→List V→Option (List PV×Mem)
 |m,[]=>some ([],m)
 |m,v::r=>match Gq m v with
  |some (p,m)=>match nI m r with
   |some (ps,m)=>some (p::ps,m)
   |none=>none
  |none=>none
def wY(m:Mem):V→Option (PV×Mem)
 |.agg cs=>match nI m cs with
  |some (ps,m)=>some (.agg ps,m)
  |none=>none
 |v=>Gq m v
def lj(m:Mem)(n:Nat)(agg:Bool)(v:V):Option (PV×Mem):=
 match toCells n v with
 |some cs=>match nI m cs with
  |some (ps,m)=>if agg then some (.agg ps,m)else match ps with|[p]=>some (p,m)|_=>none
  |none=>none
 |none=>none
mutual
def V.has(id:Nat):V→Bool
 |.agg cs=>cq id cs
 |.aV cs=>cq id cs
 |.fn _ cs=>cq id cs
 |.os j=>Nat.beq j id
 |.fX j _ _=>Nat.beq j id
 |.oe j _ _=>Nat.beq j id
 |.om j=>Nat.beq j id
 |.yK j _ _=>Nat.beq j id
 |.Cv j _ _ _ _ _=>Nat.beq j id
 |.op j _=>Nat.beq j id
 |.yl j=>Nat.beq j id
 |.it j=>Nat.beq j id
 |_=>false
def cq(id:Nat):List V→Bool
 |[]=>false
 |v::r=>v.has id||cq id r
end
mutual
def V.within(M:List Nat):V→Bool
 |.agg cs=>ll M cs
 |.aV cs=>ll M cs
 |.fn _ cs=>ll M cs
 |.os j=>M.elem j
 |.fX j _ _=>M.elem j
 |.oe j _ _=>M.elem j
 |.om j=>M.elem j
 |.yK j _ _=>M.elem j
 |.Cv j _ _ _ _ _=>M.elem j
 |.op j _=>M.elem j
 |.yl j=>M.elem j
 |.it j=>M.elem j
 |_=>true
def ll(M:List Nat):List V→Bool
 |[]=>true
 |v::r=>v.within M&&ll M r
end
mutual
def V.yC(id:Nat):V→Bool
 |.agg cs=>Cx id cs
 |.aV cs=>Cx id cs
 |.fn _ cs=>Cx id cs
 |.yK j _ _=>Nat.beq j id
 |.Cv j _ _ _ _ _=>Nat.beq j id
 |_=>false
def Cx(id:Nat):List V→Bool
 |[]=>false
 |v::r=>v.yC id||Cx id r
end
def sS(id:Nat)(v:V):V:=bif v.has id then .top else v
def eU(id:Nat)(f:Fr):Fr:=fun t=>sS id (f t)
def gI(id:Nat):bI→bI
 |.box cs=>.box (cs.map (sS id))
 |b=>b
def bH(id:Nat)(m:Mem):Mem:=fun j=>match m j with|some b=>some (gI id b)|none=>none
def oj(id:Nat)(v:V):V:=bif v.yC id then .top else v
def gz(id:Nat)(f:Fr):Fr:=fun t=>oj id (f t)
def dX(id:Nat):bI→bI
 |.box cs=>.box (cs.map (oj id))
 |b=>b
def fA(id:Nat)(m:Mem):Mem:=fun j=>match m j with|some b=>some (dX id b)|none=>none
abbrev Kl:=List (Bool×Nat)
def kf:Kl→Fr→Fr
 |[],f=>f
 |(true,id)::r,f=>kf r (eU id f)
 |(false,id)::r,f=>kf r (gz id f)
def km:Kl→Mem→Mem
 |[],m=>m
 |(true,id)::r,m=>km r (br (bH id m) id)
 |(false,id)::r,m=>km r (fA id m)
def uE:List (Nat×bI)→Mem→Mem
 |[],m=>m
 |(id,b)::r,m=>uE r (aB m id b)
def bI.names:bI→Nat→Bool
 |.box cs,id=>cq id cs
 |_,_=>false
def bI.within(M:List Nat):bI→Bool
 |.box cs=>ll M cs
 |_=>true
set_option linter.defProp false
def ta:=@List.getElem?_eq_getElem
def tb:=@Option.some.injEq
def tc:=@Bool.false_eq_true
def te:=@decide_eq_true_eq
def AI:=@Option.bind_eq_some_iff
def AT:=@List.getElem?_map
def By:=@List.length_map
def BY:=@if_pos
def IN:=@List.getElem?_eq_some_iff
def IS:=@if_true
def IT:=@if_neg
def K5:=@Nat.eq_of_beq_eq_true
def No:=@Option.map_some
def OF:=@Bool.and_eq_true
def PS:=@if_false
def T0:=@Prod.mk.injEq
def T1:=@Array.getElem?_eq_getElem
def adW:=@Array.getElem?_eq_some_iff
def ae0:=@Option.map_eq_some_iff
def agY:=@Int.toNat_natCast
def agZ:=@List.getElem_mem
def ag0:=@Bool.not_true
def aki:=@List.getD_cons_zero
def alx:=@List.length_cons
def amq:=@List.mem_of_getElem?
def amr:=@List.getD_cons_succ
def ams:=@Array.getD_eq_getD_getElem?
def amt:=@Nat.mul_le_mul_right
def anw:=@List.take_succ_eq_append_getElem
def anx:=@List.length_nil
def anz:=@Nat.le_refl
def anA:=@List.mem_cons
def anB:=@List.map_cons
def anC:=@Option.bind_some
def anD:=@List.length_append
def anE:=@Bool.true_eq_false
def anF:=@List.eq_nil_of_length_eq_zero
def anG:=@List.mem_map
def anH:=@Bool.or_eq_true
def anI:=@List.mem_iff_getElem?
def anJ:=@decide_false
def anK:=@Option.isSome_iff_exists
def anL:=@Bool.or_eq_false_iff
def anM:=@Bool.not_false
def anN:=@Int.lt_irrefl
def anO:=@List.mem_append
def anP:=@List.mem_filter
def anQ:=@decide_eq_false_iff_not
def anR:=@decide_true
def anS:=@Bool.eq_iff_iff
def anT:=@Bool.not_eq_true'
def anU:=@List.map_append
def anV:=@Array.getElem?_setIfInBounds
def anW:=@Nat.le_trans
def anX:=@List.ext_getElem?
def anY:=@Option.getD_some
def anZ:=@List.take_of_length_le
def an0:=@List.mem_range
def an1:=@List.append_assoc
def an2:=@List.map_congr_left
def an3:=@List.mem_flatMap
def an4:=@List.exists_of_findSome?_eq_some
def an5:=@Option.some.inj
def an6:=@List.getElem?_append
def an7:=@List.all_eq_true
def an8:=@List.pairwise_iff_getElem
def an9:=@List.length_take
def aoa:=@List.getElem?_toArray
def aob:=@List.length_filter_le
def aoc:=@List.length_replicate
def aod:=@List.getElem?_set
def aoe:=@List.take_length
def aof:=@List.append_nil
def aog:=@List.take_append_of_le_length
def aoh:=@List.getElem?_cons_zero
def aoi:=@Array.getElem?_toList
def aoj:=@List.drop_eq_getElem_cons
def aok:=@List.getElem?_of_mem
def aol:=@Nat.add_assoc
def aom:=@List.Pairwise.imp_of_mem
def aon:=@List.cons.injEq
def aoo:=@Nat.add_mul
def aop:=@Bool.not_eq_false'
def aoq:=@List.mem_singleton
def aor:=@Bool.not_eq_true
def aos:=@List.pairwise_cons
def aot:=@List.range_succ
def aou:=@List.findSome?_cons
def aov:=@List.getElem?_append_right
def aow:=@List.pairwise_append
def aox:=@List.mem_of_mem_take
def aoy:=@Nat.zero_add
def aoz:=@List.getElem?_append_left
def aoA:=@List.length_set
def aoB:=@Bool.true_and
def aoC:=@List.size_toArray
def aoD:=@List.pairwise_flatMap
def aoE:=@List.getElem?_eq_none
def aoF:=@Nat.blt_eq
def aoG:=@List.filter_append
def aoH:=@Option.elim_some
def aoI:=@Array.toList_setIfInBounds
def aoJ:=@Array.getElem?_append_left
def aoK:=@List.any_eq_false
def aoL:=@Bool.or_false
def aoM:=@Nat.min_eq_left
def aoN:=@List.take_append_drop
def aoO:=@List.getElem?_take_of_lt
def aoP:=@List.flatMap_def
def aoQ:=@List.cons_append
def aoR:=@decide_eq_true
def aoS:=@List.set_set
def aoT:=@List.nil_append
def aoU:=@List.nodup_cons
def aoV:=@Nat.mul_le_mul_left
def aoW:=@List.drop_eq_nil_of_le
def aoX:=@List.any_eq_true
def aoY:=@Option.isSome_none
def aoZ:=@List.elem_iff
def ao0:=@Array.getElem?_modify
def ao1:=@List.drop_drop
def ao2:=@List.mem_of_find?_eq_some
def ao3:=@List.mem_of_mem_drop
def ao4:=@Array.mem_toList_iff
def ao5:=@Array.getElem?_setIfInBounds_ne
def ao6:=@List.take_append_getElem
def ao7:=@Array.ext'
def ao8:=@List.map_map
def ao9:=@Int.mul_le_mul_of_nonneg_right
def apa:=@List.getElem?_cons_succ
def apb:=@List.getElem_of_mem
def apc:=@List.flatMap_append
def apd:=@Bool.and_true
def ape:=@List.length_drop
def apf:=@Nat.mul_le_mul
def apg:=@List.range_succ_eq_map
def aph:=@List.mem_filterMap
def apj:=@List.find?_eq_none
def apk:=@Nat.add_sub_cancel
def apl:=@Option.isSome_some
def apm:=@List.length_singleton
def apn:=@Nat.add_zero
def apo:=@List.map_nil
def apq:=@List.map_set
def apr:=@Bool.false_or
def aps:=@List.map_take
def apt:=@List.reverse_reverse
def apu:=@List.mem_cons_of_mem
def apv:=@List.range_eq_range'
def apw:=@Bool.false_and
def apx:=@List.getElem_append_right
def apy:=@List.take_zero
def apz:=@Option.isNone_iff_eq_none
def apA:=@List.range'_succ
def apB:=@List.mem_toArray
def apC:=@List.nodup_range
def apD:=@List.getElem?_range
def apE:=@beq_eq_false_iff_ne
def apF:=@List.getElem_append_left
def apG:=@Option.toList_none
def apH:=@Int.eq_ofNat_of_zero_le
def apI:=@decide_eq_false
def apJ:=@List.head?_eq_getElem?
def apK:=@List.getElem?_set_self
def apM:=@Nat.zero_le
def apN:=@Function.comp_def
def apO:=@Nat.mul_comm
def apP:=@and_assoc
def apR:=@Nat.le_of_lt
def apS:=@List.eq_nil_iff_forall_not_mem
def apT:=@Array.eq_empty_of_size_eq_zero
def apU:=@decide_eq_decide
def apV:=@Nat.lt_succ_self
def apW:=@List.mem_iff_getElem
def apX:=@List.getElem?_modify
def apY:=@List.countP_set
def apZ:=@List.countP_eq_zero
def ap0:=@Array.getElem?_push
def ap1:=@Array.length_toList
def ap2:=@List.any_append
def ap3:=@List.findSome?_eq_none_iff
def ap4:=@Int.fdiv_eq_ediv_of_nonneg
def ap5:=@List.map_findSome?
def ap6:=@Option.toList_some
def ap7:=@List.findSome?_nil
def ap8:=@not_or
def ap9:=@List.drop_zero
def aqa:=@List.mapM_cons
def aqb:=@Int.mul_nonneg
def aqc:=@List.mem_or_eq_of_mem_set
def aqd:=@Classical.byContradiction
def aqe:=@List.pairwise_map
def aqf:=@List.Perm.eq_of_pairwise
def aqg:=@Array.size_append
def aqh:=@List.take_add_one
def aqi:=@List.find?_range_eq_some
def aqj:=@List.filter_cons_of_neg
def aqk:=@List.getElem?_replicate
def aql:=@List.all_cons
def aqm:=@List.any_cons
def aqn:=@List.filter_cons_of_pos
def aqo:=@List.filter_cons
def aqq:=@List.not_mem_nil
def aqr:=@Array.getElem?_eq_none
def aqs:=@List.drop_of_length_le
def aqu:=@List.findSome?_append
def aqv:=@Array.mem_of_getElem?
def aqw:=@Bool.not_not
def aqx:=@Nat.sub_zero
def aqy:=@Int.ediv_nonneg
def aqz:=@List.filter_nil
def aqA:=@List.set_getElem_self
def aqC:=@List.foldl_cons
def aqD:=@List.getElem_set_self
def aqE:=@List.set_append_right
def aqF:=@Nat.mod_lt
def aqG:=@List.replicate_succ'
def aqH:=@List.getElem?_set_ne
def aqI:=@List.mem_append_left
def aqJ:=@List.length_eraseIdx
def aqL:=@Int.toNat_zero
def aqN:=@List.filter_eq_self
def aqO:=@List.map_drop
def aqP:=@ne_eq
def aqQ:=@Nat.sub_self
def aqR:=@Bool.true_or
def aqS:=@Bool.or_true
def aqT:=@Nat.le_of_eq
def aqV:=@Nat.zero_mul
def aqW:=@not_true
def aqX:=@and_true
def aqY:=@dif_pos
def aqZ:=@Nat.le_zero
end Go.Ab
