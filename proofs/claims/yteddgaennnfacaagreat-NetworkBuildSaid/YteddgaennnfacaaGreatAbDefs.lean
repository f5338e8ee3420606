import GoSem.Step
import GoSem.ClaimData
import Derived.Calls
set_option linter.all false
namespace Go.Ab
abbrev Bytes:=List UInt8
inductive PV where
 |int (k:IntKind) (n:Int)
 |bool (b:Bool)
 |str (s:Bytes)
 |agg (cs:List PV)
 |aG (vs:List PV)
 |tJ
 |rp (cs:List PV)
 |rs (sz:Nat) (es:List PV)
 |mE (sz:Nat) (es:List PV)
 |rr
 |rm (kt:TypeId) (ks vs:List PV)
 |GY
 |fn (f:FuncId) (caps:List PV)
 |ifc (b:Bool)
 |bad
 deriving Inhabited
def PV.cells:PV→List PV
 |.agg cs=>cs
 |v=>[v]
def cell(p:PV)(j:Nat):PV:=p.cells.getD j .bad
def dY(p:PV):(j n:Nat)→List PV
 |_,0=>[]
 |j,n+1=>cell p j::dY p (j+1) n
def aQ(sz:Nat)(p:PV):List PV:=dY p 0 sz
inductive Jmp where
 |ret
 |exit (id:Nat)
inductive PJ where
 |ready
 |busy
 |done (j:Jmp)
inductive V where
 |pv (p:PV)
 |fO
 |op (id off:Nat)
 |oe (id i off:Nat)
 |os (id:Nat)
 |fS (id lo len:Nat)
 |om (id:Nat)
 |zU (id i off:Nat)
 |DJ (id i off s j off2:Nat)
 |fn (f:FuncId) (caps:List V)
 |yl (id:Nat)
 |it (id:Nat)
 |agg (cs:List V)
 |aG (vs:List V)
 |top
 deriving Inhabited
inductive bK where
 |box (cs:List V)
 |arr (sz:Nat) (et:TypeId) (es:List PV)
 |tC (sz:Nat) (et:TypeId) (es:List PV)
 |map (kt:TypeId) (es:List (PV×PV))
 |nest (sz:Nat) (et:TypeId) (es:List PV)
 |fu (kt e:TypeId) (es:List (PV×PV))
 |loop (st:PJ)
 |iter (t:TypeId) (es:List (PV×PV)) (cur:Option (PV×PV))
 deriving Inhabited
abbrev Fr:=Nat→V
abbrev Mem:=Nat→Option bK
def gy(f:Fr)(d:Nat)(v:V):Fr:=fun t=>bif Nat.beq t d then v else f t
def jy(f:Fr)(d:Option Nat)(v:V):Fr:=match d with|some d=>gy f d v|none=>f
def aw(m:Mem)(d:Nat)(b:bK):Mem:=fun t=>bif Nat.beq t d then some b else m t
def bx(m:Mem)(d:Nat):Mem:=fun t=>bif Nat.beq t d then none else m t
def P0:List (Nat×V)→Fr
 |[]=>fun _=>.top
 |(d,v)::r=>gy (P0 r) d v
def Hq:List (Nat×Option bK)→Mem
 |[]=>fun _=>none
 |(d,b)::r=>fun t=>bif Nat.beq t d then b else Hq r t
abbrev bD:=List (Bool×Nat)
def asInt(q:IntKind):PV→Option Int
 |.int q' n=>if q'=q then some n else none
 |_=>none
def asBool:PV→Option Bool
 |.bool b=>some b
 |_=>none
def aT:PV→Option Bytes
 |.str s=>some s
 |_=>none
def R7:PV→Option Bool
 |.ifc b=>some b
 |_=>none
def ah(sz:Nat):PV→Option (List PV)
 |.rs JK es=>if JK=sz then some es else match es with|[]=>some []|_=>none
 |_=>none
def bR(n:Nat):PV→Option (List PV)
 |.aG vs=>if vs.length=n then some vs else none
 |_=>none
def asAgg(n:Nat):PV→Option Unit
 |.agg cs=>if cs.length=n then some ()else none
 |_=>none
def b9(sz:Nat):PV→Option (List PV)
 |.mE JK es=>if JK=sz then some es else none
 |_=>none
def PV.isRow:PV→Bool
 |.mE _ _=>true
 |_=>false
def PV.pP:PV→PV
 |.mE sz es=>.rs sz es
 |p=>p
def PV.strip:PV→PV
 |.agg cs=>.agg (cs.map PV.pP)
 |p=>p.pP
def pG(es:List PV)(i:Int):Option PV:=if 0≤i then es[i.toNat]? else none
def Ng(s:Bytes)(i:Int):Option UInt8:=if 0≤i then s[i.toNat]? else none
def DK(s:Nat):List PV→List PV
 |[]=>[]
 |e::es=>aQ s e++DK s es
def pQ(s n:Nat)(p:PV):List PV:=(List.range n).map fun i=>.agg (dY p (i*s) s)
def Hr:Nat:=1000
inductive Kd where
 |int (q:IntKind)
 |bool
 |str
def xx:Kd→PV→Bool
 |.int q,.int q' _=>decide (q'=q)
 |.bool,.bool _=>true
 |.str,.str _=>true
 |_,_=>false
def iV:List Kd→List PV→Bool
 |[],[]=>true
 |k::ks,p::ps=>xx k p&&iV ks ps
 |_,_=>false
def PV.isAgg:PV→Bool
 |.agg _=>true
 |_=>false
def PV.plain:PV→Bool
 |.aG _=>false
 |.bad=>false
 |_=>true
def peq:PV→PV→Bool
 |.int _ a,.int _ b=>a==b
 |.bool a,.bool b=>a==b
 |.str a,.str b=>a==b
 |_,_=>false
def bM:List PV→List PV→Bool
 |[],[]=>true
 |a::as,b::bs=>peq a b&&bM as bs
 |_,_=>false
def bS(k:PV)(z:PV):List (PV×PV)→PV
 |[]=>z
 |(a,v)::r=>if bM k.cells a.cells then v else bS k z r
def lM(k:PV):List (PV×PV)→Bool
 |[]=>false
 |(a,_)::r=>bM k.cells a.cells||lM k r
def dm(k v:PV):List (PV×PV)→List (PV×PV)
 |[]=>[(k,v)]
 |(a,u)::r=>if bM k.cells a.cells then(k,v)::r else(a,u)::dm k v r
def xy(k:PV):List (PV×PV)→List (PV×PV)
 |[]=>[]
 |(a,u)::r=>if bM k.cells a.cells then(a,.bad)::r else(a,u)::xy k r
def Nh(sz:Nat)(k:PV):List (PV×PV)→Option (List PV)
 |[]=>some []
 |(a,u)::r=>if bM k.cells a.cells then b9 sz u else Nh sz k r
section
variable (P:Program)
def aV(t:TypeId):Nat:=((P.info? t).map (·.size)).getD 0
def JP(t:TypeId):Nat:=((P.info? t).map (·.bytes)).getD 0
def aD(t:TypeId):Bool:=match P.underlying t with|some (.struct _)|some (.array _ _)=>true|_=>false
def tK(ES:TypeId→Option (List Kd)):List Field→Nat→Option (List Kd)
 |[],_=>some []
 |f::r,off=>if f.offset=off∧f.name≠ "_" then(ES f.type).bind fun a=>(tK ES r (off+a.length)).bind fun b=>some (a++b)else none
def tL(a:List Kd):Nat→List Kd
 |0=>[]
 |n+1=>a++tL a n
def ES:Nat→TypeId→Option (List Kd)
 |0,_=>none
 |d+1,t=>match P.underlying t with
  |some (.int q)=>some [.int q]
  |some .bool=>some [.bool]
  |some .string=>some [.str]
  |some (.struct fs)=>if P.stoodInHeld t then none else(tK (ES d) fs.toList 0).bind fun a=>if a.length=aV P t then some a else none
  |some (.array n e)=>(ES d e).bind fun a=>if a.length=aV P e∧n*a.length=aV P t then some (tL a n)else none
  |_=>none
def zr(kt:TypeId)(ks:List Kd)(k:PV):Bool:=iV ks k.cells&&(aD P kt==k.isAgg)
def vz(t:TypeId):Option (List Kd):=if P.eqGuardType P.depth t then none else ES P 8 t
end
def EU:Value→V
 |.int k n=>if(Lit.int k n).wf then .pv (.int k n)else .top
 |.bool b=>.pv (.bool b)
 |.string s=>if s.data.toList.length≤maxLen then .pv (.str s.data.toList)else .top
 |.pointer none=>.pv .tJ
 |.slice none 0 0=>.fO
 |.map none=>.pv .rr
 |.nilFunc=>.pv .GY
 |.nilIface=>.pv (.ifc false)
 |_=>.top
def Ki:Value→V
 |.agg cs=>if cs.toList.all (fun c=>match c with|.agg _=>false|.tuple _=>false|_=>true)then .agg (cs.toList.map EU)else .top
 |v=>EU v
def zeroV(P:Program)(t:TypeId):Option V:=((P.info? t).bind (·.zero)).map Ki
def toCells(n:Nat):V→Option (List V)
 |.pv (.agg cs)=>if cs.length=n then some (cs.map .pv)else none
 |.agg cs=>if cs.length=n then some cs else none
 |.top|.aG _|.pv (.aG _)|.pv .bad=>none
 |v=>if n=1 then some [v]else none
def afX:PV→Option PV
 |.mE s rs=>some (.rs s rs)
 |_=>none
def sR(f:V→Option PV):List V→Option (List PV)
 |[]=>some []
 |v::r=>(f v).bind fun p=>(sR f r).bind fun ps=>some (p::ps)
def lz(m:Mem):Nat→V→Option PV
 |0,_=>none
 |_+1,.pv p=>some p
 |_+1,.fO=>some (.rs 0 [])
 |d+1,.agg cs=>(sR (lz m d) cs).bind fun ps=>some (.agg ps)
 |d+1,.aG cs=>(sR (lz m d) cs).bind fun ps=>some (.aG ps)
 |d+1,.fn g cs=>(sR (lz m d) cs).bind fun ps=>some (.fn g ps)
 |_+1,.os id=>match m id with
  |some (.arr s _ es)=>some (.rs s es)
  |some (.tC s _ es)=>some (.rs s es)
  |some (.nest s _ es)=>some (.rs s (es.map PV.strip))
  |_=>none
 |_+1,.zU id i off=>match m id with
  |some (.nest _ _ es)=>(es[i]?).bind fun e=>afX (cell e off)
  |_=>none
 |_+1,.fS id lo len=>match m id with
  |some (.arr s _ es)=>some (.rs s ((es.drop lo).take len))
  |some (.tC s _ es)=>some (.rs s ((es.drop lo).take len))
  |_=>none
 |d+1,.op id off=>match m id with
  |some (.box cs)=>(sR (lz m d) (cs.drop off)).bind fun ps=>some (.rp ps)
  |_=>none
 |_+1,.oe id i off=>match m id with
  |some (.arr s _ es)=>(es[i]?).bind fun e=>some (.rp ((aQ s e).drop off))
  |some (.tC s _ es)=>(es[i]?).bind fun e=>some (.rp ((aQ s e).drop off))
  |_=>none
 |_+1,.om id=>match m id with
  |some (.map kt es)=>some (.rm kt (es.map (·.1)) (es.map (·.2)))
  |some (.fu kt _ es)=>some (.rm kt (es.map (·.1)) (es.map fun x=>x.2.pP))
  |_=>none
 |_+1,_=>none
def eP:Nat:=6
def iY(f:V→List Nat):List V→List Nat
 |[]=>[]
 |v::r=>f v++iY f r
def cV(m:Mem):Nat→V→List Nat
 |0,_=>[]
 |d+1,.agg cs=>iY (cV m d) cs
 |d+1,.aG cs=>iY (cV m d) cs
 |d+1,.fn _ cs=>iY (cV m d) cs
 |_+1,.os id=>[id]
 |_+1,.fS id _ _=>[id]
 |_+1,.oe id _ _=>[id]
 |_+1,.om id=>[id]
 |_+1,.zU id _ _=>[id]
 |d+1,.op id off=>id::(match m id with|some (.box cs)=>iY (cV m d) (cs.drop off)|_=>[])
 |_+1,_=>[]
def Hs(m:Mem):V→Option (PV×Mem)
 |.pv p=>some (p,m)
 |.fO=>some (.rs 0 [],m)
 |.os id=>match m id with
  |some (.arr s et es)=>some (.rs s es,aw m id (.tC s et es))
  |some (.tC s _ es)=>some (.rs s es,m)
  |some (.nest s et es)=>some (.rs s (es.map PV.strip),aw m id (.tC s et (es.map PV.strip)))
  |_=>none
 |_=>none
def np:Mem→List V→Option (List PV×Mem)
 |m,[]=>some ([],m)
 |m,v::r=>match Hs m v with
  |some (p,m)=>match np m r with
   |some (ps,m)=>some (p::ps,m)
   |none=>none
  |none=>none
def yj(m:Mem):V→Option (PV×Mem)
 |.agg cs=>match np m cs with
  |some (ps,m)=>some (.agg ps,m)
  |none=>none
 |v=>Hs m v
def kJ(m:Mem)(n:Nat)(agg:Bool)(v:V):Option (PV×Mem):=
 match toCells n v with
 |some cs=>match np m cs with
  |some (ps,m)=>if agg then some (.agg ps,m)else match ps with|[p]=>some (p,m)|_=>none
  |none=>none
 |none=>none
mutual
def V.has(id:Nat):V→Bool
 |.agg cs=>cu id cs
 |.aG cs=>cu id cs
 |.fn _ cs=>cu id cs
 |.os j=>Nat.beq j id
 |.fS j _ _=>Nat.beq j id
 |.oe j _ _=>Nat.beq j id
 |.om j=>Nat.beq j id
 |.zU j _ _=>Nat.beq j id
 |.DJ j _ _ _ _ _=>Nat.beq j id
 |.op j _=>Nat.beq j id
 |.yl j=>Nat.beq j id
 |.it j=>Nat.beq j id
 |_=>false
def cu(id:Nat):List V→Bool
 |[]=>false
 |v::r=>v.has id||cu id r
end
mutual
def V.within(M:List Nat):V→Bool
 |.agg cs=>kK M cs
 |.aG cs=>kK M cs
 |.fn _ cs=>kK M cs
 |.os j=>M.elem j
 |.fS j _ _=>M.elem j
 |.oe j _ _=>M.elem j
 |.om j=>M.elem j
 |.zU j _ _=>M.elem j
 |.DJ j _ _ _ _ _=>M.elem j
 |.op j _=>M.elem j
 |.yl j=>M.elem j
 |.it j=>M.elem j
 |_=>true
def kK(M:List Nat):List V→Bool
 |[]=>true
 |v::r=>v.within M&&kK M r
end
mutual
def V.zV(id:Nat):V→Bool
 |.agg cs=>DL id cs
 |.aG cs=>DL id cs
 |.fn _ cs=>DL id cs
 |.zU j _ _=>Nat.beq j id
 |.DJ j _ _ _ _ _=>Nat.beq j id
 |_=>false
def DL(id:Nat):List V→Bool
 |[]=>false
 |v::r=>v.zV id||DL id r
end
def vA(id:Nat)(v:V):V:=bif v.has id then .top else v
def fa(id:Nat)(f:Fr):Fr:=fun t=>vA id (f t)
def gz(id:Nat):bK→bK
 |.box cs=>.box (cs.map (vA id))
 |b=>b
def bI(id:Nat)(m:Mem):Mem:=fun j=>match m j with|some b=>some (gz id b)|none=>none
def pR(id:Nat)(v:V):V:=bif v.zV id then .top else v
def iC(id:Nat)(f:Fr):Fr:=fun t=>pR id (f t)
def dP(id:Nat):bK→bK
 |.box cs=>.box (cs.map (pR id))
 |b=>b
def fk(id:Nat)(m:Mem):Mem:=fun j=>match m j with|some b=>some (dP id b)|none=>none
abbrev Kl:=List (Bool×Nat)
def kf:Kl→Fr→Fr
 |[],f=>f
 |(true,id)::r,f=>kf r (fa id f)
 |(false,id)::r,f=>kf r (iC id f)
def km:Kl→Mem→Mem
 |[],m=>m
 |(true,id)::r,m=>km r (bx (bI id m) id)
 |(false,id)::r,m=>km r (fk id m)
def xw:List (Nat×bK)→Mem→Mem
 |[],m=>m
 |(id,b)::r,m=>xw r (aw m id b)
def bK.names:bK→Nat→Bool
 |.box cs,id=>cu id cs
 |_,_=>false
def bK.within(M:List Nat):bK→Bool
 |.box cs=>kK M cs
 |_=>true
set_option linter.defProp false
def AI:=@List.getElem?_eq_getElem
def AT:=@decide_eq_true_eq
def By:=@Option.some.injEq
def BY:=@List.length_map
def IN:=@Bool.false_eq_true
def IS:=@List.getElem?_map
def IT:=@if_true
def M1:=@Option.bind_eq_some_iff
def No:=@Option.map_some
def OF:=@List.getElem?_eq_some_iff
def T0:=@if_pos
def Wi:=@if_false
def acA:=@Nat.eq_of_beq_eq_true
def acB:=@if_neg
def adz:=@List.getD_cons_zero
def aiJ:=@List.getD_cons_succ
def aiK:=@List.length_cons
def akj:=@Prod.mk.injEq
def alc:=@Bool.not_true
def ald:=@Array.getElem?_eq_getElem
def ale:=@Bool.and_eq_true
def alf:=@List.mem_of_getElem?
def alg:=@Option.map_eq_some_iff
def alh:=@List.length_nil
def ali:=@Int.toNat_natCast
def alj:=@List.getElem_mem
def alk:=@Int.lt_irrefl
def alm:=@Array.getElem?_eq_some_iff
def aln:=@List.length_append
def alo:=@Nat.mul_le_mul_right
def alp:=@Bool.true_eq_false
def alq:=@List.mem_cons
def alr:=@Option.bind_some
def als:=@List.mem_iff_getElem?
def alu:=@List.map_cons
def alv:=@List.eq_nil_of_length_eq_zero
def alw:=@decide_false
def alx:=@List.take_succ_eq_append_getElem
def aly:=@Bool.or_eq_true
def alz:=@Nat.le_refl
def alA:=@Bool.not_false
def alB:=@decide_true
def alC:=@List.mem_map
def alD:=@Array.getD_eq_getD_getElem?
def alE:=@Bool.eq_iff_iff
def alF:=@List.length_take
def alG:=@Bool.or_eq_false_iff
def alH:=@Nat.le_trans
def alI:=@List.mem_range
def alJ:=@List.append_assoc
def alK:=@Option.isSome_iff_exists
def alL:=@List.ext_getElem?
def alM:=@List.mem_append
def alN:=@decide_eq_false_iff_not
def alO:=@List.append_nil
def alP:=@List.map_append
def alQ:=@List.map_congr_left
def alR:=@List.getElem?_of_mem
def alS:=@List.mem_flatMap
def alT:=@List.take_length
def alU:=@List.take_of_length_le
def alV:=@List.getElem?_append
def alW:=@List.pairwise_iff_getElem
def alX:=@List.exists_of_findSome?_eq_some
def alY:=@List.getElem?_toArray
def alZ:=@Bool.not_eq_true'
def al0:=@List.getElem?_append_right
def al1:=@List.all_eq_true
def al2:=@List.getElem?_set
def al3:=@Array.getElem?_toList
def al4:=@List.getElem?_cons_zero
def al5:=@List.length_replicate
def al6:=@List.getElem?_append_left
def al7:=@Classical.byContradiction
def al8:=@List.findSome?_cons
def al9:=@Nat.add_assoc
def ama:=@Bool.true_and
def amb:=@Nat.add_mul
def amc:=@List.range_succ
def amd:=@Nat.min_eq_left
def ame:=@List.Pairwise.imp_of_mem
def amf:=@Bool.not_eq_true
def amg:=@Bool.or_false
def amh:=@Bool.not_eq_false'
def ami:=@List.mem_singleton
def amj:=@List.getElem?_take_of_lt
def amk:=@List.map_nil
def aml:=@List.pairwise_append
def amm:=@List.pairwise_cons
def amn:=@List.cons.injEq
def amo:=@Option.getD_some
def amp:=@List.take_append_getElem
def amq:=@Nat.zero_add
def amr:=@List.size_toArray
def ams:=@List.getElem?_eq_none
def amt:=@Nat.blt_eq
def amu:=@List.pairwise_flatMap
def amv:=@List.cons_append
def amw:=@List.not_mem_nil
def amx:=@List.any_eq_true
def amy:=@Array.getElem?_append_left
def amz:=@List.mem_of_find?_eq_some
def amA:=@List.drop_eq_getElem_cons
def amB:=@Int.mul_le_mul_of_nonneg_right
def amC:=@List.nil_append
def amD:=@Option.toList_none
def amE:=@Nat.add_sub_cancel
def amF:=@List.flatMap_def
def amG:=@List.mem_of_mem_take
def amH:=@Bool.and_true
def amI:=@Array.getElem?_setIfInBounds
def amJ:=@List.nodup_cons
def amK:=@beq_eq_false_iff_ne
def amL:=@Nat.mul_le_mul_left
def amM:=@List.mem_filter
def amN:=@List.getElem?_range
def amO:=@List.range_succ_eq_map
def amP:=@List.findSome?_eq_none_iff
def amQ:=@Array.getElem?_modify
def amR:=@Nat.mul_le_mul
def amS:=@Bool.false_and
def amT:=@Array.mem_toList_iff
def amU:=@Array.ext'
def amV:=@Array.getElem?_setIfInBounds_ne
def amW:=@Function.comp_def
def amX:=@decide_eq_false
def amY:=@List.any_eq_false
def amZ:=@List.length_range
def am0:=@List.map_map
def am1:=@Nat.add_zero
def am2:=@List.getElem?_cons_succ
def am3:=@List.flatMap_append
def am4:=@Int.eq_ofNat_of_zero_le
def am5:=@decide_eq_decide
def am6:=@Option.isSome_none
def am7:=@List.mem_filterMap
def am8:=@List.length_set
def am9:=@List.find?_some
def ana:=@Bool.false_or
def anb:=@List.reverse_reverse
def anc:=@List.mem_of_mem_drop
def ane:=@List.replicate_succ'
def anf:=@List.range_eq_range'
def ang:=@List.take_zero
def anh:=@List.drop_drop
def ani:=@and_assoc
def anj:=@List.range'_succ
def ank:=@List.nodup_range
def anl:=@List.mem_toArray
def anm:=@List.getElem_of_mem
def ann:=@Nat.le_of_lt
def ano:=@List.find?_range_eq_some
def anp:=@List.find?_eq_none
def anq:=@Option.isSome_some
def anr:=@Option.toList_some
def ans:=@List.foldl_cons
def ant:=@Option.some.inj
def anu:=@List.find?_cons
def anv:=@List.head?_eq_getElem?
def anw:=@List.take_add_one
def anx:=@List.reverse_cons
def anz:=@Int.mul_nonneg
def anA:=@List.drop_zero
def anB:=@Array.eq_empty_of_size_eq_zero
def anE:=@Nat.mul_comm
def anF:=@Nat.min_eq_right
def anG:=@List.length_drop
def anH:=@List.mem_cons_of_mem
def anI:=@List.getElem?_modify
def anJ:=@List.map_take
def anK:=@Array.length_toList
def anL:=@Array.getElem?_push
def anM:=@Array.toList_setIfInBounds
def anN:=@Int.fdiv_eq_ediv_of_nonneg
def anP:=@List.getD_eq_getElem?_getD
def anQ:=@List.map_findSome?
def anR:=@Nat.lt_of_le_of_lt
def anS:=@List.zip_cons_cons
def anT:=@List.findSome?_nil
def anU:=@List.mapM_cons
def anV:=@Int.toNat_zero
def anW:=@List.find?_append
def anX:=@List.pairwise_map
def anY:=@not_or
def anZ:=@List.Perm.eq_of_pairwise
def an0:=@Array.size_append
def an1:=@List.getElem?_replicate
def an2:=@Nat.zero_le
def an3:=@or_false
def an4:=@List.any_cons
def an5:=@List.all_cons
def an6:=@beq_self_eq_true
def an8:=@List.drop_of_length_le
def an9:=@List.findSome?_append
def aoa:=@Bool.true_or
def aob:=@Int.ediv_nonneg
def aoc:=@Nat.le_of_ble_eq_true
def aod:=@List.set_set
def aoe:=@Array.mem_of_getElem?
def aof:=@List.filterMap_append
def aog:=@List.any_append
def aok:=@Nat.mod_lt
def aol:=@List.length_eraseIdx
def aom:=@List.mem_append_left
def aon:=@decide_eq_true
def aoo:=@List.find?_nil
def aor:=@List.countP_eq_zero
def aos:=@List.filter_eq_self
def aot:=@and_true
def aou:=@Bool.or_true
def aov:=@Bool.not_not
def aow:=@Nat.zero_mul
def aox:=@Nat.sub_zero
def aoy:=@Nat.ne_of_lt
def aoz:=@Nat.le_of_eq
def aoA:=@ne_eq
def aoB:=@dif_pos
end Go.Ab
