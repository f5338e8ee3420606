import GoSem.Step
import GoSem.ClaimData
import Derived.Calls
set_option linter.unusedVariables false
set_option linter.unusedSimpArgs false
namespace Go.Ab
abbrev Bytes:=List UInt8
inductive PV where
 |int (k:IntKind) (n:Int)
 |bool (b:Bool)
 |str (s:Bytes)
 |agg (cs:List PV)
 |bu (vs:List PV)
 |qU
 |rp (cs:List PV)
 |rs (sz:Nat) (es:List PV)
 |qV (sz:Nat) (es:List PV)
 |wJ
 |rm (kt:TypeId) (ks vs:List PV)
 |BR
 |fn (f:FuncId) (caps:List PV)
 |Y8 (b:Bool)
 |bad
 deriving Inhabited
def PV.cells:PV→List PV
 |.agg cs=>cs
 |v=>[v]
def cell(p:PV)(j:Nat):PV:=p.cells.getD j .bad
def ek(p:PV):(j n:Nat)→List PV
 |_,0=>[]
 |j,n+1=>cell p j::ek p (j+1) n
def aJ(sz:Nat)(p:PV):List PV:=ek p 0 sz
inductive Jmp where
 |ret
 |exit (id:Nat)
inductive N2 where
 |ready
 |busy
 |done (j:Jmp)
inductive V where
 |pv (p:PV)
 |iK
 |op (id off:Nat)
 |oe (id i off:Nat)
 |os (id:Nat)
 |fX (id lo len:Nat)
 |om (id:Nat)
 |wR (id i off:Nat)
 |AM (id i off s j off2:Nat)
 |fn (f:FuncId) (caps:List V)
 |yl (id:Nat)
 |it (id:Nat)
 |agg (cs:List V)
 |bu (vs:List V)
 |top
 deriving Inhabited
inductive bR where
 |box (cs:List V)
 |arr (sz:Nat) (et:TypeId) (es:List PV)
 |ri (sz:Nat) (et:TypeId) (es:List PV)
 |map (kt:TypeId) (es:List (PV×PV))
 |nest (sz:Nat) (et:TypeId) (es:List PV)
 |fv (kt e:TypeId) (es:List (PV×PV))
 |loop (st:N2)
 |iter (t:TypeId) (es:List (PV×PV)) (cur:Option (PV×PV))
 deriving Inhabited
abbrev Fr:=Nat→V
abbrev Mem:=Nat→Option bR
def gO(f:Fr)(d:Nat)(v:V):Fr:=fun t=>bif Nat.beq t d then v else f t
def jK(f:Fr)(d:Option Nat)(v:V):Fr:=match d with|some d=>gO f d v|none=>f
def aq(m:Mem)(d:Nat)(b:bR):Mem:=fun t=>bif Nat.beq t d then some b else m t
def bq(m:Mem)(d:Nat):Mem:=fun t=>bif Nat.beq t d then none else m t
def Of:List (Nat×V)→Fr
 |[]=>fun _=>.top
 |(d,v)::r=>gO (Of r) d v
def EB:List (Nat×Option bR)→Mem
 |[]=>fun _=>none
 |(d,b)::r=>fun t=>bif Nat.beq t d then b else EB r t
abbrev bG:=List (Bool×Nat)
def asInt(q:IntKind):PV→Option Int
 |.int q' n=>if q'=q then some n else none
 |_=>none
def asBool:PV→Option Bool
 |.bool b=>some b
 |_=>none
def dg:PV→Option Bytes
 |.str s=>some s
 |_=>none
def Se:PV→Option Bool
 |.Y8 b=>some b
 |_=>none
def aP(sz:Nat):PV→Option (List PV)
 |.rs GY es=>if GY=sz then some es else match es with|[]=>some []|_=>none
 |_=>none
def cZ(n:Nat):PV→Option (List PV)
 |.bu vs=>if vs.length=n then some vs else none
 |_=>none
def asAgg(n:Nat):PV→Option Unit
 |.agg cs=>if cs.length=n then some ()else none
 |_=>none
def fh(sz:Nat):PV→Option (List PV)
 |.qV GY es=>if GY=sz then some es else none
 |_=>none
def PV.isRow:PV→Bool
 |.qV _ _=>true
 |_=>false
def PV.oD:PV→PV
 |.qV sz es=>.rs sz es
 |p=>p
def PV.strip:PV→PV
 |.agg cs=>.agg (cs.map PV.oD)
 |p=>p.oD
def aD(es:List PV)(i:Int):Option PV:=if 0≤i then es[i.toNat]? else none
def TN(s:Bytes)(i:Int):Option UInt8:=if 0≤i then s[i.toNat]? else none
def eV(s:Nat):List PV→List PV
 |[]=>[]
 |e::es=>aJ s e++eV s es
def fF(s n:Nat)(p:PV):List PV:=(List.range n).map fun i=>.agg (ek p (i*s) s)
def EC:Nat:=1000
inductive Kd where
 |int (q:IntKind)
 |bool
 |str
def uj:Kd→PV→Bool
 |.int q,.int q' _=>decide (q'=q)
 |.bool,.bool _=>true
 |.str,.str _=>true
 |_,_=>false
def mP:List Kd→List PV→Bool
 |[],[]=>true
 |k::ks,p::ps=>uj k p&&mP ks ps
 |_,_=>false
def PV.isAgg:PV→Bool
 |.agg _=>true
 |_=>false
def PV.plain:PV→Bool
 |.bu _=>false
 |.bad=>false
 |_=>true
def peq:PV→PV→Bool
 |.int _ a,.int _ b=>a==b
 |.bool a,.bool b=>a==b
 |.str a,.str b=>a==b
 |_,_=>false
def dW:List PV→List PV→Bool
 |[],[]=>true
 |a::as,b::bs=>peq a b&&dW as bs
 |_,_=>false
def dS(k:PV)(z:PV):List (PV×PV)→PV
 |[]=>z
 |(a,v)::r=>if dW k.cells a.cells then v else dS k z r
def wK(k:PV):List (PV×PV)→Bool
 |[]=>false
 |(a,_)::r=>dW k.cells a.cells||wK k r
def fg(k v:PV):List (PV×PV)→List (PV×PV)
 |[]=>[(k,v)]
 |(a,u)::r=>if dW k.cells a.cells then(k,v)::r else(a,u)::fg k v r
def tf(k:PV):List (PV×PV)→List (PV×PV)
 |[]=>[]
 |(a,u)::r=>if dW k.cells a.cells then(a,.bad)::r else(a,u)::tf k r
def K2(sz:Nat)(k:PV):List (PV×PV)→Option (List PV)
 |[]=>some []
 |(a,u)::r=>if dW k.cells a.cells then fh sz u else K2 sz k r
section
variable (P:Program)
def aV(t:TypeId):Nat:=((P.info? t).map (·.size)).getD 0
def G6(t:TypeId):Nat:=((P.info? t).map (·.bytes)).getD 0
def aF(t:TypeId):Bool:=match P.underlying t with|some (.struct _)|some (.array _ _)=>true|_=>false
def rD(BM:TypeId→Option (List Kd)):List Field→Nat→Option (List Kd)
 |[],_=>some []
 |f::r,off=>if f.offset=off∧f.name≠ "_" then(BM f.type).bind fun a=>(rD BM r (off+a.length)).bind fun b=>some (a++b)else none
def rE(a:List Kd):Nat→List Kd
 |0=>[]
 |n+1=>a++rE a n
def BM:Nat→TypeId→Option (List Kd)
 |0,_=>none
 |d+1,t=>match P.underlying t with
  |some (.int q)=>some [.int q]
  |some .bool=>some [.bool]
  |some .string=>some [.str]
  |some (.struct fs)=>if P.stoodInHeld t then none else(rD (BM d) fs.toList 0).bind fun a=>if a.length=aV P t then some a else none
  |some (.array n e)=>(BM d e).bind fun a=>if a.length=aV P e∧n*a.length=aV P t then some (rE a n)else none
  |_=>none
def wy(kt:TypeId)(ks:List Kd)(k:PV):Bool:=mP ks k.cells&&(aF P kt==k.isAgg)
def tg(t:TypeId):Option (List Kd):=if P.eqGuardType P.depth t then none else BM P 8 t
end
def BS:Value→V
 |.int k n=>if(Lit.int k n).wf then .pv (.int k n)else .top
 |.bool b=>.pv (.bool b)
 |.string s=>if s.data.toList.length≤maxLen then .pv (.str s.data.toList)else .top
 |.pointer none=>.pv .qU
 |.slice none 0 0=>.iK
 |.map none=>.pv .wJ
 |.nilFunc=>.pv .BR
 |.nilIface=>.pv (.Y8 false)
 |_=>.top
def Hw:Value→V
 |.agg cs=>if cs.toList.all (fun c=>match c with|.agg _=>false|.tuple _=>false|_=>true)then .agg (cs.toList.map BS)else .top
 |v=>BS v
def zeroV(P:Program)(t:TypeId):Option V:=((P.info? t).bind (·.zero)).map Hw
def toCells(n:Nat):V→Option (List V)
 |.pv (.agg cs)=>if cs.length=n then some (cs.map .pv)else none
 |.agg cs=>if cs.length=n then some cs else none
 |.top|.bu _|.pv (.bu _)|.pv .bad=>none
 |v=>if n=1 then some [v]else none
def adF:PV→Option PV
 |.qV s rs=>some (.rs s rs)
 |_=>none
def qW(f:V→Option PV):List V→Option (List PV)
 |[]=>some []
 |v::r=>(f v).bind fun p=>(qW f r).bind fun ps=>some (p::ps)
def lj(m:Mem):Nat→V→Option PV
 |0,_=>none
 |_+1,.pv p=>some p
 |_+1,.iK=>some (.rs 0 [])
 |d+1,.agg cs=>(qW (lj m d) cs).bind fun ps=>some (.agg ps)
 |d+1,.bu cs=>(qW (lj m d) cs).bind fun ps=>some (.bu ps)
 |d+1,.fn g cs=>(qW (lj m d) cs).bind fun ps=>some (.fn g ps)
 |_+1,.os id=>match m id with
  |some (.arr s _ es)=>some (.rs s es)
  |some (.ri s _ es)=>some (.rs s es)
  |some (.nest s _ es)=>some (.rs s (es.map PV.strip))
  |_=>none
 |_+1,.wR id i off=>match m id with
  |some (.nest _ _ es)=>(es[i]?).bind fun e=>adF (cell e off)
  |_=>none
 |_+1,.fX id lo len=>match m id with
  |some (.arr s _ es)=>some (.rs s ((es.drop lo).take len))
  |some (.ri s _ es)=>some (.rs s ((es.drop lo).take len))
  |_=>none
 |d+1,.op id off=>match m id with
  |some (.box cs)=>(qW (lj m d) (cs.drop off)).bind fun ps=>some (.rp ps)
  |_=>none
 |_+1,.oe id i off=>match m id with
  |some (.arr s _ es)=>(es[i]?).bind fun e=>some (.rp ((aJ s e).drop off))
  |some (.ri s _ es)=>(es[i]?).bind fun e=>some (.rp ((aJ s e).drop off))
  |_=>none
 |_+1,.om id=>match m id with
  |some (.map kt es)=>some (.rm kt (es.map (·.1)) (es.map (·.2)))
  |some (.fv kt _ es)=>some (.rm kt (es.map (·.1)) (es.map fun x=>x.2.oD))
  |_=>none
 |_+1,_=>none
def eW:Nat:=6
def jn(f:V→List Nat):List V→List Nat
 |[]=>[]
 |v::r=>f v++jn f r
def c8(m:Mem):Nat→V→List Nat
 |0,_=>[]
 |d+1,.agg cs=>jn (c8 m d) cs
 |d+1,.bu cs=>jn (c8 m d) cs
 |d+1,.fn _ cs=>jn (c8 m d) cs
 |_+1,.os id=>[id]
 |_+1,.fX id _ _=>[id]
 |_+1,.oe id _ _=>[id]
 |_+1,.om id=>[id]
 |_+1,.wR id _ _=>[id]
 |d+1,.op id off=>id::(match m id with|some (.box cs)=>jn (c8 m d) (cs.drop off)|_=>[])
 |_+1,_=>[]
def ED(m:Mem):V→Option (PV×Mem)
 |.pv p=>some (p,m)
 |.iK=>some (.rs 0 [],m)
 |.os id=>match m id with
  |some (.arr s et es)=>some (.rs s es,aq m id (.ri s et es))
  |some (.ri s _ es)=>some (.rs s es,m)
  |some (.nest s et es)=>some (.rs s (es.map PV.strip),aq m id (.ri s et (es.map PV.strip)))
  |_=>none
 |_=>none
def mQ:Mem→List V→Option (List PV×Mem)
 |m,[]=>some ([],m)
 |m,v::r=>match ED m v with
  |some (p,m)=>match mQ m r with
   |some (ps,m)=>some (p::ps,m)
   |none=>none
  |none=>none
def vh(m:Mem):V→Option (PV×Mem)
 |.agg cs=>match mQ m cs with
  |some (ps,m)=>some (.agg ps,m)
  |none=>none
 |v=>ED m v
def kT(m:Mem)(n:Nat)(agg:Bool)(v:V):Option (PV×Mem):=
 match toCells n v with
 |some cs=>match mQ m cs with
  |some (ps,m)=>if agg then some (.agg ps,m)else match ps with|[p]=>some (p,m)|_=>none
  |none=>none
 |none=>none
mutual
def V.has(id:Nat):V→Bool
 |.agg cs=>cD id cs
 |.bu cs=>cD id cs
 |.fn _ cs=>cD id cs
 |.os j=>Nat.beq j id
 |.fX j _ _=>Nat.beq j id
 |.oe j _ _=>Nat.beq j id
 |.om j=>Nat.beq j id
 |.wR j _ _=>Nat.beq j id
 |.AM j _ _ _ _ _=>Nat.beq j id
 |.op j _=>Nat.beq j id
 |.yl j=>Nat.beq j id
 |.it j=>Nat.beq j id
 |_=>false
def cD(id:Nat):List V→Bool
 |[]=>false
 |v::r=>v.has id||cD id r
end
mutual
def V.within(M:List Nat):V→Bool
 |.agg cs=>kU M cs
 |.bu cs=>kU M cs
 |.fn _ cs=>kU M cs
 |.os j=>M.elem j
 |.fX j _ _=>M.elem j
 |.oe j _ _=>M.elem j
 |.om j=>M.elem j
 |.wR j _ _=>M.elem j
 |.AM j _ _ _ _ _=>M.elem j
 |.op j _=>M.elem j
 |.yl j=>M.elem j
 |.it j=>M.elem j
 |_=>true
def kU(M:List Nat):List V→Bool
 |[]=>true
 |v::r=>v.within M&&kU M r
end
mutual
def V.wS(id:Nat):V→Bool
 |.agg cs=>AN id cs
 |.bu cs=>AN id cs
 |.fn _ cs=>AN id cs
 |.wR j _ _=>Nat.beq j id
 |.AM j _ _ _ _ _=>Nat.beq j id
 |_=>false
def AN(id:Nat):List V→Bool
 |[]=>false
 |v::r=>v.wS id||AN id r
end
def th(id:Nat)(v:V):V:=bif v.has id then .top else v
def fi(id:Nat)(f:Fr):Fr:=fun t=>th id (f t)
def gP(id:Nat):bR→bR
 |.box cs=>.box (cs.map (th id))
 |b=>b
def bM(id:Nat)(m:Mem):Mem:=fun j=>match m j with|some b=>some (gP id b)|none=>none
def oE(id:Nat)(v:V):V:=bif v.wS id then .top else v
def iL(id:Nat)(f:Fr):Fr:=fun t=>oE id (f t)
def dY(id:Nat):bR→bR
 |.box cs=>.box (cs.map (oE id))
 |b=>b
def fo(id:Nat)(m:Mem):Mem:=fun j=>match m j with|some b=>some (dY id b)|none=>none
abbrev Kl:=List (Bool×Nat)
def kf:Kl→Fr→Fr
 |[],f=>f
 |(true,id)::r,f=>kf r (fi id f)
 |(false,id)::r,f=>kf r (iL id f)
def km:Kl→Mem→Mem
 |[],m=>m
 |(true,id)::r,m=>km r (bq (bM id m) id)
 |(false,id)::r,m=>km r (fo id m)
def uf:List (Nat×bR)→Mem→Mem
 |[],m=>m
 |(id,b)::r,m=>uf r (aq m id b)
def bR.names:bR→Nat→Bool
 |.box cs,id=>cD id cs
 |_,_=>false
def bR.within(M:List Nat):bR→Bool
 |.box cs=>kU M cs
 |_=>true
set_option linter.defProp false
def AI:=@List.getElem?_eq_getElem
def AT:=@Option.some.injEq
def By:=@Bool.false_eq_true
def BK:=@if_pos
def BY:=@Option.bind_eq_some_iff
def IN:=@if_neg
def IS:=@List.getElem?_eq_some_iff
def IT:=@List.getElem?_map
def I5:=@decide_eq_true_eq
def No:=@Nat.eq_of_beq_eq_true
def OF:=@List.length_map
def T0:=@Array.getElem?_eq_getElem
def T1:=@Bool.and_eq_true
def aaV:=@if_true
def abG:=@if_false
def ado:=@Prod.mk.injEq
def adp:=@Array.getElem?_eq_some_iff
def adq:=@Nat.mul_le_mul_right
def ags:=@List.length_append
def ah2:=@Option.map_eq_some_iff
def ah3:=@List.mem_of_getElem?
def ah4:=@List.mem_cons
def ah5:=@Option.map_some
def ajr:=@List.getElem?_eq_none
def ajv:=@List.length_cons
def ajw:=@Int.toNat_natCast
def ajx:=@Bool.not_true
def ajy:=@List.map_cons
def ajz:=@List.getElem_mem
def ajA:=@Bool.or_eq_true
def ajB:=@List.eq_nil_of_length_eq_zero
def ajC:=@Nat.le_refl
def ajD:=@List.getD_cons_succ
def ajE:=@List.getD_cons_zero
def ajF:=@Bool.not_eq_true'
def ajG:=@Array.getD_eq_getD_getElem?
def ajH:=@Option.bind_some
def ajI:=@List.mem_append
def ajJ:=@List.mem_map
def ajK:=@decide_eq_false_iff_not
def ajL:=@Array.getElem?_toList
def ajM:=@List.take_succ_eq_append_getElem
def ajN:=@List.append_assoc
def ajO:=@Bool.eq_iff_iff
def ajP:=@Nat.le_trans
def ajQ:=@List.length_nil
def ajR:=@Option.isSome_iff_exists
def ajS:=@List.drop_length
def ajT:=@Bool.not_false
def ajU:=@decide_false
def ajV:=@List.map_append
def ajW:=@decide_true
def ajX:=@List.getElem?_of_mem
def ajY:=@List.ext_getElem?
def ajZ:=@List.getElem?_append
def aj0:=@List.getElem?_toArray
def aj1:=@List.nil_append
def aj2:=@List.append_nil
def aj3:=@Bool.true_eq_false
def aj4:=@List.mem_singleton
def aj5:=@List.getElem?_replicate
def aj6:=@List.getElem?_set
def aj7:=@List.length_range
def aj8:=@List.take_of_length_le
def aj9:=@List.map_congr_left
def aka:=@List.mem_filter
def akb:=@List.getElem?_cons_zero
def akc:=@List.filter_cons
def akd:=@decide_eq_false
def ake:=@Nat.add_mul
def akf:=@List.getElem?_take_of_lt
def akg:=@Bool.or_eq_false_iff
def akh:=@List.take_length
def aki:=@List.all_eq_true
def akj:=@Bool.and_eq_false_iff
def akk:=@List.mem_iff_getElem?
def akl:=@Nat.add_assoc
def akm:=@beq_eq_false_iff_ne
def akn:=@List.getElem_of_mem
def ako:=@Nat.zero_add
def akp:=@Bool.true_and
def akq:=@List.countP_cons
def akr:=@List.size_toArray
def aks:=@List.getElem?_append_right
def akt:=@List.length_take
def aku:=@List.cons.injEq
def akv:=@List.map_nil
def akw:=@List.exists_of_findSome?_eq_some
def akx:=@Nat.mul_le_mul_left
def aky:=@List.flatMap_cons
def akz:=@Bool.false_or
def akA:=@List.pairwise_cons
def akB:=@Nat.add_zero
def akC:=@List.getElem?_append_left
def akD:=@List.drop_drop
def akE:=@decide_eq_true
def akF:=@List.cons_append
def akG:=@Option.getD_some
def akH:=@Nat.blt_eq
def akI:=@List.length_singleton
def akJ:=@Array.getElem?_setIfInBounds
def akK:=@Nat.min_eq_left
def akL:=@Bool.not_eq_false'
def akM:=@List.any_cons
def akN:=@List.mem_of_mem_take
def akO:=@List.getElem?_set_ne
def akP:=@List.length_drop
def akQ:=@Bool.not_eq_true
def akR:=@List.not_mem_nil
def akS:=@List.findSome?_eq_none_iff
def akT:=@Array.getElem?_append_left
def akU:=@List.getElem?_set_self
def akV:=@List.findSome?_cons
def akW:=@List.getElem?_range
def akX:=@Array.length_toList
def akY:=@Bool.and_true
def akZ:=@List.pairwise_iff_getElem
def ak0:=@Classical.byContradiction
def ak1:=@List.length_filter_le
def ak2:=@List.length_replicate
def ak3:=@Nat.add_sub_cancel
def ak4:=@List.any_eq_true
def ak5:=@List.mem_flatMap
def ak6:=@Array.mem_toList_iff
def ak7:=@List.pairwise_append
def ak8:=@List.mem_of_mem_drop
def ak9:=@Int.lt_irrefl
def ala:=@List.mem_range
def alb:=@List.reverse_cons
def alc:=@List.reverse_append
def ald:=@List.drop_eq_nil_of_le
def ale:=@Array.getElem?_modify
def alf:=@List.countP_append
def alg:=@List.drop_eq_getElem_cons
def alh:=@List.take_zero
def ali:=@Array.getElem?_setIfInBounds_ne
def alj:=@Array.ext'
def alk:=@List.any_append
def alm:=@Nat.sub_self
def aln:=@Bool.or_false
def alo:=@List.getElem?_cons_succ
def alp:=@List.countP_eq_zero
def alq:=@Nat.mod_eq_of_lt
def alr:=@List.flatMap_nil
def als:=@Bool.false_and
def alu:=@List.head?_eq_getElem?
def alv:=@List.range_succ_eq_map
def alw:=@List.filter_append
def alx:=@List.filter_nil
def aly:=@List.countP_le_length
def alz:=@List.nodup_cons
def alA:=@List.length_set
def alC:=@Nat.sub_zero
def alD:=@List.getD_eq_getElem?_getD
def alE:=@List.reverse_reverse
def alF:=@List.mem_append_left
def alG:=@List.mem_toArray
def alH:=@Int.toNat_of_nonneg
def alI:=@List.flatMap_append
def alJ:=@Nat.mul_comm
def alK:=@List.range_succ
def alL:=@List.pairwise_lt_range
def alM:=@bne_self_eq_false
def alN:=@not_false_eq_true
def alO:=@Nat.mul_le_mul
def alP:=@Array.mem_of_getElem?
def alQ:=@List.map_map
def alR:=@Array.eq_empty_of_size_eq_zero
def alT:=@List.any_nil
def alU:=@List.getLast?_eq_some_getLast
def alV:=@List.range'_succ
def alW:=@Nat.min_eq_right
def alX:=@List.flatMap_def
def alY:=@List.range_eq_range'
def alZ:=@List.mem_cons_of_mem
def al0:=@List.getElem?_modify
def al1:=@List.length_eraseIdx
def al2:=@List.map_take
def al3:=@List.all_cons
def al4:=@List.dropLast_concat_getLast
def al5:=@List.countP_nil
def al6:=@List.filter_eq_self
def al7:=@Array.getElem?_push
def al8:=@Option.some.inj
def al9:=@List.take_left'
def ama:=@Nat.zero_le
def amb:=@Array.toList_setIfInBounds
def amc:=@Nat.mod_two_eq_zero_or_one
def amd:=@List.zip_cons_cons
def ame:=@Array.getElem?_map
def amf:=@List.getElem?_drop
def amg:=@List.map_findSome?
def amh:=@Option.isSome_none
def ami:=@Nat.le_of_eq
def amj:=@or_false
def amk:=@List.getElem_range
def aml:=@List.map_set
def amm:=@List.mem_take_iff_getElem
def amn:=@Bool.and_false
def amo:=@List.mapM_cons
def amp:=@List.getElem?_eq_none_iff
def amq:=@List.extract_eq_take_drop
def amr:=@Array.size_append
def ams:=@List.length_erase_of_mem
def amt:=@Function.comp_def
def amu:=@Bool.not_eq_false
def amv:=@List.Pairwise.imp_of_mem
def amw:=@List.take_add_one
def amx:=@List.Perm.eq_of_pairwise
def amy:=@List.map_drop
def amz:=@List.pairwise_singleton
def amA:=@List.reverse_eq_nil_iff
def amB:=@Int.eq_ofNat_of_zero_le
def amC:=@List.getLast?_singleton
def amD:=@not_or
def amE:=@List.reverse_nil
def amF:=@Nat.and_le_right
def amG:=@Nat.div_eq_of_lt
def amH:=@BitVec.toNat_and
def amI:=@List.getElem?_eraseIdx
def amJ:=@Array.getElem?_mapIdx
def amK:=@Nat.le_antisymm
def amL:=@Nat.mul_add_mod
def amM:=@Nat.le_of_ble_eq_true
def amN:=@List.set_append_right
def amO:=@List.pairwise_flatMap
def amP:=@List.foldl_cons
def amQ:=@Nat.beq_refl
def amR:=@Nat.mod_lt
def amS:=@List.getLast?_append
def amT:=@List.replicate_succ'
def amU:=@BitVec.ofInt_natCast
def amV:=@List.dropLast_concat
def amX:=@List.drop_zero
def amY:=@List.length_pos_iff
def amZ:=@Nat.le_zero
def am0:=@Nat.mul_one
def am1:=@Array.toList_append
def am2:=@Nat.lt_irrefl
def am3:=@and_assoc
def am4:=@Nat.zero_mul
def am5:=@Nat.le_total
def am6:=@Bool.true_or
def am7:=@and_true
def am8:=@Nat.mul_add
def am9:=@ne_eq
def ana:=@dif_pos
end Go.Ab
