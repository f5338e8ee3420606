import GoSem.Step
import GoSem.ClaimData
import Derived.Calls
import Derived.Deep.Quiet
import Derived.Below
import Derived.Laws.CopyRow
import Derived.Deep.MidRow
import Derived.Laws.StructEq
import Derived.ChangeKeysEq
set_option linter.all false
open Option renaming some→U,none→Z
open Bool renaming true→Y,false→J
open Decidable renaming decide→O
open List renaming range→I
namespace Go.Ab
def bm{P:Prop}(h:P:=by rfl):P:=h
def ae{P:Prop}(h:P:=by simp):P:=h
def ao{P:Prop}(h:P:=by grind):P:=h
def aa{P:Prop}(h:P:=by omega):P:=h
def bj{P:Prop}(h:P:=by decide):P:=h
def av{P:Prop}(h:P:=by simp_all):P:=h
def ah{P:Prop}(h:P:=by simp;omega):P:=h
def cC{P:Prop}(h:P:=by simp[Op.operands]):P:=h
def acI{P:Prop}(h:P:=by apply ayI;grind):P:=h
abbrev Bytes:=List UInt8
inductive PV where
 |int (k:IntKind) (n:Int)
 |bool (b:Bool)
 |str (s:Bytes)
 |agg (cs:List PV)
 |b8 (vs:List PV)
 |nL
 |rp (cs:List PV)
 |rs (sz:Nat) (es:List PV)
 |lJ (sz:Nat) (es:List PV)
 |sr
 |rm (kt:TypeId) (ks vs:List PV)
 |IU
 |fn (f:FuncId) (caps:List PV)
 |ifc (b:Bool)
 |bad
 deriving Inhabited
def PV.cells:PV->List PV
 |.agg cs=>cs
 |v=>[v]
def cell(p:PV)(j:Nat):PV:=p.cells.getD j .bad
def fm(p:PV):(j n:Nat)->List PV
 |_,0=>[]
 |j,n+1=>cell p j::fm p (j+1) n
def aX(sz:Nat)(p:PV):List PV:=fm p 0 sz
inductive Jmp where
 |ret
 |exit (id:Nat)
inductive ZY where
 |ready
 |busy
 |done (j:Jmp)
inductive V where
 |pv (p:PV)
 |il
 |op (id off:Nat)
 |oe (id i off:Nat)
 |os (id:Nat)
 |iJ (id lo len:Nat)
 |om (id:Nat)
 |Gm (id i off:Nat)
 |KB (id i off s j off2:Nat)
 |fn (f:FuncId) (caps:List V)
 |yl (id:Nat)
 |it (id:Nat)
 |agg (cs:List V)
 |b8 (vs:List V)
 |top
 deriving Inhabited
inductive cS where
 |box (cs:List V)
 |arr (sz:Nat) (et:TypeId) (es:List PV)
 |xJ (sz:Nat) (et:TypeId) (es:List PV)
 |map (kt:TypeId) (es:List (PV×PV))
 |nest (sz:Nat) (et:TypeId) (es:List PV)
 |gY (kt e:TypeId) (es:List (PV×PV))
 |loop (st:ZY)
 |iter (t:TypeId) (es:List (PV×PV)) (cur:Option (PV×PV))
 deriving Inhabited
abbrev Fr:=Nat->V
abbrev Mem:=Nat->Option cS
def jC(f:Fr)(d:Nat)(v:V):Fr:=λt=>bif Nat.beq t d then v else f t
def kV(f:Fr)(d:Option Nat)(v:V):Fr:=match d with|some d=>jC f d v|none=>f
def aO(m:Mem)(d:Nat)(b:cS):Mem:=λt=>bif Nat.beq t d then U b else m t
def bO(m:Mem)(d:Nat):Mem:=λt=>bif Nat.beq t d then Z else m t
def aaa:List (Nat×V)->Fr
 |[]=>λ_=>.top
 |(d,v)::r=>jC (aaa r) d v
def Pf:List (Nat×Option cS)->Mem
 |[]=>λ_=>Z
 |(d,b)::r=>λt=>bif Nat.beq t d then b else Pf r t
abbrev bS:=List (Bool×Nat)
def asInt(q:IntKind):PV->Option Int
 |.int q' n=>if q'=q then U n else Z
 |_=>Z
def asBool:PV->Option Bool
 |.bool b=>U b
 |_=>Z
def bU:PV->Option Bytes
 |.str s=>U s
 |_=>Z
def acD:PV->Option Bool
 |.ifc b=>U b
 |_=>Z
def aJ(sz:Nat):PV->Option (List PV)
 |.rs R7 es=>if R7=sz then U es else match es with|[]=>U []|_=>Z
 |_=>Z
def bY(n:Nat):PV->Option (List PV)
 |.b8 vs=>if vs.length=n then U vs else Z
 |_=>Z
def asAgg(n:Nat):PV->Option Unit
 |.agg cs=>if cs.length=n then U ()else Z
 |_=>Z
def fZ(sz:Nat):PV->Option (List PV)
 |.lJ R7 es=>if R7=sz then U es else Z
 |_=>Z
def PV.isRow:PV->Bool
 |.lJ _ _=>Y
 |_=>J
def PV.vi:PV->PV
 |.lJ sz es=>.rs sz es
 |p=>p
def PV.strip:PV->PV
 |.agg cs=>.agg (cs.map PV.vi)
 |p=>p.vi
def uW(es:List PV)(i:Int):Option PV:=if 0<=i then es[i.toNat]? else Z
def agK(s:Bytes)(i:Int):Option UInt8:=if 0<=i then s[i.toNat]? else Z
def KC(s:Nat):List PV->List PV
 |[]=>[]
 |e::es=>aX s e++KC s es
def vj(s n:Nat)(p:PV):List PV:=(I n).map λi=>.agg (fm p (i*s) s)
def Pg:Nat:=1000
inductive Kd where
 |int (q:IntKind)
 |bool
 |str
def Dq:Kd->PV->Bool
 |.int q,.int q' _=>O (q'=q)
 |.bool,.bool _=>Y
 |.str,.str _=>Y
 |_,_=>J
def rS:List Kd->List PV->Bool
 |[],[]=>Y
 |k::ks,p::ps=>Dq k p&&rS ks ps
 |_,_=>J
def PV.isAgg:PV->Bool
 |.agg _=>Y
 |_=>J
def PV.plain:PV->Bool
 |.b8 _=>J
 |.bad=>J
 |_=>Y
def peq:PV->PV->Bool
 |.int _ a,.int _ b=>a==b
 |.bool a,.bool b=>a==b
 |.str a,.str b=>a==b
 |_,_=>J
def cz:List PV->List PV->Bool
 |[],[]=>Y
 |a::as,b::bs=>peq a b&&cz as bs
 |_,_=>J
def eY(k:PV)(z:PV):List (PV×PV)->PV
 |[]=>z
 |(a,v)::r=>if cz k.cells a.cells then v else eY k z r
def pL(k:PV):List (PV×PV)->Bool
 |[]=>J
 |(a,_)::r=>cz k.cells a.cells||pL k r
def eu(k v:PV):List (PV×PV)->List (PV×PV)
 |[]=>[(k,v)]
 |(a,u)::r=>if cz k.cells a.cells then(k,v)::r else(a,u)::eu k v r
def Dr(k:PV):List (PV×PV)->List (PV×PV)
 |[]=>[]
 |(a,u)::r=>if cz k.cells a.cells then(a,.bad)::r else(a,u)::Dr k r
def W9(sz:Nat)(k:PV):List (PV×PV)->Option (List PV)
 |[]=>U []
 |(a,u)::r=>if cz k.cells a.cells then fZ sz u else W9 sz k r
section
variable (P:Program)
def bq(t:TypeId):Nat:=((P.info? t).map (·.size)).getD 0
def Sf(t:TypeId):Nat:=((P.info? t).map (·.bytes)).getD 0
def aS(t:TypeId):Bool:=match P.underlying t with|some (.struct _)|some (.array _ _)=>Y|_=>J
def zL(LZ:TypeId->Option (List Kd)):List Field->Nat->Option (List Kd)
 |[],_=>U []
 |f::r,off=>if f.offset=off/\f.name≠ "_" then(LZ f.type).bind λa=>(zL LZ r (off+a.length)).bind λb=>U (a++b)else Z
def zM(a:List Kd):Nat->List Kd
 |0=>[]
 |n+1=>a++zM a n
def LZ:Nat->TypeId->Option (List Kd)
 |0,_=>Z
 |d+1,t=>match P.underlying t with
  |some (.int q)=>U [.int q]
  |some .bool=>U [.bool]
  |some .string=>U [.str]
  |some (.struct fs)=>if P.stoodInHeld t then Z else(zL (LZ d) fs.toList 0).bind λa=>if a.length=bq P t then U a else Z
  |some (.array n e)=>(LZ d e).bind λa=>if a.length=bq P e/\n*a.length=bq P t then U (zM a n)else Z
  |_=>Z
def FM(kt:TypeId)(ks:List Kd)(k:PV):Bool:=rS ks k.cells&&(aS P kt==k.isAgg)
def BM(t:TypeId):Option (List Kd):=if P.eqGuardType P.depth t then Z else LZ P 8 t
end
def L9:Value->V
 |.int k n=>if(Lit.int k n).wf then .pv (.int k n)else .top
 |.bool b=>.pv (.bool b)
 |.string s=>if s.data.toList.length<=maxLen then .pv (.str s.data.toList)else .top
 |.pointer Z=>.pv .nL
 |.slice Z 0 0=>.il
 |.map Z=>.pv .sr
 |.nilFunc=>.pv .IU
 |.nilIface=>.pv (.ifc J)
 |_=>.top
def SS:Value->V
 |.agg cs=>if cs.toList.all (λc=>match c with|.agg _=>J|.tuple _=>J|_=>Y)then .agg (cs.toList.map L9)else .top
 |v=>L9 v
def zeroV(P:Program)(t:TypeId):Option V:=((P.info? t).bind (·.zero)).map SS
def toCells(n:Nat):V->Option (List V)
 |.pv (.agg cs)=>if cs.length=n then U (cs.map .pv)else Z
 |.agg cs=>if cs.length=n then U cs else Z
 |.top|.b8 _|.pv (.b8 _)|.pv .bad=>Z
 |v=>if n=1 then U [v]else Z
def akz:PV->Option PV
 |.lJ s rs=>U (.rs s rs)
 |_=>Z
def xK(f:V->Option PV):List V->Option (List PV)
 |[]=>U []
 |v::r=>(f v).bind λp=>(xK f r).bind λps=>U (p::ps)
def pg(m:Mem):Nat->V->Option PV
 |0,_=>Z
 |_+1,.pv p=>U p
 |_+1,.il=>U (.rs 0 [])
 |d+1,.agg cs=>(xK (pg m d) cs).bind λps=>U (.agg ps)
 |d+1,.b8 cs=>(xK (pg m d) cs).bind λps=>U (.b8 ps)
 |d+1,.fn g cs=>(xK (pg m d) cs).bind λps=>U (.fn g ps)
 |_+1,.os id=>match m id with
  |some (.arr s _ es)=>U (.rs s es)
  |some (.xJ s _ es)=>U (.rs s es)
  |some (.nest s _ es)=>U (.rs s (es.map PV.strip))
  |_=>Z
 |_+1,.Gm id i off=>match m id with
  |some (.nest _ _ es)=>(es[i]?).bind λe=>akz (cell e off)
  |_=>Z
 |_+1,.iJ id lo len=>match m id with
  |some (.arr s _ es)=>U (.rs s ((es.drop lo).take len))
  |some (.xJ s _ es)=>U (.rs s ((es.drop lo).take len))
  |_=>Z
 |d+1,.op id off=>match m id with
  |some (.box cs)=>(xK (pg m d) (cs.drop off)).bind λps=>U (.rp ps)
  |_=>Z
 |_+1,.oe id i off=>match m id with
  |some (.arr s _ es)=>(es[i]?).bind λe=>U (.rp ((aX s e).drop off))
  |some (.xJ s _ es)=>(es[i]?).bind λe=>U (.rp ((aX s e).drop off))
  |_=>Z
 |_+1,.om id=>match m id with
  |some (.map kt es)=>U (.rm kt (es.map (·.1)) (es.map (·.2)))
  |some (.gY kt _ es)=>U (.rm kt (es.map (·.1)) (es.map λx=>x.2.vi))
  |_=>Z
 |_+1,_=>Z
def gr:Nat:=6
def lQ(f:V->List Nat):List V->List Nat
 |[]=>[]
 |v::r=>f v++lQ f r
def dN(m:Mem):Nat->V->List Nat
 |0,_=>[]
 |d+1,.agg cs=>lQ (dN m d) cs
 |d+1,.b8 cs=>lQ (dN m d) cs
 |d+1,.fn _ cs=>lQ (dN m d) cs
 |_+1,.os id=>[id]
 |_+1,.iJ id _ _=>[id]
 |_+1,.oe id _ _=>[id]
 |_+1,.om id=>[id]
 |_+1,.Gm id _ _=>[id]
 |d+1,.op id off=>id::(match m id with|some (.box cs)=>lQ (dN m d) (cs.drop off)|_=>[])
 |_+1,_=>[]
def Ph(m:Mem):V->Option (PV×Mem)
 |.pv p=>U (p,m)
 |.il=>U (.rs 0 [],m)
 |.os id=>match m id with
  |some (.arr s et es)=>U (.rs s es,aO m id (.xJ s et es))
  |some (.xJ s _ es)=>U (.rs s es,m)
  |some (.nest s et es)=>U (.rs s (es.map PV.strip),aO m id (.xJ s et (es.map PV.strip)))
  |_=>Z
 |_=>Z
def rT:Mem->List V->Option (List PV×Mem)
 |m,[]=>U ([],m)
 |m,v::r=>match Ph m v with
  |some (p,m)=>match rT m r with
   |some (ps,m)=>U (p::ps,m)
   |none=>Z
  |none=>Z
def Em(m:Mem):V->Option (PV×Mem)
 |.agg cs=>match rT m cs with
  |some (ps,m)=>U (.agg ps,m)
  |none=>Z
 |v=>Ph m v
def oq(m:Mem)(n:Nat)(agg:Bool)(v:V):Option (PV×Mem):=
 match toCells n v with
 |some cs=>match rT m cs with
  |some (ps,m)=>if agg then U (.agg ps,m)else match ps with|[p]=>U (p,m)|_=>Z
  |none=>Z
 |none=>Z
mutual
def V.has(id:Nat):V->Bool
 |.agg cs=>cX id cs
 |.b8 cs=>cX id cs
 |.fn _ cs=>cX id cs
 |.os j=>Nat.beq j id
 |.iJ j _ _=>Nat.beq j id
 |.oe j _ _=>Nat.beq j id
 |.om j=>Nat.beq j id
 |.Gm j _ _=>Nat.beq j id
 |.KB j _ _ _ _ _=>Nat.beq j id
 |.op j _=>Nat.beq j id
 |.yl j=>Nat.beq j id
 |.it j=>Nat.beq j id
 |_=>J
def cX(id:Nat):List V->Bool
 |[]=>J
 |v::r=>v.has id||cX id r
end
mutual
def V.within(M:List Nat):V->Bool
 |.agg cs=>ot M cs
 |.b8 cs=>ot M cs
 |.fn _ cs=>ot M cs
 |.os j=>M.elem j
 |.iJ j _ _=>M.elem j
 |.oe j _ _=>M.elem j
 |.om j=>M.elem j
 |.Gm j _ _=>M.elem j
 |.KB j _ _ _ _ _=>M.elem j
 |.op j _=>M.elem j
 |.yl j=>M.elem j
 |.it j=>M.elem j
 |_=>Y
def ot(M:List Nat):List V->Bool
 |[]=>Y
 |v::r=>v.within M&&ot M r
end
mutual
def V.F8(id:Nat):V->Bool
 |.agg cs=>KD id cs
 |.b8 cs=>KD id cs
 |.fn _ cs=>KD id cs
 |.Gm j _ _=>Nat.beq j id
 |.KB j _ _ _ _ _=>Nat.beq j id
 |_=>J
def KD(id:Nat):List V->Bool
 |[]=>J
 |v::r=>v.F8 id||KD id r
end
def zN(id:Nat)(v:V):V:=bif v.has id then .top else v
def ga(id:Nat)(f:Fr):Fr:=λt=>zN id (f t)
def jD(id:Nat):cS->cS
 |.box cs=>.box (cs.map (zN id))
 |b=>b
def b9(id:Nat)(m:Mem):Mem:=λj=>match m j with|some b=>U (jD id b)|none=>Z
def sF(id:Nat)(v:V):V:=bif v.F8 id then .top else v
def jr(id:Nat)(f:Fr):Fr:=λt=>sF id (f t)
def eZ(id:Nat):cS->cS
 |.box cs=>.box (cs.map (sF id))
 |b=>b
def gR(id:Nat)(m:Mem):Mem:=λj=>match m j with|some b=>U (eZ id b)|none=>Z
abbrev Kl:=List (Bool×Nat)
def kf:Kl->Fr->Fr
 |[],f=>f
 |(Y,id)::r,f=>kf r (ga id f)
 |(J,id)::r,f=>kf r (jr id f)
def km:Kl->Mem->Mem
 |[],m=>m
 |(Y,id)::r,m=>km r (bO (b9 id m) id)
 |(J,id)::r,m=>km r (gR id m)
def BN:List (Nat×cS)->Mem->Mem
 |[],m=>m
 |(id,b)::r,m=>BN r (aO m id b)
def cS.names:cS->Nat->Bool
 |.box cs,id=>cX id cs
 |_,_=>J
def cS.within(M:List Nat):cS->Bool
 |.box cs=>ot M cs
 |_=>Y
def gu{P:Prop}(h:P:=by simp[cS.names]):P:=h
def db{P:Prop}(h:P:=by simp[V.has]):P:=h
set_option linter.defProp false
def ta:=@List.getElem?_eq_getElem
def tb:=@decide_eq_true_eq
def tc:=@Option.some.injEq
def te:=@List.length_map
def AI:=@Bool.false_eq_true
def AT:=@List.getElem?_map
def By:=@if_true
def BY:=@if_pos
def IN:=@Option.map_some
def IS:=@Option.bind_eq_some_iff
def IT:=@if_neg
def No:=@List.getElem?_eq_some_iff
def OF:=@if_false
def T0:=@Nat.eq_of_beq_eq_true
def T1:=@Bool.and_eq_true
def Uz:=@List.getD_cons_zero
def WK:=@List.getD_cons_succ
def alx:=@List.getElem_mem
def al6:=@List.length_cons
def anj:=@Int.toNat_natCast
def aq3:=@Bool.not_true
def aq4:=@Prod.mk.injEq
def aq5:=@Array.getElem?_eq_getElem
def are:=@List.length_nil
def asI:=@Option.map_eq_some_iff
def auA:=@Array.getElem?_eq_some_iff
def awT:=@List.take_succ_eq_append_getElem
def awU:=@List.mem_of_getElem?
def awV:=@Int.lt_irrefl
def awW:=@Array.getD_eq_getD_getElem?
def ax7:=@Bool.true_eq_false
def ax8:=@Nat.mul_le_mul_right
def ax9:=@List.length_append
def aya:=@List.map_append
def ayb:=@List.map_cons
def ayc:=@List.mem_iff_getElem?
def ayd:=@Nat.le_refl
def aye:=@List.mem_cons
def ayf:=@decide_false
def ayg:=@Option.bind_some
def ayh:=@List.eq_nil_of_length_eq_zero
def ayi:=@Bool.not_false
def ayj:=@Bool.or_eq_true
def ayk:=@decide_true
def ayl:=@List.mem_map
def aym:=@Option.isSome_iff_exists
def ayn:=@Nat.le_trans
def ayo:=@Bool.eq_iff_iff
def ayp:=@Bool.or_eq_false_iff
def ayq:=@List.mem_append
def ayr:=@List.mem_filter
def ays:=@List.take_length
def ayt:=@List.append_assoc
def ayu:=@List.take_of_length_le
def ayv:=@decide_eq_false_iff_not
def ayw:=@Array.getElem?_setIfInBounds
def ayx:=@Bool.not_eq_true'
def ayy:=@Option.getD_some
def ayz:=@List.length_take
def ayA:=@List.drop_eq_getElem_cons
def ayB:=@List.mem_range
def ayC:=@List.exists_of_findSome?_eq_some
def ayD:=@List.length_replicate
def ayE:=@List.map_congr_left
def ayF:=@List.append_nil
def ayG:=@List.mem_flatMap
def ayH:=@Option.some.inj
def ayI:=@List.ext_getElem?
def ayJ:=@List.getElem?_append
def ayK:=@List.all_eq_true
def ayL:=@List.pairwise_iff_getElem
def ayM:=@List.getElem?_toArray
def ayN:=@List.length_filter_le
def ayO:=@List.getElem?_set
def ayP:=@List.range_succ
def ayQ:=@Array.getElem?_toList
def ayR:=@List.getElem?_cons_zero
def ayS:=@Bool.true_and
def ayT:=@Bool.or_false
def ayU:=@Nat.add_assoc
def ayV:=@List.getElem?_of_mem
def ayW:=@List.cons.injEq
def ayX:=@Nat.add_mul
def ayY:=@List.Pairwise.imp_of_mem
def ayZ:=@List.mem_singleton
def ay0:=@List.getElem?_eq_none
def ay1:=@Bool.not_eq_true
def ay2:=@Nat.min_eq_left
def ay3:=@List.drop_eq_nil_of_le
def ay4:=@List.pairwise_cons
def ay5:=@List.findSome?_cons
def ay6:=@List.map_nil
def ay7:=@List.getElem?_append_right
def ay8:=@List.mem_of_mem_take
def ay9:=@List.pairwise_append
def aza:=@Bool.not_eq_false'
def azb:=@List.getElem?_append_left
def azc:=@List.take_append_getElem
def azd:=@List.size_toArray
def aze:=@List.pairwise_flatMap
def azf:=@Nat.zero_add
def azg:=@List.nil_append
def azh:=@Array.toList_setIfInBounds
def azi:=@Array.getElem?_append_left
def azj:=@List.any_eq_false
def azk:=@List.mem_of_find?_eq_some
def azl:=@List.set_set
def azm:=@List.length_set
def azn:=@Int.mul_le_mul_of_nonneg_right
def azo:=@List.take_append_drop
def azp:=@Option.isSome_none
def azq:=@Option.toList_none
def azr:=@List.getElem?_take_of_lt
def azs:=@Nat.add_sub_cancel
def azt:=@Nat.blt_eq
def azu:=@List.cons_append
def azv:=@List.flatMap_def
def azw:=@Bool.and_true
def azx:=@List.map_set
def azy:=@Nat.mul_le_mul_left
def azz:=@List.getElem?_range
def azA:=@List.nodup_cons
def azB:=@List.range_succ_eq_map
def azC:=@List.findSome?_eq_none_iff
def azD:=@Option.elim_some
def azE:=@List.any_eq_true
def azF:=@List.find?_eq_none
def azH:=@Array.getElem?_modify
def azI:=@List.map_map
def azJ:=@List.filter_append
def azK:=@List.elem_iff
def azL:=@Bool.false_and
def azM:=@Nat.mul_le_mul
def azN:=@List.drop_drop
def azO:=@List.mem_of_mem_drop
def azP:=@List.replicate_succ'
def azQ:=@Array.mem_toList_iff
def azR:=@Array.getElem?_setIfInBounds_ne
def azS:=@Function.comp_def
def azT:=@Array.ext'
def azU:=@List.find?_range_eq_some
def azV:=@List.getElem?_cons_succ
def azW:=@List.map_take
def azX:=@Int.eq_ofNat_of_zero_le
def azY:=@Bool.false_or
def azZ:=@List.getElem_of_mem
def az0:=@List.flatMap_append
def az1:=@decide_eq_true
def az2:=@List.getElem?_set_self
def az3:=@List.mem_filterMap
def az4:=@Nat.add_zero
def az5:=@List.range_eq_range'
def az6:=@List.mem_cons_of_mem
def az7:=@List.mem_iff_getElem
def az8:=@List.reverse_reverse
def az9:=@Classical.byContradiction
def aAa:=@Option.isNone_iff_eq_none
def aAb:=@List.take_zero
def aAc:=@List.range'_succ
def aAd:=@List.length_drop
def aAe:=@List.nodup_range
def aAf:=@List.mem_toArray
def aAg:=@beq_eq_false_iff_ne
def aAh:=@Option.isSome_some
def aAi:=@List.head?_eq_getElem?
def aAj:=@List.take_add_one
def aAk:=@Nat.zero_le
def aAl:=@List.foldl_append
def aAn:=@List.drop_zero
def aAo:=@Int.mul_nonneg
def aAq:=@Nat.le_of_lt
def aAr:=@and_assoc
def aAs:=@Array.eq_empty_of_size_eq_zero
def aAt:=@Nat.mul_comm
def aAu:=@List.eq_nil_iff_forall_not_mem
def aAv:=@decide_eq_decide
def aAw:=@Nat.lt_succ_self
def aAx:=@List.getElem?_modify
def aAy:=@decide_eq_false
def aAz:=@List.countP_eq_zero
def aAA:=@List.countP_set
def aAB:=@Array.length_toList
def aAC:=@Array.getElem?_push
def aAE:=@Int.fdiv_eq_ediv_of_nonneg
def aAF:=@Bool.not_not
def aAG:=@Nat.lt_of_le_of_lt
def aAH:=@List.map_findSome?
def aAI:=@not_or
def aAJ:=@Option.toList_some
def aAK:=@List.findSome?_nil
def aAM:=@Int.toNat_zero
def aAN:=@List.mapM_cons
def aAO:=@Array.size_append
def aAP:=@List.pairwise_map
def aAQ:=@List.Perm.eq_of_pairwise
def aAS:=@List.any_cons
def aAT:=@List.getElem?_replicate
def aAU:=@not_true
def aAV:=@List.all_cons
def aAW:=@beq_self_eq_true
def aAX:=@List.filter_cons
def aAY:=@List.drop_length
def aA0:=@List.not_mem_nil
def aA1:=@Array.getElem?_eq_none
def aA2:=@List.drop_of_length_le
def aA3:=@List.foldl_cons
def aA5:=@List.any_append
def aA6:=@Int.ediv_nonneg
def aA7:=@Array.mem_of_getElem?
def aA8:=@List.set_append_right
def aA9:=@List.getElem_set_self
def aBa:=@Bool.true_or
def aBb:=@List.find?_cons
def aBc:=@List.findSome?_append
def aBe:=@Nat.mod_lt
def aBf:=@List.mem_append_left
def aBg:=@ne_eq
def aBi:=@List.length_eraseIdx
def aBk:=@List.filter_eq_self
def aBm:=@List.map_drop
def aBn:=@and_true
def aBo:=@Nat.sub_zero
def aBp:=@Nat.zero_mul
def aBq:=@Bool.or_true
def aBs:=@Nat.le_of_eq
def aBt:=@and_self
def aBu:=@dif_pos
def aBv:=@Int.le_refl
def aBw:=@Nat.le_zero
end Go.Ab
namespace Go.Ab
inductive FS where
 |raw
 |fn (g:FuncId) (caps:List FS)
 |ptr (cells:List FS)
mutual
def rdL:FS->PV->Option (List PV)
 |.raw,p=>U [p]
 |.fn g cs,.fn g' qs=>if g'=g then Xa cs qs else Z
 |.ptr cs,.rp qs=>Xa cs qs
 |_,_=>Z
def Xa:List FS->List PV->Option (List PV)
 |[],[]=>U []
 |s::ss,p::ps=>(rdL s p).bind λa=>(Xa ss ps).bind λb=>U (a++b)
 |_,_=>Z
end
mutual
def UL:FS->List PV->PV×List PV
 |.raw,[]=>(.bad,[])
 |.raw,p::r=>(p,r)
 |.fn g cs,l=>(.fn g (Nu cs l).1,(Nu cs l).2)
 |.ptr cs,l=>(.rp (Nu cs l).1,(Nu cs l).2)
def Nu:List FS->List PV->List PV×List PV
 |[],l=>([],l)
 |s::ss,l=>((UL s l).1::(Nu ss (UL s l).2).1,(Nu ss (UL s l).2).2)
end
mutual
def FS.n:FS->Nat
 |.raw=>1
 |.fn _ cs=>nFs cs
 |.ptr cs=>nFs cs
def nFs:List FS->Nat
 |[]=>0
 |s::ss=>s.n+nFs ss
end
inductive Sh where
 |raw
 |int (q:IntKind)
 |bool
 |str
 |rs (sz:Nat)
 |rp (n:Nat)
 |fs (s:FS)
 |row (id off:Nat)
 |own (v:V)
inductive IV where
 |box (cs:List Sh)
 |arr (sz:Nat) (et:TypeId)
 |xJ (sz:Nat) (et:TypeId)
 |map (kt:TypeId)
 |nest (sz:Nat) (et:TypeId)
 |gY (kt e:TypeId)
 |loop
 |busy
 |iter (t:TypeId)
structure SU where
 cE:List (Nat×Sh)
 Jw:List (Nat×IV)
 fz:List (Nat×Nat):=[]
 bz:List (Nat×Nat×Nat):=[]
 bo:List (Nat×Nat×Nat×TypeId):=[]
 nz:List Nat:=[]
 ct:List (Nat×Nat):=[]
structure aY where
 run:{S R:Type}->(S->(S->Option R)->Option R)->S->Option R
 room:Nat->Bool
 yW:∀n,room n=Y->(n:Int)<=IntKind.i64.max
def bT{S R:Type}(body:S->(S->Option R)->Option R):Nat->S->Option R
 |0,_=>Z
 |n+1,s=>body s (bT body n)
abbrev YL:=(R:Type)->Nat->Nat->Nat->List V->Fr->Mem->(V->Fr->Mem->Option R)->Option R
def Jx:YL:=λ_ _ _ _ _ _ _ _=>Z
structure Env where
 P:Program
 ctx:FuncId->Option (List PV->Option PV)
 aQ:Nat->Option (List PV)
 fid:FuncId
 fn:Func
 lp:aY
 hint:Nat->Nat->List SU
 u:Nat
 own:FuncId->Option (List PV->Option PV)
 inl:(R:Type)->FuncId->Nat->List V->Fr->Mem->(V->Fr->Mem->Option R)->Option R
 rng:(R:Type)->FuncId->Nat->YL->List V->Fr->Mem->(V->Fr->Mem->Option R)->Option R
 yl:YL
 rdb:Bool:=J
 fnr:FuncId->Option FS:=λ_=>Z
 Ma:Nat->Bool:=λ_=>J
section
variable {R:Type} (E:Env)
def dX(kt:TypeId)(p:PV)(a:Option R)(b:List PV->List PV->Option R):Option R:=
 match p with
 |.sr=>a
 |.rm Gh ks vs=>if Gh=kt then b ks vs else Z
 |_=>Z
def mZ(n:Nat)(p:PV)(a:Option R)(b:PV->Option R):Option R:=
 match p with
 |.nL=>a
 |.rp cs=>if n<=cs.length then b (.agg cs)else Z
 |_=>Z
def j9(t:TypeId)(p:PV)(k:PV->Option R):Option R:=
 match E.P.underlying t with
 |some (.int q)=>(asInt q p).bind λn=>k (.int q n)
 |some .bool=>(asBool p).bind λb=>k (.bool b)
 |some .string=>(bU p).bind λs=>k (.str s)
 |some (.slice e)=>(aJ (bq E.P e) p).bind λes=>k (.rs (bq E.P e) es)
 |some (.struct _)=>(asAgg (bq E.P t) p).bind λ_=>k (.agg (aX (bq E.P t) p))
 |some (.array _ _)=>(asAgg (bq E.P t) p).bind λ_=>k (.agg (aX (bq E.P t) p))
 |some (.pointer e)=>mZ (bq E.P e) p (k .nL) λq=>k (.rp (aX (bq E.P e) q))
 |some (.map kt _)=>dX kt p (k .sr) λks vs=>k (.rm kt ks vs)
 |some (.func _ _ _)=>match p with
  |.IU=>k .IU
  |.fn g cs=>k (.fn g cs)
  |_=>Z
 |some (.interface _)=>(acD p).bind λb=>k (.ifc b)
 |_=>Z
def KE(t:TypeId)(v:V)(k:V->Option R):Option R:=
 match v with
 |.pv p=>j9 E t p λp=>k (.pv p)
 |.top=>Z
 |v=>if(E.P.underlying t).isSome then k v else Z
def Nv:List TypeId->List PV->(List V->Option R)->Option R
 |[],[],k=>k []
 |t::ts,p::ps,k=>j9 E t p λq=>Nv ts ps λvs=>k (.pv q::vs)
 |_,_,_=>Z
def Nx(ts:List TypeId)(r:PV)(k:V->Option R):Option R:=
 match ts with
 |[]=>(bY 0 r).bind λ_=>k (.b8 [])
 |[t]=>j9 E t r λq=>k (.pv q)
 |ts=>(bY ts.length r).bind λvs=>Nv E ts ((I ts.length).map λj=>vs.getD j .bad) λus=>k (.b8 us)
def Mb(fid:FuncId)(ts:List TypeId)(r:PV)(k:V->Option R):Option R:=
 match E.fnr fid with
 |some s=>(rdL s r).bind λls=>k (.pv (UL s ((I s.n).map λj=>ls.getD j .bad)).1)
 |none=>Nx E ts r k
def cd(f:Fr):Operand->V
 |.tmp t=>bif Nat.blt t E.fn.ntmps then f t else .top
 |.const c=>SS c
 |.global g=>match E.aQ g with|some cs=>.pv (.rp cs)|none=>.top
 |.func f=>bif Nat.blt f Pg then .fn f []else .top
def fresh(draw:Bool)(site:Nat)(b:cS)(f:Fr)(m:Mem)(k:Fr->Mem->bS->Option R):Option R:=
 match m site with
 |none=>k f (aO m site b) [(Y,site)]
 |some _=>if draw||b.names site then Z else k (ga site f) (aO (b9 site m) site b) [(Y,site)]
def zO:V->Option (List V)
 |.pv (.agg cs)=>U (cs.map .pv)
 |.agg cs=>U cs
 |_=>Z
def dW:Mem:=λ_=>Z
def su(op:BinOp)(t:TypeId)(a b:V)(k:PV->Option R):Option R:=
 match a,b with
 |.pv (.int q x),.pv (.int q' y)=>match op with
  |.shl=>if y<0 then Z else k (.int q (q.wrap (x*2^(min y.toNat q.bits))))
  |.shr=>if y<0 then Z else k (.int q (x.fdiv (2^(min y.toNat q.bits))))
  |op=>if q=q' then match op with
   |.add=>k (.int q (q.wrap (x+y)))
   |.sub=>k (.int q (q.wrap (x-y)))
   |.mul=>k (.int q (q.wrap (x*y)))
   |.quo=>if y=0 then Z else k (.int q (q.wrap (x.tdiv y)))
   |.rem=>if y=0 then Z else k (.int q (x.tmod y))
   |.and=>k (.int q (q.wrap (BitVec.ofInt q.bits x&&&BitVec.ofInt q.bits y).toNat))
   |.or=>k (.int q (q.wrap (BitVec.ofInt q.bits x|||BitVec.ofInt q.bits y).toNat))
   |.xor=>k (.int q (q.wrap (BitVec.ofInt q.bits x^^^BitVec.ofInt q.bits y).toNat))
   |.andNot=>k (.int q (q.wrap (BitVec.ofInt q.bits x&&& ~~~(BitVec.ofInt q.bits y)).toNat))
   |.eql=>k (.bool (x==y))
   |.neq=>k (.bool (x !=y))
   |.lss=>k (.bool (O (x<y)))
   |.leq=>k (.bool (O (x<=y)))
   |.gtr=>k (.bool (O (x>y)))
   |.geq=>k (.bool (O (x>=y)))
   |_=>Z
   else Z
 |.pv (.str x),.pv (.str y)=>match op with
  |.add=>if E.lp.room (x.length+y.length)=Y then k (.str (x++y))else Z
  |.eql=>k (.bool (x==y))
  |.neq=>k (.bool (!(x==y)))
  |.lss=>k (.bool (Op.bytesLess x y))
  |.leq=>k (.bool (Op.bytesLess x y||x==y))
  |.gtr=>k (.bool (!(Op.bytesLess x y||x==y)))
  |.geq=>k (.bool (!(Op.bytesLess x y)))
  |_=>Z
 |.pv (.bool x),.pv (.bool y)=>match op,E.P.underlying t with
  |.eql,U .bool=>k (.bool (x==y))
  |.neq,U .bool=>k (.bool (!(x==y)))
  |_,_=>Z
 |.pv .nL,.pv .nL=>match op,E.P.underlying t with
  |.eql,U (.pointer _)=>k (.bool Y)
  |.neq,U (.pointer _)=>k (.bool J)
  |_,_=>Z
 |.fn _ _,.pv .IU|.pv (.fn _ _),.pv .IU=>match op,E.P.underlying t with
  |.eql,U (.func _ _ _)=>k (.bool J)
  |.neq,U (.func _ _ _)=>k (.bool Y)
  |_,_=>Z
 |.pv (.rp _),.pv .nL|.op _ _,.pv .nL|.oe _ _ _,.pv .nL=>match op,E.P.underlying t with
  |.eql,U (.pointer _)=>k (.bool J)
  |.neq,U (.pointer _)=>k (.bool Y)
  |_,_=>Z
 |a,b=>if aS E.P t then match BM E.P t,zO a,zO b with
  |some ks,U as,U bs=>match xK (pg dW 1) as,xK (pg dW 1) bs with
   |some as,U bs=>if rS ks as=Y/\rS ks bs=Y then match op with
    |.eql=>k (.bool (cz as bs))
    |.neq=>k (.bool (!(cz as bs)))
    |_=>Z
    else Z
   |_,_=>Z
  |_,_,_=>Z
  else Z
def Pj:Operand->Bool
 |.const .nilIface=>Y
 |_=>J
def agL(op:BinOp)(t:TypeId)(a:V)(k:PV->Option R):Option R:=
 match a with
 |.pv (.ifc b)=>match op,E.P.underlying t with
  |.eql,U (.interface _)=>k (.bool (!b))
  |.neq,U (.interface _)=>k (.bool b)
  |_,_=>Z
 |_=>Z
def Xb(op:BinOp)(t:TypeId)(y:Operand)(a b:V)(k:PV->Option R):Option R:=bif Pj y then agL E op t a k else su E op t a b k
noncomputable def agree(a b:Option R):Option R:= @ite _ (a=b) (Classical.propDecidable _) a Z
noncomputable def aab(op:BinOp)(t:TypeId)(es:List PV)(k:Bool->Option R):Option R:=
 match op,E.P.underlying t with
 |.eql,U (.slice _)=>if es.isEmpty=Y then agree (k Y) (k J)else k J
 |.neq,U (.slice _)=>if es.isEmpty=Y then agree (k J) (k Y)else k Y
 |_,_=>Z
def xun(op:UnOp)(a:V)(k:PV->Option R):Option R:=
 match op,a with
 |.not,.pv (.bool b)=>k (.bool !b)
 |.neg,.pv (.int q n)=>k (.int q (q.wrap (0-n)))
 |.xor,.pv (.int q n)=>k (.int q (q.wrap (BitVec.ofInt q.bits (if q.signed then-1 else q.max)^^^BitVec.ofInt q.bits n).toNat))
 |_,_=>Z
def Pk(s d:TypeId)(a:V)(k:PV->Option R):Option R:=
 match E.P.underlying s,E.P.underlying d,a with
 |some (.int q),U (.int q'),.pv (.int q'' n)=>if q''=q then(if q'=q then k (.int q n)else k (.int q' (q'.wrap n)))else Z
 |some .string,U .string,.pv (.str s)=>k (.str s)
 |_,_,_=>Z
def Co(s:Nat)(t:TypeId)(e:PV)(off:Nat)(k:V->Option R):Option R:=
 if aS E.P t then(if off+bq E.P t<=s then k (.pv (.agg (((aX s e).drop off).take (bq E.P t))))else Z)
 else match(aX s e)[off]? with
  |some p=>j9 E t p λp=>k (.pv p)
  |none=>Z
def vO:V->Option PV
 |.pv p=>U p
 |_=>Z
def agM(cs:List V):V:=match xK vO cs with
 |some ps=>.pv (.agg ps)
 |none=>.agg cs
def Mc(t:TypeId)(s i off:Nat):Bool:=match E.P.underlying t with
 |some (.array _ e)=>Nat.beq (bq E.P e) s&&aS E.P e&&Nat.beq i 0&&Nat.beq off 0
 |_=>J
def yN(own:Bool)(t:TypeId)(a:V)(m:Mem)(k:V->bS->Option R):Option R:=
 match a with
 |.pv (.rp cs)=>
  if aS E.P t then(if bq E.P t<=cs.length then k (.pv (.agg (cs.take (bq E.P t)))) []else Z)
  else(cs.head?).bind λp=>j9 E t p λp=>k (.pv p) []
 |.op id off=>match m id with
  |some (.box cs)=>
   if aS E.P t then(if off+bq E.P t<=cs.length then k (agM ((cs.drop off).take (bq E.P t))) [(J,id)]else Z)
   else match xK vO cs with
    |some ps=>(ps[off]?).bind λp=>j9 E t p λp=>k (.pv p) [(J,id)]
    |none=>match cs[off]? with
     |some v=>KE E t v λv=>k v [(J,id)]
     |none=>Z
  |_=>Z
 |.oe id i off=>match m id with
  |some (.arr s _ es)=>bif Mc E t s i off then(if es.length*s=bq E.P t then k (.pv (.agg (KC s es))) [(J,id)]else Z)else(es[i]?).bind λe=>Co E s t e off λv=>k v [(J,id)]
  |some (.xJ s _ es)=>(es[i]?).bind λe=>Co E s t e off λv=>k v [(J,id)]
  |some (.nest _ _ es)=>if aS E.P t then Z else(es[i]?).bind λe=>
   if own then(match E.P.underlying t with
    |some (.slice et)=>(fZ (bq E.P et) (cell e off)).bind λ_=>k (.Gm id i off) [(J,id)]
    |_=>Z)
   else j9 E t (cell e off) λp=>k (.pv p) [(J,id)]
  |_=>Z
 |.KB id i off s j off2=>match m id with
  |some (.nest _ _ es)=>(es[i]?).bind λe=>(fZ s (cell e off)).bind λrs=>(rs[j]?).bind λq=>Co E s t q off2 λv=>k v [(J,id)]
  |_=>Z
 |_=>Z
def over{T:Type}:List T->List T->List T
 |[],cs=>cs
 |x::new,[]=>x::over new []
 |x::new,_::cs=>x::over new cs
def cp{T:Type}:List T->Nat->List T->List T
 |cs,0,new=>over new cs
 |[],_+1,new=>new
 |c::cs,off+1,new=>c::cp cs off new
def UM{T:Type}:∀(new cs:List T),over new cs=new++cs.drop new.length
 |[],cs=>bm
 |x::new,[]=>by simp[over,UM new []]
 |x::new,_::cs=>by simp[over,UM new cs]
def fo{T:Type}:∀(cs:List T)(off:Nat)(new:List T),cp cs off new=cs.take off++new++cs.drop (off+new.length)
 |cs,0,new=>by cases cs<;>simp[cp,UM]
 |[],_+1,new=>by simp[cp]
 |c::cs,off+1,new=>by rw[cp,fo cs off new,show off+1+new.length=(off+new.length)+1 by omega];simp
def Gn(draw:Bool)(m:Mem)(n:Nat)(agg:Bool)(v:V):Option (PV×Mem):=if draw then(match oq dW n agg v with|some (p,_)=>U (p,m)|none=>Z)else oq m n agg v
def setRow(s:Nat)(e:PV)(off:Nat)(p:PV):PV:=if s=1 then p else .agg ((aX s e).set off p)
def setCells(s:Nat)(e:PV)(off n:Nat)(p:PV):PV:=if off=0/\n=s then p else .agg (cp (aX s e) off p.cells)
def aac(t:TypeId)(i off:Nat)(b:Option cS)(x:V):Option (Nat×TypeId×Nat×PV):=match b,x with
 |some (.arr s et es),.pv p=>bif Mc E t s i off then U (s,et,es.length,p)else Z
 |_,_=>Z
def Cp(draw:Bool)(t:TypeId)(a x:V)(m:Mem)(k:Mem->bS->Option R):Option R:=
 match a with
 |.op id off=>match m id with
  |some (.box cs)=>match toCells (bq E.P t) x with
   |some new=>if off+bq E.P t<=cs.length/\0<bq E.P t then k (aO m id (.box (cp cs off new))) [(Y,id)]else Z
   |none=>Z
  |_=>Z
 |.oe id i off=>match aac E t i off (m id) x with
  |some (s,et,n,p)=>(asAgg (bq E.P t) p).bind λ_=>if n*s=bq E.P t/\0<bq E.P t then k (aO m id (.arr s et (vj s n p))) [(Y,id)]else Z
  |none=>match Gn draw m (bq E.P t) (aS E.P t) x with
  |some (p,m)=>match m id with
   |some (.arr s et es)=>(es[i]?).bind λe=>
    if off=0/\bq E.P t=s/\0<s then k (aO m id (.arr s et (es.set i p))) [(Y,id)]
    else if off+bq E.P t<=s/\0<bq E.P t/\1<s then k (aO m id (.arr s et (es.set i (.agg (cp (aX s e) off p.cells))))) [(Y,id)]
    else Z
   |some (.nest s et es)=>(es[i]?).bind λe=>if off+bq E.P t<=s/\0<bq E.P t/\1<s then k (aO m id (.nest s et (es.set i (.agg (cp (aX s e) off p.cells))))) [(Y,id)]else Z
   |_=>Z
  |none=>Z
 |.KB id i off s j off2=>match oq dW (bq E.P t) (aS E.P t) x with
  |some (p,_)=>match m id with
   |some (.nest s0 et es)=>(es[i]?).bind λe=>(fZ s (cell e off)).bind λrs=>(rs[j]?).bind λq=>
    if off2+bq E.P t<=s/\0<bq E.P t/\off<s0 then k (aO m id (.nest s0 et (es.set i (setRow s0 e off (.lJ s (rs.set j (setCells s q off2 (bq E.P t) p))))))) [(Y,id)]
    else Z
   |_=>Z
  |none=>Z
 |_=>Z
def Sg(m:Mem)(x:V)(k:Nat->bS->Option R):Option R:=
 match x with
 |.pv (.rs _ es)=>k es.length []
 |.il=>k 0 []
 |.iJ id _ len=>match m id with
  |some (.arr _ _ _)=>k len [(J,id)]
  |some (.xJ _ _ _)=>k len [(J,id)]
  |_=>Z
 |.os id=>match m id with
  |some (.arr _ _ es)=>k es.length [(J,id)]
  |some (.xJ _ _ es)=>k es.length [(J,id)]
  |some (.nest _ _ es)=>k es.length [(J,id)]
  |some (.box cs)=>if cs.length<=maxLen then k cs.length [(J,id)]else Z
  |_=>Z
 |_=>Z
def aep(sz:Nat)(m:Mem)(x:V)(k:Nat->bS->Option R):Option R:=
 match x with
 |.Gm id i off=>match m id with
  |some (.nest _ _ es)=>(es[i]?).bind λe=>(fZ sz (cell e off)).bind λrs=>k rs.length [(J,id)]
  |_=>Z
 |x=>Sg m x k
def agN(m:Mem)(x:V)(k:Nat->bS->Option R):Option R:=
 match x with
 |.om id=>match m id with
  |some (.map _ es)=>if es.length<=maxLen then k es.length [(J,id)]else Z
  |_=>Z
 |.pv .sr=>k 0 []
 |_=>Z
def Xc(t:TypeId)(x:V)(m:Mem)(k:V->bS->Option R):Option R:=
 match E.P.underlying t with
 |some (.array n _)=>if n<=maxLen then k (.pv (.int .i64 n)) []else Z
 |some .string=>match x with
  |.pv (.str s)=>k (.pv (.int .i64 s.length)) []
  |_=>Z
 |some (.slice e)=>aep (bq E.P e) m x λn ft=>k (.pv (.int .i64 n)) ft
 |some (.map _ _)=>agN m x λn ft=>k (.pv (.int .i64 n)) ft
 |_=>Z
def im(m:Mem)(sz:Nat):V->Option (List PV×bS)
 |.pv (.rs s es)=>if s=sz then U (es,[])else match es with|[]=>U ([],[])|_=>Z
 |.il=>U ([],[])
 |.os id=>match m id with
  |some (.arr s' _ es)=>if s'=sz then U (es,[(J,id)])else Z
  |some (.xJ s' _ es)=>if s'=sz then U (es,[(J,id)])else Z
  |_=>Z
 |.iJ id lo len=>match m id with
  |some (.arr s' _ es)=>if s'=sz then U ((es.drop lo).take len,[(J,id)])else Z
  |some (.xJ s' _ es)=>if s'=sz then U ((es.drop lo).take len,[(J,id)])else Z
  |_=>Z
 |.Gm id i off=>match m id with
  |some (.nest _ _ es)=>(es[i]?).bind λe=>(fZ sz (cell e off)).bind λrs=>U (rs,[(J,id)])
  |_=>Z
 |_=>Z
def UN(m:Mem)(sz:Nat)(x:V)(k:List PV->bS->Option R):Option R:=
 match x with
 |.Gm id i off=>match m id with
  |some (.nest _ _ es)=>(es[i]?).bind λe=>(fZ sz (cell e off)).bind λrs=>k rs [(J,id)]
  |_=>Z
 |x=>match im m sz x with
  |some (es,ft)=>k es ft
  |none=>Z
def Md:List PV->Option Bytes
 |[]=>U []
 |.int .u8 n::r=>(Md r).map λb=>UInt8.ofNat n.toNat::b
 |_=>Z
def Me(s d:TypeId)(a:V)(m:Mem)(k:PV->bS->Option R):Option R:=
 match E.P.underlying s,E.P.underlying d with
 |some (.slice e),U .string=>match E.P.underlying e,im m 1 a with
  |some (.int .u8),U (es,ft)=>(Md es).bind λb=>k (.str b) ft
  |_,_=>Z
 |_,_=>Pk E s d a λp=>k p []
def aU(i:Int)(n:Nat):Prop:=0<=i/\i<(n:Int)
instance (i:Int) (n:Nat):Decidable (aU i n):=inferInstanceAs (Decidable (_/\_))
def ef(t:TypeId)(x ix:V)(m:Mem)(k:V->bS->Option R):Option R:=
 match ix with
 |.pv (.int _ i)=>match E.P.underlying t,x with
  |some (.slice e),.pv (.rs s es)=>if s=bq E.P e/\0<s then(uW es i).bind λp=>k (.pv (.rp (aX s p))) []else Z
  |some (.slice e),.os id=>match m id with
   |some (.arr s _ es)=>if s=bq E.P e/\0<s then(if aU i es.length then k (.oe id i.toNat 0) [(J,id)]else Z)else Z
   |some (.xJ s _ es)=>if s=bq E.P e/\0<s then(if aU i es.length then k (.oe id i.toNat 0) [(J,id)]else Z)else Z
   |some (.nest s _ es)=>if s=bq E.P e/\0<s then(if aU i es.length then k (.oe id i.toNat 0) [(J,id)]else Z)else Z
   |some (.box cs)=>if bq E.P e=1/\aU i cs.length then k (.op id i.toNat) [(J,id)]else Z
   |_=>Z
  |some (.slice e),.Gm id i0 off=>match m id with
   |some (.nest _ _ es)=>if 0<bq E.P e then(es[i0]?).bind λe0=>(fZ (bq E.P e) (cell e0 off)).bind λrs=>if aU i rs.length then k (.KB id i0 off (bq E.P e) i.toNat 0) [(J,id)]else Z else Z
   |_=>Z
  |some (.slice e),.iJ id lo len=>match m id with
   |some (.arr s _ _)=>if s=bq E.P e/\0<s then(if aU i len then k (.oe id (lo+i.toNat) 0) [(J,id)]else Z)else Z
   |some (.xJ s _ _)=>if s=bq E.P e/\0<s then(if aU i len then k (.oe id (lo+i.toNat) 0) [(J,id)]else Z)else Z
   |_=>Z
  |some (.array n e),.op id off=>if aU i n/\0<bq E.P e then k (.op id (off+i.toNat*bq E.P e)) []else Z
  |some (.array n e),.pv (.rp cs)=>if aU i n/\0<bq E.P e then k (.pv (.rp (cs.drop (i.toNat*bq E.P e)))) []else Z
  |some (.array n e),.oe id j off=>if aU i n/\0<bq E.P e then(match(match m id with|some (.arr s _ _)=>Nat.beq (bq E.P e) s|_=>J)with
   |true=>k (.oe id (i.toNat+j) off) [(J,id)]
   |false=>k (.oe id j (off+i.toNat*bq E.P e)) [(J,id)])else Z
  |_,_=>Z
 |_=>Z
def KF(s:TypeId)(j:Nat):Option (Nat×TypeId):=
 match E.P.underlying s with
 |some (.struct fs)=>match fs[j]? with
  |some f=>if bq E.P f.type=0 then Z else U (f.offset,f.type)
  |none=>Z
 |_=>Z
def nM(s:TypeId)(x:V)(j:Nat)(k:V->Option R):Option R:=
 match KF E s j with
 |some (o,_)=>match x with
  |.pv (.rp cs)=>k (.pv (.rp (cs.drop o)))
  |.op id off=>k (.op id (off+o))
  |.oe id i off=>k (.oe id i (off+o))
  |.KB id i off s j off2=>k (.KB id i off s j (off2+o))
  |_=>Z
 |none=>Z
def Pl(t:TypeId)(cs:List V)(off:Nat)(k:V->Option R):Option R:=
 if aS E.P t then(if off+bq E.P t<=cs.length then k (.agg ((cs.drop off).take (bq E.P t)))else Z)
 else match cs[off]? with
  |some v=>KE E t v k
  |none=>Z
def Pm(s:TypeId)(x:V)(j:Nat)(k:V->Option R):Option R:=
 match KF E s j,zO x with
 |some (o,t),U cs=>Pl E t cs o k
 |_,_=>Z
def Mf(t:TypeId)(x ix:V)(k:V->Option R):Option R:=
 match ix with
 |.pv (.int _ i)=>match E.P.underlying t,x with
  |some .string,.pv (.str s)=>(agK s i).bind λb=>k (.pv (.int .u8 b.toNat))
  |some (.array n et),x=>match zO x with
   |some cs=>if aU i n/\0<bq E.P et then Pl E et cs (i.toNat*bq E.P et) k else Z
   |none=>Z
  |_,_=>Z
 |_=>Z
def na(d:Int):Option V->Option Int
 |none=>U d
 |some (.pv (.int _ i))=>U i
 |_=>Z
def En(t:TypeId)(x:V)(lo hi mx:Option V)(m:Mem)(k:V->bS->Option R):Option R:=
 match mx with
 |some mx=>match E.P.underlying t,x with
  |some (.slice e),.os id=>match m id with
   |some (.arr s _ es)=>match lo,hi,mx with
    |none,U (.pv (.int _ h)),.pv (.int _ c)=>if 0<=h/\h<=c/\c<=(es.length:Int)/\s=bq E.P e then k (.iJ id 0 h.toNat) [(J,id)]else Z
    |_,_,_=>Z
   |_=>Z
  |_,_=>Z
 |none=>match E.P.underlying t,x with
  |some .string,.pv (.str s)=>match na 0 lo,na s.length hi with
   |some l,U h=>if 0<=l/\l<=h/\h<=(s.length:Int)then k (.pv (.str ((s.take h.toNat).drop l.toNat))) []else Z
   |_,_=>Z
  |some (.slice e),.pv (.rs sz es)=>match na 0 lo,na es.length hi with
   |some l,U h=>if 0<=l/\l<=h/\h<=(es.length:Int)/\sz=bq E.P e/\bq E.P e≠0 then k (.pv (.rs sz ((es.take h.toNat).drop l.toNat))) []else Z
   |_,_=>Z
  |some (.slice e),.os id=>match m id with
   |some (.arr s _ es)=>match na 0 lo,na es.length hi with
    |some l,U h=>if 0<=l/\l<=h/\h<=(es.length:Int)/\s=bq E.P e then k (.iJ id l.toNat (h.toNat-l.toNat)) [(J,id)]else Z
    |_,_=>Z
   |some (.xJ s _ es)=>match na 0 lo,na es.length hi with
    |some l,U h=>if 0<=l/\l<=h/\h<=(es.length:Int)/\s=bq E.P e then k (.iJ id l.toNat (h.toNat-l.toNat)) [(J,id)]else Z
    |_,_=>Z
   |_=>Z
  |_,_=>Z
def placesOf(fs:List Field)(j:Nat):Option (Nat×Nat):=(fs[j]?).map λf=>(f.offset,bq E.P f.type)
def SV(place:Nat->Option (Nat×Nat))(cs:List V):List (Nat×V)->Option (List V)
 |[]=>U cs
 |(i,v)::rest=>match place i with
  |some (off,size)=>match toCells size v with
   |some new=>if off+size<=cs.length then SV place (cp cs off new) rest else Z
   |none=>Z
  |none=>Z
def dO(t:TypeId):Option (List V):=match zeroV E.P t with|some v=>toCells (bq E.P t) v|none=>Z
def Mg(t:TypeId)(parts:List (Nat×V))(k:V->Option R):Option R:=
 match dO E t,E.P.underlying t with
 |some z,U (.struct fs)=>if fs.toList.all (λf=>(E.P.info? f.type).isSome)then match SV (placesOf E fs.toList) z parts with
  |some cs=>k (.agg cs)
  |none=>Z
  else Z
 |some z,U (.array _ e)=>if 0<bq E.P e then match SV (λi=>U (i*bq E.P e,bq E.P e)) z parts with
  |some cs=>k (.agg cs)
  |none=>Z
  else Z
 |_,_=>Z
def gS(m:Mem)(n:Nat)(agg:Bool):Nat->List (Nat×V)->Option (List PV×Mem)
 |_,[]=>U ([],m)
 |i,(j,v)::r=>if i=j then match oq m n agg v with
  |some (p,m)=>match gS m n agg (i+1) r with
   |some (ps,m)=>U (p::ps,m)
   |none=>Z
  |none=>Z
  else Z
def Pn:Nat->List (Nat×V)->Option (List V)
 |_,[]=>U []
 |i,(j,v)::r=>if i=j then match toCells 1 v with
  |some cs=>match Pn (i+1) r with
   |some us=>U (cs++us)
   |none=>Z
  |none=>Z
  else Z
def acE(t:TypeId):Bool:=match E.P.underlying t with|some (.func _ _ _)=>Y|_=>J
def Mh(t:TypeId):Option PV:=match zeroV E.P t with
 |some v=>match pg dW 2 v with
  |some p=>if aS E.P t=p.isAgg/\p.cells.length=bq E.P t/\p.plain=Y then U p else Z
  |none=>Z
 |none=>Z
def keyOf(kt:TypeId)(v:V):Option PV:=
 match BM E.P kt with
 |some ks=>
  if aS E.P kt then(match zO v with
   |some cs=>match xK (pg dW 1) cs with
    |some ps=>if rS ks ps then U (.agg ps)else Z
    |none=>Z
   |none=>Z)
  else match v with
   |.pv p=>if rS ks [p]then U p else Z
   |_=>Z
 |none=>Z
def Xd(site:Nat)(t:TypeId)(x ix:V)(m:Mem)(k:V->Mem->bS->Option R):Option R:=
 match E.P.underlying t with
 |some (.map kt et)=>match E.P.underlying et with
  |some (.slice e)=>match x,zeroV E.P et with
   |.om id,U .il=>match m id,m site with
    |some (.gY Gh e' es),Z=>if Gh=kt/\e'=e/\0<bq E.P e then(keyOf E kt ix).bind λkey=>(W9 (bq E.P e) key es).bind λrs=>k (.os site) (aO (aO m id (.gY kt e (Dr key es))) site (.arr (bq E.P e) e rs)) [(Y,id),(Y,site)]else Z
    |_,_=>Z
   |_,_=>Z
  |_=>Z
 |_=>Z
def Eo(t:TypeId)(x ix:V)(ok:Bool)(m:Mem)(k:V->bS->Option R):Option R:=
 match E.P.underlying t with
 |some (.map kt et)=>match Mh E et with
  |some z=>match x with
   |.om id=>match m id with
    |some (.map Gh es)=>if Gh=kt then(keyOf E kt ix).bind λkey=>j9 E et (eY key z es) λv=>k (if ok then .b8 [.pv v,.pv (.bool (pL key es))]else .pv v) [(J,id)]else Z
    |_=>Z
   |.pv p=>dX kt p ((keyOf E kt ix).bind λ_=>k (if ok then .b8 [.pv z,.pv (.bool J)]else .pv z) []) λks vs=>(keyOf E kt ix).bind λkey=>j9 E et (eY key z (ks.zip vs)) λv=>k (if ok then .b8 [.pv v,.pv (.bool (pL key (ks.zip vs)))]else .pv v) []
   |_=>Z
  |none=>Z
 |_=>Z
def KG(draw:Bool)(m:Mem)(v:V):Option (PV×Mem):=if draw then(match Em dW v with|some (p,_)=>U (p,m)|none=>Z)else Em m v
def vk(draw:Bool)(t:TypeId)(x key val:V)(m:Mem)(k:Mem->bS->Option R):Option R:=
 match E.P.underlying t with
 |some (.map kt _)=>match x with
  |.om id=>match KG draw m val with
   |some (v,m)=>match m id with
    |some (.map Gh es)=>if Gh=kt then(keyOf E kt key).bind λkey=>k (aO m id (.map kt (eu key v es))) [(Y,id)]else Z
    |_=>Z
   |none=>Z
  |_=>Z
 |_=>Z
def au:Nat:=140737488355328
def pM(m:Mem):Nat->List V->Option (List PV×Option (Nat×Nat))
 |_,[]=>U ([],Z)
 |j,.os id::r=>match m id with
  |some (.arr s _ es)=>match pM m (j+1) r with
   |some (ps,Z)=>U (.lJ s es::ps,U (j,id))
   |_=>Z
  |_=>Z
 |j,v::r=>match pg dW 1 v with
  |some p=>match pM m (j+1) r with
   |some (ps,t)=>U (p::ps,t)
   |none=>Z
  |none=>Z
def elemOf(agg:Bool)(ps:List PV):Option PV:=if agg then U (.agg ps)else match ps with|[p]=>U p|_=>Z
inductive Sp where
 |st (id i off s:Nat) (et:TypeId) (es ps:List PV) (id2:Nat)
 |app (id s:Nat) (et:TypeId) (es new:List PV) (src:Option Nat) (rd:bS)
 |lit (s:Nat) (et:TypeId) (p:PV) (id2:Nat)
 |upd (id:Nat) (kt e:TypeId) (es:List (PV×PV)) (key:PV) (s:Nat) (rs:List PV) (id2:Nat)
def Jy(site:Nat)(o:Oper)(f:Fr)(m:Mem):Option Sp:=
 match o.op with
 |.store t a x=>match cd E f a with
  |.oe id i off=>match m id with
   |some (.nest s et es)=>match toCells (bq E.P t) (cd E f x)with
    |some cs=>match pM m 0 cs with
     |some (ps,U (_,id2))=>if off+bq E.P t<=s&&0<bq E.P t&& !(Nat.beq id2 id)then U (.st id i off s et es ps id2)else Z
     |_=>Z
    |none=>Z
   |_=>Z
  |_=>Z
 |.buildSlice t len parts=>match E.P.underlying t,parts.toList.map λ(i,x)=>(i,cd E f x)with
  |some (.slice e),[(0,v)]=>match toCells (bq E.P e) v with
   |some cs=>match pM m 0 cs,m site with
    |some (ps,U (_,id2)),Z=>match elemOf (aS E.P e) ps with
     |some p=>if Nat.beq len 1&&0<bq E.P e&&bq E.P e<=16777216&&(dO E e).isSome then U (.lit (bq E.P e) e p id2)else Z
     |none=>Z
    |_,_=>Z
   |none=>Z
  |_,_=>Z
 |.call c=>match c.callee,c.args.toList.map (cd E f),c.argTypes.toList with
  |.builtin .append,[.os id,x],[t,t']=>match E.P.underlying t,m id with
   |some (.slice e),U (.nest s et es)=>if et=e&&s=bq E.P e&&O (t'=t)&&(dO E e).isSome&&0<bq E.P e&&0<Sf E.P e then(match x with
    |.os BE=>match m BE with
     |some (.nest s' R8 new)=>if Nat.beq s' s&&O (R8=et)&& !(Nat.beq BE id)then U (.app id s et es new (U BE) [])else Z
     |_=>match im m s x with
      |some (new,rd)=>if x.has id then Z else U (.app id s et es new Z rd)
      |none=>Z
    |_=>match im m s x with
     |some (new,rd)=>if x.has id then Z else U (.app id s et es new Z rd)
     |none=>Z)else Z
   |_,_=>Z
  |_,_,_=>Z
 |.mapUpdate t x key v=>match E.P.underlying t,cd E f x,cd E f v with
  |some (.map kt _),.om id,.os id2=>match m id,m id2,keyOf E kt (cd E f key)with
   |some (.gY Gh e es),U (.arr s e' rs),U key=>if O (Gh=kt)&&O (e'=e)&&Nat.beq s (bq E.P e)then U (.upd id kt e es key s rs id2)else Z
   |_,_,_=>Z
  |_,_,_=>Z
 |_=>Z
def Sp.info(site:Nat):Sp->Kl×bS
 |.st id _ _ _ _ _ _ id2=>([(Y,id2),(J,id)],[(Y,id),(Y,id2)])
 |.app id _ _ _ _ (U id2) _=>([(Y,id2),(Y,id)],[(Y,id),(Y,id2)])
 |.app id _ _ _ _ Z rd=>([(Y,id)],(Y,id)::rd)
 |.lit _ _ _ id2=>([(Y,id2)],[(Y,site),(Y,id2)])
 |.upd id _ _ _ _ _ _ id2=>([(Y,id2),(J,id)],[(Y,id),(Y,id2)])
def xsp(site:Nat)(sp:Sp)(f:Fr)(m:Mem)(k:V->Fr->Mem->bS->Option R):Option R:=
 match sp with
 |.st id i off s et es ps id2=>(es[i]?).bind λe=>k .top (kf [(Y,id2),(J,id)] f) (BN [(id,.nest s et (es.set i (if s=1 then ps.headD .bad else .agg (cp (aX s e) off ps))))] (km [(Y,id2),(J,id)] m)) [(Y,id),(Y,id2)]
 |.app id s et es new src rd=>if(es++new).length*Sf E.P et<=au then k (.os id) (kf (Sp.app id s et es new src rd|>.info site).1 f) (BN [(id,.nest s et (es++new))] (km (Sp.app id s et es new src rd|>.info site).1 m)) (Sp.app id s et es new src rd|>.info site).2 else Z
 |.lit s et p id2=>k (.os site) (kf [(Y,id2)] f) (BN [(site,.nest s et [p])] (km [(Y,id2)] m)) [(Y,site),(Y,id2)]
 |.upd id kt e es key s rs id2=>k .top (kf [(Y,id2),(J,id)] f) (BN [(id,.gY kt e (eu key (.lJ s rs) es))] (km [(Y,id2),(J,id)] m)) [(Y,id),(Y,id2)]
def KH(draw:Bool)(site:Nat)(t t':TypeId)(s x:V)(f:Fr)(m:Mem)(k:V->Fr->Mem->Option R):Option R:=
 if draw|| !(O (t'=t))then Z else
 match E.P.underlying t with
 |some (.slice e)=>if(dO E e).isNone then Z else match im m (bq E.P e) x with
  |some (new,_)=>match s with
   |.il=>if new.length*Sf E.P e<=au/\0<Sf E.P e/\0<bq E.P e then fresh draw site (.arr (bq E.P e) e new) f m (λf m _=>k (.os site) f m)else Z
   |.os id=>match m id with
    |some (.arr sz et es)=>if et=e/\sz=bq E.P e/\x.has id=J then(if(es++new).length*Sf E.P e<=au/\0<Sf E.P e then fresh draw id (.arr sz e (es++new)) (ga id f) (bO (b9 id m) id) (λf m _=>k (.os id) f m)else Z)else Z
    |_=>Z
   |_=>Z
  |none=>Z
 |_=>Z
def Xe(t:TypeId)(d x:V)(m:Mem)(k:V->Mem->bS->Option R):Option R:=
 match E.P.underlying t with
 |some (.slice e)=>match d with
  |.os id=>match m id with
   |some (.arr sz et es)=>if sz=bq E.P e/\x.has id=J then UN m sz x λnew ft=>k (.pv (.int .i64 (min new.length es.length:Nat))) (aO m id (.arr sz et (new.take es.length++es.drop new.length))) ((Y,id)::ft)else Z
   |_=>Z
  |_=>Z
 |_=>Z
def Po(t:TypeId)(x:V)(m:Mem)(k:V->Mem->bS->Option R):Option R:=
 match E.P.underlying t with
 |some (.slice e)=>match x,Mh E e with
  |.iJ id lo len,U z=>match m id with
   |some (.arr sz et es)=>if sz=bq E.P e/\et=e/\lo+len<=es.length/\0<bq E.P e then k .top (aO m id (.arr sz et (es.take lo++(List.replicate len z++es.drop (lo+len))))) [(Y,id)]else Z
   |_=>Z
  |_,_=>Z
 |_=>Z
def zP(draw:Bool)(site:Nat)(t:TypeId)(len cap:V)(f:Fr)(m:Mem)(k:V->Fr->Mem->bS->Option R):Option R:=
 match E.P.underlying t,len,cap with
 |some (.slice e),.pv (.int _ n),.pv (.int _ c)=>match Mh E e with
  |some z=>if 0<=n/\n<=c/\c.toNat*Sf E.P e<=au/\0<Sf E.P e/\0<bq E.P e then fresh draw site (.arr (bq E.P e) e (List.replicate n.toNat z)) f m (λf m ft=>k (.os site) f m ft)else Z
  |none=>Z
 |_,_,_=>Z
def Xf(a b:V)(k:PV->Option R):Option R:=match a,b with
 |.pv (.int q x),.pv (.int q' y)=>if q=q' then k (.int q (if y<x then y else x))else Z
 |_,_=>Z
def Ny(a b:V)(k:PV->Option R):Option R:=match a,b with
 |.pv (.int q x),.pv (.int q' y)=>if q=q' then k (.int q (if y>x then y else x))else Z
 |_,_=>Z
def Xg(a b c d:V)(k:PV->Option R):Option R:=Ny a b λp=>Ny (.pv p) c λp=>Ny (.pv p) d k
def Ep(t:TypeId):Bool:=match E.P.underlying t with|some (.int _)|some .bool|some .string=>Y|_=>J
def lR(m:Mem):List V->Option (List PV×Mem)
 |[]=>U ([],m)
 |v::r=>match Em m v with
  |some (p,m)=>match lR m r with
   |some (ps,m)=>U (p::ps,m)
   |none=>Z
  |none=>Z
def SX:PV->PV
 |.int q n=>.int q n
 |.bool b=>.bool b
 |.str s=>.str s
 |_=>.bad
def FN(draw:Bool)(site:Nat)(fid:FuncId)(args:List V)(f:Fr)(m:Mem)(k:V->Fr->Mem->bS->Option R):Option R:=
 match E.ctx fid with
 |some M=>match E.P.funcs[fid]? with
  |some fn=>
   if fn.resultTypes.toList.all (Ep E)then(match xK (pg m gr) args with
     |some ps=>(M ps).bind λr=>Nx E fn.resultTypes.toList r λv=>k v f m ((lQ (dN m gr) args).map λi=>(J,i))
     |none=>Z)
   else(match lR (if draw then dW else m) args with
     |some (ps,m')=>(M ps).bind λr=>Mb E fid fn.resultTypes.toList r λv=>k v f (if draw then m else m') (if draw then[]else[(Y,0)])
     |none=>Z)
  |none=>Z
 |none=>match E.own fid with
  |some M=>match E.P.funcs[fid]? with
   |some fn=>match fn.resultTypes.toList with
    |[t]=>match E.P.underlying t with
     |some (.slice e)=>if Ep E e=Y/\bq E.P e=1 then(match xK (pg m gr) args with
      |some ps=>(M ps).bind λr=>(aJ (bq E.P e) r).bind λes=>fresh draw site (.arr (bq E.P e) e (es.map SX)) f m λf m1 ft=>k (.os site) f m1 (ft++(lQ (dN m gr) args).map λi=>(J,i))
      |none=>Z)
      else match lR (if draw then dW else m) args with
      |some (ps,m')=>(M ps).bind λr=>(aJ (bq E.P e) r).bind λes=>fresh draw site (.arr (bq E.P e) e es) f (if draw then m else m') λf m ft=>k (.os site) f m ft
      |none=>Z
     |_=>Z
    |_=>Z
   |none=>Z
  |none=>if draw then Z else E.inl R fid (site*4096+fid) args f m λv f m=>k v f m [(Y,0)]
def agO(f:TypeId->Option (List TypeId)):List Field->Option (List TypeId)
 |[]=>U []
 |x::r=>(f x.type).bind λa=>(agO f r).bind λb=>U (a++b)
def agP(l:List TypeId):Nat->List TypeId
 |0=>[]
 |n+1=>l++agP l n
def Pp(P:Program):Nat->TypeId->Option (List TypeId)
 |0,_=>Z
 |d+1,t=>match P.underlying t with
  |some (.struct fs)=>agO (Pp P d) fs.toList
  |some (.array n e)=>(Pp P d e).bind λl=>U (agP l n)
  |some _=>U [t]
  |none=>Z
def FO(n:Nat)(args:List V)(f:Fr):Fr:=λt=>bif Nat.blt t n then args.getD t .top else f (t-n)
def Gp(n:Nat)(f:Fr):Fr:=λt=>f (t+n)
def agQ:V->Bool
 |.il=>Y
 |_=>J
def Dt(site j:Nat):Nat:=site+(j+1)*1606938044258990275541962092341162602522202993782792835301376
def Ig(E:Env){R:Type}(site:Nat):List TypeId->Nat->Fr->Mem->(Fr->Mem->Option R)->Option R
 |[],_,F,m,k=>k F m
 |t::ts,j,F,m,k=>match F j with
  |.il=>match E.P.underlying t with
   |some (.slice e)=>if 0<bq E.P e then fresh J (Dt site j) (.arr (bq E.P e) e []) F m λF m _=>Ig E site ts (j+1) (jC F j (.os (Dt site j))) m k else Z
   |_=>Z
  |_=>Ig E site ts (j+1) F m k
def arx(E:Env)(t:TypeId):Bool:=match E.P.underlying t with|some (.slice _)=>Y|_=>J
def UO(f:Fr):Option Operand->Bool
 |none=>Y
 |some x=>match cd E f x with|.pv (.int _ _)=>Y|_=>J
noncomputable def BO(n:Nat)(g:Nat->Option R):Option R:= @dite _ (∃r,∀i,i<n->g i=U r) (Classical.propDecidable _) (λh=>U (Classical.choose h)) λ_=>Z
def aad(site:Nat)(t:TypeId)(x:V)(f:Fr)(m:Mem)(k:V->Fr->Mem->Option R):Option R:=
 match E.P.underlying t with
 |some (.map kt _)=>match x with
  |.om id=>match m id with
   |some (.map Gh es)=>if Gh=kt then fresh J site (.iter t es Z) (ga id f) (bO (b9 id m) id) λf m _=>k (.it site) f m else Z
   |_=>Z
  |_=>Z
 |_=>Z
noncomputable def agR(x:V)(f:Fr)(m:Mem)(k:V->Fr->Mem->Option R):Option R:=
 match x with
 |.it id=>match m id with
  |some (.iter t es _)=>match E.P.underlying t with
   |some (.map kt et)=>if es.isEmpty=Y then k (.b8 [.pv (.bool J)]) f m else BO es.length λi=>(es[i]?).bind λe=>j9 E kt e.1 λa=>j9 E et e.2 λb=>k (.b8 [.pv (.bool Y),.pv a,.pv b]) f (aO m id (.iter t (es.eraseIdx i) (U (a,b))))
   |_=>Z
  |_=>Z
 |_=>Z
def aae(x:V)(m:Mem)(k:V->Mem->Option R):Option R:=
 match x with
 |.it id=>match m id with
  |some (.iter t es (U (a,b)))=>k (.b8 [.pv a,.pv b]) (aO m id (.iter t es Z))
  |_=>Z
 |_=>Z
def aaf:Op->Bool
 |.range .. =>Y
 |.next .. =>Y
 |.entry .. =>Y
 |_=>J
def FP(g:FuncId):FuncId:=bif Nat.blt g Pg then g else g-Pg
def Jz(g:FuncId)(caps args:List V):List V:=bif Nat.blt g Pg then args++caps else caps++args
noncomputable def cT(draw:Bool)(site:Nat)(o:Oper)(f:Fr)(m:Mem)(k:V->Fr->Mem->bS->Option R):Option R:=
 match o.op with
 |.move x=>k (cd E f x) f m []
 |.assign x=>match cd E f x with
  |.il=>match E.P.underlying o.type with
   |some (.slice e)=>if 0<bq E.P e then fresh draw site (.arr (bq E.P e) e []) f m λf m ft=>k (.os site) f m ft else Z
   |_=>k .il f m []
  |v=>k v f m []
 |.pick c a b=>match cd E f c with
  |.pv (.bool t)=>if t then k (cd E f a) f m []else k (cd E f b) f m []
  |_=>Z
 |.alloc t=>match dO E t with
  |some cs=>bif E.Ma site then(match E.P.underlying t,xK vO cs with
   |some (.array n e),U ps=>if aS E.P e=Y/\n*bq E.P e=bq E.P t/\0<bq E.P e/\n<=16777216 then fresh draw site (.arr (bq E.P e) e (vj (bq E.P e) n (.agg ps))) f m λf m ft=>k (.oe site 0 0) f m ft else Z
   |_,_=>Z)
   else if !draw&&arx E t then Ig E site [t] 0 (FO cs.length cs f) m λF m=>fresh J site (.box ((I cs.length).map F)) (Gp cs.length F) m λf m ft=>k (.op site 0) f m ft
   else fresh draw site (.box cs) f m λf m ft=>k (.op site 0) f m ft
  |none=>Z
 |.box t x=>match toCells (bq E.P t) (cd E f x)with
  |some cs=>if !draw&&cs.any agQ then(match Pp E.P 8 t with
   |some ts=>if ts.length=cs.length then Ig E site ts 0 (FO cs.length cs f) m λF m=>fresh J site (.box ((I cs.length).map F)) (Gp cs.length F) m λf m ft=>k (.op site 0) f m ft else Z
   |none=>Z)else fresh draw site (.box cs) f m λf m ft=>k (.op site 0) f m ft
  |none=>Z
 |.build t parts=>Mg E t (parts.toList.map λ(i,x)=>(i,cd E f x)) λv=>k v f m []
 |.buildSlice t len parts=>match E.P.underlying t with
  |some (.slice e)=>if acE E e then(match Pn 0 (parts.toList.map λ(i,x)=>(i,cd E f x))with
   |some cs=>if parts.size=len/\bq E.P e=1/\len<=16777216/\(dO E e).isSome=Y then fresh draw site (.box cs) f m λf m ft=>k (.os site) f m ft else Z
   |none=>Z)
   else if E.Ma (site+1000000000000000000000000000000)then(match gS dW (bq E.P e) (aS E.P e) 0 (parts.toList.map λ(i,x)=>(i,cd E f x))with
   |some (es,_)=>if es.length=len/\0<bq E.P e/\len*bq E.P e<=16777216/\(dO E e).isSome=Y then k (.pv (.rs (bq E.P e) es)) f m []else Z
   |none=>Z)
   else match gS (if draw then dW else m) (bq E.P e) (aS E.P e) 0 (parts.toList.map λ(i,x)=>(i,cd E f x))with
   |some (es,m1)=>if es.length=len/\0<bq E.P e/\len*bq E.P e<=16777216/\(dO E e).isSome=Y then fresh draw site (.arr (bq E.P e) e es) f (if draw then m else m1) λf m ft=>k (.os site) f m ft else Z
   |none=>Z
  |_=>Z
 |.load t a=>yN E (E.Ma site) t (cd E f a) m λv ft=>k v f m ft
 |.store t a x=>Cp E draw t (cd E f a) (cd E f x) m λm ft=>k .top f m ft
 |.nilCheck x=>match cd E f x with
  |.pv (.rp cs)=>k (.pv (.rp cs)) f m []
  |.op id off=>k (.op id off) f m []
  |.oe id i off=>k (.oe id i off) f m []
  |.KB id i off s j off2=>k (.KB id i off s j off2) f m []
  |.fn g cs=>k (.fn g cs) f m []
  |.pv (.fn g cs)=>k (.pv (.fn g cs)) f m []
  |_=>Z
 |.binOp op t x y _=>match cd E f x,cd E f y with
  |.pv (.rs _ es),.il=>if draw then Z else aab E op t es λb=>k (.pv (.bool b)) f m [(Y,0)]
  |a,b=>Xb E op t y a b λp=>k (.pv p) f m []
 |.unOp op _ x=>xun op (cd E f x) λp=>k (.pv p) f m []
 |.convert s d x=>Me E s d (cd E f x) m λp ft=>k (.pv p) f m ft
 |.makeFunc (.func g) first caps=>bif Nat.blt g Pg then(if first.isEmpty then k (.fn g (caps.toList.map (cd E f))) f m []else if caps.isEmpty then k (.fn (g+Pg) (first.toList.map (cd E f))) f m []else Z)else Z
 |.makeMap t hint=>if UO E f hint=Y then match E.P.underlying t with
  |some (.map kt et)=>if(BM E.P kt).isSome then(if E.Ma site then(match E.P.underlying et with
   |some (.slice e)=>fresh draw site (.gY kt e []) f m λf m ft=>k (.om site) f m ft
   |_=>Z)
   else fresh draw site (.map kt []) f m λf m ft=>k (.om site) f m ft)else Z
  |_=>Z
  else Z
 |.makeSlice t l c=>zP E draw site t (cd E f l) (cd E f c) f m k
 |.slice t x lo hi mx=>En E t (cd E f x) (lo.map (cd E f)) (hi.map (cd E f)) (mx.map (cd E f)) m λv ft=>k v f m ft
 |.fieldAddr s x j=>nM E s (cd E f x) j λv=>k v f m []
 |.field s x j=>Pm E s (cd E f x) j λv=>k v f m []
 |.indexAddr t x ix=>ef E t (cd E f x) (cd E f ix) m λv ft=>k v f m ft
 |.index t x ix=>Mf E t (cd E f x) (cd E f ix) λv=>k v f m []
 |.lookup t x ix ok=>if E.Ma site&& !ok then Xd E site t (cd E f x) (cd E f ix) m λv m ft=>k v f m ft else Eo E t (cd E f x) (cd E f ix) ok m λv ft=>k v f m ft
 |.mapUpdate t x key v=>vk E draw t (cd E f x) (cd E f key) (cd E f v) m λm ft=>k .top f m ft
 |.insert t x key v=>vk E draw t (cd E f x) (cd E f key) (cd E f v) m λm ft=>k .top f m ft
 |.range t x=>if draw then Z else aad E site t (cd E f x) f m λv f m=>k v f m [(Y,0)]
 |.next x s=>if draw||s then Z else agR E (cd E f x) f m λv f m=>k v f m [(Y,0)]
 |.entry x=>if draw then Z else aae (cd E f x) m λv m=>k v f m [(Y,0)]
 |.extract t i=>match cd E f t with
  |.b8 vs=>match vs[i]? with
   |some v=>k v f m []
   |none=>Z
  |_=>Z
 |.call c=>match c.callee,c.args.toList.map (cd E f)with
  |.builtin .len,[x]=>match c.argTypes.toList with
   |[t]=>Xc E t x m λv ft=>k v f m ft
   |_=>Z
  |.builtin .append,[s,x]=>match c.argTypes.toList with
   |[t,t']=>KH E draw site t t' s x f m λv f m=>k v f m [(Y,0)]
   |_=>Z
  |.builtin .copy,[d,x]=>match c.argTypes.toList with
   |t::_=>Xe E t d x m λv m ft=>k v f m ft
   |_=>Z
  |.builtin .clear,[x]=>match c.argTypes.toList with
   |t::_=>Po E t x m λv m ft=>k v f m ft
   |_=>Z
  |.builtin .min,[a,b]=>Xf a b λp=>k (.pv p) f m []
  |.builtin .max,[a,b]=>Ny a b λp=>k (.pv p) f m []
  |.builtin .max,[a,b,c,d]=>Xg a b c d λp=>k (.pv p) f m []
  |.value (.func g),args=>FN E draw site g args f m k
  |.value (.tmp t),args=>match cd E f (.tmp t)with
   |.fn g caps=>FN E draw site (FP g) (Jz g caps args) f m k
   |.pv (.fn g caps)=>FN E draw site (FP g) (Jz g (caps.map .pv) args) f m k
   |.yl id=>if draw then Z else E.yl R E.fn.ntmps site id args f m λv f m=>k v f m [(Y,0)]
   |_=>Z
  |_,_=>Z
 |_=>Z
noncomputable def WU(draw:Bool)(site:Nat)(o:Oper)(f:Fr)(m:Mem)(k:V->Fr->Mem->bS->Option R):Option R:=
 match(bif draw then Z else bif E.Ma site then Jy E site o f m else Z)with
 |some sp=>xsp E site sp f m k
 |none=>cT E draw site o f m k
def Pq{R:Type}{E:Env}(site:Nat)(o:Oper)(f:Fr)(m:Mem)(k:V->Fr->Mem->bS->Option R):WU E Y site o f m k=cT E Y site o f m k:=rfl
def gZ(o:Oper):Bool:=
 match o.op with
 |.move _|.assign _|.pick .. |.load .. |.nilCheck _|.binOp .. |.unOp .. |.convert .. |.slice .. |.fieldAddr .. |.field .. |.indexAddr .. |.index .. |.lookup .. |.extract .. |.build .. =>Y
 |.call {callee:=.builtin .len,.. }|.call {callee:=.builtin .min,.. }|.call {callee:=.builtin .max,.. }=>Y
 |.call {callee:=.value _,.. }=>Y
 |_=>J
def KI:bS->Bool
 |[]=>Y
 |(w,_)::r=> !w&&KI r
abbrev Log:=List (Nat×Bool×Nat)
def JA(o:Oper)(j:Nat):Bool:=o.after.toList.any λe=>Region.binds .any e&&Nat.beq e.on j
mutual
def V.ids:V->List Nat
 |.agg cs=>Xh cs
 |.b8 cs=>Xh cs
 |.fn _ cs=>Xh cs
 |.os j=>[j]
 |.iJ j _ _=>[j]
 |.oe j _ _=>[j]
 |.om j=>[j]
 |.Gm j _ _=>[j]
 |.KB j _ _ _ _ _=>[j]
 |.op j _=>[j]
 |.yl j=>[j]
 |.it j=>[j]
 |_=>[]
def Xh:List V->List Nat
 |[]=>[]
 |v::r=>v.ids++Xh r
end
def Pr:Option cS->List Nat
 |some (.box cs)=>Xh cs
 |_=>[]
def Ih(n:Nat):Nat:=n+2037035976334486086268445688409378161051468393665936250636140449354381299763336706183397376
def UP(m m':Mem):bS->List Nat
 |[]=>[]
 |x::r=>Pr (m x.2)++Pr (m' x.2)++UP m m' r
def OU(ops:Array Oper)(o:Oper)(f:Fr)(m m':Mem)(v:V)(ft:bS):List Nat:=Xh ((o.looksAt ops).map f)++v.ids++UP m m' ft
def dm(E:Env)(d:Option Nat):Nat:=match d with|some d=>E.fid*4096+d|none=>E.fid*4096+4095
def isApp(E:Env)(o:Oper):Bool:=E.Ma (dm E o.dst)||match o.op with|.call {callee:=.builtin .append,.. }=>Y|_=>J
def Er(E:Env)(f:Fr)(m:Mem)(o:Oper):Option (Nat×bS):=
 match o.op with
 |.call c=>match c.callee,c.args.toList.map (cd E f),c.argTypes.toList with
  |.builtin .append,[.os id,x],[t,_]=>match E.P.underlying t with
   |some (.slice e)=>match im m (bq E.P e) x with
    |some (_,rd)=>if x.has id then Z else U (id,rd)
    |none=>Z
   |_=>Z
  |_,_,_=>Z
 |_=>Z
def UQ(E:Env)(f:Fr)(m:Mem)(o:Oper):Option (Kl×bS):=
 match(bif E.Ma (dm E o.dst)then Jy E (dm E o.dst) o f m else Z)with
 |some sp=>U (sp.info (dm E o.dst))
 |none=>match Er E f m o with
  |some (id,rd)=>U ([(Y,id)],(Y,id)::rd)
  |none=>Z
def reach(ops:Array Oper):Nat->Oper->Nat->Bool
 |0,o,j=>JA o j
 |n+1,o,j=>JA o j||o.after.toList.any λe=>Region.binds .any e&&match ops[e.on]? with|some p=>reach ops n p j|none=>J
def acF(ops:Array Oper)(o:Oper)(w:Bool)(id:Nat):Log->Bool
 |[]=>Y
 |(j,w',BE)::r=>(!(Nat.beq id BE)||(!w&& !w')||reach ops 4 o j)&&acF ops o w id r
def Mi(ops:Array Oper)(o:Oper)(lg:Log):bS->Bool
 |[]=>Y
 |(w,id)::r=>acF ops o w id lg&&Mi ops o lg r
def OV(ops:Array Oper)(o:Oper)(id:Nat):Log->Bool
 |[]=>Y
 |(j,_,n)::r=>(!(Nat.beq n (Ih id))||reach ops 4 o j)&&OV ops o id r
def Ii(ops:Array Oper):List (Nat×Oper)->Oper->Bool
 |[],_=>Y
 |(j,p)::r,o=>(p.apart ops o||reach ops 4 o j)&&Ii ops r o
def yX(ops:Array Oper):List (Nat×Oper)->List (Nat×Oper)->Bool
 |_,[]=>Y
 |done,(i,o)::r=>o.after.toList.all (λe=> !(Region.binds .any e)||Nat.blt e.on i)&&Ii ops done o&&yX ops ((i,o)::done) r
def guardOf(o:Oper)(A:List (Nat×Bool)):Option (Nat×Bool):=
 match o.guard with
 |none=>Z
 |some g=>if A.elem g then Z else U g
def Nz(A:List (Nat×Bool)):List (Nat×Oper)->List (Nat×Oper)×List (Nat×Oper)
 |[]=>([],[])
 |x::r=>match guardOf x.2 A with
  |some _=>let(a,b):=Nz A r;(x::a,b)
  |none=>([],x::r)
def cN(f:Fr):List (Nat×Oper)->Fr
 |[]=>f
 |x::r=>cN (kV f x.2.dst .top) r
def Gq(g:Nat×Bool):List Nat->List (Nat×Oper)->Bool
 |_,[]=>Y
 |done,x::r=>(match x.2.guard with
  |some h=>(Nat.beq h.1 g.1&&(h.2==g.2))||done.elem h.1
  |none=>J)&&Gq g (x.1::done) r
def blind(ops:Array Oper)(body:List (Nat×Oper))(o:Oper):Bool:=body.all λy=>match y.2.dst with
  |some d=> !((o.looksAt ops).elem d)
  |none=>Y
def agS:Bool->Bool->Bool
 |true,b=>b
 |false,b=> !b
def lS(f:Fr):List (Nat×Oper)->Fr
 |[]=>f
 |x::r=>lS (kV f x.2.dst (.b8 [])) r
def I6:V->Option Bool
 |.pv (.bool b)=>U b
 |_=>Z
end
def FQ(E:Env)(o:Oper):Bool:=match o.dst with|some d=>Nat.blt d E.fn.ntmps|none=>Y
def UR(E:Env)(g:FuncId):Bool:=match E.P.funcs[g]? with|some fn=>fn.resultTypes.toList.all (Ep E)|none=>J
def akA(E:Env)(f:Fr)(body:List (Nat×Oper))(o:Oper):Bool:=
 gZ o&&match o.op with
 |.call {callee:=.value (.func g),.. }=>(E.ctx g).isSome&&UR E g
 |.call {callee:=.value (.tmp t),.. }=>match(match body.find? (λx=>x.2.dst==U t)with
  |some (_,p)=>(match p.op with
   |.move y=>cd E f y
   |.assign y=>cd E f y
   |_=>.top)
  |none=>cd E f (.tmp t))with
  |.fn g _=>(E.ctx (FP g)).isSome&&UR E (FP g)
  |.pv (.fn g _)=>(E.ctx (FP g)).isSome&&UR E (FP g)
  |.yl _=>J
  |_=>Y
 |_=>Y
noncomputable def dt(E:Env)(ops:Array Oper)(mode:Nat):(fuel:Nat)->(R:Type)->List (Nat×Bool)->List (Nat×Oper)->Fr->Mem->Log->(Fr->Mem->Option R)->Option R
 |0,_,_,_,_,_,_,_=>Z
 |_+1,_,_,[],f,m,_,k=>k f m
 |fuel+1,R,A,(i,o)::rest,f,m,lg,k=>
  match guardOf o A with
  |none=>
   if FQ E o then
    match(bif Nat.beq mode 2 then UQ E f m o else Z)with
    |some (kl,ft)=>
     if Mi ops o lg ft&&kl.all (λx=>OV ops o x.2 lg)&&rest.all (λx=>reach ops 4 x.2 i)then WU E J (dm E o.dst) o f m λv f1 m1 _=>dt E ops mode fuel R A rest (kV f1 o.dst v) m1 (ft.map (λx=>(i,x))++lg) k
     else Z
    |none=>WU E (Nat.beq mode 1||Nat.beq mode 2) (dm E o.dst) o f m λv f1 m1 ft=>
      if Nat.beq mode 2 then(if Mi ops o lg ft then dt E ops mode fuel R A rest (kV f1 o.dst v) m1 ((bif ops.toList.any (isApp E)then(OU ops o f m m1 v ft).map (λn=>(i,J,Ih n))else[])++(ft.map (λx=>(i,x))++lg)) k else Z)
      else if Nat.beq mode 0 then dt E ops mode fuel R A rest (kV f1 o.dst v) m1 lg k
      else if KI ft then dt E ops mode fuel R A rest (kV f1 o.dst v) m1 lg k
      else Z
   else Z
  |some (j,OJ)=>
   match((ops[j]?).bind (·.dst))with
   |some tj=>match cd E f (.tmp tj)with
    |.pv (.bool b)=>
     match Nz A ((i,o)::rest)with
     |(body,Xi)=>
     if Nat.beq mode 0&& !(body.all λx=>akA E f body x.2)then
      (if(body.all λx=>FQ E x.2)&&Gq (j,OJ) [] body&&((i,o)::rest).all (λx=> !(x.2.dst==U tj))then
       bif agS OJ b then dt E ops mode fuel R ((j,OJ)::A) ((i,o)::rest) (jC f tj (.pv (.bool OJ))) m lg k
       else dt E ops mode fuel R A Xi (lS (jC f tj (.pv (.bool !OJ))) body) m lg k
      else Z)
     else match Xi with
     |(_,p)::sG=>
      match p.op with
      |.pick (.tmp c) x y=>
       if Nat.beq c tj&&(guardOf p A).isNone&&body.all (λx=>gZ x.2&&FQ E x.2&& !(x.2.dst==U tj))&&Gq (j,OJ) [] body&&sG.all (λx=>blind ops body x.2)&&FQ E p&& !(Nat.beq mode 2)then
        (match OJ with
         |true=>bif b then dt E ops (bif Nat.beq mode 0 then 3 else mode) fuel Bool ((j,OJ)::A) body f m lg (λf _=>I6 (cd E f x))else I6 (cd E (cN f body) y)
         |false=>bif b then I6 (cd E (cN f body) x)else dt E ops (bif Nat.beq mode 0 then 3 else mode) fuel Bool ((j,OJ)::A) body f m lg (λf _=>I6 (cd E f y))).bind λr=>
        dt E ops mode fuel R A sG (kV (cN f body) p.dst (.pv (.bool r))) m lg k
       else Z
      |_=>Z
     |[]=>Z
    |_=>Z
   |none=>Z
inductive Ex where
 |normal
 |exit (id:Nat)
 |ret
def Xj{R:Type}(body:Fr->Mem->(Fr->Mem->Option R)->Option R):Nat->Fr->Mem->Option R
 |0,_,_=>Z
 |n+1,f,m=>body f m (Xj body n)
def Ij:Code->Nat
 |.region id _ _=>id
 |.seq a _=>Ij a
 |.cond _ a _=>Ij a
 |.block _ b=>Ij b
 |.loop b=>Ij b
 |.scope b=>Ij b
 |_=>0
def tyS:List Sh->Type->Type
 |[],T=>T
 |.raw::r,T=>PV×tyS r T
 |.int _::r,T=>Int×tyS r T
 |.bool::r,T=>Bool×tyS r T
 |.str::r,T=>Bytes×tyS r T
 |.rs _::r,T=>List PV×tyS r T
 |.rp _::r,T=>PV×tyS r T
 |.fs _::r,T=>List PV×tyS r T
 |.row _ _::r,T=>Int×tyS r T
 |.own _::r,T=>tyS r T
def WV:List (Nat×IV)->Type
 |[]=>Unit
 |(_,.box cs)::r=>tyS cs (WV r)
 |(_,.arr _ _)::r=>List PV×WV r
 |(_,.xJ _ _)::r=>List PV×WV r
 |(_,.map _)::r=>List (PV×PV)×WV r
 |(_,.nest _ _)::r=>List PV×WV r
 |(_,.gY _ _)::r=>List (PV×PV)×WV r
 |(_,.loop)::r=>WV r
 |(_,.busy)::r=>WV r
 |(_,.iter _)::r=>List (PV×PV)×WV r
def SU.nG(T:SU):List Sh:=T.cE.map Prod.snd
abbrev SU.ty(T:SU):Type:=tyS T.nG (WV T.Jw)
mutual
def V.same:V->V->Bool
 |.op i o,.op j p=>Nat.beq i j&&Nat.beq o p
 |.oe i a o,.oe j b p=>Nat.beq i j&&Nat.beq a b&&Nat.beq o p
 |.os i,.os j=>Nat.beq i j
 |.om i,.om j=>Nat.beq i j
 |.yl i,.yl j=>Nat.beq i j
 |.it i,.it j=>Nat.beq i j
 |.il,.il=>Y
 |.pv .nL,.pv .nL=>Y
 |.pv .sr,.pv .sr=>Y
 |.pv (.int q x),.pv (.int q' y)=>O (q=q')&&O (x=y)
 |.fn f cs,.fn g ds=>Nat.beq f g&&NA cs ds
 |_,_=>J
def NA:List V->List V->Bool
 |[],[]=>Y
 |a::as,b::bs=>a.same b&&NA as bs
 |_,_=>J
end
section
variable {R:Type}
def nH{T:Type}:(nG:List Sh)->List V->T->(tyS nG T->Option R)->Option R
 |[],[],t,k=>k t
 |.int q::nG,.pv (.int q' n)::vs,t,k=>if q'=q then nH nG vs t (λr=>k (n,r))else Z
 |.raw::nG,.pv p::vs,t,k=>nH nG vs t (λr=>k (p,r))
 |.bool::nG,.pv (.bool b)::vs,t,k=>nH nG vs t (λr=>k (b,r))
 |.str::nG,.pv (.str s)::vs,t,k=>nH nG vs t (λr=>k (s,r))
 |.rs sz::nG,.pv (.rs R7 es)::vs,t,k=>if R7=sz then nH nG vs t (λr=>k (es,r))else Z
 |.rp n::nG,.pv (.rp cs)::vs,t,k=>if cs.length=n then nH nG vs t (λr=>k (.agg cs,r))else Z
 |.fs s::nG,.pv p::vs,t,k=>(rdL s p).bind λls=>nH nG vs t (λr=>k (ls,r))
 |.row id off::nG,.Gm BE i Es::vs,t,k=>if BE=id/\Es=off then nH nG vs t (λr=>k ((i:Int),r))else Z
 |.own v::nG,u::vs,t,k=>if v.same u then nH nG vs t k else Z
 |_,_,_,_=>Z
def Du(m:Mem):(bs:List (Nat×IV))->(WV bs->Option R)->Option R
 |[],k=>k ()
 |(id,.box cs)::r,k=>match m id with
  |some (.box vs)=>Du m r λt=>nH (T:=WV r) cs vs t k
  |_=>Z
 |(id,.arr sz et)::r,k=>match m id with
  |some (.arr R7 R8 es)=>if R7=sz/\R8=et then Du m r λt=>k (es,t)else Z
  |_=>Z
 |(id,.xJ sz et)::r,k=>match m id with
  |some (.xJ R7 R8 es)=>if R7=sz/\R8=et then Du m r λt=>k (es,t)else Z
  |_=>Z
 |(id,.map kt)::r,k=>match m id with
  |some (.map Gh es)=>if Gh=kt then Du m r λt=>k (es,t)else Z
  |_=>Z
 |(id,.nest sz et)::r,k=>match m id with
  |some (.nest R7 R8 es)=>if R7=sz/\R8=et then Du m r λt=>k (es,t)else Z
  |_=>Z
 |(id,.gY kt e)::r,k=>match m id with
  |some (.gY Gh e' es)=>if Gh=kt/\e'=e then Du m r λt=>k (es,t)else Z
  |_=>Z
 |(id,.loop)::r,k=>match m id with
  |some (.loop .ready)=>Du m r k
  |_=>Z
 |(id,.busy)::r,k=>match m id with
  |some (.loop .busy)=>Du m r k
  |_=>Z
 |(id,.iter t)::r,k=>match m id with
  |some (.iter t' es Z)=>if t'=t then Du m r λu=>k (es,u)else Z
  |_=>Z
def Sh.within(M:List Nat):Sh->Bool
 |.own v=>v.within M
 |.row id _=>M.elem id
 |_=>Y
def IV.within(M:List Nat):IV->Bool
 |.box cs=>cs.all (·.within M)
 |_=>Y
def SU.ok(T:SU):Bool:=T.cE.all (λx=>x.2.within (T.Jw.map (·.1)))&&T.Jw.all (λx=>x.2.within (T.Jw.map (·.1)))
def Ps:List Sh->List V->Bool
 |[],[]=>Y
 |.raw::nG,.pv _::vs=>Ps nG vs
 |.int q::nG,.pv (.int q' _)::vs=>O (q'=q)&&Ps nG vs
 |.bool::nG,.pv (.bool _)::vs=>Ps nG vs
 |.str::nG,.pv (.str _)::vs=>Ps nG vs
 |.rs sz::nG,.pv (.rs R7 _)::vs=>Nat.beq R7 sz&&Ps nG vs
 |.rp n::nG,.pv (.rp cs)::vs=>Nat.beq cs.length n&&Ps nG vs
 |.fs s::nG,.pv p::vs=>(rdL s p).isSome&&Ps nG vs
 |.row id off::nG,.Gm BE _ Es::vs=>Nat.beq BE id&&Nat.beq Es off&&Ps nG vs
 |.own v::nG,u::vs=>v.same u&&Ps nG vs
 |_,_=>J
def Si(m:Mem):List (Nat×IV)->Bool
 |[]=>Y
 |(id,.box cs)::r=>(match m id with|some (.box vs)=>Ps cs vs|_=>J)&&Si m r
 |(id,.arr sz _)::r=>(match m id with|some (.arr R7 _ _)=>Nat.beq R7 sz|_=>J)&&Si m r
 |(id,.xJ sz _)::r=>(match m id with|some (.xJ R7 _ _)=>Nat.beq R7 sz|_=>J)&&Si m r
 |(id,.map _)::r=>(match m id with|some (.map _ _)=>Y|_=>J)&&Si m r
 |(id,.nest sz _)::r=>(match m id with|some (.nest R7 _ _)=>Nat.beq R7 sz|_=>J)&&Si m r
 |(id,.gY _ _)::r=>(match m id with|some (.gY _ _ _)=>Y|_=>J)&&Si m r
 |(id,.loop)::r=>(match m id with|some (.loop .ready)=>Y|_=>J)&&Si m r
 |(id,.busy)::r=>(match m id with|some (.loop .busy)=>Y|_=>J)&&Si m r
 |(id,.iter _)::r=>(match m id with|some (.iter _ _ Z)=>Y|_=>J)&&Si m r
def fits(f:Fr)(m:Mem)(T:SU):Bool:=Si m T.Jw&&Ps T.nG (T.cE.map λ(x:Nat×Sh)=>f x.1)
def enc(T:SU)(f:Fr)(m:Mem)(k:T.ty->Option R):Option R:=if T.ok then Du m T.Jw λt=>nH (T:=WV T.Jw) T.nG (T.cE.map λ(x:Nat×Sh)=>f x.1) t k else Z
end
def BF{T:Type}:(nG:List Sh)->tyS nG T->List V×T
 |[],t=>([],t)
 |.int q::nG,x=>let r:=BF nG x.2;(.pv (.int q x.1)::r.1,r.2)
 |.raw::nG,x=>let r:=BF nG x.2;(.pv x.1::r.1,r.2)
 |.bool::nG,x=>let r:=BF nG x.2;(.pv (.bool x.1)::r.1,r.2)
 |.str::nG,x=>let r:=BF nG x.2;(.pv (.str x.1)::r.1,r.2)
 |.rs sz::nG,x=>let r:=BF nG x.2;(.pv (.rs sz x.1)::r.1,r.2)
 |.rp n::nG,x=>let r:=BF nG x.2;(.pv (.rp (aX n x.1))::r.1,r.2)
 |.fs s::nG,x=>let r:=BF nG x.2;(.pv (UL s ((I s.n).map λj=>x.1.getD j .bad)).1::r.1,r.2)
 |.row id off::nG,x=>let r:=BF nG x.2;(.Gm id x.1.toNat off::r.1,r.2)
 |.own v::nG,x=>let r:=BF (T:=T) nG x;(v::r.1,r.2)
def kB:(bs:List (Nat×IV))->WV bs->List (Nat×Option cS)
 |[],_=>[]
 |(id,.box cs)::r,x=>let y:=BF (T:=WV r) cs x;(id,U (.box y.1))::kB r y.2
 |(id,.arr sz et)::r,x=>(id,U (.arr sz et x.1))::kB r x.2
 |(id,.xJ sz et)::r,x=>(id,U (.xJ sz et x.1))::kB r x.2
 |(id,.map kt)::r,x=>(id,U (.map kt x.1))::kB r x.2
 |(id,.nest sz et)::r,x=>(id,U (.nest sz et x.1))::kB r x.2
 |(id,.gY kt e)::r,x=>(id,U (.gY kt e x.1))::kB r x.2
 |(id,.loop)::r,x=>(id,U (.loop .ready))::kB (r:List (Nat×IV)) x
 |(id,.busy)::r,x=>(id,U (.loop .busy))::kB (r:List (Nat×IV)) x
 |(id,.iter t)::r,x=>(id,U (.iter t x.1 Z))::kB r x.2
def zQ:List (Nat×Sh)->List V->List (Nat×V)
 |(t,_)::r,v::vs=>(t,v)::zQ r vs
 |_,_=>[]
def aag(T:SU)(x:T.ty):Fr:=aaa (zQ T.cE (BF (T:=WV T.Jw) T.nG x).1)
def Pt(T:SU)(x:T.ty):Mem:=Pf (kB T.Jw (BF (T:=WV T.Jw) T.nG x).2)
def NB{A:Type}:List (Nat×Nat)->Fr->Mem->(Fr->Mem->A)->A
 |[],f,m,k=>k f m
 |(t,sz)::r,f,m,k=>match f t with
  |.os id=>match m id with
   |some (.arr s et es)=>NB r (jC f t (.pv (.rs s es))) (aO m id (.xJ s et es)) k
   |some (.xJ s _ es)=>NB r (jC f t (.pv (.rs s es))) m k
   |_=>NB r f m k
  |.il=>NB r (jC f t (.pv (.rs sz []))) m k
  |_=>NB r f m k
def I7{A:Type}:List (Nat×Nat×Nat)->Mem->(Mem->A)->A
 |[],m,k=>k m
 |(id,j,sz)::r,m,k=>match m id with
  |some (.box cs)=>match cs[j]? with
   |some .il=>I7 r (aO m id (.box (cs.set j (.pv (.rs sz []))))) k
   |some (.os d)=>match m d with
    |some (.arr s et es)=>if Nat.beq d id then I7 r m k else I7 r (aO (aO m d (.xJ s et es)) id (.box (cs.set j (.pv (.rs s es))))) k
    |some (.xJ s _ es)=>I7 r (aO m id (.box (cs.set j (.pv (.rs s es))))) k
    |_=>I7 r m k
   |_=>I7 r m k
  |_=>I7 r m k
def NC{A:Type}(P:Program):List (Nat×Nat×Nat×TypeId)->Mem->(Mem->A)->A
 |[],m,k=>k m
 |(id,j,nid,et)::r,m,k=>match m id with
  |some (.box cs)=>match cs[j]? with
   |some .il=>match m nid with
    |none=>if 0<bq P et then NC P r (aO (aO m nid (.arr (bq P et) et [])) id (.box (cs.set j (.os nid)))) k else NC P r m k
    |some _=>NC P r m k
   |_=>NC P r m k
  |_=>NC P r m k
def Xk{A:Type}:List Nat->Mem->(Mem->A)->A
 |[],m,k=>k m
 |id::r,m,k=>match m id with
  |some (.arr s et es)=>Xk r (aO m id (.nest s et es)) k
  |_=>Xk r m k
def ND{A:Type}:List (Nat×Nat)->Fr->Mem->(Fr->Mem->A)->A
 |[],f,m,k=>k f m
 |(id,j)::r,f,m,k=>match m id with
  |some (.box cs)=>match cs[j]? with
   |some (.iJ a 0 len)=>match m a with
    |some (.arr s et es)=>if Nat.beq a id then ND r f m k else ND r (ga a f) (aO (aO (bO (b9 a m) a) a (.arr s et (es.take len))) id (.box ((cs.map (zN a)).set j (.os a)))) k
    |_=>ND r f m k
   |_=>ND r f m k
  |_=>ND r f m k
def SY{A:Type}(P:Program)(T:SU)(f:Fr)(m:Mem)(k:Fr->Mem->A):A:=ND T.ct f m λf m=>NC P T.bo m λm=>I7 T.bz m λm=>Xk T.nz m λm=>NB T.fz f m k
variable{R:Type}
def Ex.Xl(k1:Fr->Mem->Option R)(k:Ex->Fr->Mem->Option R):Ex->Fr->Mem->Option R
 |.normal,f,m=>k1 f m
 |e,f,m=>k e f m
def Ex.agT(id:Nat)(k:Ex->Fr->Mem->Option R):Ex->Fr->Mem->Option R
 |.exit j,f,m=>if j=id then k .normal f m else k (.exit j) f m
 |e,f,m=>k e f m
def Ex.jmp:Ex->Option Jmp
 |.normal=>Z
 |.exit id=>U (.exit id)
 |.ret=>U .ret
def Jmp.ex:Jmp->Ex
 |.ret=>.ret
 |.exit id=>.exit id
def acG(n:Nat)(g f:Fr):Fr:=λt=>bif Nat.blt t n then g t else f (t-n)
def Pu:List Nat->List V->Fr->Fr
 |p::ps,v::vs,f=>Pu ps vs (jC f p v)
 |_,_,f=>f
def roundOf(as b:Fr->Mem->(Ex->Fr->Mem->Option R)->Option R)(lid n:Nat)(ps:List Nat)(nt:Nat)(args:List V)(F:Fr)(m:Mem)(k:V->Fr->Mem->Option R):Option R:=
 match m lid with
 |some (.loop .ready)=>if args.length=ps.length then
  as (acG n (Pu ps args (Gp nt F)) F) m λe f m=>match e,m lid with
   |.normal,U (.loop .ready)=>b f (aO m lid (.loop .busy)) λe f m=>match m lid with
    |some (.loop .busy)=>match e.jmp with
     |none=>k (.pv (.bool Y)) (Gp n f) (aO m lid (.loop .ready))
     |some j=>k (.pv (.bool J)) (Gp n f) (aO m lid (.loop (.done j)))
    |_=>Z
   |_,_=>Z
  else Z
 |_=>Z
def anD:V->Option (FuncId×List V)
 |.fn g caps=>bif Nat.blt g Pg then U (g,caps)else Z
 |.pv (.fn g caps)=>bif Nat.blt g Pg then U (g,caps.map .pv)else Z
 |_=>Z
def ary(E:Env)(o:Oper):Bool:=match o.op with
 |.call c=>match c.callee with
  |.value (.func g)=>(E.ctx g).isNone&&(E.own g).isNone
  |_=>J
 |_=>J
def arz(E:Env)(o:Oper):Bool:=match o.op with
 |.call c=>match c.callee with
  |.value (.func g)=>(E.ctx g).isNone&&(E.own g).isSome
  |_=>J
 |_=>J
mutual
def PV.Mj:PV->PV->Bool
 |.int k n,.int k' n'=>O (k=k')&&O (n=n')
 |.bool b,.bool b'=>b==b'
 |.str s,.str s'=>O (s=s')
 |.agg cs,.agg ds=>JB cs ds
 |.b8 cs,.b8 ds=>JB cs ds
 |.nL,.nL=>Y
 |.rp cs,.rp ds=>JB cs ds
 |.rs n cs,.rs n' ds=>Nat.beq n n'&&JB cs ds
 |.lJ n cs,.lJ n' ds=>Nat.beq n n'&&JB cs ds
 |.sr,.sr=>Y
 |.rm t ks vs,.rm t' ks' vs'=>Nat.beq t t'&&JB ks ks'&&JB vs vs'
 |.IU,.IU=>Y
 |.fn f cs,.fn f' ds=>Nat.beq f f'&&JB cs ds
 |.ifc b,.ifc b'=>b==b'
 |.bad,.bad=>Y
 |_,_=>J
def JB:List PV->List PV->Bool
 |[],[]=>Y
 |c::cs,d::ds=>c.Mj d&&JB cs ds
 |_,_=>J
end
def eqP(p q:PV):Bool:=p.Mj q
noncomputable def eqK(v u:V)(r:Option R):Option R:=match v,u with
 |.pv p,.pv q=>bif eqP p q then r else Z
 |.agg cs,.agg ds=>bif NA cs ds then r else Z
 |v,u=>bif v.same u then r else Z
noncomputable def aah{R:Type}:List (Nat×Oper)->Fr->Fr->Option R->Option R
 |[],_,_,r=>r
 |x::l,f0,f1,r=>match x.2.dst with
  |some d=>eqK (f0 d) (f1 d) (aah l f0 f1 r)
  |none=>aah l f0 f1 r
def OK(ops:Array Oper):List (Nat×Oper):=(I ops.size).zip ops.toList
def avC(E:Env)(ops:Array Oper):List Nat:=((OK ops).filter λx=>ary E x.2||E.Ma (3000000000000000000000000000000+(E.fid%4096*4096+x.2.dst.getD 0))).map (·.1)
def qS(o:Oper):Bool:=o.guard.isNone&&match o.op with|.move _=>Y|.load .. =>Y|.nilCheck _=>Y|.fieldAddr .. =>Y|_=>J
def sw(E:Env)(o:Oper):Bool:=o.guard.isNone&&o.after.isEmpty&& !isApp E o&&FQ E o&&match o.op,o.dst with|.alloc t,U _=>(dO E t).isSome|_,_=>J
def amG(o:Oper):Bool:=o.guard.isNone&&match o.op with|.call _=>Y|_=>J
def Pv(ops:Array Oper)(x:Nat×Oper):Bool:=(OK ops).all λy=>Nat.beq x.1 y.1||x.2.dst.isNone|| !(y.2.dst==x.2.dst)
def Xm(E:Env)(ops:Array Oper)(done:List Nat)(p:Nat)(o:Oper):List (Nat×Oper):=(OK ops).filter λx=> !done.elem x.1&& !Nat.beq x.1 p&& !reach ops 8 x.2 p&&(!sw E x.2||reach ops 8 o x.1)
def xL(E:Env)(ops:Array Oper)(done:List Nat):List (Nat×Oper):=(OK ops).filter λx=>sw E x.2&& !done.elem x.1
def aai(ops:Array Oper)(done:List Nat):List (Nat×Oper):=(OK ops).filter λx=> !done.elem x.1
def Sj(ops:Array Oper)(o:Oper)(l:List (Nat×Oper)):List (Nat×Oper):=l.filter λx=> !reach ops 8 o x.1
def Gs(ops:Array Oper)(o:Oper)(l:List (Nat×Oper)):List Nat:=(l.filter λx=>reach ops 8 o x.1).map (·.1)
def Xn(done:List Nat)(l:List (Nat×Oper))(o:Oper):Bool:=o.after.toList.all λe=> !Region.binds .any e||done.elem e.on||l.any λy=>Nat.beq y.1 e.on
def amH(E:Env)(ops:Array Oper)(done:List Nat)(fl:List (Nat×Oper))(p:Nat)(o:Oper)(l:List (Nat×Oper)):Bool:=yX ops [] l&&amG o&& !done.elem p&&Xn (Gs ops o l++done) [] o&&l.all (λx=>Xn done l x.2&&(!reach ops 8 o x.1||Xn (Gs ops o l++done) [] x.2))&&fl.all (λx=> !reach ops 8 x.2 p)&&(Sj ops o l).all (λx=>qS x.2&& !isApp E x.2&&x.2.apart ops o&&Pv ops x)&&(xL E ops done).all λx=>Pv ops x
def acH(E:Env)(ops:Array Oper)(x:Nat×Oper):Bool:=((I ops.size).zip ops.toList).any λy=>isApp E y.2&&(Nat.beq x.1 y.1||reach ops 4 x.2 y.1)
def KJ(E:Env)(ops:Array Oper):List (Nat×Oper):=
 bif E.Ma (2000000000000000000000000000000+E.fid)then((I ops.size).zip ops.toList).filter (λx=> !acH E ops x)++((I ops.size).zip ops.toList).filter (acH E ops)
 else(I ops.size).zip ops.toList
noncomputable def Mk(E:Env)(ops:Array Oper){R:Type}(k:Fr->Mem->Option R):List Nat->List Nat->List (Nat×Oper)->Fr->Fr->Mem->Option R
 |[],done,fl,f0,f,m=>if yX ops [] (aai ops done)then dt E ops 2 (ops.size+1) R [] (aai ops done) f m [] λf1 m1=>aah fl f0 f1 (k f1 m1)else Z
 |p::ps,done,fl,f0,f,m=>match ops[p]? with
  |some o=>if amH E ops done fl p o (Xm E ops done p o)then dt E ops 2 (ops.size+1) R [] (Xm E ops done p o) f m [] λf1 m1=>aah fl f0 f1 (dt E ops 0 3 R [] [(p,o)] f1 m1 [] λf2 m2=>Mk E ops k ps (p::(Gs ops o (Xm E ops done p o)++done)) (Sj ops o (Xm E ops done p o)) f2 (cN f2 (Sj ops o (Xm E ops done p o)++xL E ops (p::(Gs ops o (Xm E ops done p o)++done)))) m2)else Z
  |none=>Z
noncomputable def gK:(E:Env)->{R:Type}->Code->Fr->Mem->(Ex->Fr->Mem->Option R)->Option R
 |E,_,.skip,f,m,k=>k .normal f m
 |E,R,.region _ ops draw,f,m,k=>
  if draw then
   match avC E ops with
   |p::ps=>Mk E ops (λf m=>k .normal f m) (p::ps) [] [] f (cN f (xL E ops [])) m
   |[]=>
   (if yX ops [] (KJ E ops)then
    (if ops.toList.all (λo=>gZ o&& !arz E o)then dt E ops 1 (ops.size+1) R [] (KJ E ops) f m [] λf m=>k .normal f m
    else dt E ops 2 (ops.size+1) R [] (KJ E ops) f m [] λf m=>k .normal f m)
   else Z)
  else dt E ops 0 (ops.size+ops.size+1) R [] ((I ops.size).zip ops.toList) f m [] λf m=>k .normal f m
 |E,R,.seq a b,f,m,k=>gK E a f m (Ex.Xl (λf m=>gK E b f m k) k)
 |E,R,.cond c a b,f,m,k=>match c,cd E f c with
  |.tmp x,.pv (.bool t)=>if t then gK E a (jC f x (.pv (.bool Y))) m k else gK E b (jC f x (.pv (.bool J))) m k
  |_,_=>Z
 |E,R,.block id b,f,m,k=>gK E b f m (Ex.agT id k)
 |E,R,.loop b,f,m,k=>match(E.hint E.fid (Ij b)).find? (λT=>SY E.P T f m λf m=>fits f m T)with
  |some T=>SY E.P T f m λf m=>enc T f m (E.lp.run λs rec=>gK E b (aag T s) (Pt T s) (Ex.Xl (λf m=>SY E.P T f m λf m=>enc T f m rec) k))
  |none=>Xj (λf m rec=>gK E b f m (Ex.Xl rec k)) E.u f m
 |E,R,.exit id,f,m,k=>k (.exit id) f m
 |E,R,.ret,f,m,k=>k .ret f m
 |E,R,.label _,f,m,k=>k .normal f m
 |E,R,.scope b,f,m,k=>gK E b f m k
 |E,R,.rangeFunc g ps as b,f,m,k=>if E.rdb then Z else match ps.toList with
  |p0::_=>fresh Y (dm E (U p0)) (.loop .ready) f m λf m _=>match anD (cd E f g)with
   |some (gid,caps)=>E.rng R gid (dm E (U p0)*4096+gid) (λ_ nt site id args F m k=>bif Nat.beq id (dm E (U p0))then
     roundOf (gK {E with fid:=site*4096+E.fid%4096,yl:=Jx,rdb:=Y} as) (gK {E with fid:=site*4096+E.fid%4096,yl:=Jx,rdb:=Y} b) (dm E (U p0)) E.fn.ntmps ps.toList nt args F m k
     else Z)
    (.yl (dm E (U p0))::caps) f m λ_ f m=>match m (dm E (U p0))with
     |some (.loop .ready)=>k .normal (ga (dm E (U p0)) f) (bO (b9 (dm E (U p0)) m) (dm E (U p0)))
     |some (.loop (.done j))=>k j.ex (ga (dm E (U p0)) f) (bO (b9 (dm E (U p0)) m) (dm E (U p0)))
     |_=>Z
   |_=>Z
  |[]=>Z
 |_,_,_,_,_,_=>Z
def KK(E:Env){R:Type}(f:Fr)(m:Mem):List ResultVar->(List V->Option R)->Option R
 |[],k=>k []
 |.tmp t::rs,k=>KK E f m rs λvs=>k (cd E f (.tmp t)::vs)
 |.cell a t::rs,k=>yN E J t (cd E f (.tmp a)) m λv _=>KK E f m rs λvs=>k (v::vs)
def agU(E:Env)(rs:List ResultVar)(f:Fr)(m:Mem):Option PV:=KK E f m rs λvs=>match vs with
  |[v]=>pg m gr v
  |vs=>(xK (pg m gr) vs).bind λps=>U (.b8 ps)
section
variable {R:Type} (E:Env)
def US(t:TypeId)(p:PV)(k:PV->Option R):Option R:=
 match E.P.underlying t with
 |some (.int _)=>j9 E t p k
 |some .bool=>j9 E t p k
 |some .string=>j9 E t p k
 |some (.slice _)=>j9 E t p k
 |some (.map _ _)=>j9 E t p k
 |some (.pointer _)=>j9 E t p k
 |_=>k p
def yY:List TypeId->List PV->(List PV->Option R)->Option R
 |t::ts,p::ps,k=>US E t p λq=>yY ts ps λqs=>k (q::qs)
 |_,ps,k=>k ps
def agV(t:TypeId)(p:PV)(k:PV->Option R):Option R:=
 match E.P.underlying t with
 |some (.struct _)=>(asAgg (bq E.P t) p).bind λ_=>match Pp E.P 8 t with
  |some ts=>yY E ts (aX (bq E.P t) p) λcs=>k (.agg cs)
  |none=>Z
 |some (.array _ _)=>(asAgg (bq E.P t) p).bind λ_=>match Pp E.P 8 t with
  |some ts=>yY E ts (aX (bq E.P t) p) λcs=>k (.agg cs)
  |none=>Z
 |some (.pointer e)=>mZ (bq E.P e) p (k .nL) λq=>match Pp E.P 8 e with
  |some ts=>yY E ts (aX (bq E.P e) q) λcs=>k (.rp cs)
  |none=>Z
 |_=>US E t p k
def JC:List TypeId->List PV->(List PV->Option R)->Option R
 |t::ts,p::ps,k=>agV E t p λq=>JC ts ps λqs=>k (q::qs)
 |_,ps,k=>k ps
end
def Pw(args:List V):Fr:=λt=>args.getD t .top
noncomputable def OW(E:Env)(args:List V)(f:Fr)(m:Mem)(k:V->Fr->Mem->Option R):Option R:=
 match E.fn.body with
 |some c=>if args.length<=E.fn.ntmps then gK E c (FO E.fn.ntmps args f) m (λe f m=>match e with
  |.exit _=>Z
  |_=>KK E f m E.fn.results.toList λvs=>match vs with
   |[v]=>k v (Gp E.fn.ntmps f) m
   |vs=>k (.b8 vs) (Gp E.fn.ntmps f) m)else Z
 |none=>Z
def anE(E:Env)(f:Fr)(m:Mem):Option PV:=
 match E.fn.resultTypes.toList with
 |[t]=>match E.P.underlying t with
  |some (.slice e)=>KK E f m E.fn.results.toList λvs=>match vs with
   |[.os id]=>match m id with
    |some (.arr sz et es)=>if sz=bq E.P e/\et=e then U (.rs sz es)else Z
    |_=>Z
   |[.iJ id 0 len]=>match m id with
    |some (.arr sz et es)=>if sz=bq E.P e/\et=e then U (.rs sz (es.take len))else Z
    |_=>Z
   |_=>Z
  |_=>Z
 |_=>Z
noncomputable def qo(E:Env)(args:List PV):Option PV:=
 match E.fn.body with
 |some c=>if args.length<=E.fn.ntmps then JC E E.fn.params.toList args λvs=>gK E c (Pw (vs.map .pv)) (λ_=>Z) (λe f m=>match e with
  |.exit _=>Z
  |_=>anE E f m)else Z
 |none=>Z
noncomputable def gT(E:Env)(args:List PV):Option PV:=
 match E.fn.body with
 |some c=>if args.length<=E.fn.ntmps then JC E E.fn.params.toList args λvs=>gK E c (Pw (vs.map .pv)) (λ_=>Z) (λe f m=>match e with
  |.normal=>agU E E.fn.results.toList f m
  |.ret=>agU E E.fn.results.toList f m
  |.exit _=>Z)else Z
 |none=>Z
def agW{P:Prop}(h:P:=by grind [au,decide,List.length_append,List.length_map,List.length_singleton]):P:=h
def agZ{P:Prop}(h:P:=by grind [cd,Nat.blt,Nat.blt_eq]):P:=h
def W8{P:Prop}(h:P:=by grind [au,decide]):P:=h
def NF{P:Prop}(h:P:=by unfold au;omega):P:=h
def pw{P:Prop}(h:P:=by simp[Sp.info]):P:=h
end Go.Ab
namespace Go.Ab
open Go.RowKit (Below)
abbrev Ro:=Nat->Option Obj
def akD:Bool:=Y
structure ou(B:Nat)(w w':World):Prop extends Below B w w' where
 drawn:akD=Y->w.drawn<=w'.drawn
namespace ou
def refl(B:Nat)(w:World):ou B w w:=⟨Below.refl B w,λ_=>ayd _⟩
def trans{B:Nat}{a b c:World}(h:ou B a b)(k:ou B b c):ou B a c:=⟨h.toBelow.trans k.toBelow,λu=>ayn (h.drawn u) (k.drawn u)⟩
def mono{B B':Nat}{w w':World}(h:ou B w w')(hB:B'<=B):ou B' w w':=⟨h.toBelow.mono hB,h.drawn⟩
def drew{B:Nat}{a w:World}(h:ou B a w):ou B a w.drew:=⟨h.toBelow.drew,λu=>Nat.le_succ_of_le (h.drawn u)⟩
theorem heap_alloc(w:World)(o:Obj)(k:Nat)(h:k<w.heap.size):(w.alloc o).heap[k]?=w.heap[k]?:=Below.heap_alloc w o k h
def alloc{B:Nat}{a w:World}(h:ou B a w)(hB:B<=w.heap.size)(o:Obj):ou B a (w.alloc o):=⟨h.toBelow.alloc hB o,h.drawn⟩
end ou
def Jmp.code:Jmp->Code
 |.ret=>.ret
 |.exit id=>.exit id
def ZY.obj(rc:Loop):ZY->Loop
 |.ready=>{rc with state:=.ready,pending:=Z}
 |.busy=>{rc with state:=.busy,pending:=Z}
 |.done j=>{rc with state:=.done,pending:=U j.code}
def cellAt(μ:Ro)(b o:Nat):Option Value:=match μ b with|some (.cells c _ _)=>c[o]?|_=>Z
def KM(f:FuncId)(xs:Array Value):Value:=if f<Pg then .func (.func f) #[] xs else .func (.func (f-Pg)) xs #[]
variable{xs:Array Value}
theorem zS{f:FuncId}(h:Nat.blt f Pg=Y):KM f xs=.func (.func f) #[] xs:=BY (by rwa[azt]at h)
def Xo{f:FuncId}(h:Nat.blt f Pg=J):KM f xs=.func (.func (f-Pg)) xs #[]:=IT (by rw[<-ay1,azt]at h;omega)
def sI(f:FuncId)(xs:Array Value):∃g a b,KM f xs=.func (.func g) a b:=by
 unfold KM;split
 .simp
 simp
def S2(f:FuncId)(xs:Array Value):(KM f xs).oneCell'=true:=by have⟨g,a,b,h⟩:=sI f xs;rw[h];rfl
inductive aH(P:Program)(μ:Ro):PV->Value->Prop
 |int {k:IntKind} {n:Int}:(Lit.int k n).wf=Y->aH P μ (.int k n) (.int k n)
 |bool {b:Bool}:aH P μ (.bool b) (.bool b)
 |str {s:Bytes}:s.length<=maxLen->aH P μ (.str s) (.string ⟨s.toArray⟩)
 |agg {cs:List PV} {xs:Array Value}:cs.length=xs.size->(∀(i:Nat)p x,cs[i]?=U p->xs[i]?=U x->aH P μ p x)->(∀(i:Nat)(x:Value),xs[i]?=U x->x.oneCell'=Y)->aH P μ (.agg cs) (.agg xs)
 |b8 {cs:List PV} {xs:Array Value}:cs.length=xs.size->(∀(i:Nat)p x,cs[i]?=U p->xs[i]?=U x->aH P μ p x)->aH P μ (.b8 cs) (.tuple xs)
 |nL:aH P μ .nL (.pointer Z)
 |rp {cs:List PV} {b o:Nat} (X:Nat->Value):(∀(i:Nat)p,cs[i]?=U p->cellAt μ b (o+i)=U (X i))->(∀(i:Nat)p,cs[i]?=U p->aH P μ p (X i))->(∀i:Nat,i<cs.length->(X i).oneCell'=Y)->aH P μ (.rp cs) (.pointer (U ⟨b,o,Z⟩))
 |pj {sz:Nat}:aH P μ (.rs sz []) (.slice Z 0 0)
 |WW {sz cap:Nat} {a:Addr}:cap<=maxLen->aH P μ (.rs sz []) (.slice (U a) 0 cap)
 |rs {sz:Nat} {es:List PV} {b o cap:Nat} (X:Nat->Nat->Value):es.length<=cap->cap<=maxLen->(∀(i:Nat)e,es[i]?=U e->e.cells.length=sz)->(∀(i:Nat)e(j:Nat)p,es[i]?=U e->e.cells[j]?=U p->cellAt μ b (o+i*sz+j)=U (X i j))->(∀(i:Nat)e(j:Nat)p,es[i]?=U e->e.cells[j]?=U p->aH P μ p (X i j))->(∀(i:Nat)e(j:Nat)p,es[i]?=U e->e.cells[j]?=U p->(X i j).oneCell'=Y)->aH P μ (.rs sz es) (.slice (U ⟨b,o,Z⟩) es.length cap)
 |sr:aH P μ .sr (.map Z)
 |rm {kt:TypeId} {ks vs:List PV} {b clock:Nat} {en:Array MapEntry} {kk:List Kd}:μ b=U (.map en clock)->en.size=ks.length->vs.length=ks.length->BM P kt=U kk->(∀(i:Nat)k,ks[i]?=U k->FM P kt kk k=Y)->(∀(i:Nat)k e,ks[i]?=U k->en[i]?=U e->aH P μ k e.key)->(∀(i:Nat)v e,vs[i]?=U v->en[i]?=U e->aH P μ v e.val)->aH P μ (.rm kt ks vs) (.map (U b))
 |IU:aH P μ .IU .nilFunc
 |fn {f:FuncId} {cs:List PV} {xs:Array Value}:cs.length=xs.size->(∀(i:Nat)p x,cs[i]?=U p->xs[i]?=U x->aH P μ p x)->aH P μ (.fn f cs) (KM f xs)
 |ag0:aH P μ (.ifc J) .nilIface
 |akE {t:TypeId} {x:Value}:aH P μ (.ifc Y) (.iface t x)
 |bad {x:Value}:aH P μ .bad x
structure I8(P:Program)(μ:Ro)(g:Nat)(cs:List PV):Prop where
 rep:aH P μ (.rp cs) (.pointer (U ⟨g,0,Z⟩))
 size:∃c T z,μ g=U (.cells c T z)/\c.size=cs.length
structure NH where
 g:Option Nat
 cap:Nat
 len:Nat
 sz:Nat
 deriving Inhabited
structure aT extends NH where
 row:Nat->Nat->NH:=λ_ _=>default
 deriving Inhabited
abbrev NI(g:Option Nat)(cap len sz:Nat):aT:={g,cap,len,sz}
def NH.up(p:NH):aT:={toNH:=p}
inductive az(P:Program)(μ:Ro)(φ:Nat->aT):V->Value->Prop
 |pv {p:PV} {x:Value}:aH P μ p x->az P μ φ (.pv p) x
 |il:az P μ φ .il (.slice Z 0 0)
 |op {id off g:Nat}:(φ id).g=U g->az P μ φ (.op id off) (.pointer (U ⟨g,off,Z⟩))
 |oe {id i off g:Nat}:(φ id).g=U g->az P μ φ (.oe id i off) (.pointer (U ⟨g,i*(φ id).sz+off,Z⟩))
 |BG {id:Nat}:(φ id).g=Z->az P μ φ (.os id) (.slice Z 0 0)
 |os {id g:Nat}:(φ id).g=U g->az P μ φ (.os id) (.slice (U ⟨g,0,Z⟩) (φ id).len (φ id).cap)
 |zR {id:Nat}:(φ id).g=Z->az P μ φ (.iJ id 0 0) (.slice Z 0 0)
 |iJ {id lo len cap g:Nat} {a:Addr}:(φ id).g=U g->lo+len<=(φ id).len->(a=⟨g,lo*(φ id).sz,Z⟩\/((φ id).cap=lo/\0<lo))->len<=cap->lo+cap<=(φ id).cap->az P μ φ (.iJ id lo len) (.slice (U a) len cap)
 |UU {id i off:Nat}:((φ id).row i off).g=Z->az P μ φ (.Gm id i off) (.slice Z 0 0)
 |Gm {id i off g:Nat}:((φ id).row i off).g=U g->az P μ φ (.Gm id i off) (.slice (U ⟨g,0,Z⟩) ((φ id).row i off).len ((φ id).row i off).cap)
 |KB {id i off s j off2 g:Nat}:((φ id).row i off).g=U g->((φ id).row i off).sz=s->az P μ φ (.KB id i off s j off2) (.pointer (U ⟨g,j*s+off2,Z⟩))
 |om {id g:Nat}:(φ id).g=U g->az P μ φ (.om id) (.map (U g))
 |yl {id g:Nat}:(φ id).g=U g->az P μ φ (.yl id) (.func (.yield g) #[] #[])
 |it {id g:Nat}:(φ id).g=U g->az P μ φ (.it id) (.pointer (U ⟨g,0,Z⟩))
 |fn {f:FuncId} {cs:List V} {xs:Array Value}:cs.length=xs.size->(∀(i:Nat)p x,cs[i]?=U p->xs[i]?=U x->az P μ φ p x)->az P μ φ (.fn f cs) (KM f xs)
 |agg {cs:List V} {xs:Array Value}:cs.length=xs.size->(∀(i:Nat)p x,cs[i]?=U p->xs[i]?=U x->az P μ φ p x)->(∀(i:Nat)(x:Value),xs[i]?=U x->x.oneCell'=Y)->az P μ φ (.agg cs) (.agg xs)
 |b8 {cs:List V} {xs:Array Value}:cs.length=xs.size->(∀(i:Nat)p x,cs[i]?=U p->xs[i]?=U x->az P μ φ p x)->az P μ φ (.b8 cs) (.tuple xs)
 |top {x:Value}:az P μ φ .top x
def ba(P:Program)(μ:Ro)(φ:Nat->aT)(w:World)(id sz:Nat)(et:TypeId)(es:List PV):Prop:=
 (φ id).len=es.length/\(φ id).sz=sz/\sz=bq P et/\0<sz/\(∀(i:Nat)e,es[i]?=U e->e.cells.length=sz)/\(φ id).cap<=maxLen/\
 match(φ id).g with
 |none=>es=[]/\(φ id).cap=0
 |some g=>∃(c:Array Value)(T:TypeId),w.heap[g]?=U (.cells c T (0,0))/\(φ id).cap*sz<=c.size/\es.length<=(φ id).cap/\(∀(i:Nat)e(j:Nat)p x,es[i]?=U e->e.cells[j]?=U p->c[i*sz+j]?=U x->aH P μ p x)/\(∀(i:Nat)(x:Value),i<es.length*sz->c[i]?=U x->x.oneCell'=Y)
def cS.rowAt:cS->Nat->Nat->Bool
 |.nest _ _ es,i,off=>match es[i]? with
  |some e=>match e.cells[off]? with
   |some p=>p.isRow
   |none=>J
  |none=>J
 |.gY _ _ es,i,0=>match es[i]? with
  |some x=>x.2.isRow
  |none=>J
 |_,_,_=>J
def gv(P:Program)(μ:Ro)(R:NH)(w:World)(s:Nat)(rs:List PV)(x:Value):Prop:=(∃et,ba P μ (λ_=>R.up) w 0 s et rs)/\az P μ (λ_=>R.up) (.os 0) x
def fK(P:Program)(μ:Ro)(R:NH)(w:World)(p:PV)(x:Value):Prop:=match p with
 |.lJ s rs=>gv P μ R w s rs x
 |p=>aH P μ p x
def bw(P:Program)(μ:Ro)(φ:Nat->aT)(w:World)(id sz:Nat)(et:TypeId)(es:List PV):Prop:=
 (φ id).len=es.length/\(φ id).sz=sz/\sz=bq P et/\0<sz/\(∀(i:Nat)e,es[i]?=U e->e.cells.length=sz)/\(φ id).cap<=maxLen/\
 match(φ id).g with
 |none=>es=[]/\(φ id).cap=0
 |some g=>∃(c:Array Value)(T:TypeId),w.heap[g]?=U (.cells c T (0,0))/\(φ id).cap*sz<=c.size/\es.length<=(φ id).cap/\(∀(i:Nat)e(j:Nat)p x,es[i]?=U e->e.cells[j]?=U p->c[i*sz+j]?=U x->fK P μ ((φ id).row i j) w p x)/\(∀(i:Nat)(x:Value),i<es.length*sz->c[i]?=U x->x.oneCell'=Y)
def qT(en:Array MapEntry)(clock:Nat):Prop:=∀(i:Nat)e,en[i]?=U e->e.born<clock/\∀(j:Nat)e',en[j]?=U e'->e'.born=e.born->j=i
def pO(en:Array MapEntry)(seen:Array Nat):List MapEntry:=en.toList.filter λe=> !seen.contains e.born
def jF(P:Program)(μ:Ro)(φ:Nat->aT)(w:World)(id:Nat):cS->Prop
 |.box cs=>∃(g:Nat)(c:Array Value)(T:TypeId),(φ id).g=U g/\w.heap[g]?=U (.cells c T (0,0))/\c.size=cs.length/\(∀(i:Nat)v x,cs[i]?=U v->c[i]?=U x->az P μ φ v x)/\(∀(i:Nat)(x:Value),c[i]?=U x->x.oneCell'=Y)/\(φ id).len=cs.length
 |.arr sz et es=>ba P μ φ w id sz et es
 |.xJ sz et es=>ba P μ φ w id sz et es/\∀g,(φ id).g=U g->(μ g).isSome
 |.map kt es=>∃(g:Nat)(en:Array MapEntry)(clock:Nat)(kk:List Kd),(φ id).g=U g/\w.heap[g]?=U (.map en clock)/\en.size=es.length/\BM P kt=U kk/\(∀(i:Nat)k v,es[i]?=U (k,v)->FM P kt kk k=Y)/\qT en clock/\(∀(i:Nat)k v e,es[i]?=U (k,v)->en[i]?=U e->aH P μ k e.key/\aH P μ v e.val)
 |.nest sz et es=>bw P μ φ w id sz et es
 |.gY kt e0 es=>∃(g:Nat)(en:Array MapEntry)(clock:Nat)(kk:List Kd),(φ id).g=U g/\w.heap[g]?=U (.map en clock)/\en.size=es.length/\BM P kt=U kk/\(∀(i:Nat)k v,es[i]?=U (k,v)->FM P kt kk k=Y)/\qT en clock/\(∀(i:Nat)k v e,es[i]?=U (k,v)->en[i]?=U e->aH P μ k e.key/\(match v with
  |.lJ s rs=>ba P μ (λ_=>((φ id).row i 0).up) w 0 s e0 rs/\az P μ (λ_=>((φ id).row i 0).up) (.os 0) e.val
  |v=>aH P μ v e.val))
 |.iter t es cur=>∃(g mg:Nat)(en:Array MapEntry)(clock:Nat)(seen:Array Nat),(φ id).g=U g/\w.heap[g]?=U (.mapIter (U mg) clock seen clock)/\μ mg=U (.map en clock)/\qT en clock/\(pO en seen).length=es.length/\(∀(i:Nat)k v e,es[i]?=U (k,v)->(pO en seen)[i]?=U e->aH P μ k e.key/\aH P μ v e.val)/\∀k v,cur=U (k,v)->∃(i:Nat)(e:MapEntry),en[i]?=U e/\seen.back? =U e.born/\aH P μ k e.key/\aH P μ v e.val
 |.loop st=>∃(g:Nat)(rc:Loop),(φ id).g=U g/\w.heap[g]?=U (.loop (st.obj rc))
def cS.nb:cS->Bool
 |.xJ .. =>J
 |_=>Y
structure bI where
 w:World
 mu:Ro
 sv:Nat->Value
 eF:Ro:=λ_=>Z
 ow:Ro:=λ_=>Z
 rc:Nat->Option (Nat×Loop):=λ_=>Z
 hid:Ro:=λ_=>Z
abbrev bI.heap(B:bI):Array Obj:=B.w.heap
def cS.owns(b:cS)(p:aT)(g:Nat):Prop:=p.g=U g\/∃i off,b.rowAt i off=Y/\(p.row i off).g=U g
def cS.apart(b:cS)(p:aT):Prop:=∀i off g,b.rowAt i off=Y->(p.row i off).g=U g->p.g≠U g/\∀i' Es,b.rowAt i' Es=Y->(p.row i' Es).g=U g->i'=i/\Es=off
structure aR(P:Program)(G:Nat->Option (List PV))(w0:bI)(μ:Ro)(φ:Nat->aT)(m:Mem)(w:World):Prop where
 below:ou w0.heap.size w0.w w
 ro:∀b o,μ b=U o->w.heap[b]?=U o
 aQ:∀g cs,G g=U cs->I8 P μ g cs
 eE:∀id b,m id=U b->jF P μ φ w id b
 own:∀id b g,m id=U b->b.owns (φ id) g->w0.heap.size<=g/\(b.nb=Y->μ g=Z)
 inj:∀id1 id2 b1 b2 g,m id1=U b1->m id2=U b2->b1.owns (φ id1) g->b2.owns (φ id2) g->id1=id2
 apart:∀id b,m id=U b->b.apart (φ id)
 hU:∀j cs id,m j=U (.box cs)->cX id cs=Y->(m id).isSome=Y
 base:∀b o,μ b=U o->b<w0.heap.size->w0.mu b=U o
 eF:∀b o,w0.eF b=U o->μ b=U o
 L2:∀id st,m id=U (.loop st)->∃g rc,(φ id).g=U g/\w0.rc id=U (g,rc)/\w.heap[g]?=U (.loop (st.obj rc))
 hid:∀g o,w0.hid g=U o->w.heap[g]?=U o/\w0.heap.size<=g/\μ g=Z/\∀id b,m id=U b->¬b.owns (φ id) g
def cE(nt:Nat)(w0:bI)(a:Act):Nat->Value:=λt=>if t<nt then a.tmps.getD t undef else w0.sv t
theorem wW{nt:Nat}{w0:bI}{a:Act}{t:Nat}(h:t<nt):cE nt w0 a t=a.tmps.getD t undef:=BY h
def Marks(B:Nat)(ow μ:Ro)(ds:List Deferred):Prop:=∃Ds:List Nat,ds=Ds.map (λD=>{target:=.collected D,args:= #[]})/\Ds.Nodup/\∀D∈Ds,B<=D/\ow D=Z/\μ D=U (.deferred (U []))
def Marks.nil(B:Nat)(ow μ:Ro):Marks B ow μ []:=⟨[],rfl,.nil,ae⟩
def Marks.mono{B:Nat}{ow μ μ':Ro}(h:∀b o,μ b=U o->μ' b=U o){ds:List Deferred}:Marks B ow μ ds->Marks B ow μ' ds
 |⟨Ds,e,hn,hD⟩=>⟨Ds,e,hn,λD hd=>⟨(hD D hd).1,(hD D hd).2.1,h _ _ (hD D hd).2.2⟩⟩
structure Rel(P:Program)(G:Nat->Option (List PV))(nt:Nat)(w0:bI)(μ:Ro)(φ:Nat->aT)(f:Fr)(m:Mem)(a:Act)(w:World):Prop extends aR P G w0 μ φ m w where
 size:a.tmps.size=nt
 defers:Marks w0.heap.size w0.ow μ a.defers
 ow:∀b o,w0.ow b=U o->w0.eF b=U o
 fr:∀t,az P μ φ (f t) (cE nt w0 a t)
 live:∀t id,(f t).has id=Y->(m id).isSome=Y
section
variable {P:Program} {μ μ':Ro} {φ φ':Nat->aT}
variable{x:Value}
def NJ(h:∀b o,μ b=U o->μ' b=U o){b o:Nat}(hx:cellAt μ b o=U x):cellAt μ' b o=U x:=by grind [cellAt]
variable{p:PV}
def aH.mono(h:∀b o,μ b=U o->μ' b=U o)(hp:aH P μ p x):aH P μ' p x:=by
 induction hp with
 |int h=>exact .int h
 |bool=>exact .bool
 |str h=>exact .str h
 |agg h1 _ h3 ih=>exact .agg h1 ih h3
 |b8 h1 _ ih=>exact .b8 h1 ih
 |nL=>exact .nL
 |rp X h1 _ h3 ih=>exact .rp X (λi p hi=>NJ h (h1 i p hi)) ih h3
 |pj=>exact .pj
 |WW h=>exact .WW h
 |rs X h1 h2 h3 h4 _ h6 ih=>exact .rs X h1 h2 h3 (λi e j p hi hj=>NJ h (h4 i e j p hi hj)) ih h6
 |sr=>exact .sr
 |rm h1 h2 h3 h4 h5 _ _ ih1 ih2=>exact .rm (h _ _ h1) h2 h3 h4 h5 ih1 ih2
 |IU=>exact .IU
 |fn h1 _ ih=>exact .fn h1 ih
 |ag0=>exact .ag0
 |akE=>exact .akE
 |bad=>exact .bad
def I8.mono(h:∀b o,μ b=U o->μ' b=U o){g:Nat}{cs:List PV}(hv:I8 P μ g cs):I8 P μ' g cs:=⟨hv.rep.mono h,let⟨c,T,z,h1,h2⟩:=hv.size;⟨c,T,z,h _ _ h1,h2⟩⟩
theorem cq{id:Nat}{v:V}:∀{cs:List V},v∈cs->v.has id=Y->cX id cs=Y
 |c::r,hm,hv=>by
  rcases aye.1 hm with rfl|hm
  .simp[cX,hv]
  .simp[cX,cq hm hv]
def dF{id:Nat}:∀{cs:List V},cX id cs=Y↔∃v∈cs,v.has id=Y
 |[]=>by simp[cX]
 |c::r=>by simp[cX,dF (cs:=r)]
def Il{id:Nat}{v:V}:∀{cs:List V},v∈cs->v.F8 id=Y->KD id cs=Y
 |c::r,hm,hv=>by
  rcases aye.1 hm with rfl|hm
  .simp[KD,hv]
  .simp[KD,Il hm hv]
def az.mono(h:∀b o,μ b=U o->μ' b=U o){v:V}{x:Value}(hv:az P μ φ v x)(hφ:∀id,v.has id=Y->φ' id=φ id):az P μ' φ' v x:=by
 induction hv with
 |pv hp=>exact .pv (hp.mono h)
 |il=>exact .il
 |op hg=>exact .op (by simp_all[V.has])
 | @oe id i off g hg=>have e:=hφ id db;have:=az.oe (P:=P) (μ:=μ') (φ:=φ') (id:=id) (i:=i) (off:=off) (g:=g) (by rw[e];omega);simp_all
 | @BG id hg=>exact .BG (by rw[hφ id db];omega)
 | @os id g hg=>have e:=hφ id db;have:=az.os (P:=P) (μ:=μ') (φ:=φ') (id:=id) (g:=g) (by rw[e];omega);simp_all
 | @zR id hg=>exact .zR (by rw[hφ id db];omega)
 | @iJ id lo len cap g a hg hl ha hc hc'=>have e:=hφ id db;exact az.iJ (P:=P) (μ:=μ') (φ:=φ') (id:=id) (lo:=lo) (len:=len) (cap:=cap) (g:=g) (a:=a) (by rw[e];omega) (by rw[e];omega) (by rw[e];omega) hc (by rw[e];omega)
 | @UU id i off hg=>exact .UU (by rw[hφ id db];omega)
 | @Gm id i off g hg=>have e:=hφ id db;have:=az.Gm (P:=P) (μ:=μ') (φ:=φ') (id:=id) (i:=i) (off:=off) (g:=g) (by rw[e];omega);simp_all
 | @KB id i off s j off2 g hg hs=>have e:=hφ id db;exact .KB (by rw[e];omega) (by rw[e];omega)
 | @om id g hg=>exact .om (by rw[hφ id db];omega)
 | @yl id g hg=>exact .yl (by rw[hφ id db];omega)
 | @it id g hg=>exact .it (by rw[hφ id db];omega)
 |fn h1 _ ih=>exact .fn h1 (λi p x hi hx=>ih i p x hi hx (λid hid=>hφ id (by simp only[V.has];exact cq (awU hi) hid)))
 |agg h1 _ h3 ih=>exact .agg h1 (λi p x hi hx=>ih i p x hi hx (λid hid=>hφ id (by simp only[V.has];exact cq (awU hi) hid))) h3
 |b8 h1 _ ih=>exact .b8 h1 (λi p x hi hx=>ih i p x hi hx (λid hid=>hφ id (by simp only[V.has];exact cq (awU hi) hid)))
 |top=>exact .top
variable{v:V}
def az.amI(h:∀b o,μ b=U o->μ' b=U o)(hv:az P μ φ v x)(hφ:∀id,v.has id=Y->(φ' id).toNH=(φ id).toNH/\(v.F8 id=Y->φ' id=φ id)):az P μ' φ' v x:=by
 induction hv with
 |pv hp=>exact .pv (hp.mono h)
 |il=>exact .il
 |op hg=>exact .op (by simp_all[V.has])
 | @oe id i off g hg=>have e:=(hφ id db).1;have:=az.oe (P:=P) (μ:=μ') (φ:=φ') (id:=id) (i:=i) (off:=off) (g:=g) (by rw[e];omega);simp_all
 | @BG id hg=>exact .BG (by rw[(hφ id db).1];omega)
 | @os id g hg=>have e:=(hφ id db).1;have:=az.os (P:=P) (μ:=μ') (φ:=φ') (id:=id) (g:=g) (by rw[e];omega);simp_all
 | @zR id hg=>exact .zR (by rw[(hφ id db).1];omega)
 | @iJ id lo len cap g a hg hl ha hc hc'=>have e:=(hφ id db).1;exact az.iJ (P:=P) (μ:=μ') (φ:=φ') (id:=id) (lo:=lo) (len:=len) (cap:=cap) (g:=g) (a:=a) (by rw[e];omega) (by rw[e];omega) (by rw[e];omega) hc (by rw[e];omega)
 | @UU id i off hg=>exact .UU (by rw[(hφ id db).2 (by simp[V.F8])];omega)
 | @Gm id i off g hg=>have e:=(hφ id db).2 (by simp[V.F8]);have:=az.Gm (P:=P) (μ:=μ') (φ:=φ') (id:=id) (i:=i) (off:=off) (g:=g) (by rw[e];omega);simp_all
 | @KB id i off s j off2 g hg hs=>have e:=(hφ id db).2 (by simp[V.F8]);exact .KB (by rw[e];omega) (by rw[e];omega)
 | @om id g hg=>exact .om (by rw[(hφ id db).1];omega)
 | @yl id g hg=>exact .yl (by rw[(hφ id db).1];omega)
 | @it id g hg=>exact .it (by rw[(hφ id db).1];omega)
 |fn h1 _ ih=>exact .fn h1 (λi p x hi hx=>ih i p x hi hx (λid hid=>⟨(hφ id (by simp only[V.has];exact cq (awU hi) hid)).1,λh2=>(hφ id (by simp only[V.has];exact cq (awU hi) hid)).2 (by simp only[V.F8];exact Il (awU hi) h2)⟩))
 |agg h1 _ h3 ih=>exact .agg h1 (λi p x hi hx=>ih i p x hi hx (λid hid=>⟨(hφ id (by simp only[V.has];exact cq (awU hi) hid)).1,λh2=>(hφ id (by simp only[V.has];exact cq (awU hi) hid)).2 (by simp only[V.F8];exact Il (awU hi) h2)⟩)) h3
 |b8 h1 _ ih=>exact .b8 h1 (λi p x hi hx=>ih i p x hi hx (λid hid=>⟨(hφ id (by simp only[V.has];exact cq (awU hi) hid)).1,λh2=>(hφ id (by simp only[V.has];exact cq (awU hi) hid)).2 (by simp only[V.F8];exact Il (awU hi) h2)⟩))
 |top=>exact .top
def az.I9(h:∀b o,μ b=U o->μ' b=U o)(hv:az P μ φ v x):az P μ' φ v x:=hv.mono h λ_ _=>rfl
def az.kill(id:Nat)(hv:az P μ φ v x):az P μ φ (zN id v) x:=by
 unfold zN;cases v.has id<;>simp
 .omega
 .exact .top
def az.Ja(id:Nat)(hv:az P μ φ v x):az P μ φ (sF id v) x:=by
 unfold sF;cases v.F8 id<;>simp
 .omega
 .exact .top
def Im{id j:Nat}(h:(sF id v).has j=Y):v.has j=Y/\(sF id v).F8 id=false:=by grind [sF,id,V.has]
def fK.pure{R:NH}{w:World}(h:aH P μ p x):fK P μ R w p x:=by
 unfold fK;split
 .cases h
 omega
def fK.acJ{R:NH}{w:World}(h:fK P μ R w p x)(hp:p.isRow=J):aH P μ p x:=by
 unfold fK at h;split at h
 .cases hp
 omega
def aH.OX(h:aH P μ p x):p.isRow=false:=by cases h<;>rfl
theorem Gx{id j:Nat}(h:(zN id v).has j=Y):v.has j=Y/\j≠id:=by grind [zN,id,V.has]
end
section
variable {P:Program} {G:Nat->Option (List PV)} {w0:bI} {μ:Ro} {φ:Nat->aT} {f:Fr} {m:Mem} {w:World}
@[simp] theorem avE(p:PV)(id:Nat):(V.pv p).has id=false:=bm
@[simp] theorem avA(id:Nat):V.top.has id=false:=bm
@[simp] theorem arC(id:Nat):V.il.has id=false:=bm
def acK(cs:List PV)(id:Nat):cX id (cs.map .pv)=false:=by
 induction cs with
 |nil=>rfl
 |cons c r ih=>simp[cX,ih]
theorem Eu(k:IntKind)(n:Int):(Lit.int k n).wf=Y↔k.min<=n/\n<=k.max:=by simp[Lit.wf]
def wf_wrap(k:IntKind)(n:Int):(Lit.int k (k.wrap n)).wf=true:=by rw[Eu];cases k<;>simp only[IntKind.wrap,IntKind.min,IntKind.max,IntKind.signed,IntKind.bits]<;>simp<;>(try split)<;>omega
def aH.one{p:PV}{x:Value}(h:aH P μ p x)(h1:∀cs,p≠.agg cs)(h2:∀cs,p≠.b8 cs)(h3:p≠.bad):x.oneCell'=true:=by cases h<;>first|rfl|exact S2 _ _|exact absurd rfl (h1 _)|exact absurd rfl (h2 _)|exact absurd rfl h3
theorem PA(c:Value):az P μ φ (L9 c) c:=by
 unfold L9;split
 .split
  .exact .pv (.int aa)
  .exact .top
 .exact .pv .bool
 .rename_i s;split
  .exact .pv (.str aa)
  .exact .top
 .exact .pv .nL
 .exact .il
 .exact .pv .sr
 .exact .pv .IU
 .exact .pv .ag0
 .exact .top
def PB(c:Value)(id:Nat):(L9 c).has id=false:=by unfold L9;split<;>(try split)<;>simp
theorem S3(c:Value)(id:Nat):(SS c).has id=false:=by
 unfold SS;split
 .rename_i cs;split
  .simp only[V.has];rw[Bool.eq_false_iff];intro h;have⟨v,hv,hh⟩:=dF.1 h;obtain⟨x,_,rfl⟩:=ayl.1 hv;rw[PB]at hh;cases hh
  rfl
 .exact PB _ _
def Dw(c:Value):az P μ φ (SS c) c:=by
 unfold SS;split
 .rename_i cs;split
  .rename_i hc;refine .agg ae (λi p x hi hx=>?_) (λi x hx=>?_)
   .grind [Option.some.injEq,PA]
   .rw[ayK]at hc;have:=hc x ao;cases x<;>first|rfl|(simp at this)
  .exact .top
 .exact PA _
end
section
variable {R:Type} {E:Env} {w0:bI} {μ:Ro} {φ:Nat->aT} {f:Fr} {m:Mem} {a:Act} {w:World}
theorem aL(h:Rel E.P E.aQ E.fn.ntmps w0 μ φ f m a w)(x:Operand):az E.P μ φ (cd E f x) (a.eval x)/\∀id,(cd E f x).has id=Y->(m id).isSome=true:=by
 cases x with
 |tmp t=>
  simp only[cd];cases e:Nat.blt t E.fn.ntmps with
  |true=>
   have bX:t<E.fn.ntmps:=by rwa[azt]at e
   have:=h.fr t;rw[wW bX]at this;exact⟨this,h.live t⟩
  |false=>exact⟨.top,λid hid=>by cases hid⟩
 |const c=>exact⟨Dw c,λid hid=>by simp_all[cd,S3]⟩
 |global g=>
  simp only[cd];cases hg:E.aQ g with
  |none=>exact⟨.top,ae⟩
  |some cs=>exact⟨.pv (h.aQ g cs hg).rep,ae⟩
 |func g=>
  simp only[cd];cases e:Nat.blt g Pg with
  |true=>refine⟨?_,by simp[V.has,cX]⟩;have:=az.fn (P:=E.P) (μ:=μ) (φ:=φ) (f:=g) (cs:=[]) (xs:= #[]) ae ae;rw[zS e]at this;exact this
  |false=>exact⟨.top,ae⟩
variable{p:PV}
theorem pN{sz j:Nat}{q:PV}(h:(aX sz p)[j]?=U q):j<sz/\q=cell p j:=by
 unfold aX at h;have key:∀(n o j:Nat),(fm p o n)[j]?=U q->j<n/\q=cell p (o+j):=by
  intro n;induction n with
  |zero=>intro o j hj;simp[fm]at hj
  |succ n ih=>
   intro o j hj;cases j with
   |zero=>simp_all[fm]
   |succ j=>simp only[fm,azV]at hj;grind
 grind
theorem bB(sz:Nat)(p:PV):(aX sz p).length=sz:=by
 unfold aX;have:∀n o,(fm p o n).length=n:=by
  intro n;induction n with
  |zero=>intro o;rfl
  |succ n ih=>intro o;simp[fm,ih]
 exact this _ _
theorem iq{sz:Nat}(h:p.cells.length=sz):aX sz p=p.cells:=by
 apply ayI;intro j;by_cases hj:j<sz
 .have h1:j<(aX sz p).length:=by rw[bB];omega
  have h2:=pN (ta h1);rw[ta h1,h2.2,cell,List.getD_eq_getElem?_getD,ta aa];rfl
 simp_all[ay0,bB]
def aH.Jb{P:Program}{μ:Ro}{n:Nat}{cs:List PV}{x:Value}(h:aH P μ (.agg cs) x)(hn:cs.length=n):aH P μ (.agg (aX n (.agg cs))) x:=by simp_all[iq,PV.cells]
variable{t:TypeId}{k:PV->Option R}
theorem qp{r:R}(h:j9 E t p k=U r):∃q,(∀(R':Type)(k':PV->Option R'),j9 E t p k'=k' q)/\k q=U r/\(∀(P:Program)(μ:Ro)x,aH P μ p x->aH P μ q x)/\q≠.bad/\(∀cs,q≠.b8 cs)/\(aS E.P t=J->∀cs,q≠.agg cs):=by
 unfold j9 at h;split at h
 .rename_i q hu;have⟨n,hn,hk⟩:=IS.1 h;have hp:p=.int q n:=by cases p<;>simp[asInt]at hn;simp_all
  grind [j9]
 .rename_i hu;have⟨n,hn,hk⟩:=IS.1 h;have hp:p=.bool n:=by cases p<;>simp[asBool]at hn;subst hn;rfl
  grind [j9]
 .rename_i hu;have⟨n,hn,hk⟩:=IS.1 h;have hp:p=.str n:=by cases p<;>simp[bU]at hn;subst hn;rfl
  grind [j9]
 .rename_i e hu;have⟨es,hn,hk⟩:=IS.1 h;refine⟨.rs (bq E.P e) es,λR' k'=>by simp[j9,hu,hn],hk,λP μ x hx=>?_,ae,ae,ae⟩;cases p<;>simp[aJ]at hn;split at hn
  .simp_all
  .split at hn
   .simp only[tc]at hn;subst hn;cases hx with
    |pj=>exact .pj
    |WW h=>exact .WW h
    |rs X h1 h2 _ _ _ _=>exact .WW h2
   .cases hn
 next fs hu=>have⟨u,hn,hk⟩:=IS.1 h;refine⟨_,λR' k'=>by simp[j9,hu,hn],hk,λP μ x hx=>?_,ae,ae,by simp[aS,hu]⟩;cases p<;>simp[asAgg]at hn;exact hx.Jb hn
 next n e hu=>have⟨u,hn,hk⟩:=IS.1 h;refine⟨_,λR' k'=>by simp[j9,hu,hn],hk,λP μ x hx=>?_,ae,ae,by simp[aS,hu]⟩;cases p<;>simp[asAgg]at hn;exact hx.Jb hn
 .rename_i e hu;unfold mZ at h;split at h
  .exact⟨.nL,λR' k'=>by simp[j9,hu,mZ],h,λP μ x hx=>hx,ae,ae,ae⟩
  .rename_i cs;split at h
   .rename_i hn;refine⟨.rp (aX (bq E.P e) (.agg cs)),λR' k'=>by simp[j9,hu,mZ,hn],h,λP μ x hx=>?_,ae,ae,ae⟩;cases hx with
    | @rp _ b o X a1 a2 a3=>
     have hc:∀i q,(aX (bq E.P e) (.agg cs))[i]?=U q->cs[i]?=U q:=λi q hq=>by
      have hi:=(No.1 hq).1;rw[bB]at hi;have⟨_,h6⟩:=pN hq;rw[h6];have sC:i<cs.length:=aa
      rw[ta sC];simp[cell,PV.cells,List.getD,ta sC]
     exact .rp X (λi q hq=>a1 i q (hc i q hq)) (λi q hq=>a2 i q (hc i q hq)) (λi hi=>a3 i (by rw[bB]at hi;omega))
   .cases h
  .cases h
 next kt et hu=>unfold dX at h;grind [j9,dX]
 .grind [j9]
 .rename_i ms hu;have⟨n,hn,hk⟩:=IS.1 h;have hp:p=.ifc n:=by cases p<;>simp[acD]at hn;subst hn;rfl
  grind [j9]
 .cases h
def Xp{v:V}{k:V->Option R}{r:R}(h:KE E t v k=U r):∃u,(∀(R':Type)(k':V->Option R'),KE E t v k'=k' u)/\k u=U r/\(∀(P:Program)(μ:Ro)(φ:Nat->aT)x,az P μ φ v x->az P μ φ u x)/\(∀id,u.has id=Y->v.has id=Y):=by
 unfold KE at h;split at h
 .obtain⟨q,h1,h2,h3,_⟩:=qp h;exact⟨.pv q,λR' k'=>by simp[KE,h1],h2,λP μ φ x hx=>by cases hx with|pv hp=>exact .pv (h3 _ _ _ hp),ae⟩
 .cases h
 .rename_i h1 h2;split at h
  next hu=>refine⟨v,λR' k'=>?_,h,λ_ _ _ _ hx=>hx,λ_ h=>h⟩;unfold KE;simp_all
  .cases h
def Gy{r:R}(h:j9 E t p k=U r):∃d,E.P.underlying t=U d:=by unfold j9 at h;grind
def S4{v:V}{k:V->Option R}{r:R}(h:KE E t v k=U r):∃d,E.P.underlying t=U d:=by
 unfold KE at h;split at h
 .exact Gy h
 .cases h
 .split at h
  next hu=>exact aym.1 hu
  .cases h
end
section
variable {P:Program} {G:Nat->Option (List PV)} {w0:bI} {μ:Ro} {φ:Nat->aT} {m:Mem} {w:World}
variable{t:TypeId}{d:TypeDesc}
theorem NK(h:P.underlying t=U d):(P.info? t).map (·.size)=U (bq P t):=by grind [Program.underlying,bq]
theorem PC(h:aS P t=Y):∃d,P.underlying t=U d/\d.isRow=true:=by unfold aS at h;grind
def Mn(hu:P.underlying t=U d):(isAgg t).run P w=.ok (aS P t) w:=by unfold isAgg;simp only[Sem.run_bind,run_underlying hu,Result.andThen_ok,aS,hu];cases d<;>rfl
def NL(hu:P.underlying t=U d):(sizeOf t).run P w=.ok (bq P t) w:=by
 have:=NK hu;cases hi:P.info? t with
 |none=>simp[hi]at this
 |some i=>simp[sizeOf,typeInfo,hi,bq]
variable{o:Nat}
def kW{b:Nat}{y:Value}(hu:P.underlying t=U d)(ha:aS P t=J)(hc:w.cell? ⟨b,o,Z⟩=U y):(Instr.loadAt t (.pointer (U ⟨b,o,Z⟩))).run P w=.ok y w:=by simp only[Instr.loadAt,Instr.sureAddr,loadVar,Sem.run_bind,Sem.run_pure,Result.andThen_ok,Mn hu,ha];simp[load,Sem.run,hc]
def sJ{b:Nat}{cs:List Value}(ha:aS P t=Y)(hc:w.rangeAt b o cs)(hl:cs.length=bq P t):(Instr.loadAt t (.pointer (U ⟨b,o,Z⟩))).run P w=.ok (.agg cs.toArray) w:=by grind [PC,run_loadAt_mid,NK]
theorem aR.cellAt(hM:aR P G w0 μ φ m w){b o:Nat}{x:Value}(h:cellAt μ b o=U x):w.cell? ⟨b,o,Z⟩=U x:=by
 unfold Go.Ab.cellAt at h;split at h
 next c t fz hb=>simp[World.cell?,hM.ro _ _ hb,h]
 .cases h
theorem ez{g:Nat}{c:Array Value}{T:TypeId}{fz:Nat×Nat}(h:w.heap[g]?=U (.cells c T fz)):w.cell? ⟨g,o,Z⟩=c[o]?:=by simp[World.cell?,h]
theorem kX{T:Type}{l:List T}{n i:Nat}{x:T}(h:(l.take n)[i]?=U x):i<n/\l[i]?=U x:=ao
theorem vP{T:Type}{l:List T}{n i:Nat}{x:T}(h:((l.drop o).take n)[i]?=U x):i<n/\l[o+i]?=U x:=ao
def aH.anG{cs:List PV}{b n:Nat}{X:Nat->Value}(hM:aR P G w0 μ φ m w)(h1:∀(i:Nat)p,cs[i]?=U p->Go.Ab.cellAt μ b (o+i)=U (X i))(h2:∀(i:Nat)p,cs[i]?=U p->aH P μ p (X i))(h3:∀i:Nat,i<cs.length->(X i).oneCell'=Y)(hn:n<=cs.length):w.rangeAt b o ((I n).map X)/\aH P μ (.agg (cs.take n)) (.agg ((I n).map X).toArray):=by
 have hX:∀i x,((I n).map X)[i]?=U x->i<n/\x=X i:=ao
 refine⟨λj v hv=>?_,.agg ah (λi p x hi hx=>?_) (λi x hx=>?_)⟩
 .obtain⟨hj,rfl⟩:=hX j v hv;exact hM.cellAt (h1 j _ (ta aa))
 .grind
 grind
end
section
variable {R:Type} {E:Env}
def Quiet(v:V)(m:Mem):Prop:=∀id,v.has id=Y->(m id).isSome=Y
variable{cs:List V}
def jE{g:V->Option PV}{ps:List PV}(h:xK g cs=U ps):ps.length=cs.length/\∀(i:Nat)p,ps[i]?=U p->∃v,cs[i]?=U v/\g v=U p:=by
 induction cs generalizing ps with
 |nil=>simp[xK]at h;subst h;simp
 |cons c r ih=>simp only[xK]at h;have⟨p,hp,h⟩:=IS.1 h;have⟨ps',u9,h⟩:=IS.1 h;grind
variable{P:Program}{μ:Ro}{φ:Nat->aT}
def akF{xs:Array Value}(h:az P μ φ (.agg cs) (.agg xs)):az P μ φ (agM cs) (.agg xs):=by
 unfold agM;split
 .rename_i ps u9;have⟨f1,f2⟩:=jE u9;cases h with
  |agg h1 h2 h3=>
   refine .pv (.agg aa (λi p x hi hx=>?_) h3);have⟨v,hv,hp⟩:=f2 i p hi;have hvp:v=.pv p:=by cases v<;>simp[vO]at hp;subst hp;rfl
   subst hvp;cases h2 i _ x hv hx with
   |pv h=>exact h
 .exact h
variable{id:Nat}
def ag1(h:(agM cs).has id=Y):(V.agg cs).has id=true:=by
 unfold agM at h;split at h
 .simp[V.has]at h
 .exact h
variable{s off:Nat}{t:TypeId}{e:PV}
def S5{k:V->Option R}{r:R}(h:Co E s t e off k=U r):∃v,(∀(R':Type)(k':V->Option R'),Co E s t e off k'=k' v)/\k v=U r/\(∀id,v.has id=J)/\∀(μ:Ro)(φ:Nat->aT)(w:World)(g o:Nat)(c:Array Value)(T:TypeId),w.heap[g]?=U (.cells c T (0,0))->e.cells.length=s->(∀(j:Nat)p x,e.cells[j]?=U p->c[o+j]?=U x->aH E.P μ p x)->(∀(i:Nat)(x:Value),i<o+s->c[i]?=U x->x.oneCell'=Y)->o+s<=c.size->∃y,(Instr.loadAt t (.pointer (U ⟨g,o+off,Z⟩))).run E.P w=.ok y w/\az E.P μ φ v y:=by
 unfold Co at h;split at h
 .rename_i ha;split at h
  .rename_i hb;refine⟨_,λR' k'=>by simp[Co,ha,hb],h,ae,λμ φ w g o c T hg hs hc h1 hl=>?_⟩;have hR:w.rangeAt g (o+off) ((c.toList.drop (o+off)).take (bq E.P t)):=λj v hv=>by grind [vP,ez]
   refine⟨_,sJ ha hR ah,.pv (.agg (by simp[bB];omega) (λi p x hi hx=>?_) (λi x hx=>?_))⟩
   .grind [vP,iq,Nat.add_assoc]
   grind
  .cases h
 .rename_i ha;have ha:aS E.P t=false:=by simpa using ha
  split at h
  next p hp=>have⟨q,h1,h2,h3,_⟩:=qp h;have⟨d,hu⟩:=Gy h;refine⟨.pv q,λR' k'=>by simp[Co,ha,hp,h1],h2,ae,λμ φ w g o c T hg hs hc _ hl=>?_⟩;rw[iq hs]at hp;have aes:off<e.cells.length:=(No.1 hp).1;have hx:c[o+off]?=U c[o+off]:=aq5 aa;exact⟨_,kW hu ha (by rw[ez hg];omega),.pv (h3 _ _ _ (hc off p _ hp hx))⟩
  .cases h
variable{p:PV}
def aet{k:PV->Option R}{r:R}(h:j9 E t p k=U r):p.isRow=J/\p≠.bad:=by
 cases p with
 |lJ s es=>exfalso;unfold j9 at h;split at h<;>simp[asInt,asBool,bU,aJ,asAgg,acD,dX,mZ]at h
 |bad=>exfalso;unfold j9 at h;split at h<;>simp[asInt,asBool,bU,aJ,asAgg,acD,dX,mZ]at h
 |_=>exact⟨rfl,ae⟩
def S6(h:cell e off=p)(hp:p≠.bad):e.cells[off]?=U p:=by grind [cell,absurd]
def Xq{rs:List PV}(h:fZ s p=U rs):p=.lJ s rs:=by unfold fZ at h;grind
variable{w:World}{et:TypeId}{es:List PV}{i:Nat}
theorem bw.cell{sz:Nat}(h:bw P μ φ w id sz et es){g:Nat}(hg:(φ id).g=U g)(he:es[i]?=U e)(hp:e.cells[off]?=U p):∃c T x,w.heap[g]?=U (.cells c T (0,0))/\c[i*sz+off]?=U x/\fK P μ ((φ id).row i off) w p x/\x.oneCell'=true:=by
 obtain⟨a1,a2,a3,a4,a5,a6,a7⟩:=h;rw[hg]at a7;obtain⟨c,T,c1,c2,c3,c4,c5⟩:=a7;have hi:i<es.length:=(No.1 he).1;have ho:off<sz:=ao
 have h1:(i+1)*sz<=es.length*sz:=ax8 _ aa;have h2:es.length*sz<=(φ id).cap*sz:=ax8 _ c3;rw[ayX]at h1;have bX:i*sz+off<c.size:=aa
 exact⟨c,T,c[i*sz+off],c1,aq5 bX,c4 i e off p _ he hp (aq5 bX),c5 (i*sz+off) _ aa (aq5 bX)⟩
def bw.row{sz:Nat}(h:bw P μ φ w id sz et es){rs:List PV}(he:es[i]?=U e)(hr:fZ s (Go.Ab.cell e off)=U rs):∃g x,(φ id).g=U g/\w.cell? ⟨g,i*sz+off,Z⟩=U x/\gv P μ ((φ id).row i off) w s rs x/\e.cells[off]?=U (.lJ s rs):=by
 have hp:=S6 (Xq hr) ae;cases hg:(φ id).g with
 |none=>obtain⟨a1,a2,a3,a4,a5,a6,a7⟩:=h;simp_all
 |some g=>have⟨c,_,x,c1,c2,c3,_⟩:=h.cell hg he hp;exact⟨g,x,rfl,by rw[ez c1];omega,c3,hp⟩
def az.anH{ν:Ro}{x:Value}(h:az P μ (λ_=>((φ id).row i off).up) (.os 0) x):az P ν φ (.Gm id i off) x:=by
 cases h with
 |BG h=>exact .UU h
 |os h=>exact .Gm h
def az.aak{ν:Ro}{x:Value}(h:az P μ φ (.Gm id i off) x):az P ν (λ_=>((φ id).row i off).up) (.os 0) x:=by
 cases h with
 |UU h=>exact .BG h
 |Gm h=>exact .os (id:=0) (φ:=λ_=>((φ id).row i off).up) h
def S7{s:Nat}:∀{es:List PV}{k:Nat}{p:PV},(KC s es)[k]?=U p->∃i j e,k=i*s+j/\j<s/\es[i]?=U e/\(aX s e)[j]?=U p
 |[],k,p,h=>by simp[KC]at h
 |e::es,k,p,h=>by
  simp only[KC]at h;rw[ayJ,bB]at h;split at h
  .exact⟨0,k,e,aa,‹_›,rfl,h⟩
  .obtain⟨i,j,e',h1,h2,h3,h4⟩:=S7 h;exact⟨i+1,j,e',by rw[ayX];omega,h2,by simpa using h3,h4⟩
def S8{s:Nat}:∀{es:List PV},(KC s es).length=es.length*s
 |[]=>by simp[KC]
 |e::es=>by simp only[KC,ax9,bB,S8,al6,ayX];omega
def S9(h:Mc E t s i off=Y):aS E.P t=Y/\i=0/\off=0/\∃n e,E.P.underlying t=U (.array n e)/\bq E.P e=s/\aS E.P e=true:=by
 unfold Mc at h;split at h
 next n e hu=>simp only[T1]at h;grind [aS,Nat.eq_of_beq_eq_true]
 .cases h
def ba.whole(hA:ba P μ φ w id s et es){g:Nat}(hg:(φ id).g=U g):∃xs:List Value,xs.length=es.length*s/\w.rangeAt g 0 xs/\aH P μ (.agg (KC s es)) (.agg xs.toArray):=by
 obtain⟨a1,a2,a3,a4,a5,a6,a7⟩:=hA;rw[hg]at a7;obtain⟨c,T,c1,c2,c3,c4,c5⟩:=a7;have hle:es.length*s<=c.size:=ayn (ax8 _ c3) c2;refine⟨c.toList.take (es.length*s),ah,λj v hv=>?_,.agg (by rw[S8];simp;omega) (λk p x hp hx=>?_) (λk x hx=>?_)⟩
 .grind [ez]
 .obtain⟨i,j,e,rfl,hj,he,hp⟩:=S7 hp;grind [iq]
 grind
def Py{own:Bool}{a:V}{m:Mem}{k:V->bS->Option R}{r:R}(h:yN E own t a m k=U r):∃v ft,(∀m2:Mem,(∀x∈ft,m2 x.2=m x.2)->∀(R':Type)(k':V->bS->Option R'),yN E own t a m2 k'=k' v ft)/\k v ft=U r/\(∀x∈ft,x.1=J)/\∀(G:Nat->Option (List PV))(w0:bI)(μ:Ro)(φ:Nat->aT)(w:World)(x:Value),aR E.P G w0 μ φ m w->az E.P μ φ a x->∃y,(Instr.loadAt t x).run E.P w=.ok y w/\az E.P μ φ v y/\Quiet v m:=by
 unfold yN at h;split at h
 .rename_i cs;split at h
  .rename_i ha;split at h
   .rename_i hn;refine⟨_,_,λm2 _ R' k'=>by simp[yN,ha,hn],h,ae,λG w0 μ φ w x hM hx=>?_⟩;cases hx with
    |pv hp=>cases hp with
     |rp X h1 h2 h3=>have⟨hr,hv⟩:=aH.anG hM h1 h2 h3 hn;exact⟨_,sJ ha hr ae,.pv hv,by simp[Quiet]⟩
   .cases h
  .rename_i ha;have ha:aS E.P t=false:=by simpa using ha
   have⟨p,Ta,h⟩:=IS.1 h;have hp1:cs[0]?=U p:=by simp_all[aAi]
   have⟨q,h1,h2,h3,_⟩:=qp h;refine⟨_,_,λm2 _ R' k'=>by simp[yN,ha,Ta,h1],h2,ae,λG w0 μ φ w x hM hx=>?_⟩;have⟨d,hu⟩:=Gy h;cases hx with
   |pv hp=>cases hp with
    |rp X g1 g2 g3=>have hc:=hM.cellAt (g1 0 p hp1);exact⟨_,kW hu ha aa,.pv (h3 _ _ _ (g2 0 p hp1)),by simp[Quiet]⟩
 .rename_i id off;split at h
  .rename_i cs hm;split at h
   .rename_i ha;split at h
    .rename_i hn;refine⟨_,_,λm2 dC R' k'=>by simp[yN,ha,hn,dC (J,id) ae,hm],h,ae,λG w0 μ φ w x hM hx=>?_⟩;cases hx with
     | @op _ _ g hg=>
      obtain⟨g',c,T,dH,hh,hs,hv,h1,Sk⟩:=hM.eE id _ hm;rw[hg]at dH;simp only[tc]at dH;subst dH;have hR:w.rangeAt g off ((c.toList.drop off).take (bq E.P t)):=λj v hv=>by grind [vP,ez]
      refine⟨_,sJ ha hR ah,akF (.agg ah (λi p x hi hx=>?_) (λi x hx=>?_)),?_⟩
      .grind
      .grind
      .intro BE hid;have hid:=ag1 hid;simp only[V.has]at hid;have⟨v,hv,hh⟩:=dF.1 hid;exact hM.hU id cs BE hm (cq (azO (ay8 hv)) hh)
    .cases h
   .rename_i ha;have ha:aS E.P t=false:=by simpa using ha
    split at h
    .rename_i ps u9;have⟨p,Ta,h⟩:=IS.1 h;have⟨q,h1,h2,h3,_⟩:=qp h;refine⟨_,_,λm2 dC R' k'=>by simp[yN,ha,dC (J,id) ae,hm,u9,Ta,h1],h2,ae,λG w0 μ φ w x hM hx=>?_⟩;cases hx with
     | @op _ _ g hg=>
      obtain⟨g',c,T,dH,hh,hs,hvv,_⟩:=hM.eE id _ hm;rw[hg]at dH;simp only[tc]at dH;subst dH;have⟨f1,f2⟩:=jE u9;have⟨bX,hp1⟩:=No.1 Ta;have aes:off<cs.length:=aa
      have⟨v,hv,sD⟩:=f2 off p Ta;have hvp:v=.pv p:=by cases v<;>simp[vO]at sD;subst sD;rfl
      subst hvp;have hx:c[off]?=U c[off]:=aq5 aa;have⟨d,hu⟩:=Gy h;have hr:=hvv off _ _ hv hx;cases hr with
      |pv hr=>exact⟨_,kW hu ha (by rw[ez hh];omega),.pv (h3 _ _ _ hr),by simp[Quiet]⟩
    .rename_i hnp;split at h
     .rename_i v hv;have⟨u,h1,h2,h3,h4⟩:=Xp h;refine⟨_,_,λm2 dC R' k'=>by simp[yN,ha,dC (J,id) ae,hm,hnp,hv,h1],h2,ae,λG w0 μ φ w x hM hx=>?_⟩;cases hx with
      | @op _ _ g hg=>obtain⟨g',c,T,dH,hh,hs,hvv,_⟩:=hM.eE id _ hm;rw[hg]at dH;simp only[tc]at dH;subst dH;have aes:off<cs.length:=(No.1 hv).1;have hx:c[off]?=U c[off]:=aq5 aa;have⟨d,hu⟩:=S4 h;refine⟨_,kW hu ha (by rw[ez hh];omega),h3 _ _ _ _ (hvv off v _ hv hx),λBE hid=>?_⟩;exact hM.hU id cs BE hm (cq (awU hv) (h4 BE hid))
     .cases h
  .cases h
 .rename_i id i off;have key:∀(sz:Nat)(et:TypeId)(es:List PV),(m id=U (.arr sz et es)\/m id=U (.xJ sz et es))->((es[i]?).bind λe=>Co E sz t e off λv=>k v [(J,id)])=U r->∃v,(∀(R':Type)(k':V->bS->Option R'),((es[i]?).bind λe=>Co E sz t e off λv=>k' v [(J,id)])=k' v [(J,id)])/\k v [(J,id)]=U r/\∀(G:Nat->Option (List PV))(w0:bI)(μ:Ro)(φ:Nat->aT)(w:World)(x:Value),aR E.P G w0 μ φ m w->az E.P μ φ (.oe id i off) x->∃y,(Instr.loadAt t x).run E.P w=.ok y w/\az E.P μ φ v y/\Quiet v m:=by
   intro sz et es hm hb;have⟨e,he,hb⟩:=IS.1 hb;have⟨v,h1,h2,h3,h4⟩:=S5 hb;refine⟨v,λR' k'=>by simp[he,h1],h2,λG w0 μ φ w x hM hx=>?_⟩;have hA:ba E.P μ φ w id sz et es:=by
    rcases hm with hm|hm
    .exact hM.eE id _ hm
    .exact(hM.eE id _ hm).1
   cases hx with
   | @oe _ _ _ g hg=>
    obtain⟨a1,a2,a3,a4,a5,a6,a7⟩:=hA;rw[hg]at a7;obtain⟨c,T,c1,c2,c3,c4,c5⟩:=a7;have hi:i<es.length:=(No.1 he).1;obtain⟨y,hy,hv⟩:=h4 μ φ w g (i*sz) c T c1 (a5 i e he) (λj p x hj hx=>c4 i e j p x he hj hx) (λi' x sC hx=>c5 i' x (by
     have:(i+1)*sz<=es.length*sz:=ax8 _ aa;grind) hx) (by
     have:(i+1)*sz<=(φ id).cap*sz:=ax8 _ aa;grind)
    rw[a2];exact⟨y,hy,hv,λid hid=>av⟩
  split at h
  .rename_i sz et es hm;cases hw:Mc E t sz i off with
   |true=>
    rw[hw]at h;simp only[cond_true]at h;split at h
    .rename_i hl;obtain⟨ha,rfl,rfl,_⟩:=S9 hw;refine⟨_,_,λm2 dC R' k'=>by have:=dC (J,id) ae;simp_all[yN,cond_true,BY],h,ae,λG w0 μ φ w x hM hx=>?_⟩;have hA:ba E.P μ φ w id sz et es:=hM.eE id _ hm;cases hx with
     | @oe _ _ _ g hg=>have⟨xs,x1,x2,x3⟩:=hA.whole hg;rw[aBp];exact⟨_,sJ ha x2 aa,.pv x3,by simp[Quiet]⟩
    .cases h
   |false=>rw[hw]at h;have⟨v,h1,h2,h3⟩:=key sz et es (.inl hm) h;exact⟨v,_,λm2 dC R' k'=>by have:=dC (J,id) ae;simp_all[yN,cond_false],h2,ae,h3⟩
  next sz et es hm=>have⟨v,h1,h2,h3⟩:=key sz et es (.inr hm) h;exact⟨v,_,λm2 dC R' k'=>by have:=dC (J,id) ae;simp_all[yN],h2,ae,h3⟩
  .rename_i sz et es hm;split at h
   .cases h
   .rename_i ha;have⟨e,he,h⟩:=IS.1 h;have ha':aS E.P t=false:=by simpa using ha
    split at h
    .rename_i ho;split at h
     .rename_i R8 hu;have⟨rs,hr,h⟩:=IS.1 h;refine⟨_,_,λm2 dC R' k'=>by have:=dC (J,id) ae;simp_all[yN,IT,ayg,By],h,ae,λG w0 μ φ w x hM hx=>?_⟩;have hN:bw E.P μ φ w id sz et es:=hM.eE id _ hm;have⟨g,y,hg,hc,qU,_⟩:=hN.row he hr;cases hx with
      |oe dH=>rw[hg]at dH;simp only[tc]at dH;subst dH;rw[hN.2.1];refine⟨y,kW hu ha' hc,.anH qU.2,λj hj=>?_⟩;have:=T0 hj;subst this;rw[hm];rfl
     .cases h
    .rename_i ho;have⟨q,h1,h2,h3,_⟩:=qp h;have⟨hq1,hq2⟩:=aet h;have⟨d,hu⟩:=Gy h;refine⟨_,_,λm2 dC R' k'=>by have:=dC (J,id) ae;simp_all[yN,IT,ayg,OF,AI],h2,ae,λG w0 μ φ w x hM hx=>?_⟩;have hN:bw E.P μ φ w id sz et es:=hM.eE id _ hm;cases hx with
     |oe hg=>have⟨c,_,y,c1,c2,c3,_⟩:=hN.cell hg he (S6 rfl hq2);rw[hN.2.1];exact⟨y,kW hu ha' (by rw[ez c1];omega),.pv (h3 _ _ _ (c3.acJ hq1)),by simp[Quiet]⟩
  .cases h
 .rename_i id i off s j off2;split at h
  .rename_i sz et es hm;have⟨e,he,h⟩:=IS.1 h;have⟨rs,hr,h⟩:=IS.1 h;have⟨q,hq,h⟩:=IS.1 h;have⟨v,h1,h2,h3,h4⟩:=S5 h;refine⟨v,_,λm2 dC R' k'=>by have:=dC (J,id) ae;simp_all[yN,ayg],h2,ae,λG w0 μ φ w x hM hx=>?_⟩;have hN:bw E.P μ φ w id sz et es:=hM.eE id _ hm;have⟨g,y,hg,hc,⟨⟨R8,hA⟩,hV⟩,_⟩:=hN.row he hr;cases hx with
   | @KB _ _ _ _ _ _ g' dH hs=>obtain⟨a1,a2,a3,a4,a5,a6,a7⟩:=hA;have hgu:((φ id).row i off).up.g=U g':=dH;rw[hgu]at a7;obtain⟨c,T,c1,c2,c3,c4,c5⟩:=a7;have hj:j<rs.length:=(No.1 hq).1;have e1:(j+1)*s<=rs.length*s:=ax8 _ aa;have e2:rs.length*s<=((φ id).row i off).up.cap*s:=ax8 _ c3;have e3:((φ id).row i off).up.cap*s<=c.size:=c2;rw[ayX]at e1;obtain⟨y,hy,hv⟩:=h4 μ φ w g' (j*s) c T c1 (a5 j q hq) (λl p x hl hx=>c4 j q l p x hq hl hx) (λi' x sC hx=>c5 i' x aa hx) aa;exact⟨y,hy,hv,λid hid=>av⟩
  .cases h
 .cases h
end
section
variable {R:Type} {E:Env}
variable{s t:TypeId}{j o:Nat}
def NM(h:KF E s j=U (o,t)):∃fs f,E.P.underlying s=U (.struct fs)/\fs[j]?=U f/\f.offset=o/\f.type=t/\bq E.P t≠0:=by unfold KF at h;grind
variable{P:Program}
def Io(h:bq P t≠0):∃i,P.info? t=U i/\i.size=bq P t:=by
 unfold bq at*;cases hi:P.info? t with
 |none=>simp[hi]at h
 |some i=>simp
variable{w:World}
def mG(h:bq P t≠0):(sizeOf t).run P w=.ok (bq P t) w:=by have⟨i,hi,hs⟩:=Io h;simp[sizeOf,typeInfo,hi,hs]
def BP{fs:Array Field}{f:Field}{b:Nat}(hu:P.underlying s=U (.struct fs))(hf:fs[j]?=U f)(hz:bq P f.type≠0):(Instr.fieldAt s (.pointer (U ⟨b,o,Z⟩)) j).run P w=.ok (.pointer (U ⟨b,o+f.offset,Z⟩)) w:=by simp_all[Instr.fieldAt,run_underlying,Instr.sureAddr,fieldPlace,mG,Addr.add_mid]
theorem Dx{T:Type}{l:List T}{i:Nat}{x:T}(h:(l.drop o)[i]?=U x):l[o+i]?=U x:=av
def aH.UW{μ:Ro}{cs:List PV}{b:Nat}(n:Nat)(h:aH P μ (.rp cs) (.pointer (U ⟨b,o,Z⟩))):aH P μ (.rp (cs.drop n)) (.pointer (U ⟨b,o+n,Z⟩)):=by
 cases h with
 |rp X h1 h2 h3=>
  refine .rp (λi=>X (n+i)) (λi p hi=>?_) (λi p hi=>h2 _ p (Dx hi)) (λi hi=>h3 _ ?_)
  .grind
  .simp at hi;omega
variable{x:V}{k:V->Option R}{r:R}
def Jc(h:nM E s x j k=U r):∃v,(∀(R':Type)(k':V->Option R'),nM E s x j k'=k' v)/\k v=U r/\(∀id,v.has id=x.has id)/\∀(μ:Ro)(φ:Nat->aT)(w:World)(y:Value),az E.P μ φ x y->∃z,(Instr.fieldAt s y j).run E.P w=.ok z w/\az E.P μ φ v z:=by
 unfold nM at h;split at h
 .rename_i o t ho;obtain⟨fs,f,hu,hf,rfl,rfl,hz⟩:=NM ho;split at h
  .rename_i cs;refine⟨_,λR' k'=>by simp[nM,ho],h,ae,λμ φ w y hy=>?_⟩;cases hy with
   |pv hp=>cases hp with
    |rp X h1 h2 h3=>exact⟨_,BP hu hf hz,.pv (aH.UW _ (.rp X h1 h2 h3))⟩
  .rename_i id off;refine⟨_,λR' k'=>by simp[nM,ho],h,db,λμ φ w y hy=>?_⟩;cases hy with
   |op hg=>exact⟨_,BP hu hf hz,.op hg⟩
  .rename_i id i off;refine⟨_,λR' k'=>by simp[nM,ho],h,db,λμ φ w y hy=>?_⟩;cases hy with
   |oe hg=>exact⟨_,BP hu hf hz,by rw[ayU];exact .oe hg⟩
  .refine⟨_,λR' k'=>by simp[nM,ho],h,db,λμ φ w y hy=>?_⟩;cases hy with
   |KB hg hs=>exact⟨_,BP hu hf hz,by rw[ayU];exact .KB hg hs⟩
  .cases h
 .cases h
def kY{e:TypeId}{q:IntKind}{i:Int}{ad:Addr}{len cap:Nat}(hu:P.underlying t=U (.slice e))(hz:bq P e≠0)(h0:0<=i)(h1:i<(len:Int)):(Instr.indexAt t (.slice (U ad) len cap) (.int q i)).run P w=.ok (.pointer (U (ad.add (i.toNat*bq P e)))) w:=by simp[Instr.indexAt,asIntOf,run_underlying hu,h0,h1,mG hz]
def qq{e:TypeId}{n:Nat}{q:IntKind}{i:Int}{ad:Addr}(hu:P.underlying t=U (.array n e))(hz:bq P e≠0)(h0:0<=i)(h1:i<(n:Int)):(Instr.indexAt t (.pointer (U ad)) (.int q i)).run P w=.ok (.pointer (U (ad.add (i.toNat*bq P e)))) w:=by simp[Instr.indexAt,asIntOf,run_underlying hu,h0,h1,mG hz,Instr.sureAddr]
def akG{es:List PV}{i:Int}{p:PV}(h:uW es i=U p):0<=i/\es[i.toNat]?=U p/\i<(es.length:Int):=by grind [uW]
def aH.acL{μ:Ro}{sz:Nat}{es:List PV}{x:Value}{n:Nat}{p:PV}(h:aH P μ (.rs sz es) x)(hp:es[n]?=U p):∃b o cap,x=.slice (U ⟨b,o,Z⟩) es.length cap/\aH P μ (.rp (aX sz p)) (.pointer (U ⟨b,o+n*sz,Z⟩)):=by
 cases h with
 |pj=>simp at hp
 |WW _=>simp at hp
 | @rs _ _ b o cap X h1 h2 h3 h4 h5 h6=>refine⟨b,o,cap,rfl,?_⟩;rw[iq (h3 n p hp)];exact .rp (X n) (λi q hi=>h4 n p i q hp hi) (λi q hi=>h5 n p i q hp hi) (λi hi=>h6 n p i _ hp (ta hi))
def Sl{ix:V}{m:Mem}{k:V->bS->Option R}(h:ef E t x ix m k=U r):∃v ft,(∀m2:Mem,(∀x∈ft,m2 x.2=m x.2)->∀(R':Type)(k':V->bS->Option R'),ef E t x ix m2 k'=k' v ft)/\k v ft=U r/\(∀x∈ft,x.1=J)/\(∀id,v.has id=Y->x.has id=Y)/\∀(G:Nat->Option (List PV))(w0:bI)(μ:Ro)(φ:Nat->aT)(w:World)(y z:Value),aR E.P G w0 μ φ m w->az E.P μ φ x y->az E.P μ φ ix z->∃u,(Instr.indexAt t y z).run E.P w=.ok u w/\az E.P μ φ v u:=by
 unfold ef at h;split at h
 .rename_i q i;split at h
  .rename_i e s es hu;split at h
   .rename_i hs;have⟨p,hp,hk⟩:=IS.1 h;refine⟨_,_,λm2 _ R' k'=>by simp only[ef,hu];rw[BY hs,hp];rfl,hk,ae,ae,λG w0 μ φ w y z hM hy hz=>?_⟩;have⟨h0,hp,hl⟩:=akG hp;cases hz with
    |pv hz=>cases hz with
     |int Tb=>
      cases hy with
      |pv hy=>obtain⟨b,o,cap,rfl,hr⟩:=hy.acL hp;refine⟨_,kY hu aa h0 hl,?_⟩;rw[Addr.add_mid,<-hs.1];exact .pv hr
   .cases h
  .rename_i e id hu;have key:∀(s:Nat)(et:TypeId)(es:List PV),(m id=U (.arr s et es)\/m id=U (.xJ s et es))->s=bq E.P e/\0<s->aU i es.length->∀(G:Nat->Option (List PV))(w0:bI)(μ:Ro)(φ:Nat->aT)(w:World)(y z:Value),aR E.P G w0 μ φ m w->az E.P μ φ (.os id) y->az E.P μ φ (.pv (.int q i)) z->∃u,(Instr.indexAt t y z).run E.P w=.ok u w/\az E.P μ φ (.oe id i.toNat 0) u:=by
    intro s et es hm hs hr G w0 μ φ w y z hM hy hz;have hA:ba E.P μ φ w id s et es:=by
     rcases hm with hm|hm
     .exact hM.eE id _ hm
     .exact(hM.eE id _ hm).1
    obtain⟨a1,a2,a3,a4,a5,a6,a7⟩:=hA;cases hz with
    |pv hz=>cases hz with
     |int Tb=>
      cases hy with
      |BG hg=>grind [aU]
      | @os _ g hg=>refine⟨_,kY hu aa hr.1 (by rw[a1];exact hr.2),?_⟩;rw[Addr.add_mid];have:=az.oe (P:=E.P) (μ:=μ) (φ:=φ) (id:=id) (i:=i.toNat) (off:=0) hg;simp_all
   split at h
   .rename_i s et es hm;split at h
    .rename_i hs;split at h
     next hr=>exact⟨_,_,λm2 dC R' k'=>by have:=dC (J,id) ae;simp only at this;simp only[ef,hu,this,hm];grind,h,ae,db,key s et es (.inl hm) hs hr⟩
     .cases h
    .cases h
   .rename_i s et es hm;split at h
    .rename_i hs;split at h
     next hr=>exact⟨_,_,λm2 dC R' k'=>by have:=dC (J,id) ae;simp only at this;simp only[ef,hu,this,hm];grind,h,ae,db,key s et es (.inr hm) hs hr⟩
     .cases h
    .cases h
   .rename_i s et es hm;split at h
    .rename_i hs;split at h
     .rename_i hr;refine⟨_,_,λm2 dC R' k'=>by have:=dC (J,id) ae;simp only at this;simp only[ef,hu,this,hm];grind,h,ae,db,λG w0 μ φ w y z hM hy hz=>?_⟩;have hA:bw E.P μ φ w id s et es:=hM.eE id _ hm;obtain⟨a1,a2,a3,a4,a5,a6,a7⟩:=hA;cases hz with
      |pv hz=>cases hz with
       |int Tb=>
        cases hy with
        |BG hg=>grind [aU]
        | @os _ g hg=>refine⟨_,kY hu aa hr.1 (by rw[a1];exact hr.2),?_⟩;rw[Addr.add_mid];have:=az.oe (P:=E.P) (μ:=μ) (φ:=φ) (id:=id) (i:=i.toNat) (off:=0) hg;simp_all
     .cases h
    .cases h
   .rename_i cs hm;split at h
    .rename_i hs;refine⟨_,_,λm2 dC R' k'=>by have:=dC (J,id) ae;simp_all[ef,BY],h,ae,db,λG w0 μ φ w y z hM hy hz=>?_⟩;obtain⟨g,c,T,hg,hh,sB,hv,Dy,Sk⟩:=hM.eE id _ hm;cases hz with
     |pv hz=>cases hz with
      |int Tb=>
       cases hy with
       |BG dH=>simp_all
       | @os _ g' dH=>refine⟨_,kY hu aa hs.2.1 (by rw[Sk];exact hs.2.2),?_⟩;rw[Addr.add_mid,hs.1];have:=az.op (P:=E.P) (μ:=μ) (φ:=φ) (id:=id) (off:=i.toNat) dH;simpa using this
    .cases h
   .cases h
  .rename_i e id i0 off hu;split at h
   .rename_i s0 et0 es hm;split at h
    .rename_i fa;have⟨e0,he,h⟩:=IS.1 h;have⟨rs,UX,h⟩:=IS.1 h;split at h
     .rename_i hr;refine⟨_,_,λm2 dC R' k'=>by have:=dC (J,id) ae;simp_all[ef,BY,ayg],h,ae,db,λG w0 μ φ w y z hM hy hz=>?_⟩;have hN:bw E.P μ φ w id s0 et0 es:=hM.eE id _ hm;have⟨_,_,_,_,⟨⟨R8,hA⟩,_⟩,_⟩:=hN.row he UX;obtain⟨a1,a2,a3,a4,a5,a6,a7⟩:=hA;cases hz with
      |pv hz=>cases hz with
       |int Tb=>
        cases hy with
        |UU hg=>have dH:((φ id).row i0 off).up.g=none:=hg;simp_all[aU]
        | @Gm _ _ _ g hg=>have a1':((φ id).row i0 off).len=rs.length:=a1;refine⟨_,kY hu aa hr.1 (by rw[a1'];exact hr.2),?_⟩;rw[Addr.add_mid];have:=az.KB (P:=E.P) (μ:=μ) (φ:=φ) (id:=id) (i:=i0) (off:=off) (s:=bq E.P e) (j:=i.toNat) (off2:=0) hg a2;simpa using this
     .cases h
    .cases h
   .cases h
  .rename_i e id lo len hu;have key:∀(s:Nat)(et:TypeId)(es:List PV),(m id=U (.arr s et es)\/m id=U (.xJ s et es))->s=bq E.P e/\0<s->aU i len->∀(G:Nat->Option (List PV))(w0:bI)(μ:Ro)(φ:Nat->aT)(w:World)(y z:Value),aR E.P G w0 μ φ m w->az E.P μ φ (.iJ id lo len) y->az E.P μ φ (.pv (.int q i)) z->∃u,(Instr.indexAt t y z).run E.P w=.ok u w/\az E.P μ φ (.oe id (lo+i.toNat) 0) u:=by
    intro s et es hm hs hr G w0 μ φ w y z hM hy hz;have hA:ba E.P μ φ w id s et es:=by
     rcases hm with hm|hm
     .exact hM.eE id _ hm
     .exact(hM.eE id _ hm).1
    obtain⟨a1,a2,a3,a4,a5,a6,a7⟩:=hA;cases hz with
    |pv hz=>cases hz with
     |int Tb=>
      cases hy with
      |zR hg=>simp[aU]at hr;omega
      | @iJ _ _ _ OL g ad hg hl ha hc1 Tc=>
       have ha:=ha.resolve_right λhh=>by have:=hr.1;have:=hr.2;omega
       subst ha;refine⟨_,kY hu aa hr.1 hr.2,?_⟩;rw[Addr.add_mid];have:=az.oe (P:=E.P) (μ:=μ) (φ:=φ) (id:=id) (i:=lo+i.toNat) (off:=0) hg;grind
   split at h
   .rename_i s et es hm;split at h
    .rename_i hs;split at h
     next hr=>exact⟨_,_,λm2 dC R' k'=>by have:=dC (J,id) ae;simp only at this;simp only[ef,hu,this,hm];grind,h,ae,db,key s et es (.inl hm) hs hr⟩
     .cases h
    .cases h
   .rename_i s et es hm;split at h
    .rename_i hs;split at h
     next hr=>exact⟨_,_,λm2 dC R' k'=>by have:=dC (J,id) ae;simp only at this;simp only[ef,hu,this,hm];grind,h,ae,db,key s et es (.inr hm) hs hr⟩
     .cases h
    .cases h
   .cases h
  .rename_i n e id off hu;split at h
   .rename_i hr;refine⟨_,_,λm2 _ R' k'=>by simp_all[ef,BY],h,ae,db,λG w0 μ φ w y z hM hy hz=>?_⟩;cases hz with
    |pv hz=>cases hz with
     |int Tb=>
      cases hy with
      |op hg=>exact⟨_,qq hu aa hr.1.1 hr.1.2,by rw[Addr.add_mid];exact .op hg⟩
   .cases h
  .rename_i n e cs hu;split at h
   .rename_i hr;refine⟨_,_,λm2 _ R' k'=>by simp_all[ef,BY],h,ae,ae,λG w0 μ φ w y z hM hy hz=>?_⟩;cases hz with
    |pv hz=>cases hz with
     |int Tb=>
      cases hy with
      |pv hy=>cases hy with
       |rp X h1 h2 h3=>exact⟨_,qq hu aa hr.1.1 hr.1.2,by rw[Addr.add_mid];exact .pv (aH.UW _ (.rp X h1 h2 h3))⟩
   .cases h
  .rename_i n e id j off hu;split at h
   .rename_i hr;split at h
    .rename_i hb;refine⟨_,_,λm2 dC R' k'=>by have:=dC (J,id) ae;simp_all[ef,BY],h,ae,db,λG w0 μ φ w y z hM hy hz=>?_⟩;have sB:(φ id).sz=bq E.P e:=by
      split at hb
      next s et es hm=>rw[T0 hb];have hA:ba E.P μ φ w id s et es:=hM.eE id _ hm;exact hA.2.1
      .cases hb
     cases hz with
     |pv hz=>cases hz with
      |int Tb=>
       cases hy with
       |oe hg=>refine⟨_,qq hu aa hr.1.1 hr.1.2,?_⟩;have:=az.oe (P:=E.P) (μ:=μ) (φ:=φ) (id:=id) (i:=i.toNat+j) (off:=off) hg;grind [Addr.add_mid,id,bq,Nat.add_mul]
    .rename_i hb;refine⟨_,_,λm2 dC R' k'=>by have:=dC (J,id) ae;simp_all[ef,BY],h,ae,db,λG w0 μ φ w y z hM hy hz=>?_⟩;cases hz with
     |pv hz=>cases hz with
      |int Tb=>
       cases hy with
       |oe hg=>exact⟨_,qq hu aa hr.1.1 hr.1.2,by rw[Addr.add_mid,ayU];exact .oe hg⟩
   .cases h
  .cases h
 .cases h
def wY{cs:List V}(h:zO x=U cs):(∀id,cX id cs=Y->x.has id=Y)/\∀(P:Program)(μ:Ro)(φ:Nat->aT)y,az P μ φ x y->∃xs:Array Value,y=.agg xs/\cs.length=xs.size/\(∀(i:Nat)p x,cs[i]?=U p->xs[i]?=U x->az P μ φ p x)/\(∀(i:Nat)(x:Value),xs[i]?=U x->x.oneCell'=Y):=by
 unfold zO at h;split at h
 .simp only[tc]at h;subst h;refine⟨λid hid=>(by rw[acK]at hid;cases hid),λP μ φ y hy=>?_⟩;cases hy with
  |pv hy=>cases hy with
   |agg h1 h2 h3=>refine⟨_,rfl,by simpa using h1,λi p x hi hx=>?_,h3⟩;simp only[AT,asI]at hi;obtain⟨q,hq,rfl⟩:=hi;exact .pv (h2 i q x hq hx)
 .simp only[tc]at h;subst h;refine⟨λid hid=>by simpa[V.has]using hid,λP μ φ y hy=>?_⟩;cases hy with
  |agg h1 h2 h3=>grind
 .cases h
variable{xs:Array Value}{off:Nat}
def KN(ha:aS P t=Y):(part t xs off).run P w=.ok (.agg (xs.extract off (off+bq P t))) w:=by have⟨d,hu,_⟩:=PC ha;simp_all[part,Mn,NL]
theorem KO{d:TypeDesc}{y:Value}(hu:P.underlying t=U d)(ha:aS P t=J)(hy:xs[off]?=U y):(part t xs off).run P w=.ok y w:=by simp[part,Mn hu,ha,hy]
def Xr{cs:List V}(h:Pl E t cs off k=U r):∃v,(∀(R':Type)(k':V->Option R'),Pl E t cs off k'=k' v)/\k v=U r/\(∀id,v.has id=Y->cX id cs=Y)/\∀(μ:Ro)(φ:Nat->aT)(w:World)(xs:Array Value),cs.length=xs.size->(∀(i:Nat)p x,cs[i]?=U p->xs[i]?=U x->az E.P μ φ p x)->(∀(i:Nat)(x:Value),xs[i]?=U x->x.oneCell'=Y)->∃z,(part t xs off).run E.P w=.ok z w/\az E.P μ φ v z:=by
 unfold Pl at h;split at h
 .rename_i ha;split at h
  .rename_i hn;refine⟨_,λR' k'=>by simp[Pl,ha,hn],h,λid hid=>?_,λμ φ w xs h1 h2 h3=>⟨_,KN ha,?_⟩⟩
   .simp only[V.has]at hid;have⟨v,hv,hh⟩:=dF.1 hid;grind [cq,List.mem_of_mem_drop,List.mem_of_mem_take]
   .refine .agg ah (λi p x hi hx=>?_) (λi x hx=>?_)
    .grind
    grind [Array.getElem?_extract]
  .cases h
 .rename_i ha;have ha:aS E.P t=false:=by simpa using ha
  split at h
  next v hv=>have⟨u,h1,h2,h3,h4⟩:=Xp h;have⟨d,hu⟩:=S4 h;refine⟨u,λR' k'=>by simp[Pl,ha,hv,h1],h2,λid hid=>cq (awU hv) (h4 id hid),λμ φ w xs g1 g2 g3=>?_⟩;have bX:off<cs.length:=(No.1 hv).1;have hx:xs[off]?=U xs[off]:=aq5 aa;grind [KO]
  .cases h
def aeu(h:Pm E s x j k=U r):∃v,(∀(R':Type)(k':V->Option R'),Pm E s x j k'=k' v)/\k v=U r/\(∀id,v.has id=Y->x.has id=Y)/\∀(μ:Ro)(φ:Nat->aT)(w:World)(y:Value),az E.P μ φ x y->∃z,(Instr.field s y j).run E.P w=.ok z w/\az E.P μ φ v z:=by
 unfold Pm at h;split at h
 next o t cs ho hc=>obtain⟨fs,f,hu,hf,rfl,rfl,hz⟩:=NM ho;have⟨v,h1,h2,h3,h4⟩:=Xr h;have⟨c1,c2⟩:=wY hc;refine⟨v,λR' k'=>by simp[Pm,ho,hc,h1],h2,λid hid=>c1 id (h3 id hid),λμ φ w y hy=>?_⟩;obtain⟨xs,rfl,g1,g2,g3⟩:=c2 _ _ _ _ hy;have⟨z,hz,hv⟩:=h4 μ φ w xs g1 g2 g3;exact⟨z,by simp[Instr.field,run_underlying hu,hf,Go.asAgg,hz],hv⟩
 .cases h
def wf_u8(b:UInt8):(Lit.int .u8 b.toNat).wf=true:=by rw[Eu];have:=b.toNat_lt;simp[IntKind.min,IntKind.max,IntKind.signed,IntKind.bits];omega
def aev{ix:V}(h:Mf E t x ix k=U r):∃v,(∀(R':Type)(k':V->Option R'),Mf E t x ix k'=k' v)/\k v=U r/\(∀id,v.has id=Y->x.has id=Y)/\∀(μ:Ro)(φ:Nat->aT)(w:World)(y z:Value),az E.P μ φ x y->az E.P μ φ ix z->∃u,(Instr.index t y z).run E.P w=.ok u w/\az E.P μ φ v u:=by
 unfold Mf at h;split at h
 .rename_i q i;split at h
  .rename_i s hu;have⟨b,hb,hk⟩:=IS.1 h;refine⟨_,λR' k'=>by simp[Mf,hu,hb],hk,ae,λμ φ w y z hy hz=>?_⟩;cases hz with
   |pv hz=>cases hz with
    |int Tb=>
     cases hy with
     |pv hy=>cases hy with
      |str hl=>
       unfold agK at hb;split at hb
       .rename_i h0;have bX:=(No.1 hb).1;have mH:(⟨s.toArray⟩:ByteArray)[i.toNat]?=U b:=by
         rw[getElem?_def];have:i.toNat<(⟨s.toArray⟩:ByteArray).size:=by simpa[ByteArray.size]using bX
         rw[aBu this];have e:=(No.1 hb).2;simp only[tc];rw[<-e];rfl
        refine⟨_,?_,.pv (.int (wf_u8 b))⟩;simp[Instr.index,asIntOf,run_underlying hu,h0,mH]
       .cases hb
  .rename_i n et hu;split at h
   .rename_i cs hc;split at h
    .rename_i hn;have⟨v,h1,h2,h3,h4⟩:=Xr h;have⟨c1,c2⟩:=wY hc;refine⟨v,λR' k'=>by simp only[Mf,hu,hc];rw[BY hn,h1],h2,λid hid=>c1 id (h3 id hid),λμ φ w y z hy hz=>?_⟩;obtain⟨xs,rfl,g1,g2,g3⟩:=c2 _ _ _ _ hy;have⟨u,hu1,hv⟩:=h4 μ φ w xs g1 g2 g3;cases hz with
     |pv hz=>cases hz with
      |int Tb=>refine⟨u,?_,hv⟩;have hr:=hn.1;unfold aU at hr;simp[Instr.index,asIntOf,run_underlying hu,hr.1,hr.2,mG (aa:bq E.P et≠0),hu1]
    .cases h
   .cases h
  .cases h
 .cases h
end
section
variable {R:Type} {E:Env}
def PD(s:Bytes):(⟨s.toArray⟩:ByteArray).size=s.length:=bm
def PE{n:Nat}(h:n<=maxLen):(Lit.int .i64 (n:Int)).wf=true:=by grind [Eu,maxLen,IntKind.min,IntKind.max,IntKind.signed,IntKind.bits]
variable{P:Program}{μ:Ro}{sz:Nat}{es:List PV}
def anI{x:Value}(h:aH P μ (.rs sz es) x):∃a cap,x=.slice a es.length cap/\es.length<=maxLen:=by
 cases h with
 |pj=>simp
 | @WW _ cap a h=>simp
 |rs X h1 h2=>grind
variable{φ:Nat->aT}{m:Mem}{w:World}
def aR.arr{G:Nat->Option (List PV)}{w0:bI}(hM:aR P G w0 μ φ m w){id s:Nat}{et:TypeId}(hm:m id=U (.arr s et es)\/m id=U (.xJ s et es)):ba P μ φ w id s et es:=by
 rcases hm with hm|hm
 .exact hM.eE id _ hm
 .exact(hM.eE id _ hm).1
def ba.wZ{id s:Nat}{et:TypeId}(h:ba P μ φ w id s et es):es.length<=(φ id).cap/\(φ id).cap<=maxLen:=by obtain⟨a1,a2,a3,a4,a5,a6,a7⟩:=h;grind
variable{x:V}{k:Nat->bS->Option R}{r:R}
def akH(h:Sg m x k=U r):∃n ft,(∀m2:Mem,(∀x∈ft,m2 x.2=m x.2)->∀(R':Type)(k':Nat->bS->Option R'),Sg m2 x k'=k' n ft)/\k n ft=U r/\(∀x∈ft,x.1=J)/\∀(P:Program)(G:Nat->Option (List PV))(w0:bI)(μ:Ro)(φ:Nat->aT)(w:World)(y:Value),aR P G w0 μ φ m w->az P μ φ x y->(∀id,x.has id=Y->(m id).isSome=Y)->n<=maxLen/\∃a cap,y=.slice a n cap:=by
 unfold Sg at h;split at h
 .refine⟨_,_,λm2 _ R' k'=>bm,h,ae,λP G w0 μ φ w y hM hy _=>?_⟩;cases hy with
  |pv hy=>obtain⟨a,cap,rfl,hl⟩:=anI hy;simp_all
 .refine⟨_,_,λm2 _ R' k'=>bm,h,ae,λP G w0 μ φ w y hM hy _=>?_⟩;cases hy;simp
 .rename_i id lo len;have key:∀(s:Nat)(et:TypeId)(es:List PV),(m id=U (.arr s et es)\/m id=U (.xJ s et es))->∀(P:Program)(G:Nat->Option (List PV))(w0:bI)(μ:Ro)(φ:Nat->aT)(w:World)(y:Value),aR P G w0 μ φ m w->az P μ φ (.iJ id lo len) y->len<=maxLen/\∃a cap,y=.slice a len cap:=by
   intro s et es hm P G w0 μ φ w y hM hy;have hA:=hM.arr hm;have hl:=hA.wZ;cases hy with
   |zR=>simp
   |iJ hg hl' ha=>grind
  split at h
  next s et es hm=>exact⟨_,_,λm2 dC R' k'=>by have:=dC (J,id) ae;simp_all[Sg],h,ae,λP G w0 μ φ w y hM hy _=>key s et es (.inl hm) P G w0 μ φ w y hM hy⟩
  next s et es hm=>exact⟨_,_,λm2 dC R' k'=>by have:=dC (J,id) ae;simp_all[Sg],h,ae,λP G w0 μ φ w y hM hy _=>key s et es (.inr hm) P G w0 μ φ w y hM hy⟩
  .cases h
 .rename_i id;split at h
  .rename_i s et es hm;refine⟨_,_,λm2 dC R' k'=>by have:=dC (J,id) ae;simp_all[Sg],h,ae,λP G w0 μ φ w y hM hy _=>?_⟩;have hA:=hM.arr (.inl hm);have hl:=hA.wZ;obtain⟨a1,a2,a3,a4,a5,a6,a7⟩:=hA;refine⟨aa,?_⟩;cases hy with
   |BG hg=>simp_all
   |os hg=>simp_all
  .rename_i s et es hm;refine⟨_,_,λm2 dC R' k'=>by have:=dC (J,id) ae;simp_all[Sg],h,ae,λP G w0 μ φ w y hM hy _=>?_⟩;have hA:=hM.arr (.inr hm);have hl:=hA.wZ;obtain⟨a1,a2,a3,a4,a5,a6,a7⟩:=hA;refine⟨aa,?_⟩;cases hy with
   |BG hg=>simp_all
   |os hg=>simp_all
  .rename_i s et es hm;refine⟨_,_,λm2 dC R' k'=>by have:=dC (J,id) ae;simp_all[Sg],h,ae,λP G w0 μ φ w y hM hy _=>?_⟩;have hA:bw P μ φ w id s et es:=hM.eE id _ hm;obtain⟨a1,a2,a3,a4,a5,a6,a7⟩:=hA;have hl:es.length<=(φ id).cap:=ao
   refine⟨aa,?_⟩;cases hy with
   |BG hg=>simp_all
   |os hg=>simp_all
  .rename_i cs hm;split at h
   .rename_i hlen;refine⟨_,_,λm2 dC R' k'=>by have:=dC (J,id) ae;simp_all[Sg],h,ae,λP G w0 μ φ w y hM hy _=>?_⟩;obtain⟨g,c,T,hg,hh,hs,hv,Dy,Sk⟩:=hM.eE id _ hm;refine⟨hlen,?_⟩;cases hy with
    |BG dH=>simp_all
    |os dH=>simp_all
   .cases h
  .cases h
 .cases h
def akI(h:aep sz m x k=U r):∃n ft,(∀m2:Mem,(∀x∈ft,m2 x.2=m x.2)->∀(R':Type)(k':Nat->bS->Option R'),aep sz m2 x k'=k' n ft)/\k n ft=U r/\(∀x∈ft,x.1=J)/\∀(P:Program)(G:Nat->Option (List PV))(w0:bI)(μ:Ro)(φ:Nat->aT)(w:World)(y:Value),aR P G w0 μ φ m w->az P μ φ x y->(∀id,x.has id=Y->(m id).isSome=Y)->n<=maxLen/\∃a cap,y=.slice a n cap:=by
 unfold aep at h;split at h
 .rename_i id i off;split at h
  .rename_i s et es hm;have⟨e,he,h⟩:=IS.1 h;have⟨rs,hr,h⟩:=IS.1 h;refine⟨_,_,λm2 dC R' k'=>by have:=dC (J,id) ae;simp_all[aep],h,ae,λP G w0 μ φ w y hM hy _=>?_⟩;have hN:bw P μ φ w id s et es:=hM.eE id _ hm;have⟨_,_,_,_,⟨⟨R8,hA⟩,_⟩,_⟩:=hN.row he hr;have hl:=hA.wZ;have a1:=hA.1;refine⟨aa,?_⟩;have hy:=hy.aak (ν:=μ);cases hy with
   |BG hg=>have a7:=hA.2.2.2.2.2.2;simp_all
   |os hg=>simp_all
  .cases h
 next cO=>have⟨n,ft,h1,h2,h3,h4⟩:=akH h;refine⟨n,ft,λm2 dC R' k'=>?_,h2,h3,h4⟩;unfold aep;simp_all
def akJ(h:agN m x k=U r):∃n ft,(∀m2:Mem,(∀x∈ft,m2 x.2=m x.2)->∀(R':Type)(k':Nat->bS->Option R'),agN m2 x k'=k' n ft)/\k n ft=U r/\(∀x∈ft,x.1=J)/\n<=maxLen/\∀(P:Program)(G:Nat->Option (List PV))(w0:bI)(μ:Ro)(φ:Nat->aT)(w:World)(y:Value)(t kt et ty:TypeId),P.underlying t=U (.map kt et)->aR P G w0 μ φ m w->az P μ φ x y->(Builtin.len_ #[t] ty #[y]).run P w=.ok (.int .i64 n) w:=by
 unfold agN at h;split at h
 .rename_i id;split at h
  .rename_i kt es hm;split at h
   .rename_i hl;refine⟨_,_,λm2 dC R' k'=>by have:=dC (J,id) ae;simp_all[agN],h,ae,hl,λP G w0 μ φ w y t kt et ty hu hM hy=>?_⟩;cases hy with
    | @om _ g hg=>obtain⟨g',en,clock,kk,dH,hh,hs,_⟩:=hM.eE id _ hm;simp_all[tc,Builtin.len_,run_underlying,getObj,Sem.run,goInt]
   .cases h
  .cases h
 .refine⟨_,_,λm2 _ R' k'=>bm,h,ae,ae,λP G w0 μ φ w y t kt et ty hu hM hy=>?_⟩;cases hy with
  |pv hy=>cases hy;simp[Builtin.len_,run_underlying hu,goInt]
 .cases h
variable{t:TypeId}
def akK{k:V->bS->Option R}(h:Xc E t x m k=U r):∃v ft,(∀m2:Mem,(∀x∈ft,m2 x.2=m x.2)->∀(R':Type)(k':V->bS->Option R'),Xc E t x m2 k'=k' v ft)/\k v ft=U r/\(∀x∈ft,x.1=J)/\(∀id,v.has id=J)/\∀(G:Nat->Option (List PV))(w0:bI)(μ:Ro)(φ:Nat->aT)(w:World)(y:Value)(ty:TypeId),aR E.P G w0 μ φ m w->az E.P μ φ x y->(∀id,x.has id=Y->(m id).isSome=Y)->∃z,(Builtin.len_ #[t] ty #[y]).run E.P w=.ok z w/\az E.P μ φ v z:=by
 unfold Xc at h;split at h
 .rename_i n e hu;split at h
  next hn=>exact⟨_,_,λm2 _ R' k'=>by simp[Xc,hu,hn],h,ae,ae,λG w0 μ φ w y ty hM hy _=>⟨_,by simp[Builtin.len_,run_underlying hu,goInt],.pv (.int (PE hn))⟩⟩
  .cases h
 .rename_i hu;split at h
  .refine⟨_,_,λm2 _ R' k'=>by simp[Xc,hu],h,ae,ae,λG w0 μ φ w y ty hM hy _=>?_⟩;cases hy with
   |pv hy=>cases hy with
    | @str s hl=>exact⟨_,by simp[Builtin.len_,run_underlying hu,goInt,PD],.pv (.int (PE hl))⟩
  .cases h
 next e hu=>have⟨n,ft,h1,h2,h3,h4⟩:=akI h;refine⟨_,ft,λm2 dC R' k'=>by simp only[Xc,hu];rw[h1 m2 dC],h2,h3,ae,λG w0 μ φ w y ty hM hy hq=>?_⟩;obtain⟨hl,a,cap,rfl⟩:=h4 _ _ _ _ _ _ _ hM hy hq;exact⟨_,by simp[Builtin.len_,run_underlying hu,goInt],.pv (.int (PE hl))⟩
 next kt et hu=>have⟨n,ft,h1,h2,h3,hl,h4⟩:=akJ h;refine⟨_,ft,λm2 dC R' k'=>by simp only[Xc,hu];rw[h1 m2 dC],h2,h3,ae,λG w0 μ φ w y ty hM hy hq=>?_⟩;exact⟨_,h4 _ _ _ _ _ _ _ _ _ _ _ hu hM hy,.pv (.int (PE hl))⟩
 .cases h
def PF{d i:Int}{v:Option V}(h:na d v=U i):(v=Z/\i=d)\/∃q,v=U (.pv (.int q i)):=by unfold na at h;grind
def run_sliceBound{P:Program}{w:World}{q:IntKind}{i:Int}{y:Nat}{code:BoundsCode}(h0:0<=i)(h1:i<=(y:Int)):(Instr.sliceBound (.int q i) y code).run P w=.ok i.toNat w:=by simp[Instr.sliceBound,asIntOf,h0,h1]
variable{PG sC:Option Value}
def qt{isS:Bool}{len cap:Nat}{l h:Int}{lo hi:Option V}(hl:na 0 lo=U l)(hh:na len hi=U h)(rl:∀v,lo=U v->∃y,PG=U y/\az P μ φ v y)(rl0:lo=Z->PG=Z)(rh:∀v,hi=U v->∃y,sC=U y/\az P μ φ v y)(rh0:hi=Z->sC=Z)(b0:0<=l)(b1:l<=h)(b2:h<=(len:Int))(b3:len<=cap):(Instr.sliceBounds isS len cap PG sC Z).run P w=.ok (l.toNat,h.toNat,cap) w:=by
 have e1:∃y,(sC=Z/\h=len)\/(sC=U y/\∃q,y=.int q h):=by
  rcases PF hh with⟨rfl,rfl⟩|⟨q,rfl⟩
  .simp_all
  .obtain⟨y,rfl,hy⟩:=rh _ rfl;cases hy with
   |pv hy=>cases hy with
    |int hw=>simp
 have e2:∃y,(PG=Z/\l=0)\/(PG=U y/\∃q,y=.int q l):=by
  rcases PF hl with⟨rfl,rfl⟩|⟨q,rfl⟩
  .simp_all
  .obtain⟨y,rfl,hy⟩:=rl _ rfl;cases hy with
   |pv hy=>cases hy with
    |int hw=>simp
 clear rl rl0 rh rh0 hl hh;obtain⟨y,⟨rfl,rfl⟩|⟨rfl,q,rfl⟩⟩:=e1<;>obtain⟨z,⟨rfl,rfl⟩|⟨rfl,q',rfl⟩⟩:=e2
 .rfl
 .simp_all[run_sliceBound,Instr.sliceBounds]
 .have:= @run_sliceBound P w q h cap (if isS then BoundsCode.sliceAcap else .sliceAlen) aa aa;simp[Instr.sliceBounds,this]
 .have h1:= @run_sliceBound P w q h cap (if isS then BoundsCode.sliceAcap else .sliceAlen) aa aa;have h2:= @run_sliceBound P w q' l h.toNat BoundsCode.sliceB b0 aa;simp[Instr.sliceBounds,h1,h2]
def str_slice{s:Bytes}{l h:Nat}(hl:l<=h)(hh:h<=s.length):(⟨s.toArray⟩:ByteArray).extract l h=⟨((s.take h).drop l).toArray⟩:=by apply ByteArray.ext;simp[ByteArray.data_extract,azT,List.extract_eq_take_drop,List.drop_take]
def ag2{x:Value}{l h:Nat}(hx:aH P μ (.rs sz es) x)(hl:l<=h)(hh:h<=es.length):∃a cap,x=.slice a es.length cap/\es.length<=cap/\aH P μ (.rs sz ((es.take h).drop l)) (.slice (if cap=l then a else a.map (·.add (l*sz))) (h-l) (cap-l)):=by
 have hlen:((es.take h).drop l).length=h-l:=ah
 cases hx with
 |pj=>
  simp at hh;subst hh;have:l=0:=aa
  subst this;exact⟨Z,0,rfl,ae,by simpa using aH.pj⟩
 | @WW _ cap a hc=>
  simp at hh;subst hh;have:l=0:=aa
  subst this;refine⟨U a,cap,rfl,ae,?_⟩;have:(if cap=0 then U a else(U a).map (·.add (0*sz)))=U a:=by split<;>simp[Addr.add]
  rw[this];exact .WW hc
 | @rs _ _ b o cap X h1 h2 h3 h4 h5 h6=>
  refine⟨_,cap,rfl,h1,?_⟩;have fG:∀(i:Nat)e,((es.take h).drop l)[i]?=U e->es[l+i]?=U e:=λi e hi=>(kX (Dx hi)).2;by_cases hz:h=l
  .have:(es.take h).drop l=[]:=ayh aa;rw[this];have hz':h-l=0:=aa
   rw[hz'];split
   .exact .WW aa
   .simp only[IN];exact .WW aa
  .have hc:cap≠l:=aa
   rw[IT hc];simp only[IN,Addr.add_mid];have:=aH.rs (P:=P) (μ:=μ) (sz:=sz) (es:=(es.take h).drop l) (b:=b) (o:=o+l*sz) (cap:=cap-l) (λi j=>X (l+i) j) aa aa (λi e hi=>h3 _ e (fG i e hi)) (λi e j p hi hj=>ao) (λi e j p hi hj=>h5 _ e j p (fG i e hi) hj) (λi e j p hi hj=>h6 _ e j p (fG i e hi) hj);simp_all
def Ev{e:TypeId}{a:Option Addr}{len cap l h:Nat}(hu:P.underlying t=U (.slice e))(hz:bq P e≠0)(hb:(Instr.sliceBounds Y len cap PG sC Z).run P w=.ok (l,h,cap) w):(Instr.sliceAt t (.slice a len cap) PG sC Z).run P w=.ok (.slice (if cap=l then a else a.map (·.add (l*bq P e))) (h-l) (cap-l)) w:=by simp_all[Instr.sliceAt,Instr.slice,run_underlying,mG]
def aew{lo hi mx:Option V}{k:V->bS->Option R}(h:En E t x lo hi mx m k=U r):∃v ft,(∀m2:Mem,(∀x∈ft,m2 x.2=m x.2)->∀(R':Type)(k':V->bS->Option R'),En E t x lo hi mx m2 k'=k' v ft)/\k v ft=U r/\(∀x∈ft,x.1=J)/\(∀id,v.has id=Y->x.has id=Y)/\∀(G:Nat->Option (List PV))(w0:bI)(μ:Ro)(φ:Nat->aT)(w:World)(y:Value)(PG sC mx':Option Value),aR E.P G w0 μ φ m w->az E.P μ φ x y->(∀v,lo=U v->∃y,PG=U y/\az E.P μ φ v y)->(lo=Z->PG=Z)->(∀v,hi=U v->∃y,sC=U y/\az E.P μ φ v y)->(hi=Z->sC=Z)->(∀v,mx=U v->∃y,mx'=U y/\az E.P μ φ v y)->(mx=Z->mx'=Z)->∃z,(Instr.sliceAt t y PG sC mx').run E.P w=.ok z w/\az E.P μ φ v z:=by
 unfold En at h;split at h
 .rename_i mv;split at h
  .rename_i e id hu;split at h
   .rename_i s et es hm;split at h
    .rename_i qh hh qc c;split at h
     .rename_i hb;refine⟨_,_,λm2 dC R' k'=>by have:=dC (J,id) ae;simp_all[En,BY],h,ae,db,λG w0 μ φ w y PG sC mx' hM hy r1 r2 r3 r4 r5 r6=>?_⟩;have hA:=hM.arr (.inl hm);have hle:=hA.wZ;obtain⟨a1,a2,a3,a4,a5,a6,a7⟩:=hA;obtain⟨ym,rfl,hym⟩:=r5 _ rfl;have hlo:=r2 rfl;subst hlo;cases hym with
      |pv hym=>cases hym with
       |int hwc=>
        have hB:∀len cap:Nat,len=es.length->c<=(cap:Int)->(Instr.sliceBounds Y len cap Z sC (U (.int qc c))).run E.P w=.ok (0,hh.toNat,c.toNat) w:=by
         intro len cap hlen za;have h1:= @run_sliceBound E.P w qc c cap BoundsCode.slice3Acap aa za;obtain⟨yh,rfl,hyh⟩:=r3 _ rfl;cases hyh with
         |pv hyh=>cases hyh with
          |int hwh=>have h2:= @run_sliceBound E.P w qh hh c.toNat BoundsCode.slice3B aa aa;simp[Instr.sliceBounds,h1,h2]
        have hS:∀(a:Option Addr)(len cap:Nat),len=es.length->c<=(cap:Int)->(Instr.sliceAt t (.slice a len cap) Z sC (U (.int qc c))).run E.P w=.ok (.slice (if c.toNat=0 then a else a.map (·.add (0*bq E.P e))) hh.toNat c.toNat) w:=by intro a len cap hlen za;simp[Instr.sliceAt,Instr.slice,run_underlying hu,hB len cap hlen za,mG (aa:bq E.P e≠0)]
        cases hy with
        |BG hg=>
         rw[hg]at a7;have h0:es.length=0:=aa
         refine⟨_,hS Z 0 0 h0.symm aa,?_⟩;have e1:hh.toNat=0:=aa
         have e2:c.toNat=0:=aa
         rw[e1,e2];exact .zR hg
        | @os _ g hg=>
         refine⟨_,hS _ _ _ a1 aa,?_⟩;have:(if c.toNat=0 then U (⟨g,0,Z⟩:Addr)else(U ⟨g,0,Z⟩:Option Addr).map (·.add (0*bq E.P e)))=U ⟨g,0*(φ id).sz,Z⟩:=by split<;>simp[Addr.add]
         rw[this];exact .iJ hg aa (.inl rfl) aa aa
     .cases h
    .cases h
   .cases h
  .cases h
 .split at h
  .rename_i s hu;split at h
   .rename_i l hh hl hhh;split at h
    .rename_i hb;refine⟨_,_,λm2 _ R' k'=>by simp_all[En,BY],h,ae,ae,λG w0 μ φ w y PG sC mx' hM hy r1 r2 r3 r4 _ r6=>?_⟩;have hmx:=r6 rfl;subst hmx;cases hy with
     |pv hy=>cases hy with
      |str hlen=>have hB:=qt (P:=E.P) (w:=w) (isS:=J) (cap:=s.length) hl hhh r1 r2 r3 r4 hb.1 hb.2.1 hb.2.2 (ayd _);refine⟨_,?_,.pv (.str (s:=(s.take hh.toNat).drop l.toNat) ah)⟩;simp only[Instr.sliceAt,Instr.slice,Sem.run_bind,run_underlying hu,Result.andThen_ok,PD,hB];simp only[azp,AI,OF,Sem.run_bind,Sem.run_pure,Result.andThen_ok,hB];rw[str_slice aa aa]
    .cases h
   .cases h
  .rename_i e sz es hu;split at h
   .rename_i l hh hl hhh;split at h
    .rename_i hb;refine⟨_,_,λm2 _ R' k'=>by simp_all[En,BY],h,ae,ae,λG w0 μ φ w y PG sC mx' hM hy r1 r2 r3 r4 _ r6=>?_⟩;have hmx:=r6 rfl;subst hmx;cases hy with
     |pv hy=>obtain⟨a,cap,rfl,hc,hr⟩:=ag2 (l:=l.toNat) (h:=hh.toNat) hy aa aa;have hB:=qt (P:=E.P) (w:=w) (isS:=Y) (cap:=cap) hl hhh r1 r2 r3 r4 hb.1 hb.2.1 hb.2.2.1 hc;exact⟨_,Ev hu hb.2.2.2.2 hB,by rw[<-hb.2.2.2.1];exact .pv hr⟩
    .cases h
   .cases h
  .rename_i e id hu;have key:∀(s:Nat)(et:TypeId)(es:List PV)(l hh:Int),(m id=U (.arr s et es)\/m id=U (.xJ s et es))->na 0 lo=U l->na es.length hi=U hh->(0<=l/\l<=hh/\hh<=(es.length:Int)/\s=bq E.P e)->∀(G:Nat->Option (List PV))(w0:bI)(μ:Ro)(φ:Nat->aT)(w:World)(y:Value)(PG sC:Option Value),aR E.P G w0 μ φ m w->az E.P μ φ (.os id) y->(∀v,lo=U v->∃y,PG=U y/\az E.P μ φ v y)->(lo=Z->PG=Z)->(∀v,hi=U v->∃y,sC=U y/\az E.P μ φ v y)->(hi=Z->sC=Z)->∃z,(Instr.sliceAt t y PG sC Z).run E.P w=.ok z w/\az E.P μ φ (.iJ id l.toNat (hh.toNat-l.toNat)) z:=by
    intro s et es l hh hm hl hhh hb G w0 μ φ w y PG sC hM hy r1 r2 r3 r4;have hA:=hM.arr hm;have hle:=hA.wZ;obtain⟨a1,a2,a3,a4,a5,a6,a7⟩:=hA;cases hy with
    |BG hg=>
     rw[hg]at a7;have h0:es.length=0:=aa
     have hB:=qt (P:=E.P) (w:=w) (isS:=Y) (cap:=0) hl hhh r1 r2 r3 r4 hb.1 hb.2.1 hb.2.2.1 aa;rw[h0]at hB;refine⟨_,Ev hu aa hB,?_⟩;have e1:l.toNat=0:=aa
     have e2:hh.toNat=0:=aa
     rw[e1,e2];exact .zR hg
    | @os _ g hg=>
     have hB:=qt (P:=E.P) (w:=w) (isS:=Y) (cap:=(φ id).cap) hl hhh r1 r2 r3 r4 hb.1 hb.2.1 hb.2.2.1 aa;rw[<-a1]at hB;refine⟨_,Ev hu aa hB,?_⟩;by_cases hc:(φ id).cap=l.toNat
     .rw[BY hc];by_cases h0:l.toNat=0
      .rw[h0];exact .iJ hg aa (.inl ae) aa aa
      .exact .iJ hg aa (.inr ⟨hc,aa⟩) aa aa
     .rw[IT hc];simp only[IN,Addr.add_mid,azf];refine .iJ hg aa (.inl ?_) aa aa;rw[a2,hb.2.2.2]
   split at h
   .rename_i s et es hm;split at h
    .rename_i l hh hl hhh;split at h
     next hb=>exact⟨_,_,λm2 dC R' k'=>by have:=dC (J,id) ae;simp_all[En,BY],h,ae,db,λG w0 μ φ w y PG sC mx' hM hy r1 r2 r3 r4 _ r6=>by rw[r6 rfl];exact key s et es l hh (.inl hm) hl hhh hb G w0 μ φ w y PG sC hM hy r1 r2 r3 r4⟩
     .cases h
    .cases h
   .rename_i s et es hm;split at h
    .rename_i l hh hl hhh;split at h
     next hb=>exact⟨_,_,λm2 dC R' k'=>by have:=dC (J,id) ae;simp_all[En,BY],h,ae,db,λG w0 μ φ w y PG sC mx' hM hy r1 r2 r3 r4 _ r6=>by rw[r6 rfl];exact key s et es l hh (.inr hm) hl hhh hb G w0 μ φ w y PG sC hM hy r1 r2 r3 r4⟩
     .cases h
    .cases h
   .cases h
  .cases h
def PH{P:Prop}(h:P:=by simp_all[cS.owns]):P:=h
end
end Go.Ab
namespace Go.Ab
open Go.RowKit (Below)
section
variable {P:Program} {G:Nat->Option (List PV)} {w0:bI} {μ:Ro} {φ:Nat->aT} {m:Mem} {w:World}
def toCells_ok{n:Nat}{v:V}{cs:List V}(h:toCells n v=U cs):cs.length=n/\(∀id,cX id cs=Y->v.has id=Y)/\∀(P:Program)(μ:Ro)(φ:Nat->aT)(x:Value),az P μ φ v x->x.cells.size=n/\(∀(i:Nat)u y,cs[i]?=U u->x.cells[i]?=U y->az P μ φ u y)/\(∀(i:Nat)(y:Value),x.cells[i]?=U y->y.oneCell'=Y):=by
 have one:∀(v:V),(∀(P:Program)(μ:Ro)(φ:Nat->aT)(x:Value),az P μ φ v x->x.oneCell'=Y/\x.cells= #[x])->(if n=1 then U [v]else Z)=U cs->cs.length=n/\(∀id,cX id cs=Y->v.has id=Y)/\∀(P:Program)(μ:Ro)(φ:Nat->aT)(x:Value),az P μ φ v x->x.cells.size=n/\(∀(i:Nat)u y,cs[i]?=U u->x.cells[i]?=U y->az P μ φ u y)/\(∀(i:Nat)(y:Value),x.cells[i]?=U y->y.oneCell'=Y):=by
  intro v h1 h;split at h
  next hn=>simp only[tc]at h;subst h;subst hn;refine⟨rfl,λid hid=>by simpa[cX]using hid,λP μ φ x hx=>?_⟩;grind
  .cases h
 have avF:∀x:Value,x.oneCell'=Y->x.cells= #[x]:=by intro x hx;cases x<;>first|rfl|(simp[Value.oneCell']at hx)
 unfold toCells at h;split at h
 .rename_i ps;split at h
  .rename_i hn;simp only[tc]at h;subst h;refine⟨by simpa using hn,λid hid=>(by rw[acK]at hid;cases hid),λP μ φ x hx=>?_⟩;cases hx with
   |pv hx=>cases hx with
    |agg h1 h2 h3=>refine⟨by simp only[Value.cells];omega,λi u y hu hy=>?_,h3⟩;simp only[AT,asI]at hu;obtain⟨q,hq,rfl⟩:=hu;exact .pv (h2 i q y hq hy)
  .cases h
 .split at h
  .rename_i hn;simp only[tc]at h;subst h;refine⟨hn,λid hid=>by simpa[V.has]using hid,λP μ φ x hx=>?_⟩;cases hx with
   |agg h1 h2 h3=>grind [Value.cells]
  .cases h
 .cases h
 .cases h
 .cases h
 .cases h
 .rename_i h1 h2 h3 h4 h5 h6;refine one v (λP μ φ x hx=>?_) h;have:x.oneCell'=true:=by
   cases hx with
   |pv hp=>exact hp.one (λcs e=>h1 cs (by rw[e])) (λcs e=>h5 cs (by rw[e])) (λe=>h6 (by rw[e]))
   |agg=>exact absurd rfl (h2 _)
   |b8=>exact absurd rfl (h4 _)
   |top=>exact absurd rfl h3
   |fn=>exact S2 _ _
   |_=>rfl
  simp_all
theorem Dz:∀(d:Nat){v:V}{p:PV}{x:Value},pg dW d v=U p->az P μ φ v x->aH P μ p x
 |0,v,p,x,h,_=>by simp[pg]at h
 |d+1,v,p,x,h,hx=>by
  have ih:=λ{v p x}=> @Dz d v p x;cases v with
  |pv q=>simp[pg]at h;subst h;cases hx with|pv hx=>exact hx
  |il=>simp[pg]at h;subst h;cases hx;exact .pj
  |agg cs=>
   simp only[pg]at h;have⟨ps,u9,h⟩:=IS.1 h;simp only[tc]at h;subst h;have⟨h1,h2⟩:=jE u9;cases hx with
   |agg g1 g2 g3=>refine .agg aa (λi q y hq hy=>?_) g3;have⟨u,hu,hg⟩:=h2 i q hq;exact ih hg (g2 i u y hu hy)
  |b8 cs=>
   simp only[pg]at h;have⟨ps,u9,h⟩:=IS.1 h;simp only[tc]at h;subst h;have⟨h1,h2⟩:=jE u9;cases hx with
   |b8 g1 g2=>refine .b8 aa (λi q y hq hy=>?_);have⟨u,hu,hg⟩:=h2 i q hq;exact ih hg (g2 i u y hu hy)
  |op id off=>simp[pg,dW]at h
  |oe id i off=>simp[pg,dW]at h
  |os id=>simp[pg,dW]at h
  |iJ id lo len=>simp[pg,dW]at h
  |Gm id i off=>simp[pg,dW]at h
  |KB id i off s j off2=>simp[pg]at h
  |om id=>simp[pg,dW]at h
  |fn f cs=>
   simp only[pg]at h;have⟨ps,u9,h⟩:=IS.1 h;simp only[tc]at h;subst h;have⟨h1,h2⟩:=jE u9;cases hx with
   |fn g1 g2=>refine .fn aa (λi q y hq hy=>?_);have⟨u,hu,hg⟩:=h2 i q hq;exact ih hg (g2 i u y hu hy)
  |yl id=>simp[pg]at h
  |it id=>simp[pg]at h
  |top=>simp[pg]at h
def nO(w:World):Ro:=λb=>w.heap[b]?
def aR.Ip(hM:aR P G w0 μ φ m w):∀b o,μ b=U o->nO w b=U o:=hM.ro
variable{id s:Nat}{et:TypeId}{es:List PV}{ν:Ro}
def ba.UY(hA:ba P μ φ w id s et es){g:Nat}(hg:(φ id).g=U g){lo len:Nat}(hl:lo+len<=es.length){cap:Nat}(za:cap<=(φ id).cap-lo)(hlc:len<=cap)(hν:∀b o,μ b=U o->ν b=U o)(Sn:ν g=w.heap[g]?):aH P ν (.rs s ((es.drop lo).take len)) (.slice (U ⟨g,lo*s,Z⟩) len cap):=by
 have hle:=hA.wZ;obtain⟨a1,a2,a3,a4,a5,a6,a7⟩:=hA;rw[hg]at a7;obtain⟨c,T,c1,c2,c3,c4,c5⟩:=a7;have fG:∀(i:Nat)e,((es.drop lo).take len)[i]?=U e->i<len/\es[lo+i]?=U e:=λi e hi=>vP hi;have hlen:((es.drop lo).take len).length=len:=ah
 have hb:∀(i:Nat)e(j:Nat)p,((es.drop lo).take len)[i]?=U e->e.cells[j]?=U p->(lo+i)*s+j<es.length*s:=by intro i e j p hi hj;have⟨_,hi⟩:=fG i e hi;have h1:=(No.1 hi).1;have h2:=(No.1 hj).1;have h3:=a5 _ e hi;have:(lo+i+1)*s<=es.length*s:=ax8 _ aa;grind
 have hc:∀(i:Nat)e(j:Nat)p,((es.drop lo).take len)[i]?=U e->e.cells[j]?=U p->c[(lo+i)*s+j]?=U (c.getD ((lo+i)*s+j) undef):=by
  intro i e j p hi hj;have⟨_,hi⟩:=fG i e hi;have h1:=(No.1 hi).1;have h2:=(No.1 hj).1;have h3:=a5 _ e hi;have:(lo+i+1)*s<=(φ id).cap*s:=ax8 _ aa;rw[ayX _ 1]at this;have bX:(lo+i)*s+j<c.size:=aa
  simp_all
 have:=aH.rs (P:=P) (μ:=ν) (sz:=s) (es:=(es.drop lo).take len) (b:=g) (o:=lo*s) (cap:=cap) (λi j=>c.getD ((lo+i)*s+j) undef) aa aa (λi e hi=>a5 _ e (fG i e hi).2) (λi e j p hi hj=>by grind [cellAt,Nat.add_mul]) (λi e j p hi hj=>((c4 _ e j p _ (fG i e hi).2 hj (hc i e j p hi hj)).mono hν)) (λi e j p hi hj=>c5 _ _ (hb i e j p hi hj) (hc i e j p hi hj));simp_all
def ba.slice(hM:aR P G w0 μ φ m w)(hA:ba P μ φ w id s et es){g:Nat}(hg:(φ id).g=U g){lo len:Nat}(hl:lo+len<=es.length)(hν:∀b o,μ b=U o->ν b=U o)(Sn:ν g=w.heap[g]?):aH P ν (.rs s ((es.drop lo).take len)) (.slice (U ⟨g,lo*s,Z⟩) len ((φ id).cap-lo)):=hA.UY hg hl (ayd _) (by have:=hA.wZ;omega) hν Sn
variable{x:Value}
def ba.Td(hA:ba P μ φ w id s et es)(hx:az P μ φ (.os id) x)(hν:∀b o,μ b=U o->ν b=U o)(Sn:∀g,(φ id).g=U g->ν g=w.heap[g]?):aH P ν (.rs s es) x:=by
 have JF:=hA;obtain⟨a1,a2,a3,a4,a5,a6,a7⟩:=hA;cases hx with
 |BG hg=>rw[hg]at a7;rw[a7.1];exact .pj
 | @os _ g hg=>have hle:=JF.wZ;have:=JF.UY hg (lo:=0) (len:=es.length) aa (cap:=(φ id).cap) aa hle.1 hν (Sn g hg);simp_all
def ba.full(hM:aR P G w0 μ φ m w)(hA:ba P μ φ w id s et es)(hx:az P μ φ (.os id) x)(hν:∀b o,μ b=U o->ν b=U o)(Sn:∀g,(φ id).g=U g->ν g=w.heap[g]?):aH P ν (.rs s es) x:=hA.Td hx hν Sn
def gv.full{R:NH}{rs:List PV}(h:gv P μ R w s rs x)(hν:∀b o,μ b=U o->ν b=U o)(Sn:∀g,R.g=U g->ν g=w.heap[g]?):aH P ν (.rs s rs) x:=by obtain⟨⟨et,hA⟩,hV⟩:=h;exact hA.Td hV hν Sn
theorem NN(e:PV):e.strip.cells=e.cells.map PV.vi:=by cases e<;>rfl
def bw.strip{sz:Nat}(h:bw P μ φ w id sz et es)(hν:∀b o,μ b=U o->ν b=U o)(Sn:∀i off g,(cS.nest sz et es).rowAt i off=Y->((φ id).row i off).g=U g->ν g=w.heap[g]?):ba P ν φ w id sz et (es.map PV.strip):=by
 obtain⟨a1,a2,a3,a4,a5,a6,a7⟩:=h;refine⟨by simpa using a1,a2,a3,a4,λi e he=>?_,a6,?_⟩
 .rw[AT,asI]at he;obtain⟨e0,h0,rfl⟩:=he;grind [NN,List.length_map]
 .cases hg:(φ id).g with
  |none=>simp_all
  |some g=>
   rw[hg]at a7;obtain⟨c,T,c1,c2,c3,c4,c5⟩:=a7;refine⟨c,T,c1,c2,by simpa using c3,λi e j p x he hp hx=>?_,λi x hi hx=>c5 i x (by simpa using hi) hx⟩;rw[AT,asI]at he;obtain⟨e0,h0,rfl⟩:=he;rw[NN,AT,asI]at hp;obtain⟨p0,Ta,rfl⟩:=hp;have hc:=c4 i e0 j p0 x h0 Ta hx;cases hr:p0.isRow with
   |false=>
    have:p0.vi=p0:=by cases p0<;>first|rfl|cases hr
    rw[this];exact(hc.acJ hr).mono hν
   |true=>
    cases p0<;>first|(cases hr;done)|skip
    rename_i s rs;exact gv.full (show gv P μ _ w s rs x from hc) hν λg' dH=>Sn i j g' (by simp[cS.rowAt,h0,Ta,PV.isRow]) dH
def aex{g o:Nat}{c:Array Value}{T:TypeId}{fz:Nat×Nat}{y:Value}(hν:ν g=w.heap[g]?)(h:w.heap[g]?=U (.cells c T fz))(hy:c[o]?=U y):cellAt ν g o=U y:=by simp[cellAt,hν,h,hy]
def Dv(hM:aR P G w0 μ φ m w){ν:Ro}(ro:∀b o,μ b=U o->ν b=U o)(own:∀id b g,m id=U b->b.owns (φ id) g->ν g=w.heap[g]?):∀(d:Nat){v:V}{p:PV}{x:Value},pg m d v=U p->az P μ φ v x->aH P ν p x
 |0,v,p,x,h,_=>by simp[pg]at h
 |d+1,v,p,x,h,hx=>by
  have ih:=λ{v p x}=> @Dv hM ν ro own d v p x;cases v with
  |pv q=>simp[pg]at h;subst h;cases hx with|pv hx=>exact hx.mono ro
  |il=>simp[pg]at h;subst h;cases hx;exact .pj
  |agg cs=>
   simp only[pg]at h;have⟨ps,u9,h⟩:=IS.1 h;simp only[tc]at h;subst h;have⟨h1,h2⟩:=jE u9;cases hx with
   |agg g1 g2 g3=>refine .agg aa (λi q y hq hy=>?_) g3;grind
  |b8 cs=>
   simp only[pg]at h;have⟨ps,u9,h⟩:=IS.1 h;simp only[tc]at h;subst h;have⟨h1,h2⟩:=jE u9;cases hx with
   |b8 g1 g2=>refine .b8 aa (λi q y hq hy=>?_);grind
  |op id off=>
   simp only[pg]at h;split at h
   .rename_i cs hm;have⟨ps,u9,h⟩:=IS.1 h;simp only[tc]at h;subst h;have⟨h1,h2⟩:=jE u9;obtain⟨g,c,T,hg,hh,hs,hv,Dy,Sk⟩:=hM.eE id _ hm;cases hx with
    |op dH=>
     rw[hg]at dH;simp only[tc]at dH;subst dH;have fG:∀(i:Nat)p,ps[i]?=U p->c[off+i]?=U (c.getD (off+i) undef):=by
      intro i p hi;have:=(No.1 hi).1;rw[h1]at this;simp at this;have bX:off+i<c.size:=aa
      simp_all
     refine .rp (λi=>c.getD (off+i) undef) (λi p hi=>aex (own _ _ _ hm (.inl hg)) hh (fG i p hi)) (λi p hi=>?_) (λi hi=>?_)
     .grind
     .exact Dy _ _ (fG i _ (ta hi))
   .cases h
  |oe id i off=>
   have key:∀(s:Nat)(et:TypeId)(es:List PV),(m id=U (.arr s et es)\/m id=U (.xJ s et es))->((es[i]?).bind λe=>U (PV.rp ((aX s e).drop off)))=U p->aH P ν p x:=by
    intro s et es hm h;have⟨e,he,h⟩:=IS.1 h;simp only[tc]at h;subst h;have hA:=hM.arr hm;have JF:=hA;have anJ:∀g,(φ id).g=U g->ν g=w.heap[g]?:=λg hg=>by rcases hm with hm|hm<;>exact own _ _ _ hm (.inl hg)
    obtain⟨a1,a2,a3,a4,a5,a6,a7⟩:=hA;cases hx with
    | @oe _ _ _ g hg=>
     rw[a2];have OM:=JF.slice hM hg (lo:=0) (len:=es.length) aa ro (anJ _ hg);have avG:aH P ν (.rs s es) (.slice (U ⟨g,0,Z⟩) es.length (φ id).cap):=by simpa using OM
     have⟨b,o,cap,e1,hr⟩:=avG.acL he;simp only[Value.slice.injEq,tc,Addr.mk.injEq]at e1;obtain⟨⟨rfl,rfl,_⟩,_⟩:=e1;have:=hr.UW off;simpa using this
   grind [pg]
  |os id=>
   simp only[pg]at h;split at h
   next s et es hm=>simp only[tc]at h;subst h;exact(hM.arr (.inl hm)).full hM hx ro (λg hg=>own _ _ _ hm (.inl hg))
   next s et es hm=>simp only[tc]at h;subst h;exact(hM.arr (.inr hm)).full hM hx ro (λg hg=>own _ _ _ hm (.inl hg))
   next s et es hm=>simp only[tc]at h;subst h;have hN:bw P μ φ w id s et es:=hM.eE id _ hm;exact(hN.strip ro λi off g hr hg=>own _ _ _ hm (.inr ⟨i,off,hr,hg⟩)).Td (hx.I9 ro) (λ_ _ h=>h) λg hg=>own _ _ _ hm (.inl hg)
   .cases h
  |KB id i off s j off2=>simp[pg]at h
  |Gm id i off=>
   simp only[pg]at h;split at h
   .rename_i s et es hm;have⟨e,he,h⟩:=IS.1 h;unfold akz at h;split at h
    next s' rs hc=>simp only[tc]at h;subst h;have hN:bw P μ φ w id s et es:=hM.eE id _ hm;obtain⟨_,_,_,_,⟨⟨R8,hA⟩,_⟩,hce⟩:=hN.row (s:=s') (rs:=rs) he (by rw[hc];simp[fZ]);exact hA.Td (hx.aak (ν:=μ)) ro λg hg=>own _ _ _ hm (.inr ⟨i,off,by simp[cS.rowAt,he,hce,PV.isRow],hg⟩)
    .cases h
   .cases h
  |iJ id lo len=>
   have key:∀(s:Nat)(et:TypeId)(es:List PV),(m id=U (.arr s et es)\/m id=U (.xJ s et es))->aH P ν (.rs s ((es.drop lo).take len)) x:=by
    intro s et es hm;have hA:=hM.arr hm;have JF:=hA;have anJ:∀g,(φ id).g=U g->ν g=w.heap[g]?:=λg hg=>by rcases hm with hm|hm<;>exact own _ _ _ hm (.inl hg)
    have hle:=hA.wZ;obtain⟨a1,a2,a3,a4,a5,a6,a7⟩:=hA;cases hx with
    |zR hg=>simp;exact .pj
    | @iJ _ _ _ cap g a hg hl ha hc1 Tc=>
     rw[a1]at hl;rcases ha with rfl|⟨ha,_⟩
     .rw[a2];exact JF.UY hg hl aa hc1 ro (anJ _ hg)
     .have h0:len=0:=aa
      subst h0;simp only[aAb];exact .WW aa
   grind [pg,Option.some.injEq]
  |om id=>
   simp only[pg]at h;split at h
   .rename_i kt es hm;simp only[tc]at h;subst h;obtain⟨g,en,clock,kk,hg,hh,hs,hk,WX,_,hv⟩:=hM.eE id _ hm;cases hx with
    |om dH=>
     rw[hg]at dH;simp only[tc]at dH;subst dH;refine .rm (show ν g=_ from(own _ _ _ hm (.inl hg)).trans hh) (by simp[hs]) ae hk (λi k hi=>?_) (λi k e hi he=>?_) (λi v e hi he=>?_)
     .grind
     .simp only[AT,asI]at hi;obtain⟨⟨a,b⟩,hq,rfl⟩:=hi;exact(hv i a b e hq he).1.mono ro
     .simp only[AT,asI]at hi;obtain⟨⟨a,b⟩,hq,rfl⟩:=hi;exact(hv i a b e hq he).2.mono ro
   .rename_i kt e0 es hm;simp only[tc]at h;subst h;obtain⟨g,en,clock,kk,hg,hh,hs,hk,WX,_,hv⟩:=hM.eE id _ hm;cases hx with
    |om dH=>
     rw[hg]at dH;simp only[tc]at dH;subst dH;refine .rm (show ν g=_ from(own _ _ _ hm (.inl hg)).trans hh) (by simp[hs]) ae hk (λi k hi=>?_) (λi k e hi he=>?_) (λi v e hi he=>?_)
     .grind
     .simp only[AT,asI]at hi;obtain⟨⟨a,b⟩,hq,rfl⟩:=hi;exact(hv i a b e hq he).1.mono ro
     .simp only[AT,asI]at hi;obtain⟨⟨a,b⟩,hq,rfl⟩:=hi;have h2:=(hv i a b e hq he).2;cases hr:b.isRow with
      |false=>
       have e1:b.vi=b:=by cases b<;>first|rfl|cases hr
       simp only[e1];split at h2
       .cases hr
       .exact h2.mono ro
      |true=>
       cases b<;>first|(cases hr;done)|skip
       exact h2.1.Td h2.2 ro λg' dH=>own _ _ _ hm (.inr ⟨i,0,by simp[cS.rowAt,hq,PV.isRow],dH⟩)
   .cases h
  |fn f cs=>
   simp only[pg]at h;have⟨ps,u9,h⟩:=IS.1 h;simp only[tc]at h;subst h;have⟨h1,h2⟩:=jE u9;cases hx with
   |fn g1 g2=>refine .fn aa (λi q y hq hy=>?_);grind
  |yl id=>simp[pg]at h
  |it id=>simp[pg]at h
  |top=>simp[pg]at h
end
section
variable {P:Program} {w:World}
def valOf:PV->Value
 |.int k n=>.int k n
 |.bool b=>.bool b
 |.str s=>.string ⟨s.toArray⟩
 |_=>undef
def gw(P:Program)(t:TypeId)(ps:List PV):Value:=if aS P t then .agg (ps.map valOf).toArray else valOf (ps.headD .bad)
theorem Te{μ:Ro}{k:Kd}{p:PV}{y:Value}(h:Dq k p=Y)(hy:aH P μ p y):y=valOf p:=by cases k<;>cases p<;>simp[Dq]at h<;>cases hy<;>rfl
def zb:∀{ks:List Kd}{ps:List PV},rS ks ps=Y->ps.length=ks.length
 |[],[],_=>rfl
 |[],_::_,h=>by simp[rS]at h
 |_::_,[],h=>by simp[rS]at h
 |k::ks,p::ps,h=>by simp[rS]at h;simp[zb h.2]
theorem acM:∀{ks:List Kd}{ps:List PV},rS ks ps=Y->∀(i:Nat)p,ps[i]?=U p->∃k,ks[i]?=U k/\Dq k p=Y
 |[],[],_,i,p,hi=>by simp at hi
 |[],_::_,h,_,_,_=>by simp[rS]at h
 |_::_,[],h,_,_,_=>by simp[rS]at h
 |k::ks,q::ps,h,i,p,hi=>by
  simp[rS]at h;cases i with
  |zero=>simp at hi;subst hi;exact⟨k,ae,h.1⟩
  |succ i=>simp at hi;simpa using acM h.2 i p hi
def zT:∀(a b:List Kd)(ps:List PV),rS (a++b) ps=Y↔rS a (ps.take a.length)=Y/\rS b (ps.drop a.length)=Y
 |[],b,ps=>by simp[rS]
 |k::a,b,[]=>by simp[rS]
 |k::a,b,p::ps=>by simp[rS,zT,T1,aAr]
def Gz:∀(n:Nat)(ps qs:List PV),n<=ps.length->n<=qs.length->cz ps qs=(cz (ps.take n) (qs.take n)&&cz (ps.drop n) (qs.drop n))
 |0,ps,qs,_,_=>bm
 |n+1,[],_,h,_=>by simp at h
 |n+1,_::_,[],_,h=>bm
 |n+1,p::ps,q::qs,h1,h2=>by simp only[al6,Nat.add_le_add_iff_right]at h1 h2;simp only[cz,List.take_succ_cons,List.drop_succ_cons,Gz n ps qs h1 h2,Bool.and_assoc]
variable{ks:List Kd}{ps:List PV}
def Cr{μ:Ro}{xs:Array Value}(hk:rS ks ps=Y)(hl:xs.size=ps.length)(hv:∀(i:Nat)p y,ps[i]?=U p->xs[i]?=U y->aH P μ p y):xs=(ps.map valOf).toArray:=by
 apply azT;apply ayI;intro i;by_cases hi:i<ps.length
 .have h1:ps[i]?=U ps[i]:=ta hi;grind [Array.getElem?_eq_getElem,acM,Te]
 .simp[hi,hl]
theorem Jd(a:List Kd):∀n,(zM a n).length=n*a.length
 |0=>by simp[zM]
 |n+1=>by simp[zM,Jd a n,ayX];omega
def sK{k:Kd}(h:rS [k] ps=Y):∃p,ps=[p]/\Dq k p=true:=by
 cases ps with
 |nil=>simp[rS]at h
 |cons p r=>cases r with
  |nil=>exact⟨p,rfl,by simpa[rS]using h⟩
  |cons q r=>simp[rS]at h
def Iq{d:Nat}{t:TypeId}(h:LZ P d t=U ks):(aS P t=Y->ks.length=bq P t)/\(aS P t=J->ks.length=1)/\∃de,P.underlying t=U de:=by
 cases d with
 |zero=>simp[LZ]at h
 |succ d=>
  unfold LZ at h;split at h
  .grind [aS]
  .grind [aS]
  .grind [aS]
  .rename_i fs hu;split at h
   .cases h
   .obtain⟨a,ha,h⟩:=IS.1 h;grind [aS]
  next n e hu=>have⟨a,ha,h⟩:=IS.1 h;grind [aS,Jd]
  .cases h
def oz{d:Nat}{t:TypeId}{off:Nat}(h:LZ P d t=U ks)(hl:off+ks.length<=ps.length):(part t (ps.map valOf).toArray off).run P w=.ok (gw P t ((ps.drop off).take ks.length)) w:=by
 have⟨h1,h2,de,hu⟩:=Iq h;cases ha:aS P t with
 |true=>rw[KN ha];congr 1;simp only[gw,ha,By];simp_all
 |false=>
  have hk:=h2 ha;rw[hk]at hl⊢;have bX:off<ps.length:=aa
  rw[KO hu ha (y:=valOf ps[off]) (by simp[bX])];congr 1;simp only[gw,ha,AI,OF];rw[ayA bX];rfl
def xO:∀(d:Nat)(t:TypeId)(ks:List Kd),LZ P d t=U ks->∀(D:Nat)(w:World)(ps qs:List PV),rS ks ps=Y->rS ks qs=Y->(Op.equalIn (D+d) t (gw P t ps) (gw P t qs)).run P w=.ok (cz ps qs) w
 |0,t,ks,h,_,_,_,_,_,_=>by simp[LZ]at h
 |d+1,t,ks,h,D,w,ps,qs,hp,hq=>by
  have ih:=xO d;have h0:=h;unfold LZ at h;split at h
  .rename_i q hu;simp only[tc]at h;subst h;have ha:aS P t=false:=by simp[aS,hu]
   obtain⟨p,rfl,hkp⟩:=sK hp;obtain⟨q',rfl,hkq⟩:=sK hq;clear hp hq;cases p<;>simp[Dq]at hkp;cases q'<;>simp[Dq]at hkq;subst hkp;subst hkq;simp[gw,ha,valOf,cz,peq,<-ayU,Op.equalIn,run_underlying hu]
  .rename_i hu;simp only[tc]at h;subst h;have ha:aS P t=false:=by simp[aS,hu]
   obtain⟨p,rfl,hkp⟩:=sK hp;obtain⟨q',rfl,hkq⟩:=sK hq;clear hp hq;cases p<;>simp[Dq]at hkp;cases q'<;>simp[Dq]at hkq;simp[gw,ha,valOf,cz,peq,<-ayU,Op.equalIn,run_underlying hu]
  .rename_i hu;simp only[tc]at h;subst h;have ha:aS P t=false:=by simp[aS,hu]
   obtain⟨p,rfl,hkp⟩:=sK hp;obtain⟨q',rfl,hkq⟩:=sK hq;clear hp hq;cases p<;>simp[Dq]at hkp;cases q'<;>simp[Dq]at hkq;simp only[gw,ha,valOf,cz,peq,<-ayU,AI,OF,List.headD_cons,azw];simp_all[run_equalIn_string,ByteArray.toList_eq]
  .rename_i fs hu;split at h
   .cases h
   .rename_i fL;have⟨a,ha,h⟩:=IS.1 h;split at h
    .rename_i hlen;simp only[tc]at h;subst h;have hag:aS P t=true:=by simp[aS,hu]
     have hfo:P.fieldsOf t=fs:=by simp[Program.fieldsOf,hu]
     simp only[gw,hag,By,<-ayU];rw[run_equalIn_struct w (D+d) t _ _ (by rw[hfo];omega) (by simpa using fL),hfo];have key:∀(L:List Field)(off:Nat)(b:List Kd)(w:World),zL (LZ P d) L off=U b->off<=ps.length->off<=qs.length->rS b (ps.drop off)=Y->rS b (qs.drop off)=Y->(Op.eqFields (D+d) (ps.map valOf).toArray (qs.map valOf).toArray L).run P w=.ok (cz (ps.drop off) (qs.drop off)) w:=by
      intro L;induction L with
      |nil=>
       intro off b w hb o1 o2 h1 h2;simp only[zL,tc]at hb;subst hb;have e1:ps.drop off=[]:=by cases hh:ps.drop off with|nil=>rfl|cons x r=>rw[hh]at h1;simp[rS]at h1
       have e2:qs.drop off=[]:=by cases hh:qs.drop off with|nil=>rfl|cons x r=>rw[hh]at h2;simp[rS]at h2
       simp[Op.eqFields,e1,e2,cz]
      |cons f L ihL=>
       intro off b w hb o1 o2 h1 h2;simp only[zL]at hb;split at hb
       .rename_i hf;have⟨c,hc,hb⟩:=IS.1 hb;have⟨b',mH,hb⟩:=IS.1 hb;simp only[tc]at hb;subst hb;rw[zT]at h1 h2;have l1:=zb h1.1;have l2:=zb h2.1;simp only[ayz,aAd]at l1 l2;have p1:=oz (w:=w) (ps:=ps) (off:=off) hc aa;have p2:=oz (w:=w) (ps:=qs) (off:=off) hc aa;have p3:=ih f.type c hc D w _ _ h1.1 h2.1;have p4:=ihL (off+c.length) b' w mH aa aa av av;simp only[Op.eqFields,hf.2,aBg,not_false_eq_true,By,Sem.run_bind,hf.1,p1,p2,p3,Result.andThen_ok];rw[Gz c.length (ps.drop off) (qs.drop off) ah ah,azN,azN];cases hr:cz ((ps.drop off).take c.length) ((qs.drop off).take c.length)with
        |false=>simp
        |true=>simpa using p4
       .cases hb
     grind
    .cases h
  .rename_i n e hu;have⟨a,ha,h⟩:=IS.1 h;split at h
   .rename_i hlen;simp only[tc]at h;subst h;have hag:aS P t=true:=by simp[aS,hu]
    have⟨_,_,de,hde⟩:=Iq ha;obtain⟨i,hi⟩:∃i,P.info? e=U i:=by unfold Program.underlying at hde;grind
    have sB:P.cellsOf e=a.length:=hlen.1.symm;simp only[gw,hag,By,<-ayU];rw[run_equalIn_array w (D+d) _ _ hu hi,sB];have key:∀(k j:Nat)(w:World),j+k=n->j*a.length<=ps.length->j*a.length<=qs.length->rS (zM a k) (ps.drop (j*a.length))=Y->rS (zM a k) (qs.drop (j*a.length))=Y->(Op.eqItems (D+d) e a.length (ps.map valOf).toArray (qs.map valOf).toArray (List.range' j k)).run P w=.ok (cz (ps.drop (j*a.length)) (qs.drop (j*a.length))) w:=by
     intro k;induction k with
     |zero=>
      intro j w _ _ _ h1 h2;simp only[zM]at h1 h2;have e1:ps.drop (j*a.length)=[]:=by cases hh:ps.drop (j*a.length)with|nil=>rfl|cons x r=>rw[hh]at h1;simp[rS]at h1
      have e2:qs.drop (j*a.length)=[]:=by cases hh:qs.drop (j*a.length)with|nil=>rfl|cons x r=>rw[hh]at h2;simp[rS]at h2
      simp[Op.eqItems,e1,e2,cz]
     |succ k ihk=>
      intro j w hj o1 o2 h1 h2;simp only[zM]at h1 h2;rw[zT]at h1 h2;have l1:=zb h1.1;have l2:=zb h2.1;simp only[ayz,aAd]at l1 l2;have p1:=oz (w:=w) (ps:=ps) (off:=j*a.length) ha aa;have p2:=oz (w:=w) (ps:=qs) (off:=j*a.length) ha aa;have p3:=ih e a ha D w _ _ h1.1 h2.1;have ej:(j+1)*a.length=j*a.length+a.length:=by rw[ayX];omega
      have p4:=ihk (j+1) w aa aa aa av av;rw[aAc];simp only[Op.eqItems,Sem.run_bind,p1,p2,p3,Result.andThen_ok];rw[Gz a.length (ps.drop (j*a.length)) (qs.drop (j*a.length)) ah ah,azN,azN,<-ej];cases hr:cz ((ps.drop (j*a.length)).take a.length) ((qs.drop (j*a.length)).take a.length)with
      |false=>simp
      |true=>simpa using p4
    simp_all[az5]
   .cases h
  .cases h
end
section
variable {R:Type} {E:Env}
def akL{k:IntKind}{x y:Int}(hx:(Lit.int k x).wf=Y):(Lit.int k (x.tmod y)).wf=true:=by
 rw[Eu]at*;have h0:k.min<=0/\0<=k.max:=by grind [IntKind.min,IntKind.max,IntKind.signed,IntKind.bits]
 rcases Int.le_total 0 x with h|h
 .have h1:=Int.tmod_nonneg y h;have h2:x.tmod y<=x:=by have:=Int.natAbs_tmod x y;have h3:x.natAbs%y.natAbs<=x.natAbs:=Nat.mod_le _ _;omega
  omega
 .have h1:x.tmod y= -((-x).tmod y):=ae
  have h2:=Int.tmod_nonneg y (aa:0≤-x);have h3:(-x).tmod y≤-x:=by have:=Int.natAbs_tmod (-x) y;have h3:(-x).natAbs%y.natAbs<=(-x).natAbs:=Nat.mod_le _ _;omega
  omega
def akM{k:IntKind}{x:Int}(n:Nat)(hx:(Lit.int k x).wf=Y):(Lit.int k (x.fdiv (2^n))).wf=true:=by
 rw[Eu]at*;have h0:k.min<=0/\0<=k.max:=by grind [IntKind.min,IntKind.max,IntKind.signed,IntKind.bits]
 have hp:(0:Int)<2^n:=Int.pow_pos aa;rw[aAE _ aa];rcases Int.le_total 0 x with h|h
 .have h1:=aA6 h (Int.le_of_lt hp);have h2:=Int.ediv_le_self (2^n) h;omega
 .have h1:x/2^n<=0:=Int.ediv_nonpos_of_nonpos_of_neg h hp;have h2:x<=x/2^n:=by rw[Int.le_ediv_iff_mul_le hp];have:x*2^n<=x*1:=Int.mul_le_mul_of_nonpos_left h aa;omega
  omega
variable{P:Program}{t:TypeId}
def Tf{ps:List PV}(ha:aS P t=Y):gw P t ps=.agg (ps.map valOf).toArray:=by simp[gw,ha]
def Tg(P:Program)(t:TypeId):Bool:=P.eqGuardType P.depth t
def Cs(op:BinOp)(t:TypeId)(ox oy:Operand)(x y:Value):Sem Value:=do eqGuard op t ox oy x y;binOp op t x y
variable{x y:Value}{w:World}
def lU{b:Bool}(hb:binOp .eql t x y=(do pure (.bool (<-Op.equal t x y))))(h:(Op.equalIn 10000 t x y).run P w=.ok b w):(binOp .eql t x y).run P w=.ok (.bool b) w:=(by simp_all[Op.equal,Op.maxDepth,Sem.run_bind,Result.andThen_ok,Sem.run_pure])
def lV{b:Bool}(hb:binOp .neq t x y=(do pure (.bool (!(<-Op.equal t x y)))))(h:(Op.equalIn 10000 t x y).run P w=.ok b w):(binOp .neq t x y).run P w=.ok (.bool (!b)) w:=(by simp_all[Op.equal,Op.maxDepth,Sem.run_bind,Result.andThen_ok,Sem.run_pure])
def cL{op:BinOp}{ox oy:Operand}{z:Value}(h1:(eqGuard op t ox oy x y).run P w=.ok () w)(h2:(binOp op t x y).run P w=.ok z w):(Cs op t ox oy x y).run P w=.ok z w:=by simp_all[Cs,Sem.run_bind,Result.andThen_ok]
def rV{e:TypeId}(hu:P.underlying t=U (.pointer e))(a:Option Addr):(Op.equalIn 10000 t (.pointer a) (.pointer Z)).run P w=.ok a.isNone w:=by show(Op.equalIn (9999+1) t (.pointer a) (.pointer Z)).run P w=.ok a.isNone w;cases a<;>(unfold Op.equalIn;simp only[Sem.run_bind,run_underlying hu,Result.andThen_ok];rfl)
def Ew{a b:Array TypeId}{c:Bool}(hu:P.underlying t=U (.func a b c))(f:Fn)(xs ys:Array Value):(Op.equalIn 10000 t (.func f xs ys) .nilFunc).run P w=.ok J w:=by show(Op.equalIn (9999+1) t (.func f xs ys) .nilFunc).run P w=.ok J w;unfold Op.equalIn;simp only[Sem.run_bind,run_underlying hu,Result.andThen_ok];rfl
variable{k:PV->Option R}{a:V}{r:R}
def akN{op:BinOp}{b:V}(h:su E op t a b k=U r):∃q,(∀(R':Type)(k':PV->Option R'),su E op t a b k'=k' q)/\k q=U r/\∀(μ:Ro)(φ:Nat->aT)(w:World)(ox oy:Operand)(x y:Value),az E.P μ φ a x->az E.P μ φ b y->∃z,(Cs op t ox oy x y).run E.P w=.ok z w/\aH E.P μ q z:=by
 unfold su at h;split at h
 .rename_i q x q' y;have ints:∀(μ:Ro)(φ:Nat->aT)(u v:Value),az E.P μ φ (.pv (.int q x)) u->az E.P μ φ (.pv (.int q' y)) v->u=.int q x/\v=.int q' y/\(Lit.int q x).wf=true:=by intro μ φ u v hu hv;cases hu with|pv hu=>cases hu with|int h1=>cases hv with|pv hv=>cases hv with|int h2=>exact⟨rfl,rfl,h1⟩
  cases op;case shl=>
   simp only at h;split at h
   .cases h
   next hy=>refine⟨_,λR' k'=>by simp[su,hy],h,λμ φ w ox oy u v hu hv=>?_⟩;obtain⟨rfl,rfl,_⟩:=ints μ φ u v hu hv;exact⟨_,by simp[Cs,eqGuard,binOp,Op.shift,hy],.int (wf_wrap _ _)⟩
  case shr=>
   simp only at h;split at h
   .cases h
   next hy=>refine⟨_,λR' k'=>by simp[su,hy],h,λμ φ w ox oy u v hu hv=>?_⟩;obtain⟨rfl,rfl,hw⟩:=ints μ φ u v hu hv;exact⟨_,by simp[Cs,eqGuard,binOp,Op.shift,hy],.int (akM _ hw)⟩
  case quo=>
   simp only at h;split at h
   .rename_i hq;subst hq;split at h
    .cases h
    next hy=>refine⟨_,λR' k'=>by simp[su,hy],h,λμ φ w ox oy u v hu hv=>?_⟩;obtain⟨rfl,rfl,_⟩:=ints μ φ u v hu hv;exact⟨_,by simp[Cs,eqGuard,binOp,Op.intDiv,hy],.int (wf_wrap _ _)⟩
   .cases h
  case rem=>
   simp only at h;split at h
   .rename_i hq;subst hq;split at h
    .cases h
    next hy=>refine⟨_,λR' k'=>by simp[su,hy],h,λμ φ w ox oy u v hu hv=>?_⟩;obtain⟨rfl,rfl,hw⟩:=ints μ φ u v hu hv;exact⟨_,by simp[Cs,eqGuard,binOp,Op.intDiv,hy],.int (akL hw)⟩
   .cases h
  case eql|neq|lss|leq|gtr|geq=>
   simp only at h;split at h
   .rename_i hq;subst hq;refine⟨_,λR' k'=>by simp[su],h,λμ φ w ox oy u v hu hv=>?_⟩;obtain⟨rfl,rfl,_⟩:=ints μ φ u v hu hv;refine⟨_,cL (by rw[eqGuard_at_int];rfl) ?_,.bool⟩;first|rw[binOp_eql]|rw[binOp_neq]|rw[binOp_lss]|rw[binOp_leq]|rw[binOp_gtr]|rw[binOp_geq]
    rfl
   .cases h
  all_goals
   simp only at h;split at h
   .rename_i hq;subst hq;refine⟨_,λR' k'=>by simp[su],h,λμ φ w ox oy u v hu hv=>?_⟩;obtain⟨rfl,rfl,_⟩:=ints μ φ u v hu hv;refine⟨_,cL (by rw[eqGuard_at_int];rfl) ?_,.int (wf_wrap _ _)⟩;first|rw[binOp_add]|rw[binOp_sub]|rw[binOp_mul]|rw[binOp_and]|rw[binOp_or]|rw[binOp_xor]|rw[binOp_andNot]
    rfl
   .cases h
 .rename_i x y;have strs:∀(μ:Ro)(φ:Nat->aT)(u v:Value),az E.P μ φ (.pv (.str x)) u->az E.P μ φ (.pv (.str y)) v->u=.string ⟨x.toArray⟩/\v=.string ⟨y.toArray⟩:=by intro μ φ u v hu hv;cases hu with|pv hu=>cases hu with|str h1=>cases hv with|pv hv=>cases hv with|str h2=>exact⟨rfl,rfl⟩
  cases op;case add=>
   simp only at h;split at h
   .rename_i bG;have hy:¬((x.length+y.length:Nat):Int)>IntKind.i64.max:=by have:=E.lp.yW _ bG;omega
    refine⟨_,λR' k'=>by simp only[su];rw[BY bG],h,λμ φ w ox oy u v hu hv=>?_⟩;obtain⟨rfl,rfl⟩:=strs μ φ u v hu hv;refine⟨.string ⟨(x++y).toArray⟩,?_,.str ?_⟩
    .simp only[Cs,eqGuard,binOp,Op.stringOp,Sem.run_bind];have e:(⟨x.toArray⟩++⟨y.toArray⟩:ByteArray)=⟨(x++y).toArray⟩:=by apply ByteArray.ext;simp
     simp only[PD,e];rw[IT hy];simp
    .simp only[maxLen];simp only[IntKind.max_i64]at hy;simp;omega
   .cases h
  case eql|neq|lss|leq|gtr|geq=>simp only at h;refine⟨_,λR' k'=>by simp only[su],h,λμ φ w ox oy u v hu hv=>?_⟩;obtain⟨rfl,rfl⟩:=strs μ φ u v hu hv;refine⟨_,cL (by rw[eqGuard_at_string];rfl) ?_,.bool⟩;simp only[binOp,Op.stringOp,ByteArray.toList_eq];rfl
  all_goals (simp only at h;cases h)
 .rename_i x y;have amJ:∀(μ:Ro)(φ:Nat->aT)(u v:Value),az E.P μ φ (.pv (.bool x)) u->az E.P μ φ (.pv (.bool y)) v->u=.bool x/\v=.bool y:=by intro μ φ u v hu hv;cases hu with|pv hu=>cases hu with|bool=>cases hv with|pv hv=>cases hv with|bool=>exact⟨rfl,rfl⟩
  split at h
  next zU=>refine⟨_,λR' k'=>by simp only[su,zU],h,λμ φ w ox oy u v hu hv=>?_⟩;obtain⟨rfl,rfl⟩:=amJ μ φ u v hu hv;exact⟨_,cL (by rw[eqGuard_at_bool];rfl) (lU rfl (run_equalIn_bool w _ _ _ _ zU)),.bool⟩
  next zU=>refine⟨_,λR' k'=>by simp only[su,zU],h,λμ φ w ox oy u v hu hv=>?_⟩;obtain⟨rfl,rfl⟩:=amJ μ φ u v hu hv;exact⟨_,cL (by rw[eqGuard_at_bool];rfl) (lV rfl (run_equalIn_bool w _ _ _ _ zU)),.bool⟩
  .cases h
 .split at h
  next zU=>refine⟨_,λR' k'=>by simp only[su,zU],h,λμ φ w ox oy u v hu hv=>?_⟩;cases hu with|pv hu=>cases hu;cases hv with|pv hv=>cases hv;exact⟨_,cL (by rw[eqGuard_at_pointer];rfl) (lU rfl (rV zU Z)),.bool⟩
  next zU=>refine⟨_,λR' k'=>by simp only[su,zU],h,λμ φ w ox oy u v hu hv=>?_⟩;cases hu with|pv hu=>cases hu;cases hv with|pv hv=>cases hv;exact⟨_,cL (by rw[eqGuard_at_pointer];rfl) (lV rfl (rV zU Z)),.bool⟩
  .cases h
 .split at h
  next zU=>refine⟨_,λR' k'=>by simp only[su,zU],h,λμ φ w ox oy u v hu hv=>?_⟩;cases hu with| @fn f0 _ xs0=>cases hv with|pv hv=>cases hv;obtain⟨g0,a0,b0,e0⟩:=sI _ xs0;rw[e0];exact⟨_,cL (by rw[eqGuard_at_func];rfl) (lU rfl (Ew zU _ _ _)),.bool⟩
  next zU=>refine⟨_,λR' k'=>by simp only[su,zU],h,λμ φ w ox oy u v hu hv=>?_⟩;cases hu with| @fn f0 _ xs0=>cases hv with|pv hv=>cases hv;obtain⟨g0,a0,b0,e0⟩:=sI _ xs0;rw[e0];exact⟨_,cL (by rw[eqGuard_at_func];rfl) (lV rfl (Ew zU _ _ _)),.bool⟩
  .cases h
 .split at h
  next zU=>refine⟨_,λR' k'=>by simp only[su,zU],h,λμ φ w ox oy u v hu hv=>?_⟩;cases hu with|pv hu=>cases hu with| @fn f0 _ xs0=>cases hv with|pv hv=>cases hv;obtain⟨g0,a0,b0,e0⟩:=sI _ xs0;rw[e0];exact⟨_,cL (by rw[eqGuard_at_func];rfl) (lU rfl (Ew zU _ _ _)),.bool⟩
  next zU=>refine⟨_,λR' k'=>by simp only[su,zU],h,λμ φ w ox oy u v hu hv=>?_⟩;cases hu with|pv hu=>cases hu with| @fn f0 _ xs0=>cases hv with|pv hv=>cases hv;obtain⟨g0,a0,b0,e0⟩:=sI _ xs0;rw[e0];exact⟨_,cL (by rw[eqGuard_at_func];rfl) (lV rfl (Ew zU _ _ _)),.bool⟩
  .cases h
 .split at h
  next zU=>refine⟨_,λR' k'=>by simp only[su,zU],h,λμ φ w ox oy u v hu hv=>?_⟩;cases hu with|pv hu=>cases hu;cases hv with|pv hv=>cases hv;exact⟨_,cL (by rw[eqGuard_at_pointer];rfl) (lU rfl (rV zU _)),.bool⟩
  next zU=>refine⟨_,λR' k'=>by simp only[su,zU],h,λμ φ w ox oy u v hu hv=>?_⟩;cases hu with|pv hu=>cases hu;cases hv with|pv hv=>cases hv;exact⟨_,cL (by rw[eqGuard_at_pointer];rfl) (lV rfl (rV zU _)),.bool⟩
  .cases h
 .split at h
  next zU=>refine⟨_,λR' k'=>by simp only[su,zU],h,λμ φ w ox oy u v hu hv=>?_⟩;cases hu with|op hg=>cases hv with|pv hv=>cases hv;exact⟨_,cL (by rw[eqGuard_at_pointer];rfl) (lU rfl (rV zU _)),.bool⟩
  next zU=>refine⟨_,λR' k'=>by simp only[su,zU],h,λμ φ w ox oy u v hu hv=>?_⟩;cases hu with|op hg=>cases hv with|pv hv=>cases hv;exact⟨_,cL (by rw[eqGuard_at_pointer];rfl) (lV rfl (rV zU _)),.bool⟩
  .cases h
 .split at h
  next zU=>refine⟨_,λR' k'=>by simp only[su,zU],h,λμ φ w ox oy u v hu hv=>?_⟩;cases hu with|oe hg=>cases hv with|pv hv=>cases hv;exact⟨_,cL (by rw[eqGuard_at_pointer];rfl) (lU rfl (rV zU _)),.bool⟩
  next zU=>refine⟨_,λR' k'=>by simp only[su,zU],h,λμ φ w ox oy u v hu hv=>?_⟩;cases hu with|oe hg=>cases hv with|pv hv=>cases hv;exact⟨_,cL (by rw[eqGuard_at_pointer];rfl) (lV rfl (rV zU _)),.bool⟩
  .cases h
 .rename_i n1 n2 n3 n4 m1 m2 n5 n6 n7;split at h
  .rename_i ha;split at h
   .rename_i ks as bs hks has hbs;split at h
    .rename_i ps qs u9 hqs;split at h
     .rename_i hc;have hE:Tg E.P t=J/\LZ E.P 8 t=U ks:=by
       unfold BM at hks;split at hks
       .cases hks
       next hg=>exact⟨by simpa[Tg]using hg,hks⟩
      have key:∀(μ:Ro)(φ:Nat->aT)(w:World)(x y:Value),az E.P μ φ a x->az E.P μ φ b y->∃xs ys,x=.agg xs/\y=.agg ys/\(Op.equalIn 10000 t x y).run E.P w=.ok (cz ps qs) w:=by intro μ φ w x y hx hy;obtain⟨xs,rfl,g1,g2,g3⟩:=(wY has).2 _ _ _ _ hx;obtain⟨ys,rfl,g4,g5,g6⟩:=(wY hbs).2 _ _ _ _ hy;have⟨l1,l2⟩:=jE u9;have⟨l3,l4⟩:=jE hqs;have e1:=Cr (P:=E.P) (μ:=μ) (xs:=xs) hc.1 aa (λi p z hi hz=>by have⟨v,hv,hg⟩:=l2 i p hi;exact Dz 1 hg (g2 i v z hv hz));have e2:=Cr (P:=E.P) (μ:=μ) (xs:=ys) hc.2 aa (λi p z hi hz=>by have⟨v,hv,hg⟩:=l4 i p hi;exact Dz 1 hg (g5 i v z hv hz));refine⟨xs,ys,rfl,rfl,?_⟩;have:=xO 8 t ks hE.2 9992 w ps qs hc.1 hc.2;rw[Tf ha,Tf ha,<-e1,<-e2]at this;exact this
      have avH:∀(R':Type)(k':PV->Option R'),su E .eql t a b k'=k' (.bool (cz ps qs)):=by
       intro R' k';unfold su;split
       .exact(n1 _ _ _ _ rfl rfl).elim
       .exact(n2 _ _ rfl rfl).elim
       .exact(n3 _ _ rfl rfl).elim
       .exact(n4 rfl rfl).elim
       .exact(m1 _ _ rfl rfl).elim
       .exact(m2 _ _ rfl rfl).elim
       .exact(n5 _ rfl rfl).elim
       .exact(n6 _ _ rfl rfl).elim
       .exact(n7 _ _ _ rfl rfl).elim
       .rw[BY ha,hks,has,hbs];simp only[u9,hqs];rw[BY hc]
      have avI:∀(R':Type)(k':PV->Option R'),su E .neq t a b k'=k' (.bool (!(cz ps qs))):=by
       intro R' k';unfold su;split
       .exact(n1 _ _ _ _ rfl rfl).elim
       .exact(n2 _ _ rfl rfl).elim
       .exact(n3 _ _ rfl rfl).elim
       .exact(n4 rfl rfl).elim
       .exact(m1 _ _ rfl rfl).elim
       .exact(m2 _ _ rfl rfl).elim
       .exact(n5 _ rfl rfl).elim
       .exact(n6 _ _ rfl rfl).elim
       .exact(n7 _ _ _ rfl rfl).elim
       .rw[BY ha,hks,has,hbs];simp only[u9,hqs];rw[BY hc]
      cases op;case eql=>refine⟨_,λR' k'=>avH R' k',h,λμ φ w ox oy x y hx hy=>?_⟩;obtain⟨xs,ys,rfl,rfl,hr⟩:=key μ φ w x y hx hy;exact⟨_,cL (run_eqGuard_agg w _ _ _ _ _ _ hE.1) (lU rfl hr),.bool⟩
      case neq=>refine⟨_,λR' k'=>avI R' k',h,λμ φ w ox oy x y hx hy=>?_⟩;obtain⟨xs,ys,rfl,rfl,hr⟩:=key μ φ w x y hx hy;exact⟨_,cL (run_eqGuard_agg w _ _ _ _ _ _ hE.1) (lV rfl hr),.bool⟩
      all_goals (simp only at h;cases h)
     .cases h
    .cases h
   .cases h
  .cases h
def anK{op:UnOp}(h:xun op a k=U r):∃q,(∀(R':Type)(k':PV->Option R'),xun op a k'=k' q)/\k q=U r/\∀(P:Program)(μ:Ro)(φ:Nat->aT)(w:World)(x:Value),az P μ φ a x->∃z,(Op.unary op x).run P w=.ok z w/\aH P μ q z:=by
 unfold xun at h;split at h
 .refine⟨_,λR' k'=>rfl,h,λP μ φ w x hx=>?_⟩;cases hx with|pv hx=>cases hx;exact⟨_,rfl,.bool⟩
 .refine⟨_,λR' k'=>rfl,h,λP μ φ w x hx=>?_⟩;cases hx with|pv hx=>cases hx;exact⟨_,rfl,.int (wf_wrap _ _)⟩
 .refine⟨_,λR' k'=>rfl,h,λP μ φ w x hx=>?_⟩;cases hx with|pv hx=>cases hx;exact⟨_,rfl,.int (wf_wrap _ _)⟩
 .cases h
def akO{k:IntKind}{n:Int}(h:(Lit.int k n).wf=Y):k.wrap n=n:=by rw[Eu]at h;cases k<;>simp only[IntKind.wrap,IntKind.min,IntKind.max,IntKind.signed,IntKind.bits]at* <;>simp at* <;>(try split)<;>omega
def ag4{s d:TypeId}(h:Pk E s d a k=U r):∃q,(∀(R':Type)(k':PV->Option R'),Pk E s d a k'=k' q)/\k q=U r/\∀(μ:Ro)(φ:Nat->aT)(w:World)(x:Value),az E.P μ φ a x->∃z,(convert s d x).run E.P w=.ok z w/\aH E.P μ q z:=by
 unfold Pk at h;split at h
 .rename_i q q' q'' n hs hd;split at h
  .rename_i e1;subst e1;split at h
   next e2=>subst e2;refine⟨_,λR' k'=>by simp[Pk,hs,hd],h,λμ φ w x hx=>?_⟩;cases hx with|pv hx=>cases hx with|int hw=>exact⟨_,by simp[convert,run_underlying hs,run_underlying hd,Conv.intToInt,akO hw],.int hw⟩
   next e2=>refine⟨_,λR' k'=>by simp[Pk,hs,hd,e2],h,λμ φ w x hx=>?_⟩;cases hx with|pv hx=>cases hx with|int hw=>exact⟨_,by simp[convert,run_underlying hs,run_underlying hd,Conv.intToInt],.int (wf_wrap _ _)⟩
  .cases h
 next hs hd=>refine⟨_,λR' k'=>by simp[Pk,hs,hd],h,λμ φ w x hx=>?_⟩;cases hx with|pv hx=>cases hx with|str hl=>exact⟨_,by simp[convert,run_underlying hs,run_underlying hd],.str hl⟩
 .cases h
def ag5{b:V}(h:Xf a b k=U r):∃q,(∀(R':Type)(k':PV->Option R'),Xf a b k'=k' q)/\k q=U r/\∀(P:Program)(μ:Ro)(φ:Nat->aT)(w:World)(x y:Value),az P μ φ a x->az P μ φ b y->∃z,(Builtin.min2 x y).run P w=.ok z w/\aH P μ q z:=by
 unfold Xf at h;split at h
 .split at h
  next e=>subst e;refine⟨_,λR' k'=>by simp[Xf],h,λP μ φ w x y hx hy=>?_⟩;cases hx with|pv hx=>cases hx with|int h1=>cases hy with|pv hy=>cases hy with|int h2=>exact⟨_,rfl,by split<;>exact .int (by assumption)⟩
  .cases h
 .cases h
def KP{b:V}(h:Ny a b k=U r):∃q,(∀(R':Type)(k':PV->Option R'),Ny a b k'=k' q)/\k q=U r/\∀(P:Program)(μ:Ro)(φ:Nat->aT)(w:World)(x y:Value),az P μ φ a x->az P μ φ b y->∃z,(Builtin.max2 x y).run P w=.ok z w/\aH P μ q z:=by
 unfold Ny at h;split at h
 .split at h
  next e=>subst e;refine⟨_,λR' k'=>by simp[Ny],h,λP μ φ w x y hx hy=>?_⟩;cases hx with|pv hx=>cases hx with|int h1=>cases hy with|pv hy=>cases hy with|int h2=>exact⟨_,rfl,by split<;>exact .int (by assumption)⟩
  .cases h
 .cases h
def ag6{b c d:V}(h:Xg a b c d k=U r):∃q,(∀(R':Type)(k':PV->Option R'),Xg a b c d k'=k' q)/\k q=U r/\∀(P:Program)(μ:Ro)(φ:Nat->aT)(w:World)(x y z u:Value),az P μ φ a x->az P μ φ b y->az P μ φ c z->az P μ φ d u->∃v1 v2 v3,(Builtin.max2 x y).run P w=.ok v1 w/\(Builtin.max2 v1 z).run P w=.ok v2 w/\(Builtin.max2 v2 u).run P w=.ok v3 w/\aH P μ q v3:=by unfold Xg at h;have⟨q1,a1,h,b1⟩:=KP h;have⟨q2,a2,h,b2⟩:=KP h;have⟨q3,a3,h,b3⟩:=KP h;refine⟨q3,λR' k'=>by unfold Xg;rw[a1,a2,a3],h,λP μ φ w x y z u hx hy hz hu=>?_⟩;have⟨v1,c1,d1⟩:=b1 P μ φ w x y hx hy;have⟨v2,c2,d2⟩:=b2 P μ φ w v1 z (.pv d1) hz;have⟨v3,c3,d3⟩:=b3 P μ φ w v2 u (.pv d2) hu;exact⟨v1,v2,v3,c1,c2,c3,d3⟩
end
section
variable {P:Program} {G:Nat->Option (List PV)} {w0:bI} {μ μ':Ro} {φ φ':Nat->aT} {m:Mem} {w w':World}
variable{b:cS}
@[simp] theorem bV(m:Mem)(d:Nat)(b:cS):aO m d b d=U b:=by simp[aO]
theorem aN{m:Mem}{d t:Nat}(h:t≠d):aO m d b t=m t:=by simp[aO,cond_eq_ite,h]
@[simp] theorem amK(m:Mem)(d:Nat):bO m d d=none:=by simp[bO]
theorem jx{m:Mem}{d t:Nat}(h:t≠d):bO m d t=m t:=by simp[bO,cond_eq_ite,h]
@[simp] theorem JG(f:Fr)(d:Nat)(v:V):jC f d v d=v:=by simp[jC]
def zV{f:Fr}{d t:Nat}{v:V}(h:t≠d):jC f d v t=f t:=by simp[jC,cond_eq_ite,h]
variable{id sz:Nat}{et:TypeId}{es:List PV}
def ba.dd(h:ba P μ φ w id sz et es)(hφ:φ' id=φ id)(hμ:∀b o,μ b=U o->μ' b=U o)(hw:∀g,(φ id).g=U g->w'.heap[g]?=w.heap[g]?):ba P μ' φ' w' id sz et es:=by
 obtain⟨a1,a2,a3,a4,a5,a6,a7⟩:=h;unfold ba;rw[hφ];refine⟨a1,a2,a3,a4,a5,a6,?_⟩;cases hg:(φ id).g with
 |none=>rw[hg]at a7;omega
 |some g=>rw[hg]at a7;obtain⟨c,T,c1,c2,c3,c4,c5⟩:=a7;exact⟨c,T,by rw[hw g hg];omega,c2,c3,λi e j p x h1 h2 h3=>(c4 i e j p x h1 h2 h3).mono hμ,c5⟩
def gv.dd{R:NH}{s:Nat}{rs:List PV}{x:Value}(h:gv P μ R w s rs x)(hμ:∀b o,μ b=U o->μ' b=U o)(hw:∀g,R.g=U g->w'.heap[g]?=w.heap[g]?):gv P μ' R w' s rs x:=
 let⟨⟨et,hA⟩,hV⟩:=h
 ⟨⟨et,hA.dd rfl hμ hw⟩,hV.I9 hμ⟩
def fK.dd{R:NH}{p:PV}{x:Value}(h:fK P μ R w p x)(hμ:∀b o,μ b=U o->μ' b=U o)(hw:p.isRow=Y->∀g,R.g=U g->w'.heap[g]?=w.heap[g]?):fK P μ' R w' p x:=by
 unfold fK at*;split at h
 .exact gv.dd h hμ (hw rfl)
 .exact h.mono hμ
variable{i j:Nat}
theorem eH{e p:PV}(he:es[i]?=U e)(hp:e.cells[j]?=U p):(cS.nest sz et es).rowAt i j=p.isRow:=by simp[cS.rowAt,he,hp]
def bw.dd{id sz:Nat}{et:TypeId}{es:List PV}(h:bw P μ φ w id sz et es)(hφ:φ' id=φ id)(hμ:∀b o,μ b=U o->μ' b=U o)(hw:∀g,(cS.nest sz et es).owns (φ id) g->w'.heap[g]?=w.heap[g]?):bw P μ' φ' w' id sz et es:=by
 obtain⟨a1,a2,a3,a4,a5,a6,a7⟩:=h;unfold bw;rw[hφ];refine⟨a1,a2,a3,a4,a5,a6,?_⟩;cases hg:(φ id).g with
 |none=>rw[hg]at a7;omega
 |some g=>rw[hg]at a7;obtain⟨c,T,c1,c2,c3,c4,c5⟩:=a7;exact⟨c,T,by rw[hw g (.inl hg)];omega,c2,c3,λi e j p x h1 h2 h3=>(c4 i e j p x h1 h2 h3).dd hμ λhr g' dH=>hw g' (.inr ⟨i,j,by rw[eH h1 h2];omega,dH⟩),c5⟩
def nP{kt e:TypeId}{es:List (PV×PV)}{k v:PV}(he:es[i]?=U (k,v)):(cS.gY kt e es).rowAt i 0=v.isRow:=by simp[cS.rowAt,he]
def jF.dd{id:Nat}{b:cS}(h:jF P μ φ w id b)(hn:∀j,b.names j=Y->φ' j=φ j)(hφ:φ' id=φ id)(hμ:∀b o,μ b=U o->μ' b=U o)(hw:∀g,b.owns (φ id) g->w'.heap[g]?=w.heap[g]?):jF P μ' φ' w' id b:=by
 cases b with
 |nest sz et es=>exact bw.dd h hφ hμ hw
 |gY kt e0 es=>
  obtain⟨g,en,clock,kk,hg,hh,hs,hk,hc,Ik,hv⟩:=h;refine⟨g,en,clock,kk,by rw[hφ];omega,by rw[hw g (.inl hg)];omega,hs,hk,hc,Ik,λi k v e h1 h2=>⟨(hv i k v e h1 h2).1.mono hμ,?_⟩⟩;have h3:=(hv i k v e h1 h2).2;rw[hφ];split at h3
  .exact⟨h3.1.dd rfl hμ λg' dH=>hw g' (.inr ⟨i,0,by rw[nP h1];rfl,dH⟩),h3.2.I9 hμ⟩
  .exact h3.mono hμ
 |box cs=>obtain⟨g,c,T,hg,hh,hs,hv,h1,Sk⟩:=h;exact⟨g,c,T,by rw[hφ];omega,by rw[hw g (.inl hg)];omega,hs,λi v x hi hx=>(hv i v x hi hx).mono hμ (λj hj=>hn j (cq (awU hi) hj)),h1,by rw[hφ];omega⟩
 |arr sz et es=>exact ba.dd h hφ hμ λg hg=>hw g (.inl hg)
 |xJ sz et es=>refine⟨ba.dd h.1 hφ hμ λg hg=>hw g (.inl hg),λg hg=>?_⟩;rw[hφ]at hg;have:=h.2 g hg;have⟨o,ho⟩:=aym.1 this;rw[hμ _ _ ho];rfl
 |map kt es=>obtain⟨g,en,clock,kk,hg,hh,hs,hk,hc,Ik,hv⟩:=h;exact⟨g,en,clock,kk,by rw[hφ];omega,by rw[hw g (.inl hg)];omega,hs,hk,hc,Ik,λi k v e h1 h2=>⟨(hv i k v e h1 h2).1.mono hμ,(hv i k v e h1 h2).2.mono hμ⟩⟩
 |iter t es cur=>obtain⟨g,mg,en,clock,seen,hg,hh,WY,Ik,Sk,hv,hcu⟩:=h;exact⟨g,mg,en,clock,seen,by rw[hφ];omega,by rw[hw g (.inl hg)];omega,hμ _ _ WY,Ik,Sk,λi k v e h1 h2=>⟨(hv i k v e h1 h2).1.mono hμ,(hv i k v e h1 h2).2.mono hμ⟩,λk v hc=>let⟨i,e,h1,h2,h3,h4⟩:=hcu k v hc;⟨i,e,h1,h2,h3.mono hμ,h4.mono hμ⟩⟩
 |loop st=>obtain⟨g,rc,hg,hh⟩:=h;exact⟨g,rc,by rw[hφ];omega,by rw[hw g (.inl hg)];omega⟩
variable{g:Nat}
def gv.ON{R:NH}{s:Nat}{rs:List PV}{x:Value}(h:gv P μ R w s rs x)(hg:R.g=U g):g<w.heap.size:=by obtain⟨⟨et,_,_,_,_,_,_,a7⟩,_⟩:=h;have dH:R.up.g=U g:=hg;grind
def nQ{off:Nat}(h:b.rowAt i off=Y):(∃sz et es e s rs,b=.nest sz et es/\es[i]?=U e/\e.cells[off]?=U (.lJ s rs))\/∃kt e0 es k s rs,b=.gY kt e0 es/\off=0/\es[i]?=U (k,.lJ s rs):=by
 unfold cS.rowAt at h;split at h
 .rename_i sz et es i off;split at h
  .rename_i e he;split at h
   .rename_i p hp;cases p<;>first|(cases h;done)|skip
    grind
   .cases h
  .cases h
 .rename_i kt e0 es i;split at h
  .rename_i x hx;obtain⟨k,v⟩:=x;cases v<;>first|(cases h;done)|skip
   grind
  .cases h
 .cases h
def jF.arD{off:Nat}(h:jF P μ φ w id b)(hr:b.rowAt i off=Y)(hg:((φ id).row i off).g=U g):g<w.heap.size:=by
 rcases nQ hr with⟨sz,et,es,e,s,rs,rfl,he,hp⟩|⟨kt,e0,es,k,s,rs,rfl,rfl,he⟩
 .have hN:bw P μ φ w id sz et es:=h;have hgg:∃g0,(φ id).g=U g0:=by
   cases hq:(φ id).g with
   |some g0=>simp
   |none=>have a7:=hN.2.2.2.2.2.2;simp_all
  obtain⟨g0,hg0⟩:=hgg;have⟨c,_,x,_,_,c3,_⟩:=hN.cell hg0 he hp;exact gv.ON (show gv P μ _ w s rs x from c3) hg
 .obtain⟨g0,en,clock,kk,hg0,hh,hs,hk,hc,Ik,hv⟩:=h;have hi:i<en.size:=ao
  have h3:=(hv i k _ en[i] he (aq5 hi)).2;exact gv.ON (P:=P) (μ:=μ) (R:=(φ id).row i 0) (s:=s) (rs:=rs) (x:=en[i].val) ⟨⟨_,h3.1⟩,h3.2⟩ hg
def jF.ON(h:jF P μ φ w id b)(hg:b.owns (φ id) g):g<w.heap.size:=by
 rcases hg with hg|⟨i,off,hr,hg⟩
 rotate_left
 .exact h.arD hr hg
 have key:∀o,w.heap[g]?=U o->g<w.heap.size:=λo ho=>(auA.1 ho).1;cases b with
 |nest sz et es=>obtain⟨_,_,_,_,_,_,a7⟩:=h;grind
 |gY kt e0 es=>obtain⟨g',en,clock,kk,dH,hh,_⟩:=h;simp_all
 |box cs=>obtain⟨g',c,T,dH,hh,_⟩:=h;simp_all
 |arr sz et es=>obtain⟨_,_,_,_,_,_,a7⟩:=h;grind
 |xJ sz et es=>obtain⟨⟨_,_,_,_,_,_,a7⟩,_⟩:=h;grind
 |map kt es=>obtain⟨g',en,clock,kk,dH,hh,_⟩:=h;simp_all
 |iter t es cur=>obtain⟨g',mg,en,clock,seen,dH,hh,_⟩:=h;simp_all
 |loop st=>obtain⟨g',rc,dH,hh⟩:=h;simp_all
def aR.aal(hM:aR P G w0 μ φ m w)(hm:m j=U b)(hn:b.names id=Y):(m id).isSome=true:=by
 cases b with
 |box cs=>exact hM.hU j cs id hm hn
 |_=>simp[cS.names]at hn
def Ir{cs:List V}(h:cX j (cs.map (zN id))=Y):cX j cs=Y/\j≠id:=by have⟨v,hv,hh⟩:=dF.1 h;obtain⟨u,hu,rfl⟩:=ayl.1 hv;grind [Gx,cq]
def jF.kill{id j:Nat}{b:cS}(h:jF P μ φ w j b):jF P μ φ w j (jD id b):=by
 cases b with
 |box cs=>obtain⟨g,c,T,hg,hh,hs,hv,h1,Sk⟩:=h;refine⟨g,c,T,hg,hh,by simpa using hs,λi v x hi hx=>?_,h1,by simpa using Sk⟩;simp only[AT,asI]at hi;obtain⟨u,hu,rfl⟩:=hi;exact(hv i u x hu hx).kill id
 |_=>exact h
theorem Ey(id:Nat)(b:cS):(jD id b).rowAt=b.rowAt:=by cases b<;>rfl
variable{p:aT}
def iF:(jD id b).owns p g↔b.owns p g:=by unfold cS.owns;rw[Ey]
def Ez:(jD id b).apart p↔b.apart p:=by unfold cS.apart;rw[Ey]
theorem zW(h:∀i off,b.rowAt i off=Y->False):b.apart p:=λi off _ hr=>(h i off hr).elim
theorem oA(h:∀i off,b.rowAt i off=Y->False)(ho:b.owns p g):p.g=U g:=by
 rcases ho with h1|⟨i,off,hr,_⟩
 .omega
 simp_all
def PI(h:b9 id m j=U b):∃b',m j=U b'/\b=jD id b':=by unfold b9 at h;grind
def Is(id:Nat)(b:cS):(jD id b).nb=b.nb:=by cases b<;>rfl
def aR.anL(hM:aR P G w0 μ φ m w)(hm:m id=U b)(ho:b.owns (φ id) g):w0.hid g=none:=by
 cases hq:w0.hid g with
 |none=>rfl
 |some o=>exact absurd ho ((hM.hid g o hq).2.2.2 id b hm)
def aR.forget(hM:aR P G w0 μ φ m w)(id:Nat):aR P G w0 μ φ (bO (b9 id m) id) w:=by
 have key:∀j b,bO (b9 id m) id j=U b->j≠id/\∃b',m j=U b'/\b=jD id b':=by
  intro j b h;by_cases e:j=id
  .subst e;simp at h
  simp_all[jx,PI]
 refine⟨hM.below,hM.ro,hM.aQ,λj b h=>?_,λj b g h hg=>?_,λi j b1 b2 g h1 h2 g1 g2=>?_,λj b h=>?_,λj cs i h hh=>?_,hM.base,hM.eF,λj st h=>?_,λg o h=>⟨(hM.hid g o h).1,(hM.hid g o h).2.1,(hM.hid g o h).2.2.1,λj b hj hg=>by obtain⟨_,b',hb,rfl⟩:=key j b hj;exact(hM.hid g o h).2.2.2 j b' hb (iF.1 hg)⟩⟩
 rotate_right
 .obtain⟨_,b',hb,e⟩:=key j _ h;cases b' with
  |loop st'=>simp only[jD,cS.loop.injEq]at e;subst e;exact hM.L2 j st hb
  |_=>simp[jD]at e
 .obtain⟨_,b',hb,rfl⟩:=key j b h;exact(hM.eE j b' hb).kill
 .obtain⟨_,b',hb,rfl⟩:=key j b h;rw[Is];exact hM.own j b' g hb (iF.1 hg)
 .obtain⟨_,b1',WZ,rfl⟩:=key i b1 h1;obtain⟨_,b2',yO,rfl⟩:=key j b2 h2;exact hM.inj i j b1' b2' g WZ yO (iF.1 g1) (iF.1 g2)
 .obtain⟨_,b',hb,rfl⟩:=key j b h;exact Ez.2 (hM.apart j b' hb)
 .obtain⟨_,b',hb,e⟩:=key j _ h;cases b' with
  |box R9=>simp only[jD,cS.box.injEq]at e;subst e;have⟨h1,h2⟩:=Ir hh;have:=hM.hU j R9 i hb h1;grind [jx,b9]
  |_=>simp[jD]at e
def Je(m:Mem)(id:Nat)(b:cS):aO (bO m id) id b=aO m id b:=by
 funext t;by_cases h:t=id
 .subst h;simp
 simp_all[aN,jx]
variable{b':cS}
theorem KQ(xN:∀i off,b'.rowAt i off=Y->b.rowAt i off=Y)(h:b'.owns p g):b.owns p g:=by
 rcases h with h|⟨i,off,hr,h⟩
 .exact .inl h
 .exact .inr ⟨i,off,xN i off hr,h⟩
def aey(xN:∀i off,b'.rowAt i off=Y->b.rowAt i off=Y)(h:b.apart p):b'.apart p:=λi off g hr hg=>
 let⟨h1,h2⟩:=h i off g (xN i off hr) hg
 ⟨h1,λi' Es Gi dH=>h2 i' Es (xN i' Es Gi) dH⟩
def aR.ag7(hM:aR P G w0 μ φ m w)(hm:m id=U b)(ag8:b.nb=Y)(hg:b.owns (φ id) g)(aam:ou g w w')(acN:w'.heap.size=w.heap.size)(hw:∀k,k≠g->w'.heap[k]?=w.heap[k]?)(hB:jF P μ φ w' id b')(amL:b'.nb=Y)(hn:∀j,b'.names j=Y->(m j).isSome=Y)(xN:∀i off,b'.rowAt i off=Y->b.rowAt i off=Y)(hlp:∀st,b'=.loop st->∃rc,(φ id).g=U g/\w0.rc id=U (g,rc)/\w'.heap[g]?=U (.loop (st.obj rc)):=by intro st h;cases h):aR P G w0 μ φ (aO m id b') w':=by
 have⟨JD,hμ⟩:=hM.own id b g hm hg;have hμ:=hμ ag8;refine⟨hM.below.trans (aam.mono JD),λk o hk=>?_,hM.aQ,λj c hj=>?_,λj c g' hj dH=>?_,λi j b1 b2 g' h1 h2 g1 g2=>?_,λj c hj=>?_,λj cs i hj hh=>?_,hM.base,hM.eF,λj st hj=>?_,λk o h=>⟨(hw k λe=>(hM.hid k o h).2.2.2 id b hm (e▸hg)).trans (hM.hid k o h).1,(hM.hid k o h).2.1,(hM.hid k o h).2.2.1,λj c hj dH=>by
  by_cases e:j=id
  .subst e;rw[bV]at hj;cases hj;exact(hM.hid k o h).2.2.2 j b hm (KQ xN dH)
  .rw[aN e]at hj;exact(hM.hid k o h).2.2.2 j c hj dH⟩⟩
 rotate_right
 .by_cases e:j=id
  .simp_all
  .rw[aN e]at hj;have⟨g',rc,h1,h2,h3⟩:=hM.L2 j st hj;exact⟨g',rc,h1,h2,by rw[hw g' (λe'=>by subst e';exact e (hM.inj j id _ b g' hj hm (.inl h1) hg))];omega⟩
 .have:k≠g:=λe=>av
  rw[hw k this];exact hM.ro k o hk
 .by_cases e:j=id
  .simp_all
  .rw[aN e]at hj;refine(hM.eE j c hj).dd (λ_ _=>rfl) rfl (λ_ _ h=>h) (λg' dH=>hw g' (λe'=>?_));subst e';exact e (hM.inj j id c b g' hj hm dH hg)
 .by_cases e:j=id
  .subst e;rw[bV]at hj;simp only[tc]at hj;subst hj;have⟨h1,h2⟩:=hM.own j b g' hm (KQ xN dH);simp_all
  .rw[aN e]at hj;exact hM.own j c g' hj dH
 .have e1:∃c1,m i=U c1/\c1.owns (φ i) g':=by grind [id,bV,Option.some.injEq,KQ,aN]
  have e2:∃c2,m j=U c2/\c2.owns (φ j) g':=by grind [id,bV,Option.some.injEq,KQ,aN]
  obtain⟨c1,e1,o1⟩:=e1;obtain⟨c2,e2,o2⟩:=e2;exact hM.inj i j c1 c2 g' e1 e2 o1 o2
 .by_cases e:j=id
  .subst e;rw[bV]at hj;simp only[tc]at hj;subst hj;exact aey xN (hM.apart j b hm)
  .rw[aN e]at hj;exact hM.apart j c hj
 .have:(m i).isSome=true:=by
   by_cases e:j=id
   .subst e;rw[bV]at hj;simp only[tc]at hj;subst hj;exact hn i hh
   .rw[aN e]at hj;exact hM.hU j cs i hj hh
  by_cases e:i=id
  .subst e;simp
  .rw[aN e];omega
def aR.write(hM:aR P G w0 μ φ m w)(hm:m id=U b)(ag8:b.nb=Y)(hg:(φ id).g=U g)(aam:ou g w w')(acN:w'.heap.size=w.heap.size)(hw:∀k,k≠g->w'.heap[k]?=w.heap[k]?)(hB:jF P μ φ w' id b')(amL:b'.nb=Y)(hn:∀j,b'.names j=Y->(m j).isSome=Y)(hlp:∀st,b'=.loop st->∃rc,w0.rc id=U (g,rc)/\w'.heap[g]?=U (.loop (st.obj rc)):=by intro st h;cases h)(xN:∀i off,b'.rowAt i off=Y->b.rowAt i off=true:=by intro i off h;simp[cS.rowAt]at h):aR P G w0 μ φ (aO m id b') w':=hM.ag7 hm ag8 (.inl hg) aam acN hw hB amL hn xN λst h=>let⟨rc,h1,h2⟩:=hlp st h;⟨rc,hg,h1,h2⟩
def va(μ:Ro)(w:World)(g:Option Nat):Ro:=λb=>if g=U b then w.heap[b]? else μ b
def qV(hM:aR P G w0 μ φ m w)(g:Option Nat):∀b o,μ b=U o->va μ w g b=U o:=by
 intro b o hb;unfold va;split
 .exact hM.ro b o hb
 omega
noncomputable def BQ(μ:Ro)(w:World)(S:Nat->Prop):Ro:=λb=> @ite _ (S b) (Classical.propDecidable _) (w.heap[b]?) (μ b)
def zX(hM:aR P G w0 μ φ m w)(S:Nat->Prop):∀b o,μ b=U o->BQ μ w S b=U o:=by
 intro b o hb;unfold BQ;split
 .exact hM.ro b o hb
 omega
def aR.acO(hM:aR P G w0 μ φ m w)(hm:m id=U b)(hlp:∀st,b≠.loop st)(hA:ba P (BQ μ w (b.owns (φ id))) φ w id sz et es):aR P G w0 (BQ μ w (b.owns (φ id))) φ (aO m id (.xJ sz et es)) w:=by
 have mono:=zX hM (b.owns (φ id));have acP:∀i off,(cS.xJ sz et es).rowAt i off=Y->False:=λi off h=>by simp[cS.rowAt]at h
 refine⟨hM.below,λk o hb=>?_,λg cs hg=>(hM.aQ g cs hg).mono mono,λj c hj=>?_,λj c g' hj dH=>?_,λi j b1 b2 g' h1 h2 g1 g2=>?_,λj c hj=>?_,λj cs i hj hh=>?_,λk o hb bX=>?_,λb o hb=>mono b o (hM.eF b o hb),λj st hj=>?_,λk o h=>⟨(hM.hid k o h).1,(hM.hid k o h).2.1,by
  unfold BQ;rw[IT ((hM.hid k o h).2.2.2 id b hm)];exact(hM.hid k o h).2.2.1,λj c hj dH=>by
  by_cases e:j=id
  .subst e;rw[bV]at hj;cases hj;refine(hM.hid k o h).2.2.2 j b hm (.inl ?_);rcases dH with dH|⟨i,off,hr,_⟩
   .exact dH
   .exact(acP i off hr).elim
  .rw[aN e]at hj;exact(hM.hid k o h).2.2.2 j c hj dH⟩⟩
 rotate_right
 .by_cases e:j=id
  .simp_all
  .rw[aN e]at hj;exact hM.L2 j st hj
 rotate_right
 .unfold BQ at hb;split at hb
  next he=>have:=(hM.own id b k hm he).1;omega
  .exact hM.base k o hb bX
 .unfold BQ at hb;split at hb
  .omega
  .exact hM.ro k o hb
 .by_cases e:j=id
  .subst e;rw[bV]at hj;simp only[tc]at hj;subst hj;refine⟨hA,λg hg=>?_⟩;have:=jF.ON (b:=.arr sz et es) hA (.inl hg);unfold BQ;rw[BY (show b.owns (φ j) g from .inl hg)];simp[this]
  .rw[aN e]at hj;exact(hM.eE j c hj).dd (λ_ _=>rfl) rfl mono (λ_ _=>rfl)
 .by_cases e:j=id
  .subst e;rw[bV]at hj;simp only[tc]at hj;subst hj;exact⟨(hM.own j b g' hm (.inl (oA acP dH))).1,by simp[cS.nb]⟩
  .rw[aN e]at hj;have⟨h1,h2⟩:=hM.own j c g' hj dH;refine⟨h1,λWY=>?_⟩;unfold BQ;split
   next he=>exact absurd (hM.inj j id c _ g' hj hm dH he) e
   .exact h2 WY
 .have e1:∃c1,m i=U c1/\c1.owns (φ i) g':=by
   by_cases e:i=id
   .subst e;rw[bV]at h1;simp only[tc]at h1;subst h1;exact⟨b,hm,.inl (oA acP g1)⟩
   simp_all[aN]
  have e2:∃c2,m j=U c2/\c2.owns (φ j) g':=by
   by_cases e:j=id
   .subst e;rw[bV]at h2;simp only[tc]at h2;subst h2;exact⟨b,hm,.inl (oA acP g2)⟩
   simp_all[aN]
  obtain⟨c1,e1,o1⟩:=e1;obtain⟨c2,e2,o2⟩:=e2;exact hM.inj i j c1 c2 g' e1 e2 o1 o2
 .by_cases e:j=id
  .simp_all[bV,tc,zW]
  .rw[aN e]at hj;exact hM.apart j c hj
 .have:(m i).isSome=true:=by
   by_cases e:j=id
   .simp_all
   .rw[aN e]at hj;exact hM.hU j cs i hj hh
  by_cases e:i=id
  .subst e;simp
  .rw[aN e];omega
theorem vl:∀i off,(cS.arr sz et es).rowAt i off=Y->False:=λi off h=>by simp[cS.rowAt]at h
def aR.freeze(hM:aR P G w0 μ φ m w)(hm:m id=U (.arr sz et es)):aR P G w0 (va μ w (φ id).g) φ (aO m id (.xJ sz et es)) w:=by
 have e:BQ μ w ((cS.arr sz et es).owns (φ id))=va μ w (φ id).g:=by
  funext b;unfold BQ va;by_cases h:(φ id).g=U b
  .rw[BY h,BY (show(cS.arr sz et es).owns (φ id) b from .inl h)]
  .rw[IT h,IT λho=>h (oA vl ho)]
 have:=hM.acO (sz:=sz) (et:=et) (es:=es) hm (λst h=>by cases h) (ba.dd (hM.eE id _ hm) rfl (zX hM _) (λ_ _=>rfl));rwa[e]at this
def aR.acQ(hM:aR P G w0 μ φ m w)(hm:m id=U (.nest sz et es)):aR P G w0 (BQ μ w ((cS.nest sz et es).owns (φ id))) φ (aO m id (.xJ sz et (es.map PV.strip))) w:=by have hN:bw P μ φ w id sz et es:=hM.eE id _ hm;refine hM.acO hm (λst h=>by cases h) (hN.strip (zX hM _) λi off g hr hg=>?_);unfold BQ;rw[BY (show(cS.nest sz et es).owns (φ id) g from .inr ⟨i,off,hr,hg⟩)]
def dc(μ:Ro)(w w':World):Ro:=λb=>if b<w.heap.size then μ b else w'.heap[b]?
def oC(hM:aR P G w0 μ φ m w)(w':World):∀b o,μ b=U o->dc μ w w' b=U o:=by intro b o hb;have:=(auA.1 (hM.ro b o hb)).1;simp[dc,this,hb]
def aR.called(hM:aR P G w0 μ φ m w)(hb:ou w.heap.size w w'):aR P G w0 (dc μ w w') φ m w':=by
 have mono:=oC hM w';refine⟨hM.below.trans (hb.mono hM.below.size),λb o h=>?_,λg cs hg=>(hM.aQ g cs hg).mono mono,λid b h=>?_,λid b g h hg=>?_,hM.inj,hM.apart,hM.hU,λb o h bX=>?_,λb o hb=>mono b o (hM.eF b o hb),λj st hj=>?_,λk o h=>(by have⟨h1,h2,h3,h4⟩:=hM.hid k o h;have bX:=(auA.1 h1).1;exact⟨by rw[hb.block k bX];exact h1,h2,by unfold dc;rw[BY bX];exact h3,h4⟩)⟩
 rotate_right
 .obtain⟨g,rc,h1,h2,h3⟩:=hM.L2 j st hj;exact⟨g,rc,h1,h2,by rw[hb.block g (auA.1 h3).1];omega⟩
 rotate_right
 .have:w0.heap.size<=w.heap.size:=hM.below.size;unfold dc at h;rw[BY aa]at h;exact hM.base b o h bX
 .unfold dc at h;split at h
  next bX=>rw[hb.block b bX];exact hM.ro b o h
  omega
 .have hR:=hM.eE id b h;exact hR.dd (λ_ _=>rfl) rfl mono (λg hg=>hb.block g (hR.ON hg))
 .obtain⟨h1,h2⟩:=hM.own id b g h hg;refine⟨h1,λhm=>?_⟩;have:=(hM.eE id b h).ON hg;simp[dc,this,h2 hm]
def rU(μ:Ro)(g:Option Nat):Ro:=λb=>if g=U b then Z else μ b
def Xs{μ:Ro}{g:Option Nat}{b:Nat}{o:Obj}(h:rU μ g b=U o):μ b=U o:=by simp_all[rU]
def JH(hM:aR P G w0 μ φ m w)(w':World){g:Option Nat}(hg:∀b,g=U b->w.heap.size<=b):∀b o,μ b=U o->rU (dc μ w w') g b=U o:=by intro b o hb;have bX:=(auA.1 (hM.ro b o hb)).1;unfold rU;rw[IT λe=>by have:=hg b e;omega];exact oC hM w' b o hb
def aR.Th(hM:aR P G w0 μ φ m w)(hb:ou w.heap.size w w'){go:Option Nat}(L3:∀b,go=U b->w.heap.size<=b):aR P G w0 (rU (dc μ w w') go) φ m w':=by
 have mono:=JH hM w' L3;have hC:=hM.called hb;refine⟨hC.below,λb o h=>hC.ro b o (Xs h),λg cs hg=>(hM.aQ g cs hg).mono mono,λid b h=>?_,λid b g h hg=>?_,hM.inj,hM.apart,hM.hU,λb o h bX=>hC.base b o (Xs h) bX,λb o hb=>mono b o (hM.eF b o hb),hC.L2,λk o h=>(by have⟨h1,h2,h3,h4⟩:=hC.hid k o h;exact⟨h1,h2,by unfold rU;rw[h3];simp,h4⟩)⟩
 .have hR:=hM.eE id b h;exact hR.dd (λ_ _=>rfl) rfl mono (λg hg=>hb.block g (hR.ON hg))
 .obtain⟨h1,h2⟩:=hC.own id b g h hg;refine⟨h1,λhm=>?_⟩;unfold rU;simp_all
def aR.drew(hM:aR P G w0 μ φ m w):aR P G w0 μ φ m w.drew:=⟨hM.below.drew,hM.ro,hM.aQ,λid b h=>(hM.eE id b h).dd (λ_ _=>rfl) rfl (λ_ _ h=>h) (λ_ _=>rfl),hM.own,hM.inj,hM.apart,hM.hU,hM.base,hM.eF,hM.L2,hM.hid⟩
end
end Go.Ab
