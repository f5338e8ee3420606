import Derived.Test.YtanikidijjaohaaGreatNkP2
namespace Go.Ab.Tt
set_option maxRecDepth 100000
set_option linter.unusedVariables false
set_option linter.unusedSimpArgs false
structure cw where
 dr:Bool
 run:Int
 dc:Int
 bl:Int
 src:Int
 dst:Int
 dep:Int
 arr:Int
 stay:Bool
 deriving DecidableEq
def cw.pv(x:cw):PV:=.agg [.bool x.dr,.int .i64 x.run,.int .i64 x.dc,.int .i64 x.bl,.int .i64 x.src,.int .i64 x.dst,.int .i64 x.dep,.int .i64 x.arr,.bool x.stay]
structure cw.jQ(M:Nat)(x:cw):Prop where
 run:ma x.run
 dc:ma x.dc
 bl:ma x.bl
 src:ma x.src
 dst:ma x.dst
 dep:ma x.dep
 arr:ma x.arr
abbrev cw.Ok(x:cw):Prop:=x.jQ maxLen
theorem iE(x:cw):asAgg 9 x.pv=some ():=rfl
theorem Sj(x:cw):PV.agg [cell x.pv 0,cell x.pv 1,cell x.pv 2,cell x.pv 3,cell x.pv 4,cell x.pv 5,cell x.pv 6,cell x.pv 7,cell x.pv 8]=x.pv:=rfl
theorem Vd(x:cw):PV.agg [.bool x.dr,.int .i64 x.run,.int .i64 x.dc,.int .i64 x.bl,.int .i64 x.src,.int .i64 x.dst,.int .i64 x.dep,.int .i64 x.arr,.bool x.stay]=x.pv:=rfl
theorem gK(x:cw):Ab.asBool (cell x.pv 0)=some x.dr:=rfl
theorem iR(x:cw):Ab.asInt .i64 (cell x.pv 1)=some x.run:=rfl
theorem iS(x:cw):Ab.asInt .i64 (cell x.pv 2)=some x.dc:=rfl
theorem iT(x:cw):Ab.asInt .i64 (cell x.pv 3)=some x.bl:=rfl
theorem iU(x:cw):Ab.asInt .i64 (cell x.pv 4)=some x.src:=rfl
theorem iV(x:cw):Ab.asInt .i64 (cell x.pv 5)=some x.dst:=rfl
theorem iW(x:cw):Ab.asInt .i64 (cell x.pv 6)=some x.dep:=rfl
theorem iX(x:cw):Ab.asInt .i64 (cell x.pv 7)=some x.arr:=rfl
theorem ir(x:cw):Ab.asBool (cell x.pv 8)=some x.stay:=rfl
structure jw where
 src:Int
 dst:Int
 time:Int
 back:Bool
 cE:Int
 walk:Int
 free:Bool
 l7:Bool
 bn:Int
 vk:Bool
 deriving DecidableEq
def jw.pv(x:jw):PV:=.agg [.int .i64 x.src,.int .i64 x.dst,.int .i64 x.time,.bool x.back,.int .i64 x.cE,.int .i64 x.walk,.bool x.free,.bool x.l7,.int .i64 x.bn,.bool x.vk]
structure jw.jQ(M:Nat)(x:jw):Prop where
 src:ma x.src
 dst:ma x.dst
 time:ma x.time
 cE:ma x.cE
 walk:ma x.walk
 bn:ma x.bn
abbrev jw.Ok(x:jw):Prop:=x.jQ maxLen
theorem pM(x:jw):asAgg 10 x.pv=some ():=rfl
theorem afM(x:jw):PV.agg [cell x.pv 0,cell x.pv 1,cell x.pv 2,cell x.pv 3,cell x.pv 4,cell x.pv 5,cell x.pv 6,cell x.pv 7,cell x.pv 8,cell x.pv 9]=x.pv:=rfl
theorem yI(x:jw):PV.agg [.int .i64 x.src,.int .i64 x.dst,.int .i64 x.time,.bool x.back,.int .i64 x.cE,.int .i64 x.walk,.bool x.free,.bool x.l7,.int .i64 x.bn,.bool x.vk]=x.pv:=rfl
theorem qS(x:jw):Ab.asInt .i64 (cell x.pv 0)=some x.src:=rfl
theorem qT(x:jw):Ab.asInt .i64 (cell x.pv 1)=some x.dst:=rfl
theorem qU(x:jw):Ab.asInt .i64 (cell x.pv 2)=some x.time:=rfl
theorem qV(x:jw):Ab.asBool (cell x.pv 3)=some x.back:=rfl
theorem qW(x:jw):Ab.asInt .i64 (cell x.pv 4)=some x.cE:=rfl
theorem qX(x:jw):Ab.asInt .i64 (cell x.pv 5)=some x.walk:=rfl
theorem qY(x:jw):Ab.asBool (cell x.pv 6)=some x.free:=rfl
theorem qZ(x:jw):Ab.asBool (cell x.pv 7)=some x.l7:=rfl
theorem q6(x:jw):Ab.asInt .i64 (cell x.pv 8)=some x.bn:=rfl
theorem q7(x:jw):Ab.asBool (cell x.pv 9)=some x.vk:=rfl
def yJ(l:List cw):PV:=.agg [.rs 9 (l.map cw.pv)]
theorem jA(l:List cw):asAgg 1 (yJ l)=some ():=rfl
theorem j0(l:List cw):aa 9 (cell (yJ l) 0)=some (l.map cw.pv):=rfl
theorem jF(l:List cw):PV.agg [.rs 9 (l.map cw.pv)]=yJ l:=rfl
def gh(N:ag)(q:jw)(l:List cw)(i:Int):PV:=.agg [.rs 4 (N.stops.map Stop.pv),.rs 3 (N.au.map aG.pv),.rs 8 (N.runs.map dS.pv),.rs 5 (N.aJ.map bg.pv),.rs 4 (N.paths.map Path.pv),.rs 6 (N.aR.map aH.pv),.int .i64 N.bu,.int .i64 N.within,.int .i64 N.cap,.int .i64 q.src,.int .i64 q.dst,.int .i64 q.time,.bool q.back,.int .i64 q.cE,.int .i64 q.walk,.bool q.free,.bool q.l7,.int .i64 q.bn,.bool q.vk,.rs 9 (l.map cw.pv),.int .i64 i]
section
variable (N:ag) (q:jw) (l:List cw) (i:Int)
theorem Gy:asAgg 21 (gh N q l i)=some ():=rfl
theorem LP:PV.agg [.rs 4 (N.stops.map Stop.pv),.rs 3 (N.au.map aG.pv),.rs 8 (N.runs.map dS.pv),.rs 5 (N.aJ.map bg.pv),.rs 4 (N.paths.map Path.pv),.rs 6 (N.aR.map aH.pv),.int .i64 N.bu,.int .i64 N.within,.int .i64 N.cap,.int .i64 q.src,.int .i64 q.dst,.int .i64 q.time,.bool q.back,.int .i64 q.cE,.int .i64 q.walk,.bool q.free,.bool q.l7,.int .i64 q.bn,.bool q.vk,.rs 9 (l.map cw.pv),.int .i64 i]=gh N q l i:=rfl
theorem Gz:aa 4 (cell (gh N q l i) 0)=some (N.stops.map Stop.pv):=rfl
theorem GA:aa 3 (cell (gh N q l i) 1)=some (N.au.map aG.pv):=rfl
theorem GB:aa 8 (cell (gh N q l i) 2)=some (N.runs.map dS.pv):=rfl
theorem GC:aa 5 (cell (gh N q l i) 3)=some (N.aJ.map bg.pv):=rfl
theorem GD:aa 4 (cell (gh N q l i) 4)=some (N.paths.map Path.pv):=rfl
theorem GF:aa 6 (cell (gh N q l i) 5)=some (N.aR.map aH.pv):=rfl
theorem GG:Ab.asInt .i64 (cell (gh N q l i) 6)=some N.bu:=rfl
theorem GH:Ab.asInt .i64 (cell (gh N q l i) 7)=some N.within:=rfl
theorem GI:Ab.asInt .i64 (cell (gh N q l i) 8)=some N.cap:=rfl
theorem GJ:Ab.asInt .i64 (cell (gh N q l i) 9)=some q.src:=rfl
theorem tn:Ab.asInt .i64 (cell (gh N q l i) 10)=some q.dst:=rfl
theorem tp:Ab.asInt .i64 (cell (gh N q l i) 11)=some q.time:=rfl
theorem tq:Ab.asBool (cell (gh N q l i) 12)=some q.back:=rfl
theorem tr:Ab.asInt .i64 (cell (gh N q l i) 13)=some q.cE:=rfl
theorem tt:Ab.asInt .i64 (cell (gh N q l i) 14)=some q.walk:=rfl
theorem tu:Ab.asBool (cell (gh N q l i) 15)=some q.free:=rfl
theorem tv:Ab.asBool (cell (gh N q l i) 16)=some q.l7:=rfl
theorem tw:Ab.asInt .i64 (cell (gh N q l i) 17)=some q.bn:=rfl
theorem tx:Ab.asBool (cell (gh N q l i) 18)=some q.vk:=rfl
theorem tz:aa 9 (cell (gh N q l i) 19)=some (l.map cw.pv):=rfl
theorem tA:Ab.asInt .i64 (cell (gh N q l i) 20)=some i:=rfl
end
theorem aI(n:Int):Ab.asInt .i64 (.int .i64 n)=some n:=rfl
theorem aB(b:Bool):Ab.asBool (.bool b)=some b:=rfl
theorem aS(n:Nat)(l:List PV):Ab.aa n (.rs n l)=some l:=by simp[aa]
theorem Ve{A:Type}(f:A→PV)(l:List A)(i:Int):aO (l.map f) i=(if 0≤i then l[i.toNat]? else none).map f:=by
 unfold aO;split
 ·rw[List.getElem?_map]
 ·rfl
theorem cG{A:Type}(f:A→PV)(l:List A)(k:Nat)(hk:k<l.length):aO (l.map f) (k:Int)=some (f l[k]):=by rw[aQ,List.getElem?_map,List.getElem?_eq_getElem hk];rfl
theorem wm{n:Nat}(h:n≤9223372036854775807):IntKind.i64.wrap ((n:Int)-1)=(n:Int)-1:=bF (by omega) (by omega)
def od(n a b:Int):Bool:=decide (n≥a)&&decide (n≤b)
theorem yK(n a b:Int):bj [.int .i64 n,.int .i64 a,.int .i64 b]=some (.bool (od n a b)):=by simp only[bj,oZ,aI,U,aZ,od]
theorem Vf(n a b:Int):dU [.int .i64 n,.int .i64 a,.int .i64 b]=some (.bool (od n a b)):=by simp only[dU,Em,aI,U,aZ,od]
def HX(n:Int)(q:jw):Bool:=od q.src 0 (n-1)&&od q.dst 0 (n-1)&&od q.time 0 3155932800&&od q.cE 0 8&&od q.walk 0 86400&&od q.bn 0 255&& !(q.vk&&q.back)
def fZ(N:ag)(q:jw):Int:=if(j3 N).2.2=0 then(if HX N.stops.length q=true then 0 else 22)else 21
theorem CK(N:ag)(q:jw)(h:N.Ok)(hp:N.paths.length≤4096):bY [N.pv,q.pv]=some (.int .i64 (fZ N q)):=by
 have hm:=aY;have hs:=h.stops.1;simp only[bY,kJ,gL,gM,gN,gO,gP,gQ,gR,gS,gT,gU,pM,qS,qT,qU,qV,qW,qX,qY,qZ,q6,q7,U,l8,Es N h hp];simp only[gH,cP,List.length_cons,List.length_nil,if_true,U,List.getD_cons_zero,List.getD_cons_succ,aI,List.length_map,wm (Nat.le_trans hs hm),yK,aB,aZ,aW];unfold fZ HX;by_cases h0:(j3 N).2.2=0
 ·rw[if_pos h0,h0];cases od q.src 0 (N.stops.length-1)<;>cases od q.dst 0 (N.stops.length-1)<;>cases od q.time 0 3155932800<;>cases od q.cE 0 8<;>cases od q.walk 0 86400<;>cases od q.bn 0 255<;>cases q.vk<;>cases q.back<;>rfl
 ·rw[if_neg h0,if_pos (by simpa using h0)]
theorem aca(n:Nat)(hn:n≤9223372036854775807)(q:jw):fO [.int .i64 n,q.pv]=some (.bool (HX n q)):=by simp only[fO,nG,pM,qS,qT,qU,qV,qW,qX,qY,qZ,q6,q7,U,aI,wm hn,Vf,aB,aZ,aW];unfold HX;cases od q.src 0 (n-1)<;>cases od q.dst 0 (n-1)<;>cases od q.time 0 3155932800<;>cases od q.cE 0 8<;>cases od q.walk 0 86400<;>cases od q.bn 0 255<;>cases q.vk<;>cases q.back<;>rfl
theorem JX(N:ag)(h:N.Ok)(hp:N.paths.length≤4096):kU [N.pv]=some (.bool (decide ((j3 N).2.2=0))):=by simp only[kU,wj,gL,gM,gN,gO,gP,gQ,gR,gS,gT,gU,U,l8,Sk N h hp];simp only[gH,cP,List.length_cons,List.length_nil,if_true,U,List.getD_cons_zero,List.getD_cons_succ,aI,ga]
theorem Oj(N:ag)(q:jw)(h:N.Ok)(hp:N.paths.length≤4096):dw [N.pv,q.pv]=some (.int .i64 (fZ N q)):=by
 have hm:=aY;have hs:=h.stops.1;simp only[dw,nI,gL,gM,gN,gO,gP,gQ,gR,gS,gT,gU,pM,qS,qT,qU,qV,qW,qX,qY,qZ,q6,q7,U,l8,yI,JX N h hp,List.length_map,aca _ (Nat.le_trans hs hm),aB];unfold fZ;by_cases h0:(j3 N).2.2=0
 ·rw[if_pos h0];simp only[h0];cases HX N.stops.length q<;>rfl
 ·rw[if_neg h0];simp[h0]
end Go.Ab.Tt
namespace Go.Ab.Tt
set_option maxRecDepth 100000
set_option linter.unusedVariables false
set_option linter.unusedSimpArgs false
structure rH(N:ag):Prop where
 ok:N.Ok
 paths:N.paths.length≤4096
 res:(j3 N).2.2=0
variable{N:ag}
theorem rH.parts(h:rH N):(gW N.stops).2=0∧(gw N.au).2=0∧(dd N.aR N.bu N.within N.cap).2=0:=by
 have h:=h.res;unfold j3 at h;by_cases h1:(gW N.stops).2=0
 ·rw[if_pos h1]at h;by_cases h2:(gw N.au).2=0
  ·rw[if_pos h2]at h;by_cases h3:(pN N.runs N.stops.length N.au.length).2=0
   ·rw[if_pos h3]at h;by_cases h4:(mD N.runs N.aJ).2=0
    ·rw[if_pos h4]at h;by_cases h5:(cT N.paths N.stops.length).2=0
     ·rw[if_pos h5]at h;by_cases h6:(dd N.aR N.bu N.within N.cap).2=0
      ·exact⟨h1,h2,h6⟩
      ·rw[if_neg h6]at h;exact absurd h h6
     ·rw[if_neg h5]at h;exact absurd h h5
    ·rw[if_neg h4]at h;exact absurd h h4
   ·rw[if_neg h3]at h;exact absurd h h3
  ·rw[if_neg h2]at h;exact absurd h h2
 ·rw[if_neg h1]at h;exact absurd h h1
theorem rH.stop(h:rH N):∀s∈N.stops,0≤s.pe∧s.pe<16∧0≤s.change∧s.change≤3600:=by
 intro s hs;obtain⟨k,hk,rfl⟩:=List.getElem_of_mem hs;have h1:=h.parts.1;unfold gW at h1;split at h1
 ·cases h1
 ·have:=(nJ _ _).1 h1 k hk;unfold CL at this;rw[List.getElem?_eq_getElem hk]at this;simp only at this;split at this
  ·cases this
  ·split at this
   ·cases this
   ·split at this
    ·cases this
    ·rename_i hb;simp only[Bool.or_eq_true,decide_eq_true_eq,not_or]at hb;omega
theorem rH.eC(h:rH N):∀s∈N.au,0≤s.mode∧s.mode<8:=by
 intro s hs;obtain⟨k,hk,rfl⟩:=List.getElem_of_mem hs;have h1:=h.parts.2.1;unfold gw at h1;split at h1
 ·cases h1
 ·have:=(nJ _ _).1 h1 k hk;unfold zH at this;rw[List.getElem?_eq_getElem hk]at this;simp only at this;split at this
  ·cases this
  ·split at this
   ·cases this
   ·split at this
    ·cases this
    ·rename_i hb;simp only[Bool.not_eq_false,Bool.and_eq_true,decide_eq_true_eq]at hb;exact hb
theorem rH.run(h:rH N):∀r∈N.runs,∃t,N.au[r.eC.toNat]?=some t∧0≤r.eC∧t∈N.au:=by
 intro r hr;obtain⟨k,hk,rfl⟩:=List.getElem_of_mem hr;have:=Et h.res k hk;unfold kL at this;rw[List.getElem?_eq_getElem hk]at this;simp only at this;split at this
 ·cases this
 ·split at this
  ·cases this
  ·split at this
   ·cases this
   ·split at this
    ·cases this
    ·rename_i hb;simp only[Bool.or_eq_true,decide_eq_true_eq,not_or]at hb;have bm:(N.runs[k].eC).toNat<N.au.length:=by omega
     exact⟨_,List.getElem?_eq_getElem bm,by omega,List.getElem_mem bm⟩
theorem rH.call(h:rH N):∀r∈N.runs,∀c∈r.calls,∃s,N.stops[c.stop.toNat]?=some s∧0≤c.stop∧s∈N.stops:=by
 intro r hr c hc;obtain⟨k,hk,rfl⟩:=List.getElem_of_mem hc;have:=JY (wo h.res r hr) k hk;unfold uE at this;rw[List.getElem?_eq_getElem hk]at this;simp only at this;unfold Qx at this;split at this
 ·cases this
 ·rename_i hb;simp only[Bool.or_eq_true,decide_eq_true_eq,not_or]at hb;have bm:(r.calls[k].stop).toNat<N.stops.length:=by omega
  exact⟨_,List.getElem?_eq_getElem bm,by omega,List.getElem_mem bm⟩
theorem ba{A:Type}(f:A→PV){l:List A}{i:Int}{a:A}(h0:0≤i)(h:l[i.toNat]?=some a):aO (l.map f) i=some (f a):=by rw[Ve,if_pos h0,h];rfl
def xi(N:ag)(x:cw):Option dS:=if 0≤x.run then N.runs[x.run.toNat]? else none
def WJ(N:ag)(x:cw):Bool:=match xi N x with
 |some r=>decide (x.dc≥0)&&decide (x.dc<x.bl)&&decide (x.bl<(r.calls.length:Int))
 |none=>false
structure pf(N:ag)(x:cw)(r:dS)(t:aG)(a b:cO):Prop where
 run:N.runs[x.run.toNat]?=some r
 uF:0≤x.run
 eC:N.au[r.eC.toNat]?=some t
 A2:0≤r.eC
 dc:r.calls[x.dc.toNat]?=some a
 HY:0≤x.dc
 bl:r.calls[x.bl.toNat]?=some b
 zI:0≤x.bl
 lt:x.dc<x.bl
 mem:r∈N.runs
 tm:t∈N.au
theorem yL(h:rH N){x:cw}(hx:WJ N x=true):∃r t a b,pf N x r t a b:=by
 unfold WJ at hx;cases hr:xi N x with
 |none=>rw[hr]at hx;cases hx
 |some r=>
  rw[hr]at hx;simp only[Bool.and_eq_true,decide_eq_true_eq]at hx;unfold xi at hr;split at hr
  ·rename_i h0;have hm:=List.mem_of_getElem? hr;obtain⟨t,t1,t2,t3⟩:=h.run r hm;have ha:x.dc.toNat<r.calls.length:=by omega
   have hb:x.bl.toNat<r.calls.length:=by omega
   exact⟨r,t,_,_,⟨hr,h0,t1,t2,List.getElem?_eq_getElem ha,by omega,List.getElem?_eq_getElem hb,by omega,by omega,hm,t3⟩⟩
  ·cases hr
theorem Eu(N:ag)(x:cw):j4 [N.pv,x.pv]=some (.bool (WJ N x)):=by
 simp only[j4,uq,gL,gM,gN,gO,gP,gQ,gR,gS,gT,gU,iE,gK,iR,iS,iT,iU,iV,iW,iX,ir,U,List.length_map,aW,aZ];unfold WJ xi;by_cases h0:0≤x.run
 ·rw[if_pos h0];by_cases h1:x.run.toNat<N.runs.length
  ·rw[List.getElem?_eq_getElem h1,if_neg (by simp;omega),ba dS.pv h0 (List.getElem?_eq_getElem h1)];simp only[U,zJ,aS,List.length_map,aZ]
  ·rw[List.getElem?_eq_none (by omega),if_pos (by simp;omega)]
 ·rw[if_neg h0,if_pos (by simp;omega)]
section
variable {N:ag} {q:jw} {l:List cw} {k:Nat}
theorem pg(hk:k<l.length):ay [gh N q l k]=some l[k].pv:=by simp only[ay,jZ,Gy,Gz,GA,GB,GC,GD,GF,GG,GH,GI,GJ,tn,tp,tq,tr,tt,tu,tv,tw,tx,tz,tA,U,cG cw.pv l k hk,Sj]
theorem HZ(hk:k+1<l.length)(hl:l.length≤maxLen):bA [gh N q l ((k+1:Nat):Int)]=some l[k].pv:=by have hm:=aY;simp only[bA,gf,Gy,Gz,GA,GB,GC,GD,GF,GG,GH,GI,GJ,tn,tp,tq,tr,tt,tu,tv,tw,tx,tz,tA,U,lW k (by omega),cG cw.pv l k (by omega),Sj]
theorem Zs(x:cO):PV.agg [cell x.pv 0,cell x.pv 1,cell x.pv 2,cell x.pv 3,cell x.pv 4]=x.pv:=rfl
theorem Zt(x:cO):asAgg 5 x.pv=some ():=rfl
theorem Vg(hk:k<l.length){r:dS}{t:aG}{a b:cO}(h:pf N l[k] r t a b):dn [gh N q l k]=some a.pv:=by simp only[dn,iO,Gy,Gz,GA,GB,GC,GD,GF,GG,GH,GI,GJ,tn,tp,tq,tr,tt,tu,tv,tw,tx,tz,tA,U,LP,pg hk,iE,gK,iR,iS,iT,iU,iV,iW,iX,ir,ba dS.pv h.uF h.run,zJ,aS,ba cO.pv h.HY h.dc,Zs]
theorem GK(hk:k<l.length){r:dS}{t:aG}{a b:cO}(h:pf N l[k] r t a b):cy [gh N q l k]=some b.pv:=by simp only[cy,iq,Gy,Gz,GA,GB,GC,GD,GF,GG,GH,GI,GJ,tn,tp,tq,tr,tt,tu,tv,tw,tx,tz,tA,U,LP,pg hk,iE,gK,iR,iS,iT,iU,iV,iW,iX,ir,ba dS.pv h.uF h.run,zJ,aS,ba cO.pv h.zI h.bl,Zs]
end
end Go.Ab.Tt
namespace Go.Ab.Tt
set_option maxRecDepth 100000
set_option linter.unusedVariables false
set_option linter.unusedSimpArgs false
theorem oF{S R X:Type}{body:S→(S→Option R)→Option R}(st:Nat→X→S)(G:Nat→X→Option R)(n:Nat)(h:∀k,k<n→∀e rec,(∀e',rec (st (k+1) e')=G (k+1) e')→body (st k e) rec=G k e)(nv:∀e rec,body (st n e) rec=G n e)(hn:n<rounds)(e:X){s0:S}(h0:st 0 e=s0):bC.run body s0=G 0 e:=by
 have key:∀(m j N:Nat)(e:X),j+m=n→m<N→c7 body N (st j e)=G j e:=by
  intro m;induction m with
  |zero=>
   intro j N e hj hN;cases N with
   |zero=>omega
   |succ N=>
    simp only[c7];have:j=n:=by omega
    subst this;exact nv _ _
  |succ m ih=>
   intro j N e hj hN;cases N with
   |zero=>omega
   |succ N=>simp only[c7];exact h j (by omega) e _ fun e'=>ih (j+1) N e' (by omega) (by omega)
 rw[←h0,mf];exact key n 0 rounds e (by omega) hn
theorem jJ{A:Type}{l:List A}{k:Nat}(h:k<l.length):l.drop k=l[k]::l.drop (k+1):=List.drop_eq_getElem_cons h
def GL(N:ag)(x:cw):Bool:= !od x.src 0 ((N.stops.length:Int)-1)|| !od x.dst 0 ((N.stops.length:Int)-1)||(if x.dr=true then !WJ N x else(x.run !=0||x.dc !=0||x.bl !=0||x.stay))
def Cr(x:cw):Bool:= !od x.dep 0 3155932800|| !od x.arr 0 3155932800
def lx(x:cw)(p:Path):Bool:=decide (p.a=x.src)&&decide (p.b=x.dst)&&decide (p.fa=IntKind.i64.wrap (x.arr-x.dep))
def wk(q:jw)(x:cw):List Path→Int→Int
 |[],e=>e
 |p::r,e=>if lx x p=true then(if(p.free|| !q.free)=true then 0 else wk q x r 29)else wk q x r e
def tB(N:ag)(q:jw)(i:Int):Bool:= !q.free||(match N.stops[i.toNat]? with|some s=>s.free|none=>false)
def JZ(q:jw)(t:aG):Bool:=q.bn !=0&&IntKind.i64.wrap (↑(BitVec.ofInt IntKind.i64.bits (q.bn.fdiv (2^min t.mode.toNat IntKind.i64.bits))&&&BitVec.ofInt IntKind.i64.bits 1).toNat:Int)==0
def xI(N:ag)(q:jw)(x:cw)(r:dS)(t:aG)(a b:cO):Int:=
 if(a.stop !=x.src||b.stop !=x.dst)=true then 24 else if(a.dep !=x.dep||b.arr !=x.arr)=true then 10 else if r.Vh=true then 27
 else if(q.free&& !r.free)=true then 29 else if(q.l7&& !t.l7)=true then 30 else if JZ q t=true then 31
 else if(!x.stay&& !a.dc)=true then 25 else if(!x.stay&& !tB N q x.src)=true then 29 else 0
def Qy(N:ag)(q:jw)(x:cw):Int:=match xi N x with
 |some r=>match N.au[r.eC.toNat]?,r.calls[x.dc.toNat]?,r.calls[x.bl.toNat]? with
  |some t,some a,some b=>xI N q x r t a b
  |_,_,_=>0
 |none=>0
theorem J0{N:ag}{q:jw}{x:cw}{r:dS}{t:aG}{a b:cO}(h:pf N x r t a b):Qy N q x=xI N q x r t a b:=by unfold Qy xi;rw[if_pos h.uF,h.run];simp only[h.eC,h.dc,h.bl]
def gF(N:ag)(q:jw)(x:cw):Int:=if GL N x=true then 9 else if Cr x=true then 10 else if x.dr=true then Qy N q x else wk q x N.paths 18
section
variable {N:ag} {q:jw} {l:List cw} {k:Nat}
theorem J1(h:rH N):N.stops.length≤64:=A3 h.parts.1
theorem XL(h:rH N)(hk:k<l.length):cr [gh N q l k]=some (.int .i64 (if GL N l[k]=true then 9 else 0)):=by
 have hs:=J1 h;simp only[cr,fo,Gy,Gz,GA,GB,GC,GD,GF,GG,GH,GI,GJ,tn,tp,tq,tr,tt,tu,tv,tw,tx,tz,tA,U,LP,pg hk,iE,gK,iR,iS,iT,iU,iV,iW,iX,ir,List.length_map,wm (show N.stops.length≤9223372036854775807 by omega),yK,aB,aW,aZ];unfold GL;cases ow:(!od l[k].src 0 ((N.stops.length:Int)-1)|| !od l[k].dst 0 ((N.stops.length:Int)-1))with
 |true=>rw[if_pos rfl];rfl
 |false=>
  rw[if_neg (by simp)];simp only[Bool.false_or];cases hr:l[k].dr with
  |false=>simp only[Bool.not_false,cond_true,U,Bool.false_eq_true,if_false,cond_false];cases(l[k].run !=0||l[k].dc !=0||l[k].bl !=0||l[k].stay)<;>rfl
  |true=>
   simp only[Bool.not_true,cond_false,U,Bool.false_eq_true,if_false,cond_true,if_true];have Zf:N.runs.length≤9223372036854775807:=Nat.le_trans h.ok.runs.1 aY;rw[wm Zf];unfold WJ xi;by_cases h0:0≤l[k].run
   ·by_cases h1:l[k].run.toNat<N.runs.length
    ·have hb:od l[k].run 0 ((N.runs.length:Int)-1)=true:=by simp[od];omega
     rw[hb,if_pos h0,List.getElem?_eq_getElem h1,ba dS.pv h0 (List.getElem?_eq_getElem h1)];simp only[U,zJ,aS,List.length_map,Bool.not_true,Bool.false_or,cond_false];by_cases c1:l[k].dc<0<;>by_cases c2:l[k].dc≥l[k].bl<;>by_cases c3:l[k].bl≥(N.runs[l[k].run.toNat].calls.length:Int)<;>simp[c1,c2,c3]<;>omega
    ·have hb:od l[k].run 0 ((N.runs.length:Int)-1)=false:=by simp[od];omega
     rw[hb,if_pos h0,List.getElem?_eq_none (by omega)];rfl
   ·have hb:od l[k].run 0 ((N.runs.length:Int)-1)=false:=by simp[od];omega
    rw[hb,if_neg h0];rfl
theorem XM(hk:k<l.length):cU [gh N q l k]=some (.int .i64 (if Cr l[k]=true then 10 else 0)):=by simp only[cU,gE,Gy,Gz,GA,GB,GC,GD,GF,GG,GH,GI,GJ,tn,tp,tq,tr,tt,tu,tv,tw,tx,tz,tA,U,LP,pg hk,iE,gK,iR,iS,iT,iU,iV,iW,iX,ir,yK,aB,aW];unfold Cr;cases od l[k].dep 0 3155932800<;>cases od l[k].arr 0 3155932800<;>rfl
theorem Qz(i:Int)(s:Stop)(h0:0≤i)(hs:N.stops[i.toNat]?=some s)(c:Int):cQ [gh N q l c,.int .i64 i]=some (.bool (tB N q i)):=by simp only[cQ,jt,Gy,Gz,GA,GB,GC,GD,GF,GG,GH,GI,GJ,tn,tp,tq,tr,tt,tu,tv,tw,tx,tz,tA,U,aI,ba Stop.pv h0 hs];unfold tB;rw[hs];cases q.free<;>rfl
theorem J2(i:Int)(s:Stop)(h0:0≤i)(hs:N.stops[i.toNat]?=some s):gx [N.pv,q.pv,.int .i64 i]=some (.bool (tB N q i)):=by simp only[gx,yB,gL,gM,gN,gO,gP,gQ,gR,gS,gT,gU,pM,qS,qT,qU,qV,qW,qX,qY,qZ,q6,q7,U,aI,ba Stop.pv h0 hs];unfold tB;rw[hs];cases q.free<;>rfl
end
end Go.Ab.Tt
namespace Go.Ab.Tt
set_option maxRecDepth 100000
set_option linter.unusedVariables false
set_option linter.unusedSimpArgs false
theorem H0(q:jw)(x:cw)(p:Path)(r:List Path)(e:Int):wk q x (p::r) e=if lx x p=true then(if(p.free|| !q.free)=true then 0 else wk q x r 29)else wk q x r e:=rfl
section
variable {N:ag} {q:jw} {l:List cw} {k:Nat}
theorem XN(h:rH N)(hk:k<l.length):dC [gh N q l k]=some (.int .i64 (if l[k].dr=true then 0 else wk q l[k] N.paths 18)):=by
 have hp:=h.paths;simp only[dC,ju,Gy,Gz,GA,GB,GC,GD,GF,GG,GH,GI,GJ,tn,tp,tq,tr,tt,tu,tv,tw,tx,tz,tA,U,LP,pg hk,iE,gK,iR,iS,iT,iU,iV,iW,iX,ir,List.length_map];by_cases hr:l[k].dr=true
 ·rw[if_pos hr,if_pos hr]
 ·rw[if_neg hr,if_neg hr];refine oF (fun j e=>(e,N.paths.map Path.pv,(N.paths.length:Int),(j:Int),N.stops.map Stop.pv,N.au.map aG.pv,N.runs.map dS.pv,N.aJ.map bg.pv,N.paths.map Path.pv,N.aR.map aH.pv,N.bu,N.within,N.cap,q.src,q.dst,q.time,q.back,q.cE,q.walk,q.free,q.l7,q.bn,q.vk,l.map cw.pv,(k:Int),cell l[k].pv 0,cell l[k].pv 1,cell l[k].pv 2,cell l[k].pv 3,cell l[k].pv 4,cell l[k].pv 5,cell l[k].pv 6,cell l[k].pv 7,cell l[k].pv 8,())) (fun j e=>some (PV.int .i64 (wk q l[k] (N.paths.drop j) e))) N.paths.length (fun j hj e rec fM=>?_) (fun e rec=>?_) (by unfold rounds;omega) 18 rfl
  ·unfold gG;dsimp only;have agB:∀e',_:=fM;rw[if_pos (by simp;omega),cG Path.pv N.paths j hj];simp only[U,Ev,Ew,GM,Ey,aI,aB,iE,gK,iR,iS,iT,iU,iV,iW,iX,ir,aZ,aW,ai (show j<9223372036854775807 by omega),fM];rw[jJ hj,show(N.paths[j].a==l[k].src&&N.paths[j].b==l[k].dst&&N.paths[j].fa==IntKind.i64.wrap (l[k].arr-l[k].dep))=lx l[k] N.paths[j] by unfold lx;simp only[ga]];rw[H0];cases lx l[k] N.paths[j]<;>cases(N.paths[j].free|| !q.free)<;>simp
  ·unfold gG;dsimp only;rw[if_neg (by simp),List.drop_length];rfl
theorem Vi(h:rH N)(x:cw):mE [N.pv,q.pv,x.pv]=some (.int .i64 (wk q x N.paths 18)):=by
 have hp:=h.paths;simp only[mE,yH,gL,gM,gN,gO,gP,gQ,gR,gS,gT,gU,pM,qS,qT,qU,qV,qW,qX,qY,qZ,q6,q7,iE,gK,iR,iS,iT,iU,iV,iW,iX,ir,U];refine oF (fun j e=>(e,(j:Int),N.stops.map Stop.pv,N.au.map aG.pv,N.runs.map dS.pv,N.aJ.map bg.pv,N.paths.map Path.pv,N.aR.map aH.pv,N.bu,N.within,N.cap,q.src,q.dst,q.time,q.back,q.cE,q.walk,q.free,q.l7,q.bn,q.vk,x.dr,x.run,x.dc,x.bl,x.src,x.dst,x.dep,x.arr,x.stay,())) (fun j e=>some (PV.int .i64 (wk q x (N.paths.drop j) e))) N.paths.length (fun j hj e rec fM=>?_) (fun e rec=>?_) (by unfold rounds;omega) 18 rfl
 ·unfold sI;dsimp only;rw[if_pos (by simp;omega),cG Path.pv N.paths j hj];simp only[U,Ev,Ew,GM,Ey,aI,aB,aZ,aW,ai (show j<9223372036854775807 by omega),fM];rw[jJ hj,H0];simp only[lx,bne,ga];by_cases c1:N.paths[j].a=x.src<;>by_cases c2:N.paths[j].b=x.dst<;>by_cases c3:N.paths[j].fa=IntKind.i64.wrap (x.arr-x.dep)<;>cases N.paths[j].free<;>cases q.free<;>simp[c1,c2,c3]
 ·unfold sI;dsimp only;rw[if_neg (by simp),List.drop_length];rfl
theorem H2(x:cO):Ab.asInt .i64 (cell x.pv 0)=some x.stop:=rfl
theorem Vj(x:cO):Ab.asInt .i64 (cell x.pv 1)=some x.arr:=rfl
theorem Vk(x:cO):Ab.asInt .i64 (cell x.pv 2)=some x.dep:=rfl
theorem Vl(x:cO):Ab.asBool (cell x.pv 3)=some x.dc:=rfl
theorem Vm(x:cO):Ab.asBool (cell x.pv 4)=some x.bl:=rfl
theorem w7(x:aG):Ab.asInt .i64 (cell x.pv 1)=some x.mode:=rfl
theorem QA(x:aG):Ab.asBool (cell x.pv 2)=some x.l7:=rfl
theorem XO(c:Prop)[Decidable c](a b:Int):some (PV.int .i64 (if c then a else b))=if c then some (PV.int .i64 a)else some (PV.int .i64 b):=by split<;>rfl
theorem XP(h:rH N)(hk:k<l.length)(hr:l[k].dr=true){r:dS}{t:aG}{a b:cO}(hx:pf N l[k] r t a b){s:Stop}(hs:N.stops[l[k].src.toNat]?=some s)(zK:0≤l[k].src):cd [gh N q l k]=some (.int .i64 (xI N q l[k] r t a b)):=by have hm:=(h.eC t hx.tm).1;simp only[cd,fV,Gy,Gz,GA,GB,GC,GD,GF,GG,GH,GI,GJ,tn,tp,tq,tr,tt,tu,tv,tw,tx,tz,tA,U,LP,pg hk,iE,gK,iR,iS,iT,iU,iV,iW,iX,ir,hr,Bool.not_true,Bool.false_eq_true,if_false,ba dS.pv hx.uF hx.run,J3,aaG,aaH,aI,aB,ba aG.pv hx.A2 hx.eC,Vg hk hx,GK hk hx,Zt,H2,Vj,Vk,Vl,w7,QA,aW,aZ,Qz _ s zK hs];rw[if_neg (show¬t.mode<0 by omega)];simp only[aZ,U];unfold xI JZ;simp only[XO]
end
end Go.Ab.Tt
namespace Go.Ab.Tt
set_option maxRecDepth 100000
set_option linter.unusedVariables false
set_option linter.unusedSimpArgs false
section
variable {N:ag} {q:jw} {l:List cw} {k:Nat}
theorem Vn(hk:k<l.length)(hr:l[k].dr=false):cd [gh N q l k]=some (.int .i64 0):=by simp only[cd,fV,Gy,Gz,GA,GB,GC,GD,GF,GG,GH,GI,GJ,tn,tp,tq,tr,tt,tu,tv,tw,tx,tz,tA,U,LP,pg hk,iE,gK,iR,iS,iT,iU,iV,iW,iX,ir,hr,Bool.not_false,if_true]
theorem q8{x:cw}(h:GL N x=false):(∃s,N.stops[x.src.toNat]?=some s∧0≤x.src∧s∈N.stops)∧(∃s,N.stops[x.dst.toNat]?=some s∧0≤x.dst∧s∈N.stops)∧(x.dr=true→WJ N x=true)∧(x.dr=false→x.stay=false):=by
 unfold GL at h;simp only[Bool.or_eq_false_iff,Bool.not_eq_false',od,Bool.and_eq_true,decide_eq_true_eq]at h;obtain⟨⟨⟨a1,a2⟩,b1,b2⟩,c⟩:=h;have h1:x.src.toNat<N.stops.length:=by omega
 have h2:x.dst.toNat<N.stops.length:=by omega
 refine⟨⟨_,List.getElem?_eq_getElem h1,by omega,List.getElem_mem h1⟩,⟨_,List.getElem?_eq_getElem h2,by omega,List.getElem_mem h2⟩,fun hr=>?_,fun hr=>?_⟩
 ·rw[if_pos hr]at c;simpa using c
 ·rw[if_neg (by simp[hr])]at c;simp only[Bool.or_eq_false_iff]at c;exact c.2
theorem Vo(h:rH N)(hk:k<l.length):cY [gh N q l k]=some (.int .i64 (gF N q l[k])):=by
 simp only[cY,j2,Gy,Gz,GA,GB,GC,GD,GF,GG,GH,GI,GJ,tn,tp,tq,tr,tt,tu,tv,tw,tx,tz,tA,U,LP,XL h hk,aI];unfold gF;cases hl:GL N l[k]with
 |true=>rfl
 |false=>
  obtain⟨⟨s,hs,zK,_⟩,_,hx,oQ⟩:=q8 hl;simp only[Bool.false_eq_true,if_false,XM hk,U,aI];rw[if_neg (by decide)];cases hmo:Cr l[k]with
  |true=>rfl
  |false=>
   simp only[Bool.false_eq_true,if_false,XN h hk,U,aI];rw[if_neg (by decide)];cases hr:l[k].dr with
   |true=>
    obtain⟨r,t,a,b,je⟩:=yL h (hx hr);simp only[if_true,XP h hk hr je hs zK,U,aI,J0 je];rw[if_neg (by decide)];by_cases c:xI N q l[k] r t a b=0
    ·rw[if_neg (by simp[c]),c]
    ·rw[if_pos (by simpa using c)]
   |false=>
    simp only[Bool.false_eq_true,if_false,Vn hk hr,U,aI];by_cases c:wk q l[k] N.paths 18=0
    ·rw[if_neg (by simp[c]),if_neg (by decide),c]
    ·rw[if_pos (by simpa using c)]
theorem Vp(h:rH N){x:cw}{r:dS}{t:aG}{a b:cO}(hx:pf N x r t a b){s:Stop}(hs:N.stops[x.src.toNat]?=some s)(zK:0≤x.src):mF [N.pv,q.pv,x.pv]=some (.int .i64 (xI N q x r t a b)):=by have hm:=(h.eC t hx.tm).1;simp only[mF,yD,gL,gM,gN,gO,gP,gQ,gR,gS,gT,gU,pM,qS,qT,qU,qV,qW,qX,qY,qZ,q6,q7,iE,gK,iR,iS,iT,iU,iV,iW,iX,ir,U,l8,yI,ba dS.pv hx.uF hx.run,J3,aaG,aaH,zJ,aI,aB,aS,ba cO.pv hx.HY hx.dc,ba cO.pv hx.zI hx.bl,ba aG.pv hx.A2 hx.eC,H2,Vj,Vk,Vl,w7,QA,aW,aZ,J2 _ s zK hs];rw[if_neg (show¬t.mode<0 by omega)];simp only[aZ,U];unfold xI JZ;simp only[XO]
theorem QB(h:rH N)(x:cw):fB [N.pv,q.pv,x.pv]=some (.int .i64 (gF N q x)):=by
 have hs:=J1 h;simp only[fB,qR,gL,gM,gN,gO,gP,gQ,gR,gS,gT,gU,pM,qS,qT,qU,qV,qW,qX,qY,qZ,q6,q7,iE,gK,iR,iS,iT,iU,iV,iW,iX,ir,U,l8,yI,Vd,List.length_map,wm (show N.stops.length≤9223372036854775807 by omega),Vf,aB,aW,aZ,Eu];unfold gF;have hc:(!od x.src 0 ((N.stops.length:Int)-1)|| !od x.dst 0 ((N.stops.length:Int)-1))=true∨(!od x.src 0 ((N.stops.length:Int)-1)|| !od x.dst 0 ((N.stops.length:Int)-1))=false:=by cases(!od x.src 0 ((N.stops.length:Int)-1)|| !od x.dst 0 ((N.stops.length:Int)-1))<;>simp
 rcases hc with hc|hc
 ·rw[if_pos hc,if_pos (by unfold GL;rw[hc];rfl)]
 ·rw[if_neg (by simp[hc])];have hl:GL N x=((x.dr&& !WJ N x)||(!x.dr&&(x.run !=0||x.dc !=0||x.bl !=0||x.stay))):=by unfold GL;rw[hc];cases x.dr<;>simp
  rw[←hl];cases hlb:GL N x with
  |true=>rfl
  |false=>
   obtain⟨⟨s,hs,zK,_⟩,_,hx,oQ⟩:=q8 hlb;simp only[Bool.false_eq_true,if_false];unfold Cr;cases(!od x.dep 0 3155932800|| !od x.arr 0 3155932800)with
   |true=>rfl
   |false=>
    simp only[Bool.false_eq_true,if_false];cases hr:x.dr with
    |true=>
     obtain⟨r,t,a,b,je⟩:=yL h (hx hr);have hxf:PV.agg [.bool true,.int .i64 x.run,.int .i64 x.dc,.int .i64 x.bl,.int .i64 x.src,.int .i64 x.dst,.int .i64 x.dep,.int .i64 x.arr,.bool x.stay]=x.pv:=by rw[←hr];rfl
     simp only[if_true,hxf,Vp h je hs zK,U,aI,J0 je]
    |false=>
     have hxf:PV.agg [.bool false,.int .i64 x.run,.int .i64 x.dc,.int .i64 x.bl,.int .i64 x.src,.int .i64 x.dst,.int .i64 x.dep,.int .i64 x.arr,.bool x.stay]=x.pv:=by rw[←hr];rfl
     simp only[Bool.false_eq_true,if_false,hxf,Vi h,U,aI]
end
end Go.Ab.Tt
namespace Go.Ab.Tt
set_option maxRecDepth 100000
set_option linter.unusedVariables false
set_option linter.unusedSimpArgs false
def Zu(a b:cw)(stay:Bool)(k:bg):Bool:=(k.a==a.run)&&(k.ac==a.bl)&&(k.b==b.run)&&(k.bc==b.dc)&&(k.stay==stay)
def GN(N:ag)(a b:cw)(stay:Bool):Bool:=N.aJ.any (Zu a b stay)
def QC(N:ag)(i:Int):Int:=match N.stops[i.toNat]? with|some s=>s.change|none=>0
def j5(N:ag)(q:jw)(l:List cw)(x:cw):Int:=
 if(x.src !=q.src)=true then 24 else if x.stay=true then 19
 else if(!x.dr&&(match l[1]? with|some y=>y.dr&&y.dep !=x.arr|none=>false))=true then 10
 else if(!x.dr&&decide (l.length=1)&&(if q.back=true then x.arr !=q.time else x.dep !=q.time))=true then 10
 else if(!q.back&&decide (x.dep<q.time))=true then 10
 else if(!q.back&&q.vk&&x.dr&&decide (x.dep<IntKind.i64.wrap (q.time+QC N q.src)))=true then 28 else 0
def va(N:ag)(a b:cw):Int:=
 if(b.src !=a.dst)=true then 24 else if(!a.dr&& !b.dr)=true then 32 else if(b.stay&&(!a.dr|| !GN N a b true))=true then 19
 else if(b.stay&&decide (b.dep<a.arr))=true then 10 else if(!b.dr&&b.dep !=a.arr)=true then 10 else 0
def uG(N:ag)(a b:cw):Int:=
 if(!b.dr||b.stay)=true then 0 else if(!a.dr)=true then(if decide (b.dep<a.arr)=true then 28 else 0)
 else if(decide (b.dep≥IntKind.i64.wrap (a.arr+QC N b.src))||(decide (b.dep≥a.arr)&&GN N a b false))=true then 0 else 28
def ly(N:ag)(x:cw):Bool:=match xi N x with
 |some r=>(match r.calls[x.bl.toNat]? with|some b=>b.bl|none=>false)
 |none=>false
def pj(N:ag)(q:jw)(l:List cw)(k:Nat)(x:cw):Int:=if(!x.dr||(match l[k+1]? with|some y=>y.stay|none=>false))=true then 0 else if(!ly N x)=true then 26 else if(!tB N q x.dst)=true then 29 else 0
def iY(N:ag)(q:jw)(l:List cw)(k:Nat):Int:=match l[k]? with
 |none=>0
 |some x=>if gF N q x=0 then
   (let e:=if k=0 then j5 N q l x else match l[k-1]? with
    |some a=>if va N a x=0 then uG N a x else va N a x
    |none=>0
   if e=0 then pj N q l k x else e)
  else gF N q x
section
variable {N:ag} {q:jw} {l:List cw} {k:Nat}
theorem GO(h:rH N)(hk:k+1<l.length)(hl:l.length≤maxLen)(st:Bool):cz [gh N q l ((k+1:Nat):Int),.bool st]=some (.bool (GN N l[k] l[k+1] st)):=by
 have hm:=aY;have hr:=bf;have CH:=h.ok.aJ.1;simp only[cz,im,Gy,Gz,GA,GB,GC,GD,GF,GG,GH,GI,GJ,tn,tp,tq,tr,tt,tu,tv,tw,tx,tz,tA,U,LP,aB,HZ hk hl,pg hk,iE,List.length_map];refine oF (fun j(_:Unit)=>(st,N.aJ.map bg.pv,(N.aJ.length:Int),(j:Int),cell l[k].pv 0,cell l[k].pv 1,cell l[k].pv 2,cell l[k].pv 3,cell l[k].pv 4,cell l[k].pv 5,cell l[k].pv 6,cell l[k].pv 7,cell l[k].pv 8,cell l[k+1].pv 0,cell l[k+1].pv 1,cell l[k+1].pv 2,cell l[k+1].pv 3,cell l[k+1].pv 4,cell l[k+1].pv 5,cell l[k+1].pv 6,cell l[k+1].pv 7,cell l[k+1].pv 8,())) (fun j _=>some (PV.bool ((N.aJ.drop j).any (Zu l[k] l[k+1] st)))) N.aJ.length (fun j hj e rec fM=>?_) (fun e rec=>?_) (by omega) () rfl
 ·unfold fP;dsimp only;rw[if_pos (by simp;omega),cG bg.pv N.aJ j hj];simp only[U,Ez,J4,link2,J5,GP,aI,aB,iE,gK,iR,iS,iT,iU,iV,iW,iX,ir,aZ,ai (show j<9223372036854775807 by omega),fM ()];rw[jJ hj,List.any_cons];have hc:(N.aJ[j].stay==st&&N.aJ[j].a==l[k].run&&N.aJ[j].ac==l[k].bl&&N.aJ[j].b==l[k+1].run&&N.aJ[j].bc==l[k+1].dc)=Zu l[k] l[k+1] st N.aJ[j]:=by unfold Zu;cases(N.aJ[j].stay==st)<;>cases(N.aJ[j].a==l[k].run)<;>cases(N.aJ[j].ac==l[k].bl)<;>cases(N.aJ[j].b==l[k+1].run)<;>cases(N.aJ[j].bc==l[k+1].dc)<;>rfl
  rw[hc];cases Zu l[k] l[k+1] st N.aJ[j]<;>simp
 ·unfold fP;dsimp only;rw[if_neg (by simp),List.drop_length];rfl
theorem Ol(h:rH N)(a b:cw)(st:Bool):iu [N.pv,a.pv,b.pv,.bool st]=some (.bool (GN N a b st)):=by
 have hm:=aY;have hr:=bf;have CH:=h.ok.aJ.1;simp only[iu,uy,gL,gM,gN,gO,gP,gQ,gR,gS,gT,gU,iE,gK,iR,iS,iT,iU,iV,iW,iX,ir,U,aB];refine oF (fun j(_:Unit)=>(st,(j:Int),N.stops.map Stop.pv,N.au.map aG.pv,N.runs.map dS.pv,N.aJ.map bg.pv,N.paths.map Path.pv,N.aR.map aH.pv,N.bu,N.within,N.cap,a.dr,a.run,a.dc,a.bl,a.src,a.dst,a.dep,a.arr,a.stay,b.dr,b.run,b.dc,b.bl,b.src,b.dst,b.dep,b.arr,b.stay,())) (fun j _=>some (PV.bool ((N.aJ.drop j).any (Zu a b st)))) N.aJ.length (fun j hj e rec fM=>?_) (fun e rec=>?_) (by omega) () rfl
 ·unfold pk;dsimp only;rw[if_pos (by simp;omega),cG bg.pv N.aJ j hj];simp only[U,Ez,J4,link2,J5,GP,aI,aB,aZ,ai (show j<9223372036854775807 by omega),fM ()];rw[jJ hj,List.any_cons];show(if Zu a b st N.aJ[j]=true then _ else _)=_;cases Zu a b st N.aJ[j]<;>simp
 ·unfold pk;dsimp only;rw[if_neg (by simp),List.drop_length];rfl
end
end Go.Ab.Tt
namespace Go.Ab.Tt
set_option maxRecDepth 100000
set_option linter.unusedVariables false
set_option linter.unusedSimpArgs false
theorem H3(x:Stop):Ab.asInt .i64 (cell x.pv 3)=some x.change:=rfl
theorem zL{A:Type}(f:A→PV)(l:List A)(k:Nat):aO (l.map f) (k:Int)=(l[k]?).map f:=by rw[aQ,List.getElem?_map]
section
variable {N:ag} {q:jw} {l:List cw} {k:Nat}
theorem H4{i:Int}{s:Stop}(hs:N.stops[i.toNat]?=some s):QC N i=s.change:=by unfold QC;rw[hs]
theorem J6(l:List cw):aO (l.map cw.pv) 1=(l[1]?).map cw.pv:=zL cw.pv l 1
theorem Sl(hk:0<k):bV [gh N q l k]=some (.int .i64 0):=by simp only[bV,fm,Gy,Gz,GA,GB,GC,GD,GF,GG,GH,GI,GJ,tn,tp,tq,tr,tt,tu,tv,tw,tx,tz,tA,U];rw[if_pos (by simp;omega)]
theorem Vq(hk:0<l.length)(hl:GL N l[0]=false):bV [gh N q l ((0:Nat):Int)]=some (.int .i64 (j5 N q l l[0])):=by
 obtain⟨⟨s,hs,zK,_⟩,_⟩:=q8 hl;simp only[bV,fm,Gy,Gz,GA,GB,GC,GD,GF,GG,GH,GI,GJ,tn,tp,tq,tr,tt,tu,tv,tw,tx,tz,tA,U,LP,pg hk,iE,gK,iR,iS,iT,iU,iV,iW,iX,ir,List.length_map,J6,aZ,aW,ga];rw[if_neg (by simp)];unfold j5;simp only[XO];by_cases hc:l[0].src=q.src
 ·rw[←hc,ba Stop.pv zK hs,H4 hs];simp only[U,H3,bne_self_eq_false,Bool.false_eq_true,if_false];have h1:(decide ((l.length:Int)=1))=decide (l.length=1):=by by_cases h:l.length=1<;>simp[h]<;>omega
  rw[h1];cases oQ:l[0].stay with
  |true=>rfl
  |false=>
   simp only[Bool.false_eq_true,if_false];cases h2:l[1]? with
   |none=>
    have hlen:l.length=1:=by have:=List.getElem?_eq_none_iff.1 h2;omega
    simp only[hlen,decide_true,Bool.not_true,aZ,U,Bool.and_false,cond_false,Option.map_none,Bool.and_true];cases l[0].dr<;>cases q.back<;>cases q.vk<;>simp
   |some y=>
    have hlen:¬l.length=1:=by have:=(List.getElem?_eq_some_iff.1 h2).1;omega
    simp only[hlen,decide_false,Bool.not_false,aZ,U,Bool.and_true,Bool.and_false,Option.map_some,iE,gK,iR,iS,iT,iU,iV,iW,iX,ir,cond_false];cases l[0].dr<;>cases q.back<;>cases q.vk<;>simp<;>cases y.dr<;>simp
 ·rw[if_pos (by simpa using hc),if_pos (by simpa using hc)]
theorem Vr:cg [gh N q l ((0:Nat):Int)]=some (.int .i64 0):=by simp only[cg,fW,Gy,Gz,GA,GB,GC,GD,GF,GG,GH,GI,GJ,tn,tp,tq,tr,tt,tu,tv,tw,tx,tz,tA,U];rw[if_pos (by simp)]
theorem XQ(h:rH N)(hk:k+1<l.length)(hl:l.length≤maxLen):cg [gh N q l ((k+1:Nat):Int)]=some (.int .i64 (va N l[k] l[k+1])):=by simp only[cg,fW,Gy,Gz,GA,GB,GC,GD,GF,GG,GH,GI,GJ,tn,tp,tq,tr,tt,tu,tv,tw,tx,tz,tA,U,LP,HZ hk hl,pg hk,iE,gK,iR,iS,iT,iU,iV,iW,iX,ir,GO h hk hl,aB,aZ,aW];rw[if_neg (by simp;omega)];unfold va;simp only[XO]
theorem Om:bK [gh N q l ((0:Nat):Int)]=some (.int .i64 0):=by simp only[bK,eW,Gy,Gz,GA,GB,GC,GD,GF,GG,GH,GI,GJ,tn,tp,tq,tr,tt,tu,tv,tw,tx,tz,tA,U];rfl
theorem Sn(h:rH N)(hk:k+1<l.length)(hl:l.length≤maxLen)(hs:GL N l[k+1]=false):bK [gh N q l ((k+1:Nat):Int)]=some (.int .i64 (uG N l[k] l[k+1])):=by
 obtain⟨⟨s,hs,zK,_⟩,_⟩:=q8 hs;simp only[bK,eW,Gy,Gz,GA,GB,GC,GD,GF,GG,GH,GI,GJ,tn,tp,tq,tr,tt,tu,tv,tw,tx,tz,tA,U,LP,HZ hk hl,pg hk,iE,gK,iR,iS,iT,iU,iV,iW,iX,ir,GO h hk hl,aB,aZ,aW,ba Stop.pv zK hs,H3];have h0:(((k+1:Nat):Int)==0)=false:=by simp;omega
 rw[h0];unfold uG;simp only[XO,H4 hs,FM,Bool.not_false,cond_true];cases l[k+1].dr<;>cases l[k+1].stay<;>rfl
theorem J7(h:rH N)(hk:k<l.length)(hl:l.length≤maxLen)(hs:GL N l[k]=false):dp [gh N q l k]=some (.int .i64 (pj N q l k l[k])):=by
 have hm:=aY;obtain⟨_,⟨s,hs,zK,_⟩,hx,_⟩:=q8 hs;simp only[dp,iQ,Gy,Gz,GA,GB,GC,GD,GF,GG,GH,GI,GJ,tn,tp,tq,tr,tt,tu,tv,tw,tx,tz,tA,U,LP,pg hk,iE,gK,iR,iS,iT,iU,iV,iW,iX,ir,List.length_map,ai (show k<9223372036854775807 by omega),zL];unfold pj;cases hr:l[k].dr with
 |false=>rfl
 |true=>
  obtain⟨r,t,a,b,je⟩:=yL h (hx hr);have Hx:ly N l[k]=b.bl:=by unfold ly xi;rw[if_pos je.uF,je.run];simp only[je.bl]
  have oQ:(bif decide (((k+1:Nat):Int)<(l.length:Int))then(Option.map cw.pv l[k+1]?).bind fun p=>(Ab.asBool (cell p 8)).bind fun b=>some b else some false)=some (match l[k+1]? with|some y=>y.stay|none=>false):=by
   by_cases bm:k+1<l.length
   ·rw[List.getElem?_eq_getElem bm];simp only[Option.map_some,U,ir];rw[decide_eq_true (show((k+1:Nat):Int)<(l.length:Int) by omega)];rfl
   ·rw[List.getElem?_eq_none (by omega),decide_eq_false (show¬((k+1:Nat):Int)<(l.length:Int) by omega)];rfl
  simp only[Bool.not_true,Bool.false_or,cond_false,oQ,U,GK hk je,Zt,Vm,aI,Qz _ s zK hs,aB,Hx,XO];try (cases l[k+1]? <;>rfl)
theorem Vs(h:rH N)(hk:k<l.length)(hl:l.length≤maxLen):dq [gh N q l k]=some (.int .i64 (iY N q l k)):=by
 simp only[dq,iP,Gy,Gz,GA,GB,GC,GD,GF,GG,GH,GI,GJ,tn,tp,tq,tr,tt,tu,tv,tw,tx,tz,tA,U,LP,Vo h hk,aI];unfold iY;rw[List.getElem?_eq_getElem hk];simp only;by_cases h0:gF N q l[k]=0
 ·have JO:GL N l[k]=false:=by
   unfold gF at h0;cases hb:GL N l[k]with
   |false=>rfl
   |true=>rw[hb,if_pos rfl]at h0;cases h0
  rw[if_neg (by simp[h0]),if_pos h0];cases k with
  |zero=>
   simp only[Vq hk JO,U,aI,Vr,Om,J7 h hk hl JO,if_true];by_cases h1:j5 N q l l[0]=0
   ·rw[if_neg (by simp[h1]),if_pos h1,if_neg (by decide),if_neg (by decide)];by_cases h2:pj N q l 0 l[0]=0
    ·rw[if_neg (by simp[h2]),h2]
    ·rw[if_pos (by simpa using h2)]
   ·rw[if_pos (by simpa using h1),if_neg h1]
  |succ k=>
   have BM:l[k+1-1]?=some l[k]:=by rw[Nat.add_sub_cancel];exact List.getElem?_eq_getElem (by omega)
   simp only[Sl (N:=N) (q:=q) (l:=l) (Nat.succ_pos k),U,aI,XQ h hk hl,Sn h hk hl JO,J7 h hk hl JO,BM];rw[if_neg (by decide),if_neg (show¬k+1=0 by omega)];by_cases h1:va N l[k] l[k+1]=0
   ·rw[if_neg (by simp[h1])];simp only[h1,if_true];by_cases h3:uG N l[k] l[k+1]=0
    ·rw[if_neg (by simp[h3]),if_pos h3];by_cases h2:pj N q l (k+1) l[k+1]=0
     ·rw[if_neg (by simp[h2]),h2]
     ·rw[if_pos (by simpa using h2)]
    ·rw[if_pos (by simpa using h3),if_neg h3]
   ·rw[if_pos (by simpa using h1)];simp only[h1,if_false]
 ·rw[if_pos (by simpa using h0),if_neg h0]
end
end Go.Ab.Tt
namespace Go.Ab.Tt
set_option maxRecDepth 100000
set_option linter.unusedVariables false
set_option linter.unusedSimpArgs false
section
variable {N:ag} {q:jw} {l:List cw} {k:Nat}
theorem GQ(l:List cw):aO (l.map cw.pv) 0=(l[0]?).map cw.pv:=zL cw.pv l 0
theorem Sq(hk:0<l.length)(hl:GL N l[0]=false)(hq:(q.vk&&q.back)=false):kV [N.pv,q.pv,yJ l]=some (.int .i64 (j5 N q l l[0])):=by
 obtain⟨⟨s,hs,zK,_⟩,_⟩:=q8 hl;simp only[kV,wa,gL,gM,gN,gO,gP,gQ,gR,gS,gT,gU,pM,qS,qT,qU,qV,qW,qX,qY,qZ,q6,q7,jA,j0,U,GQ,List.getElem?_eq_getElem hk,Option.map_some,iE,gK,iR,iS,iT,iU,iV,iW,iX,ir,List.length_map,J6,aZ,aW,ga];unfold j5;simp only[XO];by_cases hc:l[0].src=q.src
 ·rw[←hc,ba Stop.pv zK hs,H4 hs];simp only[U,H3,bne_self_eq_false,Bool.false_eq_true,if_false];have h1:(decide ((l.length:Int)=1))=decide (l.length=1):=by by_cases h:l.length=1<;>simp[h]<;>omega
  have h3:(decide ((l.length:Int)>1))= !decide (l.length=1):=by by_cases h:l.length=1<;>simp[h]<;>omega
  rw[h1,h3];cases oQ:l[0].stay with
  |true=>rfl
  |false=>
   simp only[Bool.false_eq_true,if_false];cases h2:l[1]? with
   |none=>
    have hlen:l.length=1:=by have:=List.getElem?_eq_none_iff.1 h2;omega
    simp only[hlen,decide_true,Bool.not_true,aZ,U,Bool.and_false,cond_false,Option.map_none,Bool.and_true];cases l[0].dr<;>cases hb:q.back<;>cases hg:q.vk<;>simp[hb,hg]at hq⊢
   |some y=>
    have hlen:¬l.length=1:=by have:=(List.getElem?_eq_some_iff.1 h2).1;omega
    simp only[hlen,decide_false,Bool.not_false,aZ,U,Bool.and_true,Bool.and_false,Option.map_some,iE,gK,iR,iS,iT,iU,iV,iW,iX,ir,cond_false];cases l[0].dr<;>cases hb:q.back<;>cases hg:q.vk<;>simp[hb,hg]at hq⊢<;>cases y.dr<;>simp
 ·rw[if_pos (by simpa using hc),if_pos (by simpa using hc)]
theorem On(h:rH N){a b:cw}(hb:GL N b=false):j6 [N.pv,a.pv,b.pv]=some (.int .i64 (if va N a b=0 then uG N a b else va N a b)):=by
 obtain⟨⟨s,hs,zK,_⟩,_,_,oQ⟩:=q8 hb;simp only[j6,uD,gL,gM,gN,gO,gP,gQ,gR,gS,gT,gU,iE,gK,iR,iS,iT,iU,iV,iW,iX,ir,U,l8,Vd,Ol h,aB,aZ,aW];unfold va uG;by_cases hc:b.src=a.dst
 ·rw[if_neg (by simp[hc]),←hc,ba Stop.pv zK hs,H4 hs];simp only[U,H3,bne_self_eq_false,Bool.false_eq_true,if_false,aW];cases hr:b.dr with
  |false=>rw[oQ hr];cases a.dr<;>simp;by_cases hd:b.dep=a.arr<;>simp[hd]
  |true=>cases b.stay<;>cases a.dr<;>cases GN N a b true<;>cases GN N a b false<;>by_cases h1:b.dep<a.arr<;>by_cases h2:b.dep≥IntKind.i64.wrap (a.arr+s.change)<;>simp[h1,h2,XO]<;>(try omega)
 ·have hn:¬a.dst=b.src:=fun e=>hc e.symm;rw[if_pos (by simpa using hn)];simp[hc]
theorem aaI(h:rH N)(hk:k<l.length)(hl:l.length≤maxLen)(hq:(q.vk&&q.back)=false):q9 [N.pv,q.pv,yJ l,.int .i64 k]=some (.int .i64 (iY N q l k)):=by
 have hm:=aY;simp only[q9,En,gL,gM,gN,gO,gP,gQ,gR,gS,gT,gU,pM,qS,qT,qU,qV,qW,qX,qY,qZ,q6,q7,jA,j0,U,aI,cG cw.pv l k hk,Sj,l8,yI,QB h,List.length_map,ai (show k<9223372036854775807 by omega),zL];unfold iY;rw[List.getElem?_eq_getElem hk];simp only;by_cases h0:gF N q l[k]=0
 ·have JO:GL N l[k]=false:=by
   unfold gF at h0;cases hb:GL N l[k]with
   |false=>rfl
   |true=>rw[hb,if_pos rfl]at h0;cases h0
  obtain⟨_,⟨s,hs,zK,_⟩,hx,_⟩:=q8 JO;have EA:(bif (((k+1:Nat):Int)==(l.length:Int))then some true else(Option.map cw.pv l[k+1]?).bind fun p=>(Ab.asBool (cell p 8)).bind fun b=>some !b)=some !(match l[k+1]? with|some y=>y.stay|none=>false):=by
   by_cases bm:k+1<l.length
   ·rw[List.getElem?_eq_getElem bm];simp only[Option.map_some,U,ir];rw[show(((k+1:Nat):Int)==(l.length:Int))=false by simp;omega];rfl
   ·rw[List.getElem?_eq_none (by omega),show(((k+1:Nat):Int)==(l.length:Int))=true by simp;omega];rfl
  have Vt:((bif l[k].dr then(bif (((k+1:Nat):Int)==(l.length:Int))then some true else(Option.map cw.pv l[k+1]?).bind fun p=>(Ab.asBool (cell p 8)).bind fun b=>some !b).bind fun r=>some r else some false).bind fun vb=>if vb=true then(Ab.asInt .i64 (cell l[k].pv 1)).bind fun n34=>(aO (N.runs.map dS.pv) n34).bind fun Zv=>(aa 5 (cell Zv 7)).bind fun Vu=>(Ab.asInt .i64 (cell l[k].pv 3)).bind fun n37=>(aO Vu n37).bind fun p38=>(Ab.asBool (cell p38 4)).bind fun BB=>if(!BB)=true then some (PV.int .i64 26)else(Ab.asInt .i64 (cell l[k].pv 5)).bind fun n40=>(gx [N.pv,q.pv,PV.int .i64 n40]).bind fun Sr=>(Ab.asBool Sr).bind fun b42=>if(!b42)=true then some (PV.int .i64 29)else some (PV.int .i64 0)else some (PV.int .i64 0))=some (PV.int .i64 (pj N q l k l[k])):=by
   unfold pj;rw[EA];cases hr:l[k].dr with
   |false=>rfl
   |true=>
    obtain⟨r,t,a,b,je⟩:=yL h (hx hr);have Hx:ly N l[k]=b.bl:=by unfold ly xi;rw[if_pos je.uF,je.run];simp only[je.bl]
    simp only[cond_true,U,iE,gK,iR,iS,iT,iU,iV,iW,iX,ir,ba dS.pv je.uF je.run,zJ,aS,ba cO.pv je.zI je.bl,Vm,J2 _ s zK hs,aB,Hx,XO,Bool.not_true,Bool.false_or];cases l[k+1]? with
    |none=>rfl
    |some y=>by_cases hy:y.stay=true<;>simp[hy]
  rw[if_neg (by simp[h0]),if_pos h0];cases k with
  |zero=>
   rw[if_pos (by simp),if_pos rfl];simp only[jF,Sq hk JO hq,U,aI];by_cases h1:j5 N q l l[0]=0
   ·rw[if_neg (by simp[h1]),if_pos h1,←Vt];simp only[iE,gK,iR,iS,iT,iU,iV,iW,iX,ir,U]
   ·rw[if_pos (by simpa using h1),if_neg h1]
  |succ k=>
   have BM:l[k+1-1]?=some l[k]:=by rw[Nat.add_sub_cancel];exact List.getElem?_eq_getElem (by omega)
   rw[if_neg (by simp;omega),if_neg (show¬k+1=0 by omega),lW k (by omega),BM];simp only[cG cw.pv l k (by omega),U,Sj,On h JO,aI];by_cases h1:(if va N l[k] l[k+1]=0 then uG N l[k] l[k+1]else va N l[k] l[k+1])=0
   ·rw[if_neg (by simp[h1]),if_pos h1,←Vt];simp only[iE,gK,iR,iS,iT,iU,iV,iW,iX,ir,U]
   ·rw[if_pos (by simpa using h1),if_neg h1]
 ·rw[if_pos (by simpa using h0),if_neg h0]
end
end Go.Ab.Tt
namespace Go.Ab.Tt
set_option maxRecDepth 100000
set_option linter.unusedVariables false
set_option linter.unusedSimpArgs false
theorem mG{S R X:Type}{body:S→(S→Option R)→Option R}(st:Nat→X→S)(G:Nat→X→Option R)(I:Nat→X→Prop)(n:Nat)(h:∀k,k<n→∀e rec,I k e→(∀e',I (k+1) e'→rec (st (k+1) e')=G (k+1) e')→body (st k e) rec=G k e)(nv:∀e rec,I n e→body (st n e) rec=G n e)(hn:n<rounds)(e:X)(he:I 0 e){s0:S}(h0:st 0 e=s0):bC.run body s0=G 0 e:=by
 have key:∀(m j N:Nat)(e:X),j+m=n→m<N→I j e→c7 body N (st j e)=G j e:=by
  intro m;induction m with
  |zero=>
   intro j N e hj hN hi;cases N with
   |zero=>omega
   |succ N=>
    simp only[c7];have:j=n:=by omega
    subst this;exact nv _ _ hi
  |succ m ih=>
   intro j N e hj hN hi;cases N with
   |zero=>omega
   |succ N=>simp only[c7];exact h j (by omega) e _ hi fun e' ny=>ih (j+1) N e' (by omega) (by omega) ny
 rw[←h0,mf];exact key n 0 rounds e (by omega) hn he
def J8(f:Nat→Int):Nat→Nat→Nat
 |0,k=>k
 |m+1,k=>if f k=0 then J8 f m (k+1)else k
theorem J9(f:Nat→Int){n j:Nat}(h:j<n):J8 f (n-j) j=if f j=0 then J8 f (n-(j+1)) (j+1)else j:=by
 have:n-j=(n-(j+1))+1:=by omega
 rw[this];rfl
theorem Ka(f:Nat→Int):∀m k,k≤J8 f m k∧J8 f m k≤k+m∧(J8 f m k<k+m→f (J8 f m k)≠0)∧∀j,k≤j→j<J8 f m k→f j=0
 |0,k=>⟨Nat.le_refl _,Nat.le_refl _,fun h=>absurd h (by simp[J8]),fun j h1 h2=>by simp[J8]at h2;omega⟩
 |m+1,k=>by
  unfold J8;split
  ·rename_i h0;obtain⟨a,b,c,d⟩:=Ka f m (k+1);refine⟨by omega,by omega,fun h=>c (by omega),fun j h1 h2=>?_⟩;by_cases e:j=k
   ·rw[e];exact h0
   ·exact d j (by omega) h2
  ·rename_i h0;exact⟨by omega,by omega,fun _=>h0,fun j h1 h2=>by omega⟩
def eAt(f:Nat→Int)(n k:Nat):Int:=if k<n then f k else 0
def zM(N:ag)(q:jw)(l:List cw):Nat:=J8 (iY N q l) l.length 0
def tC(N:ag)(q:jw)(l:List cw):Int:=eAt (iY N q l) l.length (zM N q l)
theorem yM{N:ag}{q:jw}{l:List cw}:tC N q l=0↔∀k,k<l.length→iY N q l k=0:=by
 obtain⟨_,b,c,d⟩:=Ka (iY N q l) l.length 0;unfold tC eAt zM;constructor
 ·intro h k hk;split at h
  ·rename_i bm;exact absurd h (c (by omega))
  ·exact d k (Nat.zero_le _) (by omega)
 ·intro h;split
  ·rename_i bm;exact h _ bm
  ·rfl
section
variable {N:ag} {q:jw} {l:List cw}
theorem QD(h:rH N)(hl:l.length≤maxLen):gm [N.pv,q.pv,yJ l]=some (.bt [.int .i64 (zM N q l),.int .i64 (tC N q l)]):=by
 have hm:=aY;have hr:=bf;simp only[gm,sC,gL,gM,gN,gO,gP,gQ,gR,gS,gT,gU,pM,qS,qT,qU,qV,qW,qX,qY,qZ,q6,q7,jA,j0,U];refine(oF (fun j(_:Unit)=>(l.map cw.pv,N.stops.map Stop.pv,N.au.map aG.pv,N.runs.map dS.pv,N.aJ.map bg.pv,N.paths.map Path.pv,N.aR.map aH.pv,N.bu,N.within,N.cap,q.src,q.dst,q.time,q.back,q.cE,q.walk,q.free,q.l7,q.bn,q.vk,l.map cw.pv,(j:Int),())) (fun j _=>some (PV.bt [.int .i64 ((J8 (iY N q l) (l.length-j) j:Nat):Int),.int .i64 (eAt (iY N q l) l.length (J8 (iY N q l) (l.length-j) j))])) l.length (fun j hj e rec fM=>?_) (fun e rec=>?_) (by omega) () rfl).trans (by simp only[Nat.sub_zero];rfl)
 ·unfold nK;dsimp only;rw[if_pos (by simp;omega)];simp only[LP,Vs h hj hl,U,aI,ai (show j<9223372036854775807 by omega),fM (),J9 _ hj];by_cases h0:iY N q l j=0
  ·rw[if_neg (by simp[h0]),if_pos h0]
  ·rw[if_pos (by simpa using h0),if_neg h0];unfold eAt;rw[if_pos hj]
 ·unfold nK;dsimp only;rw[if_neg (by simp),Nat.sub_self];simp only[J8,eAt,List.length_map,Nat.lt_irrefl,if_false]
theorem Oo(h:rH N)(hl:l.length≤maxLen)(hq:(q.vk&&q.back)=false):j7 [N.pv,q.pv,yJ l]=some (.int .i64 (zM N q l)):=by
 have hm:=aY;have hr:=bf;simp only[j7,uu,gL,gM,gN,gO,gP,gQ,gR,gS,gT,gU,pM,qS,qT,qU,qV,qW,qX,qY,qZ,q6,q7,jA,j0,U];refine(oF (fun j(_:Unit)=>((j:Int),N.stops.map Stop.pv,N.au.map aG.pv,N.runs.map dS.pv,N.aJ.map bg.pv,N.paths.map Path.pv,N.aR.map aH.pv,N.bu,N.within,N.cap,q.src,q.dst,q.time,q.back,q.cE,q.walk,q.free,q.l7,q.bn,q.vk,l.map cw.pv,())) (fun j _=>some (PV.int .i64 ((J8 (iY N q l) (l.length-j) j:Nat):Int))) l.length (fun j hj e rec fM=>?_) (fun e rec=>?_) (by omega) () rfl).trans (by simp only[Nat.sub_zero];rfl)
 ·unfold pn;dsimp only;rw[if_pos (by simp;omega)];simp only[l8,yI,jF,aaI h hj hl hq,U,aI,ai (show j<9223372036854775807 by omega),fM (),J9 _ hj];by_cases h0:iY N q l j=0
  ·rw[if_neg (by simp[h0]),if_pos h0]
  ·rw[if_pos (by simpa using h0),if_neg h0]
 ·unfold pn;dsimp only;rw[if_neg (by simp),Nat.sub_self];simp only[J8,List.length_map]
theorem Vv(N:ag)(q:jw)(x:cw)(h:N.Ok)(hp:N.paths.length≤4096):j8 [N.pv,q.pv,x.pv]=some (.int .i64 (if fZ N q=0 then gF N q x else fZ N q)):=by
 simp only[j8,ur,gL,gM,gN,gO,gP,gQ,gR,gS,gT,gU,pM,qS,qT,qU,qV,qW,qX,qY,qZ,q6,q7,iE,gK,iR,iS,iT,iU,iV,iW,iX,ir,U,l8,yI,Vd,CK N q h hp,aI];by_cases h0:fZ N q=0
 ·have hv:rH N:=⟨h,hp,by unfold fZ at h0;by_cases c:(j3 N).2.2=0;exact c;rw[if_neg c]at h0;cases h0⟩;have:=Vo (q:=q) (l:=[x]) (k:=0) hv (by simp);rw[if_neg (by simp[h0]),if_pos h0];have hc:gh N q [x] ((0:Nat):Int)=gh N q [x] 0:=rfl;rw[hc]at this;have Fc:=LP N q [x] 0;simp only[List.map_cons,List.map_nil]at Fc;rw[Fc,this];simp only[U,aI,List.getElem_cons_zero]
 ·rw[if_pos (by simpa using h0),if_neg h0]
theorem XR(N:ag)(q:jw)(x:cw)(h:N.Ok)(hp:N.paths.length≤4096):oG [N.pv,q.pv,x.pv]=some (.int .i64 (if fZ N q=0 then gF N q x else fZ N q)):=by
 simp only[oG,A1,gL,gM,gN,gO,gP,gQ,gR,gS,gT,gU,pM,qS,qT,qU,qV,qW,qX,qY,qZ,q6,q7,iE,gK,iR,iS,iT,iU,iV,iW,iX,ir,U,l8,yI,Vd,Oj N q h hp,aI];by_cases h0:fZ N q=0
 ·have hv:rH N:=⟨h,hp,by unfold fZ at h0;by_cases c:(j3 N).2.2=0;exact c;rw[if_neg c]at h0;cases h0⟩;rw[if_neg (by simp[h0]),if_pos h0,QB hv x];simp only[U,aI]
 ·rw[if_pos (by simpa using h0),if_neg h0]
end
def tD(x:cw):Bool:=x.dr&& !x.stay
def XS(x:cw):Bool:= !x.dr&&decide (x.dep≥0)&&decide (x.dep≤x.arr)&&decide (x.arr-x.dep≤14400)
def QE:List cw→Int→Int
 |[],s=>s
 |x::r,s=>if XS x=true then QE r (s+(x.arr-x.dep))else QE r s
theorem Kb(x:cw)(r:List cw)(s:Int):QE (x::r) s=if XS x=true then QE r (s+(x.arr-x.dep))else QE r s:=rfl
theorem CM{n:Int}(h:ma n): -9223372036854775808≤n∧n≤9223372036854775807:=by have h:=(nX _ _).1 h;simpa[IntKind.min,IntKind.max,IntKind.signed,IntKind.bits]using h
theorem Kc(l:List cw)(hl:l.length≤1000000)(ho:∀x∈l,x.Ok):iv [yJ l]=some (.int .i64 (QE l 0)):=by
 simp only[iv,uw,jA,j0,U,List.length_map];refine mG (fun j s=>(s,l.map cw.pv,(l.length:Int),(j:Int),())) (fun j s=>some (PV.int .i64 (QE (l.drop j) s))) (fun j s=>0≤s∧s≤14400*(j:Int)) l.length (fun j hj s rec hi fM=>?_) (fun s rec hi=>?_) (by unfold rounds;omega) 0 (by simp) rfl
 ·have hx:=ho _ (List.getElem_mem hj);have hd:=CM hx.dep;have ha:=CM hx.arr;unfold po;dsimp only;rw[if_pos (by simp;omega),cG cw.pv l j hj,jJ hj,Kb];simp only[U,iE,gK,iR,iS,iT,iU,iV,iW,iX,ir,aW,ai (show j<9223372036854775807 by omega)];by_cases c:XS l[j]=true
  ·have c':=c;unfold XS at c';simp only[Bool.and_eq_true,Bool.not_eq_true',decide_eq_true_eq]at c';have hw:IntKind.i64.wrap (l[j].arr-l[j].dep)=l[j].arr-l[j].dep:=bF (by omega) (by omega);rw[hw,if_neg (by simp[c'.1.1.1];omega),if_pos c,bF (by omega) (by omega)];exact fM _ (by omega)
  ·rw[if_neg c];have c':(l[j].dr||decide (l[j].dep<0)||decide (l[j].arr<l[j].dep)||decide (IntKind.i64.wrap (l[j].arr-l[j].dep)>14400))=true:=by
    unfold XS at c;cases hr:l[j].dr with
    |true=>rfl
    |false=>
     rw[hr]at c;simp only[Bool.not_false,Bool.true_and,Bool.and_eq_true,decide_eq_true_eq,not_and]at c;simp only[Bool.false_or,Bool.or_eq_true,decide_eq_true_eq];by_cases h1:l[j].dep<0
     ·exact .inl (.inl h1)
     ·by_cases h2:l[j].arr<l[j].dep
      ·exact .inl (.inr h2)
      ·refine .inr ?_;rw[bF (by omega) (by omega)];have:=c ⟨by omega,by omega⟩;omega
   rw[if_pos c'];exact fM _ (by omega)
 ·unfold po;dsimp only;rw[if_neg (by simp),List.drop_length];rfl
end Go.Ab.Tt
