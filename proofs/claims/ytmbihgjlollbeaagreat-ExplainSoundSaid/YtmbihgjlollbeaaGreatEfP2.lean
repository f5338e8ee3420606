import Derived.Test.YtmbihgjlollbeaaGreatEfP1
import Derived.Test.YtmbihgjlollbeaaGreatEkX
import Derived.Test.YtmbihgjlollbeaaGreatEkP1
namespace Go.Ab.Tt
set_option maxRecDepth 100000
set_option maxHeartbeats 4000000
set_option linter.all false
theorem Wt(x y:Fact):cu [cell x.pv 0,cell x.pv 1,cell x.pv 2,cell x.pv 3,cell x.pv 4] [cell y.pv 0,cell y.pv 1,cell y.pv 2,cell y.pv 3,cell y.pv 4]=decide (x=y):=by obtain⟨a1,a2,a3,a4,a5⟩:=x;obtain⟨b1,b2,b3,b4,b5⟩:=y;simp[cell,Fact.pv,PV.cells,cu,Ab.peq];rfl
theorem Wu(x:Fact):lK (Kd.int .i64::[].append (Kd.int .i64::[].append (Kd.int .i64::[].append (Kd.int .i64::[].append (Kd.int .i64::[].append []))))) [cell x.pv 0,cell x.pv 1,cell x.pv 2,cell x.pv 3,cell x.pv 4]=true:=rfl
theorem OC(rs:List dL)(a b l p d:List PV)(n1 n2 n3:Int)(h:rs.length≤maxLen):∃v,bk.run kA (0,a,b,rs.map dL.pv,l,p,d,n1,n2,n3,())=some (.bool v):=by
 have hm:=aT;have hr:=bw;refine⟨(List.range rs.length).any (fun k=>match rs[k]? with|some x=>decide ((x.calls.length:Int)>40)|none=>false),(sG (fun k=>((k:Int),a,b,rs.map dL.pv,l,p,d,n1,n2,n3,())) rs.length (fun k=>match rs[k]? with|some x=>decide ((x.calls.length:Int)>40)|none=>false) (no:=some (.bool true)) (fin:=some (.bool false)) (fun k hk rec=>?_) (fun rec=>?_) (by omega) rfl).trans ?_⟩
 ·unfold kA;dsimp only;rw[AI (by simp;omega),bS dL.pv rs k hk,aj (by omega),cN hk];simp[U,afr,BY]
 ·simp[kA,IS]
 grind
def Tm(fs:List bg):Nat→Int
 |0=>0
 |k+1=>match fs[k]? with
  |some f=>if eI f=true then IntKind.i64.wrap (Tm fs k+fO f)else Tm fs k
  |none=>Tm fs k
theorem aaH(fs:List bg):∃b,rq [.rs 4 (fs.map bg.pv),.int .i64 600]=some (.bool b)∧(b=false→fs.length≤100):=by
 simp only[rq,AA,aS,aI,U,BY];by_cases h:(fs.length:Int)>100
 ·simp_all
 ·rw[IS (by simpa using h)];refine⟨decide (Tm fs fs.length>600),?_,fun _=>by omega⟩;refine ba (fun k=>(fs.map bg.pv,600,Tm fs k,(k:Int),())) fs.length (fun k hk rec=>?_) (fun rec=>?_) (by unfold rounds;omega) rfl
  ·unfold uc;dsimp only;have e:PV.agg [cell fs[k].pv 0,cell fs[k].pv 1,cell fs[k].pv 2,cell fs[k].pv 3]=fs[k].pv:=rfl;rw[AI (by simp;omega),bS bg.pv fs k hk,aj (by omega)];simp only[U,e,OD,aB];rw[Tm,cN hk];by_cases hs:eI fs[k]=true
   ·simp_all[AI,aaI,U,aI]
   simp_all
  simp[uc,IS]
theorem OE(T:ak)(N:ab)(O:AW)(hN:N.Ok):∃v,l5 [T.pv,N.pv,O.pv]=some (.bool v)∧(v=false→Jx T∧N.paths.length≤200∧O.cp.length≤12):=by
 have b3:∀a b:Bool,(bif a then some true else some b)=some (a||b):=fun a b=>by cases a<;>rfl
 have t4':∀x:bK,aw 5 (cell x.pv 4)=some (x.calls.map aQ.pv):=fun x=>rfl;obtain⟨bm,hbm,aiE⟩:=aaH T.ck;simp only[l5,yb,ttA,tt0,tt1,tt2,tt3,tt4,tt5,tt6,tt7,tt8,tt9,S6,S7,S8,wK,wL,wM,wN,wO,wP,wQ,wR,wS,wT,aaz,aaA,aaB,aaC,aaD,aaE,aaF,aaG,U,aS,aI,b3,BY,hbm,aB];split
 ·simp
 ·rename_i h;simp only[akp,AT,ana,ak3]at h;have hf:=aiE (by simp_all);obtain⟨v1,hv1⟩:=OC N.runs (N.stops.map Stop.pv) (N.au.map aV.pv) (N.bj.map bB.pv) (N.paths.map Path.pv) (N.aP.map aR.pv) N.bX N.within N.cap hN.runs.1;obtain⟨v2,hv2,hv3⟩:∃v2,(if((((((decide ((N.stops.length:Int)>12)||decide ((N.au.length:Int)>20))||decide ((N.runs.length:Int)>40))||decide ((N.bj.length:Int)>60))||decide ((N.paths.length:Int)>200))||decide ((N.aP.length:Int)>20))||decide ((O.cp.length:Int)>12)||decide ((O.oS.length:Int)>12))=true then some (PV.bool true)else bk.run kA (0,N.stops.map Stop.pv,N.au.map aV.pv,N.runs.map dL.pv,N.bj.map bB.pv,N.paths.map Path.pv,N.aP.map aR.pv,N.bX,N.within,N.cap,()))=some (.bool v2)∧(v2=false→N.paths.length≤200∧O.cp.length≤12):=by grind
  refine⟨(List.range T.ag.length).any (QD T)||v2,(sG (fun k=>((k:Int),T.stops.map Stop.pv,T.au.map aV.pv,T.eR.map qd.pv,T.kZ.map tg.pv,T.ag.map bK.pv,T.ck.map bg.pv,T.tv.map k9.pv,T.lJ.map iS.pv,T.paths.map Path.pv,T.aP.map aR.pv,T.bX,T.within,T.cap,N.stops.map Stop.pv,N.au.map aV.pv,N.runs.map dL.pv,N.bj.map bB.pv,N.paths.map Path.pv,N.aP.map aR.pv,N.bX,N.within,N.cap,O.cp.map bp.pv,O.dep,O.arr,O.cB,O.JE,O.walk,O.oS.map oG.pv,())) T.ag.length (QD T) (no:=some (.bool true)) (fin:=some (.bool v2)) (fun k hk rec=>?_) (fun rec=>?_) (by unfold rounds;omega) rfl).trans ?_,fun hb=>?_⟩
  ·unfold sI QD;dsimp only;rw[AI (by simp;omega),bS bK.pv T.ag k hk,aj (by omega),cN hk];simp_all
  ·rw[←hv2];unfold sI;dsimp only;rw[IS (by simp)];simp only[b3,U,BY]
  ·grind
  ·simp only[akN]at hb;obtain⟨U4,uQ⟩:=hb;obtain⟨h1,h2⟩:=hv3 uQ;refine⟨⟨by omega,by omega,by omega,by omega,hf,fun y hy=>?_⟩,h1,h2⟩;simp only[List.any_eq_false,akS]at U4;obtain⟨k,hk,rfl⟩:=List.mem_iff_getElem.1 hy;grind [QD,List.getElem?_eq_getElem]
section
variable {T:ak} {N:ab} {q:gy} {O:AW}
theorem Ij(hN:N.Ok)(hp:N.paths.length≤4096)(Ii:O.cp.length≤12):(nG T N q O).1.length≤1000:=by
 have h1:=BA (T:=T) (N:=N) (q:=q) (l:=O.cp) O.cp.length;unfold nG;split
 ·exact al4 _
 ·split
  ·exact al4 _
  ·split
   ·exact al4 _
   ·split
    ·exact al4 _
    ·rename_i h1 h2 h3 h4;have ZW:(nH N q O.cp).2=0:=by simpa using h2
     obtain⟨hJ,K7⟩:=Oi (q:=q) hN (by omega) Ii ZW;have ht:=(Om K7).1;have h3':okB N q O=true:=by simpa using h3
     have Uz:(jV N O.cp).l=O.oS:=by unfold okB at h3';simp only[No,AT]at h3';exact h3'.2
     rw[Uz]at ht;simp only[ako,BY];omega
theorem LP(tt:T.Ok)(hT:Jx T)(hN:N.Ok)(hp:N.paths.length≤4096)(hO:O.Ok)(Ii:O.cp.length≤12)(m:List Fact):bx [T.pv,N.pv,q.pv,O.pv,.rs 5 (m.map Fact.pv)]=some (.bool (decide ((nG T N q O).2=0)&&decide ((nG T N q O).1=m))):=by
 have adl:=Ij (T:=T) (q:=q) hN hp Ii;have hfp:=F1 (q:=q) tt hT hN hp hO Ii;simp only[bx,nI,ttA,tt0,tt1,tt2,tt3,tt4,tt5,tt6,tt7,tt8,tt9,S6,S7,S8,wK,wL,wM,wN,wO,wP,wQ,wR,wS,wT,Oo,Oq,Ot,Ou,Ov,Ow,Ox,Oy,Oz,OA,OB,aaz,aaA,aaB,aaC,aaD,aaE,aaF,aaG,U,ttE,DX,Ws,adm,aS,aI,hfp];generalize nG T N q O=R at*;unfold JF;simp only[U,t2,ajc,aka,aS,aI,BY,iG,bF];by_cases hb:R.2=0∧R.1.length=m.length
 ·have jc:(decide (R.2=0)&&decide ((R.1.length:Int)=(m.length:Int)))=true:=by simp[hb.1,hb.2]
  rw[jc,alY hb.1,ak4];refine(sG (fun k=>(m.map Fact.pv,R.1.map Fact.pv,true,(R.1.length:Int),(k:Int),())) R.1.length (fun k=> !decide (R.1[k]?=m[k]?)) (no:=some (.bool false)) (fin:=some (.bool true)) (fun k hk rec=>?_) (fun rec=>?_) (by unfold rounds;omega) rfl).trans (LN hb.2)
  ·unfold gz;dsimp only;rw[AI (by simp;omega),bS Fact.pv R.1 k hk,bS Fact.pv m k (by omega),aj (by omega)];simp only[akf,cond_false,U,Wu,Wt,anj,Ko,cN hk,cN (show k<m.length by omega),cO]
  ·unfold gz;dsimp only;rw[IS (by simp)]
 ·have jc:(decide (R.2=0)&&decide ((R.1.length:Int)=(m.length:Int)))=false:=by
   rw[amR,akx,akx];by_cases h1:R.2=0
   ·exact .inr fun h2=>hb ⟨h1,by omega⟩
   ·exact .inl h1
  have hr:(decide (R.2=0)&&decide (R.1=m))=false:=by
   rw[amR,akx,akx];by_cases h1:R.2=0
   ·exact .inr fun h2=>hb ⟨h1,by rw[h2]⟩
   ·exact .inl h1
  rw[jc,hr];refine(sG (fun k=>(m.map Fact.pv,R.1.map Fact.pv,false,(R.1.length:Int),(k:Int),())) R.1.length (fun k=>true) (no:=some (.bool false)) (fin:=some (.bool false)) (fun k hk rec=>?_) (fun rec=>?_) (by unfold rounds;omega) rfl).trans ?_
  ·unfold gz;dsimp only;rw[AI (by simp;omega)];rfl
  ·unfold gz;dsimp only;rw[IS (by simp)]
  ·split<;>rfl
end
section
variable {P:List aR} {rs:List Rd} {d w:Int}
def Zt(n:Nat)(l:List oG):Prop:=∀t∈l,0≤t.prod∧t.prod<(n:Int)
theorem QE(i k:Nat){nx cur:Dv}(hn:Zt P.length nx.l)(hc:Zt P.length cur.l):∀p,Zt P.length (DY P rs d w i k nx cur p).l
 |0=>hc
 |p+1=>by
  have ih:=QE i k hn hc p;unfold DY;split
  ·rename_i x hx;have:=(By.1 hx).1;unfold Tn;split
   ·split
    ·split
     ·intro t ht;rcases ake.1 ht with rfl|h
      ·exact⟨by show(0:Int)≤(p:Int);omega,by show(p:Int)<_;omega⟩
      ·exact hn t h
     ·exact ih
    ·exact ih
   ·exact ih
  ·exact ih
theorem QF{A:Nat→Dv}(h:∀j,Zt P.length (A j).l)(i:Nat):∀t,Zt P.length (JG P rs d w A i t).l
 |0=>h i
 |t+1=>QE _ _ (h _) (QF h i t) _
theorem JH:∀m j,Zt P.length (F2 P rs d w m j).l
 |0,j=>by show Zt _ (put _ _ _ j).l;unfold put;split<;>simp[Zt,dz]
 |m+1,j=>by
  show Zt _ (put _ _ _ j).l;unfold put;split
  ·exact QF (JH m) _ _
  ·exact JH m j
end
section
variable {T:ak} {N:ab} {q:gy} {l:List bp}
structure To(N:ab)(l:List bp)(f:Fact):Prop where
 ok:f.Ok
 kind:1≤f.kind∧f.kind≤8
 wJ:∃x,0≤f.wJ∧l[f.wJ.toNat]?=some x∧oK N x f=true
theorem To.text{f:Fact}(h:To N l f)(hv:uE N):(Ik N l f).2=0:=by obtain⟨x,h0,hx,hb⟩:=h.wJ;have:=(By.1 hx).1;unfold Ik;rw[IS (by simp[hv.res]),IS (by have:=h.kind;omega),IS (by omega),hx];simp only;rw[AI hb]
theorem JI{x:Int}(h1: -9223372036854775808≤x)(h2:x≤9223372036854775807):eP x:=by have:=rP x;rwa[aY h1 h2]at this
theorem Ei{n:Nat}(h:n≤maxLen):eP (n:Int):=by have:maxLen=9223372036854775807:=rfl;exact JI (by omega) (by omega)
theorem afu(o:Option Nat)(h:∀k,o=some k→k≤maxLen):eP (Wg o):=by
 cases o with
 |none=>rfl
 |some k=>exact Ei (h k rfl)
theorem ab4(hN:N.bj.length≤maxLen)(a b:bp)(st:Bool):eP (Wg (lkI N a b st)):=afu _ fun k hk=>by have:=akS.1 (amA hk);omega
theorem CC{i:Int}{s:Stop}(hs:N.stops[i.toNat]?=some s)(h0:0≤i):(decide (i≥0)&&decide (i<(N.stops.length:Int)))=true:=by have:=(By.1 hs).1;simp only[No,AT];omega
theorem Tp(r:dL):eP (zi T r):=by
 have h:0≤zi T r∧zi T r≤5:=by
  unfold zi;split
  ·split
   ·unfold zj;split
    ·omega
    ·split
     ·omega
     ·split
      ·unfold F3;grind
      ·omega
   ·omega
  ·omega
 exact JI (by omega) (by omega)
theorem F4{r:dL}{s:Int}(h:lO T r=some s):eP s:=by
 have: -1≤s∧s≤172800:=by
  unfold lO at h;split at h
  ·cases h;omega
  ·split at h
   ·cases h
   ·split at h
    ·cases h
    ·split at h
     ·split at h
      ·split at h
       ·split at h
        ·cases h
        ·have:=instI_range _ _ _ (aeB h);omega
       ·split at h
        ·cases h;omega
        ·cases h
      ·cases h
     ·cases h
 exact JI (by omega) (by omega)
theorem aaJ(L:List aQ)(r:dL)(b:Int):eP (FT L r b):=by
 unfold FT;split
 ·split
  ·exact rP _
  ·rfl
 ·rfl
theorem Wv(h:Nh N q l)(hl:∀x∈l,x.Ok)(i:Nat)(hi:i<l.length):∀f∈lgF T N q l i,To N l f:=by
 intro f hf;have hx:l[i]?=some l[i]:=cN hi;have tt:=hl l[i] (aki hi);obtain⟨⟨s1,a1,a2,a3⟩,⟨s2,b1,b2,b3⟩,he,_⟩:=sD (h.FU.wJ i hi);have hch:=(h.val.stop s1 a3).2.2;have hli:eP (i:Int):=Ei (by have:=h.few;have:maxLen=9223372036854775807:=rfl;omega);have hcI:eP (Bv N l[i].src):=by rw[FW a1];exact JI (by omega) (by omega)
 have Jt:∀g:Fact,g.wJ=(i:Int)→oK N l[i] g=true→∃x,0≤g.wJ∧l[g.wJ.toNat]?=some x∧oK N x g=true:=fun g hg hb=>⟨l[i],by omega,by rw[hg];exact hx,hb⟩;have hnl:N.bj.length≤maxLen:=h.val.ok.bj.1;unfold lgF at hf;rw[hx]at hf;simp only at hf;unfold JB at hf;split at hf
 ·rename_i hr;split at hf
  ·rename_i r hrn;split at hf
   ·rename_i s hs;have Ku:l[i].run≥0∧N.runs[l[i].run.toNat]?=some r:=by
     unfold vb at hrn;split at hrn
     ·rename_i h0;exact⟨h0,hrn⟩
     ·cases hrn
    have VN:=h.val.ok.runs.2 r (aeB Ku.2);have hlen:=(By.1 Ku.2).1;unfold Ic at hf;simp only[aku,ake,alk,amL]at hf;rcases hf with(rfl|rfl)|hf|hf|hf
    ·refine⟨⟨rfl,hli,Tp r,F4 hs,VN.bO⟩,by simp,Jt _ rfl ?_⟩;unfold oK;simp[hr];omega
    ·exact⟨⟨rfl,hli,tt.dep,tt.arr,aaJ _ _ _⟩,by simp,Jt _ rfl (by simp[oK])⟩
    ·cases i with
     |zero=>cases hf
     |succ j=>
      rw[joF]at hf;split at hf
      ·cases hf
      ·split at hf
       ·split at hf
        ·simp only[alb]at hf;subst hf;exact⟨⟨rfl,hli,ab4 hnl _ _ _,rfl,rP _⟩,by simp,Jt _ rfl (by simp[oK])⟩
        ·split at hf
         ·simp only[alb]at hf;subst hf;exact⟨⟨rfl,hli,tt.src,rP _,hcI⟩,by simp,Jt _ rfl (by simp only[oK];exact CC a1 a2)⟩
         ·simp only[alb]at hf;subst hf;exact⟨⟨rfl,hli,ab4 hnl _ _ _,rfl,rP _⟩,by simp,Jt _ rfl (by simp[oK])⟩
       ·cases hf
    ·unfold boF at hf;split at hf
     ·cases hf
     ·simp only[alb]at hf;subst hf;exact⟨⟨rfl,hli,tt.src,tt.dY,rfl⟩,by simp,Jt _ rfl (by simp only[oK];exact CC a1 a2)⟩
    ·unfold LL at hf;split at hf
     ·cases hf
     ·simp only[alb]at hf;subst hf;exact⟨⟨rfl,hli,tt.dst,tt.bQ,rfl⟩,by simp,Jt _ rfl (by simp only[oK];exact CC b1 b2)⟩
   ·cases hf
  ·cases hf
 ·unfold Ie at hf;split at hf
  ·rename_i k hk;have DT:=akS.1 (amA hk);split at hf
   ·rename_i p hp;simp only[alb]at hf;subst hf;have hpo:=h.val.ok.paths.2 p (aeB hp);have:=h.val.paths;exact⟨⟨rfl,hli,Ei (by have:maxLen=9223372036854775807:=rfl;omega),hpo.jD,by show eP (if _ then _ else _);split<;>rfl⟩,by simp,Jt _ rfl (by simp[oK])⟩
   ·cases hf
  ·cases hf
theorem Tr(h:Nh N q l)(hl:∀x∈l,x.Ok)(n:Nat)(hn:n≤l.length):∀f∈Bz T N q l n,To N l f:=by intro f hf;obtain⟨i,hi,hf⟩:=al1.1 hf;have:=akS.1 hi;exact Wv h hl i (by omega) f hf
theorem Ts(adl:l.length≤12)(t:oG)(ht:t.Ok)(hp:0≤t.prod∧t.prod<(N.aP.length:Int))(qk:0≤t.fst∧t.fst<((Ig l l.length).length:Int)):To N l (vc l t):=by
 have bZ:t.fst.toNat<(Ig l l.length).length:=by omega
 have hb:(Ig l l.length)[t.fst.toNat]?=some (Ig l l.length)[t.fst.toNat]:=cN bZ;have hm:(Ig l l.length)[t.fst.toNat]<l.length:=akS.1 (alF.1 (show(Ig l l.length)[t.fst.toNat]∈(List.range l.length).filter _ from aki bZ)).1;have he:LM l t.fst=((Ig l l.length)[t.fst.toNat]:Nat):=by unfold LM;rw[hb]
 refine⟨⟨rfl,?_,ht.prod,ht.jU,ht.lst⟩,by simp[vc],l[(Ig l l.length)[t.fst.toNat]],?_,?_,?_⟩
 ·show eP (LM l t.fst);rw[he];exact Ei (by have:maxLen=9223372036854775807:=rfl;omega)
 ·show 0≤LM l t.fst;rw[he];omega
 ·show l[(LM l t.fst).toNat]?=_;rw[he];exact cN hm
 ·have e:∀x,oK N x (vc l t)=(decide (t.prod≥0)&&decide (t.prod<(N.aP.length:Int))):=fun x=>rfl;rw[e,No,AT,AT];exact hp
theorem OG{O:AW}(hN:N.Ok)(hp:N.paths.length≤4096)(hO:O.Ok)(Ii:O.cp.length≤12):∀f∈(nG T N q O).1,f.Ok∧(Ik N O.cp f).2=0:=by
 intro f hf;unfold nG at hf;split at hf
 ·cases hf
 ·split at hf
  ·cases hf
  ·split at hf
   ·cases hf
   ·split at hf
    ·cases hf
    ·rename_i h1 h2 h3 h4;have ZW:(nH N q O.cp).2=0:=by simpa using h2
     obtain⟨hJ,K7⟩:=Oi (q:=q) hN (by omega) Ii ZW;have h3':okB N q O=true:=by simpa using h3
     have Uz:(jV N O.cp).l=O.oS:=by unfold okB at h3';simp only[No,AT]at h3';exact h3'.2
     have hti:=(Om K7).2;have hpr:Zt N.aP.length (jV N O.cp).l:=JH _ _;rw[Uz]at hti hpr;have:To N O.cp f:=by
      rcases aku.1 hf with hf|hf
      ·exact Tr hJ hO.cp.2 _ (akk _) f hf
      ·obtain⟨t,ht,rfl⟩:=akt.1 hf;exact Ts Ii t (hO.oS.2 t ht) (hpr t ht) (hti t ht)
     exact⟨this.ok,this.text hJ.val⟩
end
theorem OH(T:ak)(N:ab)(q:gy)(O:AW)(a b:Int):gA [F5 T N q O,.int .i64 a,.int .i64 b]=((l5 [T.pv,N.pv,O.pv]).bind fun r42=>(Ab.asBool r42).bind fun b43=>if b43=true then(bt []).bind fun r44=>(Ab.asBool r44).bind fun b45=>some (PV.bool b45)else(dq [T.pv,N.pv,q.pv,O.pv]).bind fun r46=>(dn 2 r46).bind fun afv=>(aw 5 (afv.getD 0 PV.bad)).bind fun aaK=>(Ab.asInt .i64 (afv.getD 1 PV.bad)).bind fun n49=>
  if(n49 !=0)=true then(bif (aaK.length:Int)==0 then(bx [T.pv,N.pv,q.pv,O.pv,.rs 5 aaK]).bind fun r50=>(Ab.asBool r50).bind fun b51=>some !b51 else some false).bind fun r52=>(bif r52 then(bt []).bind fun r53=>(Ab.asBool r53).bind fun b54=>some b54 else some false).bind fun r55=>some (PV.bool r55)
  else(bx [T.pv,N.pv,q.pv,O.pv,.rs 5 aaK]).bind fun r56=>(Ab.asBool r56).bind fun b57=>if(!b57)=true then some (PV.bool false)else bk.run (eg bk) (a,b,aaK,0,rT T (rN N q (rO O ())))):=by
 kernel_rfl
theorem adn{n b:Int}(hn:eP n)(hb:eP b)(h0:b≠0):IntKind.i64.wrap (↑(BitVec.ofInt IntKind.i64.bits n^^^BitVec.ofInt IntKind.i64.bits b).toNat:Int)≠n:=by
 have hn:=pY hn;have hb:=pY hb;intro h;have e:∀z,IntKind.i64.wrap z=(z+9223372036854775808)%18446744073709551616-9223372036854775808:=fun z=>by simp only[IntKind.wrap,IntKind.signed,IntKind.bits];simp;split<;>omega
 have afw:IntKind.i64.bits=64:=rfl;rw[afw,e]at h;have hz:=(BitVec.ofInt 64 n^^^BitVec.ofInt 64 b).isLt;have hx:(BitVec.ofInt 64 n).toNat=(n%18446744073709551616).toNat:=by rw[amu];rfl
 have hy:(BitVec.ofInt 64 b).toNat=(b%18446744073709551616).toNat:=by rw[amu];rfl
 have h1:BitVec.ofInt 64 n^^^BitVec.ofInt 64 b=BitVec.ofInt 64 n:=BitVec.eq_of_toNat_eq (by omega);have h2:BitVec.ofInt 64 b=0#64:=by have:=congrArg (fun v=>BitVec.ofInt 64 n^^^v) h1;simpa[←BitVec.xor_assoc]using this
 rw[h2]at hy;have:(0#64).toNat=0:=rfl;omega
section
variable {T:ak} {N:ab} {q:gy} {O:AW}
theorem OI(hT:T.Ok)(hF:Jx T)(hN:N.Ok)(hp:N.paths.length≤4096)(hO:O.Ok)(Ii:O.cp.length≤12)(he:bt []=some (.bool true))(a b:Int)(ha:eP a)(hb:eP b):bk.run (eg bk) (a,b,(nG T N q O).1.map Fact.pv,0,rT T (rN N q (rO O ())))=some (.bool true):=by
 have Ww:=OG (T:=T) (q:=q) hN hp hO Ii;have Wx:=LP (q:=q) hT hF hN hp hO Ii;have adl:=Ij (T:=T) (q:=q) hN hp Ii;have hmx:maxLen=9223372036854775807:=rfl;generalize (nG T N q O).1=l at Ww Wx adl⊢;have ar:=pY ha;refine ba (fun k=>(a,b,l.map Fact.pv,(k:Int),rT T (rN N q (rO O ())))) l.length (fun k hk rec=>?_) (fun rec=>?_) (by unfold rounds;omega) rfl
 ·unfold eg rT rN rO;dsimp only;have hf:=Ww l[k] (aki hk);have ht:=Tu (O:=O) hN hp (by omega) hf.1;have e5:PV.agg [cell l[k].pv 0,cell l[k].pv 1,cell l[k].pv 2,cell l[k].pv 3,cell l[k].pv 4]=l[k].pv:=rfl;rw[AI (by simp;omega),bS Fact.pv l k hk,aj (by omega)];simp only[U,DX,adm,e5,ht,t2,ajc,aka,Jy,aI,hf.2];rw[IS (by simp)]
 ·unfold eg rT rN rO;dsimp only;rw[IS (by simp)];simp only[BY,bf,U];by_cases hx:(decide (a<0)||decide (a≥(l.length:Int))||(b==0))=true
  ·rw[AI hx,he];rfl
  ·rw[IS hx];simp only[akp,AT,ana,beq_iff_eq]at hx;obtain⟨j,rfl⟩:=alK (show 0≤a by omega);have hj:j<l.length:=by omega
   have s1:([]++List.drop (Int.toNat 0) (List.take ((j:Int)).toNat (l.map Fact.pv)))=(l.take j).map Fact.pv:=by simp
   have s2:List.drop (IntKind.i64.wrap ((j:Int)+1)).toNat (List.take ((l.length:Int)).toNat (l.map Fact.pv))=(l.drop (j+1)).map Fact.pv:=by rw[aj (by omega),akc,akc,akE (by simp),amJ]
   have s3:([]++l.map Fact.pv)=l.map Fact.pv:=rfl;have qk:an (j:Int) (l.map Fact.pv).length:=by unfold an;rw[BY];omega
   have S3:(l.map Fact.pv)[((j:Int)).toNat]?=some l[j].pv:=by rw[akc,IT,cN hj];rfl
   have hrb:∀n:Nat,n≤100000→n*40≤ae∧0<40:=fun n h=>⟨by unfold ae;omega,by decide⟩;rw[AI ⟨Int.le_refl 0,by omega,by omega,trivial,by decide⟩,AI ⟨by rw[aj (by omega)];omega,by rw[aj (by omega)];omega,Int.le_refl _,trivial,by decide⟩];simp only[s1,s2,s3];rw[AI (hrb _ (by rw[BY,akI];omega)),AI (hrb _ (by rw[ako,BY,BY,akI,alO];omega)),AI (hrb _ (by rw[BY];omega)),AI qk,S3];have qY:(l.map Fact.pv).set ((j:Int)).toNat (PV.agg (cell l[j].pv 0::cell l[j].pv 1::cell l[j].pv 2::PV.int .i64 (IntKind.i64.wrap (↑(BitVec.ofInt IntKind.i64.bits l[j].b^^^BitVec.ofInt IntKind.i64.bits b).toNat:Int))::over [] [cell l[j].pv 4]))=(l.set j {l[j]with b:=IntKind.i64.wrap (↑(BitVec.ofInt IntKind.i64.bits l[j].b^^^BitVec.ofInt IntKind.i64.bits b).toNat:Int)}).map Fact.pv:=by rw[akc,anh];rfl
   have afx:decide (l=l.take j++l.drop (j+1))=false:=by rw[akx];intro h;have:=congrArg List.length h;rw[ako,akI,alO]at this;omega
   have DU:decide (l=l.set j {l[j]with b:=IntKind.i64.wrap (↑(BitVec.ofInt IntKind.i64.bits l[j].b^^^BitVec.ofInt IntKind.i64.bits b).toNat:Int)})=false:=by rw[akx];intro h;have h1:=congrArg (fun m=>(m[j]?).map Fact.b) h;simp only[List.getElem?_set_self hj,cN hj,akb,cO]at h1;exact adn (Ww _ (aki hj)).1.b hb hx.2 h1.symm
   simp only[U,LQ,qY];rw[AI qk];simp only[U,←akZ,ttE,DX,Ws,adm,Wx,afx,DU,am4,aB,akz,cond_true,he]
end
theorem Tv(T:ak)(N:ab)(q:gy)(O:AW)(a b:Int)(hT:T.Ok)(hN:N.Ok)(hq:q.Ok)(hO:O.Ok)(ha:eP a)(hb:eP b):gA [F5 T N q O,.int .i64 a,.int .i64 b]=some (.bool true):=by
 rw[OH,LR];obtain⟨v,hv,hl⟩:=OE T N O hN;rw[hv];cases v with
 |true=>rfl
 |false=>
  obtain⟨hF,hp,Ii⟩:=hl rfl;have Wx:=LP (q:=q) hT hF hN (by omega) hO Ii;rw[F1 (q:=q) hT hF hN (by omega) hO Ii];unfold JF;simp only[U,aB,t2,ajc,aka,aS,aI,cQ,abp];by_cases h0:(nG T N q O).2=0
  ·rw[IS (by simp[h0]),Wx,h0];simp only[U,aB,akv,Bool.and_self,akf,cQ,abp];exact OI hT hF hN (by omega) hO Ii LR a b ha hb
  ·have Vk:(nG T N q O).1=[]:=by unfold nG at h0⊢;grind
   rw[AI (by simpa using h0),Wx,Vk];simp[U,aB,h0]
end Go.Ab.Tt
