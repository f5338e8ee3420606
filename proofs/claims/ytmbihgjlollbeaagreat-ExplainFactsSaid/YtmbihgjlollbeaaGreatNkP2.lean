import Derived.Test.YtmbihgjlollbeaaGreatNkP1
import Derived.Test.YtmbihgjlollbeaaGreatNwP2
namespace Go.Ab.Tt
set_option maxRecDepth 100000
set_option linter.all false
def bH(x:Path):Int×Int×Bool:=(x.a,x.b,x.free)
def IF(x:Int×Int×Bool):PV:=.agg [.int .i64 x.1,.int .i64 x.2.1,.bool x.2.2]
theorem Sz(a b:Int×Int×Bool):cz (IF a).cells (IF b).cells=decide (a=b):=by obtain⟨a1,a2,a3⟩:=a;obtain⟨b1,b2,b3⟩:=b;rw[asL];simp[IF,PV.cells,cz,peq]
def da(l:List Path)(n:Int)(k:Nat):Int:=match l[k]? with
 |none=>0
 |some x=>if(decide (x.a<0)||decide (x.a≥n)||decide (x.b<0)||decide (x.b≥n)||decide (x.a=x.b))=true then 9 else if(decide (x.fq<1)||decide (x.fq>14400))=true then 2 else if bH x∈(l.map bH).take k then 6 else 0
theorem Mn(l:List Path)(n:Int)(hl:l.length≤maxLen):jU [.rs 4 (l.map Path.pv),.int .i64 n]=some (res (bV (da l n) l.length).1 (bV (da l n) l.length).2):=by
 have hm:=ai;simp only[jU,xd,ao,asInt,BY,U,AI];rw[←cW];refine aC (fun k=>(n,l.map Path.pv,(l.length:Int),(k:Int),seen IF ((l.map bH).take k),())) l.length _ (fun k hk rec=>?_) (fun rec=>?_) ?_ rfl
 ·have h1:(k:Int)<(l.length:Int):=by omega
  have oK:dI (.agg [.int .i64 l[k].a,.int .i64 l[k].b,.bool l[k].free]) (.bool true) (seen IF ((l.map bH).take k))=_:=fV Sz (bH l[k]) ((l.map bH).take k);have mA:cB (.agg [.int .i64 l[k].a,.int .i64 l[k].b,.bool l[k].free]) (.bool false) (seen IF ((l.map bH).take k))=_:=eX Sz (bH l[k]) ((l.map bH).take k);simp only[qK,cT,h1,BY,ag,AT,cN hk,No,U,Hi,Hj,L4,Hk,asInt,asBool,oK,mA,bX,ab (show k<9223372036854775807 by omega),kT bH l k hk];unfold da;rw[cN hk];simp only;by_cases bB:bH l[k]∈(l.map bH).take k
  ·simp only[bB,BY];by_cases e1:l[k].a<0<;>by_cases e2:l[k].a≥n<;>by_cases e3:l[k].b<0<;>by_cases e4:l[k].b≥n<;>by_cases e5:l[k].a=l[k].b<;>by_cases e6:l[k].fq<1<;>by_cases e7:l[k].fq>14400<;>simp only[e1,e2,e3,e4,e5,e6,e7,asq,ass,au7,avn,as4,BY,IS,cQ]<;>rfl
  ·simp only[bB,IS,cQ];by_cases e1:l[k].a<0<;>by_cases e2:l[k].a≥n<;>by_cases e3:l[k].b<0<;>by_cases e4:l[k].b≥n<;>by_cases e5:l[k].a=l[k].b<;>by_cases e6:l[k].fq<1<;>by_cases e7:l[k].fq>14400<;>simp only[e1,e2,e3,e4,e5,e6,e7,asq,ass,au7,avn,as4,BY,IS,cQ]<;>rfl
 ·simp only[qK,cT,asf,IS];rfl
 ·have:=aw;omega
def toFp(p:Path):Nw.Fp:=⟨p.a.toNat,p.b.toNat,p.fq.toNat,p.free⟩
def Sound(l:List Path)(n:Nat):Prop:=∀p∈l,0≤p.a∧p.a<n∧0≤p.b∧p.b<n∧1≤p.fq∧p.fq≤14400
variable{l:List Path}{n:Nat}
theorem SA(h:(bV (da l n) l.length).2=0):Sound l n:=by intro p hp;obtain⟨k,hk,rfl⟩:=atn hp;have h0:=(sb _ _).1 h k hk;unfold da at h0;grind
theorem toFp_pv{p:Path}(h1:0≤p.a)(h2:0≤p.b)(h3:1≤p.fq):(toFp p).pv=p.pv:=by grind [toFp,Nw.Fp.pv,Path.pv,Int.toNat_of_nonneg]
theorem adU(h:Sound l n):(l.map toFp).map Nw.Fp.pv=l.map Path.pv:=by rw[atU];apply asD;intro p hp;exact toFp_pv (h p hp).1 (h p hp).2.2.1 (h p hp).2.2.2.2.1
def Xj(e:List PV):Path:=match e with|[.int .i64 a,.int .i64 b,.int .i64 s,.bool f]=>⟨a,b,s,f⟩|_=>⟨0,0,0,false⟩
theorem Mo:∀(L:List (List PV)),(∀e∈L,Nw.IsF e)→fp L=(L.map Xj).map Path.pv
 |[],_=>rfl
 |e::L,h=>by obtain⟨i,k,s,b,rfl⟩:=h e (by simp);have:=Mo L fun x hx=>h x (by simp[hx]);unfold fp at this⊢;rw[asn,asn,asn,this];rfl
def mB(l:List Path)(n:Nat):List Path:=(Nw.Nt n (Nw.Ay n (l.map toFp) false) (Nw.Ay n (l.map toFp) true)).map Xj
theorem OO(hn:n≤64)(hl:l.length≤4096)(h:Sound l n):gH [.rs 4 (l.map Path.pv),.int .i64 n]=some (.rs 4 ((mB l n).map Path.pv))∧jV [.rs 4 (l.map Path.pv),.int .i64 n]=some (.rs 4 ((mB l n).map Path.pv)):=by have:=Nw.Vo (l.map toFp) n hn (by simpa using hl) (fun p hp=>by obtain⟨q,hq,rfl⟩:=asx.1 hp;have:=h q hq;simp only[toFp];omega);rw[adU h,Mo _ (Nw.SB n _ _)]at this;exact this
theorem SC(l:List Path)(n:Nat)(hn:n≤64):(mB l n).length≤8192:=by
 have h1:(mB l n).length=(fp (Nw.Nt n (Nw.Ay n (l.map toFp) false) (Nw.Ay n (l.map toFp) true))).length:=by simp[mB,fp]
 rw[h1,Nw.IG];have h2:=Nw.Ht (it:=fun i k=>Nw.J0 (Nw.Ay n (l.map toFp) false i k) (Nw.Ay n (l.map toFp) true i k) i k) (fun i k=>Nw.P9 _ _ i k) n n;have h3:2*n*n≤2*64*64:=aue (atw 2 hn) hn;omega
theorem SD(x y:Path):cz [cell x.pv 0,cell x.pv 1,cell x.pv 2,cell x.pv 3] [cell y.pv 0,cell y.pv 1,cell y.pv 2,cell y.pv 3]=decide (x=y):=by rw[asL];obtain⟨a,b,c,d⟩:=x;obtain⟨a',b',c',d'⟩:=y;simp[Hi,Hj,L4,Hk,cz,peq]
theorem Hu(x:Path):mI (Kd.int IntKind.i64::[].append (Kd.int IntKind.i64::[].append (Kd.int IntKind.i64::[].append (Kd.bool::[].append [])))) [cell x.pv 0,cell x.pv 1,cell x.pv 2,cell x.pv 3]=true:=rfl
def vp(l:List Path)(n:Nat):Bool:=decide (mB l n=l)
theorem SE(hn:n≤64)(hl:l.length≤4096)(h:(bV (da l n) l.length).2=0):jg [.rs 4 (l.map Path.pv),.int .i64 n]=some (.bool (vp l n)):=by
 have hm:4096≤maxLen:=by decide
 have hs:=Mn l n (by omega);have hf:=aaZ _ _ h;rw[h,hf]at hs;have hc:=(OO hn hl (SA h)).1;have AN:=SC l n hn;have j4:¬decide ((n:Int)>64)=true:=by simp;omega
 have h0:¬(0:Int)>(n:Int):=by omega
 simp only[jg,qL,ao,asInt,BY,U];rw[IT j4,hs];simp only[res,cg,aqP,ase,Nat.reduceAdd,BY,U,abm,ahH,asInt,IT h0,hc,ao,AI];rw[IT (by simp)];unfold vp;by_cases hlen:(mB l n).length=l.length
 ·rw[IT (by simp[eC,hlen])];have hr:=Xi (mB l n) l hlen (some (PV.bool false)) (some (PV.bool true));have:some (PV.bool (decide (mB l n=l)))=if mB l n=l then some (PV.bool true)else some (PV.bool false):=by grind
  rw[this,←hr];refine aC (fun k=>(l.map Path.pv,(mB l n).map Path.pv,((mB l n).length:Int),(k:Int),())) (mB l n).length _ (fun k hk rec=>?_) (fun rec=>?_) ?_ rfl
  ·have h1:decide ((k:Int)<((mB l n).length:Int))=true:=by simp;omega
   have sD:k<l.length:=by omega
   unfold mC;dsimp only;rw[IN h1,ag,AT,cN hk,ag,AT,cN sD];simp only[No,U];rw[IN ⟨Hu _,Hu _⟩,SD,ab (by omega)];grind [mB,bK]
  ·simp[mC,IT]
  ·have:=aw;omega
 ·rw[IN (by simp[eC];omega)];rw[atq (fun hc=>hlen (by rw[hc]))]
def dy(l:List Path)(n:Nat):Int×Int:=if(bV (da l n) l.length).2=0 then(if vp l n=true then(0,0)else(0,18))else bV (da l n) l.length
def zC(x:Int×Int×Bool):PV:=.agg [.int .i64 x.1,.int .i64 x.2.1,.int .i64 0,.bool x.2.2]
theorem ani(a b:Int×Int×Bool):cz (zC a).cells (zC b).cells=decide (a=b):=by obtain⟨a1,a2,a3⟩:=a;obtain⟨b1,b2,b3⟩:=b;rw[asL];simp[zC,PV.cells,cz,peq]
theorem JH(N:an)(l:List Path)(n:Nat)(hl:l.length≤4096)(hlen:(N.stops.map Stop.pv).length=n)(k:Nat)(hk:k<l.length)(rec:aht→Option PV):cS (l.map Path.pv,(l.length:Int),(k:Int),N.stops.map Stop.pv,N.aj.map ax.pv,N.runs.map cy.pv,N.aH.map bq.pv,l.map Path.pv,N.aK.map aM.pv,N.bn,N.within,N.cap,0,0,0,seen zC ((l.map bH).take k),()) rec=bK (if da l n k=0 then none else some (some (r3 4 k (da l n k)))) (rec (l.map Path.pv,(l.length:Int),((k+1:Nat):Int),N.stops.map Stop.pv,N.aj.map ax.pv,N.runs.map cy.pv,N.aH.map bq.pv,l.map Path.pv,N.aK.map aM.pv,N.bn,N.within,N.cap,0,0,0,seen zC ((l.map bH).take (k+1)),())):=by
 have h1:decide ((k:Int)<(l.length:Int))=true:=by simp;omega
 have oK:dI (.agg [.int .i64 l[k].a,.int .i64 l[k].b,.int .i64 0,.bool l[k].free]) (.bool true) (seen zC ((l.map bH).take k))=_:=fV ani (bH l[k]) ((l.map bH).take k);have mA:cB (.agg [.int .i64 l[k].a,.int .i64 l[k].b,.int .i64 0,.bool l[k].free]) (.bool false) (seen zC ((l.map bH).take k))=_:=eX ani (bH l[k]) ((l.map bH).take k);unfold cS;dsimp only;rw[IN h1,ag,AT,cN hk,hlen];simp only[No,U,Hi,Hj,L4,Hk,asInt,asBool,BY,Gd,ay,bX,oK,mA,Sy,r3A,r30,r31,r32,kT bH l k hk,ab (show k<9223372036854775807 by omega)];have hA:(!(decide (l[k].a≥0)&&decide (l[k].a<(n:Int)))|| !(decide (l[k].b≥0)&&decide (l[k].b<(n:Int)))||decide (l[k].a=l[k].b))=(decide (l[k].a<0)||decide (l[k].a≥(n:Int))||decide (l[k].b<0)||decide (l[k].b≥(n:Int))||decide (l[k].a=l[k].b)):=by grind
 rw[hA];unfold da;rw[cN hk];simp only;generalize (decide (l[k].a<0)||decide (l[k].a≥(n:Int))||decide (l[k].b<0)||decide (l[k].b≥(n:Int))||decide (l[k].a=l[k].b))=A;generalize (decide (l[k].fq<1)||decide (l[k].fq>14400))=B;by_cases bB:bH l[k]∈(l.map bH).take k
 ·simp only[bB,BY];cases A<;>cases B<;>rfl
 ·simp only[bB,IS];cases A<;>cases B<;>rfl
theorem Nu(N:an)(hn:N.stops.length≤64)(hl:N.paths.length≤4096):dd [N.pv]=some (prt 4 (dy N.paths N.stops.length)):=by
 have hm:4096≤maxLen:=by decide
 simp only[dd,oQ,lj,ll,lq,lr,lu,lv,lx,ly,lz,lA,U,AI];generalize hl':N.paths=l at hl⊢;generalize hn':N.stops.length=n at hn⊢;have hlen:(N.stops.map Stop.pv).length=n:=by simpa using hn'
 have hg:=pt (da l n) l.length (fun i e=>r3 4 i e) (some (if vp l n=true then r3 0 0 0 else r3 4 0 18));have hR:some (prt 4 (dy l n))=if(bV (da l n) l.length).2=0 then some (if vp l n=true then r3 0 0 0 else r3 4 0 18)else some (r3 4 (bV (da l n) l.length).1 (bV (da l n) l.length).2):=by unfold dy prt;grind
 rw[hR,←hg];by_cases hz:(bV (da l n) l.length).2=0
 ·refine aC (fun k=>(l.map Path.pv,(l.length:Int),(k:Int),N.stops.map Stop.pv,N.aj.map ax.pv,N.runs.map cy.pv,N.aH.map bq.pv,l.map Path.pv,N.aK.map aM.pv,N.bn,N.within,N.cap,0,0,0,seen zC ((l.map bH).take k),())) l.length _ (fun k hk rec=>JH N l n hl hlen k hk rec) (fun rec=>?_) ?_ rfl
  ·unfold cS;dsimp only;rw[IT (by simp),hlen,SE hn hl hz];simp only[U,asBool,Sy,r3A,r30,r31,r32];cases vp l n<;>rfl
  ·have:=aw;omega
 ·have uJ:=aC (body:=cS) (fun k=>(l.map Path.pv,(l.length:Int),(k:Int),N.stops.map Stop.pv,N.aj.map ax.pv,N.runs.map cy.pv,N.aH.map bq.pv,l.map Path.pv,N.aK.map aM.pv,N.bn,N.within,N.cap,0,0,0,seen zC ((l.map bH).take k),())) l.length _ (fin:=cS (l.map Path.pv,(l.length:Int),(l.length:Int),N.stops.map Stop.pv,N.aj.map ax.pv,N.runs.map cy.pv,N.aH.map bq.pv,l.map Path.pv,N.aK.map aM.pv,N.bn,N.within,N.cap,0,0,0,seen zC ((l.map bH).take l.length),()) fun _=>none) (fun k hk rec=>JH N l n hl hlen k hk rec) (fun rec=>?_) (by have:=aw;omega) (s0:=(l.map Path.pv,(l.length:Int),0,N.stops.map Stop.pv,N.aj.map ax.pv,N.runs.map cy.pv,N.aH.map bq.pv,l.map Path.pv,N.aK.map aM.pv,N.bn,N.within,N.cap,0,0,0,[],())) rfl
  ·simp_all[pt,IT]
  simp[cS,IT]
theorem Qa(N:an)(l:List Path)(hl:l.length≤4096)(i:Nat)(hi:i<l.length)(jT:aa0→Option PV):ba.run (qM jT) ((i:Int),0,N.stops.map Stop.pv,N.aj.map ax.pv,N.runs.map cy.pv,N.aH.map bq.pv,l.map Path.pv,N.aK.map aM.pv,N.bn,N.within,N.cap,.int .i64 l[i].a,.int .i64 l[i].b,.int .i64 l[i].fq,.bool l[i].free,())=if bH l[i]∈(l.map bH).take i then some (res i 6)else jT (IntKind.i64.wrap ((i:Int)+1),N.stops.map Stop.pv,N.aj.map ax.pv,N.runs.map cy.pv,N.aH.map bq.pv,l.map Path.pv,N.aK.map aM.pv,N.bn,N.within,N.cap,()):=by
 have hm:4096≤maxLen:=by decide
 refine(dt (fun k=>((i:Int),(k:Int),N.stops.map Stop.pv,N.aj.map ax.pv,N.runs.map cy.pv,N.aH.map bq.pv,l.map Path.pv,N.aK.map aM.pv,N.bn,N.within,N.cap,PV.int .i64 l[i].a,PV.int .i64 l[i].b,PV.int .i64 l[i].fq,PV.bool l[i].free,())) i (fun k=>decide ((l.map bH)[k]?=some (bH l[i]))) (no:=some (res i 6)) (fin:=jT (IntKind.i64.wrap ((i:Int)+1),N.stops.map Stop.pv,N.aj.map ax.pv,N.runs.map cy.pv,N.aH.map bq.pv,l.map Path.pv,N.aK.map aM.pv,N.bn,N.within,N.cap,())) (fun k hk rec=>?_) (fun rec=>?_) ?_ rfl).trans ?_
 ·have h1:decide ((k:Int)<(i:Int))=true:=by simp;omega
  have sD:k<l.length:=by omega
  have hd:decide ((l.map bH)[k]?=some (bH l[i]))=(decide (l[k].a=l[i].a)&&decide (l[k].b=l[i].b)&&decide (l[k].free=l[i].free)):=by rw[asL];simp[cN sD,bH,auM]
  rw[hd];unfold qM;dsimp only;rw[IN h1,ag,AT,cN sD];simp only[No,U,Hi,Hj,Hk,asInt,asBool,BY,ab (show k<9223372036854775807 by omega),bX,aJ];rfl
 ·simp[qM,IT]
 ·have:=aw;omega
 ·rw[jf _ _ (by simp;omega)];simp_all
theorem aa1(N:an)(hn:N.stops.length≤64)(hl:N.paths.length≤4096):sX [N.pv]=some (res (dy N.paths N.stops.length).1 (dy N.paths N.stops.length).2):=by
 have hm:4096≤maxLen:=by decide
 simp only[sX,Dz,lj,ll,lq,lr,lu,lv,lx,ly,lz,lA,U];generalize hl':N.paths=l at hl⊢;generalize hn':N.stops.length=n at hn⊢;have hlen:(N.stops.map Stop.pv).length=n:=by simpa using hn'
 have hw:IntKind.i64.wrap ((n:Int)-1)=(n:Int)-1:=aZ (by omega) (by omega);have adV:∀k,(hk:k<l.length)→∀rec,gI ba ((k:Int),N.stops.map Stop.pv,N.aj.map ax.pv,N.runs.map cy.pv,N.aH.map bq.pv,l.map Path.pv,N.aK.map aM.pv,N.bn,N.within,N.cap,()) rec=bK (if da l n k=0 then none else some (some (res k (da l n k)))) (rec (((k+1:Nat):Int),N.stops.map Stop.pv,N.aj.map ax.pv,N.runs.map cy.pv,N.aH.map bq.pv,l.map Path.pv,N.aK.map aM.pv,N.bn,N.within,N.cap,())):=by
  intro k hk rec;have h1:decide ((k:Int)<((l.map Path.pv).length:Int))=true:=by simp;omega
  have kM:=Qa N l hl k hk rec;unfold gI;dsimp only;rw[IN h1,ag,AT,cN hk,hlen,hw];simp only[No,U,Hi,Hj,L4,Hk,asInt,asBool,BY,Mh,ay,bX,kM,ab (show k<9223372036854775807 by omega)];have hA:(!(decide (l[k].a≥0)&&decide (l[k].a≤(n:Int)-1))|| !(decide (l[k].b≥0)&&decide (l[k].b≤(n:Int)-1))||decide (l[k].a=l[k].b))=(decide (l[k].a<0)||decide (l[k].a≥(n:Int))||decide (l[k].b<0)||decide (l[k].b≥(n:Int))||decide (l[k].a=l[k].b)):=by grind
  have hB:(!(decide (l[k].fq≥1)&&decide (l[k].fq≤14400)))=(decide (l[k].fq<1)||decide (l[k].fq>14400)):=by grind
  rw[hA,hB];unfold da;rw[cN hk];simp only;generalize (decide (l[k].a<0)||decide (l[k].a≥(n:Int))||decide (l[k].b<0)||decide (l[k].b≥(n:Int))||decide (l[k].a=l[k].b))=A;generalize (decide (l[k].fq<1)||decide (l[k].fq>14400))=B;by_cases bB:bH l[k]∈(l.map bH).take k
  ·simp only[bB,BY];cases A<;>cases B<;>rfl
  ·simp only[bB,IS];cases A<;>cases B<;>rfl
 have hg:=pt (da l n) l.length (fun i e=>res i e) (some (if vp l n=true then res 0 0 else res 0 18));have hR:some (res (dy l n).1 (dy l n).2)=if(bV (da l n) l.length).2=0 then some (if vp l n=true then res 0 0 else res 0 18)else some (res (bV (da l n) l.length).1 (bV (da l n) l.length).2):=by unfold dy;grind
 rw[hR,←hg];by_cases hz:(bV (da l n) l.length).2=0
 ·refine aC (fun k=>((k:Int),N.stops.map Stop.pv,N.aj.map ax.pv,N.runs.map cy.pv,N.aH.map bq.pv,l.map Path.pv,N.aK.map aM.pv,N.bn,N.within,N.cap,())) l.length _ adV (fun rec=>?_) ?_ rfl
  ·have hc:=(OO hn hl (SA hz)).2;have AN:=SC l n hn;unfold gI;dsimp only;rw[IT (by simp),hlen,hc];simp only[U,ao,BY,AI];unfold vp;by_cases adW:(mB l n).length=l.length
   ·rw[IT (by simp[eC,adW])];have hr:=Xi (mB l n) l adW (some (res 0 18)) (some (res 0 0));have:some (if decide (mB l n=l)=true then res 0 0 else res 0 18)=if mB l n=l then some (res 0 0)else some (res 0 18):=by grind
    rw[this,←hr];refine aC (fun k=>((mB l n).map Path.pv,(k:Int),N.stops.map Stop.pv,N.aj.map ax.pv,N.runs.map cy.pv,N.aH.map bq.pv,l.map Path.pv,N.aK.map aM.pv,N.bn,N.within,N.cap,())) (mB l n).length _ (fun k hk rec=>?_) (fun rec=>?_) ?_ rfl
    ·have h1:decide ((k:Int)<(((mB l n).map Path.pv).length:Int))=true:=by simp;omega
     have sD:k<l.length:=by omega
     unfold xe;dsimp only;rw[IN h1,ag,AT,cN hk,ag,AT,cN sD];simp only[No,U];rw[IN ⟨Hu _,Hu _⟩,SD,ab (by omega)];grind [mB,bK,res]
    ·unfold xe;dsimp only;rw[IT (by simp)];rfl
    ·have:=aw;omega
   ·rw[IN (by simp[eC];omega)];rw[atq (fun hc=>adW (by rw[hc]))];rfl
  ·have:=aw;omega
 ·have uJ:=aC (body:=gI ba) (fun k=>((k:Int),N.stops.map Stop.pv,N.aj.map ax.pv,N.runs.map cy.pv,N.aH.map bq.pv,l.map Path.pv,N.aK.map aM.pv,N.bn,N.within,N.cap,())) l.length _ (fin:=gI ba ((l.length:Int),N.stops.map Stop.pv,N.aj.map ax.pv,N.runs.map cy.pv,N.aH.map bq.pv,l.map Path.pv,N.aK.map aM.pv,N.bn,N.within,N.cap,()) fun _=>none) adV (fun rec=>?_) (by have:=aw;omega) (s0:=(0,N.stops.map Stop.pv,N.aj.map ax.pv,N.runs.map cy.pv,N.aH.map bq.pv,l.map Path.pv,N.aK.map aM.pv,N.bn,N.within,N.cap,())) rfl
  ·simp_all[pt,IT]
  simp[gI,IT]
def iO(x:cy):Bytes×Int×Int:=(x.id,x.day,x.inst)
def SF(x:Bytes×Int×Int):PV:=.agg [.str x.1,.int .i64 x.2.1,.int .i64 x.2.2]
theorem adX(a b:Bytes×Int×Int):cz (SF a).cells (SF b).cells=decide (a=b):=by obtain⟨a1,a2,a3⟩:=a;obtain⟨b1,b2,b3⟩:=b;rw[asL];simp[SF,PV.cells,cz,peq]
def oP(l:List cy)(stops aj:Int)(k:Nat):Int:=match l[k]? with
 |none=>0
 |some x=>if eW x.id=false then 12 else if(decide (x.bD< -1)||decide (x.inst<0))=true then 2 else if(decide (x.day<0)||decide (x.day>36524))=true then 11 else if(decide (x.dF<0)||decide (x.dF≥aj))=true then 9 else if(gR x.calls stops 0 3155932800).2=0 then(if iO x∈(l.map iO).take k then 6 else 0)else(gR x.calls stops 0 3155932800).2
def yG(l:List cy)(stops aj:Int):Int×Int:=if l.length>1024 then(0,5)else bV (oP l stops aj) l.length
theorem Vp(N:an)(l:List cy)(hl:l.length≤maxLen∧∀y∈l,y.Ok)(k:Nat)(hk:k<l.length)(rec:aht→Option PV):iw (l.map cy.pv,(l.length:Int),(k:Int),N.stops.map Stop.pv,N.aj.map ax.pv,l.map cy.pv,N.aH.map bq.pv,N.paths.map Path.pv,N.aK.map aM.pv,N.bn,N.within,N.cap,0,0,0,seen SF ((l.map iO).take k),()) rec=bK (if oP l N.stops.length N.aj.length k=0 then none else some (some (r3 2 k (oP l N.stops.length N.aj.length k)))) (rec (l.map cy.pv,(l.length:Int),((k+1:Nat):Int),N.stops.map Stop.pv,N.aj.map ax.pv,l.map cy.pv,N.aH.map bq.pv,N.paths.map Path.pv,N.aK.map aM.pv,N.bn,N.within,N.cap,0,0,0,seen SF ((l.map iO).take (k+1)),())):=by
 have hm:=ai;have h1:decide ((k:Int)<(l.length:Int))=true:=by simp;omega
 have hO:=hl.2 _ (ar9 hk);have hid:=Ax l[k].id hO.id;have yz:=ON l[k].calls N.stops.length 0 3155932800 hO.calls.1;simp only[res]at yz;have oK:dI (.agg [.str l[k].id,.int .i64 l[k].day,.int .i64 l[k].inst]) (.bool true) (seen SF ((l.map iO).take k))=_:=fV adX (iO l[k]) ((l.map iO).take k);have mA:cB (.agg [.str l[k].id,.int .i64 l[k].day,.int .i64 l[k].inst]) (.bool false) (seen SF ((l.map iO).take k))=_:=eX adX (iO l[k]) ((l.map iO).take k);unfold iw;dsimp only;rw[IN h1,ag,AT,cN hk];simp only[No,U,pB,Uz,UA,UB,JX,CZ,aO,asInt,asBool,ao,BY,AI,hid,yz,cg,aqP,ase,Nat.reduceAdd,abm,ahH,ay,eC,oK,mA,Sy,r3A,r30,r31,r32,kT iO l k hk,ab (show k<9223372036854775807 by omega)];unfold oP;rw[cN hk];simp only;generalize (decide (l[k].bD< -1)||decide (l[k].inst<0))=A;generalize (decide (l[k].day<0)||decide (l[k].day>36524))=B;generalize (decide (l[k].dF<0)||decide (l[k].dF≥(N.aj.length:Int)))=C;generalize (gR l[k].calls N.stops.length 0 3155932800).2=e;cases eW l[k].id with
 |false=>rfl
 |true=>
  cases A with
  |true=>rfl
  |false=>
   cases B with
   |true=>rfl
   |false=>
    cases C with
    |true=>rfl
    |false=>
     simp only[aiI,cQ,asj,IS];by_cases he:e=0
     ·subst he;by_cases bB:iO l[k]∈(l.map iO).take k
      ·simp only[bB,BY,asq,aiI,cQ,IS];rfl
      ·simp only[bB,BY,asq,ass,aiI,cQ,IS];rfl
     ·simp only[he,IS,BY,ass,asr];rfl
theorem Qb(N:an)(hl:N.runs.length≤maxLen∧∀y∈N.runs,y.Ok):jh [N.pv]=some (prt 2 (yG N.runs N.stops.length N.aj.length)):=by
 have hm:=ai;simp only[jh,qN,lj,ll,lq,lr,lu,lv,lx,ly,lz,lA,U,AI];generalize hl':N.runs=l at hl⊢;unfold yG;by_cases j4:l.length>1024
 ·rw[IN (by simp;omega),IN j4];rfl
 ·rw[IT (by simp;omega),IT j4];have hR:some (prt 2 (bV (oP l N.stops.length N.aj.length) l.length))=if(bV (oP l N.stops.length N.aj.length) l.length).2=0 then some (r3 0 0 0)else some (r3 2 (bV (oP l N.stops.length N.aj.length) l.length).1 (bV (oP l N.stops.length N.aj.length) l.length).2):=by unfold prt;grind
  rw[hR,←pt (oP l N.stops.length N.aj.length) l.length (fun i e=>r3 2 i e)];refine aC (fun k=>(l.map cy.pv,(l.length:Int),(k:Int),N.stops.map Stop.pv,N.aj.map ax.pv,l.map cy.pv,N.aH.map bq.pv,N.paths.map Path.pv,N.aK.map aM.pv,N.bn,N.within,N.cap,0,0,0,seen SF ((l.map iO).take k),())) l.length _ (fun k hk rec=>Vp N l hl k hk rec) (fun rec=>?_) ?_ rfl
  ·unfold iw;dsimp only;rw[IT (by simp)];rfl
  ·have:=aw;omega
theorem Vq(N:an)(l:List cy)(hl:l.length≤maxLen)(i:Nat)(hi:i<l.length):ba.run vq ((i:Int),0,N.stops.map Stop.pv,N.aj.map ax.pv,l.map cy.pv,N.aH.map bq.pv,N.paths.map Path.pv,N.aK.map aM.pv,N.bn,N.within,N.cap,.int .i64 l[i].bD,.int .i64 l[i].day,.int .i64 l[i].inst,.str l[i].id,.int .i64 l[i].dF,.bool l[i].free,.bool l[i].aar,.rs 5 (l[i].calls.map aY.pv),())=if iO l[i]∈(l.map iO).take i then some (.int .i64 6)else some (.int .i64 0):=by
 have hm:=ai;refine(dt (fun k=>((i:Int),(k:Int),N.stops.map Stop.pv,N.aj.map ax.pv,l.map cy.pv,N.aH.map bq.pv,N.paths.map Path.pv,N.aK.map aM.pv,N.bn,N.within,N.cap,PV.int .i64 l[i].bD,PV.int .i64 l[i].day,PV.int .i64 l[i].inst,PV.str l[i].id,PV.int .i64 l[i].dF,PV.bool l[i].free,PV.bool l[i].aar,PV.rs 5 (l[i].calls.map aY.pv),())) i (fun k=>decide ((l.map iO)[k]?=some (iO l[i]))) (no:=some (.int .i64 6)) (fin:=some (.int .i64 0)) (fun k hk rec=>?_) (fun rec=>?_) ?_ rfl).trans ?_
 ·have h1:decide ((k:Int)<(i:Int))=true:=by simp;omega
  have sD:k<l.length:=by omega
  have hd:decide ((l.map iO)[k]?=some (iO l[i]))=(decide (l[k].id=l[i].id)&&decide (l[k].day=l[i].day)&&decide (l[k].inst=l[i].inst)):=by rw[asL];simp[cN sD,iO,auM]
  rw[hd];unfold vq;dsimp only;rw[IN h1,ag,AT,cN sD];simp only[No,U,Uz,UA,UB,asInt,aO,BY,ab (show k<9223372036854775807 by omega),bX,aJ]
 ·simp[vq,IT]
 ·have:=aw;omega
 ·rw[jf _ _ (by simp;omega)];simp_all
theorem ahu(N:an)(hl:N.runs.length≤maxLen∧∀y∈N.runs,y.Ok)(k:Nat)(hk:k<N.runs.length):yH [N.pv,.int .i64 k]=some (.int .i64 (oP N.runs N.stops.length N.aj.length k)):=by
 have hm:=ai;have hO:=hl.2 _ (ar9 hk);simp only[yH,IH,lj,ll,lq,lr,lu,lv,lx,ly,lz,lA,U];generalize hl':N.runs=l at hl hk hO⊢;have hO':l[k].Ok:=by omega
 have hid:=BC l[k].id hO'.id;have yz:=aaY l[k].calls N.stops.length 0 3155932800 hO'.calls.1;have kM:=Vq N l hl.1 k hk;simp only[asInt,BY,U,ag,AT,cN hk,No,pB,Uz,UA,UB,JX,UC,UD,CZ,aO,asBool,ao,AI,hid,yz,Mh,ay,eC,kM];unfold oP;grind
def nx(p:List bq)(v:Int):Option Int:=p.foldl (fun o x=>if(x.stay&&decide (x.a=v))=true then some x.b else o) none
theorem BF(p:List bq)(x:bq)(v:Int):nx (p++[x]) v=if(x.stay&&decide (x.a=v))=true then some x.b else nx p v:=by unfold nx;simp
def it(f:Int→Option Int):Nat→Int→Option Int
 |0,v=>some v
 |m+1,v=>(f v).bind (it f m)
theorem Xk(f:Int→Option Int)(m:Nat)(v:Int):it f (m+1) v=(it f m v).bind f:=by
 induction m generalizing v with
 |zero=>show(f v).bind (it f 0)=f v;cases h:f v<;>rfl
 |succ m ih=>
  show(f v).bind (it f (m+1))=((f v).bind (it f m)).bind f;cases h:f v with
  |none=>rfl
  |some w=>exact ih w
def zD(p:List bq)(a b:Int)(n:Nat):Bool:=(List.range n).any fun t=>decide (it (nx p) (t+1) a=some b)
def Ge(f:Int→Option Int):Prop:=∃r:Int→Nat,∀v w,f v=some w→r w<r v
theorem Vr:Ge (nx []):=⟨fun _=>0,fun v w h=>by cases h⟩
variable{p:List bq}
theorem adY{v w:Int}(h:nx p v=some w):∃x∈p,x.stay=true∧x.a=v∧x.b=w:=by
 have key:∀n,n≤p.length→nx (p.take n) v=some w→∃x∈p,x.stay=true∧x.a=v∧x.b=w:=by
  intro n;induction n with
  |zero=>intro _ h;cases h
  |succ n ih=>
   intro hn h;have hn':n<p.length:=by omega
   rw[asm hn',BF]at h;grind
 exact key p.length (aso _) (by simp_all)
theorem Vs{f:Int→Option Int}(hf:Ge f)(S:List Int)(hS:∀v w,f v=some w→v∈S):∀m v,it f m v≠none→m≤S.length:=by
 obtain⟨r,hr⟩:=hf;induction hn:S.length generalizing S f r with
 |zero=>
  intro m v h;cases m with
  |zero=>omega
  |succ m=>
   exfalso;cases hfv:f v with
   |none=>exact h (by show(f v).bind _=none;rw[hfv];rfl)
   |some w=>simp_all
 |succ n ih=>
  intro m v h;cases m with
  |zero=>omega
  |succ m=>
   cases hfv:f v with
   |none=>exact absurd (by show(f v).bind _=none;rw[hfv];rfl) h
   |some w=>
    have hvS:=hS v w hfv;let g:Int→Option Int:=fun x=>if x=v then none else f x;have hg:∀x y,g x=some y→r y<r x:=fun x y hxy=>by grind
    have hgS:∀x y,g x=some y→x∈S.erase v:=fun x y hxy=>by grind
    have hlen:(S.erase v).length=n:=by simp_all
    have aia:∀k x,r x<r v→it g k x=it f k x:=by
     intro k;induction k with
     |zero=>intros;rfl
     |succ k ihk=>
      intro x hx;have hxv:x≠v:=fun h=>by subst h;omega
      show(g x).bind (it g k)=(f x).bind (it f k);have:g x=f x:=by simp[g,hxv]
      rw[this];cases hfx:f x with
      |none=>rfl
      |some y=>grind
    have hw:it f m w≠none:=by simp_all[it]
    have:=ih (S.erase v) hgS r hg hlen m w (by simp_all);omega
theorem Qc(hp:Ge (nx p)){m:Nat}(hm:p.length<m)(v:Int):it (nx p) m v=none:=by
 cases h:it (nx p) m v with
 |none=>rfl
 |some w=>have:=Vs hp (p.map bq.a) (fun x y hxy=>by grind [adY]) m v (by simp_all);grind
theorem SG(hp:Ge (nx p))(x:bq)(h:x.stay=false∨(x.a≠x.b∧nx p x.a=none∧zD p x.b x.a (p.length+1)=false)):Ge (nx (p++[x])):=by
 cases hs:x.stay with
 |false=>obtain⟨r,hr⟩:=hp;refine⟨r,fun v w hvw=>hr v w ?_⟩;simp_all[BF,atO,IT]
 |true=>
  rw[hs]at h;rcases h with h|⟨Ak,hna,arP⟩
  ·cases h
  have Qy:=hp;obtain⟨r,hr⟩:=hp;have Ib:∀t,it (nx p) (t+1) x.b≠some x.a:=by grind [zD,List.any_eq_false,Qc]
  let R:Int→Prop:=fun v=>∃t,it (nx p) t v=some x.a;have hRb:¬R x.b:=fun⟨t,ht⟩=>by
   cases t with
   |zero=>simp_all[it]
   |succ t=>exact Ib t ht
  refine⟨fun v=>open Classical in if R v then r v+r x.b+1 else r v,fun v w hvw=>?_⟩;rw[BF,hs,asX]at hvw;by_cases hv:x.a=v
  ·rw[IN (by simpa using hv)]at hvw;simp only[cO]at hvw;subst hvw;have hRv:R v:=⟨0,by show some v=some x.a;rw[hv]⟩;grind
  ·rw[IT (by simpa using hv)]at hvw;have cd:=hr v w hvw;show(open Classical in if R w then r w+r x.b+1 else r w)<(open Classical in if R v then r v+r x.b+1 else r v);by_cases hw:R w
   ·have hRv:R v:=by obtain⟨t,ht⟩:=hw;exact⟨t+1,by simp_all[nx,it]⟩
    simp_all
   ·rw[IT hw];by_cases hRv:R v
    ·rw[IN hRv];omega
    simp_all
def yI(a:Int):PV:=.int .i64 a
def dO(x:bq):Int×Int×Int×Int:=(x.a,x.ac,x.b,x.bc)
def SH(x:Int×Int×Int×Int):PV:=.agg [.int .i64 x.1,.int .i64 x.2.1,.int .i64 x.2.2.1,.int .i64 x.2.2.2]
theorem adZ(a b:Int×Int×Int×Int):cz (SH a).cells (SH b).cells=decide (a=b):=by obtain⟨a1,a2,a3,a4⟩:=a;obtain⟨b1,b2,b3,b4⟩:=b;rw[asL];simp[SH,PV.cells,cz,peq]
def Fq(p:List bq):List (Int×PV):=p.foldl (fun m x=>if x.stay=true then C0 x.a (.int .i64 x.b) m else m) []
theorem Gf(p:List bq)(x:bq):Fq (p++[x])=if x.stay=true then C0 x.a (.int .i64 x.b) (Fq p)else Fq p:=by unfold Fq;simp
def aa2(a:Int)(m:List (Int×PV)):Bool:=m.any fun x=>decide (a=x.1)
theorem Xl(a:Int):∀m,yb (yI a) (rI yI m)=aa2 a m
 |[]=>rfl
 |(b,u)::r=>by have:=Xl a r;simp only[rI]at this;simp only[rI,asn,yb,aa2,at5];rw[this];have:cz (yI a).cells (yI b).cells=decide (a=b):=EG a b;rw[this];rfl
theorem SI(a b:Int)(v:PV):∀m,aa2 a (C0 b v m)=(decide (a=b)||aa2 a m)
 |[]=>by rfl
 |(c,u)::r=>by
  have:=SI a b v r;simp only[aa2]at this⊢;by_cases h:b=c
  ·subst h;simp[C0]
  ·simp only[C0,h,IS,at5,this];grind
theorem Mp{A:Type}{P:List A→Prop}(h0:P [])(h1:∀p x,P p→P (p++[x]))(l:List A):P l:=by
 have key:∀n,n≤l.length→P (l.take n):=by
  intro n;induction n with
  |zero=>simp_all
  |succ n ih=>grind [List.take_succ_eq_append_getElem]
 have:=key l.length (aso _);simp_all
theorem aa3(p:List bq)(v:Int):yB v (.int .i64 0) (Fq p)=.int .i64 ((nx p v).getD 0):=by
 induction p using Mp with
 |h0=>rfl
 |h1 p x ih=>
  rw[Gf,BF];cases hs:x.stay with
  |false=>simp_all
  |true=>rw[IN rfl,vM,asX];grind
theorem ad0(p:List bq)(v:Int):aa2 v (Fq p)=(nx p v).isSome:=by
 induction p using Mp with
 |h0=>rfl
 |h1 p x ih=>
  rw[Gf,BF];cases hs:x.stay with
  |false=>simp_all
  |true=>rw[IN rfl,SI,asX];grind
def tJ(p:List bq):List (PV×PV):=rI yI (Fq p)
theorem Gg(p:List bq)(v:Int):cB (.int .i64 v) (.int .i64 0) (tJ p)=.int .i64 ((nx p v).getD 0):=by have:=G9 (key:=yI) EG v (.int .i64 0) (Fq p);rw[aa3]at this;exact this
theorem II(p:List bq)(v:Int):yb (.int .i64 v) (tJ p)=(nx p v).isSome:=by have:=Xl v (Fq p);rw[ad0]at this;exact this
theorem Vt(p:List bq)(x:bq):tJ (p++[x])=if x.stay=true then dI (.int .i64 x.a) (.int .i64 x.b) (tJ p)else tJ p:=by
 have:=Kf (key:=yI) EG x.a (.int .i64 x.b) (Fq p);unfold tJ;rw[Gf];by_cases h:x.stay=true
 ·rw[IN h,IN h];exact this.symm
 simp_all
def tK(p:List bq):List Int:=(p.filter bq.stay).map bq.b
theorem Vu(p:List bq)(x:bq):tK (p++[x])=if x.stay=true then tK p++[x.b]else tK p:=by grind [tK]
theorem aa4(p:List bq)(v:Int):(nx p v).isSome=p.any fun y=>y.stay&&decide (y.a=v):=by
 induction p using Mp with
 |h0=>rfl
 |h1 p x ih=>rw[BF,au5,←ih];grind
theorem ad1(p:List bq)(v:Int):decide (v∈tK p)=p.any fun y=>y.stay&&decide (y.b=v):=by rw[asL,cT];simp only[tK,cT,asx,auv,atd,ao9];grind
def ajU(f:Int→Option Int)(a b:Int)(t:Nat):Option (Option PV):=(it f (t+1) a).elim (some (some (.bool false))) fun v=>if v=b then some (some (.bool true))else none
theorem Vv(f:Int→Option Int)(b:Int)(n:Nat):∀a,it f (n+1) a=none→bK ((List.range n).findSome? (ajU f a b)) (some (.bool false))=some (.bool ((List.range (n+1)).any fun t=>decide (it f (t+1) a=some b))):=by
 induction n with
 |zero=>intro a h;simp[bK,h]
 |succ n ih=>
  intro a h;rw[aty (n:=n+1),aty (n:=n),asW,at5];have h0:it f (0+1) a=f a:=by show(f a).bind (it f 0)=f a;cases hf:f a<;>rfl
  unfold ajU;rw[h0];cases hf:f a with
  |none=>
   have hz:∀t,it f (t+1) a=none:=fun t=>by show(f a).bind _=none;rw[hf];rfl
   simp_all[Option.elim,bK,List.any_map,atJ]
  |some v=>
   have hs:∀t,it f (t+1+1) a=it f (t+1) v:=fun t=>by show(f a).bind _=_;rw[hf];rfl
   by_cases hv:v=b
   ·simp_all[Option.elim,BY,bK,asq,avn]
   ·have hd:decide (some v=some b)=false:=by simpa using hv
    simp only[Option.elim,IT hv,hd,as5];have:=ih v (by rw[←hs];omega);rw[List.findSome?_map,List.any_map];simp only[atJ,Nat.succ_eq_add_one,hs];rw[←aty];exact this
theorem Vw(p:List bq)(hp:Ge (nx p))(hl:p.length≤maxLen)(a b:Int):ou [.rm 3 ((tJ p).map fun x=>x.fst) ((tJ p).map fun x=>x.snd),.int .i64 a,.int .i64 b]=some (.bool (zD p a b (p.length+1))):=by
 have hz:((tJ p).map fun x=>x.fst).zip ((tJ p).map fun x=>x.snd)=tJ p:=by
  generalize tJ p=m;induction m with
  |nil=>rfl
  |cons x m ih=>simp_all
 simp only[ou,zF,cY,BY,asInt,U,hz,Gg,II];unfold zD;rw[←Vv (nx p) b p.length a (Qc hp (by omega) a)];refine aC (fun t=>(PV.rm 3 ((tJ p).map fun x=>x.fst) ((tJ p).map fun x=>x.snd),b,(it (nx p) (t+1) a).getD 0,(it (nx p) (t+1) a).isSome,())) p.length _ (fun t ht rec=>?_) (fun rec=>?_) (by have:=aw;omega) ?_
 ·unfold nb ajU;dsimp only;rw[Xk (nx p) (t+1) a];cases hv:it (nx p) (t+1) a with
  |none=>rfl
  |some v=>
   simp only[at7,ate,BY,bX,cT,Option.elim];by_cases hvb:v=b
   ·rw[IN hvb,IN hvb];rfl
   ·rw[IT hvb,IT hvb];simp only[cY,BY,hz,Gg,II,asInt,U,bK,asl]
 ·unfold nb;dsimp only;rw[Qc hp (by omega)];rfl
 ·show(_,b,(it (nx p) 1 a).getD 0,(it (nx p) 1 a).isSome,())=_;have:it (nx p) 1 a=nx p a:=by show(nx p a).bind _=_;cases nx p a<;>rfl
  rw[this]
def bS(runs:List cy)(a:Int):List aY:=((runs[a.toNat]?).map cy.calls).getD []
def DA(cs:List aY)(c:Int):Int:=((cs[c.toNat]?).map aY.stop).getD 0
def Nv(x:bq)(R:Int):Bool:= !(decide (x.a≥0)&&decide (x.a<R))|| !(decide (x.b≥0)&&decide (x.b<R))||decide (x.a=x.b)
def JI(x:bq)(A B:Int):Bool:= !(decide (x.ac≥0)&&decide (x.ac<A))|| !(decide (x.bc≥0)&&decide (x.bc<B))
def Mq(p:List bq)(x:bq)(A:Int):Bool:=x.stay&&(!decide (x.ac+1=A)|| !decide (x.bc=0)||(nx p x.a).isSome||decide (x.b∈tK p)||zD p x.b x.a (p.length+1))
def dP(runs:List cy)(l:List bq)(k:Nat):Int:=match l[k]? with
 |none=>0
 |some x=>if Nv x runs.length=true then 9 else if JI x (bS runs x.a).length (bS runs x.b).length=true then 9 else if DA (bS runs x.a) x.ac≠DA (bS runs x.b) x.bc then 13 else if Mq (l.take k) x (bS runs x.a).length=true then 19 else if dO x∈(l.map dO).take k then 6 else 0
def tL(runs:List cy)(l:List bq):Int×Int:=if l.length>1024 then(0,5)else bV (dP runs l) l.length
theorem Mr(runs:List cy)(l:List bq)(k:Nat)(hk:k≤l.length)(h:∀j,j<k→dP runs l j=0):Ge (nx (l.take k))∧∀x∈l.take k,0≤x.a:=by
 induction k with
 |zero=>simp[atX,Vr]
 |succ k ih=>
  have sD:k<l.length:=by omega
  obtain⟨h1,h2⟩:=ih (by omega) fun j hj=>h j (by omega);have hz:=h k (by omega);unfold dP at hz;rw[cN sD]at hz;simp only at hz;have hr:Nv l[k] runs.length=false:=by grind
  have hs:Mq (l.take k) l[k] (bS runs l[k].a).length=false:=by grind
  unfold Nv at hr;simp only[asE,as0,ao9,cT,as6]at hr;rw[asm sD];refine⟨SG h1 l[k] ?_,fun x hx=>?_⟩
  ·unfold Mq at hs;cases uJ:l[k].stay with
   |false=>simp
   |true=>simp_all
  grind
theorem Hv(runs:List cy)(a:Int)(h:0≤a∧a<(runs.length:Int)):∃r∈runs,dA (runs.map cy.pv) a=some r.pv∧bS runs a=r.calls:=by
 obtain⟨n,rfl⟩:=atM h.1;have hn:n<runs.length:=by omega
 refine⟨runs[n],ar9 hn,?_,?_⟩
 ·rw[ag,AT,cN hn];rfl
 ·unfold bS;simp_all
theorem EH(cs:List aY)(c:Int)(h:0≤c∧c<(cs.length:Int)):∃r,dA (cs.map aY.pv) c=some r∧cell r 0=.int .i64 (DA cs c):=by
 obtain⟨n,rfl⟩:=atM h.1;have hn:n<cs.length:=by omega
 refine⟨cs[n].pv,?_,?_⟩
 ·rw[ag,AT,cN hn];rfl
 ·unfold DA;rw[asc,cN hn];rfl
theorem DB{runs:List cy}(h:∀y∈runs,y.Ok)(a:Int):(bS runs a).length≤maxLen:=by
 unfold bS;cases hr:runs[a.toNat]? with
 |none=>simp
 |some r=>exact(h r (asb hr)).calls.1
theorem SJ(N:an)(runs:List cy)(hr:∀y∈runs,y.Ok)(l:List bq)(hl:l.length≤maxLen)(k:Nat)(hk:k<l.length)(Rz:∀j,j<k→dP runs l j=0)(rec:TY0→Option PV):gS (l.map bq.pv,(l.length:Int),(k:Int),N.stops.map Stop.pv,N.aj.map ax.pv,runs.map cy.pv,l.map bq.pv,N.paths.map Path.pv,N.aK.map aM.pv,N.bn,N.within,N.cap,0,0,0,tJ (l.take k),seen yI (tK (l.take k)),seen SH ((l.map dO).take k),()) rec=bK (if dP runs l k=0 then none else some (some (r3 3 k (dP runs l k)))) (rec (l.map bq.pv,(l.length:Int),((k+1:Nat):Int),N.stops.map Stop.pv,N.aj.map ax.pv,runs.map cy.pv,l.map bq.pv,N.paths.map Path.pv,N.aK.map aM.pv,N.bn,N.within,N.cap,0,0,0,tJ (l.take (k+1)),seen yI (tK (l.take (k+1))),seen SH ((l.map dO).take (k+1)),())):=by
 have hm:=ai;have h1:decide ((k:Int)<(l.length:Int))=true:=by simp;omega
 obtain⟨anj,_⟩:=Mr runs l k (by omega) Rz;have hlen:(l.take k).length=k:=by simp;omega
 have Ms:=Vw (l.take k) anj (by omega) l[k].b l[k].a;have oK:dI (.agg [.int .i64 l[k].a,.int .i64 l[k].ac,.int .i64 l[k].b,.int .i64 l[k].bc]) (.bool true) (seen SH ((l.map dO).take k))=_:=fV adZ (dO l[k]) ((l.map dO).take k);have mA:cB (.agg [.int .i64 l[k].a,.int .i64 l[k].ac,.int .i64 l[k].b,.int .i64 l[k].bc]) (.bool false) (seen SH ((l.map dO).take k))=_:=eX adZ (dO l[k]) ((l.map dO).take k);have ank:dI (.int .i64 l[k].b) (.bool true) (seen yI (tK (l.take k)))=_:=fV (key:=yI) EG l[k].b (tK (l.take k));have ajV:cB (.int .i64 l[k].b) (.bool false) (seen yI (tK (l.take k)))=_:=eX (key:=yI) EG l[k].b (tK (l.take k));have hsn:l.take (k+1)=l.take k++[l[k]]:=asm hk;unfold gS;dsimp only;rw[IN h1,ag,AT,cN hk,hsn,Vt,Vu,kT dO l k hk];simp only[No,U,L6,R4,link2,R5,OB,asInt,asBool,BY,AI,Gd,ay,bX];unfold dP;rw[cN hk];simp only;have hR:(!(decide (l[k].a≥0)&&decide (l[k].a<(runs.length:Int)))|| !(decide (l[k].b≥0)&&decide (l[k].b<(runs.length:Int)))||decide (l[k].a=l[k].b))=Nv l[k] runs.length:=rfl;rw[hR];cases hb:Nv l[k] runs.length with
 |true=>rfl
 |false=>
  unfold Nv at hb;simp only[asE,as0,ao9,cT,as6]at hb;obtain⟨ra,hra,hia,hca⟩:=Hv runs l[k].a ⟨hb.1.1.1,hb.1.1.2⟩;obtain⟨rb,hrb,hib,hcb⟩:=Hv runs l[k].b ⟨hb.1.2.1,hb.1.2.2⟩;have hA:=DB hr l[k].a;rw[hia,hib];simp only[U,CZ,ao,BY,AI,←hca,←hcb,Gd,asBool,ay];have hC:(!(decide (l[k].ac≥0)&&decide (l[k].ac<((bS runs l[k].a).length:Int)))|| !(decide (l[k].bc≥0)&&decide (l[k].bc<((bS runs l[k].b).length:Int))))=JI l[k] (bS runs l[k].a).length (bS runs l[k].b).length:=rfl;rw[hC];cases LJ:JI l[k] (bS runs l[k].a).length (bS runs l[k].b).length with
  |true=>rfl
  |false=>
   unfold JI at LJ;simp only[asE,as0,ao9,cT]at LJ;obtain⟨ka,hka,hsa⟩:=EH (bS runs l[k].a) l[k].ac LJ.1;obtain⟨kb,hkb,hsb⟩:=EH (bS runs l[k].b) l[k].bc LJ.2;have hw:IntKind.i64.wrap (l[k].ac+1)=l[k].ac+1:=aZ (by omega) (by omega);simp only[cQ,IS,hka,hkb,U,hsa,hsb,Gg,II,mA,ajV,oK,ank,asInt,asBool,BY,Ms,hw,hlen,ay,aJ,eC,Sy,r3A,r30,r31,r32,ab (show k<9223372036854775807 by omega)];have hS:(l[k].stay&&(!decide (l[k].ac+1=((bS runs l[k].a).length:Int))|| !decide (l[k].bc=0)||(nx (l.take k) l[k].a).isSome||decide (l[k].b∈tK (l.take k))||zD (l.take k) l[k].b l[k].a (k+1)))=Mq (l.take k) l[k] (bS runs l[k].a).length:=by unfold Mq;rw[hlen]
   rw[hS];generalize Mq (l.take k) l[k] (bS runs l[k].a).length=S;by_cases uJ:DA (bS runs l[k].a) l[k].ac=DA (bS runs l[k].b) l[k].bc
   ·simp only[uJ,asq,aiI,cQ,IS,avu,not_true];cases S with
    |true=>rfl
    |false=>
     by_cases bB:dO l[k]∈(l.map dO).take k
     ·simp only[bB,asq,BY,cQ,IS];rfl
     ·simp only[bB,ass,BY,cQ,IS];cases l[k].stay<;>rfl
   ·simp only[uJ,ass,asr,BY,avu,not_false_eq_true];rfl
theorem Nx(N:an)(hr:N.runs.length≤maxLen∧∀y∈N.runs,y.Ok)(hl:N.aH.length≤maxLen):fx [N.pv]=some (prt 3 (tL N.runs N.aH)):=by
 have hm:=ai;simp only[fx,oR,lj,ll,lq,lr,lu,lv,lx,ly,lz,lA,U,AI];generalize hl':N.aH=l at hl⊢;generalize Cv:N.runs=runs at hr⊢;unfold tL;by_cases j4:l.length>1024
 ·rw[IN (by simp;omega),IN j4];rfl
 ·rw[IT (by simp;omega),IT j4];have hR:some (prt 3 (bV (dP runs l) l.length))=if(bV (dP runs l) l.length).2=0 then some (r3 0 0 0)else some (r3 3 (bV (dP runs l) l.length).1 (bV (dP runs l) l.length).2):=by unfold prt;grind
  rw[hR,←pt (dP runs l) l.length (fun i e=>r3 3 i e)];refine Fo (fun k=>(l.map bq.pv,(l.length:Int),(k:Int),N.stops.map Stop.pv,N.aj.map ax.pv,runs.map cy.pv,l.map bq.pv,N.paths.map Path.pv,N.aK.map aM.pv,N.bn,N.within,N.cap,0,0,0,tJ (l.take k),seen yI (tK (l.take k)),seen SH ((l.map dO).take k),())) l.length _ (fun k hk Rz rec=>SJ N runs hr.2 l hl k hk (fun j hj=>?_) rec) (fun _ rec=>?_) (by have:=aw;omega) rfl
  ·simp_all
  ·unfold gS;dsimp only;rw[IT (by simp)];rfl
theorem aa5(N:an)(i:Nat)(hi:i<N.aH.length)(hl:N.aH.length≤maxLen)(hp:∀x∈N.aH.take i,0≤x.a)(a b:Int)(hb:0≤b):sY [N.pv,.int .i64 i,.int .i64 a,.int .i64 b]=some (.bool (zD (N.aH.take i) a b (i+1))):=by
 have hm:=ai;simp only[sY,DC,lj,ll,lq,lr,lu,lv,lx,ly,lz,lA,U];simp only[asInt,BY,U];generalize hl':N.aH=l at hl hi hp⊢;have anl:nx (l.take i) (-1)=none:=by
  cases hn:nx (l.take i) (-1)with
  |none=>rfl
  |some w=>grind [adY]
 have Q7:∀t,(nx (l.take i) ((it (nx (l.take i)) t a).getD (-1))).getD (-1)=(it (nx (l.take i)) (t+1) a).getD (-1):=by
  intro t;rw[Xk];cases it (nx (l.take i)) t a with
  |none=>simp_all
  |some v=>rfl
 have kM:∀(c:Int)(t:Nat)jT,ba.run (qO jT) ((i:Int),c,b,(t:Int),-1,0,N.stops.map Stop.pv,N.aj.map ax.pv,N.runs.map cy.pv,l.map bq.pv,N.paths.map Path.pv,N.aK.map aM.pv,N.bn,N.within,N.cap,())=if(nx (l.take i) c).getD (-1)=b then some (.bool true)else jT ((i:Int),(nx (l.take i) c).getD (-1),b,IntKind.i64.wrap ((t:Int)+1),N.stops.map Stop.pv,N.aj.map ax.pv,N.runs.map cy.pv,l.map bq.pv,N.paths.map Path.pv,N.aK.map aM.pv,N.bn,N.within,N.cap,()):=by
  intro c t jT;refine bf (fun k=>((i:Int),c,b,(t:Int),(nx (l.take k) c).getD (-1),(k:Int),N.stops.map Stop.pv,N.aj.map ax.pv,N.runs.map cy.pv,l.map bq.pv,N.paths.map Path.pv,N.aK.map aM.pv,N.bn,N.within,N.cap,())) i (fun k hk rec=>?_) (fun rec=>?_) (by have:=aw;omega) (by rfl)
  ·have h1:decide ((k:Int)<(i:Int))=true:=by simp;omega
   have sD:k<l.length:=by omega
   unfold qO;dsimp only;rw[IN h1,ag,AT,cN sD,asm sD,BF];simp only[No,U,L6,link2,OB,asInt,asBool,BY,aJ,bX,ab (show k<9223372036854775807 by omega)];grind
  simp[qO,IT,bX,cT]
 unfold zD;have y7:ba.run (qP ba) ((i:Int),a,b,0,N.stops.map Stop.pv,N.aj.map ax.pv,N.runs.map cy.pv,l.map bq.pv,N.paths.map Path.pv,N.aK.map aM.pv,N.bn,N.within,N.cap,())=if((List.range (i+1)).any fun t=>decide (it (nx (l.take i)) (t+1) a=some b))=true then some (PV.bool true)else some (PV.bool false):=by
  refine dt (fun t:Nat=>((i:Int),(it (nx (l.take i)) t a).getD (-1),b,(t:Int),N.stops.map Stop.pv,N.aj.map ax.pv,N.runs.map cy.pv,l.map bq.pv,N.paths.map Path.pv,N.aK.map aM.pv,N.bn,N.within,N.cap,())) (i+1) (fun t=>decide (it (nx (l.take i)) (t+1) a=some b)) (no:=some (PV.bool true)) (fin:=some (PV.bool false)) (fun t ht rec=>?_) (fun rec=>?_) (by have:=aw;omega) rfl
  ·have h1:decide ((t:Int)≤(i:Int))=true:=by simp;omega
   unfold qP;dsimp only;rw[IN h1,kM,Q7,ab (by omega)];cases hv:it (nx (l.take i)) (t+1) a with
   |none=>grind
   |some v=>simp
  ·unfold qP;grind
 grind
theorem aa6(l:List bq)(P:bq→Bool)(k:Nat)(hk:k≤l.length):((List.range k).any fun j=>(l[j]?).elim false P)=(l.take k).any P:=by
 induction k with
 |zero=>rfl
 |succ k ih=>
  have sD:k<l.length:=by omega
  rw[atv,au5,ih (by omega),asm sD,au5];simp_all
theorem ad2(N:an)(hr:N.runs.length≤maxLen∧∀y∈N.runs,y.Ok)(hl:N.aH.length≤maxLen)(k:Nat)(hk:k<N.aH.length)(Rz:∀j,j<k→dP N.runs N.aH j=0):vr [N.pv,.int .i64 k]=some (.int .i64 (dP N.runs N.aH k)):=by
 have hm:=ai;obtain⟨_,eR⟩:=Mr N.runs N.aH k (by omega) Rz;have Ms:=fun a b hb=>aa5 N k hk hl eR a b hb;have hE:=pU N;simp only[vr,Gh,lj,ll,lq,lr,lu,lv,lx,ly,lz,lA,U];rw[←pU N]at Ms;generalize hl':N.aH=l at hl hk eR Ms⊢;generalize Cv:N.runs=runs at hr Ms⊢;have hw0:IntKind.i64.wrap ((runs.length:Int)-1)=(runs.length:Int)-1:=aZ (by omega) (by omega);simp only[asInt,BY,U,ag,AT,cN hk,No,L6,R4,link2,R5,OB,asBool,AI,hw0,Mh,ay,bX];unfold dP;rw[cN hk];simp only;have hR:(!(decide (l[k].a≥0)&&decide (l[k].a≤(runs.length:Int)-1))|| !(decide (l[k].b≥0)&&decide (l[k].b≤(runs.length:Int)-1))||decide (l[k].a=l[k].b))=Nv l[k] runs.length:=by unfold Nv;grind
 rw[hR];cases hb:Nv l[k] runs.length with
 |true=>rfl
 |false=>
  unfold Nv at hb;simp only[asE,as0,ao9,cT,as6]at hb;obtain⟨ra,hra,hia,hca⟩:=Hv runs l[k].a ⟨hb.1.1.1,hb.1.1.2⟩;obtain⟨rb,hrb,hib,hcb⟩:=Hv runs l[k].b ⟨hb.1.2.1,hb.1.2.2⟩;have hA:=DB hr.2 l[k].a;have hB:=DB hr.2 l[k].b;rw[hia,hib];simp only[U,CZ,ao,BY,AI,←hca,←hcb];have hwA:IntKind.i64.wrap (((bS runs l[k].a).length:Int)-1)=((bS runs l[k].a).length:Int)-1:=aZ (by omega) (by omega);have hwB:IntKind.i64.wrap (((bS runs l[k].b).length:Int)-1)=((bS runs l[k].b).length:Int)-1:=aZ (by omega) (by omega);simp only[hwA,hwB,Mh,asBool,U,ay];have hC:(!(decide (l[k].ac≥0)&&decide (l[k].ac≤((bS runs l[k].a).length:Int)-1))|| !(decide (l[k].bc≥0)&&decide (l[k].bc≤((bS runs l[k].b).length:Int)-1)))=JI l[k] (bS runs l[k].a).length (bS runs l[k].b).length:=by unfold JI;grind
  rw[hC];cases LJ:JI l[k] (bS runs l[k].a).length (bS runs l[k].b).length with
  |true=>rfl
  |false=>
   unfold JI at LJ;simp only[asE,as0,ao9,cT]at LJ;obtain⟨ka,hka,hsa⟩:=EH (bS runs l[k].a) l[k].ac LJ.1;obtain⟨kb,hkb,hsb⟩:=EH (bS runs l[k].b) l[k].bc LJ.2;simp only[cQ,IS,hka,hkb,U,hsa,hsb,asInt,asBool,BY,ay,aJ,eC];by_cases uJ:DA (bS runs l[k].a) l[k].ac=DA (bS runs l[k].b) l[k].bc
   ·simp only[uJ,asq,aiI,cQ,IS,avu,not_true];have JB:ba.run sZ ((k:Int),0,N.stops.map Stop.pv,N.aj.map ax.pv,runs.map cy.pv,l.map bq.pv,N.paths.map Path.pv,N.aK.map aM.pv,N.bn,N.within,N.cap,.int .i64 l[k].a,.int .i64 l[k].ac,.int .i64 l[k].b,.int .i64 l[k].bc,.bool l[k].stay,())=if dO l[k]∈(l.map dO).take k then some (.int .i64 6)else some (.int .i64 0):=by
     refine(dt (fun j=>((k:Int),(j:Int),N.stops.map Stop.pv,N.aj.map ax.pv,runs.map cy.pv,l.map bq.pv,N.paths.map Path.pv,N.aK.map aM.pv,N.bn,N.within,N.cap,PV.int .i64 l[k].a,PV.int .i64 l[k].ac,PV.int .i64 l[k].b,PV.int .i64 l[k].bc,PV.bool l[k].stay,())) k (fun j=>decide ((l.map dO)[j]?=some (dO l[k]))) (no:=some (.int .i64 6)) (fin:=some (.int .i64 0)) (fun j hj rec=>?_) (fun rec=>?_) (by have:=aw;omega) rfl).trans ?_
     ·have h1:decide ((j:Int)<(k:Int))=true:=by simp;omega
      have TF:j<l.length:=by omega
      have hd:decide ((l.map dO)[j]?=some (dO l[k]))=(decide (l[j].a=l[k].a)&&decide (l[j].ac=l[k].ac)&&decide (l[j].b=l[k].b)&&decide (l[j].bc=l[k].bc)):=by rw[asL];simp[cN TF,dO,auM]
      rw[hd];unfold sZ;dsimp only;rw[IN h1,ag,AT,cN TF];simp only[No,U,L6,R4,link2,R5,asInt,BY,ab (show j<9223372036854775807 by omega),bX,aJ]
     ·simp[sZ,IT]
     ·rw[jf _ _ (by simp;omega)];simp_all
    have aqz:ba.run (s7 ba) ((k:Int),0,N.stops.map Stop.pv,N.aj.map ax.pv,runs.map cy.pv,l.map bq.pv,N.paths.map Path.pv,N.aK.map aM.pv,N.bn,N.within,N.cap,.int .i64 l[k].a,.int .i64 l[k].ac,.int .i64 l[k].b,.int .i64 l[k].bc,.bool l[k].stay,())=if(l[k].stay&&((nx (l.take k) l[k].a).isSome||decide (l[k].b∈tK (l.take k))))=true then some (.int .i64 19)else if(l[k].stay&&zD (l.take k) l[k].b l[k].a (k+1))=true then some (.int .i64 19)else if dO l[k]∈(l.map dO).take k then some (.int .i64 6)else some (.int .i64 0):=by
     refine(dt (fun j=>((k:Int),(j:Int),N.stops.map Stop.pv,N.aj.map ax.pv,runs.map cy.pv,l.map bq.pv,N.paths.map Path.pv,N.aK.map aM.pv,N.bn,N.within,N.cap,PV.int .i64 l[k].a,PV.int .i64 l[k].ac,PV.int .i64 l[k].b,PV.int .i64 l[k].bc,PV.bool l[k].stay,())) k (fun j=>(l[j]?).elim false fun y=>l[k].stay&&y.stay&&(decide (y.a=l[k].a)||decide (y.b=l[k].b))) (no:=some (.int .i64 19)) (fin:=if(l[k].stay&&zD (l.take k) l[k].b l[k].a (k+1))=true then some (.int .i64 19)else if dO l[k]∈(l.map dO).take k then some (.int .i64 6)else some (.int .i64 0)) (fun j hj rec=>?_) (fun rec=>?_) (by have:=aw;omega) rfl).trans ?_
     ·have h1:decide ((j:Int)<(k:Int))=true:=by simp;omega
      have TF:j<l.length:=by omega
      rw[cN TF];unfold s7;dsimp only;rw[IN h1,ag,AT,cN TF];simp only[No,U,L6,link2,OB,asInt,asBool,BY,ab (show j<9223372036854775807 by omega),bX,aJ,ay,Option.elim];rfl
     ·unfold s7;simp_all[IT,asBool,asInt,BY,U,aJ]
     ·rw[aa6 l _ k (by omega)];have aja:((l.take k).any fun y=>l[k].stay&&y.stay&&(decide (y.a=l[k].a)||decide (y.b=l[k].b)))=(l[k].stay&&((nx (l.take k) l[k].a).isSome||decide (l[k].b∈tK (l.take k)))):=by
       rw[aa4,ad1];cases l[k].stay with
       |false=>simp
       |true=>rw[asL];simp only[asX,asu,atd,ao9,cT];grind
      rw[aja]
    rw[aqz];have hlen:(l.take k).length=k:=by simp;omega
    have hac:decide (l[k].ac=((bS runs l[k].a).length:Int)-1)=decide (l[k].ac+1=((bS runs l[k].a).length:Int)):=by grind
    rw[hac];unfold Mq;grind
   simp_all
def tY(N:an):Int×Int×Int:=
 if(fE N.stops).2=0 then
  if(eM N.aj).2=0 then
   if(yG N.runs N.stops.length N.aj.length).2=0 then
    if(tL N.runs N.aH).2=0 then
     if(dy N.paths N.stops.length).2=0 then if(cJ N.aK N.bn N.within N.cap).2=0 then(0,0,0)else(5,cJ N.aK N.bn N.within N.cap)
     else(4,dy N.paths N.stops.length)
    else(3,tL N.runs N.aH)
   else(2,yG N.runs N.stops.length N.aj.length)
  else(1,eM N.aj)
 else(0,fE N.stops)
def iT(x:Int×Int×Int):PV:=.aG [.int .i64 x.1,.int .i64 x.2.1,.int .i64 x.2.2]
theorem r3E(p i e:Int):PV.agg [cell (r3 p i e) 0,cell (r3 p i e) 1,cell (r3 p i e) 2]=r3 p i e:=rfl
theorem r3F(p i e:Int):PV.agg [.int .i64 p,.int .i64 i,.int .i64 e]=r3 p i e:=rfl
theorem DD(p i e q j f:Int):eD [.rs 3 [r3 p i e,r3 q j f]]=some (if e=0 then(if f=0 then r3 0 0 0 else r3 q j f)else r3 p i e):=by
 simp only[eD,zG,ao,BY,U];have h0:=aC (body:=nc) (fun k=>([r3 p i e,r3 q j f],(2:Int),(k:Int),0,0,0,())) 2 (fun k=>if k=0 then(if e=0 then none else some (some (r3 p i e)))else(if f=0 then none else some (some (r3 q j f)))) (fin:=some (r3 0 0 0)) (fun k hk rec=>?_) (fun rec=>?_) (by decide) (s0:=([r3 p i e,r3 q j f],(2:Int),0,0,0,0,())) rfl
 ·refine h0.trans ?_;have:List.range 2=[0,1]:=rfl;grind [bK]
 ·have h2:k=0∨k=1:=by omega
  rcases h2 with rfl|rfl
  ·unfold nc;dsimp only;rw[IN (by simp),ag];simp only[asF,U,r32,asInt,BY,eC,r3E,ab (show 0<9223372036854775807 by omega)];by_cases he:e=0
   ·simp only[he,asq,aiI,cQ,IS,BY];rfl
   ·simp only[he,ass,asr,IS,BY];rfl
  ·unfold nc;dsimp only;rw[IN (by simp),ag];simp only[atL,asF,U,r32,asInt,BY,eC,r3E,ab (show 1<9223372036854775807 by omega)];by_cases he:f=0
   ·simp only[he,asq,aiI,cQ,IS,BY];rfl
   ·simp only[he,ass,asr,IS,BY];rfl
 rfl
theorem Vx(p:Int)(x:Int×Int):prt p x=if x.2=0 then r3 0 0 0 else r3 p x.1 x.2:=rfl
theorem Iw{l:List Stop}(h:(fE l).2=0):l.length≤64:=by unfold fE at h;grind
theorem Mt(a b:Int):(a==b)=decide (a=b):=bX a b
theorem F1(N:an)(h:N.Ok)(hp:N.paths.length≤4096):fP [N.pv]=some (iT (tY N)):=by
 have hs:=OM N.stops h.stops;have hr:=Mk N.aj h.aj;have hu:=Qb N h.runs;have hl:=Nx N h.runs h.aH.1;have hf:=BA N.aK N.bn N.within N.cap h.aK;unfold dp at hf;simp only[fP,zH,lj,ll,lq,lr,lu,lv,lx,ly,lz,lA,U,pU];simp only[hs,hr,hf,hu,hl,U,res,cg,aqP,ase,Nat.reduceAdd,BY,abm,ahH,Sy,r3A,r3F,DD];unfold tY;by_cases h1:(fE N.stops).2=0
 ·have hpa:=Nu N (Iw h1) hp;simp only[hpa,U,h1,BY];by_cases h2:(eM N.aj).2=0
  ·simp only[h2,BY];rw[Vx 2,Vx 3,Vx 4];by_cases h3:(yG N.runs N.stops.length N.aj.length).2=0
   ·simp only[h3,BY];by_cases h4:(tL N.runs N.aH).2=0
    ·simp only[h4,BY];by_cases h5:(dy N.paths N.stops.length).2=0
     ·simp only[h5,BY];by_cases h6:(cJ N.aK N.bn N.within N.cap).2=0
      ·simp only[h6,BY,r3A,r3F,r30,r31,r32,asInt,U,DD,Mt,asq,ass,cQ,iT]
      ·simp only[h6,BY,IS,r3A,r3F,r30,r31,r32,asInt,U,DD,Mt,asq,ass,cQ,iT]
     ·simp only[h5,BY,IS,r3A,r3F,r30,r31,r32,asInt,U,DD,Mt,asq,ass,cQ,iT]
    ·simp only[h4,BY,IS,r3A,r3F,r30,r31,r32,asInt,U,DD,Mt,asq,ass,cQ,iT]
   ·simp only[h3,BY,IS,r3A,r3F,r30,r31,r32,asInt,U,DD,Mt,asq,ass,cQ,iT]
  ·simp only[h2,BY,IS,r3A,r3F,r30,r31,r32,asInt,U,DD,Mt,asq,ass,cQ,iT]
 ·simp only[h1,BY,IS,r3A,r3F,r30,r31,r32,asInt,U,DD,Mt,asq,ass,cQ,iT]
theorem Qd(N:an)(h:N.Ok)(hn:N.stops.length≤64)(hp:N.paths.length≤4096):ba.run qQ (0,N.stops.map Stop.pv,N.aj.map ax.pv,N.runs.map cy.pv,N.aH.map bq.pv,N.paths.map Path.pv,N.aK.map aM.pv,N.bn,N.within,N.cap,())=some (iT (if(bV (dP N.runs N.aH) N.aH.length).2=0 then
  if(dy N.paths N.stops.length).2=0 then if(cJ N.aK N.bn N.within N.cap).2=0 then(0,0,0)else(5,cJ N.aK N.bn N.within N.cap)
  else(4,dy N.paths N.stops.length)
 else(3,bV (dP N.runs N.aH) N.aH.length))):=by
 have hm:=ai
 have Oe:=h.aH.1
 have hpa:=aa1 N hn hp
 have hf:=aaX N.aK N.bn N.within N.cap h.aK
 unfold dp at hf
 have hg:=pt (dP N.runs N.aH) N.aH.length (fun i e=>iT (3,i,e)) (some (iT (if(dy N.paths N.stops.length).2=0 then if(cJ N.aK N.bn N.within N.cap).2=0 then(0,0,0)else(5,cJ N.aK N.bn N.within N.cap)else(4,dy N.paths N.stops.length))))
 have hR:(if(bV (dP N.runs N.aH) N.aH.length).2=0 then(some (iT (if(dy N.paths N.stops.length).2=0 then if(cJ N.aK N.bn N.within N.cap).2=0 then(0,0,0)else(5,cJ N.aK N.bn N.within N.cap)else(4,dy N.paths N.stops.length))))else some (iT (3,(bV (dP N.runs N.aH) N.aH.length).1,(bV (dP N.runs N.aH) N.aH.length).2)))=some (iT (if(bV (dP N.runs N.aH) N.aH.length).2=0 then
   if(dy N.paths N.stops.length).2=0 then if(cJ N.aK N.bn N.within N.cap).2=0 then(0,0,0)else(5,cJ N.aK N.bn N.within N.cap)
   else(4,dy N.paths N.stops.length)
  else(3,bV (dP N.runs N.aH) N.aH.length))):=by
  grind
 rw[←hR,←hg]
 refine Fo (fun k=>((k:Int),N.stops.map Stop.pv,N.aj.map ax.pv,N.runs.map cy.pv,N.aH.map bq.pv,N.paths.map Path.pv,N.aK.map aM.pv,N.bn,N.within,N.cap,())) N.aH.length _ (fun k hk Rz rec=>?_) (fun _ rec=>?_) (by have:=aw;omega) rfl
 ·have anm:∀j,j<k→dP N.runs N.aH j=0:=fun j hj=>by simp_all
  have hrl:=ad2 N h.runs Oe k hk anm;have h1:decide ((k:Int)<((N.aH.map bq.pv).length:Int))=true:=by simp;omega
  unfold qQ;dsimp only;rw[IN h1,pU,hrl];simp only[U,asInt,BY,eC,ab (show k<9223372036854775807 by omega)];by_cases he:dP N.runs N.aH k=0
  ·simp only[he,asq,aiI,cQ,IS,BY];rfl
  ·simp only[he,ass,asr,IS,BY];rfl
 ·unfold qQ;dsimp only;rw[IT (by simp),pU,hpa];simp only[U,res,cg,aqP,ase,Nat.reduceAdd,BY,abm,ahH,asInt,eC,hf];by_cases h5:(dy N.paths N.stops.length).2=0
  ·simp only[h5,asq,aiI,cQ,IS,BY];by_cases h6:(cJ N.aK N.bn N.within N.cap).2=0
   ·simp_all[asq,aiI,cQ,IS,BY,iT]
   simp_all[ass,asr,cQ,IS,BY,iT]
  simp_all[ass,asr,cQ,IS,BY,iT]
theorem aaG(N:an)(h:N.Ok)(hp:N.paths.length≤4096):s8 [N.pv]=some (iT (tY N)):=by
 have hm:=ai;have cZ:4096≤maxLen:=by decide
 have hs:=aaV N.stops h.stops;have hr:=Vn N.aj h.aj;simp only[s8,DE,lj,ll,lq,lr,lu,lv,lx,ly,lz,lA,U];simp only[hs,hr,U,res,cg,aqP,ase,Nat.reduceAdd,BY,abm,ahH,asInt,eC];unfold tY;by_cases h1:(fE N.stops).2=0
 ·have AN:=Qd N h (Iw h1) hp;simp only[h1,asq,aiI,cQ,IS,BY];by_cases h2:(eM N.aj).2=0
  ·simp only[h2,asq,aiI,cQ,IS,BY];unfold yG;by_cases j4:N.runs.length>1024
   ·rw[IN (by simp;omega),IN j4];rfl
   ·rw[IT (by simp;omega),IT j4];generalize hE:oP N.runs N.stops.length N.aj.length=E;generalize hF:(if(tL N.runs N.aH).2=0 then
     if(dy N.paths N.stops.length).2=0 then if(cJ N.aK N.bn N.within N.cap).2=0 then((0:Int),(0:Int),(0:Int))else(5,cJ N.aK N.bn N.within N.cap)
     else(4,dy N.paths N.stops.length)
    else(3,tL N.runs N.aH))=F
    have hg:=pt E N.runs.length (fun i e=>iT (2,i,e)) (some (iT F));have hR:(if(bV E N.runs.length).2=0 then some (iT F)else some (iT (2,(bV E N.runs.length).1,(bV E N.runs.length).2)))=some (iT (if(bV E N.runs.length).2=0 then F else(2,bV E N.runs.length))):=by grind
    rw[←hR,←hg];refine aC (fun k=>((k:Int),N.stops.map Stop.pv,N.aj.map ax.pv,N.runs.map cy.pv,N.aH.map bq.pv,N.paths.map Path.pv,N.aK.map aM.pv,N.bn,N.within,N.cap,())) N.runs.length _ (fun k hk rec=>?_) (fun rec=>?_) (by have:=aw;omega) rfl
    ·have Qz:=ahu N h.runs k hk;rw[hE]at Qz;have h1:decide ((k:Int)<((N.runs.map cy.pv).length:Int))=true:=by simp;omega
     unfold xf;dsimp only;rw[IN h1,pU,Qz];simp only[U,asInt,BY,eC,ab (show k<9223372036854775807 by omega)];by_cases he:E k=0
     ·simp only[he,asq,aiI,cQ,IS,BY];rfl
     ·simp only[he,ass,asr,IS,BY];rfl
    ·unfold xf;dsimp only;rw[IT (by simp),←hF];unfold tL;by_cases h10:N.aH.length>1024
     ·rw[IN (by simp;omega),IN h10];rfl
     grind
  simp_all[ass,asr,cQ,IS,BY,iT]
 simp_all[ass,asr,cQ,IS,BY,iT]
theorem L2{N:an}(h:(tY N).2.2=0):∀k,k<N.runs.length→oP N.runs N.stops.length N.aj.length k=0:=by
 unfold tY at h;by_cases h1:(fE N.stops).2=0
 ·rw[IN h1]at h;by_cases h2:(eM N.aj).2=0
  ·rw[IN h2]at h;by_cases h3:(yG N.runs N.stops.length N.aj.length).2=0
   ·unfold yG at h3;by_cases j4:N.runs.length>1024
    ·simp_all
    simp_all[IT,sb]
   simp_all
  simp_all
 simp_all
theorem Da{N:an}(h:(tY N).2.2=0):∀r∈N.runs,(gR r.calls N.stops.length 0 3155932800).2=0:=by intro r hr;obtain⟨k,hk,rfl⟩:=atn hr;have:=L2 h k hk;unfold oP at this;grind
theorem JD{l:List aY}{n a b:Int}(h:(gR l n a b).2=0):2≤l.length∧l.length≤32:=by unfold gR at h;grind
theorem R0{l:List aY}{n a b:Int}(h:(gR l n a b).2=0):∀k,k<l.length→vi l n a b k=0:=by
 unfold gR at h;by_cases hc:(decide ((l.length:Int)<2)||decide ((l.length:Int)>32))=true
 ·simp_all
 simp_all[IT,sb]
end Go.Ab.Tt
