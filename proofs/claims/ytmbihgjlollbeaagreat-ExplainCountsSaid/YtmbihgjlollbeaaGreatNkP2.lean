import Derived.Test.YtmbihgjlollbeaaGreatNkP1
import Derived.Test.YtmbihgjlollbeaaGreatNwP2
namespace Go.Ab.Tt
set_option maxRecDepth 100000
set_option linter.unusedVariables false
set_option linter.unusedSimpArgs false
def dc(x:Path):Int×Int×Bool:=(x.a,x.b,x.free)
def Cp(x:Int×Int×Bool):PV:=.agg [.int .i64 x.1,.int .i64 x.2.1,.bool x.2.2]
theorem LF(a b:Int×Int×Bool):cz (Cp a).cells (Cp b).cells=decide (a=b):=by obtain⟨a1,a2,a3⟩:=a;obtain⟨b1,b2,b3⟩:=b;rw[akh];simp[Cp,PV.cells,cz,peq]
def gw(l:List Path)(n:Int)(k:Nat):Int:=match l[k]? with
 |none=>0
 |some x=>if(decide (x.a<0)||decide (x.a≥n)||decide (x.b<0)||decide (x.b≥n)||decide (x.a=x.b))=true then 9 else if(decide (x.jx<1)||decide (x.jx>14400))=true then 2 else if dc x∈(l.map dc).take k then 6 else 0
theorem FZ(l:List Path)(n:Int)(hl:l.length≤maxLen):iI [.rs 4 (l.map Path.pv),.int .i64 n]=some (res (cW (gw l n) l.length).1 (cW (gw l n) l.length).2):=by
 have hm:=aQ;simp only[iI,sm,aw,asInt,IS,aa,BY];rw[←kz];refine br (fun k=>(n,l.map Path.pv,(l.length:Int),(k:Int),seen Cp ((l.map dc).take k),())) l.length _ (fun k hk rec=>?_) (fun rec=>?_) ?_ rfl
 ·have h1:(k:Int)<(l.length:Int):=by omega
  have mr:df (.agg [.int .i64 l[k].a,.int .i64 l[k].b,.bool l[k].free]) (.bool true) (seen Cp ((l.map dc).take k))=_:=fi LF (dc l[k]) ((l.map dc).take k);have kA:b9 (.agg [.int .i64 l[k].a,.int .i64 l[k].b,.bool l[k].free]) (.bool false) (seen Cp ((l.map dc).take k))=_:=eh LF (dc l[k]) ((l.map dc).take k);simp only[nP,AT,h1,IS,aN,IN,cO hk,ajg,aa,PU,PW,PX,PY,asInt,asBool,mr,kA,jw,al (show k<9223372036854775807 by omega),jz dc l k hk];unfold gw;rw[cO hk];simp only;by_cases bX:dc l[k]∈(l.map dc).take k
  ·simp only[bX,IS];by_cases e1:l[k].a<0<;>by_cases e2:l[k].a≥n<;>by_cases e3:l[k].b<0<;>by_cases e4:l[k].b≥n<;>by_cases e5:l[k].a=l[k].b<;>by_cases e6:l[k].jx<1<;>by_cases e7:l[k].jx>14400<;>simp only[e1,e2,e3,e4,e5,e6,e7,ajx,ajz,al1,amg,akM,IS,S3,cQ]<;>rfl
  ·simp only[bX,S3,cQ];by_cases e1:l[k].a<0<;>by_cases e2:l[k].a≥n<;>by_cases e3:l[k].b<0<;>by_cases e4:l[k].b≥n<;>by_cases e5:l[k].a=l[k].b<;>by_cases e6:l[k].jx<1<;>by_cases e7:l[k].jx>14400<;>simp only[e1,e2,e3,e4,e5,e6,e7,ajx,ajz,al1,amg,akM,IS,S3,cQ]<;>rfl
 ·simp only[nP,AT,ajG,S3];rfl
 ·have:=bu;omega
def toFp(p:Path):Nw.Fp:=⟨p.a.toNat,p.b.toNat,p.jx.toNat,p.free⟩
def Sound(l:List Path)(n:Nat):Prop:=∀p∈l,0≤p.a∧p.a<n∧0≤p.b∧p.b<n∧1≤p.jx∧p.jx≤14400
variable{l:List Path}{n:Nat}
theorem VY(h:(cW (gw l n) l.length).2=0):Sound l n:=by intro p hp;obtain⟨k,hk,rfl⟩:=akq hp;have h0:=(oI _ _).1 h k hk;unfold gw at h0;grind
theorem toFp_pv{p:Path}(h1:0≤p.a)(h2:0≤p.b)(h3:1≤p.jx):(toFp p).pv=p.pv:=by grind [toFp,Nw.Fp.pv,Path.pv,Int.toNat_of_nonneg]
theorem VZ(h:Sound l n):(l.map toFp).map Nw.Fp.pv=l.map Path.pv:=by rw[ak8];apply ajJ;intro p hp;exact toFp_pv (h p hp).1 (h p hp).2.2.1 (h p hp).2.2.2.2.1
def P9(e:List PV):Path:=match e with|[.int .i64 a,.int .i64 b,.int .i64 s,.bool f]=>⟨a,b,s,f⟩|_=>⟨0,0,0,false⟩
theorem F0:∀(L:List (List PV)),(∀e∈L,Nw.IsF e)→eE L=(L.map P9).map Path.pv
 |[],_=>rfl
 |e::L,h=>by obtain⟨i,k,s,b,rfl⟩:=h e (by simp);have:=F0 L fun x hx=>h x (by simp[hx]);unfold eE at this⊢;rw[ajr,ajr,ajr,this];rfl
def sn(l:List Path)(n:Nat):List Path:=(Nw.GO n (Nw.uK n (l.map toFp) false) (Nw.uK n (l.map toFp) true)).map P9
theorem SH(hn:n≤64)(hl:l.length≤4096)(h:Sound l n):fV [.rs 4 (l.map Path.pv),.int .i64 n]=some (.rs 4 ((sn l n).map Path.pv))∧nQ [.rs 4 (l.map Path.pv),.int .i64 n]=some (.rs 4 ((sn l n).map Path.pv)):=by have:=Nw.Og (l.map toFp) n hn (by simpa using hl) (fun p hp=>by obtain⟨q,hq,rfl⟩:=ajy.1 hp;have:=h q hq;simp only[toFp];omega);rw[VZ h,F0 _ (Nw.LG n _ _)]at this;exact this
theorem V0(l:List Path)(n:Nat)(hn:n≤64):(sn l n).length≤8192:=by
 have h1:(sn l n).length=(eE (Nw.GO n (Nw.uK n (l.map toFp) false) (Nw.uK n (l.map toFp) true))).length:=by simp[sn,eE]
 rw[h1,Nw.Cq];have h2:=Nw.Bq (it:=fun i k=>Nw.DE (Nw.uK n (l.map toFp) false i k) (Nw.uK n (l.map toFp) true i k) i k) (fun i k=>Nw.Jr _ _ i k) n n;have h3:2*n*n≤2*64*64:=alg (akz 2 hn) hn;omega
theorem V1(x y:Path):cz [cell x.pv 0,cell x.pv 1,cell x.pv 2,cell x.pv 3] [cell y.pv 0,cell y.pv 1,cell y.pv 2,cell y.pv 3]=decide (x=y):=by rw[akh];obtain⟨a,b,c,d⟩:=x;obtain⟨a',b',c',d'⟩:=y;simp[PU,PW,PX,PY,cz,peq]
theorem LH(x:Path):lN (Kd.int IntKind.i64::[].append (Kd.int IntKind.i64::[].append (Kd.int IntKind.i64::[].append (Kd.bool::[].append [])))) [cell x.pv 0,cell x.pv 1,cell x.pv 2,cell x.pv 3]=true:=rfl
def yQ(l:List Path)(n:Nat):Bool:=decide (sn l n=l)
theorem LI(hn:n≤64)(hl:l.length≤4096)(h:(cW (gw l n) l.length).2=0):gS [.rs 4 (l.map Path.pv),.int .i64 n]=some (.bool (yQ l n)):=by
 have hm:4096≤maxLen:=by decide
 have hs:=FZ l n (by omega);have hf:=SI _ _ h;rw[h,hf]at hs;have hc:=(SH hn hl (VY h)).1;have wG:=V0 l n hn;have vV:¬decide ((n:Int)>64)=true:=by simp;omega
 have h0:¬(0:Int)>(n:Int):=by omega
 simp only[gS,nR,aw,asInt,IS,aa];rw[No vV,hs];simp only[res,dq,ajj,ajs,Nat.reduceAdd,IS,aa,ajf,ajh,asInt,No h0,hc,aw,BY];rw[No (by simp)];unfold yQ;by_cases hlen:(sn l n).length=l.length
 ·rw[No (by simp[pI,hlen])];have hr:=ZU (sn l n) l hlen (some (PV.bool false)) (some (PV.bool true));have:some (PV.bool (decide (sn l n=l)))=if sn l n=l then some (PV.bool true)else some (PV.bool false):=by grind
  rw[this,←hr];refine br (fun k=>(l.map Path.pv,(sn l n).map Path.pv,((sn l n).length:Int),(k:Int),())) (sn l n).length _ (fun k hk rec=>?_) (fun rec=>?_) ?_ rfl
  ·have h1:decide ((k:Int)<((sn l n).length:Int))=true:=by simp;omega
   have DQ:k<l.length:=by omega
   unfold kB;dsimp only;rw[GW h1,aN,IN,cO hk,aN,IN,cO DQ];simp only[ajg,aa];rw[GW ⟨LH _,LH _⟩,V1,al (by omega)];grind [sn,ca]
  ·simp[kB,No]
  ·have:=bu;omega
 ·rw[GW (by simp[pI];omega)];rw[aj2 (fun hc=>hlen (by rw[hc]))]
def uL(l:List Path)(n:Nat):Int×Int:=if(cW (gw l n) l.length).2=0 then(if yQ l n=true then(0,0)else(0,18))else cW (gw l n) l.length
def tS(x:Int×Int×Bool):PV:=.agg [.int .i64 x.1,.int .i64 x.2.1,.int .i64 0,.bool x.2.2]
theorem aeH(a b:Int×Int×Bool):cz (tS a).cells (tS b).cells=decide (a=b):=by obtain⟨a1,a2,a3⟩:=a;obtain⟨b1,b2,b3⟩:=b;rw[akh];simp[tS,PV.cells,cz,peq]
theorem Dj(N:ae)(l:List Path)(n:Nat)(hl:l.length≤4096)(hlen:(N.stops.map Stop.pv).length=n)(k:Nat)(hk:k<l.length)(rec:ZV→Option PV):cv (l.map Path.pv,(l.length:Int),(k:Int),N.stops.map Stop.pv,N.ar.map aT.pv,N.runs.map ec.pv,N.bj.map bA.pv,l.map Path.pv,N.ba.map aV.pv,N.bY,N.within,N.cap,0,0,0,seen tS ((l.map dc).take k),()) rec=ca (if gw l n k=0 then none else some (some (r3 4 k (gw l n k)))) (rec (l.map Path.pv,(l.length:Int),((k+1:Nat):Int),N.stops.map Stop.pv,N.ar.map aT.pv,N.runs.map ec.pv,N.bj.map bA.pv,l.map Path.pv,N.ba.map aV.pv,N.bY,N.within,N.cap,0,0,0,seen tS ((l.map dc).take (k+1)),())):=by
 have h1:decide ((k:Int)<(l.length:Int))=true:=by simp;omega
 have mr:df (.agg [.int .i64 l[k].a,.int .i64 l[k].b,.int .i64 0,.bool l[k].free]) (.bool true) (seen tS ((l.map dc).take k))=_:=fi aeH (dc l[k]) ((l.map dc).take k);have kA:b9 (.agg [.int .i64 l[k].a,.int .i64 l[k].b,.int .i64 0,.bool l[k].free]) (.bool false) (seen tS ((l.map dc).take k))=_:=eh aeH (dc l[k]) ((l.map dc).take k);unfold cv;dsimp only;rw[GW h1,aN,IN,cO hk,hlen];simp only[ajg,aa,PU,PW,PX,PY,asInt,asBool,IS,Af,bh,jw,mr,kA,LD,Tx,VW,VX,SG,jz dc l k hk,al (show k<9223372036854775807 by omega)];have hA:(!(decide (l[k].a≥0)&&decide (l[k].a<(n:Int)))|| !(decide (l[k].b≥0)&&decide (l[k].b<(n:Int)))||decide (l[k].a=l[k].b))=(decide (l[k].a<0)||decide (l[k].a≥(n:Int))||decide (l[k].b<0)||decide (l[k].b≥(n:Int))||decide (l[k].a=l[k].b)):=by grind
 rw[hA];unfold gw;rw[cO hk];simp only;generalize (decide (l[k].a<0)||decide (l[k].a≥(n:Int))||decide (l[k].b<0)||decide (l[k].b≥(n:Int))||decide (l[k].a=l[k].b))=A;generalize (decide (l[k].jx<1)||decide (l[k].jx>14400))=B;by_cases bX:dc l[k]∈(l.map dc).take k
 ·simp only[bX,IS];cases A<;>cases B<;>rfl
 ·simp only[bX,S3];cases A<;>cases B<;>rfl
theorem GP(N:ae)(hn:N.stops.length≤64)(hl:N.paths.length≤4096):cF [N.pv]=some (prt 4 (uL N.paths N.stops.length)):=by
 have hm:4096≤maxLen:=by decide
 simp only[cF,mA,A8,A9,Ba,Bb,Bc,Bd,Be,Bf,Bg,Bh,aa,BY];generalize hl':N.paths=l at hl⊢;generalize Yi:N.stops.length=n at hn⊢;have hlen:(N.stops.map Stop.pv).length=n:=by simpa using Yi
 have hg:=yP (gw l n) l.length (fun i e=>r3 4 i e) (some (if yQ l n=true then r3 0 0 0 else r3 4 0 18));have hR:some (prt 4 (uL l n))=if(cW (gw l n) l.length).2=0 then some (if yQ l n=true then r3 0 0 0 else r3 4 0 18)else some (r3 4 (cW (gw l n) l.length).1 (cW (gw l n) l.length).2):=by unfold uL prt;grind
 rw[hR,←hg];by_cases hz:(cW (gw l n) l.length).2=0
 ·refine br (fun k=>(l.map Path.pv,(l.length:Int),(k:Int),N.stops.map Stop.pv,N.ar.map aT.pv,N.runs.map ec.pv,N.bj.map bA.pv,l.map Path.pv,N.ba.map aV.pv,N.bY,N.within,N.cap,0,0,0,seen tS ((l.map dc).take k),())) l.length _ (fun k hk rec=>Dj N l n hl hlen k hk rec) (fun rec=>?_) ?_ rfl
  ·unfold cv;dsimp only;rw[No (by simp),hlen,LI hn hl hz];simp only[aa,asBool,LD,Tx,VW,VX,SG];cases yQ l n<;>rfl
  ·have:=bu;omega
 ·have uf:=br (body:=cv) (fun k=>(l.map Path.pv,(l.length:Int),(k:Int),N.stops.map Stop.pv,N.ar.map aT.pv,N.runs.map ec.pv,N.bj.map bA.pv,l.map Path.pv,N.ba.map aV.pv,N.bY,N.within,N.cap,0,0,0,seen tS ((l.map dc).take k),())) l.length _ (fin:=cv (l.map Path.pv,(l.length:Int),(l.length:Int),N.stops.map Stop.pv,N.ar.map aT.pv,N.runs.map ec.pv,N.bj.map bA.pv,l.map Path.pv,N.ba.map aV.pv,N.bY,N.within,N.cap,0,0,0,seen tS ((l.map dc).take l.length),()) fun _=>none) (fun k hk rec=>Dj N l n hl hlen k hk rec) (fun rec=>?_) (by have:=bu;omega) (s0:=(l.map Path.pv,(l.length:Int),0,N.stops.map Stop.pv,N.ar.map aT.pv,N.runs.map ec.pv,N.bj.map bA.pv,l.map Path.pv,N.ba.map aV.pv,N.bY,N.within,N.cap,0,0,0,[],())) rfl
  ·simp_all[yP,No]
  simp[cv,No]
def nS(x:ec):Bytes×Int×Int:=(x.id,x.day,x.inst)
def LJ(x:Bytes×Int×Int):PV:=.agg [.str x.1,.int .i64 x.2.1,.int .i64 x.2.2]
theorem V2(a b:Bytes×Int×Int):cz (LJ a).cells (LJ b).cells=decide (a=b):=by obtain⟨a1,a2,a3⟩:=a;obtain⟨b1,b2,b3⟩:=b;rw[akh];simp[LJ,PV.cells,cz,peq]
def pX(l:List ec)(stops ar:Int)(k:Nat):Int:=match l[k]? with
 |none=>0
 |some x=>if nM x.id=false then 12 else if(decide (x.bR< -1)||decide (x.inst<0))=true then 2 else if(decide (x.day<0)||decide (x.day>36524))=true then 11 else if(decide (x.fh<0)||decide (x.fh≥ar))=true then 9 else if(jT x.calls stops 0 3155932800).2=0 then(if nS x∈(l.map nS).take k then 6 else 0)else(jT x.calls stops 0 3155932800).2
def vE(l:List ec)(stops ar:Int):Int×Int:=if l.length>1024 then(0,5)else cW (pX l stops ar) l.length
theorem Oh(N:ae)(l:List ec)(hl:l.length≤maxLen∧∀y∈l,y.Ok)(k:Nat)(hk:k<l.length)(rec:ZV→Option PV):gx (l.map ec.pv,(l.length:Int),(k:Int),N.stops.map Stop.pv,N.ar.map aT.pv,l.map ec.pv,N.bj.map bA.pv,N.paths.map Path.pv,N.ba.map aV.pv,N.bY,N.within,N.cap,0,0,0,seen LJ ((l.map nS).take k),()) rec=ca (if pX l N.stops.length N.ar.length k=0 then none else some (some (r3 2 k (pX l N.stops.length N.ar.length k)))) (rec (l.map ec.pv,(l.length:Int),((k+1:Nat):Int),N.stops.map Stop.pv,N.ar.map aT.pv,l.map ec.pv,N.bj.map bA.pv,N.paths.map Path.pv,N.ba.map aV.pv,N.bY,N.within,N.cap,0,0,0,seen LJ ((l.map nS).take (k+1)),())):=by
 have hm:=aQ;have h1:decide ((k:Int)<(l.length:Int))=true:=by simp;omega
 have hO:=hl.2 _ (ajm hk);have hid:=uJ l[k].id hO.id;have zq:=HZ l[k].calls N.stops.length 0 3155932800 hO.calls.1;simp only[res]at zq;have mr:df (.agg [.str l[k].id,.int .i64 l[k].day,.int .i64 l[k].inst]) (.bool true) (seen LJ ((l.map nS).take k))=_:=fi V2 (nS l[k]) ((l.map nS).take k);have kA:b9 (.agg [.str l[k].id,.int .i64 l[k].day,.int .i64 l[k].inst]) (.bool false) (seen LJ ((l.map nS).take k))=_:=eh V2 (nS l[k]) ((l.map nS).take k);unfold gx;dsimp only;rw[GW h1,aN,IN,cO hk];simp only[ajg,aa,wg,abU,abV,abW,RZ,I2,bG,asInt,asBool,aw,IS,BY,hid,zq,dq,ajj,ajs,Nat.reduceAdd,ajf,ajh,bh,pI,mr,kA,LD,Tx,VW,VX,SG,jz nS l k hk,al (show k<9223372036854775807 by omega)];unfold pX;rw[cO hk];simp only;generalize (decide (l[k].bR< -1)||decide (l[k].inst<0))=A;generalize (decide (l[k].day<0)||decide (l[k].day>36524))=B;generalize (decide (l[k].fh<0)||decide (l[k].fh≥(N.ar.length:Int)))=C;generalize (jT l[k].calls N.stops.length 0 3155932800).2=e;cases nM l[k].id with
 |false=>rfl
 |true=>
  cases A with
  |true=>rfl
  |false=>
   cases B with
   |true=>rfl
   |false=>
    cases C with
    |true=>rfl
    |false=>
     simp only[aji,cQ,ajI,S3];by_cases he:e=0
     ·subst he;by_cases bX:nS l[k]∈(l.map nS).take k
      ·simp only[bX,IS,ajx,aji,cQ,S3];rfl
      ·simp only[bX,IS,ajx,ajz,aji,cQ,S3];rfl
     ·simp only[he,S3,IS,ajz,ajC];rfl
theorem Js(N:ae)(hl:N.runs.length≤maxLen∧∀y∈N.runs,y.Ok):gT [N.pv]=some (prt 2 (vE N.runs N.stops.length N.ar.length)):=by
 have hm:=aQ;simp only[gT,nT,A8,A9,Ba,Bb,Bc,Bd,Be,Bf,Bg,Bh,aa,BY];generalize hl':N.runs=l at hl⊢;unfold vE;by_cases vV:l.length>1024
 ·rw[GW (by simp;omega),GW vV];rfl
 ·rw[No (by simp;omega),No vV];have hR:some (prt 2 (cW (pX l N.stops.length N.ar.length) l.length))=if(cW (pX l N.stops.length N.ar.length) l.length).2=0 then some (r3 0 0 0)else some (r3 2 (cW (pX l N.stops.length N.ar.length) l.length).1 (cW (pX l N.stops.length N.ar.length) l.length).2):=by unfold prt;grind
  rw[hR,←yP (pX l N.stops.length N.ar.length) l.length (fun i e=>r3 2 i e)];refine br (fun k=>(l.map ec.pv,(l.length:Int),(k:Int),N.stops.map Stop.pv,N.ar.map aT.pv,l.map ec.pv,N.bj.map bA.pv,N.paths.map Path.pv,N.ba.map aV.pv,N.bY,N.within,N.cap,0,0,0,seen LJ ((l.map nS).take k),())) l.length _ (fun k hk rec=>Oh N l hl k hk rec) (fun rec=>?_) ?_ rfl
  ·unfold gx;dsimp only;rw[No (by simp)];rfl
  ·have:=bu;omega
def nx(p:List bA)(v:Int):Option Int:=p.foldl (fun o x=>if(x.stay&&decide (x.a=v))=true then some x.b else o) none
theorem Br(p:List bA)(x:bA)(v:Int):nx (p++[x]) v=if(x.stay&&decide (x.a=v))=true then some x.b else nx p v:=by unfold nx;simp
def it(f:Int→Option Int):Nat→Int→Option Int
 |0,v=>some v
 |m+1,v=>(f v).bind (it f m)
theorem ZW(f:Int→Option Int)(m:Nat)(v:Int):it f (m+1) v=(it f m v).bind f:=by
 induction m generalizing v with
 |zero=>show(f v).bind (it f 0)=f v;cases h:f v<;>rfl
 |succ m ih=>
  show(f v).bind (it f (m+1))=((f v).bind (it f m)).bind f;cases h:f v with
  |none=>rfl
  |some w=>exact ih w
def Cr(p:List bA)(a b:Int)(n:Nat):Bool:=(List.range n).any fun t=>decide (it (nx p) (t+1) a=some b)
def Ag(f:Int→Option Int):Prop:=∃r:Int→Nat,∀v w,f v=some w→r w<r v
theorem Oi:Ag (nx []):=⟨fun _=>0,fun v w h=>by cases h⟩
variable{p:List bA}
theorem acq{v w:Int}(h:nx p v=some w):∃x∈p,x.stay=true∧x.a=v∧x.b=w:=by
 have key:∀n,n≤p.length→nx (p.take n) v=some w→∃x∈p,x.stay=true∧x.a=v∧x.b=w:=by
  intro n;induction n with
  |zero=>intro _ h;cases h
  |succ n ih=>
   intro hn h;have Yi:n<p.length:=by omega
   rw[ajq Yi,Br]at h;grind
 exact key p.length (ajo _) (by simp_all)
theorem Oj{f:Int→Option Int}(hf:Ag f)(S:List Int)(hS:∀v w,f v=some w→v∈S):∀m v,it f m v≠none→m≤S.length:=by
 obtain⟨r,hr⟩:=hf;induction hn:S.length generalizing S f r with
 |zero=>
  intro m v h;cases m with
  |zero=>omega
  |succ m=>
   exfalso;cases hfv:f v with
   |none=>exact h (by show(f v).bind _=none;rw[hfv];rfl)
   |some w=>simp_all
 |succ n ih=>
  intro m v h;cases m with
  |zero=>omega
  |succ m=>
   cases hfv:f v with
   |none=>exact absurd (by show(f v).bind _=none;rw[hfv];rfl) h
   |some w=>
    have hvS:=hS v w hfv;let g:Int→Option Int:=fun x=>if x=v then none else f x;have hg:∀x y,g x=some y→r y<r x:=fun x y hxy=>by grind
    have hgS:∀x y,g x=some y→x∈S.erase v:=fun x y hxy=>by grind
    have hlen:(S.erase v).length=n:=by simp_all
    have aaA:∀k x,r x<r v→it g k x=it f k x:=by
     intro k;induction k with
     |zero=>intros;rfl
     |succ k ihk=>
      intro x hx;have hxv:x≠v:=fun h=>by subst h;omega
      show(g x).bind (it g k)=(f x).bind (it f k);have:g x=f x:=by simp[g,hxv]
      rw[this];cases hfx:f x with
      |none=>rfl
      |some y=>grind
    have hw:it f m w≠none:=by simp_all[it]
    have:=ih (S.erase v) hgS r hg hlen m w (by simp_all);omega
theorem Jt(hp:Ag (nx p)){m:Nat}(hm:p.length<m)(v:Int):it (nx p) m v=none:=by
 cases h:it (nx p) m v with
 |none=>rfl
 |some w=>have:=Oj hp (p.map bA.a) (fun x y hxy=>by grind [acq]) m v (by simp_all);grind
theorem LK(hp:Ag (nx p))(x:bA)(h:x.stay=false∨(x.a≠x.b∧nx p x.a=none∧Cr p x.b x.a (p.length+1)=false)):Ag (nx (p++[x])):=by
 cases hs:x.stay with
 |false=>obtain⟨r,hr⟩:=hp;refine⟨r,fun v w hvw=>hr v w ?_⟩;simp_all[Br,akQ,No]
 |true=>
  rw[hs]at h;rcases h with h|⟨wb,hna,aiU⟩
  ·cases h
  have JQ:=hp;obtain⟨r,hr⟩:=hp;have DS:∀t,it (nx p) (t+1) x.b≠some x.a:=by grind [Cr,List.any_eq_false,Jt]
  let R:Int→Prop:=fun v=>∃t,it (nx p) t v=some x.a;have hRb:¬R x.b:=fun⟨t,ht⟩=>by
   cases t with
   |zero=>simp_all[it]
   |succ t=>exact DS t ht
  refine⟨fun v=>open Classical in if R v then r v+r x.b+1 else r v,fun v w hvw=>?_⟩;rw[Br,hs,aj3]at hvw;by_cases hv:x.a=v
  ·rw[GW (by simpa using hv)]at hvw;simp only[cN]at hvw;subst hvw;have hRv:R v:=⟨0,by show some v=some x.a;rw[hv]⟩;grind
  ·rw[No (by simpa using hv)]at hvw;have bT:=hr v w hvw;show(open Classical in if R w then r w+r x.b+1 else r w)<(open Classical in if R v then r v+r x.b+1 else r v);by_cases hw:R w
   ·have hRv:R v:=by obtain⟨t,ht⟩:=hw;exact⟨t+1,by simp_all[nx,it]⟩
    simp_all
   ·rw[No hw];by_cases hRv:R v
    ·rw[GW hRv];omega
    simp_all
def tb(a:Int):PV:=.int .i64 a
def jU(x:bA):Int×Int×Int×Int:=(x.a,x.ac,x.b,x.bc)
def LL(x:Int×Int×Int×Int):PV:=.agg [.int .i64 x.1,.int .i64 x.2.1,.int .i64 x.2.2.1,.int .i64 x.2.2.2]
theorem V3(a b:Int×Int×Int×Int):cz (LL a).cells (LL b).cells=decide (a=b):=by obtain⟨a1,a2,a3,a4⟩:=a;obtain⟨b1,b2,b3,b4⟩:=b;rw[akh];simp[LL,PV.cells,cz,peq]
def zw(p:List bA):List (Int×PV):=p.foldl (fun m x=>if x.stay=true then xp x.a (.int .i64 x.b) m else m) []
theorem Ah(p:List bA)(x:bA):zw (p++[x])=if x.stay=true then xp x.a (.int .i64 x.b) (zw p)else zw p:=by unfold zw;simp
def SJ(a:Int)(m:List (Int×PV)):Bool:=m.any fun x=>decide (a=x.1)
theorem Qa(a:Int):∀m,sH (tb a) (ow tb m)=SJ a m
 |[]=>rfl
 |(b,u)::r=>by have:=Qa a r;simp only[ow]at this;simp only[ow,ajr,sH,SJ,alb];rw[this];have:cz (tb a).cells (tb b).cells=decide (a=b):=yR a b;rw[this];rfl
theorem LM(a b:Int)(v:PV):∀m,SJ a (xp b v m)=(decide (a=b)||SJ a m)
 |[]=>by rfl
 |(c,u)::r=>by
  have:=LM a b v r;simp only[SJ]at this⊢;by_cases h:b=c
  ·subst h;simp[xp]
  ·simp only[xp,h,S3,alb,this];grind
theorem LN{A:Type}{P:List A→Prop}(h0:P [])(h1:∀p x,P p→P (p++[x]))(l:List A):P l:=by
 have key:∀n,n≤l.length→P (l.take n):=by
  intro n;induction n with
  |zero=>simp_all
  |succ n ih=>grind [List.take_succ_eq_append_getElem]
 have:=key l.length (ajo _);simp_all
theorem SK(p:List bA)(v:Int):s7 v (.int .i64 0) (zw p)=.int .i64 ((nx p v).getD 0):=by
 induction p using LN with
 |h0=>rfl
 |h1 p x ih=>
  rw[Ah,Br];cases hs:x.stay with
  |false=>simp_all
  |true=>rw[GW rfl,q7,aj3];grind
theorem V4(p:List bA)(v:Int):SJ v (zw p)=(nx p v).isSome:=by
 induction p using LN with
 |h0=>rfl
 |h1 p x ih=>
  rw[Ah,Br];cases hs:x.stay with
  |false=>simp_all
  |true=>rw[GW rfl,LM,aj3];grind
def pK(p:List bA):List (PV×PV):=ow tb (zw p)
theorem Ai(p:List bA)(v:Int):b9 (.int .i64 v) (.int .i64 0) (pK p)=.int .i64 ((nx p v).getD 0):=by have:=A1 (key:=tb) yR v (.int .i64 0) (zw p);rw[SK]at this;exact this
theorem Cs(p:List bA)(v:Int):sH (.int .i64 v) (pK p)=(nx p v).isSome:=by have:=Qa v (zw p);rw[V4]at this;exact this
theorem Ol(p:List bA)(x:bA):pK (p++[x])=if x.stay=true then df (.int .i64 x.a) (.int .i64 x.b) (pK p)else pK p:=by
 have:=DU (key:=tb) yR x.a (.int .i64 x.b) (zw p);unfold pK;rw[Ah];by_cases h:x.stay=true
 ·rw[GW h,GW h];exact this.symm
 simp_all
def uM(p:List bA):List Int:=(p.filter bA.stay).map bA.b
theorem Om(p:List bA)(x:bA):uM (p++[x])=if x.stay=true then uM p++[x.b]else uM p:=by grind [uM]
def acr(f:Int→Option Int)(a b:Int)(t:Nat):Option (Option PV):=(it f (t+1) a).elim (some (some (.bool false))) fun v=>if v=b then some (some (.bool true))else none
theorem On(f:Int→Option Int)(b:Int)(n:Nat):∀a,it f (n+1) a=none→ca ((List.range n).findSome? (acr f a b)) (some (.bool false))=some (.bool ((List.range (n+1)).any fun t=>decide (it f (t+1) a=some b))):=by
 induction n with
 |zero=>intro a h;simp[ca,h]
 |succ n ih=>
  intro a h;rw[akR (n:=n+1),akR (n:=n),ajY,alb];have h0:it f (0+1) a=f a:=by show(f a).bind (it f 0)=f a;cases hf:f a<;>rfl
  unfold acr;rw[h0];cases hf:f a with
  |none=>
   have hz:∀t,it f (t+1) a=none:=fun t=>by show(f a).bind _=none;rw[hf];rfl
   simp_all[Option.elim,ca,List.any_map,alf]
  |some v=>
   have hs:∀t,it f (t+1+1) a=it f (t+1) v:=fun t=>by show(f a).bind _=_;rw[hf];rfl
   by_cases hv:v=b
   ·simp_all[Option.elim,IS,ca,ajx,amg]
   ·have hd:decide (some v=some b)=false:=by simpa using hv
    simp only[Option.elim,No hv,hd,akr];have:=ih v (by rw[←hs];omega);rw[List.findSome?_map,List.any_map];simp only[alf,Nat.succ_eq_add_one,hs];rw[←akR];exact this
theorem Oo(p:List bA)(hp:Ag (nx p))(hl:p.length≤maxLen)(a b:Int):l8 [.rm 3 ((pK p).map fun x=>x.fst) ((pK p).map fun x=>x.snd),.int .i64 a,.int .i64 b]=some (.bool (Cr p a b (p.length+1))):=by
 have hz:((pK p).map fun x=>x.fst).zip ((pK p).map fun x=>x.snd)=pK p:=by
  generalize pK p=m;induction m with
  |nil=>rfl
  |cons x m ih=>simp_all
 simp only[l8,tT,cD,IS,asInt,aa,hz,Ai,Cs];unfold Cr;rw[←On (nx p) b p.length a (Jt hp (by omega) a)];refine br (fun t=>(PV.rm 3 ((pK p).map fun x=>x.fst) ((pK p).map fun x=>x.snd),b,(it (nx p) (t+1) a).getD 0,(it (nx p) (t+1) a).isSome,())) p.length _ (fun t ht rec=>?_) (fun rec=>?_) (by have:=bu;omega) ?_
 ·unfold kY acr;dsimp only;rw[ZW (nx p) (t+1) a];cases hv:it (nx p) (t+1) a with
  |none=>rfl
  |some v=>
   simp only[alC,aka,IS,jw,AT,Option.elim];by_cases hvb:v=b
   ·rw[GW hvb,GW hvb];rfl
   ·rw[No hvb,No hvb];simp only[cD,IS,hz,Ai,Cs,asInt,aa,ca,ajn]
 ·unfold kY;dsimp only;rw[Jt hp (by omega)];rfl
 ·show(_,b,(it (nx p) 1 a).getD 0,(it (nx p) 1 a).isSome,())=_;have:it (nx p) 1 a=nx p a:=by show(nx p a).bind _=_;cases nx p a<;>rfl
  rw[this]
def dL(runs:List ec)(a:Int):List aR:=((runs[a.toNat]?).map ec.calls).getD []
def Ct(cs:List aR)(c:Int):Int:=((cs[c.toNat]?).map aR.stop).getD 0
def SL(x:bA)(R:Int):Bool:= !(decide (x.a≥0)&&decide (x.a<R))|| !(decide (x.b≥0)&&decide (x.b<R))||decide (x.a=x.b)
def Qb(x:bA)(A B:Int):Bool:= !(decide (x.ac≥0)&&decide (x.ac<A))|| !(decide (x.bc≥0)&&decide (x.bc<B))
def H0(p:List bA)(x:bA)(A:Int):Bool:=x.stay&&(!decide (x.ac+1=A)|| !decide (x.bc=0)||(nx p x.a).isSome||decide (x.b∈uM p)||Cr p x.b x.a (p.length+1))
def l9(runs:List ec)(l:List bA)(k:Nat):Int:=match l[k]? with
 |none=>0
 |some x=>if SL x runs.length=true then 9 else if Qb x (dL runs x.a).length (dL runs x.b).length=true then 9 else if Ct (dL runs x.a) x.ac≠Ct (dL runs x.b) x.bc then 13 else if H0 (l.take k) x (dL runs x.a).length=true then 19 else if jU x∈(l.map jU).take k then 6 else 0
def xI(runs:List ec)(l:List bA):Int×Int:=if l.length>1024 then(0,5)else cW (l9 runs l) l.length
theorem Oq(runs:List ec)(l:List bA)(k:Nat)(hk:k≤l.length)(h:∀j,j<k→l9 runs l j=0):Ag (nx (l.take k))∧∀x∈l.take k,0≤x.a:=by
 induction k with
 |zero=>simp[ak0,Oi]
 |succ k ih=>
  have DQ:k<l.length:=by omega
  obtain⟨h1,h2⟩:=ih (by omega) fun j hj=>h j (by omega);have hz:=h k (by omega);unfold l9 at hz;rw[cO DQ]at hz;simp only at hz;have hr:SL l[k] runs.length=false:=by grind
  have hs:H0 (l.take k) l[k] (dL runs l[k].a).length=false:=by grind
  unfold SL at hr;simp only[ajT,akg,OF,AT,akj]at hr;rw[ajq DQ];refine⟨LK h1 l[k] ?_,fun x hx=>?_⟩
  ·unfold H0 at hs;cases uf:l[k].stay with
   |false=>simp
   |true=>simp_all
  grind
theorem LO(runs:List ec)(a:Int)(h:0≤a∧a<(runs.length:Int)):∃r∈runs,fM (runs.map ec.pv) a=some r.pv∧dL runs a=r.calls:=by
 obtain⟨n,rfl⟩:=ala h.1;have hn:n<runs.length:=by omega
 refine⟨runs[n],ajm hn,?_,?_⟩
 ·rw[aN,IN,cO hn];rfl
 ·unfold dL;simp_all
theorem H2(cs:List aR)(c:Int)(h:0≤c∧c<(cs.length:Int)):∃r,fM (cs.map aR.pv) c=some r∧cell r 0=.int .i64 (Ct cs c):=by
 obtain⟨n,rfl⟩:=ala h.1;have hn:n<cs.length:=by omega
 refine⟨cs[n].pv,?_,?_⟩
 ·rw[aN,IN,cO hn];rfl
 ·unfold Ct;rw[ajk,cO hn];rfl
theorem LP{runs:List ec}(h:∀y∈runs,y.Ok)(a:Int):(dL runs a).length≤maxLen:=by
 unfold dL;cases hr:runs[a.toNat]? with
 |none=>simp
 |some r=>exact(h r (agx hr)).calls.1
theorem LQ(N:ae)(runs:List ec)(hr:∀y∈runs,y.Ok)(l:List bA)(hl:l.length≤maxLen)(k:Nat)(hk:k<l.length)(UD:∀j,j<k→l9 runs l j=0)(rec:TY0→Option PV):gf (l.map bA.pv,(l.length:Int),(k:Int),N.stops.map Stop.pv,N.ar.map aT.pv,runs.map ec.pv,l.map bA.pv,N.paths.map Path.pv,N.ba.map aV.pv,N.bY,N.within,N.cap,0,0,0,pK (l.take k),seen tb (uM (l.take k)),seen LL ((l.map jU).take k),()) rec=ca (if l9 runs l k=0 then none else some (some (r3 3 k (l9 runs l k)))) (rec (l.map bA.pv,(l.length:Int),((k+1:Nat):Int),N.stops.map Stop.pv,N.ar.map aT.pv,runs.map ec.pv,l.map bA.pv,N.paths.map Path.pv,N.ba.map aV.pv,N.bY,N.within,N.cap,0,0,0,pK (l.take (k+1)),seen tb (uM (l.take (k+1))),seen LL ((l.map jU).take (k+1)),())):=by
 have hm:=aQ;have h1:decide ((k:Int)<(l.length:Int))=true:=by simp;omega
 obtain⟨aeI,_⟩:=Oq runs l k (by omega) UD;have hlen:(l.take k).length=k:=by simp;omega
 have acs:=Oo (l.take k) aeI (by omega) l[k].b l[k].a;have mr:df (.agg [.int .i64 l[k].a,.int .i64 l[k].ac,.int .i64 l[k].b,.int .i64 l[k].bc]) (.bool true) (seen LL ((l.map jU).take k))=_:=fi V3 (jU l[k]) ((l.map jU).take k);have kA:b9 (.agg [.int .i64 l[k].a,.int .i64 l[k].ac,.int .i64 l[k].b,.int .i64 l[k].bc]) (.bool false) (seen LL ((l.map jU).take k))=_:=eh V3 (jU l[k]) ((l.map jU).take k);have aeJ:df (.int .i64 l[k].b) (.bool true) (seen tb (uM (l.take k)))=_:=fi (key:=tb) yR l[k].b (uM (l.take k));have acu:b9 (.int .i64 l[k].b) (.bool false) (seen tb (uM (l.take k)))=_:=eh (key:=tb) yR l[k].b (uM (l.take k));have hsn:l.take (k+1)=l.take k++[l[k]]:=ajq hk;unfold gf;dsimp only;rw[GW h1,aN,IN,cO hk,hsn,Ol,Om,jz jU l k hk];simp only[ajg,aa,aaT,aaU,link2,aaV,aaW,asInt,asBool,IS,BY,Af,bh,jw];unfold l9;rw[cO hk];simp only;have hR:(!(decide (l[k].a≥0)&&decide (l[k].a<(runs.length:Int)))|| !(decide (l[k].b≥0)&&decide (l[k].b<(runs.length:Int)))||decide (l[k].a=l[k].b))=SL l[k] runs.length:=rfl;rw[hR];cases hb:SL l[k] runs.length with
 |true=>rfl
 |false=>
  unfold SL at hb;simp only[ajT,akg,OF,AT,akj]at hb;obtain⟨ra,hra,hia,hca⟩:=LO runs l[k].a ⟨hb.1.1.1,hb.1.1.2⟩;obtain⟨rb,hrb,hib,hcb⟩:=LO runs l[k].b ⟨hb.1.2.1,hb.1.2.2⟩;have hA:=LP hr l[k].a;rw[hia,hib];simp only[aa,I2,aw,IS,BY,←hca,←hcb,Af,asBool,bh];have hC:(!(decide (l[k].ac≥0)&&decide (l[k].ac<((dL runs l[k].a).length:Int)))|| !(decide (l[k].bc≥0)&&decide (l[k].bc<((dL runs l[k].b).length:Int))))=Qb l[k] (dL runs l[k].a).length (dL runs l[k].b).length:=rfl;rw[hC];cases RV:Qb l[k] (dL runs l[k].a).length (dL runs l[k].b).length with
  |true=>rfl
  |false=>
   unfold Qb at RV;simp only[ajT,akg,OF,AT]at RV;obtain⟨ka,hka,hsa⟩:=H2 (dL runs l[k].a) l[k].ac RV.1;obtain⟨kb,hkb,hsb⟩:=H2 (dL runs l[k].b) l[k].bc RV.2;have hw:IntKind.i64.wrap (l[k].ac+1)=l[k].ac+1:=aY (by omega) (by omega);simp only[cQ,S3,hka,hkb,aa,hsa,hsb,Ai,Cs,kA,acu,mr,aeJ,asInt,asBool,IS,acs,hw,hlen,bh,bE,pI,LD,Tx,VW,VX,SG,al (show k<9223372036854775807 by omega)];have hS:(l[k].stay&&(!decide (l[k].ac+1=((dL runs l[k].a).length:Int))|| !decide (l[k].bc=0)||(nx (l.take k) l[k].a).isSome||decide (l[k].b∈uM (l.take k))||Cr (l.take k) l[k].b l[k].a (k+1)))=H0 (l.take k) l[k] (dL runs l[k].a).length:=by unfold H0;rw[hlen]
   rw[hS];generalize H0 (l.take k) l[k] (dL runs l[k].a).length=S;by_cases uf:Ct (dL runs l[k].a) l[k].ac=Ct (dL runs l[k].b) l[k].bc
   ·simp only[uf,ajx,aji,cQ,S3,ne_eq,not_true];cases S with
    |true=>rfl
    |false=>
     by_cases bX:jU l[k]∈(l.map jU).take k
     ·simp only[bX,ajx,IS,cQ,S3];rfl
     ·simp only[bX,ajz,IS,cQ,S3];cases l[k].stay<;>rfl
   ·simp only[uf,ajz,ajC,IS,ne_eq,not_false_eq_true];rfl
theorem GQ(N:ae)(hr:N.runs.length≤maxLen∧∀y∈N.runs,y.Ok)(hl:N.bj.length≤maxLen):eI [N.pv]=some (prt 3 (xI N.runs N.bj)):=by
 have hm:=aQ;simp only[eI,mB,A8,A9,Ba,Bb,Bc,Bd,Be,Bf,Bg,Bh,aa,BY];generalize hl':N.bj=l at hl⊢;generalize wF:N.runs=runs at hr⊢;unfold xI;by_cases vV:l.length>1024
 ·rw[GW (by simp;omega),GW vV];rfl
 ·rw[No (by simp;omega),No vV];have hR:some (prt 3 (cW (l9 runs l) l.length))=if(cW (l9 runs l) l.length).2=0 then some (r3 0 0 0)else some (r3 3 (cW (l9 runs l) l.length).1 (cW (l9 runs l) l.length).2):=by unfold prt;grind
  rw[hR,←yP (l9 runs l) l.length (fun i e=>r3 3 i e)];refine GN (fun k=>(l.map bA.pv,(l.length:Int),(k:Int),N.stops.map Stop.pv,N.ar.map aT.pv,runs.map ec.pv,l.map bA.pv,N.paths.map Path.pv,N.ba.map aV.pv,N.bY,N.within,N.cap,0,0,0,pK (l.take k),seen tb (uM (l.take k)),seen LL ((l.map jU).take k),())) l.length _ (fun k hk UD rec=>LQ N runs hr.2 l hl k hk (fun j hj=>?_) rec) (fun _ rec=>?_) (by have:=bu;omega) rfl
  ·simp_all
  ·unfold gf;dsimp only;rw[No (by simp)];rfl
def vt(N:ae):Int×Int×Int:=
 if(kU N.stops).2=0 then
  if(kv N.ar).2=0 then
   if(vE N.runs N.stops.length N.ar.length).2=0 then
    if(xI N.runs N.bj).2=0 then
     if(uL N.paths N.stops.length).2=0 then if(kV N.ba N.bY N.within N.cap).2=0 then(0,0,0)else(5,kV N.ba N.bY N.within N.cap)
     else(4,uL N.paths N.stops.length)
    else(3,xI N.runs N.bj)
   else(2,vE N.runs N.stops.length N.ar.length)
  else(1,kv N.ar)
 else(0,kU N.stops)
def xx(x:Int×Int×Int):PV:=.aP [.int .i64 x.1,.int .i64 x.2.1,.int .i64 x.2.2]
theorem r3E(p i e:Int):PV.agg [cell (r3 p i e) 0,cell (r3 p i e) 1,cell (r3 p i e) 2]=r3 p i e:=rfl
theorem r3F(p i e:Int):PV.agg [.int .i64 p,.int .i64 i,.int .i64 e]=r3 p i e:=rfl
theorem xJ(p i e q j f:Int):dU [.rs 3 [r3 p i e,r3 q j f]]=some (if e=0 then(if f=0 then r3 0 0 0 else r3 q j f)else r3 p i e):=by
 simp only[dU,tU,aw,IS,aa];have h0:=br (body:=kZ) (fun k=>([r3 p i e,r3 q j f],(2:Int),(k:Int),0,0,0,())) 2 (fun k=>if k=0 then(if e=0 then none else some (some (r3 p i e)))else(if f=0 then none else some (some (r3 q j f)))) (fin:=some (r3 0 0 0)) (fun k hk rec=>?_) (fun rec=>?_) (by decide) (s0:=([r3 p i e,r3 q j f],(2:Int),0,0,0,0,())) rfl
 ·refine h0.trans ?_;have:List.range 2=[0,1]:=rfl;grind [ca]
 ·have h2:k=0∨k=1:=by omega
  rcases h2 with rfl|rfl
  ·unfold kZ;dsimp only;rw[GW (by simp),aN];simp only[ajK,aa,SG,asInt,IS,pI,r3E,al (show 0<9223372036854775807 by omega)];by_cases he:e=0
   ·simp only[he,ajx,aji,cQ,S3,IS];rfl
   ·simp only[he,ajz,ajC,S3,IS];rfl
  ·unfold kZ;dsimp only;rw[GW (by simp),aN];simp only[akN,ajK,aa,SG,asInt,IS,pI,r3E,al (show 1<9223372036854775807 by omega)];by_cases he:f=0
   ·simp only[he,ajx,aji,cQ,S3,IS];rfl
   ·simp only[he,ajz,ajC,S3,IS];rfl
 rfl
theorem Ot(p:Int)(x:Int×Int):prt p x=if x.2=0 then r3 0 0 0 else r3 p x.1 x.2:=rfl
theorem HQ{l:List Stop}(h:(kU l).2=0):l.length≤64:=by unfold kU at h;grind
theorem F1(a b:Int):(a==b)=decide (a=b):=jw a b
theorem zZ(N:ae)(h:N.Ok)(hp:N.paths.length≤4096):eY [N.pv]=some (xx (vt N)):=by
 have hs:=HY N.stops h.stops;have hr:=FV N.ar h.ar;have hu:=Js N h.runs;have hl:=GQ N h.runs h.bj.1;have hf:=vB N.ba N.bY N.within N.cap h.ba;unfold fx at hf;simp only[eY,tV,A8,A9,Ba,Bb,Bc,Bd,Be,Bf,Bg,Bh,aa,La];simp only[hs,hr,hf,hu,hl,aa,res,dq,ajj,ajs,Nat.reduceAdd,IS,ajf,ajh,LD,Tx,r3F,xJ];unfold vt;by_cases h1:(kU N.stops).2=0
 ·have hpa:=GP N (HQ h1) hp;simp only[hpa,aa,h1,IS];by_cases h2:(kv N.ar).2=0
  ·simp only[h2,IS];rw[Ot 2,Ot 3,Ot 4];by_cases h3:(vE N.runs N.stops.length N.ar.length).2=0
   ·simp only[h3,IS];by_cases h4:(xI N.runs N.bj).2=0
    ·simp only[h4,IS];by_cases h5:(uL N.paths N.stops.length).2=0
     ·simp only[h5,IS];by_cases h6:(kV N.ba N.bY N.within N.cap).2=0
      ·simp only[h6,IS,Tx,r3F,VW,VX,SG,asInt,aa,xJ,F1,ajx,ajz,cQ,xx]
      ·simp only[h6,IS,S3,Tx,r3F,VW,VX,SG,asInt,aa,xJ,F1,ajx,ajz,cQ,xx]
     ·simp only[h5,IS,S3,Tx,r3F,VW,VX,SG,asInt,aa,xJ,F1,ajx,ajz,cQ,xx]
    ·simp only[h4,IS,S3,Tx,r3F,VW,VX,SG,asInt,aa,xJ,F1,ajx,ajz,cQ,xx]
   ·simp only[h3,IS,S3,Tx,r3F,VW,VX,SG,asInt,aa,xJ,F1,ajx,ajz,cQ,xx]
  ·simp only[h2,IS,S3,Tx,r3F,VW,VX,SG,asInt,aa,xJ,F1,ajx,ajz,cQ,xx]
 ·simp only[h1,IS,S3,Tx,r3F,VW,VX,SG,asInt,aa,xJ,F1,ajx,ajz,cQ,xx]
theorem FG{N:ae}(h:(vt N).2.2=0):∀k,k<N.runs.length→pX N.runs N.stops.length N.ar.length k=0:=by
 unfold vt at h;by_cases h1:(kU N.stops).2=0
 ·rw[GW h1]at h;by_cases h2:(kv N.ar).2=0
  ·rw[GW h2]at h;by_cases h3:(vE N.runs N.stops.length N.ar.length).2=0
   ·unfold vE at h3;by_cases vV:N.runs.length>1024
    ·simp_all
    simp_all[No,oI]
   simp_all
  simp_all
 simp_all
theorem Df{N:ae}(h:(vt N).2.2=0):∀r∈N.runs,(jT r.calls N.stops.length 0 3155932800).2=0:=by intro r hr;obtain⟨k,hk,rfl⟩:=akq hr;have:=FG h k hk;unfold pX at this;grind
theorem Lr{l:List aR}{n a b:Int}(h:(jT l n a b).2=0):2≤l.length∧l.length≤32:=by unfold jT at h;grind
theorem Lh{l:List aR}{n a b:Int}(h:(jT l n a b).2=0):∀k,k<l.length→vv l n a b k=0:=by
 unfold jT at h;by_cases hc:(decide ((l.length:Int)<2)||decide ((l.length:Int)>32))=true
 ·simp_all
 simp_all[No,oI]
end Go.Ab.Tt
