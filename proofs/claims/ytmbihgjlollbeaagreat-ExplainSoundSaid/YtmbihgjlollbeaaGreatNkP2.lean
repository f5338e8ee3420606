import Derived.Test.YtmbihgjlollbeaaGreatNkP1
import Derived.Test.YtmbihgjlollbeaaGreatNwP2
namespace Go.Ab.Tt
set_option maxRecDepth 100000
set_option linter.all false
def dd(x:Path):Int×Int×Bool:=(x.a,x.b,x.free)
def CH(x:Int×Int×Bool):PV:=.agg [.int .i64 x.1,.int .i64 x.2.1,.bool x.2.2]
theorem Mk(a b:Int×Int×Bool):cu (CH a).cells (CH b).cells=decide (a=b):=by obtain⟨a1,a2,a3⟩:=a;obtain⟨b1,b2,b3⟩:=b;rw[ak9];simp[CH,PV.cells,cu,peq]
def gC(l:List Path)(n:Int)(k:Nat):Int:=match l[k]? with
 |none=>0
 |some x=>if(decide (x.a<0)||decide (x.a≥n)||decide (x.b<0)||decide (x.b≥n)||decide (x.a=x.b))=true then 9 else if(decide (x.jD<1)||decide (x.jD>14400))=true then 2 else if dd x∈(l.map dd).take k then 6 else 0
theorem Gx(l:List Path)(n:Int)(hl:l.length≤maxLen):iO [.rs 4 (l.map Path.pv),.int .i64 n]=some (res (cX (gC l n) l.length).1 (cX (gC l n) l.length).2):=by
 have hm:=aT;simp only[iO,sW,aw,asInt,Ko,U,BY];rw[←kH];refine br (fun k=>(n,l.map Path.pv,(l.length:Int),(k:Int),seen CH ((l.map dd).take k),())) l.length _ (fun k hk rec=>?_) (fun rec=>?_) ?_ rfl
 ·have h1:(k:Int)<(l.length:Int):=by omega
  have mJ:dh (.agg [.int .i64 l[k].a,.int .i64 l[k].b,.bool l[k].free]) (.bool true) (seen CH ((l.map dd).take k))=_:=fp Mk (dd l[k]) ((l.map dd).take k);have kJ:b9 (.agg [.int .i64 l[k].a,.int .i64 l[k].b,.bool l[k].free]) (.bool false) (seen CH ((l.map dd).take k))=_:=ep Mk (dd l[k]) ((l.map dd).take k);simp only[n9,AT,h1,Ko,aM,IT,cN hk,akb,U,QY,QZ,Q0,Q1,asInt,asBool,mJ,kJ,iG,aj (show k<9223372036854775807 by omega),jE dd l k hk];unfold gC;rw[cN hk];simp only;by_cases bW:dd l[k]∈(l.map dd).take k
  ·simp only[bW,Ko];by_cases e1:l[k].a<0<;>by_cases e2:l[k].a≥n<;>by_cases e3:l[k].b<0<;>by_cases e4:l[k].b≥n<;>by_cases e5:l[k].a=l[k].b<;>by_cases e6:l[k].jD<1<;>by_cases e7:l[k].jD>14400<;>simp only[e1,e2,e3,e4,e5,e6,e7,akv,akw,amS,am9,alJ,Ko,abp,cQ]<;>rfl
  ·simp only[bW,abp,cQ];by_cases e1:l[k].a<0<;>by_cases e2:l[k].a≥n<;>by_cases e3:l[k].b<0<;>by_cases e4:l[k].b≥n<;>by_cases e5:l[k].a=l[k].b<;>by_cases e6:l[k].jD<1<;>by_cases e7:l[k].jD>14400<;>simp only[e1,e2,e3,e4,e5,e6,e7,akv,akw,amS,am9,alJ,Ko,abp,cQ]<;>rfl
 ·simp only[n9,AT,akB,abp];rfl
 ·have:=bw;omega
def toFp(p:Path):Nw.Fp:=⟨p.a.toNat,p.b.toNat,p.jD.toNat,p.free⟩
def Sound(l:List Path)(n:Nat):Prop:=∀p∈l,0≤p.a∧p.a<n∧0≤p.b∧p.b<n∧1≤p.jD∧p.jD≤14400
variable{l:List Path}{n:Nat}
theorem W7(h:(cX (gC l n) l.length).2=0):Sound l n:=by intro p hp;obtain⟨k,hk,rfl⟩:=ali hp;have h0:=(kD _ _).1 h k hk;unfold gC at h0;grind
theorem toFp_pv{p:Path}(h1:0≤p.a)(h2:0≤p.b)(h3:1≤p.jD):(toFp p).pv=p.pv:=by grind [toFp,Nw.Fp.pv,Path.pv,Int.toNat_of_nonneg]
theorem W8(h:Sound l n):(l.map toFp).map Nw.Fp.pv=l.map Path.pv:=by rw[al5];apply akF;intro p hp;exact toFp_pv (h p hp).1 (h p hp).2.2.1 (h p hp).2.2.2.2.1
def Rc(e:List PV):Path:=match e with|[.int .i64 a,.int .i64 b,.int .i64 s,.bool f]=>⟨a,b,s,f⟩|_=>⟨0,0,0,false⟩
theorem Gy:∀(L:List (List PV)),(∀e∈L,Nw.IsF e)→eH L=(L.map Rc).map Path.pv
 |[],_=>rfl
 |e::L,h=>by obtain⟨i,k,s,b,rfl⟩:=h e (by simp);have:=Gy L fun x hx=>h x (by simp[hx]);unfold eH at this⊢;rw[akn,akn,akn,this];rfl
def sX(l:List Path)(n:Nat):List Path:=(Nw.He n (Nw.vg n (l.map toFp) false) (Nw.vg n (l.map toFp) true)).map Rc
theorem TQ(hn:n≤64)(hl:l.length≤4096)(h:Sound l n):ga [.rs 4 (l.map Path.pv),.int .i64 n]=some (.rs 4 ((sX l n).map Path.pv))∧oa [.rs 4 (l.map Path.pv),.int .i64 n]=some (.rs 4 ((sX l n).map Path.pv)):=by have:=Nw.Pd (l.map toFp) n hn (by simpa using hl) (fun p hp=>by obtain⟨q,hq,rfl⟩:=akt.1 hp;have:=h q hq;simp only[toFp];omega);rw[W8 h,Gy _ (Nw.Ml n _ _)]at this;exact this
theorem W9(l:List Path)(n:Nat)(hn:n≤64):(sX l n).length≤8192:=by
 have h1:(sX l n).length=(eH (Nw.He n (Nw.vg n (l.map toFp) false) (Nw.vg n (l.map toFp) true))).length:=by simp[sX,eH]
 rw[h1,Nw.CI];have h2:=Nw.BJ (it:=fun i k=>Nw.DZ (Nw.vg n (l.map toFp) false i k) (Nw.vg n (l.map toFp) true i k) i k) (fun i k=>Nw.J1 _ _ i k) n n;have h3:2*n*n≤2*64*64:=amd (alr 2 hn) hn;omega
theorem Xa(x y:Path):cu [cell x.pv 0,cell x.pv 1,cell x.pv 2,cell x.pv 3] [cell y.pv 0,cell y.pv 1,cell y.pv 2,cell y.pv 3]=decide (x=y):=by rw[ak9];obtain⟨a,b,c,d⟩:=x;obtain⟨a',b',c',d'⟩:=y;simp[QY,QZ,Q0,Q1,cu,peq]
theorem Mm(x:Path):lK (Kd.int IntKind.i64::[].append (Kd.int IntKind.i64::[].append (Kd.int IntKind.i64::[].append (Kd.bool::[].append [])))) [cell x.pv 0,cell x.pv 1,cell x.pv 2,cell x.pv 3]=true:=rfl
def zo(l:List Path)(n:Nat):Bool:=decide (sX l n=l)
theorem Mn(hn:n≤64)(hl:l.length≤4096)(h:(cX (gC l n) l.length).2=0):gW [.rs 4 (l.map Path.pv),.int .i64 n]=some (.bool (zo l n)):=by
 have hm:4096≤maxLen:=by decide
 have hs:=Gx l n (by omega);have hf:=TR _ _ h;rw[h,hf]at hs;have hc:=(TQ hn hl (W7 h)).1;have xl:=W9 l n hn;have vP:¬decide ((n:Int)>64)=true:=by simp;omega
 have h0:¬(0:Int)>(n:Int):=by omega
 simp only[gW,ob,aw,asInt,Ko,U];rw[IS vP,hs];simp only[res,dn,akd,akm,Nat.reduceAdd,Ko,U,ajc,aka,asInt,IS h0,hc,aw,BY];rw[IS (by simp)];unfold zo;by_cases hlen:(sX l n).length=l.length
 ·rw[IS (by simp[pW,hlen])];have hr:=aba (sX l n) l hlen (some (PV.bool false)) (some (PV.bool true));have:some (PV.bool (decide (sX l n=l)))=if sX l n=l then some (PV.bool true)else some (PV.bool false):=by grind
  rw[this,←hr];refine br (fun k=>(l.map Path.pv,(sX l n).map Path.pv,((sX l n).length:Int),(k:Int),())) (sX l n).length _ (fun k hk rec=>?_) (fun rec=>?_) ?_ rfl
  ·have h1:decide ((k:Int)<((sX l n).length:Int))=true:=by simp;omega
   have DT:k<l.length:=by omega
   unfold kK;dsimp only;rw[AI h1,aM,IT,cN hk,aM,IT,cN DT];simp only[akb,U];rw[AI ⟨Mm _,Mm _⟩,Xa,aj (by omega)];grind [sX,ca]
  ·simp[kK,IS]
  ·have:=bw;omega
 ·rw[AI (by simp[pW];omega)];rw[alC (fun hc=>hlen (by rw[hc]))]
def vh(l:List Path)(n:Nat):Int×Int:=if(cX (gC l n) l.length).2=0 then(if zo l n=true then(0,0)else(0,18))else cX (gC l n) l.length
def uq(x:Int×Int×Bool):PV:=.agg [.int .i64 x.1,.int .i64 x.2.1,.int .i64 0,.bool x.2.2]
theorem afG(a b:Int×Int×Bool):cu (uq a).cells (uq b).cells=decide (a=b):=by obtain⟨a1,a2,a3⟩:=a;obtain⟨b1,b2,b3⟩:=b;rw[ak9];simp[uq,PV.cells,cu,peq]
theorem DB(N:ab)(l:List Path)(n:Nat)(hl:l.length≤4096)(hlen:(N.stops.map Stop.pv).length=n)(k:Nat)(hk:k<l.length)(rec:abb→Option PV):cy (l.map Path.pv,(l.length:Int),(k:Int),N.stops.map Stop.pv,N.au.map aV.pv,N.runs.map dL.pv,N.bj.map bB.pv,l.map Path.pv,N.aP.map aR.pv,N.bX,N.within,N.cap,0,0,0,seen uq ((l.map dd).take k),()) rec=ca (if gC l n k=0 then none else some (some (r3 4 k (gC l n k)))) (rec (l.map Path.pv,(l.length:Int),((k+1:Nat):Int),N.stops.map Stop.pv,N.au.map aV.pv,N.runs.map dL.pv,N.bj.map bB.pv,l.map Path.pv,N.aP.map aR.pv,N.bX,N.within,N.cap,0,0,0,seen uq ((l.map dd).take (k+1)),())):=by
 have h1:decide ((k:Int)<(l.length:Int))=true:=by simp;omega
 have mJ:dh (.agg [.int .i64 l[k].a,.int .i64 l[k].b,.int .i64 0,.bool l[k].free]) (.bool true) (seen uq ((l.map dd).take k))=_:=fp afG (dd l[k]) ((l.map dd).take k);have kJ:b9 (.agg [.int .i64 l[k].a,.int .i64 l[k].b,.int .i64 0,.bool l[k].free]) (.bool false) (seen uq ((l.map dd).take k))=_:=ep afG (dd l[k]) ((l.map dd).take k);unfold cy;dsimp only;rw[AI h1,aM,IT,cN hk,hlen];simp only[akb,U,QY,QZ,Q0,Q1,asInt,asBool,Ko,AJ,bf,iG,mJ,kJ,Mj,UD,W5,W6,TP,jE dd l k hk,aj (show k<9223372036854775807 by omega)];have hA:(!(decide (l[k].a≥0)&&decide (l[k].a<(n:Int)))|| !(decide (l[k].b≥0)&&decide (l[k].b<(n:Int)))||decide (l[k].a=l[k].b))=(decide (l[k].a<0)||decide (l[k].a≥(n:Int))||decide (l[k].b<0)||decide (l[k].b≥(n:Int))||decide (l[k].a=l[k].b)):=by grind
 rw[hA];unfold gC;rw[cN hk];simp only;generalize (decide (l[k].a<0)||decide (l[k].a≥(n:Int))||decide (l[k].b<0)||decide (l[k].b≥(n:Int))||decide (l[k].a=l[k].b))=A;generalize (decide (l[k].jD<1)||decide (l[k].jD>14400))=B;by_cases bW:dd l[k]∈(l.map dd).take k
 ·simp only[bW,Ko];cases A<;>cases B<;>rfl
 ·simp only[bW,abp];cases A<;>cases B<;>rfl
theorem Hf(N:ab)(hn:N.stops.length≤64)(hl:N.paths.length≤4096):cG [N.pv]=some (prt 4 (vh N.paths N.stops.length)):=by
 have hm:4096≤maxLen:=by decide
 simp only[cG,mN,wK,wL,wM,wN,wO,wP,wQ,wR,wS,wT,U,BY];generalize hl':N.paths=l at hl⊢;generalize Zm:N.stops.length=n at hn⊢;have hlen:(N.stops.map Stop.pv).length=n:=by simpa using Zm
 have hg:=zn (gC l n) l.length (fun i e=>r3 4 i e) (some (if zo l n=true then r3 0 0 0 else r3 4 0 18));have hR:some (prt 4 (vh l n))=if(cX (gC l n) l.length).2=0 then some (if zo l n=true then r3 0 0 0 else r3 4 0 18)else some (r3 4 (cX (gC l n) l.length).1 (cX (gC l n) l.length).2):=by unfold vh prt;grind
 rw[hR,←hg];by_cases hz:(cX (gC l n) l.length).2=0
 ·refine br (fun k=>(l.map Path.pv,(l.length:Int),(k:Int),N.stops.map Stop.pv,N.au.map aV.pv,N.runs.map dL.pv,N.bj.map bB.pv,l.map Path.pv,N.aP.map aR.pv,N.bX,N.within,N.cap,0,0,0,seen uq ((l.map dd).take k),())) l.length _ (fun k hk rec=>DB N l n hl hlen k hk rec) (fun rec=>?_) ?_ rfl
  ·unfold cy;dsimp only;rw[IS (by simp),hlen,Mn hn hl hz];simp only[U,asBool,Mj,UD,W5,W6,TP];cases zo l n<;>rfl
  ·have:=bw;omega
 ·have vp:=br (body:=cy) (fun k=>(l.map Path.pv,(l.length:Int),(k:Int),N.stops.map Stop.pv,N.au.map aV.pv,N.runs.map dL.pv,N.bj.map bB.pv,l.map Path.pv,N.aP.map aR.pv,N.bX,N.within,N.cap,0,0,0,seen uq ((l.map dd).take k),())) l.length _ (fin:=cy (l.map Path.pv,(l.length:Int),(l.length:Int),N.stops.map Stop.pv,N.au.map aV.pv,N.runs.map dL.pv,N.bj.map bB.pv,l.map Path.pv,N.aP.map aR.pv,N.bX,N.within,N.cap,0,0,0,seen uq ((l.map dd).take l.length),()) fun _=>none) (fun k hk rec=>DB N l n hl hlen k hk rec) (fun rec=>?_) (by have:=bw;omega) (s0:=(l.map Path.pv,(l.length:Int),0,N.stops.map Stop.pv,N.au.map aV.pv,N.runs.map dL.pv,N.bj.map bB.pv,l.map Path.pv,N.aP.map aR.pv,N.bX,N.within,N.cap,0,0,0,[],())) rfl
  ·simp_all[zn,IS]
  simp[cy,IS]
def oc(x:dL):Bytes×Int×Int:=(x.id,x.day,x.inst)
def Mo(x:Bytes×Int×Int):PV:=.agg [.str x.1,.int .i64 x.2.1,.int .i64 x.2.2]
theorem Xb(a b:Bytes×Int×Int):cu (Mo a).cells (Mo b).cells=decide (a=b):=by obtain⟨a1,a2,a3⟩:=a;obtain⟨b1,b2,b3⟩:=b;rw[ak9];simp[Mo,PV.cells,cu,peq]
def oU(l:List dL)(stops au:Int)(k:Nat):Int:=match l[k]? with
 |none=>0
 |some x=>if lR x.id=false then 12 else if(decide (x.bO< -1)||decide (x.inst<0))=true then 2 else if(decide (x.day<0)||decide (x.day>36524))=true then 11 else if(decide (x.fo<0)||decide (x.fo≥au))=true then 9 else if(j3 x.calls stops 0 3155932800).2=0 then(if oc x∈(l.map oc).take k then 6 else 0)else(j3 x.calls stops 0 3155932800).2
def vZ(l:List dL)(stops au:Int):Int×Int:=if l.length>1024 then(0,5)else cX (oU l stops au) l.length
theorem Pe(N:ab)(l:List dL)(hl:l.length≤maxLen∧∀y∈l,y.Ok)(k:Nat)(hk:k<l.length)(rec:abb→Option PV):gD (l.map dL.pv,(l.length:Int),(k:Int),N.stops.map Stop.pv,N.au.map aV.pv,l.map dL.pv,N.bj.map bB.pv,N.paths.map Path.pv,N.aP.map aR.pv,N.bX,N.within,N.cap,0,0,0,seen Mo ((l.map oc).take k),()) rec=ca (if oU l N.stops.length N.au.length k=0 then none else some (some (r3 2 k (oU l N.stops.length N.au.length k)))) (rec (l.map dL.pv,(l.length:Int),((k+1:Nat):Int),N.stops.map Stop.pv,N.au.map aV.pv,l.map dL.pv,N.bj.map bB.pv,N.paths.map Path.pv,N.aP.map aR.pv,N.bX,N.within,N.cap,0,0,0,seen Mo ((l.map oc).take (k+1)),())):=by
 have hm:=aT;have h1:decide ((k:Int)<(l.length:Int))=true:=by simp;omega
 have hO:=hl.2 _ (aki hk);have hid:=vf l[k].id hO.id;have zT:=Ix l[k].calls N.stops.length 0 3155932800 hO.calls.1;simp only[res]at zT;have mJ:dh (.agg [.str l[k].id,.int .i64 l[k].day,.int .i64 l[k].inst]) (.bool true) (seen Mo ((l.map oc).take k))=_:=fp Xb (oc l[k]) ((l.map oc).take k);have kJ:b9 (.agg [.str l[k].id,.int .i64 l[k].day,.int .i64 l[k].inst]) (.bool false) (seen Mo ((l.map oc).take k))=_:=ep Xb (oc l[k]) ((l.map oc).take k);unfold gD;dsimp only;rw[AI h1,aM,IT,cN hk];simp only[akb,U,wI,aam,aan,aao,Oa,Hb,bu,asInt,asBool,aw,Ko,BY,hid,zT,dn,akd,akm,Nat.reduceAdd,ajc,aka,bf,pW,mJ,kJ,Mj,UD,W5,W6,TP,jE oc l k hk,aj (show k<9223372036854775807 by omega)];unfold oU;rw[cN hk];simp only;generalize (decide (l[k].bO< -1)||decide (l[k].inst<0))=A;generalize (decide (l[k].day<0)||decide (l[k].day>36524))=B;generalize (decide (l[k].fo<0)||decide (l[k].fo≥(N.au.length:Int)))=C;generalize (j3 l[k].calls N.stops.length 0 3155932800).2=e;cases lR l[k].id with
 |false=>rfl
 |true=>
  cases A with
  |true=>rfl
  |false=>
   cases B with
   |true=>rfl
   |false=>
    cases C with
    |true=>rfl
    |false=>
     simp only[akf,cQ,akD,abp];by_cases he:e=0
     ·subst he;by_cases bW:oc l[k]∈(l.map oc).take k
      ·simp only[bW,Ko,akv,akf,cQ,abp];rfl
      ·simp only[bW,Ko,akv,akw,akf,cQ,abp];rfl
     ·simp only[he,abp,Ko,akw,akz];rfl
theorem J2(N:ab)(hl:N.runs.length≤maxLen∧∀y∈N.runs,y.Ok):gX [N.pv]=some (prt 2 (vZ N.runs N.stops.length N.au.length)):=by
 have hm:=aT;simp only[gX,od,wK,wL,wM,wN,wO,wP,wQ,wR,wS,wT,U,BY];generalize hl':N.runs=l at hl⊢;unfold vZ;by_cases vP:l.length>1024
 ·rw[AI (by simp;omega),AI vP];rfl
 ·rw[IS (by simp;omega),IS vP];have hR:some (prt 2 (cX (oU l N.stops.length N.au.length) l.length))=if(cX (oU l N.stops.length N.au.length) l.length).2=0 then some (r3 0 0 0)else some (r3 2 (cX (oU l N.stops.length N.au.length) l.length).1 (cX (oU l N.stops.length N.au.length) l.length).2):=by unfold prt;grind
  rw[hR,←zn (oU l N.stops.length N.au.length) l.length (fun i e=>r3 2 i e)];refine br (fun k=>(l.map dL.pv,(l.length:Int),(k:Int),N.stops.map Stop.pv,N.au.map aV.pv,l.map dL.pv,N.bj.map bB.pv,N.paths.map Path.pv,N.aP.map aR.pv,N.bX,N.within,N.cap,0,0,0,seen Mo ((l.map oc).take k),())) l.length _ (fun k hk rec=>Pe N l hl k hk rec) (fun rec=>?_) ?_ rfl
  ·unfold gD;dsimp only;rw[IS (by simp)];rfl
  ·have:=bw;omega
def nx(p:List bB)(v:Int):Option Int:=p.foldl (fun o x=>if(x.stay&&decide (x.a=v))=true then some x.b else o) none
theorem BK(p:List bB)(x:bB)(v:Int):nx (p++[x]) v=if(x.stay&&decide (x.a=v))=true then some x.b else nx p v:=by unfold nx;simp
def it(f:Int→Option Int):Nat→Int→Option Int
 |0,v=>some v
 |m+1,v=>(f v).bind (it f m)
theorem abc(f:Int→Option Int)(m:Nat)(v:Int):it f (m+1) v=(it f m v).bind f:=by
 induction m generalizing v with
 |zero=>show(f v).bind (it f 0)=f v;cases h:f v<;>rfl
 |succ m ih=>
  show(f v).bind (it f (m+1))=((f v).bind (it f m)).bind f;cases h:f v with
  |none=>rfl
  |some w=>exact ih w
def CJ(p:List bB)(a b:Int)(n:Nat):Bool:=(List.range n).any fun t=>decide (it (nx p) (t+1) a=some b)
def AK(f:Int→Option Int):Prop:=∃r:Int→Nat,∀v w,f v=some w→r w<r v
theorem Pf:AK (nx []):=⟨fun _=>0,fun v w h=>by cases h⟩
variable{p:List bB}
theorem adE{v w:Int}(h:nx p v=some w):∃x∈p,x.stay=true∧x.a=v∧x.b=w:=by
 have key:∀n,n≤p.length→nx (p.take n) v=some w→∃x∈p,x.stay=true∧x.a=v∧x.b=w:=by
  intro n;induction n with
  |zero=>intro _ h;cases h
  |succ n ih=>
   intro hn h;have Zm:n<p.length:=by omega
   rw[akr Zm,BK]at h;grind
 exact key p.length (akk _) (by simp_all)
theorem Pg{f:Int→Option Int}(hf:AK f)(S:List Int)(hS:∀v w,f v=some w→v∈S):∀m v,it f m v≠none→m≤S.length:=by
 obtain⟨r,hr⟩:=hf;induction hn:S.length generalizing S f r with
 |zero=>
  intro m v h;cases m with
  |zero=>omega
  |succ m=>
   exfalso;cases hfv:f v with
   |none=>exact h (by show(f v).bind _=none;rw[hfv];rfl)
   |some w=>simp_all
 |succ n ih=>
  intro m v h;cases m with
  |zero=>omega
  |succ m=>
   cases hfv:f v with
   |none=>exact absurd (by show(f v).bind _=none;rw[hfv];rfl) h
   |some w=>
    have hvS:=hS v w hfv;let g:Int→Option Int:=fun x=>if x=v then none else f x;have hg:∀x y,g x=some y→r y<r x:=fun x y hxy=>by grind
    have hgS:∀x y,g x=some y→x∈S.erase v:=fun x y hxy=>by grind
    have hlen:(S.erase v).length=n:=by simp_all
    have abR:∀k x,r x<r v→it g k x=it f k x:=by
     intro k;induction k with
     |zero=>intros;rfl
     |succ k ihk=>
      intro x hx;have hxv:x≠v:=fun h=>by subst h;omega
      show(g x).bind (it g k)=(f x).bind (it f k);have:g x=f x:=by simp[g,hxv]
      rw[this];cases hfx:f x with
      |none=>rfl
      |some y=>grind
    have hw:it f m w≠none:=by simp_all[it]
    have:=ih (S.erase v) hgS r hg hlen m w (by simp_all);omega
theorem J3(hp:AK (nx p)){m:Nat}(hm:p.length<m)(v:Int):it (nx p) m v=none:=by
 cases h:it (nx p) m v with
 |none=>rfl
 |some w=>have:=Pg hp (p.map bB.a) (fun x y hxy=>by grind [adE]) m v (by simp_all);grind
theorem Mp(hp:AK (nx p))(x:bB)(h:x.stay=false∨(x.a≠x.b∧nx p x.a=none∧CJ p x.b x.a (p.length+1)=false)):AK (nx (p++[x])):=by
 cases hs:x.stay with
 |false=>obtain⟨r,hr⟩:=hp;refine⟨r,fun v w hvw=>hr v w ?_⟩;simp_all[BK,amc,IS]
 |true=>
  rw[hs]at h;rcases h with h|⟨wG,hna,ajP⟩
  ·cases h
  have Kt:=hp;obtain⟨r,hr⟩:=hp;have Ee:∀t,it (nx p) (t+1) x.b≠some x.a:=by grind [CJ,List.any_eq_false,J3]
  let R:Int→Prop:=fun v=>∃t,it (nx p) t v=some x.a;have hRb:¬R x.b:=fun⟨t,ht⟩=>by
   cases t with
   |zero=>simp_all[it]
   |succ t=>exact Ee t ht
  refine⟨fun v=>open Classical in if R v then r v+r x.b+1 else r v,fun v w hvw=>?_⟩;rw[BK,hs,ak4]at hvw;by_cases hv:x.a=v
  ·rw[AI (by simpa using hv)]at hvw;simp only[cO]at hvw;subst hvw;have hRv:R v:=⟨0,by show some v=some x.a;rw[hv]⟩;grind
  ·rw[IS (by simpa using hv)]at hvw;have bZ:=hr v w hvw;show(open Classical in if R w then r w+r x.b+1 else r w)<(open Classical in if R v then r v+r x.b+1 else r v);by_cases hw:R w
   ·have hRv:R v:=by obtain⟨t,ht⟩:=hw;exact⟨t+1,by simp_all[nx,it]⟩
    simp_all
   ·rw[IS hw];by_cases hRv:R v
    ·rw[AI hRv];omega
    simp_all
def tJ(a:Int):PV:=.int .i64 a
def j4(x:bB):Int×Int×Int×Int:=(x.a,x.ac,x.b,x.bc)
def Mq(x:Int×Int×Int×Int):PV:=.agg [.int .i64 x.1,.int .i64 x.2.1,.int .i64 x.2.2.1,.int .i64 x.2.2.2]
theorem Xc(a b:Int×Int×Int×Int):cu (Mq a).cells (Mq b).cells=decide (a=b):=by obtain⟨a1,a2,a3,a4⟩:=a;obtain⟨b1,b2,b3,b4⟩:=b;rw[ak9];simp[Mq,PV.cells,cu,peq]
def zY(p:List bB):List (Int×PV):=p.foldl (fun m x=>if x.stay=true then xY x.a (.int .i64 x.b) m else m) []
theorem AL(p:List bB)(x:bB):zY (p++[x])=if x.stay=true then xY x.a (.int .i64 x.b) (zY p)else zY p:=by unfold zY;simp
def TS(a:Int)(m:List (Int×PV)):Bool:=m.any fun x=>decide (a=x.1)
theorem Re(a:Int):∀m,th (tJ a) (oJ tJ m)=TS a m
 |[]=>rfl
 |(b,u)::r=>by have:=Re a r;simp only[oJ]at this;simp only[oJ,akn,th,TS,al7];rw[this];have:cu (tJ a).cells (tJ b).cells=decide (a=b):=zp a b;rw[this];rfl
theorem Mr(a b:Int)(v:PV):∀m,TS a (xY b v m)=(decide (a=b)||TS a m)
 |[]=>by rfl
 |(c,u)::r=>by
  have:=Mr a b v r;simp only[TS]at this⊢;by_cases h:b=c
  ·subst h;simp[xY]
  ·simp only[xY,h,abp,al7,this];grind
theorem Ms{A:Type}{P:List A→Prop}(h0:P [])(h1:∀p x,P p→P (p++[x]))(l:List A):P l:=by
 have key:∀n,n≤l.length→P (l.take n):=by
  intro n;induction n with
  |zero=>simp_all
  |succ n ih=>grind [List.take_succ_eq_append_getElem]
 have:=key l.length (akk _);simp_all
theorem TT(p:List bB)(v:Int):tE v (.int .i64 0) (zY p)=.int .i64 ((nx p v).getD 0):=by
 induction p using Ms with
 |h0=>rfl
 |h1 p x ih=>
  rw[AL,BK];cases hs:x.stay with
  |false=>simp_all
  |true=>rw[AI rfl,rL,ak4];grind
theorem Xd(p:List bB)(v:Int):TS v (zY p)=(nx p v).isSome:=by
 induction p using Ms with
 |h0=>rfl
 |h1 p x ih=>
  rw[AL,BK];cases hs:x.stay with
  |false=>simp_all
  |true=>rw[AI rfl,Mr,ak4];grind
def pZ(p:List bB):List (PV×PV):=oJ tJ (zY p)
theorem AM(p:List bB)(v:Int):b9 (.int .i64 v) (.int .i64 0) (pZ p)=.int .i64 ((nx p v).getD 0):=by have:=Bu (key:=tJ) zp v (.int .i64 0) (zY p);rw[TT]at this;exact this
theorem CK(p:List bB)(v:Int):th (.int .i64 v) (pZ p)=(nx p v).isSome:=by have:=Re v (zY p);rw[Xd]at this;exact this
theorem Ph(p:List bB)(x:bB):pZ (p++[x])=if x.stay=true then dh (.int .i64 x.a) (.int .i64 x.b) (pZ p)else pZ p:=by
 have:=Eg (key:=tJ) zp x.a (.int .i64 x.b) (zY p);unfold pZ;rw[AL];by_cases h:x.stay=true
 ·rw[AI h,AI h];exact this.symm
 simp_all
def vi(p:List bB):List Int:=(p.filter bB.stay).map bB.b
theorem Pj(p:List bB)(x:bB):vi (p++[x])=if x.stay=true then vi p++[x.b]else vi p:=by grind [vi]
def adF(f:Int→Option Int)(a b:Int)(t:Nat):Option (Option PV):=(it f (t+1) a).elim (some (some (.bool false))) fun v=>if v=b then some (some (.bool true))else none
theorem Pk(f:Int→Option Int)(b:Int)(n:Nat):∀a,it f (n+1) a=none→ca ((List.range n).findSome? (adF f a b)) (some (.bool false))=some (.bool ((List.range (n+1)).any fun t=>decide (it f (t+1) a=some b))):=by
 induction n with
 |zero=>intro a h;simp[ca,h]
 |succ n ih=>
  intro a h;rw[alP (n:=n+1),alP (n:=n),akU,al7];have h0:it f (0+1) a=f a:=by show(f a).bind (it f 0)=f a;cases hf:f a<;>rfl
  unfold adF;rw[h0];cases hf:f a with
  |none=>
   have hz:∀t,it f (t+1) a=none:=fun t=>by show(f a).bind _=none;rw[hf];rfl
   simp_all[Option.elim,ca,List.any_map,amb]
  |some v=>
   have hs:∀t,it f (t+1+1) a=it f (t+1) v:=fun t=>by show(f a).bind _=_;rw[hf];rfl
   by_cases hv:v=b
   ·simp_all[Option.elim,Ko,ca,akv,am9]
   ·have hd:decide (some v=some b)=false:=by simpa using hv
    simp only[Option.elim,IS hv,hd,alj];have:=ih v (by rw[←hs];omega);rw[List.findSome?_map,List.any_map];simp only[amb,Nat.succ_eq_add_one,hs];rw[←alP];exact this
theorem Pl(p:List bB)(hp:AK (nx p))(hl:p.length≤maxLen)(a b:Int):mq [.rm 3 ((pZ p).map fun x=>x.fst) ((pZ p).map fun x=>x.snd),.int .i64 a,.int .i64 b]=some (.bool (CJ p a b (p.length+1))):=by
 have hz:((pZ p).map fun x=>x.fst).zip ((pZ p).map fun x=>x.snd)=pZ p:=by
  generalize pZ p=m;induction m with
  |nil=>rfl
  |cons x m ih=>simp_all
 simp only[mq,ur,cD,Ko,asInt,U,hz,AM,CK];unfold CJ;rw[←Pk (nx p) b p.length a (J3 hp (by omega) a)];refine br (fun t=>(PV.rm 3 ((pZ p).map fun x=>x.fst) ((pZ p).map fun x=>x.snd),b,(it (nx p) (t+1) a).getD 0,(it (nx p) (t+1) a).isSome,())) p.length _ (fun t ht rec=>?_) (fun rec=>?_) (by have:=bw;omega) ?_
 ·unfold lq adF;dsimp only;rw[abc (nx p) (t+1) a];cases hv:it (nx p) (t+1) a with
  |none=>rfl
  |some v=>
   simp only[amy,ak2,Ko,iG,AT,Option.elim];by_cases hvb:v=b
   ·rw[AI hvb,AI hvb];rfl
   ·rw[IS hvb,IS hvb];simp only[cD,Ko,hz,AM,CK,asInt,U,ca,akj]
 ·unfold lq;dsimp only;rw[J3 hp (by omega)];rfl
 ·show(_,b,(it (nx p) 1 a).getD 0,(it (nx p) 1 a).isSome,())=_;have:it (nx p) 1 a=nx p a:=by show(nx p a).bind _=_;cases nx p a<;>rfl
  rw[this]
def dP(runs:List dL)(a:Int):List aQ:=((runs[a.toNat]?).map dL.calls).getD []
def CL(cs:List aQ)(c:Int):Int:=((cs[c.toNat]?).map aQ.stop).getD 0
def TU(x:bB)(R:Int):Bool:= !(decide (x.a≥0)&&decide (x.a<R))|| !(decide (x.b≥0)&&decide (x.b<R))||decide (x.a=x.b)
def Rf(x:bB)(A B:Int):Bool:= !(decide (x.ac≥0)&&decide (x.ac<A))|| !(decide (x.bc≥0)&&decide (x.bc<B))
def Iy(p:List bB)(x:bB)(A:Int):Bool:=x.stay&&(!decide (x.ac+1=A)|| !decide (x.bc=0)||(nx p x.a).isSome||decide (x.b∈vi p)||CJ p x.b x.a (p.length+1))
def mr(runs:List dL)(l:List bB)(k:Nat):Int:=match l[k]? with
 |none=>0
 |some x=>if TU x runs.length=true then 9 else if Rf x (dP runs x.a).length (dP runs x.b).length=true then 9 else if CL (dP runs x.a) x.ac≠CL (dP runs x.b) x.bc then 13 else if Iy (l.take k) x (dP runs x.a).length=true then 19 else if j4 x∈(l.map j4).take k then 6 else 0
def yz(runs:List dL)(l:List bB):Int×Int:=if l.length>1024 then(0,5)else cX (mr runs l) l.length
theorem Pm(runs:List dL)(l:List bB)(k:Nat)(hk:k≤l.length)(h:∀j,j<k→mr runs l j=0):AK (nx (l.take k))∧∀x∈l.take k,0≤x.a:=by
 induction k with
 |zero=>simp[alZ,Pf]
 |succ k ih=>
  have DT:k<l.length:=by omega
  obtain⟨h1,h2⟩:=ih (by omega) fun j hj=>h j (by omega);have hz:=h k (by omega);unfold mr at hz;rw[cN DT]at hz;simp only at hz;have hr:TU l[k] runs.length=false:=by grind
  have hs:Iy (l.take k) l[k] (dP runs l[k].a).length=false:=by grind
  unfold TU at hr;simp only[akN,ala,No,AT,akx]at hr;rw[akr DT];refine⟨Mp h1 l[k] ?_,fun x hx=>?_⟩
  ·unfold Iy at hs;cases vp:l[k].stay with
   |false=>simp
   |true=>simp_all
  grind
theorem Mt(runs:List dL)(a:Int)(h:0≤a∧a<(runs.length:Int)):∃r∈runs,fj (runs.map dL.pv) a=some r.pv∧dP runs a=r.calls:=by
 obtain⟨n,rfl⟩:=alK h.1;have hn:n<runs.length:=by omega
 refine⟨runs[n],aki hn,?_,?_⟩
 ·rw[aM,IT,cN hn];rfl
 ·unfold dP;simp_all
theorem Iz(cs:List aQ)(c:Int)(h:0≤c∧c<(cs.length:Int)):∃r,fj (cs.map aQ.pv) c=some r∧cell r 0=.int .i64 (CL cs c):=by
 obtain⟨n,rfl⟩:=alK h.1;have hn:n<cs.length:=by omega
 refine⟨cs[n].pv,?_,?_⟩
 ·rw[aM,IT,cN hn];rfl
 ·unfold CL;rw[akc,cN hn];rfl
theorem Mu{runs:List dL}(h:∀y∈runs,y.Ok)(a:Int):(dP runs a).length≤maxLen:=by
 unfold dP;cases hr:runs[a.toNat]? with
 |none=>simp
 |some r=>exact(h r (aeB hr)).calls.1
theorem Mv(N:ab)(runs:List dL)(hr:∀y∈runs,y.Ok)(l:List bB)(hl:l.length≤maxLen)(k:Nat)(hk:k<l.length)(VL:∀j,j<k→mr runs l j=0)(rec:TY0→Option PV):gj (l.map bB.pv,(l.length:Int),(k:Int),N.stops.map Stop.pv,N.au.map aV.pv,runs.map dL.pv,l.map bB.pv,N.paths.map Path.pv,N.aP.map aR.pv,N.bX,N.within,N.cap,0,0,0,pZ (l.take k),seen tJ (vi (l.take k)),seen Mq ((l.map j4).take k),()) rec=ca (if mr runs l k=0 then none else some (some (r3 3 k (mr runs l k)))) (rec (l.map bB.pv,(l.length:Int),((k+1:Nat):Int),N.stops.map Stop.pv,N.au.map aV.pv,runs.map dL.pv,l.map bB.pv,N.paths.map Path.pv,N.aP.map aR.pv,N.bX,N.within,N.cap,0,0,0,pZ (l.take (k+1)),seen tJ (vi (l.take (k+1))),seen Mq ((l.map j4).take (k+1)),())):=by
 have hm:=aT;have h1:decide ((k:Int)<(l.length:Int))=true:=by simp;omega
 obtain⟨afH,_⟩:=Pm runs l k (by omega) VL;have hlen:(l.take k).length=k:=by simp;omega
 have adG:=Pl (l.take k) afH (by omega) l[k].b l[k].a;have mJ:dh (.agg [.int .i64 l[k].a,.int .i64 l[k].ac,.int .i64 l[k].b,.int .i64 l[k].bc]) (.bool true) (seen Mq ((l.map j4).take k))=_:=fp Xc (j4 l[k]) ((l.map j4).take k);have kJ:b9 (.agg [.int .i64 l[k].a,.int .i64 l[k].ac,.int .i64 l[k].b,.int .i64 l[k].bc]) (.bool false) (seen Mq ((l.map j4).take k))=_:=ep Xc (j4 l[k]) ((l.map j4).take k);have afI:dh (.int .i64 l[k].b) (.bool true) (seen tJ (vi (l.take k)))=_:=fp (key:=tJ) zp l[k].b (vi (l.take k));have adH:b9 (.int .i64 l[k].b) (.bool false) (seen tJ (vi (l.take k)))=_:=ep (key:=tJ) zp l[k].b (vi (l.take k));have hsn:l.take (k+1)=l.take k++[l[k]]:=akr hk;unfold gj;dsimp only;rw[AI h1,aM,IT,cN hk,hsn,Ph,Pj,jE j4 l k hk];simp only[akb,U,acf,acg,link2,ach,aci,asInt,asBool,Ko,BY,AJ,bf,iG];unfold mr;rw[cN hk];simp only;have hR:(!(decide (l[k].a≥0)&&decide (l[k].a<(runs.length:Int)))|| !(decide (l[k].b≥0)&&decide (l[k].b<(runs.length:Int)))||decide (l[k].a=l[k].b))=TU l[k] runs.length:=rfl;rw[hR];cases hb:TU l[k] runs.length with
 |true=>rfl
 |false=>
  unfold TU at hb;simp only[akN,ala,No,AT,akx]at hb;obtain⟨ra,hra,hia,hca⟩:=Mt runs l[k].a ⟨hb.1.1.1,hb.1.1.2⟩;obtain⟨rb,hrb,hib,hcb⟩:=Mt runs l[k].b ⟨hb.1.2.1,hb.1.2.2⟩;have hA:=Mu hr l[k].a;rw[hia,hib];simp only[U,Hb,aw,Ko,BY,←hca,←hcb,AJ,asBool,bf];have hC:(!(decide (l[k].ac≥0)&&decide (l[k].ac<((dP runs l[k].a).length:Int)))|| !(decide (l[k].bc≥0)&&decide (l[k].bc<((dP runs l[k].b).length:Int))))=Rf l[k] (dP runs l[k].a).length (dP runs l[k].b).length:=rfl;rw[hC];cases S2:Rf l[k] (dP runs l[k].a).length (dP runs l[k].b).length with
  |true=>rfl
  |false=>
   unfold Rf at S2;simp only[akN,ala,No,AT]at S2;obtain⟨ka,hka,hsa⟩:=Iz (dP runs l[k].a) l[k].ac S2.1;obtain⟨kb,hkb,hsb⟩:=Iz (dP runs l[k].b) l[k].bc S2.2;have hw:IntKind.i64.wrap (l[k].ac+1)=l[k].ac+1:=aY (by omega) (by omega);simp only[cQ,abp,hka,hkb,U,hsa,hsb,AM,CK,kJ,adH,mJ,afI,asInt,asBool,Ko,adG,hw,hlen,bf,bF,pW,Mj,UD,W5,W6,TP,aj (show k<9223372036854775807 by omega)];have hS:(l[k].stay&&(!decide (l[k].ac+1=((dP runs l[k].a).length:Int))|| !decide (l[k].bc=0)||(nx (l.take k) l[k].a).isSome||decide (l[k].b∈vi (l.take k))||CJ (l.take k) l[k].b l[k].a (k+1)))=Iy (l.take k) l[k] (dP runs l[k].a).length:=by unfold Iy;rw[hlen]
   rw[hS];generalize Iy (l.take k) l[k] (dP runs l[k].a).length=S;by_cases vp:CL (dP runs l[k].a) l[k].ac=CL (dP runs l[k].b) l[k].bc
   ·simp only[vp,akv,akf,cQ,abp,ne_eq,not_true];cases S with
    |true=>rfl
    |false=>
     by_cases bW:j4 l[k]∈(l.map j4).take k
     ·simp only[bW,akv,Ko,cQ,abp];rfl
     ·simp only[bW,akw,Ko,cQ,abp];cases l[k].stay<;>rfl
   ·simp only[vp,akw,akz,Ko,ne_eq,not_false_eq_true];rfl
theorem Hg(N:ab)(hr:N.runs.length≤maxLen∧∀y∈N.runs,y.Ok)(hl:N.bj.length≤maxLen):eM [N.pv]=some (prt 3 (yz N.runs N.bj)):=by
 have hm:=aT;simp only[eM,mO,wK,wL,wM,wN,wO,wP,wQ,wR,wS,wT,U,BY];generalize hl':N.bj=l at hl⊢;generalize zJ:N.runs=runs at hr⊢;unfold yz;by_cases vP:l.length>1024
 ·rw[AI (by simp;omega),AI vP];rfl
 ·rw[IS (by simp;omega),IS vP];have hR:some (prt 3 (cX (mr runs l) l.length))=if(cX (mr runs l) l.length).2=0 then some (r3 0 0 0)else some (r3 3 (cX (mr runs l) l.length).1 (cX (mr runs l) l.length).2):=by unfold prt;grind
  rw[hR,←zn (mr runs l) l.length (fun i e=>r3 3 i e)];refine Hd (fun k=>(l.map bB.pv,(l.length:Int),(k:Int),N.stops.map Stop.pv,N.au.map aV.pv,runs.map dL.pv,l.map bB.pv,N.paths.map Path.pv,N.aP.map aR.pv,N.bX,N.within,N.cap,0,0,0,pZ (l.take k),seen tJ (vi (l.take k)),seen Mq ((l.map j4).take k),())) l.length _ (fun k hk VL rec=>Mv N runs hr.2 l hl k hk (fun j hj=>?_) rec) (fun _ rec=>?_) (by have:=bw;omega) rfl
  ·simp_all
  ·unfold gj;dsimp only;rw[IS (by simp)];rfl
def qp(N:ab):Int×Int×Int:=
 if(jX N.stops).2=0 then
  if(kE N.au).2=0 then
   if(vZ N.runs N.stops.length N.au.length).2=0 then
    if(yz N.runs N.bj).2=0 then
     if(vh N.paths N.stops.length).2=0 then if(jY N.aP N.bX N.within N.cap).2=0 then(0,0,0)else(5,jY N.aP N.bX N.within N.cap)
     else(4,vh N.paths N.stops.length)
    else(3,yz N.runs N.bj)
   else(2,vZ N.runs N.stops.length N.au.length)
  else(1,kE N.au)
 else(0,jX N.stops)
def wB(x:Int×Int×Int):PV:=.aO [.int .i64 x.1,.int .i64 x.2.1,.int .i64 x.2.2]
theorem r3E(p i e:Int):PV.agg [cell (r3 p i e) 0,cell (r3 p i e) 1,cell (r3 p i e) 2]=r3 p i e:=rfl
theorem r3F(p i e:Int):PV.agg [.int .i64 p,.int .i64 i,.int .i64 e]=r3 p i e:=rfl
theorem yA(p i e q j f:Int):dZ [.rs 3 [r3 p i e,r3 q j f]]=some (if e=0 then(if f=0 then r3 0 0 0 else r3 q j f)else r3 p i e):=by
 simp only[dZ,uu,aw,Ko,U];have h0:=br (body:=lu) (fun k=>([r3 p i e,r3 q j f],(2:Int),(k:Int),0,0,0,())) 2 (fun k=>if k=0 then(if e=0 then none else some (some (r3 p i e)))else(if f=0 then none else some (some (r3 q j f)))) (fin:=some (r3 0 0 0)) (fun k hk rec=>?_) (fun rec=>?_) (by decide) (s0:=([r3 p i e,r3 q j f],(2:Int),0,0,0,0,())) rfl
 ·refine h0.trans ?_;have:List.range 2=[0,1]:=rfl;grind [ca]
 ·have h2:k=0∨k=1:=by omega
  rcases h2 with rfl|rfl
  ·unfold lu;dsimp only;rw[AI (by simp),aM];simp only[akG,U,TP,asInt,Ko,pW,r3E,aj (show 0<9223372036854775807 by omega)];by_cases he:e=0
   ·simp only[he,akv,akf,cQ,abp,Ko];rfl
   ·simp only[he,akw,akz,abp,Ko];rfl
  ·unfold lu;dsimp only;rw[AI (by simp),aM];simp only[alI,akG,U,TP,asInt,Ko,pW,r3E,aj (show 1<9223372036854775807 by omega)];by_cases he:f=0
   ·simp only[he,akv,akf,cQ,abp,Ko];rfl
   ·simp only[he,akw,akz,abp,Ko];rfl
 rfl
theorem Pn(p:Int)(x:Int×Int):prt p x=if x.2=0 then r3 0 0 0 else r3 p x.1 x.2:=rfl
theorem Io{l:List Stop}(h:(jX l).2=0):l.length≤64:=by unfold jX at h;grind
theorem Gz(a b:Int):(a==b)=decide (a=b):=iG a b
theorem vR(N:ab)(h:N.Ok)(hp:N.paths.length≤4096):ff [N.pv]=some (wB (qp N)):=by
 have hs:=Iw N.stops h.stops;have hr:=Gt N.au h.au;have hu:=J2 N h.runs;have hl:=Hg N h.runs h.bj.1;have hf:=vW N.aP N.bX N.within N.cap h.aP;unfold fE at hf;simp only[ff,uv,wK,wL,wM,wN,wO,wP,wQ,wR,wS,wT,U,DX];simp only[hs,hr,hf,hu,hl,U,res,dn,akd,akm,Nat.reduceAdd,Ko,ajc,aka,Mj,UD,r3F,yA];unfold qp;by_cases h1:(jX N.stops).2=0
 ·have hpa:=Hf N (Io h1) hp;simp only[hpa,U,h1,Ko];by_cases h2:(kE N.au).2=0
  ·simp only[h2,Ko];rw[Pn 2,Pn 3,Pn 4];by_cases h3:(vZ N.runs N.stops.length N.au.length).2=0
   ·simp only[h3,Ko];by_cases h4:(yz N.runs N.bj).2=0
    ·simp only[h4,Ko];by_cases h5:(vh N.paths N.stops.length).2=0
     ·simp only[h5,Ko];by_cases h6:(jY N.aP N.bX N.within N.cap).2=0
      ·simp only[h6,Ko,UD,r3F,W5,W6,TP,asInt,U,yA,Gz,akv,akw,cQ,wB]
      ·simp only[h6,Ko,abp,UD,r3F,W5,W6,TP,asInt,U,yA,Gz,akv,akw,cQ,wB]
     ·simp only[h5,Ko,abp,UD,r3F,W5,W6,TP,asInt,U,yA,Gz,akv,akw,cQ,wB]
    ·simp only[h4,Ko,abp,UD,r3F,W5,W6,TP,asInt,U,yA,Gz,akv,akw,cQ,wB]
   ·simp only[h3,Ko,abp,UD,r3F,W5,W6,TP,asInt,U,yA,Gz,akv,akw,cQ,wB]
  ·simp only[h2,Ko,abp,UD,r3F,W5,W6,TP,asInt,U,yA,Gz,akv,akw,cQ,wB]
 ·simp only[h1,Ko,abp,UD,r3F,W5,W6,TP,asInt,U,yA,Gz,akv,akw,cQ,wB]
theorem AD{N:ab}(h:(qp N).2.2=0):∀k,k<N.runs.length→oU N.runs N.stops.length N.au.length k=0:=by
 unfold qp at h;by_cases h1:(jX N.stops).2=0
 ·rw[AI h1]at h;by_cases h2:(kE N.au).2=0
  ·rw[AI h2]at h;by_cases h3:(vZ N.runs N.stops.length N.au.length).2=0
   ·unfold vZ at h3;by_cases vP:N.runs.length>1024
    ·simp_all
    simp_all[IS,kD]
   simp_all
  simp_all
 simp_all
theorem Dx{N:ab}(h:(qp N).2.2=0):∀r∈N.runs,(j3 r.calls N.stops.length 0 3155932800).2=0:=by intro r hr;obtain⟨k,hk,rfl⟩:=ali hr;have:=AD h k hk;unfold oU at this;grind
theorem L9{l:List aQ}{n a b:Int}(h:(j3 l n a b).2=0):2≤l.length∧l.length≤32:=by unfold j3 at h;grind
theorem LZ{l:List aQ}{n a b:Int}(h:(j3 l n a b).2=0):∀k,k<l.length→vS l n a b k=0:=by
 unfold j3 at h;by_cases hc:(decide ((l.length:Int)<2)||decide ((l.length:Int)>32))=true
 ·simp_all
 simp_all[IS,kD]
end Go.Ab.Tt
