import Derived.Test.YtmbihgjlollbeaaGreatNkP1
import Derived.Test.YtmbihgjlollbeaaGreatNwP2
namespace Go.Ab.Tt
set_option maxRecDepth 100000
set_option linter.all false
def bH(x:Path):Int×Int×Bool:=(x.a,x.b,x.free)
def IM(x:Int×Int×Bool):PV:=.agg [.int .i64 x.1,.int .i64 x.2.1,.bool x.2.2]
theorem SJ(a b:Int×Int×Bool):cz (IM a).cells (IM b).cells=decide (a=b):=by obtain⟨a1,a2,a3⟩:=a;obtain⟨b1,b2,b3⟩:=b;rw[asS];simp[IM,PV.cells,cz,peq]
def dc(l:List Path)(n:Int)(k:Nat):Int:=match l[k]? with
 |none=>0
 |some x=>if(decide (x.a<0)||decide (x.a≥n)||decide (x.b<0)||decide (x.b≥n)||decide (x.a=x.b))=true then 9 else if(decide (x.fq<1)||decide (x.fq>14400))=true then 2 else if bH x∈(l.map bH).take k then 6 else 0
theorem Ms(l:List Path)(n:Int)(hl:l.length≤maxLen):jV [.rs 4 (l.map Path.pv),.int .i64 n]=some (res (bW (dc l n) l.length).1 (bW (dc l n) l.length).2):=by
 have hm:=ai;simp only[jV,xl,ao,asInt,BY,U,AI];rw[←cY];refine aC (fun k=>(n,l.map Path.pv,(l.length:Int),(k:Int),seen IM ((l.map bH).take k),())) l.length _ (fun k hk rec=>?_) (fun rec=>?_) ?_ rfl
 ·have h1:(k:Int)<(l.length:Int):=by omega
  have oK:dJ (.agg [.int .i64 l[k].a,.int .i64 l[k].b,.bool l[k].free]) (.bool true) (seen IM ((l.map bH).take k))=_:=fX SJ (bH l[k]) ((l.map bH).take k);have mC:cB (.agg [.int .i64 l[k].a,.int .i64 l[k].b,.bool l[k].free]) (.bool false) (seen IM ((l.map bH).take k))=_:=eX SJ (bH l[k]) ((l.map bH).take k);simp only[qN,cT,h1,BY,ag,AT,cN hk,No,U,Hn,Ho,L9,Hq,asInt,asBool,oK,mC,bT,ab (show k<9223372036854775807 by omega),ll bH l k hk];unfold dc;rw[cN hk];simp only;by_cases bB:bH l[k]∈(l.map bH).take k
  ·simp only[bB,BY];by_cases e1:l[k].a<0<;>by_cases e2:l[k].a≥n<;>by_cases e3:l[k].b<0<;>by_cases e4:l[k].b≥n<;>by_cases e5:l[k].a=l[k].b<;>by_cases e6:l[k].fq<1<;>by_cases e7:l[k].fq>14400<;>simp only[e1,e2,e3,e4,e5,e6,e7,asv,asx,ave,avx,ata,BY,IT,cQ]<;>rfl
  ·simp only[bB,IT,cQ];by_cases e1:l[k].a<0<;>by_cases e2:l[k].a≥n<;>by_cases e3:l[k].b<0<;>by_cases e4:l[k].b≥n<;>by_cases e5:l[k].a=l[k].b<;>by_cases e6:l[k].fq<1<;>by_cases e7:l[k].fq>14400<;>simp only[e1,e2,e3,e4,e5,e6,e7,asv,asx,ave,avx,ata,BY,IT,cQ]<;>rfl
 ·simp only[qN,cT,asl,IT];rfl
 ·have:=aw;omega
def toFp(p:Path):Nw.Fp:=⟨p.a.toNat,p.b.toNat,p.fq.toNat,p.free⟩
def Sound(l:List Path)(n:Nat):Prop:=∀p∈l,0≤p.a∧p.a<n∧0≤p.b∧p.b<n∧1≤p.fq∧p.fq≤14400
variable{l:List Path}{n:Nat}
theorem SK(h:(bW (dc l n) l.length).2=0):Sound l n:=by intro p hp;obtain⟨k,hk,rfl⟩:=ats hp;have h0:=(se _ _).1 h k hk;unfold dc at h0;grind
theorem toFp_pv{p:Path}(h1:0≤p.a)(h2:0≤p.b)(h3:1≤p.fq):(toFp p).pv=p.pv:=by grind [toFp,Nw.Fp.pv,Path.pv,Int.toNat_of_nonneg]
theorem ad9(h:Sound l n):(l.map toFp).map Nw.Fp.pv=l.map Path.pv:=by rw[atZ];apply asJ;intro p hp;exact toFp_pv (h p hp).1 (h p hp).2.2.1 (h p hp).2.2.2.2.1
def Xs(e:List PV):Path:=match e with|[.int .i64 a,.int .i64 b,.int .i64 s,.bool f]=>⟨a,b,s,f⟩|_=>⟨0,0,0,false⟩
theorem Mt:∀(L:List (List PV)),(∀e∈L,Nw.IsF e)→fp L=(L.map Xs).map Path.pv
 |[],_=>rfl
 |e::L,h=>by obtain⟨i,k,s,b,rfl⟩:=h e (by simp);have:=Mt L fun x hx=>h x (by simp[hx]);unfold fp at this⊢;rw[ass,ass,ass,this];rfl
def mD(l:List Path)(n:Nat):List Path:=(Nw.Nz n (Nw.AO n (l.map toFp) false) (Nw.AO n (l.map toFp) true)).map Xs
theorem OT(hn:n≤64)(hl:l.length≤4096)(h:Sound l n):gI [.rs 4 (l.map Path.pv),.int .i64 n]=some (.rs 4 ((mD l n).map Path.pv))∧jW [.rs 4 (l.map Path.pv),.int .i64 n]=some (.rs 4 ((mD l n).map Path.pv)):=by have:=Nw.Vw (l.map toFp) n hn (by simpa using hl) (fun p hp=>by obtain⟨q,hq,rfl⟩:=asC.1 hp;have:=h q hq;simp only[toFp];omega);rw[ad9 h,Mt _ (Nw.SL n _ _)]at this;exact this
theorem SM(l:List Path)(n:Nat)(hn:n≤64):(mD l n).length≤8192:=by
 have h1:(mD l n).length=(fp (Nw.Nz n (Nw.AO n (l.map toFp) false) (Nw.AO n (l.map toFp) true))).length:=by simp[mD,fp]
 rw[h1,Nw.IP];have h2:=Nw.Hy (it:=fun i k=>Nw.J7 (Nw.AO n (l.map toFp) false i k) (Nw.AO n (l.map toFp) true i k) i k) (fun i k=>Nw.Qf _ _ i k) n n;have h3:2*n*n≤2*64*64:=auj (atD 2 hn) hn;omega
theorem SN(x y:Path):cz [cell x.pv 0,cell x.pv 1,cell x.pv 2,cell x.pv 3] [cell y.pv 0,cell y.pv 1,cell y.pv 2,cell y.pv 3]=decide (x=y):=by rw[asS];obtain⟨a,b,c,d⟩:=x;obtain⟨a',b',c',d'⟩:=y;simp[Hn,Ho,L9,Hq,cz,peq]
theorem Hz(x:Path):mK (Kd.int IntKind.i64::[].append (Kd.int IntKind.i64::[].append (Kd.int IntKind.i64::[].append (Kd.bool::[].append [])))) [cell x.pv 0,cell x.pv 1,cell x.pv 2,cell x.pv 3]=true:=rfl
def vw(l:List Path)(n:Nat):Bool:=decide (mD l n=l)
theorem SO(hn:n≤64)(hl:l.length≤4096)(h:(bW (dc l n) l.length).2=0):jh [.rs 4 (l.map Path.pv),.int .i64 n]=some (.bool (vw l n)):=by
 have hm:4096≤maxLen:=by decide
 have hs:=Ms l n (by omega);have hf:=aa6 _ _ h;rw[h,hf]at hs;have hc:=(OT hn hl (SK h)).1;have A2:=SM l n hn;have j5:¬decide ((n:Int)>64)=true:=by simp;omega
 have h0:¬(0:Int)>(n:Int):=by omega
 simp only[jh,qO,ao,asInt,BY,U];rw[IS j5,hs];simp only[res,cn,amo,asi,Nat.reduceAdd,BY,U,O6,T1,asInt,IS h0,hc,ao,AI];rw[IS (by simp)];unfold vw;by_cases hlen:(mD l n).length=l.length
 ·rw[IS (by simp[eC,hlen])];have hr:=Xr (mD l n) l hlen (some (PV.bool false)) (some (PV.bool true));have:some (PV.bool (decide (mD l n=l)))=if mD l n=l then some (PV.bool true)else some (PV.bool false):=by grind
  rw[this,←hr];refine aC (fun k=>(l.map Path.pv,(mD l n).map Path.pv,((mD l n).length:Int),(k:Int),())) (mD l n).length _ (fun k hk rec=>?_) (fun rec=>?_) ?_ rfl
  ·have h1:decide ((k:Int)<((mD l n).length:Int))=true:=by simp;omega
   have sG:k<l.length:=by omega
   unfold mE;dsimp only;rw[IN h1,ag,AT,cN hk,ag,AT,cN sG];simp only[No,U];rw[IN ⟨Hz _,Hz _⟩,SN,ab (by omega)];grind [mD,bK]
  ·simp[mE,IS]
  ·have:=aw;omega
 ·rw[IN (by simp[eC];omega)];rw[att (fun hc=>hlen (by rw[hc]))]
def dA(l:List Path)(n:Nat):Int×Int:=if(bW (dc l n) l.length).2=0 then(if vw l n=true then(0,0)else(0,18))else bW (dc l n) l.length
def zS(x:Int×Int×Bool):PV:=.agg [.int .i64 x.1,.int .i64 x.2.1,.int .i64 0,.bool x.2.2]
theorem anr(a b:Int×Int×Bool):cz (zS a).cells (zS b).cells=decide (a=b):=by obtain⟨a1,a2,a3⟩:=a;obtain⟨b1,b2,b3⟩:=b;rw[asS];simp[zS,PV.cells,cz,peq]
theorem JO(N:an)(l:List Path)(n:Nat)(hl:l.length≤4096)(hlen:(N.stops.map Stop.pv).length=n)(k:Nat)(hk:k<l.length)(rec:ahJ→Option PV):cU (l.map Path.pv,(l.length:Int),(k:Int),N.stops.map Stop.pv,N.aj.map ax.pv,N.runs.map cy.pv,N.aH.map bq.pv,l.map Path.pv,N.aK.map aM.pv,N.bp,N.within,N.cap,0,0,0,seen zS ((l.map bH).take k),()) rec=bK (if dc l n k=0 then none else some (some (r3 4 k (dc l n k)))) (rec (l.map Path.pv,(l.length:Int),((k+1:Nat):Int),N.stops.map Stop.pv,N.aj.map ax.pv,N.runs.map cy.pv,N.aH.map bq.pv,l.map Path.pv,N.aK.map aM.pv,N.bp,N.within,N.cap,0,0,0,seen zS ((l.map bH).take (k+1)),())):=by
 have h1:decide ((k:Int)<(l.length:Int))=true:=by simp;omega
 have oK:dJ (.agg [.int .i64 l[k].a,.int .i64 l[k].b,.int .i64 0,.bool l[k].free]) (.bool true) (seen zS ((l.map bH).take k))=_:=fX anr (bH l[k]) ((l.map bH).take k);have mC:cB (.agg [.int .i64 l[k].a,.int .i64 l[k].b,.int .i64 0,.bool l[k].free]) (.bool false) (seen zS ((l.map bH).take k))=_:=eX anr (bH l[k]) ((l.map bH).take k);unfold cU;dsimp only;rw[IN h1,ag,AT,cN hk,hlen];simp only[No,U,Hn,Ho,L9,Hq,asInt,asBool,BY,Gi,az,bT,oK,mC,SI,r3A,r30,r31,r32,ll bH l k hk,ab (show k<9223372036854775807 by omega)];have hA:(!(decide (l[k].a≥0)&&decide (l[k].a<(n:Int)))|| !(decide (l[k].b≥0)&&decide (l[k].b<(n:Int)))||decide (l[k].a=l[k].b))=(decide (l[k].a<0)||decide (l[k].a≥(n:Int))||decide (l[k].b<0)||decide (l[k].b≥(n:Int))||decide (l[k].a=l[k].b)):=by grind
 rw[hA];unfold dc;rw[cN hk];simp only;generalize (decide (l[k].a<0)||decide (l[k].a≥(n:Int))||decide (l[k].b<0)||decide (l[k].b≥(n:Int))||decide (l[k].a=l[k].b))=A;generalize (decide (l[k].fq<1)||decide (l[k].fq>14400))=B;by_cases bB:bH l[k]∈(l.map bH).take k
 ·simp only[bB,BY];cases A<;>cases B<;>rfl
 ·simp only[bB,IT];cases A<;>cases B<;>rfl
theorem NA(N:an)(hn:N.stops.length≤64)(hl:N.paths.length≤4096):dg [N.pv]=some (prt 4 (dA N.paths N.stops.length)):=by
 have hm:4096≤maxLen:=by decide
 simp only[dg,oR,ku,kv,kx,ky,kz,kA,kB,kC,kD,kE,U,AI];generalize hl':N.paths=l at hl⊢;generalize hn':N.stops.length=n at hn⊢;have hlen:(N.stops.map Stop.pv).length=n:=by simpa using hn'
 have hg:=pw (dc l n) l.length (fun i e=>r3 4 i e) (some (if vw l n=true then r3 0 0 0 else r3 4 0 18));have hR:some (prt 4 (dA l n))=if(bW (dc l n) l.length).2=0 then some (if vw l n=true then r3 0 0 0 else r3 4 0 18)else some (r3 4 (bW (dc l n) l.length).1 (bW (dc l n) l.length).2):=by unfold dA prt;grind
 rw[hR,←hg];by_cases hz:(bW (dc l n) l.length).2=0
 ·refine aC (fun k=>(l.map Path.pv,(l.length:Int),(k:Int),N.stops.map Stop.pv,N.aj.map ax.pv,N.runs.map cy.pv,N.aH.map bq.pv,l.map Path.pv,N.aK.map aM.pv,N.bp,N.within,N.cap,0,0,0,seen zS ((l.map bH).take k),())) l.length _ (fun k hk rec=>JO N l n hl hlen k hk rec) (fun rec=>?_) ?_ rfl
  ·unfold cU;dsimp only;rw[IS (by simp),hlen,SO hn hl hz];simp only[U,asBool,SI,r3A,r30,r31,r32];cases vw l n<;>rfl
  ·have:=aw;omega
 ·have uQ:=aC (body:=cU) (fun k=>(l.map Path.pv,(l.length:Int),(k:Int),N.stops.map Stop.pv,N.aj.map ax.pv,N.runs.map cy.pv,N.aH.map bq.pv,l.map Path.pv,N.aK.map aM.pv,N.bp,N.within,N.cap,0,0,0,seen zS ((l.map bH).take k),())) l.length _ (fin:=cU (l.map Path.pv,(l.length:Int),(l.length:Int),N.stops.map Stop.pv,N.aj.map ax.pv,N.runs.map cy.pv,N.aH.map bq.pv,l.map Path.pv,N.aK.map aM.pv,N.bp,N.within,N.cap,0,0,0,seen zS ((l.map bH).take l.length),()) fun _=>none) (fun k hk rec=>JO N l n hl hlen k hk rec) (fun rec=>?_) (by have:=aw;omega) (s0:=(l.map Path.pv,(l.length:Int),0,N.stops.map Stop.pv,N.aj.map ax.pv,N.runs.map cy.pv,N.aH.map bq.pv,l.map Path.pv,N.aK.map aM.pv,N.bp,N.within,N.cap,0,0,0,[],())) rfl
  ·simp_all[pw,IS]
  simp[cU,IS]
theorem Qg(N:an)(l:List Path)(hl:l.length≤4096)(i:Nat)(hi:i<l.length)(jU:aa7→Option PV):bd.run (qP jU) ((i:Int),0,N.stops.map Stop.pv,N.aj.map ax.pv,N.runs.map cy.pv,N.aH.map bq.pv,l.map Path.pv,N.aK.map aM.pv,N.bp,N.within,N.cap,.int .i64 l[i].a,.int .i64 l[i].b,.int .i64 l[i].fq,.bool l[i].free,())=if bH l[i]∈(l.map bH).take i then some (res i 6)else jU (IntKind.i64.wrap ((i:Int)+1),N.stops.map Stop.pv,N.aj.map ax.pv,N.runs.map cy.pv,N.aH.map bq.pv,l.map Path.pv,N.aK.map aM.pv,N.bp,N.within,N.cap,()):=by
 have hm:4096≤maxLen:=by decide
 refine(cX (fun k=>((i:Int),(k:Int),N.stops.map Stop.pv,N.aj.map ax.pv,N.runs.map cy.pv,N.aH.map bq.pv,l.map Path.pv,N.aK.map aM.pv,N.bp,N.within,N.cap,PV.int .i64 l[i].a,PV.int .i64 l[i].b,PV.int .i64 l[i].fq,PV.bool l[i].free,())) i (fun k=>decide ((l.map bH)[k]?=some (bH l[i]))) (no:=some (res i 6)) (fin:=jU (IntKind.i64.wrap ((i:Int)+1),N.stops.map Stop.pv,N.aj.map ax.pv,N.runs.map cy.pv,N.aH.map bq.pv,l.map Path.pv,N.aK.map aM.pv,N.bp,N.within,N.cap,())) (fun k hk rec=>?_) (fun rec=>?_) ?_ rfl).trans ?_
 ·have h1:decide ((k:Int)<(i:Int))=true:=by simp;omega
  have sG:k<l.length:=by omega
  have hd:decide ((l.map bH)[k]?=some (bH l[i]))=(decide (l[k].a=l[i].a)&&decide (l[k].b=l[i].b)&&decide (l[k].free=l[i].free)):=by rw[asS];simp[cN sG,bH,auV]
  rw[hd];unfold qP;dsimp only;rw[IN h1,ag,AT,cN sG];simp only[No,U,Hn,Ho,Hq,asInt,asBool,BY,ab (show k<9223372036854775807 by omega),bT,aJ];rfl
 ·simp[qP,IS]
 ·have:=aw;omega
 ·rw[jg _ _ (by simp;omega)];simp_all
theorem aa8(N:an)(hn:N.stops.length≤64)(hl:N.paths.length≤4096):s9 [N.pv]=some (res (dA N.paths N.stops.length).1 (dA N.paths N.stops.length).2):=by
 have hm:4096≤maxLen:=by decide
 simp only[s9,DD,ku,kv,kx,ky,kz,kA,kB,kC,kD,kE,U];generalize hl':N.paths=l at hl⊢;generalize hn':N.stops.length=n at hn⊢;have hlen:(N.stops.map Stop.pv).length=n:=by simpa using hn'
 have hw:IntKind.i64.wrap ((n:Int)-1)=(n:Int)-1:=aZ (by omega) (by omega);have aea:∀k,(hk:k<l.length)→∀rec,gJ bd ((k:Int),N.stops.map Stop.pv,N.aj.map ax.pv,N.runs.map cy.pv,N.aH.map bq.pv,l.map Path.pv,N.aK.map aM.pv,N.bp,N.within,N.cap,()) rec=bK (if dc l n k=0 then none else some (some (res k (dc l n k)))) (rec (((k+1:Nat):Int),N.stops.map Stop.pv,N.aj.map ax.pv,N.runs.map cy.pv,N.aH.map bq.pv,l.map Path.pv,N.aK.map aM.pv,N.bp,N.within,N.cap,())):=by
  intro k hk rec;have h1:decide ((k:Int)<((l.map Path.pv).length:Int))=true:=by simp;omega
  have kY:=Qg N l hl k hk rec;unfold gJ;dsimp only;rw[IN h1,ag,AT,cN hk,hlen,hw];simp only[No,U,Hn,Ho,L9,Hq,asInt,asBool,BY,Mm,az,bT,kY,ab (show k<9223372036854775807 by omega)];have hA:(!(decide (l[k].a≥0)&&decide (l[k].a≤(n:Int)-1))|| !(decide (l[k].b≥0)&&decide (l[k].b≤(n:Int)-1))||decide (l[k].a=l[k].b))=(decide (l[k].a<0)||decide (l[k].a≥(n:Int))||decide (l[k].b<0)||decide (l[k].b≥(n:Int))||decide (l[k].a=l[k].b)):=by grind
  have hB:(!(decide (l[k].fq≥1)&&decide (l[k].fq≤14400)))=(decide (l[k].fq<1)||decide (l[k].fq>14400)):=by grind
  rw[hA,hB];unfold dc;rw[cN hk];simp only;generalize (decide (l[k].a<0)||decide (l[k].a≥(n:Int))||decide (l[k].b<0)||decide (l[k].b≥(n:Int))||decide (l[k].a=l[k].b))=A;generalize (decide (l[k].fq<1)||decide (l[k].fq>14400))=B;by_cases bB:bH l[k]∈(l.map bH).take k
  ·simp only[bB,BY];cases A<;>cases B<;>rfl
  ·simp only[bB,IT];cases A<;>cases B<;>rfl
 have hg:=pw (dc l n) l.length (fun i e=>res i e) (some (if vw l n=true then res 0 0 else res 0 18));have hR:some (res (dA l n).1 (dA l n).2)=if(bW (dc l n) l.length).2=0 then some (if vw l n=true then res 0 0 else res 0 18)else some (res (bW (dc l n) l.length).1 (bW (dc l n) l.length).2):=by unfold dA;grind
 rw[hR,←hg];by_cases hz:(bW (dc l n) l.length).2=0
 ·refine aC (fun k=>((k:Int),N.stops.map Stop.pv,N.aj.map ax.pv,N.runs.map cy.pv,N.aH.map bq.pv,l.map Path.pv,N.aK.map aM.pv,N.bp,N.within,N.cap,())) l.length _ aea (fun rec=>?_) ?_ rfl
  ·have hc:=(OT hn hl (SK hz)).2;have A2:=SM l n hn;unfold gJ;dsimp only;rw[IS (by simp),hlen,hc];simp only[U,ao,BY,AI];unfold vw;by_cases aeb:(mD l n).length=l.length
   ·rw[IS (by simp[eC,aeb])];have hr:=Xr (mD l n) l aeb (some (res 0 18)) (some (res 0 0));have:some (if decide (mD l n=l)=true then res 0 0 else res 0 18)=if mD l n=l then some (res 0 0)else some (res 0 18):=by grind
    rw[this,←hr];refine aC (fun k=>((mD l n).map Path.pv,(k:Int),N.stops.map Stop.pv,N.aj.map ax.pv,N.runs.map cy.pv,N.aH.map bq.pv,l.map Path.pv,N.aK.map aM.pv,N.bp,N.within,N.cap,())) (mD l n).length _ (fun k hk rec=>?_) (fun rec=>?_) ?_ rfl
    ·have h1:decide ((k:Int)<(((mD l n).map Path.pv).length:Int))=true:=by simp;omega
     have sG:k<l.length:=by omega
     unfold xm;dsimp only;rw[IN h1,ag,AT,cN hk,ag,AT,cN sG];simp only[No,U];rw[IN ⟨Hz _,Hz _⟩,SN,ab (by omega)];grind [mD,bK,res]
    ·unfold xm;dsimp only;rw[IS (by simp)];rfl
    ·have:=aw;omega
   ·rw[IN (by simp[eC];omega)];rw[att (fun hc=>aeb (by rw[hc]))];rfl
  ·have:=aw;omega
 ·have uQ:=aC (body:=gJ bd) (fun k=>((k:Int),N.stops.map Stop.pv,N.aj.map ax.pv,N.runs.map cy.pv,N.aH.map bq.pv,l.map Path.pv,N.aK.map aM.pv,N.bp,N.within,N.cap,())) l.length _ (fin:=gJ bd ((l.length:Int),N.stops.map Stop.pv,N.aj.map ax.pv,N.runs.map cy.pv,N.aH.map bq.pv,l.map Path.pv,N.aK.map aM.pv,N.bp,N.within,N.cap,()) fun _=>none) aea (fun rec=>?_) (by have:=aw;omega) (s0:=(0,N.stops.map Stop.pv,N.aj.map ax.pv,N.runs.map cy.pv,N.aH.map bq.pv,l.map Path.pv,N.aK.map aM.pv,N.bp,N.within,N.cap,())) rfl
  ·simp_all[pw,IS]
  simp[gJ,IS]
def iQ(x:cy):Bytes×Int×Int:=(x.id,x.day,x.inst)
def SP(x:Bytes×Int×Int):PV:=.agg [.str x.1,.int .i64 x.2.1,.int .i64 x.2.2]
theorem aec(a b:Bytes×Int×Int):cz (SP a).cells (SP b).cells=decide (a=b):=by obtain⟨a1,a2,a3⟩:=a;obtain⟨b1,b2,b3⟩:=b;rw[asS];simp[SP,PV.cells,cz,peq]
def oQ(l:List cy)(stops aj:Int)(k:Nat):Int:=match l[k]? with
 |none=>0
 |some x=>if eW x.id=false then 12 else if(decide (x.bD< -1)||decide (x.inst<0))=true then 2 else if(decide (x.day<0)||decide (x.day>36524))=true then 11 else if(decide (x.dG<0)||decide (x.dG≥aj))=true then 9 else if(gS x.calls stops 0 3155932800).2=0 then(if iQ x∈(l.map iQ).take k then 6 else 0)else(gS x.calls stops 0 3155932800).2
def yL(l:List cy)(stops aj:Int):Int×Int:=if l.length>1024 then(0,5)else bW (oQ l stops aj) l.length
theorem Vx(N:an)(l:List cy)(hl:l.length≤maxLen∧∀y∈l,y.Ok)(k:Nat)(hk:k<l.length)(rec:ahJ→Option PV):iy (l.map cy.pv,(l.length:Int),(k:Int),N.stops.map Stop.pv,N.aj.map ax.pv,l.map cy.pv,N.aH.map bq.pv,N.paths.map Path.pv,N.aK.map aM.pv,N.bp,N.within,N.cap,0,0,0,seen SP ((l.map iQ).take k),()) rec=bK (if oQ l N.stops.length N.aj.length k=0 then none else some (some (r3 2 k (oQ l N.stops.length N.aj.length k)))) (rec (l.map cy.pv,(l.length:Int),((k+1:Nat):Int),N.stops.map Stop.pv,N.aj.map ax.pv,l.map cy.pv,N.aH.map bq.pv,N.paths.map Path.pv,N.aK.map aM.pv,N.bp,N.within,N.cap,0,0,0,seen SP ((l.map iQ).take (k+1)),())):=by
 have hm:=ai;have h1:decide ((k:Int)<(l.length:Int))=true:=by simp;omega
 have hO:=hl.2 _ (aqW hk);have hid:=AN l[k].id hO.id;have yE:=OS l[k].calls N.stops.length 0 3155932800 hO.calls.1;simp only[res]at yE;have oK:dJ (.agg [.str l[k].id,.int .i64 l[k].day,.int .i64 l[k].inst]) (.bool true) (seen SP ((l.map iQ).take k))=_:=fX aec (iQ l[k]) ((l.map iQ).take k);have mC:cB (.agg [.str l[k].id,.int .i64 l[k].day,.int .i64 l[k].inst]) (.bool false) (seen SP ((l.map iQ).take k))=_:=eX aec (iQ l[k]) ((l.map iQ).take k);unfold iy;dsimp only;rw[IN h1,ag,AT,cN hk];simp only[No,U,pC,UI,UJ,UK,J4,C4,aO,asInt,asBool,ao,BY,AI,hid,yE,cn,amo,asi,Nat.reduceAdd,O6,T1,az,eC,oK,mC,SI,r3A,r30,r31,r32,ll iQ l k hk,ab (show k<9223372036854775807 by omega)];unfold oQ;rw[cN hk];simp only;generalize (decide (l[k].bD< -1)||decide (l[k].inst<0))=A;generalize (decide (l[k].day<0)||decide (l[k].day>36524))=B;generalize (decide (l[k].dG<0)||decide (l[k].dG≥(N.aj.length:Int)))=C;generalize (gS l[k].calls N.stops.length 0 3155932800).2=e;cases eW l[k].id with
 |false=>rfl
 |true=>
  cases A with
  |true=>rfl
  |false=>
   cases B with
   |true=>rfl
   |false=>
    cases C with
    |true=>rfl
    |false=>
     simp only[ahX,cQ,asp,IT];by_cases he:e=0
     ·subst he;by_cases bB:iQ l[k]∈(l.map iQ).take k
      ·simp only[bB,BY,asv,ahX,cQ,IT];rfl
      ·simp only[bB,BY,asv,asx,ahX,cQ,IT];rfl
     ·simp only[he,IT,BY,asx,asw];rfl
theorem Qh(N:an)(hl:N.runs.length≤maxLen∧∀y∈N.runs,y.Ok):jj [N.pv]=some (prt 2 (yL N.runs N.stops.length N.aj.length)):=by
 have hm:=ai;simp only[jj,qQ,ku,kv,kx,ky,kz,kA,kB,kC,kD,kE,U,AI];generalize hl':N.runs=l at hl⊢;unfold yL;by_cases j5:l.length>1024
 ·rw[IN (by simp;omega),IN j5];rfl
 ·rw[IS (by simp;omega),IS j5];have hR:some (prt 2 (bW (oQ l N.stops.length N.aj.length) l.length))=if(bW (oQ l N.stops.length N.aj.length) l.length).2=0 then some (r3 0 0 0)else some (r3 2 (bW (oQ l N.stops.length N.aj.length) l.length).1 (bW (oQ l N.stops.length N.aj.length) l.length).2):=by unfold prt;grind
  rw[hR,←pw (oQ l N.stops.length N.aj.length) l.length (fun i e=>r3 2 i e)];refine aC (fun k=>(l.map cy.pv,(l.length:Int),(k:Int),N.stops.map Stop.pv,N.aj.map ax.pv,l.map cy.pv,N.aH.map bq.pv,N.paths.map Path.pv,N.aK.map aM.pv,N.bp,N.within,N.cap,0,0,0,seen SP ((l.map iQ).take k),())) l.length _ (fun k hk rec=>Vx N l hl k hk rec) (fun rec=>?_) ?_ rfl
  ·unfold iy;dsimp only;rw[IS (by simp)];rfl
  ·have:=aw;omega
theorem Vy(N:an)(l:List cy)(hl:l.length≤maxLen)(i:Nat)(hi:i<l.length):bd.run vz ((i:Int),0,N.stops.map Stop.pv,N.aj.map ax.pv,l.map cy.pv,N.aH.map bq.pv,N.paths.map Path.pv,N.aK.map aM.pv,N.bp,N.within,N.cap,.int .i64 l[i].bD,.int .i64 l[i].day,.int .i64 l[i].inst,.str l[i].id,.int .i64 l[i].dG,.bool l[i].free,.bool l[i].aay,.rs 5 (l[i].calls.map aY.pv),())=if iQ l[i]∈(l.map iQ).take i then some (.int .i64 6)else some (.int .i64 0):=by
 have hm:=ai;refine(cX (fun k=>((i:Int),(k:Int),N.stops.map Stop.pv,N.aj.map ax.pv,l.map cy.pv,N.aH.map bq.pv,N.paths.map Path.pv,N.aK.map aM.pv,N.bp,N.within,N.cap,PV.int .i64 l[i].bD,PV.int .i64 l[i].day,PV.int .i64 l[i].inst,PV.str l[i].id,PV.int .i64 l[i].dG,PV.bool l[i].free,PV.bool l[i].aay,PV.rs 5 (l[i].calls.map aY.pv),())) i (fun k=>decide ((l.map iQ)[k]?=some (iQ l[i]))) (no:=some (.int .i64 6)) (fin:=some (.int .i64 0)) (fun k hk rec=>?_) (fun rec=>?_) ?_ rfl).trans ?_
 ·have h1:decide ((k:Int)<(i:Int))=true:=by simp;omega
  have sG:k<l.length:=by omega
  have hd:decide ((l.map iQ)[k]?=some (iQ l[i]))=(decide (l[k].id=l[i].id)&&decide (l[k].day=l[i].day)&&decide (l[k].inst=l[i].inst)):=by rw[asS];simp[cN sG,iQ,auV]
  rw[hd];unfold vz;dsimp only;rw[IN h1,ag,AT,cN sG];simp only[No,U,UI,UJ,UK,asInt,aO,BY,ab (show k<9223372036854775807 by omega),bT,aJ]
 ·simp[vz,IS]
 ·have:=aw;omega
 ·rw[jg _ _ (by simp;omega)];simp_all
theorem ahK(N:an)(hl:N.runs.length≤maxLen∧∀y∈N.runs,y.Ok)(k:Nat)(hk:k<N.runs.length):yM [N.pv,.int .i64 k]=some (.int .i64 (oQ N.runs N.stops.length N.aj.length k)):=by
 have hm:=ai;have hO:=hl.2 _ (aqW hk);simp only[yM,IQ,ku,kv,kx,ky,kz,kA,kB,kC,kD,kE,U];generalize hl':N.runs=l at hl hk hO⊢;have hO':l[k].Ok:=by omega
 have hid:=BG l[k].id hO'.id;have yE:=aa5 l[k].calls N.stops.length 0 3155932800 hO'.calls.1;have kY:=Vy N l hl.1 k hk;simp only[asInt,BY,U,ag,AT,cN hk,No,pC,UI,UJ,UK,J4,UL,UM,C4,aO,asBool,ao,AI,hid,yE,Mm,az,eC,kY];unfold oQ;grind
def nx(p:List bq)(v:Int):Option Int:=p.foldl (fun o x=>if(x.stay&&decide (x.a=v))=true then some x.b else o) none
theorem BJ(p:List bq)(x:bq)(v:Int):nx (p++[x]) v=if(x.stay&&decide (x.a=v))=true then some x.b else nx p v:=by unfold nx;simp
def it(f:Int→Option Int):Nat→Int→Option Int
 |0,v=>some v
 |m+1,v=>(f v).bind (it f m)
theorem Xt(f:Int→Option Int)(m:Nat)(v:Int):it f (m+1) v=(it f m v).bind f:=by
 induction m generalizing v with
 |zero=>show(f v).bind (it f 0)=f v;cases h:f v<;>rfl
 |succ m ih=>
  show(f v).bind (it f (m+1))=((f v).bind (it f m)).bind f;cases h:f v with
  |none=>rfl
  |some w=>exact ih w
def zT(p:List bq)(a b:Int)(n:Nat):Bool:=(List.range n).any fun t=>decide (it (nx p) (t+1) a=some b)
def Gj(f:Int→Option Int):Prop:=∃r:Int→Nat,∀v w,f v=some w→r w<r v
theorem Vz:Gj (nx []):=⟨fun _=>0,fun v w h=>by cases h⟩
variable{p:List bq}
theorem aed{v w:Int}(h:nx p v=some w):∃x∈p,x.stay=true∧x.a=v∧x.b=w:=by
 have key:∀n,n≤p.length→nx (p.take n) v=some w→∃x∈p,x.stay=true∧x.a=v∧x.b=w:=by
  intro n;induction n with
  |zero=>intro _ h;cases h
  |succ n ih=>
   intro hn h;have hn':n<p.length:=by omega
   rw[asr hn',BJ]at h;grind
 exact key p.length (ast _) (by simp_all)
theorem VA{f:Int→Option Int}(hf:Gj f)(S:List Int)(hS:∀v w,f v=some w→v∈S):∀m v,it f m v≠none→m≤S.length:=by
 obtain⟨r,hr⟩:=hf;induction hn:S.length generalizing S f r with
 |zero=>
  intro m v h;cases m with
  |zero=>omega
  |succ m=>
   exfalso;cases hfv:f v with
   |none=>exact h (by show(f v).bind _=none;rw[hfv];rfl)
   |some w=>simp_all
 |succ n ih=>
  intro m v h;cases m with
  |zero=>omega
  |succ m=>
   cases hfv:f v with
   |none=>exact absurd (by show(f v).bind _=none;rw[hfv];rfl) h
   |some w=>
    have hvS:=hS v w hfv;let g:Int→Option Int:=fun x=>if x=v then none else f x;have hg:∀x y,g x=some y→r y<r x:=fun x y hxy=>by grind
    have hgS:∀x y,g x=some y→x∈S.erase v:=fun x y hxy=>by grind
    have hlen:(S.erase v).length=n:=by simp_all
    have aiq:∀k x,r x<r v→it g k x=it f k x:=by
     intro k;induction k with
     |zero=>intros;rfl
     |succ k ihk=>
      intro x hx;have hxv:x≠v:=fun h=>by subst h;omega
      show(g x).bind (it g k)=(f x).bind (it f k);have:g x=f x:=by simp[g,hxv]
      rw[this];cases hfx:f x with
      |none=>rfl
      |some y=>grind
    have hw:it f m w≠none:=by simp_all[it]
    have:=ih (S.erase v) hgS r hg hlen m w (by simp_all);omega
theorem Qi(hp:Gj (nx p)){m:Nat}(hm:p.length<m)(v:Int):it (nx p) m v=none:=by
 cases h:it (nx p) m v with
 |none=>rfl
 |some w=>have:=VA hp (p.map bq.a) (fun x y hxy=>by grind [aed]) m v (by simp_all);grind
theorem SQ(hp:Gj (nx p))(x:bq)(h:x.stay=false∨(x.a≠x.b∧nx p x.a=none∧zT p x.b x.a (p.length+1)=false)):Gj (nx (p++[x])):=by
 cases hs:x.stay with
 |false=>obtain⟨r,hr⟩:=hp;refine⟨r,fun v w hvw=>hr v w ?_⟩;simp_all[BJ,atU,IS]
 |true=>
  rw[hs]at h;rcases h with h|⟨Az,hna,arY⟩
  ·cases h
  have QE:=hp;obtain⟨r,hr⟩:=hp;have Ii:∀t,it (nx p) (t+1) x.b≠some x.a:=by grind [zT,List.any_eq_false,Qi]
  let R:Int→Prop:=fun v=>∃t,it (nx p) t v=some x.a;have hRb:¬R x.b:=fun⟨t,ht⟩=>by
   cases t with
   |zero=>simp_all[it]
   |succ t=>exact Ii t ht
  refine⟨fun v=>open Classical in if R v then r v+r x.b+1 else r v,fun v w hvw=>?_⟩;rw[BJ,hs,as0]at hvw;by_cases hv:x.a=v
  ·rw[IN (by simpa using hv)]at hvw;simp only[cO]at hvw;subst hvw;have hRv:R v:=⟨0,by show some v=some x.a;rw[hv]⟩;grind
  ·rw[IS (by simpa using hv)]at hvw;have cd:=hr v w hvw;show(open Classical in if R w then r w+r x.b+1 else r w)<(open Classical in if R v then r v+r x.b+1 else r v);by_cases hw:R w
   ·have hRv:R v:=by obtain⟨t,ht⟩:=hw;exact⟨t+1,by simp_all[nx,it]⟩
    simp_all
   ·rw[IS hw];by_cases hRv:R v
    ·rw[IN hRv];omega
    simp_all
def yN(a:Int):PV:=.int .i64 a
def dP(x:bq):Int×Int×Int×Int:=(x.a,x.ac,x.b,x.bc)
def SR(x:Int×Int×Int×Int):PV:=.agg [.int .i64 x.1,.int .i64 x.2.1,.int .i64 x.2.2.1,.int .i64 x.2.2.2]
theorem aee(a b:Int×Int×Int×Int):cz (SR a).cells (SR b).cells=decide (a=b):=by obtain⟨a1,a2,a3,a4⟩:=a;obtain⟨b1,b2,b3,b4⟩:=b;rw[asS];simp[SR,PV.cells,cz,peq]
def Fv(p:List bq):List (Int×PV):=p.foldl (fun m x=>if x.stay=true then C5 x.a (.int .i64 x.b) m else m) []
theorem Gk(p:List bq)(x:bq):Fv (p++[x])=if x.stay=true then C5 x.a (.int .i64 x.b) (Fv p)else Fv p:=by unfold Fv;simp
def aa9(a:Int)(m:List (Int×PV)):Bool:=m.any fun x=>decide (a=x.1)
theorem Xu(a:Int):∀m,yj (yN a) (rK yN m)=aa9 a m
 |[]=>rfl
 |(b,u)::r=>by have:=Xu a r;simp only[rK]at this;simp only[rK,ass,yj,aa9,aud];rw[this];have:cz (yN a).cells (yN b).cells=decide (a=b):=EJ a b;rw[this];rfl
theorem SS(a b:Int)(v:PV):∀m,aa9 a (C5 b v m)=(decide (a=b)||aa9 a m)
 |[]=>by rfl
 |(c,u)::r=>by
  have:=SS a b v r;simp only[aa9]at this⊢;by_cases h:b=c
  ·subst h;simp[C5]
  ·simp only[C5,h,IT,aud,this];grind
theorem Mu{A:Type}{P:List A→Prop}(h0:P [])(h1:∀p x,P p→P (p++[x]))(l:List A):P l:=by
 have key:∀n,n≤l.length→P (l.take n):=by
  intro n;induction n with
  |zero=>simp_all
  |succ n ih=>grind [List.take_succ_eq_append_getElem]
 have:=key l.length (ast _);simp_all
theorem aba(p:List bq)(v:Int):yG v (.int .i64 0) (Fv p)=.int .i64 ((nx p v).getD 0):=by
 induction p using Mu with
 |h0=>rfl
 |h1 p x ih=>
  rw[Gk,BJ];cases hs:x.stay with
  |false=>simp_all
  |true=>rw[IN rfl,vR,as0];grind
theorem aef(p:List bq)(v:Int):aa9 v (Fv p)=(nx p v).isSome:=by
 induction p using Mu with
 |h0=>rfl
 |h1 p x ih=>
  rw[Gk,BJ];cases hs:x.stay with
  |false=>simp_all
  |true=>rw[IN rfl,SS,as0];grind
def tO(p:List bq):List (PV×PV):=rK yN (Fv p)
theorem Gl(p:List bq)(v:Int):cB (.int .i64 v) (.int .i64 0) (tO p)=.int .i64 ((nx p v).getD 0):=by have:=He (key:=yN) EJ v (.int .i64 0) (Fv p);rw[aba]at this;exact this
theorem IU(p:List bq)(v:Int):yj (.int .i64 v) (tO p)=(nx p v).isSome:=by have:=Xu v (Fv p);rw[aef]at this;exact this
theorem VB(p:List bq)(x:bq):tO (p++[x])=if x.stay=true then dJ (.int .i64 x.a) (.int .i64 x.b) (tO p)else tO p:=by
 have:=Ko (key:=yN) EJ x.a (.int .i64 x.b) (Fv p);unfold tO;rw[Gk];by_cases h:x.stay=true
 ·rw[IN h,IN h];exact this.symm
 simp_all
def tP(p:List bq):List Int:=(p.filter bq.stay).map bq.b
theorem VC(p:List bq)(x:bq):tP (p++[x])=if x.stay=true then tP p++[x.b]else tP p:=by grind [tP]
theorem abb(p:List bq)(v:Int):(nx p v).isSome=p.any fun y=>y.stay&&decide (y.a=v):=by
 induction p using Mu with
 |h0=>rfl
 |h1 p x ih=>rw[BJ,avc,←ih];grind
theorem aeg(p:List bq)(v:Int):decide (v∈tP p)=p.any fun y=>y.stay&&decide (y.b=v):=by rw[asS,cT];simp only[tP,cT,asC,auB,ati,amm];grind
def aj1(f:Int→Option Int)(a b:Int)(t:Nat):Option (Option PV):=(it f (t+1) a).elim (some (some (.bool false))) fun v=>if v=b then some (some (.bool true))else none
theorem VD(f:Int→Option Int)(b:Int)(n:Nat):∀a,it f (n+1) a=none→bK ((List.range n).findSome? (aj1 f a b)) (some (.bool false))=some (.bool ((List.range (n+1)).any fun t=>decide (it f (t+1) a=some b))):=by
 induction n with
 |zero=>intro a h;simp[bK,h]
 |succ n ih=>
  intro a h;rw[atE (n:=n+1),atE (n:=n),as3,aud];have h0:it f (0+1) a=f a:=by show(f a).bind (it f 0)=f a;cases hf:f a<;>rfl
  unfold aj1;rw[h0];cases hf:f a with
  |none=>
   have hz:∀t,it f (t+1) a=none:=fun t=>by show(f a).bind _=none;rw[hf];rfl
   simp_all[Option.elim,bK,List.any_map,atL]
  |some v=>
   have hs:∀t,it f (t+1+1) a=it f (t+1) v:=fun t=>by show(f a).bind _=_;rw[hf];rfl
   by_cases hv:v=b
   ·simp_all[Option.elim,BY,bK,asv,avx]
   ·have hd:decide (some v=some b)=false:=by simpa using hv
    simp only[Option.elim,IS hv,hd,atb];have:=ih v (by rw[←hs];omega);rw[List.findSome?_map,List.any_map];simp only[atL,Nat.succ_eq_add_one,hs];rw[←atE];exact this
theorem VE(p:List bq)(hp:Gj (nx p))(hl:p.length≤maxLen)(a b:Int):ou [.rm 3 ((tO p).map fun x=>x.fst) ((tO p).map fun x=>x.snd),.int .i64 a,.int .i64 b]=some (.bool (zT p a b (p.length+1))):=by
 have hz:((tO p).map fun x=>x.fst).zip ((tO p).map fun x=>x.snd)=tO p:=by
  generalize tO p=m;induction m with
  |nil=>rfl
  |cons x m ih=>simp_all
 simp only[ou,zU,da,BY,asInt,U,hz,Gl,IU];unfold zT;rw[←VD (nx p) b p.length a (Qi hp (by omega) a)];refine aC (fun t=>(PV.rm 3 ((tO p).map fun x=>x.fst) ((tO p).map fun x=>x.snd),b,(it (nx p) (t+1) a).getD 0,(it (nx p) (t+1) a).isSome,())) p.length _ (fun t ht rec=>?_) (fun rec=>?_) (by have:=aw;omega) ?_
 ·unfold nc aj1;dsimp only;rw[Xt (nx p) (t+1) a];cases hv:it (nx p) (t+1) a with
  |none=>rfl
  |some v=>
   simp only[auc,atk,BY,bT,cT,Option.elim];by_cases hvb:v=b
   ·rw[IN hvb,IN hvb];rfl
   ·rw[IS hvb,IS hvb];simp only[da,BY,hz,Gl,IU,asInt,U,bK,asq]
 ·unfold nc;dsimp only;rw[Qi hp (by omega)];rfl
 ·show(_,b,(it (nx p) 1 a).getD 0,(it (nx p) 1 a).isSome,())=_;have:it (nx p) 1 a=nx p a:=by show(nx p a).bind _=_;cases nx p a<;>rfl
  rw[this]
def bU(runs:List cy)(a:Int):List aY:=((runs[a.toNat]?).map cy.calls).getD []
def DE(cs:List aY)(c:Int):Int:=((cs[c.toNat]?).map aY.stop).getD 0
def NB(x:bq)(R:Int):Bool:= !(decide (x.a≥0)&&decide (x.a<R))|| !(decide (x.b≥0)&&decide (x.b<R))||decide (x.a=x.b)
def JP(x:bq)(A B:Int):Bool:= !(decide (x.ac≥0)&&decide (x.ac<A))|| !(decide (x.bc≥0)&&decide (x.bc<B))
def Mv(p:List bq)(x:bq)(A:Int):Bool:=x.stay&&(!decide (x.ac+1=A)|| !decide (x.bc=0)||(nx p x.a).isSome||decide (x.b∈tP p)||zT p x.b x.a (p.length+1))
def dQ(runs:List cy)(l:List bq)(k:Nat):Int:=match l[k]? with
 |none=>0
 |some x=>if NB x runs.length=true then 9 else if JP x (bU runs x.a).length (bU runs x.b).length=true then 9 else if DE (bU runs x.a) x.ac≠DE (bU runs x.b) x.bc then 13 else if Mv (l.take k) x (bU runs x.a).length=true then 19 else if dP x∈(l.map dP).take k then 6 else 0
def tQ(runs:List cy)(l:List bq):Int×Int:=if l.length>1024 then(0,5)else bW (dQ runs l) l.length
theorem Mw(runs:List cy)(l:List bq)(k:Nat)(hk:k≤l.length)(h:∀j,j<k→dQ runs l j=0):Gj (nx (l.take k))∧∀x∈l.take k,0≤x.a:=by
 induction k with
 |zero=>simp[at3,Vz]
 |succ k ih=>
  have sG:k<l.length:=by omega
  obtain⟨h1,h2⟩:=ih (by omega) fun j hj=>h j (by omega);have hz:=h k (by omega);unfold dQ at hz;rw[cN sG]at hz;simp only at hz;have hr:NB l[k] runs.length=false:=by grind
  have hs:Mv (l.take k) l[k] (bU runs l[k].a).length=false:=by grind
  unfold NB at hr;simp only[asK,as6,amm,cT,asI]at hr;rw[asr sG];refine⟨SQ h1 l[k] ?_,fun x hx=>?_⟩
  ·unfold Mv at hs;cases uQ:l[k].stay with
   |false=>simp
   |true=>simp_all
  grind
theorem HA(runs:List cy)(a:Int)(h:0≤a∧a<(runs.length:Int)):∃r∈runs,dB (runs.map cy.pv) a=some r.pv∧bU runs a=r.calls:=by
 obtain⟨n,rfl⟩:=atS h.1;have hn:n<runs.length:=by omega
 refine⟨runs[n],aqW hn,?_,?_⟩
 ·rw[ag,AT,cN hn];rfl
 ·unfold bU;simp_all
theorem EK(cs:List aY)(c:Int)(h:0≤c∧c<(cs.length:Int)):∃r,dB (cs.map aY.pv) c=some r∧cell r 0=.int .i64 (DE cs c):=by
 obtain⟨n,rfl⟩:=atS h.1;have hn:n<cs.length:=by omega
 refine⟨cs[n].pv,?_,?_⟩
 ·rw[ag,AT,cN hn];rfl
 ·unfold DE;rw[are,cN hn];rfl
theorem DF{runs:List cy}(h:∀y∈runs,y.Ok)(a:Int):(bU runs a).length≤maxLen:=by
 unfold bU;cases hr:runs[a.toNat]? with
 |none=>simp
 |some r=>exact(h r (aqY hr)).calls.1
theorem SU(N:an)(runs:List cy)(hr:∀y∈runs,y.Ok)(l:List bq)(hl:l.length≤maxLen)(k:Nat)(hk:k<l.length)(RF:∀j,j<k→dQ runs l j=0)(rec:TY0→Option PV):gT (l.map bq.pv,(l.length:Int),(k:Int),N.stops.map Stop.pv,N.aj.map ax.pv,runs.map cy.pv,l.map bq.pv,N.paths.map Path.pv,N.aK.map aM.pv,N.bp,N.within,N.cap,0,0,0,tO (l.take k),seen yN (tP (l.take k)),seen SR ((l.map dP).take k),()) rec=bK (if dQ runs l k=0 then none else some (some (r3 3 k (dQ runs l k)))) (rec (l.map bq.pv,(l.length:Int),((k+1:Nat):Int),N.stops.map Stop.pv,N.aj.map ax.pv,runs.map cy.pv,l.map bq.pv,N.paths.map Path.pv,N.aK.map aM.pv,N.bp,N.within,N.cap,0,0,0,tO (l.take (k+1)),seen yN (tP (l.take (k+1))),seen SR ((l.map dP).take (k+1)),())):=by
 have hm:=ai;have h1:decide ((k:Int)<(l.length:Int))=true:=by simp;omega
 obtain⟨ans,_⟩:=Mw runs l k (by omega) RF;have hlen:(l.take k).length=k:=by simp;omega
 have My:=VE (l.take k) ans (by omega) l[k].b l[k].a;have oK:dJ (.agg [.int .i64 l[k].a,.int .i64 l[k].ac,.int .i64 l[k].b,.int .i64 l[k].bc]) (.bool true) (seen SR ((l.map dP).take k))=_:=fX aee (dP l[k]) ((l.map dP).take k);have mC:cB (.agg [.int .i64 l[k].a,.int .i64 l[k].ac,.int .i64 l[k].b,.int .i64 l[k].bc]) (.bool false) (seen SR ((l.map dP).take k))=_:=eX aee (dP l[k]) ((l.map dP).take k);have ant:dJ (.int .i64 l[k].b) (.bool true) (seen yN (tP (l.take k)))=_:=fX (key:=yN) EJ l[k].b (tP (l.take k));have aj2:cB (.int .i64 l[k].b) (.bool false) (seen yN (tP (l.take k)))=_:=eX (key:=yN) EJ l[k].b (tP (l.take k));have hsn:l.take (k+1)=l.take k++[l[k]]:=asr hk;unfold gT;dsimp only;rw[IN h1,ag,AT,cN hk,hsn,VB,VC,ll dP l k hk];simp only[No,U,Mb,Se,link2,Sf,OH,asInt,asBool,BY,AI,Gi,az,bT];unfold dQ;rw[cN hk];simp only;have hR:(!(decide (l[k].a≥0)&&decide (l[k].a<(runs.length:Int)))|| !(decide (l[k].b≥0)&&decide (l[k].b<(runs.length:Int)))||decide (l[k].a=l[k].b))=NB l[k] runs.length:=rfl;rw[hR];cases hb:NB l[k] runs.length with
 |true=>rfl
 |false=>
  unfold NB at hb;simp only[asK,as6,amm,cT,asI]at hb;obtain⟨ra,hra,hia,hca⟩:=HA runs l[k].a ⟨hb.1.1.1,hb.1.1.2⟩;obtain⟨rb,hrb,hib,hcb⟩:=HA runs l[k].b ⟨hb.1.2.1,hb.1.2.2⟩;have hA:=DF hr l[k].a;rw[hia,hib];simp only[U,C4,ao,BY,AI,←hca,←hcb,Gi,asBool,az];have hC:(!(decide (l[k].ac≥0)&&decide (l[k].ac<((bU runs l[k].a).length:Int)))|| !(decide (l[k].bc≥0)&&decide (l[k].bc<((bU runs l[k].b).length:Int))))=JP l[k] (bU runs l[k].a).length (bU runs l[k].b).length:=rfl;rw[hC];cases LS:JP l[k] (bU runs l[k].a).length (bU runs l[k].b).length with
  |true=>rfl
  |false=>
   unfold JP at LS;simp only[asK,as6,amm,cT]at LS;obtain⟨ka,hka,hsa⟩:=EK (bU runs l[k].a) l[k].ac LS.1;obtain⟨kb,hkb,hsb⟩:=EK (bU runs l[k].b) l[k].bc LS.2;have hw:IntKind.i64.wrap (l[k].ac+1)=l[k].ac+1:=aZ (by omega) (by omega);simp only[cQ,IT,hka,hkb,U,hsa,hsb,Gl,IU,mC,aj2,oK,ant,asInt,asBool,BY,My,hw,hlen,az,aJ,eC,SI,r3A,r30,r31,r32,ab (show k<9223372036854775807 by omega)];have hS:(l[k].stay&&(!decide (l[k].ac+1=((bU runs l[k].a).length:Int))|| !decide (l[k].bc=0)||(nx (l.take k) l[k].a).isSome||decide (l[k].b∈tP (l.take k))||zT (l.take k) l[k].b l[k].a (k+1)))=Mv (l.take k) l[k] (bU runs l[k].a).length:=by unfold Mv;rw[hlen]
   rw[hS];generalize Mv (l.take k) l[k] (bU runs l[k].a).length=S;by_cases uQ:DE (bU runs l[k].a) l[k].ac=DE (bU runs l[k].b) l[k].bc
   ·simp only[uQ,asv,ahX,cQ,IT,avA,not_true];cases S with
    |true=>rfl
    |false=>
     by_cases bB:dP l[k]∈(l.map dP).take k
     ·simp only[bB,asv,BY,cQ,IT];rfl
     ·simp only[bB,asx,BY,cQ,IT];cases l[k].stay<;>rfl
   ·simp only[uQ,asx,asw,BY,avA,not_false_eq_true];rfl
theorem NC(N:an)(hr:N.runs.length≤maxLen∧∀y∈N.runs,y.Ok)(hl:N.aH.length≤maxLen):fx [N.pv]=some (prt 3 (tQ N.runs N.aH)):=by
 have hm:=ai;simp only[fx,oS,ku,kv,kx,ky,kz,kA,kB,kC,kD,kE,U,AI];generalize hl':N.aH=l at hl⊢;generalize Cz:N.runs=runs at hr⊢;unfold tQ;by_cases j5:l.length>1024
 ·rw[IN (by simp;omega),IN j5];rfl
 ·rw[IS (by simp;omega),IS j5];have hR:some (prt 3 (bW (dQ runs l) l.length))=if(bW (dQ runs l) l.length).2=0 then some (r3 0 0 0)else some (r3 3 (bW (dQ runs l) l.length).1 (bW (dQ runs l) l.length).2):=by unfold prt;grind
  rw[hR,←pw (dQ runs l) l.length (fun i e=>r3 3 i e)];refine Fu (fun k=>(l.map bq.pv,(l.length:Int),(k:Int),N.stops.map Stop.pv,N.aj.map ax.pv,runs.map cy.pv,l.map bq.pv,N.paths.map Path.pv,N.aK.map aM.pv,N.bp,N.within,N.cap,0,0,0,tO (l.take k),seen yN (tP (l.take k)),seen SR ((l.map dP).take k),())) l.length _ (fun k hk RF rec=>SU N runs hr.2 l hl k hk (fun j hj=>?_) rec) (fun _ rec=>?_) (by have:=aw;omega) rfl
  ·simp_all
  ·unfold gT;dsimp only;rw[IS (by simp)];rfl
theorem abc(N:an)(i:Nat)(hi:i<N.aH.length)(hl:N.aH.length≤maxLen)(hp:∀x∈N.aH.take i,0≤x.a)(a b:Int)(hb:0≤b):ta [N.pv,.int .i64 i,.int .i64 a,.int .i64 b]=some (.bool (zT (N.aH.take i) a b (i+1))):=by
 have hm:=ai;simp only[ta,DG,ku,kv,kx,ky,kz,kA,kB,kC,kD,kE,U];simp only[asInt,BY,U];generalize hl':N.aH=l at hl hi hp⊢;have anu:nx (l.take i) (-1)=none:=by
  cases hn:nx (l.take i) (-1)with
  |none=>rfl
  |some w=>grind [aed]
 have Re:∀t,(nx (l.take i) ((it (nx (l.take i)) t a).getD (-1))).getD (-1)=(it (nx (l.take i)) (t+1) a).getD (-1):=by
  intro t;rw[Xt];cases it (nx (l.take i)) t a with
  |none=>simp_all
  |some v=>rfl
 have kY:∀(c:Int)(t:Nat)jU,bd.run (qR jU) ((i:Int),c,b,(t:Int),-1,0,N.stops.map Stop.pv,N.aj.map ax.pv,N.runs.map cy.pv,l.map bq.pv,N.paths.map Path.pv,N.aK.map aM.pv,N.bp,N.within,N.cap,())=if(nx (l.take i) c).getD (-1)=b then some (.bool true)else jU ((i:Int),(nx (l.take i) c).getD (-1),b,IntKind.i64.wrap ((t:Int)+1),N.stops.map Stop.pv,N.aj.map ax.pv,N.runs.map cy.pv,l.map bq.pv,N.paths.map Path.pv,N.aK.map aM.pv,N.bp,N.within,N.cap,()):=by
  intro c t jU;refine bg (fun k=>((i:Int),c,b,(t:Int),(nx (l.take k) c).getD (-1),(k:Int),N.stops.map Stop.pv,N.aj.map ax.pv,N.runs.map cy.pv,l.map bq.pv,N.paths.map Path.pv,N.aK.map aM.pv,N.bp,N.within,N.cap,())) i (fun k hk rec=>?_) (fun rec=>?_) (by have:=aw;omega) (by rfl)
  ·have h1:decide ((k:Int)<(i:Int))=true:=by simp;omega
   have sG:k<l.length:=by omega
   unfold qR;dsimp only;rw[IN h1,ag,AT,cN sG,asr sG,BJ];simp only[No,U,Mb,link2,OH,asInt,asBool,BY,aJ,bT,ab (show k<9223372036854775807 by omega)];grind
  simp[qR,IS,bT,cT]
 unfold zT;have zd:bd.run (qS bd) ((i:Int),a,b,0,N.stops.map Stop.pv,N.aj.map ax.pv,N.runs.map cy.pv,l.map bq.pv,N.paths.map Path.pv,N.aK.map aM.pv,N.bp,N.within,N.cap,())=if((List.range (i+1)).any fun t=>decide (it (nx (l.take i)) (t+1) a=some b))=true then some (PV.bool true)else some (PV.bool false):=by
  refine cX (fun t:Nat=>((i:Int),(it (nx (l.take i)) t a).getD (-1),b,(t:Int),N.stops.map Stop.pv,N.aj.map ax.pv,N.runs.map cy.pv,l.map bq.pv,N.paths.map Path.pv,N.aK.map aM.pv,N.bp,N.within,N.cap,())) (i+1) (fun t=>decide (it (nx (l.take i)) (t+1) a=some b)) (no:=some (PV.bool true)) (fin:=some (PV.bool false)) (fun t ht rec=>?_) (fun rec=>?_) (by have:=aw;omega) rfl
  ·have h1:decide ((t:Int)≤(i:Int))=true:=by simp;omega
   unfold qS;dsimp only;rw[IN h1,kY,Re,ab (by omega)];cases hv:it (nx (l.take i)) (t+1) a with
   |none=>grind
   |some v=>simp
  ·unfold qS;grind
 grind
theorem abd(l:List bq)(P:bq→Bool)(k:Nat)(hk:k≤l.length):((List.range k).any fun j=>(l[j]?).elim false P)=(l.take k).any P:=by
 induction k with
 |zero=>rfl
 |succ k ih=>
  have sG:k<l.length:=by omega
  rw[atB,avc,ih (by omega),asr sG,avc];simp_all
theorem aeh(N:an)(hr:N.runs.length≤maxLen∧∀y∈N.runs,y.Ok)(hl:N.aH.length≤maxLen)(k:Nat)(hk:k<N.aH.length)(RF:∀j,j<k→dQ N.runs N.aH j=0):vA [N.pv,.int .i64 k]=some (.int .i64 (dQ N.runs N.aH k)):=by
 have hm:=ai;obtain⟨_,eS⟩:=Mw N.runs N.aH k (by omega) RF;have My:=fun a b hb=>abc N k hk hl eS a b hb;have hE:=oN N;simp only[vA,Gm,ku,kv,kx,ky,kz,kA,kB,kC,kD,kE,U];rw[←oN N]at My;generalize hl':N.aH=l at hl hk eS My⊢;generalize Cz:N.runs=runs at hr My⊢;have hw0:IntKind.i64.wrap ((runs.length:Int)-1)=(runs.length:Int)-1:=aZ (by omega) (by omega);simp only[asInt,BY,U,ag,AT,cN hk,No,Mb,Se,link2,Sf,OH,asBool,AI,hw0,Mm,az,bT];unfold dQ;rw[cN hk];simp only;have hR:(!(decide (l[k].a≥0)&&decide (l[k].a≤(runs.length:Int)-1))|| !(decide (l[k].b≥0)&&decide (l[k].b≤(runs.length:Int)-1))||decide (l[k].a=l[k].b))=NB l[k] runs.length:=by unfold NB;grind
 rw[hR];cases hb:NB l[k] runs.length with
 |true=>rfl
 |false=>
  unfold NB at hb;simp only[asK,as6,amm,cT,asI]at hb;obtain⟨ra,hra,hia,hca⟩:=HA runs l[k].a ⟨hb.1.1.1,hb.1.1.2⟩;obtain⟨rb,hrb,hib,hcb⟩:=HA runs l[k].b ⟨hb.1.2.1,hb.1.2.2⟩;have hA:=DF hr.2 l[k].a;have hB:=DF hr.2 l[k].b;rw[hia,hib];simp only[U,C4,ao,BY,AI,←hca,←hcb];have hwA:IntKind.i64.wrap (((bU runs l[k].a).length:Int)-1)=((bU runs l[k].a).length:Int)-1:=aZ (by omega) (by omega);have hwB:IntKind.i64.wrap (((bU runs l[k].b).length:Int)-1)=((bU runs l[k].b).length:Int)-1:=aZ (by omega) (by omega);simp only[hwA,hwB,Mm,asBool,U,az];have hC:(!(decide (l[k].ac≥0)&&decide (l[k].ac≤((bU runs l[k].a).length:Int)-1))|| !(decide (l[k].bc≥0)&&decide (l[k].bc≤((bU runs l[k].b).length:Int)-1)))=JP l[k] (bU runs l[k].a).length (bU runs l[k].b).length:=by unfold JP;grind
  rw[hC];cases LS:JP l[k] (bU runs l[k].a).length (bU runs l[k].b).length with
  |true=>rfl
  |false=>
   unfold JP at LS;simp only[asK,as6,amm,cT]at LS;obtain⟨ka,hka,hsa⟩:=EK (bU runs l[k].a) l[k].ac LS.1;obtain⟨kb,hkb,hsb⟩:=EK (bU runs l[k].b) l[k].bc LS.2;simp only[cQ,IT,hka,hkb,U,hsa,hsb,asInt,asBool,BY,az,aJ,eC];by_cases uQ:DE (bU runs l[k].a) l[k].ac=DE (bU runs l[k].b) l[k].bc
   ·simp only[uQ,asv,ahX,cQ,IT,avA,not_true];have JI:bd.run tb ((k:Int),0,N.stops.map Stop.pv,N.aj.map ax.pv,runs.map cy.pv,l.map bq.pv,N.paths.map Path.pv,N.aK.map aM.pv,N.bp,N.within,N.cap,.int .i64 l[k].a,.int .i64 l[k].ac,.int .i64 l[k].b,.int .i64 l[k].bc,.bool l[k].stay,())=if dP l[k]∈(l.map dP).take k then some (.int .i64 6)else some (.int .i64 0):=by
     refine(cX (fun j=>((k:Int),(j:Int),N.stops.map Stop.pv,N.aj.map ax.pv,runs.map cy.pv,l.map bq.pv,N.paths.map Path.pv,N.aK.map aM.pv,N.bp,N.within,N.cap,PV.int .i64 l[k].a,PV.int .i64 l[k].ac,PV.int .i64 l[k].b,PV.int .i64 l[k].bc,PV.bool l[k].stay,())) k (fun j=>decide ((l.map dP)[j]?=some (dP l[k]))) (no:=some (.int .i64 6)) (fin:=some (.int .i64 0)) (fun j hj rec=>?_) (fun rec=>?_) (by have:=aw;omega) rfl).trans ?_
     ·have h1:decide ((j:Int)<(k:Int))=true:=by simp;omega
      have TO:j<l.length:=by omega
      have hd:decide ((l.map dP)[j]?=some (dP l[k]))=(decide (l[j].a=l[k].a)&&decide (l[j].ac=l[k].ac)&&decide (l[j].b=l[k].b)&&decide (l[j].bc=l[k].bc)):=by rw[asS];simp[cN TO,dP,auV]
      rw[hd];unfold tb;dsimp only;rw[IN h1,ag,AT,cN TO];simp only[No,U,Mb,Se,link2,Sf,asInt,BY,ab (show j<9223372036854775807 by omega),bT,aJ]
     ·simp[tb,IS]
     ·rw[jg _ _ (by simp;omega)];simp_all
    have aqG:bd.run (tc bd) ((k:Int),0,N.stops.map Stop.pv,N.aj.map ax.pv,runs.map cy.pv,l.map bq.pv,N.paths.map Path.pv,N.aK.map aM.pv,N.bp,N.within,N.cap,.int .i64 l[k].a,.int .i64 l[k].ac,.int .i64 l[k].b,.int .i64 l[k].bc,.bool l[k].stay,())=if(l[k].stay&&((nx (l.take k) l[k].a).isSome||decide (l[k].b∈tP (l.take k))))=true then some (.int .i64 19)else if(l[k].stay&&zT (l.take k) l[k].b l[k].a (k+1))=true then some (.int .i64 19)else if dP l[k]∈(l.map dP).take k then some (.int .i64 6)else some (.int .i64 0):=by
     refine(cX (fun j=>((k:Int),(j:Int),N.stops.map Stop.pv,N.aj.map ax.pv,runs.map cy.pv,l.map bq.pv,N.paths.map Path.pv,N.aK.map aM.pv,N.bp,N.within,N.cap,PV.int .i64 l[k].a,PV.int .i64 l[k].ac,PV.int .i64 l[k].b,PV.int .i64 l[k].bc,PV.bool l[k].stay,())) k (fun j=>(l[j]?).elim false fun y=>l[k].stay&&y.stay&&(decide (y.a=l[k].a)||decide (y.b=l[k].b))) (no:=some (.int .i64 19)) (fin:=if(l[k].stay&&zT (l.take k) l[k].b l[k].a (k+1))=true then some (.int .i64 19)else if dP l[k]∈(l.map dP).take k then some (.int .i64 6)else some (.int .i64 0)) (fun j hj rec=>?_) (fun rec=>?_) (by have:=aw;omega) rfl).trans ?_
     ·have h1:decide ((j:Int)<(k:Int))=true:=by simp;omega
      have TO:j<l.length:=by omega
      rw[cN TO];unfold tc;dsimp only;rw[IN h1,ag,AT,cN TO];simp only[No,U,Mb,link2,OH,asInt,asBool,BY,ab (show j<9223372036854775807 by omega),bT,aJ,az,Option.elim];rfl
     ·unfold tc;simp_all[IS,asBool,asInt,BY,U,aJ]
     ·rw[abd l _ k (by omega)];have ajp:((l.take k).any fun y=>l[k].stay&&y.stay&&(decide (y.a=l[k].a)||decide (y.b=l[k].b)))=(l[k].stay&&((nx (l.take k) l[k].a).isSome||decide (l[k].b∈tP (l.take k)))):=by
       rw[abb,aeg];cases l[k].stay with
       |false=>simp
       |true=>rw[asS];simp only[as0,asz,ati,amm,cT];grind
      rw[ajp]
    rw[aqG];have hlen:(l.take k).length=k:=by simp;omega
    have hac:decide (l[k].ac=((bU runs l[k].a).length:Int)-1)=decide (l[k].ac+1=((bU runs l[k].a).length:Int)):=by grind
    rw[hac];unfold Mv;grind
   simp_all
def ue(N:an):Int×Int×Int:=
 if(fH N.stops).2=0 then
  if(eN N.aj).2=0 then
   if(yL N.runs N.stops.length N.aj.length).2=0 then
    if(tQ N.runs N.aH).2=0 then
     if(dA N.paths N.stops.length).2=0 then if(cJ N.aK N.bp N.within N.cap).2=0 then(0,0,0)else(5,cJ N.aK N.bp N.within N.cap)
     else(4,dA N.paths N.stops.length)
    else(3,tQ N.runs N.aH)
   else(2,yL N.runs N.stops.length N.aj.length)
  else(1,eN N.aj)
 else(0,fH N.stops)
def iU(x:Int×Int×Int):PV:=.aG [.int .i64 x.1,.int .i64 x.2.1,.int .i64 x.2.2]
theorem r3E(p i e:Int):PV.agg [cell (r3 p i e) 0,cell (r3 p i e) 1,cell (r3 p i e) 2]=r3 p i e:=rfl
theorem r3F(p i e:Int):PV.agg [.int .i64 p,.int .i64 i,.int .i64 e]=r3 p i e:=rfl
theorem DH(p i e q j f:Int):eD [.rs 3 [r3 p i e,r3 q j f]]=some (if e=0 then(if f=0 then r3 0 0 0 else r3 q j f)else r3 p i e):=by
 simp only[eD,zV,ao,BY,U];have h0:=aC (body:=nd) (fun k=>([r3 p i e,r3 q j f],(2:Int),(k:Int),0,0,0,())) 2 (fun k=>if k=0 then(if e=0 then none else some (some (r3 p i e)))else(if f=0 then none else some (some (r3 q j f)))) (fin:=some (r3 0 0 0)) (fun k hk rec=>?_) (fun rec=>?_) (by decide) (s0:=([r3 p i e,r3 q j f],(2:Int),0,0,0,0,())) rfl
 ·refine h0.trans ?_;have:List.range 2=[0,1]:=rfl;grind [bK]
 ·have h2:k=0∨k=1:=by omega
  rcases h2 with rfl|rfl
  ·unfold nd;dsimp only;rw[IN (by simp),ag];simp only[asL,U,r32,asInt,BY,eC,r3E,ab (show 0<9223372036854775807 by omega)];by_cases he:e=0
   ·simp only[he,asv,ahX,cQ,IT,BY];rfl
   ·simp only[he,asx,asw,IT,BY];rfl
  ·unfold nd;dsimp only;rw[IN (by simp),ag];simp only[atQ,asL,U,r32,asInt,BY,eC,r3E,ab (show 1<9223372036854775807 by omega)];by_cases he:f=0
   ·simp only[he,asv,ahX,cQ,IT,BY];rfl
   ·simp only[he,asx,asw,IT,BY];rfl
 rfl
theorem VF(p:Int)(x:Int×Int):prt p x=if x.2=0 then r3 0 0 0 else r3 p x.1 x.2:=rfl
theorem ID{l:List Stop}(h:(fH l).2=0):l.length≤64:=by unfold fH at h;grind
theorem Mz(a b:Int):(a==b)=decide (a=b):=bT a b
theorem F6(N:an)(h:N.Ok)(hp:N.paths.length≤4096):fS [N.pv]=some (iU (ue N)):=by
 have hs:=OR N.stops h.stops;have hr:=Mp N.aj h.aj;have hu:=Qh N h.runs;have hl:=NC N h.runs h.aH.1;have hf:=BE N.aK N.bp N.within N.cap h.aK;unfold dr at hf;simp only[fS,zW,ku,kv,kx,ky,kz,kA,kB,kC,kD,kE,U,oN];simp only[hs,hr,hf,hu,hl,U,res,cn,amo,asi,Nat.reduceAdd,BY,O6,T1,SI,r3A,r3F,DH];unfold ue;by_cases h1:(fH N.stops).2=0
 ·have hpa:=NA N (ID h1) hp;simp only[hpa,U,h1,BY];by_cases h2:(eN N.aj).2=0
  ·simp only[h2,BY];rw[VF 2,VF 3,VF 4];by_cases h3:(yL N.runs N.stops.length N.aj.length).2=0
   ·simp only[h3,BY];by_cases h4:(tQ N.runs N.aH).2=0
    ·simp only[h4,BY];by_cases h5:(dA N.paths N.stops.length).2=0
     ·simp only[h5,BY];by_cases h6:(cJ N.aK N.bp N.within N.cap).2=0
      ·simp only[h6,BY,r3A,r3F,r30,r31,r32,asInt,U,DH,Mz,asv,asx,cQ,iU]
      ·simp only[h6,BY,IT,r3A,r3F,r30,r31,r32,asInt,U,DH,Mz,asv,asx,cQ,iU]
     ·simp only[h5,BY,IT,r3A,r3F,r30,r31,r32,asInt,U,DH,Mz,asv,asx,cQ,iU]
    ·simp only[h4,BY,IT,r3A,r3F,r30,r31,r32,asInt,U,DH,Mz,asv,asx,cQ,iU]
   ·simp only[h3,BY,IT,r3A,r3F,r30,r31,r32,asInt,U,DH,Mz,asv,asx,cQ,iU]
  ·simp only[h2,BY,IT,r3A,r3F,r30,r31,r32,asInt,U,DH,Mz,asv,asx,cQ,iU]
 ·simp only[h1,BY,IT,r3A,r3F,r30,r31,r32,asInt,U,DH,Mz,asv,asx,cQ,iU]
theorem Qj(N:an)(h:N.Ok)(hn:N.stops.length≤64)(hp:N.paths.length≤4096):bd.run qT (0,N.stops.map Stop.pv,N.aj.map ax.pv,N.runs.map cy.pv,N.aH.map bq.pv,N.paths.map Path.pv,N.aK.map aM.pv,N.bp,N.within,N.cap,())=some (iU (if(bW (dQ N.runs N.aH) N.aH.length).2=0 then
  if(dA N.paths N.stops.length).2=0 then if(cJ N.aK N.bp N.within N.cap).2=0 then(0,0,0)else(5,cJ N.aK N.bp N.within N.cap)
  else(4,dA N.paths N.stops.length)
 else(3,bW (dQ N.runs N.aH) N.aH.length))):=by
 have hm:=ai
 have Oi:=h.aH.1
 have hpa:=aa8 N hn hp
 have hf:=aa4 N.aK N.bp N.within N.cap h.aK
 unfold dr at hf
 have hg:=pw (dQ N.runs N.aH) N.aH.length (fun i e=>iU (3,i,e)) (some (iU (if(dA N.paths N.stops.length).2=0 then if(cJ N.aK N.bp N.within N.cap).2=0 then(0,0,0)else(5,cJ N.aK N.bp N.within N.cap)else(4,dA N.paths N.stops.length))))
 have hR:(if(bW (dQ N.runs N.aH) N.aH.length).2=0 then(some (iU (if(dA N.paths N.stops.length).2=0 then if(cJ N.aK N.bp N.within N.cap).2=0 then(0,0,0)else(5,cJ N.aK N.bp N.within N.cap)else(4,dA N.paths N.stops.length))))else some (iU (3,(bW (dQ N.runs N.aH) N.aH.length).1,(bW (dQ N.runs N.aH) N.aH.length).2)))=some (iU (if(bW (dQ N.runs N.aH) N.aH.length).2=0 then
   if(dA N.paths N.stops.length).2=0 then if(cJ N.aK N.bp N.within N.cap).2=0 then(0,0,0)else(5,cJ N.aK N.bp N.within N.cap)
   else(4,dA N.paths N.stops.length)
  else(3,bW (dQ N.runs N.aH) N.aH.length))):=by
  grind
 rw[←hR,←hg]
 refine Fu (fun k=>((k:Int),N.stops.map Stop.pv,N.aj.map ax.pv,N.runs.map cy.pv,N.aH.map bq.pv,N.paths.map Path.pv,N.aK.map aM.pv,N.bp,N.within,N.cap,())) N.aH.length _ (fun k hk RF rec=>?_) (fun _ rec=>?_) (by have:=aw;omega) rfl
 ·have anv:∀j,j<k→dQ N.runs N.aH j=0:=fun j hj=>by simp_all
  have hrl:=aeh N h.runs Oi k hk anv;have h1:decide ((k:Int)<((N.aH.map bq.pv).length:Int))=true:=by simp;omega
  unfold qT;dsimp only;rw[IN h1,oN,hrl];simp only[U,asInt,BY,eC,ab (show k<9223372036854775807 by omega)];by_cases he:dQ N.runs N.aH k=0
  ·simp only[he,asv,ahX,cQ,IT,BY];rfl
  ·simp only[he,asx,asw,IT,BY];rfl
 ·unfold qT;dsimp only;rw[IS (by simp),oN,hpa];simp only[U,res,cn,amo,asi,Nat.reduceAdd,BY,O6,T1,asInt,eC,hf];by_cases h5:(dA N.paths N.stops.length).2=0
  ·simp only[h5,asv,ahX,cQ,IT,BY];by_cases h6:(cJ N.aK N.bp N.within N.cap).2=0
   ·simp_all[asv,ahX,cQ,IT,BY,iU]
   simp_all[asx,asw,cQ,IT,BY,iU]
  simp_all[asx,asw,cQ,IT,BY,iU]
theorem aaN(N:an)(h:N.Ok)(hp:N.paths.length≤4096):td [N.pv]=some (iU (ue N)):=by
 have hm:=ai;have db:4096≤maxLen:=by decide
 have hs:=aa2 N.stops h.stops;have hr:=Vv N.aj h.aj;simp only[td,DJ,ku,kv,kx,ky,kz,kA,kB,kC,kD,kE,U];simp only[hs,hr,U,res,cn,amo,asi,Nat.reduceAdd,BY,O6,T1,asInt,eC];unfold ue;by_cases h1:(fH N.stops).2=0
 ·have A2:=Qj N h (ID h1) hp;simp only[h1,asv,ahX,cQ,IT,BY];by_cases h2:(eN N.aj).2=0
  ·simp only[h2,asv,ahX,cQ,IT,BY];unfold yL;by_cases j5:N.runs.length>1024
   ·rw[IN (by simp;omega),IN j5];rfl
   ·rw[IS (by simp;omega),IS j5];generalize hE:oQ N.runs N.stops.length N.aj.length=E;generalize hF:(if(tQ N.runs N.aH).2=0 then
     if(dA N.paths N.stops.length).2=0 then if(cJ N.aK N.bp N.within N.cap).2=0 then((0:Int),(0:Int),(0:Int))else(5,cJ N.aK N.bp N.within N.cap)
     else(4,dA N.paths N.stops.length)
    else(3,tQ N.runs N.aH))=F
    have hg:=pw E N.runs.length (fun i e=>iU (2,i,e)) (some (iU F));have hR:(if(bW E N.runs.length).2=0 then some (iU F)else some (iU (2,(bW E N.runs.length).1,(bW E N.runs.length).2)))=some (iU (if(bW E N.runs.length).2=0 then F else(2,bW E N.runs.length))):=by grind
    rw[←hR,←hg];refine aC (fun k=>((k:Int),N.stops.map Stop.pv,N.aj.map ax.pv,N.runs.map cy.pv,N.aH.map bq.pv,N.paths.map Path.pv,N.aK.map aM.pv,N.bp,N.within,N.cap,())) N.runs.length _ (fun k hk rec=>?_) (fun rec=>?_) (by have:=aw;omega) rfl
    ·have QF:=ahK N h.runs k hk;rw[hE]at QF;have h1:decide ((k:Int)<((N.runs.map cy.pv).length:Int))=true:=by simp;omega
     unfold xn;dsimp only;rw[IN h1,oN,QF];simp only[U,asInt,BY,eC,ab (show k<9223372036854775807 by omega)];by_cases he:E k=0
     ·simp only[he,asv,ahX,cQ,IT,BY];rfl
     ·simp only[he,asx,asw,IT,BY];rfl
    ·unfold xn;dsimp only;rw[IS (by simp),←hF];unfold tQ;by_cases h10:N.aH.length>1024
     ·rw[IN (by simp;omega),IN h10];rfl
     grind
  simp_all[asx,asw,cQ,IT,BY,iU]
 simp_all[asx,asw,cQ,IT,BY,iU]
theorem L7{N:an}(h:(ue N).2.2=0):∀k,k<N.runs.length→oQ N.runs N.stops.length N.aj.length k=0:=by
 unfold ue at h;by_cases h1:(fH N.stops).2=0
 ·rw[IN h1]at h;by_cases h2:(eN N.aj).2=0
  ·rw[IN h2]at h;by_cases h3:(yL N.runs N.stops.length N.aj.length).2=0
   ·unfold yL at h3;by_cases j5:N.runs.length>1024
    ·simp_all
    simp_all[IS,se]
   simp_all
  simp_all
 simp_all
theorem De{N:an}(h:(ue N).2.2=0):∀r∈N.runs,(gS r.calls N.stops.length 0 3155932800).2=0:=by intro r hr;obtain⟨k,hk,rfl⟩:=ats hr;have:=L7 h k hk;unfold oQ at this;grind
theorem JK{l:List aY}{n a b:Int}(h:(gS l n a b).2=0):2≤l.length∧l.length≤32:=by unfold gS at h;grind
theorem Sa{l:List aY}{n a b:Int}(h:(gS l n a b).2=0):∀k,k<l.length→vp l n a b k=0:=by
 unfold gS at h;by_cases hc:(decide ((l.length:Int)<2)||decide ((l.length:Int)>32))=true
 ·simp_all
 simp_all[IS,se]
end Go.Ab.Tt
