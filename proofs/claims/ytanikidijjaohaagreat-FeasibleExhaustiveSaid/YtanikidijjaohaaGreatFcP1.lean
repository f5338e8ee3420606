import Derived.Test.YtanikidijjaohaaGreatFbP3
import Derived.Test.YtanikidijjaohaaGreatSh3
namespace Go.Ab.Tt
set_option maxRecDepth 100000
set_option linter.unusedVariables false
set_option linter.unusedSimpArgs false
def bH{A:Type}(f:A→Nat):List A→Nat
 |[]=>0
 |x::r=>f x+bH f r
section
variable {A B:Type} {f g:A→Nat} {l m:List A}
theorem nF:bH f (l++m)=bH f l+bH f m:=by
 induction l with
 |nil=>simp[bH]
 |cons x r ih=>simp only[akF,bH,ih];omega
theorem mq(h:∀x∈l,f x≤g x):bH f l≤bH g l:=by
 induction l with
 |nil=>exact ajC _
 |cons x r ih=>have h1:=h x (by simp);have h2:=ih fun y hy=>h y (by simp[hy]);simp only[bH];omega
theorem wh(h:∀x∈l,f x=g x):bH f l=bH g l:=amK (mq fun x hx=>ami (h x hx)) (mq fun x hx=>ami (h x hx).symm)
theorem yf:bH (fun x=>f x+g x) l=bH f l+bH g l:=by
 induction l with
 |nil=>rfl
 |cons x r ih=>simp only[bH,ih];omega
theorem Bq(c:Nat):bH (fun x=>c*f x) l=c*bH f l:=by
 induction l with
 |nil=>simp[bH]
 |cons x r ih=>simp only[bH,ih,am8]
theorem pN(p:A→Bool):bH f (l.filter p)=bH (fun x=>if p x=true then f x else 0) l:=by
 induction l with
 |nil=>rfl
 |cons x r ih=>simp only[akc,bH];split<;>simp[bH,ih]
theorem Gs(p:A→Bool):bH f (l.filter p)≤bH f l:=by rw[pN];exact mq fun x _=>by split<;>omega
theorem oW{h:B→List A}{L:List B}:bH f (L.flatMap h)=bH (fun b=>bH f (h b)) L:=by
 induction L with
 |nil=>rfl
 |cons x r ih=>simp only[aky,bH,nF,ih]
theorem pO{h:B→A}{L:List B}:bH f (L.map h)=bH (fun b=>f (h b)) L:=by
 induction L with
 |nil=>rfl
 |cons x r ih=>simp only[ajy,bH,ih]
theorem Ay(c:Nat)(h:∀x∈l,f x≤c):bH f l≤l.length*c:=by
 induction l with
 |nil=>simp[bH]
 |cons x r ih=>have h1:=h x (by simp);have h2:=ih fun y hy=>h y (by simp[hy]);simp only[bH,ajv,ake];omega
theorem QR{P:List B}(k:B→Int)(s:A→Int):bH (fun p=>bH f (l.filter fun x=>decide (s x=k p))) P=bH (fun x=>f x*P.countP fun p=>decide (s x=k p)) l:=by
 induction P with
 |nil=>rw[show bH (fun x=>f x*List.countP (fun p=>decide (s x=k p)) []) l=bH (fun x=>0*f x) l from wh fun x _=>by simp,Bq];simp[bH]
 |cons p r ih=>
  rw[bH,ih,pN,←yf];refine wh fun x _=>?_;rw[akq];by_cases h:s x=k p
  ·simp[h,am8];omega
  ·simp[h]
end
theorem IH{n:Nat}:∀{l:List Int},l.Nodup→(∀v∈l,0≤v∧v<(n:Int))→l.length≤n:=by
 induction n with
 |zero=>
  intro l _ h;cases l with
  |nil=>simp
  |cons v r=>have:=h v (by simp);omega
 |succ n ih=>
  intro l hl h;by_cases hm:(n:Int)∈l
  ·have h1:(l.erase (n:Int)).length=l.length-1:=ams hm;have:=ih (hl.erase (n:Int)) fun v hv=>by
    have h2:=h v (List.mem_of_mem_erase hv);have h3:v≠(n:Int):=fun e=>by rw[e,hl.mem_erase_iff]at hv;exact hv.1 rfl
    omega
   omega
  ·have:=ih hl fun v hv=>by have h2:=h v hv;have h3:v≠(n:Int):=fun e=>hm (e▸hv);omega
   omega
theorem Hm{A:Type}{l:List A}(h:∀k(hk:k<l.length),l[k]∉l.take k):l.Nodup:=by rw[List.nodup_iff_pairwise_ne,akZ];intro i j hi hj OE e;refine h j hj ?_;rw[←e,amm];exact⟨i,by omega,rfl⟩
theorem ahN:∀m,m≤6→bH (fun b=>bH (fun a=>1+if a+1=m then 30 else 0) ((List.range m).drop (b+1))) (List.range m)≤165:=by decide
theorem m15:∀m,m≤6→bH (fun b=>bH (fun _=>1) ((List.range m).drop (b+1))) (List.range m)≤15:=by decide
theorem m5:∀m,m≤6→∀K:Nat,bH (fun a=>1+if a+1=m then K else 0) ((List.range m).drop 1)≤5+K:=by
 intro m hm K;have:m=0∨m=1∨m=2∨m=3∨m=4∨m=5∨m=6:=by omega
 rcases this with h|h|h|h|h|h|h<;>subst h<;>simp[alK,bH]<;>omega
def kz:bV:=⟨0,0,0,false,false⟩
def cAt(cs:List bV)(k:Nat):bV:=cs.getD k kz
def ub(i:Nat)(cs:List bV)(b a:Nat):aT:=⟨true,i,b,a,(cAt cs b).stop,(cAt cs a).stop,(cAt cs b).dep,(cAt cs a).arr,false⟩
def fB(i:Nat)(cs:List bV)(b:Nat):List aT:=((List.range cs.length).drop (b+1)).map (ub i cs b)
def nG(i:Nat)(cs:List bV):List aT:=(List.range cs.length).flatMap (fB i cs)
def gi(N:ab)(i:Nat):List bV:=match N.runs[i]? with|some r=>r.calls|none=>[]
def wj(N:ab):List aT:=(List.range N.runs.length).flatMap fun i=>nG i (gi N i)
def Br(s t:Int)(x:aT):Bool:=decide (x.src=s)&& !decide (x.dep<t)
def gj(N:ab)(s t:Int):List aT:=(wj N).filter (Br s t)
def nH(N:ab)(s t:Int):List aT:=(N.paths.filter fun p=>decide (p.a=s)).map fun p=>⟨false,0,0,0,s,p.b,t,IntKind.i64.wrap (t+p.ez),false⟩
structure Gt(N:ab):Prop where
 runs:N.runs.length≤7
 paths:N.paths.length≤60
 calls:∀i,(gi N i).length≤6
def uT(N:ab)(x:aT):Bool:=decide (x.br+1=((bt N.runs x.run).length:Int))
theorem Mn(N:ab)(i:Nat):bt N.runs (i:Int)=gi N i:=by unfold bt gi;rw[ajw];cases N.runs[i]? <;>rfl
theorem Gu(N:ab)(i b a:Nat):uT N (ub i (gi N i) b a)=decide (a+1=(gi N i).length):=by show decide (((a:Nat):Int)+1=((bt N.runs ((i:Nat):Int)).length:Int))=_;rw[Mn,ajO,I5,I5];omega
def Gc:Nat→Nat
 |0=>3340777604071
 |1=>1446224071
 |2=>626071
 |3=>271
 |_=>1
def Vw(N:ab)(r:Nat)(x:aT):Nat:=if r≤3 then Gc r*(1+if uT N x=true then 30 else 0)else 1
theorem Mo(N:ab)(hs:Gt N)(f:aT→Nat)(g:Nat→Nat→Nat)(c:Nat)(hf:∀i b a,f (ub i (gi N i) b a)=g (gi N i).length a)(hm:∀m,m≤6→bH (fun b=>bH (fun a=>g m a) ((List.range m).drop (b+1))) (List.range m)≤c):bH f (wj N)≤7*c:=by unfold wj;rw[oW];refine ajP (Ay c fun i _=>?_) (by rw[aj7];exact adq _ hs.runs);unfold nG;rw[oW];refine ajP (ami (wh fun b _=>?_)) (hm _ (hs.calls i));unfold fB;rw[pO];exact wh fun a _=>hf i b a
theorem aet(N:ab)(hs:Gt N)(r:Nat)(hr:r≤3):61+2*bH (Vw N (r+1)) (wj N)≤Gc r:=by
 by_cases h3:r=3
 ·subst h3;have:=Mo N hs (Vw N 4) (fun _ _=>1) 15 (fun i b a=>by unfold Vw;rw[IN (by omega)]) m15;show 61+2*bH (Vw N 4) (wj N)≤271;omega
 ·have h1:bH (Vw N (r+1)) (wj N)=Gc (r+1)*bH (fun x=>1+if uT N x=true then 30 else 0) (wj N):=by rw[←Bq];exact wh fun x _=>by unfold Vw;rw[BK (by omega)]
  have h2:=Mo N hs (fun x=>1+if uT N x=true then 30 else 0) (fun m a=>1+if a+1=m then 30 else 0) 165 (fun i b a=>by rw[Gu];simp) ahN;have h4:=akx (Gc (r+1)) h2;rw[h1];have:r=0∨r=1∨r=2:=by omega
  rcases this with h|h|h<;>subst h<;>simp only[Gc]at h4⊢<;>omega
def Fw(N:ab)(r:Nat)(s:Int):Nat:=bH (Vw N (r+1)) ((wj N).filter fun x=>decide (x.src=s))
theorem Mp(N:ab)(r:Nat)(s t:Int)(f:aT→Nat)(hf:∀x,f x≤Vw N (r+1) x):bH f (gj N s t)≤Fw N r s:=by
 refine ajP (mq fun x _=>hf x) ?_;unfold gj Fw;rw[pN,pN];refine mq fun x _=>?_;unfold Br;by_cases h:x.src=s
 ·simp only[h,ajW,akp,aaV];split<;>omega
 ·simp[h]
variable{N:ab}
theorem jI.rest(h:jI N):(kG N.runs N.au).2=0∧(cM N.paths N.stops.length).2=0:=by
 have h:=h.res;unfold lE at h;split at h
 ·split at h
  ·split at h
   ·split at h
    ·split at h
     ·exact⟨by assumption,by assumption⟩
     ·contradiction
    ·contradiction
   ·contradiction
  ·contradiction
 ·contradiction
theorem jI.abv(h:jI N):∀k,k<N.paths.length→cX N.paths N.stops.length k=0:=by
 have h:=h.rest.2;unfold cM at h;split at h
 ·rename_i h0;exact(kH _ _).1 h0
 ·contradiction
theorem aaA(h:jI N):∀p∈N.paths,p.a≠p.b:=by
 intro p hp;obtain⟨k,hk,rfl⟩:=akn hp;have h0:=h.abv k hk;unfold cX at h0;rw[AI hk]at h0;simp only at h0;split at h0
 ·cases h0
 ·rename_i hc;simp only[ajA,I5,amD]at hc;exact hc.2
theorem DK(h:jI N):(N.paths.map bF).Nodup:=by
 refine Hm fun k hk hm=>?_;rw[OF]at hk;have h0:=h.abv k hk;unfold cX at h0;rw[AI hk]at h0;rw[List.getElem_map]at hm;simp only[hm,aaV]at h0;split at h0
 ·cases h0
 ·split at h0<;>cases h0
theorem CC{A B:Type}[DecidableEq B](k:A→B)(v:B):∀{l:List A},(l.map k).Nodup→l.countP (fun x=>decide (k x=v))≤1
 |[],_=>by simp
 |x::r,h=>by
  rw[ajy,alz]at h;rw[akq];by_cases e:k x=v
  ·have:r.countP (fun x=>decide (k x=v))=0:=by rw[alp];intro y hy he;exact h.1 (ajJ.2 ⟨y,hy,by rw[e];simpa using he⟩)
   rw[this];split<;>omega
  ·have:=CC k v h.2;simp[e];exact this
theorem UU(h:jI N)(s t:Int):(N.paths.filter fun p=>decide (p.a=s)).countP (fun p=>decide (t=p.b))≤if s=t then 0 else 2:=by
 rw[List.countP_filter];by_cases e:s=t
 ·rw[BK e,amZ,alp];intro p hp hc;simp only[T1,I5]at hc;exact aaA h p hp (by omega)
 ·rw[IN e];have h1:=CC bF (s,t,true) (DK h);have h2:=CC bF (s,t,false) (DK h);have h3:∀l:List Path,l.countP (fun p=>decide (t=p.b)&&decide (p.a=s))≤l.countP (fun x=>decide (bF x=(s,t,true)))+l.countP (fun x=>decide (bF x=(s,t,false))):=by
   intro l;induction l with
   |nil=>simp
   |cons p r ih=>
    simp only[akq];have:(if(decide (t=p.b)&&decide (p.a=s))=true then 1 else 0)≤(if decide (bF p=(s,t,true))=true then 1 else 0)+(if decide (bF p=(s,t,false))=true then 1 else 0):=by
     by_cases hc:(decide (t=p.b)&&decide (p.a=s))=true
     ·simp only[T1,I5]at hc;cases hf:p.free<;>simp[bF,hc.1,hc.2,hf]
     ·rw[IN hc];omega
    omega
  have:=h3 N.paths;omega
theorem II(h:jI N)(r:Nat)(s:Int):Fw N r s+bH (fun p:Path=>Fw N r p.b) (N.paths.filter fun p=>decide (p.a=s))≤2*bH (Vw N (r+1)) (wj N):=by
 unfold Fw;rw[QR Path.b aT.src,pN,←yf,←Bq];refine mq fun x _=>?_;have:=UU h s x.src;by_cases e:s=x.src
 ·rw[BK e]at this;rw[amZ.1 this,BK (by simp[e])];omega
 ·rw[IN e]at this;rw[IN (by simpa using fun c=>e c.symm)];have:=akx (Vw N (r+1) x) this;omega
def y6:List aT→List Int
 |[]=>[]
 |x::r=>if x.stay=true then x.run::y6 r else[x.run]
def wt(N:ab)(l:List aT):Nat:=match l.reverse with
 |[]=>0
 |x::r=>if l.countP bl≤3 then(if x.bJ=true then Gc (l.countP bl)*(1+if uT N x=true then 5*(7-(y6 (x::r)).length)else 0)else 1+Fw N (l.countP bl) x.dst)else 1
theorem acy(r:Nat):1≤Gc r:=by unfold Gc;split<;>omega
variable{l:List aT}
theorem QS(N:ab)(h:l≠[]):1≤wt N l:=by
 unfold wt;cases hr:l.reverse with
 |nil=>exact absurd (amA.1 hr) h
 |cons x r=>
  dsimp only;split
  ·split
   ·have:=acy (l.countP bl);exact ajP this (Nat.le_mul_of_pos_right _ (by omega))
   ·omega
  ·omega
variable{x:aT}
theorem Mq(h1:x.bJ=true)(h2:x.stay=false):bl x=true:=by simp[bl,h1,h2]
theorem Tg(N:ab)(l:List aT)(h1:x.bJ=true)(h2:x.stay=false):wt N (l++[x])=Vw N (l.countP bl+1) x:=by unfold wt Vw;rw[alc,alf,akq,Mq h1 h2];simp only[alb,amE,aj1,akF,al5,aaV,h1,y6,h2,By,abG,ajv,ajQ]
theorem aaB(N:ab)(l:List aT)(h1:x.bJ=false):wt N (l++[x])=if l.countP bl≤3 then 1+Fw N (l.countP bl) x.dst else 1:=by unfold wt;rw[alc,alf,akq,show bl x=false by simp[bl,h1]];simp only[alb,amE,aj1,akF,al5,By,abG,h1,akB]
theorem aaC(N:ab)(l:List aT)(h1:x.bJ=true)(h2:x.stay=true):wt N (l++[x])=if l.countP bl≤3 then Gc (l.countP bl)*(1+if uT N x=true then 5*(6-(y6 l.reverse).length)else 0)else 1:=by unfold wt;rw[alc,alf,akq,show bl x=false by simp[bl,h2]];simp only[alb,amE,aj1,akF,al5,By,abG,aaV,h1,h2,akB,y6,ajv,Nat.reduceSubDiff,Nat.add_sub_add_right]
theorem jI.aeu(h:jI N):∀k,k<N.au.length→cJ N.runs N.au k=0:=by
 have h:=h.rest.1;unfold kG at h;split at h
 ·cases h
 ·exact(kH _ _).1 h
theorem CD(h:jI N){k:Nat}(hk:k<N.au.length)(hs:N.au[k].stay=true):N.au[k].ac+1=((bt N.runs N.au[k].a).length:Int)∧N.au[k].bc=0∧0≤N.au[k].b∧N.au[k].b<(N.runs.length:Int)∧∀j(hj:j<k),¬(N.au[j].stay=true∧N.au[j].a=N.au[k].a):=by
 have h0:=h.aeu k hk;unfold cJ at h0;rw[AI hk]at h0;simp only at h0;split at h0
 ·cases h0
 ·rename_i g1;split at h0
  ·cases h0
  ·split at h0
   ·cases h0
   ·split at h0
    ·cases h0
    ·rename_i _ _ g2;simp only[D4,ajA,ajF,akj,ajK,I5,amD]at g1;simp only[Bt,hs,akp,ajA,ajF,ajK,I5,amD,Decidable.not_not]at g2;obtain⟨⟨⟨⟨e1,e2⟩,e3⟩,e4⟩,e5⟩:=g2;rw[IJ]at e3;refine⟨e1,e2,by omega,by omega,fun j hj hc=>e3 ?_⟩;rw[ak4];refine⟨N.au[j],?_,by simp[hc.1,hc.2]⟩;rw[amm];exact⟨j,by omega,rfl⟩
theorem Yc(h:jI N){x y:ba}(hx:x∈N.au)(hy:y∈N.au)(sx:x.stay=true)(sy:y.stay=true)(e:x.a=y.a):x.b=y.b:=by
 obtain⟨i,hi,rfl⟩:=akn hx;obtain⟨j,hj,rfl⟩:=akn hy;have a1:=(CD h hi sx).2.2.2.2;have a2:=(CD h hj sy).2.2.2.2;by_cases c:i=j
 ·subst c;rfl
 ·by_cases d:i<j
  ·exact absurd ⟨sx,e⟩ (a2 i d)
  ·exact absurd ⟨sy,e.symm⟩ (a1 j (by omega))
theorem yg(f:Nat→Nat)(v:Nat)(h:∀i,i≠v→f i=0)(n:Nat):bH f (List.range n)=if v<n then f v else 0:=by
 induction n with
 |zero=>rfl
 |succ n ih=>
  rw[alK,nF,ih];simp only[bH];by_cases e:n=v
  ·subst e;rw[IN (by omega),BK (by omega)];omega
  ·rw[h n e];by_cases c:v<n
   ·rw[BK c,BK (by omega)];omega
   ·rw[IN c,IN (by omega)]
theorem uU{A:Type}{f:A→Nat}{l:List A}(h:∀x∈l,f x=0):bH f l=0:=by have:=Ay (f:=f) (l:=l) 0 fun x hx=>ami (h x hx);omega
theorem Yd(hs:Gt N)(v K:Nat):bH (fun x:aT=>if x.run=(v:Int)∧x.cw=0 then 1+(if uT N x=true then K else 0)else 0) (wj N)≤5+K:=by
 unfold wj;rw[oW,yg _ v]
 ·split
  ·unfold nG;rw[oW,yg _ 0]
   ·split
    ·unfold fB;rw[pO];refine ajP (mq fun a _=>?_) (m5 (gi N v).length (hs.calls v) K);rw[Gu,BK ⟨rfl,rfl⟩];simp
    ·omega
   ·intro b hb;unfold fB;rw[pO];refine uU fun a _=>?_;rw[IN];rintro⟨_,h⟩;exact hb (by simpa[ub]using h)
  ·omega
 ·intro i hi;unfold nG;rw[oW];refine uU fun b _=>?_;unfold fB;rw[pO];refine uU fun a _=>?_;rw[IN];rintro⟨h,_⟩;have h:((i:Nat):Int)=v:=h;exact hi (by omega)
theorem Gv(h:x∈wj N):∃i b a,i<N.runs.length∧b<a∧a<(gi N i).length∧x=ub i (gi N i) b a:=by unfold wj at h;obtain⟨i,hi,h⟩:=ak5.1 h;unfold nG at h;obtain⟨b,hb,h⟩:=ak5.1 h;unfold fB at h;obtain⟨a,ha,rfl⟩:=ajJ.1 h;rw[List.mem_drop_iff_getElem]at ha;obtain⟨j,hj,e⟩:=ha;rw[amk]at e;rw[aj7]at hj;exact⟨i,b,a,ala.1 hi,by omega,by omega,rfl⟩
def fC(x:aT):aT:={x with stay:=true}
def CE(l:List aT)(x:aT):Bool:=x.stay&&decide (x.run∈y6 l.reverse)
def acz(N:ab)(a b:aT):Int:=if oA N a b=0 then q8 N a b else oA N a b
def aaD(N:ab)(q:gZ)(l:List aT)(x:aT):Bool:=decide (cn N q (l++[x]) (l.length-1)=0)&& !decide (cn N q (l++[x]) l.length=28)
def nI(N:ab)(l:List aT)(z x:aT):Bool:=x.bJ&&decide (x.cw=0)&&z.bJ&& !CE l (fC x)&&decide (acz N z (fC x)=0)
def lH(N:ab)(q:gZ)(l:List aT)(z x:aT):List (List aT):=(if aaD N q l x=true then[l++[x]]else[])++if nI N l z x=true then[l++[fC x]]else[]
def wC(N:ab)(z:aT):List aT:=gj N z.dst z.arr++if z.bJ=true then nH N z.dst z.arr else[]
def CF(N:ab)(q:gZ)(l:List aT)(z:aT):List (List aT):=(wC N z).flatMap (lH N q l z)
variable{z:aT}
theorem Kh(h:jI N)(hx:nI N l z x=true):z.bJ=true∧x.cw=0∧x.run∉y6 l.reverse∧uT N z=true∧∃k∈N.au,k.stay=true∧k.a=z.run∧k.b=x.run∧0≤x.run∧x.run<(N.runs.length:Int):=by
 simp only[nI,CE,T1,ajF,I5,akj,ajK]at hx;obtain⟨⟨⟨⟨h1,h2⟩,h3⟩,h4⟩,h5⟩:=hx;have h4:x.run∉y6 l.reverse:=by
  rcases h4 with h4|h4
  ·cases h4
  ·exact h4
 unfold acz at h5;have hj:oA N z (fC x)=0:=by
  split at h5
  ·assumption
  ·exact h5
 unfold oA at hj;split at hj
 ·cases hj
 ·split at hj
  ·cases hj
  ·split at hj
   ·cases hj
   ·rename_i hk;simp only[fC,h3,akp,ajx,akz,ajF,amu]at hk;unfold Gb at hk;rw[ak4]at hk;obtain⟨k,km,kp⟩:=hk;simp only[lkB,T1,beq_iff_eq]at kp;obtain⟨⟨⟨⟨k1,k2⟩,k3⟩,k4⟩,k5⟩:=kp;obtain⟨j,hj,rfl⟩:=akn km;have ks:=CD h hj k5;refine⟨h3,h2,h4,?_,_,km,k5,k1,k3,by rw[←k3];exact ks.2.2.1,by rw[←k3];exact ks.2.2.2.1⟩;unfold uT;rw[I5,←k1,←k2];exact ks.1
structure Ki(N:ab)(l:List aT):Prop where
 ok:∀x∈l,x.Ok
 ne:l≠[]
 nodup:(y6 l.reverse).Nodup
 runs:∀z r,l.reverse=z::r→z.bJ=true→∀v∈y6 l.reverse,0≤v∧v<(N.runs.length:Int)
 rl:∀z r,l.reverse=z::r→z.bJ=true→1≤l.countP bl∧l.length+7≤8*l.countP bl+(y6 l.reverse).length
 wl:∀z r,l.reverse=z::r→z.bJ=false→l.length≤8*l.countP bl+1
variable{r:List aT}
theorem Gw(hs:Gt N)(hi:Ki N l)(hz:l.reverse=z::r)(hr:z.bJ=true):(y6 l.reverse).length≤7:=ajP (IH (n:=N.runs.length) hi.nodup (hi.runs z r hz hr)) hs.runs
theorem Ye(h:jI N)(hs:Gt N)(hi:Ki N l)(hz:l.reverse=z::r)(t:Int)(hr:l.countP bl≤3):bH (fun x=>if nI N l z x=true then wt N (l++[fC x])else 0) (gj N z.dst t)≤Gc (l.countP bl)*(if uT N z=true then 5*(7-(y6 l.reverse).length)else 0):=by
 by_cases hx:∃x∈gj N z.dst t,nI N l z x=true
 ·obtain⟨x0,m0,c0⟩:=hx;obtain⟨zr,b0,n0,lz,k0,km,ks,ka,kb,g0,g1⟩:=Kh h c0;have hc:(y6 l.reverse).length+1≤7:=by
   refine ajP (IH (n:=N.runs.length) (l:=x0.run::y6 l.reverse) (alz.2 ⟨n0,hi.nodup⟩) fun v hv=>?_) hs.runs;rcases ah4.1 hv with rfl|hv
   ·exact⟨g0,g1⟩
   ·exact hi.runs z r hz zr v hv
  rw[BK lz];have hv:((x0.run.toNat:Nat):Int)=x0.run:=by omega
  have h1:bH (fun x=>if nI N l z x=true then wt N (l++[fC x])else 0) (gj N z.dst t)≤bH (fun x:aT=>Gc (l.countP bl)*(if x.run=(x0.run.toNat:Int)∧x.cw=0 then 1+(if uT N x=true then 5*(6-(y6 l.reverse).length)else 0)else 0)) (wj N):=by
   unfold gj;refine ajP (Gs _) (mq fun x _=>?_);split
   ·rename_i cx;obtain⟨_,bx,_,_,k,km',ks',ka',kb',_⟩:=Kh h cx;have e:x.run=x0.run:=by rw[←kb,←kb'];exact Yc h km' km ks' ks (by rw[ka,ka'])
    have jw:x.bJ=true:=by simp only[nI,T1]at cx;exact cx.1.1.1.1
    rw[aaC N l (x:=fC x) jw rfl,BK hr,BK (show x.run=(x0.run.toNat:Int)∧x.cw=0 from⟨by rw[hv,e],bx⟩)];exact ajC _
   ·omega
  rw[Bq]at h1;have h2:=akx (Gc (l.countP bl)) (Yd hs x0.run.toNat (5*(6-(y6 l.reverse).length)));have h3:5+5*(6-(y6 l.reverse).length)=5*(7-(y6 l.reverse).length):=by omega
  rw[h3]at h2;omega
 ·rw[uU fun x hm=>by rw[IN fun c=>hx ⟨x,hm,c⟩]];omega
theorem CG(N:ab)(q:gZ)(l:List aT)(z x:aT):bH (wt N) (lH N q l z x)≤wt N (l++[x])+if nI N l z x=true then wt N (l++[fC x])else 0:=by
 unfold lH;rw[nF];refine Nat.add_le_add ?_ ?_
 ·split<;>simp[bH]
 ·split<;>simp[bH]
theorem sD{s t:Int}(h:x∈gj N s t):x.bJ=true∧x.stay=false∧∃i b a,i<N.runs.length∧b<a∧a<(gi N i).length∧x=ub i (gi N i) b a:=by obtain⟨i,b,a,h1,h2,h3,rfl⟩:=Gv (aka.1 h).1;exact⟨rfl,rfl,i,b,a,h1,h2,h3,rfl⟩
theorem Gx(q:gZ)(l:List aT)(z:aT)(s t:Int):bH (fun x=>wt N (l++[x])) (gj N s t)≤Fw N (l.countP bl) s:=by have h1:bH (fun x=>wt N (l++[x])) (gj N s t)=bH (Vw N (l.countP bl+1)) (gj N s t):=wh fun x hx=>Tg N l (sD hx).1 (sD hx).2.1;rw[h1];exact Mp N _ s t _ fun _=>ajC _
theorem Yf(h:jI N)(hs:Gt N)(q:gZ)(hi:Ki N l)(hz:l.reverse=z::r)(hr:l.countP bl≤3):bH (wt N) (CF N q l z)+1≤wt N l:=by
 have hw:wt N l=if z.bJ=true then Gc (l.countP bl)*(1+if uT N z=true then 5*(7-(y6 l.reverse).length)else 0)else 1+Fw N (l.countP bl) z.dst:=by unfold wt;rw[hz];dsimp only;rw[BK hr]
 rw[hw];unfold CF wC;rw[oW,nF];have h1:bH (fun x=>bH (wt N) (lH N q l z x)) (gj N z.dst z.arr)≤Fw N (l.countP bl) z.dst+Gc (l.countP bl)*(if uT N z=true then 5*(7-(y6 l.reverse).length)else 0):=by refine ajP (mq fun x _=>CG N q l z x) ?_;rw[yf];exact Nat.add_le_add (Gx q l z _ _) (Ye h hs hi hz _ hr)
 cases BO:z.bJ with
 |false=>
  have h2:bH (fun x=>bH (wt N) (lH N q l z x)) (gj N z.dst z.arr)≤Fw N (l.countP bl) z.dst:=by refine ajP (mq fun x _=>CG N q l z x) ?_;rw[yf,uU (f:=fun x=>if nI N l z x=true then wt N (l++[fC x])else 0) fun x _=>by rw[IN];simp[nI,BO]];exact Gx q l z _ _
  simp only[By,abG,bH];omega
 |true=>
  simp only[aaV];have h3:bH (fun x=>bH (wt N) (lH N q l z x)) (nH N z.dst z.arr)≤60+bH (fun p:Path=>Fw N (l.countP bl) p.b) (N.paths.filter fun p=>decide (p.a=z.dst)):=by
   unfold nH;rw[pO];have:∀p∈N.paths.filter fun p=>decide (p.a=z.dst),bH (wt N) (lH N q l z ⟨false,0,0,0,z.dst,p.b,z.arr,IntKind.i64.wrap (z.arr+p.ez),false⟩)≤1+Fw N (l.countP bl) p.b:=fun p _=>by refine ajP (CG N q l z _) ?_;rw[aaB N l rfl,BK hr,IN (by simp[nI])];exact ajC _
   refine ajP (mq this) ?_;rw[yf];refine Nat.add_le_add_right ?_ _;refine ajP (Ay 1 fun _ _=>ajC _) ?_;rw[am0];exact ajP (ak1 _ _) hs.paths
  have h4:=II h (l.countP bl) z.dst;have h5:=aet N hs (l.countP bl) hr;rw[am8,am0];omega
def wm(N:ab)(q:gZ):List (List aT):=(gj N q.src (if q.back=true then 0 else q.time)).map (fun x=>[x])++(nH N q.src 0).flatMap fun w=>(gj N w.dst (if q.back=true then 0 else q.time)).map fun x=>[{w with dep:=IntKind.i64.wrap (x.dep-w.arr),arr:=x.dep},x]
theorem Yg(h:jI N)(hs:Gt N)(q:gZ):bH (wt N) (wm N q)≤Gc 0:=by
 unfold wm;rw[nF,pO,oW];have h1:bH (fun x=>wt N [x]) (gj N q.src (if q.back=true then 0 else q.time))≤Fw N 0 q.src:=Gx q [] ⟨false,0,0,0,0,0,0,0,false⟩ _ _;have h2:bH (fun w:aT=>bH (wt N) ((gj N w.dst (if q.back=true then 0 else q.time)).map fun x=>[{w with dep:=IntKind.i64.wrap (x.dep-w.arr),arr:=x.dep},x])) (nH N q.src 0)≤bH (fun p:Path=>Fw N 0 p.b) (N.paths.filter fun p=>decide (p.a=q.src)):=by
  unfold nH;rw[pO];refine mq fun p _=>?_;rw[pO];have:∀(w:aT→aT)x,(w x).bJ=false→x.bJ=true→x.stay=false→wt N [w x,x]=Vw N 1 x:=fun w x a b c=>by have:=Tg N [w x] b c;rw[show List.countP bl [w x]=0 by simp[bl,a]]at this;exact this
  rw[wh (g:=Vw N 1) fun x hx=>this (fun x=>{(⟨false,0,0,0,q.src,p.b,0,IntKind.i64.wrap (0+p.ez),false⟩:aT)with dep:=IntKind.i64.wrap (x.dep-IntKind.i64.wrap (0+p.ez)),arr:=x.dep}) x rfl (sD hx).1 (sD hx).2.1];exact Mp N 0 _ _ _ fun _=>ajC _
 have h3:=II h 0 q.src;have h4:=aet N hs 0 (by omega);omega
variable{cs:List bV}
theorem yj{k:Nat}(h:k<cs.length):cAt cs k=cs[k]:=by simp[cAt,List.getD,AI h]
theorem Gy(l:List PV)(h:l.length≤1000000):l.length*72≤af∧0<72:=⟨by unfold af;omega,by decide⟩
theorem Az{n k:Nat}(h:k<n):(List.range n).drop k=k::(List.range n).drop (k+1):=by rw[dv (by rw[aj7];exact h),amk]
theorem tt{A B:Type}(p:B→Bool)(g:A→List B):∀l:List A,(l.flatMap g).filter p=l.flatMap fun x=>(g x).filter p
 |[]=>rfl
 |x::r=>by simp only[aky,alw,tt p g r]
theorem D5(s t:Int)(i:Nat)(cs:List bV)(b:Nat):(fB i cs b).filter (Br s t)=if(cAt cs b).stop=s∧¬(cAt cs b).dep<t then fB i cs b else[]:=by
 unfold fB;split
 ·rename_i h;refine al6.2 fun x hx=>?_;obtain⟨a,_,rfl⟩:=ajJ.1 hx;simp[Br,ub,h.1,h.2]
 ·rename_i h;refine List.filter_eq_nil_iff.2 fun x hx=>?_;obtain⟨a,_,rfl⟩:=ajJ.1 hx;intro hc;simp only[Br,ub,T1,ajF]at hc;exact h ⟨of_decide_eq_true hc.1,of_decide_eq_false hc.2⟩
section
variable {N:ab} {s t:Int} {i:Nat} {cs:List bV}
theorem rl1(hs:cs.length≤6){b:Nat}(hb:b<cs.length)(ov:(cAt cs b).stop=s)(zF)(o:List aT)(ho:o.length≤1000):bn.run (j9 bn zF) (s,t,(i:Int),cs.map bV.pv,(b:Int),((b+1:Nat):Int),N.stops.map Stop.pv,N.aj.map ay.pv,N.runs.map da.pv,N.au.map ba.pv,N.paths.map Path.pv,N.aL.map aA.pv,N.bk,N.within,N.cap,o.map aT.pv,())=zF (s,t,(i:Int),cs.map bV.pv,((b+1:Nat):Int),N.stops.map Stop.pv,N.aj.map ay.pv,N.runs.map da.pv,N.au.map ba.pv,N.paths.map Path.pv,N.aL.map aA.pv,N.bk,N.within,N.cap,(o++fB i cs b).map aT.pv,()):=by
 refine dL (fun k(o:List aT)=>(s,t,(i:Int),cs.map bV.pv,(b:Int),((b+1+k:Nat):Int),N.stops.map Stop.pv,N.aj.map ay.pv,N.runs.map da.pv,N.au.map ba.pv,N.paths.map Path.pv,N.aL.map aA.pv,N.bk,N.within,N.cap,o.map aT.pv,())) (fun k o=>zF (s,t,(i:Int),cs.map bV.pv,((b+1:Nat):Int),N.stops.map Stop.pv,N.aj.map ay.pv,N.runs.map da.pv,N.au.map ba.pv,N.paths.map Path.pv,N.aL.map aA.pv,N.bk,N.within,N.cap,(o++((List.range cs.length).drop (b+1+k)).map (ub i cs b)).map aT.pv,())) (fun k o=>o.length≤1000+k) (cs.length-(b+1)) (fun k hk o rec ho cA=>?_) (fun o rec ho=>?_) (by unfold rounds;omega) o (by omega) (by simp)
 ·have qg:b+1+k<cs.length:=by omega
  have hr:=cA (o++[ub i cs b (b+1+k)]) (by rw[ags,ajv,ajQ];omega);unfold j9;dsimp only;rw[BK (by simp;omega),bA bV.pv cs (b+1+k) qg,bA bV.pv cs b hb];simp only[U,Ct,QB,J6,ag (show b+1+k<9223372036854775807 by omega)];have e:PV.agg [.bool true,.int .i64 (i:Int),.int .i64 (b:Int),.int .i64 ((b+1+k:Nat):Int),.int .i64 s,.int .i64 cs[b+1+k].stop,.int .i64 cs[b].dep,.int .i64 cs[b+1+k].arr,.bool false]=(ub i cs b (b+1+k)).pv:=by unfold ub;rw[ov,yj hb,yj qg];rfl
  rw[e,BK (Gy _ (by rw[ags,OF,ajv,ajQ];omega))];rw[ajV]at hr;refine Eq.trans ?_ (hr.trans ?_)
  ·rw[show b+1+k+1=b+1+(k+1) by omega];rfl
  ·rw[Az qg,ajN];rfl
 ·unfold j9;dsimp only;rw[IN (by simp;omega),ald (by rw[aj7];omega),akv,aj2,];rw[ag (show b<9223372036854775807 by omega)]
theorem rl2(hs:cs.length≤6)(pP)(o:List aT)(ho:o.length≤500)(hi:i≤7):bn.run (kc bn pP) (s,t,(i:Int),cs.map bV.pv,0,N.stops.map Stop.pv,N.aj.map ay.pv,N.runs.map da.pv,N.au.map ba.pv,N.paths.map Path.pv,N.aL.map aA.pv,N.bk,N.within,N.cap,o.map aT.pv,())=pP (s,t,((i+1:Nat):Int),N.stops.map Stop.pv,N.aj.map ay.pv,N.runs.map da.pv,N.au.map ba.pv,N.paths.map Path.pv,N.aL.map aA.pv,N.bk,N.within,N.cap,(o++(nG i cs).filter (Br s t)).map aT.pv,()):=by
 unfold nG;rw[tt];refine dL (fun k(o:List aT)=>(s,t,(i:Int),cs.map bV.pv,(k:Int),N.stops.map Stop.pv,N.aj.map ay.pv,N.runs.map da.pv,N.au.map ba.pv,N.paths.map Path.pv,N.aL.map aA.pv,N.bk,N.within,N.cap,o.map aT.pv,())) (fun k o=>pP (s,t,((i+1:Nat):Int),N.stops.map Stop.pv,N.aj.map ay.pv,N.runs.map da.pv,N.au.map ba.pv,N.paths.map Path.pv,N.aL.map aA.pv,N.bk,N.within,N.cap,(o++((List.range cs.length).drop k).flatMap fun b=>(fB i cs b).filter (Br s t)).map aT.pv,())) (fun k o=>o.length≤500+6*k) cs.length (fun k hk o rec ho cA=>?_) (fun o rec ho=>?_) (by unfold rounds;omega) o (by omega) (by simp)
 ·unfold kc;dsimp only;rw[BK (by simp;omega),bA bV.pv cs k hk];simp only[U,Ct,J6,aY,nJ,AT,ag (show k<9223372036854775807 by omega)];have hc:=D5 s t i cs k;rw[yj hk]at hc;rw[Az hk,aky,hc];by_cases h1:cs[k].stop=s
  ·by_cases h2:cs[k].dep<t
   ·rw[BK (by simp[h2]),IN (by simp[h2]),aj1];exact cA o (by omega)
   ·rw[IN (by simp[h1,h2]),BK ⟨h1,h2⟩,rl1 hs hk (by rw[yj hk];exact h1) _ o (by omega),←ajN];refine cA (o++fB i cs k) ?_;unfold fB;rw[ags,OF,akP,aj7];omega
  ·rw[BK (by simp[h1]),IN (by simp[h1]),aj1];exact cA o (by omega)
 ·unfold kc;dsimp only;rw[IN (by simp),ald (by rw[aj7];omega),alr,aj2,ag (show i<9223372036854775807 by omega)]
end
variable{N:ab}
theorem IK{i:Nat}(h:i<N.runs.length):gi N i=N.runs[i].calls:=by unfold gi;rw[AI h]
theorem DL(i:Nat)(h:cs.length≤6)(p:aT→Bool):((nG i cs).filter p).length≤36:=by
 refine ajP (ak1 _ _) ?_;have h1:∀m,(((List.range cs.length).take m).flatMap (fB i cs)).length≤6*m:=by
  intro m;induction m with
  |zero=>simp
  |succ m ih=>
   by_cases hm:m<cs.length
   ·rw[ajM (by rw[aj7];exact hm),alI,ags];have:([(List.range cs.length)[m]'(by rw[aj7];exact hm)].flatMap (fB i cs)).length≤6:=by simp only[aky,alr,aj2,fB,OF,akP,aj7];omega
    omega
   ·rw[aj8 (by rw[aj7];omega)]at ih⊢;omega
 have:=h1 cs.length;rw[aj8 (by rw[aj7];omega)]at this;unfold nG;omega
theorem CH(hs:Gt N)(s t:Int):dN [N.pv,.int .i64 s,.int .i64 t]=some (.rs 9 ((gj N s t).map aT.pv)):=by
 simp only[dN,si,gw,gx,gy,gz,gA,gB,gC,gD,gE,gF,aI,U];unfold gj wj;rw[tt];refine dL (fun k(o:List aT)=>(s,t,(k:Int),N.stops.map Stop.pv,N.aj.map ay.pv,N.runs.map da.pv,N.au.map ba.pv,N.paths.map Path.pv,N.aL.map aA.pv,N.bk,N.within,N.cap,o.map aT.pv,())) (fun k o=>some (PV.rs 9 ((o++((List.range N.runs.length).drop k).flatMap fun i=>(nG i (gi N i)).filter (Br s t)).map aT.pv))) (fun k o=>o.length≤36*k) N.runs.length (fun k hk o rec ho cA=>?_) (fun o rec ho=>?_) (by have:=hs.runs;unfold rounds;omega) [] (by simp) (by simp)
 ·have h7:=hs.runs;have h6:=hs.calls k;unfold nK;dsimp only;rw[BK (by simp;omega),bA da.pv N.runs k hk];simp only[U,Ar,aS];rw[←IK hk,rl2 h6 _ o (by omega) (by omega),Az hk,aky,←ajN];refine cA _ ?_;have:=DL k h6 (Br s t);rw[ags];omega
 ·unfold nK;dsimp only;rw[IN (by simp),ald (by rw[aj7];omega),alr,aj2]
theorem CI(hs:Gt N)(s t:Int):dO [N.pv,.int .i64 s,.int .i64 t]=some (.rs 9 ((nH N s t).map aT.pv)):=by
 simp only[dO,sn,gw,gx,gy,gz,gA,gB,gC,gD,gE,gF,aI,U];unfold nH;refine dL (fun k(o:List aT)=>(s,t,(k:Int),N.stops.map Stop.pv,N.aj.map ay.pv,N.runs.map da.pv,N.au.map ba.pv,N.paths.map Path.pv,N.aL.map aA.pv,N.bk,N.within,N.cap,o.map aT.pv,())) (fun k o=>some (PV.rs 9 ((o++((N.paths.drop k).filter fun p=>decide (p.a=s)).map fun p:Path=>(⟨false,0,0,0,s,p.b,t,IntKind.i64.wrap (t+p.ez),false⟩:aT)).map aT.pv))) (fun k o=>o.length≤k) N.paths.length (fun k hk o rec ho cA=>?_) (fun o rec ho=>?_) (by have:=hs.paths;unfold rounds;omega) [] (by simp) (by simp)
 ·have h6:=hs.paths;unfold nL;dsimp only;rw[BK (by simp;omega),bA Path.pv N.paths k hk];simp only[U,DE,DF,F9,aI,fa,I5,ag (show k<9223372036854775807 by omega)];rw[dv hk,akc];by_cases h1:N.paths[k].a=s
  ·rw[BK h1,BK (Gy _ (by rw[ags,OF,ajv,ajQ];omega)),BK (by simpa using h1),ajy];have:=cA (o++[⟨false,0,0,0,s,N.paths[k].b,t,IntKind.i64.wrap (t+N.paths[k].ez),false⟩]) (by rw[ags,ajv,ajQ];omega);rw[ajV]at this;refine Eq.trans rfl (this.trans ?_);rw[ajN];rfl
  ·rw[IN h1,IN (by simpa using h1)];exact cA o (by omega)
 ·unfold nL;dsimp only;rw[IN (by simp),ajS,alx,akv,aj2]
variable{l:List aT}
theorem Yh(hl:l.length≤1000)(x:aT):jD [fP l,x.pv]=some (fP (l++[x])):=by simp only[jD,Ao,jA,j0,iR,gS,iS,iT,jg,jh,iC,iD,gT,gU,U,aj1];rw[BK (Gy _ (by rw[OF];omega)),BK (Gy _ (by rw[ags,OF,ajv,ajQ];omega)),acm];unfold fP;rw[ajV];rfl
theorem Yi{k:Nat}(h:k<l.length):y6 (l.take (k+1)).reverse=if l[k].stay=true then l[k].run::y6 (l.take k).reverse else[l[k].run]:=by rw[ajM h,alc];rfl
theorem UW(hl:l.length≤1000)(x:aT):jX [fP l,x.pv]=some (.bool (CE l x)):=by
 simp only[jX,xC,jA,j0,iR,gS,iS,iT,jg,jh,iC,iD,gT,gU,U,OF];rw[bE (by omega) (by omega)];unfold CE;refine(kJ (fun k(_:Unit)=>((l.length:Int)-1-(k:Int),l.map aT.pv,x.bJ,x.run,x.cw,x.br,x.src,x.dst,x.dep,x.arr,x.stay,())) (fun k _=>some (PV.bool (x.stay&&decide (x.run∈y6 (l.take (l.length-k)).reverse)))) l.length (fun k hk e rec cA=>?_) (fun e rec=>?_) (by unfold rounds;omega) () (by simp)).trans (by rw[alC,akh])
 ·have hj:l.length-(k+1)<l.length:=by omega
  have hr:=cA ();have ei:(l.length:Int)-1-(k:Int)=((l.length-(k+1):Nat):Int):=by omega
  unfold sE;dsimp only;rw[ei];have hc:=Yi hj;rw[show l.length-(k+1)+1=l.length-k by omega]at hc;cases hs:x.stay with
  |false=>simp only[hs]at hr⊢;simp[U]
  |true=>
   rw[show decide (((l.length-(k+1):Nat):Int)≥0)=true by simp];simp only[cond_true,U,aaV,bA aT.pv l _ hj,iS,gU,fa,I5,ajF,hc,akp];by_cases h1:l[l.length-(k+1)].run=x.run
   ·rw[BK h1];cases l[l.length-(k+1)].stay<;>simp[h1]
   ·have Ua:¬x.run=l[l.length-(k+1)].run:=fun e=>h1 e.symm;rw[IN h1];cases h2:l[l.length-(k+1)].stay with
    |false=>simp[Ua]
    |true=>
     have ew:IntKind.i64.wrap (((l.length-(k+1):Nat):Int)-1)=(l.length:Int)-1-((k+1:Nat):Int):=by rw[bE (by omega) (by omega)];omega
     simp only[aj3,abG,aaV];rw[ew];simp only[hs,akp]at hr;rw[hr];simp[Ua]
 ·unfold sE;dsimp only;rw[show decide ((l.length:Int)-1-(l.length:Int)≥0)=false by simp;omega];simp[U,y6]
theorem yn(l:List PV)(h:l.length≤5000000000000):l.length*24≤af∧0<24:=⟨by unfold af;omega,by decide⟩
theorem jE(l:List aT):PV.agg [cell (fP l) 0]=fP l:=by
 have h:∀p,p=fP l→PV.agg [cell p 0]=fP l:=fun p hp=>by subst hp;rfl
 exact h _ rfl
theorem aev(x:aT):PV.agg (cell x.pv 0::cell x.pv 1::cell x.pv 2::cell x.pv 3::cell x.pv 4::cell x.pv 5::cell x.pv 6::cell x.pv 7::PV.bool true::over [] [])=(fC x).pv:=rfl
theorem Th{l:List aT}{z:aT}{r:List aT}(hz:l.reverse=z::r):0<l.length∧l[l.length-1]?=some z:=by
 have e:l=r.reverse++[z]:=by rw[←alE l,hz,alb]
 subst e;simp
section
variable {N:ab} {q:gZ} {l:List aT} {z:aT}
abbrev exS(N:ab)(q:gZ)(l:List aT)(z:aT)(i:Int)(o es:List PV):aew:=(i,N.stops.map Stop.pv,N.aj.map ay.pv,N.runs.map da.pv,N.au.map ba.pv,N.paths.map Path.pv,N.aL.map aA.pv,N.bk,N.within,N.cap,q.src,q.dst,q.time,q.back,q.bQ,q.walk,q.free,q.qq,q.bK,q.vW,l.map aT.pv,o,cell z.pv 0,cell z.pv 1,cell z.pv 2,cell z.pv 3,cell z.pv 4,cell z.pv 5,cell z.pv 6,cell z.pv 7,cell z.pv 8,es,())
theorem pQ(a:Bool)(b:Bool):(bif a then some b else some false)=some (a&&b):=by cases a<;>rfl
theorem Mr(h:jI N)(hq:(q.vW&&q.back)=false)(hl:l.length≤900)(h0:0<l.length)(xs:List aT)(HV:xs.length≤1000)(hx:∀x∈xs,x.bJ=true→DD N x=false):bn.run (jP bn) (exS N q l z 0 [] (xs.map aT.pv))=some (.rs 1 ((xs.flatMap (lH N q l z)).map fP)):=by
 refine dL (fun k(e:List (List aT)×List PV)=>exS N q l z (k:Int) (e.1.map fP) (e.2++(xs.drop k).map aT.pv)) (fun k e=>some (PV.rs 1 ((e.1++(xs.drop k).flatMap (lH N q l z)).map fP))) (fun k e=>e.2.length=k∧e.1.length≤2*k) xs.length (fun k hk e rec he cA=>?_) (fun e rec he=>?_) (by unfold rounds;omega) ([],[]) ⟨rfl,by simp⟩ (by simp)
 ·obtain⟨o,A⟩:=e;obtain⟨hA,ho⟩:=he;dsimp only at hA ho;have hlen:(A++(xs.drop k).map aT.pv).length=xs.length:=by rw[ags,OF,akP];omega
  have ec:(A++(xs.drop k).map aT.pv)[k]?=some xs[k].pv:=by rw[aks (by omega),hA,alm,dv hk];rfl
  have oq:ae (k:Int) (A++(xs.drop k).map aT.pv).length:=by rw[hlen];exact⟨by omega,by omega⟩
  have tb:∀v,(A++(xs.drop k).map aT.pv).set k v=(A++[v])++(xs.drop (k+1)).map aT.pv:=fun v=>by rw[amN _ _ (by omega),hA,alm,dv hk,ajy,List.set_cons_zero,ajN];rfl
  have aex:∀v,((A++[v])++(xs.drop (k+1)).map aT.pv)[k]?=some v:=fun v=>by rw[akC (by rw[ags];simp;omega),aks (by omega),hA,alm];rfl
  have acv:∀v,ae (k:Int) ((A++[v])++(xs.drop (k+1)).map aT.pv).length:=fun v=>by rw[←tb v,alA,hlen];exact⟨by omega,by omega⟩
  have abw:A++(xs.drop k).map aT.pv=(A++[xs[k].pv])++(xs.drop (k+1)).map aT.pv:=by rw[dv hk,ajy,ajN];rfl
  have hxk:=hx _ (ajz hk);have UA:∀x,(l++[x]).length≤maxLen:=fun x=>by rw[ags];unfold maxLen;simp;omega
  have ahO:∀x,iq [N.pv,q.pv,fP (l++[x]),.int .i64 (IntKind.i64.wrap ((l.length:Int)-1))]=some (.int .i64 (cn N q (l++[x]) (l.length-1))):=fun x=>by rw[pK (by omega),show(l.length:Int)-1=((l.length-1:Nat):Int) by omega];exact J9 h (by rw[ags];omega) (UA x) hq
  have ahP:∀x,iq [N.pv,q.pv,fP (l++[x]),.int .i64 (l.length:Int)]=some (.int .i64 (cn N q (l++[x]) l.length)):=fun x=>J9 h (by rw[ags];simp) (UA x) hq;have fin:∀(o':List (List aT))(v:PV),o'.length≤2*(k+1)→rec (exS N q l z (IntKind.i64.wrap ((k:Int)+1)) (o'.map fP) ((A++[v])++(xs.drop (k+1)).map aT.pv))=some (PV.rs 1 ((o'++(xs.drop (k+1)).flatMap (lH N q l z)).map fP)):=fun o' v h'=>by rw[ag (by omega)];exact cA (o',A++[v]) ⟨by rw[ags];simp;omega,h'⟩
  have abx:(xs.drop k).flatMap (lH N q l z)=lH N q l z xs[k]++(xs.drop (k+1)).flatMap (lH N q l z):=by rw[dv hk,aky]
  generalize xs[k]=x at ec abw hxk abx;have ta:(bif decide (cn N q (l++[x]) (l.length-1)=0)then some (cn N q (l++[x]) l.length !=28)else some false)=some (aaD N q l x):=by rw[pQ,nJ];rfl
  have Zj:((o++[l++[x]]).map fP).length*24≤af∧0<24:=yn _ (by simp;omega);have SC:∀p:List aT,((o++[l++[x]]++[p]).map fP).length*24≤af∧0<24:=fun p=>yn _ (by simp;omega);have VL:∀p:List aT,((o++[p]).map fP).length*24≤af∧0<24:=fun p=>yn _ (by simp;omega);simp only[ajV,ajy,akv]at Zj SC VL;have step:∀(o':List (List aT)),o'.length≤2*k+1→(∀p:List aT,(o'.map fP++[fP p]).length*24≤af∧0<24)→((bif x.bJ then some (decide (x.cw=0))else some false).bind fun r47=>(bif r47 then some z.bJ else some false).bind fun r49=>
    if r49=true then(bif !CE l (fC x)then(fb [N.pv,z.pv,(fC x).pv]).bind fun r58=>(Ab.asInt .i64 r58).bind fun n59=>some (decide (n59=0))else some false).bind fun r60=>
     if r60=true then(if(o'.map fP++[fP (l++[fC x])]).length*24≤af∧0<24 then rec (exS N q l z (IntKind.i64.wrap ((k:Int)+1)) (o'.map fP++[fP (l++[fC x])]) ((A++[(fC x).pv])++(xs.drop (k+1)).map aT.pv))else none)
     else rec (exS N q l z (IntKind.i64.wrap ((k:Int)+1)) (o'.map fP) ((A++[(fC x).pv])++(xs.drop (k+1)).map aT.pv))
    else rec (exS N q l z (IntKind.i64.wrap ((k:Int)+1)) (o'.map fP) ((A++[x.pv])++(xs.drop (k+1)).map aT.pv)))
   =some (PV.rs 1 ((o'++(if nI N l z x=true then[l++[fC x]]else[])++(xs.drop (k+1)).flatMap (lH N q l z)).map fP)):=fun o' VP e9=>by
   rw[pQ]
   simp only[U,pQ]
   cases hc:(x.bJ&&decide (x.cw=0)&&z.bJ)with
   |false=>
    rw[IN (by simp),fin o' x.pv (by omega),show nI N l z x=false by simp only[nI,hc,als]]
    simp
   |true=>
    rw[BK rfl]
    have hxr:x.bJ=true:=by simp only[T1]at hc;exact hc.1.1
    have Ob:DD N (fC x)=false:=by have:=hxk hxr;unfold DD at this⊢;simp only[fC,hxr,aaV]at this⊢;exact this
    rw[Ge h Ob]
    simp only[U,aI,pQ]
    have hb:(!CE l (fC x)&&decide ((if oA N z (fC x)=0 then q8 N z (fC x)else oA N z (fC x))=0))=nI N l z x:=by unfold nI acz;rw[hc];simp
    rw[hb]
    cases hs:nI N l z x with
    |true=>
     rw[BK rfl,BK (e9 _)]
     have:=fin (o'++[l++[fC x]]) (fC x).pv (by simp;omega)
     rw[ajV]at this
     exact this
    |false=>
     rw[IN (by simp),fin o' (fC x).pv (by omega)]
     simp
  unfold jP;dsimp only[exS];rw[BK (by rw[hlen];simp;omega)];simp only[ajw,oq,ec,aaV,U,Qz,jF,Yh (show l.length≤1000 by omega),jA,jE,jj,vX,OF,ahO,ahP,aI,gS,iT,fa,aev,tb,aex,acv,UW (show l.length≤1000 by omega),aB];rw[ta,abw,abx];simp only[U];rw[show lH N q l z x=(if aaD N q l x=true then[l++[x]]else[])++(if nI N l z x=true then[l++[fC x]]else[])from rfl];cases h1:aaD N q l x with
  |true=>
   rw[BK rfl,BK Zj,BK rfl];refine Eq.trans ?_ ((step (o++[l++[x]]) (by simp;omega) (fun p=>by rw[ajV];exact SC p)).trans ?_)
   ·simp only[ajV,ajy,akv]
   ·simp only[ajN]
  |false=>rw[IN (show¬(false=true) by simp),IN (show¬(false=true) by simp),aj1];refine(step o (by omega) VL).trans ?_;simp only[ajN]
 ·obtain⟨o,A⟩:=e;unfold jP;dsimp only[exS];rw[IN (by rw[ajS];simp[he.1]),ajS,alr,aj2]
end
theorem j1E(x:aT):PV.agg [.rs 9 [x.pv]]=fP [x]:=by
 have h:∀p,p=x.pv→PV.agg [.rs 9 [p]]=fP [x]:=fun p hp=>by subst hp;rfl
 exact h _ rfl
theorem aby(x:aT):PV.agg [cell x.pv 0,cell x.pv 1,cell x.pv 2,cell x.pv 3,cell x.pv 4,cell x.pv 5,cell x.pv 6,cell x.pv 7,cell x.pv 8]=x.pv:=by
 have h:∀p,p=x.pv→PV.agg [cell p 0,cell p 1,cell p 2,cell p 3,cell p 4,cell p 5,cell p 6,cell p 7,cell p 8]=x.pv:=fun p hp=>by subst hp;rfl
 exact h _ rfl
theorem Yj{n:Int}(h: -9223372036854775808≤n∧n≤9223372036854775807):lM n:=by refine(nf _ _).2 ?_;simpa[IntKind.min,IntKind.max,IntKind.signed,IntKind.bits]using h
variable{N:ab}
theorem Yk(hs:Gt N)(p:aT→Bool):((wj N).filter p).length≤252:=by
 unfold wj;rw[tt];have h1:∀m,(((List.range N.runs.length).take m).flatMap fun i=>(nG i (gi N i)).filter p).length≤36*m:=by
  intro m;induction m with
  |zero=>simp
  |succ m ih=>
   by_cases hm:m<N.runs.length
   ·rw[ajM (by rw[aj7];exact hm),alI,ags];have:=DL m (hs.calls m) p;simp only[aky,alr,aj2,amk];omega
   ·rw[aj8 (by rw[aj7];omega)]at ih⊢;omega
 have:=h1 N.runs.length;rw[aj8 (by rw[aj7];omega)]at this;have:=hs.runs;omega
theorem CJ(hs:Gt N)(s t:Int):(gj N s t).length≤252:=Yk hs _
theorem CK(hs:Gt N)(s t:Int):(nH N s t).length≤60:=by unfold nH;rw[OF];exact ajP (ak1 _ _) hs.paths
theorem uV(h:jI N){x:aT}(hx:x∈wj N):DD N x=false∧x.Ok:=by
 obtain⟨i,b,a,hi,hb,ha,rfl⟩:=Gv hx;have Xa:=IK hi;have hm:=ajz hi;have hO:=(h.ok.runs.2 _ hm).calls.2;rw[Xa]at ha⊢;have iv:b<N.runs[i].calls.length:=by omega
 obtain⟨s1,e1,g1,_⟩:=h.call _ hm _ (ajz iv);obtain⟨s2,e2,g2,_⟩:=h.call _ hm _ (ajz ha);have l1:=(IS.1 e1).1;have l2:=(IS.1 e2).1;have o1:=hO _ (ajz iv);have o2:=hO _ (ajz ha);have i64:∀n:Nat,n≤9223372036854775807→lM (n:Int):=fun n hn=>Yj ⟨by omega,by omega⟩;have hM:=(h.ok.runs.2 _ hm).calls.1;have hM2:=h.ok.runs.1;have UA:=bg;refine⟨?_,?_⟩
 ·unfold DD XB y5 ub;simp only[yj iv,yj ha,aaV,ajw];rw[BK (by omega),AI hi];have r1:qR N.runs[i].calls[b].stop 0 ((N.stops.length:Int)-1)=true:=by simp only[qR,T1,I5];omega
  have r2:qR N.runs[i].calls[a].stop 0 ((N.stops.length:Int)-1)=true:=by simp only[qR,T1,I5];omega
  rw[r1,r2];simp;omega
 ·unfold ub;rw[yj iv,yj ha];exact⟨i64 _ (by omega),i64 _ (by omega),i64 _ (by omega),o1.stop,o2.stop,o1.dep,o2.arr⟩
theorem IL(h:jI N){z x:aT}(hx:x∈wC N z):x.bJ=true→DD N x=false:=by
 intro hr;unfold wC at hx;rcases ajI.1 hx with hx|hx
 ·exact(uV h (aka.1 hx).1).1
 ·split at hx
  ·obtain⟨p,_,rfl⟩:=ajJ.1 hx;cases hr
  ·cases hx
section
variable {N:ab} {q:gZ} {l:List aT} {z:aT}
theorem QT(h:jI N)(hs:Gt N)(hq:(q.vW&&q.back)=false)(hl:l.length≤900){r:List aT}(hz:l.reverse=z::r):jc [N.pv,q.pv,fP l]=some (.rs 1 ((CF N q l z).map fP)):=by
 obtain⟨h0,uS⟩:=Th hz;have hi:aD (l.map aT.pv) (IntKind.i64.wrap ((l.length:Int)-1))=some z.pv:=by rw[pK (by omega),show(l.length:Int)-1=((l.length-1:Nat):Int) by omega,xZ aT.pv,uS];rfl
 have h1:=CJ hs z.dst z.arr;have h2:=CK hs z.dst z.arr;simp only[jc,vL,gw,gx,gy,gz,gA,gB,gC,gD,gE,gF,pJ,qt,qu,qv,qw,qx,qy,qz,qA,qB,qC,jA,j0,U,OF,hi,iC,gT,gS,jj,CH hs,CI hs,aS];unfold CF;cases hr:z.bJ with
 |true=>
  have e:wC N z=gj N z.dst z.arr++nH N z.dst z.arr:=by unfold wC;rw[BK hr]
  have:=Mr (z:=z) h hq hl h0 (wC N z) (by rw[e,ags];omega) fun x hx=>IL h hx;rw[BK rfl,BK (Gy _ (by rw[ags,OF,OF];omega)),←ajV,←e];exact this
 |false=>
  have e:wC N z=gj N z.dst z.arr:=by unfold wC;rw[IN (by simp[hr]),aj2]
  have:=Mr (z:=z) h hq hl h0 (wC N z) (by rw[e];omega) fun x hx=>IL h hx;rw[IN (by simp),←e];exact this
abbrev stS(N:ab)(q:gZ)(f i:Int)(o es:List PV):aey:=(f,i,N.stops.map Stop.pv,N.aj.map ay.pv,N.runs.map da.pv,N.au.map ba.pv,N.paths.map Path.pv,N.aL.map aA.pv,N.bk,N.within,N.cap,q.src,q.dst,q.time,q.back,q.bQ,q.walk,q.free,q.qq,q.bK,q.vW,o,es,())
theorem Yl(f:Int)(ws:List aT)(j:Nat)(hj:j<ws.length)(Gz)(xs:List aT)(HV:xs.length≤252)(o:List (List aT))(ho:o.length≤100000):bn.run (nM bn Gz) (f,ws.map aT.pv,(j:Int),0,N.stops.map Stop.pv,N.aj.map ay.pv,N.runs.map da.pv,N.au.map ba.pv,N.paths.map Path.pv,N.aL.map aA.pv,N.bk,N.within,N.cap,o.map fP,xs.map aT.pv,())=Gz (f,ws.map aT.pv,IntKind.i64.wrap ((j:Int)+1),N.stops.map Stop.pv,N.aj.map ay.pv,N.runs.map da.pv,N.au.map ba.pv,N.paths.map Path.pv,N.aL.map aA.pv,N.bk,N.within,N.cap,(o++xs.map fun x=>[{ws[j]with dep:=IntKind.i64.wrap (x.dep-ws[j].arr),arr:=x.dep},x]).map fP,()):=by
 refine dL (fun k(o:List (List aT))=>(f,ws.map aT.pv,(j:Int),(k:Int),N.stops.map Stop.pv,N.aj.map ay.pv,N.runs.map da.pv,N.au.map ba.pv,N.paths.map Path.pv,N.aL.map aA.pv,N.bk,N.within,N.cap,o.map fP,xs.map aT.pv,())) (fun k o=>Gz (f,ws.map aT.pv,IntKind.i64.wrap ((j:Int)+1),N.stops.map Stop.pv,N.aj.map ay.pv,N.runs.map da.pv,N.au.map ba.pv,N.paths.map Path.pv,N.aL.map aA.pv,N.bk,N.within,N.cap,(o++(xs.drop k).map fun x=>[{ws[j]with dep:=IntKind.i64.wrap (x.dep-ws[j].arr),arr:=x.dep},x]).map fP,())) (fun k o=>o.length≤100000+k) xs.length (fun k hk o rec ho cA=>?_) (fun o rec ho=>?_) (by unfold rounds;omega) o (by omega) rfl
 ·have hr:=cA (o++[[{ws[j]with dep:=IntKind.i64.wrap (xs[k].dep-ws[j].arr),arr:=xs[k].dep},xs[k]]]) (by rw[ags];simp;omega);have oq:ae (k:Int) (xs.map aT.pv).length:=⟨by omega,by rw[OF];omega⟩;have ec:(xs.map aT.pv)[k]?=some xs[k].pv:=by rw[IT,AI hk];rfl
  have e:PV.agg [.rs 9 [.agg [cell ws[j].pv 0,cell ws[j].pv 1,cell ws[j].pv 2,cell ws[j].pv 3,cell ws[j].pv 4,cell ws[j].pv 5,.int .i64 (IntKind.i64.wrap (xs[k].dep-ws[j].arr)),.int .i64 xs[k].dep,cell ws[j].pv 8],xs[k].pv]]=fP [{ws[j]with dep:=IntKind.i64.wrap (xs[k].dep-ws[j].arr),arr:=xs[k].dep},xs[k]]:=rfl;unfold nM;dsimp only;rw[BK (by simp;omega),bA aT.pv ws j hj];simp only[U,ajw,oq,ec,aaV,iD,gT,aby,e,ag (show k<9223372036854775807 by omega)];rw[BK (yn _ (by simp;omega))];rw[ajV]at hr;refine hr.trans ?_;rw[dv hk,ajy,ajN];rfl
 ·unfold nM;dsimp only;rw[IN (by simp),ajS,akv,aj2]
theorem UX(hs:Gt N):lX [N.pv,q.pv]=some (.rs 1 ((wm N q).map fP)):=by
 have key:∀f:Int,bn.run (kP bn) (stS N q f 0 [] ((gj N q.src f).map aT.pv))=some (.rs 1 (((gj N q.src f).map (fun x=>[x])++(nH N q.src 0).flatMap fun w=>(gj N w.dst f).map fun x=>[{w with dep:=IntKind.i64.wrap (x.dep-w.arr),arr:=x.dep},x]).map fP)):=by
  intro f;have hlen:=CJ hs q.src f;have hwl:=CK hs q.src 0;refine dL (fun k(o:List (List aT))=>stS N q f (k:Int) (o.map fP) ((gj N q.src f).map aT.pv)) (fun k o=>some (PV.rs 1 ((o++((gj N q.src f).drop k).map (fun x=>[x])++(nH N q.src 0).flatMap fun w=>(gj N w.dst f).map fun x=>[{w with dep:=IntKind.i64.wrap (x.dep-w.arr),arr:=x.dep},x]).map fP))) (fun k o=>o.length≤k) (gj N q.src f).length (fun k hk o rec ho cA=>?_) (fun o rec ho=>?_) (by unfold rounds;omega) [] (by simp) (by simp)
  ·generalize gj N q.src f=xs at hk hlen cA;have hr:=cA (o++[[xs[k]]]) (by rw[ags];simp;omega);have oq:ae (k:Int) (xs.map aT.pv).length:=⟨by omega,by rw[OF];omega⟩;have ec:(xs.map aT.pv)[k]?=some xs[k].pv:=by rw[IT,AI hk];rfl
   unfold kP;dsimp only[stS];rw[BK (by simp;omega)];simp only[U,ajw,oq,ec,aaV,aby,j1E,ag (show k<9223372036854775807 by omega)];rw[BK (yn _ (by simp;omega))];rw[ajV]at hr;refine hr.trans ?_;rw[dv hk,ajy];simp
  ·unfold kP;dsimp only[stS];rw[IN (by simp),ajS,akv,aj2,jj,CI hs];simp only[U,aS];generalize nH N q.src 0=ws at hwl;refine dL (fun k(o:List (List aT))=>(f,ws.map aT.pv,(k:Int),N.stops.map Stop.pv,N.aj.map ay.pv,N.runs.map da.pv,N.au.map ba.pv,N.paths.map Path.pv,N.aL.map aA.pv,N.bk,N.within,N.cap,o.map fP,())) (fun k o=>some (PV.rs 1 ((o++(ws.drop k).flatMap fun w=>(gj N w.dst f).map fun x=>[{w with dep:=IntKind.i64.wrap (x.dep-w.arr),arr:=x.dep},x]).map fP))) (fun k o=>o.length≤252+252*k) ws.length (fun k hk o rec ho cA=>?_) (fun o rec ho=>?_) (by unfold rounds;omega) o (by omega) (by simp)
   ·have hl2:=CJ hs ws[k].dst f;unfold sF;dsimp only;rw[BK (by simp;omega),bA aT.pv ws k hk];simp only[U,iC,jj,CH hs,aS];rw[Yl f ws k hk _ _ hl2 o (by omega),ag (by omega),dv hk,aky,←ajN];exact cA _ (by rw[ags,OF];omega)
   ·unfold sF;dsimp only;rw[IN (by simp),ajS,alr,aj2]
 simp only[lX,xX,gw,gx,gy,gz,gA,gB,gC,gD,gE,gF,pJ,qt,qu,qv,qw,qx,qy,qz,qA,qB,qC,U,jj,CH hs,aS];unfold wm;cases hb:q.back with
 |true=>have:=key 0;simp only[stS,hb]at this;exact this
 |false=>have:=key q.time;simp only[stS,hb]at this;exact this
theorem UY(hl:l.length≤900):lY [fP l]=some (.int .i64 (l.countP bl:Nat)):=by
 simp only[lY,xK,jA,j0,U];refine kJ (fun k(_:Unit)=>((((l.take k).countP bl:Nat):Int),(k:Int),l.map aT.pv,())) (fun _ _=>some (PV.int .i64 (l.countP bl:Nat))) l.length (fun k hk e rec cA=>?_) (fun e rec=>?_) (by unfold rounds;omega) () (by simp)
 ·have hc:=count_le (l:=l) k;have hr:=cA ();rw[Ax hk]at hr;unfold sG;dsimp only;rw[BK (by simp;omega),bA aT.pv l k hk];simp only[U,gS,gU,pQ,ag (show k<9223372036854775807 by omega),ag (show(l.take k).countP bl<9223372036854775807 by omega)];unfold bl at hr;cases h1:(l[k].bJ&& !l[k].stay)with
  |true=>rw[h1]at hr;rw[BK rfl];exact hr
  |false=>rw[h1]at hr;rw[IN (by simp)];exact hr
 ·unfold sG;dsimp only;rw[IN (by simp),akh]
theorem Ms(h:jI N)(hq:(q.vW&&q.back)=false)(hl:l.length≤900)(h0:0<l.length)(ho:∀x∈l,x.Ok):∃b,fq [N.pv,q.pv,fP l]=some (.bool b)∧(b=true→(l.countP bl:Int)≤q.bQ):=by
 have UA:l.length≤maxLen:=by unfold maxLen;omega
 have hi:aD (l.map aT.pv) (IntKind.i64.wrap ((l.length:Int)-1))=some (l[l.length-1]'(by omega)).pv:=by rw[pK (by omega),show(l.length:Int)-1=((l.length-1:Nat):Int) by omega,bA aT.pv l (l.length-1) (by omega)]
 simp only[fq,tU,gw,gx,gy,gz,gA,gB,gC,gD,gE,gF,pJ,qt,qu,qv,qw,qx,qy,qz,qA,qB,qC,jA,j0,U];let bad:Nat→Option (Option PV):=fun k=>if(!decide (cn N q l k=0)&&(decide (k+1<l.length)||(!decide (cn N q l k=26)&& !decide (cn N q l k=29))))=true then some (some (.bool false))else none;let last:=decide ((l.countP bl:Int)≤q.bQ)&&decide (KY l 0≤q.walk)&&(!q.back||decide ((l[l.length-1]'(by omega)).arr≤q.time));have abz:=B6 (body:=la) (fun k=>((k:Int),N.stops.map Stop.pv,N.aj.map ay.pv,N.runs.map da.pv,N.au.map ba.pv,N.paths.map Path.pv,N.aL.map aA.pv,N.bk,N.within,N.cap,q.src,q.dst,q.time,q.back,q.bQ,q.walk,q.free,q.qq,q.bK,q.vW,l.map aT.pv,())) l.length bad (fin:=some (.bool last)) (fun k hk rec=>?_) (fun rec=>?_) (by unfold rounds;omega) rfl
 ·rw[show((0:Nat):Int)=0 from rfl]at abz;rw[abz];cases hf:(List.range l.length).findSome? bad with
  |none=>exact⟨last,rfl,fun hb=>by simp only[last,T1,I5]at hb;exact hb.1.1⟩
  |some r=>
   obtain⟨k,_,hk⟩:=akw hf;simp only[bad]at hk;split at hk
   ·cases hk;exact⟨false,rfl,fun hb=>by cases hb⟩
   ·cases hk
 ·unfold la;dsimp only;rw[BK (by simp;omega),jj,vX,jF,J9 h hk UA hq];have hc:(bif cn N q l k !=0 then(bif decide (IntKind.i64.wrap ((k:Int)+1)<((l.map aT.pv).length:Int))then some true else(bif cn N q l k !=26 then some (cn N q l k !=29)else some false).bind fun r=>some r).bind fun r=>some r else some false)=some (!decide (cn N q l k=0)&&(decide (k+1<l.length)||(!decide (cn N q l k=26)&& !decide (cn N q l k=29)))):=by rw[ag (show k<9223372036854775807 by omega),OF,pQ];simp only[U,aY,pQ,nJ];rw[show decide (((k+1:Nat):Int)<(l.length:Int))=decide (k+1<l.length) by rw[ajO,I5,I5];omega]
  simp only[U,aI];rw[hc];simp only[U,bad,ag (show k<9223372036854775807 by omega)];split<;>rfl
 ·unfold la;dsimp only;rw[IN (by simp),jF,UY hl];simp only[U,aI,Cu l (by omega) ho,pQ,OF,hi,gT,aY];simp only[last]
end
theorem GA(n:Int):lM (IntKind.i64.wrap n):=by rw[Ka];exact Yj ⟨by omega,by omega⟩
section
variable {N:ab} {q:gZ} {l:List aT} {z:aT}
variable{x:aT}
theorem Ym(h:x.Ok):(fC x).Ok:=⟨h.run,h.cw,h.br,h.src,h.dst,h.dep,h.arr⟩
theorem yV(h:jI N){s t:Int}(h1:lM s)(h2:lM t)(hx:x∈nH N s t):x.bJ=false∧x.stay=false∧x.Ok:=by
 unfold nH at hx;obtain⟨p,hp,rfl⟩:=ajJ.1 hx;have:=h.ok.paths.2 _ (aka.1 hp).1;have z0:lM 0:=by decide
 exact⟨rfl,rfl,⟨z0,z0,z0,h1,this.b,h2,GA _⟩⟩
theorem GB(l:List aT)(h1:x.bJ=true)(h2:x.stay=false):(l++[x]).countP bl=l.countP bl+1:=by rw[alf,akq,Mq h1 h2];rfl
theorem Mt(l:List aT)(h:bl x=false):(l++[x]).countP bl=l.countP bl:=by rw[alf,akq,h];rfl
theorem Ti(h:jI N)(hs:Gt N)(hi:Ki N l){r:List aT}(hz:l.reverse=z::r)(hr:l.countP bl≤3):∀m∈CF N q l z,Ki N m∧m.countP bl≤4:=by
 intro m hm;unfold CF at hm;obtain⟨x,hx,hm⟩:=ak5.1 hm;have hzm:z∈l:=by rw[←List.mem_reverse,hz];exact List.mem_cons_self
 have hzo:=hi.ok z hzm;have hl1:l.length≤8*l.countP bl+1:=by
  cases BO:z.bJ with
  |true=>have:=hi.rl z r hz BO;have:=Gw hs hi hz BO;omega
  |false=>exact hi.wl z r hz BO
 have okA:∀y:aT,y.Ok→∀w∈l++[y],w.Ok:=fun y hy w hw=>by
  rcases ajI.1 hw with hw|hw
  ·exact hi.ok w hw
  ·rw[aj4.1 hw];exact hy
 have rev:∀y:aT,(l++[y]).reverse=y::l.reverse:=fun y=>by rw[alc];rfl
 have ne:∀y:aT,l++[y]≠[]:=fun y=>by simp
 unfold lH at hm;rcases ajI.1 hm with hm|hm
 ·split at hm
  ·rw[aj4.1 hm];unfold wC at hx;rcases ajI.1 hx with hx|hx
   ·obtain⟨x1,x2,i,b,a,Z6,_,_,rfl⟩:=sD hx;have hc:=GB l x1 x2;have Lu:y6 (ub i (gi N i) b a::l.reverse)=[(i:Int)]:=by unfold y6;rw[IN (by simp[ub])];rfl
    refine⟨⟨okA _ (uV h (aka.1 hx).1).2,ne _,?_,fun z' r' e BO v hv=>?_,fun z' r' e BO=>?_,fun z' r' e BO=>?_⟩,by omega⟩
    ·rw[rev,Lu];simp
    ·rw[rev,Lu]at hv;rw[aj4.1 hv];omega
    ·rw[rev,Lu,hc,ags];exact⟨by omega,by simp only[ajv,ajQ];omega⟩
    ·rw[rev]at e;cases e;cases BO
   ·by_cases BO:z.bJ=true
    ·rw[BK BO]at hx;obtain⟨x1,x2,xo⟩:=yV h hzo.dst hzo.arr hx;have hc:=Mt l (x:=x) (by simp[bl,x1]);have Lu:y6 (x::l.reverse)=[x.run]:=by unfold y6;rw[IN (by simp[x2])]
     have:=hi.rl z r hz BO;have:=Gw hs hi hz BO;refine⟨⟨okA _ xo,ne _,?_,fun z' r' e UZ v hv=>?_,fun z' r' e UZ=>?_,fun z' r' e UZ=>?_⟩,by omega⟩
     ·rw[rev,Lu];simp
     ·rw[rev]at e;cases e;rw[x1]at UZ;cases UZ
     ·rw[rev]at e;cases e;rw[x1]at UZ;cases UZ
     ·rw[hc,ags];simp;omega
    ·rw[IN BO]at hx;cases hx
  ·cases hm
 ·split at hm
  ·rename_i ov;rw[aj4.1 hm];obtain⟨zr,_,n0,_,k,_,_,_,_,g0,g1⟩:=Kh h ov;have xr:x.bJ=true:=by simp only[nI,T1]at ov;exact ov.1.1.1.1
   have xo:x.Ok:=by
    unfold wC at hx;rcases ajI.1 hx with hx|hx
    ·exact(uV h (aka.1 hx).1).2
    ·rw[BK zr]at hx;exact(yV h hzo.dst hzo.arr hx).2.2
   have hc:=Mt l (x:=fC x) (by simp[bl,fC]);have Lu:y6 (fC x::l.reverse)=x.run::y6 l.reverse:=rfl;have Z4:=hi.rl z r hz zr;refine⟨⟨okA _ (Ym xo),ne _,?_,fun z' r' e BO v hv=>?_,fun z' r' e BO=>?_,fun z' r' e BO=>?_⟩,by omega⟩
   ·rw[rev,Lu];exact alz.2 ⟨n0,hi.nodup⟩
   ·rw[rev,Lu]at hv;rcases ah4.1 hv with rfl|hv
    ·exact⟨g0,g1⟩
    ·exact hi.runs z r hz zr v hv
   ·rw[rev,Lu,hc,ags,ajv];exact⟨by omega,by simp only[ajv,ajQ];omega⟩
   ·rw[rev]at e;cases e;rw[show(fC x).bJ=x.bJ from rfl,xr]at BO;cases BO
  ·cases hm
theorem U0(h:jI N)(U1:q.Ok):∀m∈wm N q,Ki N m∧m.countP bl≤4:=by
 intro m hm;unfold wm at hm;have base:∀(p:List aT)(x:aT),(∀w∈p,w.Ok∧w.bJ=false)→p.length≤1→x∈wj N→Ki N (p++[x])∧(p++[x]).countP bl≤4:=fun p x hp DX hx=>by
  obtain⟨i,b,a,Z6,_,_,rfl⟩:=Gv hx;have HL:p.countP bl=0:=alp.2 fun w hw=>by simp[bl,(hp w hw).2]
  have hc:=GB p (x:=ub i (gi N i) b a) rfl rfl;have Lu:y6 (ub i (gi N i) b a::p.reverse)=[(i:Int)]:=by unfold y6;rw[IN (by simp[ub])];rfl
  have rev:(p++[ub i (gi N i) b a]).reverse=ub i (gi N i) b a::p.reverse:=by rw[alc];rfl
  refine⟨⟨fun w hw=>?_,by simp,?_,fun z' r' e BO v hv=>?_,fun z' r' e BO=>?_,fun z' r' e BO=>?_⟩,by omega⟩
  ·rcases ajI.1 hw with hw|hw
   ·exact(hp w hw).1
   ·rw[aj4.1 hw];exact(uV h hx).2
  ·rw[rev,Lu];simp
  ·rw[rev,Lu]at hv;rw[aj4.1 hv];omega
  ·rw[rev,Lu,hc,ags];exact⟨by omega,by simp only[ajv,ajQ];omega⟩
  ·rw[rev]at e;cases e;cases BO
 rcases ajI.1 hm with hm|hm
 ·obtain⟨x,hx,rfl⟩:=ajJ.1 hm;exact base [] x (fun w hw=>by cases hw) (by simp) (aka.1 hx).1
 ·obtain⟨w,hw,hm⟩:=ak5.1 hm;obtain⟨x,hx,rfl⟩:=ajJ.1 hm;obtain⟨w1,w2,wo⟩:=yV h U1.src (t:=0) (by decide) hw;have xo:=(uV h (aka.1 hx).1).2;refine base [_] x (fun y hy=>?_) (by simp) (aka.1 hx).1;rw[aj4.1 hy];exact⟨⟨wo.run,wo.cw,wo.br,wo.src,wo.dst,GA _,xo.dep⟩,w1⟩
def Open(N:ab)(L:List (List aT)):Prop:=∀l∈L,Ki N l∧l.countP bl≤4
theorem GC(hs:Gt N)(hi:Ki N l)(hc:l.countP bl≤4):0<l.length∧l.length≤40∧∃z r,l.reverse=z::r:=by
 cases hz:l.reverse with
 |nil=>exact absurd (amA.1 hz) hi.ne
 |cons z r=>
  refine⟨(Th hz).1,?_,z,r,rfl⟩;cases BO:z.bJ with
  |true=>have:=hi.rl z r hz BO;have:=Gw hs hi hz BO;omega
  |false=>have:=hi.wl z r hz BO;omega
open Classical in
noncomputable def Dv(N:ab)(q:gZ)(l:List aT):Bool:=decide (fq [N.pv,q.pv,fP l]=some (.bool true))
noncomputable def Bu(N:ab)(q:gZ)(l:List aT):Bool:=decide ((lG N q l).2=0)
theorem Tj(h:jI N)(hq:(q.vW&&q.back)=false)(hl:l.length≤900)(h0:0<l.length)(ho:∀x∈l,x.Ok):fq [N.pv,q.pv,fP l]=some (.bool (Dv N q l))∧(Dv N q l=true→(l.countP bl:Int)≤q.bQ):=by
 obtain⟨b,hb,hc⟩:=Ms h hq hl h0 ho;have e:Dv N q l=b:=by unfold Dv;rw[hb];cases b<;>simp
 rw[e];exact⟨hb,hc⟩
theorem Mu(h:jI N)(hl:l.length≤900)(ho:∀x∈l,x.Ok):eN [N.pv,q.pv,fP l]=some (.bool (Bu N q l)):=by simp only[eN,sr,gw,gx,gy,gz,gA,gB,gC,gD,gE,gF,pJ,qt,qu,qv,qw,qx,qy,qz,qA,qB,qC,jA,j0,U,jj,vX,jF,aaz h.ok h.paths (show l.length≤1000000 by omega) ho,t2,ajE,ajD,aI,fa];rfl
noncomputable def Mv(l:List aT):aT:=l.reverse.headD ⟨false,0,0,0,0,0,0,0,false⟩
noncomputable def sH(N:ab)(q:gZ)(L:List (List aT)):List (List aT):=(L.filter (Dv N q)).flatMap fun l=>CF N q l (Mv l)
noncomputable def y7(N:ab)(q:gZ)(L:List (List aT)):List (List aT):=L.filter fun l=>Dv N q l&&Bu N q l
theorem QU{A:Type}{f:A→Nat}{l:List A}(h:∀x∈l,1≤f x):l.length≤bH f l:=by
 induction l with
 |nil=>exact ama _
 |cons x r ih=>have h1:=h x (by simp);have h2:=ih fun y hy=>h y (by simp[hy]);simp only[bH,ajv];omega
variable{L:List (List aT)}
theorem Open.len(h:Open N L):L.length≤bH (wt N) L:=QU fun l hl=>QS N (h l hl).1.ne
abbrev alS(N:ab)(q:gZ)(op:List PV)(i:Int)(o m:List PV):aez:=(op,i,N.stops.map Stop.pv,N.aj.map ay.pv,N.runs.map da.pv,N.au.map ba.pv,N.paths.map Path.pv,N.aL.map aA.pv,N.bk,N.within,N.cap,q.src,q.dst,q.time,q.back,q.bQ,q.walk,q.free,q.qq,q.bK,q.vW,o,m,())
abbrev lvS(N:ab)(q:gZ)(op o:List PV):acA:=(op,N.stops.map Stop.pv,N.aj.map ay.pv,N.runs.map da.pv,N.au.map ba.pv,N.paths.map Path.pv,N.aL.map aA.pv,N.bk,N.within,N.cap,q.src,q.dst,q.time,q.back,q.bQ,q.walk,q.free,q.qq,q.bK,q.vW,o,())
theorem level(h:jI N)(hs:Gt N)(hq:(q.vW&&q.back)=false)(h3:q.bQ≤3)(hL:Open N L)(jQ)(o:List PV)(ho:o.length+bH (wt N) L≤4000000000000):bn.run (re bn jQ) (alS N q (L.map fP) 0 o [])=jQ (lvS N q ((sH N q L).map fP) (o++(y7 N q L).map fP)):=by
 have hLl:=hL.len;refine dL (fun k(e:List PV×List (List aT))=>alS N q (L.map fP) (k:Int) e.1 (e.2.map fP)) (fun k e=>jQ (lvS N q ((e.2++sH N q (L.drop k)).map fP) (e.1++(y7 N q (L.drop k)).map fP))) (fun k e=>e.1.length+bH (wt N) e.2+bH (wt N) (L.drop k)≤4000000000000∧Open N e.2) L.length (fun k hk e rec he cA=>?_) (fun e rec he=>?_) (by unfold rounds;omega) (o,[]) ⟨by simpa[bH]using ho,fun l hl=>by cases hl⟩ rfl
 ·obtain⟨o,m⟩:=e;obtain⟨hW,hm⟩:=he;dsimp only at hW hm cA⊢;obtain⟨hi,hc4⟩:=hL _ (ajz hk);obtain⟨l0,l40,z,r,hz⟩:=GC hs hi hc4;have UA:=hm.len;have uS:Mv L[k]=z:=by unfold Mv;rw[hz];rfl
  rw[dv hk]at hW;simp only[bH]at hW;have hwp:=QS N hi.ne;obtain⟨hp1,hp2⟩:=Tj h hq (show L[k].length≤900 by omega) l0 hi.ok;have hfe:=Mu (q:=q) h (show L[k].length≤900 by omega) hi.ok;have hex:=QT h hs hq (show L[k].length≤900 by omega) hz;have eM:sH N q (L[k]::L.drop (k+1))=(if Dv N q L[k]=true then CF N q L[k] z else[])++sH N q (L.drop (k+1)):=by
   unfold sH;rw[akc];split
   ·rw[aky,uS]
   ·rfl
  have eO:y7 N q (L[k]::L.drop (k+1))=(if(Dv N q L[k]&&Bu N q L[k])=true then[L[k]]else[])++y7 N q (L.drop (k+1)):=by unfold y7;rw[akc];split<;>rfl
  rw[dv hk,eM,eO];unfold re;dsimp only[alS];rw[BK (by simp;omega),bA fP L k hk];simp only[U,jj,vX,jE,hp1,hfe,hex,aB,aS,ag (show k<9223372036854775807 by omega)];cases hh:Dv N q L[k]with
  |false=>rw[BK (by simp),IN (by simp),IN (by simp),aj1,aj1];exact cA (o,m) ⟨by dsimp only;omega,hm⟩
  |true=>
   have h3':L[k].countP bl≤3:=by have:=hp2 hh;omega
   have hwt:=Yf h hs q hi hz h3';have hinv:=Ti (q:=q) h hs hi hz h3';have Zf:Open N (m++CF N q L[k] z):=fun y hy=>by
    rcases ajI.1 hy with hy|hy
    ·exact hm y hy
    ·exact hinv y hy
   have ahQ:=Zf.len;rw[nF]at ahQ;have e9:((m.map fP)++(CF N q L[k] z).map fP).length*24≤af∧0<24:=yn _ (by rw[←ajV,OF];omega);rw[IN (by simp),BK rfl];cases hf:Bu N q L[k]with
   |true=>have hr:=cA (o++[fP L[k]],m++CF N q L[k] z) ⟨by dsimp only;rw[nF,ags,ajv,ajQ];omega,Zf⟩;dsimp only at hr;rw[BK rfl,BK (yn _ (by rw[ags];simp;omega)),BK e9,BK (by simp),←ajV];refine hr.trans ?_;simp only[ajV,ajy,akv,ajN]
   |false=>have hr:=cA (o,m++CF N q L[k] z) ⟨by dsimp only;rw[nF];omega,Zf⟩;dsimp only at hr;rw[IN (by simp),BK e9,IN (by simp),←ajV];refine hr.trans ?_;simp only[ajV,aj1,ajN]
 ·obtain⟨o,m⟩:=e;unfold re;dsimp only[alS];rw[IN (by simp),ajS];simp[sH,y7]
def Good(N:ab)(q:gZ)(p:PV):Prop:=(p=.agg [.rs 0 []]∧q.src=q.dst)∨∃l:List aT,p=fP l∧0<l.length∧l.length≤900∧(∀x∈l,x.Ok)∧(lG N q l).2=0
theorem Yn(hs:Gt N)(hL:Open N L):∀p∈(y7 N q L).map fP,Good N q p:=by intro p hp;obtain⟨l,hl,rfl⟩:=ajJ.1 hp;unfold y7 at hl;obtain⟨hl,hf⟩:=aka.1 hl;obtain⟨hi,hc⟩:=hL l hl;obtain⟨l0,l40,_⟩:=GC hs hi hc;simp only[T1,Bu,I5]at hf;exact .inr ⟨l,rfl,l0,by omega,hi.ok,hf.2⟩
theorem U2(h:jI N)(hs:Gt N)(hq:(q.vW&&q.back)=false)(h3:q.bQ≤3)(hL:Open N L):Open N (sH N q L)∧bH (wt N) (sH N q L)+L.length≤bH (wt N) L∧(y7 N q L).length+bH (wt N) (sH N q L)≤bH (wt N) L:=by
 induction L with
 |nil=>exact⟨fun l hl=>(by cases hl),by simp[sH,bH],by simp[sH,y7,bH]⟩
 |cons l r ih=>
  obtain⟨i1,i2,i3⟩:=ih fun y hy=>hL y (by simp[hy]);obtain⟨hi,hc4⟩:=hL l (by simp);obtain⟨l0,l40,z,rr,hz⟩:=GC hs hi hc4;have uS:Mv l=z:=by unfold Mv;rw[hz];rfl
  have hwp:=QS N hi.ne;have hp2:=(Tj h hq (show l.length≤900 by omega) l0 hi.ok).2;have eM:sH N q (l::r)=(if Dv N q l=true then CF N q l z else[])++sH N q r:=by
   unfold sH;rw[akc];split
   ·rw[aky,uS]
   ·rfl
  have eO:(y7 N q (l::r)).length≤1+(y7 N q r).length∧(Dv N q l=false→y7 N q (l::r)=y7 N q r):=by
   unfold y7;rw[akc];constructor
   ·split<;>simp<;>omega
   ·intro e;rw[IN (by simp[e])]
  rw[eM];cases hh:Dv N q l with
  |false=>rw[IN (by simp),aj1,eO.2 hh];refine⟨i1,?_,?_⟩<;>simp only[bH,ajv]<;>omega
  |true=>
   have h3':l.countP bl≤3:=by have:=hp2 hh;omega
   have hwt:=Yf h hs q hi hz h3';rw[BK rfl,nF];refine⟨fun y hy=>?_,?_,?_⟩
   ·rcases ajI.1 hy with hy|hy
    ·exact Ti h hs hi hz h3' y hy
    ·exact i1 y hy
   ·simp only[bH,ajv];omega
   ·simp only[bH];omega
theorem levels(h:jI N)(hs:Gt N)(hq:(q.vW&&q.back)=false)(h3:q.bQ≤3):∀n,∀(L:List (List aT))(o:List PV)(M:Nat),bH (wt N) L≤n→n<M→Open N L→o.length+bH (wt N) L≤4000000000000→(∀p∈o,Good N q p)→∃o',cR (fJ bn) M (lvS N q (L.map fP) o)=some (.rs 1 o')∧o'.length≤4000000000000∧∀p∈o',Good N q p:=by
 intro n;induction n with
 |zero=>intro L o M hn hM hL ho hg;have:=hL.len;obtain⟨M,rfl⟩:∃m,M=m+1:=⟨M-1,by omega⟩;have Ju:L=[]:=ajB (by omega);subst Ju;refine⟨o,?_,by omega,hg⟩;simp only[cR];unfold fJ;dsimp only[lvS];rw[IN (by simp)]
 |succ n ih=>
  intro L o M hn hM hL ho hg;obtain⟨M,rfl⟩:∃m,M=m+1:=⟨M-1,by omega⟩;by_cases Ju:L=[]
  ·subst Ju;refine⟨o,?_,by omega,hg⟩;simp only[cR];unfold fJ;dsimp only[lvS];rw[IN (by simp)]
  ·have eF:0<L.length:=amY.2 Ju;obtain⟨m1,m2,m3⟩:=U2 h hs hq h3 hL;obtain⟨o',e1,e2,e3⟩:=ih (sH N q L) (o++(y7 N q L).map fP) M (by omega) (by omega) m1 (by rw[ags,OF];omega) fun p hp=>by
    rcases ajI.1 hp with hp|hp
    ·exact hg p hp
    ·exact Yn hs hL p hp
   refine⟨o',?_,e2,e3⟩;simp only[cR];unfold fJ;dsimp only[lvS];rw[BK (by simp;omega)];have:=level (q:=q) h hs hq h3 hL (cR (fJ bn) M) o ho;exact this.trans e1
end
section
variable {N:ab} {q:gZ}
def fK(q:gZ)(w:aT):aT:=if q.back=true then{w with dep:=IntKind.i64.wrap (q.time-IntKind.i64.wrap (w.arr-w.dep)),arr:=q.time}else w
abbrev aoS(N:ab)(q:gZ)(ws:List PV)(i:Int)(o:List PV):aeA:=(ws,i,N.stops.map Stop.pv,N.aj.map ay.pv,N.runs.map da.pv,N.au.map ba.pv,N.paths.map Path.pv,N.aL.map aA.pv,N.bk,N.within,N.cap,q.src,q.dst,q.time,q.back,q.bQ,q.walk,q.free,q.qq,q.bK,q.vW,o,())
theorem IM(U1:q.Ok){w:aT}(hw:w.Ok):(fK q w).Ok:=by
 unfold fK;split
 ·exact⟨hw.run,hw.cw,hw.br,hw.src,hw.dst,GA _,U1.time⟩
 ·exact hw
theorem QV(h:jI N)(hs:Gt N)(U1:q.Ok)(ws:List aT)(hws:ws.length≤60)(zU:∀w∈ws,w.Ok)(o:List PV)(ho:o.length≤10):bn.run (lb bn) (aoS N q (ws.map aT.pv) 0 o)=bn.run (fJ bn) (lvS N q ((wm N q).map fP) (o++(ws.filter fun w=>Bu N q [fK q w]).map fun w=>fP [fK q w])):=by
 refine dL (fun k(o:List PV)=>aoS N q (ws.map aT.pv) (k:Int) o) (fun k o=>bn.run (fJ bn) (lvS N q ((wm N q).map fP) (o++((ws.drop k).filter fun w=>Bu N q [fK q w]).map fun w=>fP [fK q w]))) (fun k o=>o.length≤10+k) ws.length (fun k hk o rec ho cA=>?_) (fun o rec ho=>?_) (by unfold rounds;omega) o (by omega) rfl
 ·have hw:=IM U1 (zU _ (ajz hk));have hf:=Mu (q:=q) (l:=[fK q ws[k]]) h (by simp) fun x hx=>by rw[aj4.1 hx];exact hw
  rw[dv hk,akc];unfold lb;dsimp only[aoS];rw[BK (by simp;omega),bA aT.pv ws k hk];simp only[U,iD,gT,jj,vX,ag (show k<9223372036854775807 by omega)];have e:PV.agg [.rs 9 [(fK q ws[k]).pv]]=fP [fK q ws[k]]:=rfl;have e9:(o++[fP [fK q ws[k]]]).length*24≤af∧0<24:=yn _ (by simp;omega);have tail:(if Bu N q [fK q ws[k]]=true then(if(o++[fP [fK q ws[k]]]).length*24≤af∧0<24 then rec (aoS N q (ws.map aT.pv) ((k+1:Nat):Int) (o++[fP [fK q ws[k]]]))else none)else rec (aoS N q (ws.map aT.pv) ((k+1:Nat):Int) o))=bn.run (fJ bn) (lvS N q ((wm N q).map fP) (o++(if Bu N q [fK q ws[k]]=true then ws[k]::(ws.drop (k+1)).filter fun w=>Bu N q [fK q w]else(ws.drop (k+1)).filter fun w=>Bu N q [fK q w]).map fun w=>fP [fK q w])):=by
   cases Bu N q [fK q ws[k]]with
   |true=>rw[BK rfl,BK e9,BK rfl,cA _ (by rw[ags,ajv,ajQ];omega),ajy,ajN];rfl
   |false=>rw[IN (by simp),IN (by simp),cA _ (by omega)]
  by_cases hb:q.back=true
  ·have ea:PV.agg [cell ws[k].pv 0,cell ws[k].pv 1,cell ws[k].pv 2,cell ws[k].pv 3,cell ws[k].pv 4,cell ws[k].pv 5,.int .i64 (IntKind.i64.wrap (q.time-IntKind.i64.wrap (ws[k].arr-ws[k].dep))),.int .i64 q.time,cell ws[k].pv 8]=(fK q ws[k]).pv:=by unfold fK;rw[BK hb];rfl
   rw[BK hb];simp only[ea,e,hf,U,aB];exact tail
  ·have ea:PV.agg [cell ws[k].pv 0,cell ws[k].pv 1,cell ws[k].pv 2,cell ws[k].pv 3,cell ws[k].pv 4,cell ws[k].pv 5,cell ws[k].pv 6,cell ws[k].pv 7,cell ws[k].pv 8]=(fK q ws[k]).pv:=by unfold fK;rw[IN hb];rfl
   rw[IN hb];simp only[ea,e,hf,U,aB];exact tail
 ·unfold lb;dsimp only[aoS];rw[IN (by simp),ajS,alx,akv,aj2,jj,vX,UX hs];simp only[U,aS]
theorem aaE(h:jI N)(hs:Gt N)(U1:q.Ok)(hq:(q.vW&&q.back)=false)(h3:q.bQ≤3):∃o,pR [N.pv,q.pv]=some (.rs 1 o)∧o.length≤4000000000000∧∀p∈o,Good N q p:=by
 have hwl:=CK hs q.src q.time;have zU:∀w∈nH N q.src q.time,w.Ok:=fun w hw=>(yV h U1.src U1.time hw).2.2;have ov:=Yg h hs q;have key:∀o:List PV,o.length≤10→(∀p∈o,Good N q p)→∃o',bn.run (lb bn) (aoS N q ((nH N q.src q.time).map aT.pv) 0 o)=some (.rs 1 o')∧o'.length≤4000000000000∧∀p∈o',Good N q p:=fun o ho hg=>by
  rw[QV h hs U1 _ hwl zU o ho,mi];refine levels h hs hq h3 _ _ _ rounds (ajC _) (by unfold rounds;simp only[Gc]at ov;omega) (U0 h U1) ?_ fun p hp=>?_
  ·have:=ak1 (fun w=>Bu N q [fK q w]) (nH N q.src q.time);simp only[Gc]at ov;rw[ags,OF];omega
  ·rcases ajI.1 hp with hp|hp
   ·exact hg p hp
   ·obtain⟨w,hw,rfl⟩:=ajJ.1 hp;obtain⟨hw,hf⟩:=aka.1 hw;refine .inr ⟨[fK q w],rfl,by simp,by simp,fun x hx=>?_,?_⟩
    ·rw[aj4.1 hx];exact IM U1 (zU w hw)
    ·simpa[Bu]using hf
 simp only[pR,Co,gw,gx,gy,gz,gA,gB,gC,gD,gE,gF,pJ,qt,qu,qv,qw,qx,qy,qz,qA,qB,qC,U,jj,CI hs,aS,fa,I5];by_cases hd:q.src=q.dst
 ·rw[BK hd];exact key [.agg [.rs 0 []]] (by simp) fun p hp=>by rw[aj4.1 hp];exact .inl ⟨rfl,hd⟩
 ·rw[IN hd];exact key [] (by simp) fun p hp=>by cases hp
theorem U3(hN:N.Ok):∃b,lZ [N.pv]=some (.bool b)∧(b=true→jI N∧Gt N):=by
 simp only[lZ,xR,gw,gx,gy,gz,gA,gB,gC,gD,gE,gF,U,aY,OF];split
 ·exact⟨false,rfl,fun h=>by cases h⟩
 ·rename_i hc;simp only[ajA,I5,amD]at hc;have hp:N.paths.length≤4096:=by omega
  refine⟨(N.runs.all fun r=> !decide ((r.calls.length:Int)>6))&&decide ((lE N).2.2=0),?_,fun hb=>?_⟩
  ·refine kJ (fun j(_:Unit)=>((j:Int),N.stops.map Stop.pv,N.aj.map ay.pv,N.runs.map da.pv,N.au.map ba.pv,N.paths.map Path.pv,N.aL.map aA.pv,N.bk,N.within,N.cap,())) (fun j _=>some (PV.bool (((N.runs.drop j).all fun r=> !decide ((r.calls.length:Int)>6))&&decide ((lE N).2.2=0)))) N.runs.length (fun j hj e rec cA=>?_) (fun e rec=>?_) (by unfold rounds;omega) () rfl
   ·unfold sI;dsimp only;rw[BK (by simp;omega),bA da.pv N.runs j hj,dv hj];simp only[U,Ar,aS,OF,ag (show j<9223372036854775807 by omega),cA (),al3];by_cases h:decide ((N.runs[j].calls.length:Int)>6)=true
    ·rw[BK h,h];rfl
    ·rw[IN h,Bool.eq_false_iff.2 h];rfl
   ·unfold sI;dsimp only;rw[IN (by simp),ajS,jj,F5 N hN hp];simp only[U,aB,List.all_nil,akp]
  ·simp only[T1,I5,aki,ajF,ajK]at hb;refine⟨⟨hN,hp,hb.2⟩,⟨by omega,by omega,fun i=>?_⟩⟩;unfold gi;cases hi:N.runs[i]? with
   |none=>simp
   |some r=>have:=hb.1 r (ah3 hi);dsimp only;omega
theorem U4(hN:N.Ok):bB [N.pv,q.pv,.agg [.rs 0 []]]=bB [N.pv,q.pv,fP []]:=by have a0:asAgg 1 (.agg [.rs 0 []])=some ():=rfl;have a1:aP 9 (cell (.agg [.rs 0 []]) 0)=some []:=rfl;have b1:aP 9 (cell (fP []) 0)=some []:=rfl;simp only[bB,kE,gw,gx,gy,gz,gA,gB,gC,gD,gE,gF,pJ,qt,qu,qv,qw,qx,qy,qz,qA,qB,qC,a0,a1,jA,b1,U]
theorem nil_prefix(hN:N.Ok):cC [N.pv,q.pv,.agg [.rs 0 []]]=cC [N.pv,q.pv,fP []]:=by have a0:asAgg 1 (.agg [.rs 0 []])=some ():=rfl;have a1:aP 9 (cell (.agg [.rs 0 []]) 0)=some []:=rfl;have b1:aP 9 (cell (fP []) 0)=some []:=rfl;simp only[cC,mo,gw,gx,gy,gz,gA,gB,gC,gD,gE,gF,pJ,qt,qu,qv,qw,qx,qy,qz,qA,qB,qC,a0,a1,jA,b1,U]
theorem aaF(h:jI N)(hc:oz N q=0){p:PV}(hp:Good N q p):∃l:List aT,bB [N.pv,q.pv,.agg [cell p 0]]=some (.bu [.int .i64 0,.int .i64 0])∧cC [N.pv,q.pv,.agg [cell p 0]]=some (.int .i64 (l.length:Int))∧aP 9 (cell p 0)=some (l.map aT.pv):=by
 rcases hp with⟨rfl,hd⟩|⟨l,rfl,l0,l9,lo,hr⟩
 ·refine⟨[],?_,?_,rfl⟩
  ·show bB [N.pv,q.pv,.agg [.rs 0 []]]=_;rw[U4 h.ok,Bo h.ok h.paths (by simp) (by simp)];unfold lG;rw[BK hc,BK (show([]:List aT).length=0 from rfl),IN (show¬(q.src !=q.dst)=true by simp[hd])]
  ·show cC [N.pv,q.pv,.agg [.rs 0 []]]=_;rw[nil_prefix h.ok,Gq h.ok h.paths (by simp),BK hc];rfl
 ·have hz:=Mm.1 hr;have cY:¬l.length=0:=by omega
  have h2:=hz.2;rw[IN cY]at h2;refine⟨l,?_,?_,j0 l⟩
  ·rw[jE,Bo h.ok h.paths (by omega) lo];unfold lG;rw[BK hc,IN cY,BK h2.1,BK h2.2]
  ·rw[jE,Gq h.ok h.paths (show l.length≤maxLen by unfold maxLen;omega),BK hc];have:Bl N q l=l.length:=by
    obtain⟨_,b,c,d⟩:=Gf (cn N q l) l.length 0;have hp:=Au.1 h2.1;unfold Bl;by_cases cd:Hl (cn N q l) l.length 0<0+l.length
    ·exact absurd (hp _ (by omega)) (c cd)
    ·omega
   rw[this]
theorem GD(N:ab)(q:gZ)(hN:N.Ok)(U1:q.Ok):dc [N.pv,q.pv]=some (.bool true):=by
 obtain⟨b,hb,ZZ⟩:=U3 hN;simp only[dc,ic,gw,gx,gy,gz,gA,gB,gC,gD,gE,gF,pJ,qt,qu,qv,qw,qx,qy,qz,qA,qB,qC,U,jj,vX,hb,aB,aY];cases b with
 |false=>simp[Bp,U,aB]
 |true=>
  obtain⟨hv,hs⟩:=ZZ rfl;by_cases h3:q.bQ>3
  ·rw[show decide (q.bQ>3)=true by simpa using h3];simp[Bp,U,aB]
  ·rw[show decide (q.bQ>3)=false by simpa using h3];simp only[ajx,Bool.or_self,cond_false,XA N q hN hv.paths,U,aI];by_cases hc:oz N q=0
   ·have hq:=Tf (Kg hN hv.paths hc).2;obtain⟨o,ho,hol,hg⟩:=aaE hv hs U1 hq (by omega);rw[IN (by simp[hc]),ho];simp only[U,aS];refine kJ (fun k(_:Unit)=>(o,(o.length:Int),(k:Int),N.stops.map Stop.pv,N.aj.map ay.pv,N.runs.map da.pv,N.au.map ba.pv,N.paths.map Path.pv,N.aL.map aA.pv,N.bk,N.within,N.cap,q.src,q.dst,q.time,q.back,q.bQ,q.walk,q.free,q.qq,q.bK,q.vW,())) (fun _ _=>some (PV.bool true)) o.length (fun k hk e rec cA=>?_) (fun e rec=>?_) (by unfold rounds;omega) () rfl
    ·obtain⟨l,g1,g2,g3⟩:=aaF hv hc (hg _ (ajz hk));unfold fL;dsimp only;rw[BK (by simp;omega),aW,AI hk];simp only[U,jj,vX,g1,g2,g3,t2,ajE,ajD,aI,OF,ag (show k<9223372036854775807 by omega)];have hx:((l.length:Int) !=(l.length:Int))=false:=by simp
     simp only[hx,show((0:Int) !=0)=false from rfl,cond_false,U,By,abG];exact cA ()
    ·unfold fL;dsimp only;rw[IN (by simp),Bp];rfl
   ·rw[BK (by simpa using hc),Bp];rfl
end
end Go.Ab.Tt
