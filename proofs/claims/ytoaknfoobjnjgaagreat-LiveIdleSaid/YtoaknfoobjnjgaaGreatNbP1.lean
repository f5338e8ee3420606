import Derived.Test.YtoaknfoobjnjgaaGreatNkP2
import Derived.Test.YtoaknfoobjnjgaaGreatRnP2
set_option linter.all false
namespace Go.Ab.Nw
set_option maxRecDepth 100000
variable{i:Nat}
theorem xI{inf n j:Nat}{E:List Ed}(hE:∀y∈E,y.f<n∧y.t<n)(hi:i<n)(hj:j<n):dk n (start inf E) n i j≤inf∧(dk n (start inf E) n i j<inf→iY (ew E) i j (dk n (start inf E) n i j))∧∀L,iY (ew E) i j L→dk n (start inf E) n i j≤L:=by have hd:=(B4 (n:=n) (inf:=inf) E).rounds n (anz _);refine⟨hd.fw.top i j hi hj,hd.fw.real i j hi hj,fun L hL=>?_⟩;obtain⟨C,c1,c2⟩:=hL.via (n:=n) (fun a b c h=>(hE _ h).1);exact anW (hd.low i j hi hj C c2) c1
theorem Zb{w w':Nat→Nat→Nat→Prop}(h:∀i j c,w i j c→iY w' i j c){j L:Nat}(hw:iY w i j L):iY w' i j L:=by
 induction hw with
 |ze e=>exact h _ _ _ e
 |snoc _ e ih=>exact ih.join (h _ _ _ e)
theorem Zc{inf n M:Nat}{E E':List Ed}(hM:M<inf)(hE:∀y∈E,y.f<n∧y.t<n)(hE':∀y∈E',y.f<n∧y.t<n)(h1:∀y∈E',iY (ew E) y.f y.t y.c){j:Nat}(hi:i<n)(hj:j<n)(h2:dk n (start inf E) n i j≤M→(⟨i,j,dk n (start inf E) n i j⟩:Ed)∈E'):dk n (start inf E') n i j=dk n (start inf E) n i j∨(M<dk n (start inf E) n i j∧M<dk n (start inf E') n i j):=by
 obtain⟨a1,a2,a3⟩:=xI (inf:=inf) hE hi hj;obtain⟨b1,b2,b3⟩:=xI (inf:=inf) hE' hi hj;have hle:dk n (start inf E) n i j≤dk n (start inf E') n i j:=by
  by_cases h:dk n (start inf E') n i j<inf
  ·exact a3 _ (Zb (fun a b c hc=>h1 _ hc) (b2 h))
  omega
 by_cases h:dk n (start inf E) n i j≤M
 ·have:=b3 _ (.ze (h2 h));omega
 omega
theorem afU{w f:Int}{k:Nat}{e:List PV}(h:e∈ON w f i k):i≠k∧w≤14400∧((e=Mh i k w (f==w))∨(e=Mh i k f true∧w<f∧f≤14400)):=by unfold ON at h;grind
theorem Zd{w f w' f':Int}(hw:w'=w∨(14400<w∧14400<w'))(hf:f'=f∨(14400<f∧14400<f'))(i k:Nat):ON w' f' i k=ON w f i k:=by
 unfold ON;by_cases h:i=k∨w>14400
 ·grind
 ·rw[IT h,IT (by omega)];have hw':w'=w:=by omega
  subst hw';rcases hf with rfl|hf
  ·rfl
  ·rw[IT (by omega),IT (by omega)];have e1:(f'==w')=false:=by grind
   have e2:(f==w')=false:=by grind
   rw[e1,e2]
end Go.Ab.Nw
namespace Go.Ab.Tt
theorem zn{A B:Type}[DecidableEq B]{l:List A}{f:A→B}(h:l.Pairwise fun a b=>f a≠f b){k:Nat}(hk:k<l.length):f l[k]∉(l.map f).take k:=by
 rw[anI];rintro⟨j,hj⟩;have hjk:j<k:=by grind
 rw[aoO hjk,AT,ta (by omega)]at hj;exact an8.1 h j k (by omega) hk hjk (by simpa using hj)
section
variable {l:List Path} {n:Nat}
variable{W F:Nat→Nat→Int}
theorem H4{p:Path}(h:p∈(Nw.yF n W F).map sy):∃i k,i<n∧k<n∧i≠k∧W i k≤14400∧(p=⟨i,k,W i k,F i k==W i k⟩∨(p=⟨i,k,F i k,true⟩∧W i k<F i k∧F i k≤14400)):=by
 obtain⟨e,he,rfl⟩:=anG.1 h;obtain⟨i,hi,he⟩:=an3.1 he;obtain⟨k,hk,he⟩:=an3.1 he;obtain⟨h1,h2,h3⟩:=Nw.afU he;refine⟨i,k,an0.1 hi,an0.1 hk,h1,h2,?_⟩;rcases h3 with rfl|⟨rfl,h3⟩
 ·exact .inl rfl
 ·exact .inr ⟨rfl,h3⟩
variable{i k:Nat}
theorem OO(hi:i<n)(hk:k<n)(I9:i≠k)(hW:W i k≤14400):(⟨i,k,W i k,F i k==W i k⟩:Path)∈(Nw.yF n W F).map sy∧(W i k<F i k→F i k≤14400→(⟨i,k,F i k,true⟩:Path)∈(Nw.yF n W F).map sy):=by
 have ob:∀e∈Nw.ON (W i k) (F i k) i k,e∈Nw.yF n W F:=fun e he=>an3.2 ⟨i,an0.2 hi,an3.2 ⟨k,an0.2 hk,he⟩⟩;have hit:Nw.ON (W i k) (F i k) i k=Nw.Mh i k (W i k) (F i k==W i k)::(if F i k>W i k∧F i k≤14400 then[Nw.Mh i k (F i k) true]else[]):=by simp_all[Nw.ON,IT]
 refine⟨anG.2 ⟨_,ob (Nw.Mh i k (W i k) (F i k==W i k)) (by rw[hit];simp),rfl⟩,fun h1 h2=>anG.2 ⟨_,ob (Nw.Mh i k (F i k) true) (by simp_all),rfl⟩⟩
theorem oU{l:List Path}{fr:Bool}{y:Nw.Ed}:y∈Nw.counted fr (l.map toFp)↔∃p∈l,(fr=true→p.free=true)∧y=⟨p.a.toNat,p.b.toNat,p.cA.toNat⟩:=by
 unfold Nw.counted;simp only[anG,anP];constructor
 ·rintro⟨q,⟨⟨p,hp,rfl⟩,hf⟩,rfl⟩;exact⟨p,hp,fun h=>by simpa[h,toFp]using hf,rfl⟩
 ·rintro⟨p,hp,hf,rfl⟩;refine⟨toFp p,⟨⟨p,hp,rfl⟩,?_⟩,rfl⟩;cases fr with
  |false=>rfl
  |true=>simp[toFp,hf rfl]
theorem tJ(h:Sound l n)(fr:Bool):∀y∈Nw.counted fr (l.map toFp),y.f<n∧y.t<n∧1≤y.c:=by intro y hy;obtain⟨p,hp,_,rfl⟩:=oU.1 hy;have:=h p hp;grind
theorem Ze(h:Sound l n)(fr:Bool)(hi:i<n)(hk:k<n):1≤Nw.fE n (l.map toFp) fr i k:=by
 obtain⟨a1,a2,a3⟩:=Nw.xI (inf:=Nw.rA) (fun y hy=>⟨(tJ h fr y hy).1,(tJ h fr y hy).2.1⟩) hi hk;unfold Nw.fE;by_cases bK:Nw.dk n (Nw.start Nw.rA (Nw.counted fr (l.map toFp))) n i k<Nw.rA
 ·have:=(a2 bK).pos fun a b c hc=>(tJ h fr _ hc).2.2;omega
 grind
theorem adl(h:Sound l n)(hi:i<n)(hk:k<n):Nw.fE n (l.map toFp) false i k≤Nw.fE n (l.map toFp) true i k:=by
 obtain⟨a1,a2,a3⟩:=Nw.xI (inf:=Nw.rA) (fun y hy=>⟨(tJ h false y hy).1,(tJ h false y hy).2.1⟩) hi hk;obtain⟨b1,b2,b3⟩:=Nw.xI (inf:=Nw.rA) (fun y hy=>⟨(tJ h true y hy).1,(tJ h true y hy).2.1⟩) hi hk;unfold Nw.fE;by_cases bK:Nw.dk n (Nw.start Nw.rA (Nw.counted true (l.map toFp))) n i k<Nw.rA
 ·have:=a3 _ ((b2 bK).mono fun a b c hc=>by obtain⟨p,hp,_,e⟩:=oU.1 hc;exact oU.2 ⟨p,hp,(fun h=>by cases h),e⟩);omega
 omega
theorem xH(h:Sound l n):Sound (dm l n) n:=by intro p hp;obtain⟨i,k,hi,hk,I9,hW,hp⟩:=H4 hp;have h1:=Ze h false hi hk;grind
theorem Rs(h:Sound l n)(fr:Bool)(hi:i<n)(hk:k<n)(I9:i≠k):Nw.fE n ((dm l n).map toFp) fr i k=Nw.fE n (l.map toFp) fr i k∨(14400<Nw.fE n (l.map toFp) fr i k∧14400<Nw.fE n ((dm l n).map toFp) fr i k):=by
 have ah0:Nw.rA=1099511627776:=rfl;have hE:∀fr,∀y∈Nw.counted fr (l.map toFp),y.f<n∧y.t<n:=fun fr y hy=>⟨(tJ h fr y hy).1,(tJ h fr y hy).2.1⟩;have hE':∀fr,∀y∈Nw.counted fr ((dm l n).map toFp),y.f<n∧y.t<n:=fun fr y hy=>⟨(tJ (xH h) fr y hy).1,(tJ (xH h) fr y hy).2.1⟩;have wT:∀i k,i<n→k<n→Nw.fE n (l.map toFp) true i k≤14400→Nw.iY (Nw.ew (Nw.counted true (l.map toFp))) i k (Nw.fE n (l.map toFp) true i k).toNat:=fun i k hi hk hle=>by obtain⟨b1,b2,b3⟩:=Nw.xI (inf:=Nw.rA) (hE true) hi hk;grind [Nw.fE,Int.toNat_natCast]
 have wF:∀i k,i<n→k<n→Nw.fE n (l.map toFp) false i k≤14400→Nw.iY (Nw.ew (Nw.counted false (l.map toFp))) i k (Nw.fE n (l.map toFp) false i k).toNat:=fun i k hi hk hle=>by obtain⟨b1,b2,b3⟩:=Nw.xI (inf:=Nw.rA) (hE false) hi hk;grind [Nw.fE,Int.toNat_natCast]
 have sub:∀a b c,Nw.ew (Nw.counted true (l.map toFp)) a b c→Nw.ew (Nw.counted false (l.map toFp)) a b c:=fun a b c hc=>by obtain⟨p,hp,_,e⟩:=oU.1 hc;exact oU.2 ⟨p,hp,(fun h=>by cases h),e⟩
 have key:=Nw.Zc (inf:=Nw.rA) (M:=14400) (E:=Nw.counted fr (l.map toFp)) (E':=Nw.counted fr ((dm l n).map toFp)) (by omega) (hE fr) (hE' fr) (fun y hy=>by
  obtain⟨p,hp,hf,rfl⟩:=oU.1 hy;obtain⟨i,k,hi,hk,I9,hW,hp⟩:=H4 hp;rcases hp with rfl|⟨rfl,h3,h4⟩
  ·cases fr with
   |false=>exact wF i k hi hk hW
   |true=>
    have e:Nw.fE n (l.map toFp) true i k=Nw.fE n (l.map toFp) false i k:=by simpa using hf rfl
    have:=wT i k hi hk (by omega);simp_all
  ·cases fr with
   |true=>exact wT i k hi hk h4
   |false=>exact(wT i k hi hk h4).mono sub) hi hk (fun hle=>by
  have ah1:Nw.fE n (l.map toFp) fr i k≤14400:=by unfold Nw.fE;omega
  have e:Nw.dk n (Nw.start Nw.rA (Nw.counted fr (l.map toFp))) n i k=(Nw.fE n (l.map toFp) fr i k).toNat:=by rfl
  rw[e];have h0:=adl h hi hk;cases fr with
  |false=>exact oU.2 ⟨_,(OO hi hk I9 ah1).1,(fun h=>by cases h),by rfl⟩
  |true=>
   have hc:=OO (W:=Nw.fE n (l.map toFp) false) (F:=Nw.fE n (l.map toFp) true) hi hk I9 (by omega);by_cases heq:Nw.fE n (l.map toFp) true i k=Nw.fE n (l.map toFp) false i k
   ·exact oU.2 ⟨_,hc.1,fun _=>by simp[heq],by simp_all⟩
   ·exact oU.2 ⟨_,hc.2 (by omega) ah1,fun _=>rfl,by rfl⟩)
 grind [Nw.fE]
theorem OP(h:Sound l n):dm (dm l n) n=dm l n:=by
 show(Nw.yF n (Nw.fE n ((dm l n).map toFp) false) (Nw.fE n ((dm l n).map toFp) true)).map sy=(Nw.yF n (Nw.fE n (l.map toFp) false) (Nw.fE n (l.map toFp) true)).map sy;congr 1;unfold Nw.yF;rw[aoP,aoP];congr 1;apply an2;intro i hi;rw[aoP,aoP];congr 1;apply an2;intro k hk;have hi:=an0.1 hi;have hk:=an0.1 hk;by_cases I9:i=k
 ·simp_all[Nw.ON,BY]
 grind [Nw.Zd,Rs]
theorem VK(l:List Path)(n:Nat):(dm l n).Pairwise fun a b=>bE a≠bE b:=by
 unfold dm;rw[aqe];have key:∀{i k:Nat}{w f:Int}{e:List PV},e∈Nw.ON w f i k→∃s b,sy e=⟨i,k,s,b⟩:=fun h=>by obtain⟨s,b,rfl⟩:=Nw.Ax h;exact⟨s,b,rfl⟩
 unfold Nw.yF;rw[aoD];refine⟨fun i _=>?_,List.pairwise_lt_range.imp fun{i i'}UG x hx y hy=>?_⟩
 ·rw[aoD];refine⟨fun k _=>?_,List.pairwise_lt_range.imp fun{k k'}yJ x hx y hy=>?_⟩
  ·unfold Nw.ON;split
   ·simp
   ·split
    ·rename_i hf;simp only[aos,aoq,forall_eq,aqq,false_implies,implies_true,List.Pairwise.nil,aqX];intro h;have:(Nw.fE n (l.map toFp) true i k==Nw.fE n (l.map toFp) false i k)=true:=by simp_all[bE,sy,Nw.Mh,T0]
     simp_all
    simp
  ·obtain⟨s,b,e⟩:=key hx;obtain⟨s',b',e'⟩:=key hy;rw[e,e'];simp only[bE,aqP,T0];omega
 ·obtain⟨k,_,hx⟩:=an3.1 hx;obtain⟨k',_,hy⟩:=an3.1 hy;obtain⟨s,b,e⟩:=key hx;obtain⟨s',b',e'⟩:=key hy;rw[e,e'];simp only[bE,aqP,T0];omega
theorem adm(l:List Path)(n:Nat):∀p∈dm l n,p.a≠p.b:=by intro p hp;obtain⟨i,k,hi,hk,I9,hW,hp⟩:=H4 hp;grind
theorem Zf(h:Sound l n):(cC (dm l n) n).2=0:=by
 have hz:(bM (dp (dm l n) n) (dm l n).length).2=0:=(im _ _).2 fun k hk=>by unfold dp;rw[ta hk];simp only;have hs:=xH h _ (agZ hk);have cy:=adm l n _ (agZ hk);simp_all[IT,anH,te,zn,VK]
 simp_all[cC,BY,qI,OP]
end
section
variable {T:ao} {l:List aX}
structure Mi(n:Nat)(cs:List ai):Prop where
 two:2≤cs.length
 most:cs.length≤32
 call:∀(k:Nat)(c:ai),cs[k]?=some c→0≤c.stop∧c.stop<(n:Int)∧0≤c.arr∧c.arr≤c.dep∧c.dep≤172800
 step:∀(k:Nat)(c d:ai),cs[k]?=some c→cs[k+1]?=some d→c.dep≤d.arr∧c.stop≠d.stop
theorem Rt(hV:dE T){i:Nat}{x:bY}(hx:T.aj[i]?=some x){s:Int}(hs:s∈instI T.bm i):Mi T.stops.length (cd x.calls s):=by
 have ht:=qm hV hx;have he:=Ru hV hx hs;have h2:=ht.two;unfold cd;rw[BY he];obtain⟨c0,cs,hc⟩:∃c0 cs,x.calls=c0::cs:=by
  cases hc:x.calls with
  |nil=>simp_all
  |cons c0 cs=>simp
 have XS:(x.calls.map ai.dep).headD 0=c0.dep:=by rw[hc];rfl
 rw[XS];have hb:=(H5 c0 cs s).1 (by rw[←hc];omega);rw[←hc]at hb;refine⟨by simp_all,by rw[By];exact ht.most,fun k c h=>?_,fun k c d h h'=>?_⟩
 ·rw[AT]at h;obtain⟨y,hy,rfl⟩:=ae0.1 h;have h1:=ht.call k y hy;grind [Ni]
 ·rw[AT]at h h';obtain⟨y,hy,rfl⟩:=ae0.1 h;obtain⟨z,hz,rfl⟩:=ae0.1 h';have h1:=ht.step k y z hy hz;simp only[Ni];omega
theorem Zg{c:ai}{p:Option ai}{n lo hi:Int}(h1:0≤c.stop)(h2:c.stop<n)(h3:lo≤c.arr)(h4:c.arr≤c.dep)(h5:c.dep≤hi)(h6:∀q,p=some q→q.dep≤c.arr∧q.stop≠c.stop):kr c p n lo hi=0:=by unfold kr;grind
theorem VL{n:Nat}{cs:List ai}(h:Mi n cs){d:Int}(hd:rz d=true):(bD (cs.map (B2 (jM d))) n 0 3155932800).2=0:=by
 obtain⟨e,h0,h1⟩:=Me hd;have h2:=h.two;have h3:=h.most;unfold bD;rw[IT (by grind)];refine(im _ _).2 fun k hk=>?_;rw[By]at hk;unfold mD;rw[AT,ta hk];simp only[No];have hc:=h.call k _ (ta hk);have w0:(B2 (jM d) cs[k]).stop=cs[k].stop:=rfl;have w1:(B2 (jM d) cs[k]).arr=cs[k].arr+jM d:=bp (by omega) (by omega);have w2:(B2 (jM d) cs[k]).dep=cs[k].dep+jM d:=bp (by omega) (by omega);refine Zg (by omega) (by omega) (by omega) (by omega) (by omega) fun q hq=>?_;cases k with
 |zero=>cases hq
 |succ j=>
  have hj:j<cs.length:=by omega
  have hs:=h.step j _ _ (ta hj) (ta hk);have hcj:=h.call j _ (ta hj);have w3:(B2 (jM d) cs[j]).dep=cs[j].dep+jM d:=bp (by omega) (by omega);have w4:(B2 (jM d) cs[j]).stop=cs[j].stop:=rfl;have hp:ku (cs.map (B2 (jM d))) (j+1)=some (B2 (jM d) cs[j]):=by show(cs.map _)[j]?=_;simp_all
  simp_all
theorem Ky(hV:dE T){i:Nat}{x:bY}(hx:T.aj[i]?=some x):dV x.id=true∧0≤x.aY∧x.aY<(T.ae.length:Int):=by
 have h4:(sA T.aj T.stops.length T.ae.length T.gR.length).2=0:=hV 4 (by omega);unfold sA at h4;split at h4
 ·omega
 ·have he:=j3 _ _ h4 i (IN.1 hx).1;unfold Gc at he;grind
variable{r:aX}
theorem C7(hV:dE T)(hk:fh T r=true):rz r.day=true∧∃(i k:Nat)(x:bY)(cs:List ai),T.aj[i]?=some x∧r=fi x i r.day k cs∧Mi T.stops.length cs∧k≤(instI T.bm i).length:=by
 unfold fh at hk;rw[OF,te]at hk;obtain⟨i,x,hx,hi,hm⟩:=Gd.1 hk.2;refine⟨hk.1,?_⟩;have ht:=qm hV hx;unfold eL at hm;split at hm
 ·cases hm
 ·split at hm
  ·simp only[aoq]at hm;exact⟨i,0,x,x.calls,hx,hm,⟨ht.two,ht.most,ht.call,ht.step⟩,apM _⟩
  grind [Rt,List.getElem?_eq_getElem,List.getElem_mem]
theorem VM(hV:dE T)(hk:∀r∈l,fh T r=true)(hp:l.Pairwise fun r s=>r.key≠s.key):l.Pairwise fun r s=>bG r≠bG s:=by
 refine aom (R:=fun r s=>r.key≠s.key) (fun{r s}hr hs cy e=>cy ?_) hp;obtain⟨_,i,k,x,cs,hx,er,_⟩:=C7 hV (hk r hr);obtain⟨_,j,k',y,I6,hy,es,_⟩:=C7 hV (hk s hs);simp only[bG,T0]at e;obtain⟨e1,e2,e3⟩:=e;have hid:x.id=y.id:=by rw[er,es]at e1;exact e1
 have XC:=adn hV hx hy hid;have t1:r.aZ=i:=by rw[er];rfl
 have t2:s.aZ=j:=by rw[es];rfl
 grind [aX.key,Prod.mk.injEq]
theorem Zh(hV:dE T)(hk:∀r∈l,fh T r=true)(hp:l.Pairwise fun r s=>r.key≠s.key)(hl:l.length≤1024):(gr l T.stops.length T.ae.length).2=0:=by
 unfold gr;rw[IT (by omega)];refine(im _ _).2 fun k kh=>?_;unfold kW;rw[ta kh];simp only;obtain⟨hd,i,m,x,cs,hx,er,Jk,_⟩:=C7 hV (hk _ (agZ kh));obtain⟨m1,m2,m3⟩:=Ky hV hx;have WR:=(ry _).1 hd;have e1:l[k].id=x.id:=by rw[er];rfl
 have e2:l[k].aZ=i:=by rw[er];rfl
 have e3:l[k].inst=m:=by rw[er];rfl
 have e4:l[k].aY=x.aY:=by rw[er];rfl
 have e5:l[k].calls=cs.map (B2 (jM l[k].day)):=congrArg aX.calls er;have hc:=VL Jk hd;rw[←e5]at hc;rw[IT (by rw[e1,m1];simp),IT (by grind),IT (by grind),IT (by grind),BY hc,IT (zn (VM hV hk hp) kh)]
theorem Kz(hV:dE T){k:Nat}(hk:k<T.dn.length):T.dn[k].a≠T.dn[k].b∧T.dn[k].a∉(T.dn.map kN.a).take k∧T.dn[k].b∉(T.dn.map kN.b).take k∧T.dn[k].a∉grow (T.dn.take k) k [] T.dn[k].b:=by
 have h6:(tK T.dn T.aj T.bm).2=0:=hV 6 (by omega);obtain⟨hp,kL⟩:=Eo hV (agZ hk);obtain⟨i,j,hi,hj,I7,yD⟩:=C9 _ _ T.aj hp;have cy:T.dn[k].a≠T.dn[k].b:=by simp_all[sk,anL,anQ]
 unfold tK at h6;split at h6
 ·omega
 ·have he:=j3 _ _ h6 k hk;unfold H6 at he;grind
def Rv(x:kN):aD:=⟨x.a,0,x.b,0,true⟩
theorem VN(p:List kN)(x:kN)(v:Int):gx (p++[x]) v=(gx p v).or (if x.a=v then some x.b else none):=by unfold gx;grind
theorem OQ(p:List kN):∀n pre last y,y∈pre++[last]→y∈grow p n pre last
 |0,pre,last,y,h=>h
 |n+1,pre,last,y,h=>by
  unfold grow;split
  ·exact h
  ·split
   ·exact h
   ·exact OQ p n _ _ y (aqI _ h)
theorem Ts(p:List kN)(ρ:Int→Nat)(hρ:∀v w,gx p v=some w→ρ w<ρ v):∀n pre last t a,(∀y∈pre++[last],ρ last≤ρ y)→t≤n→it (gx p) t last=some a→a∈grow p n pre last
 |n,pre,last,0,a,_,_,h=>by simp_all[it,OQ]
 |0,_,_,t+1,_,_,h,_=>by omega
 |n+1,pre,last,t+1,a,Hx,ht,h=>by
  obtain⟨m,hm,h⟩:=AI.1 (show(gx p last).bind (it (gx p) t)=some a from h);have bK:=hρ _ _ hm;have hnm:m∉pre++[last]:=fun ob=>by grind
  unfold grow;rw[hm];simp only;rw[IT hnm];refine Ts p ρ hρ n (pre++[last]) m t a (fun y hy=>?_) (by omega) h;grind
theorem Zi(hV:dE T):∀k,k≤T.dn.length→(∀v,nx ((T.dn.take k).map Rv) v=gx (T.dn.take k) v)∧zo (nx ((T.dn.take k).map Rv))
 |0,_=>⟨fun v=>rfl,H7⟩
 |k+1,hk=>by
  obtain⟨h1,h2⟩:=Zi hV k (by omega);obtain⟨f1,f2,f3,f4⟩:=Kz hV (show k<T.dn.length by omega);have Bg:gx (T.dn.take k) T.dn[k].a=none:=by
   unfold gx;rw[Option.map_eq_none_iff,apj];intro y hy;have:y.a∈(T.dn.map kN.a).take k:=by rw[←aps];grind
   grind
  rw[anw (by omega),anU];refine⟨fun v=>?_,Fm h2 (Rv T.dn[k]) (.inr ⟨f1,by rw[h1];exact Bg,?_⟩)⟩
  ·grind [nx,Rv,sB,VN]
  ·obtain⟨ρ,hρ⟩:=h2;have hlen:((T.dn.take k).map Rv).length=k:=by simp;omega
   have hf:nx ((T.dn.take k).map Rv)=gx (T.dn.take k):=funext h1;unfold l7;rw[aoK];intro t ht;have ht:=an0.1 ht;simp only[te];intro hit;have hle:t+1≤k:=by have:=H8 ⟨ρ,hρ⟩ ((T.dn.take k).map kN.a) (fun v w Tu=>by obtain⟨y,hy,_,hya,_⟩:=H9 Tu;obtain⟨z,hz,rfl⟩:=anG.1 hy;exact anG.2 ⟨z,hz,hya⟩) (t+1) (Rv T.dn[k]).b (by rw[hit];simp);simp_all
   rw[hf]at hit hρ;exact f4 (Ts _ ρ hρ k [] T.dn[k].b (t+1) T.dn[k].a (fun y hy=>by simp_all) hle hit)
theorem Rw(hV:dE T):∃ρ:Int→Nat,∀v w,gx T.dn v=some w→ρ w<ρ v:=by obtain⟨h1,ρ,hρ⟩:=Zi hV T.dn.length (anz _);rw[aoe]at h1 hρ;exact⟨ρ,fun v w h=>hρ v w (by rw[h1];omega)⟩
theorem ado(hV:dE T){s t n:Int}(hs:gx T.dn s=some n)(ht:gx T.dn t=some n):s=t:=by
 have key:∀{v:Int},gx T.dn v=some n→∃i,∃h:i<T.dn.length,T.dn[i].a=v∧T.dn[i].b=n:=fun{v}h=>by unfold gx at h;obtain⟨y,hy,hb⟩:=ae0.1 h;obtain⟨i,hi,rfl⟩:=apb (ao2 hy);grind
 obtain⟨i,hi,ia,ib⟩:=key hs;obtain⟨j,hj,ja,jb⟩:=key ht;have no:∀{i j:Nat}(hi:i<T.dn.length)(hj:j<T.dn.length),T.dn[i].b=T.dn[j].b→¬i<j:=fun{i j}hi hj e h=>(Kz hV hj).2.2.1 (by rw[anI];exact⟨i,by simp_all⟩);grind
variable{x:aD}
theorem Ep{a:Nat}(hx:fp T l a r=some x):∃(n:Int)(b:Nat)(q:aX),gx T.dn r.aZ=some n∧x.b=b∧l[b]?=some q∧q.key=(n,r.day,0):=by unfold fp at hx;obtain⟨n,hn,hx⟩:=AI.1 hx;obtain⟨b,hb,hx⟩:=ae0.1 hx;obtain⟨_,q,hq,Vh⟩:=Da hb;grind
theorem Mj(hV:dE T)(hk:∀r∈l,fh T r=true){m:Nat}(hx:x∈ba T l m)(hs:x.stay=true):∃(a:Nat)(r:aX),l[a]?=some r∧x.a=a∧fp T l a r=some x:=by
 obtain⟨a,_,hx⟩:=an3.1 hx;unfold oV at hx;cases ha:l[a]? with
 |none=>rw[ha]at hx;cases hx
 |some r=>
  rw[ha]at hx;simp only[kv,anO,aph]at hx;rcases hx with hx|⟨g,hg,hx⟩
  ·cases gw:fp T l a r with
   |none=>rw[gw]at hx;cases hx
   |some z=>rw[gw]at hx;simp only[ap6,aoq]at hx;subst hx;exact⟨a,r,ha,(Ge hV hk ha gw).2.1,gw⟩
  ·exfalso;unfold wL at hx;split at hx
   ·obtain⟨b,_,hx⟩:=AI.1 hx;grind
   ·cases hx
theorem VO(hV:dE T)(hk:fh T r=true){n:Int}(hn:gx T.dn r.aZ=some n):r.inst=0:=by
 unfold gx at hn;obtain⟨y,hy,hyb⟩:=ae0.1 hn;have hya:y.a=r.aZ:=by grind
 obtain⟨_,kL⟩:=Eo hV (ao2 hy);have hra:B5 T.bm y.a=false:=by simp_all[mE,anL]
 obtain⟨_,i,x,_,_,e⟩:=B6 hk (by rw[←hya];omega);rw[e];rfl
theorem adp(hp:l.Pairwise fun r s=>r.key≠s.key){a b:Nat}{s:aX}(ha:l[a]?=some r)(hb:l[b]?=some s)(h:r.key=s.key):a=b:=by obtain⟨YZ,ha2⟩:=IN.1 ha;obtain⟨SB,td⟩:=IN.1 hb;have h1:¬a<b:=fun tt=>an8.1 hp a b YZ SB tt (by rw[ha2,td,h]);have h2:¬b<a:=fun tt=>an8.1 hp b a SB YZ tt (by rw[ha2,td,h]);omega
theorem VP(hV:dE T)(hk:∀r∈l,fh T r=true)(hp:l.Pairwise fun r s=>r.key≠s.key){m:Nat}{y:aD}(hx:x∈ba T l m)(hy:y∈ba T l m)(GX:x.stay=true)(WO:y.stay=true)(h:x.a=y.a∨x.b=y.b):x=y:=by
 obtain⟨a,r,ha,hxa,gw⟩:=Mj hV hk hx GX;obtain⟨a',r',ha',hya,alZ⟩:=Mj hV hk hy WO;have haa:a=a':=by
  rcases h with h|h
  ·omega
  ·obtain⟨n,b,q,hn,hb,hq,Vh⟩:=Ep gw;obtain⟨n',b',q',Qg,j4,F9,ann⟩:=Ep alZ;have hbb:b=b':=by omega
   grind [Prod.mk.injEq,ado,adp,aX.key,VO,List.mem_of_getElem?]
 simp_all
theorem Tv{f:Int→Option Int}{ρ:Int→Nat}(hf:∀v w,f v=some w→ρ w<ρ v):∀m v w,it f (m+1) v=some w→ρ w<ρ v
 |0,v,w,h=>by simp_all[it]
 |m+1,v,w,h=>by obtain⟨u,hu,h⟩:=AI.1 (show(f v).bind (it f (m+1))=some w from h);have:=Tv hf m u w h;grind
theorem VQ(hV:dE T)(hk:∀r∈l,fh T r=true)(hp:l.Pairwise fun r s=>r.key≠s.key)(hl:(ba T l l.length).length≤1024):(gS l (ba T l l.length)).2=0:=by
 unfold gS;rw[IT (by omega)];refine(im _ _).2 fun k kh=>?_;have aeG:=Zj hV hk l.length;generalize hL:ba T l l.length=L at*;have bu:∀y∈L,y∈ba T l l.length:=fun y hy=>by rw[hL];omega
 unfold cY;rw[ta kh];simp only;obtain⟨a,b,r,q,i,j,c,d,xa,xb,tt,la,lb,ah2,xi,xj,rc,qd,amZ,am0,gw⟩:=(Tr hV hk (bu _ (agZ kh))).ends;have YZ:=(IN.1 la).1;have SB:=(IN.1 lb).1;have hi1:=(IN.1 rc).1;have hj1:=(IN.1 qd).1;have ca:aI l L[k].a=r.calls:=by unfold aI;simp_all
 have cb:aI l L[k].b=q.calls:=by unfold aI;simp_all
 have sa:eG r.calls L[k].ac=c.stop:=by unfold eG;simp_all
 have sb:eG q.calls L[k].bc=d.stop:=by unfold eG;simp_all
 have h1:yG L[k] l.length=false:=by unfold yG;grind
 have h2:wM L[k] r.calls.length q.calls.length=false:=by simp_all[wM,anL,aop,OF,te]
 have htk:∀y∈L.take k,∃j,∃h:j<k,∃h':j<L.length,y=L[j]:=fun y hy=>by obtain⟨j,hj,rfl⟩:=apb hy;grind
 have DN:L[k].stay=true→∀y∈L.take k,y.stay=true→¬(L[k].a=y.a∨L[k].b=y.b):=fun hs y hy WO hor=>by obtain⟨j,hj,yD,rfl⟩:=htk y hy;have e:=VP hV hk hp (bu _ (agZ kh)) (bu _ (agZ yD)) hs WO hor;exact an8.1 aeG j k yD kh hj (by rw[e])
 have h3:sl (L.take k) L[k] r.calls.length=false:=by
  unfold sl;cases hs:L[k].stay with
  |false=>rfl
  |true=>
   obtain⟨hs1,hs2⟩:=gw hs;have n1:(nx (L.take k) L[k].a).isSome=false:=by rw[KA,aoK];grind
   have n2:decide (L[k].b∈mn (L.take k))=false:=by rw[OR,aoK];grind
   have n3:l7 (L.take k) L[k].b L[k].a ((L.take k).length+1)=false:=by
    obtain⟨ρ,hρ⟩:=Rw hV;have tr:∀y∈L,y.stay=true→ρ (((l[y.b.toNat]?).map aX.aZ).getD 0)<ρ (((l[y.a.toNat]?).map aX.aZ).getD 0):=fun y hy WO=>by obtain⟨a,r,ha,hya,gw⟩:=Mj hV hk (bu y hy) WO;obtain⟨n,b,q,hn,hb,hq,Vh⟩:=Ep gw;rw[hya,hb,agY,agY,ha,hq];have:q.aZ=n:=congrArg (fun z=>z.1) Vh;simp_all
    unfold l7;rw[aoK];intro t _;simp only[te];intro hit;have h1:=Tv (ρ:=fun v=>ρ (((l[v.toNat]?).map aX.aZ).getD 0)) (fun v w Tu=>by grind [H9,List.mem_of_mem_take]) t _ _ hit;grind
   grind
 rw[h1,ca,cb,h2,sa,sb,h3,IT (by simp),IT (by simp),IT (by omega),IT (by simp),IT (zn (f:=cv) (aeG.imp fun h=>h) kh)]
def xG(T:ao)(l:List aX):ay:=⟨T.stops,T.ae,l,ba T l l.length,dm T.paths T.stops.length,T.av,T.aQ,T.within,T.cap⟩
theorem VJ(hV:dE T)(hk:∀r∈l,fh T r=true)(hp:l.Pairwise fun r s=>r.key≠s.key)(hl:l.length≤1024)(hn:(ba T l l.length).length≤1024):dZ (xG T l)=(0,0,0):=by
 have h0:(fP T.stops).2=0:=hV 0 (by omega);have h1:(ec T.ae).2=0:=hV 1 (by omega);have h8:(qH T.paths T.stops.length).2=0:=hV 8 (by omega);have h9:(cX T.av T.aQ T.within T.cap).2=0:=hV 9 (by omega);have hs:Sound T.paths T.stops.length:=by grind [qH,C6]
 simp_all[dZ,xG,BY,Zh,VQ,Zf]
end
end Go.Ab.Tt
