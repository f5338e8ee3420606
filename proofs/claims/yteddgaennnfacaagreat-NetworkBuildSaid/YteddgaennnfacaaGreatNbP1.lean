import Derived.Test.YteddgaennnfacaaGreatNkP2
import Derived.Test.YteddgaennnfacaaGreatRnP2
namespace Go.Ab.Nw
set_option maxRecDepth 100000
set_option linter.all false
variable{i:Nat}
theorem yJ{inf n j:Nat}{E:List Ed}(hE:∀y∈E,y.f<n∧y.t<n)(hi:i<n)(hj:j<n):dk n (start inf E) n i j≤inf∧(dk n (start inf E) n i j<inf→iI (ew E) i j (dk n (start inf E) n i j))∧∀L,iI (ew E) i j L→dk n (start inf E) n i j≤L:=by have hd:=(yK (n:=n) (inf:=inf) E).rounds n (alz _);refine⟨hd.fw.top i j hi hj,hd.fw.real i j hi hj,fun L hL=>?_⟩;obtain⟨C,c1,c2⟩:=hL.via (n:=n) (fun a b c h=>(hE _ h).1);exact alH (hd.low i j hi hj C c2) c1
theorem Yn{w w':Nat→Nat→Nat→Prop}(h:∀i j c,w i j c→iI w' i j c){j L:Nat}(hw:iI w i j L):iI w' i j L:=by
 induction hw with
 |Fq e=>exact h _ _ _ e
 |snoc _ e ih=>exact ih.join (h _ _ _ e)
theorem Yo{inf n M:Nat}{E E':List Ed}(hM:M<inf)(hE:∀y∈E,y.f<n∧y.t<n)(hE':∀y∈E',y.f<n∧y.t<n)(h1:∀y∈E',iI (ew E) y.f y.t y.c){j:Nat}(hi:i<n)(hj:j<n)(h2:dk n (start inf E) n i j≤M→(⟨i,j,dk n (start inf E) n i j⟩:Ed)∈E'):dk n (start inf E') n i j=dk n (start inf E) n i j∨(M<dk n (start inf E) n i j∧M<dk n (start inf E') n i j):=by
 obtain⟨a1,a2,a3⟩:=yJ (inf:=inf) hE hi hj;obtain⟨b1,b2,b3⟩:=yJ (inf:=inf) hE' hi hj;have hle:dk n (start inf E) n i j≤dk n (start inf E') n i j:=by
  by_cases h:dk n (start inf E') n i j<inf
  ·exact a3 _ (Yn (fun a b c hc=>h1 _ hc) (b2 h))
  ·omega
 by_cases h:dk n (start inf E) n i j≤M
 ·have:=b3 _ (.Fq (h2 h));exact .inl (by omega)
 ·exact .inr (by omega)
theorem aea{w f:Int}{k:Nat}{e:List PV}(h:e∈Oe w f i k):i≠k∧w≤14400∧((e=Mi i k w (f==w))∨(e=Mi i k f true∧w<f∧f≤14400)):=by
 unfold Oe at h;split at h
 ·cases h
 ·rename_i hc;simp only[anY]at hc;rcases alq.1 h with h|h
  ·exact⟨hc.1,by omega,.inl h⟩
  ·split at h
   ·rename_i hf;exact⟨hc.1,by omega,.inr ⟨by simpa using h,by omega,hf.2⟩⟩
   ·cases h
theorem Yp{w f w' f':Int}(hw:w'=w∨(14400<w∧14400<w'))(hf:f'=f∨(14400<f∧14400<f'))(i k:Nat):Oe w' f' i k=Oe w f i k:=by
 unfold Oe;by_cases h:i=k∨w>14400
 ·rw[T0 h,T0 (by omega)]
 ·rw[acB h,acB (by omega)];have hw':w'=w:=by omega
  subst hw';rcases hf with rfl|hf
  ·rfl
  ·rw[acB (by omega),acB (by omega)];have e1:(f'==w')=false:=by rw[amK];omega
   have e2:(f==w')=false:=by rw[amK];omega
   rw[e1,e2]
end Go.Ab.Nw
namespace Go.Ab.Tt
theorem AD{A B:Type}[DecidableEq B]{l:List A}{f:A→B}(h:l.Pairwise fun a b=>f a≠f b){k:Nat}(hk:k<l.length):f l[k]∉(l.map f).take k:=by
 rw[als];rintro⟨j,hj⟩;have hjk:j<k:=by have:=(OF.1 hj).1;rw[alF]at this;omega
 rw[amj hjk,IS,AI (by omega)]at hj;exact alW.1 h j k (by omega) hk hjk (by simpa using hj)
section
variable {l:List Path} {n:Nat}
variable{W F:Nat→Nat→Int}
theorem IJ{p:Path}(h:p∈(Nw.zJ n W F).map sZ):∃i k,i<n∧k<n∧i≠k∧W i k≤14400∧(p=⟨i,k,W i k,F i k==W i k⟩∨(p=⟨i,k,F i k,true⟩∧W i k<F i k∧F i k≤14400)):=by
 obtain⟨e,he,rfl⟩:=alC.1 h;obtain⟨i,hi,he⟩:=alS.1 he;obtain⟨k,hk,he⟩:=alS.1 he;obtain⟨h1,h2,h3⟩:=Nw.aea he;refine⟨i,k,alI.1 hi,alI.1 hk,h1,h2,?_⟩;rcases h3 with rfl|⟨rfl,h3⟩
 ·exact .inl rfl
 ·exact .inr ⟨rfl,h3⟩
variable{i k:Nat}
theorem Of(hi:i<n)(hk:k<n)(K5:i≠k)(hW:W i k≤14400):(⟨i,k,W i k,F i k==W i k⟩:Path)∈(Nw.zJ n W F).map sZ∧(W i k<F i k→F i k≤14400→(⟨i,k,F i k,true⟩:Path)∈(Nw.zJ n W F).map sZ):=by
 have pV:∀e∈Nw.Oe (W i k) (F i k) i k,e∈Nw.zJ n W F:=fun e he=>alS.2 ⟨i,alI.2 hi,alS.2 ⟨k,alI.2 hk,he⟩⟩;have hit:Nw.Oe (W i k) (F i k) i k=Nw.Mi i k (W i k) (F i k==W i k)::(if F i k>W i k∧F i k≤14400 then[Nw.Mi i k (F i k) true]else[]):=by unfold Nw.Oe;rw[acB (by omega)]
 refine⟨alC.2 ⟨_,pV (Nw.Mi i k (W i k) (F i k==W i k)) (by rw[hit];simp),rfl⟩,fun h1 h2=>alC.2 ⟨_,pV (Nw.Mi i k (F i k) true) (by rw[hit,T0 ⟨h1,h2⟩];simp),rfl⟩⟩
theorem od{l:List Path}{fr:Bool}{y:Nw.Ed}:y∈Nw.counted fr (l.map toFp)↔∃p∈l,(fr=true→p.free=true)∧y=⟨p.a.toNat,p.b.toNat,p.jA.toNat⟩:=by
 unfold Nw.counted;simp only[alC,amM];constructor
 ·rintro⟨q,⟨⟨p,hp,rfl⟩,hf⟩,rfl⟩;exact⟨p,hp,fun h=>by simpa[h,toFp]using hf,rfl⟩
 ·rintro⟨p,hp,hf,rfl⟩;refine⟨toFp p,⟨⟨p,hp,rfl⟩,?_⟩,rfl⟩;cases fr with
  |false=>rfl
  |true=>simp[toFp,hf rfl]
theorem uq(h:Sound l n)(fr:Bool):∀y∈Nw.counted fr (l.map toFp),y.f<n∧y.t<n∧1≤y.c:=by intro y hy;obtain⟨p,hp,_,rfl⟩:=od.1 hy;have:=h p hp;refine⟨?_,?_,?_⟩<;>simp only<;>omega
theorem Og(h:Sound l n)(fr:Bool)(hi:i<n)(hk:k<n):1≤Nw.eE n (l.map toFp) fr i k:=by
 obtain⟨a1,a2,a3⟩:=Nw.yJ (inf:=Nw.lQ) (fun y hy=>⟨(uq h fr y hy).1,(uq h fr y hy).2.1⟩) hi hk;unfold Nw.eE;by_cases bQ:Nw.dk n (Nw.start Nw.lQ (Nw.counted fr (l.map toFp))) n i k<Nw.lQ
 ·have:=(a2 bQ).pos fun a b c hc=>(uq h fr _ hc).2.2;omega
 ·have:Nw.lQ=1099511627776:=rfl;omega
theorem abU(h:Sound l n)(hi:i<n)(hk:k<n):Nw.eE n (l.map toFp) false i k≤Nw.eE n (l.map toFp) true i k:=by
 obtain⟨a1,a2,a3⟩:=Nw.yJ (inf:=Nw.lQ) (fun y hy=>⟨(uq h false y hy).1,(uq h false y hy).2.1⟩) hi hk;obtain⟨b1,b2,b3⟩:=Nw.yJ (inf:=Nw.lQ) (fun y hy=>⟨(uq h true y hy).1,(uq h true y hy).2.1⟩) hi hk;unfold Nw.eE;by_cases bQ:Nw.dk n (Nw.start Nw.lQ (Nw.counted true (l.map toFp))) n i k<Nw.lQ
 ·have:=a3 _ ((b2 bQ).mono fun a b c hc=>by obtain⟨p,hp,_,e⟩:=od.1 hc;exact od.2 ⟨p,hp,(fun h=>by cases h),e⟩);omega
 ·omega
theorem yL(h:Sound l n):Sound (cR l n) n:=by
 intro p hp;obtain⟨i,k,hi,hk,K5,hW,hp⟩:=IJ hp;have h1:=Og h false hi hk;have h2:=Og h true hi hk;rcases hp with rfl|⟨rfl,h3,h4⟩
 ·simp only;omega
 ·simp only;omega
theorem IK(h:Sound l n)(fr:Bool)(hi:i<n)(hk:k<n)(K5:i≠k):Nw.eE n ((cR l n).map toFp) fr i k=Nw.eE n (l.map toFp) fr i k∨(14400<Nw.eE n (l.map toFp) fr i k∧14400<Nw.eE n ((cR l n).map toFp) fr i k):=by
 have agD:Nw.lQ=1099511627776:=rfl;have hE:∀fr,∀y∈Nw.counted fr (l.map toFp),y.f<n∧y.t<n:=fun fr y hy=>⟨(uq h fr y hy).1,(uq h fr y hy).2.1⟩;have hE':∀fr,∀y∈Nw.counted fr ((cR l n).map toFp),y.f<n∧y.t<n:=fun fr y hy=>⟨(uq (yL h) fr y hy).1,(uq (yL h) fr y hy).2.1⟩;have wT:∀i k,i<n→k<n→Nw.eE n (l.map toFp) true i k≤14400→Nw.iI (Nw.ew (Nw.counted true (l.map toFp))) i k (Nw.eE n (l.map toFp) true i k).toNat:=fun i k hi hk hle=>by obtain⟨b1,b2,b3⟩:=Nw.yJ (inf:=Nw.lQ) (hE true) hi hk;unfold Nw.eE at hle⊢;rw[ali];exact b2 (by omega)
 have wF:∀i k,i<n→k<n→Nw.eE n (l.map toFp) false i k≤14400→Nw.iI (Nw.ew (Nw.counted false (l.map toFp))) i k (Nw.eE n (l.map toFp) false i k).toNat:=fun i k hi hk hle=>by obtain⟨b1,b2,b3⟩:=Nw.yJ (inf:=Nw.lQ) (hE false) hi hk;unfold Nw.eE at hle⊢;rw[ali];exact b2 (by omega)
 have sub:∀a b c,Nw.ew (Nw.counted true (l.map toFp)) a b c→Nw.ew (Nw.counted false (l.map toFp)) a b c:=fun a b c hc=>by obtain⟨p,hp,_,e⟩:=od.1 hc;exact od.2 ⟨p,hp,(fun h=>by cases h),e⟩
 have key:=Nw.Yo (inf:=Nw.lQ) (M:=14400) (E:=Nw.counted fr (l.map toFp)) (E':=Nw.counted fr ((cR l n).map toFp)) (by omega) (hE fr) (hE' fr) (fun y hy=>by
  obtain⟨p,hp,hf,rfl⟩:=od.1 hy;obtain⟨i,k,hi,hk,K5,hW,hp⟩:=IJ hp;rcases hp with rfl|⟨rfl,h3,h4⟩
  ·cases fr with
   |false=>exact wF i k hi hk hW
   |true=>
    have e:Nw.eE n (l.map toFp) true i k=Nw.eE n (l.map toFp) false i k:=by simpa using hf rfl
    have:=wT i k hi hk (by omega);rw[e]at this;exact this
  ·cases fr with
   |true=>exact wT i k hi hk h4
   |false=>exact(wT i k hi hk h4).mono sub) hi hk (fun hle=>by
  have agE:Nw.eE n (l.map toFp) fr i k≤14400:=by unfold Nw.eE;omega
  have e:Nw.dk n (Nw.start Nw.lQ (Nw.counted fr (l.map toFp))) n i k=(Nw.eE n (l.map toFp) fr i k).toNat:=by unfold Nw.eE;rw[ali]
  rw[e];have h0:=abU h hi hk;cases fr with
  |false=>exact od.2 ⟨_,(Of hi hk K5 agE).1,(fun h=>by cases h),by simp only[ali]⟩
  |true=>
   have hc:=Of (W:=Nw.eE n (l.map toFp) false) (F:=Nw.eE n (l.map toFp) true) hi hk K5 (by omega);by_cases heq:Nw.eE n (l.map toFp) true i k=Nw.eE n (l.map toFp) false i k
   ·exact od.2 ⟨_,hc.1,fun _=>by simp[heq],by simp only[ali,heq]⟩
   ·exact od.2 ⟨_,hc.2 (by omega) agE,fun _=>rfl,by simp only[ali]⟩)
 unfold Nw.eE;rcases key with key|key
 ·exact .inl (by rw[key])
 ·exact .inr (by omega)
theorem Oh(h:Sound l n):cR (cR l n) n=cR l n:=by
 show(Nw.zJ n (Nw.eE n ((cR l n).map toFp) false) (Nw.eE n ((cR l n).map toFp) true)).map sZ=(Nw.zJ n (Nw.eE n (l.map toFp) false) (Nw.eE n (l.map toFp) true)).map sZ;congr 1;unfold Nw.zJ;rw[amF,amF];congr 1;apply alQ;intro i hi;rw[amF,amF];congr 1;apply alQ;intro k hk;have hi:=alI.1 hi;have hk:=alI.1 hk;by_cases K5:i=k
 ·unfold Nw.Oe;rw[T0 (.inl K5),T0 (.inl K5)]
 ·exact Nw.Yp (IK h false hi hk K5) (IK h true hi hk K5) i k
theorem Vg(l:List Path)(n:Nat):(cR l n).Pairwise fun a b=>br a≠br b:=by
 unfold cR;rw[anX];have key:∀{i k:Nat}{w f:Int}{e:List PV},e∈Nw.Oe w f i k→∃s b,sZ e=⟨i,k,s,b⟩:=fun h=>by obtain⟨s,b,rfl⟩:=Nw.BW h;exact⟨s,b,rfl⟩
 unfold Nw.zJ;rw[amu];refine⟨fun i _=>?_,List.pairwise_lt_range.imp fun{i i'}UD x hx y hy=>?_⟩
 ·rw[amu];refine⟨fun k _=>?_,List.pairwise_lt_range.imp fun{k k'}vv x hx y hy=>?_⟩
  ·unfold Nw.Oe;split
   ·simp
   ·split
    ·rename_i hf;simp only[amm,ami,forall_eq,amw,false_implies,implies_true,List.Pairwise.nil,aot];intro h;have:(Nw.eE n (l.map toFp) true i k==Nw.eE n (l.map toFp) false i k)=true:=by simp only[br,sZ,Nw.Mi,akj]at h;exact h.2.2
     have:=eq_of_beq this;omega
    ·simp
  ·obtain⟨s,b,e⟩:=key hx;obtain⟨s',b',e'⟩:=key hy;rw[e,e'];simp only[br,aoA,akj];omega
 ·obtain⟨k,_,hx⟩:=alS.1 hx;obtain⟨k',_,hy⟩:=alS.1 hy;obtain⟨s,b,e⟩:=key hx;obtain⟨s',b',e'⟩:=key hy;rw[e,e'];simp only[br,aoA,akj];omega
theorem abV(l:List Path)(n:Nat):∀p∈cR l n,p.a≠p.b:=by intro p hp;obtain⟨i,k,hi,hk,K5,hW,hp⟩:=IJ hp;rcases hp with rfl|⟨rfl,_⟩<;>simp only<;>omega
theorem Yq(h:Sound l n):(cO (cR l n) n).2=0:=by
 have hz:(bJ (cD (cR l n) n) (cR l n).length).2=0:=(pX _ _).2 fun k hk=>by unfold cD;rw[AI hk];simp only;have hs:=yL h _ (alj hk);have cC:=abV l n _ (alj hk);rw[acB (by simp only[aly,AT];omega),acB (by simp only[aly,AT];omega),acB (AD (Vg l n) hk)]
 unfold cO;rw[T0 hz,T0 (by unfold qB;rw[Oh h];simp)]
end
section
variable {T:aj} {l:List aY}
structure Mj(n:Nat)(cs:List aF):Prop where
 two:2≤cs.length
 most:cs.length≤32
 call:∀(k:Nat)(c:aF),cs[k]?=some c→0≤c.stop∧c.stop<(n:Int)∧0≤c.arr∧c.arr≤c.dep∧c.dep≤172800
 step:∀(k:Nat)(c d:aF),cs[k]?=some c→cs[k+1]?=some d→c.dep≤d.arr∧c.stop≠d.stop
theorem Q1(hV:cA T){i:Nat}{x:bn}(hx:T.ae[i]?=some x){s:Int}(hs:s∈instI T.aU i):Mj T.stops.length (bh x.calls s):=by
 have ht:=kA hV hx;have he:=Q2 hV hx hs;have h2:=ht.two;unfold bh;rw[T0 he];obtain⟨c0,cs,hc⟩:∃c0 cs,x.calls=c0::cs:=by
  cases hc:x.calls with
  |nil=>rw[hc]at h2;simp at h2
  |cons c0 cs=>exact⟨c0,cs,rfl⟩
 have XM:(x.calls.map aF.dep).headD 0=c0.dep:=by rw[hc];rfl
 rw[XM];have hb:=(IL c0 cs s).1 (by rw[←hc];exact he);rw[←hc]at hb;refine⟨by rw[BY];exact h2,by rw[BY];exact ht.most,fun k c h=>?_,fun k c d h h'=>?_⟩
 ·rw[IS]at h;obtain⟨y,hy,rfl⟩:=alg.1 h;have h1:=ht.call k y hy;have h3:=hb k y hy;simp only[Fs];omega
 ·rw[IS]at h h';obtain⟨y,hy,rfl⟩:=alg.1 h;obtain⟨z,hz,rfl⟩:=alg.1 h';have h1:=ht.step k y z hy hz;simp only[Fs];omega
theorem Yr{c:aF}{p:Option aF}{n lo hi:Int}(h1:0≤c.stop)(h2:c.stop<n)(h3:lo≤c.arr)(h4:c.arr≤c.dep)(h5:c.dep≤hi)(h6:∀q,p=some q→q.dep≤c.arr∧q.stop≠c.stop):Ej c p n lo hi=0:=by
 unfold Ej;cases p with
 |none=>grind
 |some q=>have:=h6 q rfl;grind
theorem Vh{n:Nat}{cs:List aF}(h:Mj n cs){d:Int}(hd:kR d=true):(gf (cs.map (wI (fp d))) n 0 3155932800).2=0:=by
 obtain⟨e,h0,h1⟩:=Hf hd;have h2:=h.two;have h3:=h.most;unfold gf;rw[acB (by simp only[BY,aly,AT];omega)];refine(pX _ _).2 fun k hk=>?_;rw[BY]at hk;unfold vH;rw[IS,AI hk];simp only[No];have hc:=h.call k _ (AI hk);have w0:(wI (fp d) cs[k]).stop=cs[k].stop:=rfl;have w1:(wI (fp d) cs[k]).arr=cs[k].arr+fp d:=aW (by omega) (by omega);have w2:(wI (fp d) cs[k]).dep=cs[k].dep+fp d:=aW (by omega) (by omega);refine Yr (by omega) (by omega) (by omega) (by omega) (by omega) fun q hq=>?_;cases k with
 |zero=>cases hq
 |succ j=>
  have hj:j<cs.length:=by omega
  have hs:=h.step j _ _ (AI hj) (AI hk);have hcj:=h.call j _ (AI hj);have w3:(wI (fp d) cs[j]).dep=cs[j].dep+fp d:=aW (by omega) (by omega);have w4:(wI (fp d) cs[j]).stop=cs[j].stop:=rfl;have hp:Ek (cs.map (wI (fp d))) (j+1)=some (wI (fp d) cs[j]):=by show(cs.map _)[j]?=_;rw[IS,AI hj];rfl
  rw[hp]at hq;cases hq;rw[w1,w3,w0,w4];exact⟨by omega,hs.2⟩
theorem K6(hV:cA T){i:Nat}{x:bn}(hx:T.ae[i]?=some x):eo x.id=true∧0≤x.bV∧x.bV<(T.ai.length:Int):=by
 have h4:(mf T.ae T.stops.length T.ai.length T.dL.length).2=0:=hV 4 (by omega);unfold mf at h4;split at h4
 ·omega
 ·have he:=jH _ _ h4 i (OF.1 hx).1;unfold yM at he;rw[hx]at he;simp only at he;split at he
  ·omega
  ·rename_i hid;split at he
   ·omega
   ·split at he
    ·omega
    ·rename_i hr;simp only[aly,AT,anY]at hr;exact⟨by simpa using hid,by omega,by omega⟩
variable{r:aY}
theorem El(hV:cA T)(hk:cJ T r=true):kR r.day=true∧∃(i k:Nat)(x:bn)(cs:List aF),T.ae[i]?=some x∧r=bT x i r.day k cs∧Mj T.stops.length cs∧k≤(instI T.aU i).length:=by
 unfold cJ at hk;rw[ale,AT]at hk;obtain⟨i,x,hx,hi,hm⟩:=Hg.1 hk.2;refine⟨hk.1,?_⟩;have ht:=kA hV hx;unfold dB at hm;split at hm
 ·cases hm
 ·split at hm
  ·simp only[ami]at hm;exact⟨i,0,x,x.calls,hx,hm,⟨ht.two,ht.most,ht.call,ht.step⟩,an2 _⟩
  ·obtain⟨k,ko,e⟩:=alC.1 hm;have ko:=alI.1 ko;refine⟨i,k,x,_,hx,e.symm,Q1 hV hx ?_,by omega⟩;rw[anP,AI ko];exact alj ko
theorem Vi(hV:cA T)(hk:∀r∈l,cJ T r=true)(hp:l.Pairwise fun r s=>r.key≠s.key):l.Pairwise fun r s=>fF r≠fF s:=by
 refine ame (R:=fun r s=>r.key≠s.key) (fun{r s}hr hs cC e=>cC ?_) hp;obtain⟨_,i,k,x,cs,hx,er,_⟩:=El hV (hk r hr);obtain⟨_,j,k',y,ND,hy,es,_⟩:=El hV (hk s hs);simp only[fF,akj]at e;obtain⟨e1,e2,e3⟩:=e;have hid:x.id=y.id:=by rw[er,es]at e1;exact e1
 have St:=abW hV hx hy hid;have t1:r.bp=i:=by rw[er];rfl
 have t2:s.bp=j:=by rw[es];rfl
 simp only[aY.key,akj];exact⟨by omega,e2,e3⟩
theorem Ys(hV:cA T)(hk:∀r∈l,cJ T r=true)(hp:l.Pairwise fun r s=>r.key≠s.key)(hl:l.length≤1024):(qC l T.stops.length T.ai.length).2=0:=by
 unfold qC;rw[acB (by omega)];refine(pX _ _).2 fun k yf=>?_;unfold mQ;rw[AI yf];simp only;obtain⟨hd,i,m,x,cs,hx,er,JZ,_⟩:=El hV (hk _ (alj yf));obtain⟨m1,m2,m3⟩:=K6 hV hx;have hd':=(rH _).1 hd;have e1:l[k].id=x.id:=by rw[er];rfl
 have e2:l[k].bp=i:=by rw[er];rfl
 have e3:l[k].inst=m:=by rw[er];rfl
 have e4:l[k].bV=x.bV:=by rw[er];rfl
 have e5:l[k].calls=cs.map (wI (fp l[k].day)):=congrArg aY.calls er;have hc:=Vh JZ hd;rw[←e5]at hc;rw[acB (by rw[e1,m1];simp),acB (by simp only[aly,AT];omega),acB (by simp only[aly,AT];omega),acB (by simp only[aly,AT];omega),T0 hc,acB (AD (Vi hV hk hp) yf)]
theorem K7(hV:cA T){k:Nat}(hk:k<T.cm.length):T.cm[k].a≠T.cm[k].b∧T.cm[k].a∉(T.cm.map gw.a).take k∧T.cm[k].b∉(T.cm.map gw.b).take k∧T.cm[k].a∉grow (T.cm.take k) k [] T.cm[k].b:=by
 have h6:(og T.cm T.ae T.aU).2=0:=hV 6 (by decide);obtain⟨hp,gL⟩:=BX hV (alj hk);obtain⟨i,j,hi,hj,Fc,rz⟩:=yN _ _ T.ae hp;have cC:T.cm[k].a≠T.cm[k].b:=by unfold lR at hp;simp only[alG,alN]at hp;exact hp.2
 unfold og at h6;split at h6
 ·omega
 ·have he:=jH _ _ h6 k hk;unfold AE at he;rw[AI hk]at he;simp only at he;rw[acB (by simp[hp]),acB (by simp[gL]),hi,hj,ali,ali,AI Fc,AI rz,←hi,←hj]at he;simp only at he;split at he
  ·split at he
   ·omega
   ·rename_i hm;simp only[aly,AT,anY]at hm;split at he
    ·omega
    ·rename_i hg;exact⟨cC,hm.1,hm.2,hg⟩
  ·rename_i hz;exact absurd he hz
def J1(x:gw):aP:=⟨x.a,0,x.b,0,true⟩
theorem Vj(p:List gw)(x:gw)(v:Int):dM (p++[x]) v=(dM p v).or (if x.a=v then some x.b else none):=by
 unfold dM;rw[anW,anu,aoo];cases p.find? fun y=>decide (y.a=v)with
 |some y=>rfl
 |none=>by_cases h:x.a=v<;>simp[h]
theorem Oi(p:List gw):∀n pre last y,y∈pre++[last]→y∈grow p n pre last
 |0,pre,last,y,h=>h
 |n+1,pre,last,y,h=>by
  unfold grow;split
  ·exact h
  ·split
   ·exact h
   ·exact Oi p n _ _ y (aom _ h)
theorem SO(p:List gw)(ρ:Int→Nat)(hρ:∀v w,dM p v=some w→ρ w<ρ v):∀n pre last t a,(∀y∈pre++[last],ρ last≤ρ y)→t≤n→it (dM p) t last=some a→a∈grow p n pre last
 |n,pre,last,0,a,_,_,h=>by
  have:last=a:=by simpa[it]using h
  exact Oi p n pre last a (by simp[this])
 |0,_,_,t+1,_,_,h,_=>by omega
 |n+1,pre,last,t+1,a,Iw,ht,h=>by
  obtain⟨m,hm,h⟩:=M1.1 (show(dM p last).bind (it (dM p) t)=some a from h);have bQ:=hρ _ _ hm;have hnm:m∉pre++[last]:=fun pV=>by have:=Iw m pV;omega
  unfold grow;rw[hm];simp only;rw[acB hnm];refine SO p ρ hρ n (pre++[last]) m t a (fun y hy=>?_) (by omega) h;rcases alM.1 hy with hy|hy
  ·have:=Iw y hy;omega
  ·simp only[ami]at hy;subst hy;omega
theorem Yt(hV:cA T):∀k,k≤T.cm.length→(∀v,nx ((T.cm.take k).map J1) v=dM (T.cm.take k) v)∧AF (nx ((T.cm.take k).map J1))
 |0,_=>⟨fun v=>rfl,IM⟩
 |k+1,hk=>by
  obtain⟨h1,h2⟩:=Yt hV k (by omega);obtain⟨f1,f2,f3,f4⟩:=K7 hV (show k<T.cm.length by omega);have K0:dM (T.cm.take k) T.cm[k].a=none:=by
   unfold dM;rw[Option.map_eq_none_iff,anp];intro y hy;have:y.a∈(T.cm.map gw.a).take k:=by rw[←anJ];exact List.mem_map_of_mem hy
   simp only[AT];intro e;exact f2 (e▸this)
  rw[alx (by omega),alP];refine⟨fun v=>?_,GD h2 (J1 T.cm[k]) (.inr ⟨f1,by rw[h1];exact K0,?_⟩)⟩
  ·show nx ((T.cm.take k).map J1++[J1 T.cm[k]]) v=_;rw[vI,Vj,h1];by_cases hv:T.cm[k].a=v
   ·subst hv;rw[K0];simp[J1]
   ·simp[J1,hv]
  ·obtain⟨ρ,hρ⟩:=h2;have hlen:((T.cm.take k).map J1).length=k:=by simp;omega
   have hf:nx ((T.cm.take k).map J1)=dM (T.cm.take k):=funext h1;unfold pY;rw[amY];intro t ht;have ht:=alI.1 ht;simp only[AT];intro hit;have hle:t+1≤k:=by have:=IP ⟨ρ,hρ⟩ ((T.cm.take k).map gw.a) (fun v w Yu=>by obtain⟨y,hy,_,Vk,_⟩:=Mk Yu;obtain⟨z,hz,rfl⟩:=alC.1 hy;exact alC.2 ⟨z,hz,Vk⟩) (t+1) (J1 T.cm[k]).b (by rw[hit];simp);rw[BY,alF]at this;omega
   rw[hf]at hit hρ;exact f4 (SO _ ρ hρ k [] T.cm[k].b (t+1) T.cm[k].a (fun y hy=>by simp only[amC,ami]at hy;subst hy;exact alz _) hle hit)
theorem Q3(hV:cA T):∃ρ:Int→Nat,∀v w,dM T.cm v=some w→ρ w<ρ v:=by obtain⟨h1,ρ,hρ⟩:=Yt hV T.cm.length (alz _);rw[alT]at h1 hρ;exact⟨ρ,fun v w h=>hρ v w (by rw[h1];exact h)⟩
theorem abX(hV:cA T){s t n:Int}(hs:dM T.cm s=some n)(ht:dM T.cm t=some n):s=t:=by
 have key:∀{v:Int},dM T.cm v=some n→∃i,∃h:i<T.cm.length,T.cm[i].a=v∧T.cm[i].b=n:=fun{v}h=>by unfold dM at h;obtain⟨y,hy,hb⟩:=alg.1 h;obtain⟨i,hi,rfl⟩:=anm (amz hy);exact⟨i,hi,by simpa using am9 hy,hb⟩
 obtain⟨i,hi,ia,ib⟩:=key hs;obtain⟨j,hj,ja,jb⟩:=key ht;have no:∀{i j:Nat}(hi:i<T.cm.length)(hj:j<T.cm.length),T.cm[i].b=T.cm[j].b→¬i<j:=fun{i j}hi hj e h=>(K7 hV hj).2.2.1 (by rw[als];exact⟨i,by rw[amj h,IS,AI hi,No,e]⟩);have St:i=j:=by have:=no hi hj (by rw[ib,jb]);have:=no hj hi (by rw[ib,jb]);omega
 subst St;omega
variable{x:aP}
theorem Ft{a:Nat}(hx:cy T l a r=some x):∃(n:Int)(b:Nat)(q:aY),dM T.cm r.bp=some n∧x.b=b∧l[b]?=some q∧q.key=(n,r.day,0):=by unfold cy at hx;obtain⟨n,hn,hx⟩:=M1.1 hx;obtain⟨b,hb,hx⟩:=alg.1 hx;obtain⟨_,q,hq,JN⟩:=ur hb;exact⟨n,b,q,hn,by rw[←hx],hq,JN⟩
theorem Ml(hV:cA T)(hk:∀r∈l,cJ T r=true){m:Nat}(hx:x∈aR T l m)(hs:x.stay=true):∃(a:Nat)(r:aY),l[a]?=some r∧x.a=a∧cy T l a r=some x:=by
 obtain⟨a,_,hx⟩:=alS.1 hx;unfold kS at hx;cases ha:l[a]? with
 |none=>rw[ha]at hx;cases hx
 |some r=>
  rw[ha]at hx;simp only[fG,alM,am7]at hx;rcases hx with hx|⟨g,hg,hx⟩
  ·cases nO:cy T l a r with
   |none=>rw[nO]at hx;cases hx
   |some z=>rw[nO]at hx;simp only[anr,ami]at hx;subst hx;exact⟨a,r,ha,(Hh hV hk ha nO).2.1,nO⟩
  ·exfalso;unfold lS at hx;split at hx
   ·obtain⟨b,_,hx⟩:=M1.1 hx;obtain⟨q,_,hx⟩:=M1.1 hx;split at hx
    ·cases hx
    ·cases hx;cases hs
   ·cases hx
theorem K8(hV:cA T)(hk:cJ T r=true){n:Int}(hn:dM T.cm r.bp=some n):r.inst=0:=by
 unfold dM at hn;obtain⟨y,hy,hyb⟩:=alg.1 hn;have Vk:y.a=r.bp:=by simpa using am9 hy
 obtain⟨_,gL⟩:=BX hV (amz hy);have hra:pZ T.aU y.a=false:=by unfold gg at gL;simp only[alG]at gL;exact gL.1
 obtain⟨_,i,x,_,_,e⟩:=qe hk (by rw[←Vk];exact hra);rw[e];rfl
theorem abY(hp:l.Pairwise fun r s=>r.key≠s.key){a b:Nat}{s:aY}(ha:l[a]?=some r)(hb:l[b]?=some s)(h:r.key=s.key):a=b:=by obtain⟨ha1,ha2⟩:=OF.1 ha;obtain⟨PL,vE⟩:=OF.1 hb;have h1:¬a<b:=fun sX=>alW.1 hp a b ha1 PL sX (by rw[ha2,vE,h]);have h2:¬b<a:=fun sX=>alW.1 hp b a PL ha1 sX (by rw[ha2,vE,h]);omega
theorem Vl(hV:cA T)(hk:∀r∈l,cJ T r=true)(hp:l.Pairwise fun r s=>r.key≠s.key){m:Nat}{y:aP}(hx:x∈aR T l m)(hy:y∈aR T l m)(HV:x.stay=true)(PO:y.stay=true)(h:x.a=y.a∨x.b=y.b):x=y:=by
 obtain⟨a,r,ha,hxa,nO⟩:=Ml hV hk hx HV;obtain⟨a',r',ha',Vk,aeb⟩:=Ml hV hk hy PO;have haa:a=a':=by
  rcases h with h|h
  ·omega
  ·obtain⟨n,b,q,hn,hb,hq,JN⟩:=Ft nO;obtain⟨n',b',q',Nc,je,NI,abZ⟩:=Ft aeb;have hbb:b=b':=by omega
   subst hbb;rw[hq]at NI;cases NI;rw[JN]at abZ;simp only[akj]at abZ;have ht:r.bp=r'.bp:=abX hV hn (by rw[abZ.1];exact Nc);refine abY hp ha ha' ?_;simp only[aY.key,akj];exact⟨ht,abZ.2.1,by rw[K8 hV (hk r (alf ha)) hn,K8 hV (hk r' (alf ha')) Nc]⟩
 subst haa;rw[ha]at ha';cases ha';rw[nO]at aeb;cases aeb;rfl
theorem SP{f:Int→Option Int}{ρ:Int→Nat}(hf:∀v w,f v=some w→ρ w<ρ v):∀m v w,it f (m+1) v=some w→ρ w<ρ v
 |0,v,w,h=>by
  obtain⟨u,hu,h⟩:=M1.1 (show(f v).bind (it f 0)=some w from h);have:u=w:=by simpa[it]using h
  subst this;exact hf _ _ hu
 |m+1,v,w,h=>by obtain⟨u,hu,h⟩:=M1.1 (show(f v).bind (it f (m+1))=some w from h);have:=SP hf m u w h;have:=hf _ _ hu;omega
theorem Vm(hV:cA T)(hk:∀r∈l,cJ T r=true)(hp:l.Pairwise fun r s=>r.key≠s.key)(hl:(aR T l l.length).length≤1024):(lT l (aR T l l.length)).2=0:=by
 unfold lT;rw[acB (by omega)];refine(pX _ _).2 fun k yf=>?_;have adj:=Yv hV hk l.length;generalize hL:aR T l l.length=L at*;have bk:∀y∈L,y∈aR T l l.length:=fun y hy=>by rw[hL];exact hy
 unfold dw;rw[AI yf];simp only;obtain⟨a,b,r,q,i,j,c,d,xa,xb,sX,la,lb,agF,xi,xj,rc,qd,agG,akS,nO⟩:=(SQ hV hk (bk _ (alj yf))).ends;have ha1:=(OF.1 la).1;have PL:=(OF.1 lb).1;have WN:=(OF.1 rc).1;have hj1:=(OF.1 qd).1;have ca:bC l L[k].a=r.calls:=by unfold bC;rw[xa,ali,la];rfl
 have cb:bC l L[k].b=q.calls:=by unfold bC;rw[xb,ali,lb];rfl
 have sa:sd r.calls L[k].ac=c.stop:=by unfold sd;rw[xi,ali,rc];rfl
 have sb:sd q.calls L[k].bc=d.stop:=by unfold sd;rw[xj,ali,qd];rfl
 have h1:G5 L[k] l.length=false:=by unfold G5;simp only[alG,amh,ale,AT,alN];omega
 have h2:Cy L[k] r.calls.length q.calls.length=false:=by unfold Cy;simp only[alG,amh,ale,AT];omega
 have SR:∀y∈L.take k,∃j,∃h:j<k,∃h':j<L.length,y=L[j]:=fun y hy=>by obtain⟨j,hj,rfl⟩:=anm hy;rw[alF]at hj;exact⟨j,by omega,by omega,List.getElem_take⟩
 have zT:L[k].stay=true→∀y∈L.take k,y.stay=true→¬(L[k].a=y.a∨L[k].b=y.b):=fun hs y hy PO hor=>by obtain⟨j,hj,rz,rfl⟩:=SR y hy;have e:=Vl hV hk hp (bk _ (alj yf)) (bk _ (alj rz)) hs PO hor;exact alW.1 adj j k rz yf hj (by rw[e])
 have h3:Em (L.take k) L[k] r.calls.length=false:=by
  unfold Em;cases hs:L[k].stay with
  |false=>rfl
  |true=>
   obtain⟨hs1,hs2⟩:=nO hs;have n1:(nx (L.take k) L[k].a).isSome=false:=by rw[K9,amY];intro y hy;simp only[ale,AT,not_and];exact fun PO e=>zT hs y hy PO (.inl e.symm)
   have n2:decide (L[k].b∈pJ (L.take k))=false:=by rw[Oj,amY];intro y hy;simp only[ale,AT,not_and];exact fun PO e=>zT hs y hy PO (.inr e.symm)
   have n3:pY (L.take k) L[k].b L[k].a ((L.take k).length+1)=false:=by
    obtain⟨ρ,hρ⟩:=Q3 hV;have tr:∀y∈L,y.stay=true→ρ (((l[y.b.toNat]?).map aY.bp).getD 0)<ρ (((l[y.a.toNat]?).map aY.bp).getD 0):=fun y hy PO=>by obtain⟨a,r,ha,Vk,nO⟩:=Ml hV hk (bk y hy) PO;obtain⟨n,b,q,hn,hb,hq,JN⟩:=Ft nO;rw[Vk,hb,ali,ali,ha,hq];have:q.bp=n:=congrArg (fun z=>z.1) JN;exact hρ _ _ (show dM T.cm r.bp=some q.bp by rw[hn,this])
    unfold pY;rw[amY];intro t _;simp only[AT];intro hit;have h1:=SP (ρ:=fun v=>ρ (((l[v.toNat]?).map aY.bp).getD 0)) (fun v w Yu=>by obtain⟨y,hy,PO,Vk,hyb⟩:=Mk Yu;have:=tr y (amG hy) PO;rw[Vk,hyb]at this;exact this) t _ _ hit;have h2:=tr _ (alj yf) hs;replace h1:ρ (((l[L[k].a.toNat]?).map aY.bp).getD 0)<ρ (((l[L[k].b.toNat]?).map aY.bp).getD 0):=h1;omega
   rw[n1,n2,n3];simp only[ama,amg,alG,amh,AT];omega
 rw[h1,ca,cb,h2,sa,sb,h3,acB (by simp),acB (by simp),acB (by simp[agG]),acB (by simp),acB (AD (f:=dx) (adj.imp fun h=>h) yf)]
def iJ(T:aj)(l:List aY):bm:=⟨T.stops,T.ai,l,aR T l l.length,cR T.paths T.stops.length,T.aB,T.aZ,T.within,T.cap⟩
theorem Vn(hV:cA T)(hk:∀r∈l,cJ T r=true)(hp:l.Pairwise fun r s=>r.key≠s.key)(hl:l.length≤1024)(hn:(aR T l l.length).length≤1024):oh (iJ T l)=(0,0,0):=by
 have h0:(fb T.stops).2=0:=hV 0 (by decide);have h1:(dR T.ai).2=0:=hV 1 (by decide);have h8:(jX T.paths T.stops.length).2=0:=hV 8 (by decide);have h9:(cT T.aB T.aZ T.within T.cap).2=0:=hV 9 (by decide);have hs:Sound T.paths T.stops.length:=by
  unfold jX at h8;split at h8
  ·omega
  ·exact En h8
 unfold oh iJ;simp only;rw[T0 h0,T0 h1,T0 (Ys hV hk hp hl),T0 (Vm hV hk hp hn),T0 (Yq hs),T0 h9]
end
end Go.Ab.Tt
namespace Go.Ab.Nw
theorem La(d:Mx)(i j:Nat):Fu d i j (d i j)=d:=by
 funext a b;unfold Fu;split
 ·rename_i h;rw[h.1,h.2]
 ·rfl
theorem Yw(xT:Int×Int×Int×List PV×Unit→Option PV)(n k i:Nat)(d:Mx)(hn:n≤64)(hk:k<n)(hi:i<n)(hd:∀j,j≤n→∀a b,a<n→b<n→dj k i d j a b≤1099511627776):aX.run (oi xT) ((n:Int),(k:Int),(i:Int),0,iU n d,())=xT ((n:Int),(k:Int),IntKind.i64.wrap ((i:Int)+1),iU n (dj k i d n),()):=by
 refine aK (fun j=>((n:Int),(k:Int),(i:Int),(j:Int),iU n (dj k i d j),())) n (fun j hj rec=>?_) (fun rec=>?_) (by unfold rounds;omega) rfl
 ·unfold oi;dsimp only;have hg:decide ((j:Int)<(n:Int))=true:=by simp;omega
  have ii:ar (i:Int) (iU n (dj k i d j)).length:=CY (by rw[rI];omega);have ik:ar (k:Int) (iU n (dj k i d j)).length:=CY (by rw[rI];omega);have ji:ar (j:Int) (zK n (dj k i d j i)).length:=CY (by rw[lU];omega);have ki:ar (k:Int) (zK n (dj k i d j i)).length:=CY (by rw[lU];omega);have jk:ar (j:Int) (zK n (dj k i d j k)).length:=CY (by rw[lU];omega);have b1:=hd j (by omega) i k hi hk;have b2:=hd j (by omega) k j hk hj;have hs:IntKind.i64.wrap (((dj k i d j i k:Nat):Int)+((dj k i d j k j:Nat):Int))=((dj k i d j i k+dj k i d j k j:Nat):Int):=aW (by omega) (by omega);simp only[hg,IT,T0 ii,T0 ik,ali,oq _ hi,oq _ hk,U,asR,T0 ji,T0 ki,T0 jk,rJ _ hj,rJ _ hk,cI,Fv,hs,af (show j<9223372036854775807 by omega),ab0,ab1,Eo _ _ hi hj];have hd1:dj k i d (j+1)=Fu (dj k i d j) i j (min (dj k i d j i j) (dj k i d j i k+dj k i d j k j)):=rfl;by_cases bQ:dj k i d j i k+dj k i d j k j<dj k i d j i j
  ·rw[T0 (by simp;omega),hd1,anF (by omega)]
  ·rw[acB (by simp;omega),hd1,amd (by omega),La]
 simp[oi,acB]
theorem Yx(IQ:Int×Int×List PV×Unit→Option PV)(n k:Nat)(d:Mx)(hn:n≤64)(hk:k<n)(hd:∀i,i<n→∀j,j≤n→∀a b,a<n→b<n→dj k i (di n k d i) j a b≤1099511627776):aX.run (ot aX IQ) ((n:Int),(k:Int),0,iU n d,())=IQ ((n:Int),IntKind.i64.wrap ((k:Int)+1),iU n (di n k d n),()):=by
 refine aK (fun i=>((n:Int),(k:Int),(i:Int),iU n (di n k d i),())) n (fun i hi rec=>?_) (fun rec=>?_) (by unfold rounds;omega) rfl
 ·unfold ot;dsimp only;have hg:decide ((i:Int)<(n:Int))=true:=by simp;omega
  rw[T0 hg,Yw rec n k i _ hn hk hi (hd i hi),af (by omega)];rfl
 simp[ot,acB]
theorem Yy(n:Nat)(d:Mx)(hn:n≤64)(hd:∀k,k<n→∀i,i<n→∀j,j≤n→∀a b,a<n→b<n→dj k i (di n k (dk n d k) i) j a b≤1099511627776):aX.run (ou aX) ((n:Int),0,iU n d,())=some (.rs 1 ((iU n (dk n d n)).map PV.strip)):=by
 refine aK (fun k=>((n:Int),(k:Int),iU n (dk n d k),())) n (fun k hk rec=>?_) (fun rec=>?_) (by unfold rounds;omega) rfl
 ·unfold ou;dsimp only;have hg:decide ((k:Int)<(n:Int))=true:=by simp;omega
  rw[T0 hg,Yx rec n k _ hn hk (hd k hk),af (by omega)];rfl
 simp[ou,acB]
theorem Lb(l:List Fp)(n:Nat)(hn:n≤64)(hl:l.length≤4096)(h:∀p∈l,p.a<n∧p.b<n)(fr:Bool):lV [.rs 4 (l.map Fp.pv),.int .i64 n,.bool fr]=some (.rs 1 (dp n fun i j=>((dk n (start lQ (counted fr l)) n i j:Nat):Int))):=by
 have e0:ah 4 (.rs 4 (l.map Fp.pv))=some (l.map Fp.pv):=by rfl
 have hE:∀y∈counted fr l,y.f<n∧y.t<n:=fun y hy=>by obtain⟨p,hp,rfl⟩:=rK hy;exact h p hp
 simp only[lV,AG,e0,U,Fv,asBool];refine aK (fun i=>(l.map Fp.pv,(n:Int),fr,(i:Int),List.replicate i (PV.mE 1 (List.replicate n (PV.int .i64 1099511627776))),())) n (fun i hi rec=>?_) (fun rec=>?_) (by unfold rounds;omega) rfl
 ·unfold uu;dsimp only;have hg:decide ((i:Int)<(n:Int))=true:=by simp;omega
  rw[T0 hg];refine aK (fun j=>(l.map Fp.pv,(n:Int),fr,(i:Int),(j:Int),List.replicate i (PV.mE 1 (List.replicate n (PV.int .i64 1099511627776))),List.replicate j (PV.int .i64 1099511627776),())) n (fun j hj gm=>?_) (fun gm=>?_) (by unfold rounds;omega) rfl
  ·unfold uv;dsimp only;have hg:decide ((j:Int)<(n:Int))=true:=by simp;omega
   have G2:List.replicate j (PV.int .i64 1099511627776)++[PV.int .i64 1099511627776]=List.replicate (j+1) (PV.int .i64 1099511627776):=(ane ..).symm;rw[T0 hg];simp only[G2,al5];rw[T0 (by unfold ag;omega),af (by omega)]
  ·unfold uv;dsimp only;have G2:List.replicate i (PV.mE 1 (List.replicate n (PV.int .i64 1099511627776)))++[PV.mE 1 (List.replicate n (PV.int .i64 1099511627776))]=List.replicate (i+1) (PV.mE 1 (List.replicate n (PV.int .i64 1099511627776))):=(ane ..).symm;rw[acB (by simp)];simp only[G2,al5];rw[T0 (by unfold ag;omega),af (by omega)]
 ·unfold uu;dsimp only;rw[acB (by simp),Lc];refine aK (fun k=>(l.map Fp.pv,(n:Int),fr,(k:Int),iU n (start lQ (counted fr (l.take k))),())) l.length (fun k hk gm=>?_) (fun gm=>?_) (by unfold rounds;omega) rfl
  ·unfold uw;dsimp only;have hg:decide ((k:Int)<((l.map Fp.pv).length:Int))=true:=by simp;omega
   obtain⟨p,hp⟩:∃p,l[k]?=some p:=⟨_,AI hk⟩;have Gk:(l.map Fp.pv)[k]?=some p.pv:=by simp_all
   have SR:l.take (k+1)=l.take k++[p]:=by rw[anw,hp];rfl
   obtain⟨pa,pb⟩:=h p (alf hp);obtain⟨d,hd⟩:∃d,d=start lQ (counted fr (l.take k)):=⟨_,rfl⟩;have ia:ar (p.a:Int) (iU n d).length:=CY (by rw[rI];omega);have ib:ar (p.b:Int) (zK n (d p.a)).length:=CY (by rw[lU];omega);have nO:iU n (start lQ (counted fr (l.take k)++[p.ed]))=iU n (Fu d p.a p.b (min (d p.a p.b) p.c)):=by rw[CZ,←hd];rfl
   have hr:(bif p.free then some true else some !fr)=some (!(fr&& !p.free)):=by grind
   rw[T0 hg,ab,Gk,U,SR,Ep];simp only[fp0,fp1,fp2,fp3,Fv,asBool,U,hr,←hd,T0 ia,ali,oq _ pa,asR,T0 ib,rJ _ pb,cI,ab0,ab1,Eo _ _ pa pb,af (show k<9223372036854775807 by omega)];cases hb:(fr&& !p.free)with
   |true=>simp[←hd]
   |false=>
    simp only[alA,cond_true,U,IN,Wi,nO];by_cases bQ:p.c<d p.a p.b
    ·rw[T0 (by simp;omega),anF (by omega)]
    ·rw[acB (by simp;omega),amd (by omega),La]
  ·unfold uw;dsimp only;rw[acB (by simp),alT,←Ld];have Yz:=yK (n:=n) (inf:=lQ) (counted fr l);exact Yy n _ hn fun k hk i hi j hj a b ha hb=>by have ih:=Yz.rounds k (by omega);have:=(SS.rows (k:=k) ⟨ih.fw,ih.low,fun a b ha hb hd=>by omega⟩ hk i (by omega)).row hi hk j hj;exact this.fw.top a b ha hb
theorem Q4(Er:Vo→Option PV)(n i:Nat)(W F:Nat→Nat→Int)(hn:n≤64)(hi:i<n)(acc:List PV)(agH:acc.length≤8192):aX.run (kT aX Er) ((n:Int),dp n W,dp n F,(i:Int),0,acc,())=Er ((n:Int),dp n W,dp n F,IntKind.i64.wrap ((i:Int)+1),acc++wJ n (fun i k=>xU (W i k) (F i k) i k) i,()):=by
 refine aK (fun k=>((n:Int),dp n W,dp n F,(i:Int),(k:Int),acc++wJ k (fun i k=>xU (W i k) (F i k) i k) i,())) n (fun k hk rec=>?_) (fun rec=>?_) (by unfold rounds;omega) (by simp[wJ])
 ·unfold kT;dsimp only;have hg:decide ((k:Int)<(n:Int))=true:=by simp;omega
  rw[BZ];have hlen:=AH (it:=fun i k=>xU (W i k) (F i k) i k) (fun i k=>Es _ _ i k) i k;generalize hA:acc++wJ k (fun i k=>xU (W i k) (F i k) i k) i=A;have hAl:A.length≤8192+128:=by grind
  rw[←alJ,hA];simp only[hg,IT,ab,B0 _ hi,U,ab2,Fx _ hk,cI,Fv,af (show k<9223372036854775807 by omega)];generalize W i k=w;generalize F i k=f;by_cases K5:i=k
  ·simp_all[xU,T0,cond_true,U,IT,alO]
  ·have hb:((i:Int)==(k:Int))=false:=by grind
   simp only[hb,cond_false,U];by_cases hw:w>14400
   ·simp_all[xU,T0,alB,IT,alO]
   ·have hr1:(A++[PV.agg [.int .i64 i,.int .i64 k,.int .i64 w,.bool (f==w)]]).length*32≤ag∧0<32:=sS (by simp;omega);simp only[hw,alw,IN,Wi,T0 hr1];by_cases hf:f>w
    ·by_cases hf2:f≤14400
     ·have L6:(A++[PV.agg [.int .i64 i,.int .i64 k,.int .i64 w,.bool (f==w)]]++[PV.agg [.int .i64 i,.int .i64 k,.int .i64 f,.bool true]]).length*32≤ag∧0<32:=sS (by simp;omega);have hit:xU w f i k=[SU i k w (f==w),SU i k f true]:=by simp_all[xU,acB,T0]
      simp only[hf,hf2,alB,cond_true,U,IT,T0 L6,hit];rw[alJ];rfl
     ·have hit:xU w f i k=[SU i k w (f==w)]:=by simp_all[xU,acB]
      simp only[hf,hf2,alB,alw,cond_true,U,IN,Wi,hit];rfl
    ·have hit:xU w f i k=[SU i k w (f==w)]:=by unfold xU;grind
     simp only[hf,alw,cond_false,U,IN,Wi,hit];rfl
 simp[kT,acB]
theorem Ol(n:Nat)(W F:Nat→Nat→Int)(hn:n≤64):aX.run (kU aX) ((n:Int),dp n W,dp n F,0,[],())=some (.rs 4 (zL n (fun i k=>xU (W i k) (F i k) i k) n)):=by
 refine aK (fun i=>((n:Int),dp n W,dp n F,(i:Int),zL n (fun i k=>xU (W i k) (F i k) i k) i,())) n (fun i hi rec=>?_) (fun rec=>?_) (by unfold rounds;omega) rfl
 ·unfold kU;dsimp only;have hg:decide ((i:Int)<(n:Int))=true:=by simp;omega
  have hlen:=AJ (it:=fun i k=>xU (W i k) (F i k) i k) (fun i k=>Es _ _ i k) n i;have hb:2*n*i≤2*64*64:=amR (by omega) (by omega);rw[T0 hg,Q4 rec n i W F hn hi _ (by omega),B1,af (by omega)]
 simp[kU,acB]
theorem Q5(l:List Fp)(n:Nat)(hn:n≤64)(hl:l.length≤4096)(h:∀p∈l,p.a<n∧p.b<n):jB [.rs 4 (l.map Fp.pv),.int .i64 n]=some (.rs 4 (zL n (fun i k=>xU (eE n l false i k) (eE n l true i k) i k) n)):=by
 have e0:ah 4 (.rs 4 (l.map Fp.pv))=some (l.map Fp.pv):=by rfl
 have e1:∀es,ah 1 (.rs 1 es)=some es:=fun es=>by rfl
 simp only[jB,wK,e0,U,Fv,Lb l n hn hl h false,Lb l n hn hl h true,e1];simp_all[Ol,eE]
end Go.Ab.Nw
namespace Go.Ab.Tt
set_option maxHeartbeats 4000000
theorem WO(n:Int):Ab.asInt .i64 (.int .i64 n)=some n:=rfl
theorem bAB(b:Bool):Ab.asBool (.bool b)=some b:=rfl
theorem YA(z:Nat)(es:List PV):ah z (.rs z es)=some es:=by simp[ah]
theorem bt2(a b:PV):bR 2 (.aG [a,b])=some [a,b]:=rfl
theorem bt3(a b c:PV):bR 3 (.aG [a,b,c])=some [a,b,c]:=rfl
structure agI(N:bm):Prop where
 stops:N.stops.length≤10000
 ai:N.ai.length≤10000
 runs:N.runs.length≤10000
 aO:N.aO.length≤10000
 paths:N.paths.length≤10000
 aB:N.aB.length≤10000
 calls:∀r∈N.runs,r.calls.length≤10000
theorem Q6(N:bm)(h:agI N):mh [N.pv]=some N.pv:=by
 simp only[mh,wL,Cd,C0,C1,C2,C3,C4,C5,C6,C7,C8,U,Q7 _ (show(N.stops.map Stop.pv).length≤10000 by rw[BY];exact h.stops),Om _ (show(N.ai.map az.pv).length≤10000 by rw[BY];exact h.ai),Vp _ (show(N.runs.map aY.pv).length≤10000 by rw[BY];exact h.runs),Q8 _ (show(N.aO.map aP.pv).length≤10000 by rw[BY];exact h.aO),IU _ (show(N.paths.map Path.pv).length≤10000 by rw[BY];exact h.paths),YA,BY];have hr:=h.runs;refine aK (fun k=>((N.runs.length:Int),(k:Int),N.stops.map Stop.pv,N.ai.map az.pv,N.runs.map aY.pv,N.aO.map aP.pv,N.paths.map Path.pv,N.aB.map ba.pv,N.aZ,N.within,N.cap,0,0,0,N.aB.map ba.pv,N.aZ,N.within,N.cap,N.stops.map Stop.pv,N.ai.map az.pv,mix aY.WE aY.pv N.runs k,N.aO.map aP.pv,N.paths.map Path.pv,())) N.runs.length (fun k hk rec=>?_) (fun rec=>?_) (by unfold rounds;omega) (by rw[YB];rfl)
 ·unfold qf;dsimp only;have hc:=h.calls _ (alj hk);have e7:ah 5 (cell N.runs[k].pv 7)=some (N.runs[k].calls.map aF.pv):=rfl;have rV:(mix aY.WE aY.pv N.runs k).set k (aY.WE N.runs[k])=mix aY.WE aY.pv N.runs (k+1):=ab3 _ _ _ _ hk;have e8:(if 8=1 then PV.mE 5 (N.runs[k].calls.map aF.pv)else PV.agg (cell N.runs[k].pv 0::cell N.runs[k].pv 1::cell N.runs[k].pv 2::cell N.runs[k].pv 3::cell N.runs[k].pv 4::cell N.runs[k].pv 5::cell N.runs[k].pv 6::PV.mE 5 (N.runs[k].calls.map aF.pv)::over [] []))=aY.WE N.runs[k]:=rfl;rw[T0 (by simp;omega),T0 (YC _ _ _ _ hk)];simp only[ali,ab4 _ _ _ _ hk,U,e7,Q9 _ (show(N.runs[k].calls.map aF.pv).length≤10000 by rw[BY];exact hc),YA,T0 (YC aY.WE aY.pv _ _ hk),e8,rV,af (show k<9223372036854775807 by omega)]
 ·unfold qf;dsimp only;rw[acB (by simp)];simp only[J2 _ (show(N.aB.map ba.pv).length≤10000 by rw[BY];exact h.aB),U,YA,ab5,Ra];rfl
section
variable {T:aj}
theorem AK(hV:cA T):T.stops.length≤64∧Sound T.paths T.stops.length∧(jX T.paths T.stops.length).2=0∧T.paths.length≤512:=by
 have h0:(fb T.stops).2=0:=hV 0 (by decide);have h8:(jX T.paths T.stops.length).2=0:=hV 8 (by decide);refine⟨Fy h0,?_,h8,?_⟩
 ·unfold jX at h8;split at h8
  ·omega
  ·exact En h8
 ·unfold jX at h8;split at h8
  ·omega
  ·omega
theorem On{l:List Path}{n:Nat}(hn:n≤64)(hl:l.length≤4096)(h:Sound l n):jB [.rs 4 (l.map Path.pv),.int .i64 n]=some (.rs 4 ((cR l n).map Path.pv)):=by have:=Nw.Q5 (l.map toFp) n hn (by rw[BY];omega) (fun p hp=>by obtain⟨q,hq,rfl⟩:=alC.1 hp;have:=h q hq;simp only[toFp];omega);rw[Oo h,←Nw.B2,C9 _ (Nw.IV n _ _)]at this;exact this
theorem IW(hV:cA T)(gT:T.Ok):kV [.rs 4 (T.paths.map Path.pv),.int .i64 (T.stops.length:Int)]=some (.aG [.rs 4 ((cR T.paths T.stops.length).map Path.pv),.int .i64 0])∧qD [.rs 4 (T.paths.map Path.pv),.int .i64 (T.stops.length:Int)]=some (.aG [.rs 4 ((cR T.paths T.stops.length).map Path.pv),.int .i64 0]):=by
 obtain⟨gW,hs,h8,ala⟩:=AK hV;have hmx:maxLen=9223372036854775807:=rfl;have hp:=Le T.paths T.stops.length (by omega);have hr:=Oq T.paths T.stops.length (by omega);have ab6:∀a b:Int,bR 2 (res a b)=some [.int .i64 a,.int .i64 b]:=fun a b=>rfl;constructor
 ·simp only[kV,ux,YA,WO,U];rw[acB (by simp;omega),hp];simp only[U,ab6,adz,aiJ,WO,h8];rw[acB (by simp),acB (show¬(0:Int)>(T.stops.length:Int) by omega),(Fz gW (by omega) hs).1];rfl
 ·simp only[qD,AL,YA,WO,U];rw[acB (by simp;omega),hr];simp only[U,ab6,adz,aiJ,WO,h8];rw[acB (by simp),On gW (by omega) hs];rfl
end
def noN:PV:=.agg [.rs 0 [],.rs 0 [],.rs 0 [],.rs 0 [],.rs 0 [],.rs 0 [],.int .i64 0,.int .i64 0,.int .i64 0]
theorem adk:Ab.asAgg 9 noN=some ():=rfl
section
variable {T:aj}
theorem Ot(hV:cA T)(gT:T.Ok)(hT:pH T){l:List aY}(hk:∀r∈l,cJ T r=true)(hl:l.length≤1024)(hn:(aR T l l.length).length≤1024):(iJ T l).Ok∧agI (iJ T l):=by
 have hmx:maxLen=9223372036854775807:=rfl;obtain⟨gW,hs,_,_⟩:=AK hV;have ajh:T.ai.length≤64:=by
  have h1:(dR T.ai).2=0:=hV 1 (by decide);unfold dR at h1;split at h1
  ·omega
  ·omega
 have ajW:T.aB.length≤16:=by have h9:(cT T.aB T.aZ T.within T.cap).2=0:=hV 9 (by decide);unfold cT at h9;grind
 have SV:∀r∈l,r.Ok∧r.calls.length≤32:=fun r hr=>by
  obtain⟨hd,i,k,x,cs,hx,er,JZ,hki⟩:=El hV (hk r hr);obtain⟨m1,m2,m3⟩:=K6 hV hx;have hd':=(rH _).1 hd;have Fc:=(OF.1 hx).1;have ht:=hT.ae;have pV:=instI_len T.aU (by have:=hT.aU;omega) i;have Rb:=gT.ae.2 x (alf hx);have e5:r.calls=cs.map (wI (fp r.day)):=congrArg aY.calls er;have hlen:r.calls.length≤32:=by rw[e5,BY];exact JZ.most
  obtain⟨_,s0,s1⟩:=Hf hd;refine⟨⟨?_,(dS _).2 (by omega),?_,?_,?_,by omega,fun c hc=>?_⟩,hlen⟩
  ·rw[show r.bp=i from congrArg aY.bp er];exact(dS _).2 (by omega)
  ·rw[show r.inst=k from congrArg aY.inst er];exact(dS _).2 (by omega)
  ·rw[show r.id=x.id from congrArg aY.id er];exact Rb.id
  ·rw[show r.bV=x.bV from congrArg aY.bV er];exact(dS _).2 (by omega)
  ·rw[e5]at hc;obtain⟨y,hy,rfl⟩:=alC.1 hc;obtain⟨j,hj⟩:=als.1 hy;have hyc:=JZ.call j y hj;have w1:(wI (fp r.day) y).arr=y.arr+fp r.day:=aW (by omega) (by omega);have w2:(wI (fp r.day) y).dep=y.dep+fp r.day:=aW (by omega) (by omega);exact⟨(dS _).2 (by show _≤y.stop∧y.stop≤_;omega),(dS _).2 (by omega),(dS _).2 (by omega)⟩
 have aec:∀x∈aR T l l.length,x.Ok:=fun x hx=>by obtain⟨a,b,r,q,i,j,c,d,xa,xb,_,la,lb,_,xi,xj,rc,qd,_⟩:=(SQ hV hk hx).ends;have ha1:=(OF.1 la).1;have PL:=(OF.1 lb).1;have WN:=(OF.1 rc).1;have hj1:=(OF.1 qd).1;have h1:=(SV r (alf la)).2;have h2:=(SV q (alf lb)).2;exact⟨(dS _).2 (by omega),(dS _).2 (by omega),(dS _).2 (by omega),(dS _).2 (by omega)⟩
 have JM:=Et T.paths T.stops.length gW;have aed:∀p∈cR T.paths T.stops.length,p.Ok:=fun p hp=>by have:=yL hs p hp;exact⟨(dS _).2 (by omega),(dS _).2 (by omega),(dS _).2 (by omega)⟩
 refine⟨⟨gT.stops,gT.ai,⟨by show l.length≤_;omega,fun r hr=>(SV r hr).1⟩,⟨by show(aR T l l.length).length≤_;omega,aec⟩,⟨by show(cR T.paths T.stops.length).length≤_;omega,aed⟩,gT.aB,gT.aZ,gT.within,gT.cap⟩,⟨by show T.stops.length≤_;omega,by show T.ai.length≤_;omega,by show l.length≤_;omega,by show(aR T l l.length).length≤_;omega,by show(cR T.paths T.stops.length).length≤_;omega,by show T.aB.length≤_;omega,fun r hr=>by have:=(SV r hr).2;omega⟩⟩
end
theorem GF{T:aj}{a b:Int}(ha:kR a=true)(hb:kR b=true){n:Nat}(hn:a+n≤b+1):FA T (bA T a n)=if(aR T (bA T a n) (bA T a n).length).length>1024 then gO [] 5 else gO (aR T (bA T a n) (bA T a n).length) 0:=by unfold FA;rw[Rc ha hb hn]
theorem Vq(T:aj)(gT:T.Ok)(a b:Int):eT [T.pv,.int .i64 a,.int .i64 b]=some (.bool true):=by
 obtain⟨c,hc,hf⟩:=YD T;obtain⟨p,i,e0,hw,hv⟩:=GG T;simp only[eT,mR,Mm,Mn,Mo,Mp,Mq,Mr,Ms,Mt,Mu,Mv,Mw,yO,yP,yQ,YA,WO,U,PX,hc,bAB,J3];cases c with
 |false=>rfl
 |true=>
  have hT:=hf rfl;have hwp:=IX T gT hT.small;have hwr:=Lf T gT hT.small;rw[hw]at hwp hwr;obtain⟨l,e,h1,h2,h3,h4⟩:=Ou T hT gT a b;have hN:mi [T.pv,.int .i64 a,.int .i64 b]=some (if e0≠0 then .aG [noN,.int .i64 e0]else if e≠0 then .aG [noN,.int .i64 e]else if(aR T l l.length).length>1024 then .aG [noN,.int .i64 5]else .aG [(iJ T l).pv,.int .i64 0]):=by
   simp only[mi,wM,Mm,Mn,Mo,Mp,Mq,Mr,Ms,Mt,Mu,Mv,Mw,yO,yP,yQ,YA,WO,U,PX,hwp,ow,bt3,adz,aiJ,h1,Da,bt2];by_cases z0:e0=0
   ·rw[acB (show¬(e0 !=0)=true by simp[z0]),acB (show¬e0≠0 by simp[z0])];by_cases z1:e=0
    ·obtain⟨hV,ha,hb,sX,bQ,hl,Vr⟩:=h3 z1;rw[acB (show¬(e !=0)=true by simp[z1]),acB (show¬e≠0 by simp[z1])];have aee:∀r∈l,r.calls.length≤40:=fun r hr=>by rw[hl]at hr;exact AM hT hr
     have hn:a+((b-a+1).toNat:Int)≤b+1:=by omega
     have hk:∀r∈l,cJ T r=true:=fun r hr=>by rw[hl]at hr;exact Db ha hb hn hr
     have hlp:=Re T hT gT l Vr aee p i e0 hwp;rw[T0 z0]at hlp;have hlr:=GF (T:=T) ha hb hn;rw[←hl]at hlr;rw[hlp,hlr];by_cases My:(aR T l l.length).length>1024
     ·rw[T0 My,T0 My];rfl
     ·rw[acB My,acB My];obtain⟨bo,bf⟩:=Ot hV gT hT hk Vr (by omega);simp only[gO,bt2,U,adz,aiJ,YA,WO,BY,(IW hV gT).1,show((0:Int) !=0)=false from rfl,IN,Wi];have xJ:=Q6 _ bf;have nq:(iJ T l).pv=.agg [.rs 4 (T.stops.map Stop.pv),.rs 3 (T.ai.map az.pv),.rs 8 (l.map aY.pv),.rs 5 ((aR T l l.length).map aP.pv),.rs 4 ((cR T.paths T.stops.length).map Path.pv),.rs 6 (T.aB.map ba.pv),.int .i64 T.aZ,.int .i64 T.within,.int .i64 T.cap]:=rfl;rw[←nq,xJ];rfl
    ·rw[T0 (show(e !=0)=true by simpa using z1),T0 (show e≠0 from z1)];rfl
   ·rw[T0 (show(e0 !=0)=true by simpa using z0),T0 (show e0≠0 from z0)];rfl
  have hee:e0≠0→e=e0:=fun z0=>by simp only[lW,vJ,Mm,Mn,Mo,Mp,Mq,Mr,Ms,Mt,Mu,Mv,Mw,yO,yP,yQ,YA,WO,U,PX,hwp,ow,bt3,adz,aiJ]at h1;rw[T0 (show(e0 !=0)=true by simpa using z0)]at h1;simp only[Da,By,PV.aG.injEq,amn,PV.int.injEq,true_and,aot]at h1;exact h1.2.symm
  simp only[alc,IN,Wi,h2,Da,bt2,U,adz,aiJ,YA,WO,hN,BY];by_cases z1:e=0
  ·obtain⟨hV,ha,hb,sX,bQ,hl,Vr⟩:=h3 z1;have z0:e0=0:=al7 fun z0=>z0 (by rw[←hee z0];exact z1);subst z1;rw[show((0:Int)==0)=true from rfl];simp only[cond_true,U];by_cases h60:(decide ((l.length:Int)>60))=true
   ·rw[T0 h60]
   ·rw[acB h60];have aee:∀r∈l,r.calls.length≤40:=fun r hr=>by rw[hl]at hr;exact AM hT hr
    have hn:a+((b-a+1).toNat:Int)≤b+1:=by omega
    have hk:∀r∈l,cJ T r=true:=fun r hr=>by rw[hl]at hr;exact Db ha hb hn hr
    have agJ:l.Pairwise fun r s=>r.key≠s.key:=by rw[hl];exact Cz T a _
    have agK:=Vs T hT gT l Vr aee p i e0 hwr hv;rw[T0 z0]at agK;have hlr:=GF (T:=T) ha hb hn;rw[←hl]at hlr;rw[acB (show¬e0≠0 by simp[z0]),acB (show¬(0:Int)≠0 by simp),agK,hlr];by_cases My:(aR T l l.length).length>1024
    ·rw[T0 My,T0 My];rfl
    ·rw[acB My,acB My];obtain⟨bo,bf⟩:=Ot hV gT hT hk Vr (by omega);have ab6:=Vn hV hk agJ Vr (by omega);have Vt:=YE (iJ T l) bo (by have:=Et T.paths T.stops.length (AK hV).1;exact this);have heq:=Vu (iJ T l) (iJ T l) bo;have nq:(iJ T l).pv=.agg [.rs 4 (T.stops.map Stop.pv),.rs 3 (T.ai.map az.pv),.rs 8 (l.map aY.pv),.rs 5 ((aR T l l.length).map aP.pv),.rs 4 ((cR T.paths T.stops.length).map Path.pv),.rs 6 (T.aB.map ba.pv),.int .i64 T.aZ,.int .i64 T.within,.int .i64 T.cap]:=rfl;rw[ab6,YF]at*;simp only[gO,bt2,U,adz,aiJ,YA,WO,Cd,(IW hV gT).2,show((0:Int) !=0)=false from rfl,IN,Wi];have h9:PV.agg [cell (iJ T l).pv 0,cell (iJ T l).pv 1,cell (iJ T l).pv 2,cell (iJ T l).pv 3,cell (iJ T l).pv 4,cell (iJ T l).pv 5,cell (iJ T l).pv 6,cell (iJ T l).pv 7,cell (iJ T l).pv 8]=(iJ T l).pv:=rfl;rw[←nq,h9,heq,Vt];rfl
  ·have hz:(bif e==0 then some (decide ((l.length:Int)>60))else some false)=some false:=by rw[show(e==0)=false by simpa using z1];rfl
   rw[hz];simp only[U,IN,Wi];by_cases z0:e0=0
   ·rw[acB (show¬e0≠0 by simp[z0]),T0 (show e≠0 from z1)];simp only[bt2,U,adz,aiJ,adk,WO];rw[T0 (show(e !=0)=true by simpa using z1),an6];rfl
   ·rw[T0 (show e0≠0 from z0),←hee z0];simp only[bt2,U,adz,aiJ,adk,WO];rw[T0 (show(e !=0)=true by simpa using z1),an6];rfl
theorem Vv(T:aj)(a b:Int)(gT:T.Ok)(ha:oz a)(hb:oz b):eT [T.pv,.int .i64 a,.int .i64 b]=some (.bool true):=Vq T gT a b
end Go.Ab.Tt
