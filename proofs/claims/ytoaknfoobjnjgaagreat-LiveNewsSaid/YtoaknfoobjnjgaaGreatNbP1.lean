import Derived.Test.YtoaknfoobjnjgaaGreatNkP2
import Derived.Test.YtoaknfoobjnjgaaGreatRnP2
namespace Go.Ab.Nw
set_option maxRecDepth 100000
set_option linter.all false
variable{i:Nat}
theorem zw{inf n j:Nat}{E:List Ed}(hE:∀y∈E,y.f<n∧y.t<n)(hi:i<n)(hj:j<n):dk n (start inf E) n i j≤inf∧(dk n (start inf E) n i j<inf→iZ (ew E) i j (dk n (start inf E) n i j))∧∀L,iZ (ew E) i j L→dk n (start inf E) n i j≤L:=by have hd:=(DH (n:=n) (inf:=inf) E).rounds n (aoa _);refine⟨hd.fw.top i j hi hj,hd.fw.real i j hi hj,fun L hL=>?_⟩;obtain⟨C,c1,c2⟩:=hL.via (n:=n) (fun a b c h=>(hE _ h).1);exact aov (hd.low i j hi hj C c2) c1
theorem aay{w w':Nat→Nat→Nat→Prop}(h:∀i j c,w i j c→iZ w' i j c){j L:Nat}(hw:iZ w i j L):iZ w' i j L:=by
 induction hw with
 |A9 e=>exact h _ _ _ e
 |snoc _ e ih=>exact ih.join (h _ _ _ e)
theorem aaz{inf n M:Nat}{E E':List Ed}(hM:M<inf)(hE:∀y∈E,y.f<n∧y.t<n)(hE':∀y∈E',y.f<n∧y.t<n)(h1:∀y∈E',iZ (ew E) y.f y.t y.c){j:Nat}(hi:i<n)(hj:j<n)(h2:dk n (start inf E) n i j≤M→(⟨i,j,dk n (start inf E) n i j⟩:Ed)∈E'):dk n (start inf E') n i j=dk n (start inf E) n i j∨(M<dk n (start inf E) n i j∧M<dk n (start inf E') n i j):=by
 obtain⟨a1,a2,a3⟩:=zw (inf:=inf) hE hi hj;obtain⟨b1,b2,b3⟩:=zw (inf:=inf) hE' hi hj;have hle:dk n (start inf E) n i j≤dk n (start inf E') n i j:=by
  by_cases h:dk n (start inf E') n i j<inf
  ·exact a3 _ (aay (fun a b c hc=>h1 _ hc) (b2 h))
  omega
 by_cases h:dk n (start inf E) n i j≤M
 ·have:=b3 _ (.A9 (h2 h));omega
 omega
theorem agn{w f:Int}{k:Nat}{e:List PV}(h:e∈PU w f i k):i≠k∧w≤14400∧((e=NR i k w (f==w))∨(e=NR i k f true∧w<f∧f≤14400)):=by unfold PU at h;grind
theorem aaA{w f w' f':Int}(hw:w'=w∨(14400<w∧14400<w'))(hf:f'=f∨(14400<f∧14400<f'))(i k:Nat):PU w' f' i k=PU w f i k:=by
 unfold PU;by_cases h:i=k∨w>14400
 ·grind
 ·rw[QU h,QU (by omega)];have hw':w'=w:=by omega
  subst hw';rcases hf with rfl|hf
  ·rfl
  ·rw[QU (by omega),QU (by omega)];have e1:(f'==w')=false:=by grind
   have e2:(f==w')=false:=by grind
   rw[e1,e2]
end Go.Ab.Nw
namespace Go.Ab.Tt
theorem Bl{A B:Type}[DecidableEq B]{l:List A}{f:A→B}(h:l.Pairwise fun a b=>f a≠f b){k:Nat}(hk:k<l.length):f l[k]∉(l.map f).take k:=by
 rw[aoh];rintro⟨j,hj⟩;have hjk:j<k:=by grind
 rw[apJ hjk,AT,ta (by omega)]at hj;exact aoH.1 h j k (by omega) hk hjk (by simpa using hj)
section
variable {l:List Path} {n:Nat}
variable{W F:Nat→Nat→Int}
theorem JL{p:Path}(h:p∈(Nw.Bm n W F).map tI):∃i k,i<n∧k<n∧i≠k∧W i k≤14400∧(p=⟨i,k,W i k,F i k==W i k⟩∨(p=⟨i,k,F i k,true⟩∧W i k<F i k∧F i k≤14400)):=by
 obtain⟨e,he,rfl⟩:=aoi.1 h;obtain⟨i,hi,he⟩:=aoE.1 he;obtain⟨k,hk,he⟩:=aoE.1 he;obtain⟨h1,h2,h3⟩:=Nw.agn he;refine⟨i,k,aoA.1 hi,aoA.1 hk,h1,h2,?_⟩;rcases h3 with rfl|⟨rfl,h3⟩
 ·exact .inl rfl
 ·exact .inr ⟨rfl,h3⟩
variable{i k:Nat}
theorem PW(hi:i<n)(hk:k<n)(SS:i≠k)(hW:W i k≤14400):(⟨i,k,W i k,F i k==W i k⟩:Path)∈(Nw.Bm n W F).map tI∧(W i k<F i k→F i k≤14400→(⟨i,k,F i k,true⟩:Path)∈(Nw.Bm n W F).map tI):=by
 have k8:∀e∈Nw.PU (W i k) (F i k) i k,e∈Nw.Bm n W F:=fun e he=>aoE.2 ⟨i,aoA.2 hi,aoE.2 ⟨k,aoA.2 hk,he⟩⟩;have hit:Nw.PU (W i k) (F i k) i k=Nw.NR i k (W i k) (F i k==W i k)::(if F i k>W i k∧F i k≤14400 then[Nw.NR i k (F i k) true]else[]):=by simp_all[Nw.PU,QU]
 refine⟨aoi.2 ⟨_,k8 (Nw.NR i k (W i k) (F i k==W i k)) (by rw[hit];simp),rfl⟩,fun h1 h2=>aoi.2 ⟨_,k8 (Nw.NR i k (F i k) true) (by simp_all),rfl⟩⟩
theorem pg{l:List Path}{fr:Bool}{y:Nw.Ed}:y∈Nw.counted fr (l.map toFp)↔∃p∈l,(fr=true→p.free=true)∧y=⟨p.a.toNat,p.b.toNat,p.qi.toNat⟩:=by
 unfold Nw.counted;simp only[aoi,aok];constructor
 ·rintro⟨q,⟨⟨p,hp,rfl⟩,hf⟩,rfl⟩;exact⟨p,hp,fun h=>by simpa[h,toFp]using hf,rfl⟩
 ·rintro⟨p,hp,hf,rfl⟩;refine⟨toFp p,⟨⟨p,hp,rfl⟩,?_⟩,rfl⟩;cases fr with
  |false=>rfl
  |true=>simp[toFp,hf rfl]
theorem uO(h:Sound l n)(fr:Bool):∀y∈Nw.counted fr (l.map toFp),y.f<n∧y.t<n∧1≤y.c:=by intro y hy;obtain⟨p,hp,_,rfl⟩:=pg.1 hy;have:=h p hp;grind
theorem aaB(h:Sound l n)(fr:Bool)(hi:i<n)(hk:k<n):1≤Nw.fQ n (l.map toFp) fr i k:=by
 obtain⟨a1,a2,a3⟩:=Nw.zw (inf:=Nw.rU) (fun y hy=>⟨(uO h fr y hy).1,(uO h fr y hy).2.1⟩) hi hk;unfold Nw.fQ;by_cases bF:Nw.dk n (Nw.start Nw.rU (Nw.counted fr (l.map toFp))) n i k<Nw.rU
 ·have:=(a2 bF).pos fun a b c hc=>(uO h fr _ hc).2.2;omega
 grind
theorem ad3(h:Sound l n)(hi:i<n)(hk:k<n):Nw.fQ n (l.map toFp) false i k≤Nw.fQ n (l.map toFp) true i k:=by
 obtain⟨a1,a2,a3⟩:=Nw.zw (inf:=Nw.rU) (fun y hy=>⟨(uO h false y hy).1,(uO h false y hy).2.1⟩) hi hk;obtain⟨b1,b2,b3⟩:=Nw.zw (inf:=Nw.rU) (fun y hy=>⟨(uO h true y hy).1,(uO h true y hy).2.1⟩) hi hk;unfold Nw.fQ;by_cases bF:Nw.dk n (Nw.start Nw.rU (Nw.counted true (l.map toFp))) n i k<Nw.rU
 ·have:=a3 _ ((b2 bF).mono fun a b c hc=>by obtain⟨p,hp,_,e⟩:=pg.1 hc;exact pg.2 ⟨p,hp,(fun h=>by cases h),e⟩);omega
 omega
theorem zl(h:Sound l n):Sound (dS l n) n:=by intro p hp;obtain⟨i,k,hi,hk,SS,hW,hp⟩:=JL hp;have h1:=aaB h false hi hk;grind
theorem SU(h:Sound l n)(fr:Bool)(hi:i<n)(hk:k<n)(SS:i≠k):Nw.fQ n ((dS l n).map toFp) fr i k=Nw.fQ n (l.map toFp) fr i k∨(14400<Nw.fQ n (l.map toFp) fr i k∧14400<Nw.fQ n ((dS l n).map toFp) fr i k):=by
 have ai9:Nw.rU=1099511627776:=rfl;have hE:∀fr,∀y∈Nw.counted fr (l.map toFp),y.f<n∧y.t<n:=fun fr y hy=>⟨(uO h fr y hy).1,(uO h fr y hy).2.1⟩;have hE':∀fr,∀y∈Nw.counted fr ((dS l n).map toFp),y.f<n∧y.t<n:=fun fr y hy=>⟨(uO (zl h) fr y hy).1,(uO (zl h) fr y hy).2.1⟩;have wT:∀i k,i<n→k<n→Nw.fQ n (l.map toFp) true i k≤14400→Nw.iZ (Nw.ew (Nw.counted true (l.map toFp))) i k (Nw.fQ n (l.map toFp) true i k).toNat:=fun i k hi hk hle=>by obtain⟨b1,b2,b3⟩:=Nw.zw (inf:=Nw.rU) (hE true) hi hk;grind [Nw.fQ,Int.toNat_natCast]
 have wF:∀i k,i<n→k<n→Nw.fQ n (l.map toFp) false i k≤14400→Nw.iZ (Nw.ew (Nw.counted false (l.map toFp))) i k (Nw.fQ n (l.map toFp) false i k).toNat:=fun i k hi hk hle=>by obtain⟨b1,b2,b3⟩:=Nw.zw (inf:=Nw.rU) (hE false) hi hk;grind [Nw.fQ,Int.toNat_natCast]
 have sub:∀a b c,Nw.ew (Nw.counted true (l.map toFp)) a b c→Nw.ew (Nw.counted false (l.map toFp)) a b c:=fun a b c hc=>by obtain⟨p,hp,_,e⟩:=pg.1 hc;exact pg.2 ⟨p,hp,(fun h=>by cases h),e⟩
 have key:=Nw.aaz (inf:=Nw.rU) (M:=14400) (E:=Nw.counted fr (l.map toFp)) (E':=Nw.counted fr ((dS l n).map toFp)) (by omega) (hE fr) (hE' fr) (fun y hy=>by
  obtain⟨p,hp,hf,rfl⟩:=pg.1 hy;obtain⟨i,k,hi,hk,SS,hW,hp⟩:=JL hp;rcases hp with rfl|⟨rfl,h3,h4⟩
  ·cases fr with
   |false=>exact wF i k hi hk hW
   |true=>
    have e:Nw.fQ n (l.map toFp) true i k=Nw.fQ n (l.map toFp) false i k:=by simpa using hf rfl
    have:=wT i k hi hk (by omega);simp_all
  ·cases fr with
   |true=>exact wT i k hi hk h4
   |false=>exact(wT i k hi hk h4).mono sub) hi hk (fun hle=>by
  have aja:Nw.fQ n (l.map toFp) fr i k≤14400:=by unfold Nw.fQ;omega
  have e:Nw.dk n (Nw.start Nw.rU (Nw.counted fr (l.map toFp))) n i k=(Nw.fQ n (l.map toFp) fr i k).toNat:=by rfl
  rw[e];have h0:=ad3 h hi hk;cases fr with
  |false=>exact pg.2 ⟨_,(PW hi hk SS aja).1,(fun h=>by cases h),by rfl⟩
  |true=>
   have hc:=PW (W:=Nw.fQ n (l.map toFp) false) (F:=Nw.fQ n (l.map toFp) true) hi hk SS (by omega);by_cases heq:Nw.fQ n (l.map toFp) true i k=Nw.fQ n (l.map toFp) false i k
   ·exact pg.2 ⟨_,hc.1,fun _=>by simp[heq],by simp_all⟩
   ·exact pg.2 ⟨_,hc.2 (by omega) aja,fun _=>rfl,by rfl⟩)
 grind [Nw.fQ]
theorem PX(h:Sound l n):dS (dS l n) n=dS l n:=by
 show(Nw.Bm n (Nw.fQ n ((dS l n).map toFp) false) (Nw.fQ n ((dS l n).map toFp) true)).map tI=(Nw.Bm n (Nw.fQ n (l.map toFp) false) (Nw.fQ n (l.map toFp) true)).map tI;congr 1;unfold Nw.Bm;rw[aps,aps];congr 1;apply aoB;intro i hi;rw[aps,aps];congr 1;apply aoB;intro k hk;have hi:=aoA.1 hi;have hk:=aoA.1 hk;by_cases SS:i=k
 ·simp_all[Nw.PU,No]
 grind [Nw.aaA,SU]
theorem Xx(l:List Path)(n:Nat):(dS l n).Pairwise fun a b=>bG a≠bG b:=by
 unfold dS;rw[aqH];have key:∀{i k:Nat}{w f:Int}{e:List PV},e∈Nw.PU w f i k→∃s b,tI e=⟨i,k,s,b⟩:=fun h=>by obtain⟨s,b,rfl⟩:=Nw.Cz h;exact⟨s,b,rfl⟩
 unfold Nw.Bm;rw[apc];refine⟨fun i _=>?_,List.pairwise_lt_range.imp fun{i i'}hii x hx y hy=>?_⟩
 ·rw[apc];refine⟨fun k _=>?_,List.pairwise_lt_range.imp fun{k k'}xU x hx y hy=>?_⟩
  ·unfold Nw.PU;split
   ·simp
   ·split
    ·rename_i hf;simp only[aoX,apg,forall_eq,aqP,false_implies,implies_true,List.Pairwise.nil,ark];intro h;have:(Nw.fQ n (l.map toFp) true i k==Nw.fQ n (l.map toFp) false i k)=true:=by simp_all[bG,tI,Nw.NR,afu]
     simp_all
    simp
  ·obtain⟨s,b,e⟩:=key hx;obtain⟨s',b',e'⟩:=key hy;rw[e,e'];simp only[bG,arn,afu];omega
 ·obtain⟨k,_,hx⟩:=aoE.1 hx;obtain⟨k',_,hy⟩:=aoE.1 hy;obtain⟨s,b,e⟩:=key hx;obtain⟨s',b',e'⟩:=key hy;rw[e,e'];simp only[bG,arn,afu];omega
theorem ad4(l:List Path)(n:Nat):∀p∈dS l n,p.a≠p.b:=by intro p hp;obtain⟨i,k,hi,hk,SS,hW,hp⟩:=JL hp;grind
theorem aaC(h:Sound l n):(rV (dS l n) n).2=0:=by
 have hz:(cE (eB (dS l n) n) (dS l n).length).2=0:=(uP _ _).2 fun k hk=>by unfold eB;rw[ta hk];simp only;have hs:=zl h _ (an7 hk);have bU:=ad4 l n _ (an7 hk);simp_all[QU,aon,tc,Bl,Xx]
 simp_all[rV,No,zx,PX]
end
section
variable {T:aj} {l:List bg}
structure NS(n:Nat)(cs:List aJ):Prop where
 two:2≤cs.length
 most:cs.length≤32
 call:∀(k:Nat)(c:aJ),cs[k]?=some c→0≤c.stop∧c.stop<(n:Int)∧0≤c.arr∧c.arr≤c.dep∧c.dep≤172800
 step:∀(k:Nat)(c d:aJ),cs[k]?=some c→cs[k+1]?=some d→c.dep≤d.arr∧c.stop≠d.stop
theorem SV(hV:cz T){i:Nat}{x:bj}(hx:T.ae[i]?=some x){s:Int}(hs:s∈instI T.aU i):NS T.stops.length (bl x.calls s):=by
 have ht:=kR hV hx;have he:=SX hV hx hs;have h2:=ht.two;unfold bl;rw[No he];obtain⟨c0,cs,hc⟩:∃c0 cs,x.calls=c0::cs:=by
  cases hc:x.calls with
  |nil=>simp_all
  |cons c0 cs=>simp
 have ZJ:(x.calls.map aJ.dep).headD 0=c0.dep:=by rw[hc];rfl
 rw[ZJ];have hb:=(JM c0 cs s).1 (by rw[←hc];omega);rw[←hc]at hb;refine⟨by simp_all,by rw[te];exact ht.most,fun k c h=>?_,fun k c d h h'=>?_⟩
 ·rw[AT]at h;obtain⟨y,hy,rfl⟩:=alj.1 h;have h1:=ht.call k y hy;grind [F9]
 ·rw[AT]at h h';obtain⟨y,hy,rfl⟩:=alj.1 h;obtain⟨z,hz,rfl⟩:=alj.1 h';have h1:=ht.step k y z hy hz;simp only[F9];omega
theorem aaD{c:aJ}{p:Option aJ}{n lo hi:Int}(h1:0≤c.stop)(h2:c.stop<n)(h3:lo≤c.arr)(h4:c.arr≤c.dep)(h5:c.dep≤hi)(h6:∀q,p=some q→q.dep≤c.arr∧q.stop≠c.stop):Hk c p n lo hi=0:=by unfold Hk;grind
theorem Xy{n:Nat}{cs:List aJ}(h:NS n cs){d:Int}(hd:lC d=true):(lD (cs.map (yC (fP d))) n 0 3155932800).2=0:=by
 obtain⟨e,h0,h1⟩:=HZ hd;have h2:=h.two;have h3:=h.most;unfold lD;rw[QU (by grind)];refine(uP _ _).2 fun k hk=>?_;rw[te]at hk;unfold zy;rw[AT,ta hk];simp only[IS];have hc:=h.call k _ (ta hk);have w0:(yC (fP d) cs[k]).stop=cs[k].stop:=rfl;have w1:(yC (fP d) cs[k]).arr=cs[k].arr+fP d:=aY (by omega) (by omega);have w2:(yC (fP d) cs[k]).dep=cs[k].dep+fP d:=aY (by omega) (by omega);refine aaD (by omega) (by omega) (by omega) (by omega) (by omega) fun q hq=>?_;cases k with
 |zero=>cases hq
 |succ j=>
  have hj:j<cs.length:=by omega
  have hs:=h.step j _ _ (ta hj) (ta hk);have hcj:=h.call j _ (ta hj);have w3:(yC (fP d) cs[j]).dep=cs[j].dep+fP d:=aY (by omega) (by omega);have w4:(yC (fP d) cs[j]).stop=cs[j].stop:=rfl;have hp:JN (cs.map (yC (fP d))) (j+1)=some (yC (fP d) cs[j]):=by show(cs.map _)[j]?=_;simp_all
  simp_all
theorem L8(hV:cz T){i:Nat}{x:bj}(hx:T.ae[i]?=some x):fR x.id=true∧0≤x.bX∧x.bX<(T.ao.length:Int):=by
 have h4:(mO T.ae T.stops.length T.ao.length T.dK.length).2=0:=hV 4 (by omega);unfold mO at h4;split at h4
 ·omega
 ·have he:=jX _ _ h4 i (IN.1 hx).1;unfold zz at he;grind
variable{r:bg}
theorem ER(hV:cz T)(hk:cN T r=true):lC r.day=true∧∃(i k:Nat)(x:bj)(cs:List aJ),T.ae[i]?=some x∧r=bY x i r.day k cs∧NS T.stops.length cs∧k≤(instI T.aU i).length:=by
 unfold cN at hk;rw[aeu,tc]at hk;obtain⟨i,x,hx,hi,hm⟩:=H3.1 hk.2;refine⟨hk.1,?_⟩;have ht:=kR hV hx;unfold dx at hm;split at hm
 ·cases hm
 ·split at hm
  ·simp only[apg]at hm;exact⟨i,0,x,x.calls,hx,hm,⟨ht.two,ht.most,ht.call,ht.step⟩,aqN _⟩
  grind [SV,List.getElem?_eq_getElem,List.getElem_mem]
theorem Xz(hV:cz T)(hk:∀r∈l,cN T r=true)(hp:l.Pairwise fun r s=>r.key≠s.key):l.Pairwise fun r s=>kS r≠kS s:=by
 refine aoW (R:=fun r s=>r.key≠s.key) (fun{r s}hr hs bU e=>bU ?_) hp;obtain⟨_,i,k,x,cs,hx,er,_⟩:=ER hV (hk r hr);obtain⟨_,j,k',y,O1,hy,es,_⟩:=ER hV (hk s hs);simp only[kS,afu]at e;obtain⟨e1,e2,e3⟩:=e;have hid:x.id=y.id:=by rw[er,es]at e1;exact e1
 have Zq:=ad5 hV hx hy hid;have t1:r.bn=i:=by rw[er];rfl
 have t2:s.bn=j:=by rw[es];rfl
 grind [bg.key,Prod.mk.injEq]
theorem aaE(hV:cz T)(hk:∀r∈l,cN T r=true)(hp:l.Pairwise fun r s=>r.key≠s.key)(hl:l.length≤1024):(zA l T.stops.length T.ao.length).2=0:=by
 unfold zA;rw[QU (by omega)];refine(uP _ _).2 fun k uF=>?_;unfold xo;rw[ta uF];simp only;obtain⟨hd,i,m,x,cs,hx,er,M7,_⟩:=ER hV (hk _ (an7 uF));obtain⟨m1,m2,m3⟩:=L8 hV hx;have hd':=(rR _).1 hd;have e1:l[k].id=x.id:=by rw[er];rfl
 have e2:l[k].bn=i:=by rw[er];rfl
 have e3:l[k].inst=m:=by rw[er];rfl
 have e4:l[k].bX=x.bX:=by rw[er];rfl
 have e5:l[k].calls=cs.map (yC (fP l[k].day)):=congrArg bg.calls er;have hc:=Xy M7 hd;rw[←e5]at hc;rw[QU (by rw[e1,m1];simp),QU (by grind),QU (by grind),QU (by grind),No hc,QU (Bl (Xz hV hk hp) uF)]
theorem Md(hV:cz T){k:Nat}(hk:k<T.cw.length):T.cw[k].a≠T.cw[k].b∧T.cw[k].a∉(T.cw.map gC.a).take k∧T.cw[k].b∉(T.cw.map gC.b).take k∧T.cw[k].a∉grow (T.cw.take k) k [] T.cw[k].b:=by
 have h6:(pj T.cw T.ae T.aU).2=0:=hV 6 (by omega);obtain⟨hp,kF⟩:=CA hV (an7 hk);obtain⟨i,j,hi,hj,I0,tf⟩:=zB _ _ T.ae hp;have bU:T.cw[k].a≠T.cw[k].b:=by simp_all[ob,aoC,aoP]
 unfold pj at h6;split at h6
 ·omega
 ·have he:=jX _ _ h6 k hk;unfold Bn at he;grind
def SY(x:gC):aR:=⟨x.a,0,x.b,0,true⟩
theorem XA(p:List gC)(x:gC)(v:Int):dN (p++[x]) v=(dN p v).or (if x.a=v then some x.b else none):=by unfold dN;grind
theorem PY(p:List gC):∀n pre last y,y∈pre++[last]→y∈grow p n pre last
 |0,pre,last,y,h=>h
 |n+1,pre,last,y,h=>by
  unfold grow;split
  ·exact h
  ·split
   ·exact h
   ·exact PY p n _ _ y (aq4 _ h)
theorem UD(p:List gC)(ρ:Int→Nat)(hρ:∀v w,dN p v=some w→ρ w<ρ v):∀n pre last t a,(∀y∈pre++[last],ρ last≤ρ y)→t≤n→it (dN p) t last=some a→a∈grow p n pre last
 |n,pre,last,0,a,_,_,h=>by simp_all[it,PY]
 |0,_,_,t+1,_,_,h,_=>by omega
 |n+1,pre,last,t+1,a,W3,ht,h=>by
  obtain⟨m,hm,h⟩:=By.1 (show(dN p last).bind (it (dN p) t)=some a from h);have bF:=hρ _ _ hm;have hnm:m∉pre++[last]:=fun k8=>by grind
  unfold grow;rw[hm];simp only;rw[QU hnm];refine UD p ρ hρ n (pre++[last]) m t a (fun y hy=>?_) (by omega) h;grind
theorem aaF(hV:cz T):∀k,k≤T.cw.length→(∀v,nx ((T.cw.take k).map SY) v=dN (T.cw.take k) v)∧Bo (nx ((T.cw.take k).map SY))
 |0,_=>⟨fun v=>rfl,JO⟩
 |k+1,hk=>by
  obtain⟨h1,h2⟩:=aaF hV k (by omega);obtain⟨f1,f2,f3,f4⟩:=Md hV (show k<T.cw.length by omega);have He:dN (T.cw.take k) T.cw[k].a=none:=by
   unfold dN;rw[Option.map_eq_none_iff,ap9];intro y hy;have:y.a∈(T.cw.map gC.a).take k:=by rw[←aqq];grind
   grind
  rw[aom (by omega),aos];refine⟨fun v=>?_,Hl h2 (SY T.cw[k]) (.inr ⟨f1,by rw[h1];exact He,?_⟩)⟩
  ·grind [nx,SY,zC,XA]
  ·obtain⟨ρ,hρ⟩:=h2;have hlen:((T.cw.take k).map SY).length=k:=by simp;omega
   have hf:nx ((T.cw.take k).map SY)=dN (T.cw.take k):=funext h1;unfold zD;rw[apd];intro t ht;have ht:=aoA.1 ht;simp only[tc];intro hit;have hle:t+1≤k:=by have:=JP ⟨ρ,hρ⟩ ((T.cw.take k).map gC.a) (fun v w hvw=>by obtain⟨y,hy,_,hya,_⟩:=SZ hvw;obtain⟨z,hz,rfl⟩:=aoi.1 hy;exact aoi.2 ⟨z,hz,hya⟩) (t+1) (SY T.cw[k]).b (by rw[hit];simp);simp_all
   rw[hf]at hit hρ;exact f4 (UD _ ρ hρ k [] T.cw[k].b (t+1) T.cw[k].a (fun y hy=>by simp_all) hle hit)
theorem S1(hV:cz T):∃ρ:Int→Nat,∀v w,dN T.cw v=some w→ρ w<ρ v:=by obtain⟨h1,ρ,hρ⟩:=aaF hV T.cw.length (aoa _);rw[aoJ]at h1 hρ;exact⟨ρ,fun v w h=>hρ v w (by rw[h1];omega)⟩
theorem ad6(hV:cz T){s t n:Int}(hs:dN T.cw s=some n)(ht:dN T.cw t=some n):s=t:=by
 have key:∀{v:Int},dN T.cw v=some n→∃i,∃h:i<T.cw.length,T.cw[i].a=v∧T.cw[i].b=n:=fun{v}h=>by unfold dN at h;obtain⟨y,hy,hb⟩:=alj.1 h;obtain⟨i,hi,rfl⟩:=aqv (apm hy);grind
 obtain⟨i,hi,ia,ib⟩:=key hs;obtain⟨j,hj,ja,jb⟩:=key ht;have no:∀{i j:Nat}(hi:i<T.cw.length)(hj:j<T.cw.length),T.cw[i].b=T.cw[j].b→¬i<j:=fun{i j}hi hj e h=>(Md hV hj).2.2.1 (by rw[aoh];exact⟨i,by simp_all⟩);grind
variable{x:aR}
theorem Ga{a:Nat}(hx:cF T l a r=some x):∃(n:Int)(b:Nat)(q:bg),dN T.cw r.bn=some n∧x.b=b∧l[b]?=some q∧q.key=(n,r.day,0):=by unfold cF at hx;obtain⟨n,hn,hx⟩:=By.1 hx;obtain⟨b,hb,hx⟩:=alj.1 hx;obtain⟨_,q,hq,R8⟩:=uQ hb;grind
theorem NT(hV:cz T)(hk:∀r∈l,cN T r=true){m:Nat}(hx:x∈aN T l m)(hs:x.stay=true):∃(a:Nat)(r:bg),l[a]?=some r∧x.a=a∧cF T l a r=some x:=by
 obtain⟨a,_,hx⟩:=aoE.1 hx;unfold lE at hx;cases ha:l[a]? with
 |none=>rw[ha]at hx;cases hx
 |some r=>
  rw[ha]at hx;simp only[fS,aol,apT]at hx;rcases hx with hx|⟨g,hg,hx⟩
  ·cases fo:cF T l a r with
   |none=>rw[fo]at hx;cases hx
   |some z=>rw[fo]at hx;simp only[aqB,apg]at hx;subst hx;exact⟨a,r,ha,(H4 hV hk ha fo).2.1,fo⟩
  ·exfalso;unfold mz at hx;split at hx
   ·obtain⟨b,_,hx⟩:=By.1 hx;grind
   ·cases hx
theorem XB(hV:cz T)(hk:cN T r=true){n:Int}(hn:dN T.cw r.bn=some n):r.inst=0:=by
 unfold dN at hn;obtain⟨y,hy,hyb⟩:=alj.1 hn;have hya:y.a=r.bn:=by grind
 obtain⟨_,kF⟩:=CA hV (apm hy);have hra:qM T.aU y.a=false:=by simp_all[gS,aoC]
 obtain⟨_,i,x,_,_,e⟩:=qN hk (by rw[←hya];omega);rw[e];rfl
theorem ad7(hp:l.Pairwise fun r s=>r.key≠s.key){a b:Nat}{s:bg}(ha:l[a]?=some r)(hb:l[b]?=some s)(h:r.key=s.key):a=b:=by obtain⟨ha1,ha2⟩:=IN.1 ha;obtain⟨Rb,td⟩:=IN.1 hb;have h1:¬a<b:=fun sn=>aoH.1 hp a b ha1 Rb sn (by rw[ha2,td,h]);have h2:¬b<a:=fun sn=>aoH.1 hp b a Rb ha1 sn (by rw[ha2,td,h]);omega
theorem XC(hV:cz T)(hk:∀r∈l,cN T r=true)(hp:l.Pairwise fun r s=>r.key≠s.key){m:Nat}{y:aR}(hx:x∈aN T l m)(hy:y∈aN T l m)(IL:x.stay=true)(hys:y.stay=true)(h:x.a=y.a∨x.b=y.b):x=y:=by
 obtain⟨a,r,ha,hxa,fo⟩:=NT hV hk hx IL;obtain⟨a',r',ha',hya,amP⟩:=NT hV hk hy hys;have haa:a=a':=by
  rcases h with h|h
  ·omega
  ·obtain⟨n,b,q,hn,hb,hq,R8⟩:=Ga fo;obtain⟨n',b',q',T4,jn,IM,anY⟩:=Ga amP;have hbb:b=b':=by omega
   grind [Prod.mk.injEq,ad6,ad7,bg.key,XB,List.mem_of_getElem?]
 simp_all
theorem UE{f:Int→Option Int}{ρ:Int→Nat}(hf:∀v w,f v=some w→ρ w<ρ v):∀m v w,it f (m+1) v=some w→ρ w<ρ v
 |0,v,w,h=>by simp_all[it]
 |m+1,v,w,h=>by obtain⟨u,hu,h⟩:=By.1 (show(f v).bind (it f (m+1))=some w from h);have:=UE hf m u w h;grind
theorem XD(hV:cz T)(hk:∀r∈l,cN T r=true)(hp:l.Pairwise fun r s=>r.key≠s.key)(hl:(aN T l l.length).length≤1024):(uR l (aN T l l.length)).2=0:=by
 unfold uR;rw[QU (by omega)];refine(uP _ _).2 fun k uF=>?_;have aff:=aaG hV hk l.length;generalize hL:aN T l l.length=L at*;have bk:∀y∈L,y∈aN T l l.length:=fun y hy=>by rw[hL];omega
 unfold lF;rw[ta uF];simp only;obtain⟨a,b,r,q,i,j,c,d,xa,xb,sn,la,lb,ajb,xi,xj,rc,qd,anF,anG,fo⟩:=(Uy hV hk (bk _ (an7 uF))).ends;have ha1:=(IN.1 la).1;have Rb:=(IN.1 lb).1;have hi1:=(IN.1 rc).1;have hj1:=(IN.1 qd).1;have ca:db l L[k].a=r.calls:=by unfold db;simp_all
 have cb:db l L[k].b=q.calls:=by unfold db;simp_all
 have sa:xp r.calls L[k].ac=c.stop:=by unfold xp;simp_all
 have sb:xp q.calls L[k].bc=d.stop:=by unfold xp;simp_all
 have h1:PZ L[k] l.length=false:=by unfold PZ;grind
 have h2:Me L[k] r.calls.length q.calls.length=false:=by simp_all[Me,aoC,apE,aeu,tc]
 have YP:∀y∈L.take k,∃j,∃h:j<k,∃h':j<L.length,y=L[j]:=fun y hy=>by obtain⟨j,hj,rfl⟩:=aqv hy;grind
 have A1:L[k].stay=true→∀y∈L.take k,y.stay=true→¬(L[k].a=y.a∨L[k].b=y.b):=fun hs y hy hys hor=>by obtain⟨j,hj,tf,rfl⟩:=YP y hy;have e:=XC hV hk hp (bk _ (an7 uF)) (bk _ (an7 tf)) hs hys hor;exact aoH.1 aff j k tf uF hj (by rw[e])
 have h3:Hm (L.take k) L[k] r.calls.length=false:=by
  unfold Hm;cases hs:L[k].stay with
  |false=>rfl
  |true=>
   obtain⟨hs1,hs2⟩:=fo hs;have n1:(nx (L.take k) L[k].a).isSome=false:=by rw[XE,apd];grind
   have n2:decide (L[k].b∈tl (L.take k))=false:=by rw[aaH,apd];grind
   have n3:zD (L.take k) L[k].b L[k].a ((L.take k).length+1)=false:=by
    obtain⟨ρ,hρ⟩:=S1 hV;have tr:∀y∈L,y.stay=true→ρ (((l[y.b.toNat]?).map bg.bn).getD 0)<ρ (((l[y.a.toNat]?).map bg.bn).getD 0):=fun y hy hys=>by obtain⟨a,r,ha,hya,fo⟩:=NT hV hk (bk y hy) hys;obtain⟨n,b,q,hn,hb,hq,R8⟩:=Ga fo;rw[hya,hb,an9,an9,ha,hq];have:q.bn=n:=congrArg (fun z=>z.1) R8;simp_all
    unfold zD;rw[apd];intro t _;simp only[tc];intro hit;have h1:=UE (ρ:=fun v=>ρ (((l[v.toNat]?).map bg.bn).getD 0)) (fun v w hvw=>by grind [SZ,List.mem_of_mem_take]) t _ _ hit;grind
   grind
 rw[h1,ca,cb,h2,sa,sb,h3,QU (by simp),QU (by simp),QU (by omega),QU (by simp),QU (Bl (f:=jE) (aff.imp fun h=>h) uF)]
def xg(T:aj)(l:List bg):aW:=⟨T.stops,T.ao,l,aN T l l.length,dS T.paths T.stops.length,T.aP,T.bE,T.within,T.cap⟩
theorem Xp(hV:cz T)(hk:∀r∈l,cN T r=true)(hp:l.Pairwise fun r s=>r.key≠s.key)(hl:l.length≤1024)(hn:(aN T l l.length).length≤1024):zm (xg T l)=(0,0,0):=by
 have h0:(jC T.stops).2=0:=hV 0 (by omega);have h1:(gQ T.ao).2=0:=hV 1 (by omega);have h8:(lA T.paths T.stops.length).2=0:=hV 8 (by omega);have h9:(kn T.aP T.bE T.within T.cap).2=0:=hV 9 (by omega);have hs:Sound T.paths T.stops.length:=by grind [lA,JD]
 simp_all[zm,xg,No,aaE,XD,aaC]
end
end Go.Ab.Tt
namespace Go.Ab.Nw
theorem Mf(d:Mx)(i j:Nat):HJ d i j (d i j)=d:=by funext a b;unfold HJ;simp_all
theorem aaI(Hn:Int×Int×Int×List PV×Unit→Option PV)(n k i:Nat)(d:Mx)(hn:n≤64)(hk:k<n)(hi:i<n)(hd:∀j,j≤n→∀a b,a<n→b<n→dj k i d j a b≤1099511627776):aV.run (pk Hn) ((n:Int),(k:Int),(i:Int),0,sF n d,())=Hn ((n:Int),(k:Int),IntKind.i64.wrap ((i:Int)+1),sF n (dj k i d n),()):=by
 refine aM (fun j=>((n:Int),(k:Int),(i:Int),(j:Int),sF n (dj k i d j),())) n (fun j hj rec=>?_) (fun rec=>?_) (by unfold rounds;omega) rfl
 ·unfold pk;dsimp only;have hg:decide ((j:Int)<(n:Int))=true:=by simp;omega
  have ii:ax (i:Int) (sF n (dj k i d j)).length:=H5 (by rw[Bp];omega);have ik:ax (k:Int) (sF n (dj k i d j)).length:=H5 (by rw[Bp];omega);have ji:ax (j:Int) (EX n (dj k i d j i)).length:=H5 (by rw[yD];omega);have ki:ax (k:Int) (EX n (dj k i d j i)).length:=H5 (by rw[yD];omega);have jk:ax (j:Int) (EX n (dj k i d j k)).length:=H5 (by rw[yD];omega);have b1:=hd j (by omega) i k hi hk;have b2:=hd j (by omega) k j hk hj;have hs:IntKind.i64.wrap (((dj k i d j i k:Nat):Int)+((dj k i d j k j:Nat):Int))=((dj k i d j i k+dj k i d j k j:Nat):Int):=aY (by omega) (by omega);simp only[hg,BY,No ii,No ik,an9,yE _ hi,yE _ hk,U,asR,No ji,No ki,No jk,Bq _ hj,Bq _ hk,cI,KC,hs,ag (show j<9223372036854775807 by omega),ajc,ajd,P0 _ _ hi hj];have hd1:dj k i d (j+1)=HJ (dj k i d j) i j (min (dj k i d j i j) (dj k i d j i k+dj k i d j k j)):=rfl;by_cases bF:dj k i d j i k+dj k i d j k j<dj k i d j i j
  ·grind
  ·rw[QU (by simp;omega),hd1,ao0 (by omega),Mf]
 simp[pk,QU]
theorem aaJ(afg:Int×Int×List PV×Unit→Option PV)(n k:Nat)(d:Mx)(hn:n≤64)(hk:k<n)(hd:∀i,i<n→∀j,j≤n→∀a b,a<n→b<n→dj k i (di n k d i) j a b≤1099511627776):aV.run (pn aV afg) ((n:Int),(k:Int),0,sF n d,())=afg ((n:Int),IntKind.i64.wrap ((k:Int)+1),sF n (di n k d n),()):=by
 refine aM (fun i=>((n:Int),(k:Int),(i:Int),sF n (di n k d i),())) n (fun i hi rec=>?_) (fun rec=>?_) (by unfold rounds;omega) rfl
 ·unfold pn;dsimp only;have hg:decide ((i:Int)<(n:Int))=true:=by simp;omega
  rw[No hg,aaI rec n k i _ hn hk hi (hd i hi),ag (by omega)];rfl
 simp[pn,QU]
theorem aaK(n:Nat)(d:Mx)(hn:n≤64)(hd:∀k,k<n→∀i,i<n→∀j,j≤n→∀a b,a<n→b<n→dj k i (di n k (dk n d k) i) j a b≤1099511627776):aV.run (po aV) ((n:Int),0,sF n d,())=some (.rs 1 ((sF n (dk n d n)).map PV.strip)):=by
 refine aM (fun k=>((n:Int),(k:Int),sF n (dk n d k),())) n (fun k hk rec=>?_) (fun rec=>?_) (by unfold rounds;omega) rfl
 ·unfold po;dsimp only;have hg:decide ((k:Int)<(n:Int))=true:=by simp;omega
  rw[No hg,aaJ rec n k _ hn hk (hd k hk),ag (by omega)];rfl
 simp[po,QU]
theorem Mg(l:List Fp)(n:Nat)(hn:n≤64)(hl:l.length≤4096)(h:∀p∈l,p.a<n∧p.b<n)(fr:Bool):mA [.rs 4 (l.map Fp.pv),.int .i64 n,.bool fr]=some (.rs 1 (fv n fun i j=>((dk n (start rU (counted fr l)) n i j:Nat):Int))):=by
 have e0:ah 4 (.rs 4 (l.map Fp.pv))=some (l.map Fp.pv):=by rfl
 have hE:∀y∈counted fr l,y.f<n∧y.t<n:=fun y hy=>by obtain⟨p,hp,rfl⟩:=wg hy;exact h p hp
 simp only[mA,Br,e0,U,KC,asBool];refine aM (fun i=>(l.map Fp.pv,(n:Int),fr,(i:Int),List.replicate i (PV.qg 1 (List.replicate n (PV.int .i64 1099511627776))),())) n (fun i hi rec=>?_) (fun rec=>?_) (by unfold rounds;omega) rfl
 ·unfold uS;dsimp only;have hg:decide ((i:Int)<(n:Int))=true:=by simp;omega
  rw[No hg];refine aM (fun j=>(l.map Fp.pv,(n:Int),fr,(i:Int),(j:Int),List.replicate i (PV.qg 1 (List.replicate n (PV.int .i64 1099511627776))),List.replicate j (PV.int .i64 1099511627776),())) n (fun j hj zF=>?_) (fun zF=>?_) (by unfold rounds;omega) rfl
  ·unfold uT;dsimp only;have hg:decide ((j:Int)<(n:Int))=true:=by simp;omega
   have HV:List.replicate j (PV.int .i64 1099511627776)++[PV.int .i64 1099511627776]=List.replicate (j+1) (PV.int .i64 1099511627776):=(aqp ..).symm;rw[No hg];simp only[HV,aoI];rw[No (by unfold ab;omega),ag (by omega)]
  ·unfold uT;dsimp only;have HV:List.replicate i (PV.qg 1 (List.replicate n (PV.int .i64 1099511627776)))++[PV.qg 1 (List.replicate n (PV.int .i64 1099511627776))]=List.replicate (i+1) (PV.qg 1 (List.replicate n (PV.int .i64 1099511627776))):=(aqp ..).symm;rw[QU (by simp)];simp only[HV,aoI];rw[No (by unfold ab;omega),ag (by omega)]
 ·unfold uS;dsimp only;rw[QU (by simp),XF];refine aM (fun k=>(l.map Fp.pv,(n:Int),fr,(k:Int),sF n (start rU (counted fr (l.take k))),())) l.length (fun k hk zF=>?_) (fun zF=>?_) (by unfold rounds;omega) rfl
  ·unfold uU;dsimp only;have hg:decide ((k:Int)<((l.map Fp.pv).length:Int))=true:=by simp;omega
   obtain⟨p,hp⟩:∃p,l[k]?=some p:=⟨_,ta hk⟩;have G2:(l.map Fp.pv)[k]?=some p.pv:=by simp_all
   have YP:l.take (k+1)=l.take k++[p]:=by rw[aqG,hp];rfl
   obtain⟨pa,pb⟩:=h p (an4 hp);obtain⟨d,hd⟩:∃d,d=start rU (counted fr (l.take k)):=⟨_,rfl⟩;have ia:ax (p.a:Int) (sF n d).length:=H5 (by rw[Bp];omega);have ib:ax (p.b:Int) (EX n (d p.a)).length:=H5 (by rw[yD];omega);have fo:sF n (start rU (counted fr (l.take k)++[p.ed]))=sF n (HJ d p.a p.b (min (d p.a p.b) p.c)):=by rw[JQ,←hd];rfl
   have hr:(bif p.free then some true else some !fr)=some (!(fr&& !p.free)):=by grind
   rw[No hg,af,G2,U,YP,NU];simp only[fp0,fp1,fp2,fp3,KC,asBool,U,hr,←hd,No ia,an9,yE _ pa,asR,No ib,Bq _ pb,cI,ajc,ajd,P0 _ _ pa pb,ag (show k<9223372036854775807 by omega)];cases hb:(fr&& !p.free)with
   |true=>simp[←hd]
   |false=>
    simp only[aoj,cond_true,U,AI,OF,fo];by_cases bF:p.c<d p.a p.b
    ·grind
    simp_all[QU,ao0,Mf]
  ·unfold uU;dsimp only;rw[QU (by simp),aoJ,←XG];have aje:=DH (n:=n) (inf:=rU) (counted fr l);exact aaK n _ hn fun k hk i hi j hj a b ha hb=>by have ih:=aje.rounds k (by omega);have:=(F0.rows (k:=k) ⟨ih.fw,ih.low,fun a b ha hb hd=>by omega⟩ hk i (by omega)).row hi hk j hj;exact this.fw.top a b ha hb
theorem S2(NV:ago→Option PV)(n i:Nat)(W F:Nat→Nat→Int)(hn:n≤64)(hi:i<n)(acc:List PV)(amQ:acc.length≤8192):aV.run (lG aV NV) ((n:Int),fv n W,fv n F,(i:Int),0,acc,())=NV ((n:Int),fv n W,fv n F,IntKind.i64.wrap ((i:Int)+1),acc++Bs n (fun i k=>HK (W i k) (F i k) i k) i,()):=by
 refine aM (fun k=>((n:Int),fv n W,fv n F,(i:Int),(k:Int),acc++Bs k (fun i k=>HK (W i k) (F i k) i k) i,())) n (fun k hk rec=>?_) (fun rec=>?_) (by unfold rounds;omega) (by simp[Bs])
 ·unfold lG;dsimp only;have hg:decide ((k:Int)<(n:Int))=true:=by simp;omega
  rw[Gb];have hlen:=EY (it:=fun i k=>HK (W i k) (F i k) i k) (fun i k=>NW _ _ i k) i k;generalize hA:acc++Bs k (fun i k=>HK (W i k) (F i k) i k) i=A;have hAl:A.length≤8192+128:=by grind
  rw[←aow,hA];simp only[hg,BY,af,Gc _ hi,U,agp,Mh _ hk,cI,KC,ag (show k<9223372036854775807 by omega)];generalize W i k=w;generalize F i k=f;by_cases SS:i=k
  ·simp_all[HK,No,cond_true,U,BY,aoM]
  ·have hb:((i:Int)==(k:Int))=false:=by grind
   simp only[hb,cond_false,U];by_cases hw:w>14400
   ·simp_all[HK,No,aot,BY,aoM]
   ·have hr1:(A++[PV.agg [.int .i64 i,.int .i64 k,.int .i64 w,.bool (f==w)]]).length*32≤ab∧0<32:=yQ (by simp;omega);simp only[hw,aoo,AI,OF,No hr1];by_cases hf:f>w
    ·by_cases ZV:f≤14400
     ·have RQ:(A++[PV.agg [.int .i64 i,.int .i64 k,.int .i64 w,.bool (f==w)]]++[PV.agg [.int .i64 i,.int .i64 k,.int .i64 f,.bool true]]).length*32≤ab∧0<32:=yQ (by simp;omega);have hit:HK w f i k=[fpI i k w (f==w),fpI i k f true]:=by simp_all[HK,QU,No]
      simp only[hf,ZV,aot,cond_true,U,BY,No RQ,hit];rw[aow];rfl
     ·have hit:HK w f i k=[fpI i k w (f==w)]:=by simp_all[HK,QU]
      simp only[hf,ZV,aot,aoo,cond_true,U,AI,OF,hit];rfl
    ·have hit:HK w f i k=[fpI i k w (f==w)]:=by unfold HK;grind
     simp only[hf,aoo,cond_false,U,AI,OF,hit];rfl
 simp[lG,QU]
theorem P1(n:Nat)(W F:Nat→Nat→Int)(hn:n≤64):aV.run (lH aV) ((n:Int),fv n W,fv n F,0,[],())=some (.rs 4 (DJ n (fun i k=>HK (W i k) (F i k) i k) n)):=by
 refine aM (fun i=>((n:Int),fv n W,fv n F,(i:Int),DJ n (fun i k=>HK (W i k) (F i k) i k) i,())) n (fun i hi rec=>?_) (fun rec=>?_) (by unfold rounds;omega) rfl
 ·unfold lH;dsimp only;have hg:decide ((i:Int)<(n:Int))=true:=by simp;omega
  have hlen:=EZ (it:=fun i k=>HK (W i k) (F i k) i k) (fun i k=>NW _ _ i k) n i;have hb:2*n*i≤2*64*64:=apR (by omega) (by omega);rw[No hg,S2 rec n i W F hn hi _ (by omega),Gd,ag (by omega)]
 simp[lH,QU]
theorem SD(l:List Fp)(n:Nat)(hn:n≤64)(hl:l.length≤4096)(h:∀p∈l,p.a<n∧p.b<n):jO [.rs 4 (l.map Fp.pv),.int .i64 n]=some (.rs 4 (DJ n (fun i k=>HK (fQ n l false i k) (fQ n l true i k) i k) n)):=by
 have e0:ah 4 (.rs 4 (l.map Fp.pv))=some (l.map Fp.pv):=by rfl
 have e1:∀es,ah 1 (.rs 1 es)=some es:=fun es=>by rfl
 simp only[jO,xq,e0,U,KC,Mg l n hn hl h false,Mg l n hn hl h true,e1];simp_all[P1,fQ]
end Go.Ab.Nw
