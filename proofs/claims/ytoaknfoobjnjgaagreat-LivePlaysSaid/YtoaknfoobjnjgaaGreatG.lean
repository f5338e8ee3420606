import Derived.Test.YtoaknfoobjnjgaaGreatF
set_option linter.all false
open Option renaming some→U,none→Z
open Bool renaming true→Y,false→J
open Decidable renaming decide→O
open List renaming range→I
open Go.IntKind renaming wrap→C
namespace Go.Ab.Tt
set_option maxRecDepth 100000
structure bx where
 source:Int
 seq:Int
 dI:Int
 cj:Int
 kind:Int
 bg:Bytes
 day:Int
 inst:Int
 call:Int
 ck:Int
 bn:Int
 free:Bool
 calls:List ar
 deriving DecidableEq
def bx.pv(x:bx):PV:=.agg [.int .i64 x.source,.int .i64 x.seq,.int .i64 x.dI,.int .i64 x.cj,.int .i64 x.kind,.str x.bg,.int .i64 x.day,.int .i64 x.inst,.int .i64 x.call,.int .i64 x.ck,.int .i64 x.bn,.bool x.free,.rs 5 (x.calls.map ar.pv)]
structure bx.l9(M:Nat)(x:bx):Prop where
 source:po x.source
 seq:po x.seq
 dI:po x.dI
 cj:po x.cj
 kind:po x.kind
 bg:x.bg.length<=M
 day:po x.day
 inst:po x.inst
 call:po x.call
 ck:po x.ck
 bn:po x.bn
 calls:x.calls.length<=M/\∀y∈x.calls,y.l9 M
abbrev bx.Ok(x:bx):Prop:=x.l9 maxLen
def bx.key(x:bx):Bytes×Int×Int:=(x.bg,x.day,x.inst)
def OS(l:List aW)(m:bx):Option Nat:=(I l.length).find? λk=>O ((l.map cr)[k]?=U m.key)
theorem Lx{l:List aW}{m:bx}{k:Nat}(h:OS l m=U k):∃hk:k<l.length,cr l[k]=m.key/\∀j,(hj:j<k)->cr (l[j]'(aa))≠m.key:=by
 unfold OS at h;rw[azU]at h;obtain⟨h1,h2,h3⟩:=h;have hk:k<l.length:=by simpa using h2
 refine⟨hk,?_,λj hj hc=>?_⟩
 .simpa[ta hk]using h1
 .have:=h3 j hj;simp[ta (aa:j<l.length),hc]at this
theorem ajb{l:List aW}{m:bx}(h:OS l m=Z):m.key∉l.map cr:=by
 unfold OS at h;rw[azF]at h;intro hm;have⟨k,hk⟩:=ayc.1 hm;have mq:k<l.length:=by have:=(No.1 hk).1;simpa using this
 exact h k (by simpa using mq) (by simpa using hk)
def mC:Int:=3155932800
def BK(l:List ar):Bool:=(I l.length).all λk=>(l[k]?).elim Y λc=> !(O (c.arr<((gB l k).map ar.dep).getD 0)||decide (c.dep<c.arr)||decide (c.dep>mC))
def jn(c:ar):Int:=if c.dep-c.arr<30 then c.dep-c.arr else 30
def late(c:ar)(abK:Int):ar:={c with arr:=abK,dep:=if abK+jn c>c.dep then abK+jn c else c.dep}
def n9:List ar->Int->Option (List ar)
 |[],_=>U []
 |c::cs,a=>if(late c a).dep>mC then Z else
  match cs with
  |[]=>U [late c a]
  |d::ds=>(n9 (d::ds) (d.arr+(late c a).dep-c.dep)).map λr=>late c a::r
def DE(l:List ar)(n:Nat)(ck:Int):Int:=
 let before:=((gB l n).map ar.dep).getD 0
 let x:=((l[n]?).map ar.arr).getD 0+ck
 if x<before then before else x
def prop(l:List ar)(n:Int)(ck:Int):Option (List ar)×Int:=
 if n<0\/n>=(l.length:Int)then(Z,1)else if ck< -43200\/ck>43200 then(Z,2)else if BK l=J then(Z,10)
 else match n9 (l.drop n.toNat) (DE l n.toNat ck)with
 |some r=>(U (l.take n.toNat++r),0)
 |none=>(Z,10)
theorem sj(N:aB):(dZ N).2.2=0↔(gk N.stops).2=0/\(eC N.ak).2=0/\(jP N.runs N.stops.length N.ak.length).2=0/\(ll N.runs N.aA).2=0/\(dp N.paths N.stops.length).2=0/\(du N.aF N.aZ N.within N.cap).2=0:=by unfold dZ;grind
def Ly(x:aW)(stops ak:Int):Int:=
 if dq x.id=J then 12 else if(O (x.bg< -1)||decide (x.inst<0))=Y then 2
 else if(O (x.day<0)||decide (x.day>36524))=Y then 11 else if(O (x.bn<0)||decide (x.bn>=ak))=Y then 9
 else(bP x.calls stops 0 3155932800).2
theorem YZ(l:List aW)(s r:Int)(k:Nat)(hk:k<l.length):nX l s r k=0↔Ly l[k] s r=0/\cr l[k]∉(l.map cr).take k:=by unfold nX Ly;grind
theorem ue(l:List aW)(s r:Int):(jP l s r).2=0↔l.length<=1024/\∀k,(hk:k<l.length)->Ly l[k] s r=0/\cr l[k]∉(l.map cr).take k:=by
 unfold jP;by_cases h:l.length>1024
 .grind
 simp_all[IT,kn,YZ]
theorem ajc{l:List aW}{s r:Int}{i:Nat}{x:aW}(hi:i<l.length)(hk:cr x=cr l[i])(hx:Ly x s r=0)(h:(jP l s r).2=0):(jP (l.set i x) s r).2=0:=by
 rw[ue]at h⊢;have hm:(l.set i x).map cr=l.map cr:=by grind [List.map_set,cr,List.set_getElem_self]
 grind
theorem ajd{l:List aW}{s r:Int}{x:aW}(hk:cr x∉l.map cr)(hx:Ly x s r=0)(hl:l.length<1024)(h:(jP l s r).2=0):(jP (l++[x]) s r).2=0:=by rw[ue]at h⊢;grind
def Ul(runs:List aW)(p:List aK)(x:aK):Int:=
 if G3 x runs.length=Y then 9 else if FV x (aV runs x.a).length (aV runs x.b).length=Y then 9
 else if gC (aV runs x.a) x.ac≠gC (aV runs x.b) x.bc then 13 else if Ay p x (aV runs x.a).length=Y then 19
 else if dx x∈p.map dx then 6 else 0
theorem afR(runs:List aW)(l:List aK)(k:Nat)(hk:k<l.length):dM runs l k=Ul runs (l.take k) l[k]:=by grind [dM,Ul,List.getElem?_eq_getElem,List.map_take]
def FY(runs:List aW)(l:List aK):Prop:=∀k,(hk:k<l.length)->Ul runs (l.take k) l[k]=0
theorem Da(runs:List aW)(l:List aK):(ll runs l).2=0↔l.length<=1024/\FY runs l:=by
 unfold ll FY;by_cases h:l.length>1024
 .grind
 simp_all[IT,kn,afR]
theorem afS(runs:List aW):FY runs []:=λk hk=>by simp at hk
theorem Ko(runs:List aW)(p:List aK)(x:aK):FY runs (p++[x])↔FY runs p/\Ul runs p x=0:=by
 constructor
 .intro h;refine⟨λk hk=>?_,?_⟩
  .have:=h k ah;grind
  .have:=h p.length ae;simp_all
 .rintro⟨h1,h2⟩ k hk;simp only[ax9,al6,are]at hk;by_cases bX:k<p.length
  .rw[List.getElem_append_left bX,List.take_append_of_le_length aa];exact h1 k bX
  grind
theorem Fs(runs:List aW)(p:List aK)(x:aK):Ul runs p x=0↔G3 x runs.length=J/\FV x (aV runs x.a).length (aV runs x.b).length=J/\gC (aV runs x.a) x.ac=gC (aV runs x.b) x.bc/\Ay p x (aV runs x.a).length=J/\dx x∉p.map dx:=by unfold Ul;grind
theorem Rm{x:aK}{R:Int}(h:G3 x R=J):(0<=x.a/\x.a<R)/\(0<=x.b/\x.b<R)/\x.a≠x.b:=by simp_all[G3,ayp,aza,T1,tb,ayv]
variable{runs On:List aW}
theorem A8{l:List aK}(h:FY runs l)(hR:runs.length<=On.length)(hc:∀x∈l,∀v,v=x.a\/v=x.b->(aV On v).length=(aV runs v).length/\∀c,gC (aV On v) c=gC (aV runs v) c):FY On l:=by intro k hk;have h0:=h k hk;rw[Fs]at h0⊢;obtain⟨h1,h2,h3,h4,h5⟩:=h0;obtain⟨ea,sa⟩:=hc _ (alx hk) _ (Or.inl rfl);obtain⟨eb,sb⟩:=hc _ (alx hk) _ (Or.inr rfl);rw[ea,eb,sa,sb];refine⟨?_,h2,h3,h4,h5⟩;have⟨g1,g2,g3⟩:=Rm h1;unfold G3;grind
theorem Oo{p:List aK}{x:aK}{A:Int}(h:Ay p x A=J):x.stay=J\/(x.ac+1=A/\x.bc=0/\nx p x.a=Z/\x.b∉pT p/\pE p x.b x.a (p.length+1)=J):=by
 unfold Ay at h;cases hs:x.stay with
 |false=>simp
 |true=>simp_all
theorem auh(l:List aK)(h:FY runs l):∀x∈l,x.stay=Y->nx l x.a=U x.b:=by
 induction l using Hf with
 |h0=>simp
 |h1 p y ih=>
  rw[Ko]at h;obtain⟨hp,hy⟩:=h;rw[Fs]at hy;intro x hx hs;rw[zh];rcases ayq.1 hx with hx|hx
  .have h1:=ih hp x hx hs;by_cases hc:(y.stay&&O (y.a=x.a))=Y
   .simp only[T1,tb]at hc;grind [Oo]
   simp_all
  simp_all
theorem Wj(f:aK->Bool)(l:List aK)(h:FY runs l)(hR:runs.length<=On.length)(hc:∀x∈l,f x=Y->∀v,v=x.a\/v=x.b->(aV On v).length=(aV runs v).length/\∀c,gC (aV On v) c=gC (aV runs v) c):FY On (l.filter f):=by
 refine A8 (runs:=runs) ?_ hR (λx hx=>hc x (ayr.1 hx).1 (ayr.1 hx).2);clear hc hR;induction l using Hf with
 |h0=>exact afS runs
 |h1 p x ih=>
  rw[Ko]at h;obtain⟨hp,hx⟩:=h;rw[azJ];by_cases hf:f x=Y
  .rw[List.filter_cons_of_pos hf,List.filter_nil,Ko];refine⟨ih hp,?_⟩;rw[Fs]at hx⊢;obtain⟨h1,h2,h3,h4,h5⟩:=hx;have aaC:∀y∈p.filter f,y∈p:=λy hy=>(ayr.1 hy).1;refine⟨h1,h2,h3,?_,λhm=>h5 ?_⟩
   .rcases Oo h4 with hs|⟨g1,g2,g3,g4,g5⟩
    .unfold Ay;rw[hs];rfl
    .have hnx:∀v w,nx (p.filter f) v=U w->nx p v=U w:=λv w hvw=>by obtain⟨y,hy,hys,rfl,rfl⟩:=QX hvw;exact auh p hp y (aaC y hy) hys
     have hit:∀t v w,it (nx (p.filter f)) t v=U w->it (nx p) t v=U w:=by
      intro t;induction t with
      |zero=>intro v w h;exact h
      |succ t iht=>
       intro v w hvw;have ax0:(nx (p.filter f) v).bind (it (nx (p.filter f)) t)=U w:=hvw;cases hn:nx (p.filter f) v with
       |none=>simp_all
       |some u=>simp_all[nx,it]
     have k1:(nx (p.filter f) x.a).isSome=false:=by
      cases hn:nx (p.filter f) x.a with
      |none=>rfl
      |some w=>simp_all
     have k2:O (x.b∈pT (p.filter f))=false:=by grind [decide_eq_false_iff_not,pT]
     have k3:pE (p.filter f) x.b x.a ((p.filter f).length+1)=false:=by unfold pE at g5⊢;grind
     simp_all[Ay]
   grind
  simp_all
def W6(n a b:Int):Option ar->List ar->Prop
 |_,[]=>True
 |p,c::cs=>lN c p n a b=0/\W6 n a b (U c) cs
theorem adZ(n a b:Int)(l:List ar):∀p,W6 n a b p l↔∀k,(hk:k<l.length)->lN l[k] (if k=0 then p else l[k-1]?) n a b=0:=by
 induction l with
 |nil=>intro p;exact⟨λ_ k hk=>by simp at hk,λ_=>trivial⟩
 |cons c cs ih=>
  intro p;show(lN c p n a b=0/\W6 n a b (U c) cs)↔_;rw[ih];constructor
  .grind
  .intro h;refine⟨h 0 (Nat.zero_lt_succ _),λk hk=>?_⟩;have:=h (k+1) (by simpa using hk);grind
theorem HU(l:List ar)(n a b:Int):(bP l n a b).2=0↔2<=l.length/\l.length<=32/\W6 n a b Z l:=by
 have he:(∀k,k<l.length->ng l n a b k=0)↔W6 n a b Z l:=by
  rw[adZ];constructor
  .intro h k hk;have:=h k hk;unfold ng at this;rw[ta hk]at this;cases k with
   |zero=>exact this
   |succ k=>exact this
  .intro h k hk;have:=h k hk;unfold ng;rw[ta hk];cases k with
   |zero=>exact this
   |succ k=>exact this
 rw[<-he];constructor
 .grind [Oi,Oj]
 .rintro⟨h1,h2,h3⟩;unfold bP;rw[IT ah];exact(kn _ _).2 h3
theorem Kp(n a b:Int)(l1 l2:List ar):∀p,W6 n a b p (l1++l2)↔W6 n a b p l1/\W6 n a b (if l1.length=0 then p else l1[l1.length-1]?) l2:=by
 induction l1 with
 |nil=>intro p;simp[W6]
 |cons c cs ih=>intro p;show(lN c p n a b=0/\W6 n a b (U c) (cs++l2))↔(lN c p n a b=0/\W6 n a b (U c) cs)/\_;grind
variable{p:Option ar}
theorem Rn{c:ar}{n a b:Int}(h1:0<=c.stop)(h2:c.stop<n)(h3:∀q,p=U q->q.stop≠c.stop)(h4:a<=c.arr)(h5:c.arr<=c.dep)(h6:c.dep<=b)(h7:∀q,p=U q->q.dep<=c.arr):lN c p n a b=0:=by unfold lN;grind
theorem Ft{c:ar}{n a b:Int}(h:lN c p n a b=0):0<=c.stop/\c.stop<n/\∀q,p=U q->q.stop≠c.stop:=by unfold lN at h;grind
theorem aje(n:Int)(cs:List ar):∀(a:Int)(p:Option ar)(r:List ar),W6 n 0 mC p cs->n9 cs a=U r->(∀q,p=U q->q.dep<=a)->0<=a->W6 n 0 mC p r/\r.map ar.stop=cs.map ar.stop:=by
 induction cs with
 |nil=>intro a p r _ hr _ _;simp only[n9,tc]at hr;simp_all
 |cons c cs ih=>
  intro a p r gW hr hp ha;obtain⟨hc,St⟩:=gW;have⟨g1,g2,g3⟩:=Ft hc;have⟨k1,k2,k3,k4⟩:=AP hc;have hd:0<=jn c:=by unfold jn;omega
  have abL:a<=(late c a).dep:=by show a<=if a+jn c>c.dep then a+jn c else c.dep;omega
  have hcd:c.dep<=(late c a).dep:=by show c.dep<=if a+jn c>c.dep then a+jn c else c.dep;omega
  unfold n9 at hr;by_cases tz:(late c a).dep>mC
  .simp_all
  .rw[IT tz]at hr;have hE:lN (late c a) p n 0 mC=0:=Rn g1 g2 g3 ha abL aa hp;cases cs with
   |nil=>simp only[tc]at hr;subst hr;exact⟨⟨hE,trivial⟩,rfl⟩
   |cons d ds=>
    simp only[asI]at hr;obtain⟨r',Gi,rfl⟩:=hr;obtain⟨hdE,hds⟩:=St;have⟨d1,d2,d3,d4⟩:=AP hdE;have⟨e1,e2,e3⟩:=Ft hdE;have hdc:=d4 c rfl;have awG:W6 n 0 mC (U (late c a)) (d::ds)->W6 n 0 mC (U (late c a)) r'/\r'.map ar.stop=(d::ds).map ar.stop:=λhh=>ih _ _ r' hh Gi (λq hq=>by cases hq;omega) aa;by_cases axE:(late c a).dep<=d.arr
    .obtain⟨i1,i2⟩:=awG ⟨Rn e1 e2 (λq hq=>by cases hq;exact e3 c rfl) d2 d1 d3 (λq hq=>by cases hq;omega),hds⟩;exact⟨⟨hE,i1⟩,by simp only[ayb,i2];rfl⟩
    .obtain⟨i1,i2⟩:=ih (d.arr+(late c a).dep-c.dep) (U c) r' ⟨hdE,hds⟩ Gi (λq hq=>by cases hq;omega) aa;refine⟨⟨hE,?_⟩,by simp only[ayb,i2];rfl⟩;cases r' with
     |nil=>trivial
     |cons x xs=>
      obtain⟨j1,j2⟩:=i1;have⟨f1,f2,f3⟩:=Ft j1;have⟨t1,t2,t3,t4⟩:=AP j1;refine⟨Rn f1 f2 (λq hq=>by cases hq;exact f3 c rfl) t2 t1 t3 (λq hq=>?_),j2⟩;cases hq;have hx:x.arr=d.arr+(late c a).dep-c.dep:=by
       unfold n9 at Gi;by_cases yO:(late d (d.arr+(late c a).dep-c.dep)).dep>mC
       .simp_all
       .rw[IT yO]at Gi;cases ds with
        |nil=>simp only[tc,ayW]at Gi;rw[<-Gi.1];rfl
        |cons d2 ds2=>simp only[asI,ayW]at Gi;obtain⟨_,_,h1,_⟩:=Gi;rw[<-h1];rfl
      omega
theorem alN{l r:List ar}{n:Int}{at_ ck:Int}(h:(bP l n 0 mC).2=0)(hp:prop l at_ ck=(U r,0)):(bP r n 0 mC).2=0/\r.map ar.stop=l.map ar.stop:=by
 rw[HU]at h;obtain⟨h1,h2,h3⟩:=h;unfold prop at hp;by_cases ha:at_<0\/at_>=(l.length:Int)
 .simp_all
 .rw[IT ha]at hp;by_cases hs:ck< -43200\/ck>43200
  .simp_all
  .rw[IT hs]at hp;by_cases ho:BK l=J
   .simp_all
   .rw[IT ho]at hp;cases hl:n9 (l.drop at_.toNat) (DE l at_.toNat ck)with
    |none=>rw[hl]at hp;cases hp
    |some r'=>
     rw[hl]at hp;simp only[aq4,tc,aBn]at hp;generalize hn:at_.toNat=m at hl hp;have hm:m<l.length:=aa
     rw[<-azo m l,Kp]at h3;obtain⟨g1,g2⟩:=h3;have hlen:(l.take m).length=m:=ah
     have aui:(if(l.take m).length=0 then(Z:Option ar)else(l.take m)[(l.take m).length-1]?)=gB l m:=by
      rw[hlen];cases m with
      |zero=>rfl
      |succ m=>rw[IT aa,azr aa];rfl
     rw[aui]at g2;have fa:∀q,gB l m=U q->0<=q.dep:=by
      intro q hq;have gW:W6 n 0 mC Z l:=by grind [List.take_append_drop,Kp]
      cases m with
      |zero=>cases hq
      |succ m=>
       have Sa:l[m]?=U q:=hq;have hm':m<l.length:=aa
       rw[ta hm']at Sa;cases Sa;have:=(adZ n 0 mC l Z).1 gW m hm';have⟨z1,z2,_,_⟩:=AP this;omega
     have K7:(∀q,gB l m=U q->q.dep<=DE l m ck)/\0<=DE l m ck:=by grind [DE,gB]
     obtain⟨i1,i2⟩:=aje n (l.drop m) _ _ r' g2 hl K7.1 K7.2;have Vl:r'.length=l.length-m:=by have:=congrArg List.length i2;simpa using this
     grind [HU,Kp,List.take_append_drop]
def dY(m:bx):Int:=
 if wi m.source 0 7=J then 36 else if m.seq<1 then 2
 else if(!wi m.dI 0 3155932800|| !wi m.cj 0 3155932800||decide (m.dI>=m.cj))=Y then 10
 else if wi m.kind 1 6=J then 35 else if dq m.bg=J then 12 else if wi m.day 0 36524=J then 11 else if m.inst<0 then 2
 else
  let uC:=O (m.kind=1)||decide (m.kind=3)
  let uS:=O (m.kind=1)
  let uR:=O (m.kind=5)
  let uL:=O (m.kind=4)||decide (m.kind=5)
  if(uC&& !wi m.call 0 31||uS&& !wi m.ck (-43200) 43200||uR&& !wi m.bn 0 63)=Y then 2
  else if uL=Y/\(bP m.calls 64 0 3155932800).2≠0 then(bP m.calls 64 0 3155932800).2
  else if(!uC&& !decide (m.call=0)|| !uS&& !decide (m.ck=0)|| !uR&& !decide (m.bn=0)|| !uR&&m.free|| !uL&&O (m.calls.length>0))=Y then 1 else 0
theorem ajf{m:bx}(h:dY m=0):dq m.bg=Y/\(0<=m.day/\m.day<=36524)/\0<=m.inst/\1<=m.kind/\m.kind<=6:=by
 unfold dY at h;by_cases h1:wi m.source 0 7=J
 .simp_all
 rw[IT h1]at h;by_cases h2:m.seq<1
 .omega
 rw[IT h2]at h;by_cases h3:(!wi m.dI 0 3155932800|| !wi m.cj 0 3155932800||decide (m.dI>=m.cj))=Y
 .simp_all
 rw[IT h3]at h;by_cases h4:wi m.kind 1 6=J
 .simp_all
 rw[IT h4]at h;by_cases h5:dq m.bg=J
 .simp_all
 rw[IT h5]at h;by_cases h6:wi m.day 0 36524=J
 .simp_all
 rw[IT h6]at h;by_cases h7:m.inst<0
 .omega
 simp_all[wi,Bool.and_eq_false_iff,ayv,aAI]
def abM(m:bx):aW:=⟨-1,m.day,m.inst,m.bg,m.bn,m.free,J,m.calls⟩
def Rp(l:List ar)(c:Nat):List ar:=match l[c]? with|some k=>l.set c {k with D9:=J,vI:=J}|none=>l
def SE(N:aB)(m:bx):aB×Int:=
 if m.kind=5 then
  if(OS N.runs m).isSome=Y then(N,6)else if m.bn<0\/m.bn>=(N.ak.length:Int)then(N,14)
  else if(bP m.calls N.stops.length 0 3155932800).2≠0 then(N,(bP m.calls N.stops.length 0 3155932800).2)
  else if N.runs.length>=1024 then(N,5)else({N with runs:=N.runs++[abM m]},0)
 else match OS N.runs m with
 |none=>(N,16)
 |some i=>match N.runs[i]? with
  |none=>(N,16)
  |some r=>
   if(m.kind=1\/m.kind=3)/\(m.call<0\/m.call>=(r.calls.length:Int))then(N,9)
   else if m.kind=1 then match prop r.calls m.call m.ck with
    |(U l,_)=>({N with runs:=N.runs.set i {r with calls:=l}},0)
    |(Z,e)=>(N,e)
   else if m.kind=2 then({N with runs:=N.runs.set i {r with xr:=Y}},0)
   else if m.kind=3 then({N with runs:=N.runs.set i {r with calls:=Rp r.calls m.call.toNat}},0)
   else if m.kind=4 then
    if(bP m.calls N.stops.length 0 3155932800).2≠0 then(N,(bP m.calls N.stops.length 0 3155932800).2)
    else({N with runs:=N.runs.set i {r with calls:=m.calls},aA:=N.aA.filter λl=> !(O (l.a=(i:Int))||decide (l.b=(i:Int)))},0)
   else(N,0)
def core(c:ar):Int×Int×Int:=(c.stop,c.arr,c.dep)
theorem abN{c c':ar}{p p':Option ar}{n a b:Int}(h:core c=core c')(hp:p.map core=p'.map core):lN c p n a b=lN c' p' n a b:=by
 simp only[core,aq4]at h;obtain⟨h1,h2,h3⟩:=h;unfold lN;rw[h1,h2,h3];cases p with
 |none=>grind
 |some q=>grind [Option.some.injEq,core,Prod.mk.injEq]
theorem Y0{n a b:Int}:∀{l l':List ar}{p p':Option ar},l.map core=l'.map core->p.map core=p'.map core->W6 n a b p l->W6 n a b p' l'
 |[],[],_,_,_,_,_=>trivial
 |[],_::_,_,_,h,_,_=>by cases h
 |_::_,[],_,_,h,_,_=>by cases h
 |c::cs,c'::R9,p,p',h,hp,ho=>by simp only[ayb,ayW]at h;exact⟨by rw[<-abN h.1 hp];exact ho.1,Y0 (p:=U c) (p':=U c') h.2 (by simp[h.1]) ho.2⟩
variable{l':List ar}
theorem Wk{n a b:Int}{l:List ar}(h:l.map core=l'.map core)(hr:(bP l n a b).2=0):(bP l' n a b).2=0:=by
 rw[HU]at hr⊢;have hl:l.length=l'.length:=by simpa using congrArg List.length h
 exact⟨aa,aa,Y0 h rfl hr.2.2⟩
theorem Rq(l:List ar)(c:Nat):(Rp l c).map core=l.map core:=by
 unfold Rp;cases hc:l[c]? with
 |none=>rfl
 |some k=>
  simp only;rw[azx];apply ayI;intro j;rw[ayO];split
  next e=>subst e;have bX:=(No.1 hc).1;rw[BY (by simpa using bX),AT,hc];rfl
  rfl
theorem afT{l:List ar}(h:l.map core=l'.map core):l.map ar.stop=l'.map ar.stop:=by
 have:∀l:List ar,l.map ar.stop=(l.map core).map Prod.fst:=λl=>by rw[azI];rfl
 rw[this,this,h]
theorem Rr(cs:List ar)(c:Int):gC cs c=((cs.map ar.stop)[c.toNat]?).getD 0:=by simp[gC,AT]
theorem abO{cs R9:List ar}(h:R9.map ar.stop=cs.map ar.stop):R9.length=cs.length/\∀c,gC R9 c=gC cs c:=by refine⟨by simpa using congrArg List.length h,λc=>?_⟩;rw[Rr,Rr,h]
variable{runs:List aW}{x:aW}
theorem HV{i:Nat}{r:aW}(hr:runs[i]?=U r)(h:x.calls.map ar.stop=r.calls.map ar.stop)(v:Int):(aV (runs.set i x) v).length=(aV runs v).length/\∀c,gC (aV (runs.set i x) v) c=gC (aV runs v) c:=by
 by_cases hv:v.toNat=i
 .subst hv;have bX:=(No.1 hr).1;have h1:aV (runs.set v.toNat x) v=x.calls:=by unfold aV;simp_all
  have h2:aV runs v=r.calls:=by unfold aV;rw[hr];rfl
  rw[h1,h2];exact abO h
 .have h1:aV (runs.set i x) v=aV runs v:=by grind [aV,List.getElem?_set_ne]
  simp_all
theorem abP{i:Nat}{v:Int}(hv:v.toNat≠i):aV (runs.set i x) v=aV runs v:=by grind [aV,List.getElem?_set_ne]
theorem Y1{v:Int}(hv:0<=v/\v<(runs.length:Int)):aV (runs++[x]) v=aV runs v:=by simp_all[aV,azb]
theorem Um{l:List aK}(h:FY runs l){x:aK}(hx:x∈l):(0<=x.a/\x.a<(runs.length:Int))/\0<=x.b/\x.b<(runs.length:Int):=by obtain⟨k,hk,rfl⟩:=azZ hx;have:=h k hk;rw[Fs]at this;have⟨g1,g2,_⟩:=Rm this.1;omega
theorem Rs{s r:Int}(h:Ly x s r=0):dq x.id=Y/\(O (x.bg< -1)||decide (x.inst<0))=J/\(O (x.day<0)||decide (x.day>36524))=J/\(O (x.bn<0)||decide (x.bn>=r))=J/\(bP x.calls s 0 3155932800).2=0:=by
 unfold Ly at h;by_cases h1:dq x.id=J
 .simp_all
 grind
theorem Y2{s r:Int}(h1:dq x.id=Y)(h2:(O (x.bg< -1)||decide (x.inst<0))=J)(h3:(O (x.day<0)||decide (x.day>36524))=J)(h4:(O (x.bn<0)||decide (x.bn>=r))=J)(h5:(bP x.calls s 0 3155932800).2=0):Ly x s r=0:=by simp_all[Ly,IT]
theorem O9{N:aB}(h:(dZ N).2.2=0){i:Nat}{r:aW}(hr:N.runs[i]?=U r)(hk:cr x=cr r)(ht:x.bg=r.bg)(xN:x.bn=r.bn)(hc:(bP x.calls N.stops.length 0 3155932800).2=0){l:List aK}(hl:l.length<=1024)(hg:FY (N.runs.set i x) l):(dZ {N with runs:=N.runs.set i x,aA:=l}).2.2=0:=by rw[sj]at h⊢;obtain⟨g1,g2,g3,g4,g5,g6⟩:=h;have hi:=(No.1 hr).1;have hri:N.runs[i]=r:=(No.1 hr).2;have hE:=((ue _ _ _).1 g3).2 i hi;rw[hri]at hE;have⟨e1,e2,e3,e4,e5⟩:=Rs hE.1;simp_all[cr,aq4,Da,ajc,Y2]
theorem afU(N:aB)(m:bx)(h:(dZ N).2.2=0)(hm:dY m=0)(he:(SE N m).2=0):(dZ (SE N m).1).2.2=0:=by
 have⟨m1,m2,m3,m4,m5⟩:=ajf hm;have hz:=(sj N).1 h;obtain⟨g1,g2,g3,g4,g5,g6⟩:=hz;obtain⟨l1,l2⟩:=(Da _ _).1 g4;have TY:=(ue _ _ _).1 g3;unfold SE at he⊢;by_cases k5:m.kind=5
 .rw[BY k5]at he⊢;by_cases t1:(OS N.runs m).isSome=Y
  .simp_all
  rw[IT t1]at he⊢;by_cases t2:m.bn<0\/m.bn>=(N.ak.length:Int)
  .simp_all
  rw[IT t2]at he⊢;by_cases t3:(bP m.calls N.stops.length 0 3155932800).2≠0
  .simp_all
  rw[IT t3]at he⊢;by_cases t4:N.runs.length>=1024
  .simp_all
  rw[IT t4]at he⊢;rw[sj];have Jl:OS N.runs m=none:=av
  refine⟨g1,g2,ajd (ajb Jl) (Y2 m1 (by show(O ((-1:Int)< -1)||decide (m.inst<0))=J;simp;omega) (by show(O (m.day<0)||decide (m.day>36524))=J;simp;omega) (by show(O (m.bn<0)||decide (m.bn>=(N.ak.length:Int)))=J;simp;omega) (Decidable.of_not_not t3)) aa g3,(Da _ _).2 ⟨l1,A8 l2 ae λx hx v hv=>?_⟩,g5,g6⟩;have⟨b1,b2⟩:=Um l2 hx;have:0<=v/\v<(N.runs.length:Int):=aa
  rw[Y1 this];simp
 .rw[IT k5]at he⊢;cases ht:OS N.runs m with
  |none=>omega
  |some i=>
   have⟨hi,xS,_⟩:=Lx ht;have hr:N.runs[i]?=U N.runs[i]:=ta hi;rw[ht]at he;simp only[hr]at he⊢;have abQ:=(Rs (TY.2 i hi).1).2.2.2.2;have hlen:(N.runs.set i N.runs[i]).length=N.runs.length:=ae
   by_cases t1:(m.kind=1\/m.kind=3)/\(m.call<0\/m.call>=(N.runs[i].calls.length:Int))
   .simp_all
   rw[IT t1]at he⊢;by_cases k1:m.kind=1
   .rw[BY k1]at he⊢;cases hp:prop N.runs[i].calls m.call m.ck with
    |mk o e=>
     rw[hp]at he;cases o with
     |none=>omega
     |some l=>
      have Ta:e=0:=by unfold prop at hp;grind
      subst Ta;have⟨p1,p2⟩:=alN abQ hp;simp only;exact O9 (x:={N.runs[i]with calls:=l}) (l:=N.aA) h hr rfl rfl rfl p1 l1 (A8 l2 ae λx hx v _=>HV hr p2 v)
   .rw[IT k1]at he⊢;by_cases k2:m.kind=2
    .rw[BY k2];exact O9 (x:={N.runs[i]with xr:=Y}) (l:=N.aA) h hr rfl rfl rfl abQ l1 (A8 l2 ae λx hx v _=>HV (x:={N.runs[i]with xr:=Y}) hr rfl v)
    .rw[IT k2]at he⊢;by_cases k3:m.kind=3
     .rw[BY k3];exact O9 (x:={N.runs[i]with calls:=Rp N.runs[i].calls m.call.toNat}) (l:=N.aA) h hr rfl rfl rfl (Wk (Rq _ _).symm abQ) l1 (A8 l2 ae λx hx v _=>HV hr (afT (Rq _ _)) v)
     .rw[IT k3]at he⊢;by_cases k4:m.kind=4
      .rw[BY k4]at he⊢;by_cases t3:(bP m.calls N.stops.length 0 3155932800).2≠0
       .simp_all
       rw[IT t3]at he⊢;refine O9 (x:={N.runs[i]with calls:=m.calls}) h hr rfl rfl rfl (Decidable.of_not_not t3) (ayn (ayN _ _) l1) (Wj _ _ l2 ae λx hx hf v hv=>?_);simp only[ayx,ayp,ayv]at hf;have⟨b1,b2⟩:=Um l2 hx;have cO:v.toNat≠i:=aa
       rw[abP cO];simp
      simp_all
theorem Wl(x:bx):asAgg 13 x.pv=U ():=rfl
theorem Wm(x:bx):cell x.pv 0=.int .i64 x.source:=rfl
theorem Wn(x:bx):cell x.pv 1=.int .i64 x.seq:=rfl
theorem Wo(x:bx):cell x.pv 2=.int .i64 x.dI:=rfl
theorem Wp(x:bx):cell x.pv 3=.int .i64 x.cj:=rfl
theorem Wq(x:bx):cell x.pv 4=.int .i64 x.kind:=rfl
theorem Wr(x:bx):cell x.pv 5=.str x.bg:=rfl
theorem Ws(x:bx):cell x.pv 6=.int .i64 x.day:=rfl
theorem Wt(x:bx):cell x.pv 7=.int .i64 x.inst:=rfl
theorem Wu(x:bx):cell x.pv 8=.int .i64 x.call:=rfl
theorem Wv(x:bx):cell x.pv 9=.int .i64 x.ck:=rfl
theorem Lz(x:bx):cell x.pv 10=.int .i64 x.bn:=rfl
theorem LA(x:bx):cell x.pv 11=.bool x.free:=rfl
theorem Rt(x:bx):cell x.pv 12=.rs 5 (x.calls.map ar.pv):=rfl
theorem aqL(x:bx):PV.agg [.int .i64 x.source,.int .i64 x.seq,.int .i64 x.dI,.int .i64 x.cj,.int .i64 x.kind,.str x.bg,.int .i64 x.day,.int .i64 x.inst,.int .i64 x.call,.int .i64 x.ck,.int .i64 x.bn,.bool x.free,.rs 5 (x.calls.map ar.pv)]=x.pv:=rfl
theorem Ru(n a b:Int):dB [.int .i64 n,.int .i64 a,.int .i64 b]=U (.bool (wi n a b)):=by simp only[dB,AY,asInt,By,ab,bh];rfl
theorem ajg(n:Int):dh [.int .i64 n]=U (.bool (wi n 0 36524)):=by simp only[dh,AX,asInt,By,ab,bh];rfl
def LB(k:Int):PV:=.agg [.bool (O (k=1)||decide (k=3)),.bool (O (k=1)),.bool (O (k=5)),.bool (O (k=5)),.bool (O (k=4)||decide (k=5))]
theorem alO(k:Int):uf [.int .i64 k]=U (LB k):=by
 simp only[uf,Ff,asInt,By,ab,bW];unfold LB;by_cases h1:k=1
 .subst h1;rfl
 .by_cases h3:k=3
  .subst h3;rfl
  .by_cases h4:k=4
   .subst h4;rfl
   grind
theorem auj(k:Int):asAgg 5 (LB k)=U ():=rfl
theorem awH(k:Int):cell (LB k) 0=.bool (O (k=1)||decide (k=3)):=rfl
theorem awI(k:Int):cell (LB k) 1=.bool (O (k=1)):=rfl
theorem awJ(k:Int):cell (LB k) 2=.bool (O (k=5)):=rfl
theorem awK(k:Int):cell (LB k) 3=.bool (O (k=5)):=rfl
theorem awL(k:Int):cell (LB k) 4=.bool (O (k=4)||decide (k=5)):=rfl
theorem ad0(n:Nat):O ((n:Int)>0)=O (n>0):=ae
theorem X6(m:bx)(h:m.Ok):fF [m.pv]=U (.int .i64 (dY m)):=by
 have hid:=AD m.bg h.bg;have fO:=D4 m.calls 64 0 3155932800 h.calls.1;simp only[res]at fO;simp only[fF,wo,Wl,Wm,Wn,Wo,Wp,Wq,Wr,Ws,Wt,Wu,Wv,Lz,LA,Rt,ab,Ru,ajg,alO,auj,asInt,bU,aJ,By,asBool,hid,aG,aqL];unfold dY;simp only[tb];cases wi m.source 0 7 with
 |false=>rfl
 |true=>
  by_cases h2:m.seq<1
  .simp_all
  simp only[h2,By,aq3,AI,ax7,OF];cases(!wi m.dI 0 3155932800|| !wi m.cj 0 3155932800||decide (m.dI>=m.cj))with
  |true=>rfl
  |false=>
   cases wi m.kind 1 6 with
   |false=>rfl
   |true=>
    cases dq m.bg with
    |false=>rfl
    |true=>
     cases wi m.day 0 36524 with
     |false=>rfl
     |true=>
      by_cases h7:m.inst<0
      .simp_all
      simp only[h7,By,aq3,AI,ax7,OF];have e0:PV.agg [cell (LB m.kind) 0,cell (LB m.kind) 1,cell (LB m.kind) 2,cell (LB m.kind) 3,cell (LB m.kind) 4]=LB m.kind:=rfl;rw[e0];simp only[pH,ua,Wl,Wm,Wn,Wo,Wp,Wq,Wr,Ws,Wt,Wu,Wv,Lz,LA,Rt,ab,auj,awH,awI,awJ,awK,awL,Ru,asBool,fO,bY,al6,are,Nat.reduceAdd,By,Uz,WK,asInt,bU,aJ,aG,bh,dQ,te,ad0];grind
theorem alP(l:List ar)(stops low high:Int)(hl:l.length<=maxLen):wq [.rs 5 (l.map ar.pv),.int .i64 stops,.int .i64 low,.int .i64 high]=U (res (bP l stops low high).1 (bP l stops low high).2):=by
 have hm:=ax;simp only[wq,Hv,aJ,asInt,By,ab,te,aG];unfold bP;split
 .rfl
 .rw[<-dr];refine aC (λk=>(l.map ar.pv,stops,low,high,(k:Int),())) l.length _ (λk hk rec=>?_) (λrec=>?_) ?_ rfl
  .have h1:(k:Int)<(l.length:Int):=aa
   simp only[A9,tb,te,h1,By,af,AT,ta hk,IN,ab,nY,ni,jm,asInt,aG,ag (aa:k<9223372036854775807)];unfold ng lN;rw[ta hk];simp only;cases k with
   |zero=>
    have h0:O (((0:Nat):Int)>0)=false:=bm
    simp only[h0,cond_false,ab,aG,ayT,gB];generalize (O (l[0].stop<0)||decide (l[0].stop>=stops))=A;generalize (O (l[0].arr<low)||decide (l[0].arr>l[0].dep)||decide (l[0].dep>high))=B;cases A<;>cases B<;>rfl
   |succ j=>
    have h0:O (((j+1:Nat):Int)>0)=true:=ae
    have hj:j<l.length:=aa
    simp only[h0,cond_true,ab,sl j aa,af,AT,ta hj,IN,nY,jm,asInt,By,gB,bW,aG];generalize (O (l[j+1].stop<0)||decide (l[j+1].stop>=stops))=A;generalize (O (l[j+1].arr<low)||decide (l[j+1].arr>l[j+1].dep)||decide (l[j+1].dep>high))=B;generalize O (l[j].stop=l[j+1].stop)=C10;generalize O (l[j+1].arr<l[j].dep)=D;cases A<;>cases B<;>cases C10<;>cases D<;>rfl
  .simp only[A9,tb,te,awV,OF];rfl
  .have:=aP;omega
theorem aqM(s:Bytes)(hs:s.length<=maxLen):jY [.str s]=U (.bool (dq s)):=by
 have hm:=ax;simp only[jY,Fg,bU,ab,aG];refine D3 s hs (λk hk rec=>?_) (λrec=>?_) ?_
 .have h1:(k:Int)<(s.length:Int):=aa
  simp only[pX,tb,h1,By,D2,ta hk,ab,bh,aG,ag (aa:k<9223372036854775807),bW];grind [lq,ge_iff_le,decide]
 .simp[pX,tb,awV,OF]
 grind
theorem ajh(n a b:Int):(O (n<a)||decide (n>b))= !wi n a b:=by unfold wi;grind
theorem adt(m:bx)(h:m.Ok):pY [m.pv]=U (.int .i64 (dY m)):=by
 have hid:=aqM m.bg h.bg;have fO:=alP m.calls 64 0 3155932800 h.calls.1;simp only[res]at fO;have h4:(!wi m.dI 0 3155932800||decide (m.cj<0)||decide (m.cj>3155932800)||decide (m.dI>=m.cj))=(!wi m.dI 0 3155932800|| !wi m.cj 0 3155932800||decide (m.dI>=m.cj)):=by simp[ajh,Bool.or_assoc]
 simp only[pY,Hw,Wl,Wm,Wn,Wo,Wp,Wq,Wr,Ws,Wt,Wu,Wv,Lz,LA,Rt,ab,asInt,bU,aJ,By,asBool,hid,aG,h4,ajh,fO,bY,al6,are,Nat.reduceAdd,Uz,WK,bh,dQ,bW,te,ad0];unfold dY;simp only[tb];cases wi m.source 0 7 with
 |false=>rfl
 |true=>
  by_cases h2:m.seq<1
  .simp_all
  simp only[h2,By,aq3,AI,ax7,OF];cases(!wi m.dI 0 3155932800|| !wi m.cj 0 3155932800||decide (m.dI>=m.cj))with
  |true=>rfl
  |false=>
   cases wi m.kind 1 6 with
   |false=>rfl
   |true=>grind
theorem Y3{R:Type}(l:List aW)(m:bx)(g:Nat->R)(fin:Option R):bN ((I l.length).findSome? λk=>if O ((l.map cr)[k]?=U m.key)=Y then U (U (g k))else Z) fin=(match OS l m with|some k=>U (g k)|none=>fin):=by rw[fD (λk=>O ((l.map cr)[k]?=U m.key)) (λk=>U (g k))];unfold OS;cases(I l.length).find? (λk=>O ((l.map cr)[k]?=U m.key))<;>rfl
theorem ad1(l:List aW)(m:bx)(k:Nat)(hk:k<l.length):O ((l.map cr)[k]?=U m.key)=(O (l[k].id=m.bg)&&O (l[k].day=m.day)&&O (l[k].inst=m.inst)):=by rw[ayo];simp[ta hk,cr,bx.key,aAr]
def ad2(l:List aW)(m:bx):PV:=match OS l m with|some k=>.b8 [.int .i64 k,.bool Y]|none=>.b8 [.int .i64 0,.bool J]
theorem Y4(N:aB)(m:bx)(hr:N.runs.length<=maxLen):fW [N.pv,m.pv]=U (ad2 N.runs m):=by
 have hm:=ax;simp only[fW,ub,CD,DO,DP,DQ,DR,DS,DT,DU,DV,DW,ab];simp only[Wl,Wm,Wn,Wo,Wp,Wq,Wr,Ws,Wt,Wu,Wv,Lz,LA,Rt,ab,asInt,bU,aJ,By,asBool,te];generalize N.runs=l at hr⊢;have hs:=Y3 l m (λk=>PV.b8 [.int .i64 k,.bool Y]) (U (PV.b8 [.int .i64 0,.bool J]));have hR:(match OS l m with|some k=>U (PV.b8 [.int .i64 k,.bool Y])|none=>U (PV.b8 [.int .i64 0,.bool J]))=U (ad2 l m):=by unfold ad2;cases OS l m<;>rfl
 rw[<-hR,<-hs];refine aC (λk=>(l.map aW.pv,(l.length:Int),(k:Int),m.source,m.seq,m.dI,m.cj,m.kind,m.bg,m.day,m.inst,m.call,m.ck,m.bn,m.free,m.calls.map ar.pv,())) l.length _ (λk hk rec=>?_) (λrec=>?_) nN rfl
 .have h1:O ((k:Int)<(l.length:Int))=true:=ah
  rw[ad1 l m k hk];unfold ug;dsimp only;rw[BY h1,af,AT,ta hk];simp only[IN,ab,F9,MG,QG,asInt,bU,By,bW,bh,ag (aa:k<9223372036854775807)];cases O (l[k].id=m.bg)&&O (l[k].day=m.day)&&O (l[k].inst=m.inst)<;>rfl
 simp[ug,IT]
def abR(l:List aW)(m:bx):Int:=match OS l m with|some k=>(k:Int)|none=> -1
theorem Rv(N:aB)(m:bx)(hr:N.runs.length<=maxLen):oa [N.pv,m.pv]=U (.int .i64 (abR N.runs m)):=by
 have hm:=ax;simp only[oa,Fh,CD,DO,DP,DQ,DR,DS,DT,DU,DV,DW,ab];simp only[Wl,Wm,Wn,Wo,Wp,Wq,Wr,Ws,Wt,Wu,Wv,Lz,LA,Rt,ab,asInt,bU,aJ,By,asBool];generalize hl':N.runs=l at hr⊢;have hs:=Y3 l m (λk=>PV.int .i64 k) (U (PV.int .i64 (-1)));have hR:(match OS l m with|some k=>U (PV.int .i64 k)|none=>U (PV.int .i64 (-1)))=U (PV.int .i64 (abR l m)):=by unfold abR;cases OS l m<;>rfl
 rw[<-hR,<-hs];refine aC (λk=>((k:Int),N.stops.map Stop.pv,N.ak.map aD.pv,l.map aW.pv,N.aA.map aK.pv,N.paths.map Path.pv,N.aF.map bd.pv,N.aZ,N.within,N.cap,m.source,m.seq,m.dI,m.cj,m.kind,m.bg,m.day,m.inst,m.call,m.ck,m.bn,m.free,m.calls.map ar.pv,())) l.length _ (λk hk rec=>?_) (λrec=>?_) nN rfl
 .have h1:O ((k:Int)<((l.map aW.pv).length:Int))=true:=ah
  rw[ad1 l m k hk];unfold yF;dsimp only;rw[BY h1,af,AT,ta hk];simp only[IN,ab,F9,MG,QG,asInt,bU,By,bW,bh,ag (aa:k<9223372036854775807)];cases O (l[k].id=m.bg)&&O (l[k].day=m.day)&&O (l[k].inst=m.inst)<;>rfl
 simp[yF,IT]
theorem abS(x:ar):cell x.pv 3=.bool x.D9:=rfl
theorem abT(x:ar):cell x.pv 4=.bool x.vI:=rfl
theorem ang(x:ar):asAgg 5 x.pv=U ():=rfl
theorem auk(x:ar):PV.agg [.int .i64 x.stop,.int .i64 x.arr,.int .i64 x.dep,.bool x.D9,.bool x.vI]=x.pv:=rfl
def Span(c:ar):Prop:=0<=c.arr/\c.arr<=c.dep/\c.dep<=mC
variable{c:ar}
theorem Fu(h:Span c):0<=jn c/\jn c<=30:=by obtain⟨h1,h2,h3⟩:=h;unfold jn;omega
theorem pZ:mC=3155932800:=rfl
theorem wrap_small{x:Int}(h1: -100000000000<=x)(h2:x<=100000000000):C .i64 x=x:=bJ aa aa
theorem abU(h:Span c):wu [c.pv]=U (.int .i64 (jn c)):=by have:=pZ;obtain⟨h1,h2,h3⟩:=h;simp only[wu,Hq,ang,nY,ni,jm,abS,abT,asInt,asBool,ab,By];rw[wrap_small aa aa];unfold jn;grind
theorem afV(h:Span c):qe [c.pv]=U (.int .i64 (jn c)):=by have:=pZ;obtain⟨h1,h2,h3⟩:=h;simp only[qe,Ht,ang,nY,ni,jm,abS,abT,asInt,asBool,ab,By];rw[wrap_small aa aa];unfold jn;grind
def FZ(l:List ar)(k:Nat):Bool:=(l[k]?).elim J λc=>O (c.arr<((gB l k).map ar.dep).getD 0)||decide (c.dep<c.arr)||decide (c.dep>mC)
theorem Un{R:Type}(l:List ar)(no fin:Option R):bN ((I l.length).findSome? λk=>if FZ l k=Y then U no else Z) fin=if BK l=Y then fin else no:=by
 rw[fD (FZ l) (λ_=>no)];by_cases h:BK l=Y
 .rw[BY h];have:(I l.length).find? (FZ l)=none:=by rw[azF];intro k hk;have:=ayK.1 h k hk;simp_all[ayB,ta,azD,FZ]
  rw[this];rfl
 .rw[IT h];cases hf:(I l.length).find? (FZ l)with
  |some k=>rfl
  |none=>grind [BK,List.all_eq_true,FZ,List.getElem?_eq_getElem]
variable{l:List ar}
theorem Pa(h:BK l=Y){k:Nat}(hk:k<l.length):((gB l k).map ar.dep).getD 0<=l[k].arr/\l[k].arr<=l[k].dep/\l[k].dep<=mC:=by have:=ayK.1 h k (ayB.2 hk);simp_all
theorem zK(h:BK l=Y):∀k,(hk:k<l.length)->Span l[k]:=by
 intro k;induction k with
 |zero=>intro hk;have⟨a,b,c⟩:=Pa h hk;exact⟨a,b,c⟩
 |succ k ih=>
  intro hk;have⟨a,b,c⟩:=Pa h hk;have⟨x,y,z⟩:=ih aa;have:((gB l (k+1)).map ar.dep).getD 0=(l[k]'(aa)).dep:=by show((l[k]?).map ar.dep).getD 0=_;grind
  rw[this]at a;exact⟨aa,b,c⟩
theorem Ww(l:List ar)(hl:l.length<=maxLen):qK [.rs 5 (l.map ar.pv)]=U (.bool (BK l)):=by
 have hm:=ax;simp only[qK,C1,aJ,By,ab,te];have hs:=Un l (U (PV.bool J)) (U (PV.bool Y));have hR:(if BK l=Y then U (PV.bool Y)else U (PV.bool J))=U (.bool (BK l)):=by cases BK l<;>rfl
 rw[<-hR,<-hs];refine aC (λk=>(((gB l k).map ar.dep).getD 0,l.map ar.pv,(l.length:Int),(k:Int),())) l.length _ (λk hk rec=>?_) (λrec=>?_) nN rfl
 .have h1:O ((k:Int)<(l.length:Int))=true:=ah
  unfold vJ;dsimp only;have hp:((gB l (k+1)).map ar.dep).getD 0=l[k].dep:=by show((l[k]?).map ar.dep).getD 0=_;simp_all
  rw[BY h1,af,AT,ta hk];simp only[IN,ab,ni,jm,asInt,By,aG,ag (aa:k<9223372036854775807),hp];have:FZ l k=(O (l[k].arr<((gB l k).map ar.dep).getD 0)||decide (l[k].dep<l[k].arr)||decide (l[k].dep>3155932800)):=by simp only[FZ,ta hk,azD];rfl
  rw[this];cases(O (l[k].arr<((gB l k).map ar.dep).getD 0)||decide (l[k].dep<l[k].arr)||decide (l[k].dep>3155932800))<;>rfl
 simp[vJ,IT]
theorem Y5(l:List ar)(hl:l.length<=maxLen):qL [.rs 5 (l.map ar.pv)]=U (.bool (BK l)):=by
 have hm:=ax;simp only[qL,C2,aJ,By,ab];have hs:=Un l (U (PV.bool J)) (U (PV.bool Y));have hR:(if BK l=Y then U (PV.bool Y)else U (PV.bool J))=U (.bool (BK l)):=by cases BK l<;>rfl
 rw[<-hR,<-hs];have hA:∀k,(hk:k<l.length)->(∀j,(hj:j<k)->FZ l j=J)->FZ l k=(O (l[k].arr<0)||decide (l[k].arr>l[k].dep)||decide (l[k].dep>3155932800)||match gB l k with|some q=>O (l[k].arr<q.dep)|none=>J):=by
  intro k hk Mw;have fa:0<=((gB l k).map ar.dep).getD 0:=by
   have:∀j,(hj:j<=k)->0<=((gB l j).map ar.dep).getD 0:=by
    intro j;induction j with
    |zero=>intro _;exact aBv _
    |succ j ih=>intro hj;have h1:=Mw j aa;have h2:=ih aa;simp only[FZ,ta (aa:j<l.length),azD,ayp,ayv]at h1;show 0<=((l[j]?).map ar.dep).getD 0;grind
   simp_all
  simp only[FZ,ta hk,azD];rw[ayo];have:=pZ;grind
 refine CU (λk=>(l.map ar.pv,(k:Int),())) l.length _ (λk hk Mw rec=>?_) (λ_ rec=>?_) nN rfl
 .have h1:O ((k:Int)<(l.length:Int))=true:=ah
  rw[hA k hk (λj hj=>av)];unfold vK;dsimp only;rw[te,BY h1,af,AT,ta hk];simp only[IN,ab,ni,jm,asInt,By,aG,ag (aa:k<9223372036854775807)];cases k with
  |zero=>
   have h0:O (((0:Nat):Int)>0)=false:=bm
   simp only[h0,cond_false,ab,aG,ayT,gB];cases(O (l[0].arr<0)||decide (l[0].arr>l[0].dep)||decide (l[0].dep>3155932800))<;>rfl
  |succ j=>
   have h0:O (((j+1:Nat):Int)>0)=true:=ae
   have hj:j<l.length:=aa
   simp only[h0,cond_true,ab,sl j aa,af,AT,ta hj,IN,ni,jm,asInt,By,gB,aG];cases(O (l[j+1].arr<0)||decide (l[j+1].arr>l[j+1].dep)||decide (l[j+1].dep>3155932800))<;>cases O (l[j+1].arr<l[j].dep)<;>rfl
 simp[vK,te,IT]
theorem ad3(h:BK l=Y){n:Nat}(hn:n<l.length){ck:Int}(h1: -43200<=ck)(h2:ck<=43200):0<=DE l n ck/\DE l n ck<=3200000000:=by
 have⟨a,b,c⟩:=zK h n hn;have⟨x,y,z⟩:=Pa h hn;have:=pZ;have hb:0<=((gB l n).map ar.dep).getD 0:=by
  cases n with
  |zero=>exact aBv _
  |succ n=>show 0<=((l[n]?).map ar.dep).getD 0;rw[ta aa];have⟨a,b,c⟩:=zK h n aa;grind
 grind [DE,List.getElem?_eq_getElem]
theorem afW(h:BK l=Y){n:Nat}(hn:n<l.length)(hl:l.length<=maxLen){ck:Int}(h1: -43200<=ck)(h2:ck<=43200):wv [.rs 5 (l.map ar.pv),.int .i64 n,.int .i64 ck]=U (.int .i64 (DE l n ck)):=by
 have hm:=ax;have⟨a,b,c⟩:=zK h n hn;have:=pZ;simp only[wv,Hu,aJ,asInt,By,ab,af,AT,ta hn,IN,ni,wrap_small (show-100000000000<=l[n].arr+ck by omega) (aa:l[n].arr+ck<=100000000000)];unfold DE;rw[ta hn];cases n with
 |zero=>rw[IT ae];simp only[gB,IN,Option.map_none,Option.getD_none,ayy,tb];grind
 |succ j=>
  have hj:j<l.length:=aa
  rw[BY ae,sl j aa,af,AT,ta hj];simp only[gB,ta hj,IN,ayy,tb,ab,jm,asInt,By];grind
def Fv(pre:List ar):Option (List ar)->PV
 |some r=>.b8 [.rs 5 ((pre++r).map ar.pv),.int .i64 0]
 |none=>.b8 [.rs 5 [],.int .i64 10]
theorem HW(c d:ar)(ds:List ar)(a:Int):n9 (c::d::ds) a=if(late c a).dep>mC then Z else(n9 (d::ds) (d.arr+(late c a).dep-c.dep)).map λr=>late c a::r:=bm
theorem Na(c:ar)(a:Int):n9 [c] a=if(late c a).dep>mC then Z else U [late c a]:=bm
theorem Uo(c:ar)(cs:List ar)(a:Int)(h:(late c a).dep>mC):n9 (c::cs) a=none:=by
 cases cs with
 |nil=>rw[Na,BY h]
 |cons d ds=>rw[HW,BY h]
theorem Wx(pre:List ar)(x:ar)(o:Option (List ar)):Fv pre (o.map λr=>x::r)=Fv (pre++[x]) o:=by cases o<;>simp[Fv]
theorem Y6{a:Int}(h:Span c)(h0:0<=a)(h1:a<=8000000000):0<=(late c a).dep/\(late c a).dep<=8000000030:=by have⟨p,q⟩:=Fu h;obtain⟨x,y,z⟩:=h;have:=pZ;show 0<=(if a+jn c>c.dep then a+jn c else c.dep)/\(if a+jn c>c.dep then a+jn c else c.dep)<=8000000030;omega
theorem Nb{d:ar}{a:Int}(h:Span c)(hd:Span d)(hcd:c.dep<=d.arr)(h0:0<=a)(h1:¬(late c a).dep>mC):0<=d.arr+(late c a).dep-c.dep/\d.arr+(late c a).dep-c.dep<=8000000000:=by have⟨p,q⟩:=Fu h;obtain⟨x,y,z⟩:=h;obtain⟨x',y',z'⟩:=hd;grind [pZ,late,jn]
theorem afX(l:List ar)(hl:l.length<=1000)(sM:∀k,(hk:k<l.length)->Span l[k])(hor:∀k,(hk:k+1<l.length)->(l[k]'(aa)).dep<=l[k+1].arr):∀(j:Nat)(k:Nat)(a:Int)(out:List ar)(fu:Nat),k+j=l.length->j<fu->0<=a->a<=8000000000->out.length=k->bT (fX cD) fu (l.map ar.pv,a,(k:Int),out.map ar.pv,())=U (Fv out (n9 (l.drop k) a)):=by
 intro j;induction j with
 |zero=>intro k a out fu hk hf _ _ _;obtain⟨fu,rfl⟩:∃f,fu=f+1:=⟨fu-1,aa⟩;rw[bT];simp_all[fX,te,IT,ay3,n9,Fv]
 |succ j ih=>
  intro k a out fu hk hf ha0 Z7 ho;obtain⟨fu,rfl⟩:∃f,fu=f+1:=⟨fu-1,aa⟩;have jK:k<l.length:=aa
  have hc:=sM k jK;have⟨p1,p2⟩:=Fu hc;obtain⟨c1,c2,c3⟩:=hc;have:=pZ;have bG:∀x:PV,(out.map ar.pv++[x]).length*32<=au/\0<32:=agW
  have hwn:C .i64 ((k:Int)+1)=((k+1:Nat):Int):=ag aa;rw[bT];unfold fX;dsimp only;rw[te,BY av,af,AT,ta jK];simp only[IN,ab,nY,ni,jm,abS,abT,auk,afV (sM k jK),asInt,By,wrap_small (show-100000000000<=a+jn l[k] by omega) (aa:a+jn l[k]<=100000000000),bG,hwn,aBt,By];have aiQ:l.drop k=l[k]::l.drop (k+1):=ayA jK;have aul:∀b:Int,b=(late l[k] a).dep->PV.agg [.int .i64 l[k].stop,.int .i64 a,.int .i64 b,.bool l[k].D9,.bool l[k].vI]=(late l[k] a).pv:=by intro b hb;rw[hb];rfl
  have aum:out.map ar.pv++[(late l[k] a).pv]=(out++[late l[k] a]).map ar.pv:=ae
  have key:∀b:Int,b=(late l[k] a).dep->(if O (b>3155932800)=Y then U (PV.b8 [.rs 5 [],.int .i64 10])else
    if O (((k+1:Nat):Int)<(l.length:Int))=Y then(uW (l.map ar.pv) ((k+1:Nat):Int)).bind λp19=>(asInt .i64 (cell p19 1)).bind λn20=>bT (fX cD) fu (l.map ar.pv,C .i64 (C .i64 (n20+b)-l[k].dep),((k+1:Nat):Int),out.map ar.pv++[.agg [.int .i64 l[k].stop,.int .i64 a,.int .i64 b,.bool l[k].D9,.bool l[k].vI]],())
    else bT (fX cD) fu (l.map ar.pv,a,((k+1:Nat):Int),out.map ar.pv++[.agg [.int .i64 l[k].stop,.int .i64 a,.int .i64 b,.bool l[k].D9,.bool l[k].vI]],()))=U (Fv out (n9 (l.drop k) a)):=by
   intro b hb;rw[aul b hb,aum,aiQ];by_cases tz:(late l[k] a).dep>mC
   .rw[BY av];rw[Uo _ _ _ tz];rfl
   .rw[IT av];by_cases Og:k+1<l.length
    .rw[BY ao,af,AT,ta Og];simp only[IN,ab,ni,asInt,By];have⟨n1,n2⟩:=Nb (sM k jK) (sM (k+1) Og) (hor k Og) ha0 tz;have⟨d1,d2⟩:=Y6 (sM k jK) ha0 Z7;have⟨e1,e2,e3⟩:=sM (k+1) Og;rw[hb,wrap_small (show-100000000000<=l[k+1].arr+(late l[k] a).dep by omega) aa,wrap_small (show-100000000000<=l[k+1].arr+(late l[k] a).dep-l[k].dep by omega) aa];have hd2:l.drop (k+1)=l[k+1]::l.drop (k+1+1):=ayA Og;rw[ih (k+1) _ _ fu aa aa n1 n2 (by simp[ho]),hd2,HW,IT tz,Wx]
    .rw[IT ao,ih (k+1) _ _ fu aa aa ha0 Z7 (by simp[ho])];simp_all[ay3,Na,IT,Fv,n9]
  by_cases hg:a+jn l[k]>l[k].dep
  .rw[BY av];exact key (a+jn l[k]) (by show _=if a+jn l[k]>l[k].dep then _ else _;omega)
  .rw[IT av];exact key l[k].dep (by show _=if a+jn l[k]>l[k].dep then _ else _;omega)
def aji(x:Option (List ar)×Int):PV:=.b8 [.rs 5 ((x.1.getD []).map ar.pv),.int .i64 x.2]
theorem Nc(h:BK l=Y):∀k,(hk:k+1<l.length)->(l[k]'(aa)).dep<=l[k+1].arr:=by
 intro k hk;have⟨a,b,c⟩:=Pa h hk;have:((gB l (k+1)).map ar.dep).getD 0=(l[k]'(aa)).dep:=by show((l[k]?).map ar.dep).getD 0=_;grind
 omega
theorem ajj(l:List ar)(n ck:Int)(hl:l.length<=1000):nu [.rs 5 (l.map ar.pv),.int .i64 n,.int .i64 ck]=U (aji (prop l n ck)):=by
 have hmx:(1000:Nat)<=maxLen:=bj
 have hrg:=aP;simp only[nu,yq,aJ,asInt,By,ab,aG,Y5 l aa,asBool,te,azg];unfold prop;by_cases h1:n<0\/n>=(l.length:Int)
 .rw[BY h1,BY av];rfl
 rw[IT h1,IT av];by_cases h2:ck< -43200\/ck>43200
 .rw[BY h2,BY av];rfl
 rw[IT h2,IT av];cases ho:BK l with
 |false=>rfl
 |true=>
  simp only[aq3,AI,ax7,OF];rw[BY ao];obtain⟨m,rfl⟩:∃m:Nat,n=m:=⟨n.toNat,aa⟩;have hm:m<l.length:=aa
  have hd:List.drop (Int.toNat 0) (List.take (Int.toNat (m:Int)) (l.map ar.pv))=(l.take m).map ar.pv:=ae
  have bG:((l.take m).map ar.pv).length*32<=au/\0<32:=by grind [au,decide,List.length_map,List.length_take]
  rw[hd,BY bG,afW ho hm aa aa aa];simp only[ab,asInt,By,kC,anj];obtain⟨a1,a2⟩:=ad3 ho hm (show-43200<=ck by omega) aa;rw[afX l hl (zK ho) (Nc ho) (l.length-m) m _ (l.take m) rounds aa aa a1 aa ah];cases n9 (l.drop m) (DE l m ck)<;>rfl
theorem Up(l:List ar)(hl:l.length<=1000000):jB [.rs 5 (l.map ar.pv)]=U (.rs 5 (l.map ar.pv)):=by
 have hb:1000000*32<=au:=bj
 simp only[jB,CA,aJ,By,ab,te];rw[BY aa];simp[congr,anj,ayD,ayu,ay3,ayF]
theorem alQ(x:aK):PV.agg [.int .i64 x.a,.int .i64 x.ac,.int .i64 x.b,.int .i64 x.bc,.bool x.stay]=x.pv:=rfl
theorem Wy(l:List aK)(i:Nat)(hl:l.length<=1000000):lD [.rs 5 (l.map aK.pv),.int .i64 i]=U (.rs 5 ((l.filter λx=> !(O (x.a=(i:Int))||decide (x.b=(i:Int)))).map aK.pv)):=by
 have hmx:1000000<=maxLen:=bj
 have hb:1000000*40<=au:=bj
 simp only[lD,AZ,aJ,asInt,By,ab];refine aM (λk=>(l.map aK.pv,(i:Int),(k:Int),((l.take k).filter λx=> !(O (x.a=(i:Int))||decide (x.b=(i:Int)))).map aK.pv,())) l.length (λk hk rec=>?_) (λrec=>?_) nN ae
 .unfold uh;dsimp only;have hlen:((l.take k).filter λx=> !(O (x.a=(i:Int))||decide (x.b=(i:Int)))).length<=k:=ayn (ayN _ _) ah;rw[te,BY av,af,AT,ta hk];have bG:∀x:PV,(((l.take k).filter λx=> !(O (x.a=(i:Int))||decide (x.b=(i:Int)))).map aK.pv++[x]).length*40<=au/\0<40:=ao
  simp only[bG,aBt,IN,ab,alQ,Q7,Yz,link2,YA,Ub,asInt,By,bh,ag (aa:k<9223372036854775807),dQ];rw[awT hk,azJ,aya];grind
 simp[uh,te,IT,ays]
theorem ad4(x:aW):fZ 5 (cell x.vO 7)=U (x.calls.map ar.pv):=rfl
def outs(pre:List ar)(l:List ar)(k:Nat):List PV:=pre.map ar.pv++(l.drop k).map ar.pv
theorem ajk(pre l:List ar)(k:Nat)(hp:pre.length=k)(hk:k<=l.length):(outs pre l k).length=l.length:=by unfold outs;simp;omega
theorem ajl(pre l:List ar)(k:Nat)(hp:pre.length=k)(hk:k<l.length):(outs pre l k)[k]?=U l[k].pv:=by simp_all[outs,ay7,ta]
theorem ajm(pre l:List ar)(k:Nat)(hp:pre.length=k)(hk:k<l.length)(x:ar):(outs pre l k).set k x.pv=outs (pre++[x]) l (k+1):=by
 unfold outs;rw[aA8 _ _ ah];have h0:k-(pre.map ar.pv).length=0:=ah
 rw[h0,ayA hk,ayb,List.set_cons_zero,aya,ayt];rfl
variable{S R:Type}
theorem abV{body:S->(S->Option R)->Option R}(st:Int->Nat->List PV->S)(l:List ar)(i:Nat)(err:Option R)(fin:List PV->Option R)(Mw:∀k a out rec,k<i->k<l.length->body (st a k out) rec=rec (st a (k+1) out))(wX:∀k a pre rec,i<=k->(hk:k<l.length)->pre.length=k->0<=a->a<=8000000000->body (st a k (outs pre l k)) rec=if(late l[k] a).dep>mC then err else if h:k+1<l.length then rec (st (l[k+1].arr+(late l[k] a).dep-l[k].dep) (k+1) (outs (pre++[late l[k] a]) l (k+1)))else rec (st a (k+1) (outs (pre++[late l[k] a]) l (k+1))))(sx:∀a out rec,body (st a l.length out) rec=fin out)(sM:∀k,(hk:k<l.length)->Span l[k])(hor:∀k,(hk:k+1<l.length)->(l[k]'(aa)).dep<=l[k+1].arr)(hi:i<l.length)(hl:l.length+1<rounds)(a:Int)(h0:0<=a)(h1:a<=8000000000):cD.run body (st a 0 (l.map ar.pv))=match n9 (l.drop i) a with|some r=>fin ((l.take i++r).map ar.pv)|none=>err:=by
 rw[kC];have hA:∀k,k<=i->∀fu,bT body (k+fu) (st a (i-k) (l.map ar.pv))=bT body fu (st a i (l.map ar.pv)):=by
  intro k;induction k with
  |zero=>simp
  |succ k ih=>grind [bT]
 have hB:∀(j:Nat)(k:Nat)(a:Int)(pre:List ar)(fu:Nat),k+j=l.length->i<=k->j<fu->0<=a->a<=8000000000->pre.length=k->bT body fu (st a k (outs pre l k))=match n9 (l.drop k) a with|some r=>fin ((pre++r).map ar.pv)|none=>err:=by
  intro j;induction j with
  |zero=>intro k a pre fu hk Se hf _ _ hp;obtain⟨fu,rfl⟩:∃f,fu=f+1:=⟨fu-1,aa⟩;simp_all[bT,aAY,n9,outs]
  |succ j ih=>
   intro k a pre fu hk Se hf ha0 Z7 hp;obtain⟨fu,rfl⟩:∃f,fu=f+1:=⟨fu-1,aa⟩;have jK:k<l.length:=aa
   have hc:=sM k jK;rw[bT,wX k a pre _ Se jK hp ha0 Z7,ayA jK];by_cases tz:(late l[k] a).dep>mC
   .rw[BY tz,Uo _ _ _ tz]
   .rw[IT tz];by_cases hn:k+1<l.length
    .rw[aBu hn];have⟨n0,n1⟩:=Nb hc (sM (k+1) hn) (hor k hn) ha0 tz;rw[ih (k+1) _ _ fu aa aa aa n0 n1 (by simp[hp]),ayA hn,HW,IT tz];grind
    .rw[dif_neg hn];have hj:j=0:=aa
     subst hj;obtain⟨fu,rfl⟩:∃f,fu=f+1:=⟨fu-1,aa⟩;have ax1:k+1=l.length:=aa
     rw[bT,ay3 aa,Na,IT tz];grind [outs,late,bT,List.drop_eq_nil_of_le]
 have e1:cD.run body (st a 0 (l.map ar.pv))=bT body rounds (st a 0 (l.map ar.pv)):=rfl;have e2:=hA i (ayd _) (rounds-i);rw[Nat.sub_self,show i+(rounds-i)=rounds by omega]at e2;rw[e2];have e3:l.map ar.pv=outs (l.take i) l i:=by simp[outs,aya,azo]
 rw[e3];exact hB (l.length-i) i a (l.take i) (rounds-i) aa (ayd _) aa h0 h1 ah
theorem aqN{body:S->(S->Option R)->Option R}(st:Nat->Nat->List PV->S)(l:List aK)(p:aK->Bool)(out:List PV->Option R)(wX:∀j i x rec,(hi:i<l.length)->x.length=l.length->j<=i->x[i]?=U l[i].pv->body (st j i x) rec=if p l[i]=Y then rec (st (j+1) (i+1) (x.set j l[i].pv))else rec (st j (i+1) x))(sx:∀j x rec,x.length=l.length->j<=l.length->body (st j l.length x) rec=out (x.take j)):∀n j i x fu,i+n=l.length->j<=i->x.length=l.length->x.take j=((l.take i).filter p).map aK.pv->x.drop i=(l.drop i).map aK.pv->n<fu->bT body fu (st j i x)=out ((l.filter p).map aK.pv):=by
 intro n;induction n with
 |zero=>intro j i x fu hi hj hx ht hd hf;obtain⟨fu,rfl⟩:∃f,fu=f+1:=⟨fu-1,aa⟩;simp_all[bT,ays]
 |succ n ih=>
  intro j i x fu hi hj hx ht hd hf;obtain⟨fu,rfl⟩:∃f,fu=f+1:=⟨fu-1,aa⟩;have NS:i<l.length:=aa
  have fG:x[i]?=U l[i].pv:=by have:=congrArg (λy=>y[0]?) hd;grind
  have hd':x.drop (i+1)=(l.drop (i+1)).map aK.pv:=by rw[<-azN,hd,<-aBm,azN]
  rw[bT,wX j i x _ NS hx hj fG];by_cases hp:p l[i]=Y
  .rw[BY hp];refine ih (j+1) (i+1) _ fu aa aa (by rw[azm,hx]) ?_ ?_ aa
   .rw[awT NS,azJ,aya,<-ht];simp only[aAX,hp,By,List.filter_nil,ayb,ay6];have xQ:j<(x.set j l[i].pv).length:=ao
    rw[awT xQ,aA9,List.take_set_of_le (ayd j)]
   grind [List.drop_set_of_lt]
  .rw[IT hp];refine ih j (i+1) x fu aa aa hx ?_ hd' aa;grind [List.take_succ_eq_append_getElem]
theorem aqO{S':Type}{body:S->(S->Option R)->Option R}{body3:S'->(S'->Option R)->Option R}(st:Nat->S)(st3:Nat->Nat->List PV->S')(l:List aK)(p:aK->Bool)(out:List PV->Option R)(aqP:∀j i x rec,(hi:i<l.length)->x.length=l.length->j<=i->x[i]?=U l[i].pv->body3 (st3 j i x) rec=if p l[i]=Y then rec (st3 (j+1) (i+1) (x.set j l[i].pv))else rec (st3 j (i+1) x))(aun:∀j x rec,x.length=l.length->j<=l.length->body3 (st3 j l.length x) rec=out (x.take j))(wX:∀k rec,(hk:k<l.length)->body (st k) rec=if p l[k]=Y then rec (st (k+1))else cD.run body3 (st3 k (k+1) (l.map aK.pv)))(sx:∀rec,body (st l.length) rec=out (l.map aK.pv))(hl:l.length+1<rounds):cD.run body (st 0)=out ((l.filter p).map aK.pv):=by
 have:∀n k fu,k+n=l.length->n<fu->(l.take k).filter p=l.take k->bT body fu (st k)=out ((l.filter p).map aK.pv):=by
  intro n;induction n with
  |zero=>intro k fu hk hf ht;obtain⟨fu,rfl⟩:∃f,fu=f+1:=⟨fu-1,aa⟩;grind [List.take_length,bT]
  |succ n ih=>
   intro k fu hk hf ht;obtain⟨fu,rfl⟩:∃f,fu=f+1:=⟨fu-1,aa⟩;have jK:k<l.length:=aa
   rw[bT,wX k _ jK];by_cases hp:p l[k]=Y
   .rw[BY hp];grind [List.take_succ_eq_append_getElem]
   .rw[IT hp,kC];refine aqN st3 l p out aqP aun (l.length-(k+1)) k (k+1) _ rounds aa aa ae ?_ ae aa;grind [List.take_succ_eq_append_getElem,List.map_take]
 rw[kC];exact this l.length 0 rounds aa aa ae
structure W5(N:aB):Prop where
 ok:N.Ok
 stops:N.stops.length<=1000
 ak:N.ak.length<=1000
 runs:N.runs.length<=1024
 aA:N.aA.length<=1024
 paths:N.paths.length<=8192
 aF:N.aF.length<=1000
 calls:∀r∈N.runs,r.calls.length<=1000
def z9:PV:=.agg [.rs 0 [],.rs 0 [],.rs 0 [],.rs 0 [],.rs 0 [],.rs 0 [],.int .i64 0,.int .i64 0,.int .i64 0]
theorem afY(N:aB)(h:N.Ok)(hp:N.paths.length<=8192):wx [N.pv]=U (.bool (O ((dZ N).2.2=0))):=by have hc:=afC N h hp;simp only[wx,Hs,CD,DO,DP,DQ,DR,DS,DT,DU,DV,DW,ab,MR,hc];rfl
end Go.Ab.Tt
namespace Go.Ab.Tt
set_option maxRecDepth 100000
def aPV(N:aB)(m:bx):PV:=if(SE N m).2=0 then .b8 [(SE N m).1.pv,.int .i64 0]else .b8 [z9,.int .i64 (SE N m).2]
def ad5(N:aB)(m:bx):PV:=if(dZ N).2.2=0 then(if dY m=0 then aPV N m else .b8 [z9,.int .i64 (dY m)])else .b8 [z9,.int .i64 21]
theorem Ea{e:Int}{x y:Option PV}:(if(e !=0)=Y then x else y)=if e=0 then y else x:=ae
theorem Fx(l:List aW)(i:Nat)(hi:i<l.length):(l.map aW.vO)[i]?=U l[i].vO:=by simp[hi]
theorem aqQ(l:List aW)(i:Nat)(hi:i<l.length):aU (i:Int) (l.map aW.vO).length:=by rw[te];exact⟨aa,aa⟩
theorem Kq(x:aW)(l:List ar):PV.agg [.int .i64 x.bg,.int .i64 x.day,.int .i64 x.inst,.str x.id,.int .i64 x.bn,.bool x.free,.bool x.xr,.lJ 5 (l.map ar.pv)]=({x with calls:=l}:aW).vO:=rfl
theorem afZ(n:Int):Ab.asInt .i64 (.int .i64 n)=U n:=rfl
theorem alR(x:ar):PV.agg [cell x.pv 0,cell x.pv 1,cell x.pv 2,cell x.pv 3,cell x.pv 4]=x.pv:=rfl
theorem kI1(x:ar):Ab.asInt .i64 (cell x.pv 1)=U x.arr:=rfl
theorem kI2(x:ar):Ab.asInt .i64 (cell x.pv 2)=U x.dep:=rfl
theorem auo(x:ar)(a:Int):PV.agg (cell x.pv 0::.int .i64 a::over [] [cell x.pv 2,cell x.pv 3,cell x.pv 4])=({x with arr:=a}:ar).pv:=rfl
theorem aup(x:ar)(d:Int):PV.agg (cell x.pv 0::cell x.pv 1::.int .i64 d::over [] [cell x.pv 3,cell x.pv 4])=({x with dep:=d}:ar).pv:=rfl
theorem auq(c:ar)(a:Int):(if a+jn c>c.dep then a+jn c else c.dep)=(late c a).dep:=bm
theorem alS(c:ar)(a:Int):ar.mk c.stop a (late c a).dep c.D9 c.vI=late c a:=rfl
theorem aqR(x:aW)(l:List PV):(if(8:Nat)=1 then PV.lJ 5 l else .agg (cell x.vO 0::cell x.vO 1::cell x.vO 2::cell x.vO 3::cell x.vO 4::cell x.vO 5::cell x.vO 6::.lJ 5 l::over [] []))=.agg [.int .i64 x.bg,.int .i64 x.day,.int .i64 x.inst,.str x.id,.int .i64 x.bn,.bool x.free,.bool x.xr,.lJ 5 l]:=rfl
theorem anh(x:aW):PV.agg (cell x.vO 0::cell x.vO 1::cell x.vO 2::cell x.vO 3::cell x.vO 4::cell x.vO 5::.bool Y::over [] [cell x.vO 7])=({x with xr:=Y}:aW).vO:=rfl
theorem Nf(l:List aW)(i:Nat)(x:aW):((l.map aW.vO).set i x.vO).map PV.strip=(l.set i x).map aW.pv:=by rw[<-azx,rz]
theorem QE{A:Type}(l:List A)(k:Nat)(x:A)(h:k<l.length):(l.set k x)[k]?=U x:=by simp[h]
theorem Db(k n:Nat)(h:k<n):aU (k:Int) n:=⟨aa,aa⟩
def ajn(N:aB)(i:Nat)(l:List ar):aB:=match N.runs[i]? with|some r=>{N with runs:=N.runs.set i {r with calls:=l}}|none=>N
theorem ajo(x:aK):PV.agg [cell x.pv 0,cell x.pv 1,cell x.pv 2,cell x.pv 3,cell x.pv 4]=x.pv:=rfl
def ajp(i:Nat)(l:aK):Bool:= !(O (l.a=(i:Int))||decide (l.b=(i:Int)))
theorem Uq(x:aK)(i:Nat):fA [x.pv,.rp [.int .i64 i]]=U (.bool (!ajp i x)):=by have hA:asAgg 5 x.pv=U ():=rfl;simp only[fA,sT,hA,Q7,Yz,link2,YA,Ub,asInt,asBool,By,ab,aG,bW,ajp,aAF]
theorem ajq(x:ar):setCells 5 x.pv 3 1 (.bool J)=({x with D9:=J}:ar).pv:=rfl
theorem ajr(x:ar):setCells 5 x.pv 4 1 (.bool J)=({x with vI:=J}:ar).pv:=rfl
theorem aur(x:aW)(l:List ar):setRow 8 x.vO 7 (.lJ 5 (l.map ar.pv))=({x with calls:=l}:aW).vO:=rfl
theorem alT(x:aW)(l:List PV):(if(8:Nat)=1 then PV.lJ 5 l else .agg (cell x.pv 0::cell x.pv 1::cell x.pv 2::cell x.pv 3::cell x.pv 4::cell x.pv 5::cell x.pv 6::.lJ 5 l::over [] []))=.agg [.int .i64 x.bg,.int .i64 x.day,.int .i64 x.inst,.str x.id,.int .i64 x.bn,.bool x.free,.bool x.xr,.lJ 5 l]:=rfl
structure LC(q:PV)(m:bx):Prop where
 hA:asAgg 13 q=U ()
 h0:cell q 0=.int .i64 m.source
 h1:cell q 1=.int .i64 m.seq
 h2:cell q 2=.int .i64 m.dI
 h3:cell q 3=.int .i64 m.cj
 h4:cell q 4=.int .i64 m.kind
 h5:cell q 5=.str m.bg
 h6:cell q 6=.int .i64 m.day
 h7:cell q 7=.int .i64 m.inst
 h8:cell q 8=.int .i64 m.call
 h9:cell q 9=.int .i64 m.ck
 h10:cell q 10=.int .i64 m.bn
 h11:cell q 11=.bool m.free
 h12:aJ 5 (cell q 12)=U (m.calls.map ar.pv)
theorem aus(m:bx):LC m.pv m:=⟨rfl,rfl,rfl,rfl,rfl,rfl,rfl,rfl,rfl,rfl,rfl,rfl,rfl,rfl⟩
def ad6(q:PV):PV:=.agg [cell q 0,cell q 1,cell q 2,cell q 3,cell q 4,cell q 5,cell q 6,cell q 7,cell q 8,cell q 9,cell q 10,cell q 11,cell q 12]
theorem LC.agg{q:PV}{m:bx}(h:LC q m):LC (ad6 q) m:=⟨rfl,h.h0,h.h1,h.h2,h.h3,h.h4,h.h5,h.h6,h.h7,h.h8,h.h9,h.h10,h.h11,h.h12⟩
structure ajs(p:PV)(N:aB):Prop where
 hA:asAgg 9 p=U ()
 h0:aJ 4 (cell p 0)=U (N.stops.map Stop.pv)
 h1:aJ 3 (cell p 1)=U (N.ak.map aD.pv)
 h2:aJ 8 (cell p 2)=U (N.runs.map aW.pv)
 h3:aJ 5 (cell p 3)=U (N.aA.map aK.pv)
 h4:aJ 4 (cell p 4)=U (N.paths.map Path.pv)
 h5:aJ 6 (cell p 5)=U (N.aF.map bd.pv)
 h6:asInt .i64 (cell p 6)=U N.aZ
 h7:asInt .i64 (cell p 7)=U N.within
 h8:asInt .i64 (cell p 8)=U N.cap
theorem ani(N:aB):ajs N.pv N:=⟨rfl,rfl,rfl,rfl,rfl,rfl,rfl,rfl,rfl,rfl⟩
theorem aut(x:bx):aJ 5 (cell x.pv 12)=U (x.calls.map ar.pv):=rfl
theorem Y7{q:PV}{m:bx}(hq:LC q m):fF [q]=fF [m.pv]:=by simp only[fF,wo,hq.hA,hq.h0,hq.h1,hq.h2,hq.h3,hq.h4,hq.h5,hq.h6,hq.h7,hq.h8,hq.h9,hq.h10,hq.h11,hq.h12,Wl,Wm,Wn,Wo,Wp,Wq,Wr,Ws,Wt,Wu,Wv,Lz,LA,aut]
theorem Y8{p q:PV}{N:aB}{m:bx}(hp:ajs p N)(hq:LC q m):fW [p,q]=fW [N.pv,m.pv]:=by simp only[fW,ub,hp.hA,hp.h0,hp.h1,hp.h2,hp.h3,hp.h4,hp.h5,hp.h6,hp.h7,hp.h8,hq.hA,hq.h0,hq.h1,hq.h2,hq.h3,hq.h4,hq.h5,hq.h6,hq.h7,hq.h8,hq.h9,hq.h10,hq.h11,hq.h12,CD,DO,DP,DQ,DR,DS,DT,DU,DV,DW,Wl,Wm,Wn,Wo,Wp,Wq,Wr,Ws,Wt,Wu,Wv,Lz,LA,aut]
def Rw(ms:List PV)(len k:Int)(N:aB)(er:List PV):=(ms,(0:Int),len,k,(0:Int),(0:Int),(0:Int),N.aZ,N.within,N.cap,er,N.stops.map Stop.pv,N.ak.map aD.pv,N.runs.map aW.vO,N.aA.map aK.pv,N.paths.map Path.pv,N.aF.map bd.pv,())
theorem N5(er:List PV)(h:er.length<=3000)(x:PV):(er++[x]).length*8<=au/\0<8:=by grind [au,decide,List.length_append,List.length_singleton]
def Ur(ms:List PV)(len kk:Int)(er:List PV)(N:aB)(i c:Nat)(a:Int)(k:Nat)(out:List PV):=((i:Int),(c:Int),a,((N.runs[i]?).elim 0 λr=>(r.calls.length:Int)),(k:Int),(i:Int),ms,(0:Int),len,kk,N.runs.map aW.vO,out,N.aZ,N.within,N.cap,(0:Int),(0:Int),(0:Int),er,N.stops.map Stop.pv,N.ak.map aD.pv,N.aA.map aK.pv,N.paths.map Path.pv,N.aF.map bd.pv,())
theorem aqS(ms:List PV)(len:Int)(kk:Nat)(Aa:kk<1000)(er:List PV)(her:er.length<=1000)(iD:_->Option PV)(N:aB)(h:W5 N)(i c:Nat)(hi:i<N.runs.length)(hc:c<N.runs[i].calls.length)(ho:BK N.runs[i].calls=Y)(a:Int)(h0:0<=a)(h1:a<=8000000000):cD.run (iS cD iD) (Ur ms len kk er N i c a 0 (N.runs[i].calls.map ar.pv))=match n9 (N.runs[i].calls.drop c) a with|some r=>iD (Rw ms len (kk+1:Nat) (ajn N i (N.runs[i].calls.take c++r)) (er++[.int .i64 0]))|none=>iD (Rw ms len (kk+1:Nat) N (er++[.int .i64 10])):=by
 have hlen:=h.calls N.runs[i] (alx hi);have hrn:3003<rounds:=bj
 have sM:=zK ho;have Tn:=N5 er aa;have hrT:∀x,((er++[x]).length*8<=au/\0<8)=True:=λx=>eq_true (Tn x);have hwk:C .i64 ((kk:Int)+1)=((kk+1:Nat):Int):=ag aa;refine(abV (Ur ms len kk er N i c) N.runs[i].calls c (iD (Rw ms len (kk+1:Nat) N (er++[.int .i64 10]))) (λout=>iD (ms,0,len,((kk+1:Nat):Int),0,0,0,N.aZ,N.within,N.cap,er++[.int .i64 0],N.stops.map Stop.pv,N.ak.map aD.pv,(N.runs.map aW.vO).set i (.agg [.int .i64 N.runs[i].bg,.int .i64 N.runs[i].day,.int .i64 N.runs[i].inst,.str N.runs[i].id,.int .i64 N.runs[i].bn,.bool N.runs[i].free,.bool N.runs[i].xr,.lJ 5 out]),N.aA.map aK.pv,N.paths.map Path.pv,N.aF.map bd.pv,())) (λk a out rec hk jK=>?_) (λk a pre rec hk jK hp ha0 Z7=>?_) (λa out rec=>?_) sM (Nc ho) hc aa a h0 h1).trans ?_
 .unfold Ur iS;dsimp only;rw[ta hi,azD,BY av,BY av,ag aa,anj]
 .obtain⟨d0,d1⟩:=Fu (sM k jK);have⟨s0,s1,s2⟩:=sM k jK;have hlm:=pZ;have hol:=ajk pre N.runs[i].calls k hp aa;have hos:∀x,((outs pre N.runs[i].calls k).set k x).length=N.runs[i].calls.length:=λx=>av
  unfold Ur iS;dsimp only;rw[ta hi,azD,BY av,IT av];simp only[anj,Fx _ _ hi,ab,ad4,te,Db k _ jK,By,AT,ta jK,IN,hol,ajl pre _ k hp jK,kI2,alR,abU (sM k jK),afZ,auo,aup,hos,QE _ _ _ (aa:k<(outs pre N.runs[i].calls k).length),azl,wrap_small (show-100000000000<=a+jn N.runs[i].calls[k] by omega) (aa:a+jn N.runs[i].calls[k]<=100000000000),auq,alS,ag (aa:k<9223372036854775807),ajm pre _ k hp jK,tb,hrT,hwk,By];have fa:=Y6 (sM k jK) ha0 Z7;by_cases tz:(late N.runs[i].calls[k] a).dep>mC
  .rw[BY (show(late N.runs[i].calls[k] a).dep>3155932800 by omega),BY tz];rfl
  .rw[IT (show¬(late N.runs[i].calls[k] a).dep>3155932800 by omega),IT tz];by_cases hn:k+1<N.runs[i].calls.length
   .obtain⟨n0,n1⟩:=Nb (sM k jK) (sM (k+1) hn) (Nc ho k hn) ha0 tz;have⟨t0,t1,t2⟩:=sM (k+1) hn;rw[BY aa,aBu hn,BY (Db _ _ hn),ta hn];grind [ab,kI1,wrap_small,late]
   grind
 .unfold Ur iS;dsimp only;rw[ta hi,azD,IT ae];simp only[anj,Fx _ _ hi,ab,aqQ _ _ hi,By,aqR,hrT,hwk,By]
 .cases n9 (N.runs[i].calls.drop c) a with
  |none=>rfl
  |some r=>simp only[Kq,<-azx];simp only[ajn,ta hi];rfl
def ajt(ms:List PV)(len kk:Int)(er:List PV)(N:aB)(i:Nat)(runs:List PV)(j k:Nat)(x:List PV):=((j:Int),(k:Int),ms,(0:Int),len,kk,x,(i:Int),N.aZ,N.within,N.cap,(0:Int),(0:Int),(0:Int),er,N.stops.map Stop.pv,N.ak.map aD.pv,runs,N.paths.map Path.pv,N.aF.map bd.pv,())
theorem aqT(ms:List PV)(len:Int)(kk:Nat)(Aa:kk<1000)(er:List PV)(her:er.length<=1000)(iD:_->Option PV)(N:aB)(h:W5 N)(i:Nat)(runs:List PV):cD.run (ui cD iD) ((N.aA.length:Int),0,ms,0,len,(kk:Int),N.aA.map aK.pv,(i:Int),N.aZ,N.within,N.cap,0,0,0,er,N.stops.map Stop.pv,N.ak.map aD.pv,runs,N.paths.map Path.pv,N.aF.map bd.pv,())=iD (ms,0,len,((kk+1:Nat):Int),0,0,0,N.aZ,N.within,N.cap,er++[.int .i64 0],N.stops.map Stop.pv,N.ak.map aD.pv,runs,(N.aA.filter (ajp i)).map aK.pv,N.paths.map Path.pv,N.aF.map bd.pv,()):=by
 have hk:=h.aA;have hrn:3003<rounds:=bj
 have Tn:=N5 er aa;have hrT:∀x,((er++[x]).length*8<=au/\0<8)=True:=λx=>eq_true (Tn x);have hwk:C .i64 ((kk:Int)+1)=((kk+1:Nat):Int):=ag aa;refine aqO (λk=>((N.aA.length:Int),(k:Int),ms,(0:Int),len,(kk:Int),N.aA.map aK.pv,(i:Int),N.aZ,N.within,N.cap,(0:Int),(0:Int),(0:Int),er,N.stops.map Stop.pv,N.ak.map aD.pv,runs,N.paths.map Path.pv,N.aF.map bd.pv,())) (ajt ms len kk er N i runs) (body3:=uj cD iD) N.aA (ajp i) (λx=>iD (ms,0,len,((kk+1:Nat):Int),0,0,0,N.aZ,N.within,N.cap,er++[.int .i64 0],N.stops.map Stop.pv,N.ak.map aD.pv,runs,x,N.paths.map Path.pv,N.aF.map bd.pv,())) (λj k x rec jK hx hj hg=>?_) (λj x rec hx hj=>?_) (λk rec jK=>?_) (λrec=>?_) aa
 .unfold ajt uj;dsimp only;rw[BY av,BY (Db _ _ aa),anj,hg];simp only[ab,ajo,Uq,asBool,aAF,ag (aa:k<9223372036854775807),ag (aa:j<9223372036854775807),Db j x.length aa,By,anj,ta (aa:j<x.length)]
 .unfold ajt uj;simp_all
 .unfold ui;dsimp only;rw[BY av,BY (Db _ _ (by simpa using jK)),anj,AT,ta jK];simp only[IN,ab,ajo,Uq,asBool,ag (aa:k<9223372036854775807),bW];cases hp:ajp i N.aA[k]with
  |true=>rfl
  |false=>rfl
 simp_all[ui,IT,BY]
theorem aju(ms:List PV)(len:Int)(kk:Nat)(Aa:kk<1000)(er:List PV)(her:er.length<=1000)(iD:_->Option PV)(l:List bx)(hl:l.length<1000)(q:PV)(abW:uW ms (kk:Int)=U q)(hlen:len=(l.length:Int))(jK:kk<l.length)(N:aB)(h:W5 N)(Sv:∀m∈l,m.Ok)(hv:(dZ N).2.2=0)(hmc:∀m∈l,m.calls.length<=1000)(hL:LC q l[kk]):ob cD (Rw ms len kk N er) iD=iD (Rw ms len (kk+1:Nat) (if dY l[kk]=0 then(if(SE N l[kk]).2=0 then(SE N l[kk]).1 else N)else N) (er++[.int .i64 (if dY l[kk]=0 then(SE N l[kk]).2 else dY l[kk])])):=by
 have Tn:=N5 er aa;have hrT:∀x,((er++[x]).length*8<=au/\0<8)=True:=λx=>eq_true (Tn x);have hwk:C .i64 ((kk:Int)+1)=((kk+1:Nat):Int):=ag aa;have hm:=Sv _ (alx jK);have hc:=hmc _ (alx jK);have bX:O ((kk:Int)<len)=true:=av
 generalize l[kk]=m at hm hc hL⊢;have hmk:=(Y7 hL.agg).trans (X6 m hm);have hr:=h.runs;have ht:=Y4 N m (by grind [maxLen,decide]);have hme:PV.agg [cell q 0,cell q 1,cell q 2,cell q 3,cell q 4,cell q 5,cell q 6,cell q 7,cell q 8,cell q 9,cell q 10,cell q 11,cell q 12]=ad6 q:=rfl;have ht:=(Y8 (ani N) hL.agg).trans ht;conv=>lhs;unfold Rw ob
 dsimp only;rw[BY bX,abW];simp only[ab,hme,hmk,asInt,By,bne_self_eq_false,AI,OF,rz,MR,ht];simp only[bW,tb];by_cases Tu:dY m=0;case neg=>rw[IT Tu,IT Tu,IT Tu,BY (Tn _),hwk];rfl
 rw[BY Tu,BY Tu,BY Tu];unfold SE ad2;simp only[hL.h4,hL.h5,hL.h6,hL.h7,hL.h8,hL.h9,hL.h10,hL.h11,hL.h12,ab];simp only[asInt,bU,aJ,asBool,By,ab,bW,tb,hrT,hwk,By];by_cases k5:m.kind=5
 .simp only[k5,By];cases htg:OS N.runs m with
  |some i=>rfl
  |none=>
   have fO:=D4 m.calls N.stops.length 0 3155932800 hm.calls.1;simp only[res]at fO;have hoc:=Up m.calls aa;simp only[bY,al6,are,Nat.reduceAdd,By,ab,Uz,WK,asInt,asBool,azp,AI,OF,te,aG,ayj,tb,fO,Ea];by_cases xN:m.bn<0\/m.bn>=(N.ak.length:Int)
   .rw[BY xN,BY xN];rfl
   .rw[IT xN,IT xN];by_cases he:(bP m.calls (N.stops.length:Int) 0 3155932800).2=0
    .rw[BY he];by_cases hli:N.runs.length>=1024
     .rw[BY (show(N.runs.length:Int)>=1024 by omega)];simp only[he,aBg,aAU,OF,BY hli];rfl
     rw[IT (show¬((N.runs.length:Int)>=1024) by omega),hoc];simp only[ab,aJ,By,he,aBg,aAU,OF,IT hli];rw[BY agW];unfold Rw;rw[aya];rfl
    .rw[IT he,BY he];simp only[IT he];rfl
 .simp only[IT k5];cases htg:OS N.runs m with
  |none=>rfl
  |some i=>
   have⟨hi,Se,_⟩:=Lx htg;have nJ:aU (i:Int) N.runs.length:=⟨aa,aa⟩;have vR:=Oh hv N.runs[i] (alx hi);simp only[bY,al6,are,Nat.reduceAdd,By,ab,Uz,WK,asInt,asBool,aq3,AI,OF,Fx _ _ hi,ta hi,nJ,ad4,anj,te,aG,bh,ayj,tb];have Z2:((O (m.kind=1)||decide (m.kind=3))&&(O (m.call<0)||decide (m.call>=(N.runs[i].calls.length:Int))))=O ((m.kind=1\/m.kind=3)/\(m.call<0\/m.call>=(N.runs[i].calls.length:Int))):=ae
   rw[Z2];simp only[tb];by_cases hn:(m.kind=1\/m.kind=3)/\(m.call<0\/m.call>=(N.runs[i].calls.length:Int))
   .rw[BY hn,BY hn];rfl
   rw[IT hn,IT hn];by_cases k1:m.kind=1
   .simp only[k1,By];have hcb:¬(m.call<0\/m.call>=(N.runs[i].calls.length:Int)):=λhh=>hn ⟨.inl k1,hh⟩;have ax2:=aAI.1 hcb;unfold prop;rw[IT hcb,IT (show¬(m.call<0\/m.call>=(N.runs[i].calls.length:Int))from hcb)];by_cases hs:m.ck< -43200\/m.ck>43200
    .rw[BY hs,BY hs];rfl
    rw[IT hs,IT hs];obtain⟨c,Tc⟩:∃c:Nat,m.call=(c:Int):=⟨m.call.toNat,aa⟩;have Sb:c<N.runs[i].calls.length:=aa
    have hlen:=h.calls N.runs[i] (alx hi);have ho:=Ww N.runs[i].calls (by grind [maxLen,decide]);have hrq:akz (cell N.runs[i].vO 7)=U (.rs 5 (N.runs[i].calls.map ar.pv)):=rfl;simp only[hrq,ab,ho,asBool];cases hob:BK N.runs[i].calls with
    |false=>rfl
    |true=>
     have bG:0<=(N.runs[i].calls.length:Int)/\(N.runs[i].calls.length:Int)<=(N.runs[i].calls.length:Int)/\(N.runs[i].calls.length:Int).toNat*32<=au/\0<32/\0<5:=by grind [au,decide,Int.toNat_natCast]
     rw[IT ae,BY aa];simp only[Tc,anj];obtain⟨a1,a2⟩:=ad3 hob Sb (show-43200<=m.ck by omega) (aa:m.ck<=43200);have hA:=aqS ms len kk Aa er her iD N h i c hi Sb hob _ a1 aa;have hcp:∀z:PV,List.take (List.replicate N.runs[i].calls.length z).length (N.runs[i].calls.map ar.pv)++List.drop N.runs[i].calls.length (List.replicate N.runs[i].calls.length z)=N.runs[i].calls.map ar.pv:=λz=>by simp[ayD,ayu,ay3,ayF]
     have key:∀A,A=DE N.runs[i].calls c m.ck->cD.run (iS cD iD) ((i:Int),(c:Int),A,(N.runs[i].calls.length:Int),0,(i:Int),ms,0,len,(kk:Int),N.runs.map aW.vO,N.runs[i].calls.map ar.pv,N.aZ,N.within,N.cap,0,0,0,er,N.stops.map Stop.pv,N.ak.map aD.pv,N.aA.map aK.pv,N.paths.map Path.pv,N.aF.map bd.pv,())=match n9 (N.runs[i].calls.drop c) (DE N.runs[i].calls c m.ck)with|some r=>iD (Rw ms len (kk+1:Nat) (ajn N i (N.runs[i].calls.take c++r)) (er++[.int .i64 0]))|none=>iD (Rw ms len (kk+1:Nat) N (er++[.int .i64 10])):=by simp_all[Ur,ta]
     have hlm:=pZ;have⟨s0,s1,s2⟩:=zK hob c Sb;cases c with
     |zero=>rw[IT aa,BY (Db _ _ Sb)];simp only[AT,ta Sb,IN,ab,ni,asInt,By,hcp];refine(key _ ?_).trans (by split<;>rename_i hx<;>first|(simp only[hx,ajn,ta hi];rfl)|rfl|(simp[hx];done));rw[wrap_small aa aa];unfold DE;simp_all[ta,gB,IN,Option.map_none,Option.getD_none,ayy]
     |succ j=>
      have hj:j<N.runs[i].calls.length:=aa
      rw[BY aa,sl j aa,BY (Db _ _ hj)];simp only[anj,AT,ta hj,IN,ab,ni,jm,asInt,By,hcp,Db _ _ Sb,ta Sb];refine(key _ ?_).trans (by split<;>rename_i hx<;>first|(simp only[hx,ajn,ta hi];rfl)|rfl|(simp[hx];done));grind [wrap_small,DE,List.getElem?_eq_getElem,gB]
   simp only[IT k1];by_cases k2:m.kind=2
   .simp only[k2,By,Fx _ _ hi,ab,anh,<-azx];rfl
   simp only[IT k2];by_cases k3:m.kind=3
   .simp only[k3,By];have hcb:=aAI.1 (λhh=>hn ⟨.inr k3,hh⟩:¬(m.call<0\/m.call>=(N.runs[i].calls.length:Int)));obtain⟨c,Tc⟩:∃c:Nat,m.call=(c:Int):=⟨m.call.toNat,aa⟩;have Sb:c<N.runs[i].calls.length:=aa
    simp only[Tc,anj,Db c _ Sb,By,AT,ta Sb,IN,ab,ajq,<-azx,aur,azm,te,nJ,az2 hi,ad4,az2 Sb,ajr,azl,rz];simp only[Rp,ta Sb];rfl
   simp only[IT k3];by_cases k4:m.kind=4
   .simp only[k4,By];have fO:=D4 m.calls N.stops.length 0 3155932800 hm.calls.1;simp only[res]at fO;have hoc:=Up m.calls aa;simp only[fO,ab,bY,al6,are,Nat.reduceAdd,By,Uz,WK,asInt,Ea];by_cases he:(bP m.calls (N.stops.length:Int) 0 3155932800).2=0
    .simp only[he,hoc,ab,aJ,By,aBg,aAU,OF];rw[aqT ms len kk Aa er her iD N h i,aqR,Kq];rw[<-azx];rfl
    .rw[IT he,BY he];simp only[IT he];rfl
   simp only[IT k4];rfl
def Rx(N:aB)(m:bx):aB:=if dY m=0 then(if(SE N m).2=0 then(SE N m).1 else N)else N
def Wz(N:aB)(m:bx):Int:=if dY m=0 then(SE N m).2 else dY m
def Sy(N:aB)(er:List Int):List bx->aB×List Int
 |[]=>(N,er)
 |m::l=>Sy (Rx N m) (er++[Wz N m]) l
theorem MH{N:aB}{m:bx}(h:(dZ N).2.2=0):(dZ (Rx N m)).2.2=0:=by
 unfold Rx;by_cases h1:dY m=0
 .rw[BY h1];by_cases h2:(SE N m).2=0
  .simp_all[BY,afU]
  simp_all
 simp_all
structure BJ(N N':aB)(m:bx):Prop where
 stops:N'.stops=N.stops
 ak:N'.ak=N.ak
 paths:N'.paths=N.paths
 aF:N'.aF=N.aF
 aZ:N'.aZ=N.aZ
 within:N'.within=N.within
 cap:N'.cap=N.cap
 aA:N'.aA.length<=N.aA.length/\∀x∈N'.aA,x∈N.aA
 len:N'.runs.length<=N.runs.length+1
 runs:∀r∈N'.runs,(∃r0∈N.runs,r.bg=r0.bg/\r.inst=r0.inst/\r.id=r0.id/\r.day=r0.day/\r.bn=r0.bn)\/(r.bg= -1/\r.inst=m.inst/\r.id=m.bg/\r.day=m.day/\r.bn=m.bn)
theorem BJ.rfl'(N:aB)(m:bx):BJ N N m:=⟨rfl,rfl,rfl,rfl,rfl,rfl,rfl,⟨ayd _,λ_ h=>h⟩,Nat.le_succ _,λr h=>.inl ⟨r,h,rfl,rfl,rfl,rfl,rfl⟩⟩
theorem LD{N:aB}{m:bx}{i:Nat}{r x:aW}(hr:N.runs[i]?=U r)(h:x.bg=r.bg/\x.inst=r.inst/\x.id=r.id/\x.day=r.day/\x.bn=r.bn)(ls:List aK)(hl:ls.length<=N.aA.length/\∀y∈ls,y∈N.aA):BJ N {N with runs:=N.runs.set i x,aA:=ls} m:=by refine⟨rfl,rfl,rfl,rfl,rfl,rfl,rfl,hl,ae,λq hq=>.inl ?_⟩;grind
theorem ajv(N:aB)(m:bx):BJ N (SE N m).1 m:=by
 unfold SE;by_cases k5:m.kind=5
 .rw[BY k5];split
  .exact BJ.rfl' N m
  .split
   .exact BJ.rfl' N m
   .split
    .exact BJ.rfl' N m
    .split
     .exact BJ.rfl' N m
     .refine⟨rfl,rfl,rfl,rfl,rfl,rfl,rfl,⟨ayd _,λ_ h=>h⟩,ae,λr h=>?_⟩;rcases ayq.1 h with h|h
      .grind
      .simp only[ayZ]at h;subst h;exact .inr ⟨rfl,rfl,rfl,rfl,rfl⟩
 .rw[IT k5];cases OS N.runs m with
  |none=>exact BJ.rfl' N m
  |some i=>
   dsimp only;cases hr:N.runs[i]? with
   |none=>exact BJ.rfl' N m
   |some r=>
    have hls:N.aA.length<=N.aA.length/\∀y∈N.aA,y∈N.aA:=⟨ayd _,λ_ h=>h⟩;dsimp only;split
    .exact BJ.rfl' N m
    .split
     .cases prop r.calls m.call m.ck with
      |mk o e=>
       cases o with
       |none=>exact BJ.rfl' N m
       |some l=>exact LD (x:={r with calls:=l}) hr ⟨rfl,rfl,rfl,rfl,rfl⟩ N.aA hls
     .split
      .exact LD (x:={r with xr:=Y}) hr ⟨rfl,rfl,rfl,rfl,rfl⟩ N.aA hls
      .split
       .exact LD (x:={r with calls:=Rp r.calls m.call.toNat}) hr ⟨rfl,rfl,rfl,rfl,rfl⟩ N.aA hls
       .split
        .split
         .exact BJ.rfl' N m
         .exact LD (x:={r with calls:=m.calls}) hr ⟨rfl,rfl,rfl,rfl,rfl⟩ _ ⟨ayN _ _,λy h=>(ayr.1 h).1⟩
        .exact BJ.rfl' N m
theorem QI(N:aB)(m:bx):BJ N (Rx N m) m:=by grind [Rx,ajv,BJ.rfl']
theorem WA{x:Int}(h1: -9223372036854775808<=x)(h2:x<=9223372036854775807):po x:=by show(O ((-9223372036854775808:Int)<=x)&&O (x<=(9223372036854775807:Int)))=Y;simp[h1,h2]
theorem Y9{l:List ar}{n:Int}(h:(bP l n 0 3155932800).2=0)(hn:n<=100000):l.length<=32/\∀y∈l,y.Ok:=by have⟨h1,h2⟩:=Oi h;refine⟨h2,λy hy=>?_⟩;obtain⟨k,hk,rfl⟩:=az7.1 hy;have he:=Oj h k hk;unfold ng at he;rw[ta hk]at he;have ho:∃p,lN l[k] p n 0 3155932800=0:=⟨_,he⟩;obtain⟨p,ho⟩:=ho;have⟨a1,a2,a3,_⟩:=AP ho;have⟨b1,b2,_⟩:=Ft ho;exact⟨WA aa aa,WA aa aa,WA aa aa⟩
theorem QH{N N':aB}{m:bx}(h:W5 N)(hs:BJ N N' m)(hv:(dZ N').2.2=0)(hm:m.Ok):W5 N':=by
 have Sw:3000<=maxLen:=bj
 have hcv:=Oh hv;have kh:=DX ((sj N').1 hv).1;refine⟨⟨?_,?_,?_,?_,?_,?_,?_,?_,?_⟩,?_,?_,?_,?_,?_,?_,?_⟩
 .rw[hs.stops];exact h.ok.stops
 .rw[hs.ak];exact h.ok.ak
 .refine⟨by have:=hs.len;have:=h.runs;omega,λr hr=>?_⟩;have⟨c1,c2⟩:=Y9 (hcv r hr) aa;rcases hs.runs r hr with⟨r0,h0,e1,e2,e3,e4,e5⟩|⟨e1,e2,e3,e4,e5⟩
  .have g:=h.ok.runs.2 r0 h0;exact⟨by rw[e1];exact g.bg,by rw[e4];exact g.day,by rw[e2];exact g.inst,by rw[e3];exact g.id,by rw[e5];exact g.bn,aa,c2⟩
  .exact⟨by grind [WA],by rw[e4];exact hm.day,by rw[e2];exact hm.inst,by rw[e3];exact hm.bg,by rw[e5];exact hm.bn,aa,c2⟩
 .exact⟨ayn hs.aA.1 h.ok.aA.1,λx hx=>h.ok.aA.2 x (hs.aA.2 x hx)⟩
 .rw[hs.paths];exact h.ok.paths
 .rw[hs.aF];exact h.ok.aF
 .rw[hs.aZ];exact h.ok.aZ
 .rw[hs.within];exact h.ok.within
 .rw[hs.cap];exact h.ok.cap
 .omega
 .rw[hs.ak];exact h.ak
 .simp_all[ue,sj]
 .exact ayn hs.aA.1 h.aA
 .rw[hs.paths];exact h.paths
 .rw[hs.aF];exact h.aF
 grind [Y9]
def TQ(x:aB×List Int):PV:=.b8 [x.1.pv,.rs 1 (x.2.map λe=>.int .i64 e)]
theorem ajw(ms:List PV)(l:List bx)(Sw:∀k,(hk:k<l.length)->∃q,ms[k]?=U q/\LC q l[k])(hl:l.length<=300)(Sv:∀m∈l,m.Ok)(hmc:∀m∈l,m.calls.length<=1000):∀(j k:Nat)(N:aB)(er:List Int)(fu:Nat),k+j=l.length->j<fu->W5 N->(dZ N).2.2=0->er.length<=k->bT (ob cD) fu (Rw ms (l.length:Int) k N (er.map λe=>.int .i64 e))=U (TQ (Sy N er (l.drop k))):=by
 intro j;induction j with
 |zero=>
  intro k N er fu hk hf hN hv he;obtain⟨fu,rfl⟩:∃f,fu=f+1:=⟨fu-1,aa⟩;have:k=l.length:=aa
  subst this;rw[bT,aAY];unfold Rw ob;dsimp only;rw[IT ae,rz];rfl
 |succ j ih=>
  intro k N er fu hk hf hN hv he;obtain⟨fu,rfl⟩:∃f,fu=f+1:=⟨fu-1,aa⟩;have jK:k<l.length:=aa
  have⟨q,hq1,hq2⟩:=Sw k jK;rw[bT,aju _ _ k aa _ ah _ l aa q (by rw[af];omega) rfl jK N hN Sv hv hmc hq2];have hs:=QI N l[k];have Tl:=MH (m:=l[k]) hv;have hlen:=hs.len;have:=ih (k+1) (Rx N l[k]) (er++[Wz N l[k]]) fu aa aa (QH hN hs Tl (Sv _ (alx jK))) Tl ah;rw[aya]at this;rw[ayA jK];exact this
theorem ajx(p:PV)(ms:List PV)(N:aB)(l:List bx)(hp:ajs p N)(OM:ms.length=l.length)(Sw:∀k,(hk:k<l.length)->∃q,ms[k]?=U q/\LC q l[k])(h:W5 N)(hv:(dZ N).2.2=0)(hl:l.length<=300)(Sv:∀m∈l,m.Ok)(hmc:∀m∈l,m.calls.length<=1000):ke [p,.rs 13 ms]=U (TQ (Sy N [] l)):=by
 have hrn:3003<rounds:=bj
 have WX:=aby N h.ok (by have:=h.paths;omega);have f1:=QN (N.stops.map Stop.pv) (by have:=h.stops;simp;omega);have f2:=N6 (N.ak.map aD.pv) (by have:=h.ak;simp;omega);have UX:=h.runs;have f3:=TX (N.runs.map aW.pv) ah;have f4:=QO (N.aA.map aK.pv) (by have:=h.aA;simp;omega);have f5:=GW (N.paths.map Path.pv) (by have:=h.paths;simp;omega);have f6:=Jo (N.aF.map bd.pv) (by have:=h.aF;simp;omega);have key:=ajw ms l Sw hl Sv hmc l.length 0 N [] rounds aa aa h hv ae;simp only[ke,Hr,hp.hA,hp.h0,hp.h1,hp.h2,hp.h3,hp.h4,hp.h5,hp.h6,hp.h7,hp.h8,ab];simp only[aJ,By,ab,f1,f2,f3,f4,f5,te];refine aM (λk=>((N.runs.length:Int),(k:Int),ms,N.stops.map Stop.pv,N.ak.map aD.pv,N.runs.map aW.pv,N.aA.map aK.pv,N.paths.map Path.pv,N.aF.map bd.pv,N.aZ,N.within,N.cap,(0:Int),(0:Int),(0:Int),N.aF.map bd.pv,N.aZ,N.within,N.cap,N.stops.map Stop.pv,N.ak.map aD.pv,N.runs.map aW.pv,N.aA.map aK.pv,N.paths.map Path.pv,N.aF.map bd.pv,N.aZ,N.within,N.cap,(0:Int),(0:Int),(0:Int),N.stops.map Stop.pv,N.ak.map aD.pv,mix aW.vO aW.pv N.runs k,N.aA.map aK.pv,N.paths.map Path.pv,())) N.runs.length (λk hk rec=>?_) (λrec=>?_) aa bm
 .have fc:=QP (N.runs[k].calls.map ar.pv) (by have:=h.calls _ (alx hk);simp;omega);unfold Ba;dsimp only;rw[BY av,BY (VL _ _ _ _ hk),anj,adx _ _ _ _ hk];simp only[ab,DN,fc,aJ,By,VL _ _ _ _ hk,alT,ag (aa:k<9223372036854775807)];have:=adw aW.vO aW.pv N.runs k hk;rw[<-this];rfl
 .unfold Ba;dsimp only;rw[IT ae,f6];simp only[ab,aJ,By,MR,WX];simp only[lO,bY,al6,are,Nat.reduceAdd,By,Uz,WK,asInt,ab,hv,ady,te,OM];rw[kC];exact key
theorem aic(N:aB)(l:List bx)(h:W5 N)(hv:(dZ N).2.2=0)(hl:l.length<=300)(Sv:∀m∈l,m.Ok)(hmc:∀m∈l,m.calls.length<=1000):ke [N.pv,.rs 13 (l.map bx.pv)]=U (TQ (Sy N [] l)):=ajx N.pv (l.map bx.pv) N l (ani N) ae (λk hk=>⟨l[k].pv,by simp[hk],aus _⟩) h hv hl Sv hmc
theorem Za{m:bx}(h:dY m=0)(hk:m.kind=1\/m.kind=3):0<=m.call:=by
 unfold dY at h;by_cases h1:wi m.source 0 7=J
 .simp_all
 rw[IT h1]at h;by_cases h2:m.seq<1
 .omega
 rw[IT h2]at h;by_cases h3:(!wi m.dI 0 3155932800|| !wi m.cj 0 3155932800||decide (m.dI>=m.cj))=Y
 .simp_all
 rw[IT h3]at h;by_cases h4:wi m.kind 1 6=J
 .simp_all
 rw[IT h4]at h;by_cases h5:dq m.bg=J
 .simp_all
 rw[IT h5]at h;by_cases h6:wi m.day 0 36524=J
 .simp_all
 rw[IT h6]at h;by_cases h7:m.inst<0
 .omega
 rw[IT h7]at h;have hu:(O (m.kind=1)||decide (m.kind=3))=true:=av
 simp only[hu,ayS]at h;by_cases h8:wi m.call 0 31=Y
 .simp_all[wi,T1,tb]
 simp_all
theorem Zb(l:List aW)(hl:l.length<=3000)(hc:∀r∈l,r.calls.length<=1000):mc [.rs 8 (l.map aW.pv)]=U (.rs 8 (l.map aW.pv)):=by
 have hrn:3003<rounds:=bj
 have WZ:1000*32<=au:=bj
 have yO:3001*80<=au:=bj
 simp only[mc,JT,aJ,By,ab];refine aM (λk=>(l.map aW.pv,(k:Int),(l.take k).map aW.pv,())) l.length (λk hk rec=>?_) (λrec=>?_) aa rfl
 .unfold Dc;dsimp only;have WX:=hc _ (alx hk);rw[te,BY av,af,AT,ta hk];simp only[IN,ab,DN,aJ,By];rw[BY ao,BY ao,ag aa,awT hk,aya];rfl
 simp[Dc,te,IT,ays]
theorem Us{l:List aW}{m:bx}{i:Nat}(h:OS l m=U i):abR l m=i:=by unfold abR;rw[h]
theorem Ut{l:List aW}{m:bx}(h:OS l m=Z):abR l m= -1:=by unfold abR;rw[h]
theorem af0(N:aB)(m:bx)(h:W5 N)(hm:m.Ok)(hc:m.calls.length<=1000)(k5:m.kind=5):wy [N.pv,m.pv]=U (aPV N m):=by
 have hr:=h.runs;have ht:=Rv N m (by grind [maxLen,decide]);have fO:=MQ m.calls N.stops.length 0 3155932800 hm.calls.1;have hr1:=Zb N.runs aa h.calls;have Tv:=Zb [abM m] ae (by intro r hr;simp only[ayZ]at hr;subst hr;exact hc);have e2:List.map aW.pv [abM m]=[.agg [.int .i64 (-1),.int .i64 m.day,.int .i64 m.inst,.str m.bg,.int .i64 m.bn,.bool m.free,.bool J,.rs 5 (m.calls.map ar.pv)]]:=rfl;rw[e2]at Tv;simp only[wy,Hx,CD,DO,DP,DQ,DR,DS,DT,DU,DV,DW,ab];simp only[Wl,Wm,Wn,Wo,Wp,Wq,Wr,Ws,Wt,Wu,Wv,Lz,LA,Rt,ab,asInt,bU,aJ,By,asBool,te,MR,aqL,ht,fO,hr1,Tv,aG,ayj,tb,Ea];unfold aPV SE;rw[BY k5];cases htg:OS N.runs m with
 |some i=>rw[Us htg,BY aa];rfl
 |none=>
  rw[Ut htg,IT aa];simp only[azp,AI,OF];by_cases xN:m.bn<0\/m.bn>=(N.ak.length:Int)
  .rw[BY xN,BY xN];rfl
  .rw[IT xN,IT xN];by_cases he:(bP m.calls (N.stops.length:Int) 0 3155932800).2=0
   .rw[BY he];by_cases hli:N.runs.length>=1024
    .rw[BY (show(N.runs.length:Int)>=1024 by omega)];simp only[he,aBg,aAU,OF,BY hli];rfl
    rw[IT (show¬((N.runs.length:Int)>=1024) by omega),BY agW];simp only[he,aBg,aAU,OF,IT hli,By,<-e2,<-aya];rfl
   .rw[IT he,BY he,IT he];rfl
theorem awM(x:aW)(l:List ar):PV.agg (cell x.vO 0::cell x.vO 1::cell x.vO 2::cell x.vO 3::cell x.vO 4::cell x.vO 5::cell x.vO 6::.rs 5 (l.map ar.pv)::over [] [])=({x with calls:=l}:aW).pv:=rfl
theorem abX(l:List aW)(i:Nat)(x:aW):((l.map aW.vO).set i x.pv).map PV.strip=(l.set i x).map aW.pv:=by have h1:=Nf l i x;rw[azx]at h1⊢;rw[<-h1];rfl
theorem abY(l:List ar)(n s:Int):(∃r,prop l n s=(U r,0))\/∃e,prop l n s=(Z,e)/\e≠0:=by
 unfold prop;by_cases h1:n<0\/n>=(l.length:Int)
 .simp_all
 rw[IT h1];by_cases h2:s< -43200\/s>43200
 .simp_all
 rw[IT h2];by_cases h3:BK l=J
 .simp_all
 rw[IT h3];cases n9 (l.drop n.toNat) (DE l n.toNat s)with
 |some r=>simp
 |none=>simp
def alU(N:aB)(m:bx)(i k:Nat):=(N.runs.map aW.pv,(k:Int),(i:Int),(N.runs.take k).map aW.vO,N.stops.map Stop.pv,N.ak.map aD.pv,N.runs.map aW.pv,N.aA.map aK.pv,N.paths.map Path.pv,N.aF.map bd.pv,N.aZ,N.within,N.cap,m.source,m.seq,m.dI,m.cj,m.kind,m.bg,m.day,m.inst,m.call,m.ck,m.bn,m.free,m.calls.map ar.pv,(0:Int),(0:Int),(0:Int),N.stops.map Stop.pv,N.ak.map aD.pv,N.runs.map aW.pv,N.aA.map aK.pv,N.paths.map Path.pv,N.aF.map bd.pv,N.aZ,N.within,N.cap,())
theorem alV(N:aB)(m:bx)(h:W5 N)(hm:m.Ok)(Tu:dY m=0)(hc:m.calls.length<=1000)(k5:m.kind≠5){i:Nat}(htg:OS N.runs m=U i)(rec:_->Option PV):uk cD (alU N m i N.runs.length) rec=U (aPV N m):=by
 have hr:=h.runs;have⟨hi,_,_⟩:=Lx htg;have nJ:aU (i:Int) N.runs.length:=⟨aa,aa⟩;have hlen:=h.calls N.runs[i] (alx hi);unfold alU uk;dsimp only;rw[te,IT ae,ays];unfold aPV SE;rw[IT k5,htg];simp only[bW,af,AT,ta hi,IN,ab,DN,aJ,By,aG,bh,te,anj,tb,nJ];by_cases k1:m.kind=1
 .have fO:=Za Tu (.inl k1);simp only[k1,ayk,aBa,ayS,tb,true_or,true_and,By,reduceCtorEq,Int.reduceEq,OF,ayf,ayT];by_cases hcb:m.call>=(N.runs[i].calls.length:Int)
  .rw[BY hcb,BY (show m.call<0\/m.call>=(N.runs[i].calls.length:Int)from .inr hcb)];rfl
  .rw[IT hcb,IT (show¬(m.call<0\/m.call>=(N.runs[i].calls.length:Int)) by omega)];rw[ajj _ _ _ hlen];unfold aji;simp only[ab,bY,al6,are,Nat.reduceAdd,By,Uz,WK,asInt,Ea];rcases abY N.runs[i].calls m.call m.ck with⟨l,hp⟩|⟨e,hp,he⟩
   .rw[hp];simp only[By,ayy,awM,abX];rfl
   .rw[hp];simp only[IT he];rfl
 .have Z2:((O (m.kind=1)||decide (m.kind=3))&&O (m.call>=(N.runs[i].calls.length:Int)))=O ((m.kind=1\/m.kind=3)/\(m.call<0\/m.call>=(N.runs[i].calls.length:Int))):=by rw[ayo];simp only[T1,ayj,tb];grind [Za]
  rw[Z2];simp only[tb];by_cases hn:(m.kind=1\/m.kind=3)/\(m.call<0\/m.call>=(N.runs[i].calls.length:Int))
  .rw[BY hn,BY hn];rfl
  rw[IT hn,IT hn];simp only[IT k1];by_cases k2:m.kind=2
  .simp only[k2,By,Fx _ _ hi,ab,anh,Nf,Int.reduceEq,OF];rfl
  simp only[IT k2];by_cases k3:m.kind=3
  .simp only[k3,By,Int.reduceEq,OF];have hcb:=aAI.1 (λhh=>hn ⟨.inr k3,hh⟩:¬(m.call<0\/m.call>=(N.runs[i].calls.length:Int)));obtain⟨c,Tc⟩:∃c:Nat,m.call=(c:Int):=⟨m.call.toNat,aa⟩;have Sb:c<N.runs[i].calls.length:=aa
   simp only[Tc,Fx _ _ hi,ab,ad4,te,anj,Db c _ Sb,By,AT,ta Sb,IN,ajq,<-azx,aur,azm,nJ,az2 hi,az2 Sb,ajr,azl,rz];simp only[Rp,ta Sb];rfl
  simp only[IT k3];by_cases k4:m.kind=4
  .simp only[k4,By];have fO:=MQ m.calls N.stops.length 0 3155932800 hm.calls.1;simp only[fO,ab,asInt,By,Ea];by_cases he:(bP m.calls (N.stops.length:Int) 0 3155932800).2=0
   .have bG:(([]:List PV)++m.calls.map ar.pv).length*32<=au/\0<32:=by grind [au,decide,List.length_map]
    have hu:=Wy N.aA i (by have:=h.aA;omega);rw[BY he,BY bG];simp only[he,Fx _ _ hi,ab,hu,aJ,By,aBg,aAU,OF,azg,aqR,Kq,Nf];rfl
   .rw[IT he,BY he,IT he];rfl
  simp only[IT k4,By,rz];rfl
theorem af1(N:aB)(m:bx)(h:W5 N)(hm:m.Ok)(hc:m.calls.length<=1000):wz [N.pv,m.pv]=U (ad5 N m):=by
 have hr:=h.runs;have hrn:3003<rounds:=bj
 have hvd:=afY N h.ok (by have:=h.paths;omega);have hmk:=adt m hm;have ht:=Rv N m (by grind [maxLen,decide]);simp only[wz,Hy,CD,DO,DP,DQ,DR,DS,DT,DU,DV,DW,ab,MR,hvd];simp only[asBool,ab,Wl,Wm,Wn,Wo,Wp,Wq,Wr,Ws,Wt,Wu,Wv,Lz,LA,Rt,asInt,bU,aJ,By,aqL,hmk,Ea,ht,MR,bW,tb];unfold ad5;by_cases hv:(dZ N).2.2=0
 .rw[IT (by simp[hv]),BY hv];by_cases he:dY m=0
  .rw[BY he,BY he];by_cases k5:m.kind=5
   .have ha:=af0 N m h hm hc k5;rw[BY k5,ha];unfold aPV;by_cases hx:(SE N m).2=0
    .rw[BY hx];rfl
    .rw[IT hx];rfl
   .rw[IT k5];cases htg:OS N.runs m with
    |none=>rw[Ut htg,BY aa];unfold aPV SE;rw[IT k5,htg];rfl
    |some i=>
     have⟨hi,_,_⟩:=Lx htg;rw[Us htg,IT aa];refine aM (alU N m i) N.runs.length (λk hk rec=>?_) (λrec=>alV N m h hm he hc k5 htg rec) aa rfl;have WZ:1000*32<=au:=bj
     have yO:3001*80<=au:=bj
     have WX:=h.calls _ (alx hk);unfold alU uk;dsimp only;rw[te,BY av,af,AT,ta hk];simp only[IN,ab,DN,aJ,By];rw[BY ao,BY ao,ag aa,awT hk,aya];rfl
  .rw[IT he,IT he];rfl
 .rw[BY (by simp[hv]),IT hv];rfl
theorem Zc{N:aB}{m:bx}(hv:(dZ N).2.2=0):ad5 N m=if Wz N m=0 then .b8 [(Rx N m).pv,.int .i64 0]else .b8 [z9,.int .i64 (Wz N m)]:=by
 unfold ad5 Wz Rx aPV;rw[BY hv];by_cases h1:dY m=0
 .rw[BY h1,BY h1,BY h1];by_cases h2:(SE N m).2=0
  .rw[BY h2,BY h2,BY h2]
  .rw[IT h2,IT h2]
 .rw[IT h1,IT h1,IT h1]
theorem alW{N:aB}{m:bx}(h:Wz N m≠0):Rx N m=N:=by
 unfold Wz at h;unfold Rx;by_cases h1:dY m=0
 .rw[BY h1]at h⊢;rw[IT h]
 .rw[IT h1]
def aqU(ms:List PV)(k:Nat)(N:aB)(er:List PV):=(ms,(k:Int),PV.rs 4 (N.stops.map Stop.pv),PV.rs 3 (N.ak.map aD.pv),PV.rs 8 (N.runs.map aW.pv),PV.rs 5 (N.aA.map aK.pv),PV.rs 4 (N.paths.map Path.pv),PV.rs 6 (N.aF.map bd.pv),PV.int .i64 N.aZ,PV.int .i64 N.within,PV.int .i64 N.cap,(0:Int),(0:Int),(0:Int),er,())
theorem af2(l:List bx)(hl:l.length<=300)(Sv:∀m∈l,m.Ok)(hmc:∀m∈l,m.calls.length<=1000):∀(j k:Nat)(N:aB)(er:List Int)(fu:Nat),k+j=l.length->j<fu->W5 N->(dZ N).2.2=0->er.length<=k->bT (zo cD) fu (aqU (l.map bx.pv) k N (er.map λe=>.int .i64 e))=U (TQ (Sy N er (l.drop k))):=by
 intro j;induction j with
 |zero=>
  intro k N er fu hk hf hN hv he;obtain⟨fu,rfl⟩:∃f,fu=f+1:=⟨fu-1,aa⟩;have:k=l.length:=aa
  subst this;rw[bT,aAY];unfold aqU zo;dsimp only;rw[te,IT ae];rfl
 |succ j ih=>
  intro k N er fu hk hf hN hv he;obtain⟨fu,rfl⟩:∃f,fu=f+1:=⟨fu-1,aa⟩;have jK:k<l.length:=aa
  have JI:=af1 N l[k] hN (Sv _ (alx jK)) (hmc _ (alx jK));rw[Zc hv]at JI;have hs:=QI N l[k];have Tl:=MH (m:=l[k]) hv;have hlen:=hs.len;have ajy:=QH hN hs Tl (Sv _ (alx jK));have:=ih (k+1) (Rx N l[k]) (er++[Wz N l[k]]) fu aa aa ajy Tl ah;rw[aya]at this;rw[ayA jK,bT];refine Eq.trans ?_ this;have hme:∀m:bx,PV.agg [cell m.pv 0,cell m.pv 1,cell m.pv 2,cell m.pv 3,cell m.pv 4,cell m.pv 5,cell m.pv 6,cell m.pv 7,cell m.pv 8,cell m.pv 9,cell m.pv 10,cell m.pv 11,cell m.pv 12]=m.pv:=λ_=>rfl;have Tn:=N5 (er.map λe=>PV.int .i64 e) ah;have hwk:C .i64 ((k:Int)+1)=((k+1:Nat):Int):=ag aa;unfold aqU zo;dsimp only;rw[te,BY (by rw[tb];omega),af,AT,ta jK];simp only[IN,ab,hme,MR,JI];by_cases hx:Wz N l[k]=0
  .rw[BY hx,hx];simp only[ab,bY,al6,are,Nat.reduceAdd,By,Uz,WK,asInt,CD,aAW,hwk];rw[BY (Tn _)];rfl
  .have hz:asAgg 9 z9=U ():=rfl;rw[IT hx];simp only[ab,bY,al6,are,Nat.reduceAdd,By,Uz,WK,asInt,hz,bW,hx,ayf,AI,OF,hwk];rw[BY (Tn _),alW hx];rfl
theorem alo(N:aB)(l:List bx)(h:W5 N)(hv:(dZ N).2.2=0)(hl:l.length<=300)(Sv:∀m∈l,m.Ok)(hmc:∀m∈l,m.calls.length<=1000):B7 [N.pv,.rs 13 (l.map bx.pv)]=U (TQ (Sy N [] l)):=by
 have hrn:3003<rounds:=bj
 have key:=af2 l hl Sv hmc l.length 0 N [] rounds aa aa h hv ae;simp only[B7,M0,CD,DO,DP,DQ,DR,DS,DT,DU,DV,DW,ab];simp only[aJ,By,ab,kC];exact key
end Go.Ab.Tt
namespace Go.Ab.Tt
set_option maxRecDepth 100000
set_option maxHeartbeats 4000000
def bAI(n:Int):Ab.asInt .i64 (.int .i64 n)=U n:=rfl
def bAS(z:Nat)(es:List PV):aJ z (.rs z es)=U es:=by simp[aJ]
def bt2(a b:PV):bY 2 (.b8 [a,b])=U [a,b]:=rfl
def bt3(a b c:PV):bY 3 (.b8 [a,b,c])=U [a,b,c]:=rfl
structure ale(N:aB):Prop where
 stops:N.stops.length<=10000
 ak:N.ak.length<=10000
 runs:N.runs.length<=10000
 aA:N.aA.length<=10000
 paths:N.paths.length<=10000
 aF:N.aF.length<=10000
 calls:∀r∈N.runs,r.calls.length<=10000
def QM(N:aB)(h:ale N):jA [N.pv]=U N.pv:=by
 simp only[jA,CK,CD,DO,DP,DQ,DR,DS,DT,DU,DV,DW,ab,QN _ (show(N.stops.map Stop.pv).length<=10000 by rw[te];exact h.stops),N6 _ (show(N.ak.map aD.pv).length<=10000 by rw[te];exact h.ak),TX _ (show(N.runs.map aW.pv).length<=10000 by rw[te];exact h.runs),QO _ (show(N.aA.map aK.pv).length<=10000 by rw[te];exact h.aA),GW _ (show(N.paths.map Path.pv).length<=10000 by rw[te];exact h.paths),bAS,te];have hr:=h.runs;refine aM (λk=>((N.runs.length:Int),(k:Int),N.stops.map Stop.pv,N.ak.map aD.pv,N.runs.map aW.pv,N.aA.map aK.pv,N.paths.map Path.pv,N.aF.map bd.pv,N.aZ,N.within,N.cap,0,0,0,N.aF.map bd.pv,N.aZ,N.within,N.cap,N.stops.map Stop.pv,N.ak.map aD.pv,mix aW.vO aW.pv N.runs k,N.aA.map aK.pv,N.paths.map Path.pv,())) N.runs.length (λk hk rec=>?_) (λrec=>?_) fb bm
 .unfold vz;dsimp only;have hc:=h.calls _ (alx hk);have e7:aJ 5 (cell N.runs[k].pv 7)=U (N.runs[k].calls.map ar.pv):=rfl;have xP:(mix aW.vO aW.pv N.runs k).set k (aW.vO N.runs[k])=mix aW.vO aW.pv N.runs (k+1):=adw _ _ _ _ hk;have e8:(if 8=1 then PV.lJ 5 (N.runs[k].calls.map ar.pv)else PV.agg (cell N.runs[k].pv 0::cell N.runs[k].pv 1::cell N.runs[k].pv 2::cell N.runs[k].pv 3::cell N.runs[k].pv 4::cell N.runs[k].pv 5::cell N.runs[k].pv 6::PV.lJ 5 (N.runs[k].calls.map ar.pv)::over [] []))=aW.vO N.runs[k]:=rfl;rw[BY ah,BY (VL _ _ _ _ hk)];simp only[anj,adx _ _ _ _ hk,ab,e7,QP _ (show(N.runs[k].calls.map ar.pv).length<=10000 by simp_all),bAS,BY (VL aW.vO aW.pv _ _ hk),e8,xP,ag (aa:k<9223372036854775807)]
 .unfold vz;dsimp only;rw[IT ae];simp only[Jo _ (show(N.aF.map bd.pv).length<=10000 by rw[te];exact h.aF),ab,bAS,ady,rz];rfl
section
variable {T:aw}
def GX(hV:dn T):T.stops.length<=64/\Sound T.paths T.stops.length/\(oI T.paths T.stops.length).2=0/\T.paths.length<=512:=by have h0:(gk T.stops).2=0:=hV 0 aa;have h8:(oI T.paths T.stops.length).2=0:=hV 8 aa;grind [DX,oI,Lf]
end
def noN:PV:=.agg [.rs 0 [],.rs 0 [],.rs 0 [],.rs 0 [],.rs 0 [],.rs 0 [],.int .i64 0,.int .i64 0,.int .i64 0]
section
variable {T:aw}
def Yj(hV:dn T)(gW:T.Ok)(hT:ru T){l:List aW}(hk:∀r∈l,dJ T r=Y)(hl:l.length<=1024)(hn:(bk T l l.length).length<=1024):(CL T l).Ok/\ale (CL T l):=by
 have hmx:maxLen=9223372036854775807:=rfl;have⟨kh,hs,_,_⟩:=GX hV;have avB:T.ak.length<=64:=by have h1:(eC T.ak).2=0:=hV 1 aa;grind [eC]
 have aws:T.aF.length<=16:=by have h9:(du T.aF T.aZ T.within T.cap).2=0:=hV 9 aa;unfold du at h9;grind
 have TY:∀r∈l,r.Ok/\r.calls.length<=32:=λr hr=>by
  have⟨hd,i,k,x,cs,hx,er,St,hki⟩:=Lg hV (hk r hr);have⟨m1,m2,m3⟩:=TZ hV hx;have hd':=(xn _).1 hd;have NS:=(No.1 hx).1;have ht:=hT.ai;have nJ:=instI_len T.br (by have:=hT.br;omega) i;have abc:=gW.ai.2 x (awU hx);have e5:r.calls=cs.map (EY (jw r.day)):=congrArg aW.calls er;have hlen:r.calls.length<=32:=by rw[e5,te];exact St.most
  have⟨_,s0,s1⟩:=O3 hd;refine⟨⟨?_,(fe _).2 aa,?_,?_,?_,aa,λc hc=>?_⟩,hlen⟩
  .rw[show r.bg=i from congrArg aW.bg er];exact(fe _).2 aa
  .rw[show r.inst=k from congrArg aW.inst er];exact(fe _).2 aa
  .rw[show r.id=x.id from congrArg aW.id er];exact abc.id
  .rw[show r.bn=x.bn from congrArg aW.bn er];exact(fe _).2 aa
  .rw[e5]at hc;obtain⟨y,hy,rfl⟩:=ayl.1 hc;have⟨j,hj⟩:=ayc.1 hy;have hyc:=St.call j y hj;have w1:(EY (jw r.day) y).arr=y.arr+jw r.day:=bJ aa aa;have w2:(EY (jw r.day) y).dep=y.dep+jw r.day:=bJ aa aa;exact⟨(fe _).2 (by show _<=y.stop/\y.stop<=_;omega),(fe _).2 aa,(fe _).2 aa⟩
 have aon:∀x∈bk T l l.length,x.Ok:=λx hx=>by have⟨a,b,r,q,i,j,c,d,xa,xb,_,la,lb,_,xi,xj,rc,qd,_⟩:=(adz hV hk hx).ends;have Z7:=(No.1 la).1;have WZ:=(No.1 lb).1;have hi1:=(No.1 rc).1;have hj1:=(No.1 qd).1;have h1:=(TY r (awU la)).2;have h2:=(TY q (awU lb)).2;exact⟨(fe _).2 aa,(fe _).2 aa,(fe _).2 aa,(fe _).2 aa⟩
 have P6:=Lh T.paths T.stops.length kh;have aoo:∀p∈dK T.paths T.stops.length,p.Ok:=λp hp=>by have:=EZ hs p hp;exact⟨(fe _).2 aa,(fe _).2 aa,(fe _).2 aa⟩
 refine⟨⟨gW.stops,gW.ak,⟨by show l.length<=_;omega,λr hr=>(TY r hr).1⟩,⟨by show(bk T l l.length).length<=_;omega,aon⟩,⟨by show(dK T.paths T.stops.length).length<=_;omega,aoo⟩,gW.aF,gW.aZ,gW.within,gW.cap⟩,⟨by show T.stops.length<=_;omega,by show T.ak.length<=_;omega,by show l.length<=_;omega,by show(bk T l l.length).length<=_;omega,by show(dK T.paths T.stops.length).length<=_;omega,by show T.aF.length<=_;omega,λr hr=>by have:=(TY r hr).2;omega⟩⟩
end
def N7{T:aw}{a b:Int}(ha:oJ a=Y)(hb:oJ b=Y){n:Nat}(hn:a+n<=b+1):MI T (bQ T a n)=if(bk T (bQ T a n) (bQ T a n).length).length>1024 then kj [] 5 else kj (bk T (bQ T a n) (bQ T a n).length) 0:=by grind [MI,abd]
def Yk{l:List Path}{n:Nat}(hn:n<=64)(hl:l.length<=4096)(h:Sound l n):mw [.rs 4 (l.map Path.pv),.int .i64 n]=U (.rs 4 ((dK l n).map Path.pv)):=by have:=Nw.abe (l.map toFp) n hn av (λp hp=>by obtain⟨q,hq,rfl⟩:=ayl.1 hp;have:=h q hq;simp only[toFp];omega);rw[Yl h,<-Nw.IC,JX _ (Nw.QQ n _ _)]at this;exact this
section
variable {T:aw}
def QR(hV:dn T)(gW:T.Ok):oK [.rs 4 (T.paths.map Path.pv),.int .i64 (T.stops.length:Int)]=U (.b8 [.rs 4 ((dK T.paths T.stops.length).map Path.pv),.int .i64 0])/\vY [.rs 4 (T.paths.map Path.pv),.int .i64 (T.stops.length:Int)]=U (.b8 [.rs 4 ((dK T.paths T.stops.length).map Path.pv),.int .i64 0]):=by
 have⟨kh,hs,h8,axX⟩:=GX hV;have hmx:maxLen=9223372036854775807:=rfl;have hp:=T2 T.paths T.stops.length aa;have hr:=Ym T.paths T.stops.length aa;have asi:∀a b:Int,bY 2 (res a b)=U [.int .i64 a,.int .i64 b]:=λa b=>rfl;constructor
 .simp only[oK,Au,bAS,bAI,ab];rw[IT ah,hp];simp only[ab,asi,Uz,WK,bAI,h8];rw[IT ae,IT (show¬(0:Int)>(T.stops.length:Int) by omega),(MJ kh aa hs).1];rfl
 .simp only[vY,GY,bAS,bAI,ab];rw[IT ah,hr];simp only[ab,asi,Uz,WK,bAI,h8];rw[IT ae,Yk kh aa hs];rfl
end
def abb(T:aw)(hT:ru T)(gW:T.Ok)(a b:Int):∃(e:Int)(N:aB),jz [T.pv,.int .i64 a,.int .i64 b]=U (.b8 [if e=0 then N.pv else noN,.int .i64 e])/\kg [T.pv,.int .i64 a,.int .i64 b]=U (.b8 [if e=0 then N.pv else noN,.int .i64 e])/\(e=0->N.Ok/\ale N/\dZ N=(0,0,0)/\N.paths.length<=8192/\N.runs.length<=1024/\N.aA.length<=1024/\∀r∈N.runs,r.calls.length<=40):=by
 have⟨p,i,e0,hw,hv⟩:=N8 T;have hwp:=QS T gW hT.small;have hwr:=T3 T gW hT.small;rw[hw]at hwp hwr;have⟨l,e,h1,h2,h3,h4⟩:=Yn T hT gW a b;have hN:jz [T.pv,.int .i64 a,.int .i64 b]=U (if e0≠0 then .b8 [noN,.int .i64 e0]else if e≠0 then .b8 [noN,.int .i64 e]else if(bk T l l.length).length>1024 then .b8 [noN,.int .i64 5]else .b8 [(CL T l).pv,.int .i64 0]):=by
  simp only[jz,CM,VM,VN,VO,VP,VQ,VR,VS,VT,VU,VV,VW,E0,E1,E2,bAS,bAI,ab,Z8,hwp,tx,bt3,Uz,WK,h1,MK,bt2];by_cases z0:e0=0
  .rw[IT (show¬(e0 !=0)=Y by simp[z0]),IT (show¬e0≠0 by omega)];by_cases z1:e=0
   .obtain⟨hV,ha,hb,xH,bX,hl,Yo⟩:=h3 z1;rw[IT (show¬(e !=0)=Y by simp[z1]),IT (show¬e≠0 by omega)];have aip:∀r∈l,r.calls.length<=40:=λr hr=>by grind [Av]
    have hn:a+((b-a+1).toNat:Int)<=b+1:=aa
    have hk:∀r∈l,dJ T r=true:=λr hr=>by grind [JY]
    have hlp:=abf T hT gW l Yo aip p i e0 hwp;rw[BY z0]at hlp;have hlr:=N7 (T:=T) ha hb hn;rw[<-hl]at hlr;rw[hlp,hlr];by_cases tz:(bk T l l.length).length>1024
    .rw[BY tz,BY tz];rfl
    .rw[IT tz,IT tz];have⟨bo,bf⟩:=Yj hV gW hT hk Yo aa;simp only[kj,bt2,ab,Uz,WK,bAS,bAI,te,(QR hV gW).1,show((0:Int) !=0)=J from rfl,AI,OF];have vR:=QM _ bf;have sD:(CL T l).pv=.agg [.rs 4 (T.stops.map Stop.pv),.rs 3 (T.ak.map aD.pv),.rs 8 (l.map aW.pv),.rs 5 ((bk T l l.length).map aK.pv),.rs 4 ((dK T.paths T.stops.length).map Path.pv),.rs 6 (T.aF.map bd.pv),.int .i64 T.aZ,.int .i64 T.within,.int .i64 T.cap]:=rfl;rw[<-sD,vR];rfl
   .rw[BY (show(e !=0)=Y by simpa using z1),BY (show e≠0 from z1)];rfl
  .rw[BY (show(e0 !=0)=Y by simpa using z0),BY (show e0≠0 from z0)];rfl
 have hee:e0≠0->e=e0:=λz0=>by simp only[pR,BZ,VM,VN,VO,VP,VQ,VR,VS,VT,VU,VV,VW,E0,E1,E2,bAS,bAI,ab,Z8,hwp,tx,bt3,Uz,WK]at h1;rw[BY (show(e0 !=0)=Y by simpa using z0)]at h1;simp only[MK,tc,PV.b8.injEq,ayW,PV.int.injEq,true_and,aBn]at h1;omega
 have hB:kg [T.pv,.int .i64 a,.int .i64 b]=U (if e≠0 then .b8 [noN,.int .i64 e]else if(bk T l l.length).length>1024 then .b8 [noN,.int .i64 5]else .b8 [(CL T l).pv,.int .i64 0]):=by
  simp only[kg,GZ,VM,VN,VO,VP,VQ,VR,VS,VT,VU,VV,VW,E0,E1,E2,bAS,bAI,ab,Z8,h2,MK,bt2,Uz,WK];by_cases z1:e=0
  .obtain⟨hV,ha,hb,xH,bX,hl,Yo⟩:=h3 z1;have z0:e0=0:=az9 λz0=>z0 aa;rw[IT (show¬(e !=0)=Y by simp[z1]),IT (show¬e≠0 by omega)];have aip:∀r∈l,r.calls.length<=40:=λr hr=>by grind [Av]
   have hn:a+((b-a+1).toNat:Int)<=b+1:=aa
   have asj:=afj T hT gW l Yo aip p i e0 hwr hv;rw[BY z0]at asj;have hlr:=N7 (T:=T) ha hb hn;rw[<-hl]at hlr;rw[asj,hlr];by_cases tz:(bk T l l.length).length>1024
   .rw[BY tz,BY tz];rfl
   .rw[IT tz,IT tz];simp only[kj,bt2,ab,Uz,WK,bAS,bAI,te,(QR hV gW).2,show((0:Int) !=0)=J from rfl,AI,OF];rfl
  .rw[BY (show(e !=0)=Y by simpa using z1),BY (show e≠0 from z1)];rfl
 by_cases z1:e=0
 .obtain⟨hV,ha,hb,xH,bX,hl,Yo⟩:=h3 z1;have z0:e0=0:=az9 λz0=>z0 aa;rw[IT (show¬e0≠0 by omega),IT (show¬e≠0 by omega)]at hN;rw[IT (show¬e≠0 by omega)]at hB;have aip:∀r∈l,r.calls.length<=40:=λr hr=>by grind [Av]
  have hn:a+((b-a+1).toNat:Int)<=b+1:=aa
  have hk:∀r∈l,dJ T r=true:=λr hr=>by grind [JY]
  have asl:l.Pairwise λr s=>r.key≠s.key:=by rw[hl];exact Jp T a _
  by_cases tz:(bk T l l.length).length>1024
  .rw[BY tz]at hN hB;exact⟨5,CL T [],av,av,λh=>aa⟩
  .rw[IT tz]at hN hB;have⟨bo,bf⟩:=Yj hV gW hT hk Yo aa;have P6:=Lh T.paths T.stops.length (GX hV).1;exact⟨0,CL T l,av,av,λ_=>⟨bo,bf,afk hV hk asl Yo aa,by show(dK T.paths T.stops.length).length<=_;omega,Yo,by show(bk T l l.length).length<=_;omega,aip⟩⟩
 .rw[BY (show e≠0 from z1)]at hB;refine⟨e,CL T [],?_,by rw[IT z1];omega,λh=>absurd h z1⟩;simp_all
end Go.Ab.Tt
namespace Go.Ab.Tt
set_option maxRecDepth 100000
set_option maxHeartbeats 4000000
theorem once{S R:Type}{body:S->(S->Option R)->Option R}{s:S}{r:Option R}(h:∀rec,body s rec=r):cD.run body s=r:=by show bT body (18446744073709551615+1) s=r;rw[bT,h]
variable{n:Nat}
theorem fp(h:n<=10000):n<rounds:=by grind [rounds,decide]
theorem bs{α β:Type}{o:Option α}{a:α}{f:α->Option β}(h:o=U a):o.bind f=f a:=by rw[h];rfl
theorem Z6{R:Type}{p:PV}{cs:List PV}{a:Option R}{b:PV->Option R}(hp:p=.rp cs)(hn:n<=cs.length):mZ n p a b=b (.agg cs):=by subst hp;show(if n<=cs.length then b (.agg cs)else Z)=_;rw[BY hn]
theorem vb{α:Type}{c:Bool}{a b:α}(h:c=Y):(bif c then a else b)=a:=by rw[h];rfl
theorem QA(c a b:Bool):(bif c then U a else U b)=U (bif c then a else b):=by cases c<;>rfl
structure Src where
 xl:Bool
 last:Int
 recv:Bool
 seq:Int
def Src.pv(s:Src):PV:=.agg [.bool s.xl,.int .i64 s.last,.bool s.recv,.int .i64 s.seq]
def Src.N2(s:Src)(t:Int):Bool:= !s.xl||decide (t>s.last)
def Src.GP(s:Src)(t:Int):Src:=if s.N2 t=Y then{s with xl:=Y,last:=t}else s
def Src.got(s:Src)(t q:Int):Src:={s.GP t with recv:=Y,seq:=q}
def Src.VC(s:Src)(t p:Int):Bool:= !s.xl||(O (t>s.last)&&O (IntKind.u64.wrap (IntKind.u64.wrap t-IntKind.u64.wrap s.last)>IntKind.u64.wrap p))
structure LS where
 N:aB
 bZ:List Src
 pat:Int
 kept:List bx
 now:Int
def LS.box(S:LS):PV:=.rp [.rs 4 (S.bZ.map Src.pv),.int .i64 S.pat,.rs 13 (S.kept.map bx.pv)]
def sf(a b:bx):Bool:=a.bg==b.bg&&a.day==b.day&&a.inst==b.inst
def Iz(a b:bx):Bool:=if(!a.bg==b.bg)=Y then Op.bytesLess a.bg b.bg else if(a.day !=b.day)=Y then O (a.day<b.day)else if(a.inst !=b.inst)=Y then O (a.inst<b.inst)else O (a.seq<b.seq)
def adi(k:Int):Bool:=k==2||k==4||k==5||k==6
def sup(m o:bx):Bool:=m.source==o.source&&sf m o&&O (m.seq>o.seq)&&(adi m.kind||(m.kind==o.kind&&m.call==o.call))
def LS.MC(S:LS)(i:Int):Bool:=O (i>=0)&&O (i<(S.bZ.length:Int))
def LS.GQ(S:LS)(i:Int)(t:Int):Bool:=S.MC i&&((S.bZ[i.toNat]?).map λs=>s.VC t S.pat).getD J
def LS.CB(S:LS)(t:Int)(m:bx):Bool:=O (m.dI<=t)&&O (m.cj>t)&& !S.GQ m.source t
def BU(l:List bx)(m:bx):Bool:=l.any λo=>O (o.source<m.source)&&sf o m
def Lc(l:List bx)(m:bx):Nat->Nat
 |0=>0
 |k+1=>if((l[k]?).map (Iz m)).getD J=Y then Lc l m k else k+1
def VD(l:List bx)(m:bx):List bx:=l.take (Lc l m l.length)++[m]++l.drop (Lc l m l.length)
def aa1(l:List bx)(out:List bx)(m:bx):List bx:=if BU l m=Y then out else VD out m
def Sx(l:List bx)(n:Nat):List bx:=(l.take n).foldl (aa1 l) []
def LS.cur(S:LS)(t:Int):List bx:=S.kept.filter (S.CB t)
def LS.act(S:LS)(t:Int):List bx:=Sx (S.cur t) (S.cur t).length
def LS.MD(S:LS)(m:bx):Int:=
 if S.now<0\/S.now>3155932800 then 10 else if dY m≠0 then dY m else if m.source>=(S.bZ.length:Int)then 36
 else if(((S.bZ[m.source.toNat]?).map λs=>s.recv&&O (m.seq<=s.seq)).getD J||decide (m.cj<=S.now))=Y then 37 else 0
def LS.stay(S:LS)(m:bx)(o:bx):Bool:= !sup m o&&O (o.cj>S.now)
def LS.rest(S:LS)(m:bx):List bx:=S.kept.filter (S.stay m)
def CC(l:List Src)(i:Nat)(f:Src->Src):List Src:=match l[i]? with|some s=>l.set i (f s)|none=>l
def LS.xI(S:LS)(m:bx):LS×Int:=
 if S.MD m≠0 then(S,S.MD m)else if(S.rest m).length>=256 then(S,5)
 else({S with kept:=S.rest m++[m],bZ:=CC S.bZ m.source.toNat λs=>s.got S.now m.seq},0)
def LS.EL(S:LS)(i:Int):LS×Int:=
 if S.MC i=J then(S,36)else if S.now<0\/S.now>3155932800 then(S,10)
 else({S with bZ:=CC S.bZ i.toNat λs=>s.GP S.now},0)
def LS.adv(S:LS)(n:Int):LS×Int:=if n<S.now\/n>3155932800 then(S,10)else({S with now:=n},0)
structure EM where
 what:Int
 m:bx
 n:Int
def EM.pv(o:EM):PV:=.agg [.int .i64 o.what,.int .i64 o.m.source,.int .i64 o.m.seq,.int .i64 o.m.dI,.int .i64 o.m.cj,.int .i64 o.m.kind,.str o.m.bg,.int .i64 o.m.day,.int .i64 o.m.inst,.int .i64 o.m.call,.int .i64 o.m.ck,.int .i64 o.m.bn,.bool o.m.free,.rs 5 (o.m.calls.map ar.pv),.int .i64 o.n]
def LS.step(S:LS)(o:EM):LS×Int:=if o.what=0 then S.xI o.m else if o.what=1 then S.EL o.n else S.adv o.n
def LS.VE(S:LS)(l:List EM):LS:=l.foldl (λS o=>(S.step o).1) S
structure LS.Inv(S:LS)(n:Nat):Prop where
 bZ:S.bZ.length<=8
 kept:S.kept.length<=n
 now:0<=S.now/\S.now<=3155932800
 msg:∀m∈S.kept,m.Ok/\m.calls.length<=40/\dY m=0
theorem QB(S:LS)(m:bx):(S.rest m).length<=S.kept.length:=ayN _ _
theorem QC(l:List Src)(i:Nat)(f:Src->Src):(CC l i f).length=l.length:=by unfold CC;cases l[i]? <;>simp
theorem adj{S:LS}{m:bx}(h:S.MD m=0):dY m=0/\m.source<(S.bZ.length:Int)/\m.cj>S.now:=by unfold LS.MD at h;grind
theorem GR{S:LS}(h:S.Inv n)(o:EM)(ho:o.m.Ok/\o.m.calls.length<=40):(S.step o).1.Inv (n+1)/\(S.step o).1.N=S.N/\(S.step o).1.pat=S.pat:=by
 have hk:=h.kept;have axW:S.Inv (n+1):=⟨h.bZ,aa,h.now,h.msg⟩;unfold LS.step;split
 .unfold LS.xI;split
  .simp_all
  .rename_i hr;split
   .simp_all
   .refine⟨⟨?_,?_,h.now,λm hm=>?_⟩,rfl,rfl⟩
    .show(CC _ _ _).length<=8;rw[QC];exact h.bZ
    .grind [QB]
    .have hm:m∈S.rest o.m++[o.m]:=hm;rcases ayq.1 hm with hm|hm
     .exact h.msg m (ayr.1 hm).1
     .rw[ayZ]at hm;subst hm;exact⟨ho.1,ho.2,(adj (S:=S) (Decidable.not_not.1 hr)).1⟩
 .split
  .unfold LS.EL;split
   .simp_all
   .split
    .simp_all
    .refine⟨⟨?_,ao,h.now,h.msg⟩,rfl,rfl⟩;show(CC _ _ _).length<=8;rw[QC];exact h.bZ
  .unfold LS.adv;split
   .simp_all
   .exact⟨⟨h.bZ,ao,by have:=h.now;grind,h.msg⟩,rfl,rfl⟩
theorem ah0:∀(l:List EM){S:LS}{n:Nat},S.Inv n->(∀o∈l,o.m.Ok/\o.m.calls.length<=40)->(S.VE l).Inv (n+l.length)/\(S.VE l).N=S.N/\(S.VE l).pat=S.pat:=by
 intro l;induction l with
 |nil=>intro S n h _;exact⟨h,rfl,rfl⟩
 |cons o l ih=>
  intro S n h ho;have⟨h1,h2,h3⟩:=GR h o (ho o ae);obtain⟨k1,k2,k3⟩:=ih h1 (λx hx=>ho x (by simp[hx]));refine⟨?_,k2.trans h2,k3.trans h3⟩;have:n+(o::l).length=n+1+l.length:=ah
  rw[this];exact k1
theorem ae6(S:LS)(l:List EM)(k:Nat)(hk:k<l.length):S.VE (l.take (k+1))=((S.VE (l.take k)).step l[k]).1:=by unfold LS.VE;rw[awT hk,aAl];rfl
theorem ah1{l:List bx}{m x:bx}(h:x∈VD l m):x∈l\/x=m:=by grind [VD,List.mem_singleton,List.mem_of_mem_take,List.mem_of_mem_drop]
theorem X3(l:List bx)(m:bx):(VD l m).length=l.length+1:=by grind [VD,List.length_append,List.length_take,List.length_drop,List.length_singleton]
theorem TO(l:List bx)(k:Nat)(hk:k<l.length):Sx l (k+1)=aa1 l (Sx l k) l[k]:=by unfold Sx;rw[awT hk,aAl];rfl
theorem X4(l:List bx):∀k,k<=l.length->(Sx l k).length<=k/\∀x∈Sx l k,x∈l:=by
 intro k;induction k with
 |zero=>simp[Sx]
 |succ k ih=>grind [TO,aa1,X3,ah1,List.getElem_mem]
theorem aa2{S:LS}(h:S.Inv n)(t:Int):(S.act t).length<=n/\∀m∈S.act t,m.Ok/\m.calls.length<=40/\dY m=0:=by obtain⟨h1,h2⟩:=X4 (S.cur t) (S.cur t).length (ayd _);have h3:(S.cur t).length<=S.kept.length:=ayN _ _;have:=h.kept;exact⟨by unfold LS.act;omega,λm hm=>h.msg m (ayr.1 (h2 m hm)).1⟩
theorem aoi{α:Type}(a b:α):(bif J then a else b)=b:=rfl
theorem N3(S:LS)(i:Int):eM [S.box,.int .i64 i]=U (.bool (S.MC i)):=by
 unfold eM rf;refine(Z6 rfl ae).trans ?_;iterate 4 refine(bs rfl).trans ?_
 try dsimp only
 simp only[bh,ab,te];rfl
theorem X5(s:Src)(t p:Int):jL [.rp [.bool s.xl,.int .i64 s.last,.bool s.recv,.int .i64 s.seq],.int .i64 t,.int .i64 p]=U (.bool (s.VC t p)):=by
 unfold jL ri;refine(Z6 rfl ae).trans ?_;iterate 4 refine(bs rfl).trans ?_
 try dsimp only
 simp only[bh,aG,ab];rfl
theorem N4(S:LS)(i t:Int):dP [S.box,.int .i64 i,.int .i64 t]=U (.bool (S.GQ i t)):=by
 unfold dP rj;refine(Z6 rfl ae).trans ?_;iterate 5 refine(bs rfl).trans ?_
 refine(bs (N3 S i)).trans ?_;refine(bs rfl).trans ?_;unfold LS.GQ;cases hs:S.MC i with
 |false=>rfl
 |true=>
  unfold LS.MC at hs;try dsimp only
  simp only[T1,tb]at hs;obtain⟨k,rfl⟩:∃k:Nat,i=k:=⟨i.toNat,aa⟩;have hk:k<S.bZ.length:=aa
  refine(bs (a:=(S.bZ[k]).VC t S.pat) ((vb rfl).trans ?_)).trans ?_
  .try dsimp only
   rw[af,AT,ta hk];refine(bs rfl).trans ?_;refine(bs (X5 _ _ _)).trans ?_;rfl
  simp_all
theorem QD(a b:bx):gy [a.pv,b.pv]=U (.bool (sf a b)):=by
 unfold gy rn;iterate 28 refine(bs rfl).trans ?_
 try dsimp only
 simp only[bh,ab];rfl
theorem ae7(k:Int):oH [.int .i64 k]=U (.bool (adi k)):=by unfold oH Ap adi;refine(bs rfl).trans ?_;grind
theorem ah2(a b:bx):jM [a.pv,b.pv]=U (.bool (sup a b)):=by
 unfold jM rq;iterate 28 refine(bs rfl).trans ?_
 refine(bs (a:=a.source==b.source&&sf a b) ?_).trans ?_
 .cases a.source==b.source with
  |false=>rfl
  |true=>refine(vb rfl).trans ?_;refine(bs (QD a b)).trans ?_;rfl
 .try dsimp only
  rw[bh];refine(bs rfl).trans ?_;refine(bs (a:=sup a b) ?_).trans rfl;unfold sup;cases(a.source==b.source&&sf a b&&O (a.seq>b.seq))with
  |false=>rfl
  |true=>refine(vb rfl).trans ?_;refine(bs (ae7 a.kind)).trans ?_;refine(bs rfl).trans ?_;grind
theorem ah3(a b:bx):s9 [a.pv,b.pv]=U (.bool (Iz a b)):=by
 unfold s9 EN Iz;iterate 28 refine(bs rfl).trans ?_
 grind
theorem ah4(S:LS)(m:bx)(hm:m.Ok):je [S.box,m.pv,.int .i64 S.now]=U (.int .i64 (S.MD m)):=by
 unfold je pB LS.MD;refine(Z6 rfl ae).trans ?_;iterate 18 refine(bs rfl).trans ?_
 try dsimp only
 rw[aG,ab];by_cases h1:S.now<0\/S.now>3155932800
 .simp_all
 .rw[IT (by simpa using h1),IT h1];refine(bs (X6 m hm)).trans ?_;refine(bs rfl).trans ?_;by_cases h2:dY m≠0
  .simp_all
  .rw[IT (by simpa using h2),IT h2,te];by_cases h3:m.source>=(S.bZ.length:Int)
   .simp_all
   .have h0:0<=m.source:=by grind [dY,wi]
    rw[IT (by simpa using h3),IT h3];obtain⟨k,hk⟩:∃k:Nat,m.source=k:=⟨m.source.toNat,aa⟩;try dsimp only
    rw[hk,anj,af,AT,ta (aa:k<S.bZ.length)];iterate 2 refine(bs rfl).trans ?_
    rw[show(bif (S.bZ[k]'(aa)).recv then(Ab.asInt .i64 (cell (S.bZ[k]'(aa)).pv 3)).bind λn42=>U (O (m.seq<=n42))else U J)=U ((S.bZ[k]'(aa)).recv&&O (m.seq<=(S.bZ[k]'(aa)).seq)) by cases(S.bZ[k]'(aa)).recv<;>rfl];grind
section
variable {S R:Type} {body:S->(S->Option R)->Option R}
variable{r:Option R}{s0:S}
theorem ME(st:Nat->List PV->S)(l:List bx)(p:bx->Bool)(wX:∀k acc rec,(hk:k<l.length)->acc.length<=k->body (st k acc) rec=rec (st (k+1) (if p l[k]=Y then acc++[l[k].pv]else acc)))(sx:∀rec,body (st l.length ((l.filter p).map bx.pv)) rec=r)(hl:l.length<rounds)(h0:st 0 []=s0):cD.run body s0=r:=by
 refine aM (λk=>st k (((l.take k).filter p).map bx.pv)) l.length (λk hk rec=>?_) (λrec=>?_) hl (by simpa using h0)
 .try dsimp only
  rw[wX k _ rec hk ao,awT hk,azJ];grind
 simp_all
theorem ah5(st:Int->S)(l:List bx)(m:bx)(fin:Nat->Option R)(h0:∀rec,body (st 0) rec=fin 0)(hs:∀k rec,(hk:k<l.length)->body (st ((k+1:Nat):Int)) rec=if Iz m l[k]=Y then rec (st (k:Int))else fin (k+1))(hl:l.length<rounds)(he:st (l.length:Int)=s0):cD.run body s0=fin (Lc l m l.length):=by
 have:∀k,k<=l.length->∀fu,k<fu->bT body fu (st (k:Int))=fin (Lc l m k):=by
  intro k;induction k with
  |zero=>intro _ fu hf;obtain⟨fu,rfl⟩:∃f,fu=f+1:=⟨fu-1,aa⟩;rw[bT];exact h0 _
  |succ k ih=>intro hk fu hf;obtain⟨fu,rfl⟩:∃f,fu=f+1:=⟨fu-1,aa⟩;rw[bT,hs k _ aa];unfold Lc;grind
 rw[<-he,kC];grind
theorem ae8(st:Bool->Nat->S)(l:List bx)(m:bx)(wX:∀k b rec,(hk:k<l.length)->body (st b k) rec=rec (st (b||(O (l[k].source<m.source)&&sf l[k] m)) (k+1)))(sx:∀rec,body (st (BU l m) l.length) rec=r)(hl:l.length<rounds)(h0:st J 0=s0):cD.run body s0=r:=by
 refine aM (λk=>st (BU (l.take k) m) k) l.length (λk hk rec=>?_) (λrec=>?_) hl (by simpa[BU]using h0)
 .grind [List.take_succ_eq_append_getElem,BU]
 simp_all
theorem ah6(st:List PV->Nat->S)(l:List bx)(wX:∀k out rec,(hk:k<l.length)->out.length<=k->body (st (out.map bx.pv) k) rec=rec (st ((aa1 l out l[k]).map bx.pv) (k+1)))(sx:∀rec,body (st ((Sx l l.length).map bx.pv) l.length) rec=r)(hl:l.length<rounds)(h0:st [] 0=s0):cD.run body s0=r:=by refine aM (λk=>st ((Sx l k).map bx.pv) k) l.length (λk hk rec=>?_) (λrec=>sx rec) hl h0;grind [X4,TO]
end
theorem ze(l:List PV)(h:l.length<=1000):l.length*128<=au/\0<128:=W8
theorem aa3(l:List PV)(h:l.length<=1000):l.length*32<=au/\0<32:=W8
theorem adk(l:List Src)(i:Nat)(f:Src->Src)(h:i<l.length):(CC l i f).map Src.pv=(l.map Src.pv).set i (f l[i]).pv:=by simp_all[CC,ta]
theorem ah7(l:List PV)(i:Nat)(x:PV)(h:l[i]?=U x):l.set i x=l:=by obtain⟨hi,rfl⟩:=No.1 h;simp
theorem ae9{R:Type}(l:List Src)(i:Nat)(hi:i<l.length)(t:Int)(K:List PV->Option R):((l.map Src.pv)[i]?.bind λe=>(Ab.asBool (cell e 0)).bind λb=>(bif !b then U Y else(l.map Src.pv)[i]?.bind λe=>(Ab.asInt .i64 (cell e 1)).bind λn=>U (O (t>n))).bind λr=>if r=Y then
  (l.map Src.pv)[i]?.bind λe=>((l.map Src.pv).set i (.agg (.bool Y::over [] [cell e 1,cell e 2,cell e 3])))[i]?.bind λe2=>K (((l.map Src.pv).set i (.agg (.bool Y::over [] [cell e 1,cell e 2,cell e 3]))).set i (.agg (cell e2 0::.int .i64 t::over [] [cell e2 2,cell e2 3])))
  else K (l.map Src.pv))=K ((CC l i λs=>s.GP t).map Src.pv):=by
 have h1:(l.map Src.pv)[i]?=U l[i].pv:=by simp[hi]
 rw[adk l i _ hi];simp only[h1,ab];refine(bs (a:=l[i].xl) rfl).trans ?_;refine(bs (a:=l[i].N2 t) ?_).trans ?_
 .unfold Src.N2;cases l[i].xl<;>rfl
 .unfold Src.GP;by_cases h:l[i].N2 t=Y
  .try dsimp only
   rw[BY h,BY h,QE _ _ _ (by simpa using hi)];refine(bs rfl).trans ?_;rw[azl];rfl
  simp_all[IT,ah7]
theorem ah8{R:Type}(l:List Src)(i:Nat)(hi:i<l.length)(t q:Int)(g:PV)(hg:Ab.asInt .i64 g=U q)(K:List PV->Option R):((l.map Src.pv)[i]?.bind λe=>(Ab.asBool (cell e 0)).bind λb=>(bif !b then U Y else(l.map Src.pv)[i]?.bind λe=>(Ab.asInt .i64 (cell e 1)).bind λn=>U (O (t>n))).bind λr=>if r=Y then
  (l.map Src.pv)[i]?.bind λe=>((l.map Src.pv).set i (.agg (.bool Y::over [] [cell e 1,cell e 2,cell e 3])))[i]?.bind λe2=>(Ab.asInt .i64 g).bind λn=>
   (((l.map Src.pv).set i (.agg (.bool Y::over [] [cell e 1,cell e 2,cell e 3]))).set i (.agg (cell e2 0::.int .i64 t::over [] [cell e2 2,cell e2 3])))[i]?.bind λe3=>
   ((((l.map Src.pv).set i (.agg (.bool Y::over [] [cell e 1,cell e 2,cell e 3]))).set i (.agg (cell e2 0::.int .i64 t::over [] [cell e2 2,cell e2 3]))).set i (.agg (cell e3 0::cell e3 1::.bool Y::over [] [cell e3 3])))[i]?.bind λe4=>
   K (((((l.map Src.pv).set i (.agg (.bool Y::over [] [cell e 1,cell e 2,cell e 3]))).set i (.agg (cell e2 0::.int .i64 t::over [] [cell e2 2,cell e2 3]))).set i (.agg (cell e3 0::cell e3 1::.bool Y::over [] [cell e3 3]))).set i (.agg (cell e4 0::cell e4 1::cell e4 2::.int .i64 n::over [] [])))
  else(Ab.asInt .i64 g).bind λn=>(l.map Src.pv)[i]?.bind λe=>((l.map Src.pv).set i (.agg (cell e 0::cell e 1::.bool Y::over [] [cell e 3])))[i]?.bind λe2=>K (((l.map Src.pv).set i (.agg (cell e 0::cell e 1::.bool Y::over [] [cell e 3]))).set i (.agg (cell e2 0::cell e2 1::cell e2 2::.int .i64 n::over [] []))))=K ((CC l i λs=>s.got t q).map Src.pv):=by
 have h1:(l.map Src.pv)[i]?=U l[i].pv:=by simp[hi]
 rw[adk l i _ hi];simp only[h1,hg,ab];have hs:∀x:PV,((l.map Src.pv).set i x)[i]?=U x:=λx=>QE _ _ _ (by simpa using hi);refine(bs (a:=l[i].xl) rfl).trans ?_;refine(bs (a:=l[i].N2 t) ?_).trans ?_
 .unfold Src.N2;cases l[i].xl<;>rfl
 .unfold Src.got Src.GP;by_cases h:l[i].N2 t=Y
  .try dsimp only
   rw[BY h,BY h,hs];refine(bs rfl).trans ?_;rw[azl,hs];refine(bs rfl).trans ?_;rw[azl,hs];refine(bs rfl).trans ?_;rw[azl];rfl
  .try dsimp only
   rw[IT h,IT h,hs];refine(bs rfl).trans ?_;rw[azl];rfl
theorem BI(a b:List ar)(ha:a.length<=maxLen):gh [.rs 5 (a.map ar.pv),.rs 5 (b.map ar.pv)]=U (.bool (O (a=b))):=by
 have hm:=ax;simp only[gh,l5,aJ,By,ab,te];by_cases h:a.length=b.length
 .try dsimp only
  rw[IT (by rw[BV];simp[h])];refine(aC (λk=>(a.map ar.pv,b.map ar.pv,(a.length:Int),(k:Int),())) a.length (λk=>if a[k]?=b[k]? then Z else U (U (PV.bool J))) (λk hk rec=>?_) (fin:=U (PV.bool Y)) (λrec=>?_) nN rfl).trans ?_
  .have h1:O ((k:Int)<(a.length:Int))=true:=ah
   have mq:k<b.length:=aa
   unfold js;dsimp only;try simp only[te]
   rw[BY h1,af,af,AT,AT,ta hk,ta mq];simp only[IN,ab];rw[BY ⟨rfl,rfl⟩,ar.peq,ag aa];grind [bN]
  .simp[js,IT]
  .exact(vW a b h (U (PV.bool J)) (U (PV.bool Y))).trans VF
 .try dsimp only
  rw[BY (by rw[BV];simp[h])];have:a≠b:=λe=>h (by rw[e]);simp[this]
def JU(A B:aB)(k:Nat):Bool:=O (A.runs[k]?≠B.runs[k]?)
def MF(A B:aB)(n:Nat):List Nat:=(I n).filter (JU A B)
theorem TP(A B:aB)(k:Nat):MF A B (k+1)=if JU A B k=Y then MF A B k++[k]else MF A B k:=by grind [MF,List.range_succ,JU]
theorem QF(A B:aB)(k:Nat):(MF A B k).length<=k:=by grind [MF,Nat.le_trans,List.length_filter_le]
def Aq(k:Nat):PV:=.int .i64 k
def mx(A B:aB):Nat:=max A.runs.length B.runs.length
theorem afa(x y:aW)(hx:x.calls.length<=maxLen):td [x.pv,y.pv]=U (.bool (O (x=y))):=by have hc:=BI x.calls y.calls hx;simp only[td,EO,aa4,JV,F9,MG,QG,X7,aa5,aa6,DN,ab];simp only[asInt,bU,asBool,aJ,By,ab,hc,bh,aG,bW,dQ,adl];grind
theorem VG(A B:aB)(hA:A.runs.length<=3000/\∀x∈A.runs,x.calls.length<=maxLen)(hB:B.runs.length<=3000):jN [A.pv,B.pv]=U (.rs 1 ((MF A B (mx A B)).map Aq)):=by
 have hrn:3003<rounds:=bj
 simp only[jN,xV,CD,DO,DP,DQ,DR,DS,DT,DU,DV,DW,ab,te];refine aM (λk=>(((mx A B:Nat):Int),(k:Int),A.stops.map Stop.pv,A.ak.map aD.pv,A.runs.map aW.pv,A.aA.map aK.pv,A.paths.map Path.pv,A.aF.map bd.pv,A.aZ,A.within,A.cap,B.stops.map Stop.pv,B.ak.map aD.pv,B.runs.map aW.pv,B.aA.map aK.pv,B.paths.map Path.pv,B.aF.map bd.pv,B.aZ,B.within,B.cap,(MF A B k).map Aq,())) (mx A B) (λk hk rec=>?_) (λrec=>?_) (by unfold mx;omega) ?_
 .have hl:=QF A B k;have hm:k<3000:=by unfold mx at hk;omega
  have bG:((MF A B k).map Aq++[PV.int .i64 (k:Int)]).length*8<=au/\0<8:=N5 _ ah _;have cO:∀x:aW,PV.agg [cell x.pv 0,cell x.pv 1,cell x.pv 2,cell x.pv 3,cell x.pv 4,cell x.pv 5,cell x.pv 6,cell x.pv 7]=x.pv:=ah9;unfold rr;dsimp only;rw[BY av];simp only[te,aG,af,AT,ag (aa:k<9223372036854775807),TP];by_cases ha:k<A.runs.length
  .by_cases hb:k<B.runs.length
   .have hs:=afa A.runs[k] B.runs[k] (hA.2 _ (alx ha));rw[show(O ((k:Int)>=(A.runs.length:Int))||decide ((k:Int)>=(B.runs.length:Int)))=J by simp_all];simp only[ab,cond_false,ta ha,ta hb,IN,ah9,hs,asBool];have hd:JU A B k= !decide (A.runs[k]=B.runs[k]):=by simp_all[JU,ta]
    rw[hd];by_cases he:A.runs[k]=B.runs[k]
    .simp[he]
    .try dsimp only
     simp only[he,ayf,ayi,By,BY bG,aya];rfl
   .have hd:JU A B k=true:=by simp_all[JU,ta,ay0]
    try dsimp only
    rw[show(O ((k:Int)>=(A.runs.length:Int))||decide ((k:Int)>=(B.runs.length:Int)))=Y by simp_all,hd];simp only[ab,cond_true,By,BY bG,aya];rfl
  .have hd:JU A B k=true:=by grind [JU,mx,List.getElem?_eq_getElem,List.getElem?_eq_none]
   rw[show(O ((k:Int)>=(A.runs.length:Int))||decide ((k:Int)>=(B.runs.length:Int)))=Y by simp_all,hd];simp only[ab,cond_true,By,BY bG,aya];rfl
 .simp[rr,IT]
 .have:(if(B.runs.length:Int)>(A.runs.length:Int)then(B.runs.length:Int)else(A.runs.length:Int))=((mx A B:Nat):Int):=by unfold mx;omega
  rw[this];rfl
theorem aia(l:List aW)(k:Nat)(h:k<l.length):List.drop k (List.take (k+1) (l.map aW.pv))=[l[k]].map aW.pv:=by rw[<-azW,<-aBm,awT h,List.drop_append_of_le_length ah,ay3 ah];rfl
theorem X8(A B:aB)(hA:A.runs.length<=3000/\∀x∈A.runs,x.calls.length<=maxLen)(hB:B.runs.length<=3000):qv [A.pv,B.pv]=U (.rs 1 ((MF A B (mx A B)).map Aq)):=by
 have hrn:3003<rounds:=bj
 have Sw:3000<=maxLen:=bj
 simp only[qv,CE,CD,DO,DP,DQ,DR,DS,DT,DU,DV,DW,ab];refine aM (λk=>((k:Int),A.stops.map Stop.pv,A.ak.map aD.pv,A.runs.map aW.pv,A.aA.map aK.pv,A.paths.map Path.pv,A.aF.map bd.pv,A.aZ,A.within,A.cap,B.stops.map Stop.pv,B.ak.map aD.pv,B.runs.map aW.pv,B.aA.map aK.pv,B.paths.map Path.pv,B.aF.map bd.pv,B.aZ,B.within,B.cap,(MF A B k).map Aq,())) (mx A B) (λk hk rec=>?_) (λrec=>?_) (by unfold mx;omega) rfl
 .have hl:=QF A B k;have hm:k<3000:=by unfold mx at hk;omega
  have hwk:C .i64 ((k:Int)+1)=((k+1:Nat):Int):=ag aa;have bG:((MF A B k).map Aq++[PV.int .i64 (k:Int)]).length*8<=au/\0<8:=N5 _ ah _;have hc0:(O ((k:Int)<(A.runs.length:Int))||decide ((k:Int)<(B.runs.length:Int)))=true:=by unfold mx at hk;grind
  unfold vr;dsimp only;simp only[te,aG,ab,hc0,By,hwk,TP];by_cases ha:k<A.runs.length
  .by_cases hb:k<B.runs.length
   .try dsimp only
    rw[show(O ((k:Int)>=(A.runs.length:Int))||decide ((k:Int)>=(B.runs.length:Int)))=J by simp_all];have hs:=xm [A.runs[k]] [B.runs[k]] ah (λx hx=>av);rw[BY (ao:0<=(k:Int)/\(k:Int)<=((k+1:Nat):Int)/\((k+1:Nat):Int)<=(A.runs.length:Int)/\True/\8≠0),BY (ao:0<=(k:Int)/\(k:Int)<=((k+1:Nat):Int)/\((k+1:Nat):Int)<=(B.runs.length:Int)/\True/\8≠0)];rw[anj,anj,aia _ _ ha,aia _ _ hb,hs];simp only[ab,asBool,cond_false];have hd:JU A B k= !decide ([A.runs[k]]=[B.runs[k]]):=by simp_all[JU,ta]
    rw[hd];by_cases he:A.runs[k]=B.runs[k]
    .simp[he]
    .have cO:O ([A.runs[k]]=[B.runs[k]])=false:=by simp[he]
     simp only[cO,ayi,By,BY bG,aya];rfl
   .have hd:JU A B k=true:=by simp_all[JU,ta,ay0]
    try dsimp only
    rw[show(O ((k:Int)>=(A.runs.length:Int))||decide ((k:Int)>=(B.runs.length:Int)))=Y by simp_all,hd];simp only[ab,cond_true,By,BY bG,aya];rfl
  .have hd:JU A B k=true:=by simp_all[JU,mx,ta,ay0]
   rw[show(O ((k:Int)>=(A.runs.length:Int))||decide ((k:Int)>=(B.runs.length:Int)))=Y by simp_all,hd];simp only[ab,cond_true,By,BY bG,aya];rfl
 .unfold vr;dsimp only;have hc0:(O (((mx A B:Nat):Int)<(A.runs.length:Int))||decide (((mx A B:Nat):Int)<(B.runs.length:Int)))=false:=by unfold mx;grind
  grind
theorem vc{k:Nat}(h:k<10000):C .i64 ((k:Int)+1)=((k+1:Nat):Int):=ag aa
def LS.net(S:LS)(t:Int):aB:=(Sy S.N [] (S.act t)).1
theorem bA(z:Nat)(es:List PV):aJ z (.rs z es)=U es:=by simp[aJ]
structure bI(N:aB):Prop where
 lim:W5 N
 few:ale N
 val:(dZ N).2.2=0
theorem adm:∀(l:List bx)(N:aB)(er:List Int),W5 N->(dZ N).2.2=0->(∀m∈l,m.Ok)->W5 (Sy N er l).1/\(dZ (Sy N er l).1).2.2=0
 |[],N,er,h,hv,_=>⟨h,hv⟩
 |m::l,N,er,h,hv,hm=>by have Tl:=MH (m:=m) hv;exact adm l _ _ (QH h (QI N m) Tl (hm m ae)) Tl (λx hx=>hm x (by simp[hx]))
theorem aib{S:LS}{n:Nat}(h:S.Inv n)(hB:bI S.N)(t:Int):W5 (S.net t)/\(dZ (S.net t)).2.2=0:=adm _ _ _ hB.lim hB.val λm hm=>((aa2 h t).2 m hm).1
theorem alf{S:LS}{n:Nat}(h:S.Inv n)(hn:n<=100)(hB:bI S.N)(t:Int):ke [S.N.pv,.rs 13 ((S.act t).map bx.pv)]=U (TQ (Sy S.N [] (S.act t))):=by have⟨h1,h2⟩:=aa2 h t;exact aic S.N (S.act t) hB.lim hB.val aa (λm hm=>(h2 m hm).1) (λm hm=>by have:=(h2 m hm).2.1;omega)
theorem X9:cH []=U (.bool Y):=rfl
theorem aid(S:LS)(t:Int)(m:bx):((bif O (m.dI<=t)&&O (m.cj>t)then(Ab.asInt .i64 (cell m.pv 0)).bind λn=>(dP [S.box,.int .i64 n,.int .i64 t]).bind λr=>(Ab.asBool r).bind λb=>U (!b)else U J):Option Bool)=U (S.CB t m):=by
 unfold LS.CB;cases O (m.dI<=t)&&O (m.cj>t)with
 |false=>rfl
 |true=>refine(vb rfl).trans ?_;refine(bs rfl).trans ?_;refine(bs (N4 S _ t)).trans ?_;rfl
theorem alg(t:Int)(m:bx):((bif O (m.dI<=t)then(Ab.asInt .i64 (cell m.pv 3)).bind λn=>U (O (n>t))else U J):Option Bool)=U (O (m.dI<=t)&&O (m.cj>t)):=by cases O (m.dI<=t)<;>rfl
section
variable {S:LS} {n:Nat}
def e9(N:aB):=(PV.rs 4 (N.stops.map Stop.pv),PV.rs 3 (N.ak.map aD.pv))
end
section
variable {S:LS} {n:Nat}
theorem adn(l:List bx)(m:bx)(k:Nat)(hk:k<=l.length)(hl:l.length<=500){R:Type}(K:List PV->Option R):(if(0:Int)<=0/\0<=(k:Int)/\(k:Int)<=((l.map bx.pv).length:Int)/\13=13/\13≠0 then
  if(([]:List PV)++List.drop (Int.toNat 0) (List.take (k:Int).toNat (l.map bx.pv))).length*128<=au/\0<128 then
   if(([]:List PV)++List.drop (Int.toNat 0) (List.take (k:Int).toNat (l.map bx.pv))++[m.pv]).length*128<=au/\0<128 then
    if 0<=(k:Int)/\(k:Int)<=((l.map bx.pv).length:Int)/\((l.map bx.pv).length:Int)<=((l.map bx.pv).length:Int)/\13=13/\13≠0 then
     if(([]:List PV)++List.drop (Int.toNat 0) (List.take (k:Int).toNat (l.map bx.pv))++[m.pv]++List.drop (k:Int).toNat (List.take ((l.map bx.pv).length:Int).toNat (l.map bx.pv))).length*128<=au/\0<128 then K (([]:List PV)++List.drop (Int.toNat 0) (List.take (k:Int).toNat (l.map bx.pv))++[m.pv]++List.drop (k:Int).toNat (List.take ((l.map bx.pv).length:Int).toNat (l.map bx.pv)))
     else Z
    else Z
   else Z
  else Z
 else Z)=K ((l.take k++[m]++l.drop k).map bx.pv):=by
 have e:([]:List PV)++List.drop (Int.toNat 0) (List.take (k:Int).toNat (l.map bx.pv))++[m.pv]++List.drop (k:Int).toNat (List.take ((l.map bx.pv).length:Int).toNat (l.map bx.pv))=(l.take k++[m]++l.drop k).map bx.pv:=by have e2:List.take l.length (l.map bx.pv)=l.map bx.pv:=ayu ae;simp[azW,aBm,e2]
 rw[BY ah,BY (ze _ ah),BY (ze _ ah),BY ah,e,BY (ze _ ah)]
end
def sPV(T:aw)(a b s p:Int):PV:=.agg [.rs 4 (T.stops.map Stop.pv),.rs 3 (T.ak.map aD.pv),.rs 10 (T.eN.map sE.pv),.rs 3 (T.pC.map xW.pv),.rs 5 (T.ai.map bC.pv),.rs 4 (T.br.map bu.pv),.rs 2 (T.df.map jt.pv),.rs 3 (T.cm.map ju.pv),.rs 4 (T.paths.map Path.pv),.rs 6 (T.aF.map bd.pv),.int .i64 T.aZ,.int .i64 T.within,.int .i64 T.cap,.int .i64 a,.int .i64 b,.int .i64 s,.int .i64 p]
theorem afb(T:aw)(a b s p:Int)(l:List EM):∃c,vX [sPV T a b s p,.rs 15 (l.map EM.pv)]=U (.bool c)/\(c=J->ru T/\l.length<=30/\∀o∈l,o.m.calls.length<=40):=by
 have⟨c,hc,hf⟩:=aie T;obtain⟨d,hd⟩:∃d:Bool,((bif O (b>=a)then U (O (a>=0))else U J).bind λr22=>(bif r22 then U (O (b<=36524))else U J).bind λr23=>(bif r23 then U (O (C .i64 (b-a)>2))else U J).bind λr24=>(bif r24 then U (O (C .i64 (b-a)<8))else U J).bind λr25=>U r25)=U d:=by
  try dsimp only
  simp only[QA,ab];exact⟨_,rfl⟩
 have run:l.length<=30->∃c,cD.run nU (l.map EM.pv,0,())=U (.bool c)/\(c=J->∀o∈l,o.m.calls.length<=40):=by
  intro hl;have key:=aC (body:=nU) (λk=>(l.map EM.pv,(k:Int),())) l.length (λk=>if(((l[k]?).map λo=>O ((o.m.calls.length:Int)>40)||decide ((o.m.bg.length:Int)>100)).getD J)=Y then U (U (PV.bool Y))else Z) (fin:=U (.bool J)) (λk hk rec=>?_) (λrec=>?_) (fp aa) (s0:=(l.map EM.pv,0,())) rfl
  .rw[key];cases hs:(I l.length).findSome? λk=>if(((l[k]?).map λo=>O ((o.m.calls.length:Int)>40)||decide ((o.m.bg.length:Int)>100)).getD J)=Y then U (U (PV.bool Y))else Z with
   |some x=>
    have⟨k,_,hk⟩:=ayC hs;split at hk
    .cases hk;exact⟨Y,rfl,λh=>by cases h⟩
    .cases hk
   |none=>
    refine⟨J,rfl,λ_ o ho=>?_⟩;obtain⟨k,hk,rfl⟩:=az7.1 ho;have:=azC.1 hs k (by simpa using hk);rw[ta hk]at this;simp only[IN,ayy,ayj,tb]at this;split at this
    .cases this
    next hh=>omega
  .unfold nU;dsimp only;rw[BY (by rw[tb,te];omega),af,AT,ta hk];refine(bs rfl).trans ?_;refine(bs (bA 5 _)).trans ?_;refine(bs (a:=O ((l[k].m.calls.length:Int)>40)||decide ((l[k].m.bg.length:Int)>100)) ?_).trans ?_
   .try dsimp only
    rw[te];cases O ((l[k].m.calls.length:Int)>40)<;>rfl
   simp only[IN,ayy];by_cases h:(O ((l[k].m.calls.length:Int)>40)||decide ((l[k].m.bg.length:Int)>100))=Y
   .try dsimp only
    rw[BY h,BY h];rfl
   .rw[IT h,IT h,vc aa];rfl
  .unfold nU;dsimp only;rw[IT ae]
 have hu:vX [sPV T a b s p,.rs 15 (l.map EM.pv)]=BW cD (sPV T a b s p) (.rs 15 (l.map EM.pv)):=rfl;rw[hu];unfold BW;cases c with
 |false=>
  refine⟨Y,?_,λh=>by cases h⟩;iterate 18 refine(bs rfl).trans ?_
  refine(bs (bA 15 _)).trans ?_;refine(bs hc).trans ?_;rfl
 |true=>
  by_cases hl:l.length<=30
  .obtain⟨e,he,Z5⟩:=run hl;refine⟨d||e,?_,λh=>?_⟩
   .iterate 18 refine(bs rfl).trans ?_
    refine(bs (bA 15 _)).trans ?_;refine(bs hc).trans ?_;refine(bs rfl).trans ?_;refine(bs (a:=J) ?_).trans ?_
    .try dsimp only
     rw[aAy (show¬((l.map EM.pv).length:Int)>30 by simp;omega)];rfl
    refine(bs (a:=d) hd).trans ?_;cases d with
    |true=>rfl
    |false=>exact he
   .rw[ayp]at h;exact⟨hf rfl,hl,Z5 h.2⟩
  .refine⟨Y,?_,λh=>by cases h⟩;iterate 18 refine(bs rfl).trans ?_
   refine(bs (bA 15 _)).trans ?_;refine(bs hc).trans ?_;refine(bs rfl).trans ?_;refine(bs (a:=Y) ?_).trans ?_
   .try dsimp only
    rw[az1 (show((l.map EM.pv).length:Int)>30 by simp;omega)];rfl
   rfl
section
variable {S:LS} {n:Nat}
end
def awr:Src:=⟨J,0,J,0⟩
def GS(N:aB)(s:Nat)(p:Int):LS:=⟨N,List.replicate s awr,p,[],0⟩
theorem TR(N:aB)(s:Nat)(p:Int)(hs:s<=8):(GS N s p).Inv 0:=⟨by simpa[GS]using hs,ayd _,⟨aBv _,show(0:Int)<=3155932800 by decide⟩,by simp[GS]⟩
end Go.Ab.Tt
namespace Go.Ab.Tt
set_option maxRecDepth 100000
set_option maxHeartbeats 4000000
def alh:PV:=.agg [.int .i64 (-1),.int .i64 0]
def asg(N:aB)(s:Nat)(p:Int):PV:=.agg [.rs 4 (N.stops.map Stop.pv),.rs 3 (N.ak.map aD.pv),.rs 8 (N.runs.map aW.pv),.rs 5 (N.aA.map aK.pv),.rs 4 (N.paths.map Path.pv),.rs 6 (N.aF.map bd.pv),.int .i64 N.aZ,.int .i64 N.within,.int .i64 N.cap,.int .i64 p,.rs 2 (List.replicate s alh),.rs 0 [],.int .i64 0]
def ash(s:Nat)(p:Int):PV:=.agg [.int .i64 p,.rs 2 (List.replicate s alh),.rs 0 []]
def am3:PV:=.agg [.int .i64 0,.rs 0 [],.rs 0 []]
theorem afc(s p:Int):GU [.int .i64 s,.int .i64 p]=U (if s<1\/8<s then .b8 [am3,.int .i64 36]else if p<0\/86400<p then .b8 [am3,.int .i64 2]else .b8 [ash s.toNat p,.int .i64 0]):=by
 show IA cD (.int .i64 s) (.int .i64 p)=_;unfold IA;iterate 2 refine(bs rfl).trans ?_
 try dsimp only
 rw[QA,ab];by_cases h1:s<1\/8<s
 .rw[BY (show(bif O (s<1)then Y else O (s>8))=Y by simp_all),BY h1];rfl
 .rw[IT (show¬(bif O (s<1)then Y else O (s>8))=Y by simp;omega),IT h1,QA,ab];by_cases h2:p<0\/86400<p
  .rw[BY (show(bif O (p<0)then Y else O (p>86400))=Y by simp_all),BY h2];rfl
  .rw[IT (show¬(bif O (p<0)then Y else O (p>86400))=Y by simp;omega),IT h2];obtain⟨n,rfl⟩:∃n:Nat,s=n:=⟨s.toNat,aa⟩;refine aM (λk=>((n:Int),(k:Int),0,p,List.replicate k alh,())) n (λk hk rec=>?_) (λrec=>?_) (fp aa) rfl
   .unfold EP;dsimp only;rw[BY av,BY (show(List.replicate k alh++[PV.agg [.int .i64 (-1),.int .i64 0]]).length*16<=au/\0<16 from⟨by grind [List.length_append,List.length_replicate,au,decide,List.length_singleton],aa⟩),ag (aa:k<9223372036854775807)];rw[azP];rfl
   .unfold EP;dsimp only;rw[IT ae];rfl
def aa7:PV:=.agg [.rs 0 [],.rs 0 [],.rs 0 [],.rs 0 [],.rs 0 [],.rs 0 [],.int .i64 0,.int .i64 0,.int .i64 0,.int .i64 0,.rs 0 [],.rs 0 [],.int .i64 0]
theorem afd{T:aw}{a b s p e:Int}{N:aB}(hB:kg [T.pv,.int .i64 a,.int .i64 b]=U (.b8 [if e=0 then N.pv else noN,.int .i64 e])):sg [T.pv,.int .i64 a,.int .i64 b,.int .i64 s,.int .i64 p]=U (if e≠0 then .b8 [aa7,.int .i64 e]else if s<1\/8<s then .b8 [aa7,.int .i64 36]else if p<0\/86400<p then .b8 [aa7,.int .i64 2]else .b8 [asg N s.toNat p,.int .i64 0]):=by
 show IB cD T.pv (.int .i64 a) (.int .i64 b) (.int .i64 s) (.int .i64 p)=_;unfold IB;iterate 18 refine(bs rfl).trans ?_
 refine(bs hB).trans ?_;refine(bs (bt2 _ _)).trans ?_;by_cases he:e=0
 .subst he;rw[BY rfl,IT (show¬(0:Int)≠0 by simp)];iterate 2 refine(bs rfl).trans ?_
  try dsimp only
  rw[IT (show¬((0:Int) !=0)=Y by simp)];refine(bs (afc s p)).trans ?_;by_cases h1:s<1\/8<s
  .rw[BY h1,BY h1];rfl
  .rw[IT h1,IT h1];by_cases h2:p<0\/86400<p
   .rw[BY h2,BY h2];rfl
   .rw[IT h2,IT h2];rfl
 .rw[IT he,BY he];iterate 2 refine(bs rfl).trans ?_
  try dsimp only
  rw[BY (show(e !=0)=Y by simpa using he)];rfl
def Src.si(s:Src):PV:=.agg [.int .i64 (if s.xl=Y then s.last else-1),.int .i64 (if s.recv=Y then s.seq else 0)]
def LS.VH(S:LS):PV:=.agg [.int .i64 S.pat,.rs 2 (S.bZ.map Src.si),.rs 13 (S.kept.map bx.pv)]
def jG(S:LS):Prop:=∀s∈S.bZ,s.xl=Y->0<=s.last
theorem TS(a b:bx):iN [a.pv,b.pv]=U (.bool (sf a b)):=by
 unfold iN vt;iterate 28 refine(bs rfl).trans ?_
 try dsimp only
 simp only[bh,ab];rfl
theorem aif(m:bx):tf [m.pv]=U (.bool (adi m.kind)):=by
 unfold tf ER;iterate 14 refine(bs rfl).trans ?_
 try dsimp only
 simp only[aG,ab];rfl
theorem ali(a b:bx):l6 [a.pv,b.pv]=U (.bool (sup a b)):=by
 unfold l6 vu;iterate 28 refine(bs rfl).trans ?_
 refine(bs (a:=a.source==b.source&&sf a b) ?_).trans ?_
 .cases a.source==b.source with
  |false=>rfl
  |true=>refine(vb rfl).trans ?_;refine(bs (TS a b)).trans ?_;rfl
 .try dsimp only
  rw[bh];refine(bs rfl).trans ?_;refine(bs (a:=sup a b) ?_).trans rfl;unfold sup;cases(a.source==b.source&&sf a b&&O (a.seq>b.seq))with
  |false=>rfl
  |true=>refine(vb rfl).trans ?_;refine(bs (aif a)).trans ?_;refine(bs rfl).trans ?_;grind
theorem ado(a b:bx):tg [a.pv,b.pv]=U (.bool (Iz a b)):=by
 unfold tg ES Iz;iterate 28 refine(bs rfl).trans ?_
 grind
section
variable {S:LS}
theorem QJ(hS:jG S)(i t:Int):nV [S.VH,.int .i64 i,.int .i64 t]=U (.bool (S.GQ i t)):=by
 unfold nV ET LS.GQ;iterate 6 refine(bs rfl).trans ?_
 try dsimp only
 rw[aG,ab,te];cases hs:S.MC i with
 |false=>unfold LS.MC at hs;grind
 |true=>
  unfold LS.MC at hs;try dsimp only
  simp only[T1,tb]at hs;obtain⟨k,rfl⟩:∃k:Nat,i=k:=⟨i.toNat,aa⟩;have hk:k<S.bZ.length:=aa
  have h0:=hS _ (alx hk);rw[IT ah,af,AT,ta hk,anj,ta hk];refine(bs rfl).trans ?_;refine(bs (a:=if S.bZ[k].xl=Y then S.bZ[k].last else-1) rfl).trans ?_;try dsimp only
  simp only[bh,aG,ab,IN,ayy,ayS];unfold Src.VC;cases he:S.bZ[k].xl with
  |false=>rfl
  |true=>grind
theorem adp(hS:jG S)(m:bx)(t:Int):mr [S.VH,m.pv,.int .i64 t]=U (.bool (S.CB t m)):=by
 unfold mr CF LS.CB;iterate 19 refine(bs rfl).trans ?_
 try dsimp only
 rw[bh,ab];cases O (m.dI<=t)&&O (m.cj>t)with
 |false=>rfl
 |true=>
  refine(bs (a:= !S.GQ m.source t) ((vb rfl).trans ?_)).trans ?_
  .refine(bs (QJ hS _ _)).trans ?_;rfl
  rfl
theorem Ya(l:List bx)(p:bx->Bool)(m:bx):BU (l.filter p) m=l.any λo=>(O (o.source<m.source)&&sf o m)&&p o:=by unfold BU;grind
theorem aih(hS:jG S)(i:Nat)(hi:i<S.kept.length)(hl:S.kept.length<=1000)(t:Int):th [S.VH,.int .i64 i,.int .i64 t]=U (.bool (S.CB t S.kept[i]&& !BU (S.cur t) S.kept[i])):=by
 unfold th EU;iterate 6 refine(bs rfl).trans ?_
 try dsimp only
 rw[af,AT,ta hi];refine(bs rfl).trans ?_;have key:=aC (body:=qw) (λk=>(t,(k:Int),S.pat,S.bZ.map Src.si,S.kept.map bx.pv,cell S.kept[i].pv 0,cell S.kept[i].pv 1,cell S.kept[i].pv 2,cell S.kept[i].pv 3,cell S.kept[i].pv 4,cell S.kept[i].pv 5,cell S.kept[i].pv 6,cell S.kept[i].pv 7,cell S.kept[i].pv 8,cell S.kept[i].pv 9,cell S.kept[i].pv 10,cell S.kept[i].pv 11,cell S.kept[i].pv 12,())) S.kept.length (λk=>if(((S.kept[k]?).map λo=>(O (o.source<S.kept[i].source)&&sf o S.kept[i])&&S.CB t o).getD J)=Y then U (U (PV.bool J))else Z) (fin:=U (.bool (S.CB t S.kept[i]))) (λk hk rec=>?_) (λrec=>?_) (fp aa) rfl
 .refine key.trans ?_;unfold LS.cur;rw[Ya];cases hs:(I S.kept.length).findSome? λk=>if(((S.kept[k]?).map λo=>(O (o.source<S.kept[i].source)&&sf o S.kept[i])&&S.CB t o).getD J)=Y then U (U (PV.bool J))else Z with
  |some x=>have⟨k,hk,hx⟩:=ayC hs;grind [List.getElem?_eq_getElem,decide,sf,List.getElem_mem,bN]
  |none=>rw[show(S.kept.any λo=>(O (o.source<S.kept[i].source)&&sf o S.kept[i])&&S.CB t o)=J by rw[azj];intro o ho;obtain⟨k,hk,rfl⟩:=az7.1 ho;simp_all];simp[bN]
 .unfold qw;dsimp only;rw[BY av,af,AT,ta hk];iterate 3 refine(bs rfl).trans ?_
  refine(bs (a:=O (S.kept[k].source<S.kept[i].source)&&sf S.kept[k] S.kept[i]) ?_).trans ?_
  .cases O (S.kept[k].source<S.kept[i].source)with
   |false=>rfl
   |true=>refine(vb rfl).trans ?_;refine(bs (TS _ _)).trans ?_;rfl
  refine(bs (a:=(O (S.kept[k].source<S.kept[i].source)&&sf S.kept[k] S.kept[i])&&S.CB t S.kept[k]) ?_).trans ?_
  .cases O (S.kept[k].source<S.kept[i].source)&&sf S.kept[k] S.kept[i]with
   |false=>rfl
   |true=>refine(vb rfl).trans ?_;refine(bs (adp hS _ _)).trans ?_;rfl
  simp only[IN,ayy];by_cases hh:((O (S.kept[k].source<S.kept[i].source)&&sf S.kept[k] S.kept[i])&&S.CB t S.kept[k])=Y
  .try dsimp only
   rw[BY hh,BY hh];rfl
  .rw[IT hh,IT hh,vc aa];rfl
 .unfold qw;dsimp only;rw[IT ae];refine(bs (adp hS _ _)).trans ?_;rfl
end
theorem alj(out:List bx)(m:bx):∀k,Lc out m k<=k:=by
 intro k;induction k with
 |zero=>exact ayd _
 |succ k ih=>unfold Lc;grind
theorem aa8{S R:Type}{body:S->(S->Option R)->Option R}(st:Nat->List PV->S)(l:List bx)(m:bx){r:Option R}(wX:∀k w rec,(hk:k<l.length)->Iz m l[k]=Y->body (st (k+1) ((l.take (k+1)).map bx.pv++[w]++(l.drop (k+1)).map bx.pv)) rec=rec (st k ((l.take k).map bx.pv++[l[k].pv]++(l.drop k).map bx.pv)))(sx:∀k w rec,k<=l.length->(∀j,(hj:j<l.length)->k=j+1->Iz m l[j]=J)->Lc l m l.length=k->body (st k ((l.take k).map bx.pv++[w]++(l.drop k).map bx.pv)) rec=r)(hl:l.length<rounds){s0:S}{w0:PV}(h0:st l.length (l.map bx.pv++[w0])=s0):cD.run body s0=r:=by
 have:∀k,k<=l.length->Lc l m l.length=Lc l m k->∀w fu,k<fu->bT body fu (st k ((l.take k).map bx.pv++[w]++(l.drop k).map bx.pv))=r:=by
  intro k;induction k with
  |zero=>intro hk hi w fu hf;obtain⟨fu,rfl⟩:∃f,fu=f+1:=⟨fu-1,aa⟩;rw[bT];exact sx 0 w _ hk (λj hj h=>aa) hi
  |succ k ih=>
   intro hk hi w fu hf;obtain⟨fu,rfl⟩:∃f,fu=f+1:=⟨fu-1,aa⟩;have e:Lc l m (k+1)=if Iz m l[k]=Y then Lc l m k else k+1:=by rw[Lc,ta (aa:k<l.length)];rfl
   rw[e]at hi;rw[bT];grind
 rw[<-h0,kC];grind
theorem adq(l:List bx)(k j:Nat)(w:PV)(hk:k<=l.length)(hj:j<k):((l.take k).map bx.pv++[w]++(l.drop k).map bx.pv)[j]?=U (l[j]'(aa)).pv:=ao
theorem adr(l:List bx)(k:Nat)(w:PV)(hk:k<=l.length):((l.take k).map bx.pv++[w]++(l.drop k).map bx.pv).length=l.length+1:=ao
theorem ads(l:List bx)(k:Nat)(w x:PV)(hk:k<=l.length):((l.take k).map bx.pv++[w]++(l.drop k).map bx.pv).set k x=(l.take k).map bx.pv++[x]++(l.drop k).map bx.pv:=av
theorem afe(l:List bx)(k:Nat)(hk:k<l.length):(l.take (k+1)).map bx.pv++[l[k].pv]++(l.drop (k+1)).map bx.pv=(l.take k).map bx.pv++[l[k].pv]++(l.drop k).map bx.pv:=by rw[awT hk,ayA hk];grind
section
variable {S:LS}
def Sz(S:LS)(t:Int)(k:Nat):List bx:=(S.kept.take k).foldl (λout m=>if(S.CB t m&& !BU (S.cur t) m)=Y then VD out m else out) []
theorem aii(t:Int):Sz S t S.kept.length=S.act t:=by unfold Sz LS.act Sx LS.cur;rw[ays,ays,List.foldl_filter];congr 1;funext out m;grind [aa1,BU]
theorem TT(t:Int)(k:Nat)(hk:k<S.kept.length):Sz S t (k+1)=if(S.CB t S.kept[k]&& !BU (S.cur t) S.kept[k])=Y then VD (Sz S t k) S.kept[k]else Sz S t k:=by unfold Sz;rw[awT hk,aAl];rfl
theorem aij(t:Int):∀k,k<=S.kept.length->(Sz S t k).length<=k:=by
 intro k;induction k with
 |zero=>intro _;simp[Sz]
 |succ k ih=>grind [TT,X3]
theorem alk(hS:jG S)(hl:S.kept.length<=1000)(t:Int):tl [S.VH,.int .i64 t]=U (.rs 13 ((S.act t).map bx.pv)):=by
 unfold tl EV;iterate 5 refine(bs rfl).trans ?_
 refine aM (λk=>(t,(k:Int),S.pat,S.bZ.map Src.si,S.kept.map bx.pv,(Sz S t k).map bx.pv,())) S.kept.length (λk hk rec=>?_) (λrec=>?_) (fp aa) rfl
 .have Vl:=aij (S:=S) t k aa;unfold xX;dsimp only;rw[BY av];refine(bs (aih hS k hk hl t)).trans ?_;refine(bs rfl).trans ?_;rw[TT t k hk];by_cases hc:(S.CB t S.kept[k]&& !BU (S.cur t) S.kept[k])=Y
  .try dsimp only
   rw[IT (by simp[hc]),BY hc,af,AT,ta hk];refine(bs rfl).trans ?_;generalize Sz S t k=out at Vl⊢;generalize S.kept[k]=m;rw[BY (ze _ ah)];refine aa8 (λj arr=>(t,(k:Int),(j:Int),S.pat,S.bZ.map Src.si,S.kept.map bx.pv,arr,cell m.pv 0,cell m.pv 1,cell m.pv 2,cell m.pv 3,cell m.pv 4,cell m.pv 5,cell m.pv 6,cell m.pv 7,cell m.pv 8,cell m.pv 9,cell m.pv 10,cell m.pv 11,cell m.pv 12,())) out m (w0:=m.pv) (λj w iO hj hb=>?_) (λj w iO hj hb hi=>?_) (fp aa) ?_
   .have hlm:=adr out (j+1) w hj;have hw:C .i64 (((j+1:Nat):Int)-1)=(j:Int):=sH
    unfold xY;dsimp only;rw[hw,hlm];rw[az1 (show((j+1:Nat):Int)>0 by omega),anj,anj,adq out (j+1) j w hj aa];rw[BY (show aU (j:Int) (out.length+1)from⟨aa,aa⟩)];refine(bs (a:=Y) ?_).trans ?_
    .refine(vb rfl).trans ?_;refine(bs rfl).trans ?_;refine(bs (ado m out[j])).trans ?_;rw[hb];rfl
    rw[BY rfl,BY (show aU (j:Int) (out.length+1)from⟨aa,aa⟩)];refine(bs rfl).trans ?_;try dsimp only
    rw[BY (show aU ((j+1:Nat):Int) (out.length+1)from⟨aa,aa⟩),ta aa];refine(bs rfl).trans ?_;rw[ads out (j+1) w _ hj,<-afe out j hj];rfl
   .have hlm:=adr out j w hj;unfold xY;dsimp only;refine(bs (a:=J) ?_).trans ?_
    .cases j with
     |zero=>rfl
     |succ j=>
      have hw:C .i64 (((j+1:Nat):Int)-1)=(j:Int):=sH
      rw[hw,hlm,az1 (show((j+1:Nat):Int)>0 by omega),anj,adq out (j+1) j w hj aa,BY (show aU (j:Int) (out.length+1)from⟨aa,aa⟩)];refine(vb rfl).trans ?_;refine(bs rfl).trans ?_;refine(bs (ado m out[j])).trans ?_;rw[hb j aa rfl];rfl
    rw[IT ae,hlm,BY (show aU (j:Int) (out.length+1)from⟨aa,aa⟩),anj,ta aa];refine(bs rfl).trans ?_;try dsimp only
    rw[ads out j w _ hj,vc aa];unfold VD;rw[hi,aya,aya];rfl
   .try dsimp only
    rw[te];rfl
  .try dsimp only
   rw[BY ao,IT hc,vc aa]
 simp[xX,IT,aii]
end
theorem aoj(l:List PV)(h:l.length<=1000):l.length*16<=au/\0<16:=W8
def Ld(s:Src)(t q:Int):Src:=if q=0 then s.GP t else s.got t q
theorem aik(s:Src)(t q:Int)(ht:0<=t):(Ld s t q).si=.agg [.int .i64 (if t>(if s.xl=Y then s.last else-1)then t else(if s.xl=Y then s.last else-1)),.int .i64 (if q=0 then(if s.recv=Y then s.seq else 0)else q)]:=by
 have h1:∀s:Src,(if(s.GP t).xl=Y then(s.GP t).last else-1)=(if t>(if s.xl=Y then s.last else-1)then t else(if s.xl=Y then s.last else-1))/\(s.GP t).recv=s.recv/\(s.GP t).seq=s.seq:=by intro s;unfold Src.GP Src.N2;grind
 have⟨a1,a2,a3⟩:=h1 s;unfold Ld Src.si;by_cases hq:q=0
 .simp_all
 simp_all[IT,Src.got,By]
theorem TU(l:List Src)(hl:l.length<=100)(i:Nat)(hi:i<l.length)(t q:Int)(ht:0<=t):pQ [.rs 2 (l.map Src.si),.int .i64 i,.int .i64 t,.int .i64 q]=U (.rs 2 ((CC l i λs=>Ld s t q).map Src.si)):=by
 have hs:CC l i (λs=>Ld s t q)=l.set i (Ld l[i] t q):=by grind [CC,List.getElem?_eq_getElem]
 rw[hs];unfold pQ GV;iterate 4 refine(bs rfl).trans ?_
 refine aM (λk=>(l.map Src.si,(i:Int),t,q,(k:Int),((l.set i (Ld l[i] t q)).take k).map Src.si,())) l.length (λk hk rec=>?_) (λrec=>?_) (fp aa) rfl
 .unfold Ar;dsimp only;rw[BY av,af,AT,ta hk];refine(bs rfl).trans ?_;have mq:k<(l.set i (Ld l[i] t q)).length:=by simpa using hk
  rw[awT mq,aya,vc (aa:k<10000)];have hr:∀x:PV,(((l.set i (Ld l[i] t q)).take k).map Src.si++[x]).length*16<=au/\0<16:=λx=>aoj _ ah;by_cases Se:k=i
  .subst Se;rw[BY ae,aA9,ayb,ay6,aik _ _ _ ht];refine(bs (a:=if l[k].xl=Y then l[k].last else-1) rfl).trans ?_;by_cases hq:q=0
   .try dsimp only
    rw[IT (show¬(q !=0)=Y by simp[hq]),BY (hr _),BY hq];rfl
   simp_all
  .rw[IT (show¬((k:Int)==(i:Int))=Y by simp;omega),List.getElem_set_ne aa,BY (hr _)];rfl
 simp[Ar,IT,ayu]
section
variable {S:LS} {n:Nat}
theorem VI(h:S.Inv n)(hS:jG S)(o:EM):jG (S.step o).1:=by
 have hn:=h.now;have key:∀(l:List Src)(i:Nat)(f:Src->Src),(∀s∈l,s.xl=Y->0<=s.last)->(∀s,(s.xl=Y->0<=s.last)->(f s).xl=Y->0<=(f s).last)->∀s∈CC l i f,s.xl=Y->0<=s.last:=by grind [CC,List.mem_or_eq_of_mem_set,List.mem_of_getElem?]
 have hh:∀s:Src,(s.xl=Y->0<=s.last)->(s.GP S.now).xl=Y->0<=(s.GP S.now).last:=by grind [Src.GP]
 unfold LS.step LS.xI LS.EL LS.adv
 (repeat' split);all_goals first|exact hS|skip
 .exact key _ _ _ hS (λs hs=>hh s hs)
 .exact key _ _ _ hS (λs hs=>hh s hs)
theorem alm(h:S.Inv n)(hn:n<=100)(hS:jG S)(m:bx)(hm:m.Ok):qx [S.VH,m.pv,.int .i64 S.now]=U (.b8 [(S.xI m).1.VH,.int .i64 (S.xI m).2]):=by
 have hk:=h.kept;have aln:=h.now;have OM:=h.bZ;unfold qx CG LS.xI LS.MD;iterate 19 refine(bs rfl).trans ?_
 have Sv:iP [.int .i64 S.now]=U (.bool (O (S.now>=0)&&O (S.now<=3155932800))):=by unfold iP zf;refine(bs rfl).trans ?_;simp_all
 refine(bs Sv).trans ?_;refine(bs rfl).trans ?_;try dsimp only
 rw[IT ah,IT (show¬(S.now<0\/S.now>3155932800) by omega)];refine(bs (adt m hm)).trans ?_;refine(bs rfl).trans ?_;by_cases h2:dY m≠0
 .try dsimp only
  rw[BY (by simpa using h2),BY h2,BY h2];rfl
 .try dsimp only
  rw[IT (by simpa using h2),IT h2,te];have h4:dY m=0:=aa
  by_cases h3:m.source>=(S.bZ.length:Int)
  .try dsimp only
   rw[BY (by simpa using h3),BY h3,BY aa];rfl
  .have h0:0<=m.source/\1<=m.seq:=by unfold dY wi at h4;grind
   rw[IT (by simpa using h3),IT h3];obtain⟨k,hk0⟩:∃k:Nat,m.source=k:=⟨m.source.toNat,aa⟩;have hk1:k<S.bZ.length:=aa
   have hc1:cell m.pv 0=.int .i64 (k:Int):=by rw[<-hk0];rfl
   rw[hk0,anj,af,AT,ta hk1];refine(bs rfl).trans ?_;refine(bs (a:=if S.bZ[k].recv=Y then S.bZ[k].seq else 0) rfl).trans ?_;try dsimp only
   rw[aG,ab];have e1:O (m.seq<=if S.bZ[k].recv=Y then S.bZ[k].seq else 0)=(S.bZ[k].recv&&O (m.seq<=S.bZ[k].seq)):=ao
   rw[e1];simp only[IN,ayy];by_cases h5:(S.bZ[k].recv&&O (m.seq<=S.bZ[k].seq)||decide (m.cj<=S.now))=Y
   .try dsimp only
    rw[BY h5,BY h5,BY aa];rfl
   .try dsimp only
    rw[IT h5,IT h5,IT aa];have Vl:=QB S m;unfold LS.rest at Vl⊢;refine ME (λj acc=>(S.now,(j:Int),S.pat,S.bZ.map Src.si,S.kept.map bx.pv,(k:Int),m.seq,m.dI,m.cj,m.kind,m.bg,m.day,m.inst,m.call,m.ck,m.bn,m.free,m.calls.map ar.pv,(0:Int),acc,())) S.kept (S.stay m) (λj acc rec hj ha=>?_) (λrec=>?_) (fp aa) rfl
    .unfold vv;dsimp only;rw[BY av,af,AT,ta hj,<-hk0];refine(bs rfl).trans ?_;refine(bs (ali m S.kept[j])).trans ?_;refine(bs rfl).trans ?_;refine(bs (a:=S.stay m S.kept[j]) ?_).trans ?_
     .unfold LS.stay;cases sup m S.kept[j]<;>rfl
     by_cases hc:S.stay m S.kept[j]=Y
     .try dsimp only
      rw[BY hc,BY hc];refine(bs rfl).trans ?_;try dsimp only
      rw[BY (ze _ ah),vc aa];rfl
     .try dsimp only
      rw[IT hc,IT hc,vc aa]
    .unfold vv;dsimp only;rw[IT ae];by_cases hb:(S.kept.filter (S.stay m)).length>=256
     .omega
     .try dsimp only
      rw[IT (show¬O ((((S.kept.filter (S.stay m)).map bx.pv).length:Int)>=256)=Y by grind),IT hb];refine(bs (TU S.bZ aa k hk1 S.now m.seq aln.1)).trans ?_;refine(bs rfl).trans ?_;try dsimp only
      rw[BY (ze _ ah),<-hk0];rw[show(λs=>Ld s S.now m.seq)=(λs:Src=>s.got S.now m.seq)from funext λs=>IT aa];unfold LS.VH;dsimp only;rw[aya];rfl
theorem ail(h:S.Inv n)(i:Int):nd [S.VH,.int .i64 i,.int .i64 S.now]=U (.b8 [(S.EL i).1.VH,.int .i64 (S.EL i).2]):=by
 have aln:=h.now;have OM:=h.bZ;unfold nd xZ LS.EL;iterate 6 refine(bs rfl).trans ?_
 try dsimp only
 rw[aG,ab,te];cases hs:S.MC i with
 |false=>
  unfold LS.MC at hs;try dsimp only
  rw[BY ao,BY rfl];rfl
 |true=>
  unfold LS.MC at hs;try dsimp only
  simp only[T1,tb]at hs;rw[IT ah,IT ae,IT (show¬(S.now<0\/S.now>3155932800) by omega)];have Sv:iP [.int .i64 S.now]=U (.bool (O (S.now>=0)&&O (S.now<=3155932800))):=by unfold iP zf;refine(bs rfl).trans ?_;simp_all
  refine(bs Sv).trans ?_;refine(bs rfl).trans ?_;try dsimp only
  rw[IT ah];obtain⟨k,rfl⟩:∃k:Nat,i=k:=⟨i.toNat,aa⟩;refine(bs (TU S.bZ aa k aa S.now 0 aln.1)).trans ?_;rfl
def LS.si(S:LS):PV:=.agg [.rs 4 (S.N.stops.map Stop.pv),.rs 3 (S.N.ak.map aD.pv),.rs 8 (S.N.runs.map aW.pv),.rs 5 (S.N.aA.map aK.pv),.rs 4 (S.N.paths.map Path.pv),.rs 6 (S.N.aF.map bd.pv),.int .i64 S.N.aZ,.int .i64 S.N.within,.int .i64 S.N.cap,.int .i64 S.pat,.rs 2 (S.bZ.map Src.si),.rs 13 (S.kept.map bx.pv),.int .i64 S.now]
theorem Yb(h:S.Inv n)(hn:n<=100)(hS:jG S)(m:bx)(hm:m.Ok):qy [S.si,m.pv]=U (.b8 [(S.xI m).1.si,.int .i64 (S.xI m).2]):=by
 unfold qy CH;iterate 28 refine(bs rfl).trans ?_
 refine(bs (alm h hn hS m hm)).trans ?_;refine(bs (bt2 _ _)).trans ?_;iterate 2 refine(bs rfl).trans ?_
 have key:(S.xI m).2≠0->(S.xI m).1=S:=by unfold LS.xI;grind
 have Ss:(S.xI m).1.N=S.N/\(S.xI m).1.now=S.now:=by unfold LS.xI;grind
 generalize S.xI m=x at key Ss⊢;obtain⟨y,e⟩:=x;by_cases he:e=0
 .subst he;dsimp only;rw[IT ae];unfold LS.si;rw[Ss.1,Ss.2];rfl
 .have hk:=key he;dsimp only at hk⊢;rw[BY (by simpa using he),hk];rfl
theorem SA(h:S.Inv n)(i:Int):nf [S.si,.int .i64 i]=U (.b8 [(S.EL i).1.si,.int .i64 (S.EL i).2]):=by
 unfold nf yb;iterate 15 refine(bs rfl).trans ?_
 refine(bs (ail h i)).trans ?_;refine(bs (bt2 _ _)).trans ?_;iterate 2 refine(bs rfl).trans ?_
 have key:(S.EL i).2≠0->(S.EL i).1=S:=by unfold LS.EL;grind
 have Ss:(S.EL i).1.N=S.N/\(S.EL i).1.now=S.now:=by unfold LS.EL;grind
 generalize S.EL i=x at key Ss⊢;obtain⟨y,e⟩:=x;by_cases he:e=0
 .subst he;dsimp only;rw[IT ae];unfold LS.si;rw[Ss.1,Ss.2];rfl
 .have hk:=key he;dsimp only at hk⊢;rw[BY (by simpa using he),hk];rfl
theorem Yc(t:Int):qz [S.si,.int .i64 t]=U (.b8 [(S.adv t).1.si,.int .i64 (S.adv t).2]):=by
 unfold qz CI LS.adv;iterate 15 refine(bs rfl).trans ?_
 try dsimp only
 rw[aG,ab];by_cases hc:t<S.now\/t>3155932800
 .try dsimp only
  rw[BY (by simpa using hc),BY hc];rfl
 .try dsimp only
  rw[IT (by simpa using hc),IT hc];rfl
def LS.rpw(S:LS)(w:PV):PV:=.agg [.rs 4 (S.N.stops.map Stop.pv),.rs 3 (S.N.ak.map aD.pv),.rs 8 (S.N.runs.map aW.pv),.rs 5 (S.N.aA.map aK.pv),.rs 4 (S.N.paths.map Path.pv),.rs 6 (S.N.aF.map bd.pv),.int .i64 S.N.aZ,.int .i64 S.N.within,.int .i64 S.N.cap,.int .i64 S.pat,.rs 2 (S.bZ.map Src.si),w,.int .i64 S.now]
theorem aok(h:S.Inv n)(hn:n<=100)(hS:jG S)(o:EM)(hm:o.m.Ok){w:PV}(hw:aJ 13 w=U (S.kept.map bx.pv)):EW [S.rpw w,o.pv]=U (.b8 [(S.step o).1.si,.int .i64 (S.step o).2]):=by
 unfold EW QK LS.step;iterate 12 refine(bs rfl).trans ?_
 refine(bs hw).trans ?_;iterate 17 refine(bs rfl).trans ?_
 have fin:∀(y:LS)(e:Int),((bY 2 (.b8 [y.si,.int .i64 e])).bind λvs=>(Ab.asAgg 13 (vs.getD 0 .bad)).bind λx=>(Ab.asInt .i64 (vs.getD 1 .bad)).bind λn=>U (PV.b8 [.agg [cell (vs.getD 0 .bad) 0,cell (vs.getD 0 .bad) 1,cell (vs.getD 0 .bad) 2,cell (vs.getD 0 .bad) 3,cell (vs.getD 0 .bad) 4,cell (vs.getD 0 .bad) 5,cell (vs.getD 0 .bad) 6,cell (vs.getD 0 .bad) 7,cell (vs.getD 0 .bad) 8,cell (vs.getD 0 .bad) 9,cell (vs.getD 0 .bad) 10,cell (vs.getD 0 .bad) 11,cell (vs.getD 0 .bad) 12],.int .i64 n]))=U (.b8 [y.si,.int .i64 e]):=λy e=>rfl;by_cases h0:o.what=0
 .try dsimp only
  rw[BY (by simp[h0]),BY h0];refine(bs (Yb h hn hS o.m hm)).trans ?_;rfl
 .try dsimp only
  rw[IT (by simpa using h0),IT h0];by_cases h1:o.what=1
  .try dsimp only
   rw[BY (by simp[h1]),BY h1];refine(bs (SA h o.n)).trans ?_;rfl
  .try dsimp only
   rw[IT (by simpa using h1),IT h1];refine(bs (Yc o.n)).trans ?_;rfl
end
section
variable {S:LS} {n:Nat}
theorem aol(BX:_->Option PV)(c d:Int)(m:bx)(out:List bx)(ho:out.length<=500)(cu:List PV):cD.run (jf cD BX) (out.map bx.pv,((out.map bx.pv).length:Int),c,d,.int .i64 m.source,.int .i64 m.seq,.int .i64 m.dI,.int .i64 m.cj,.int .i64 m.kind,.str m.bg,.int .i64 m.day,.int .i64 m.inst,.int .i64 m.call,.int .i64 m.ck,.int .i64 m.bn,.bool m.free,.rs 5 (m.calls.map ar.pv),cu,())=BX ((VD out m).map bx.pv,c,C .i64 (d+1),cu,()):=by
 refine(ah5 (λk=>(out.map bx.pv,k,c,d,.int .i64 m.source,.int .i64 m.seq,.int .i64 m.dI,.int .i64 m.cj,.int .i64 m.kind,.str m.bg,.int .i64 m.day,.int .i64 m.inst,.int .i64 m.call,.int .i64 m.ck,.int .i64 m.bn,.bool m.free,.rs 5 (m.calls.map ar.pv),cu,())) out m (λk=>if k<=out.length then BX ((out.take k++[m]++out.drop k).map bx.pv,c,C .i64 (d+1),cu,())else Z) (λrec=>?_) (λk rec hk=>?_) (fp aa) ae).trans ?_
 .unfold jf;dsimp only;refine(bs (a:=J) rfl).trans ?_;try dsimp only
  rw[IT ae,BY (aAk _)];exact adn out m 0 (aAk _) ho (λx=>BX (x,c,C .i64 (d+1),cu,()))
 .unfold jf;dsimp only;have hw:C .i64 (((k+1:Nat):Int)-1)=(k:Int):=sH
  rw[hw];refine(bs (a:=Iz m out[k]) ?_).trans ?_
  .try dsimp only
   rw[az1 (show((k+1:Nat):Int)>0 by omega)];refine(vb rfl).trans ?_;try dsimp only
   rw[af,AT,ta hk];refine(bs rfl).trans ?_;refine(bs (ah3 m out[k])).trans ?_;rfl
  by_cases hb:Iz m out[k]=Y
  .simp_all
  .rw[IT hb,IT hb,BY (aa:k+1<=out.length)];exact adn out m (k+1) hk ho (λx=>BX (x,c,C .i64 (d+1),cu,()))
 .try dsimp only
  rw[BY (alj out m out.length)];rfl
theorem aom(BX:_->Option PV)(c d:Int)(m:bx)(cu out:List bx)(ho:out.length<=500)(hc:cu.length<=500):cD.run (jg cD BX) (out.map bx.pv,J,c,d,((cu.map bx.pv).length:Int),0,cu.map bx.pv,.int .i64 m.source,.int .i64 m.seq,.int .i64 m.dI,.int .i64 m.cj,.int .i64 m.kind,.str m.bg,.int .i64 m.day,.int .i64 m.inst,.int .i64 m.call,.int .i64 m.ck,.int .i64 m.bn,.bool m.free,.rs 5 (m.calls.map ar.pv),())=BX ((aa1 cu out m).map bx.pv,c,C .i64 (d+1),cu.map bx.pv,()):=by
 refine ae8 (λb k=>(out.map bx.pv,b,c,d,((cu.map bx.pv).length:Int),(k:Int),cu.map bx.pv,.int .i64 m.source,.int .i64 m.seq,.int .i64 m.dI,.int .i64 m.cj,.int .i64 m.kind,.str m.bg,.int .i64 m.day,.int .i64 m.inst,.int .i64 m.call,.int .i64 m.ck,.int .i64 m.bn,.bool m.free,.rs 5 (m.calls.map ar.pv),())) cu m (λk b rec hk=>?_) (λrec=>?_) (fp aa) rfl
 .unfold jg;dsimp only;rw[BY av,BY (show aU (k:Int) (cu.map bx.pv).length from⟨aa,av⟩),anj,AT,ta hk];refine(bs rfl).trans ?_;refine(bs (a:=b||(O (cu[k].source<m.source)&&sf cu[k] m)) ?_).trans ?_
  .cases b with
   |true=>rfl
   |false=>
    rw[aoi,azY];iterate 2 refine(bs rfl).trans ?_
    refine(bs (a:=O (cu[k].source<m.source)&&sf cu[k] m) ?_).trans ?_
    .cases O (cu[k].source<m.source)with
     |false=>rfl
     |true=>refine(vb rfl).trans ?_;refine(bs (QD cu[k] m)).trans ?_;rfl
    rfl
  rw[vc aa]
 .unfold jg;dsimp only;rw[IT ae];unfold aa1;by_cases hb:BU cu m=Y
  .simp_all
  .rw[BY (by simpa using hb),IT hb];grind [aol,bx.pv]
theorem aim(h:S.Inv n)(hn:n<=100)(t:Int):gz [S.box,.int .i64 t]=U (.rs 13 ((S.act t).map bx.pv)):=by
 have hk:=h.kept;have vR:(S.cur t).length<=S.kept.length:=ayN _ _;unfold gz ry;refine(Z6 rfl ae).trans ?_;iterate 4 refine(bs rfl).trans ?_
 have hbx:PV.agg [.rs 4 (S.bZ.map Src.pv),.int .i64 S.pat,.rs 13 (S.kept.map bx.pv)]=.agg [.rs 4 (S.bZ.map Src.pv),.int .i64 S.pat,.rs 13 (S.kept.map bx.pv)]:=rfl;refine ME (λk acc=>(S.kept.map bx.pv,((S.kept.map bx.pv).length:Int),(k:Int),t,.agg [.rs 4 (S.bZ.map Src.pv),.int .i64 S.pat,.rs 13 (S.kept.map bx.pv)],acc,())) S.kept (S.CB t) (λk acc rec Sc ha=>?_) (λrec=>?_) (fp aa) rfl
 .unfold mS;dsimp only;rw[BY av,af,AT,ta Sc];refine(bs rfl).trans ?_;refine(bs rfl).trans ?_;refine(bs (alg _ _)).trans ?_;refine(bs (aid S _ _)).trans ?_;by_cases hc:S.CB t S.kept[k]=Y
  .try dsimp only
   rw[BY hc,BY hc];refine(bs (bA 5 _)).trans ?_;have hm:=(h.msg _ (alx Sc)).2.1;rw[BY (aa3 _ ah),BY (ze _ ah),vc aa];rfl
  .try dsimp only
   rw[IT hc,IT hc,vc aa];rfl
 .unfold mS;dsimp only;rw[IT ae];show cD.run (jh cD) ([],(((S.cur t).map bx.pv).length:Int),0,(S.cur t).map bx.pv,())=_;refine ah6 (λout k=>(out,(((S.cur t).map bx.pv).length:Int),(k:Int),(S.cur t).map bx.pv,())) (S.cur t) (λk out rec Sc ho=>?_) (λrec=>?_) (fp aa) rfl
  .unfold jh;dsimp only;rw[BY av,BY (show aU (k:Int) ((S.cur t).map bx.pv).length from⟨aa,av⟩),anj,AT,ta Sc];refine(bs rfl).trans ?_;refine(aom rec _ _ (S.cur t)[k] (S.cur t) out aa aa).trans ?_;rw[vc aa]
  .unfold jh;dsimp only;rw[IT ae];rfl
def LS.ppv(S:LS):PV:=.rp [S.box,.int .i64 (S.bZ.length:Int),.rs 4 (S.N.stops.map Stop.pv),.rs 3 (S.N.ak.map aD.pv),.rs 8 (S.N.runs.map aW.pv),.rs 5 (S.N.aA.map aK.pv),.rs 4 (S.N.paths.map Path.pv),.rs 6 (S.N.aF.map bd.pv),.int .i64 S.N.aZ,.int .i64 S.N.within,.int .i64 S.N.cap,.int .i64 S.now]
theorem Le(h:S.Inv n)(hn:n<=100)(hB:bI S.N):fq [S.ppv]=U (S.net S.now).pv:=by
 unfold fq tn;refine(Z6 rfl ae).trans ?_;refine(Z6 (cs:=[.rs 4 (S.bZ.map Src.pv),.int .i64 S.pat,.rs 13 (S.kept.map bx.pv)]) rfl ae).trans ?_;iterate 11 refine(bs rfl).trans ?_
 refine(bs (aim h hn S.now)).trans ?_;refine(bs rfl).trans ?_;refine(bs (alf h hn hB S.now)).trans ?_;rfl
theorem Yd(h:S.Inv n)(hn:n<=100)(hS:jG S)(hB:bI S.N):qA [S.si]=U (S.net S.now).pv:=by
 have⟨h1,h2⟩:=aa2 h S.now;have hk:=h.kept;unfold qA CJ;iterate 14 refine(bs rfl).trans ?_
 refine(bs (alk hS aa S.now)).trans ?_;refine(bs rfl).trans ?_;refine(bs (alo S.N (S.act S.now) hB.lim hB.val aa (λm hm=>(h2 m hm).1) (λm hm=>ao))).trans ?_;rfl
theorem QL(hB:bI S.N):jj [S.ppv]=U S.N.pv:=by
 unfold jj pD;refine(Z6 rfl ae).trans ?_;refine(Z6 (cs:=[.rs 4 (S.bZ.map Src.pv),.int .i64 S.pat,.rs 13 (S.kept.map bx.pv)]) rfl ae).trans ?_;iterate 11 refine(bs rfl).trans ?_
 refine(bs (QM S.N hB.few)).trans ?_;rfl
theorem ain(S:LS):ye [S.ppv]=U (.int .i64 S.now):=rfl
def LS.chd(S:LS):List Nat:=MF S.N (S.net S.now) (mx S.N (S.net S.now))
theorem O2{N:aB}(h:W5 N):N.runs.length<=3000/\∀x∈N.runs,x.calls.length<=maxLen:=by
 have Sw:1000<=maxLen:=bj
 exact⟨by have:=h.runs;omega,λr hr=>by have:=h.calls r hr;omega⟩
theorem VJ(h:S.Inv n)(hn:n<=100)(hB:bI S.N):kD [S.ppv]=U (.rs 1 (S.chd.map Aq)):=by
 have⟨nl,nv⟩:=aib h hB S.now;unfold kD tt;refine(Z6 rfl ae).trans ?_;refine(Z6 (cs:=[.rs 4 (S.bZ.map Src.pv),.int .i64 S.pat,.rs 13 (S.kept.map bx.pv)]) rfl ae).trans ?_;iterate 11 refine(bs rfl).trans ?_
 refine(bs (Le h hn hB)).trans ?_;refine(bs rfl).trans ?_;refine(bs (VG S.N (S.net S.now) (O2 hB.lim) (O2 nl).1)).trans ?_;rfl
def LS.fld(S:LS)(k:Nat):List Nat:=(I k).filter λi=>S.GQ (i:Int) S.now
theorem Ye(k:Nat):S.fld (k+1)=if S.GQ (k:Int) S.now=Y then S.fld k++[k]else S.fld k:=by grind [LS.fld,List.range_succ]
theorem VK(k:Nat):(S.fld k).length<=k:=by grind [LS.fld,Nat.le_trans,List.length_filter_le]
theorem Yf(h:S.Inv n):l7 [S.ppv]=U (.rs 1 ((S.fld S.bZ.length).map Aq)):=by
 have hs:=h.bZ;unfold l7 vw;refine(Z6 rfl ae).trans ?_;refine(Z6 (cs:=[.rs 4 (S.bZ.map Src.pv),.int .i64 S.pat,.rs 13 (S.kept.map bx.pv)]) rfl ae).trans ?_;iterate 11 refine(bs rfl).trans ?_
 refine aM (λk=>(.agg [S.box,.int .i64 (S.bZ.length:Int),.rs 4 (S.N.stops.map Stop.pv),.rs 3 (S.N.ak.map aD.pv),.rs 8 (S.N.runs.map aW.pv),.rs 5 (S.N.aA.map aK.pv),.rs 4 (S.N.paths.map Path.pv),.rs 6 (S.N.aF.map bd.pv),.int .i64 S.N.aZ,.int .i64 S.N.within,.int .i64 S.N.cap,.int .i64 S.now],(S.bZ.length:Int),(k:Int),(S.fld k).map Aq,())) S.bZ.length (λk hk rec=>?_) (λrec=>?_) (fp aa) rfl
 .have OP:=VK (S:=S) k;unfold kE;dsimp only;rw[BY av];refine(Z6 (cs:=[.rs 4 (S.bZ.map Src.pv),.int .i64 S.pat,.rs 13 (S.kept.map bx.pv)]) rfl ae).trans ?_;refine(bs (a:=S.now) rfl).trans ?_;refine(bs (N4 S k S.now)).trans ?_;refine(bs rfl).trans ?_;try dsimp only
  rw[Ye,vc (aa:k<10000)];by_cases hf:S.GQ (k:Int) S.now=Y
  .try dsimp only
   rw[BY hf,BY hf,BY (N5 _ ah _),aya];rfl
  .try dsimp only
   rw[IT hf,IT hf];rfl
 simp[kE,IT]
theorem aa9(h:S.Inv n)(hS:jG S):tu [S.si]=U (.rs 1 ((S.fld S.bZ.length).map Aq)):=by
 have hs:=h.bZ;unfold tu EX;iterate 14 refine(bs rfl).trans ?_
 refine aM (λk=>((k:Int),S.N.stops.map Stop.pv,S.N.ak.map aD.pv,S.N.runs.map aW.pv,S.N.aA.map aK.pv,S.N.paths.map Path.pv,S.N.aF.map bd.pv,S.N.aZ,S.N.within,S.N.cap,S.pat,S.bZ.map Src.si,S.kept.map bx.pv,S.now,(S.fld k).map Aq,())) S.bZ.length (λk hk rec=>?_) (λrec=>?_) (fp aa) rfl
 .have OP:=VK (S:=S) k;unfold yf;dsimp only;rw[BY av];refine(bs (QJ hS k S.now)).trans ?_;refine(bs rfl).trans ?_;try dsimp only
  rw[Ye,vc (aa:k<10000)];by_cases hf:S.GQ (k:Int) S.now=Y
  .try dsimp only
   rw[BY hf,BY hf,BY (N5 _ ah _),aya];rfl
  simp_all
 simp[yf,IT]
theorem TV(l:List Nat)(hl:l.length<=10000):lh [.rs 1 (l.map Aq),.rs 1 (l.map Aq)]=U (.bool Y):=by
 simp only[lh,As,bAS,ab];rw[IT ae];refine aM (λk=>(l.map Aq,l.map Aq,(k:Int),())) l.length (λk hk rec=>?_) (λrec=>?_) (fp hl) rfl
 .unfold tv;dsimp only;rw[BY av,af,AT,ta hk];iterate 4 refine(bs rfl).trans ?_
  try dsimp only
  rw[IT ae,ag (aa:k<9223372036854775807)]
 simp[tv,IT]
theorem aff(h:S.Inv n)(hn:n<=100)(hS:jG S)(hB:bI S.N):jO [S.ppv,S.si]=U (.bool Y):=by
 have⟨nl,nv⟩:=aib h hB S.now;have e1:=TW S.N S.N hB.lim.ok;rw[Yg]at e1;have e2:=TW (S.net S.now) (S.net S.now) nl.ok;rw[Yg]at e2;have hch:=X8 S.N (S.net S.now) (O2 hB.lim) (O2 nl).1;have vR:S.chd.length<=3000:=by have h1:=QF S.N (S.net S.now) (mx S.N (S.net S.now));have h2:=hB.lim.runs;have h3:=nl.runs;grind [LS.chd,mx]
 have OP:=VK (S:=S) S.bZ.length;have hs:=h.bZ;unfold jO JW;refine(Z6 rfl ae).trans ?_;refine(Z6 (cs:=[.rs 4 (S.bZ.map Src.pv),.int .i64 S.pat,.rs 13 (S.kept.map bx.pv)]) rfl ae).trans ?_;iterate 25 refine(bs rfl).trans ?_
 refine(bs (Yd h hn hS hB)).trans ?_;refine(bs rfl).trans ?_;refine(bs (ain S)).trans ?_;refine(bs rfl).trans ?_;refine(bs (a:=Y) ((vb ae).trans ?_)).trans ?_
 .refine(bs (QL hB)).trans ?_;refine(bs rfl).trans ?_;refine(bs e1).trans ?_;rfl
 refine(bs (a:=Y) ((vb rfl).trans ?_)).trans ?_
 .refine(bs (Le h hn hB)).trans ?_;refine(bs rfl).trans ?_;refine(bs e2).trans ?_;rfl
 refine(bs (a:=Y) ((vb rfl).trans ?_)).trans ?_
 .refine(bs (VJ h hn hB)).trans ?_;refine(bs (bAS 1 _)).trans ?_;refine(bs hch).trans ?_;refine(bs (bAS 1 _)).trans ?_;refine(bs (TV S.chd aa)).trans ?_;rfl
 refine(bs (a:=Y) ((vb rfl).trans ?_)).trans ?_
 .refine(bs (Yf h)).trans ?_;refine(bs (bAS 1 _)).trans ?_;refine(bs (aa9 h hS)).trans ?_;refine(bs (bAS 1 _)).trans ?_;refine(bs (TV _ aa)).trans ?_;rfl
 rfl
end
section
variable {S:LS} {n:Nat}
theorem Yh(S:LS)(o:EM):(S.step o).1.bZ.length=S.bZ.length:=by
 unfold LS.step LS.xI LS.EL LS.adv
 (repeat' split);all_goals first|rfl|exact QC _ _ _
theorem adu(h:S.Inv n)(hn:n<=100)(hS:jG S)(hB:bI S.N)(e:Int)(r:Option PV):(if(e !=e)=Y then U (PV.bool J)else(jO [S.ppv,S.si]).bind λx=>(Ab.asBool x).bind λb=>if(!b)=Y then U (.bool J)else r)=r:=by rw[IT ae];refine(bs (aff h hn hS hB)).trans ?_;rfl
def stL(ops:List EM)(k:Nat)(S:LS)(w:PV):=(ops.map EM.pv,(k:Int),(S.bZ.length:Int),PV.rs 4 (S.N.stops.map Stop.pv),PV.rs 3 (S.N.ak.map aD.pv),PV.rs 8 (S.N.runs.map aW.pv),PV.rs 5 (S.N.aA.map aK.pv),PV.rs 4 (S.N.paths.map Path.pv),PV.rs 6 (S.N.aF.map bd.pv),PV.int .i64 S.N.aZ,PV.int .i64 S.N.within,PV.int .i64 S.N.cap,S.now,PV.rs 4 (S.N.stops.map Stop.pv),PV.rs 3 (S.N.ak.map aD.pv),PV.rs 8 (S.N.runs.map aW.pv),PV.rs 5 (S.N.aA.map aK.pv),PV.rs 4 (S.N.paths.map Path.pv),PV.rs 6 (S.N.aF.map bd.pv),PV.int .i64 S.N.aZ,PV.int .i64 S.N.within,PV.int .i64 S.N.cap,PV.int .i64 S.pat,PV.rs 2 (S.bZ.map Src.si),w,PV.int .i64 S.now,S.pat,S.kept.map bx.pv,S.bZ.map Src.pv,())
theorem aio(h:S.Inv n)(hn:n<=50)(hS:jG S)(hB:bI S.N)(ops:List EM)(k:Nat)(hk0:k<100)(o:EM)(ho:o.m.Ok/\o.m.calls.length<=40)(hw:o.what=0)(hr:S.MD o.m=0)(y1 y2 y3 y4 y5 y6 y7 y8 y9 y10 y11 y12 y13:PV)(FU:_->Option PV):cD.run (l8 cD FU) (S.kept.map bx.pv,((S.kept.map bx.pv).length:Int),0,ops.map EM.pv,(k:Int),(S.xI o.m).2,cell o.pv 1,cell o.pv 2,cell o.pv 3,cell o.pv 4,cell o.pv 5,cell o.pv 6,cell o.pv 7,cell o.pv 8,cell o.pv 9,cell o.pv 10,cell o.pv 11,cell o.pv 12,cell o.pv 13,S.now,[],S.pat,S.kept.map bx.pv,(S.bZ.length:Int),PV.rs 4 (S.N.stops.map Stop.pv),PV.rs 3 (S.N.ak.map aD.pv),PV.rs 8 (S.N.runs.map aW.pv),PV.rs 5 (S.N.aA.map aK.pv),PV.rs 4 (S.N.paths.map Path.pv),PV.rs 6 (S.N.aF.map bd.pv),PV.int .i64 S.N.aZ,PV.int .i64 S.N.within,PV.int .i64 S.N.cap,S.now,y1,y2,y3,y4,y5,y6,y7,y8,y9,y10,y11,y12,y13,cell (S.xI o.m).1.si 0,cell (S.xI o.m).1.si 1,cell (S.xI o.m).1.si 2,cell (S.xI o.m).1.si 3,cell (S.xI o.m).1.si 4,cell (S.xI o.m).1.si 5,cell (S.xI o.m).1.si 6,cell (S.xI o.m).1.si 7,cell (S.xI o.m).1.si 8,cell (S.xI o.m).1.si 9,cell (S.xI o.m).1.si 10,cell (S.xI o.m).1.si 11,cell (S.xI o.m).1.si 12,S.bZ.map Src.pv,())=FU (stL ops (k+1) (S.xI o.m).1 (.rs 13 ((S.xI o.m).1.kept.map bx.pv))):=by
 have hk:=h.kept;have⟨hm0,hs2,_⟩:=adj hr;have hs1:0<=o.m.source:=by unfold dY wi at hm0;grind
 have Vl:=QB S o.m;have fL:S.step o=S.xI o.m:=by unfold LS.step;rw[BY hw]
 have⟨i1,i2,i3⟩:=GR h o ho;have i4:=VI h hS o;have i5:=Yh S o;rw[fL]at i1 i2 i3 i4 i5;refine ME (λj acc=>(S.kept.map bx.pv,((S.kept.map bx.pv).length:Int),(j:Int),ops.map EM.pv,(k:Int),(S.xI o.m).2,cell o.pv 1,cell o.pv 2,cell o.pv 3,cell o.pv 4,cell o.pv 5,cell o.pv 6,cell o.pv 7,cell o.pv 8,cell o.pv 9,cell o.pv 10,cell o.pv 11,cell o.pv 12,cell o.pv 13,S.now,acc,S.pat,S.kept.map bx.pv,(S.bZ.length:Int),PV.rs 4 (S.N.stops.map Stop.pv),PV.rs 3 (S.N.ak.map aD.pv),PV.rs 8 (S.N.runs.map aW.pv),PV.rs 5 (S.N.aA.map aK.pv),PV.rs 4 (S.N.paths.map Path.pv),PV.rs 6 (S.N.aF.map bd.pv),PV.int .i64 S.N.aZ,PV.int .i64 S.N.within,PV.int .i64 S.N.cap,S.now,y1,y2,y3,y4,y5,y6,y7,y8,y9,y10,y11,y12,y13,cell (S.xI o.m).1.si 0,cell (S.xI o.m).1.si 1,cell (S.xI o.m).1.si 2,cell (S.xI o.m).1.si 3,cell (S.xI o.m).1.si 4,cell (S.xI o.m).1.si 5,cell (S.xI o.m).1.si 6,cell (S.xI o.m).1.si 7,cell (S.xI o.m).1.si 8,cell (S.xI o.m).1.si 9,cell (S.xI o.m).1.si 10,cell (S.xI o.m).1.si 11,cell (S.xI o.m).1.si 12,S.bZ.map Src.pv,())) S.kept (S.stay o.m) (λj acc rec hj ha=>?_) (λrec=>?_) (fp aa) rfl
 .unfold l8;dsimp only;rw[BY av,af,AT,ta hj];refine(bs rfl).trans ?_;refine(bs (ah2 o.m S.kept[j])).trans ?_;refine(bs rfl).trans ?_;refine(bs (a:=S.stay o.m S.kept[j]) ?_).trans ?_
  .unfold LS.stay;cases sup o.m S.kept[j]<;>rfl
  by_cases hc:S.stay o.m S.kept[j]=Y
  .try dsimp only
   rw[BY hc,BY hc];refine(bs (bA 5 _)).trans ?_;have hm:=(h.msg _ (alx hj)).2.1;rw[BY (aa3 _ ah),BY (ze _ ah),vc aa];rfl
  .try dsimp only
   rw[IT hc,IT hc,vc aa]
 .unfold l8;dsimp only;rw[IT ae];have hT:=λr=>adu i1 aa i4 (by rw[i2];omega) (S.xI o.m).2 r;have Jm:S.xI o.m=if(S.rest o.m).length>=256 then(S,5)else({S with kept:=S.rest o.m++[o.m],bZ:=CC S.bZ o.m.source.toNat λs=>s.got S.now o.m.seq},0):=by simp_all[LS.xI,IT]
  unfold LS.rest at Vl Jm;by_cases hb:(S.kept.filter (S.stay o.m)).length>=256
  .omega
  .try dsimp only
   rw[IT hb]at Jm;rw[Jm]at hT i5⊢;rw[IT (show¬O ((((S.kept.filter (S.stay o.m)).map bx.pv).length:Int)>=256)=Y by grind)];refine(bs (bA 5 _)).trans ?_;try dsimp only
   rw[BY (aa3 _ ah),BY (ze _ ah)];refine(bs (a:=o.m.source) rfl).trans ?_;obtain⟨i,hi⟩:∃i:Nat,o.m.source=i:=⟨o.m.source.toNat,aa⟩;rw[hi]at hT i5⊢;rw[BY (show aU (i:Int) (S.bZ.map Src.pv).length from⟨aa,av⟩),anj];rw[anj]at hT i5;have hkp:(S.kept.filter (S.stay o.m)).map bx.pv++[o.m.pv]=((S.kept.filter (S.stay o.m))++[o.m]).map bx.pv:=ae
   refine(ah8 S.bZ i aa S.now o.m.seq (cell o.pv 2) rfl (λx=>if((0:Int) !=0)=Y then U (.bool J)else(jO [.rp [.rp [.rs 4 x,.int .i64 S.pat,.rs 13 ((S.kept.filter (S.stay o.m)).map bx.pv++[o.m.pv])],.int .i64 (S.bZ.length:Int),.rs 4 (S.N.stops.map Stop.pv),.rs 3 (S.N.ak.map aD.pv),.rs 8 (S.N.runs.map aW.pv),.rs 5 (S.N.aA.map aK.pv),.rs 4 (S.N.paths.map Path.pv),.rs 6 (S.N.aF.map bd.pv),.int .i64 S.N.aZ,.int .i64 S.N.within,.int .i64 S.N.cap,.int .i64 S.now],LS.si {S with kept:=S.kept.filter (S.stay o.m)++[o.m],bZ:=CC S.bZ i λs=>s.got S.now o.m.seq}]).bind λr=>(Ab.asBool r).bind λb=>if(!b)=Y then U (.bool J)else FU (ops.map EM.pv,C .i64 ((k:Int)+1),(S.bZ.length:Int),PV.rs 4 (S.N.stops.map Stop.pv),PV.rs 3 (S.N.ak.map aD.pv),PV.rs 8 (S.N.runs.map aW.pv),PV.rs 5 (S.N.aA.map aK.pv),PV.rs 4 (S.N.paths.map Path.pv),PV.rs 6 (S.N.aF.map bd.pv),PV.int .i64 S.N.aZ,PV.int .i64 S.N.within,PV.int .i64 S.N.cap,S.now,PV.rs 4 (S.N.stops.map Stop.pv),PV.rs 3 (S.N.ak.map aD.pv),PV.rs 8 (S.N.runs.map aW.pv),PV.rs 5 (S.N.aA.map aK.pv),PV.rs 4 (S.N.paths.map Path.pv),PV.rs 6 (S.N.aF.map bd.pv),PV.int .i64 S.N.aZ,PV.int .i64 S.N.within,PV.int .i64 S.N.cap,PV.int .i64 S.pat,PV.rs 2 ((CC S.bZ i λs=>s.got S.now o.m.seq).map Src.si),PV.rs 13 ((S.kept.filter (S.stay o.m)++[o.m]).map bx.pv),PV.int .i64 S.now,S.pat,(S.kept.filter (S.stay o.m)).map bx.pv++[o.m.pv],x,()))).trans ?_;rw[vc aa,hkp,<-i5];exact hT _
end
section
variable {S:LS} {n:Nat}
theorem aba(h:S.Inv n)(hn:n<=50)(hS:jG S)(hB:bI S.N)(ops:List EM)(k:Nat)(hk:k<ops.length)(hl:ops.length<=30)(ho:∀o∈ops,o.m.Ok/\o.m.calls.length<=40)(FU:_->Option PV){w:PV}(hw:aJ 13 w=U (S.kept.map bx.pv)):iQ cD (stL ops k S w) FU=FU (stL ops (k+1) (S.step ops[k]).1 (.rs 13 ((S.step ops[k]).1.kept.map bx.pv))):=by
 have hoo:=ho _ (alx hk);obtain⟨hm,hc⟩:=hoo;have aln:=h.now;have i1:=(GR h ops[k] ⟨hm,hc⟩).1;have i2:=(GR h ops[k] ⟨hm,hc⟩).2.1;have i4:=VI h hS ops[k];have i5:=Yh S ops[k];have hD:=aok h aa hS ops[k] hm hw;have hT:=λr=>adu i1 aa i4 (by rw[i2];omega) (S.step ops[k]).2 r;unfold stL iQ;dsimp only;rw[BY av,af,AT,ta hk,vc (aa:k<10000)];refine(bs rfl).trans ?_;refine(bs hD).trans ?_;refine(bs (bt2 _ _)).trans ?_;refine(bs rfl).trans ?_;refine(bs (a:=(S.step ops[k]).2) rfl).trans ?_;refine(bs rfl).trans ?_;refine(bs (a:=ops[k].what) rfl).trans ?_;by_cases h0:ops[k].what=0
 .have fL:S.step ops[k]=S.xI ops[k].m:=by unfold LS.step;rw[BY h0]
  rw[BY (show(ops[k].what==0)=Y by simp[h0])];refine(bs (ah4 S ops[k].m hm)).trans ?_;refine(bs rfl).trans ?_;by_cases hr:S.MD ops[k].m=0
  .try dsimp only
   rw[IT (show¬(S.MD ops[k].m !=0)=Y by simp[hr]),fL];exact aio h hn hS hB ops k aa ops[k] ⟨hm,hc⟩ h0 hr _ _ _ _ _ _ _ _ _ _ _ _ _ FU
  .have Jm:S.step ops[k]=(S,S.MD ops[k].m):=by simp_all[LS.xI,BY]
   rw[BY (show(S.MD ops[k].m !=0)=Y by simpa using hr)];rw[Jm]at hT⊢;exact hT _
 .try dsimp only
  rw[IT (show¬(ops[k].what==0)=Y by simpa using h0)];by_cases h1:ops[k].what=1
  .have fL:S.step ops[k]=S.EL ops[k].n:=by simp_all[LS.step,IT,BY]
   rw[BY (show(ops[k].what==1)=Y by simp[h1])];refine(bs (a:=ops[k].n) rfl).trans ?_;refine(bs (N3 S ops[k].n)).trans ?_;refine(bs rfl).trans ?_;cases hs:S.MC ops[k].n with
   |false=>
    have Jm:S.step ops[k]=(S,36):=by simp_all[LS.EL,BY]
    rw[BY (show(!false)=Y by rfl)];rw[Jm]at hT⊢;exact hT _
   |true=>
    have Jm:S.step ops[k]=({S with bZ:=CC S.bZ ops[k].n.toNat λs=>s.GP S.now},0):=by simp_all[LS.EL,IT]
    rw[IT (show¬(!true)=Y by simp),aG,ab,IT (show¬(O (S.now<0)||decide (S.now>3155932800))=Y by simp;omega)];unfold LS.MC at hs;try dsimp only
    simp only[T1,tb]at hs;obtain⟨i,hi⟩:∃i:Nat,ops[k].n=i:=⟨ops[k].n.toNat,aa⟩;rw[hi,anj]at Jm;rw[hi,BY (show aU (i:Int) (S.bZ.map Src.pv).length from⟨aa,av⟩),anj];rw[Jm]at hT i5⊢;refine(ae9 S.bZ i aa S.now (λx=>if((0:Int) !=0)=Y then U (.bool J)else(jO [.rp [.rp [.rs 4 x,.int .i64 S.pat,.rs 13 (S.kept.map bx.pv)],.int .i64 (S.bZ.length:Int),.rs 4 (S.N.stops.map Stop.pv),.rs 3 (S.N.ak.map aD.pv),.rs 8 (S.N.runs.map aW.pv),.rs 5 (S.N.aA.map aK.pv),.rs 4 (S.N.paths.map Path.pv),.rs 6 (S.N.aF.map bd.pv),.int .i64 S.N.aZ,.int .i64 S.N.within,.int .i64 S.N.cap,.int .i64 S.now],LS.si {S with bZ:=CC S.bZ i λs=>s.GP S.now}]).bind λr=>(Ab.asBool r).bind λb=>if(!b)=Y then U (.bool J)else FU (ops.map EM.pv,((k+1:Nat):Int),(S.bZ.length:Int),PV.rs 4 (S.N.stops.map Stop.pv),PV.rs 3 (S.N.ak.map aD.pv),PV.rs 8 (S.N.runs.map aW.pv),PV.rs 5 (S.N.aA.map aK.pv),PV.rs 4 (S.N.paths.map Path.pv),PV.rs 6 (S.N.aF.map bd.pv),PV.int .i64 S.N.aZ,PV.int .i64 S.N.within,PV.int .i64 S.N.cap,S.now,PV.rs 4 (S.N.stops.map Stop.pv),PV.rs 3 (S.N.ak.map aD.pv),PV.rs 8 (S.N.runs.map aW.pv),PV.rs 5 (S.N.aA.map aK.pv),PV.rs 4 (S.N.paths.map Path.pv),PV.rs 6 (S.N.aF.map bd.pv),PV.int .i64 S.N.aZ,PV.int .i64 S.N.within,PV.int .i64 S.N.cap,PV.int .i64 S.pat,PV.rs 2 ((CC S.bZ i λs=>s.GP S.now).map Src.si),PV.rs 13 (S.kept.map bx.pv),PV.int .i64 S.now,S.pat,S.kept.map bx.pv,x,()))).trans ?_;rw[<-i5];exact hT _
  .have fL:S.step ops[k]=S.adv ops[k].n:=by simp_all[LS.step,IT]
   rw[IT (show¬(ops[k].what==1)=Y by simpa using h1)];refine(bs (a:=ops[k].n) rfl).trans ?_;try dsimp only
   rw[aG,ab];by_cases ha:ops[k].n<S.now\/ops[k].n>3155932800
   .have Jm:S.step ops[k]=(S,10):=by simp_all[LS.adv,BY]
    rw[BY (show(O (ops[k].n<S.now)||decide (ops[k].n>3155932800))=Y by simpa using ha)];rw[Jm]at hT⊢;exact hT _
   .have Jm:S.step ops[k]=({S with now:=ops[k].n},0):=by simp_all[LS.adv,IT]
    rw[IT (show¬(O (ops[k].n<S.now)||decide (ops[k].n>3155932800))=Y by simpa using ha)];rw[Jm]at hT⊢;exact hT _
end
theorem afg:∀(l:List EM){S:LS}{n:Nat},S.Inv n->jG S->(∀o∈l,o.m.Ok/\o.m.calls.length<=40)->jG (S.VE l):=by
 intro l;induction l with
 |nil=>intro S n _ hS _;exact hS
 |cons o l ih=>intro S n h hS ho;exact ih (GR h o (ho o ae)).1 (VI h hS o) (λx hx=>ho x (by simp[hx]))
theorem afh{N:aB}(hB:bI N)(s:Nat)(hs:s<=8)(p:Int)(ops:List EM)(hl:ops.length<=30)(ho:∀o∈ops,o.m.Ok/\o.m.calls.length<=40):cD.run (iQ cD) (stL ops 0 (GS N s p) (.rs 0 []))=U (.bool Y):=by
 have hS0:jG (GS N s p):=by intro x hx he;obtain⟨_,rfl⟩:=List.mem_replicate.1 hx;decide
 refine aM (λk=>stL ops k ((GS N s p).VE (ops.take k)) (if k=0 then .rs 0 []else .rs 13 (((GS N s p).VE (ops.take k)).kept.map bx.pv))) ops.length (λk hk rec=>?_) (λrec=>?_) (fp aa) rfl
 .have ho':∀o∈ops.take k,o.m.Ok/\o.m.calls.length<=40:=λo h=>ho o (ay8 h);have⟨h1,h2,h3⟩:=ah0 (ops.take k) (TR N s p hs) ho';have h4:=afg (ops.take k) (TR N s p hs) hS0 ho';rw[aba h1 ah h4 (by rw[h2];exact hB) ops k hk hl ho rec (by
   cases k with
   |zero=>rfl
   |succ k=>rfl),<-ae6 _ _ _ hk,IT (show¬k+1=0 by omega)]
 .unfold stL iQ;dsimp only;rw[IT ae];rfl
theorem Yi(T:aw)(hT:ru T)(gW:T.Ok)(a b:Int):∃(e:Int)(N:aB),jz [T.pv,.int .i64 a,.int .i64 b]=U (.b8 [if e=0 then N.pv else noN,.int .i64 e])/\kg [T.pv,.int .i64 a,.int .i64 b]=U (.b8 [if e=0 then N.pv else noN,.int .i64 e])/\(e=0->bI N):=by
 have⟨e,N,h1,h2,h3⟩:=abb T hT gW a b;refine⟨e,N,h1,h2,λhe=>?_⟩;have⟨k1,k2,k3,k4,k5,k6,k7⟩:=h3 he;have hv:(dZ N).2.2=0:=by rw[k3]
 have⟨v1,v2,v3,v4,v5,v6⟩:=(sj N).1 hv;have kh:=DX v1;refine⟨⟨k1,aa,?_,k5,k6,k4,?_,λr hr=>by have:=k7 r hr;omega⟩,k2,hv⟩
 .unfold eC at v2;grind
 .unfold du at v6;grind
theorem afi(T:aw)(gW:T.Ok)(a b s p:Int)(ops:List EM)(ho:∀o∈ops,o.m.Ok):tw [sPV T a b s p,.rs 15 (ops.map EM.pv)]=U (.bool Y):=by
 have⟨c,hc,hf⟩:=afb T a b s p ops;show qB cD (sPV T a b s p) (.rs 15 (ops.map EM.pv))=_;unfold qB;iterate 18 refine(bs rfl).trans ?_
 refine(bs (bA 15 _)).trans ?_;refine(bs hc).trans ?_;refine(bs rfl).trans ?_;cases c with
 |true=>rfl
 |false=>
  have⟨f1,f2,f3⟩:=hf rfl;try dsimp only
  rw[IT ae];have⟨e,N,h1,h2,h3⟩:=Yi T f1 gW a b;have hr:=afd (s:=s) (p:=p) h2;refine(bs h1).trans ?_;refine(bs (bt2 _ _)).trans ?_;have hA:Ab.asAgg 9 (([if e=0 then N.pv else noN,PV.int .i64 e]:List PV).getD 0 .bad)=U ():=by show Ab.asAgg 9 (if e=0 then N.pv else noN)=U ();split<;>rfl
  refine(bs hA).trans ?_;refine(bs (a:=e) rfl).trans ?_;by_cases he:e=0
  .subst he;have hB:=h3 rfl;rw[IT (show¬((0:Int) !=0)=Y by simp),aG,ab];rw[IT (show¬(0:Int)≠0 by simp)]at hr;by_cases g1:s<1\/8<s
   .try dsimp only
    rw[BY (show(O (s<1)||decide (s>8))=Y by simpa using g1)];rw[BY g1]at hr;refine(bs hr).trans ?_;rfl
   .try dsimp only
    rw[IT (show¬(O (s<1)||decide (s>8))=Y by simpa using g1),aG,ab];rw[IT g1]at hr;by_cases g2:p<0\/86400<p
    .try dsimp only
     rw[BY (show(O (p<0)||decide (p>86400))=Y by simpa using g2)];rw[BY g2]at hr;refine(bs hr).trans ?_;rfl
    .try dsimp only
     rw[IT (show¬(O (p<0)||decide (p>86400))=Y by simpa using g2)];rw[IT g2]at hr;obtain⟨n,rfl⟩:∃n:Nat,s=n:=⟨s.toNat,aa⟩;try dsimp only
     rw[BY (W8:0<=(n:Int)/\(n:Int)<=(n:Int)/\((n:Int)).toNat*32<=au/\0<32/\0<4)];refine(bs hr).trans ?_;iterate 3 refine(bs rfl).trans ?_
     try dsimp only
     rw[IT ae];have xM:=afh hB n aa p ops f2 (λo h=>⟨ho o h,f3 o h⟩);unfold stL GS at xM;simp only[List.map_replicate,ayD]at xM;exact xM
  .try dsimp only
   rw[BY (show(e !=0)=Y by simpa using he)];rw[BY he]at hr;refine(bs hr).trans ?_;iterate 3 refine(bs rfl).trans ?_
   try dsimp only
   rw[BY (show(e !=0)=Y by simpa using he)];refine(bs (a:=Y) ?_).trans rfl;try dsimp only
   rw[aAW];rfl
end Go.Ab.Tt
