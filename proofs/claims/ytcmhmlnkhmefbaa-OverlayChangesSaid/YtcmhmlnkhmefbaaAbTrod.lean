import Derived.Test.YtcmhmlnkhmefbaaAbSeat
import Derived.WalkKit
import Derived.ProofKit
import Derived.OpenShut
import Derived.ShutString
import Derived.ChangeOld
set_option linter.unusedVariables false
namespace Go.Ab
open Go.RowKit (Below)
def Ar(agg:Bool)(qs:List PV):PV:=match agg with
 |true=>.agg qs
 |false=>qs.getD 0 .bad
def mQ(P:Program)(ok:TypeId→Bool)(size:Nat):List Field→Nat→Bool
 |[],off=>Nat.beq off size
 |f::r,off=>Nat.beq f.offset off&&ok f.type&&mQ P ok size r (off+aH P f.type)
def og(P:Program):Nat→TypeId→Bool
 |0,_=>false
 |d+1,t=>match P.underlying t with
  |some .bool=>true
  |some (.int _)=>true
  |some .string=>true
  |some (.slice e)=>og P d e&&Nat.blt 0 (aH P e)&&(aq P e||Nat.beq (aH P e) 1)
  |some (.struct fs)=>mQ P (og P d) (aH P t) fs.toList 0
  |some (.array n e)=>og P d e&&Nat.beq (n*aH P e) (aH P t)
  |_=>false
def vK(P:Program)(WG:TypeId→List PV→Prop):List Field→List PV→Prop
 |[],ps=>ps=[]
 |f::r,ps=>∃a b,ps=a++b∧a.length=aH P f.type∧WG f.type a∧vK P WG r b
def TM(WG:List PV→Prop)(c:Nat):Nat→List PV→Prop
 |0,ps=>ps=[]
 |n+1,ps=>∃a b,ps=a++b∧a.length=c∧WG a∧TM WG c n b
mutual
def dq{H:Type}:DataW H→Nat
 |.lit (.string b)=>b.length+1
 |.slice es _=>Ei es+1
 |.agg ps=>Ei ps+1
 |_=>1
def Ei{H:Type}:List (DataW H)→Nat
 |[]=>0
 |d::r=>dq d+Ei r
end
theorem QA{H:Type}(d:DataW H):1≤dq d:=by
 cases d with
 |lit l=>cases l<;>simp[dq]
 |_=>simp[dq]
theorem uE{H:Type}:∀{l:List (DataW H)}{d:DataW H},d∈l→dq d≤Ei l
 |x::r,d,h=>by
  simp only[Ei];rcases List.mem_cons.1 h with rfl|h
  ·omega
  ·have:=uE h;omega
theorem Ej{H:Type}:∀(l:List (DataW H)),l.length≤Ei l
 |[]=>by simp[Ei]
 |x::r=>by have:=Ej r;have:=QA x;simp only[Ei,List.length_cons];omega
def fP(M:Nat)(P:Program):Nat→TypeId→List PV→Prop
 |0,_,_=>False
 |d+1,t,ps=>match P.underlying t with
  |some .bool=>∃b,ps=[.bool b]
  |some (.int k)=>∃n,ps=[.int k n]∧(Lit.int k n).wf=true
  |some .string=>∃s:Bytes,ps=[.str s]∧s.length≤M
  |some (.slice e)=>∃es,ps=[.rs (aH P e) es]∧es.length≤M∧∀x∈es,∃qs,x=Ar (aq P e) qs∧qs.length=aH P e∧fP M P d e qs
  |some (.struct fs)=>vK P (fP M P d) fs.toList ps
  |some (.array n e)=>TM (fP M P d e) (aH P e) n ps
  |_=>False
abbrev Shp(P:Program):Nat→TypeId→List PV→Prop:=fP maxLen P
def vL(P:Program)(w:World)(ps:List PV)(cs:List Value):Prop:=∀(i:Nat)p v,ps[i]?=some p→cs[i]?=some v→af P (gR w) p v∧v.oneCell'=true
variable{P:Program}
theorem vL.one{w:World}{p:PV}{v:Value}(h:af P (gR w) p v)(h1:v.oneCell'=true):vL P w [p] [v]:=by
 intro i q u hq hu;cases i with
 |zero=>simp at hq hu;subst hq;subst hu;exact⟨h,h1⟩
 |succ i=>simp at hq
theorem vL.append{w:World}{a b:List PV}{cs:List Value}{n:Nat}(ha:vL P w a (cs.take n))(hb:vL P w b (cs.drop n))(hl:a.length=n):vL P w (a++b) cs:=by
 intro i p v hp hv;rw[List.getElem?_append]at hp;split at hp
 ·rename_i h;exact ha i p v hp (by rw[List.getElem?_take_of_lt (by omega)];exact hv)
 ·rename_i h;exact hb (i-a.length) p v hp (by rw[List.getElem?_drop,hl];rw[←hv];congr 1;omega)
theorem K3{M d:Nat}{e:TypeId}{qs:List PV}(ha:aq P e=true∨aH P e=1)(h:fP M P d e qs)(hl:qs.length=aH P e):(Ar (aq P e) qs).cells=qs:=by
 cases xB:aq P e with
 |true=>rfl
 |false=>
  have h1:aH P e=1:=ha.resolve_left (by simp[xB]);cases d with
  |zero=>exact h.elim
  |succ d=>
   unfold fP at h;unfold aq at xB;split at h
   ·obtain⟨b,rfl⟩:=h;rfl
   ·obtain⟨n,rfl,_⟩:=h;rfl
   ·obtain⟨s,rfl,_⟩:=h;rfl
   ·obtain⟨es,rfl,_⟩:=h;rfl
   ·rename_i hu;rw[hu]at xB;cases xB
   ·rename_i hu;rw[hu]at xB;cases xB
   ·exact h.elim
section
variable {P:Program} {w:World} {H:Type} {enc:TypeId×Value→H} {spare:Nat→Bool} {held:Bool}
theorem wY{ok:TypeId→Bool}{size:Nat}:∀{fs:List Field}{off:Nat},mQ P ok size fs off=true→off≤size
 |[],off,h=>by simp only[mQ]at h;have:=Nat.eq_of_beq_eq_true h;omega
 |f::r,off,h=>by simp only[mQ,Bool.and_eq_true]at h;have:=wY h.2;omega
theorem K4{base:Nat}{a:Addr}{n:Nat}{cs:List Value}(h:w.cells? base a n=some cs):cs.length=n∧∀i v,cs[i]?=some v→w.cell? (a.add i)=some v:=by
 unfold World.cells? at h;split at h
 ·have key:∀(l:List Nat)(cs:List Value),l.mapM (fun i=>w.cell? (a.add i))=some cs→cs.length=l.length∧∀(i:Nat)(v:Value)(k:Nat),cs[i]?=some v→l[i]?=some k→w.cell? (a.add k)=some v:=by
   intro l;induction l with
   |nil=>intro cs h;simp at h;subst h;simp
   |cons x l ih=>
    intro cs h;rw[List.mapM_cons]at h;simp only[Option.pure_def,Option.bind_eq_bind,Option.bind_eq_some_iff]at h;obtain⟨v,hv,vs,hvs,h⟩:=h;simp only[Option.some.injEq]at h;subst h;obtain⟨h1,h2⟩:=ih vs hvs;refine⟨by simp[h1],fun i u k hi hk=>?_⟩;cases i with
    |zero=>simp at hi hk;subst hi;subst hk;exact hv
    |succ i=>exact h2 i u k (by simpa using hi) (by simpa using hk)
  obtain⟨h1,h2⟩:=key _ _ h;simp at h1;refine⟨h1,fun i v hi=>h2 i v i hi ?_⟩;exact List.getElem?_range (by have:=(List.getElem?_eq_some_iff.1 hi).1;omega)
 ·cases h
variable{v:Value}
theorem xC{a:Addr}(h:w.cell? a=some v):cellAt (gR w) a.block a.off=some v:=by
 unfold World.cell? at h;unfold cellAt gR;split at h
 ·rename_i hb;split at h
  ·cases h
  ·rw[hb];exact h
 ·cases h
theorem NN{M:Nat}:∀(d:Nat)(t:TypeId)(cs:List Value)(fuel:Nat)(x:DataW H×List MemPlace),og P d t=true→DataW.trod enc P w 0 spare held fuel t cs=some x→(M=maxLen∨dq x.1≤M)→∃ps,ps.length=cs.length∧fP M P d t ps∧vL P w ps cs:=by
 intro d;induction d with
 |zero=>intro t cs fuel x h;cases h
 |succ d ih=>
  intro t cs fuel x hp h hB;unfold og at hp;split at hp
  ·rename_i hu;obtain⟨b,rfl,_⟩:=DataW.trod_bool hu h;exact⟨[.bool b],rfl,by unfold fP;rw[hu];exact⟨b,rfl⟩,.one .bool rfl⟩
  ·rename_i k hu;obtain⟨n,rfl,_,hw⟩:=DataW.trod_int hu h;exact⟨[.int k n],rfl,by unfold fP;rw[hu];exact⟨n,rfl,hw⟩,.one (.int hw) rfl⟩
  ·rename_i hu;obtain⟨s,rfl,hx,hw⟩:=DataW.trod_string hu h;have hlen:s.data.toList.length≤M:=by
    rcases hB with hB|hB
    ·subst hB;simpa using hw
    ·rw[hx]at hB;simp only[dq]at hB;omega
   refine⟨[.str s.data.toList],rfl,by unfold fP;rw[hu];exact⟨_,rfl,hlen⟩,.one ?_ rfl⟩;exact af.str (P:=P) (μ:=gR w) (s:=s.data.toList) (by simpa using hw)
  ·rename_i e hu;simp only[Bool.and_eq_true,Bool.or_eq_true]at hp;obtain⟨⟨AA,dQ⟩,xB⟩:=hp;rw[Nat.blt_eq]at dQ;have xB:aq P e=true∨aH P e=1:=xB.imp id Nat.eq_of_beq_eq_true;rcases DataW.trod_slice hu h with⟨rfl,_⟩|⟨a,len,cap,elems,rest,n,_,rfl,hx,_,Vu,MJ,vu,ep,_⟩
   ·exact⟨[.rs (aH P e) []],rfl,by unfold fP;rw[hu];exact⟨[],rfl,by simp,by simp⟩,.one .iC rfl⟩
   ·have each:∀i,i<len→∃qs ci,ci.length=aH P e∧(∀j v,ci[j]?=some v→w.cell? ((a.add (i*aH P e)).add j)=some v)∧qs.length=aH P e∧fP M P d e qs∧vL P w qs ci:=by intro i hi;have h1:=ep i hi;rw[List.getElem?_eq_getElem (by omega)]at h1;obtain⟨ci,hci,htr⟩:=Option.bind_eq_some_iff.1 h1;obtain⟨c1,c2⟩:=K4 hci;obtain⟨qs,q1,q2,q3⟩:=ih e ci n _ AA htr (hB.imp id fun hb=>by rw[hx]at hb;simp only[dq]at hb;have:=uE (List.mem_map.2 ⟨_,List.getElem_mem (show i<elems.length by omega),rfl⟩:(elems[i]'(by omega)).1∈elems.map (·.1));omega);exact⟨qs,ci,c1,c2,by rw[q1,c1];rfl,q2,q3⟩
    have hch:∃f:Nat→List PV×List Value,∀i,i<len→(f i).2.length=aH P e∧(∀j v,(f i).2[j]?=some v→w.cell? ((a.add (i*aH P e)).add j)=some v)∧(f i).1.length=aH P e∧fP M P d e (f i).1∧vL P w (f i).1 (f i).2:=by refine⟨fun i=>if h:i<len then((each i h).choose,(each i h).choose_spec.choose)else([],[]),fun i hi=>?_⟩;simp only[dif_pos hi];exact(each i hi).choose_spec.choose_spec
    obtain⟨f,hf⟩:=hch;have Aq:∀i x,((List.range len).map fun i=>Ar (aq P e) (f i).1)[i]?=some x→i<len∧x=Ar (aq P e) (f i).1:=fun i x hx=>by
     rw[List.getElem?_map]at hx;obtain⟨k,hk,rfl⟩:=Option.map_eq_some_iff.1 hx;have ba:i<len:=by have:=(List.getElem?_eq_some_iff.1 hk).1;simpa using this
     rw[List.getElem?_range ba]at hk;simp at hk;subst hk;exact⟨ba,rfl⟩
    have hlen:((List.range len).map fun i=>Ar (aq P e) (f i).1).length=len:=by simp
    refine⟨[.rs (aH P e) ((List.range len).map fun i=>Ar (aq P e) (f i).1)],rfl,?_,.one ?_ rfl⟩
    ·unfold fP;rw[hu];refine⟨_,rfl,by
      rw[hlen];rcases hB with hB|hB
      ·omega
      ·rw[hx]at hB;simp only[dq]at hB;have:=Ej (elems.map (·.1));rw[List.length_map]at this;omega,fun x hx=>?_⟩
     obtain⟨i,hi⟩:=List.getElem?_of_mem hx;obtain⟨ba,rfl⟩:=Aq i x hi;exact⟨_,rfl,(hf i ba).2.2.1,(hf i ba).2.2.2.1⟩
    ·by_cases h0:len=0
     ·subst h0;exact af.Dg (P:=P) (μ:=gR w) MJ
     ·have RX:a.spot=none:=by obtain⟨c1,c2,c3,_⟩:=hf 0 (by omega);have h1:(f 0).2[0]?=some ((f 0).2[0]'(by omega)):=List.getElem?_eq_getElem (by omega);have:=World.cell?_spot (c2 0 _ h1);simpa[Addr.add]using this
      obtain⟨b,o,sp⟩:=a;simp only at RX;subst RX;have pz:∀i x,((List.range len).map fun i=>Ar (aq P e) (f i).1)[i]?=some x→i<len∧x.cells=(f i).1:=fun i x hx=>by obtain⟨ba,rfl⟩:=Aq i x hx;exact⟨ba,K3 xB (hf i ba).2.2.2.1 (hf i ba).2.2.1⟩
      have hX:∀i x j p,((List.range len).map fun i=>Ar (aq P e) (f i).1)[i]?=some x→x.cells[j]?=some p→(f i).1[j]?=some p∧(f i).2[j]?=some ((f i).2.getD j undef):=fun i x j p hx hj=>by
       obtain⟨ba,hc⟩:=pz i x hx;rw[hc]at hj;refine⟨hj,?_⟩;obtain⟨c1,c2,c3,_⟩:=hf i ba;have:j<(f i).2.length:=by have:=(List.getElem?_eq_some_iff.1 hj).1;omega
       rw[List.getElem?_eq_getElem this];simp[List.getD,this]
      have:=af.rs (P:=P) (μ:=gR w) (sz:=aH P e) (es:=(List.range len).map fun i=>Ar (aq P e) (f i).1) (b:=b) (o:=o) (cap:=cap) (fun i j=>(f i).2.getD j undef) (by rw[hlen];exact Vu) MJ (fun i x hx=>by obtain⟨ba,hc⟩:=pz i x hx;rw[hc];exact(hf i ba).2.2.1) (fun i x j p hx hj=>by
        obtain⟨h1,h2⟩:=hX i x j p hx hj;have h3:=(hf i (pz i x hx).1).2.1 j _ h2;have h4:=xC h3;rw[Addr.add_mid,Addr.add_mid]at h4;exact h4)
       (fun i x j p hx hj=>by obtain⟨h1,h2⟩:=hX i x j p hx hj;exact((hf i (pz i x hx).1).2.2.2.2 j p _ h1 h2).1)
       (fun i x j p hx hj=>by obtain⟨h1,h2⟩:=hX i x j p hx hj;exact((hf i (pz i x hx).1).2.2.2.2 j p _ h1 h2).2)
      rw[hlen]at this;exact this
  ·rename_i fs hu;obtain⟨xs,n,_,hx,py,Ba,To⟩:=DataW.trod_struct hu h;have py:cs.length=aH P t:=py;have key:∀(l:List Field)(off:Nat),(∀f∈l,∃y,DataW.trod enc P w 0 spare held n f.type ((cs.drop f.offset).take (aH P f.type))=some y∧(M=maxLen∨dq y.1≤M))→mQ P (og P d) (aH P t) l off=true→∃ps,ps.length=cs.length-off∧vK P (fP M P d) l ps∧vL P w ps (cs.drop off):=by
    intro l;induction l with
    |nil=>intro off _ tO;have:=Nat.eq_of_beq_eq_true tO;exact⟨[],by simp;omega,rfl,by intro i p v hp;simp at hp⟩
    |cons f l ihl=>
     intro off hf tO;simp only[mQ,Bool.and_eq_true]at tO;obtain⟨⟨Ke,hpf⟩,tO⟩:=tO;have Ke:=Nat.eq_of_beq_eq_true Ke;obtain⟨y,hy,hyB⟩:=hf f (by simp);rw[Ke]at hy;have hle:=wY tO;obtain⟨a,a1,a2,a3⟩:=ih f.type _ n y hpf hy hyB;obtain⟨b,b1,b2,b3⟩:=ihl _ (fun g hg=>hf g (by simp[hg])) tO;have Kq:a.length=aH P f.type:=by rw[a1];simp;omega
     refine⟨a++b,by simp[Kq,b1];omega,⟨a,b,rfl,Kq,a2,b2⟩,vL.append (n:=aH P f.type) a3 (by rw[List.drop_drop];exact b3) Kq⟩
   obtain⟨ps,p1,p2,p3⟩:=key fs.toList 0 (fun f hf=>by
    obtain⟨i,hi⟩:=List.getElem?_of_mem hf;have lD:fs[i]?=some f:=by rw[←Array.getElem?_toList];exact hi
    have h1:=To i f lD;have ba:i<xs.length:=by have:=(Array.getElem?_eq_some_iff.1 lD).1;omega
    rw[List.getElem?_eq_getElem ba]at h1;exact⟨_,h1,hB.imp id fun hb=>by rw[hx]at hb;simp only[dq]at hb;have:=uE (List.mem_map.2 ⟨_,List.getElem_mem ba,rfl⟩:(xs[i]).1∈xs.map (·.1));omega⟩) hp
   exact⟨ps,by simpa using p1,by unfold fP;rw[hu];exact p2,by simpa using p3⟩
  ·rename_i n e hu;simp only[Bool.and_eq_true]at hp;obtain⟨AA,jF⟩:=hp;have jF:=Nat.eq_of_beq_eq_true jF;obtain⟨xs,m,_,hx,py,Ba,To⟩:=DataW.trod_array hu h;have py:cs.length=aH P t:=py;have key:∀(k i:Nat),i+k=n→∃ps,ps.length=cs.length-i*aH P e∧TM (fP M P d e) (aH P e) k ps∧vL P w ps (cs.drop (i*aH P e)):=by
    intro k;induction k with
    |zero=>
     intro i hi;have:i=n:=by omega
     subst this;exact⟨[],by simp;omega,rfl,by intro i p v hp;simp at hp⟩
    |succ k SZ=>
     intro i hi;have h1:=To i (by omega);rw[List.getElem?_eq_getElem (by omega)]at h1;obtain⟨a,a1,a2,a3⟩:=ih e _ m _ AA h1 (hB.imp id fun hb=>by rw[hx]at hb;simp only[dq]at hb;have:=uE (List.mem_map.2 ⟨_,List.getElem_mem (show i<xs.length by omega),rfl⟩:(xs[i]'(by omega)).1∈xs.map (·.1));omega);obtain⟨b,b1,b2,b3⟩:=SZ (i+1) (by omega);have Cm:i*aH P e+aH P e≤cs.length:=by rw[py,←jF];have:(i+1)*aH P e≤n*aH P e:=Nat.mul_le_mul_right _ (by omega);rw[Nat.add_mul]at this;omega
     have Kq:a.length=aH P e:=by rw[a1];show((cs.drop (i*aH P e)).take (aH P e)).length=aH P e;simp;omega
     refine⟨a++b,by simp[Kq,b1,Nat.add_mul];omega,⟨a,b,rfl,Kq,a2,b2⟩,vL.append (n:=aH P e) a3 ?_ Kq⟩;rw[List.drop_drop];rw[Nat.add_mul,Nat.one_mul]at b3;exact b3
   obtain⟨ps,p1,p2,p3⟩:=key n 0 (by omega);exact⟨ps,by simpa using p1,by unfold fP;rw[hu];exact p2,by simpa using p3⟩
  ·cases hp
variable{places:List MemPlace}
theorem NO{M d:Nat}{t:TypeId}{y:DataW H}{r:Reach}{b0:Nat}(hp:og P (d+1) t=true)(tO:Value.okWide P w r b0 t v)(h:DataW.Trod enc P w 0 spare held t v y places)(hB:M=maxLen∨dq y≤M):∃ps,fP M P (d+1) t ps∧af P (gR w) (Ar (aq P t) ps) v:=by
 obtain⟨fuel,hf⟩:=h;obtain⟨ps,p1,p2,p3⟩:=NN (M:=M) (d+1) t _ fuel _ hp hf hB;refine⟨ps,p2,?_⟩;have agg:aq P t=true→(∃cs,v=.agg cs)→af P (gR w) (Ar (aq P t) ps) v:=by
  rintro ha ⟨cs,rfl⟩;rw[ha];simp only[Value.cells]at p1 p3;exact .agg (by simpa using p1) (fun i p x hi hx=>(p3 i p x hi (by rw[Array.getElem?_toList];exact hx)).1) fun i x hx=>by
   have ba:i<ps.length:=by have:=(Array.getElem?_eq_some_iff.1 hx).1;simp at p1;omega
   exact(p3 i _ x (List.getElem?_eq_getElem ba) (by rw[Array.getElem?_toList];exact hx)).2
 have one:aq P t=false→v.cells= #[v]→(∃p,ps=[p])→af P (gR w) (Ar (aq P t) ps) v:=by rintro ha hv ⟨p,rfl⟩;rw[ha];exact(p3 0 p v rfl (by rw[hv];rfl)).1
 unfold og at hp;unfold fP at p2;split at hp
 ·rename_i hu;rw[hu]at p2;obtain⟨b,hb⟩:=WideShapes.okWide_bool hu tO;subst hb;obtain⟨b',fl⟩:=p2;exact one (by simp[aq,hu]) rfl ⟨_,fl⟩
 ·rename_i k hu;rw[hu]at p2;obtain⟨b,hb⟩:=WideShapes.okWide_int hu tO;subst hb;obtain⟨b',fl,_⟩:=p2;exact one (by simp[aq,hu]) rfl ⟨_,fl⟩
 ·rename_i hu;rw[hu]at p2;obtain⟨b,hb⟩:=WideShapes.okWide_string hu tO;subst hb;obtain⟨b',fl,_⟩:=p2;exact one (by simp[aq,hu]) rfl ⟨_,fl⟩
 ·rename_i e hu;rw[hu]at p2;obtain⟨a,len,cap,hb⟩:=WideShapes.okWide_slice hu tO;subst hb;obtain⟨b',fl,_⟩:=p2;exact one (by simp[aq,hu]) rfl ⟨_,fl⟩
 ·rename_i fs hu;refine agg (by simp[aq,hu]) ?_;simp only[Value.okWide,hu]at tO;obtain⟨cs,Fx,_⟩:=tO;exact⟨cs,Fx⟩
 ·rename_i n e hu;refine agg (by simp[aq,hu]) ?_;simp only[Value.okWide,hu]at tO;obtain⟨cs,Fx,_⟩:=tO;exact⟨cs,Fx⟩
 ·cases hp
theorem Jr{d:Nat}{t:TypeId}{y:DataW H}{r:Reach}{b0:Nat}(hp:og P (d+1) t=true)(tO:Value.okWide P w r b0 t v)(h:DataW.Trod enc P w 0 spare held t v y places):∃ps,Shp P (d+1) t ps∧af P (gR w) (Ar (aq P t) ps) v:=NO hp tO h (.inl rfl)
end
end Go.Ab
