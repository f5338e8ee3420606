import Derived.Test.YtoaknfoobjnjgaaGreatAbSeat
import Derived.WalkKit
import Derived.ProofKit
import Derived.OpenShut
import Derived.ShutString
import Derived.ChangeOld
set_option linter.all false
namespace Go.Ab
open Go.RowKit (Below)
def Cu(agg:Bool)(qs:List PV):PV:=match agg with
 |true=>.agg qs
 |false=>qs.getD 0 .bad
def tD(P:Program)(ok:TypeId→Bool)(size:Nat):List Field→Nat→Bool
 |[],off=>Nat.beq off size
 |f::r,off=>Nat.beq f.offset off&&ok f.type&&tD P ok size r (off+aW P f.type)
def tE(P:Program):Nat→TypeId→Bool
 |0,_=>false
 |d+1,t=>match P.underlying t with
  |some .bool=>true
  |some (.int _)=>true
  |some .string=>true
  |some (.slice e)=>tE P d e&&Nat.blt 0 (aW P e)&&(aJ P e||Nat.beq (aW P e) 1)
  |some (.struct fs)=>tD P (tE P d) (aW P t) fs.toList 0
  |some (.array n e)=>tE P d e&&Nat.beq (n*aW P e) (aW P t)
  |_=>false
def wI(P:Program)(shp:TypeId→List PV→Prop):List Field→List PV→Prop
 |[],ps=>ps=[]
 |f::r,ps=>∃a b,ps=a++b∧a.length=aW P f.type∧shp f.type a∧wI P shp r b
def Yq(shp:List PV→Prop)(c:Nat):Nat→List PV→Prop
 |0,ps=>ps=[]
 |n+1,ps=>∃a b,ps=a++b∧a.length=c∧shp a∧Yq shp c n b
mutual
def dF{H:Type}:DataW H→Nat
 |.lit (.string b)=>b.length+1
 |.slice es _=>On es+1
 |.agg ps=>On ps+1
 |_=>1
def On{H:Type}:List (DataW H)→Nat
 |[]=>0
 |d::r=>dF d+On r
end
theorem ada{H:Type}(d:DataW H):1≤dF d:=by
 cases d with
 |lit l=>cases l<;>simp[dF]
 |_=>simp[dF]
theorem C5{H:Type}:∀{l:List (DataW H)}{d:DataW H},d∈l→dF d≤On l
 |x::r,d,h=>by
  simp only[On];rcases anA.1 h with rfl|h
  ·omega
  ·have:=C5 h;omega
theorem Oo{H:Type}:∀(l:List (DataW H)),l.length≤On l
 |[]=>by simp[On]
 |x::r=>by have:=Oo r;have:=ada x;simp only[On,alx];omega
def fD(M:Nat)(P:Program):Nat→TypeId→List PV→Prop
 |0,_,_=>False
 |d+1,t,ps=>match P.underlying t with
  |some .bool=>∃b,ps=[.bool b]
  |some (.int k)=>∃n,ps=[.int k n]∧(Lit.int k n).wf=true
  |some .string=>∃s:Bytes,ps=[.str s]∧s.length≤M
  |some (.slice e)=>∃es,ps=[.rs (aW P e) es]∧es.length≤M∧∀x∈es,∃qs,x=Cu (aJ P e) qs∧qs.length=aW P e∧fD M P d e qs
  |some (.struct fs)=>wI P (fD M P d) fs.toList ps
  |some (.array n e)=>Yq (fD M P d e) (aW P e) n ps
  |_=>False
abbrev Shp(P:Program):Nat→TypeId→List PV→Prop:=fD maxLen P
def Ek(P:Program)(w:World)(ps:List PV)(cs:List Value):Prop:=∀(i:Nat)p v,ps[i]?=some p→cs[i]?=some v→au P (kP w) p v∧v.oneCell'=true
variable{P:Program}
theorem Ek.one{w:World}{p:PV}{v:Value}(h:au P (kP w) p v)(h1:v.oneCell'=true):Ek P w [p] [v]:=by intro i q u hq hu;grind
theorem Ek.append{w:World}{a b:List PV}{cs:List Value}{n:Nat}(ha:Ek P w a (cs.take n))(hb:Ek P w b (cs.drop n))(hl:a.length=n):Ek P w (a++b) cs:=by
 intro i p v hp hv;rw[an6]at hp;split at hp
 ·rename_i h;exact ha i p v hp (by simp_all)
 ·rename_i h;exact hb (i-a.length) p v hp (by simp_all)
theorem Vr{M d:Nat}{e:TypeId}{qs:List PV}(ha:aJ P e=true∨aW P e=1)(h:fD M P d e qs)(hl:qs.length=aW P e):(Cu (aJ P e) qs).cells=qs:=by
 cases Oq:aJ P e with
 |true=>rfl
 |false=>
  have h1:aW P e=1:=ha.resolve_left (by simp[Oq]);cases d with
  |zero=>exact h.elim
  |succ d=>
   unfold fD at h;unfold aJ at Oq;split at h
   ·obtain⟨b,rfl⟩:=h;rfl
   ·obtain⟨n,rfl,_⟩:=h;rfl
   ·obtain⟨s,rfl,_⟩:=h;rfl
   ·obtain⟨es,rfl,_⟩:=h;rfl
   ·simp_all
   ·simp_all
   ·exact h.elim
section
variable {P:Program} {w:World} {H:Type} {enc:TypeId×Value→H} {spare:Nat→Bool} {held:Bool}
theorem Fh{ok:TypeId→Bool}{size:Nat}:∀{fs:List Field}{off:Nat},tD P ok size fs off=true→off≤size
 |[],off,h=>by simp_all[tD,K5]
 |f::r,off,h=>by simp only[tD,OF]at h;have:=Fh h.2;omega
theorem Vs{base:Nat}{a:Addr}{n:Nat}{cs:List Value}(h:w.cells? base a n=some cs):cs.length=n∧∀i v,cs[i]?=some v→w.cell? (a.add i)=some v:=by
 unfold World.cells? at h;split at h
 ·have key:∀(l:List Nat)(cs:List Value),l.mapM (fun i=>w.cell? (a.add i))=some cs→cs.length=l.length∧∀(i:Nat)(v:Value)(k:Nat),cs[i]?=some v→l[i]?=some k→w.cell? (a.add k)=some v:=by
   intro l;induction l with
   |nil=>simp
   |cons x l ih=>
    intro cs h;rw[aqa]at h;simp only[Option.pure_def,Option.bind_eq_bind,AI]at h;obtain⟨v,hv,vs,hvs,h⟩:=h;simp only[tb]at h;subst h;obtain⟨h1,h2⟩:=ih vs hvs;refine⟨by simp[h1],fun i u k hi hk=>?_⟩;cases i with
    |zero=>simp at hi hk;subst hi;subst hk;exact hv
    |succ i=>exact h2 i u k (by simpa using hi) (by simpa using hk)
  obtain⟨h1,h2⟩:=key _ _ h;simp at h1;refine⟨h1,fun i v hi=>h2 i v i hi ?_⟩;exact apD (by have:=(IN.1 hi).1;omega)
 ·cases h
variable{v:Value}
theorem FW{a:Addr}(h:w.cell? a=some v):cellAt (kP w) a.block a.off=some v:=by
 unfold World.cell? at h;unfold cellAt kP;split at h
 ·rename_i hb;split at h
  ·cases h
  ·rw[hb];exact h
 ·cases h
theorem Yr{M:Nat}:∀(d:Nat)(t:TypeId)(cs:List Value)(fuel:Nat)(x:DataW H×List MemPlace),tE P d t=true→DataW.trod enc P w 0 spare held fuel t cs=some x→(M=maxLen∨dF x.1≤M)→∃ps,ps.length=cs.length∧fD M P d t ps∧Ek P w ps cs:=by
 intro d;induction d with
 |zero=>intro t cs fuel x h;cases h
 |succ d ih=>
  intro t cs fuel x hp h hB;unfold tE at hp;split at hp
  ·rename_i hu;obtain⟨b,rfl,_⟩:=DataW.trod_bool hu h;exact⟨[.bool b],rfl,by unfold fD;rw[hu];exact⟨b,rfl⟩,.one .bool rfl⟩
  ·rename_i k hu;obtain⟨n,rfl,_,hw⟩:=DataW.trod_int hu h;exact⟨[.int k n],rfl,by unfold fD;rw[hu];exact⟨n,rfl,hw⟩,.one (.int hw) rfl⟩
  ·rename_i hu;obtain⟨s,rfl,hx,hw⟩:=DataW.trod_string hu h;have hlen:s.data.toList.length≤M:=by
    rcases hB with hB|hB
    ·subst hB;simpa using hw
    ·rw[hx]at hB;simp only[dF]at hB;omega
   refine⟨[.str s.data.toList],rfl,by unfold fD;rw[hu];exact⟨_,rfl,hlen⟩,.one ?_ rfl⟩;exact au.str (P:=P) (μ:=kP w) (s:=s.data.toList) (by simpa using hw)
  ·rename_i e hu;simp only[OF,anH]at hp;obtain⟨⟨NW,eO⟩,Oq⟩:=hp;rw[aoF]at eO;have Oq:aJ P e=true∨aW P e=1:=Oq.imp id K5;rcases DataW.trod_slice hu h with⟨rfl,_⟩|⟨a,len,cap,elems,rest,n,_,rfl,hx,_,hlc,UK,GY,eE,_⟩
   ·exact⟨[.rs (aW P e) []],rfl,by unfold fD;rw[hu];exact⟨[],rfl,by simp,by simp⟩,.one .lV rfl⟩
   ·have each:∀i,i<len→∃qs ci,ci.length=aW P e∧(∀j v,ci[j]?=some v→w.cell? ((a.add (i*aW P e)).add j)=some v)∧qs.length=aW P e∧fD M P d e qs∧Ek P w qs ci:=by intro i hi;have h1:=eE i hi;rw[ta (by omega)]at h1;obtain⟨ci,hci,htr⟩:=AI.1 h1;obtain⟨c1,c2⟩:=Vs hci;obtain⟨qs,q1,q2,q3⟩:=ih e ci n _ NW htr (hB.imp id fun hb=>by rw[hx]at hb;simp only[dF]at hb;have:=C5 (anG.2 ⟨_,agZ (show i<elems.length by omega),rfl⟩:(elems[i]'(by omega)).1∈elems.map (·.1));omega);exact⟨qs,ci,c1,c2,by rw[q1,c1];rfl,q2,q3⟩
    have hch:∃f:Nat→List PV×List Value,∀i,i<len→(f i).2.length=aW P e∧(∀j v,(f i).2[j]?=some v→w.cell? ((a.add (i*aW P e)).add j)=some v)∧(f i).1.length=aW P e∧fD M P d e (f i).1∧Ek P w (f i).1 (f i).2:=by refine⟨fun i=>if h:i<len then((each i h).choose,(each i h).choose_spec.choose)else([],[]),fun i hi=>?_⟩;simp only[aqY hi];exact(each i hi).choose_spec.choose_spec
    obtain⟨f,hf⟩:=hch;have Nf:∀i x,((List.range len).map fun i=>Cu (aJ P e) (f i).1)[i]?=some x→i<len∧x=Cu (aJ P e) (f i).1:=fun i x hx=>by
     rw[AT]at hx;obtain⟨k,hk,rfl⟩:=ae0.1 hx;have bK:i<len:=by have:=(IN.1 hk).1;simpa using this
     rw[apD bK]at hk;simp at hk;subst hk;exact⟨bK,rfl⟩
    have hlen:((List.range len).map fun i=>Cu (aJ P e) (f i).1).length=len:=by simp
    refine⟨[.rs (aW P e) ((List.range len).map fun i=>Cu (aJ P e) (f i).1)],rfl,?_,.one ?_ rfl⟩
    ·unfold fD;rw[hu];refine⟨_,rfl,by
      rw[hlen];rcases hB with hB|hB
      ·omega
      ·rw[hx]at hB;simp only[dF]at hB;have:=Oo (elems.map (·.1));rw[By]at this;omega,fun x hx=>?_⟩
     obtain⟨i,hi⟩:=aok hx;obtain⟨bK,rfl⟩:=Nf i x hi;exact⟨_,rfl,(hf i bK).2.2.1,(hf i bK).2.2.2.1⟩
    ·by_cases h0:len=0
     ·subst h0;exact au.M9 (P:=P) (μ:=kP w) UK
     ·have aeF:a.spot=none:=by obtain⟨c1,c2,c3,_⟩:=hf 0 (by omega);have h1:(f 0).2[0]?=some ((f 0).2[0]'(by omega)):=ta (by omega);have:=World.cell?_spot (c2 0 _ h1);simpa[Addr.add]using this
      obtain⟨b,o,sp⟩:=a;simp only at aeF;subst aeF;have xr:∀i x,((List.range len).map fun i=>Cu (aJ P e) (f i).1)[i]?=some x→i<len∧x.cells=(f i).1:=fun i x hx=>by obtain⟨bK,rfl⟩:=Nf i x hx;exact⟨bK,Vr Oq (hf i bK).2.2.2.1 (hf i bK).2.2.1⟩
      have hX:∀i x j p,((List.range len).map fun i=>Cu (aJ P e) (f i).1)[i]?=some x→x.cells[j]?=some p→(f i).1[j]?=some p∧(f i).2[j]?=some ((f i).2.getD j undef):=fun i x j p hx hj=>by
       obtain⟨bK,hc⟩:=xr i x hx;rw[hc]at hj;refine⟨hj,?_⟩;obtain⟨c1,c2,c3,_⟩:=hf i bK;have:j<(f i).2.length:=by have:=(IN.1 hj).1;omega
       rw[ta this];simp[List.getD,this]
      have:=au.rs (P:=P) (μ:=kP w) (sz:=aW P e) (es:=(List.range len).map fun i=>Cu (aJ P e) (f i).1) (b:=b) (o:=o) (cap:=cap) (fun i j=>(f i).2.getD j undef) (by rw[hlen];exact hlc) UK (fun i x hx=>by obtain⟨bK,hc⟩:=xr i x hx;rw[hc];exact(hf i bK).2.2.1) (fun i x j p hx hj=>by
        obtain⟨h1,h2⟩:=hX i x j p hx hj;have h3:=(hf i (xr i x hx).1).2.1 j _ h2;have h4:=FW h3;rw[Addr.add_mid,Addr.add_mid]at h4;exact h4)
       (fun i x j p hx hj=>by obtain⟨h1,h2⟩:=hX i x j p hx hj;exact((hf i (xr i x hx).1).2.2.2.2 j p _ h1 h2).1)
       (fun i x j p hx hj=>by obtain⟨h1,h2⟩:=hX i x j p hx hj;exact((hf i (xr i x hx).1).2.2.2.2 j p _ h1 h2).2)
      rw[hlen]at this;exact this
  ·rename_i fs hu;obtain⟨xs,n,_,hx,qB,GV,hfs⟩:=DataW.trod_struct hu h;have qB:cs.length=aW P t:=qB;have key:∀(l:List Field)(off:Nat),(∀f∈l,∃y,DataW.trod enc P w 0 spare held n f.type ((cs.drop f.offset).take (aW P f.type))=some y∧(M=maxLen∨dF y.1≤M))→tD P (tE P d) (aW P t) l off=true→∃ps,ps.length=cs.length-off∧wI P (fD M P d) l ps∧Ek P w ps (cs.drop off):=by
    intro l;induction l with
    |nil=>intro off _ jq;have:=K5 jq;exact⟨[],by simp;omega,rfl,by intro i p v hp;simp at hp⟩
    |cons f l ihl=>
     intro off hf jq;simp only[tD,OF]at jq;obtain⟨⟨Uy,hpf⟩,jq⟩:=jq;have Uy:=K5 Uy;obtain⟨y,hy,hyB⟩:=hf f (by simp);rw[Uy]at hy;have hle:=Fh jq;obtain⟨a,a1,a2,a3⟩:=ih f.type _ n y hpf hy hyB;obtain⟨b,b1,b2,b3⟩:=ihl _ (fun g hg=>hf g (by simp[hg])) jq;have G0:a.length=aW P f.type:=by rw[a1];simp;omega
     refine⟨a++b,by simp[G0,b1];omega,⟨a,b,rfl,G0,a2,b2⟩,Ek.append (n:=aW P f.type) a3 (by rw[ao1];exact b3) G0⟩
   obtain⟨ps,p1,p2,p3⟩:=key fs.toList 0 (fun f hf=>by
    obtain⟨i,hi⟩:=aok hf;have oa:fs[i]?=some f:=by rw[←aoi];exact hi
    have h1:=hfs i f oa;have bK:i<xs.length:=by have:=(adW.1 oa).1;omega
    rw[ta bK]at h1;exact⟨_,h1,hB.imp id fun hb=>by rw[hx]at hb;simp only[dF]at hb;have:=C5 (anG.2 ⟨_,agZ bK,rfl⟩:(xs[i]).1∈xs.map (·.1));omega⟩) hp
   exact⟨ps,by simpa using p1,by unfold fD;rw[hu];exact p2,by simpa using p3⟩
  ·rename_i n e hu;simp only[OF]at hp;obtain⟨NW,n9⟩:=hp;have n9:=K5 n9;obtain⟨xs,m,_,hx,qB,GV,hfs⟩:=DataW.trod_array hu h;have qB:cs.length=aW P t:=qB;have key:∀(k i:Nat),i+k=n→∃ps,ps.length=cs.length-i*aW P e∧Yq (fD M P d e) (aW P e) k ps∧Ek P w ps (cs.drop (i*aW P e)):=by
    intro k;induction k with
    |zero=>
     intro i hi;have:i=n:=by omega
     subst this;exact⟨[],by simp;omega,rfl,by intro i p v hp;simp at hp⟩
    |succ k ihk=>
     intro i hi;have h1:=hfs i (by omega);rw[ta (by omega)]at h1;obtain⟨a,a1,a2,a3⟩:=ih e _ m _ NW h1 (hB.imp id fun hb=>by rw[hx]at hb;simp only[dF]at hb;have:=C5 (anG.2 ⟨_,agZ (show i<xs.length by omega),rfl⟩:(xs[i]'(by omega)).1∈xs.map (·.1));omega);obtain⟨b,b1,b2,b3⟩:=ihk (i+1) (by omega);have yu:i*aW P e+aW P e≤cs.length:=by rw[qB,←n9];have:(i+1)*aW P e≤n*aW P e:=amt _ (by omega);rw[aoo]at this;omega
     have G0:a.length=aW P e:=by rw[a1];show((cs.drop (i*aW P e)).take (aW P e)).length=aW P e;simp;omega
     refine⟨a++b,by simp[G0,b1,aoo];omega,⟨a,b,rfl,G0,a2,b2⟩,Ek.append (n:=aW P e) a3 ?_ G0⟩;rw[ao1];rw[aoo,Nat.one_mul]at b3;exact b3
   obtain⟨ps,p1,p2,p3⟩:=key n 0 (by omega);exact⟨ps,by simpa using p1,by unfold fD;rw[hu];exact p2,by simpa using p3⟩
  ·cases hp
variable{places:List MemPlace}
theorem Ys{M d:Nat}{t:TypeId}{y:DataW H}{r:Reach}{b0:Nat}(hp:tE P (d+1) t=true)(jq:Value.okWide P w r b0 t v)(h:DataW.Trod enc P w 0 spare held t v y places)(hB:M=maxLen∨dF y≤M):∃ps,fD M P (d+1) t ps∧au P (kP w) (Cu (aJ P t) ps) v:=by
 obtain⟨fuel,hf⟩:=h;obtain⟨ps,p1,p2,p3⟩:=Yr (M:=M) (d+1) t _ fuel _ hp hf hB;refine⟨ps,p2,?_⟩;have agg:aJ P t=true→(∃cs,v=.agg cs)→au P (kP w) (Cu (aJ P t) ps) v:=by
  rintro ha ⟨cs,rfl⟩;rw[ha];simp only[Value.cells]at p1 p3;exact .agg (by simpa using p1) (fun i p x hi hx=>(p3 i p x hi (by rw[aoi];exact hx)).1) fun i x hx=>by
   have bK:i<ps.length:=by have:=(adW.1 hx).1;simp at p1;omega
   exact(p3 i _ x (ta bK) (by rw[aoi];exact hx)).2
 have one:aJ P t=false→v.cells= #[v]→(∃p,ps=[p])→au P (kP w) (Cu (aJ P t) ps) v:=by rintro ha hv ⟨p,rfl⟩;rw[ha];exact(p3 0 p v rfl (by rw[hv];rfl)).1
 unfold tE at hp;unfold fD at p2;split at hp
 ·rename_i hu;rw[hu]at p2;obtain⟨b,hb⟩:=WideShapes.okWide_bool hu jq;subst hb;obtain⟨b',j4⟩:=p2;exact one (by simp[aJ,hu]) rfl ⟨_,j4⟩
 ·rename_i k hu;rw[hu]at p2;obtain⟨b,hb⟩:=WideShapes.okWide_int hu jq;subst hb;obtain⟨b',j4,_⟩:=p2;exact one (by simp[aJ,hu]) rfl ⟨_,j4⟩
 ·rename_i hu;rw[hu]at p2;obtain⟨b,hb⟩:=WideShapes.okWide_string hu jq;subst hb;obtain⟨b',j4,_⟩:=p2;exact one (by simp[aJ,hu]) rfl ⟨_,j4⟩
 ·rename_i e hu;rw[hu]at p2;obtain⟨a,len,cap,hb⟩:=WideShapes.okWide_slice hu jq;subst hb;obtain⟨b',j4,_⟩:=p2;exact one (by simp[aJ,hu]) rfl ⟨_,j4⟩
 ·rename_i fs hu;refine agg (by simp[aJ,hu]) ?_;simp only[Value.okWide,hu]at jq;obtain⟨cs,Jk,_⟩:=jq;exact⟨cs,Jk⟩
 ·rename_i n e hu;refine agg (by simp[aJ,hu]) ?_;simp only[Value.okWide,hu]at jq;obtain⟨cs,Jk,_⟩:=jq;exact⟨cs,Jk⟩
 ·cases hp
theorem Te{d:Nat}{t:TypeId}{y:DataW H}{r:Reach}{b0:Nat}(hp:tE P (d+1) t=true)(jq:Value.okWide P w r b0 t v)(h:DataW.Trod enc P w 0 spare held t v y places):∃ps,Shp P (d+1) t ps∧au P (kP w) (Cu (aJ P t) ps) v:=Ys hp jq h (.inl rfl)
end
end Go.Ab
