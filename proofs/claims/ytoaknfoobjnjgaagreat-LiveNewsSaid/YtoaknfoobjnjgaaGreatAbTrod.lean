import Derived.Test.YtoaknfoobjnjgaaGreatAbSeat
import Derived.WalkKit
import Derived.ProofKit
import Derived.OpenShut
import Derived.ShutString
import Derived.ChangeOld
set_option linter.all false
namespace Go.Ab
open Go.RowKit (Below)
def F1(agg:Bool)(qs:List PV):PV:=match agg with
 |true=>.agg qs
 |false=>qs.getD 0 .bad
def uI(P:Program)(ok:TypeId→Bool)(size:Nat):List Field→Nat→Bool
 |[],off=>Nat.beq off size
 |f::r,off=>Nat.beq f.offset off&&ok f.type&&uI P ok size r (off+aS P f.type)
def xe(P:Program):Nat→TypeId→Bool
 |0,_=>false
 |d+1,t=>match P.underlying t with
  |some .bool=>true
  |some (.int _)=>true
  |some .string=>true
  |some (.slice e)=>xe P d e&&Nat.blt 0 (aS P e)&&(aG P e||Nat.beq (aS P e) 1)
  |some (.struct fs)=>uI P (xe P d) (aS P t) fs.toList 0
  |some (.array n e)=>xe P d e&&Nat.beq (n*aS P e) (aS P t)
  |_=>false
def Ay(P:Program)(shp:TypeId→List PV→Prop):List Field→List PV→Prop
 |[],ps=>ps=[]
 |f::r,ps=>∃a b,ps=a++b∧a.length=aS P f.type∧shp f.type a∧Ay P shp r b
def aam(shp:List PV→Prop)(c:Nat):Nat→List PV→Prop
 |0,ps=>ps=[]
 |n+1,ps=>∃a b,ps=a++b∧a.length=c∧shp a∧aam shp c n b
mutual
def dB{H:Type}:DataW H→Nat
 |.lit (.string b)=>b.length+1
 |.slice es _=>PA es+1
 |.agg ps=>PA ps+1
 |_=>1
def PA{H:Type}:List (DataW H)→Nat
 |[]=>0
 |d::r=>dB d+PA r
end
theorem adW{H:Type}(d:DataW H):1≤dB d:=by
 cases d with
 |lit l=>cases l<;>simp[dB]
 |_=>simp[dB]
theorem EP{H:Type}:∀{l:List (DataW H)}{d:DataW H},d∈l→dB d≤PA l
 |x::r,d,h=>by
  simp only[PA];rcases aoc.1 h with rfl|h
  ·omega
  ·have:=EP h;omega
theorem PB{H:Type}:∀(l:List (DataW H)),l.length≤PA l
 |[]=>by simp[PA]
 |x::r=>by have:=PB r;have:=adW x;simp only[PA,alx];omega
def gb(M:Nat)(P:Program):Nat→TypeId→List PV→Prop
 |0,_,_=>False
 |d+1,t,ps=>match P.underlying t with
  |some .bool=>∃b,ps=[.bool b]
  |some (.int k)=>∃n,ps=[.int k n]∧(Lit.int k n).wf=true
  |some .string=>∃s:Bytes,ps=[.str s]∧s.length≤M
  |some (.slice e)=>∃es,ps=[.rs (aS P e) es]∧es.length≤M∧∀x∈es,∃qs,x=F1 (aG P e) qs∧qs.length=aS P e∧gb M P d e qs
  |some (.struct fs)=>Ay P (gb M P d) fs.toList ps
  |some (.array n e)=>aam (gb M P d e) (aS P e) n ps
  |_=>False
abbrev Shp(P:Program):Nat→TypeId→List PV→Prop:=gb maxLen P
def F2(P:Program)(w:World)(ps:List PV)(cs:List Value):Prop:=∀(i:Nat)p v,ps[i]?=some p→cs[i]?=some v→aq P (kK w) p v∧v.oneCell'=true
variable{P:Program}
theorem F2.one{w:World}{p:PV}{v:Value}(h:aq P (kK w) p v)(h1:v.oneCell'=true):F2 P w [p] [v]:=by intro i q u hq hu;grind
theorem F2.append{w:World}{a b:List PV}{cs:List Value}{n:Nat}(ha:F2 P w a (cs.take n))(hb:F2 P w b (cs.drop n))(hl:a.length=n):F2 P w (a++b) cs:=by
 intro i p v hp hv;rw[aoG]at hp;split at hp
 ·rename_i h;exact ha i p v hp (by simp_all)
 ·rename_i h;exact hb (i-a.length) p v hp (by simp_all)
theorem Xl{M d:Nat}{e:TypeId}{qs:List PV}(ha:aG P e=true∨aS P e=1)(h:gb M P d e qs)(hl:qs.length=aS P e):(F1 (aG P e) qs).cells=qs:=by
 cases PC:aG P e with
 |true=>rfl
 |false=>
  have h1:aS P e=1:=ha.resolve_left (by simp[PC]);cases d with
  |zero=>exact h.elim
  |succ d=>
   unfold gb at h;unfold aG at PC;split at h
   ·obtain⟨b,rfl⟩:=h;rfl
   ·obtain⟨n,rfl,_⟩:=h;rfl
   ·obtain⟨s,rfl,_⟩:=h;rfl
   ·obtain⟨es,rfl,_⟩:=h;rfl
   ·simp_all
   ·simp_all
   ·exact h.elim
section
variable {P:Program} {w:World} {H:Type} {enc:TypeId×Value→H} {spare:Nat→Bool} {held:Bool}
theorem Hg{ok:TypeId→Bool}{size:Nat}:∀{fs:List Field}{off:Nat},uI P ok size fs off=true→off≤size
 |[],off,h=>by simp_all[uI,IT]
 |f::r,off,h=>by simp only[uI,aeu]at h;have:=Hg h.2;omega
theorem Xm{base:Nat}{a:Addr}{n:Nat}{cs:List Value}(h:w.cells? base a n=some cs):cs.length=n∧∀i v,cs[i]?=some v→w.cell? (a.add i)=some v:=by
 unfold World.cells? at h;split at h
 ·have key:∀(l:List Nat)(cs:List Value),l.mapM (fun i=>w.cell? (a.add i))=some cs→cs.length=l.length∧∀(i:Nat)(v:Value)(k:Nat),cs[i]?=some v→l[i]?=some k→w.cell? (a.add k)=some v:=by
   intro l;induction l with
   |nil=>simp
   |cons x l ih=>
    intro cs h;rw[aqF]at h;simp only[Option.pure_def,Option.bind_eq_bind,By]at h;obtain⟨v,hv,vs,hvs,h⟩:=h;simp only[tb]at h;subst h;obtain⟨h1,h2⟩:=ih vs hvs;refine⟨by simp[h1],fun i u k hi hk=>?_⟩;cases i with
    |zero=>simp at hi hk;subst hi;subst hk;exact hv
    |succ i=>exact h2 i u k (by simpa using hi) (by simpa using hk)
  obtain⟨h1,h2⟩:=key _ _ h;simp at h1;refine⟨h1,fun i v hi=>h2 i v i hi ?_⟩;exact apz (by have:=(IN.1 hi).1;omega)
 ·cases h
variable{v:Value}
theorem HG{a:Addr}(h:w.cell? a=some v):cellAt (kK w) a.block a.off=some v:=by
 unfold World.cell? at h;unfold cellAt kK;split at h
 ·rename_i hb;split at h
  ·cases h
  ·rw[hb];exact h
 ·cases h
theorem aan{M:Nat}:∀(d:Nat)(t:TypeId)(cs:List Value)(fuel:Nat)(x:DataW H×List MemPlace),xe P d t=true→DataW.trod enc P w 0 spare held fuel t cs=some x→(M=maxLen∨dB x.1≤M)→∃ps,ps.length=cs.length∧gb M P d t ps∧F2 P w ps cs:=by
 intro d;induction d with
 |zero=>intro t cs fuel x h;cases h
 |succ d ih=>
  intro t cs fuel x hp h hB;unfold xe at hp;split at hp
  ·rename_i hu;obtain⟨b,rfl,_⟩:=DataW.trod_bool hu h;exact⟨[.bool b],rfl,by unfold gb;rw[hu];exact⟨b,rfl⟩,.one .bool rfl⟩
  ·rename_i k hu;obtain⟨n,rfl,_,hw⟩:=DataW.trod_int hu h;exact⟨[.int k n],rfl,by unfold gb;rw[hu];exact⟨n,rfl,hw⟩,.one (.int hw) rfl⟩
  ·rename_i hu;obtain⟨s,rfl,hx,hw⟩:=DataW.trod_string hu h;have hlen:s.data.toList.length≤M:=by
    rcases hB with hB|hB
    ·subst hB;simpa using hw
    ·rw[hx]at hB;simp only[dB]at hB;omega
   refine⟨[.str s.data.toList],rfl,by unfold gb;rw[hu];exact⟨_,rfl,hlen⟩,.one ?_ rfl⟩;exact aq.str (P:=P) (μ:=kK w) (s:=s.data.toList) (by simpa using hw)
  ·rename_i e hu;simp only[aeu,aon]at hp;obtain⟨⟨Pa,eY⟩,PC⟩:=hp;rw[ao9]at eY;have PC:aG P e=true∨aS P e=1:=PC.imp id IT;rcases DataW.trod_slice hu h with⟨rfl,_⟩|⟨a,len,cap,elems,rest,n,_,rfl,hx,_,hlc,RD,G0,ey,_⟩
   ·exact⟨[.rs (aS P e) []],rfl,by unfold gb;rw[hu];exact⟨[],rfl,by simp,by simp⟩,.one .l5 rfl⟩
   ·have each:∀i,i<len→∃qs ci,ci.length=aS P e∧(∀j v,ci[j]?=some v→w.cell? ((a.add (i*aS P e)).add j)=some v)∧qs.length=aS P e∧gb M P d e qs∧F2 P w qs ci:=by intro i hi;have h1:=ey i hi;rw[ta (by omega)]at h1;obtain⟨ci,hci,htr⟩:=By.1 h1;obtain⟨c1,c2⟩:=Xm hci;obtain⟨qs,q1,q2,q3⟩:=ih e ci n _ Pa htr (hB.imp id fun hb=>by rw[hx]at hb;simp only[dB]at hb;have:=EP (aoi.2 ⟨_,an7 (show i<elems.length by omega),rfl⟩:(elems[i]'(by omega)).1∈elems.map (·.1));omega);exact⟨qs,ci,c1,c2,by rw[q1,c1];rfl,q2,q3⟩
    have YJ:∃f:Nat→List PV×List Value,∀i,i<len→(f i).2.length=aS P e∧(∀j v,(f i).2[j]?=some v→w.cell? ((a.add (i*aS P e)).add j)=some v)∧(f i).1.length=aS P e∧gb M P d e (f i).1∧F2 P w (f i).1 (f i).2:=by refine⟨fun i=>if h:i<len then((each i h).choose,(each i h).choose_spec.choose)else([],[]),fun i hi=>?_⟩;simp only[dif_pos hi];exact(each i hi).choose_spec.choose_spec
    obtain⟨f,hf⟩:=YJ;have OB:∀i x,((List.range len).map fun i=>F1 (aG P e) (f i).1)[i]?=some x→i<len∧x=F1 (aG P e) (f i).1:=fun i x hx=>by
     rw[AT]at hx;obtain⟨k,hk,rfl⟩:=alj.1 hx;have bF:i<len:=by have:=(IN.1 hk).1;simpa using this
     rw[apz bF]at hk;simp at hk;subst hk;exact⟨bF,rfl⟩
    have hlen:((List.range len).map fun i=>F1 (aG P e) (f i).1).length=len:=by simp
    refine⟨[.rs (aS P e) ((List.range len).map fun i=>F1 (aG P e) (f i).1)],rfl,?_,.one ?_ rfl⟩
    ·unfold gb;rw[hu];refine⟨_,rfl,by
      rw[hlen];rcases hB with hB|hB
      ·omega
      ·rw[hx]at hB;simp only[dB]at hB;have:=PB (elems.map (·.1));rw[te]at this;omega,fun x hx=>?_⟩
     obtain⟨i,hi⟩:=aoU hx;obtain⟨bF,rfl⟩:=OB i x hi;exact⟨_,rfl,(hf i bF).2.2.1,(hf i bF).2.2.2.1⟩
    ·by_cases h0:len=0
     ·subst h0;exact aq.Ox (P:=P) (μ:=kK w) RD
     ·have afd:a.spot=none:=by obtain⟨c1,c2,c3,_⟩:=hf 0 (by omega);have h1:(f 0).2[0]?=some ((f 0).2[0]'(by omega)):=ta (by omega);have:=World.cell?_spot (c2 0 _ h1);simpa[Addr.add]using this
      obtain⟨b,o,sp⟩:=a;simp only at afd;subst afd;have za:∀i x,((List.range len).map fun i=>F1 (aG P e) (f i).1)[i]?=some x→i<len∧x.cells=(f i).1:=fun i x hx=>by obtain⟨bF,rfl⟩:=OB i x hx;exact⟨bF,Xl PC (hf i bF).2.2.2.1 (hf i bF).2.2.1⟩
      have hX:∀i x j p,((List.range len).map fun i=>F1 (aG P e) (f i).1)[i]?=some x→x.cells[j]?=some p→(f i).1[j]?=some p∧(f i).2[j]?=some ((f i).2.getD j undef):=fun i x j p hx hj=>by
       obtain⟨bF,hc⟩:=za i x hx;rw[hc]at hj;refine⟨hj,?_⟩;obtain⟨c1,c2,c3,_⟩:=hf i bF;have:j<(f i).2.length:=by have:=(IN.1 hj).1;omega
       rw[ta this];simp[List.getD,this]
      have:=aq.rs (P:=P) (μ:=kK w) (sz:=aS P e) (es:=(List.range len).map fun i=>F1 (aG P e) (f i).1) (b:=b) (o:=o) (cap:=cap) (fun i j=>(f i).2.getD j undef) (by rw[hlen];exact hlc) RD (fun i x hx=>by obtain⟨bF,hc⟩:=za i x hx;rw[hc];exact(hf i bF).2.2.1) (fun i x j p hx hj=>by
        obtain⟨h1,h2⟩:=hX i x j p hx hj;have h3:=(hf i (za i x hx).1).2.1 j _ h2;have h4:=HG h3;rw[Addr.add_mid,Addr.add_mid]at h4;exact h4)
       (fun i x j p hx hj=>by obtain⟨h1,h2⟩:=hX i x j p hx hj;exact((hf i (za i x hx).1).2.2.2.2 j p _ h1 h2).1)
       (fun i x j p hx hj=>by obtain⟨h1,h2⟩:=hX i x j p hx hj;exact((hf i (za i x hx).1).2.2.2.2 j p _ h1 h2).2)
      rw[hlen]at this;exact this
  ·rename_i fs hu;obtain⟨xs,n,_,hx,qn,IJ,hfs⟩:=DataW.trod_struct hu h;have qn:cs.length=aS P t:=qn;have key:∀(l:List Field)(off:Nat),(∀f∈l,∃y,DataW.trod enc P w 0 spare held n f.type ((cs.drop f.offset).take (aS P f.type))=some y∧(M=maxLen∨dB y.1≤M))→uI P (xe P d) (aS P t) l off=true→∃ps,ps.length=cs.length-off∧Ay P (gb M P d) l ps∧F2 P w ps (cs.drop off):=by
    intro l;induction l with
    |nil=>intro off _ gg;have:=IT gg;exact⟨[],by simp;omega,rfl,by intro i p v hp;simp at hp⟩
    |cons f l ihl=>
     intro off hf gg;simp only[uI,aeu]at gg;obtain⟨⟨Wq,hpf⟩,gg⟩:=gg;have Wq:=IT Wq;obtain⟨y,hy,hyB⟩:=hf f (by simp);rw[Wq]at hy;have hle:=Hg gg;obtain⟨a,a1,a2,a3⟩:=ih f.type _ n y hpf hy hyB;obtain⟨b,b1,b2,b3⟩:=ihl _ (fun g hg=>hf g (by simp[hg])) gg;have G1:a.length=aS P f.type:=by rw[a1];simp;omega
     refine⟨a++b,by simp[G1,b1];omega,⟨a,b,rfl,G1,a2,b2⟩,F2.append (n:=aS P f.type) a3 (by rw[ap3];exact b3) G1⟩
   obtain⟨ps,p1,p2,p3⟩:=key fs.toList 0 (fun f hf=>by
    obtain⟨i,hi⟩:=aoU hf;have l8:fs[i]?=some f:=by rw[←aoS];exact hi
    have h1:=hfs i f l8;have bF:i<xs.length:=by have:=(T0.1 l8).1;omega
    rw[ta bF]at h1;exact⟨_,h1,hB.imp id fun hb=>by rw[hx]at hb;simp only[dB]at hb;have:=EP (aoi.2 ⟨_,an7 bF,rfl⟩:(xs[i]).1∈xs.map (·.1));omega⟩) hp
   exact⟨ps,by simpa using p1,by unfold gb;rw[hu];exact p2,by simpa using p3⟩
  ·rename_i n e hu;simp only[aeu]at hp;obtain⟨Pa,ou⟩:=hp;have ou:=IT ou;obtain⟨xs,m,_,hx,qn,IJ,hfs⟩:=DataW.trod_array hu h;have qn:cs.length=aS P t:=qn;have key:∀(k i:Nat),i+k=n→∃ps,ps.length=cs.length-i*aS P e∧aam (gb M P d e) (aS P e) k ps∧F2 P w ps (cs.drop (i*aS P e)):=by
    intro k;induction k with
    |zero=>
     intro i hi;have:i=n:=by omega
     subst this;exact⟨[],by simp;omega,rfl,by intro i p v hp;simp at hp⟩
    |succ k ihk=>
     intro i hi;have h1:=hfs i (by omega);rw[ta (by omega)]at h1;obtain⟨a,a1,a2,a3⟩:=ih e _ m _ Pa h1 (hB.imp id fun hb=>by rw[hx]at hb;simp only[dB]at hb;have:=EP (aoi.2 ⟨_,an7 (show i<xs.length by omega),rfl⟩:(xs[i]'(by omega)).1∈xs.map (·.1));omega);obtain⟨b,b1,b2,b3⟩:=ihk (i+1) (by omega);have yo:i*aS P e+aS P e≤cs.length:=by rw[qn,←ou];have:(i+1)*aS P e≤n*aS P e:=an8 _ (by omega);rw[aoV]at this;omega
     have G1:a.length=aS P e:=by rw[a1];show((cs.drop (i*aS P e)).take (aS P e)).length=aS P e;simp;omega
     refine⟨a++b,by simp[G1,b1,aoV];omega,⟨a,b,rfl,G1,a2,b2⟩,F2.append (n:=aS P e) a3 ?_ G1⟩;rw[ap3];rw[aoV,Nat.one_mul]at b3;exact b3
   obtain⟨ps,p1,p2,p3⟩:=key n 0 (by omega);exact⟨ps,by simpa using p1,by unfold gb;rw[hu];exact p2,by simpa using p3⟩
  ·cases hp
variable{places:List MemPlace}
theorem aao{M d:Nat}{t:TypeId}{y:DataW H}{r:Reach}{b0:Nat}(hp:xe P (d+1) t=true)(gg:Value.okWide P w r b0 t v)(h:DataW.Trod enc P w 0 spare held t v y places)(hB:M=maxLen∨dB y≤M):∃ps,gb M P (d+1) t ps∧aq P (kK w) (F1 (aG P t) ps) v:=by
 obtain⟨fuel,hf⟩:=h;obtain⟨ps,p1,p2,p3⟩:=aan (M:=M) (d+1) t _ fuel _ hp hf hB;refine⟨ps,p2,?_⟩;have agg:aG P t=true→(∃cs,v=.agg cs)→aq P (kK w) (F1 (aG P t) ps) v:=by
  rintro ha ⟨cs,rfl⟩;rw[ha];simp only[Value.cells]at p1 p3;exact .agg (by simpa using p1) (fun i p x hi hx=>(p3 i p x hi (by rw[aoS];exact hx)).1) fun i x hx=>by
   have bF:i<ps.length:=by have:=(T0.1 hx).1;simp at p1;omega
   exact(p3 i _ x (ta bF) (by rw[aoS];exact hx)).2
 have one:aG P t=false→v.cells= #[v]→(∃p,ps=[p])→aq P (kK w) (F1 (aG P t) ps) v:=by rintro ha hv ⟨p,rfl⟩;rw[ha];exact(p3 0 p v rfl (by rw[hv];rfl)).1
 unfold xe at hp;unfold gb at p2;split at hp
 ·rename_i hu;rw[hu]at p2;obtain⟨b,hb⟩:=WideShapes.okWide_bool hu gg;subst hb;obtain⟨b',jn⟩:=p2;exact one (by simp[aG,hu]) rfl ⟨_,jn⟩
 ·rename_i k hu;rw[hu]at p2;obtain⟨b,hb⟩:=WideShapes.okWide_int hu gg;subst hb;obtain⟨b',jn,_⟩:=p2;exact one (by simp[aG,hu]) rfl ⟨_,jn⟩
 ·rename_i hu;rw[hu]at p2;obtain⟨b,hb⟩:=WideShapes.okWide_string hu gg;subst hb;obtain⟨b',jn,_⟩:=p2;exact one (by simp[aG,hu]) rfl ⟨_,jn⟩
 ·rename_i e hu;rw[hu]at p2;obtain⟨a,len,cap,hb⟩:=WideShapes.okWide_slice hu gg;subst hb;obtain⟨b',jn,_⟩:=p2;exact one (by simp[aG,hu]) rfl ⟨_,jn⟩
 ·rename_i fs hu;refine agg (by simp[aG,hu]) ?_;simp only[Value.okWide,hu]at gg;obtain⟨cs,M7,_⟩:=gg;exact⟨cs,M7⟩
 ·rename_i n e hu;refine agg (by simp[aG,hu]) ?_;simp only[Value.okWide,hu]at gg;obtain⟨cs,M7,_⟩:=gg;exact⟨cs,M7⟩
 ·cases hp
theorem adX{d:Nat}{t:TypeId}{y:DataW H}{r:Reach}{b0:Nat}(hp:xe P (d+1) t=true)(gg:Value.okWide P w r b0 t v)(h:DataW.Trod enc P w 0 spare held t v y places):∃ps,Shp P (d+1) t ps∧aq P (kK w) (F1 (aG P t) ps) v:=aao hp gg h (.inl rfl)
end
end Go.Ab
