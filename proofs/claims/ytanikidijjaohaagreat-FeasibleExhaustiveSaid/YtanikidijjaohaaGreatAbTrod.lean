import Derived.Test.YtanikidijjaohaaGreatAbSeat
import Derived.WalkKit
import Derived.ProofKit
import Derived.OpenShut
import Derived.ShutString
import Derived.ChangeOld
set_option linter.unusedVariables false
set_option linter.unusedSimpArgs false
namespace Go.Ab
open Go.RowKit (Below)
def En(agg:Bool)(qs:List PV):PV:=match agg with
 |true=>.agg qs
 |false=>qs.getD 0 .bad
def sd(P:Program)(ok:TypeId→Bool)(size:Nat):List Field→Nat→Bool
 |[],off=>Nat.beq off size
 |f::r,off=>Nat.beq f.offset off&&ok f.type&&sd P ok size r (off+aV P f.type)
def se(P:Program):Nat→TypeId→Bool
 |0,_=>false
 |d+1,t=>match P.underlying t with
  |some .bool=>true
  |some (.int _)=>true
  |some .string=>true
  |some (.slice e)=>se P d e&&Nat.blt 0 (aV P e)&&(aF P e||Nat.beq (aV P e) 1)
  |some (.struct fs)=>sd P (se P d) (aV P t) fs.toList 0
  |some (.array n e)=>se P d e&&Nat.beq (n*aV P e) (aV P t)
  |_=>false
def Bh(P:Program)(shp:TypeId→List PV→Prop):List Field→List PV→Prop
 |[],ps=>ps=[]
 |f::r,ps=>∃a b,ps=a++b∧a.length=aV P f.type∧shp f.type a∧Bh P shp r b
def ack(shp:List PV→Prop)(c:Nat):Nat→List PV→Prop
 |0,ps=>ps=[]
 |n+1,ps=>∃a b,ps=a++b∧a.length=c∧shp a∧ack shp c n b
mutual
def dH{H:Type}:DataW H→Nat
 |.lit (.string b)=>b.length+1
 |.slice es _=>LS es+1
 |.agg ps=>LS ps+1
 |_=>1
def LS{H:Type}:List (DataW H)→Nat
 |[]=>0
 |d::r=>dH d+LS r
end
theorem aaf{H:Type}(d:DataW H):1≤dH d:=by
 cases d with
 |lit l=>cases l<;>simp[dH]
 |_=>simp[dH]
theorem Bi{H:Type}:∀{l:List (DataW H)}{d:DataW H},d∈l→dH d≤LS l
 |x::r,d,h=>by
  simp only[LS];rcases ah4.1 h with rfl|h
  ·omega
  ·have:=Bi h;omega
theorem LU{H:Type}:∀(l:List (DataW H)),l.length≤LS l
 |[]=>by simp[LS]
 |x::r=>by have:=LU r;have:=aaf x;simp only[LS,ajv];omega
def iB(M:Nat)(P:Program):Nat→TypeId→List PV→Prop
 |0,_,_=>False
 |d+1,t,ps=>match P.underlying t with
  |some .bool=>∃b,ps=[.bool b]
  |some (.int k)=>∃n,ps=[.int k n]∧(Lit.int k n).wf=true
  |some .string=>∃s:Bytes,ps=[.str s]∧s.length≤M
  |some (.slice e)=>∃es,ps=[.rs (aV P e) es]∧es.length≤M∧∀x∈es,∃qs,x=En (aF P e) qs∧qs.length=aV P e∧iB M P d e qs
  |some (.struct fs)=>Bh P (iB M P d) fs.toList ps
  |some (.array n e)=>ack (iB M P d e) (aV P e) n ps
  |_=>False
abbrev Shp(P:Program):Nat→TypeId→List PV→Prop:=iB maxLen P
def Cm(P:Program)(w:World)(ps:List PV)(cs:List Value):Prop:=∀(i:Nat)p v,ps[i]?=some p→cs[i]?=some v→ai P (kx w) p v∧v.oneCell'=true
variable{P:Program}
theorem Cm.one{w:World}{p:PV}{v:Value}(h:ai P (kx w) p v)(h1:v.oneCell'=true):Cm P w [p] [v]:=by intro i q u hq hu;grind
theorem Cm.append{w:World}{a b:List PV}{cs:List Value}{n:Nat}(ha:Cm P w a (cs.take n))(hb:Cm P w b (cs.drop n))(hl:a.length=n):Cm P w (a++b) cs:=by
 intro i p v hp hv;rw[ajZ]at hp;split at hp
 ·rename_i h;exact ha i p v hp (by simp_all)
 ·rename_i h;exact hb (i-a.length) p v hp (by simp_all)
theorem UE{M d:Nat}{e:TypeId}{qs:List PV}(ha:aF P e=true∨aV P e=1)(h:iB M P d e qs)(hl:qs.length=aV P e):(En (aF P e) qs).cells=qs:=by
 cases LV:aF P e with
 |true=>rfl
 |false=>
  have h1:aV P e=1:=ha.resolve_left (by simp[LV]);cases d with
  |zero=>exact h.elim
  |succ d=>
   unfold iB at h;unfold aF at LV;split at h
   ·obtain⟨b,rfl⟩:=h;rfl
   ·obtain⟨n,rfl,_⟩:=h;rfl
   ·obtain⟨s,rfl,_⟩:=h;rfl
   ·obtain⟨es,rfl,_⟩:=h;rfl
   ·simp_all
   ·simp_all
   ·exact h.elim
section
variable {P:Program} {w:World} {H:Type} {enc:TypeId×Value→H} {spare:Nat→Bool} {held:Bool}
theorem DC{ok:TypeId→Bool}{size:Nat}:∀{fs:List Field}{off:Nat},sd P ok size fs off=true→off≤size
 |[],off,h=>by simp_all[sd,No]
 |f::r,off,h=>by simp only[sd,T1]at h;have:=DC h.2;omega
theorem UF{base:Nat}{a:Addr}{n:Nat}{cs:List Value}(h:w.cells? base a n=some cs):cs.length=n∧∀i v,cs[i]?=some v→w.cell? (a.add i)=some v:=by
 unfold World.cells? at h;split at h
 ·have key:∀(l:List Nat)(cs:List Value),l.mapM (fun i=>w.cell? (a.add i))=some cs→cs.length=l.length∧∀(i:Nat)(v:Value)(k:Nat),cs[i]?=some v→l[i]?=some k→w.cell? (a.add k)=some v:=by
   intro l;induction l with
   |nil=>simp
   |cons x l ih=>
    intro cs h;rw[amo]at h;simp only[Option.pure_def,Option.bind_eq_bind,BY]at h;obtain⟨v,hv,vs,hvs,h⟩:=h;simp only[AT]at h;subst h;obtain⟨h1,h2⟩:=ih vs hvs;refine⟨by simp[h1],fun i u k hi hk=>?_⟩;cases i with
    |zero=>simp at hi hk;subst hi;subst hk;exact hv
    |succ i=>exact h2 i u k (by simpa using hi) (by simpa using hk)
  obtain⟨h1,h2⟩:=key _ _ h;simp at h1;refine⟨h1,fun i v hi=>h2 i v i hi ?_⟩;exact akW (by have:=(IS.1 hi).1;omega)
 ·cases h
variable{v:Value}
theorem DZ{a:Addr}(h:w.cell? a=some v):cellAt (kx w) a.block a.off=some v:=by
 unfold World.cell? at h;unfold cellAt kx;split at h
 ·rename_i hb;split at h
  ·cases h
  ·rw[hb];exact h
 ·cases h
theorem Xn{M:Nat}:∀(d:Nat)(t:TypeId)(cs:List Value)(fuel:Nat)(x:DataW H×List MemPlace),se P d t=true→DataW.trod enc P w 0 spare held fuel t cs=some x→(M=maxLen∨dH x.1≤M)→∃ps,ps.length=cs.length∧iB M P d t ps∧Cm P w ps cs:=by
 intro d;induction d with
 |zero=>intro t cs fuel x h;cases h
 |succ d ih=>
  intro t cs fuel x hp h hB;unfold se at hp;split at hp
  ·rename_i hu;obtain⟨b,rfl,_⟩:=DataW.trod_bool hu h;exact⟨[.bool b],rfl,by unfold iB;rw[hu];exact⟨b,rfl⟩,.one .bool rfl⟩
  ·rename_i k hu;obtain⟨n,rfl,_,hw⟩:=DataW.trod_int hu h;exact⟨[.int k n],rfl,by unfold iB;rw[hu];exact⟨n,rfl,hw⟩,.one (.int hw) rfl⟩
  ·rename_i hu;obtain⟨s,rfl,hx,hw⟩:=DataW.trod_string hu h;have hlen:s.data.toList.length≤M:=by
    rcases hB with hB|hB
    ·subst hB;simpa using hw
    ·rw[hx]at hB;simp only[dH]at hB;omega
   refine⟨[.str s.data.toList],rfl,by unfold iB;rw[hu];exact⟨_,rfl,hlen⟩,.one ?_ rfl⟩;exact ai.str (P:=P) (μ:=kx w) (s:=s.data.toList) (by simpa using hw)
  ·rename_i e hu;simp only[T1,ajA]at hp;obtain⟨⟨Hi,eF⟩,LV⟩:=hp;rw[akH]at eF;have LV:aF P e=true∨aV P e=1:=LV.imp id No;rcases DataW.trod_slice hu h with⟨rfl,_⟩|⟨a,len,cap,elems,rest,n,_,rfl,hx,_,hlc,Wq,Ek,ec,_⟩
   ·exact⟨[.rs (aV P e) []],rfl,by unfold iB;rw[hu];exact⟨[],rfl,by simp,by simp⟩,.one .lk rfl⟩
   ·have each:∀i,i<len→∃qs ci,ci.length=aV P e∧(∀j v,ci[j]?=some v→w.cell? ((a.add (i*aV P e)).add j)=some v)∧qs.length=aV P e∧iB M P d e qs∧Cm P w qs ci:=by intro i hi;have h1:=ec i hi;rw[AI (by omega)]at h1;obtain⟨ci,hci,htr⟩:=BY.1 h1;obtain⟨c1,c2⟩:=UF hci;obtain⟨qs,q1,q2,q3⟩:=ih e ci n _ Hi htr (hB.imp id fun hb=>by rw[hx]at hb;simp only[dH]at hb;have:=Bi (ajJ.2 ⟨_,ajz (show i<elems.length by omega),rfl⟩:(elems[i]'(by omega)).1∈elems.map (·.1));omega);exact⟨qs,ci,c1,c2,by rw[q1,c1];rfl,q2,q3⟩
    have Lu:∃f:Nat→List PV×List Value,∀i,i<len→(f i).2.length=aV P e∧(∀j v,(f i).2[j]?=some v→w.cell? ((a.add (i*aV P e)).add j)=some v)∧(f i).1.length=aV P e∧iB M P d e (f i).1∧Cm P w (f i).1 (f i).2:=by refine⟨fun i=>if h:i<len then((each i h).choose,(each i h).choose_spec.choose)else([],[]),fun i hi=>?_⟩;simp only[ana hi];exact(each i hi).choose_spec.choose_spec
    obtain⟨f,hf⟩:=Lu;have H2:∀i x,((List.range len).map fun i=>En (aF P e) (f i).1)[i]?=some x→i<len∧x=En (aF P e) (f i).1:=fun i x hx=>by
     rw[IT]at hx;obtain⟨k,hk,rfl⟩:=ah2.1 hx;have cd:i<len:=by have:=(IS.1 hk).1;simpa using this
     rw[akW cd]at hk;simp at hk;subst hk;exact⟨cd,rfl⟩
    have hlen:((List.range len).map fun i=>En (aF P e) (f i).1).length=len:=by simp
    refine⟨[.rs (aV P e) ((List.range len).map fun i=>En (aF P e) (f i).1)],rfl,?_,.one ?_ rfl⟩
    ·unfold iB;rw[hu];refine⟨_,rfl,by
      rw[hlen];rcases hB with hB|hB
      ·omega
      ·rw[hx]at hB;simp only[dH]at hB;have:=LU (elems.map (·.1));rw[OF]at this;omega,fun x hx=>?_⟩
     obtain⟨i,hi⟩:=ajX hx;obtain⟨cd,rfl⟩:=H2 i x hi;exact⟨_,rfl,(hf i cd).2.2.1,(hf i cd).2.2.2.1⟩
    ·by_cases h0:len=0
     ·subst h0;exact ai.G9 (P:=P) (μ:=kx w) Wq
     ·have abn:a.spot=none:=by obtain⟨c1,c2,c3,_⟩:=hf 0 (by omega);have h1:(f 0).2[0]?=some ((f 0).2[0]'(by omega)):=AI (by omega);have:=World.cell?_spot (c2 0 _ h1);simpa[Addr.add]using this
      obtain⟨b,o,sp⟩:=a;simp only at abn;subst abn;have vz:∀i x,((List.range len).map fun i=>En (aF P e) (f i).1)[i]?=some x→i<len∧x.cells=(f i).1:=fun i x hx=>by obtain⟨cd,rfl⟩:=H2 i x hx;exact⟨cd,UE LV (hf i cd).2.2.2.1 (hf i cd).2.2.1⟩
      have hX:∀i x j p,((List.range len).map fun i=>En (aF P e) (f i).1)[i]?=some x→x.cells[j]?=some p→(f i).1[j]?=some p∧(f i).2[j]?=some ((f i).2.getD j undef):=fun i x j p hx hj=>by
       obtain⟨cd,hc⟩:=vz i x hx;rw[hc]at hj;refine⟨hj,?_⟩;obtain⟨c1,c2,c3,_⟩:=hf i cd;have:j<(f i).2.length:=by have:=(IS.1 hj).1;omega
       rw[AI this];simp[List.getD,this]
      have:=ai.rs (P:=P) (μ:=kx w) (sz:=aV P e) (es:=(List.range len).map fun i=>En (aF P e) (f i).1) (b:=b) (o:=o) (cap:=cap) (fun i j=>(f i).2.getD j undef) (by rw[hlen];exact hlc) Wq (fun i x hx=>by obtain⟨cd,hc⟩:=vz i x hx;rw[hc];exact(hf i cd).2.2.1) (fun i x j p hx hj=>by
        obtain⟨h1,h2⟩:=hX i x j p hx hj;have h3:=(hf i (vz i x hx).1).2.1 j _ h2;have h4:=DZ h3;rw[Addr.add_mid,Addr.add_mid]at h4;exact h4)
       (fun i x j p hx hj=>by obtain⟨h1,h2⟩:=hX i x j p hx hj;exact((hf i (vz i x hx).1).2.2.2.2 j p _ h1 h2).1)
       (fun i x j p hx hj=>by obtain⟨h1,h2⟩:=hX i x j p hx hj;exact((hf i (vz i x hx).1).2.2.2.2 j p _ h1 h2).2)
      rw[hlen]at this;exact this
  ·rename_i fs hu;obtain⟨xs,n,_,hx,ux,HT,hfs⟩:=DataW.trod_struct hu h;have ux:cs.length=aV P t:=ux;have key:∀(l:List Field)(off:Nat),(∀f∈l,∃y,DataW.trod enc P w 0 spare held n f.type ((cs.drop f.offset).take (aV P f.type))=some y∧(M=maxLen∨dH y.1≤M))→sd P (se P d) (aV P t) l off=true→∃ps,ps.length=cs.length-off∧Bh P (iB M P d) l ps∧Cm P w ps (cs.drop off):=by
    intro l;induction l with
    |nil=>intro off _ zU;have:=No zU;exact⟨[],by simp;omega,rfl,by intro i p v hp;simp at hp⟩
    |cons f l ihl=>
     intro off hf zU;simp only[sd,T1]at zU;obtain⟨⟨TR,hpf⟩,zU⟩:=zU;have TR:=No TR;obtain⟨y,hy,hyB⟩:=hf f (by simp);rw[TR]at hy;have hle:=DC zU;obtain⟨a,a1,a2,a3⟩:=ih f.type _ n y hpf hy hyB;obtain⟨b,b1,b2,b3⟩:=ihl _ (fun g hg=>hf g (by simp[hg])) zU;have Jo:a.length=aV P f.type:=by rw[a1];simp;omega
     refine⟨a++b,by simp[Jo,b1];omega,⟨a,b,rfl,Jo,a2,b2⟩,Cm.append (n:=aV P f.type) a3 (by rw[akD];exact b3) Jo⟩
   obtain⟨ps,p1,p2,p3⟩:=key fs.toList 0 (fun f hf=>by
    obtain⟨i,hi⟩:=ajX hf;have ow:fs[i]?=some f:=by rw[←ajL];exact hi
    have h1:=hfs i f ow;have cd:i<xs.length:=by have:=(adp.1 ow).1;omega
    rw[AI cd]at h1;exact⟨_,h1,hB.imp id fun hb=>by rw[hx]at hb;simp only[dH]at hb;have:=Bi (ajJ.2 ⟨_,ajz cd,rfl⟩:(xs[i]).1∈xs.map (·.1));omega⟩) hp
   exact⟨ps,by simpa using p1,by unfold iB;rw[hu];exact p2,by simpa using p3⟩
  ·rename_i n e hu;simp only[T1]at hp;obtain⟨Hi,oh⟩:=hp;have oh:=No oh;obtain⟨xs,m,_,hx,ux,HT,hfs⟩:=DataW.trod_array hu h;have ux:cs.length=aV P t:=ux;have key:∀(k i:Nat),i+k=n→∃ps,ps.length=cs.length-i*aV P e∧ack (iB M P d e) (aV P e) k ps∧Cm P w ps (cs.drop (i*aV P e)):=by
    intro k;induction k with
    |zero=>
     intro i hi;have:i=n:=by omega
     subst this;exact⟨[],by simp;omega,rfl,by intro i p v hp;simp at hp⟩
    |succ k ihk=>
     intro i hi;have h1:=hfs i (by omega);rw[AI (by omega)]at h1;obtain⟨a,a1,a2,a3⟩:=ih e _ m _ Hi h1 (hB.imp id fun hb=>by rw[hx]at hb;simp only[dH]at hb;have:=Bi (ajJ.2 ⟨_,ajz (show i<xs.length by omega),rfl⟩:(xs[i]'(by omega)).1∈xs.map (·.1));omega);obtain⟨b,b1,b2,b3⟩:=ihk (i+1) (by omega);have N7:i*aV P e+aV P e≤cs.length:=by rw[ux,←oh];have:(i+1)*aV P e≤n*aV P e:=adq _ (by omega);rw[ake]at this;omega
     have Jo:a.length=aV P e:=by rw[a1];show((cs.drop (i*aV P e)).take (aV P e)).length=aV P e;simp;omega
     refine⟨a++b,by simp[Jo,b1,ake];omega,⟨a,b,rfl,Jo,a2,b2⟩,Cm.append (n:=aV P e) a3 ?_ Jo⟩;rw[akD];rw[ake,Nat.one_mul]at b3;exact b3
   obtain⟨ps,p1,p2,p3⟩:=key n 0 (by omega);exact⟨ps,by simpa using p1,by unfold iB;rw[hu];exact p2,by simpa using p3⟩
  ·cases hp
variable{places:List MemPlace}
theorem Xo{M d:Nat}{t:TypeId}{y:DataW H}{r:Reach}{b0:Nat}(hp:se P (d+1) t=true)(zU:Value.okWide P w r b0 t v)(h:DataW.Trod enc P w 0 spare held t v y places)(hB:M=maxLen∨dH y≤M):∃ps,iB M P (d+1) t ps∧ai P (kx w) (En (aF P t) ps) v:=by
 obtain⟨fuel,hf⟩:=h;obtain⟨ps,p1,p2,p3⟩:=Xn (M:=M) (d+1) t _ fuel _ hp hf hB;refine⟨ps,p2,?_⟩;have agg:aF P t=true→(∃cs,v=.agg cs)→ai P (kx w) (En (aF P t) ps) v:=by
  rintro ha ⟨cs,rfl⟩;rw[ha];simp only[Value.cells]at p1 p3;exact .agg (by simpa using p1) (fun i p x hi hx=>(p3 i p x hi (by rw[ajL];exact hx)).1) fun i x hx=>by
   have cd:i<ps.length:=by have:=(adp.1 hx).1;simp at p1;omega
   exact(p3 i _ x (AI cd) (by rw[ajL];exact hx)).2
 have one:aF P t=false→v.cells= #[v]→(∃p,ps=[p])→ai P (kx w) (En (aF P t) ps) v:=by rintro ha hv ⟨p,rfl⟩;rw[ha];exact(p3 0 p v rfl (by rw[hv];rfl)).1
 unfold se at hp;unfold iB at p2;split at hp
 ·rename_i hu;rw[hu]at p2;obtain⟨b,hb⟩:=WideShapes.okWide_bool hu zU;subst hb;obtain⟨b',iv⟩:=p2;exact one (by simp[aF,hu]) rfl ⟨_,iv⟩
 ·rename_i k hu;rw[hu]at p2;obtain⟨b,hb⟩:=WideShapes.okWide_int hu zU;subst hb;obtain⟨b',iv,_⟩:=p2;exact one (by simp[aF,hu]) rfl ⟨_,iv⟩
 ·rename_i hu;rw[hu]at p2;obtain⟨b,hb⟩:=WideShapes.okWide_string hu zU;subst hb;obtain⟨b',iv,_⟩:=p2;exact one (by simp[aF,hu]) rfl ⟨_,iv⟩
 ·rename_i e hu;rw[hu]at p2;obtain⟨a,len,cap,hb⟩:=WideShapes.okWide_slice hu zU;subst hb;obtain⟨b',iv,_⟩:=p2;exact one (by simp[aF,hu]) rfl ⟨_,iv⟩
 ·rename_i fs hu;refine agg (by simp[aF,hu]) ?_;simp only[Value.okWide,hu]at zU;obtain⟨cs,VM,_⟩:=zU;exact⟨cs,VM⟩
 ·rename_i n e hu;refine agg (by simp[aF,hu]) ?_;simp only[Value.okWide,hu]at zU;obtain⟨cs,VM,_⟩:=zU;exact⟨cs,VM⟩
 ·cases hp
theorem SS{d:Nat}{t:TypeId}{y:DataW H}{r:Reach}{b0:Nat}(hp:se P (d+1) t=true)(zU:Value.okWide P w r b0 t v)(h:DataW.Trod enc P w 0 spare held t v y places):∃ps,Shp P (d+1) t ps∧ai P (kx w) (En (aF P t) ps) v:=Xo hp zU h (.inl rfl)
end
end Go.Ab
