import Derived.Test.YtmbihgjlollbeaaGreatAbSeat
import Derived.WalkKit
import Derived.ProofKit
import Derived.OpenShut
import Derived.ShutString
import Derived.ChangeOld
set_option linter.unusedVariables false
set_option linter.unusedSimpArgs false
namespace Go.Ab
open Go.RowKit (Below)
def ve(agg:Bool)(qs:List PV):PV:=match agg with
 |true=>.agg qs
 |false=>qs.getD 0 .bad
def qk(P:Program)(ok:TypeId→Bool)(size:Nat):List Field→Nat→Bool
 |[],off=>Nat.beq off size
 |f::r,off=>Nat.beq f.offset off&&ok f.type&&qk P ok size r (off+aQ P f.type)
def qm(P:Program):Nat→TypeId→Bool
 |0,_=>false
 |d+1,t=>match P.underlying t with
  |some .bool=>true
  |some (.int _)=>true
  |some .string=>true
  |some (.slice e)=>qm P d e&&Nat.blt 0 (aQ P e)&&(ax P e||Nat.beq (aQ P e) 1)
  |some (.struct fs)=>qk P (qm P d) (aQ P t) fs.toList 0
  |some (.array n e)=>qm P d e&&Nat.beq (n*aQ P e) (aQ P t)
  |_=>false
def lW(P:Program)(shp:TypeId→List PV→Prop):List Field→List PV→Prop
 |[],ps=>ps=[]
 |f::r,ps=>∃a b,ps=a++b∧a.length=aQ P f.type∧shp f.type a∧lW P shp r b
def Vf(shp:List PV→Prop)(c:Nat):Nat→List PV→Prop
 |0,ps=>ps=[]
 |n+1,ps=>∃a b,ps=a++b∧a.length=c∧shp a∧Vf shp c n b
mutual
def dw{H:Type}:DataW H→Nat
 |.lit (.string b)=>b.length+1
 |.slice es _=>Kk es+1
 |.agg ps=>Kk ps+1
 |_=>1
def Kk{H:Type}:List (DataW H)→Nat
 |[]=>0
 |d::r=>dw d+Kk r
end
theorem XP{H:Type}(d:DataW H):1≤dw d:=by
 cases d with
 |lit l=>cases l<;>simp[dw]
 |_=>simp[dw]
theorem zF{H:Type}:∀{l:List (DataW H)}{d:DataW H},d∈l→dw d≤Kk l
 |x::r,d,h=>by
  simp only[Kk];rcases abX.1 h with rfl|h
  ·omega
  ·have:=zF h;omega
theorem Km{H:Type}:∀(l:List (DataW H)),l.length≤Kk l
 |[]=>by simp[Kk]
 |x::r=>by have:=Km r;have:=XP x;simp only[Kk,aiV];omega
def dR(M:Nat)(P:Program):Nat→TypeId→List PV→Prop
 |0,_,_=>False
 |d+1,t,ps=>match P.underlying t with
  |some .bool=>∃b,ps=[.bool b]
  |some (.int k)=>∃n,ps=[.int k n]∧(Lit.int k n).wf=true
  |some .string=>∃s:Bytes,ps=[.str s]∧s.length≤M
  |some (.slice e)=>∃es,ps=[.rs (aQ P e) es]∧es.length≤M∧∀x∈es,∃qs,x=ve (ax P e) qs∧qs.length=aQ P e∧dR M P d e qs
  |some (.struct fs)=>lW P (dR M P d) fs.toList ps
  |some (.array n e)=>Vf (dR M P d e) (aQ P e) n ps
  |_=>False
abbrev Shp(P:Program):Nat→TypeId→List PV→Prop:=dR maxLen P
def A0(P:Program)(w:World)(ps:List PV)(cs:List Value):Prop:=∀(i:Nat)p v,ps[i]?=some p→cs[i]?=some v→ah P (jf w) p v∧v.oneCell'=true
variable{P:Program}
theorem A0.one{w:World}{p:PV}{v:Value}(h:ah P (jf w) p v)(h1:v.oneCell'=true):A0 P w [p] [v]:=by intro i q u hq hu;grind
theorem A0.append{w:World}{a b:List PV}{cs:List Value}{n:Nat}(ha:A0 P w a (cs.take n))(hb:A0 P w b (cs.drop n))(hl:a.length=n):A0 P w (a++b) cs:=by
 intro i p v hp hv;rw[aiX]at hp;split at hp
 ·rename_i h;exact ha i p v hp (by simp_all)
 ·rename_i h;exact hb (i-a.length) p v hp (by simp_all)
theorem Sz{M d:Nat}{e:TypeId}{qs:List PV}(ha:ax P e=true∨aQ P e=1)(h:dR M P d e qs)(hl:qs.length=aQ P e):(ve (ax P e) qs).cells=qs:=by
 cases Kn:ax P e with
 |true=>rfl
 |false=>
  have h1:aQ P e=1:=ha.resolve_left (by simp[Kn]);cases d with
  |zero=>exact h.elim
  |succ d=>
   unfold dR at h;unfold ax at Kn;split at h
   ·obtain⟨b,rfl⟩:=h;rfl
   ·obtain⟨n,rfl,_⟩:=h;rfl
   ·obtain⟨s,rfl,_⟩:=h;rfl
   ·obtain⟨es,rfl,_⟩:=h;rfl
   ·simp_all
   ·simp_all
   ·exact h.elim
section
variable {P:Program} {w:World} {H:Type} {enc:TypeId×Value→H} {spare:Nat→Bool} {held:Bool}
theorem B4{ok:TypeId→Bool}{size:Nat}:∀{fs:List Field}{off:Nat},qk P ok size fs off=true→off≤size
 |[],off,h=>by simp_all[qk,BY]
 |f::r,off,h=>by simp only[qk,No]at h;have:=B4 h.2;omega
theorem SA{base:Nat}{a:Addr}{n:Nat}{cs:List Value}(h:w.cells? base a n=some cs):cs.length=n∧∀i v,cs[i]?=some v→w.cell? (a.add i)=some v:=by
 unfold World.cells? at h;split at h
 ·have key:∀(l:List Nat)(cs:List Value),l.mapM (fun i=>w.cell? (a.add i))=some cs→cs.length=l.length∧∀(i:Nat)(v:Value)(k:Nat),cs[i]?=some v→l[i]?=some k→w.cell? (a.add k)=some v:=by
   intro l;induction l with
   |nil=>simp
   |cons x l ih=>
    intro cs h;rw[akU]at h;simp only[Option.pure_def,Option.bind_eq_bind,cQ]at h;obtain⟨v,hv,vs,hvs,h⟩:=h;simp only[cN]at h;subst h;obtain⟨h1,h2⟩:=ih vs hvs;refine⟨by simp[h1],fun i u k hi hk=>?_⟩;cases i with
    |zero=>simp at hi hk;subst hi;subst hk;exact hv
    |succ i=>exact h2 i u k (by simpa using hi) (by simpa using hk)
  obtain⟨h1,h2⟩:=key _ _ h;simp at h1;refine⟨h1,fun i v hi=>h2 i v i hi ?_⟩;exact ajK (by have:=(AT.1 hi).1;omega)
 ·cases h
variable{v:Value}
theorem Cs{a:Addr}(h:w.cell? a=some v):cellAt (jf w) a.block a.off=some v:=by
 unfold World.cell? at h;unfold cellAt jf;split at h
 ·rename_i hb;split at h
  ·cases h
  ·rw[hb];exact h
 ·cases h
theorem Vg{M:Nat}:∀(d:Nat)(t:TypeId)(cs:List Value)(fuel:Nat)(x:DataW H×List MemPlace),qm P d t=true→DataW.trod enc P w 0 spare held fuel t cs=some x→(M=maxLen∨dw x.1≤M)→∃ps,ps.length=cs.length∧dR M P d t ps∧A0 P w ps cs:=by
 intro d;induction d with
 |zero=>intro t cs fuel x h;cases h
 |succ d ih=>
  intro t cs fuel x hp h hB;unfold qm at hp;split at hp
  ·rename_i hu;obtain⟨b,rfl,_⟩:=DataW.trod_bool hu h;exact⟨[.bool b],rfl,by unfold dR;rw[hu];exact⟨b,rfl⟩,.one .bool rfl⟩
  ·rename_i k hu;obtain⟨n,rfl,_,hw⟩:=DataW.trod_int hu h;exact⟨[.int k n],rfl,by unfold dR;rw[hu];exact⟨n,rfl,hw⟩,.one (.int hw) rfl⟩
  ·rename_i hu;obtain⟨s,rfl,hx,hw⟩:=DataW.trod_string hu h;have hlen:s.data.toList.length≤M:=by
    rcases hB with hB|hB
    ·subst hB;simpa using hw
    ·rw[hx]at hB;simp only[dw]at hB;omega
   refine⟨[.str s.data.toList],rfl,by unfold dR;rw[hu];exact⟨_,rfl,hlen⟩,.one ?_ rfl⟩;exact ah.str (P:=P) (μ:=jf w) (s:=s.data.toList) (by simpa using hw)
  ·rename_i e hu;simp only[No,aiI]at hp;obtain⟨⟨Fl,eB⟩,Kn⟩:=hp;rw[ajv]at eB;have Kn:ax P e=true∨aQ P e=1:=Kn.imp id BY;rcases DataW.trod_slice hu h with⟨rfl,_⟩|⟨a,len,cap,elems,rest,n,_,rfl,hx,_,hlc,Ul,CK,fh,_⟩
   ·exact⟨[.rs (aQ P e) []],rfl,by unfold dR;rw[hu];exact⟨[],rfl,by simp,by simp⟩,.one .jL rfl⟩
   ·have each:∀i,i<len→∃qs ci,ci.length=aQ P e∧(∀j v,ci[j]?=some v→w.cell? ((a.add (i*aQ P e)).add j)=some v)∧qs.length=aQ P e∧dR M P d e qs∧A0 P w qs ci:=by intro i hi;have h1:=fh i hi;rw[cO (by omega)]at h1;obtain⟨ci,hci,htr⟩:=cQ.1 h1;obtain⟨c1,c2⟩:=SA hci;obtain⟨qs,q1,q2,q3⟩:=ih e ci n _ Fl htr (hB.imp id fun hb=>by rw[hx]at hb;simp only[dw]at hb;have:=zF (aiR.2 ⟨_,aiZ (show i<elems.length by omega),rfl⟩:(elems[i]'(by omega)).1∈elems.map (·.1));omega);exact⟨qs,ci,c1,c2,by rw[q1,c1];rfl,q2,q3⟩
    have hch:∃f:Nat→List PV×List Value,∀i,i<len→(f i).2.length=aQ P e∧(∀j v,(f i).2[j]?=some v→w.cell? ((a.add (i*aQ P e)).add j)=some v)∧(f i).1.length=aQ P e∧dR M P d e (f i).1∧A0 P w (f i).1 (f i).2:=by refine⟨fun i=>if h:i<len then((each i h).choose,(each i h).choose_spec.choose)else([],[]),fun i hi=>?_⟩;simp only[alB hi];exact(each i hi).choose_spec.choose_spec
    obtain⟨f,hf⟩:=hch;have F8:∀i x,((List.range len).map fun i=>ve (ax P e) (f i).1)[i]?=some x→i<len∧x=ve (ax P e) (f i).1:=fun i x hx=>by
     rw[GP]at hx;obtain⟨k,hk,rfl⟩:=Yo.1 hx;have bT:i<len:=by have:=(AT.1 hk).1;simpa using this
     rw[ajK bT]at hk;simp at hk;subst hk;exact⟨bT,rfl⟩
    have hlen:((List.range len).map fun i=>ve (ax P e) (f i).1).length=len:=by simp
    refine⟨[.rs (aQ P e) ((List.range len).map fun i=>ve (ax P e) (f i).1)],rfl,?_,.one ?_ rfl⟩
    ·unfold dR;rw[hu];refine⟨_,rfl,by
      rw[hlen];rcases hB with hB|hB
      ·omega
      ·rw[hx]at hB;simp only[dw]at hB;have:=Km (elems.map (·.1));rw[ahj]at this;omega,fun x hx=>?_⟩
     obtain⟨i,hi⟩:=aiU hx;obtain⟨bT,rfl⟩:=F8 i x hi;exact⟨_,rfl,(hf i bT).2.2.1,(hf i bT).2.2.2.1⟩
    ·by_cases h0:len=0
     ·subst h0;exact ah.Jm (P:=P) (μ:=jf w) Ul
     ·have Zp:a.spot=none:=by obtain⟨c1,c2,c3,_⟩:=hf 0 (by omega);have h1:(f 0).2[0]?=some ((f 0).2[0]'(by omega)):=cO (by omega);have:=World.cell?_spot (c2 0 _ h1);simpa[Addr.add]using this
      obtain⟨b,o,sp⟩:=a;simp only at Zp;subst Zp;have tF:∀i x,((List.range len).map fun i=>ve (ax P e) (f i).1)[i]?=some x→i<len∧x.cells=(f i).1:=fun i x hx=>by obtain⟨bT,rfl⟩:=F8 i x hx;exact⟨bT,Sz Kn (hf i bT).2.2.2.1 (hf i bT).2.2.1⟩
      have hX:∀i x j p,((List.range len).map fun i=>ve (ax P e) (f i).1)[i]?=some x→x.cells[j]?=some p→(f i).1[j]?=some p∧(f i).2[j]?=some ((f i).2.getD j undef):=fun i x j p hx hj=>by
       obtain⟨bT,hc⟩:=tF i x hx;rw[hc]at hj;refine⟨hj,?_⟩;obtain⟨c1,c2,c3,_⟩:=hf i bT;have:j<(f i).2.length:=by have:=(AT.1 hj).1;omega
       rw[cO this];simp[List.getD,this]
      have:=ah.rs (P:=P) (μ:=jf w) (sz:=aQ P e) (es:=(List.range len).map fun i=>ve (ax P e) (f i).1) (b:=b) (o:=o) (cap:=cap) (fun i j=>(f i).2.getD j undef) (by rw[hlen];exact hlc) Ul (fun i x hx=>by obtain⟨bT,hc⟩:=tF i x hx;rw[hc];exact(hf i bT).2.2.1) (fun i x j p hx hj=>by
        obtain⟨h1,h2⟩:=hX i x j p hx hj;have h3:=(hf i (tF i x hx).1).2.1 j _ h2;have h4:=Cs h3;rw[Addr.add_mid,Addr.add_mid]at h4;exact h4)
       (fun i x j p hx hj=>by obtain⟨h1,h2⟩:=hX i x j p hx hj;exact((hf i (tF i x hx).1).2.2.2.2 j p _ h1 h2).1)
       (fun i x j p hx hj=>by obtain⟨h1,h2⟩:=hX i x j p hx hj;exact((hf i (tF i x hx).1).2.2.2.2 j p _ h1 h2).2)
      rw[hlen]at this;exact this
  ·rename_i fs hu;obtain⟨xs,n,_,hx,uU,F2,hfs⟩:=DataW.trod_struct hu h;have uU:cs.length=aQ P t:=uU;have key:∀(l:List Field)(off:Nat),(∀f∈l,∃y,DataW.trod enc P w 0 spare held n f.type ((cs.drop f.offset).take (aQ P f.type))=some y∧(M=maxLen∨dw y.1≤M))→qk P (qm P d) (aQ P t) l off=true→∃ps,ps.length=cs.length-off∧lW P (dR M P d) l ps∧A0 P w ps (cs.drop off):=by
    intro l;induction l with
    |nil=>intro off _ Cr;have:=BY Cr;exact⟨[],by simp;omega,rfl,by intro i p v hp;simp at hp⟩
    |cons f l ihl=>
     intro off hf Cr;simp only[qk,No]at Cr;obtain⟨⟨RN,hpf⟩,Cr⟩:=Cr;have RN:=BY RN;obtain⟨y,hy,hyB⟩:=hf f (by simp);rw[RN]at hy;have hle:=B4 Cr;obtain⟨a,a1,a2,a3⟩:=ih f.type _ n y hpf hy hyB;obtain⟨b,b1,b2,b3⟩:=ihl _ (fun g hg=>hf g (by simp[hg])) Cr;have RY:a.length=aQ P f.type:=by rw[a1];simp;omega
     refine⟨a++b,by simp[RY,b1];omega,⟨a,b,rfl,RY,a2,b2⟩,A0.append (n:=aQ P f.type) a3 (by rw[ajt];exact b3) RY⟩
   obtain⟨ps,p1,p2,p3⟩:=key fs.toList 0 (fun f hf=>by
    obtain⟨i,hi⟩:=aiU hf;have oc:fs[i]?=some f:=by rw[←aiM];exact hi
    have h1:=hfs i f oc;have bT:i<xs.length:=by have:=(OF.1 oc).1;omega
    rw[cO bT]at h1;exact⟨_,h1,hB.imp id fun hb=>by rw[hx]at hb;simp only[dw]at hb;have:=zF (aiR.2 ⟨_,aiZ bT,rfl⟩:(xs[i]).1∈xs.map (·.1));omega⟩) hp
   exact⟨ps,by simpa using p1,by unfold dR;rw[hu];exact p2,by simpa using p3⟩
  ·rename_i n e hu;simp only[No]at hp;obtain⟨Fl,mI⟩:=hp;have mI:=BY mI;obtain⟨xs,m,_,hx,uU,F2,hfs⟩:=DataW.trod_array hu h;have uU:cs.length=aQ P t:=uU;have key:∀(k i:Nat),i+k=n→∃ps,ps.length=cs.length-i*aQ P e∧Vf (dR M P d e) (aQ P e) k ps∧A0 P w ps (cs.drop (i*aQ P e)):=by
    intro k;induction k with
    |zero=>
     intro i hi;have:i=n:=by omega
     subst this;exact⟨[],by simp;omega,rfl,by intro i p v hp;simp at hp⟩
    |succ k ihk=>
     intro i hi;have h1:=hfs i (by omega);rw[cO (by omega)]at h1;obtain⟨a,a1,a2,a3⟩:=ih e _ m _ Fl h1 (hB.imp id fun hb=>by rw[hx]at hb;simp only[dw]at hb;have:=zF (aiR.2 ⟨_,aiZ (show i<xs.length by omega),rfl⟩:(xs[i]'(by omega)).1∈xs.map (·.1));omega);obtain⟨b,b1,b2,b3⟩:=ihk (i+1) (by omega);have Mo:i*aQ P e+aQ P e≤cs.length:=by rw[uU,←mI];have:(i+1)*aQ P e≤n*aQ P e:=ZG _ (by omega);rw[ajc]at this;omega
     have RY:a.length=aQ P e:=by rw[a1];show((cs.drop (i*aQ P e)).take (aQ P e)).length=aQ P e;simp;omega
     refine⟨a++b,by simp[RY,b1,ajc];omega,⟨a,b,rfl,RY,a2,b2⟩,A0.append (n:=aQ P e) a3 ?_ RY⟩;rw[ajt];rw[ajc,Nat.one_mul]at b3;exact b3
   obtain⟨ps,p1,p2,p3⟩:=key n 0 (by omega);exact⟨ps,by simpa using p1,by unfold dR;rw[hu];exact p2,by simpa using p3⟩
  ·cases hp
variable{places:List MemPlace}
theorem Vh{M d:Nat}{t:TypeId}{y:DataW H}{r:Reach}{b0:Nat}(hp:qm P (d+1) t=true)(Cr:Value.okWide P w r b0 t v)(h:DataW.Trod enc P w 0 spare held t v y places)(hB:M=maxLen∨dw y≤M):∃ps,dR M P (d+1) t ps∧ah P (jf w) (ve (ax P t) ps) v:=by
 obtain⟨fuel,hf⟩:=h;obtain⟨ps,p1,p2,p3⟩:=Vg (M:=M) (d+1) t _ fuel _ hp hf hB;refine⟨ps,p2,?_⟩;have agg:ax P t=true→(∃cs,v=.agg cs)→ah P (jf w) (ve (ax P t) ps) v:=by
  rintro ha ⟨cs,rfl⟩;rw[ha];simp only[Value.cells]at p1 p3;exact .agg (by simpa using p1) (fun i p x hi hx=>(p3 i p x hi (by rw[aiM];exact hx)).1) fun i x hx=>by
   have bT:i<ps.length:=by have:=(OF.1 hx).1;simp at p1;omega
   exact(p3 i _ x (cO bT) (by rw[aiM];exact hx)).2
 have one:ax P t=false→v.cells= #[v]→(∃p,ps=[p])→ah P (jf w) (ve (ax P t) ps) v:=by rintro ha hv ⟨p,rfl⟩;rw[ha];exact(p3 0 p v rfl (by rw[hv];rfl)).1
 unfold qm at hp;unfold dR at p2;split at hp
 ·rename_i hu;rw[hu]at p2;obtain⟨b,hb⟩:=WideShapes.okWide_bool hu Cr;subst hb;obtain⟨b',gN⟩:=p2;exact one (by simp[ax,hu]) rfl ⟨_,gN⟩
 ·rename_i k hu;rw[hu]at p2;obtain⟨b,hb⟩:=WideShapes.okWide_int hu Cr;subst hb;obtain⟨b',gN,_⟩:=p2;exact one (by simp[ax,hu]) rfl ⟨_,gN⟩
 ·rename_i hu;rw[hu]at p2;obtain⟨b,hb⟩:=WideShapes.okWide_string hu Cr;subst hb;obtain⟨b',gN,_⟩:=p2;exact one (by simp[ax,hu]) rfl ⟨_,gN⟩
 ·rename_i e hu;rw[hu]at p2;obtain⟨a,len,cap,hb⟩:=WideShapes.okWide_slice hu Cr;subst hb;obtain⟨b',gN,_⟩:=p2;exact one (by simp[ax,hu]) rfl ⟨_,gN⟩
 ·rename_i fs hu;refine agg (by simp[ax,hu]) ?_;simp only[Value.okWide,hu]at Cr;obtain⟨cs,Tz,_⟩:=Cr;exact⟨cs,Tz⟩
 ·rename_i n e hu;refine agg (by simp[ax,hu]) ?_;simp only[Value.okWide,hu]at Cr;obtain⟨cs,Tz,_⟩:=Cr;exact⟨cs,Tz⟩
 ·cases hp
theorem QW{d:Nat}{t:TypeId}{y:DataW H}{r:Reach}{b0:Nat}(hp:qm P (d+1) t=true)(Cr:Value.okWide P w r b0 t v)(h:DataW.Trod enc P w 0 spare held t v y places):∃ps,Shp P (d+1) t ps∧ah P (jf w) (ve (ax P t) ps) v:=Vh hp Cr h (.inl rfl)
end
end Go.Ab
