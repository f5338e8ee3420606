import Derived.Test.YteddgaennnfacaaGreatSh1
set_option linter.all false
set_option maxHeartbeats 4000000
namespace Go.Ab
noncomputable section
abbrev adA:=Int×Int×Int×Int×List PV×List PV×List PV×List PV×List PV×List PV×List PV×List PV×List PV×List PV×Int×Int×Int×List PV×Unit
abbrev ai1:=Int×List PV×Int×Int×Int×Int×Int×Int×PV×PV×PV×PV×PV×Int×Int×Int×Bytes×Int×Bool×Bool×List PV×List PV×List PV×List PV×List PV×List PV×List PV×List PV×List PV×List PV×List PV×Int×Int×Int×List PV×Unit
abbrev Pw:=Int×Int×List PV×List PV×List PV×List PV×List PV×List PV×List PV×List PV×List PV×List PV×Int×Int×Int×List PV×Unit
abbrev ai2:=List PV×Int×Int×Bool×Int×List PV×List PV×List PV×List PV×List PV×List PV×List PV×List PV×List PV×List PV×Int×Int×Int×List PV×PV×PV×PV×PV×PV×PV×PV×PV×Unit
abbrev ai3:=Int×List PV×Int×Int×Int×Int×Bytes×Int×Bool×Bool×Int×Int×Int×Bytes×Int×Bool×Bool×List PV×Unit
abbrev ai4:=Int×Int×List PV×Int×List PV×List PV×List PV×List PV×List PV×List PV×List PV×List PV×List PV×List PV×Int×Int×Int×List PV×Unit
abbrev ai5:=List PV×Int×Int×Int×Int×Bytes×Int×Bool×Bool×List PV×Unit
abbrev adB:=List PV×Int×List PV×List PV×List PV×List PV×List PV×List PV×List PV×List PV×List PV×List PV×Int×Int×Int×Unit
abbrev ai6:=List PV×Int×Int×List PV×List PV×List PV×List PV×List PV×List PV×List PV×List PV×List PV×List PV×Int×Int×Int×Unit
abbrev ai7:=List PV×Int×List PV×List PV×List PV×List PV×List PV×List PV×List PV×List PV×List PV×List PV×Int×Int×Int×List PV×Unit
def lh(L:bj)(vY:adA→Option PV):cL (ai1):=fun(a,b,c,d,e,f,g,h,i,j,k,l,m,n,o,_,q,r,s,t,_,v,w,y,z,A,B,C,D,E,F,G,H,I,J,_)=>fun p=>if decide (d<c)then bl b d fun u=>aC u 0 fun u=>M3 cq [.agg [i,j,k,l,m],u] fun u _=>jx gH [.rs 5 u,(ay (a*86400))] fun u=>(ah 5 u).bind fun u=>if(J++[Kh n o d q r s t u]).length*80≤ag∧0<80 then if(!decide ((↑(J++[Kh n o d q r s t u]).length:Int)≤1024))then if decide ((↑(J++[Kh n o d q r s t u]).length:Int)>1024)then some (PV.aG [.rs 8 [],.int .i64 5])else vY (e,f,g,ay (h+1),v,w,y,z,A,B,C,D,E,F,G,H,I,J++[Kh n o d q r s t u],())else p (a,b,c,ay (d+1),e,f,g,h,i,j,k,l,m,n,o,d,q,r,s,t,u,v,w,y,z,A,B,C,D,E,F,G,H,I,J++[Kh n o d q r s t u],())else none
else if decide ((↑J.length:Int)>1024)then some (PV.aG [.rs 8 [],.int .i64 5])else vY (e,f,g,ay (h+1),v,w,y,z,A,B,C,D,E,F,G,H,I,J,())
def tl(L:bj)(Pc:Pw→Option PV):cL (adA):=fun(a,b,c,d,e,f,g,h,i,j,k,l,m,n,o,p,q,r,_)=>fun s=>if decide (d<c)then bl i d fun t=>aC t 2 fun t=>dh gG [.rs 10 g,.rs 3 h,t,b] fun t=>if(!t)then if decide ((↑r.length:Int)>1024)then some (PV.aG [.rs 8 [],.int .i64 5])else s (a,b,c,ay (d+1),e,f,g,h,i,j,k,l,m,n,o,p,q,r,())else bl i d fun t=>(aT (t 0)).bind fun u=>aC t 1 fun v=>ET t 3 fun w=>dh cZ [.rs 4 j,d] fun x=>if(!x)then sE 5 t 4 fun x=>jx gH [.rs 5 x,(ay (b*86400))] fun x=>(ah 5 x).bind fun x=>if(r++[PV.agg [d,b,.int .i64 0,.str u,v,.bool w,.bool false,.rs 5 x]]).length*80≤ag∧0<80 then if decide ((↑(r++[PV.agg [d,b,.int .i64 0,.str u,v,.bool w,.bool false,.rs 5 x]]).length:Int)>1024)then some (PV.aG [.rs 8 [],.int .i64 5])else s (a,b,c,ay (d+1),e,f,g,h,i,j,k,l,m,n,o,p,q,r++[PV.agg [d,b,.int .i64 0,.str u,v,.bool w,.bool false,.rs 5 x]],())else none else jx eC [.rs 4 j,d] fun x=>(ah 1 x).bind fun x=>L.run (lh L s) (b,x,(↑x.length:Int),0,a,b,c,d,t 0,t 1,t 2,t 3,t 4,d,b,0,u,v,w,false,[],e,f,g,h,i,j,k,l,m,n,o,p,q,r,())
else Pc (a,ay (b+1),e,f,g,h,i,j,k,l,m,n,o,p,q,r,())
def zj(L:bj):cL (Pw):=fun(a,b,c,d,e,f,g,h,i,j,k,l,m,n,o,p,_)=>fun q=>if decide (b≤a)then L.run (tl L q) (a,b,(↑g.length:Int),0,c,d,e,f,g,h,i,j,k,l,m,n,o,p,())
else some (PV.aG [.rs 8 p,.int .i64 0])
def FL(L:bj)(p0 p1 p2:PV):Option PV:=zn p0 fun a b c d e f g h i j k l m=>bH p1 fun n=>bH p2 fun o=>L.run (zj L) (o,n,a,b,c,d,e,f,g,h,i,j,k,l,m,[],())
def vZ:List PV→Option PV|[p0,p1,p2]=>FL aX p0 p1 p2|_=>none
def vJ(L:bj)(p0 p1 p2:PV):Option PV:=zn p0 fun a b c d e f g h i j k l m=>bH p1 fun n=>bH p2 fun o=>M4 dW [vb a b c d e f g h i j k l m] fun _ _ p=>if(p !=0)then some (PV.aG [.rs 8 [],p])else dh df [n] fun p=>b8 (!p) (dh df [o] fun p=>some !p) fun p=>b8 p (some (decide (o<n))) fun p=>if p then some (PV.aG [.rs 8 [],.int .i64 11])else if decide (ay (o-n)≥8)then some (PV.aG [.rs 8 [],.int .i64 5])else afN vZ [vb a b c d e f g h i j k l m,n,o] fun p o=>some (PV.aG [.rs 8 p,o])
def lW:List PV→Option PV|[p0,p1,p2]=>vJ aX p0 p1 p2|_=>none
def wM(L:bj)(p0 p1 p2:PV):Option PV:=zn p0 fun a b c d e f g h i j k l m=>bH p1 fun n=>bH p2 fun o=>M4 dW [vb a b c d e f g h i j k l m] fun _ _ p=>if(p !=0)then some (PV.aG [.agg [.rs 0 [],.rs 0 [],.rs 0 [],.rs 0 [],.rs 0 [],.rs 0 [],.int .i64 0,.int .i64 0,.int .i64 0],p])else afN lW [vb a b c d e f g h i j k l m,n,o] fun p o=>if(o !=0)then some (PV.aG [.agg [.rs 0 [],.rs 0 [],.rs 0 [],.rs 0 [],.rs 0 [],.rs 0 [],.int .i64 0,.int .i64 0,.int .i64 0],o])else M3 tv [vb a b c d e f g h i j k l m,.rs 8 p] fun o h=>if(h !=0)then some (PV.aG [.agg [.rs 0 [],.rs 0 [],.rs 0 [],.rs 0 [],.rs 0 [],.rs 0 [],.int .i64 0,.int .i64 0,.int .i64 0],h])else aiL kV [.rs 4 i,(↑a.length:Int)] fun h i=>if(i !=0)then some (PV.aG [.agg [.rs 0 [],.rs 0 [],.rs 0 [],.rs 0 [],.rs 0 [],.rs 0 [],.int .i64 0,.int .i64 0,.int .i64 0],i])else jx mh [DH a b p o h j k l m] fun i=>zF 9 i fun _=>some (PV.aG [afO i,.int .i64 0])
def mi:List PV→Option PV|[p0,p1,p2]=>wM aX p0 p1 p2|_=>none
def pt(sC:List PV×Int×Int×Unit→Option PV):cL (akF):=fun(a,b,c,d,e,f,g,h,_)=>fun i=>if decide (d<c)then bl a d fun j=>aC j 0 fun j=>bH e fun k=>dz (j==k) (bl a d fun k=>aC k 1 fun k=>bH f fun j=>some (k==j)) fun j=>dz j (bl a d fun j=>ET j 3 fun j=>mcb h fun k=>some (j==k)) fun k=>if k then some (PV.aG [c,.int .i64 6])else i (a,b,c,ay (d+1),e,f,g,h,())
else sC (a,b,ay (c+1),())
def vc(L:bj):cL (List PV×Int×Int×Unit):=fun(a,b,c,_)=>fun d=>if decide (c<(↑a.length:Int))then bl a c fun e=>aC e 0 fun f=>b8 (decide (f<0)) (aC e 0 fun f=>some (decide (f≥b))) fun f=>b8 f (aC e 1 fun f=>some (decide (f<0))) fun f=>b8 f (aC e 1 fun f=>some (decide (f≥b))) fun f=>b8 f (aC e 0 fun f=>aC e 1 fun g=>some (f==g)) fun g=>if g then some (PV.aG [c,.int .i64 9])else aC e 2 fun g=>b8 (decide (g<1)) (aC e 2 fun g=>some (decide (g>14400))) fun g=>if g then some (PV.aG [c,.int .i64 2])else L.run (pt d) (a,b,c,0,e 0,e 1,e 2,e 3,())
else some (PV.aG [.int .i64 0,.int .i64 0])
def A7(L:bj)(p0 p1:PV):Option PV:=(ah 4 p0).bind fun a=>bH p1 fun b=>L.run (vc L) (a,b,0,())
def qX:List PV→Option PV|[p0,p1]=>A7 aX p0 p1|_=>none
def A8(L:bj)(p0 p1:PV):Option PV:=(ah 4 p0).bind fun a=>bH p1 fun b=>if decide ((↑a.length:Int)>512)then some (PV.aG [.int .i64 0,.int .i64 5])else fC qX [.rs 4 a,b] fun b a=>some (PV.aG [b,a])
def l6:List PV→Option PV|[p0,p1]=>A8 aX p0 p1|_=>none
def uv(L:bj)(afS:Wn→Option PV):cL (aiR):=fun(a,b,c,d,e,f,g,_)=>fun h=>if decide (e<b)then if(g++[PV.int .i64 1099511627776]).length*8≤ag∧0<8 then h (a,b,c,d,ay (e+1),f,g++[PV.int .i64 1099511627776],())else none
else if(f++[PV.mE 1 g]).length*24≤ag then afS (a,b,c,ay (d+1),f++[PV.mE 1 g],())else none
def oi(ai8:Int×Int×Int×List PV×Unit→Option PV):cL (Int×Int×Int×Int×List PV×Unit):=fun(a,b,c,d,e,_)=>fun f=>if decide (d<a)then Bx e c fun g=>(b9 1 (g 0)).bind fun _=>e[c.toNat]?.bind fun g=>(b9 1 (g 0)).bind fun g=>if ar b g.length then e[c.toNat]?.bind fun g=>(b9 1 (g 0)).bind fun g=>g[b.toNat]?.bind fun g=>aC g 0 fun g=>Bx e b fun h=>(b9 1 (h 0)).bind fun _=>e[b.toNat]?.bind fun h=>(b9 1 (h 0)).bind fun h=>if ar d h.length then e[b.toNat]?.bind fun h=>(b9 1 (h 0)).bind fun h=>h[d.toNat]?.bind fun h=>aC h 0 fun h=>Bx e c fun i=>(b9 1 (i 0)).bind fun _=>e[c.toNat]?.bind fun i=>(b9 1 (i 0)).bind fun i=>if ar d i.length then e[c.toNat]?.bind fun i=>(b9 1 (i 0)).bind fun i=>i[d.toNat]?.bind fun i=>aC i 0 fun i=>if decide (ay (g+h)<i)then Bx e c fun i=>(b9 1 (i 0)).bind fun _=>if ar c e.length then e[c.toNat]?.bind fun i=>(b9 1 (i 0)).bind fun _=>e[c.toNat]?.bind fun i=>(b9 1 (i 0)).bind fun i=>if ar b i.length then e[c.toNat]?.bind fun i=>(b9 1 (i 0)).bind fun i=>i[b.toNat]?.bind fun i=>aC i 0 fun i=>Bx e b fun h=>(b9 1 (h 0)).bind fun _=>e[b.toNat]?.bind fun h=>(b9 1 (h 0)).bind fun h=>if ar d h.length then e[b.toNat]?.bind fun h=>(b9 1 (h 0)).bind fun h=>h[d.toNat]?.bind fun h=>aC h 0 fun h=>e[c.toNat]?.bind fun g=>(b9 1 (g 0)).bind fun g=>if ar d g.length then e[c.toNat]?.bind fun g=>(b9 1 (g 0)).bind fun j=>j[d.toNat]?.bind fun k=>f (a,b,c,ay (d+1),e.set c.toNat (setRow 1 g 0 (PV.mE 1 (j.set d.toNat (setCells 1 k 0 1 (PV.int .i64 (ay (i+h))))))),())else none else none else none else none else f (a,b,c,ay (d+1),e,())else none else none else none
else ai8 (a,b,ay (c+1),e,())
def ot(L:bj)(ai9:Int×Int×List PV×Unit→Option PV):cL (Int×Int×Int×List PV×Unit):=fun(a,b,c,d,_)=>fun e=>if decide (c<a)then L.run (oi e) (a,b,c,0,d,())
else ai9 (a,ay (b+1),d,())
def ou(L:bj):cL (Int×Int×List PV×Unit):=fun(a,b,c,_)=>fun d=>if decide (b<a)then L.run (ot L d) (a,b,0,c,())
else some (PV.rs 1 (List.map PV.strip c))
def uw(L:bj):cL (Wn):=fun(a,b,c,d,e,_)=>fun f=>if decide (d<(↑a.length:Int))then bl a d fun g=>ET g 3 fun g=>b8 g (some !c) fun g=>dz g (bl a d fun g=>aC g 2 fun g=>bl a d fun h=>aC h 0 fun h=>Bx e h fun i=>(b9 1 (i 0)).bind fun _=>bl a d fun i=>aC i 1 fun i=>e[h.toNat]?.bind fun j=>(b9 1 (j 0)).bind fun j=>if ar i j.length then e[h.toNat]?.bind fun j=>(b9 1 (j 0)).bind fun j=>j[i.toNat]?.bind fun j=>aC j 0 fun j=>some (decide (g<j))else none) fun j=>if j then bl a d fun j=>aC j 0 fun j=>Bx e j fun g=>(b9 1 (g 0)).bind fun _=>bl a d fun g=>aC g 1 fun g=>bl a d fun i=>aC i 2 fun i=>e[j.toNat]?.bind fun h=>(b9 1 (h 0)).bind fun h=>if ar g h.length then e[j.toNat]?.bind fun h=>(b9 1 (h 0)).bind fun k=>k[g.toNat]?.bind fun l=>f (a,b,c,ay (d+1),e.set j.toNat (setRow 1 h 0 (PV.mE 1 (k.set g.toNat (setCells 1 l 0 1 (PV.int .i64 i))))),())else none else f (a,b,c,ay (d+1),e,())
else L.run (ou L) (b,0,e,())
def uu(L:bj):cL (Wn):=fun(a,b,c,d,e,_)=>fun f=>if decide (d<b)then L.run (uv L f) (a,b,c,d,0,e,[],())
else L.run (uw L) (a,b,c,0,e,())
def AG(L:bj)(p0 p1 p2:PV):Option PV:=(ah 4 p0).bind fun a=>bH p1 fun b=>mcb p2 fun c=>L.run (uu L) (a,b,c,0,[],())
def lV:List PV→Option PV|[p0,p1,p2]=>AG aX p0 p1 p2|_=>none
def kT(L:bj)(Er:Vo→Option PV):cL (aiS):=fun(a,b,c,d,e,f,_)=>fun g=>if decide (e<a)then b8 (d==e) (bl b d fun h=>sE 1 h 0 fun h=>bl h e fun h=>aC h 0 fun h=>some (decide (h>14400))) fun h=>if h then g (a,b,c,d,ay (e+1),f,())else bl b d fun h=>sE 1 h 0 fun h=>bl h e fun h=>aC h 0 fun h=>bl c d fun i=>sE 1 i 0 fun i=>bl i e fun i=>aC i 0 fun i=>bl b d fun j=>sE 1 j 0 fun j=>bl j e fun j=>aC j 0 fun j=>if(f++[PV.agg [d,e,h,.bool (i==j)]]).length*32≤ag∧0<32 then bl c d fun k=>sE 1 k 0 fun k=>bl k e fun k=>aC k 0 fun k=>bl b d fun l=>sE 1 l 0 fun l=>bl l e fun l=>aC l 0 fun l=>dz (decide (k>l)) (bl c d fun l=>sE 1 l 0 fun l=>bl l e fun l=>aC l 0 fun l=>some (decide (l≤14400))) fun l=>if l then bl c d fun l=>sE 1 l 0 fun l=>bl l e fun l=>aC l 0 fun l=>if(f++[PV.agg [d,e,h,.bool (i==j)]]++[PV.agg [d,e,l,.bool true]]).length*32≤ag∧0<32 then g (a,b,c,d,ay (e+1),f++[PV.agg [d,e,h,.bool (i==j)]]++[PV.agg [d,e,l,.bool true]],())else none else g (a,b,c,d,ay (e+1),f++[PV.agg [d,e,h,.bool (i==j)]],())else none
else Er (a,b,c,ay (d+1),f,())
def kU(L:bj):cL (Vo):=fun(a,b,c,d,e,_)=>fun f=>if decide (d<a)then L.run (kT L f) (a,b,c,d,0,e,())
else some (PV.rs 4 e)
def wK(L:bj)(p0 p1:PV):Option PV:=(ah 4 p0).bind fun a=>bH p1 fun b=>jx lV [.rs 4 a,b,.bool false] fun c=>(ah 1 c).bind fun c=>jx lV [.rs 4 a,b,.bool true] fun a=>(ah 1 a).bind fun a=>L.run (kU L) (b,c,a,0,[],())
def jB:List PV→Option PV|[p0,p1]=>wK aX p0 p1|_=>none
def AL(L:bj)(p0 p1:PV):Option PV:=(ah 4 p0).bind fun a=>bH p1 fun b=>if decide (b>64)then some (PV.aG [.rs 4 [],.int .i64 5])else fC l6 [.rs 4 a,b] fun _ c=>if(c !=0)then some (PV.aG [.rs 4 [],c])else jx jB [.rs 4 a,b] fun c=>(ah 4 c).bind fun c=>some (PV.aG [.rs 4 c,.int .i64 0])
def qD:List PV→Option PV|[p0,p1]=>AL aX p0 p1|_=>none
def A9(L:bj)(p0:PV):Option PV:=Pv p0 fun _ a b c=>dz (decide (a≥0)) (some (decide (a≤172800))) fun d=>dz d (some (decide (b≥0))) fun d=>dz d (some (decide (b≤172800))) fun d=>dz d (some (decide (a<b))) fun d=>dz d (some (decide (c≥1))) fun d=>dz d (some (decide (c≤86400))) fun d=>some (PV.bool d)
def jN:List PV→Option PV|[p0]=>A9 aX p0|_=>none
def zk:cL (afR):=fun(a,b,c,d,e,f,g,h,i,j,k,l,m,n,_)=>fun o=>if decide (a<(↑f.length:Int))then bl f a fun p=>sE 5 p 4 fun p=>if decide ((↑p.length:Int)>40)then some (PV.bool false)else o (ay (a+1),b,c,d,e,f,g,h,i,j,k,l,m,n,())
else some (PV.bool true)
def FM(L:bj)(p0:PV):Option PV:=zn p0 fun a b c d e f g h i j k l m=>b8 (decide ((↑a.length:Int)>70)) (some (decide ((↑b.length:Int)>70))) fun n=>b8 n (some (decide ((↑c.length:Int)>70))) fun n=>b8 n (some (decide ((↑d.length:Int)>70))) fun n=>b8 n (some (decide ((↑e.length:Int)>40))) fun n=>b8 n (some (decide ((↑f.length:Int)>70))) fun n=>b8 n (some (decide ((↑g.length:Int)>140))) fun n=>b8 n (some (decide ((↑h.length:Int)>140))) fun n=>b8 n (some (decide ((↑i.length:Int)>70))) fun n=>b8 n (some (decide ((↑j.length:Int)>20))) fun n=>if n then some (PV.bool false)else L.run zk (0,a,b,c,d,e,f,g,h,i,j,k,l,m,())
def wa:List PV→Option PV|[p0]=>FM aX p0|_=>none
def uY:cL (afR):=fun(a,b,c,d,e,f,g,h,i,j,k,l,m,n,_)=>fun o=>if decide (a<(↑g.length:Int))then bl g a fun p=>dh jN [l5 p] fun q=>dz q (aC p 2 fun q=>aC p 1 fun r=>aC p 3 fun p=>if p=0 then none else some (decide (ay ((ay (q-r)).tdiv p)>40))) fun p=>if p then some (PV.bool false)else o (ay (a+1),b,c,d,e,f,g,h,i,j,k,l,m,n,())
else some (PV.bool true)
def Ba(L:bj)(p0:PV):Option PV:=zn p0 fun a b c d e f g h i j k l m=>dh wa [vb a b c d e f g h i j k l m] fun n=>if(!n)then some (PV.bool false)else L.run uY (0,a,b,c,d,e,f,g,h,i,j,k,l,m,())
def qT:List PV→Option PV|[p0]=>Ba aX p0|_=>none
def xq:cL (List PV×Bytes×Int×Unit):=fun(a,b,c,_)=>fun d=>if decide (c<(↑a.length:Int))then bl a c fun e=>(aT (e 0)).bind fun e=>if(e==b)then some (c)else d (a,b,ay (c+1),())
else some (PV.int .i64 (-1))
def Du(L:bj)(p0 p1:PV):Option PV:=(ah 4 p0).bind fun a=>(aT p1).bind fun b=>L.run xq (a,b,0,())
def tx:List PV→Option PV|[p0,p1]=>Du aX p0 p1|_=>none
def lK:cL (Bytes×Int×Unit):=fun(a,b,_)=>fun c=>if decide (b<(↑(List.length a):Int))then(Ng a b).bind fun d=>dz (decide ((↑d.toNat:Int)≥65)) (some (decide ((↑d.toNat:Int)≤90))) fun e=>b8 e (dz (decide ((↑d.toNat:Int)≥97)) (some (decide ((↑d.toNat:Int)≤122))) fun e=>some e) fun e=>b8 e (dz (decide ((↑d.toNat:Int)≥48)) (some (decide ((↑d.toNat:Int)≤57))) fun e=>some e) fun e=>b8 e (some ((↑d.toNat:Int)==45)) fun e=>b8 e (some ((↑d.toNat:Int)==95)) fun e=>b8 e (some ((↑d.toNat:Int)==46)) fun e=>if(!e)then some (PV.bool false)else c (a,ay (b+1),())
else some (PV.bool true)
def qo(L:bj)(p0:PV):Option PV:=(aT p0).bind fun a=>b8 (decide ((↑(List.length a):Int)<1)) (some (decide ((↑(List.length a):Int)>32))) fun b=>if b then some (PV.bool false)else L.run lK (a,0,())
def ju:List PV→Option PV|[p0]=>qo aX p0|_=>none
def vd:cL (List PV×Int×Unit):=fun(a,b,_)=>fun c=>if decide (b<(↑a.length:Int))then bl a b fun d=>(aT (d 0)).bind fun d=>dh ju [.str d] fun d=>if(!d)then some (PV.aG [b,.int .i64 12])else bl a b fun d=>(aT (d 0)).bind fun d=>F2 tx [.rs 4 a,.str d] fun d=>if decide (d<b)then some (PV.aG [b,.int .i64 6])else bl a b fun d=>aC d 1 fun d=>b8 (decide (d<0)) (bl a b fun d=>aC d 1 fun d=>some (decide (d≥16))) fun d=>b8 d (bl a b fun d=>aC d 3 fun d=>some (decide (d<0))) fun d=>b8 d (bl a b fun d=>aC d 3 fun d=>some (decide (d>3600))) fun d=>if d then some (PV.aG [b,.int .i64 2])else c (a,ay (b+1),())
else some (PV.aG [.int .i64 0,.int .i64 0])
def Bb(L:bj)(p0:PV):Option PV:=(ah 4 p0).bind fun a=>if decide ((↑a.length:Int)>64)then some (PV.aG [.int .i64 0,.int .i64 5])else L.run vd (a,0,())
def qY:List PV→Option PV|[p0]=>Bb aX p0|_=>none
def vR(L:bj)(p0:PV):Option PV:=bH p0 fun a=>dz (decide (a≥0)) (some (decide (a≤36524))) fun a=>some (PV.bool a)
def dO:List PV→Option PV|[p0]=>vR aX p0|_=>none
def ve:cL (Bytes×Int×Unit):=fun(a,b,_)=>fun c=>if decide (b<(↑(List.length a):Int))then(Ng a b).bind fun d=>dz (decide ((↑d.toNat:Int)≥65)) (some (decide ((↑d.toNat:Int)≤90))) fun e=>b8 e (dz (decide ((↑d.toNat:Int)≥97)) (some (decide ((↑d.toNat:Int)≤122))) fun e=>some e) fun e=>dz (!e) (dz (decide ((↑d.toNat:Int)≥48)) (some (decide ((↑d.toNat:Int)≤57))) fun e=>some !e) fun e=>dz e (some ((↑d.toNat:Int) !=45)) fun e=>dz e (some ((↑d.toNat:Int) !=95)) fun e=>dz e (some ((↑d.toNat:Int) !=46)) fun e=>if e then some (PV.bool false)else c (a,ay (b+1),())
else some (PV.bool true)
def Bc(L:bj)(p0:PV):Option PV:=(aT p0).bind fun a=>b8 ((↑(List.length a):Int)==0) (some (decide ((↑(List.length a):Int)>32))) fun b=>if b then some (PV.bool false)else L.run ve (a,0,())
def l7:List PV→Option PV|[p0]=>Bc aX p0|_=>none
def pw(gm:List PV×Int×Unit→Option PV):cL (List PV×Int×Int×Unit):=fun(a,b,c,_)=>fun d=>if decide (c<b)then bl a c fun e=>(aT (e 0)).bind fun e=>bl a b fun f=>(aT (f 0)).bind fun f=>if(e==f)then some (PV.aG [b,.int .i64 6])else d (a,b,ay (c+1),())
else bl a b fun f=>aC f 8 fun f=>dh dO [f] fun f=>b8 (!f) (bl a b fun f=>aC f 9 fun f=>dh dO [f] fun f=>some !f) fun f=>b8 f (bl a b fun f=>aC f 8 fun f=>bl a b fun e=>aC e 9 fun e=>some (decide (f>e))) fun e=>if e then some (PV.aG [b,.int .i64 11])else gm (a,ay (b+1),())
def vf(L:bj):cL (List PV×Int×Unit):=fun(a,b,_)=>fun c=>if decide (b<(↑a.length:Int))then bl a b fun d=>(aT (d 0)).bind fun d=>dh l7 [.str d] fun d=>if(!d)then some (PV.aG [b,.int .i64 12])else L.run (pw c) (a,b,0,())
else some (PV.aG [.int .i64 0,.int .i64 0])
def Bd(L:bj)(p0:PV):Option PV:=(ah 10 p0).bind fun a=>if decide ((↑a.length:Int)>64)then some (PV.aG [.int .i64 0,.int .i64 5])else L.run (vf L) (a,0,())
def qZ:List PV→Option PV|[p0]=>Bd aX p0|_=>none
def eO(sC:List PV×Int×Int×Unit→Option PV):cL (List PV×Int×Int×Int×Unit):=fun(a,b,c,d,_)=>fun e=>if decide (d<c)then bl a d fun f=>aC f 0 fun f=>bl a c fun g=>aC g 0 fun g=>dz (f==g) (bl a d fun g=>aC g 1 fun g=>bl a c fun f=>aC f 1 fun f=>some (g==f)) fun f=>if f then some (PV.aG [c,.int .i64 6])else e (a,b,c,ay (d+1),())
else sC (a,b,ay (c+1),())
def gR(L:bj):cL (List PV×Int×Int×Unit):=fun(a,b,c,_)=>fun d=>if decide (c<(↑a.length:Int))then bl a c fun e=>aC e 0 fun e=>b8 (decide (e<0)) (bl a c fun e=>aC e 0 fun e=>some (decide (e≥b))) fun e=>if e then some (PV.aG [c,.int .i64 9])else bl a c fun e=>aC e 1 fun e=>dh dO [e] fun e=>if(!e)then some (PV.aG [c,.int .i64 11])else L.run (eO d) (a,b,c,0,())
else some (PV.aG [.int .i64 0,.int .i64 0])
def jR(L:bj)(p0 p1:PV):Option PV:=(ah 3 p0).bind fun a=>bH p1 fun b=>if decide ((↑a.length:Int)>256)then some (PV.aG [.int .i64 0,.int .i64 5])else L.run (gR L) (a,b,0,())
def fi:List PV→Option PV|[p0,p1]=>jR aX p0 p1|_=>none
def xr:cL (Bytes×Int×Unit):=fun(a,b,_)=>fun c=>if decide (b<(↑(List.length a):Int))then(Ng a b).bind fun d=>dz (decide ((↑d.toNat:Int)≥97)) (some (decide ((↑d.toNat:Int)≤122))) fun e=>b8 e (dz (decide ((↑d.toNat:Int)≥65)) (some (decide ((↑d.toNat:Int)≤90))) fun e=>some e) fun e=>b8 e (dz (decide ((↑d.toNat:Int)≥48)) (some (decide ((↑d.toNat:Int)≤57))) fun e=>some e) fun e=>b8 e (some ((↑d.toNat:Int)==45)) fun e=>b8 e (some ((↑d.toNat:Int)==95)) fun e=>b8 e (some ((↑d.toNat:Int)==46)) fun e=>if(!e)then some (PV.bool false)else c (a,ay (b+1),())
else some (PV.bool true)
def Dv(L:bj)(p0:PV):Option PV:=(aT p0).bind fun a=>b8 (decide ((↑(List.length a):Int)<1)) (some (decide ((↑(List.length a):Int)>32))) fun b=>if b then some (PV.bool false)else L.run xr (a,0,())
def pz:List PV→Option PV|[p0]=>Dv aX p0|_=>none
def Dw(L:bj)(p0:PV):Option PV:=bH p0 fun a=>dz (decide (a≥0)) (some (decide (a<8))) fun a=>some (PV.bool a)
def zo:List PV→Option PV|[p0]=>Dw aX p0|_=>none
def pA(gm:List PV×Int×Unit→Option PV):cL (List PV×Int×Int×Unit):=fun(a,b,c,_)=>fun d=>if decide (c<b)then bl a c fun e=>(aT (e 0)).bind fun e=>bl a b fun f=>(aT (f 0)).bind fun f=>if(e==f)then some (PV.aG [b,.int .i64 6])else d (a,b,ay (c+1),())
else bl a b fun f=>aC f 1 fun f=>dh zo [f] fun f=>if(!f)then some (PV.aG [b,.int .i64 2])else gm (a,ay (b+1),())
def vg(L:bj):cL (List PV×Int×Unit):=fun(a,b,_)=>fun c=>if decide (b<(↑a.length:Int))then bl a b fun d=>(aT (d 0)).bind fun d=>dh pz [.str d] fun d=>if(!d)then some (PV.aG [b,.int .i64 12])else L.run (pA c) (a,b,0,())
else some (PV.aG [.int .i64 0,.int .i64 0])
def Be(L:bj)(p0:PV):Option PV:=(ah 3 p0).bind fun a=>if decide ((↑a.length:Int)>64)then some (PV.aG [.int .i64 0,.int .i64 5])else L.run (vg L) (a,0,())
def q7:List PV→Option PV|[p0]=>Be aX p0|_=>none
def xt:cL (List PV×Bytes×Int×Unit):=fun(a,b,c,_)=>fun d=>if decide (c<(↑a.length:Int))then bl a c fun e=>(aT (e 0)).bind fun e=>if(e==b)then some (c)else d (a,b,ay (c+1),())
else some (PV.int .i64 (-1))
def Dx(L:bj)(p0 p1:PV):Option PV:=(ah 5 p0).bind fun a=>(aT p1).bind fun b=>L.run xt (a,b,0,())
def tz:List PV→Option PV|[p0,p1]=>Dx aX p0 p1|_=>none
def vh:cL (List PV×Int×Int×Unit):=fun(a,b,c,_)=>fun d=>if decide (c<(↑a.length:Int))then bl a c fun e=>aC e 0 fun e=>b8 (decide (e<0)) (bl a c fun e=>aC e 0 fun e=>some (decide (e≥b))) fun e=>if e then some (PV.int .i64 9)else dz (decide (c>0)) (bl a c fun e=>aC e 0 fun e=>bl a (ay (c-1)) fun f=>aC f 0 fun f=>some (e==f)) fun f=>if f then some (PV.int .i64 13)else bl a c fun f=>aC f 1 fun f=>b8 (decide (f<0)) (bl a c fun f=>aC f 1 fun f=>bl a c fun e=>aC e 2 fun e=>some (decide (f>e))) fun e=>b8 e (bl a c fun e=>aC e 2 fun e=>some (decide (e>172800))) fun e=>b8 e (dz (decide (c>0)) (bl a c fun e=>aC e 1 fun e=>bl a (ay (c-1)) fun f=>aC f 2 fun f=>some (decide (e<f))) fun f=>some f) fun f=>if f then some (PV.int .i64 10)else d (a,b,ay (c+1),())
else some (PV.int .i64 0)
def Bf(L:bj)(p0 p1:PV):Option PV:=(ah 5 p0).bind fun a=>bH p1 fun b=>b8 (decide ((↑a.length:Int)<2)) (some (decide ((↑a.length:Int)>32))) fun c=>if c then some (PV.int .i64 5)else L.run vh (a,b,0,())
def q8:List PV→Option PV|[p0,p1]=>Bf aX p0 p1|_=>none
def FN(L:bj)(p0 p1 p2 p3 p4:PV):Option PV:=(ah 5 p0).bind fun a=>bH p1 fun b=>bH p2 fun c=>bH p3 fun d=>bH p4 fun e=>bl a b fun f=>(aT (f 0)).bind fun g=>dh l7 [.str g] fun g=>if(!g)then some (PV.int .i64 12)else if(0:Int)≤0∧0≤b∧b≤(↑a.length:Int)∧5=5∧5≠0 then(aT (f 0)).bind fun g=>F2 tz [.rs 5 (List.drop (Int.toNat 0) (List.take b.toNat a)),.str g] fun g=>if decide (g≥0)then some (PV.int .i64 6)else aC f 1 fun g=>b8 (decide (g<0)) (aC f 1 fun g=>some (decide (g≥d))) fun g=>b8 g (aC f 2 fun g=>some (decide (g<0))) fun g=>b8 g (aC f 2 fun g=>some (decide (g≥e))) fun g=>if g then some (PV.int .i64 9)else sE 5 f 4 fun g=>F2 q8 [.rs 5 g,c] fun g=>some (g)else none
def wk:List PV→Option PV|[p0,p1,p2,p3,p4]=>FN aX p0 p1 p2 p3 p4|_=>none
def vi:cL (List PV×Int×Int×Int×Int×Unit):=fun(a,b,c,d,e,_)=>fun f=>if decide (e<(↑a.length:Int))then F2 wk [.rs 5 a,e,b,c,d] fun g=>if(g !=0)then some (PV.aG [e,g])else f (a,b,c,d,ay (e+1),())
else some (PV.aG [.int .i64 0,.int .i64 0])
def Bg(L:bj)(p0 p1 p2 p3:PV):Option PV:=(ah 5 p0).bind fun a=>bH p1 fun b=>bH p2 fun c=>bH p3 fun d=>if decide ((↑a.length:Int)>256)then some (PV.aG [.int .i64 0,.int .i64 5])else L.run vi (a,b,c,d,0,())
def q9:List PV→Option PV|[p0,p1,p2,p3]=>Bg aX p0 p1 p2 p3|_=>none
def Bh(L:bj)(p0:PV):Option PV:=Pv p0 fun _ a b c=>if c=0 then none else some ((ay (ay ((ay (ay (b-a)-1)).tdiv c)+1)))
def re:List PV→Option PV|[p0]=>Bh aX p0|_=>none
def Bi(L:bj)(p0 p1 p2:PV):Option PV:=bH p0 fun a=>bH p1 fun b=>bH p2 fun c=>b8 (decide (b<0)) (some (decide (b>172800))) fun d=>if d then some (PV.aG [.int .i64 0,.bool false])else if decide (a≥c)then if decide (IntKind.u64.wrap (IntKind.u64.wrap a-IntKind.u64.wrap c)>172800)then some (PV.aG [.int .i64 0,.bool false])else dz (decide (ay (b+ay (a-c))≥0)) (some (decide (ay (b+ay (a-c))≤172800))) fun d=>some (PV.aG [(ay (b+ay (a-c))),.bool d])else if decide (IntKind.u64.wrap (IntKind.u64.wrap c-IntKind.u64.wrap a)>172800)then some (PV.aG [.int .i64 0,.bool false])else dz (decide (ay (b+ay (a-c))≥0)) (some (decide (ay (b+ay (a-c))≤172800))) fun d=>some (PV.aG [(ay (b+ay (a-c))),.bool d])
def l8:List PV→Option PV|[p0,p1,p2]=>Bi aX p0 p1 p2|_=>none
def fZ(L:bj):cL (akA):=fun(a,b,c,d,e,f,g,h,i,_)=>fun j=>if decide (c<(↑h.length:Int))then bl h c fun k=>aC k 1 fun l=>G7 l8 [l,a,b] fun l m=>aC k 2 fun n=>G7 l8 [n,a,b] fun n o=>b8 (!m) (some !o) fun o=>if o then some (PV.aG [.rs 5 [],.int .i64 10])else aC k 0 fun o=>ET k 3 fun m=>ET k 4 fun k=>if(i++[PV.agg [o,l,n,.bool m,.bool k]]).length*32≤ag∧0<32 then j (a,b,ay (c+1),d,e,f,g,h,i++[PV.agg [o,l,n,.bool m,.bool k]],())else none
else some (PV.aG [.rs 5 i,.int .i64 0])
def vS(L:bj)(p0 p1:PV):Option PV:=Wl p0 fun a b c d e=>bH p1 fun f=>if((↑e.length:Int)==0)then some (PV.aG [.rs 5 [],.int .i64 16])else bl e 0 fun g=>aC g 2 fun g=>L.run (fZ L) (f,g,0,a,b,c,d,e,[],())
def fN:List PV→Option PV|[p0,p1]=>vS aX p0 p1|_=>none
def sG(L:bj):cL (akB):=fun(a,b,c,d,e,f,_)=>fun g=>if decide (a<d)then if(f++[PV.int .i64 a]).length*8≤ag∧0<8 then g (ay (a+e),b,c,d,e,f++[PV.int .i64 a],())else none
else some (PV.rs 1 f)
def td(L:bj)(p0:PV):Option PV:=Pv p0 fun a b c d=>dh jN [.agg [a,b,c,d]] fun e=>if(!e)then some (PV.rs 1 [])else L.run (sG L) (b,a,b,c,d,[],())
def ga:List PV→Option PV|[p0]=>td aX p0|_=>none
def Dy(L:bj)(p0 p1:PV):Option PV:=Wl p0 fun a b c d e=>Pv p1 fun f g h i=>jx ga [.agg [f,g,h,i]] fun i=>(ah 1 i).bind fun i=>bl i 0 fun h=>aC h 0 fun h=>M3 fN [acE a b c d e,h] fun _ h=>bl i (ay ((↑i.length:Int)-1)) fun i=>aC i 0 fun i=>M3 fN [acE a b c d e,i] fun _ i=>dz (h !=10) (some (i !=10)) fun i=>some (PV.bool i)
def tA:List PV→Option PV|[p0,p1]=>Dy aX p0 p1|_=>none
def vj(sC:List PV×List PV×Int×Unit→Option PV):cL (akC):=fun(a,b,c,d,e,f,g,h,i,j,_)=>fun k=>if decide (f≤c)then bl a f fun l=>aC l 0 fun l=>bH g fun m=>if(l !=m)then k (a,b,c,d,e,ay (f+1),g,h,i,j,())else bl a f fun m=>F2 re [l5 m] fun m=>dz (decide (f<c)) (bl a f fun l=>aC l 1 fun l=>bH i fun n=>some (decide (l<n))) fun n=>dz n (bH h fun n=>bl a f fun l=>aC l 2 fun l=>some (decide (n<l))) fun l=>if l then k (a,b,c,ay (d+m),true,ay (f+1),g,h,i,j,())else k (a,b,c,ay (d+m),e,ay (f+1),g,h,i,j,())
else if decide (d>256)then some (PV.aG [c,.int .i64 17])else if e then some (PV.aG [c,.int .i64 8])else sC (a,b,ay (c+1),())
def vk(L:bj):cL (List PV×List PV×Int×Unit):=fun(a,b,c,_)=>fun d=>if decide (c<(↑a.length:Int))then bl a c fun e=>aC e 0 fun f=>b8 (decide (f<0)) (aC e 0 fun f=>some (decide (f≥(↑b.length:Int)))) fun f=>if f then some (PV.aG [c,.int .i64 9])else dh jN [l5 e] fun f=>b8 (!f) (aC e 0 fun f=>bl b f fun f=>dh tA [aaN f,l5 e] fun f=>some !f) fun f=>if f then some (PV.aG [c,.int .i64 10])else L.run (vj d) (a,b,c,0,false,0,e 0,e 1,e 2,e 3,())
else some (PV.aG [.int .i64 0,.int .i64 0])
def Bj(L:bj)(p0 p1:PV):Option PV:=(ah 4 p0).bind fun a=>(ah 5 p1).bind fun b=>if decide ((↑a.length:Int)>64)then some (PV.aG [.int .i64 0,.int .i64 5])else L.run (vk L) (a,b,0,())
def rf:List PV→Option PV|[p0,p1]=>Bj aX p0 p1|_=>none
def zp:cL (List PV×Int×Int×Unit):=fun(a,b,c,_)=>fun d=>if decide (c<(↑a.length:Int))then bl a c fun e=>aC e 0 fun e=>if(e==b)then some (PV.bool true)else d (a,b,ay (c+1),())
else some (PV.bool false)
def FO(L:bj)(p0 p1:PV):Option PV:=(ah 1 p0).bind fun a=>bH p1 fun b=>L.run zp (a,b,0,())
def rS:List PV→Option PV|[p0,p1]=>FO aX p0 p1|_=>none
def xv:cL (List PV×Int×Int×Unit):=fun(a,b,c,_)=>fun d=>if decide (c<(↑a.length:Int))then bl a c fun e=>aC e 0 fun e=>if(e==b)then bl a c fun e=>aC e 1 fun e=>some (PV.aG [e,.bool true])else d (a,b,ay (c+1),())
else some (PV.aG [.int .i64 0,.bool false])
def Dz(L:bj)(p0 p1:PV):Option PV:=(ah 2 p0).bind fun a=>bH p1 fun b=>L.run xv (a,b,0,())
def pB:List PV→Option PV|[p0,p1]=>Dz aX p0 p1|_=>none
def pC(L:bj):cL (List PV×Int×Int×List PV×Unit):=fun(a,b,c,d,_)=>fun e=>if decide (c<b)then if ar (ay ((↑d.length:Int)-1)) d.length then d[(ay ((↑d.length:Int)-1)).toNat]?.bind fun f=>aC f 0 fun f=>G7 pB [.rs 2 a,f] fun f g=>b8 (!g) (dh rS [.rs 1 d,f] fun g=>some g) fun g=>if g then some (PV.rs 1 d)else if(d++[PV.int .i64 f]).length*8≤ag∧0<8 then e (a,b,ay (c+1),d++[PV.int .i64 f],())else none else none
else some (PV.rs 1 d)
def Bk(L:bj)(p0 p1:PV):Option PV:=(ah 2 p0).bind fun a=>bH p1 fun b=>L.run (pC L) (a,(↑a.length:Int),0,[b],())
def ri:List PV→Option PV|[p0,p1]=>Bk aX p0 p1|_=>none
def Ji(L:bj)(p0 p1:PV):Option PV:=bH p0 fun a=>bH p1 fun b=>dz (decide (a≥0)) (some (decide (a<b))) fun b=>some (PV.bool b)
def kF:List PV→Option PV|[p0,p1]=>Ji aX p0 p1|_=>none
def pD:cL (List PV×Int×Int×Unit):=fun(a,b,c,_)=>fun d=>if decide (c<(↑a.length:Int))then bl a c fun e=>aC e 0 fun e=>if(e==b)then some (PV.bool true)else d (a,b,ay (c+1),())
else some (PV.bool false)
def uS(L:bj)(p0 p1:PV):Option PV:=(ah 4 p0).bind fun a=>bH p1 fun b=>L.run pD (a,b,0,())
def eH:List PV→Option PV|[p0,p1]=>uS aX p0 p1|_=>none
def zq(L:bj):cL (List PV×Int×Int×PV×PV×Unit):=fun(a,b,c,d,e,_)=>fun f=>if decide (c<b)then bl a c fun g=>aC g 0 fun g=>bH d fun h=>b8 (g==h) (bl a c fun h=>aC h 1 fun h=>bH e fun g=>some (h==g)) fun g=>if g then some (PV.int .i64 6)else f (a,b,ay (c+1),d,e,())
else if(0:Int)≤0∧0≤b∧b≤(↑a.length:Int)∧2=2∧2≠0 then bH e fun g=>jx ri [.rs 2 (List.drop (Int.toNat 0) (List.take b.toNat a)),g] fun g=>(ah 1 g).bind fun g=>bH d fun f=>dh rS [.rs 1 g,f] fun f=>if f then some (PV.int .i64 19)else some (PV.int .i64 0)else none
def FP(L:bj)(p0 p1 p2 p3:PV):Option PV:=(ah 2 p0).bind fun a=>bH p1 fun b=>(ah 5 p2).bind fun c=>(ah 4 p3).bind fun d=>bl a b fun e=>aC e 0 fun f=>dh kF [f,(↑c.length:Int)] fun f=>b8 (!f) (aC e 1 fun f=>dh kF [f,(↑c.length:Int)] fun f=>some !f) fun f=>b8 f (aC e 0 fun f=>aC e 1 fun g=>some (f==g)) fun g=>if g then some (PV.int .i64 9)else aC e 0 fun g=>dh eH [.rs 4 d,g] fun g=>b8 g (aC e 1 fun g=>dh eH [.rs 4 d,g] fun g=>some g) fun g=>if g then some (PV.int .i64 17)else aC e 0 fun g=>bl c g fun g=>aC e 1 fun d=>bl c d fun d=>aC g 2 fun c=>aC d 2 fun f=>if(c !=f)then some (PV.int .i64 15)else sE 5 g 4 fun f=>b8 (decide (ay ((↑f.length:Int)-1)<0)) (sE 5 d 4 fun c=>some ((↑c.length:Int)==0)) fun c=>b8 c (sE 5 g 4 fun c=>bl c (ay ((↑f.length:Int)-1)) fun c=>aC c 0 fun c=>sE 5 d 4 fun h=>bl h 0 fun h=>aC h 0 fun h=>some (c !=h)) fun h=>if h then some (PV.int .i64 13)else sE 5 d 4 fun h=>bl h 0 fun h=>aC h 2 fun h=>sE 5 g 4 fun g=>bl g (ay ((↑f.length:Int)-1)) fun g=>aC g 1 fun g=>if decide (h<g)then some (PV.int .i64 10)else L.run (zq L) (a,b,0,e 0,e 1,())
def wm:List PV→Option PV|[p0,p1,p2,p3]=>FP aX p0 p1 p2 p3|_=>none
def vl:cL (akD):=fun(a,b,c,d,_)=>fun e=>if decide (d<(↑a.length:Int))then F2 wm [.rs 2 a,d,.rs 5 b,.rs 4 c] fun f=>if(f !=0)then some (PV.aG [d,f])else e (a,b,c,ay (d+1),())
else some (PV.aG [.int .i64 0,.int .i64 0])
def Bl(L:bj)(p0 p1 p2:PV):Option PV:=(ah 2 p0).bind fun a=>(ah 5 p1).bind fun b=>(ah 4 p2).bind fun c=>if decide ((↑a.length:Int)>128)then some (PV.aG [.int .i64 0,.int .i64 5])else L.run vl (a,b,c,0,())
def rj:List PV→Option PV|[p0,p1,p2]=>Bl aX p0 p1 p2|_=>none
def pE:cL (TY1):=fun(a,b,c,d,e,_)=>fun f=>if decide (ay (e+1)<(↑b.length:Int))then bl b e fun g=>aC g 0 fun g=>dz (g==c) (bl b e fun g=>ET g 3 fun g=>some g) fun g=>if g then bl b e fun g=>aC g 2 fun g=>bl a d fun h=>aC h 1 fun h=>if decide (g<h)then some (PV.aG [.int .i64 0,.int .i64 0,.bool false])else some (PV.aG [d,e,.bool true])else f (a,b,c,d,ay (e+1),())
else some (PV.aG [.int .i64 0,.int .i64 0,.bool false])
def vn(L:bj):cL (List PV×List PV×Int×Int×Unit):=fun(a,b,c,d,_)=>fun e=>if decide (d<(↑a.length:Int))then bl a d fun f=>aC f 0 fun f=>b8 (f !=c) (bl a d fun f=>ET f 4 fun f=>some !f) fun f=>if f then e (a,b,c,ay (d+1),())else L.run pE (a,b,c,d,0,())
else some (PV.aG [.int .i64 0,.int .i64 0,.bool false])
def Bm(L:bj)(p0 p1 p2:PV):Option PV:=(ah 5 p0).bind fun a=>(ah 5 p1).bind fun b=>bH p2 fun c=>L.run (vn L) (a,b,c,1,())
def l9:List PV→Option PV|[p0,p1,p2]=>Bm aX p0 p1 p2|_=>none
def nm:cL (akE):=fun(a,b,c,d,e,f,_)=>fun g=>if decide (c<b)then bl a c fun h=>if acC [h 0,h 1,h 2]=true∧acC [d,e,f]then if bM [h 0,h 1,h 2] [d,e,f]then some (PV.int .i64 6)else g (a,b,ay (c+1),d,e,f,())else none
else some (PV.int .i64 0)
def sx(L:bj)(p0 p1 p2 p3 p4:PV):Option PV:=(ah 3 p0).bind fun a=>bH p1 fun b=>(ah 5 p2).bind fun c=>(ah 4 p3).bind fun d=>bH p4 fun e=>bl a b fun f=>aC f 0 fun g=>dh kF [g,(↑c.length:Int)] fun g=>b8 (!g) (aC f 1 fun g=>dh kF [g,(↑c.length:Int)] fun g=>some !g) fun g=>b8 g (aC f 0 fun g=>aC f 1 fun h=>some (g==h)) fun h=>b8 h (aC f 2 fun h=>dh kF [h,e] fun h=>some !h) fun h=>if h then some (PV.int .i64 9)else aC f 0 fun h=>dh eH [.rs 4 d,h] fun h=>b8 h (aC f 1 fun h=>dh eH [.rs 4 d,h] fun h=>some h) fun h=>if h then some (PV.int .i64 17)else aC f 0 fun h=>bl c h fun h=>sE 5 h 4 fun h=>aC f 1 fun d=>bl c d fun d=>sE 5 d 4 fun d=>aC f 2 fun c=>Wj l9 [.rs 5 h,.rs 5 d,c] fun _ _ c=>if(!c)then some (PV.int .i64 19)else L.run nm (a,b,0,f 0,f 1,f 2,())
def kg:List PV→Option PV|[p0,p1,p2,p3,p4]=>sx aX p0 p1 p2 p3 p4|_=>none
def gS:cL (afQ):=fun(a,b,c,d,e,_)=>fun f=>if decide (e<(↑a.length:Int))then F2 kg [.rs 3 a,e,.rs 5 b,.rs 4 c,d] fun g=>if(g !=0)then some (PV.aG [e,g])else f (a,b,c,d,ay (e+1),())
else some (PV.aG [.int .i64 0,.int .i64 0])
def jS(L:bj)(p0 p1 p2 p3:PV):Option PV:=(ah 3 p0).bind fun a=>(ah 5 p1).bind fun b=>(ah 4 p2).bind fun c=>bH p3 fun d=>if decide ((↑a.length:Int)>128)then some (PV.aG [.int .i64 0,.int .i64 5])else L.run gS (a,b,c,d,0,())
def fj:List PV→Option PV|[p0,p1,p2,p3]=>jS aX p0 p1 p2 p3|_=>none
def y9(L:bj)(p0 p1 p2:PV):Option PV:=bH p0 fun a=>bH p1 fun b=>bH p2 fun c=>dz (decide (a≥b)) (some (decide (a≤c))) fun c=>some (PV.bool c)
def da:List PV→Option PV|[p0,p1,p2]=>y9 aX p0 p1 p2|_=>none
def Bn(L:bj)(p0:PV):Option PV:=zF 6 p0 fun _=>(aT (p0 0)).bind fun _=>aC p0 1 fun a=>aC p0 2 fun b=>aC p0 3 fun c=>aC p0 4 fun d=>aC p0 5 fun e=>dh da [a,.int .i64 0,.int .i64 1000000] fun a=>dz a (dh da [b,.int .i64 1,.int .i64 8] fun a=>some a) fun a=>dz a (dh da [c,.int .i64 1,.int .i64 16] fun a=>some a) fun a=>dz a (dh da [d,.int .i64 0,.int .i64 86400] fun a=>some a) fun a=>dz a (dh da [e,.int .i64 1,.int .i64 255] fun a=>some a) fun a=>some (PV.bool a)
def rn:List PV→Option PV|[p0]=>Bn aX p0|_=>none
def pF(Px:List PV×Int×Unit→Option PV):cL (List PV×Int×Int×Unit):=fun(a,b,c,_)=>fun d=>if decide (c<b)then bl a c fun e=>(aT (e 0)).bind fun e=>bl a b fun f=>(aT (f 0)).bind fun f=>if(e==f)then some (PV.aG [b,.int .i64 6])else d (a,b,ay (c+1),())
else bl a b fun f=>dh rn [akk f] fun f=>if(!f)then some (PV.aG [b,.int .i64 2])else Px (a,ay (b+1),())
def vo(L:bj):cL (List PV×Int×Unit):=fun(a,b,_)=>fun c=>if decide (b<(↑a.length:Int))then bl a b fun d=>(aT (d 0)).bind fun d=>dh pz [.str d] fun d=>if(!d)then some (PV.aG [b,.int .i64 12])else L.run (pF c) (a,b,0,())
else some (PV.aG [.int .i64 0,.int .i64 0])
def Bo(L:bj)(p0:PV):Option PV:=aaO p0 fun a b c d=>dh da [b,.int .i64 0,.int .i64 1000000] fun b=>b8 (!b) (dh da [c,.int .i64 0,.int .i64 86400] fun b=>some !b) fun b=>b8 b (dh da [d,.int .i64 0,.int .i64 1000000] fun b=>some !b) fun b=>if b then some (PV.aG [.int .i64 (-1),.int .i64 2])else if decide ((↑a.length:Int)>16)then some (PV.aG [.int .i64 0,.int .i64 5])else L.run (vo L) (a,0,())
def rq:List PV→Option PV|[p0]=>Bo aX p0|_=>none
def DA(L:bj)(p0 p1:PV):Option PV:=zn p0 fun a b c d e f g h i j k l m=>bH p1 fun n=>if(n==0)then fC qY [.rs 4 a] fun o p=>some (PV.aG [o,p])else if(n==1)then fC q7 [.rs 3 b] fun p o=>some (PV.aG [p,o])else if(n==2)then fC qZ [.rs 10 c] fun o p=>some (PV.aG [o,p])else if(n==3)then fC fi [.rs 3 d,(↑c.length:Int)] fun p o=>some (PV.aG [p,o])else if(n==4)then fC q9 [.rs 5 e,(↑a.length:Int),(↑b.length:Int),(↑c.length:Int)] fun o p=>some (PV.aG [o,p])else if(n==5)then fC rf [.rs 4 f,.rs 5 e] fun p o=>some (PV.aG [p,o])else if(n==6)then fC rj [.rs 2 g,.rs 5 e,.rs 4 f] fun o p=>some (PV.aG [o,p])else if(n==7)then fC fj [.rs 3 h,.rs 5 e,.rs 4 f,(↑a.length:Int)] fun p o=>some (PV.aG [p,o])else if(n==8)then fC l6 [.rs 4 i,(↑a.length:Int)] fun o p=>some (PV.aG [o,p])else fC rq [.agg [.rs 6 j,k,l,m]] fun p o=>some (PV.aG [p,o])
def tB:List PV→Option PV|[p0,p1]=>DA aX p0 p1|_=>none
def Bz:cL (afR):=fun(a,b,c,d,e,f,g,h,i,j,k,l,m,n,_)=>fun o=>if decide (a<10)then fC tB [vb b c d e f g h i j k l m n,a] fun p q=>if(q !=0)then some (PV.aG [a,p,q])else o (ay (a+1),b,c,d,e,f,g,h,i,j,k,l,m,n,())
else some (PV.aG [.int .i64 0,.int .i64 0,.int .i64 0])
def Bp(L:bj)(p0:PV):Option PV:=zn p0 fun a b c d e f g h i j k l m=>L.run Bz (0,a,b,c,d,e,f,g,h,i,j,k,l,m,())
def jM:List PV→Option PV|[p0]=>Bp aX p0|_=>none
def xo:cL (List PV×Int×Int×Int×Unit):=fun(a,b,c,d,_)=>fun e=>if decide (d<(↑a.length:Int))then bl a d fun f=>aC f 0 fun f=>dz (f==b) (bl a d fun f=>aC f 1 fun f=>some (f==c)) fun f=>if f then some (d)else e (a,b,c,ay (d+1),())
else some (PV.int .i64 (-1))
def DB(L:bj)(p0 p1 p2:PV):Option PV:=(ah 8 p0).bind fun a=>bH p1 fun b=>bH p2 fun c=>L.run xo (a,b,c,0,())
def ll:List PV→Option PV|[p0,p1,p2]=>DB aX p0 p1 p2|_=>none
def jL(L:bj):cL (ai2):=fun(a,b,c,d,e,f,g,h,i,j,k,l,m,n,o,p,q,r,s,t,u,v,w,y,z,A,B,_)=>fun x=>if decide (e<(↑m.length:Int))then bl m e fun C=>aC C 0 fun D=>bH t fun E=>if(D !=E)then x (a,b,c,d,ay (e+1),f,g,h,i,j,k,l,m,n,o,p,q,r,s,t,u,v,w,y,z,A,B,())else aC C 1 fun E=>bH u fun D=>F2 ll [.rs 8 a,E,D] fun D=>if decide (D<0)then x (a,b,c,d,ay (e+1),f,g,h,i,j,k,l,m,n,o,p,q,r,s,t,u,v,w,y,z,A,B,())else(ah 5 B).bind fun E=>bl a D fun F=>sE 5 F 7 fun F=>aC C 2 fun G=>Wj l9 [.rs 5 E,.rs 5 F,G] fun G F _=>dz d (aC C 1 fun C=>some (c==C)) fun C=>dz C ((ah 5 B).bind fun C=>some (G==ay ((↑C.length:Int)-1))) fun C=>dz C (some (F==0)) fun C=>if C then x (a,b,c,d,ay (e+1),f,g,h,i,j,k,l,m,n,o,p,q,r,s,t,u,v,w,y,z,A,B,())else if(s++[acD b G D F false]).length*40≤ag∧0<40 then x (a,b,c,d,ay (e+1),f,g,h,i,j,k,l,m,n,o,p,q,r,s++[acD b G D F false],t,u,v,w,y,z,A,B,())else none
else some (PV.rs 5 s)
def DC(L:bj)(p0 p1 p2:PV):Option PV:=zn p0 fun a b c d e f g h i j k l m=>(ah 8 p1).bind fun n=>bH p2 fun o=>bl n o fun p=>aC p 0 fun q=>G7 pB [.rs 2 g,q] fun q r=>if r then aC p 1 fun s=>F2 ll [.rs 8 n,q,s] fun s=>if decide (s≥0)then sE 5 p 7 fun t=>L.run (jL L) (n,o,q,r,0,a,b,c,d,e,f,g,h,i,j,k,l,m,[PV.agg [o,(ay ((↑t.length:Int)-1)),s,.int .i64 0,.bool true]],p 0,p 1,p 2,p 3,p 4,p 5,p 6,p 7,())else L.run (jL L) (n,o,q,r,0,a,b,c,d,e,f,g,h,i,j,k,l,m,[],p 0,p 1,p 2,p 3,p 4,p 5,p 6,p 7,())else L.run (jL L) (n,o,q,r,0,a,b,c,d,e,f,g,h,i,j,k,l,m,[],p 0,p 1,p 2,p 3,p 4,p 5,p 6,p 7,())
def tu:List PV→Option PV|[p0,p1,p2]=>DC aX p0 p1 p2|_=>none
def xg(L:bj)(p0:PV):Option PV:=bH p0 fun a=>dh dO [a] fun b=>if(!b)then some (PV.aG [.int .i64 0,.bool false])else some (PV.aG [((ay (a+5)).tmod 7),.bool true])
def my:List PV→Option PV|[p0]=>xg aX p0|_=>none
def sB(L:bj):cL (TY1):=fun(a,b,c,d,e,_)=>fun f=>if decide (e<(↑b.length:Int))then bl b e fun g=>aC g 0 fun g=>dz (g==c) (bl b e fun g=>aC g 1 fun g=>some (g==d)) fun g=>if g then bl b e fun g=>ET g 2 fun g=>if g then some (PV.int .i64 2)else some (PV.int .i64 3)else f (a,b,c,d,ay (e+1),())
else bl a c fun g=>aC g 8 fun g=>b8 (decide (d<g)) (bl a c fun g=>aC g 9 fun g=>some (decide (d>g))) fun g=>if g then some (PV.int .i64 5)else G7 my [d] fun g _=>bl a c fun f=>if ar g 7∧0<1 then(List.drop (g.toNat*1) [f 1,f 2,f 3,f 4,f 5,f 6,f 7,f 8,f 9]).head?.bind fun f=>mcb f fun f=>if f then some (PV.int .i64 1)else some (PV.int .i64 4)else none
def za(L:bj)(p0 p1 p2 p3:PV):Option PV:=(ah 10 p0).bind fun a=>(ah 3 p1).bind fun b=>bH p2 fun c=>bH p3 fun d=>b8 (decide (c<0)) (some (decide (c≥(↑a.length:Int)))) fun e=>b8 e (dh dO [d] fun e=>some !e) fun e=>if e then some (PV.int .i64 0)else L.run (sB L) (a,b,c,d,0,())
def oZ:List PV→Option PV|[p0,p1,p2,p3]=>za aX p0 p1 p2 p3|_=>none
def zb(L:bj)(p0 p1 p2 p3:PV):Option PV:=(ah 10 p0).bind fun a=>(ah 3 p1).bind fun b=>bH p2 fun c=>bH p3 fun d=>F2 oZ [.rs 10 a,.rs 3 b,c,d] fun d=>b8 (d==1) (some (d==2)) fun d=>some (PV.bool d)
def pc:List PV→Option PV|[p0,p1,p2,p3]=>zb aX p0 p1 p2 p3|_=>none
def jq(EF:aiU→Option PV):cL (akG):=fun(a,b,c,d,e,f,g,_)=>fun h=>dz (decide (f>0)) (if ar (ay (f-1)) g.length then g[(ay (f-1)).toNat]?.bind fun i=>aC i 0 fun i=>Bx g f fun j=>aC j 0 fun j=>some (decide (i>j))else none) fun j=>if j then Bx g f fun j=>aC j 0 fun j=>if ar (ay (f-1)) g.length then g[(ay (f-1)).toNat]?.bind fun i=>aC i 0 fun i=>Bx g f fun _=>if ar (ay (f-1)) (g.set f.toNat (PV.int .i64 i)).length then(g.set f.toNat (PV.int .i64 i))[(ay (f-1)).toNat]?.bind fun _=>h (a,b,c,d,e,ay (f-1),(g.set f.toNat (PV.int .i64 i)).set (ay (f-1)).toNat (PV.int .i64 j),())else none else none else EF (a,b,c,d,ay (e+1),g,())
def jr(L:bj)(sC:List PV×Int×Int×List PV×Unit→Option PV):cL (aiU):=fun(a,b,c,d,e,f,_)=>fun g=>if decide (e<(↑d.length:Int))then bl d e fun h=>aC h 0 fun h=>if(f++[PV.int .i64 h]).length*8≤ag∧0<8 then L.run (jq g) (a,b,c,d,e,ay ((↑(f++[PV.int .i64 h]).length:Int)-1),f++[PV.int .i64 h],())else none
else sC (a,b,ay (c+1),f,())
def nf(L:bj):cL (List PV×Int×Int×List PV×Unit):=fun(a,b,c,d,_)=>fun e=>if decide (c<(↑a.length:Int))then bl a c fun f=>aC f 0 fun f=>if(f !=b)then e (a,b,ay (c+1),d,())else bl a c fun f=>jx ga [l5 f] fun f=>(ah 1 f).bind fun f=>L.run (jr L e) (a,b,c,f,0,d,())
else some (PV.rs 1 d)
def sy(L:bj)(p0 p1:PV):Option PV:=(ah 4 p0).bind fun a=>bH p1 fun b=>L.run (nf L) (a,b,0,[],())
def j7:List PV→Option PV|[p0,p1]=>sy aX p0 p1|_=>none
def pj:cL (List PV×Int×Int×Unit):=fun(a,b,c,_)=>fun d=>if decide (c<(↑a.length:Int))then bl a c fun e=>aC e 0 fun e=>if(e==b)then some (PV.bool true)else d (a,b,ay (c+1),())
else some (PV.bool false)
def uT(L:bj)(p0 p1:PV):Option PV:=(ah 4 p0).bind fun a=>bH p1 fun b=>L.run pj (a,b,0,())
def lf:List PV→Option PV|[p0,p1]=>uT aX p0 p1|_=>none
def zg(L:bj):cL (ai3):=fun(a,b,c,d,e,f,g,h,i,j,k,l,m,n,o,p,q,r,_)=>fun s=>if decide (c<(↑b.length:Int))then bl b c fun t=>aC t 1 fun u=>aC t 2 fun v=>if(r++[PV.agg [t 0,(ay (u+ay (a*86400))),(ay (v+ay (a*86400))),t 3,t 4]]).length*32≤ag∧0<32 then s (a,b,ay (c+1),d,e,f,g,h,i,j,k,l,m,n,o,p,q,r++[PV.agg [t 0,(ay (u+ay (a*86400))),(ay (v+ay (a*86400))),t 3,t 4]],())else none
else some (Kh k l m n o p q r)
def FQ(L:bj)(p0 p1 p2 p3 p4:PV):Option PV:=zn p0 fun _ _ _ _ a _ _ _ _ _ _ _ _=>bH p1 fun b=>bH p2 fun c=>bH p3 fun d=>(ah 5 p4).bind fun e=>bl a b fun a=>(aT (a 0)).bind fun f=>aC a 1 fun g=>ET a 3 fun a=>L.run (zg L) (c,e,0,0,0,0,[],0,false,false,b,c,d,f,g,a,false,[],())
def rP:List PV→Option PV|[p0,p1,p2,p3,p4]=>FQ aX p0 p1 p2 p3 p4|_=>none
def th(L:bj)(Ul:Pw→Option PV):cL (ai4):=fun(a,b,c,d,e,f,g,h,i,j,k,l,m,n,o,p,q,r,_)=>fun s=>if decide (d<(↑c.length:Int))then bl i b fun t=>bl c d fun u=>aC u 0 fun u=>M3 fN [aaN t,u] fun u _=>jx rP [vb e f g h i j k l m n o p q,b,a,d,.rs 5 u] fun u=>zF 8 u fun _=>if(r++[RS u]).length*80≤ag∧0<80 then s (a,b,c,ay (d+1),e,f,g,h,i,j,k,l,m,n,o,p,q,r++[RS u],())else none
else Ul (a,ay (b+1),e,f,g,h,i,j,k,l,m,n,o,p,q,r,())
def zi(L:bj):cL (Pw):=fun(a,b,c,d,e,f,g,h,i,j,k,l,m,n,o,p,_)=>fun q=>if decide (b<(↑g.length:Int))then bl g b fun r=>aC r 2 fun r=>dh pc [.rs 10 e,.rs 3 f,r,a] fun r=>if(!r)then q (a,ay (b+1),c,d,e,f,g,h,i,j,k,l,m,n,o,p,())else dh lf [.rs 4 h,b] fun r=>if(!r)then bl g b fun r=>sE 5 r 4 fun r=>jx rP [vb c d e f g h i j k l m n o,b,a,.int .i64 0,.rs 5 r] fun r=>zF 8 r fun _=>if(p++[RS r]).length*80≤ag∧0<80 then q (a,ay (b+1),c,d,e,f,g,h,i,j,k,l,m,n,o,p++[RS r],())else none else jx j7 [.rs 4 h,b] fun r=>(ah 1 r).bind fun r=>L.run (th L q) (a,b,r,0,c,d,e,f,g,h,i,j,k,l,m,n,o,p,())
else some (PV.rs 8 p)
def FT(L:bj)(p0 p1:PV):Option PV:=zn p0 fun a b c d e f g h i j k l m=>bH p1 fun n=>L.run (zi L) (n,0,a,b,c,d,e,f,g,h,i,j,k,l,m,[],())
def rQ:List PV→Option PV|[p0,p1]=>FT aX p0 p1|_=>none
def ng:cL (List PV×List PV×Int×Unit):=fun(a,b,c,_)=>fun d=>if decide (c<(↑a.length:Int))then bl a c fun e=>bl b c fun f=>if iV (Kd.int .i64::[].append (Kd.int .i64::[].append (Kd.int .i64::[].append (Kd.bool::[].append (Kd.bool::[].append []))))) [e 0,e 1,e 2,e 3,e 4]=true∧iV (Kd.int .i64::[].append (Kd.int .i64::[].append (Kd.int .i64::[].append (Kd.bool::[].append (Kd.bool::[].append []))))) [f 0,f 1,f 2,f 3,f 4]then if(!bM [e 0,e 1,e 2,e 3,e 4] [f 0,f 1,f 2,f 3,f 4])then some (PV.bool false)else d (a,b,ay (c+1),())else none
else some (PV.bool true)
def sA(L:bj)(p0 p1:PV):Option PV:=(ah 5 p0).bind fun a=>(ah 5 p1).bind fun b=>if((↑a.length:Int) !=(↑b.length:Int))then some (PV.bool false)else L.run ng (a,b,0,())
def j8:List PV→Option PV|[p0,p1]=>sA aX p0 p1|_=>none
def xh(L:bj)(p0 p1:PV):Option PV:=Wm p0 fun a b c d e f g h=>Wm p1 fun i j k l m n o p=>dz (a==i) (some (b==j)) fun j=>dz j (some (c==k)) fun j=>dz j (some (d==l)) fun j=>dz j (some (e==m)) fun j=>dz j (some (f==n)) fun j=>dz j (some (g==o)) fun j=>dz j (dh j8 [.rs 5 h,.rs 5 p] fun j=>some j) fun j=>some (PV.bool j)
def mA:List PV→Option PV|[p0,p1]=>xh aX p0 p1|_=>none
def uU(L:bj)(p0:PV):Option PV:=bH p0 fun a=>dz (decide (a≥0)) (some (decide (a≤36524))) fun a=>some (PV.bool a)
def fR:List PV→Option PV|[p0]=>uU aX p0|_=>none
def uZ:cL (ai5):=fun(a,b,c,d,e,f,g,h,i,j,_)=>fun k=>if decide (b<(↑a.length:Int))then bl a b fun l=>dh mA [RS l,Kh c d e f g h i j] fun l=>if l then some (PV.bool true)else k (a,ay (b+1),c,d,e,f,g,h,i,j,())
else some (PV.bool false)
def Bq(L:bj)(p0 p1:PV):Option PV:=zn p0 fun a b c d e f g h i j k l m=>Wm p1 fun n o p q r s t u=>dh fR [o] fun v=>if(!v)then some (PV.bool false)else jx rQ [vb a b c d e f g h i j k l m,o] fun v=>(ah 8 v).bind fun v=>L.run uZ (v,0,n,o,p,q,r,s,t,u,())
def qV:List PV→Option PV|[p0,p1]=>Bq aX p0 p1|_=>none
def va(aja:adB→Option PV):cL (ai6):=fun(a,b,c,d,e,f,g,h,i,j,k,l,m,n,o,p,_)=>fun q=>if decide (c<b)then bl a c fun r=>aC r 0 fun r=>bl a b fun s=>aC s 0 fun s=>dz (r==s) (bl a c fun s=>aC s 1 fun s=>bl a b fun r=>aC r 1 fun r=>some (s==r)) fun r=>dz r (bl a c fun r=>aC r 2 fun r=>bl a b fun s=>aC s 2 fun s=>some (r==s)) fun s=>if s then some (PV.aG [.rs 5 [],.int .i64 6])else q (a,b,ay (c+1),d,e,f,g,h,i,j,k,l,m,n,o,p,())
else aja (a,ay (b+1),d,e,f,g,h,i,j,k,l,m,n,o,p,())
def pn(L:bj):cL (ai7):=fun(a,b,c,d,e,f,g,h,i,j,k,l,m,n,o,p,_)=>fun q=>if decide (b<(↑a.length:Int))then jx tu [vb c d e f g h i j k l m n o,.rs 8 a,b] fun r=>(ah 5 r).bind fun r=>if(p++r).length*40≤ag∧0<40 then q (a,ay (b+1),c,d,e,f,g,h,i,j,k,l,m,n,o,p++r,())else none
else if decide ((↑p.length:Int)>1024)then some (PV.aG [.rs 5 [],.int .i64 5])else some (PV.aG [.rs 5 p,.int .i64 0])
def u9(L:bj):cL (adB):=fun(a,b,c,d,e,f,g,h,i,j,k,l,m,n,o,_)=>fun p=>if decide (b<(↑a.length:Int))then bl a b fun q=>dh qV [vb c d e f g h i j k l m n o,RS q] fun q=>if(!q)then some (PV.aG [.rs 5 [],.int .i64 9])else L.run (va p) (a,b,0,c,d,e,f,g,h,i,j,k,l,m,n,o,())
else L.run (pn L) (a,0,c,d,e,f,g,h,i,j,k,l,m,n,o,[],())
def Br(L:bj)(p0 p1:PV):Option PV:=zn p0 fun a b c d e f g h i j k l m=>(ah 8 p1).bind fun n=>M4 jM [vb a b c d e f g h i j k l m] fun _ _ o=>if(o !=0)then some (PV.aG [.rs 5 [],o])else if decide ((↑n.length:Int)>1024)then some (PV.aG [.rs 5 [],.int .i64 5])else L.run (u9 L) (n,0,a,b,c,d,e,f,g,h,i,j,k,l,m,())
def qW:List PV→Option PV|[p0,p1]=>Br aX p0 p1|_=>none
def mz(L:bj):cL (Pw):=fun(a,b,c,d,e,f,g,h,i,j,k,l,m,n,o,p,_)=>fun q=>if decide (b≤a)then jx rQ [vb c d e f g h i j k l m n o,b] fun r=>(ah 8 r).bind fun r=>if(p++r).length*80≤ag∧0<80 then q (a,ay (b+1),c,d,e,f,g,h,i,j,k,l,m,n,o,p++r,())else none
else if decide ((↑p.length:Int)>1024)then some (PV.aG [.rs 8 [],.int .i64 5])else some (PV.aG [.rs 8 p,.int .i64 0])
def zd(L:bj)(p0 p1 p2:PV):Option PV:=zn p0 fun a b c d e f g h i j k l m=>bH p1 fun n=>bH p2 fun o=>M4 jM [vb a b c d e f g h i j k l m] fun _ _ p=>if(p !=0)then some (PV.aG [.rs 8 [],p])else dh fR [n] fun p=>b8 (!p) (dh fR [o] fun p=>some !p) fun p=>b8 p (some (decide (o<n))) fun p=>if p then some (PV.aG [.rs 8 [],.int .i64 11])else if decide (ay (o-n)≥8)then some (PV.aG [.rs 8 [],.int .i64 5])else L.run (mz L) (o,n,a,b,c,d,e,f,g,h,i,j,k,l,m,[],())
def pk:List PV→Option PV|[p0,p1,p2]=>zd aX p0 p1 p2|_=>none
def mW:cL (akr):=fun(a,b,c,d,e,f,g,h,i,_)=>fun j=>if decide (a<(↑b.length:Int))then bl b a fun k=>bl f a fun l=>if iV (Kd.str::[].append (Kd.int .i64::[].append (Kd.int .i64::[].append (Kd.int .i64::[].append (Kd.int .i64::[].append (Kd.int .i64::[].append [])))))) [k 0,k 1,k 2,k 3,k 4,k 5]=true∧iV (Kd.str::[].append (Kd.int .i64::[].append (Kd.int .i64::[].append (Kd.int .i64::[].append (Kd.int .i64::[].append (Kd.int .i64::[].append [])))))) [l 0,l 1,l 2,l 3,l 4,l 5]then if(!bM [k 0,k 1,k 2,k 3,k 4,k 5] [l 0,l 1,l 2,l 3,l 4,l 5])then some (PV.bool false)else j (ay (a+1),b,c,d,e,f,g,h,i,())else none
else some (PV.bool true)
def sg(L:bj)(p0 p1:PV):Option PV:=aaO p0 fun a b c d=>aaO p1 fun e f g h=>b8 ((↑a.length:Int) !=(↑e.length:Int)) (some (b !=f)) fun i=>b8 i (some (c !=g)) fun i=>b8 i (some (d !=h)) fun i=>if i then some (PV.bool false)else L.run mW (0,a,b,c,d,e,f,g,h,())
def j1:List PV→Option PV|[p0,p1]=>sg aX p0 p1|_=>none
def mV:cL (List PV×List PV×Int×Unit):=fun(a,b,c,_)=>fun d=>if decide (c<(↑a.length:Int))then bl a c fun e=>bl b c fun f=>if iV (Kd.int .i64::[].append (Kd.int .i64::[].append (Kd.int .i64::[].append (Kd.bool::[].append (Kd.bool::[].append []))))) [e 0,e 1,e 2,e 3,e 4]=true∧iV (Kd.int .i64::[].append (Kd.int .i64::[].append (Kd.int .i64::[].append (Kd.bool::[].append (Kd.bool::[].append []))))) [f 0,f 1,f 2,f 3,f 4]then if(!bM [e 0,e 1,e 2,e 3,e 4] [f 0,f 1,f 2,f 3,f 4])then some (PV.bool false)else d (a,b,ay (c+1),())else none
else some (PV.bool true)
def sf(L:bj)(p0 p1:PV):Option PV:=(ah 5 p0).bind fun a=>(ah 5 p1).bind fun b=>if((↑a.length:Int) !=(↑b.length:Int))then some (PV.bool false)else L.run mV (a,b,0,())
def jZ:List PV→Option PV|[p0,p1]=>sf aX p0 p1|_=>none
def oN:cL (List PV×List PV×Int×Unit):=fun(a,b,c,_)=>fun d=>if decide (c<(↑a.length:Int))then bl a c fun e=>bl b c fun f=>aC e 0 fun g=>aC f 0 fun h=>b8 (g !=h) (aC e 1 fun h=>aC f 1 fun g=>some (h !=g)) fun g=>b8 g (aC e 2 fun g=>aC f 2 fun h=>some (g !=h)) fun h=>b8 h ((aT (e 3)).bind fun h=>(aT (f 3)).bind fun g=>some !h==g) fun g=>b8 g (aC e 4 fun g=>aC f 4 fun h=>some (g !=h)) fun h=>b8 h (ET e 5 fun h=>ET f 5 fun g=>some !h==g) fun g=>b8 g (ET e 6 fun g=>ET f 6 fun h=>some !g==h) fun h=>b8 h (sE 5 e 7 fun h=>sE 5 f 7 fun f=>dh jZ [.rs 5 h,.rs 5 f] fun f=>some !f) fun f=>if f then some (PV.bool false)else d (a,b,ay (c+1),())
else some (PV.bool true)
def uI(L:bj)(p0 p1:PV):Option PV:=(ah 8 p0).bind fun a=>(ah 8 p1).bind fun b=>if((↑a.length:Int) !=(↑b.length:Int))then some (PV.bool false)else L.run oN (a,b,0,())
def kY:List PV→Option PV|[p0,p1]=>uI aX p0 p1|_=>none
def iM:cL (acG):=fun(a,b,c,d,e,f,g,h,i,j,k,l,m,n,o,p,q,r,s,_)=>fun t=>if decide (a<(↑f.length:Int))then bl f a fun u=>bl o a fun v=>if iV (Kd.int .i64::[].append (Kd.int .i64::[].append (Kd.int .i64::[].append (Kd.bool::[].append [])))) [u 0,u 1,u 2,u 3]=true∧iV (Kd.int .i64::[].append (Kd.int .i64::[].append (Kd.int .i64::[].append (Kd.bool::[].append [])))) [v 0,v 1,v 2,v 3]then if(!bM [u 0,u 1,u 2,u 3] [v 0,v 1,v 2,v 3])then some (PV.bool false)else t (ay (a+1),b,c,d,e,f,g,h,i,j,k,l,m,n,o,p,q,r,s,())else none
else dh kY [.rs 8 d,.rs 8 m] fun v=>dz v (dh j1 [.agg [.rs 6 g,h,i,j],.agg [.rs 6 p,q,r,s]] fun v=>some v) fun v=>some (PV.bool v)
def iN(L:bj):cL (acG):=fun(a,b,c,d,e,f,g,h,i,j,k,l,m,n,o,p,q,r,s,_)=>fun t=>if decide (a<(↑e.length:Int))then bl e a fun u=>bl n a fun v=>if iV (Kd.int .i64::[].append (Kd.int .i64::[].append (Kd.int .i64::[].append (Kd.int .i64::[].append (Kd.bool::[].append []))))) [u 0,u 1,u 2,u 3,u 4]=true∧iV (Kd.int .i64::[].append (Kd.int .i64::[].append (Kd.int .i64::[].append (Kd.int .i64::[].append (Kd.bool::[].append []))))) [v 0,v 1,v 2,v 3,v 4]then if(!bM [u 0,u 1,u 2,u 3,u 4] [v 0,v 1,v 2,v 3,v 4])then some (PV.bool false)else t (ay (a+1),b,c,d,e,f,g,h,i,j,k,l,m,n,o,p,q,r,s,())else none
else L.run iM (0,b,c,d,e,f,g,h,i,j,k,l,m,n,o,p,q,r,s,())
def iO(L:bj):cL (acG):=fun(a,b,c,d,e,f,g,h,i,j,k,l,m,n,o,p,q,r,s,_)=>fun t=>if decide (a<(↑c.length:Int))then bl c a fun u=>bl l a fun v=>if iV (Kd.str::[].append (Kd.int .i64::[].append (Kd.bool::[].append []))) [u 0,u 1,u 2]=true∧iV (Kd.str::[].append (Kd.int .i64::[].append (Kd.bool::[].append []))) [v 0,v 1,v 2]then if(!bM [u 0,u 1,u 2] [v 0,v 1,v 2])then some (PV.bool false)else t (ay (a+1),b,c,d,e,f,g,h,i,j,k,l,m,n,o,p,q,r,s,())else none
else L.run (iN L) (0,b,c,d,e,f,g,h,i,j,k,l,m,n,o,p,q,r,s,())
def oO(L:bj):cL (acG):=fun(a,b,c,d,e,f,g,h,i,j,k,l,m,n,o,p,q,r,s,_)=>fun t=>if decide (a<(↑b.length:Int))then bl b a fun u=>bl k a fun v=>if iV (Kd.str::[].append (Kd.int .i64::[].append (Kd.bool::[].append (Kd.int .i64::[].append [])))) [u 0,u 1,u 2,u 3]=true∧iV (Kd.str::[].append (Kd.int .i64::[].append (Kd.bool::[].append (Kd.int .i64::[].append [])))) [v 0,v 1,v 2,v 3]then if(!bM [u 0,u 1,u 2,u 3] [v 0,v 1,v 2,v 3])then some (PV.bool false)else t (ay (a+1),b,c,d,e,f,g,h,i,j,k,l,m,n,o,p,q,r,s,())else none
else L.run (iO L) (0,b,c,d,e,f,g,h,i,j,k,l,m,n,o,p,q,r,s,())
def A4(L:bj)(p0 p1:PV):Option PV:=EN p0 fun a b c d e f g h i=>EN p1 fun j k l m n o p q r=>b8 ((↑a.length:Int) !=(↑j.length:Int)) (some ((↑b.length:Int) !=(↑k.length:Int))) fun s=>b8 s (some ((↑d.length:Int) !=(↑m.length:Int))) fun s=>b8 s (some ((↑e.length:Int) !=(↑n.length:Int))) fun s=>if s then some (PV.bool false)else L.run (oO L) (0,a,b,c,d,e,f,g,h,i,j,k,l,m,n,o,p,q,r,())
def qP:List PV→Option PV|[p0,p1]=>A4 aX p0 p1|_=>none
def qg:cL (Bytes×Int×Unit):=fun(a,b,_)=>fun c=>if decide (b<(↑(List.length a):Int))then(Ng a b).bind fun d=>dz (decide ((↑d.toNat:Int)≥97)) (some (decide ((↑d.toNat:Int)≤122))) fun e=>b8 e (dz (decide ((↑d.toNat:Int)≥65)) (some (decide ((↑d.toNat:Int)≤90))) fun e=>some e) fun e=>b8 e (dz (decide ((↑d.toNat:Int)≥48)) (some (decide ((↑d.toNat:Int)≤57))) fun e=>some e) fun e=>dz (!e) (some ((↑d.toNat:Int) !=45)) fun e=>dz e (some ((↑d.toNat:Int) !=95)) fun e=>dz e (some ((↑d.toNat:Int) !=46)) fun e=>if e then some (PV.bool false)else c (a,ay (b+1),())
else some (PV.bool true)
def wN(L:bj)(p0:PV):Option PV:=(aT p0).bind fun a=>b8 (decide ((↑(List.length a):Int)<1)) (some (decide ((↑(List.length a):Int)>32))) fun b=>if b then some (PV.bool false)else L.run qg (a,0,())
def fq:List PV→Option PV|[p0]=>wN aX p0|_=>none
def I0(L:bj)(p0 p1 p2:PV):Option PV:=bH p0 fun a=>bH p1 fun b=>bH p2 fun c=>dz (decide (a≥b)) (some (decide (a≤c))) fun c=>some (PV.bool c)
def bP:List PV→Option PV|[p0,p1,p2]=>I0 aX p0 p1 p2|_=>none
def oE(Px:Int×List PV×Int×Int×Int×Unit→Option PV):cL (akm):=fun(a,b,c,d,e,f,g,h,i,j,k,l,_)=>fun m=>if decide (b<a)then bl c b fun n=>(aT (n 0)).bind fun n=>(aT g).bind fun o=>if(n==o)then some (PV.aG [a,.int .i64 6])else m (a,ay (b+1),c,d,e,f,g,h,i,j,k,l,())
else bH h fun o=>dh bP [o,.int .i64 0,.int .i64 1000000] fun o=>b8 (!o) (bH i fun o=>dh bP [o,.int .i64 1,.int .i64 8] fun o=>some !o) fun o=>b8 o (bH j fun o=>dh bP [o,.int .i64 1,.int .i64 16] fun o=>some !o) fun o=>b8 o (bH k fun o=>dh bP [o,.int .i64 0,.int .i64 86400] fun o=>some !o) fun o=>b8 o (bH l fun o=>dh bP [o,.int .i64 1,.int .i64 255] fun o=>some !o) fun o=>if o then some (PV.aG [a,.int .i64 2])else Px (ay (a+1),c,d,e,f,())
def uC(L:bj):cL (Int×List PV×Int×Int×Int×Unit):=fun(a,b,c,d,e,_)=>fun f=>if decide (a<(↑b.length:Int))then bl b a fun g=>(aT (g 0)).bind fun h=>dh fq [.str h] fun h=>if(!h)then some (PV.aG [a,.int .i64 12])else L.run (oE f) (a,0,b,c,d,e,g 0,g 1,g 2,g 3,g 4,g 5,())
else some (PV.aG [.int .i64 0,.int .i64 0])
def AS(L:bj)(p0:PV):Option PV:=aaO p0 fun a b c d=>dh bP [b,.int .i64 0,.int .i64 1000000] fun e=>b8 (!e) (dh bP [c,.int .i64 0,.int .i64 86400] fun e=>some !e) fun e=>b8 e (dh bP [d,.int .i64 0,.int .i64 1000000] fun e=>some !e) fun e=>if e then some (PV.aG [.int .i64 (-1),.int .i64 2])else if decide ((↑a.length:Int)>16)then some (PV.aG [.int .i64 0,.int .i64 5])else L.run (uC L) (0,a,b,c,d,())
def qG:List PV→Option PV|[p0]=>AS aX p0|_=>none
def oK(Px:aiP→Option PV):cL (akn):=fun(a,b,c,d,e,f,g,h,i,j,k,l,m,n,o,_)=>fun p=>if decide (f<a)then bl j f fun q=>ET q 4 fun q=>dz q (bl j f fun q=>aC q 0 fun q=>some (q==b)) fun q=>if q then bl j f fun q=>aC q 2 fun q=>p (a,b,c,d,q,ay (f+1),g,h,i,j,k,l,m,n,o,())else p (a,b,c,d,e,ay (f+1),g,h,i,j,k,l,m,n,o,())
else if(e==c)then some (PV.bool true)else Px (a,e,c,ay (d+1),g,h,i,j,k,l,m,n,o,())
def oL(L:bj):cL (aiP):=fun(a,b,c,d,e,f,g,h,i,j,k,l,m,_)=>fun n=>if decide (d≤a)then L.run (oK n) (a,b,c,d,-1,0,e,f,g,h,i,j,k,l,m,())
else some (PV.bool false)
def AZ(L:bj)(p0 p1 p2 p3:PV):Option PV:=EN p0 fun a b c d e f g h i=>bH p1 fun j=>bH p2 fun k=>bH p3 fun l=>L.run (oL L) (j,k,l,0,a,b,c,d,e,f,g,h,i,())
def qJ:List PV→Option PV|[p0,p1,p2,p3]=>AZ aX p0 p1 p2 p3|_=>none
def qK:cL (aiQ):=fun(a,b,c,d,e,f,g,h,i,j,k,l,m,n,o,p,_)=>fun q=>if decide (b<a)then bl f b fun r=>aC r 0 fun s=>bH l fun t=>dz (s==t) (aC r 1 fun t=>bH m fun s=>some (t==s)) fun s=>dz s (aC r 2 fun s=>bH n fun t=>some (s==t)) fun t=>dz t (aC r 3 fun t=>bH o fun r=>some (t==r)) fun r=>if r then some (PV.int .i64 6)else q (a,ay (b+1),c,d,e,f,g,h,i,j,k,l,m,n,o,p,())
else some (PV.int .i64 0)
def qL(L:bj):cL (aiQ):=fun(a,b,c,d,e,f,g,h,i,j,k,l,m,n,o,p,_)=>fun q=>if decide (b<a)then bl f b fun r=>mcb p fun s=>dz s (ET r 4 fun s=>some s) fun s=>dz s (aC r 0 fun s=>bH l fun t=>b8 (s==t) (aC r 2 fun t=>bH n fun s=>some (t==s)) fun s=>some s) fun s=>if s then some (PV.int .i64 19)else q (a,ay (b+1),c,d,e,f,g,h,i,j,k,l,m,n,o,p,())
else mcb p fun s=>dz s (bH n fun s=>bH l fun q=>dh qJ [DH c d e f g h i j k,a,s,q] fun q=>some q) fun q=>if q then some (PV.int .i64 19)else L.run qK (a,0,c,d,e,f,g,h,i,j,k,l,m,n,o,p,())
def Di(L:bj)(p0 p1:PV):Option PV:=EN p0 fun a b c d e f g h i=>bH p1 fun j=>bl d j fun k=>aC k 0 fun l=>dh bP [l,.int .i64 0,(ay ((↑c.length:Int)-1))] fun l=>b8 (!l) (aC k 2 fun l=>dh bP [l,.int .i64 0,(ay ((↑c.length:Int)-1))] fun l=>some !l) fun l=>b8 l (aC k 0 fun l=>aC k 2 fun m=>some (l==m)) fun m=>if m then some (PV.int .i64 9)else aC k 0 fun m=>bl c m fun m=>sE 5 m 7 fun m=>aC k 2 fun l=>bl c l fun l=>sE 5 l 7 fun l=>aC k 1 fun n=>dh bP [n,.int .i64 0,(ay ((↑m.length:Int)-1))] fun n=>b8 (!n) (aC k 3 fun n=>dh bP [n,.int .i64 0,(ay ((↑l.length:Int)-1))] fun n=>some !n) fun n=>if n then some (PV.int .i64 9)else aC k 1 fun n=>bl m n fun n=>aC n 0 fun n=>aC k 3 fun o=>bl l o fun o=>aC o 0 fun o=>if(n !=o)then some (PV.int .i64 13)else ET k 4 fun o=>dz o (aC k 1 fun o=>b8 (o !=ay ((↑m.length:Int)-1)) (aC k 3 fun o=>some (o !=0)) fun o=>some o) fun o=>if o then some (PV.int .i64 19)else L.run (qL L) (j,0,a,b,c,d,e,f,g,h,i,k 0,k 1,k 2,k 3,k 4,())
def ta:List PV→Option PV|[p0,p1]=>Di aX p0 p1|_=>none
def oT(L:bj)(afS:Wn→Option PV):cL (aiR):=fun(a,b,c,d,e,f,g,_)=>fun h=>if decide (e<b)then if(g++[PV.int .i64 1099511627776]).length*8≤ag∧0<8 then h (a,b,c,d,ay (e+1),f,g++[PV.int .i64 1099511627776],())else none
else if(f++[PV.mE 1 g]).length*24≤ag then afS (a,b,c,ay (d+1),f++[PV.mE 1 g],())else none
def j3(xT:Int×Int×Int×List PV×Unit→Option PV):cL (Int×Int×Int×Int×List PV×Unit):=fun(a,b,c,d,e,_)=>fun f=>if decide (d<a)then Bx e c fun g=>(b9 1 (g 0)).bind fun _=>if ar c e.length then e[c.toNat]?.bind fun g=>(b9 1 (g 0)).bind fun _=>e[c.toNat]?.bind fun g=>(b9 1 (g 0)).bind fun g=>if ar d g.length then e[c.toNat]?.bind fun g=>(b9 1 (g 0)).bind fun g=>g[d.toNat]?.bind fun g=>aC g 0 fun g=>Bx e c fun h=>(b9 1 (h 0)).bind fun _=>e[c.toNat]?.bind fun h=>(b9 1 (h 0)).bind fun h=>if ar b h.length then e[c.toNat]?.bind fun h=>(b9 1 (h 0)).bind fun h=>h[b.toNat]?.bind fun h=>aC h 0 fun h=>Bx e b fun i=>(b9 1 (i 0)).bind fun _=>e[b.toNat]?.bind fun i=>(b9 1 (i 0)).bind fun i=>if ar d i.length then e[b.toNat]?.bind fun i=>(b9 1 (i 0)).bind fun i=>i[d.toNat]?.bind fun i=>aC i 0 fun i=>e[c.toNat]?.bind fun j=>(b9 1 (j 0)).bind fun j=>if ar d j.length then e[c.toNat]?.bind fun j=>(b9 1 (j 0)).bind fun k=>k[d.toNat]?.bind fun l=>f (a,b,c,ay (d+1),e.set c.toNat (setRow 1 j 0 (PV.mE 1 (k.set d.toNat (setCells 1 l 0 1 (PV.int .i64 (if ay (h+i)<g then ay (h+i)else g)))))),())else none else none else none else none else none
else xT (a,b,ay (c+1),e,())
def j4(L:bj)(IQ:Int×Int×List PV×Unit→Option PV):cL (Int×Int×Int×List PV×Unit):=fun(a,b,c,d,_)=>fun e=>if decide (c<a)then L.run (j3 e) (a,b,c,0,d,())
else IQ (a,ay (b+1),d,())
def j5(L:bj):cL (Int×Int×List PV×Unit):=fun(a,b,c,_)=>fun d=>if decide (b<a)then L.run (j4 L d) (a,b,0,c,())
else some (PV.rs 1 (List.map PV.strip c))
def oU(L:bj):cL (Wn):=fun(a,b,c,d,e,_)=>fun f=>if decide (d<(↑a.length:Int))then bl a d fun g=>ET g 3 fun h=>b8 h (some !c) fun h=>if h then aC g 0 fun h=>Bx e h fun i=>(b9 1 (i 0)).bind fun _=>aC g 1 fun i=>aC g 0 fun j=>Bx e j fun k=>(b9 1 (k 0)).bind fun _=>aC g 1 fun k=>e[j.toNat]?.bind fun l=>(b9 1 (l 0)).bind fun l=>if ar k l.length then e[j.toNat]?.bind fun l=>(b9 1 (l 0)).bind fun l=>l[k.toNat]?.bind fun l=>aC l 0 fun l=>aC g 2 fun g=>e[h.toNat]?.bind fun k=>(b9 1 (k 0)).bind fun k=>if ar i k.length then e[h.toNat]?.bind fun k=>(b9 1 (k 0)).bind fun j=>j[i.toNat]?.bind fun m=>f (a,b,c,ay (d+1),e.set h.toNat (setRow 1 k 0 (PV.mE 1 (j.set i.toNat (setCells 1 m 0 1 (PV.int .i64 (if g<l then g else l)))))),())else none else none else f (a,b,c,ay (d+1),e,())
else L.run (j5 L) (b,0,e,())
def oS(L:bj):cL (Wn):=fun(a,b,c,d,e,_)=>fun f=>if decide (d<b)then L.run (oT L f) (a,b,c,d,0,e,[],())
else L.run (oU L) (a,b,c,0,e,())
def uM(L:bj)(p0 p1 p2:PV):Option PV:=(ah 4 p0).bind fun a=>bH p1 fun b=>mcb p2 fun c=>L.run (oS L) (a,b,c,0,[],())
def iQ:List PV→Option PV|[p0,p1,p2]=>uM aX p0 p1 p2|_=>none
end
end Go.Ab
