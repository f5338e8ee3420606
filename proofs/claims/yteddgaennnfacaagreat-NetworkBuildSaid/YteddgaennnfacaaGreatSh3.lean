import Derived.Test.YteddgaennnfacaaGreatSh2
set_option linter.all false
set_option maxHeartbeats 4000000
namespace Go.Ab
noncomputable section
def mq(L:bj)(Er:Vo→Option PV):cL (aiS):=fun(a,b,c,d,e,f,_)=>fun g=>if decide (e<a)then b8 (d==e) (bl b d fun h=>sE 1 h 0 fun h=>bl h e fun h=>aC h 0 fun h=>some (decide (h>14400))) fun h=>if h then g (a,b,c,d,ay (e+1),f,())else bl b d fun h=>sE 1 h 0 fun h=>bl h e fun h=>aC h 0 fun h=>bl c d fun i=>sE 1 i 0 fun i=>bl i e fun i=>aC i 0 fun i=>bl b d fun j=>sE 1 j 0 fun j=>bl j e fun j=>aC j 0 fun j=>if(f++[PV.agg [d,e,h,.bool (i==j)]]).length*32≤ag∧0<32 then bl c d fun k=>sE 1 k 0 fun k=>bl k e fun k=>aC k 0 fun k=>bl b d fun l=>sE 1 l 0 fun l=>bl l e fun l=>aC l 0 fun l=>dz (decide (k>l)) (bl c d fun l=>sE 1 l 0 fun l=>bl l e fun l=>aC l 0 fun l=>some (decide (l≤14400))) fun l=>if l then bl c d fun l=>sE 1 l 0 fun l=>bl l e fun l=>aC l 0 fun l=>if(f++[PV.agg [d,e,h,.bool (i==j)]]++[PV.agg [d,e,l,.bool true]]).length*32≤ag∧0<32 then g (a,b,c,d,ay (e+1),f++[PV.agg [d,e,h,.bool (i==j)]]++[PV.agg [d,e,l,.bool true]],())else none else g (a,b,c,d,ay (e+1),f++[PV.agg [d,e,h,.bool (i==j)]],())else none
else Er (a,b,c,ay (d+1),f,())
def mr(L:bj):cL (Vo):=fun(a,b,c,d,e,_)=>fun f=>if decide (d<a)then L.run (mq L f) (a,b,c,d,0,e,())
else some (PV.rs 4 e)
def yX(L:bj)(p0 p1:PV):Option PV:=(ah 4 p0).bind fun a=>bH p1 fun b=>jx iQ [.rs 4 a,b,.bool false] fun c=>(ah 1 c).bind fun c=>jx iQ [.rs 4 a,b,.bool true] fun a=>(ah 1 a).bind fun a=>L.run (mr L) (b,c,a,0,[],())
def iL:List PV→Option PV|[p0,p1]=>yX aX p0 p1|_=>none
def oI(ajb:YM→Option PV):cL (ako):=fun(a,b,c,d,e,f,g,h,i,j,k,l,m,n,o,_)=>fun p=>if decide (b<a)then bl g b fun q=>aC q 0 fun r=>bH l fun s=>dz (r==s) (aC q 1 fun s=>bH m fun r=>some (s==r)) fun r=>dz r (ET q 3 fun r=>mcb o fun q=>some (r==q)) fun q=>if q then some (PV.aG [a,.int .i64 6])else p (a,ay (b+1),c,d,e,f,g,h,i,j,k,l,m,n,o,())
else ajb (ay (a+1),c,d,e,f,g,h,i,j,k,())
def uG:cL (akp):=fun(a,b,c,d,e,f,g,h,i,j,k,_)=>fun l=>if decide (b<(↑a.length:Int))then bl a b fun m=>bl g b fun n=>if iV (Kd.int .i64::[].append (Kd.int .i64::[].append (Kd.int .i64::[].append (Kd.bool::[].append [])))) [m 0,m 1,m 2,m 3]=true∧iV (Kd.int .i64::[].append (Kd.int .i64::[].append (Kd.int .i64::[].append (Kd.bool::[].append [])))) [n 0,n 1,n 2,n 3]then if(!bM [m 0,m 1,m 2,m 3] [n 0,n 1,n 2,n 3])then some (PV.aG [.int .i64 0,.int .i64 18])else l (a,ay (b+1),c,d,e,f,g,h,i,j,k,())else none
else some (PV.aG [.int .i64 0,.int .i64 0])
def fY(L:bj):cL (YM):=fun(a,b,c,d,e,f,g,h,i,j,_)=>fun k=>if decide (a<(↑f.length:Int))then bl f a fun l=>aC l 0 fun m=>dh bP [m,.int .i64 0,(ay ((↑b.length:Int)-1))] fun m=>b8 (!m) (aC l 1 fun m=>dh bP [m,.int .i64 0,(ay ((↑b.length:Int)-1))] fun m=>some !m) fun m=>b8 m (aC l 0 fun m=>aC l 1 fun n=>some (m==n)) fun n=>if n then some (PV.aG [a,.int .i64 9])else aC l 2 fun n=>dh bP [n,.int .i64 1,.int .i64 14400] fun n=>if(!n)then some (PV.aG [a,.int .i64 2])else L.run (oI k) (a,0,b,c,d,e,f,g,h,i,j,l 0,l 1,l 2,l 3,())
else jx iL [.rs 4 f,(↑b.length:Int)] fun n=>(ah 4 n).bind fun n=>if((↑n.length:Int) !=(↑f.length:Int))then some (PV.aG [.int .i64 0,.int .i64 18])else L.run uG (n,0,b,c,d,e,f,g,h,i,j,())
def AW(L:bj)(p0:PV):Option PV:=EN p0 fun a b c d e f g h i=>L.run (fY L) (0,a,b,c,d,e,f,g,h,i,())
def qI:List PV→Option PV|[p0]=>AW aX p0|_=>none
def mj(gm:List PV×Int×Unit→Option PV):cL (List PV×Int×Int×Unit):=fun(a,b,c,_)=>fun d=>if decide (c<b)then bl a c fun e=>(aT (e 0)).bind fun e=>bl a b fun f=>(aT (f 0)).bind fun f=>if(e==f)then some (PV.aG [b,.int .i64 6])else d (a,b,ay (c+1),())
else bl a b fun f=>aC f 1 fun f=>dh bP [f,.int .i64 0,.int .i64 7] fun f=>if(!f)then some (PV.aG [b,.int .i64 2])else gm (a,ay (b+1),())
def se(L:bj):cL (List PV×Int×Unit):=fun(a,b,_)=>fun c=>if decide (b<(↑a.length:Int))then bl a b fun d=>(aT (d 0)).bind fun d=>dh fq [.str d] fun d=>if(!d)then some (PV.aG [b,.int .i64 12])else L.run (mj c) (a,b,0,())
else some (PV.aG [.int .i64 0,.int .i64 0])
def yS(L:bj)(p0:PV):Option PV:=(ah 3 p0).bind fun a=>if decide ((↑a.length:Int)>64)then some (PV.aG [.int .i64 0,.int .i64 5])else L.run (se L) (a,0,())
def oC:List PV→Option PV|[p0]=>yS aX p0|_=>none
def uD:cL (List PV×Int×Int×Int×Int×Unit):=fun(a,b,c,d,e,_)=>fun f=>if decide (e<(↑a.length:Int))then bl a e fun g=>aC g 0 fun h=>b8 (decide (h<0)) (aC g 0 fun h=>some (decide (h≥b))) fun h=>if h then some (PV.int .i64 9)else dz (decide (e>0)) (bl a (ay (e-1)) fun h=>aC h 0 fun h=>aC g 0 fun i=>some (h==i)) fun i=>if i then some (PV.int .i64 13)else aC g 1 fun i=>b8 (decide (i<c)) (aC g 1 fun i=>aC g 2 fun h=>some (decide (i>h))) fun h=>b8 h (aC g 2 fun h=>some (decide (h>d))) fun h=>b8 h (dz (decide (e>0)) (aC g 1 fun h=>bl a (ay (e-1)) fun g=>aC g 2 fun g=>some (decide (h<g))) fun g=>some g) fun g=>if g then some (PV.int .i64 10)else f (a,b,c,d,ay (e+1),())
else some (PV.int .i64 0)
def AV(L:bj)(p0 p1 p2 p3:PV):Option PV:=(ah 5 p0).bind fun a=>bH p1 fun b=>bH p2 fun c=>bH p3 fun d=>b8 (decide ((↑a.length:Int)<2)) (some (decide ((↑a.length:Int)>32))) fun e=>if e then some (PV.int .i64 5)else L.run uD (a,b,c,d,0,())
def qH:List PV→Option PV|[p0,p1,p2,p3]=>AV aX p0 p1 p2 p3|_=>none
def s9:cL (akq):=fun(a,b,c,d,e,f,g,h,i,j,k,l,m,n,o,p,q,r,s,_)=>fun t=>if decide (b<a)then bl e b fun u=>(aT (u 3)).bind fun v=>(aT o).bind fun w=>dz (v==w) (aC u 1 fun w=>bH m fun v=>some (w==v)) fun v=>dz v (aC u 2 fun v=>bH n fun u=>some (v==u)) fun u=>if u then some (PV.int .i64 6)else t (a,ay (b+1),c,d,e,f,g,h,i,j,k,l,m,n,o,p,q,r,s,())
else some (PV.int .i64 0)
def FC(L:bj)(p0 p1:PV):Option PV:=EN p0 fun a b c d e f g h i=>bH p1 fun j=>bl c j fun k=>(aT (k 3)).bind fun l=>dh fq [.str l] fun l=>if(!l)then some (PV.int .i64 12)else aC k 0 fun l=>b8 (decide (l< -1)) (aC k 2 fun l=>some (decide (l<0))) fun l=>if l then some (PV.int .i64 2)else aC k 1 fun l=>dh bP [l,.int .i64 0,.int .i64 36524] fun l=>if(!l)then some (PV.int .i64 11)else aC k 4 fun l=>b8 (decide (l<0)) (aC k 4 fun l=>some (decide (l≥(↑b.length:Int)))) fun l=>if l then some (PV.int .i64 9)else sE 5 k 7 fun l=>F2 qH [.rs 5 l,(↑a.length:Int),.int .i64 0,.int .i64 3155932800] fun l=>if(l !=0)then some (l)else L.run s9 (j,0,a,b,c,d,e,f,g,h,i,k 0,k 1,k 2,k 3,k 4,k 5,k 6,k 7,())
def vL:List PV→Option PV|[p0,p1]=>FC aX p0 p1|_=>none
def oB(gm:List PV×Int×Unit→Option PV):cL (List PV×Int×Int×Unit):=fun(a,b,c,_)=>fun d=>if decide (c<b)then bl a c fun e=>(aT (e 0)).bind fun e=>bl a b fun f=>(aT (f 0)).bind fun f=>if(e==f)then some (PV.aG [b,.int .i64 6])else d (a,b,ay (c+1),())
else bl a b fun f=>aC f 1 fun f=>dh bP [f,.int .i64 0,.int .i64 15] fun f=>b8 (!f) (bl a b fun f=>aC f 3 fun f=>dh bP [f,.int .i64 0,.int .i64 3600] fun f=>some !f) fun f=>if f then some (PV.aG [b,.int .i64 2])else gm (a,ay (b+1),())
def uz(L:bj):cL (List PV×Int×Unit):=fun(a,b,_)=>fun c=>if decide (b<(↑a.length:Int))then bl a b fun d=>(aT (d 0)).bind fun d=>dh fq [.str d] fun d=>if(!d)then some (PV.aG [b,.int .i64 12])else L.run (oB c) (a,b,0,())
else some (PV.aG [.int .i64 0,.int .i64 0])
def AP(L:bj)(p0:PV):Option PV:=(ah 4 p0).bind fun a=>if decide ((↑a.length:Int)>64)then some (PV.aG [.int .i64 0,.int .i64 5])else L.run (uz L) (a,0,())
def qF:List PV→Option PV|[p0]=>AP aX p0|_=>none
def oM:cL (YM):=fun(a,b,c,d,e,f,g,h,i,j,_)=>fun k=>if decide (a<(↑e.length:Int))then F2 ta [DH b c d e f g h i j,a] fun l=>if(l !=0)then some (PV.aG [.int .i64 3,a,l])else k (ay (a+1),b,c,d,e,f,g,h,i,j,())
else fC qI [DH b c d e f g h i j] fun l k=>if(k !=0)then some (PV.aG [.int .i64 4,l,k])else fC qG [.agg [.rs 6 g,h,i,j]] fun k l=>if(l !=0)then some (PV.aG [.int .i64 5,k,l])else some (PV.aG [.int .i64 0,.int .i64 0,.int .i64 0])
def uH(L:bj):cL (YM):=fun(a,b,c,d,e,f,g,h,i,j,_)=>fun k=>if decide (a<(↑d.length:Int))then F2 vL [DH b c d e f g h i j,a] fun l=>if(l !=0)then some (PV.aG [.int .i64 2,a,l])else k (ay (a+1),b,c,d,e,f,g,h,i,j,())
else if decide ((↑e.length:Int)>1024)then some (PV.aG [.int .i64 3,.int .i64 0,.int .i64 5])else L.run oM (0,b,c,d,e,f,g,h,i,j,())
def A1(L:bj)(p0:PV):Option PV:=EN p0 fun a b c d e f g h i=>fC qF [.rs 4 a] fun j k=>if(k !=0)then some (PV.aG [.int .i64 0,j,k])else fC oC [.rs 3 b] fun k j=>if(j !=0)then some (PV.aG [.int .i64 1,k,j])else if decide ((↑c.length:Int)>1024)then some (PV.aG [.int .i64 2,.int .i64 0,.int .i64 5])else L.run (uH L) (0,a,b,c,d,e,f,g,h,i,())
def qN:List PV→Option PV|[p0]=>A1 aX p0|_=>none
def A2(L:bj)(p0:PV):Option PV:=EN p0 fun a b c d e f g h i=>M4 qN [DH a b c d e f g h i] fun _ _ i=>some (PV.bool (i==0))
def qO:List PV→Option PV|[p0]=>A2 aX p0|_=>none
def mR(L:bj)(p0 p1 p2:PV):Option PV:=zn p0 fun a b c d e f g h i j k l m=>bH p1 fun n=>bH p2 fun o=>dh qT [vb a b c d e f g h i j k l m] fun p=>if(!p)then dh bX [] fun p=>some (PV.bool p)else afN pk [vb a b c d e f g h i j k l m,n,o] fun p q=>dz (q==0) (some (decide ((↑p.length:Int)>60))) fun r=>if r then dh bX [] fun r=>some (PV.bool r)else jx mi [vb a b c d e f g h i j k l m,n,o] fun r=>(bR 2 r).bind fun r=>(Ab.asAgg 9 (r.getD 0 .bad)).bind fun _=>mcG r 1 fun o=>if(q !=0)then dz (o==q) (dh bX [] fun q=>some q) fun q=>some (PV.bool q)else M3 qW [vb a b c d e f g h i j k l m,.rs 8 p] fun q h=>if(h !=0)then dz (o==h) (dh bX [] fun h=>some h) fun h=>some (PV.bool h)else aiL qD [.rs 4 i,(↑a.length:Int)] fun h i=>if(i !=0)then some (PV.bool false)else dz (o==0) (dh qP [.agg [cell (r.getD 0 .bad) 0,cell (r.getD 0 .bad) 1,cell (r.getD 0 .bad) 2,cell (r.getD 0 .bad) 3,cell (r.getD 0 .bad) 4,cell (r.getD 0 .bad) 5,cell (r.getD 0 .bad) 6,cell (r.getD 0 .bad) 7,cell (r.getD 0 .bad) 8],DH a b p q h j k l m] fun i=>some i) fun i=>dz i (dh qO [.agg [cell (r.getD 0 .bad) 0,cell (r.getD 0 .bad) 1,cell (r.getD 0 .bad) 2,cell (r.getD 0 .bad) 3,cell (r.getD 0 .bad) 4,cell (r.getD 0 .bad) 5,cell (r.getD 0 .bad) 6,cell (r.getD 0 .bad) 7,cell (r.getD 0 .bad) 8]] fun i=>some i) fun i=>dz i (dh bX [] fun i=>some i) fun i=>some (PV.bool i)
def eT:List PV→Option PV|[p0,p1,p2]=>mR aX p0 p1 p2|_=>none
end
end Go.Ab
