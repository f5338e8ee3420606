import Derived.Test.YtmbihgjlollbeaaGreatSh4
set_option linter.all false
set_option maxHeartbeats 4000000
namespace Go.Ab
noncomputable section
abbrev ahJ:=Int×List PV×List PV×List PV×List PV×List PV×List PV×List PV×List PV×List PV×List PV×Int×Int×Int×List PV×List PV×List PV×List PV×List PV×List PV×Int×Int×Int×List PV×Int×Int×Int×Int×Int×List PV×Unit
def uc:iT (List PV×Int×Int×Int×Unit):=fun(a,b,c,d,_)=>fun e=>if decide (d<(↑a.length:Int))then cM a d fun f=>gL pK [oB f] fun f=>if f then cM a d fun f=>zz pL [oB f] fun f=>e (a,b,az (c+f),az (d+1),())else e (a,b,c,az (d+1),())
else some (PV.bool (decide (c>b)))
def AA(L:bD)(p0 p1:PV):Option PV:=(aw 4 p0).bind fun a=>dA p1 fun b=>if decide ((↑a.length:Int)>100)then some (PV.bool true)else L.run uc (a,b,0,0,())
def rq:List PV→Option PV|[p0,p1]=>AA bk p0 p1|_=>none
def kA:iT (ajg):=fun(a,b,c,d,e,f,g,h,i,j,_)=>fun k=>if decide (a<(↑d.length:Int))then cM d a fun l=>gS 5 l 7 fun l=>if decide ((↑l.length:Int)>40)then some (PV.bool true)else k (az (a+1),b,c,d,e,f,g,h,i,j,())
else some (PV.bool false)
def sI(L:bD):iT (ahJ):=fun(a,b,c,d,e,f,g,h,i,j,k,l,m,n,o,p,q,r,s,t,u,v,w,y,z,A,B,C,D,E,_)=>fun x=>if decide (a<(↑f.length:Int))then cM f a fun F=>gS 5 F 4 fun F=>if decide ((↑F.length:Int)>40)then some (PV.bool true)else x (az (a+1),b,c,d,e,f,g,h,i,j,k,l,m,n,o,p,q,r,s,t,u,v,w,y,z,A,B,C,D,E,())
else dB (decide ((↑o.length:Int)>12)) (some (decide ((↑p.length:Int)>20))) fun F=>dB F (some (decide ((↑q.length:Int)>40))) fun F=>dB F (some (decide ((↑r.length:Int)>60))) fun F=>dB F (some (decide ((↑s.length:Int)>200))) fun F=>dB F (some (decide ((↑t.length:Int)>20))) fun F=>dB F (some (decide ((↑y.length:Int)>12))) fun F=>dB F (some (decide ((↑E.length:Int)>12))) fun F=>if F then some (PV.bool true)else L.run kA (0,o,p,q,r,s,t,u,v,w,())
def yb(L:bD)(p0 p1 p2:PV):Option PV:=Ue p0 fun a b c d e f g h i j k l m=>xg p1 fun n o p q r s t u v=>R4 p2 fun w x y z A B C=>dB (decide ((↑a.length:Int)>70)) (some (decide ((↑b.length:Int)>70))) fun D=>dB D (some (decide ((↑c.length:Int)>70))) fun D=>dB D (some (decide ((↑d.length:Int)>40))) fun D=>dB D (some (decide ((↑e.length:Int)>12))) fun D=>dB D (some (decide ((↑g.length:Int)>40))) fun D=>dB D (some (decide ((↑h.length:Int)>40))) fun D=>dB D (some (decide ((↑i.length:Int)>60))) fun D=>dB D (some (decide ((↑j.length:Int)>20))) fun D=>dB D (gL rq [.rs 4 f,.int .i64 600] fun D=>some D) fun D=>if D then some (PV.bool true)else L.run (sI L) (0,a,b,c,d,e,f,g,h,i,j,k,l,m,n,o,p,q,r,s,t,u,v,w,x,y,z,A,B,C,())
def l5:List PV→Option PV|[p0,p1,p2]=>yb bk p0 p1 p2|_=>none
end
end Go.Ab
