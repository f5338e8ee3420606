import Derived.Test.YteddgaennnfacaaGreatAbSortK
set_option linter.all false
set_option maxHeartbeats 4000000
namespace Go.Ab
noncomputable section
abbrev cL(T:Type):=T→(T→Option PV)→Option PV
structure iA(R:Type)(n:Nat)
instance {R:Type}:CoeFun (iA R 0) (fun _=>(List PV→Option PV)→List PV→(Int→Bool→Option R)→Option R):=⟨fun _=>fun f l k=>(f l).bind fun r=>(bR 2 r).bind fun vs=>(Ab.asInt .i64 (vs.getD 0 .bad)).bind fun v0=>(Ab.asBool (vs.getD 1 .bad)).bind fun v1=>k v0 v1⟩
variable{R:Type}
abbrev G7:iA R 0:=⟨⟩
instance {R:Type}:CoeFun (iA R 1) (fun _=>(List PV→Option PV)→List PV→(Int→Int→Option R)→Option R):=⟨fun _=>fun f l k=>(f l).bind fun r=>(bR 2 r).bind fun vs=>(Ab.asInt .i64 (vs.getD 0 .bad)).bind fun v0=>(Ab.asInt .i64 (vs.getD 1 .bad)).bind fun v1=>k v0 v1⟩
abbrev fC:iA R 1:=⟨⟩
instance {R:Type}:CoeFun (iA R 2) (fun _=>(List PV→Option PV)→List PV→(List PV→Int→Option R)→Option R):=⟨fun _=>fun f l k=>(f l).bind fun r=>(bR 2 r).bind fun vs=>(ah 4 (vs.getD 0 .bad)).bind fun v0=>(Ab.asInt .i64 (vs.getD 1 .bad)).bind fun v1=>k v0 v1⟩
abbrev aiL:iA R 2:=⟨⟩
instance {R:Type}:CoeFun (iA R 3) (fun _=>(List PV→Option PV)→List PV→(List PV→Int→Option R)→Option R):=⟨fun _=>fun f l k=>(f l).bind fun r=>(bR 2 r).bind fun vs=>(ah 5 (vs.getD 0 .bad)).bind fun v0=>(Ab.asInt .i64 (vs.getD 1 .bad)).bind fun v1=>k v0 v1⟩
abbrev M3:iA R 3:=⟨⟩
instance {R:Type}:CoeFun (iA R 4) (fun _=>(List PV→Option PV)→List PV→(List PV→Int→Option R)→Option R):=⟨fun _=>fun f l k=>(f l).bind fun r=>(bR 2 r).bind fun vs=>(ah 8 (vs.getD 0 .bad)).bind fun v0=>(Ab.asInt .i64 (vs.getD 1 .bad)).bind fun v1=>k v0 v1⟩
abbrev afN:iA R 4:=⟨⟩
instance {R:Type}:CoeFun (iA R 5) (fun _=>(List PV→Option PV)→List PV→(Int→Int→Bool→Option R)→Option R):=⟨fun _=>fun f l k=>(f l).bind fun r=>(bR 3 r).bind fun vs=>(Ab.asInt .i64 (vs.getD 0 .bad)).bind fun v0=>(Ab.asInt .i64 (vs.getD 1 .bad)).bind fun v1=>(Ab.asBool (vs.getD 2 .bad)).bind fun v2=>k v0 v1 v2⟩
abbrev Wj:iA R 5:=⟨⟩
instance {R:Type}:CoeFun (iA R 6) (fun _=>(List PV→Option PV)→List PV→(Int→Int→Int→Option R)→Option R):=⟨fun _=>fun f l k=>(f l).bind fun r=>(bR 3 r).bind fun vs=>(Ab.asInt .i64 (vs.getD 0 .bad)).bind fun v0=>(Ab.asInt .i64 (vs.getD 1 .bad)).bind fun v1=>(Ab.asInt .i64 (vs.getD 2 .bad)).bind fun v2=>k v0 v1 v2⟩
abbrev M4:iA R 6:=⟨⟩
instance:CoeFun (iA Unit 7) (fun _=>PV→PV):=⟨fun _=>fun p=>.agg [cell p 0,cell p 1,cell p 2]⟩
abbrev kq:iA Unit 7:=⟨⟩
instance:CoeFun (iA Unit 8) (fun _=>PV→PV):=⟨fun _=>fun p=>.agg [cell p 0,cell p 1,cell p 2,cell p 3]⟩
abbrev l5:iA Unit 8:=⟨⟩
instance:CoeFun (iA Unit 9) (fun _=>PV→PV):=⟨fun _=>fun p=>.agg [cell p 0,cell p 1,cell p 2,cell p 3,cell p 4]⟩
abbrev aaN:iA Unit 9:=⟨⟩
instance:CoeFun (iA Unit 10) (fun _=>PV→PV):=⟨fun _=>fun p=>.agg [cell p 0,cell p 1,cell p 2,cell p 3,cell p 4,cell p 5]⟩
abbrev akk:iA Unit 10:=⟨⟩
instance:CoeFun (iA Unit 11) (fun _=>PV→PV):=⟨fun _=>fun p=>.agg [cell p 0,cell p 1,cell p 2,cell p 3,cell p 4,cell p 5,cell p 6,cell p 7]⟩
abbrev RS:iA Unit 11:=⟨⟩
instance:CoeFun (iA Unit 12) (fun _=>PV→PV):=⟨fun _=>fun p=>.agg [cell p 0,cell p 1,cell p 2,cell p 3,cell p 4,cell p 5,cell p 6,cell p 7,cell p 8]⟩
abbrev afO:iA Unit 12:=⟨⟩
instance:CoeFun (iA Unit 13) (fun _=>List PV→Bool):=⟨fun _=>fun l=>iV (Kd.int .i64::[].append (Kd.int .i64::[].append (Kd.int .i64::[].append []))) l⟩
abbrev acC:iA Unit 13:=⟨⟩
instance {R:Type}:CoeFun (iA R 14) (fun _=>PV→(Int→Int→Int→Bool→Option R)→Option R):=⟨fun _=>fun p k=>(Ab.asAgg 4 p).bind fun _=>(Ab.asInt .i64 (cell p 0)).bind fun v0=>(Ab.asInt .i64 (cell p 1)).bind fun v1=>(Ab.asInt .i64 (cell p 2)).bind fun v2=>(Ab.asBool (cell p 3)).bind fun v3=>k v0 v1 v2 v3⟩
abbrev aiM:iA R 14:=⟨⟩
instance {R:Type}:CoeFun (iA R 15) (fun _=>PV→(List PV→List PV→List PV→List PV→List PV→List PV→Int→Int→Int→Option R)→Option R):=⟨fun _=>fun p k=>(Ab.asAgg 9 p).bind fun _=>(ah 4 (cell p 0)).bind fun v0=>(ah 3 (cell p 1)).bind fun v1=>(ah 8 (cell p 2)).bind fun v2=>(ah 5 (cell p 3)).bind fun v3=>(ah 4 (cell p 4)).bind fun v4=>(ah 6 (cell p 5)).bind fun v5=>(Ab.asInt .i64 (cell p 6)).bind fun v6=>(Ab.asInt .i64 (cell p 7)).bind fun v7=>(Ab.asInt .i64 (cell p 8)).bind fun v8=>k v0 v1 v2 v3 v4 v5 v6 v7 v8⟩
abbrev EN:iA R 15:=⟨⟩
instance {R:Type}:CoeFun (iA R 16) (fun _=>PV→(Int→Int→Int→Option R)→Option R):=⟨fun _=>fun p k=>(Ab.asAgg 3 p).bind fun _=>(Ab.asInt .i64 (cell p 0)).bind fun v0=>(Ab.asInt .i64 (cell p 1)).bind fun v1=>(Ab.asInt .i64 (cell p 2)).bind fun v2=>k v0 v1 v2⟩
abbrev Wk:iA R 16:=⟨⟩
instance {R:Type}:CoeFun (iA R 17) (fun _=>PV→(List PV→Int→Int→Int→Option R)→Option R):=⟨fun _=>fun p k=>(Ab.asAgg 4 p).bind fun _=>(ah 6 (cell p 0)).bind fun v0=>(Ab.asInt .i64 (cell p 1)).bind fun v1=>(Ab.asInt .i64 (cell p 2)).bind fun v2=>(Ab.asInt .i64 (cell p 3)).bind fun v3=>k v0 v1 v2 v3⟩
abbrev aaO:iA R 17:=⟨⟩
instance {R:Type}:CoeFun (iA R 18) (fun _=>PV→(Bytes→Int→Int→Bool→List PV→Option R)→Option R):=⟨fun _=>fun p k=>(Ab.asAgg 5 p).bind fun _=>(aT (cell p 0)).bind fun v0=>(Ab.asInt .i64 (cell p 1)).bind fun v1=>(Ab.asInt .i64 (cell p 2)).bind fun v2=>(Ab.asBool (cell p 3)).bind fun v3=>(ah 5 (cell p 4)).bind fun v4=>k v0 v1 v2 v3 v4⟩
abbrev Wl:iA R 18:=⟨⟩
instance {R:Type}:CoeFun (iA R 19) (fun _=>PV→(Int→Int→Int→Int→Option R)→Option R):=⟨fun _=>fun p k=>(Ab.asAgg 4 p).bind fun _=>(Ab.asInt .i64 (cell p 0)).bind fun v0=>(Ab.asInt .i64 (cell p 1)).bind fun v1=>(Ab.asInt .i64 (cell p 2)).bind fun v2=>(Ab.asInt .i64 (cell p 3)).bind fun v3=>k v0 v1 v2 v3⟩
abbrev Pv:iA R 19:=⟨⟩
instance {R:Type}:CoeFun (iA R 20) (fun _=>PV→(Int→Int→Int→Bytes→Int→Bool→Bool→List PV→Option R)→Option R):=⟨fun _=>fun p k=>(Ab.asAgg 8 p).bind fun _=>(Ab.asInt .i64 (cell p 0)).bind fun v0=>(Ab.asInt .i64 (cell p 1)).bind fun v1=>(Ab.asInt .i64 (cell p 2)).bind fun v2=>(aT (cell p 3)).bind fun v3=>(Ab.asInt .i64 (cell p 4)).bind fun v4=>(Ab.asBool (cell p 5)).bind fun v5=>(Ab.asBool (cell p 6)).bind fun v6=>(ah 5 (cell p 7)).bind fun v7=>k v0 v1 v2 v3 v4 v5 v6 v7⟩
abbrev Wm:iA R 20:=⟨⟩
instance {R:Type}:CoeFun (iA R 21) (fun _=>PV→(List PV→List PV→List PV→List PV→List PV→List PV→List PV→List PV→List PV→List PV→Int→Int→Int→Option R)→Option R):=⟨fun _=>fun p k=>(Ab.asAgg 13 p).bind fun _=>(ah 4 (cell p 0)).bind fun v0=>(ah 3 (cell p 1)).bind fun v1=>(ah 10 (cell p 2)).bind fun v2=>(ah 3 (cell p 3)).bind fun v3=>(ah 5 (cell p 4)).bind fun v4=>(ah 4 (cell p 5)).bind fun v5=>(ah 2 (cell p 6)).bind fun v6=>(ah 3 (cell p 7)).bind fun v7=>(ah 4 (cell p 8)).bind fun v8=>(ah 6 (cell p 9)).bind fun v9=>(Ab.asInt .i64 (cell p 10)).bind fun v10=>(Ab.asInt .i64 (cell p 11)).bind fun v11=>(Ab.asInt .i64 (cell p 12)).bind fun v12=>k v0 v1 v2 v3 v4 v5 v6 v7 v8 v9 v10 v11 v12⟩
abbrev zn:iA R 21:=⟨⟩
instance:CoeFun (iA Unit 22) (fun _=>Int→Int→Int→Int→Bool→PV):=⟨fun _=>fun v0 v1 v2 v3 v4=>.agg [.int .i64 v0,.int .i64 v1,.int .i64 v2,.int .i64 v3,.bool v4]⟩
abbrev acD:iA Unit 22:=⟨⟩
instance:CoeFun (iA Unit 23) (fun _=>Int→Int→Int→Bytes→Int→Bool→Bool→List PV→PV):=⟨fun _=>fun v0 v1 v2 v3 v4 v5 v6 v7=>.agg [.int .i64 v0,.int .i64 v1,.int .i64 v2,.str v3,.int .i64 v4,.bool v5,.bool v6,.rs 5 v7]⟩
abbrev Kh:iA Unit 23:=⟨⟩
instance:CoeFun (iA Unit 24) (fun _=>List PV→List PV→List PV→List PV→List PV→List PV→List PV→List PV→List PV→List PV→Int→Int→Int→PV):=⟨fun _=>fun v0 v1 v2 v3 v4 v5 v6 v7 v8 v9 v10 v11 v12=>.agg [.rs 4 v0,.rs 3 v1,.rs 10 v2,.rs 3 v3,.rs 5 v4,.rs 4 v5,.rs 2 v6,.rs 3 v7,.rs 4 v8,.rs 6 v9,.int .i64 v10,.int .i64 v11,.int .i64 v12]⟩
abbrev vb:iA Unit 24:=⟨⟩
instance:CoeFun (iA Unit 25) (fun _=>List PV→List PV→List PV→List PV→List PV→List PV→Int→Int→Int→PV):=⟨fun _=>fun v0 v1 v2 v3 v4 v5 v6 v7 v8=>.agg [.rs 4 v0,.rs 3 v1,.rs 8 v2,.rs 5 v3,.rs 4 v4,.rs 6 v5,.int .i64 v6,.int .i64 v7,.int .i64 v8]⟩
abbrev DH:iA Unit 25:=⟨⟩
instance:CoeFun (iA Unit 26) (fun _=>Bytes→Int→Int→Bool→List PV→PV):=⟨fun _=>fun v0 v1 v2 v3 v4=>.agg [.str v0,.int .i64 v1,.int .i64 v2,.bool v3,.rs 5 v4]⟩
abbrev acE:iA Unit 26:=⟨⟩
instance {R:Type}:CoeFun (iA R 27) (fun _=>PV→Nat→(Int→Option R)→Option R):=⟨fun _=>fun p j k=>(Ab.asInt .i64 (cell p j)).bind k⟩
abbrev aC:iA R 27:=⟨⟩
instance {R:Type}:CoeFun (iA R 28) (fun _=>PV→Nat→(Bool→Option R)→Option R):=⟨fun _=>fun p j k=>(Ab.asBool (cell p j)).bind k⟩
abbrev ET:iA R 28:=⟨⟩
instance {R:Type}:CoeFun (iA R 29) (fun _=>Nat→PV→Nat→(List PV→Option R)→Option R):=⟨fun _=>fun s p j k=>(ah s (cell p j)).bind k⟩
abbrev sE:iA R 29:=⟨⟩
instance {R:Type}:CoeFun (iA R 30) (fun _=>PV→(Int→Option R)→Option R):=⟨fun _=>fun p k=>(Ab.asInt .i64 p).bind k⟩
abbrev bH:iA R 30:=⟨⟩
instance {R:Type}:CoeFun (iA R 31) (fun _=>PV→(Bool→Option R)→Option R):=⟨fun _=>fun p k=>(Ab.asBool p).bind k⟩
abbrev mcb:iA R 31:=⟨⟩
instance {R:Type}:CoeFun (iA R 32) (fun _=>Nat→PV→(Unit→Option R)→Option R):=⟨fun _=>fun n p k=>(Ab.asAgg n p).bind k⟩
abbrev zF:iA R 32:=⟨⟩
instance {R:Type}:CoeFun (iA R 33) (fun _=>List PV→Nat→(Int→Option R)→Option R):=⟨fun _=>fun p j k=>(Ab.asInt .i64 (p.getD j .bad)).bind k⟩
abbrev mcG:iA R 33:=⟨⟩
instance {R:Type}:CoeFun (iA R 34) (fun _=>(List PV→Option PV)→List PV→(Int→Option R)→Option R):=⟨fun _=>fun f l k=>(f l).bind fun r=>(Ab.asInt .i64 r).bind k⟩
abbrev F2:iA R 34:=⟨⟩
instance {R:Type}:CoeFun (iA R 35) (fun _=>(List PV→Option PV)→List PV→(Bool→Option R)→Option R):=⟨fun _=>fun f l k=>(f l).bind fun r=>(Ab.asBool r).bind k⟩
abbrev dh:iA R 35:=⟨⟩
instance {R:Type}:CoeFun (iA R 36) (fun _=>List PV→Int→(PV→Option R)→Option R):=⟨fun _=>fun l i k=>(pG l i).bind k⟩
abbrev bl:iA R 36:=⟨⟩
instance {R:Type}:CoeFun (iA R 37) (fun _=>(List PV→Option PV)→List PV→(PV→Option R)→Option R):=⟨fun _=>fun f l k=>(f l).bind k⟩
abbrev jx:iA R 37:=⟨⟩
instance {R:Type}:CoeFun (iA R 38) (fun _=>Bool→Option Bool→(Bool→Option R)→Option R):=⟨fun _=>fun c x k=>(bif c then some true else x).bind k⟩
abbrev b8:iA R 38:=⟨⟩
instance {R:Type}:CoeFun (iA R 39) (fun _=>Bool→Option Bool→(Bool→Option R)→Option R):=⟨fun _=>fun c x k=>(bif c then x else some false).bind k⟩
abbrev dz:iA R 39:=⟨⟩
instance {R:Type}:CoeFun (iA R 40) (fun _=>List PV→Int→(PV→Option R)→Option R):=⟨fun _=>fun l i k=>if ar i l.length then l[i.toNat]?.bind k else none⟩
abbrev Bx:iA R 40:=⟨⟩
instance:CoeFun (iA Unit 41) (fun _=>Int→Int):=⟨fun _=>IntKind.i64.wrap⟩
abbrev ay:iA Unit 41:=⟨⟩
instance:CoeFun PV (fun _=>Nat→PV):=⟨cell⟩
instance:Coe Int PV:=⟨.int .i64⟩
abbrev TY0:=List PV×Int×Int×List PV×List PV×List PV×List PV×List PV×List PV×Int×Int×Int×Int×Int×Int×List (PV×PV)×List (PV×PV)×List (PV×PV)×Unit
abbrev TY1:=List PV×List PV×Int×Int×Int×Unit
abbrev TY2:=PV×List PV×Int×Int×List PV×Int×PV×PV×PV×List PV×Unit
abbrev TY3:=Int×PV×List PV×Int×Int×Int×List PV×PV×PV×PV×List PV×Unit
abbrev TY4:=Int×PV×Int×Int×Int×Int×PV×PV×PV×List PV×List PV×Unit
abbrev TY5:=Int×PV×Int×List PV×List PV×Unit
abbrev TY6:=Bool×List PV×Int×Int×List (PV×PV)×Unit
abbrev TY7:=Int×Bool×List PV×Int×Int×List (PV×PV)×Unit
abbrev TY8:=List PV×List PV×Int×Int×List PV×Unit
abbrev TY9:=List PV×List PV×Int×Int×Int×List PV×Int×Int×List PV×Unit
abbrev aiN:=Int×List PV×Int×Int×List (PV×PV)×Unit
abbrev ab9:=List PV×Int×Int×List PV×List PV×List PV×List PV×List PV×List PV×Int×Int×Int×Int×Int×Int×List (PV×PV)×Unit
abbrev aiO:=List PV×Int×Int×Int×Int×Int×Unit
abbrev acF:=List PV×Int×Int×List (PV×PV)×Unit
abbrev akl:=Int×Int×Bool×List PV×Int×Int×Unit
abbrev akm:=Int×Int×List PV×Int×Int×Int×PV×PV×PV×PV×PV×PV×Unit
abbrev aiP:=Int×Int×Int×Int×List PV×List PV×List PV×List PV×List PV×List PV×Int×Int×Int×Unit
abbrev akn:=Int×Int×Int×Int×Int×Int×List PV×List PV×List PV×List PV×List PV×List PV×Int×Int×Int×Unit
abbrev aiQ:=Int×Int×List PV×List PV×List PV×List PV×List PV×List PV×Int×Int×Int×PV×PV×PV×PV×PV×Unit
abbrev Wn:=List PV×Int×Bool×Int×List PV×Unit
abbrev aiR:=List PV×Int×Bool×Int×Int×List PV×List PV×Unit
abbrev Vo:=Int×List PV×List PV×Int×List PV×Unit
abbrev aiS:=Int×List PV×List PV×Int×Int×List PV×Unit
abbrev YM:=Int×List PV×List PV×List PV×List PV×List PV×List PV×Int×Int×Int×Unit
abbrev ako:=Int×Int×List PV×List PV×List PV×List PV×List PV×List PV×Int×Int×Int×PV×PV×PV×PV×Unit
abbrev akp:=List PV×Int×List PV×List PV×List PV×List PV×List PV×List PV×Int×Int×Int×Unit
abbrev akq:=Int×Int×List PV×List PV×List PV×List PV×List PV×List PV×Int×Int×Int×PV×PV×PV×PV×PV×PV×PV×PV×Unit
abbrev akr:=Int×List PV×Int×Int×Int×List PV×Int×Int×Int×Unit
abbrev acG:=Int×List PV×List PV×List PV×List PV×List PV×List PV×Int×Int×Int×List PV×List PV×List PV×List PV×List PV×List PV×Int×Int×Int×Unit
abbrev aks:=Int×Int×Int×List PV×Int×Int×PV×PV×PV×PV×PV×PV×PV×PV×PV×PV×Unit
abbrev aiT:=Int×Int×List PV×Int×Int×PV×PV×PV×PV×List PV×Unit
abbrev akt:=Int×Int×Int×Int×List PV×Int×Int×PV×PV×PV×PV×List PV×Unit
abbrev afP:=Int×List PV×Int×Int×List PV×Unit
abbrev aku:=Int×Int×Int×List PV×Int×Int×List (PV×PV)×Unit
abbrev afQ:=List PV×List PV×List PV×Int×Int×Unit
abbrev akv:=List PV×List PV×Int×Int×Bool×List PV×Int×Int×List PV×Int×Int×PV×PV×PV×PV×Unit
abbrev akw:=List PV×List PV×List (PV×PV)×Unit
abbrev akx:=List PV×List PV×List PV×List PV×Int×Int×List (PV×PV)×List (PV×PV)×Unit
abbrev aky:=List PV×Int×List PV×Int×Int×Unit
abbrev akz:=List PV×List PV×Int×List PV×Int×Int×List (PV×PV)×Unit
abbrev akA:=Int×Int×Int×Bytes×Int×Int×Bool×List PV×List PV×Unit
abbrev akB:=Int×Int×Int×Int×Int×List PV×Unit
abbrev akC:=List PV×List PV×Int×Int×Bool×Int×PV×PV×PV×PV×Unit
abbrev akD:=List PV×List PV×List PV×Int×Unit
abbrev akE:=List PV×Int×Int×PV×PV×PV×Unit
abbrev akF:=List PV×Int×Int×Int×PV×PV×PV×PV×Unit
abbrev afR:=Int×List PV×List PV×List PV×List PV×List PV×List PV×List PV×List PV×List PV×List PV×Int×Int×Int×Unit
abbrev aiU:=List PV×Int×Int×List PV×Int×List PV×Unit
abbrev akG:=List PV×Int×Int×List PV×Int×Int×List PV×Unit
abbrev aiV:=Int×Int×List PV×List PV×List PV×List PV×List PV×List PV×Int×Int×Int×Int×Int×Int×List PV×Int×Int×Int×List PV×List PV×List PV×List PV×List PV×Unit
abbrev aiW:=Int×List PV×Int×Int×Int×Int×Int×Bytes×Int×Bool×Bool×List PV×Bool×PV×PV×PV×PV×PV×Int×Int×Int×Bytes×Int×Bool×Bool×List PV×Unit
abbrev aiX:=List PV×Int×Int×List PV×List PV×List PV×List PV×List PV×List PV×List PV×List PV×List PV×List PV×Int×Int×Int×List (PV×PV)×Unit
abbrev aiY:=List PV×PV×Int×List PV×Int×Int×List PV×PV×PV×PV×PV×PV×PV×PV×PV×Int×Int×Int×Int×Bool×Unit
abbrev aiZ:=List PV×PV×Int×Int×List PV×List PV×List PV×List PV×List PV×List PV×List PV×List PV×List PV×List PV×Int×Int×Int×List PV×Unit
def sj(L:bj)(p0 p1:PV):Option PV:=bH p0 fun a=>bH p1 fun b=>if(a !=a)then if(b !=b)then some (PV.int .i64 0)else some (PV.int .i64 (-1))else if(b !=b)then some (PV.int .i64 1)else if decide (a<b)then some (PV.int .i64 (-1))else if decide (a>b)then some (PV.int .i64 1)else some (PV.int .i64 0)
def fe:List PV→Option PV|[p0,p1]=>sj aX p0 p1|_=>none
def eN:cL (Int×List PV×Int×Int×Unit):=fun(a,b,c,d,_)=>fun e=>if decide (d<c)then bl b d fun f=>aC f 0 fun f=>if(f !=a)then some (f)else e (a,b,c,ay (d+1),())
else some (a)
def Dm(L:bj)(p0:PV):Option PV:=(ah 1 p0).bind fun a=>L.run eN (0,a,(↑a.length:Int),0,())
def tc:List PV→Option PV|[p0]=>Dm aX p0|_=>none
def nb(L:bj)(p0 p1:PV):Option PV:=aiM p0 fun a b c _=>aiM p1 fun d e f _=>F2 fe [a,d] fun d=>F2 fe [b,e] fun e=>F2 fe [c,f] fun f=>F2 tc [.rs 1 [d,e,f]] fun f=>some (f)
def cw:List PV→Option PV|[p0,p1]=>nb aX p0 p1|_=>none
def Cx(L:bj):Option PV:=some (PV.agg [.rs 4 [.agg [.str [65],.int .i64 0,.bool false,.int .i64 0],.agg [.str [66],.int .i64 0,.bool false,.int .i64 0]],.rs 3 [.agg [.str [82],.int .i64 0,.bool false]],.rs 8 [.agg [.int .i64 0,.int .i64 0,.int .i64 0,.str [116],.int .i64 0,.bool false,.bool false,.rs 5 [.agg [.int .i64 0,.int .i64 100,.int .i64 160,.bool true,.bool false],.agg [.int .i64 1,.int .i64 200,.int .i64 200,.bool false,.bool true]]]],.rs 0 [],.rs 0 [],.rs 0 [],.int .i64 0,.int .i64 0,.int .i64 0])
def jD:List PV→Option PV|[]=>Cx aX|_=>none
def kW:cL (PV×Int×Int×Bool×Unit):=fun(a,b,c,d,_)=>fun e=>if d then if(c==b)then some (PV.bool true)else cM 3 a (e (a,b,0,false,())) fun f g=>(Ab.asInt .i64 (bS (PV.int .i64 c) (PV.int .i64 0) (f.zip g))).bind fun h=>e (a,b,h,lM (PV.int .i64 c) (f.zip g),())
else some (PV.bool false)
def wV(L:bj)(p0 p1 p2:PV):Option PV:=cM 3 p0 (bH p1 fun _=>bH p2 fun a=>L.run kW (PV.rr,a,0,false,())) fun a b=>bH p1 fun c=>bH p2 fun d=>(Ab.asInt .i64 (bS (PV.int .i64 c) (PV.int .i64 0) (a.zip b))).bind fun e=>L.run kW (PV.rm 3 a b,d,e,lM (PV.int .i64 c) (a.zip b),())
def ml:List PV→Option PV|[p0,p1,p2]=>wV aX p0 p1 p2|_=>none
def Jh(L:bj)(p0 p1 p2:PV):Option PV:=bH p0 fun a=>bH p1 fun b=>bH p2 fun c=>some (PV.agg [a,b,c])
def bq:List PV→Option PV|[p0,p1,p2]=>Jh aX p0 p1 p2|_=>none
def uE(L:bj)(p0 p1:PV):Option PV:=bH p0 fun a=>bH p1 fun b=>dz (decide (a≥0)) (some (decide (a<b))) fun b=>some (PV.bool b)
def dd:List PV→Option PV|[p0,p1]=>uE aX p0 p1|_=>none
def gh:cL (TY0):=fun(a,b,c,d,e,f,g,h,i,j,k,l,m,n,o,p,q,r,_)=>fun s=>if decide (c<b)then bl a c fun t=>aC t 0 fun u=>dh dd [u,(↑f.length:Int)] fun u=>b8 (!u) (aC t 2 fun u=>dh dd [u,(↑f.length:Int)] fun u=>some !u) fun u=>b8 u (aC t 0 fun u=>aC t 2 fun v=>some (u==v)) fun v=>if v then jx bq [.int .i64 3,c,.int .i64 9] fun v=>zF 3 v fun _=>some (kq v)else aC t 0 fun v=>bl f v fun v=>sE 5 v 7 fun v=>aC t 2 fun u=>bl f u fun u=>sE 5 u 7 fun u=>aC t 1 fun w=>dh dd [w,(↑v.length:Int)] fun w=>b8 (!w) (aC t 3 fun w=>dh dd [w,(↑u.length:Int)] fun w=>some !w) fun w=>if w then jx bq [.int .i64 3,c,.int .i64 9] fun w=>zF 3 w fun _=>some (kq w)else aC t 0 fun w=>aC t 1 fun y=>aC t 2 fun z=>aC t 3 fun A=>aC t 0 fun B=>(Ab.asInt .i64 (bS (PV.int .i64 B) (PV.int .i64 0) p)).bind fun _=>aC t 1 fun C=>bl v C fun C=>aC C 0 fun C=>aC t 3 fun D=>bl u D fun D=>aC D 0 fun D=>if(C !=D)then jx bq [.int .i64 3,c,.int .i64 13] fun D=>zF 3 D fun _=>some (kq D)else ET t 4 fun D=>dz D (aC t 1 fun D=>b8 (ay (D+1) !=(↑v.length:Int)) (aC t 3 fun D=>some (D !=0)) fun D=>b8 D (some (lM (PV.int .i64 B) p)) fun D=>b8 D (aC t 2 fun D=>(Ab.asBool (bS (PV.int .i64 D) (PV.bool false) q)).bind fun D=>some D) fun D=>b8 D (aC t 2 fun D=>aC t 0 fun B=>dh ml [PV.rm 3 (List.map (fun x=>x.fst) p) (List.map (fun x=>x.snd) p),D,B] fun B=>some B) fun B=>some B) fun B=>if B then jx bq [.int .i64 3,c,.int .i64 19] fun B=>zF 3 B fun _=>some (kq B)else(Ab.asBool (bS (PV.agg [w,y,z,A]) (PV.bool false) r)).bind fun B=>if B then jx bq [.int .i64 3,c,.int .i64 6] fun B=>zF 3 B fun _=>some (kq B)else ET t 4 fun B=>if B then aC t 0 fun B=>aC t 2 fun D=>aC t 2 fun t=>s (a,b,ay (c+1),d,e,f,g,h,i,j,k,l,m,n,o,dm (PV.int .i64 B) (PV.int .i64 t) p,dm (PV.int .i64 D) (PV.bool true) q,dm (PV.agg [w,y,z,A]) (PV.bool true) r,())else s (a,b,ay (c+1),d,e,f,g,h,i,j,k,l,m,n,o,p,q,dm (PV.agg [w,y,z,A]) (PV.bool true) r,())
else some (PV.agg [.int .i64 0,.int .i64 0,.int .i64 0])
def mT(L:bj)(p0:PV):Option PV:=EN p0 fun a b c d e f g h i=>if decide ((↑d.length:Int)>1024)then jx bq [.int .i64 3,.int .i64 0,.int .i64 5] fun j=>zF 3 j fun _=>some (kq j)else L.run gh (d,(↑d.length:Int),0,a,b,c,d,e,f,g,h,i,0,0,0,[],[],[],())
def eU:List PV→Option PV|[p0]=>mT aX p0|_=>none
def pW(L:bj)(p0:PV)(c1:PV):Option PV:=bH p0 fun a=>b8 (decide (a<0)) (bH c1 fun b=>some (decide (a≥b))) fun b=>some (PV.bool b)
def dH:List PV→Option PV|[p0,PV.rp [c1]]=>pW aX p0 c1|_=>none
def vQ:cL (List PV×Int×Int×Int×Unit):=fun(a,b,c,d,_)=>fun e=>if decide (c<b)then bl a c fun f=>aC f 0 fun f=>dh dH [f,PV.rp [d]] fun f=>if f then some (PV.int .i64 9)else e (a,b,ay (c+1),d,())
else some (PV.int .i64 0)
def oQ(L:bj):cL (TY1):=fun(a,b,c,d,e,_)=>fun f=>if decide (d<c)then bl b d fun g=>aC g 0 fun h=>dh dH [h,PV.rp [e]] fun h=>b8 h (aC g 1 fun h=>dh dH [h,PV.rp [e]] fun h=>some h) fun h=>if h then some (PV.int .i64 9)else aC g 2 fun h=>b8 (decide (h<0)) (aC g 2 fun h=>some (decide (h>1073741824))) fun h=>if h then some (PV.int .i64 2)else f (a,b,c,ay (d+1),e,())
else L.run vQ (a,(↑a.length:Int),0,e,())
def uK(L:bj)(p0 p1 p2:PV):Option PV:=bH p0 fun a=>(ah 3 p1).bind fun b=>(ah 1 p2).bind fun c=>b8 (decide (a<0)) (some (decide (a>64))) fun d=>if d then some (PV.int .i64 2)else if decide ((↑b.length:Int)>4096)then some (PV.int .i64 5)else L.run (oQ L) (c,b,(↑b.length:Int),0,a,())
def k8:List PV→Option PV|[p0,p1,p2]=>uK aX p0 p1 p2|_=>none
def wX(L:bj)(p0 p1:PV):Option PV:=Wk p0 fun _ a b=>Wk p1 fun _ c d=>b8 (decide (a<c)) (dz (a==c) (some (decide (b<d))) fun d=>some d) fun d=>some (PV.bool d)
def jE:List PV→Option PV|[p0,p1]=>wX aX p0 p1|_=>none
def ek(L:bj)(c01:PV)(c02:PV)(p1 p2:PV):Option PV:=(ah 4 c01).bind fun a=>bH c02 fun _=>bH p1 fun b=>bH p2 fun c=>bl a b fun b=>bl a c fun c=>dh jE [kq b,kq c] fun a=>if a then some (PV.bool true)else dh jE [kq c,kq b] fun a=>if a then some (PV.bool false)else aC b 3 fun a=>aC c 3 fun c=>some (PV.bool (decide (a<c)))
def aS:List PV→Option PV|[PV.rp [PV.fn 194 [],c01,c02],p1,p2]=>ek aX c01 c02 p1 p2|_=>none
def ni(dF:PV×List PV×Int×List PV×Unit→Option PV):cL (TY2):=fun(a,_,c,d,e,f,_,_,_,j,_)=>fun _=>if decide (d<c)then none
else dF (a,e,f,j,())
def mY(xT:TY2→Option PV):cL (TY3):=fun(a,b,c,d,e,f,g,h,i,j,k,_)=>fun l=>dz (decide (a>0)) (dh aS [PV.rp [PV.fn 194 [],PV.rs 4 k,f],a,(ay ((ay (a-1)).tdiv 2))] fun m=>some m) fun m=>if m then if ar (ay ((ay (a-1)).tdiv 2)) k.length then k[(ay ((ay (a-1)).tdiv 2)).toNat]?.bind fun m=>Bx k a fun n=>if ar a k.length then k[a.toNat]?.bind fun _=>if ar (ay ((ay (a-1)).tdiv 2)) (k.set a.toNat (l5 m)).length then(k.set a.toNat (l5 m))[(ay ((ay (a-1)).tdiv 2)).toNat]?.bind fun _=>l (ay ((ay (a-1)).tdiv 2),b,c,d,e,f,g,h,i,j,(k.set a.toNat (l5 m)).set (ay ((ay (a-1)).tdiv 2)).toNat (l5 n),())else none else none else none else xT (b,c,d,ay (e+1),g,f,h,i,j,k,())
def cX(L:bj)(dF:PV×List PV×Int×List PV×Unit→Option PV):cL (TY2):=fun(a,b,c,d,e,f,g,h,i,j,_)=>fun k=>if decide (d<c)then bl b d fun l=>aC l 1 fun m=>Bx e m fun m=>aC m 2 fun m=>if decide (m<0)then aC l 1 fun m=>bH h fun n=>aC l 2 fun l=>bH i fun o=>if(j++[PV.agg [m,(ay (n+l)),(ay (o+1)),f]]).length*32≤ag∧0<32 then L.run (mY k) (ay ((↑(j++[PV.agg [m,(ay (n+l)),(ay (o+1)),f]]).length:Int)-1),a,b,c,d,ay (f+1),e,g,h,i,j++[PV.agg [m,(ay (n+l)),(ay (o+1)),f]],())else none else k (a,b,c,ay (d+1),e,f,g,h,i,j,())
else dF (a,e,f,j,())
def ec(L:bj)(dF:PV×List PV×Int×List PV×Unit→Option PV):cL (TY4):=fun(a,b,c,d,e,f,g,h,i,j,k,_)=>fun l=>if decide (ay (ay (2*a)+1)≥(↑k.length:Int))then bH g fun m=>Bx j m fun m=>aC m 2 fun m=>if decide (m≥0)then dF (b,j,c,k,())else bH g fun m=>Bx j m fun _=>bH g fun n=>cM 3 b (L.run (ni dF) (b,[],(↑0:Int),0,j.set m.toNat (PV.agg [g,h,i]),c,g,h,i,k,())) fun o p=>(ah 3 (bS (PV.int .i64 n) (PV.rs 0 []) (o.zip p))).bind fun p=>L.run (cX L dF) (b,p,(↑p.length:Int),0,j.set m.toNat (PV.agg [g,h,i]),c,g,h,i,k,())
else dz (decide (ay (ay (ay (2*a)+1)+1)<(↑k.length:Int))) (dh aS [PV.rp [PV.fn 194 [],PV.rs 4 k,c],(ay (ay (ay (2*a)+1)+1)),(ay (ay (2*a)+1))] fun p=>some p) fun p=>if p then dh aS [PV.rp [PV.fn 194 [],PV.rs 4 k,c],(ay (ay (ay (2*a)+1)+1)),a] fun p=>if(!p)then bH g fun p=>Bx j p fun p=>aC p 2 fun p=>if decide (p≥0)then dF (b,j,c,k,())else bH g fun p=>Bx j p fun _=>bH g fun m=>cM 3 b (L.run (ni dF) (b,[],(↑0:Int),0,j.set p.toNat (PV.agg [g,h,i]),c,g,h,i,k,())) fun o n=>(ah 3 (bS (PV.int .i64 m) (PV.rs 0 []) (o.zip n))).bind fun n=>L.run (cX L dF) (b,n,(↑n.length:Int),0,j.set p.toNat (PV.agg [g,h,i]),c,g,h,i,k,())else if ar (ay (ay (ay (2*a)+1)+1)) k.length then k[(ay (ay (ay (2*a)+1)+1)).toNat]?.bind fun n=>Bx k a fun p=>if ar a k.length then k[a.toNat]?.bind fun _=>if ar (ay (ay (ay (2*a)+1)+1)) (k.set a.toNat (l5 n)).length then(k.set a.toNat (l5 n))[(ay (ay (ay (2*a)+1)+1)).toNat]?.bind fun _=>l (ay (ay (ay (2*a)+1)+1),b,c,d,e,f,g,h,i,j,(k.set a.toNat (l5 n)).set (ay (ay (ay (2*a)+1)+1)).toNat (l5 p),())else none else none else none else dh aS [PV.rp [PV.fn 194 [],PV.rs 4 k,c],(ay (ay (2*a)+1)),a] fun p=>if(!p)then bH g fun p=>Bx j p fun p=>aC p 2 fun p=>if decide (p≥0)then dF (b,j,c,k,())else bH g fun p=>Bx j p fun _=>bH g fun n=>cM 3 b (L.run (ni dF) (b,[],(↑0:Int),0,j.set p.toNat (PV.agg [g,h,i]),c,g,h,i,k,())) fun o m=>(ah 3 (bS (PV.int .i64 n) (PV.rs 0 []) (o.zip m))).bind fun m=>L.run (cX L dF) (b,m,(↑m.length:Int),0,j.set p.toNat (PV.agg [g,h,i]),c,g,h,i,k,())else if ar (ay (ay (2*a)+1)) k.length then k[(ay (ay (2*a)+1)).toNat]?.bind fun m=>Bx k a fun p=>if ar a k.length then k[a.toNat]?.bind fun _=>if ar (ay (ay (2*a)+1)) (k.set a.toNat (l5 m)).length then(k.set a.toNat (l5 m))[(ay (ay (2*a)+1)).toNat]?.bind fun _=>l (ay (ay (2*a)+1),b,c,d,e,f,g,h,i,j,(k.set a.toNat (l5 m)).set (ay (ay (2*a)+1)).toNat (l5 p),())else none else none else none
def fB(L:bj):cL (PV×List PV×Int×List PV×Unit):=fun(a,b,c,d,_)=>fun e=>if((↑d.length:Int)==0)then some (PV.rs 3 b)
else if ar 0 d.length then d[Int.toNat 0]?.bind fun f=>if ar (ay ((↑d.length:Int)-1)) d.length then d[(ay ((↑d.length:Int)-1)).toNat]?.bind fun g=>if ar 0 d.length then d[Int.toNat 0]?.bind fun h=>if ar 0 d.length then d[Int.toNat 0]?.bind fun _=>if ar (ay ((↑d.length:Int)-1)) (d.set (Int.toNat 0) (l5 g)).length then(d.set (Int.toNat 0) (l5 g))[(ay ((↑d.length:Int)-1)).toNat]?.bind fun _=>if(0:Int)≤0∧0≤ay ((↑d.length:Int)-1)∧ay ((↑d.length:Int)-1)≤(↑((d.set (Int.toNat 0) (l5 g)).set (ay ((↑d.length:Int)-1)).toNat (l5 h)).length:Int)∧4=4 then L.run (ec L e) (0,a,c,0,0,0,f 0,f 1,f 2,b,List.take ((ay ((↑d.length:Int)-1)).toNat-Int.toNat 0) ((d.set (Int.toNat 0) (l5 g)).set (ay ((↑d.length:Int)-1)).toNat (l5 h)),())else none else none else none else none else none else none
def Ch(L:bj):cL (TY5):=fun(a,b,c,d,e,_)=>fun f=>dz (decide (a>0)) (dh aS [PV.rp [PV.fn 194 [],PV.rs 4 e,c],a,(ay ((ay (a-1)).tdiv 2))] fun g=>some g) fun g=>if g then if ar (ay ((ay (a-1)).tdiv 2)) e.length then e[(ay ((ay (a-1)).tdiv 2)).toNat]?.bind fun g=>Bx e a fun h=>if ar a e.length then e[a.toNat]?.bind fun _=>if ar (ay ((ay (a-1)).tdiv 2)) (e.set a.toNat (l5 g)).length then(e.set a.toNat (l5 g))[(ay ((ay (a-1)).tdiv 2)).toNat]?.bind fun _=>f (ay ((ay (a-1)).tdiv 2),b,c,d,(e.set a.toNat (l5 g)).set (ay ((ay (a-1)).tdiv 2)).toNat (l5 h),())else none else none else none else L.run (fB L) (b,d,c,e,())
def hU(L:bj):cL (PV×Int×Int×Int×List PV×Unit):=fun(a,b,c,d,e,_)=>fun f=>if decide (d<c)then Bx e d fun _=>f (a,b,c,ay (d+1),e.set d.toNat (PV.agg [d,.int .i64 (-1),.int .i64 (-1)]),())
else L.run (Ch L) (ay ((↑1:Int)-1),a,ay (0+1),e,[PV.agg [b,.int .i64 0,.int .i64 0,.int .i64 0]],())
def si(L:bj)(p0 p1 p2:PV):Option PV:=bH p0 fun a=>cM 3 p1 (bH p2 fun b=>if 0≤a∧a≤a∧a.toNat*24≤ag∧0<24∧0<3 then L.run (hU L) (PV.rr,b,(↑(List.replicate a.toNat (PV.agg [.int .i64 0,.int .i64 0,.int .i64 0])).length:Int),0,List.replicate a.toNat (PV.agg [.int .i64 0,.int .i64 0,.int .i64 0]),())else none) fun b c=>bH p2 fun d=>if 0≤a∧a≤a∧a.toNat*24≤ag∧0<24∧0<3 then L.run (hU L) (PV.rm 3 b c,d,(↑(List.replicate a.toNat (PV.agg [.int .i64 0,.int .i64 0,.int .i64 0])).length:Int),0,List.replicate a.toNat (PV.agg [.int .i64 0,.int .i64 0,.int .i64 0]),())else none
def gD:List PV→Option PV|[p0,p1,p2]=>si aX p0 p1 p2|_=>none
def lF:cL (List PV×Int×Int×List PV×Unit):=fun(a,b,c,d,_)=>fun e=>if decide (c<b)then bl a c fun f=>aC f 1 fun f=>Bx d c fun _=>e (a,b,ay (c+1),d.set c.toNat (PV.int .i64 f),())
else some (PV.rs 1 d)
def qk(L:bj)(p0:PV):Option PV:=(ah 3 p0).bind fun a=>if 0≤(↑a.length:Int)∧(↑a.length:Int)≤(↑a.length:Int)∧(↑a.length:Int).toNat*8≤ag∧0<8∧0<1 then L.run lF (a,(↑a.length:Int),0,List.replicate (↑a.length:Int).toNat (PV.int .i64 0),())else none
def jn:List PV→Option PV|[p0]=>qk aX p0|_=>none
def jP(L:bj):cL (TY6):=fun(a,b,c,d,e,_)=>fun f=>if decide (d<c)then bl b d fun g=>if a then aC g 1 fun h=>aC g 0 fun i=>(Nh 3 (PV.int .i64 h) e).bind fun j=>if(j++[PV.agg [h,i,g 2]]).length*24≤ag∧0<24 then f (a,b,c,ay (d+1),dm (PV.int .i64 h) (PV.mE 3 (j++[PV.agg [h,i,g 2]])) (xy (PV.int .i64 h) e),())else none else aC g 0 fun j=>aC g 0 fun i=>(Nh 3 (PV.int .i64 i) e).bind fun h=>if(h++[kq g]).length*24≤ag∧0<24 then f (a,b,c,ay (d+1),dm (PV.int .i64 j) (PV.mE 3 (h++[kq g])) (xy (PV.int .i64 i) e),())else none
else some (PV.rm 3 (List.map (fun x=>x.fst) e) (List.map (fun x=>x.snd.pP) e))
def mZ(L:bj)(p0 p1:PV):Option PV:=(ah 3 p0).bind fun a=>mcb p1 fun b=>L.run (jP L) (b,a,(↑a.length:Int),0,[],())
def gE:List PV→Option PV|[p0,p1]=>mZ aX p0 p1|_=>none
def mo:cL (Int×PV×Int×Int×List PV×Unit):=fun(a,b,c,d,e,_)=>fun f=>if decide (d<c)then jx gD [a,b,d] fun g=>(ah 3 g).bind fun g=>jx jn [.rs 3 g] fun g=>(ah 1 g).bind fun g=>Bx e d fun _=>f (a,b,c,ay (d+1),e.set d.toNat (PV.rs 1 g),())
else some (PV.aG [.rs 1 e,.int .i64 0])
def yW(L:bj)(p0 p1:PV):Option PV:=bH p0 fun a=>(ah 3 p1).bind fun b=>F2 k8 [a,.rs 3 b,.rs 0 []] fun c=>if(c !=0)then some (PV.aG [.rs 1 [],c])else jx gE [.rs 3 b,.bool false] fun c=>cM 3 c (if 0≤a∧a≤a∧a.toNat*24≤ag∧0<24∧0<1 then L.run mo (a,PV.rr,(↑(List.replicate a.toNat (PV.rs 0 [])).length:Int),0,List.replicate a.toNat (PV.rs 0 []),())else none) fun c b=>if 0≤a∧a≤a∧a.toNat*24≤ag∧0<24∧0<1 then L.run mo (a,PV.rm 3 c b,(↑(List.replicate a.toNat (PV.rs 0 [])).length:Int),0,List.replicate a.toNat (PV.rs 0 []),())else none
def iP:List PV→Option PV|[p0,p1]=>yW aX p0 p1|_=>none
def eB(L:bj):cL (Int×List PV×List (PV×PV)×Unit):=fun(a,b,c,_)=>fun d=>if c.isEmpty then jx iP [a,.rs 3 b] fun e=>(bR 2 e).bind fun e=>(ah 1 (e.getD 0 .bad)).bind fun f=>mcG e 1 fun _=>some (PV.rs 1 f)
else vB c.length fun f=>c[f]?.bind fun e=>zF 3 e.fst fun _=>bH e.snd fun g=>aC e.fst 0 fun h=>aC e.fst 1 fun e=>if(b++[PV.agg [h,e,g]]).length*24≤ag∧0<24 then d (a,b++[PV.agg [h,e,g]],c.eraseIdx f,())else none
def jQ(L:bj):cL (TY7):=fun(a,b,c,d,e,f,_)=>fun g=>if decide (e<d)then bl c e fun h=>dz b (ET h 3 fun i=>some !i) fun i=>if i then g (a,b,c,d,ay (e+1),f,())else aC h 0 fun i=>aC h 1 fun j=>(Ab.asInt .i64 (bS (PV.agg [i,j,.bool false]) (PV.int .i64 0) f)).bind fun k=>b8 (!lM (PV.agg [i,j,.bool false]) f) (aC h 2 fun l=>some (decide (l<k))) fun l=>if l then aC h 2 fun l=>g (a,b,c,d,ay (e+1),dm (PV.agg [i,j,.bool false]) (PV.int .i64 l) f,())else g (a,b,c,d,ay (e+1),f,())
else if f.length≤maxLen then if(0:Int)≤0∧0≤(↑f.length:Int)∧(↑f.length:Int).toNat*24≤ag∧0<24∧0<3 then L.run (eB L) (a,List.replicate (Int.toNat 0) (PV.agg [.int .i64 0,.int .i64 0,.int .i64 0]),f,())else none else none
def na(L:bj)(p0 p1 p2:PV):Option PV:=(ah 4 p0).bind fun a=>bH p1 fun b=>mcb p2 fun c=>L.run (jQ L) (b,c,a,(↑a.length:Int),0,[],())
def eY:List PV→Option PV|[p0,p1,p2]=>na aX p0 p1 p2|_=>none
def hZ(L:bj)(Er:TY8→Option PV):cL (TY9):=fun(a,b,c,d,e,f,g,h,i,_)=>fun j=>if decide (h<g)then bl f h fun k=>aC k 0 fun k=>if(c==h)then j (a,b,c,d,e,f,g,ay (h+1),i,())else bl b c fun l=>sE 1 l 0 fun l=>bl l h fun l=>aC l 0 fun l=>dz (decide (k>0)) (some (decide (k≤14400))) fun m=>if m then if(i++[PV.agg [c,h,k,.bool (l==k)]]).length*32≤ag∧0<32 then if(l !=k)then dz (decide (l>0)) (some (decide (l≤14400))) fun m=>if m then if(i++[PV.agg [c,h,k,.bool (l==k)]]++[PV.agg [c,h,l,.bool true]]).length*32≤ag∧0<32 then j (a,b,c,d,e,f,g,ay (h+1),i++[PV.agg [c,h,k,.bool (l==k)]]++[PV.agg [c,h,l,.bool true]],())else none else j (a,b,c,d,e,f,g,ay (h+1),i++[PV.agg [c,h,k,.bool (l==k)]],())else j (a,b,c,d,e,f,g,ay (h+1),i++[PV.agg [c,h,k,.bool (l==k)]],())else none else if(l !=k)then dz (decide (l>0)) (some (decide (l≤14400))) fun m=>if m then if(i++[PV.agg [c,h,l,.bool true]]).length*32≤ag∧0<32 then j (a,b,c,d,e,f,g,ay (h+1),i++[PV.agg [c,h,l,.bool true]],())else none else j (a,b,c,d,e,f,g,ay (h+1),i,())else j (a,b,c,d,e,f,g,ay (h+1),i,())
else Er (a,b,d,ay (e+1),i,())
def ic(L:bj):cL (TY8):=fun(d,e,f,g,h,_)=>fun i=>if decide (g<f)then bl d g fun j=>sE 1 j 0 fun j=>L.run (hZ L i) (d,e,g,f,g,j,(↑j.length:Int),0,h,())
else if 4=4∧h.length≤ag∧Nat.blt 122 Hr then(Az 4 (fun c a b=>cw [a,b]) h).bind fun ai0=>some (PV.rs 4 ai0)else none
def qm(L:bj)(p0 p1:PV):Option PV:=(ah 4 p0).bind fun a=>bH p1 fun b=>jx eY [.rs 4 a,b,.bool false] fun c=>(ah 1 c).bind fun c=>jx eY [.rs 4 a,b,.bool true] fun b=>(ah 1 b).bind fun b=>L.run (ic L) (c,b,(↑c.length:Int),0,[],())
def eG:List PV→Option PV|[p0,p1]=>qm aX p0 p1|_=>none
def oG:cL (aiN):=fun(a,b,c,d,e,_)=>fun f=>if decide (d<c)then bl b d fun g=>aC g 0 fun h=>aC g 1 fun i=>ET g 3 fun j=>aC g 0 fun k=>if decide (k<0)then some (PV.aG [d,.int .i64 9])else aC g 0 fun k=>if decide (k≥a)then some (PV.aG [d,.int .i64 9])else aC g 1 fun k=>if decide (k<0)then some (PV.aG [d,.int .i64 9])else aC g 1 fun k=>if decide (k≥a)then some (PV.aG [d,.int .i64 9])else aC g 0 fun k=>aC g 1 fun l=>if(k==l)then some (PV.aG [d,.int .i64 9])else aC g 2 fun l=>if decide (l<1)then some (PV.aG [d,.int .i64 2])else aC g 2 fun l=>if decide (l>14400)then some (PV.aG [d,.int .i64 2])else(Ab.asBool (bS (PV.agg [h,i,.bool j]) (PV.bool false) e)).bind fun l=>if l then some (PV.aG [d,.int .i64 6])else f (a,b,c,ay (d+1),dm (PV.agg [h,i,.bool j]) (PV.bool true) e,())
else some (PV.aG [.int .i64 0,.int .i64 0])
def uF(L:bj)(p0 p1:PV):Option PV:=(ah 4 p0).bind fun a=>bH p1 fun b=>L.run oG (b,a,(↑a.length:Int),0,[],())
def iK:List PV→Option PV|[p0,p1]=>uF aX p0 p1|_=>none
def kB:cL (List PV×List PV×Int×Int×Unit):=fun(a,b,c,d,_)=>fun e=>if decide (d<c)then bl b d fun f=>bl a d fun g=>if iV (Kd.int .i64::[].append (Kd.int .i64::[].append (Kd.int .i64::[].append (Kd.bool::[].append [])))) [f 0,f 1,f 2,f 3]=true∧iV (Kd.int .i64::[].append (Kd.int .i64::[].append (Kd.int .i64::[].append (Kd.bool::[].append [])))) [g 0,g 1,g 2,g 3]then if(!bM [f 0,f 1,f 2,f 3] [g 0,g 1,g 2,g 3])then some (PV.bool false)else e (a,b,c,ay (d+1),())else none
else some (PV.bool true)
def oH(L:bj)(p0 p1:PV):Option PV:=(ah 4 p0).bind fun a=>bH p1 fun b=>if decide (b>64)then some (PV.bool false)else fC iK [.rs 4 a,b] fun _ c=>if(c !=0)then some (PV.bool false)else jx eG [.rs 4 a,.int .i64 (if 0>b then 0 else b)] fun c=>(ah 4 c).bind fun c=>if((↑c.length:Int) !=(↑a.length:Int))then some (PV.bool false)else L.run kB (a,c,(↑c.length:Int),0,())
def gY:List PV→Option PV|[p0,p1]=>oH aX p0 p1|_=>none
def cK:cL (ab9):=fun(a,b,c,d,e,f,g,h,i,j,k,l,m,n,o,p,_)=>fun q=>if decide (c<b)then bl a c fun r=>aC r 0 fun s=>aC r 1 fun t=>ET r 3 fun u=>aC r 0 fun v=>dh dd [v,(↑d.length:Int)] fun v=>b8 (!v) (aC r 1 fun v=>dh dd [v,(↑d.length:Int)] fun v=>some !v) fun v=>b8 v (aC r 0 fun v=>aC r 1 fun w=>some (v==w)) fun w=>if w then jx bq [.int .i64 4,c,.int .i64 9] fun w=>zF 3 w fun _=>some (kq w)else aC r 2 fun w=>b8 (decide (w<1)) (aC r 2 fun w=>some (decide (w>14400))) fun w=>if w then jx bq [.int .i64 4,c,.int .i64 2] fun w=>zF 3 w fun _=>some (kq w)else(Ab.asBool (bS (PV.agg [s,t,.int .i64 0,.bool u]) (PV.bool false) p)).bind fun w=>if w then jx bq [.int .i64 4,c,.int .i64 6] fun w=>zF 3 w fun _=>some (kq w)else q (a,b,ay (c+1),d,e,f,g,h,i,j,k,l,m,n,o,dm (PV.agg [s,t,.int .i64 0,.bool u]) (PV.bool true) p,())
else dh gY [.rs 4 h,(↑d.length:Int)] fun w=>if(!w)then jx bq [.int .i64 4,.int .i64 0,.int .i64 18] fun w=>zF 3 w fun _=>some (kq w)else some (PV.agg [.int .i64 0,.int .i64 0,.int .i64 0])
def mS(L:bj)(p0:PV):Option PV:=EN p0 fun a b c d e f g h i=>L.run cK (e,(↑e.length:Int),0,a,b,c,d,e,f,g,h,i,0,0,0,[],())
def cW:List PV→Option PV|[p0]=>mS aX p0|_=>none
def I4(L:bj)(p0 p1 p2 p3 p4:PV):Option PV:=(ah 5 p0).bind fun a=>bH p1 fun b=>bH p2 fun c=>bH p3 fun d=>bH p4 fun e=>bl a b fun f=>aC f 0 fun g=>b8 (decide (g<0)) (aC f 0 fun g=>some (decide (g≥c))) fun g=>if g then some (PV.int .i64 9)else dz (decide (b>0)) (bl a (ay (b-1)) fun g=>aC g 0 fun g=>aC f 0 fun c=>some (g==c)) fun c=>if c then some (PV.int .i64 13)else aC f 1 fun c=>b8 (decide (c<d)) (aC f 1 fun c=>aC f 2 fun d=>some (decide (c>d))) fun d=>b8 d (aC f 2 fun d=>some (decide (d>e))) fun d=>b8 d (dz (decide (b>0)) (aC f 1 fun d=>bl a (ay (b-1)) fun b=>aC b 2 fun b=>some (decide (d<b))) fun b=>some b) fun b=>if b then some (PV.int .i64 10)else some (PV.int .i64 0)
def yT:List PV→Option PV|[p0,p1,p2,p3,p4]=>I4 aX p0 p1 p2 p3 p4|_=>none
def wR:cL (aiO):=fun(a,b,c,d,e,f,_)=>fun g=>if decide (f<e)then F2 yT [.rs 5 a,f,b,c,d] fun h=>if(h !=0)then some (PV.aG [f,h])else g (a,b,c,d,e,ay (f+1),())
else some (PV.aG [.int .i64 0,.int .i64 0])
def Dd(L:bj)(p0 p1 p2 p3:PV):Option PV:=(ah 5 p0).bind fun a=>bH p1 fun b=>bH p2 fun c=>bH p3 fun d=>b8 (decide ((↑a.length:Int)<2)) (some (decide ((↑a.length:Int)>32))) fun e=>if e then some (PV.aG [.int .i64 0,.int .i64 5])else L.run wR (a,b,c,d,(↑a.length:Int),0,())
def oF:List PV→Option PV|[p0,p1,p2,p3]=>Dd aX p0 p1 p2 p3|_=>none
def uy:cL (Bytes×Int×Unit):=fun(a,b,_)=>fun c=>if decide (b<(↑(List.length a):Int))then(Ng a b).bind fun d=>dz (decide (97≤(↑d.toNat:Int))) (some (decide ((↑d.toNat:Int)≤122))) fun e=>if e then c (a,ay (b+1),())else dz (decide (65≤(↑d.toNat:Int))) (some (decide ((↑d.toNat:Int)≤90))) fun e=>if e then c (a,ay (b+1),())else dz (decide (48≤(↑d.toNat:Int))) (some (decide ((↑d.toNat:Int)≤57))) fun e=>if e then c (a,ay (b+1),())else if((↑d.toNat:Int)==45)then c (a,ay (b+1),())else if((↑d.toNat:Int)==95)then c (a,ay (b+1),())else if((↑d.toNat:Int)==46)then c (a,ay (b+1),())else some (PV.bool false)
else dz (decide ((↑(List.length a):Int)>0)) (some (decide ((↑(List.length a):Int)≤32))) fun e=>some (PV.bool e)
def AN(L:bj)(p0:PV):Option PV:=(aT p0).bind fun a=>L.run uy (a,0,())
def eM:List PV→Option PV|[p0]=>AN aX p0|_=>none
def gC:cL (ab9):=fun(a,b,c,d,e,f,g,h,i,j,k,l,m,n,o,p,_)=>fun q=>if decide (c<b)then bl a c fun r=>(aT (r 3)).bind fun s=>dh eM [.str s] fun s=>if(!s)then jx bq [.int .i64 2,c,.int .i64 12] fun s=>zF 3 s fun _=>some (kq s)else aC r 0 fun s=>b8 (decide (s< -1)) (aC r 2 fun s=>some (decide (s<0))) fun s=>if s then jx bq [.int .i64 2,c,.int .i64 2] fun s=>zF 3 s fun _=>some (kq s)else aC r 1 fun s=>b8 (decide (s<0)) (aC r 1 fun s=>some (decide (s>36524))) fun s=>if s then jx bq [.int .i64 2,c,.int .i64 11] fun s=>zF 3 s fun _=>some (kq s)else aC r 4 fun s=>b8 (decide (s<0)) (aC r 4 fun s=>some (decide (s≥(↑e.length:Int)))) fun s=>if s then jx bq [.int .i64 2,c,.int .i64 9] fun s=>zF 3 s fun _=>some (kq s)else sE 5 r 7 fun s=>fC oF [.rs 5 s,(↑d.length:Int),.int .i64 0,.int .i64 3155932800] fun _ s=>if(s !=0)then jx bq [.int .i64 2,c,s] fun s=>zF 3 s fun _=>some (kq s)else(aT (r 3)).bind fun s=>aC r 1 fun t=>aC r 2 fun r=>(Ab.asBool (bS (PV.agg [.str s,t,r]) (PV.bool false) p)).bind fun u=>if u then jx bq [.int .i64 2,c,.int .i64 6] fun u=>zF 3 u fun _=>some (kq u)else q (a,b,ay (c+1),d,e,f,g,h,i,j,k,l,m,n,o,dm (PV.agg [.str s,t,r]) (PV.bool true) p,())
else some (PV.agg [.int .i64 0,.int .i64 0,.int .i64 0])
def oJ(L:bj)(p0:PV):Option PV:=EN p0 fun a b c d e f g h i=>if decide ((↑c.length:Int)>1024)then jx bq [.int .i64 2,.int .i64 0,.int .i64 5] fun j=>zF 3 j fun _=>some (kq j)else L.run gC (c,(↑c.length:Int),0,a,b,c,d,e,f,g,h,i,0,0,0,[],())
def gZ:List PV→Option PV|[p0]=>oJ aX p0|_=>none
def kX:cL (aiO):=fun(a,b,c,d,e,f,_)=>fun g=>if decide (c<b)then bl a c fun h=>aC h 2 fun i=>if(i !=0)then some (kq h)else g (a,b,ay (c+1),d,e,f,())
else some (PV.agg [.int .i64 0,.int .i64 0,.int .i64 0])
def wW(L:bj)(p0:PV):Option PV:=(ah 3 p0).bind fun a=>L.run kX (a,(↑a.length:Int),0,0,0,0,())
def eg:List PV→Option PV|[p0]=>wW aX p0|_=>none
def uB(L:bj)(p0 p1 p2:PV):Option PV:=bH p0 fun a=>bH p1 fun b=>bH p2 fun c=>dz (decide (a≥b)) (some (decide (a≤c))) fun c=>some (PV.bool c)
def ck:List PV→Option PV|[p0,p1,p2]=>uB aX p0 p1 p2|_=>none
def qi:cL (acF):=fun(a,b,c,d,_)=>fun e=>if decide (c<b)then bl a c fun f=>(aT (f 0)).bind fun g=>dh eM [.str g] fun g=>if(!g)then some (PV.aG [c,.int .i64 12])else(aT (f 0)).bind fun g=>(Ab.asBool (bS (PV.str g) (PV.bool false) d)).bind fun g=>if g then some (PV.aG [c,.int .i64 6])else aC f 1 fun g=>dh ck [g,.int .i64 0,.int .i64 1000000] fun g=>b8 (!g) (aC f 2 fun g=>dh ck [g,.int .i64 1,.int .i64 8] fun g=>some !g) fun g=>b8 g (aC f 3 fun g=>dh ck [g,.int .i64 1,.int .i64 16] fun g=>some !g) fun g=>b8 g (aC f 4 fun g=>dh ck [g,.int .i64 0,.int .i64 86400] fun g=>some !g) fun g=>b8 g (aC f 5 fun g=>dh ck [g,.int .i64 1,.int .i64 255] fun g=>some !g) fun g=>if g then some (PV.aG [c,.int .i64 2])else(aT (f 0)).bind fun g=>e (a,b,ay (c+1),dm (PV.str g) (PV.bool true) d,())
else some (PV.aG [.int .i64 0,.int .i64 0])
def wQ(L:bj)(p0:PV):Option PV:=aaO p0 fun a b c d=>dh ck [b,.int .i64 0,.int .i64 1000000] fun b=>b8 (!b) (dh ck [c,.int .i64 0,.int .i64 86400] fun b=>some !b) fun b=>b8 b (dh ck [d,.int .i64 0,.int .i64 1000000] fun b=>some !b) fun b=>if b then some (PV.aG [.int .i64 (-1),.int .i64 2])else if decide ((↑a.length:Int)>16)then some (PV.aG [.int .i64 0,.int .i64 5])else L.run qi (a,(↑a.length:Int),0,[],())
def ef:List PV→Option PV|[p0]=>wQ aX p0|_=>none
def AR(L:bj)(p0:PV):Option PV:=bH p0 fun a=>dz (decide (a≥0)) (some (decide (a<8))) fun a=>some (PV.bool a)
def wP:List PV→Option PV|[p0]=>AR aX p0|_=>none
def uA:cL (acF):=fun(a,b,c,d,_)=>fun e=>if decide (c<b)then bl a c fun f=>(aT (f 0)).bind fun g=>dh eM [.str g] fun g=>if(!g)then some (PV.aG [c,.int .i64 12])else(aT (f 0)).bind fun g=>(Ab.asBool (bS (PV.str g) (PV.bool false) d)).bind fun g=>if g then some (PV.aG [c,.int .i64 6])else aC f 1 fun g=>dh wP [g] fun g=>if(!g)then some (PV.aG [c,.int .i64 2])else(aT (f 0)).bind fun g=>e (a,b,ay (c+1),dm (PV.str g) (PV.bool true) d,())
else some (PV.aG [.int .i64 0,.int .i64 0])
def AQ(L:bj)(p0:PV):Option PV:=(ah 3 p0).bind fun a=>if decide ((↑a.length:Int)>64)then some (PV.aG [.int .i64 0,.int .i64 5])else L.run uA (a,(↑a.length:Int),0,[],())
def lX:List PV→Option PV|[p0]=>AQ aX p0|_=>none
def wO:cL (acF):=fun(a,b,c,d,_)=>fun e=>if decide (c<b)then bl a c fun f=>(aT (f 0)).bind fun g=>dh eM [.str g] fun g=>if(!g)then some (PV.aG [c,.int .i64 12])else(aT (f 0)).bind fun g=>(Ab.asBool (bS (PV.str g) (PV.bool false) d)).bind fun g=>if g then some (PV.aG [c,.int .i64 6])else aC f 1 fun g=>b8 (decide (g<0)) (aC f 1 fun g=>some (decide (g≥16))) fun g=>b8 g (aC f 3 fun g=>some (decide (g<0))) fun g=>b8 g (aC f 3 fun g=>some (decide (g>3600))) fun g=>if g then some (PV.aG [c,.int .i64 2])else(aT (f 0)).bind fun g=>e (a,b,ay (c+1),dm (PV.str g) (PV.bool true) d,())
else some (PV.aG [.int .i64 0,.int .i64 0])
def Dc(L:bj)(p0:PV):Option PV:=(ah 4 p0).bind fun a=>if decide ((↑a.length:Int)>64)then some (PV.aG [.int .i64 0,.int .i64 5])else L.run wO (a,(↑a.length:Int),0,[],())
def oA:List PV→Option PV|[p0]=>Dc aX p0|_=>none
def qM(L:bj)(p0:PV):Option PV:=EN p0 fun a b c d e f g h i=>fC oA [.rs 4 a] fun j k=>fC lX [.rs 3 b] fun l m=>jx bq [.int .i64 0,j,k] fun k=>zF 3 k fun _=>jx bq [.int .i64 1,l,m] fun m=>zF 3 m fun _=>jx eg [.rs 3 [kq k,kq m]] fun m=>zF 3 m fun _=>aC m 2 fun k=>if(k==0)then jx gZ [DH a b c d e f g h i] fun k=>zF 3 k fun _=>aC k 2 fun l=>if(l==0)then jx eU [DH a b c d e f g h i] fun l=>zF 3 l fun _=>aC l 2 fun j=>if(j==0)then fC ef [.agg [.rs 6 f,g,h,i]] fun j n=>jx cW [DH a b c d e f g h i] fun o=>zF 3 o fun _=>jx bq [.int .i64 5,j,n] fun n=>zF 3 n fun _=>jx eg [.rs 3 [kq o,kq n]] fun n=>Wk n fun n o j=>some (PV.aG [n,o,j])else aC l 0 fun j=>aC l 1 fun o=>aC l 2 fun l=>some (PV.aG [j,o,l])else aC k 2 fun l=>if(l==0)then fC ef [.agg [.rs 6 f,g,h,i]] fun l o=>jx cW [DH a b c d e f g h i] fun j=>zF 3 j fun _=>jx bq [.int .i64 5,l,o] fun o=>zF 3 o fun _=>jx eg [.rs 3 [kq j,kq o]] fun o=>Wk o fun o j l=>some (PV.aG [o,j,l])else aC k 0 fun l=>aC k 1 fun j=>aC k 2 fun k=>some (PV.aG [l,j,k])else aC m 2 fun k=>if(k==0)then jx eU [DH a b c d e f g h i] fun k=>zF 3 k fun _=>aC k 2 fun j=>if(j==0)then fC ef [.agg [.rs 6 f,g,h,i]] fun j l=>jx cW [DH a b c d e f g h i] fun o=>zF 3 o fun _=>jx bq [.int .i64 5,j,l] fun l=>zF 3 l fun _=>jx eg [.rs 3 [kq o,kq l]] fun l=>Wk l fun l o j=>some (PV.aG [l,o,j])else aC k 0 fun j=>aC k 1 fun o=>aC k 2 fun k=>some (PV.aG [j,o,k])else aC m 2 fun k=>if(k==0)then fC ef [.agg [.rs 6 f,g,h,i]] fun k o=>jx cW [DH a b c d e f g h i] fun i=>zF 3 i fun _=>jx bq [.int .i64 5,k,o] fun o=>zF 3 o fun _=>jx eg [.rs 3 [kq i,kq o]] fun o=>Wk o fun o i k=>some (PV.aG [o,i,k])else aC m 0 fun k=>aC m 1 fun i=>aC m 2 fun m=>some (PV.aG [k,i,m])
def dE:List PV→Option PV|[p0]=>qM aX p0|_=>none
def mU:cL (akl):=fun(a,b,c,d,e,f,_)=>fun g=>if decide (f<e)then bl d f fun h=>ET h 6 fun i=>if i then g (a,b,c,d,e,ay (f+1),())else sE 5 h 7 fun i=>bl i 0 fun i=>aC i 1 fun i=>sE 5 h 7 fun j=>sE 5 h 7 fun h=>bl j (ay ((↑h.length:Int)-1)) fun h=>aC h 2 fun h=>if(!c)then g (if i<i then i else i,if h>h then h else h,true,d,e,ay (f+1),())else g (if i<a then i else a,if h>b then h else b,c,d,e,ay (f+1),())
else some (PV.aG [a,b,.bool c])
def mn(L:bj)(p0:PV):Option PV:=EN p0 fun a b c d e f g h i=>M4 dE [DH a b c d e f g h i] fun _ _ i=>if(i !=0)then some (PV.aG [.int .i64 0,.int .i64 0,.bool false])else L.run mU (0,0,false,c,(↑c.length:Int),0,())
def dU:List PV→Option PV|[p0]=>mn aX p0|_=>none
def mM(L:bj):Option PV:=jx jD [] fun a=>zF 9 a fun _=>Wj dU [afO a] fun a b c=>jx jD [] fun d=>zF 9 d fun _=>M4 dE [afO d] fun _ _ d=>M4 dE [.agg [.rs 4 [.agg [.str [65],.int .i64 0,.bool false,.int .i64 0],.agg [.str [66],.int .i64 0,.bool false,.int .i64 0],.agg [.str [67],.int .i64 0,.bool false,.int .i64 0]],.rs 0 [],.rs 0 [],.rs 0 [],.rs 4 [.agg [.int .i64 0,.int .i64 1,.int .i64 60,.bool false],.agg [.int .i64 1,.int .i64 2,.int .i64 60,.bool false]],.rs 0 [],.int .i64 0,.int .i64 0,.int .i64 0]] fun e f g=>dz (a==100) (some (b==200)) fun b=>dz b (some c) fun b=>dz b (some (d==0)) fun b=>dz b (some (e==4)) fun b=>dz b (some (f==0)) fun b=>dz b (some (g==18)) fun b=>some (PV.bool b)
def bX:List PV→Option PV|[]=>mM aX|_=>none
def uN(L:bj)(p0 p1:PV):Option PV:=(ah 4 p0).bind fun a=>bH p1 fun b=>if decide ((↑a.length:Int)>512)then some (PV.aG [.int .i64 0,.int .i64 5])else fC iK [.rs 4 a,b] fun b a=>some (PV.aG [b,a])
def iS:List PV→Option PV|[p0,p1]=>uN aX p0 p1|_=>none
def ux(L:bj)(p0 p1:PV):Option PV:=(ah 4 p0).bind fun a=>bH p1 fun b=>if decide (b>64)then some (PV.aG [.rs 4 [],.int .i64 5])else fC iS [.rs 4 a,b] fun _ c=>if(c !=0)then some (PV.aG [.rs 4 [],c])else jx eG [.rs 4 a,.int .i64 (if 0>b then 0 else b)] fun c=>(ah 4 c).bind fun c=>some (PV.aG [.rs 4 c,.int .i64 0])
def kV:List PV→Option PV|[p0,p1]=>ux aX p0 p1|_=>none
def mL(L:bj)(p0:PV):Option PV:=(ah 5 p0).bind fun a=>if([]++a).length*32≤ag∧0<32 then if 0≤(↑([]++a).length:Int)∧(↑([]++a).length:Int)≤(↑([]++a).length:Int)∧(↑([]++a).length:Int)≤(↑([]++a).length:Int)∧5=5 then some (PV.rs 5 (List.take (↑([]++a).length:Int).toNat ([]++a)))else none else none
def eX:List PV→Option PV|[p0]=>mL aX p0|_=>none
def jm(L:bj)(p0:PV):Option PV:=(ah 4 p0).bind fun a=>if([]++a).length*32≤ag∧0<32 then if 0≤(↑([]++a).length:Int)∧(↑([]++a).length:Int)≤(↑([]++a).length:Int)∧(↑([]++a).length:Int)≤(↑([]++a).length:Int)∧4=4 then some (PV.rs 4 (List.take (↑([]++a).length:Int).toNat ([]++a)))else none else none
def dC:List PV→Option PV|[p0]=>jm aX p0|_=>none
def mN(L:bj)(p0:PV):Option PV:=(ah 5 p0).bind fun a=>if([]++a).length*40≤ag∧0<40 then if 0≤(↑([]++a).length:Int)∧(↑([]++a).length:Int)≤(↑([]++a).length:Int)∧(↑([]++a).length:Int)≤(↑([]++a).length:Int)∧5=5 then some (PV.rs 5 (List.take (↑([]++a).length:Int).toNat ([]++a)))else none else none
def eW:List PV→Option PV|[p0]=>mN aX p0|_=>none
def jO(L:bj)(p0:PV):Option PV:=(ah 6 p0).bind fun a=>if([]++a).length*56≤ag∧0<56 then if 0≤(↑([]++a).length:Int)∧(↑([]++a).length:Int)≤(↑([]++a).length:Int)∧(↑([]++a).length:Int)≤(↑([]++a).length:Int)∧6=6 then some (PV.rs 6 (List.take (↑([]++a).length:Int).toNat ([]++a)))else none else none
def dN:List PV→Option PV|[p0]=>jO aX p0|_=>none
def lE(L:bj)(p0:PV):Option PV:=(ah 3 p0).bind fun a=>if([]++a).length*32≤ag∧0<32 then if 0≤(↑([]++a).length:Int)∧(↑([]++a).length:Int)≤(↑([]++a).length:Int)∧(↑([]++a).length:Int)≤(↑([]++a).length:Int)∧3=3 then some (PV.rs 3 (List.take (↑([]++a).length:Int).toNat ([]++a)))else none else none
def eA:List PV→Option PV|[p0]=>lE aX p0|_=>none
def nV(L:bj)(p0:PV):Option PV:=(ah 8 p0).bind fun a=>if([]++a).length*80≤ag∧0<80 then if 0≤(↑([]++a).length:Int)∧(↑([]++a).length:Int)≤(↑([]++a).length:Int)∧(↑([]++a).length:Int)≤(↑([]++a).length:Int)∧8=8 then some (PV.rs 8 (List.take (↑([]++a).length:Int).toNat ([]++a)))else none else none
def fA:List PV→Option PV|[p0]=>nV aX p0|_=>none
def mO(L:bj)(p0:PV):Option PV:=(ah 4 p0).bind fun a=>if([]++a).length*40≤ag∧0<40 then if 0≤(↑([]++a).length:Int)∧(↑([]++a).length:Int)≤(↑([]++a).length:Int)∧(↑([]++a).length:Int)≤(↑([]++a).length:Int)∧4=4 then some (PV.rs 4 (List.take (↑([]++a).length:Int).toNat ([]++a)))else none else none
def eV:List PV→Option PV|[p0]=>mO aX p0|_=>none
def qf:cL (aiV):=fun(a,b,c,d,e,f,g,h,i,j,k,l,m,n,o,p,q,r,s,t,u,v,w,_)=>fun x=>if decide (b<a)then Bx u b fun y=>sE 5 y 7 fun y=>jx eX [.rs 5 y] fun y=>(ah 5 y).bind fun y=>Bx u b fun z=>x (a,ay (b+1),c,d,e,f,g,h,i,j,k,l,m,n,o,p,q,r,s,t,u.set b.toNat (if 8=1 then PV.mE 5 y else PV.agg (z 0::z 1::z 2::z 3::z 4::z 5::z 6::PV.mE 5 y::over [] [])),v,w,())
else jx dN [.rs 6 h] fun z=>(ah 6 z).bind fun z=>some (PV.agg [.rs 4 s,.rs 3 t,.rs 8 (List.map PV.strip u),.rs 5 v,.rs 4 w,.rs 6 z,p,q,r])
def wL(L:bj)(p0:PV):Option PV:=EN p0 fun a b c d e f g h i=>jx eV [.rs 4 a] fun j=>(ah 4 j).bind fun j=>jx eA [.rs 3 b] fun k=>(ah 3 k).bind fun k=>jx fA [.rs 8 c] fun l=>(ah 8 l).bind fun l=>jx eW [.rs 5 d] fun m=>(ah 5 m).bind fun m=>jx dC [.rs 4 e] fun n=>(ah 4 n).bind fun n=>L.run qf ((↑l.length:Int),0,a,b,c,d,e,f,g,h,i,0,0,0,f,g,h,i,j,k,l,m,n,())
def mh:List PV→Option PV|[p0]=>wL aX p0|_=>none
def yY(L:bj)(p0:PV):Option PV:=bH p0 fun a=>dz (decide (0≤a)) (some (decide (a≤36524))) fun a=>some (PV.bool a)
def df:List PV→Option PV|[p0]=>yY aX p0|_=>none
def yZ(L:bj)(p0:PV):Option PV:=bH p0 fun a=>dh df [a] fun b=>if(!b)then some (PV.aG [.int .i64 0,.bool false])else some (PV.aG [((ay (a+5)).tmod 7),.bool true])
def oY:List PV→Option PV|[p0]=>yZ aX p0|_=>none
def nd(L:bj):cL (aks):=fun(a,b,c,d,e,f,g,h,i,j,k,l,m,n,o,p,_)=>fun q=>if decide (f<e)then bl d f fun r=>aC r 0 fun s=>b8 (s !=a) (aC r 1 fun s=>some (s !=b)) fun s=>if s then q (a,b,c,d,e,ay (f+1),g,h,i,j,k,l,m,n,o,p,())else ET r 2 fun s=>if s then some (PV.int .i64 2)else some (PV.int .i64 3)
else b8 (c==3) (bH o fun s=>some (decide (b<s))) fun s=>b8 s (bH p fun s=>some (decide (b>s))) fun s=>if s then some (c)else G7 oY [b] fun s _=>if ar s 7∧0<1 then[g,h,i,j,k,l,m,n,o,p][1+s.toNat*1]?.bind fun s=>mcb s fun s=>if s then some (PV.int .i64 1)else some (PV.int .i64 4)else none
def sk(L:bj)(p0 p1 p2 p3:PV):Option PV:=(ah 10 p0).bind fun a=>(ah 3 p1).bind fun b=>bH p2 fun c=>bH p3 fun d=>b8 (decide (c<0)) (some (decide (c≥(↑a.length:Int)))) fun e=>b8 e (dh df [d] fun e=>some !e) fun e=>if e then some (PV.int .i64 0)else bl a c fun e=>L.run (nd L) (c,d,5,b,(↑b.length:Int),0,e 0,e 1,e 2,e 3,e 4,e 5,e 6,e 7,e 8,e 9,())
def j6:List PV→Option PV|[p0,p1,p2,p3]=>sk aX p0 p1 p2 p3|_=>none
def sl(L:bj)(p0 p1 p2 p3:PV):Option PV:=(ah 10 p0).bind fun a=>(ah 3 p1).bind fun b=>bH p2 fun c=>bH p3 fun d=>F2 j6 [.rs 10 a,.rs 3 b,c,d] fun d=>b8 (d==1) (some (d==2)) fun d=>some (PV.bool d)
def gG:List PV→Option PV|[p0,p1,p2,p3]=>sl aX p0 p1 p2 p3|_=>none
def xl(L:bj):cL (afP):=fun(a,b,c,d,e,_)=>fun f=>if decide (d<c)then bl b d fun g=>aC g 1 fun h=>aC g 2 fun i=>if(e++[PV.agg [g 0,(ay (h+a)),(ay (i+a)),g 3,g 4]]).length*32≤ag∧0<32 then f (a,b,c,ay (d+1),e++[PV.agg [g 0,(ay (h+a)),(ay (i+a)),g 3,g 4]],())else none
else some (PV.rs 5 e)
def Dn(L:bj)(p0 p1:PV):Option PV:=(ah 5 p0).bind fun a=>bH p1 fun b=>L.run (xl L) (b,a,(↑a.length:Int),0,[],())
def gH:List PV→Option PV|[p0,p1]=>Dn aX p0 p1|_=>none
def oV(L:bj)(p0:PV):Option PV:=bH p0 fun a=>b8 (decide (a< -2305843009213693952)) (some (decide (a>2305843009213693952))) fun a=>some (PV.bool a)
def ee:List PV→Option PV|[p0]=>oV aX p0|_=>none
def uO(L:bj)(p0 p1 p2:PV):Option PV:=bH p0 fun a=>bH p1 fun b=>bH p2 fun c=>dz (ay (ay (ay (a.fdiv (2^min (Int.toNat 32) IntKind.i64.bits)-b.fdiv (2^min (Int.toNat 32) IntKind.i64.bits))+c.fdiv (2^min (Int.toNat 32) IntKind.i64.bits))+(ay (ay (ay (↑(BitVec.ofInt IntKind.i64.bits a&&&BitVec.ofInt IntKind.i64.bits 4294967295).toNat:Int)-ay (↑(BitVec.ofInt IntKind.i64.bits b&&&BitVec.ofInt IntKind.i64.bits 4294967295).toNat:Int))+ay (↑(BitVec.ofInt IntKind.i64.bits c&&&BitVec.ofInt IntKind.i64.bits 4294967295).toNat:Int))).fdiv (2^min (Int.toNat 32) IntKind.i64.bits))==0) (some (decide (ay (↑(BitVec.ofInt IntKind.i64.bits (ay (ay (ay (ay (a.fdiv (2^min (Int.toNat 32) IntKind.i64.bits)-b.fdiv (2^min (Int.toNat 32) IntKind.i64.bits))+c.fdiv (2^min (Int.toNat 32) IntKind.i64.bits))+(ay (ay (ay (↑(BitVec.ofInt IntKind.i64.bits a&&&BitVec.ofInt IntKind.i64.bits 4294967295).toNat:Int)-ay (↑(BitVec.ofInt IntKind.i64.bits b&&&BitVec.ofInt IntKind.i64.bits 4294967295).toNat:Int))+ay (↑(BitVec.ofInt IntKind.i64.bits c&&&BitVec.ofInt IntKind.i64.bits 4294967295).toNat:Int))).fdiv (2^min (Int.toNat 32) IntKind.i64.bits))*2^min (Int.toNat 32) IntKind.i64.bits))|||BitVec.ofInt IntKind.i64.bits (ay (↑(BitVec.ofInt IntKind.i64.bits (ay (ay (ay (↑(BitVec.ofInt IntKind.i64.bits a&&&BitVec.ofInt IntKind.i64.bits 4294967295).toNat:Int)-ay (↑(BitVec.ofInt IntKind.i64.bits b&&&BitVec.ofInt IntKind.i64.bits 4294967295).toNat:Int))+ay (↑(BitVec.ofInt IntKind.i64.bits c&&&BitVec.ofInt IntKind.i64.bits 4294967295).toNat:Int)))&&&BitVec.ofInt IntKind.i64.bits 4294967295).toNat:Int))).toNat:Int)≤172800))) fun d=>some (PV.aG [(ay (↑(BitVec.ofInt IntKind.i64.bits (ay (ay (ay (ay (a.fdiv (2^min (Int.toNat 32) IntKind.i64.bits)-b.fdiv (2^min (Int.toNat 32) IntKind.i64.bits))+c.fdiv (2^min (Int.toNat 32) IntKind.i64.bits))+(ay (ay (ay (↑(BitVec.ofInt IntKind.i64.bits a&&&BitVec.ofInt IntKind.i64.bits 4294967295).toNat:Int)-ay (↑(BitVec.ofInt IntKind.i64.bits b&&&BitVec.ofInt IntKind.i64.bits 4294967295).toNat:Int))+ay (↑(BitVec.ofInt IntKind.i64.bits c&&&BitVec.ofInt IntKind.i64.bits 4294967295).toNat:Int))).fdiv (2^min (Int.toNat 32) IntKind.i64.bits))*2^min (Int.toNat 32) IntKind.i64.bits))|||BitVec.ofInt IntKind.i64.bits (ay (↑(BitVec.ofInt IntKind.i64.bits (ay (ay (ay (↑(BitVec.ofInt IntKind.i64.bits a&&&BitVec.ofInt IntKind.i64.bits 4294967295).toNat:Int)-ay (↑(BitVec.ofInt IntKind.i64.bits b&&&BitVec.ofInt IntKind.i64.bits 4294967295).toNat:Int))+ay (↑(BitVec.ofInt IntKind.i64.bits c&&&BitVec.ofInt IntKind.i64.bits 4294967295).toNat:Int)))&&&BitVec.ofInt IntKind.i64.bits 4294967295).toNat:Int))).toNat:Int)),.bool d])
def lq:List PV→Option PV|[p0,p1,p2]=>uO aX p0 p1 p2|_=>none
def sn(L:bj)(p0 p1 p2:PV):Option PV:=bH p0 fun a=>bH p1 fun b=>bH p2 fun c=>dh ee [a] fun d=>b8 d (dh ee [b] fun d=>some d) fun d=>b8 d (dh ee [c] fun d=>some d) fun d=>if d then G7 lq [a,b,c] fun d e=>some (PV.aG [d,.bool e])else dz (decide (ay (ay (a-b)+c)≥0)) (some (decide (ay (ay (a-b)+c)≤172800))) fun e=>some (PV.aG [(ay (ay (a-b)+c)),.bool e])
def gI:List PV→Option PV|[p0,p1,p2]=>sn aX p0 p1 p2|_=>none
def dI:cL (Int×Int×Int×Int×List PV×Unit):=fun(a,b,c,d,e,_)=>fun f=>if decide (d<c)then Bx e d fun g=>aC g 1 fun g=>G7 gI [g,b,a] fun g h=>Bx e d fun i=>if ar d (e.set d.toNat (PV.agg (i 0::PV.int .i64 g::over [] [i 2,i 3,i 4]))).length then(e.set d.toNat (PV.agg (i 0::PV.int .i64 g::over [] [i 2,i 3,i 4])))[d.toNat]?.bind fun j=>aC j 2 fun j=>G7 gI [j,b,a] fun j k=>if ar d (e.set d.toNat (PV.agg (i 0::PV.int .i64 g::over [] [i 2,i 3,i 4]))).length then(e.set d.toNat (PV.agg (i 0::PV.int .i64 g::over [] [i 2,i 3,i 4])))[d.toNat]?.bind fun l=>b8 (!h) (some !k) fun k=>if k then some (PV.aG [.rs 5 [],.int .i64 10])else f (a,b,c,ay (d+1),(e.set d.toNat (PV.agg (i 0::PV.int .i64 g::over [] [i 2,i 3,i 4]))).set d.toNat (PV.agg (l 0::l 1::PV.int .i64 j::over [] [l 3,l 4])),())else none else none
else some (PV.aG [.rs 5 e,.int .i64 0])
def mw(L:bj)(p0 p1:PV):Option PV:=Wl p0 fun _ _ _ _ a=>bH p1 fun b=>if((↑a.length:Int)==0)then some (PV.aG [.rs 5 [],.int .i64 16])else bl a 0 fun c=>aC c 2 fun c=>if 0≤(↑a.length:Int)∧(↑a.length:Int)≤(↑a.length:Int)∧(↑a.length:Int).toNat*32≤ag∧0<32∧0<5 then L.run dI (b,c,(↑(List.take (List.replicate (↑a.length:Int).toNat (PV.agg [.int .i64 0,.int .i64 0,.int .i64 0,.bool false,.bool false])).length a++List.drop a.length (List.replicate (↑a.length:Int).toNat (PV.agg [.int .i64 0,.int .i64 0,.int .i64 0,.bool false,.bool false]))).length:Int),0,List.take (List.replicate (↑a.length:Int).toNat (PV.agg [.int .i64 0,.int .i64 0,.int .i64 0,.bool false,.bool false])).length a++List.drop a.length (List.replicate (↑a.length:Int).toNat (PV.agg [.int .i64 0,.int .i64 0,.int .i64 0,.bool false,.bool false])),())else none
def cq:List PV→Option PV|[p0,p1]=>mw aX p0 p1|_=>none
def so(L:bj)(p0:PV):Option PV:=Pv p0 fun _ a b c=>dz (decide (a≥0)) (some (decide (a<b))) fun a=>dz a (some (decide (b≤172800))) fun a=>dz a (some (decide (c≥1))) fun a=>dz a (some (decide (c≤86400))) fun a=>some (PV.bool a)
def gJ:List PV→Option PV|[p0]=>so aX p0|_=>none
def dV(EF:aiT→Option PV):cL (akt):=fun(a,b,c,d,e,f,g,h,i,j,k,l,_)=>fun m=>dz (decide (b>0)) (if ar (ay (b-1)) l.length then l[(ay (b-1)).toNat]?.bind fun n=>aC n 0 fun n=>some (decide (n>a))else none) fun n=>if n then if ar (ay (b-1)) l.length then l[(ay (b-1)).toNat]?.bind fun n=>aC n 0 fun n=>Bx l b fun _=>m (a,ay (b-1),c,d,e,f,g,h,i,j,k,l.set b.toNat (PV.int .i64 n),())else none else Bx l b fun _=>bH k fun n=>EF (ay (c+n),d,e,f,g,h,i,j,k,l.set b.toNat (PV.int .i64 a),())
def fH(L:bj)(sC:afP→Option PV):cL (aiT):=fun(a,b,c,d,e,f,g,h,i,j,_)=>fun k=>bH h fun l=>if decide (a<l)then if(j++[PV.int .i64 a]).length*8≤ag∧0<8 then L.run (dV k) (a,(↑j.length:Int),a,b,c,d,e,f,g,h,i,j++[PV.int .i64 a],())else none else sC (b,c,d,ay (e+1),j,())
def jo(L:bj):cL (afP):=fun(a,b,c,d,e,_)=>fun f=>if decide (d<c)then bl b d fun g=>aC g 0 fun h=>if(h !=a)then f (a,b,c,ay (d+1),e,())else dh gJ [l5 g] fun h=>if(!h)then f (a,b,c,ay (d+1),e,())else aC g 1 fun h=>L.run (fH L f) (h,a,b,c,d,g 0,g 1,g 2,g 3,e,())
else some (PV.rs 1 e)
def lG(L:bj)(p0 p1:PV):Option PV:=(ah 4 p0).bind fun a=>bH p1 fun b=>L.run (jo L) (b,a,(↑a.length:Int),0,[],())
def eC:List PV→Option PV|[p0,p1]=>lG aX p0 p1|_=>none
def jT:cL (Int×List PV×Int×Int×Unit):=fun(a,b,c,d,_)=>fun e=>if decide (d<c)then bl b d fun f=>aC f 0 fun f=>if(f==a)then some (PV.bool true)else e (a,b,c,ay (d+1),())
else some (PV.bool false)
def nc(L:bj)(p0 p1:PV):Option PV:=(ah 4 p0).bind fun a=>bH p1 fun b=>L.run jT (b,a,(↑a.length:Int),0,())
def cZ:List PV→Option PV|[p0,p1]=>nc aX p0 p1|_=>none
def xm:cL (List PV×List PV×Int×Int×Unit):=fun(a,b,c,d,_)=>fun e=>if decide (d<c)then bl b d fun f=>bl a d fun g=>if iV (Kd.int .i64::[].append (Kd.int .i64::[].append (Kd.int .i64::[].append (Kd.bool::[].append (Kd.bool::[].append []))))) [f 0,f 1,f 2,f 3,f 4]=true∧iV (Kd.int .i64::[].append (Kd.int .i64::[].append (Kd.int .i64::[].append (Kd.bool::[].append (Kd.bool::[].append []))))) [g 0,g 1,g 2,g 3,g 4]then if(!bM [f 0,f 1,f 2,f 3,f 4] [g 0,g 1,g 2,g 3,g 4])then some (PV.bool false)else e (a,b,c,ay (d+1),())else none
else some (PV.bool true)
def Dp(L:bj)(p0 p1:PV):Option PV:=(ah 5 p0).bind fun a=>(ah 5 p1).bind fun b=>if((↑a.length:Int) !=(↑b.length:Int))then some (PV.bool false)else L.run xm (b,a,(↑a.length:Int),0,())
def tn:List PV→Option PV|[p0,p1]=>Dp aX p0 p1|_=>none
def FK(L:bj)(p0 p1:PV):Option PV:=Wm p0 fun a b c d e f g h=>Wm p1 fun i j k l m n o p=>dz (a==i) (some (b==j)) fun j=>dz j (some (c==k)) fun j=>dz j (some (d==l)) fun j=>dz j (some (e==m)) fun j=>dz j (some (f==n)) fun j=>dz j (some (g==o)) fun j=>dz j (dh tn [.rs 5 h,.rs 5 p] fun j=>some j) fun j=>some (PV.bool j)
def rR:List PV→Option PV|[p0,p1]=>FK aX p0 p1|_=>none
def lj:cL (aiW):=fun(a,b,c,d,e,f,g,h,i,j,k,l,m,n,o,p,q,r,s,t,_,v,w,y,z,_,_)=>fun u=>if decide (d<c)then bl b d fun x=>aC x 0 fun x=>M3 cq [.agg [n,o,p,q,r],x] fun x _=>jx gH [.rs 5 x,(ay (a*86400))] fun x=>(ah 5 x).bind fun x=>dh rR [Kh s t d v w y z x,Kh e f g h i j k l] fun A=>if(!!A)then some (PV.bool A)else u (a,b,c,ay (d+1),e,f,g,h,i,j,k,l,A,n,o,p,q,r,s,t,d,v,w,y,z,x,())
else some (PV.bool m)
def wZ(L:bj)(p0 p1:PV):Option PV:=zn p0 fun _ _ a b c d _ _ _ _ _ _ _=>Wm p1 fun e f g h i j k l=>b8 (decide (e<0)) (some (decide (e≥(↑c.length:Int)))) fun m=>b8 m (dh df [f] fun m=>some !m) fun m=>if m then some (PV.bool false)else bl c e fun m=>aC m 2 fun m=>dh gG [.rs 10 a,.rs 3 b,m,f] fun m=>if(!m)then some (PV.bool false)else bl c e fun m=>(aT (m 0)).bind fun c=>aC m 1 fun b=>ET m 3 fun a=>dh cZ [.rs 4 d,e] fun n=>if(!n)then sE 5 m 4 fun n=>jx gH [.rs 5 n,(ay (f*86400))] fun n=>(ah 5 n).bind fun n=>dh rR [.agg [e,f,.int .i64 0,.str c,b,.bool a,.bool false,.rs 5 n],Kh e f g h i j k l] fun n=>some (PV.bool n)else jx eC [.rs 4 d,e] fun n=>(ah 1 n).bind fun n=>L.run lj (f,n,(↑n.length:Int),0,e,f,g,h,i,j,k,l,false,m 0,m 1,m 2,m 3,m 4,e,f,0,c,b,a,false,[],())
def jF:List PV→Option PV|[p0,p1]=>wZ aX p0 p1|_=>none
def xn:cL (aiX):=fun(a,b,c,d,e,f,g,h,i,j,k,l,m,n,o,p,q,_)=>fun r=>if decide (c<b)then bl a c fun s=>dh jF [vb d e f g h i j k l m n o p,RS s] fun t=>if(!t)then some (PV.aG [PV.rr,.int .i64 9])else aC s 0 fun t=>aC s 1 fun u=>aC s 2 fun s=>(Ab.asInt .i64 (bS (PV.agg [t,u,s]) (PV.int .i64 0) q)).bind fun _=>if lM (PV.agg [t,u,s]) q then some (PV.aG [PV.rr,.int .i64 6])else r (a,b,ay (c+1),d,e,f,g,h,i,j,k,l,m,n,o,p,dm (PV.agg [t,u,s]) (PV.int .i64 c) q,())
else some (PV.aG [PV.rm 191 (List.map (fun x=>x.fst) q) (List.map (fun x=>x.snd) q),.int .i64 0])
def Dq(L:bj)(p0 p1:PV):Option PV:=zn p0 fun a b c d e f g h i j k l m=>(ah 8 p1).bind fun n=>L.run xn (n,(↑n.length:Int),0,a,b,c,d,e,f,g,h,i,j,k,l,m,[],())
def tt:List PV→Option PV|[p0,p1]=>Dq aX p0 p1|_=>none
def kD:cL (Int×List PV×Int×Int×Unit):=fun(a,b,c,d,_)=>fun e=>if decide (d<c)then bl b d fun f=>dz (decide (d>0)) (aC f 0 fun g=>some (g==a)) fun g=>dz g (ET f 4 fun g=>some g) fun g=>if g then some (d)else e (a,b,c,ay (d+1),())
else some (PV.int .i64 (-1))
def oW(L:bj)(p0 p1:PV):Option PV:=(ah 5 p0).bind fun a=>bH p1 fun b=>L.run kD (b,a,(↑a.length:Int),0,())
def iB:List PV→Option PV|[p0,p1]=>oW aX p0 p1|_=>none
def lJ:cL (aky):=fun(a,b,c,d,e,_)=>fun f=>if decide (e<d)then bl c e fun g=>dz (decide (ay (e+1)<(↑a.length:Int))) (aC g 0 fun h=>some (h==b)) fun h=>dz h (ET g 3 fun h=>some h) fun h=>if h then some (e)else f (a,b,c,d,ay (e+1),())
else some (PV.int .i64 (-1))
def qn(L:bj)(p0 p1:PV):Option PV:=(ah 5 p0).bind fun a=>bH p1 fun b=>L.run lJ (a,b,a,(↑a.length:Int),0,())
def jt:List PV→Option PV|[p0,p1]=>qn aX p0 p1|_=>none
def xc(L:bj)(p0 p1 p2:PV):Option PV:=(ah 5 p0).bind fun a=>(ah 5 p1).bind fun b=>bH p2 fun c=>F2 iB [.rs 5 a,c] fun d=>F2 jt [.rs 5 b,c] fun c=>b8 (decide (d<0)) (some (decide (c<0))) fun e=>b8 e (bl b c fun e=>aC e 2 fun e=>bl a d fun a=>aC a 1 fun a=>some (decide (e<a))) fun a=>if a then some (PV.aG [.int .i64 0,.int .i64 0,.bool false])else some (PV.aG [d,c,.bool true])
def gx:List PV→Option PV|[p0,p1,p2]=>xc aX p0 p1 p2|_=>none
def sF:cL (Int×List PV×Int×Int×Unit):=fun(a,b,c,d,_)=>fun e=>if decide (d<c)then bl b d fun f=>aC f 0 fun g=>if(g==a)then aC f 1 fun g=>some (PV.aG [g,.bool true])else e (a,b,c,ay (d+1),())
else some (PV.aG [.int .i64 0,.bool false])
def y7(L:bj)(p0 p1:PV):Option PV:=(ah 2 p0).bind fun a=>bH p1 fun b=>L.run sF (b,a,(↑a.length:Int),0,())
def iT:List PV→Option PV|[p0,p1]=>y7 aX p0 p1|_=>none
def kC(L:bj):cL (aiY):=fun(a,b,c,d,e,f,g,h,i,j,k,l,m,n,o,p,q,r,s,t,_)=>fun u=>if decide (f<e)then bl d f fun v=>aC v 1 fun w=>bH i fun x=>cM 191 b (aC v 0 fun y=>bH h fun z=>b8 (y !=z) (some !false) fun z=>if z then u (a,b,c,d,e,ay (f+1),g,h,i,j,k,l,m,n,o,p,q,r,s,t,())else(ah 5 o).bind fun z=>bl a 0 fun y=>sE 5 y 7 fun y=>aC v 2 fun A=>Wj gx [.rs 5 z,.rs 5 y,A] fun A y z=>b8 (!z) (some (bM [p,q,r,s,PV.bool t] [c,A,PV.int .i64 0,y,PV.bool true])) fun z=>if z then u (a,b,c,d,e,ay (f+1),g,h,i,j,k,l,m,n,o,p,q,r,s,t,())else if(g++[PV.agg [c,A,.int .i64 0,y,.bool false]]).length*40≤ag∧0<40 then u (a,b,c,d,e,ay (f+1),g++[PV.agg [c,A,.int .i64 0,y,.bool false]],h,i,j,k,l,m,n,o,p,q,r,s,t,())else none) fun z y=>(Ab.asInt .i64 (bS (PV.agg [w,x,.int .i64 0]) (PV.int .i64 0) (z.zip y))).bind fun A=>aC v 0 fun B=>bH h fun C=>b8 (B !=C) (some !lM (PV.agg [w,x,.int .i64 0]) (z.zip y)) fun C=>if C then u (a,b,c,d,e,ay (f+1),g,h,i,j,k,l,m,n,o,p,q,r,s,t,())else(ah 5 o).bind fun C=>bl a A fun B=>sE 5 B 7 fun B=>aC v 2 fun v=>Wj gx [.rs 5 C,.rs 5 B,v] fun v B C=>b8 (!C) (some (bM [p,q,r,s,PV.bool t] [c,v,A,B,PV.bool true])) fun C=>if C then u (a,b,c,d,e,ay (f+1),g,h,i,j,k,l,m,n,o,p,q,r,s,t,())else if(g++[acD c v A B false]).length*40≤ag∧0<40 then u (a,b,c,d,e,ay (f+1),g++[acD c v A B false],h,i,j,k,l,m,n,o,p,q,r,s,t,())else none
else some (PV.rs 5 g)
def MR(L:bj)(p0 p1 p2 p3:PV):Option PV:=zn p0 fun _ _ _ _ _ _ a b _ _ _ _ _=>(ah 8 p1).bind fun c=>cM 191 p2 (bH p3 fun d=>bl c d fun e=>aC e 0 fun f=>G7 iT [.rs 2 a,f] fun _ f=>if f then aC e 1 fun _=>L.run (kC L) (c,PV.rr,d,b,(↑b.length:Int),0,[],e 0,e 1,e 2,e 3,e 4,e 5,e 6,e 7,-1,0,0,0,false,())else L.run (kC L) (c,PV.rr,d,b,(↑b.length:Int),0,[],e 0,e 1,e 2,e 3,e 4,e 5,e 6,e 7,-1,0,0,0,false,())) fun e d=>bH p3 fun f=>bl c f fun g=>aC g 0 fun h=>G7 iT [.rs 2 a,h] fun h a=>if a then aC g 1 fun a=>(Ab.asInt .i64 (bS (PV.agg [h,a,.int .i64 0]) (PV.int .i64 0) (e.zip d))).bind fun i=>if lM (PV.agg [h,a,.int .i64 0]) (e.zip d)then sE 5 g 7 fun a=>L.run (kC L) (c,PV.rm 191 e d,f,b,(↑b.length:Int),0,[PV.agg [f,(ay ((↑a.length:Int)-1)),i,.int .i64 0,.bool true]],g 0,g 1,g 2,g 3,g 4,g 5,g 6,g 7,f,ay ((↑a.length:Int)-1),i,0,true,())else L.run (kC L) (c,PV.rm 191 e d,f,b,(↑b.length:Int),0,[],g 0,g 1,g 2,g 3,g 4,g 5,g 6,g 7,-1,0,0,0,false,())else L.run (kC L) (c,PV.rm 191 e d,f,b,(↑b.length:Int),0,[],g 0,g 1,g 2,g 3,g 4,g 5,g 6,g 7,-1,0,0,0,false,())
def Ca:List PV→Option PV|[p0,p1,p2,p3]=>MR aX p0 p1 p2 p3|_=>none
def nW(L:bj)(c0:PV)(c1:PV)(c2:PV)(c3:PV)(c4:PV)(c5:PV)(c6:PV)(c7:PV)(c8:PV)(c9:PV)(nG:PV)(nH:PV)(nI:PV):Option PV:=(ah 4 c0).bind fun a=>fC oA [.rs 4 a] fun a b=>some (PV.aG [a,b])
def ig:List PV→Option PV|[PV.rp [c0,c1,c2,c3,c4,c5,c6,c7,c8,c9,nG,nH,nI]]=>nW aX c0 c1 c2 c3 c4 c5 c6 c7 c8 c9 nG nH nI|_=>none
def mP(L:bj)(c0:PV)(c1:PV)(c2:PV)(c3:PV)(c4:PV)(c5:PV)(c6:PV)(c7:PV)(c8:PV)(c9:PV)(nG:PV)(nH:PV)(nI:PV):Option PV:=fC ef [.agg [c9,nG,nH,nI]] fun a b=>some (PV.aG [a,b])
def gF:List PV→Option PV|[PV.rp [c0,c1,c2,c3,c4,c5,c6,c7,c8,c9,nG,nH,nI]]=>mP aX c0 c1 c2 c3 c4 c5 c6 c7 c8 c9 nG nH nI|_=>none
def oa(L:bj)(c0:PV)(c1:PV)(c2:PV)(c3:PV)(c4:PV)(c5:PV)(c6:PV)(c7:PV)(c8:PV)(c9:PV)(nG:PV)(nH:PV)(nI:PV):Option PV:=(ah 3 c1).bind fun a=>fC lX [.rs 3 a] fun a b=>some (PV.aG [a,b])
def ij:List PV→Option PV|[PV.rp [c0,c1,c2,c3,c4,c5,c6,c7,c8,c9,nG,nH,nI]]=>oa aX c0 c1 c2 c3 c4 c5 c6 c7 c8 c9 nG nH nI|_=>none
def pq:cL (acF):=fun(a,b,c,d,_)=>fun e=>if decide (c<b)then bl a c fun f=>(aT (f 0)).bind fun g=>dh eM [.str g] fun g=>if(!g)then some (PV.aG [c,.int .i64 12])else(aT (f 0)).bind fun g=>(Ab.asBool (bS (PV.str g) (PV.bool false) d)).bind fun g=>if g then some (PV.aG [c,.int .i64 6])else aC f 8 fun g=>dh df [g] fun g=>if(!g)then some (PV.aG [c,.int .i64 11])else aC f 9 fun g=>dh df [g] fun g=>if(!g)then some (PV.aG [c,.int .i64 11])else aC f 8 fun g=>aC f 9 fun h=>if decide (g>h)then some (PV.aG [c,.int .i64 11])else(aT (f 0)).bind fun h=>e (a,b,ay (c+1),dm (PV.str h) (PV.bool true) d,())
else some (PV.aG [.int .i64 0,.int .i64 0])
def uP(L:bj)(p0:PV):Option PV:=(ah 10 p0).bind fun a=>if decide ((↑a.length:Int)>64)then some (PV.aG [.int .i64 0,.int .i64 5])else L.run pq (a,(↑a.length:Int),0,[],())
def lr:List PV→Option PV|[p0]=>uP aX p0|_=>none
def nX(L:bj)(c0:PV)(c1:PV)(c2:PV)(c3:PV)(c4:PV)(c5:PV)(c6:PV)(c7:PV)(c8:PV)(c9:PV)(nG:PV)(nH:PV)(nI:PV):Option PV:=(ah 10 c2).bind fun a=>fC lr [.rs 10 a] fun a b=>some (PV.aG [a,b])
def il:List PV→Option PV|[PV.rp [c0,c1,c2,c3,c4,c5,c6,c7,c8,c9,nG,nH,nI]]=>nX aX c0 c1 c2 c3 c4 c5 c6 c7 c8 c9 nG nH nI|_=>none
def fI:cL (aiN):=fun(a,b,c,d,e,_)=>fun f=>if decide (d<c)then bl b d fun g=>aC g 0 fun h=>aC g 1 fun i=>aC g 0 fun j=>b8 (decide (j<0)) (aC g 0 fun j=>some (decide (j≥a))) fun j=>if j then some (PV.aG [d,.int .i64 9])else aC g 1 fun j=>dh df [j] fun j=>if(!j)then some (PV.aG [d,.int .i64 11])else(Ab.asBool (bS (PV.agg [h,i]) (PV.bool false) e)).bind fun j=>if j then some (PV.aG [d,.int .i64 6])else f (a,b,c,ay (d+1),dm (PV.agg [h,i]) (PV.bool true) e,())
else some (PV.aG [.int .i64 0,.int .i64 0])
def gP(L:bj)(p0 p1:PV):Option PV:=(ah 3 p0).bind fun a=>bH p1 fun b=>if decide ((↑a.length:Int)>256)then some (PV.aG [.int .i64 0,.int .i64 5])else L.run fI (b,a,(↑a.length:Int),0,[],())
def dX:List PV→Option PV|[p0,p1]=>gP aX p0 p1|_=>none
def ob(L:bj)(c0:PV)(c1:PV)(c2:PV)(c3:PV)(c4:PV)(c5:PV)(c6:PV)(c7:PV)(c8:PV)(c9:PV)(nG:PV)(nH:PV)(nI:PV)(Fo:PV):Option PV:=(ah 3 c3).bind fun a=>bH Fo fun b=>fC dX [.rs 3 a,b] fun b a=>some (PV.aG [b,a])
def im:List PV→Option PV|[PV.rp [c0,c1,c2,c3,c4,c5,c6,c7,c8,c9,nG,nH,nI],PV.rp [Fo]]=>ob aX c0 c1 c2 c3 c4 c5 c6 c7 c8 c9 nG nH nI Fo|_=>none
def xp:cL (aku):=fun(a,b,c,d,e,f,g,_)=>fun h=>if decide (f<e)then bl d f fun i=>(aT (i 0)).bind fun j=>dh eM [.str j] fun j=>if(!j)then some (PV.aG [f,.int .i64 12])else(aT (i 0)).bind fun j=>(Ab.asBool (bS (PV.str j) (PV.bool false) g)).bind fun j=>if j then some (PV.aG [f,.int .i64 6])else aC i 1 fun j=>b8 (decide (j<0)) (aC i 1 fun j=>some (decide (j≥b))) fun j=>if j then some (PV.aG [f,.int .i64 9])else aC i 2 fun j=>b8 (decide (j<0)) (aC i 2 fun j=>some (decide (j≥c))) fun j=>if j then some (PV.aG [f,.int .i64 9])else sE 5 i 4 fun j=>fC oF [.rs 5 j,a,.int .i64 0,.int .i64 172800] fun _ j=>if(j !=0)then some (PV.aG [f,j])else(aT (i 0)).bind fun j=>h (a,b,c,d,e,ay (f+1),dm (PV.str j) (PV.bool true) g,())
else some (PV.aG [.int .i64 0,.int .i64 0])
def Dr(L:bj)(p0 p1 p2 p3:PV):Option PV:=(ah 5 p0).bind fun a=>bH p1 fun b=>bH p2 fun c=>bH p3 fun d=>if decide ((↑a.length:Int)>256)then some (PV.aG [.int .i64 0,.int .i64 5])else L.run xp (b,c,d,a,(↑a.length:Int),0,[],())
def tw:List PV→Option PV|[p0,p1,p2,p3]=>Dr aX p0 p1 p2 p3|_=>none
def nY(L:bj)(c0:PV)(c1:PV)(c2:PV)(c3:PV)(c4:PV)(c5:PV)(c6:PV)(c7:PV)(c8:PV)(c9:PV)(nG:PV)(nH:PV)(nI:PV)(Fo:PV)(c14:PV)(c15:PV):Option PV:=(ah 5 c4).bind fun a=>bH Fo fun b=>bH c14 fun c=>bH c15 fun d=>fC tw [.rs 5 a,b,c,d] fun d c=>some (PV.aG [d,c])
def iq:List PV→Option PV|[PV.rp [c0,c1,c2,c3,c4,c5,c6,c7,c8,c9,nG,nH,nI],PV.rp [Fo],PV.rp [c14],PV.rp [c15]]=>nY aX c0 c1 c2 c3 c4 c5 c6 c7 c8 c9 nG nH nI Fo c14 c15|_=>none
def sq(L:bj)(p0:PV):Option PV:=Pv p0 fun _ a b c=>if c=0 then none else some ((ay ((ay (ay (ay (b-a)+c)-1)).tdiv c)))
def fh:List PV→Option PV|[p0]=>sq aX p0|_=>none
def uQ(L:bj)(p0:PV):Option PV:=Pv p0 fun a b c d=>F2 fh [.agg [a,b,c,d]] fun c=>some ((ay (b+ay (ay (c-1)*d))))
def lu:List PV→Option PV|[p0]=>uQ aX p0|_=>none
def uR(L:bj)(p0 p1:PV):Option PV:=Wl p0 fun a b c d e=>Pv p1 fun f g h i=>if((↑e.length:Int)==0)then some (PV.bool true)else M3 cq [acE a b c d e,g] fun _ j=>F2 lu [.agg [f,g,h,i]] fun i=>M3 cq [acE a b c d e,i] fun _ i=>dz (j==0) (some (i==0)) fun i=>some (PV.bool i)
def lv:List PV→Option PV|[p0,p1]=>uR aX p0 p1|_=>none
def nj(sC:afQ→Option PV):cL (akv):=fun(a,b,c,d,e,f,g,h,i,j,k,l,m,n,o,_)=>fun p=>if decide (k<j)then bl i k fun q=>aC q 0 fun r=>bH l fun s=>if(r==s)then F2 fh [l5 q] fun s=>b8 e (aC q 1 fun r=>bH n fun t=>dz (decide (r<t)) (bH m fun t=>aC q 2 fun q=>some (decide (t<q))) fun q=>some q) fun q=>p (a,b,c,ay (d+s),q,f,g,h,i,j,ay (k+1),l,m,n,o,())else p (a,b,c,d,e,f,g,h,i,j,ay (k+1),l,m,n,o,())
else if decide (d>256)then some (PV.aG [c,.int .i64 17])else if e then some (PV.aG [c,.int .i64 8])else sC (a,b,f,g,ay (h+1),())
def nk(L:bj):cL (afQ):=fun(a,b,c,d,e,_)=>fun f=>if decide (e<d)then bl c e fun g=>aC g 0 fun h=>b8 (decide (h<0)) (aC g 0 fun h=>some (decide (h≥(↑b.length:Int)))) fun h=>if h then some (PV.aG [e,.int .i64 9])else dh gJ [l5 g] fun h=>b8 (!h) (aC g 0 fun h=>bl b h fun h=>dh lv [aaN h,l5 g] fun h=>some !h) fun h=>if h then some (PV.aG [e,.int .i64 10])else F2 fh [l5 g] fun h=>if(0:Int)≤0∧0≤e∧e≤(↑a.length:Int)∧4=4∧4≠0 then L.run (nj f) (a,b,e,h,false,c,d,e,List.drop (Int.toNat 0) (List.take e.toNat a),(↑(List.drop (Int.toNat 0) (List.take e.toNat a)).length:Int),0,g 0,g 1,g 2,g 3,())else none
else some (PV.aG [.int .i64 0,.int .i64 0])
def sr(L:bj)(p0 p1:PV):Option PV:=(ah 4 p0).bind fun a=>(ah 5 p1).bind fun b=>if decide ((↑a.length:Int)>64)then some (PV.aG [.int .i64 0,.int .i64 5])else L.run (nk L) (a,b,a,(↑a.length:Int),0,())
def kc:List PV→Option PV|[p0,p1]=>sr aX p0 p1|_=>none
def n9(L:bj)(c0:PV)(c1:PV)(c2:PV)(c3:PV)(c4:PV)(c5:PV)(c6:PV)(c7:PV)(c8:PV)(c9:PV)(nG:PV)(nH:PV)(nI:PV):Option PV:=(ah 4 c5).bind fun a=>(ah 5 c4).bind fun b=>fC kc [.rs 4 a,.rs 5 b] fun b a=>some (PV.aG [b,a])
def ir:List PV→Option PV|[PV.rp [c0,c1,c2,c3,c4,c5,c6,c7,c8,c9,nG,nH,nI]]=>n9 aX c0 c1 c2 c3 c4 c5 c6 c7 c8 c9 nG nH nI|_=>none
def su(L:bj)(p0 p1:PV):Option PV:=Wl p0 fun _ _ a _ b=>Wl p1 fun _ _ c _ d=>if(a !=c)then some (PV.int .i64 15)else b8 ((↑b.length:Int)==0) (some ((↑d.length:Int)==0)) fun c=>if c then some (PV.int .i64 13)else bl b (ay ((↑b.length:Int)-1)) fun c=>bl d 0 fun d=>aC c 0 fun b=>aC d 0 fun a=>if(b !=a)then some (PV.int .i64 13)else aC d 2 fun a=>aC c 1 fun c=>if decide (a<c)then some (PV.int .i64 10)else some (PV.int .i64 0)
def ke:List PV→Option PV|[p0,p1]=>su aX p0 p1|_=>none
def lx(L:bj):cL (akw):=fun(a,b,c,_)=>fun d=>if ar (ay ((↑b.length:Int)-1)) b.length then b[(ay ((↑b.length:Int)-1)).toNat]?.bind fun e=>aC e 0 fun e=>G7 iT [.rs 2 a,e] fun e f=>b8 (!f) ((Ab.asBool (bS (PV.int .i64 e) (PV.bool false) c)).bind fun f=>some f) fun f=>if f then some (PV.rs 1 b)else if(b++[PV.int .i64 e]).length*8≤ag∧0<8 then d (a,b++[PV.int .i64 e],dm (PV.int .i64 e) (PV.bool true) c,())else none
else none
def xd(L:bj)(p0 p1:PV):Option PV:=(ah 2 p0).bind fun a=>bH p1 fun b=>L.run (lx L) (a,[b],dm (PV.int .i64 b) (PV.bool true) [],())
def mB:List PV→Option PV|[p0,p1]=>xd aX p0 p1|_=>none
def ly:cL (Int×List PV×Int×Int×Unit):=fun(a,b,c,d,_)=>fun e=>if decide (d<c)then bl b d fun f=>aC f 0 fun f=>if(f==a)then some (PV.bool true)else e (a,b,c,ay (d+1),())
else some (PV.bool false)
def xe(L:bj)(p0 p1 p2:PV):Option PV:=(ah 2 p0).bind fun a=>bH p1 fun b=>bH p2 fun c=>jx mB [.rs 2 a,b] fun b=>(ah 1 b).bind fun b=>L.run ly (c,b,(↑b.length:Int),0,())
def mC:List PV→Option PV|[p0,p1,p2]=>xe aX p0 p1 p2|_=>none
def uo(L:bj)(p0:PV)(c1:PV):Option PV:=bH p0 fun a=>dz (decide (a≥0)) ((ah 5 c1).bind fun b=>some (decide (a<(↑b.length:Int)))) fun b=>some (PV.bool b)
def fQ:List PV→Option PV|[p0,PV.rp [c1]]=>uo aX p0 c1|_=>none
def y8(L:bj)(p0 p1 p2 p3:PV):Option PV:=bH p0 fun a=>bH p1 fun b=>(ah 5 p2).bind fun c=>(ah 4 p3).bind fun d=>dh fQ [a,PV.rp [PV.rs 5 c]] fun e=>b8 (!e) (dh fQ [b,PV.rp [PV.rs 5 c]] fun e=>some !e) fun e=>b8 e (some (a==b)) fun e=>if e then some (PV.aG [.int .i64 9,.int .i64 0])else dh cZ [.rs 4 d,a] fun e=>b8 e (dh cZ [.rs 4 d,b] fun e=>some e) fun e=>if e then some (PV.aG [.int .i64 0,.int .i64 17])else some (PV.aG [.int .i64 0,.int .i64 0])
def kE:List PV→Option PV|[p0,p1,p2,p3]=>y8 aX p0 p1 p2 p3|_=>none
def qp(L:bj):cL (akx):=fun(a,b,c,d,e,f,g,h,_)=>fun i=>if decide (f<e)then bl d f fun j=>aC j 0 fun k=>aC j 1 fun l=>fC kE [k,l,.rs 5 b,.rs 4 c] fun l k=>if(l !=0)then some (PV.aG [f,l])else if(k !=0)then some (PV.aG [f,k])else aC j 0 fun k=>bl b k fun k=>aC j 1 fun l=>bl b l fun l=>F2 ke [aaN k,aaN l] fun l=>if(l !=0)then some (PV.aG [f,l])else aC j 0 fun l=>(Ab.asBool (bS (PV.int .i64 l) (PV.bool false) g)).bind fun l=>b8 l (aC j 1 fun l=>(Ab.asBool (bS (PV.int .i64 l) (PV.bool false) h)).bind fun l=>some l) fun l=>if l then some (PV.aG [f,.int .i64 6])else if(0:Int)≤0∧0≤f∧f≤(↑a.length:Int)∧2=2∧2≠0 then aC j 1 fun l=>aC j 0 fun k=>dh mC [.rs 2 (List.drop (Int.toNat 0) (List.take f.toNat a)),l,k] fun k=>if k then some (PV.aG [f,.int .i64 19])else aC j 0 fun k=>aC j 1 fun j=>i (a,b,c,d,e,ay (f+1),dm (PV.int .i64 k) (PV.bool true) g,dm (PV.int .i64 j) (PV.bool true) h,())else none
else some (PV.aG [.int .i64 0,.int .i64 0])
def xf(L:bj)(p0 p1 p2:PV):Option PV:=(ah 2 p0).bind fun a=>(ah 5 p1).bind fun b=>(ah 4 p2).bind fun c=>if decide ((↑a.length:Int)>128)then some (PV.aG [.int .i64 0,.int .i64 5])else L.run (qp L) (a,b,c,a,(↑a.length:Int),0,[],[],())
def mD:List PV→Option PV|[p0,p1,p2]=>xf aX p0 p1 p2|_=>none
def nZ(L:bj)(c0:PV)(c1:PV)(c2:PV)(c3:PV)(c4:PV)(c5:PV)(c6:PV)(c7:PV)(c8:PV)(c9:PV)(nG:PV)(nH:PV)(nI:PV):Option PV:=(ah 2 c6).bind fun a=>(ah 5 c4).bind fun b=>(ah 4 c5).bind fun c=>fC mD [.rs 2 a,.rs 5 b,.rs 4 c] fun c b=>some (PV.aG [c,b])
def iu:List PV→Option PV|[PV.rp [c0,c1,c2,c3,c4,c5,c6,c7,c8,c9,nG,nH,nI]]=>nZ aX c0 c1 c2 c3 c4 c5 c6 c7 c8 c9 nG nH nI|_=>none
def gd:cL (akz):=fun(a,b,c,d,e,f,g,_)=>fun h=>if decide (f<e)then bl d f fun i=>aC i 0 fun j=>aC i 1 fun k=>fC kE [j,k,.rs 5 a,.rs 4 b] fun k j=>b8 (k !=0) (aC i 2 fun k=>some (decide (k<0))) fun k=>b8 k (aC i 2 fun k=>some (decide (k≥c))) fun k=>if k then some (PV.aG [f,.int .i64 9])else if(j !=0)then some (PV.aG [f,j])else aC i 0 fun k=>bl a k fun k=>sE 5 k 4 fun k=>aC i 1 fun j=>bl a j fun j=>sE 5 j 4 fun j=>aC i 2 fun l=>Wj gx [.rs 5 k,.rs 5 j,l] fun _ _ l=>if(!l)then some (PV.aG [f,.int .i64 19])else(if acC [i 0,i 1,i 2]then some (kq i)else none).bind fun l=>(Ab.asBool (bS l (PV.bool false) g)).bind fun l=>if l then some (PV.aG [f,.int .i64 6])else(if acC [i 0,i 1,i 2]then some (kq i)else none).bind fun l=>h (a,b,c,d,e,ay (f+1),dm l (PV.bool true) g,())
else some (PV.aG [.int .i64 0,.int .i64 0])
def iR(L:bj)(p0 p1 p2 p3:PV):Option PV:=(ah 3 p0).bind fun a=>(ah 5 p1).bind fun b=>(ah 4 p2).bind fun c=>bH p3 fun d=>if decide ((↑a.length:Int)>128)then some (PV.aG [.int .i64 0,.int .i64 5])else L.run gd (b,c,d,a,(↑a.length:Int),0,[],())
def ey:List PV→Option PV|[p0,p1,p2,p3]=>iR aX p0 p1 p2 p3|_=>none
def oc(L:bj)(c0:PV)(c1:PV)(c2:PV)(c3:PV)(c4:PV)(c5:PV)(c6:PV)(c7:PV)(c8:PV)(c9:PV)(nG:PV)(nH:PV)(nI:PV)(Fo:PV):Option PV:=(ah 3 c7).bind fun a=>(ah 5 c4).bind fun b=>(ah 4 c5).bind fun c=>bH Fo fun d=>fC ey [.rs 3 a,.rs 5 b,.rs 4 c,d] fun d c=>some (PV.aG [d,c])
def iw:List PV→Option PV|[PV.rp [c0,c1,c2,c3,c4,c5,c6,c7,c8,c9,nG,nH,nI],PV.rp [Fo]]=>oc aX c0 c1 c2 c3 c4 c5 c6 c7 c8 c9 nG nH nI Fo|_=>none
def nU(L:bj)(c0:PV)(c1:PV)(c2:PV)(c3:PV)(c4:PV)(c5:PV)(c6:PV)(c7:PV)(c8:PV)(c9:PV)(nG:PV)(nH:PV)(nI:PV)(Fo:PV):Option PV:=(ah 4 c8).bind fun a=>bH Fo fun b=>fC iS [.rs 4 a,b] fun b a=>some (PV.aG [b,a])
def iy:List PV→Option PV|[PV.rp [c0,c1,c2,c3,c4,c5,c6,c7,c8,c9,nG,nH,nI],PV.rp [Fo]]=>nU aX c0 c1 c2 c3 c4 c5 c6 c7 c8 c9 nG nH nI Fo|_=>none
def sw(L:bj)(p0:PV):Option PV:=zn p0 fun a b c d e f g h i j k l m=>fC ig [PV.rp [PV.rs 4 a,PV.rs 3 b,PV.rs 10 c,PV.rs 3 d,PV.rs 5 e,PV.rs 4 f,PV.rs 2 g,PV.rs 3 h,PV.rs 4 i,PV.rs 6 j,k,l,m]] fun n o=>if(o !=0)then some (PV.aG [.int .i64 0,n,o])else fC ij [PV.rp [PV.rs 4 a,PV.rs 3 b,PV.rs 10 c,PV.rs 3 d,PV.rs 5 e,PV.rs 4 f,PV.rs 2 g,PV.rs 3 h,PV.rs 4 i,PV.rs 6 j,k,l,m]] fun o n=>if(n !=0)then some (PV.aG [(ay (0+1)),o,n])else fC il [PV.rp [PV.rs 4 a,PV.rs 3 b,PV.rs 10 c,PV.rs 3 d,PV.rs 5 e,PV.rs 4 f,PV.rs 2 g,PV.rs 3 h,PV.rs 4 i,PV.rs 6 j,k,l,m]] fun n o=>if(o !=0)then some (PV.aG [(ay (ay (0+1)+1)),n,o])else fC im [PV.rp [PV.rs 4 a,PV.rs 3 b,PV.rs 10 c,PV.rs 3 d,PV.rs 5 e,PV.rs 4 f,PV.rs 2 g,PV.rs 3 h,PV.rs 4 i,PV.rs 6 j,k,l,m],PV.rp [(↑c.length:Int)]] fun o n=>if(n !=0)then some (PV.aG [(ay (ay (ay (0+1)+1)+1)),o,n])else fC iq [PV.rp [PV.rs 4 a,PV.rs 3 b,PV.rs 10 c,PV.rs 3 d,PV.rs 5 e,PV.rs 4 f,PV.rs 2 g,PV.rs 3 h,PV.rs 4 i,PV.rs 6 j,k,l,m],PV.rp [(↑a.length:Int)],PV.rp [(↑b.length:Int)],PV.rp [(↑c.length:Int)]] fun n o=>if(o !=0)then some (PV.aG [(ay (ay (ay (ay (0+1)+1)+1)+1)),n,o])else fC ir [PV.rp [PV.rs 4 a,PV.rs 3 b,PV.rs 10 c,PV.rs 3 d,PV.rs 5 e,PV.rs 4 f,PV.rs 2 g,PV.rs 3 h,PV.rs 4 i,PV.rs 6 j,k,l,m]] fun o n=>if(n !=0)then some (PV.aG [(ay (ay (ay (ay (ay (0+1)+1)+1)+1)+1)),o,n])else fC iu [PV.rp [PV.rs 4 a,PV.rs 3 b,PV.rs 10 c,PV.rs 3 d,PV.rs 5 e,PV.rs 4 f,PV.rs 2 g,PV.rs 3 h,PV.rs 4 i,PV.rs 6 j,k,l,m]] fun n o=>if(o !=0)then some (PV.aG [(ay (ay (ay (ay (ay (ay (0+1)+1)+1)+1)+1)+1)),n,o])else fC iw [PV.rp [PV.rs 4 a,PV.rs 3 b,PV.rs 10 c,PV.rs 3 d,PV.rs 5 e,PV.rs 4 f,PV.rs 2 g,PV.rs 3 h,PV.rs 4 i,PV.rs 6 j,k,l,m],PV.rp [(↑a.length:Int)]] fun o n=>if(n !=0)then some (PV.aG [(ay (ay (ay (ay (ay (ay (ay (0+1)+1)+1)+1)+1)+1)+1)),o,n])else fC iy [PV.rp [PV.rs 4 a,PV.rs 3 b,PV.rs 10 c,PV.rs 3 d,PV.rs 5 e,PV.rs 4 f,PV.rs 2 g,PV.rs 3 h,PV.rs 4 i,PV.rs 6 j,k,l,m],PV.rp [(↑a.length:Int)]] fun n o=>if(o !=0)then some (PV.aG [(ay (ay (ay (ay (ay (ay (ay (ay (0+1)+1)+1)+1)+1)+1)+1)+1)),n,o])else fC gF [PV.rp [PV.rs 4 a,PV.rs 3 b,PV.rs 10 c,PV.rs 3 d,PV.rs 5 e,PV.rs 4 f,PV.rs 2 g,PV.rs 3 h,PV.rs 4 i,PV.rs 6 j,k,l,m]] fun o n=>if(n !=0)then some (PV.aG [(ay (ay (ay (ay (ay (ay (ay (ay (ay (0+1)+1)+1)+1)+1)+1)+1)+1)+1)),o,n])else some (PV.aG [.int .i64 0,.int .i64 0,.int .i64 0])
def dW:List PV→Option PV|[p0]=>sw aX p0|_=>none
def l0(L:bj):cL (aiZ):=fun(a,b,c,d,e,f,g,h,i,j,k,l,m,n,o,p,q,r,_)=>fun s=>if decide (d<c)then jx Ca [vb e f g h i j k l m n o p q,.rs 8 a,b,d] fun t=>(ah 5 t).bind fun t=>if(r++t).length*40≤ag∧0<40 then if decide ((↑(r++t).length:Int)>1024)then some (PV.aG [.rs 5 [],.int .i64 5])else s (a,b,c,ay (d+1),e,f,g,h,i,j,k,l,m,n,o,p,q,r++t,())else none
else some (PV.aG [.rs 5 r,.int .i64 0])
def Dt(L:bj)(p0 p1:PV):Option PV:=zn p0 fun a b c d e f g h i j k l m=>(ah 8 p1).bind fun n=>M4 dW [vb a b c d e f g h i j k l m] fun _ _ o=>if(o !=0)then some (PV.aG [.rs 5 [],o])else if decide ((↑n.length:Int)>1024)then some (PV.aG [.rs 5 [],.int .i64 5])else jx tt [vb a b c d e f g h i j k l m,.rs 8 n] fun o=>(bR 2 o).bind fun o=>cM 191 (o.getD 0 .bad) (mcG o 1 fun p=>if(p !=0)then some (PV.aG [.rs 5 [],p])else L.run (l0 L) (n,PV.rr,(↑n.length:Int),0,a,b,c,d,e,f,g,h,i,j,k,l,m,[],())) fun p q=>mcG o 1 fun o=>if(o !=0)then some (PV.aG [.rs 5 [],o])else L.run (l0 L) (n,PV.rm 191 p q,(↑n.length:Int),0,a,b,c,d,e,f,g,h,i,j,k,l,m,[],())
def tv:List PV→Option PV|[p0,p1]=>Dt aX p0 p1|_=>none
end
end Go.Ab
