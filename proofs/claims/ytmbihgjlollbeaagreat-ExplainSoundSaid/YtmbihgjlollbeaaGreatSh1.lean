import Derived.Test.YtmbihgjlollbeaaGreatAbSortK
import Derived.Test.YtmbihgjlollbeaaGreatAbPop
set_option linter.all false
set_option maxHeartbeats 4000000
namespace Go.Ab
noncomputable section
abbrev iT(T:Type):=T→(T→Option PV)→Option PV
structure eQ(R:Type)(n:Nat)
instance {R:Type}:CoeFun (eQ R 0) (fun _=>(List PV→Option PV)→List PV→(Int→Bool→Option R)→Option R):=⟨fun _=>fun f l k=>(f l).bind fun r=>(dn 2 r).bind fun vs=>(Ab.asInt .i64 (vs.getD 0 .bad)).bind fun v0=>(Ab.asBool (vs.getD 1 .bad)).bind fun v1=>k v0 v1⟩
variable{R:Type}
abbrev YY:eQ R 0:=⟨⟩
instance {R:Type}:CoeFun (eQ R 1) (fun _=>(List PV→Option PV)→List PV→(Int→Int→Option R)→Option R):=⟨fun _=>fun f l k=>(f l).bind fun r=>(dn 2 r).bind fun vs=>(Ab.asInt .i64 (vs.getD 0 .bad)).bind fun v0=>(Ab.asInt .i64 (vs.getD 1 .bad)).bind fun v1=>k v0 v1⟩
abbrev kM:eQ R 1:=⟨⟩
instance {R:Type}:CoeFun (eQ R 2) (fun _=>(List PV→Option PV)→List PV→(List PV→Int→Option R)→Option R):=⟨fun _=>fun f l k=>(f l).bind fun r=>(dn 2 r).bind fun vs=>(aw 5 (vs.getD 0 .bad)).bind fun v0=>(Ab.asInt .i64 (vs.getD 1 .bad)).bind fun v1=>k v0 v1⟩
abbrev Ub:eQ R 2:=⟨⟩
instance {R:Type}:CoeFun (eQ R 3) (fun _=>(List PV→Option PV)→List PV→(Bytes→Int→Option R)→Option R):=⟨fun _=>fun f l k=>(f l).bind fun r=>(dn 2 r).bind fun vs=>(bu (vs.getD 0 .bad)).bind fun v0=>(Ab.asInt .i64 (vs.getD 1 .bad)).bind fun v1=>k v0 v1⟩
abbrev abr:eQ R 3:=⟨⟩
instance {R:Type}:CoeFun (eQ R 4) (fun _=>(List PV→Option PV)→List PV→(Int→Int→Int→Option R)→Option R):=⟨fun _=>fun f l k=>(f l).bind fun r=>(dn 3 r).bind fun vs=>(Ab.asInt .i64 (vs.getD 0 .bad)).bind fun v0=>(Ab.asInt .i64 (vs.getD 1 .bad)).bind fun v1=>(Ab.asInt .i64 (vs.getD 2 .bad)).bind fun v2=>k v0 v1 v2⟩
abbrev abt:eQ R 4:=⟨⟩
instance:CoeFun (eQ Unit 5) (fun _=>PV→PV):=⟨fun _=>fun p=>.agg [cell p 0,cell p 1,cell p 2]⟩
abbrev kq:eQ Unit 5:=⟨⟩
instance:CoeFun (eQ Unit 6) (fun _=>PV→PV):=⟨fun _=>fun p=>.agg [cell p 0,cell p 1,cell p 2,cell p 3]⟩
abbrev oB:eQ Unit 6:=⟨⟩
instance:CoeFun (eQ Unit 7) (fun _=>PV→PV):=⟨fun _=>fun p=>.agg [cell p 0,cell p 1,cell p 2,cell p 3,cell p 4]⟩
abbrev PE:eQ Unit 7:=⟨⟩
instance:CoeFun (eQ Unit 8) (fun _=>PV→PV):=⟨fun _=>fun p=>.agg [cell p 0,cell p 1,cell p 2,cell p 3,cell p 4,cell p 5]⟩
abbrev ahx:eQ Unit 8:=⟨⟩
instance:CoeFun (eQ Unit 9) (fun _=>PV→PV):=⟨fun _=>fun p=>.agg [cell p 0,cell p 1,cell p 2,cell p 3,cell p 4,cell p 5,cell p 6]⟩
abbrev PF:eQ Unit 9:=⟨⟩
instance:CoeFun (eQ Unit 10) (fun _=>PV→PV):=⟨fun _=>fun p=>.agg [cell p 0,cell p 1,cell p 2,cell p 3,cell p 4,cell p 5,cell p 6,cell p 7]⟩
abbrev ajd:eQ Unit 10:=⟨⟩
instance:CoeFun (eQ Unit 11) (fun _=>PV→PV):=⟨fun _=>fun p=>.agg [cell p 0,cell p 1,cell p 2,cell p 3,cell p 4,cell p 5,cell p 6,cell p 7,cell p 8]⟩
abbrev D3:eQ Unit 11:=⟨⟩
instance:CoeFun (eQ Unit 12) (fun _=>PV→PV):=⟨fun _=>fun p=>.agg [cell p 0,cell p 1,cell p 2,cell p 3,cell p 4,cell p 5,cell p 6,cell p 7,cell p 8,cell p 9,cell p 10,cell p 11,cell p 12]⟩
abbrev YZ:eQ Unit 12:=⟨⟩
instance:CoeFun (eQ Unit 13) (fun _=>PV→PV):=⟨fun _=>fun p=>.agg [cell p 0,cell p 1,cell p 2,cell p 3,cell p 4,cell p 5,cell p 6,cell p 7,cell p 8,cell p 9,cell p 10,cell p 11,cell p 12,cell p 13,cell p 14,cell p 15,cell p 16,cell p 17,cell p 18,cell p 19,cell p 20,cell p 21,cell p 22,cell p 23,cell p 24,cell p 25,cell p 26,cell p 27,cell p 28,cell p 29,cell p 30,cell p 31,cell p 32,cell p 33]⟩
abbrev ahy:eQ Unit 13:=⟨⟩
instance:CoeFun (eQ Unit 14) (fun _=>PV→PV):=⟨fun _=>fun p=>.agg [cell p 0,cell p 1,cell p 2,cell p 3,cell p 4,cell p 5,cell p 6,cell p 7,cell p 8,cell p 9,cell p 10,cell p 11,cell p 12,cell p 13,cell p 14,cell p 15,cell p 16,cell p 17,cell p 18,cell p 19,cell p 20,cell p 21,cell p 22,cell p 23,cell p 24,cell p 25,cell p 26,cell p 27,cell p 28,cell p 29,cell p 30,cell p 31,cell p 32,cell p 33,cell p 34,cell p 35,cell p 36,cell p 37,cell p 38,cell p 39,cell p 40,cell p 41,cell p 42,cell p 43,cell p 44,cell p 45,cell p 46,cell p 47,cell p 48,cell p 49,cell p 50,cell p 51,cell p 52,cell p 53,cell p 54,cell p 55,cell p 56,cell p 57,cell p 58,cell p 59,cell p 60,cell p 61,cell p 62]⟩
abbrev ahz:eQ Unit 14:=⟨⟩
instance:CoeFun (eQ Unit 15) (fun _=>List PV→Bool):=⟨fun _=>fun l=>lK (Kd.int .i64::[].append (Kd.int .i64::[].append (Kd.int .i64::[].append []))) l⟩
abbrev ahA:eQ Unit 15:=⟨⟩
instance:CoeFun (eQ Unit 16) (fun _=>List PV→Bool):=⟨fun _=>fun l=>lK (Kd.int .i64::[].append (Kd.int .i64::[].append (Kd.int .i64::[].append (Kd.int .i64::[].append [])))) l⟩
abbrev ahB:eQ Unit 16:=⟨⟩
instance:CoeFun (eQ Unit 17) (fun _=>List PV→Bool):=⟨fun _=>fun l=>lK (Kd.int .i64::[].append (Kd.int .i64::[].append (Kd.int .i64::[].append (Kd.int .i64::[].append (Kd.int .i64::[].append []))))) l⟩
abbrev Uc:eQ Unit 17:=⟨⟩
instance {R:Type}:CoeFun (eQ R 18) (fun _=>PV→(Int→Int→Int→Bool→Option R)→Option R):=⟨fun _=>fun p k=>(Ab.asAgg 4 p).bind fun _=>(Ab.asInt .i64 (cell p 0)).bind fun v0=>(Ab.asInt .i64 (cell p 1)).bind fun v1=>(Ab.asInt .i64 (cell p 2)).bind fun v2=>(Ab.asBool (cell p 3)).bind fun v3=>k v0 v1 v2 v3⟩
abbrev ahC:eQ R 18:=⟨⟩
instance {R:Type}:CoeFun (eQ R 19) (fun _=>PV→(Bytes→Int→Int→Bool→List PV→Option R)→Option R):=⟨fun _=>fun p k=>(Ab.asAgg 5 p).bind fun _=>(bu (cell p 0)).bind fun v0=>(Ab.asInt .i64 (cell p 1)).bind fun v1=>(Ab.asInt .i64 (cell p 2)).bind fun v2=>(Ab.asBool (cell p 3)).bind fun v3=>(aw 5 (cell p 4)).bind fun v4=>k v0 v1 v2 v3 v4⟩
abbrev abu:eQ R 19:=⟨⟩
instance {R:Type}:CoeFun (eQ R 20) (fun _=>PV→(Int→Int→Int→Int→Option R)→Option R):=⟨fun _=>fun p k=>(Ab.asAgg 4 p).bind fun _=>(Ab.asInt .i64 (cell p 0)).bind fun v0=>(Ab.asInt .i64 (cell p 1)).bind fun v1=>(Ab.asInt .i64 (cell p 2)).bind fun v2=>(Ab.asInt .i64 (cell p 3)).bind fun v3=>k v0 v1 v2 v3⟩
abbrev Ud:eQ R 20:=⟨⟩
instance {R:Type}:CoeFun (eQ R 21) (fun _=>PV→(List PV→List PV→List PV→List PV→List PV→List PV→List PV→List PV→List PV→List PV→Int→Int→Int→Option R)→Option R):=⟨fun _=>fun p k=>(Ab.asAgg 13 p).bind fun _=>(aw 4 (cell p 0)).bind fun v0=>(aw 3 (cell p 1)).bind fun v1=>(aw 10 (cell p 2)).bind fun v2=>(aw 3 (cell p 3)).bind fun v3=>(aw 5 (cell p 4)).bind fun v4=>(aw 4 (cell p 5)).bind fun v5=>(aw 2 (cell p 6)).bind fun v6=>(aw 3 (cell p 7)).bind fun v7=>(aw 4 (cell p 8)).bind fun v8=>(aw 6 (cell p 9)).bind fun v9=>(Ab.asInt .i64 (cell p 10)).bind fun v10=>(Ab.asInt .i64 (cell p 11)).bind fun v11=>(Ab.asInt .i64 (cell p 12)).bind fun v12=>k v0 v1 v2 v3 v4 v5 v6 v7 v8 v9 v10 v11 v12⟩
abbrev Ue:eQ R 21:=⟨⟩
instance {R:Type}:CoeFun (eQ R 22) (fun _=>PV→(Int→Int→Int→Bytes→Int→Bool→Bool→List PV→Option R)→Option R):=⟨fun _=>fun p k=>(Ab.asAgg 8 p).bind fun _=>(Ab.asInt .i64 (cell p 0)).bind fun v0=>(Ab.asInt .i64 (cell p 1)).bind fun v1=>(Ab.asInt .i64 (cell p 2)).bind fun v2=>(bu (cell p 3)).bind fun v3=>(Ab.asInt .i64 (cell p 4)).bind fun v4=>(Ab.asBool (cell p 5)).bind fun v5=>(Ab.asBool (cell p 6)).bind fun v6=>(aw 5 (cell p 7)).bind fun v7=>k v0 v1 v2 v3 v4 v5 v6 v7⟩
abbrev abv:eQ R 22:=⟨⟩
instance {R:Type}:CoeFun (eQ R 23) (fun _=>PV→(Bool→Int→Int→Int→Int→Int→Int→Int→Bool→Option R)→Option R):=⟨fun _=>fun p k=>(Ab.asAgg 9 p).bind fun _=>(Ab.asBool (cell p 0)).bind fun v0=>(Ab.asInt .i64 (cell p 1)).bind fun v1=>(Ab.asInt .i64 (cell p 2)).bind fun v2=>(Ab.asInt .i64 (cell p 3)).bind fun v3=>(Ab.asInt .i64 (cell p 4)).bind fun v4=>(Ab.asInt .i64 (cell p 5)).bind fun v5=>(Ab.asInt .i64 (cell p 6)).bind fun v6=>(Ab.asInt .i64 (cell p 7)).bind fun v7=>(Ab.asBool (cell p 8)).bind fun v8=>k v0 v1 v2 v3 v4 v5 v6 v7 v8⟩
abbrev Hl:eQ R 23:=⟨⟩
instance {R:Type}:CoeFun (eQ R 24) (fun _=>PV→(List PV→List PV→List PV→List PV→List PV→List PV→Int→Int→Int→Option R)→Option R):=⟨fun _=>fun p k=>(Ab.asAgg 9 p).bind fun _=>(aw 4 (cell p 0)).bind fun v0=>(aw 3 (cell p 1)).bind fun v1=>(aw 8 (cell p 2)).bind fun v2=>(aw 5 (cell p 3)).bind fun v3=>(aw 4 (cell p 4)).bind fun v4=>(aw 6 (cell p 5)).bind fun v5=>(Ab.asInt .i64 (cell p 6)).bind fun v6=>(Ab.asInt .i64 (cell p 7)).bind fun v7=>(Ab.asInt .i64 (cell p 8)).bind fun v8=>k v0 v1 v2 v3 v4 v5 v6 v7 v8⟩
abbrev xg:eQ R 24:=⟨⟩
instance {R:Type}:CoeFun (eQ R 25) (fun _=>PV→(Int→Int→Int→Option R)→Option R):=⟨fun _=>fun p k=>(Ab.asAgg 3 p).bind fun _=>(Ab.asInt .i64 (cell p 0)).bind fun v0=>(Ab.asInt .i64 (cell p 1)).bind fun v1=>(Ab.asInt .i64 (cell p 2)).bind fun v2=>k v0 v1 v2⟩
abbrev Uf:eQ R 25:=⟨⟩
instance {R:Type}:CoeFun (eQ R 26) (fun _=>PV→(List PV→Int→Int→Int→Option R)→Option R):=⟨fun _=>fun p k=>(Ab.asAgg 4 p).bind fun _=>(aw 6 (cell p 0)).bind fun v0=>(Ab.asInt .i64 (cell p 1)).bind fun v1=>(Ab.asInt .i64 (cell p 2)).bind fun v2=>(Ab.asInt .i64 (cell p 3)).bind fun v3=>k v0 v1 v2 v3⟩
abbrev Ug:eQ R 26:=⟨⟩
instance {R:Type}:CoeFun (eQ R 27) (fun _=>PV→(Int→Int→Int→Bool→Int→Int→Bool→Bool→Int→Bool→Option R)→Option R):=⟨fun _=>fun p k=>(Ab.asAgg 10 p).bind fun _=>(Ab.asInt .i64 (cell p 0)).bind fun v0=>(Ab.asInt .i64 (cell p 1)).bind fun v1=>(Ab.asInt .i64 (cell p 2)).bind fun v2=>(Ab.asBool (cell p 3)).bind fun v3=>(Ab.asInt .i64 (cell p 4)).bind fun v4=>(Ab.asInt .i64 (cell p 5)).bind fun v5=>(Ab.asBool (cell p 6)).bind fun v6=>(Ab.asBool (cell p 7)).bind fun v7=>(Ab.asInt .i64 (cell p 8)).bind fun v8=>(Ab.asBool (cell p 9)).bind fun v9=>k v0 v1 v2 v3 v4 v5 v6 v7 v8 v9⟩
abbrev PG:eQ R 27:=⟨⟩
instance {R:Type}:CoeFun (eQ R 28) (fun _=>PV→(Bytes→Int→Int→Int→Int→Int→Option R)→Option R):=⟨fun _=>fun p k=>(Ab.asAgg 6 p).bind fun _=>(bu (cell p 0)).bind fun v0=>(Ab.asInt .i64 (cell p 1)).bind fun v1=>(Ab.asInt .i64 (cell p 2)).bind fun v2=>(Ab.asInt .i64 (cell p 3)).bind fun v3=>(Ab.asInt .i64 (cell p 4)).bind fun v4=>(Ab.asInt .i64 (cell p 5)).bind fun v5=>k v0 v1 v2 v3 v4 v5⟩
abbrev acH:eQ R 28:=⟨⟩
instance {R:Type}:CoeFun (eQ R 29) (fun _=>PV→(List PV→List PV→List PV→List PV→List PV→List PV→Int→Int→Int→Int→Int→Int→Bool→Int→Int→Bool→Bool→Int→Bool→List PV→Int→Option R)→Option R):=⟨fun _=>fun p k=>(Ab.asAgg 21 p).bind fun _=>(aw 4 (cell p 0)).bind fun v0=>(aw 3 (cell p 1)).bind fun v1=>(aw 8 (cell p 2)).bind fun v2=>(aw 5 (cell p 3)).bind fun v3=>(aw 4 (cell p 4)).bind fun v4=>(aw 6 (cell p 5)).bind fun v5=>(Ab.asInt .i64 (cell p 6)).bind fun v6=>(Ab.asInt .i64 (cell p 7)).bind fun v7=>(Ab.asInt .i64 (cell p 8)).bind fun v8=>(Ab.asInt .i64 (cell p 9)).bind fun v9=>(Ab.asInt .i64 (cell p 10)).bind fun v10=>(Ab.asInt .i64 (cell p 11)).bind fun v11=>(Ab.asBool (cell p 12)).bind fun v12=>(Ab.asInt .i64 (cell p 13)).bind fun v13=>(Ab.asInt .i64 (cell p 14)).bind fun v14=>(Ab.asBool (cell p 15)).bind fun v15=>(Ab.asBool (cell p 16)).bind fun v16=>(Ab.asInt .i64 (cell p 17)).bind fun v17=>(Ab.asBool (cell p 18)).bind fun v18=>(aw 9 (cell p 19)).bind fun v19=>(Ab.asInt .i64 (cell p 20)).bind fun v20=>k v0 v1 v2 v3 v4 v5 v6 v7 v8 v9 v10 v11 v12 v13 v14 v15 v16 v17 v18 v19 v20⟩
abbrev qR:eQ R 29:=⟨⟩
instance {R:Type}:CoeFun (eQ R 30) (fun _=>PV→(List PV→Int→Int→Int→Int→Int→List PV→Option R)→Option R):=⟨fun _=>fun p k=>(Ab.asAgg 7 p).bind fun _=>(aw 9 (cell p 0)).bind fun v0=>(Ab.asInt .i64 (cell p 1)).bind fun v1=>(Ab.asInt .i64 (cell p 2)).bind fun v2=>(Ab.asInt .i64 (cell p 3)).bind fun v3=>(Ab.asInt .i64 (cell p 4)).bind fun v4=>(Ab.asInt .i64 (cell p 5)).bind fun v5=>(aw 4 (cell p 6)).bind fun v6=>k v0 v1 v2 v3 v4 v5 v6⟩
abbrev R4:eQ R 30:=⟨⟩
instance {R:Type}:CoeFun (eQ R 31) (fun _=>PV→(Int→Int→Int→Int→Int→Option R)→Option R):=⟨fun _=>fun p k=>(Ab.asAgg 5 p).bind fun _=>(Ab.asInt .i64 (cell p 0)).bind fun v0=>(Ab.asInt .i64 (cell p 1)).bind fun v1=>(Ab.asInt .i64 (cell p 2)).bind fun v2=>(Ab.asInt .i64 (cell p 3)).bind fun v3=>(Ab.asInt .i64 (cell p 4)).bind fun v4=>k v0 v1 v2 v3 v4⟩
abbrev R5:eQ R 31:=⟨⟩
instance:CoeFun (eQ Unit 32) (fun _=>Int→Int→Int→Bool→Int→Int→Bool→Bool→Int→Bool→PV):=⟨fun _=>fun v0 v1 v2 v3 v4 v5 v6 v7 v8 v9=>.agg [.int .i64 v0,.int .i64 v1,.int .i64 v2,.bool v3,.int .i64 v4,.int .i64 v5,.bool v6,.bool v7,.int .i64 v8,.bool v9]⟩
abbrev D4:eQ Unit 32:=⟨⟩
instance:CoeFun (eQ Unit 33) (fun _=>Int→Int→Int→Int→Int→PV):=⟨fun _=>fun v0 v1 v2 v3 v4=>.agg [.int .i64 v0,.int .i64 v1,.int .i64 v2,.int .i64 v3,.int .i64 v4]⟩
abbrev aeC:eQ Unit 33:=⟨⟩
instance:CoeFun (eQ Unit 34) (fun _=>List PV→List PV→List PV→List PV→List PV→List PV→List PV→List PV→List PV→List PV→Int→Int→Int→PV):=⟨fun _=>fun v0 v1 v2 v3 v4 v5 v6 v7 v8 v9 v10 v11 v12=>.agg [.rs 4 v0,.rs 3 v1,.rs 10 v2,.rs 3 v3,.rs 5 v4,.rs 4 v5,.rs 2 v6,.rs 3 v7,.rs 4 v8,.rs 6 v9,.int .i64 v10,.int .i64 v11,.int .i64 v12]⟩
abbrev Kp:eQ Unit 34:=⟨⟩
instance:CoeFun (eQ Unit 35) (fun _=>List PV→List PV→List PV→List PV→List PV→List PV→Int→Int→Int→PV):=⟨fun _=>fun v0 v1 v2 v3 v4 v5 v6 v7 v8=>.agg [.rs 4 v0,.rs 3 v1,.rs 8 v2,.rs 5 v3,.rs 4 v4,.rs 6 v5,.int .i64 v6,.int .i64 v7,.int .i64 v8]⟩
abbrev oC:eQ Unit 35:=⟨⟩
instance:CoeFun (eQ Unit 36) (fun _=>List PV→List PV→List PV→List PV→List PV→List PV→Int→Int→Int→Int→Int→Int→Bool→Int→Int→Bool→Bool→Int→Bool→List PV→Int→PV):=⟨fun _=>fun v0 v1 v2 v3 v4 v5 v6 v7 v8 v9 v10 v11 v12 v13 v14 v15 v16 v17 v18 v19 v20=>.agg [.rs 4 v0,.rs 3 v1,.rs 8 v2,.rs 5 v3,.rs 4 v4,.rs 6 v5,.int .i64 v6,.int .i64 v7,.int .i64 v8,.int .i64 v9,.int .i64 v10,.int .i64 v11,.bool v12,.int .i64 v13,.int .i64 v14,.bool v15,.bool v16,.int .i64 v17,.bool v18,.rs 9 v19,.int .i64 v20]⟩
abbrev kN:eQ Unit 36:=⟨⟩
instance:CoeFun (eQ Unit 37) (fun _=>List PV→Int→Int→Int→Int→Int→List PV→PV):=⟨fun _=>fun v0 v1 v2 v3 v4 v5 v6=>.agg [.rs 9 v0,.int .i64 v1,.int .i64 v2,.int .i64 v3,.int .i64 v4,.int .i64 v5,.rs 4 v6]⟩
abbrev MT:eQ Unit 37:=⟨⟩
instance {R:Type}:CoeFun (eQ R 38) (fun _=>PV→Nat→(Int→Option R)→Option R):=⟨fun _=>fun p j k=>(Ab.asInt .i64 (cell p j)).bind k⟩
abbrev aJ:eQ R 38:=⟨⟩
instance {R:Type}:CoeFun (eQ R 39) (fun _=>PV→Nat→(Bool→Option R)→Option R):=⟨fun _=>fun p j k=>(Ab.asBool (cell p j)).bind k⟩
abbrev kO:eQ R 39:=⟨⟩
instance {R:Type}:CoeFun (eQ R 40) (fun _=>Nat→PV→Nat→(List PV→Option R)→Option R):=⟨fun _=>fun s p j k=>(aw s (cell p j)).bind k⟩
abbrev gS:eQ R 40:=⟨⟩
instance {R:Type}:CoeFun (eQ R 41) (fun _=>PV→(Int→Option R)→Option R):=⟨fun _=>fun p k=>(Ab.asInt .i64 p).bind k⟩
abbrev dA:eQ R 41:=⟨⟩
instance {R:Type}:CoeFun (eQ R 42) (fun _=>PV→(Bool→Option R)→Option R):=⟨fun _=>fun p k=>(Ab.asBool p).bind k⟩
abbrev mcb:eQ R 42:=⟨⟩
instance {R:Type}:CoeFun (eQ R 43) (fun _=>Nat→PV→(Unit→Option R)→Option R):=⟨fun _=>fun n p k=>(Ab.asAgg n p).bind k⟩
abbrev lV:eQ R 43:=⟨⟩
instance {R:Type}:CoeFun (eQ R 44) (fun _=>List PV→Nat→(Int→Option R)→Option R):=⟨fun _=>fun p j k=>(Ab.asInt .i64 (p.getD j .bad)).bind k⟩
abbrev mcG:eQ R 44:=⟨⟩
instance {R:Type}:CoeFun (eQ R 45) (fun _=>(List PV→Option PV)→List PV→(Int→Option R)→Option R):=⟨fun _=>fun f l k=>(f l).bind fun r=>(Ab.asInt .i64 r).bind k⟩
abbrev zz:eQ R 45:=⟨⟩
instance {R:Type}:CoeFun (eQ R 46) (fun _=>(List PV→Option PV)→List PV→(Bool→Option R)→Option R):=⟨fun _=>fun f l k=>(f l).bind fun r=>(Ab.asBool r).bind k⟩
abbrev gL:eQ R 46:=⟨⟩
instance {R:Type}:CoeFun (eQ R 47) (fun _=>List PV→Int→(PV→Option R)→Option R):=⟨fun _=>fun l i k=>(fj l i).bind k⟩
abbrev cM:eQ R 47:=⟨⟩
instance {R:Type}:CoeFun (eQ R 48) (fun _=>(List PV→Option PV)→List PV→(PV→Option R)→Option R):=⟨fun _=>fun f l k=>(f l).bind k⟩
abbrev eY:eQ R 48:=⟨⟩
instance {R:Type}:CoeFun (eQ R 49) (fun _=>Bool→Option Bool→(Bool→Option R)→Option R):=⟨fun _=>fun c x k=>(bif c then some true else x).bind k⟩
abbrev dB:eQ R 49:=⟨⟩
instance {R:Type}:CoeFun (eQ R 50) (fun _=>Bool→Option Bool→(Bool→Option R)→Option R):=⟨fun _=>fun c x k=>(bif c then x else some false).bind k⟩
abbrev eO:eQ R 50:=⟨⟩
instance {R:Type}:CoeFun (eQ R 51) (fun _=>List PV→Int→(PV→Option R)→Option R):=⟨fun _=>fun l i k=>if an i l.length then l[i.toNat]?.bind k else none⟩
abbrev Er:eQ R 51:=⟨⟩
instance:CoeFun (eQ Unit 52) (fun _=>Int→Int):=⟨fun _=>IntKind.i64.wrap⟩
abbrev az:eQ Unit 52:=⟨⟩
instance:CoeFun PV (fun _=>Nat→PV):=⟨cell⟩
instance:Coe Int PV:=⟨.int .i64⟩
def qO:Bytes:=[114,117,110,32]
def jl:Bytes:=[32,111,102,32,100,97,121,32]
def l6:Bytes:=[32,105,115,32,115,99,104,101,100,117,108,101,100]
def rr:Bytes:=[44,32,115,116,97,114,116,32]
def dN:Bytes:=[32,105,115,32,97,100,100,101,100,32,98,121,32,97,110,32,101,120,99,101,112,116,105,111,110]
def kC:Bytes:=[32,105,115,32,97,100,100,105,116,105,111,110,97,108]
def eK:Bytes:=[100,101,112,97,114,116,115,32,97,116,32]
def fL:Bytes:=[44,32,97,114,114,105,118,101,115,32,97,116,32]
def jI:Bytes:=[32,115,101,99,111,110,100,115,32,108,97,116,101]
def iH:Bytes:=[32,115,101,99,111,110,100,115,32,101,97,114,108,121]
def vQ:Bytes:=[98,111,97,114,100,105,110,103,32,97,116,32]
def ud:Bytes:=[97,108,105,103,104,116,105,110,103,32,97,116,32]
def bU:Bytes:=[32,115,101,99,111,110,100,115,32,102,111,114,32,116,104,101,32,99,104,97,110,103,101,32,97,116,32]
def yf:Bytes:=[32,97,114,101,32,110,101,101,100,101,100]
def sK:Bytes:=[115,116,97,121,115,32,111,110,32,98,111,97,114,100]
def fA:Bytes:=[103,117,97,114,97,110,116,101,101,100,32,99,104,97,110,103,101,32,119,105,116,104,32]
def vd:Bytes:=[32,115,101,99,111,110,100,115]
def Ek:Bytes:=[119,97,108,107,115,32]
def yg:Bytes:=[116,105,99,107,101,116,32]
def QQ:Bytes:=[32,102,111,114,32]
def LV:Bytes:=[108,101,103,32]
def JK:Bytes:=[100,97,105,108,121]
def F9:Bytes:=[115,105,110,103,108,101]
def j1:Bytes:=[108,101,103,32,49,58,32,114,117,110,32,120,32,111,102,32,100,97,121,32,48,32,105,115,32,115,99,104,101,100,117,108,101,100]
def dI:Bytes:=[108,101,103,32,49,58,32,100,101,112,97,114,116,115,32,97,116,32,49,54,48,44,32,97,114,114,105,118,101,115,32,97,116,32,50,48,48,44,32,54,48,32,115,101,99,111,110,100,115,32,108,97,116,101]
def JJ:Bytes:=[48,49,50,51,52,53,54,55,56,57]
abbrev TY0:=List PV×Int×Int×List PV×List PV×List PV×List PV×List PV×List PV×Int×Int×Int×Int×Int×Int×List (PV×PV)×List (PV×PV)×List (PV×PV)×Unit
abbrev TY1:=List PV×List PV×Int×Int×Int×Unit
abbrev TY2:=PV×List PV×Int×Int×List PV×Int×PV×PV×PV×List PV×Unit
abbrev TY3:=Int×PV×List PV×Int×Int×Int×List PV×PV×PV×PV×List PV×Unit
abbrev TY4:=Int×PV×Int×Int×Int×Int×PV×PV×PV×List PV×List PV×Unit
abbrev TY5:=Int×PV×Int×List PV×List PV×Unit
abbrev TY6:=Bool×List PV×Int×Int×List (PV×PV)×Unit
abbrev TY7:=Int×Bool×List PV×Int×Int×List (PV×PV)×Unit
abbrev TY8:=List PV×List PV×Int×Int×List PV×Unit
abbrev TY9:=List PV×List PV×Int×Int×Int×List PV×Int×Int×List PV×Unit
abbrev ahD:=Int×List PV×Int×Int×List (PV×PV)×Unit
abbrev abb:=List PV×Int×Int×List PV×List PV×List PV×List PV×List PV×List PV×Int×Int×Int×Int×Int×Int×List (PV×PV)×Unit
abbrev ahE:=List PV×Int×Int×Int×Int×Int×Unit
abbrev Y0:=List PV×Int×Int×List (PV×PV)×Unit
abbrev aeD:=List PV×Int×Bool×Int×List PV×Unit
abbrev aje:=List PV×Int×Bool×Int×Int×List PV×List PV×Unit
abbrev adT:=Int×List PV×List PV×Int×List PV×Unit
abbrev ajf:=Int×List PV×List PV×Int×Int×List PV×Unit
abbrev ajg:=Int×List PV×List PV×List PV×List PV×List PV×List PV×Int×Int×Int×Unit
abbrev ajh:=List PV×Int×Int×Bytes×Int×Int×Int×Int×Int×Int×Int×Unit
abbrev adB:=Int×Int×Int×List PV×Int×Int×Int×List PV×List PV×List PV×Unit
abbrev aji:=Int×Int×Int×Int×Int×List PV×Int×Int×Int×List PV×List PV×List PV×Unit
abbrev adC:=Int×Int×List PV×Int×Int×Int×List PV×List PV×List PV×Unit
abbrev ajj:=List PV×Int×List PV×Int×Int×Int×List PV×List PV×Unit
abbrev ajk:=Int×List PV×Int×Int×List PV×List PV×List PV×List PV×List PV×List PV×Int×Int×Int×Unit
abbrev ajl:=Bool×List PV×Int×Int×List PV×List PV×List PV×List PV×List PV×List PV×Int×Int×Int×List PV×Unit
abbrev ajm:=Int×List PV×Int×Int×List PV×List PV×List PV×List PV×List PV×List PV×Int×Int×Int×Int×Int×Int×Bool×Int×Int×Bool×Bool×Int×Bool×List PV×PV×PV×PV×PV×PV×PV×PV×PV×PV×Unit
abbrev ajn:=Bool×List PV×Int×Int×PV×PV×PV×PV×PV×PV×PV×PV×PV×PV×PV×PV×PV×PV×PV×PV×PV×PV×Unit
abbrev ajo:=Int×List PV×Int×Int×List PV×List PV×List PV×List PV×List PV×List PV×Int×Int×Int×Int×Int×Int×Bool×Int×Int×Bool×Bool×Int×Bool×List PV×Int×PV×PV×PV×PV×PV×PV×PV×PV×PV×Unit
abbrev ajp:=List PV×List PV×List PV×List PV×List PV×List PV×List PV×Int×Int×Int×Int×Int×Int×Bool×Int×Int×Bool×Bool×Int×Bool×List PV×Int×Unit
abbrev ajq:=Int×Int×Int×List PV×Int×Int×PV×PV×PV×PV×PV×PV×PV×PV×PV×PV×Unit
abbrev ahF:=Int×Int×List PV×Int×Int×PV×PV×PV×PV×List PV×Unit
abbrev ajr:=Int×Int×Int×Int×List PV×Int×Int×PV×PV×PV×PV×List PV×Unit
abbrev ahG:=Int×List PV×Int×Int×List PV×Unit
abbrev ajs:=Bool×List PV×Int×Int×Bool×Int×Int×Int×Int×Int×Int×Int×Bool×Bool×Int×Int×Int×Int×Int×Int×Int×Bool×Unit
abbrev ajt:=PV×List PV×Int×Int×Bool×Int×Int×Int×Int×Int×Int×Int×Bool×Unit
def qy(L:bD)(p0 p1:PV):Option PV:=dA p0 fun a=>dA p1 fun b=>if(a !=a)then if(b !=b)then some (PV.int .i64 0)else some (PV.int .i64 (-1))else if(b !=b)then some (PV.int .i64 1)else if decide (a<b)then some (PV.int .i64 (-1))else if decide (a>b)then some (PV.int .i64 1)else some (PV.int .i64 0)
def eW:List PV→Option PV|[p0,p1]=>qy bk p0 p1|_=>none
def eC:iT (Int×List PV×Int×Int×Unit):=fun(a,b,c,d,_)=>fun e=>if decide (d<c)then cM b d fun f=>aJ f 0 fun f=>if(f !=a)then some (f)else e (a,b,c,az (d+1),())
else some (a)
def AQ(L:bD)(p0:PV):Option PV:=(aw 1 p0).bind fun a=>L.run eC (0,a,(↑a.length:Int),0,())
def rB:List PV→Option PV|[p0]=>AQ bk p0|_=>none
def mS(L:bD)(p0 p1:PV):Option PV:=ahC p0 fun a b c _=>ahC p1 fun d e f _=>zz eW [a,d] fun d=>zz eW [b,e] fun e=>zz eW [c,f] fun f=>zz rB [.rs 1 [d,e,f]] fun f=>some (f)
def cd:List PV→Option PV|[p0,p1]=>mS bk p0 p1|_=>none
def wg(L:bD)(p0:PV):Option PV:=dA p0 fun a=>eO (decide (0≤a)) (some (decide (a≤36524))) fun a=>some (PV.bool a)
def eD:List PV→Option PV|[p0]=>wg bk p0|_=>none
def wh(L:bD)(p0:PV):Option PV:=dA p0 fun a=>gL eD [a] fun b=>if(!b)then some (PV.aO [.int .i64 0,.bool false])else some (PV.aO [((az (a+5)).tmod 7),.bool true])
def oz:List PV→Option PV|[p0]=>wh bk p0|_=>none
def mU(L:bD):iT (ajq):=fun(a,b,c,d,e,f,g,h,i,j,k,l,m,n,o,p,_)=>fun q=>if decide (f<e)then cM d f fun r=>aJ r 0 fun s=>dB (s !=a) (aJ r 1 fun s=>some (s !=b)) fun s=>if s then q (a,b,c,d,e,az (f+1),g,h,i,j,k,l,m,n,o,p,())else kO r 2 fun s=>if s then some (PV.int .i64 2)else some (PV.int .i64 3)
else dB (c==3) (dA o fun s=>some (decide (b<s))) fun s=>dB s (dA p fun s=>some (decide (b>s))) fun s=>if s then some (c)else YY oz [b] fun s _=>if an s 7∧0<1 then[g,h,i,j,k,l,m,n,o,p][1+s.toNat*1]?.bind fun s=>mcb s fun s=>if s then some (PV.int .i64 1)else some (PV.int .i64 4)else none
def qz(L:bD)(p0 p1 p2 p3:PV):Option PV:=(aw 10 p0).bind fun a=>(aw 3 p1).bind fun b=>dA p2 fun c=>dA p3 fun d=>dB (decide (c<0)) (some (decide (c≥(↑a.length:Int)))) fun e=>dB e (gL eD [d] fun e=>some !e) fun e=>if e then some (PV.int .i64 0)else cM a c fun e=>L.run (mU L) (c,d,5,b,(↑b.length:Int),0,e 0,e 1,e 2,e 3,e 4,e 5,e 6,e 7,e 8,e 9,())
def gH:List PV→Option PV|[p0,p1,p2,p3]=>qz bk p0 p1 p2 p3|_=>none
def qA(L:bD)(p0 p1 p2 p3:PV):Option PV:=(aw 10 p0).bind fun a=>(aw 3 p1).bind fun b=>dA p2 fun c=>dA p3 fun d=>zz gH [.rs 10 a,.rs 3 b,c,d] fun d=>dB (d==1) (some (d==2)) fun d=>some (PV.bool d)
def kc:List PV→Option PV|[p0,p1,p2,p3]=>qA bk p0 p1 p2 p3|_=>none
def ov(L:bD)(p0:PV):Option PV:=dA p0 fun a=>dB (decide (a< -2305843009213693952)) (some (decide (a>2305843009213693952))) fun a=>some (PV.bool a)
def dX:List PV→Option PV|[p0]=>ov bk p0|_=>none
def s8(L:bD)(p0 p1 p2:PV):Option PV:=dA p0 fun a=>dA p1 fun b=>dA p2 fun c=>eO (az (az (az (a.fdiv (2^min (Int.toNat 32) IntKind.i64.bits)-b.fdiv (2^min (Int.toNat 32) IntKind.i64.bits))+c.fdiv (2^min (Int.toNat 32) IntKind.i64.bits))+(az (az (az (↑(BitVec.ofInt IntKind.i64.bits a&&&BitVec.ofInt IntKind.i64.bits 4294967295).toNat:Int)-az (↑(BitVec.ofInt IntKind.i64.bits b&&&BitVec.ofInt IntKind.i64.bits 4294967295).toNat:Int))+az (↑(BitVec.ofInt IntKind.i64.bits c&&&BitVec.ofInt IntKind.i64.bits 4294967295).toNat:Int))).fdiv (2^min (Int.toNat 32) IntKind.i64.bits))==0) (some (decide (az (↑(BitVec.ofInt IntKind.i64.bits (az (az (az (az (a.fdiv (2^min (Int.toNat 32) IntKind.i64.bits)-b.fdiv (2^min (Int.toNat 32) IntKind.i64.bits))+c.fdiv (2^min (Int.toNat 32) IntKind.i64.bits))+(az (az (az (↑(BitVec.ofInt IntKind.i64.bits a&&&BitVec.ofInt IntKind.i64.bits 4294967295).toNat:Int)-az (↑(BitVec.ofInt IntKind.i64.bits b&&&BitVec.ofInt IntKind.i64.bits 4294967295).toNat:Int))+az (↑(BitVec.ofInt IntKind.i64.bits c&&&BitVec.ofInt IntKind.i64.bits 4294967295).toNat:Int))).fdiv (2^min (Int.toNat 32) IntKind.i64.bits))*2^min (Int.toNat 32) IntKind.i64.bits))|||BitVec.ofInt IntKind.i64.bits (az (↑(BitVec.ofInt IntKind.i64.bits (az (az (az (↑(BitVec.ofInt IntKind.i64.bits a&&&BitVec.ofInt IntKind.i64.bits 4294967295).toNat:Int)-az (↑(BitVec.ofInt IntKind.i64.bits b&&&BitVec.ofInt IntKind.i64.bits 4294967295).toNat:Int))+az (↑(BitVec.ofInt IntKind.i64.bits c&&&BitVec.ofInt IntKind.i64.bits 4294967295).toNat:Int)))&&&BitVec.ofInt IntKind.i64.bits 4294967295).toNat:Int))).toNat:Int)≤172800))) fun d=>some (PV.aO [(az (↑(BitVec.ofInt IntKind.i64.bits (az (az (az (az (a.fdiv (2^min (Int.toNat 32) IntKind.i64.bits)-b.fdiv (2^min (Int.toNat 32) IntKind.i64.bits))+c.fdiv (2^min (Int.toNat 32) IntKind.i64.bits))+(az (az (az (↑(BitVec.ofInt IntKind.i64.bits a&&&BitVec.ofInt IntKind.i64.bits 4294967295).toNat:Int)-az (↑(BitVec.ofInt IntKind.i64.bits b&&&BitVec.ofInt IntKind.i64.bits 4294967295).toNat:Int))+az (↑(BitVec.ofInt IntKind.i64.bits c&&&BitVec.ofInt IntKind.i64.bits 4294967295).toNat:Int))).fdiv (2^min (Int.toNat 32) IntKind.i64.bits))*2^min (Int.toNat 32) IntKind.i64.bits))|||BitVec.ofInt IntKind.i64.bits (az (↑(BitVec.ofInt IntKind.i64.bits (az (az (az (↑(BitVec.ofInt IntKind.i64.bits a&&&BitVec.ofInt IntKind.i64.bits 4294967295).toNat:Int)-az (↑(BitVec.ofInt IntKind.i64.bits b&&&BitVec.ofInt IntKind.i64.bits 4294967295).toNat:Int))+az (↑(BitVec.ofInt IntKind.i64.bits c&&&BitVec.ofInt IntKind.i64.bits 4294967295).toNat:Int)))&&&BitVec.ofInt IntKind.i64.bits 4294967295).toNat:Int))).toNat:Int)),.bool d])
def ly:List PV→Option PV|[p0,p1,p2]=>s8 bk p0 p1 p2|_=>none
def qB(L:bD)(p0 p1 p2:PV):Option PV:=dA p0 fun a=>dA p1 fun b=>dA p2 fun c=>gL dX [a] fun d=>dB d (gL dX [b] fun d=>some d) fun d=>dB d (gL dX [c] fun d=>some d) fun d=>if d then YY ly [a,b,c] fun d e=>some (PV.aO [d,.bool e])else eO (decide (az (az (a-b)+c)≥0)) (some (decide (az (az (a-b)+c)≤172800))) fun e=>some (PV.aO [(az (az (a-b)+c)),.bool e])
def gJ:List PV→Option PV|[p0,p1,p2]=>qB bk p0 p1 p2|_=>none
def dx:iT (Int×Int×Int×Int×List PV×Unit):=fun(a,b,c,d,e,_)=>fun f=>if decide (d<c)then Er e d fun g=>aJ g 1 fun g=>YY gJ [g,b,a] fun g h=>Er e d fun i=>if an d (e.set d.toNat (PV.agg (i 0::PV.int .i64 g::over [] [i 2,i 3,i 4]))).length then(e.set d.toNat (PV.agg (i 0::PV.int .i64 g::over [] [i 2,i 3,i 4])))[d.toNat]?.bind fun j=>aJ j 2 fun j=>YY gJ [j,b,a] fun j k=>if an d (e.set d.toNat (PV.agg (i 0::PV.int .i64 g::over [] [i 2,i 3,i 4]))).length then(e.set d.toNat (PV.agg (i 0::PV.int .i64 g::over [] [i 2,i 3,i 4])))[d.toNat]?.bind fun l=>dB (!h) (some !k) fun k=>if k then some (PV.aO [.rs 5 [],.int .i64 10])else f (a,b,c,az (d+1),(e.set d.toNat (PV.agg (i 0::PV.int .i64 g::over [] [i 2,i 3,i 4]))).set d.toNat (PV.agg (l 0::l 1::PV.int .i64 j::over [] [l 3,l 4])),())else none else none
else some (PV.aO [.rs 5 e,.int .i64 0])
def mA(L:bD)(p0 p1:PV):Option PV:=abu p0 fun _ _ _ _ a=>dA p1 fun b=>if((↑a.length:Int)==0)then some (PV.aO [.rs 5 [],.int .i64 16])else cM a 0 fun c=>aJ c 2 fun c=>if 0≤(↑a.length:Int)∧(↑a.length:Int)≤(↑a.length:Int)∧(↑a.length:Int).toNat*32≤ae∧0<32∧0<5 then L.run dx (b,c,(↑(List.take (List.replicate (↑a.length:Int).toNat (PV.agg [.int .i64 0,.int .i64 0,.int .i64 0,.bool false,.bool false])).length a++List.drop a.length (List.replicate (↑a.length:Int).toNat (PV.agg [.int .i64 0,.int .i64 0,.int .i64 0,.bool false,.bool false]))).length:Int),0,List.take (List.replicate (↑a.length:Int).toNat (PV.agg [.int .i64 0,.int .i64 0,.int .i64 0,.bool false,.bool false])).length a++List.drop a.length (List.replicate (↑a.length:Int).toNat (PV.agg [.int .i64 0,.int .i64 0,.int .i64 0,.bool false,.bool false])),())else none
def df:List PV→Option PV|[p0,p1]=>mA bk p0 p1|_=>none
def qC(L:bD)(p0:PV):Option PV:=Ud p0 fun _ a b c=>eO (decide (a≥0)) (some (decide (a<b))) fun a=>eO a (some (decide (b≤172800))) fun a=>eO a (some (decide (c≥1))) fun a=>eO a (some (decide (c≤86400))) fun a=>some (PV.bool a)
def gK:List PV→Option PV|[p0]=>qC bk p0|_=>none
def dQ(BI:ahF→Option PV):iT (ajr):=fun(a,b,c,d,e,f,g,h,i,j,k,l,_)=>fun m=>eO (decide (b>0)) (if an (az (b-1)) l.length then l[(az (b-1)).toNat]?.bind fun n=>aJ n 0 fun n=>some (decide (n>a))else none) fun n=>if n then if an (az (b-1)) l.length then l[(az (b-1)).toNat]?.bind fun n=>aJ n 0 fun n=>Er l b fun _=>m (a,az (b-1),c,d,e,f,g,h,i,j,k,l.set b.toNat (PV.int .i64 n),())else none else Er l b fun _=>dA k fun n=>BI (az (c+n),d,e,f,g,h,i,j,k,l.set b.toNat (PV.int .i64 a),())
def fG(L:bD)(T8:ahG→Option PV):iT (ahF):=fun(a,b,c,d,e,f,g,h,i,j,_)=>fun k=>dA h fun l=>if decide (a<l)then if(j++[PV.int .i64 a]).length*8≤ae∧0<8 then L.run (dQ k) (a,(↑j.length:Int),a,b,c,d,e,f,g,h,i,j++[PV.int .i64 a],())else none else T8 (b,c,d,az (e+1),j,())
def jy(L:bD):iT (ahG):=fun(a,b,c,d,e,_)=>fun f=>if decide (d<c)then cM b d fun g=>aJ g 0 fun h=>if(h !=a)then f (a,b,c,az (d+1),e,())else gL gK [oB g] fun h=>if(!h)then f (a,b,c,az (d+1),e,())else aJ g 1 fun h=>L.run (fG L f) (h,a,b,c,d,g 0,g 1,g 2,g 3,e,())
else some (PV.rs 1 e)
def lU(L:bD)(p0 p1:PV):Option PV:=(aw 4 p0).bind fun a=>dA p1 fun b=>L.run (jy L) (b,a,(↑a.length:Int),0,[],())
def gk:List PV→Option PV|[p0,p1]=>lU bk p0 p1|_=>none
def jP:iT (Int×List PV×Int×Int×Unit):=fun(a,b,c,d,_)=>fun e=>if decide (d<c)then cM b d fun f=>aJ f 0 fun f=>if(f==a)then some (PV.bool true)else e (a,b,c,az (d+1),())
else some (PV.bool false)
def mT(L:bD)(p0 p1:PV):Option PV:=(aw 4 p0).bind fun a=>dA p1 fun b=>L.run jP (b,a,(↑a.length:Int),0,())
def dG:List PV→Option PV|[p0,p1]=>mT bk p0 p1|_=>none
def qm(L:bD)(p0 p1 p2:PV):Option PV:=Ue p0 fun _ _ a b c d _ _ _ _ _ _ _=>cD 9 p1 (abv p2 fun e _ _ _ _ _ _ _=>if(e== -1)then some (PV.aO [.agg [.int .i64 (-1),.int .i64 (-1),.rs 0 []],.bool true])else some (PV.aO [.agg [.int .i64 0,.int .i64 0,.rs 0 []],.bool false])) fun e f=>abv p2 fun g h i j _ _ _ _=>if(g== -1)then some (PV.aO [.agg [.int .i64 (-1),.int .i64 (-1),.rs 0 []],.bool true])else(Ab.asInt .i64 (b9 (PV.str j) (PV.int .i64 0) (e.zip f))).bind fun k=>dB (!th (PV.str j) (e.zip f)) (some (k !=g)) fun j=>dB j (cM c k fun j=>aJ j 2 fun j=>gL kc [.rs 10 a,.rs 3 b,j,h] fun j=>some !j) fun j=>if j then some (PV.aO [.agg [.int .i64 0,.int .i64 0,.rs 0 []],.bool false])else gL dG [.rs 4 d,k] fun j=>if(!j)then cM c k fun j=>gS 5 j 4 fun j=>some (PV.aO [.agg [k,.int .i64 (-1),.rs 5 j],.bool (i==0)])else eY gk [.rs 4 d,k] fun j=>(aw 1 j).bind fun j=>dB (decide (i<0)) (some (decide (i≥(↑j.length:Int)))) fun d=>if d then some (PV.aO [.agg [.int .i64 0,.int .i64 0,.rs 0 []],.bool false])else cM c k fun d=>cM j i fun c=>aJ c 0 fun c=>Ub df [PE d,c] fun c d=>cM j i fun j=>aJ j 0 fun j=>some (PV.aO [.agg [k,j,.rs 5 c],.bool (d==0)])
def jT:List PV→Option PV|[p0,p1,p2]=>qm bk p0 p1 p2|_=>none
def jj:iT (List PV×List PV×Int×Int×Unit):=fun(a,b,c,d,_)=>fun e=>if decide (d<c)then cM a d fun f=>cM b d fun g=>if ahB [f 0,f 1,f 2,f 3]=true∧ahB [g 0,g 1,g 2,g 3]then if(!cu [f 0,f 1,f 2,f 3] [g 0,g 1,g 2,g 3])then some (PV.bool false)else e (a,b,c,az (d+1),())else none
else some (PV.bool true)
def lQ(L:bD)(p0 p1:PV):Option PV:=(aw 4 p0).bind fun a=>(aw 4 p1).bind fun b=>if((↑a.length:Int) !=(↑b.length:Int))then some (PV.bool false)else L.run jj (a,b,(↑a.length:Int),0,())
def gh:List PV→Option PV|[p0,p1]=>lQ bk p0 p1|_=>none
def lP(L:bD)(p0 p1 p2:PV):Option PV:=lV 3 p0 fun _=>aJ p0 0 fun _=>aJ p0 1 fun _=>gS 5 p0 2 fun a=>abv p1 fun _ b _ _ _ _ _ c=>dA p2 fun d=>dB (decide (d≥(↑a.length:Int))) (cM a d fun e=>aJ e 0 fun e=>cM c d fun f=>aJ f 0 fun f=>some (e !=f)) fun f=>if f then some (PV.int .i64 0)else cM c d fun f=>aJ f 2 fun f=>cM a d fun d=>aJ d 2 fun d=>some ((az (f-az (az (b*86400)+d))))
def gg:List PV→Option PV|[p0,p1,p2]=>lP bk p0 p1 p2|_=>none
def oR:iT (Y0):=fun(a,b,c,d,_)=>fun e=>if decide (c<b)then cM a c fun f=>(bu (f 0)).bind fun f=>e (a,b,az (c+1),dh (PV.str f) (PV.int .i64 c) d,())
else some (PV.rm 9 (List.map (fun x=>x.fst) d) (List.map (fun x=>x.snd) d))
def ua(L:bD)(p0:PV):Option PV:=Ue p0 fun _ _ _ _ a _ _ _ _ _ _ _ _=>L.run oR (a,(↑a.length:Int),0,[],())
def mi:List PV→Option PV|[p0]=>ua bk p0|_=>none
def fx:iT (ajs):=fun(a,b,c,d,e,f,g,h,i,j,k,l,m,n,o,p,q,r,s,t,u,v,_)=>fun w=>if decide (d<c)then cM b d fun x=>kO x 4 fun y=>eO (y==a) (aJ x 0 fun y=>some (y==f)) fun y=>eO y (aJ x 1 fun y=>some (y==h)) fun y=>eO y (aJ x 2 fun y=>some (y==o)) fun y=>eO y (aJ x 3 fun y=>some (y==p)) fun y=>if y then some (d)else w (a,b,c,az (d+1),e,f,g,h,i,j,k,l,m,n,o,p,q,r,s,t,u,v,())
else some (PV.int .i64 0)
def qP(L:bD)(p0 p1 p2 p3:PV):Option PV:=D8 34 p0 (Hl p1 fun _ _ _ _ _ _ _ _ _=>Hl p2 fun _ _ _ _ _ _ _ _ _=>mcb p3 fun _=>none) fun a=>gS 4 a 0 fun _=>gS 3 a 1 fun _=>gS 10 a 2 fun _=>gS 3 a 3 fun _=>gS 5 a 4 fun _=>gS 4 a 5 fun _=>gS 2 a 6 fun _=>gS 3 a 7 fun _=>gS 4 a 8 fun _=>gS 6 a 9 fun _=>aJ a 10 fun _=>aJ a 11 fun _=>aJ a 12 fun _=>gS 4 a 13 fun _=>gS 3 a 14 fun _=>gS 8 a 15 fun _=>gS 5 a 16 fun b=>gS 4 a 17 fun _=>gS 6 a 18 fun _=>aJ a 19 fun _=>aJ a 20 fun _=>aJ a 21 fun _=>aJ a 22 fun _=>aJ a 23 fun _=>aJ a 24 fun _=>kO a 25 fun _=>aJ a 26 fun _=>aJ a 27 fun _=>kO a 28 fun _=>kO a 29 fun _=>aJ a 30 fun _=>kO a 31 fun _=>gS 9 a 32 fun _=>gS 5 a 33 fun _=>Hl p1 fun a c d e f g h i j=>Hl p2 fun k l m n o p q r s=>mcb p3 fun t=>L.run fx (t,b,(↑b.length:Int),0,a,c,d,e,f,g,h,i,j,k,l,m,n,o,p,q,r,s,())
def gd:List PV→Option PV|[p0,p1,p2,p3]=>qP bk p0 p1 p2 p3|_=>none
def fy:iT (ajt):=fun(a,b,c,d,e,f,g,h,i,j,k,l,m,_)=>fun n=>if decide (d<c)then cM b d fun o=>aJ o 0 fun p=>eO (p==i) (aJ o 1 fun p=>some (p==j)) fun p=>eO p (aJ o 2 fun p=>some (p==az (l-k))) fun p=>eO p (kO o 3 fun p=>dB p (kO a 28 fun p=>some !p) fun p=>some p) fun p=>if p then some (d)else n (ahy a,b,c,az (d+1),e,f,g,h,i,j,k,l,m,())
else some (PV.int .i64 0)
def qQ(L:bD)(p0 p1:PV):Option PV:=D8 34 p0 (Hl p1 fun _ _ _ _ _ _ _ _ _=>none) fun a=>gS 4 a 0 fun b=>gS 3 a 1 fun c=>gS 10 a 2 fun d=>gS 3 a 3 fun e=>gS 5 a 4 fun f=>gS 4 a 5 fun g=>gS 2 a 6 fun h=>gS 3 a 7 fun i=>gS 4 a 8 fun j=>gS 6 a 9 fun k=>aJ a 10 fun l=>aJ a 11 fun m=>aJ a 12 fun n=>gS 4 a 13 fun o=>gS 3 a 14 fun p=>gS 8 a 15 fun q=>gS 5 a 16 fun r=>gS 4 a 17 fun s=>gS 6 a 18 fun t=>aJ a 19 fun u=>aJ a 20 fun v=>aJ a 21 fun w=>aJ a 22 fun x=>aJ a 23 fun y=>aJ a 24 fun z=>kO a 25 fun A=>aJ a 26 fun B=>aJ a 27 fun C=>kO a 28 fun D=>kO a 29 fun E=>aJ a 30 fun F=>kO a 31 fun G=>gS 9 a 32 fun H=>gS 5 a 33 fun a=>Hl p1 fun I J K M N O P Q R=>L.run fy (PV.agg [.rs 4 b,.rs 3 c,.rs 10 d,.rs 3 e,.rs 5 f,.rs 4 g,.rs 2 h,.rs 3 i,.rs 4 j,.rs 6 k,.int .i64 l,.int .i64 m,.int .i64 n,.rs 4 o,.rs 3 p,.rs 8 q,.rs 5 r,.rs 4 s,.rs 6 t,.int .i64 u,.int .i64 v,.int .i64 w,.int .i64 x,.int .i64 y,.int .i64 z,.bool A,.int .i64 B,.int .i64 C,.bool D,.bool E,.int .i64 F,.bool G,.rs 9 H,.rs 5 a],s,(↑s.length:Int),0,I,J,K,M,N,O,P,Q,R,())
def gf:List PV→Option PV|[p0,p1]=>qQ bk p0 p1|_=>none
def qq(L:bD)(p0 p1 p2:PV):Option PV:=dA p0 fun a=>dA p1 fun b=>dA p2 fun c=>eO (decide (a≥b)) (some (decide (a≤c))) fun c=>some (PV.bool c)
def bl:List PV→Option PV|[p0,p1,p2]=>qq bk p0 p1 p2|_=>none
def lq:iT (PV×Int×Int×Bool×Unit):=fun(a,b,c,d,_)=>fun e=>if d then if(c==b)then some (PV.bool true)else cD 3 a (e (a,b,0,false,())) fun f g=>(Ab.asInt .i64 (b9 (PV.int .i64 c) (PV.int .i64 0) (f.zip g))).bind fun h=>e (a,b,h,th (PV.int .i64 c) (f.zip g),())
else some (PV.bool false)
def ur(L:bD)(p0 p1 p2:PV):Option PV:=cD 3 p0 (dA p1 fun _=>dA p2 fun a=>L.run lq (PV.vq,a,0,false,())) fun a b=>dA p1 fun c=>dA p2 fun d=>(Ab.asInt .i64 (b9 (PV.int .i64 c) (PV.int .i64 0) (a.zip b))).bind fun e=>L.run lq (PV.rm 3 a b,d,e,th (PV.int .i64 c) (a.zip b),())
def mq:List PV→Option PV|[p0,p1,p2]=>ur bk p0 p1 p2|_=>none
def GG(L:bD)(p0 p1 p2:PV):Option PV:=dA p0 fun a=>dA p1 fun b=>dA p2 fun c=>some (PV.agg [a,b,c])
def aZ:List PV→Option PV|[p0,p1,p2]=>GG bk p0 p1 p2|_=>none
def sV(L:bD)(p0 p1:PV):Option PV:=dA p0 fun a=>dA p1 fun b=>eO (decide (a≥0)) (some (decide (a<b))) fun b=>some (PV.bool b)
def cR:List PV→Option PV|[p0,p1]=>sV bk p0 p1|_=>none
def gj:iT (TY0):=fun(a,b,c,d,e,f,g,h,i,j,k,l,m,n,o,p,q,r,_)=>fun s=>if decide (c<b)then cM a c fun t=>aJ t 0 fun u=>gL cR [u,(↑f.length:Int)] fun u=>dB (!u) (aJ t 2 fun u=>gL cR [u,(↑f.length:Int)] fun u=>some !u) fun u=>dB u (aJ t 0 fun u=>aJ t 2 fun v=>some (u==v)) fun v=>if v then eY aZ [.int .i64 3,c,.int .i64 9] fun v=>lV 3 v fun _=>some (kq v)else aJ t 0 fun v=>cM f v fun v=>gS 5 v 7 fun v=>aJ t 2 fun u=>cM f u fun u=>gS 5 u 7 fun u=>aJ t 1 fun w=>gL cR [w,(↑v.length:Int)] fun w=>dB (!w) (aJ t 3 fun w=>gL cR [w,(↑u.length:Int)] fun w=>some !w) fun w=>if w then eY aZ [.int .i64 3,c,.int .i64 9] fun w=>lV 3 w fun _=>some (kq w)else aJ t 0 fun w=>aJ t 1 fun y=>aJ t 2 fun z=>aJ t 3 fun A=>aJ t 0 fun B=>(Ab.asInt .i64 (b9 (PV.int .i64 B) (PV.int .i64 0) p)).bind fun _=>aJ t 1 fun C=>cM v C fun C=>aJ C 0 fun C=>aJ t 3 fun D=>cM u D fun D=>aJ D 0 fun D=>if(C !=D)then eY aZ [.int .i64 3,c,.int .i64 13] fun D=>lV 3 D fun _=>some (kq D)else kO t 4 fun D=>eO D (aJ t 1 fun D=>dB (az (D+1) !=(↑v.length:Int)) (aJ t 3 fun D=>some (D !=0)) fun D=>dB D (some (th (PV.int .i64 B) p)) fun D=>dB D (aJ t 2 fun D=>(Ab.asBool (b9 (PV.int .i64 D) (PV.bool false) q)).bind fun D=>some D) fun D=>dB D (aJ t 2 fun D=>aJ t 0 fun B=>gL mq [PV.rm 3 (List.map (fun x=>x.fst) p) (List.map (fun x=>x.snd) p),D,B] fun B=>some B) fun B=>some B) fun B=>if B then eY aZ [.int .i64 3,c,.int .i64 19] fun B=>lV 3 B fun _=>some (kq B)else(Ab.asBool (b9 (PV.agg [w,y,z,A]) (PV.bool false) r)).bind fun B=>if B then eY aZ [.int .i64 3,c,.int .i64 6] fun B=>lV 3 B fun _=>some (kq B)else kO t 4 fun B=>if B then aJ t 0 fun B=>aJ t 2 fun D=>aJ t 2 fun t=>s (a,b,az (c+1),d,e,f,g,h,i,j,k,l,m,n,o,dh (PV.int .i64 B) (PV.int .i64 t) p,dh (PV.int .i64 D) (PV.bool true) q,dh (PV.agg [w,y,z,A]) (PV.bool true) r,())else s (a,b,az (c+1),d,e,f,g,h,i,j,k,l,m,n,o,p,q,dh (PV.agg [w,y,z,A]) (PV.bool true) r,())
else some (PV.agg [.int .i64 0,.int .i64 0,.int .i64 0])
def mO(L:bD)(p0:PV):Option PV:=xg p0 fun a b c d e f g h i=>if decide ((↑d.length:Int)>1024)then eY aZ [.int .i64 3,.int .i64 0,.int .i64 5] fun j=>lV 3 j fun _=>some (kq j)else L.run gj (d,(↑d.length:Int),0,a,b,c,d,e,f,g,h,i,0,0,0,[],[],[],())
def eM:List PV→Option PV|[p0]=>mO bk p0|_=>none
def oW(L:bD)(p0:PV)(c1:PV):Option PV:=dA p0 fun a=>dB (decide (a<0)) (dA c1 fun b=>some (decide (a≥b))) fun b=>some (PV.bool b)
def dw:List PV→Option PV|[p0,PV.rp [c1]]=>oW bk p0 c1|_=>none
def tM:iT (List PV×Int×Int×Int×Unit):=fun(a,b,c,d,_)=>fun e=>if decide (c<b)then cM a c fun f=>aJ f 0 fun f=>gL dw [f,PV.rp [d]] fun f=>if f then some (PV.int .i64 9)else e (a,b,az (c+1),d,())
else some (PV.int .i64 0)
def oh(L:bD):iT (TY1):=fun(a,b,c,d,e,_)=>fun f=>if decide (d<c)then cM b d fun g=>aJ g 0 fun h=>gL dw [h,PV.rp [e]] fun h=>dB h (aJ g 1 fun h=>gL dw [h,PV.rp [e]] fun h=>some h) fun h=>if h then some (PV.int .i64 9)else aJ g 2 fun h=>dB (decide (h<0)) (aJ g 2 fun h=>some (decide (h>1073741824))) fun h=>if h then some (PV.int .i64 2)else f (a,b,c,az (d+1),e,())
else L.run tM (a,(↑a.length:Int),0,e,())
def sZ(L:bD)(p0 p1 p2:PV):Option PV:=dA p0 fun a=>(aw 3 p1).bind fun b=>(aw 1 p2).bind fun c=>dB (decide (a<0)) (some (decide (a>64))) fun d=>if d then some (PV.int .i64 2)else if decide ((↑b.length:Int)>4096)then some (PV.int .i64 5)else L.run (oh L) (c,b,(↑b.length:Int),0,a,())
def lv:List PV→Option PV|[p0,p1,p2]=>sZ bk p0 p1 p2|_=>none
def uw(L:bD)(p0 p1:PV):Option PV:=Uf p0 fun _ a b=>Uf p1 fun _ c d=>dB (decide (a<c)) (eO (a==c) (some (decide (b<d))) fun d=>some d) fun d=>some (PV.bool d)
def jG:List PV→Option PV|[p0,p1]=>uw bk p0 p1|_=>none
def eb(L:bD)(c01:PV)(c02:PV)(p1 p2:PV):Option PV:=(aw 4 c01).bind fun a=>dA c02 fun _=>dA p1 fun b=>dA p2 fun c=>cM a b fun b=>cM a c fun c=>gL jG [kq b,kq c] fun a=>if a then some (PV.bool true)else gL jG [kq c,kq b] fun a=>if a then some (PV.bool false)else aJ b 3 fun a=>aJ c 3 fun c=>some (PV.bool (decide (a<c)))
def aK:List PV→Option PV|[PV.rp [PV.fn 262 [],c01,c02],p1,p2]=>eb bk c01 c02 p1 p2|_=>none
def mV(dt:PV×List PV×Int×List PV×Unit→Option PV):iT (TY2):=fun(a,_,c,d,e,f,_,_,_,j,_)=>fun _=>if decide (d<c)then none
else dt (a,e,f,j,())
def mP(zZ:TY2→Option PV):iT (TY3):=fun(a,b,c,d,e,f,g,h,i,j,k,_)=>fun l=>eO (decide (a>0)) (gL aK [PV.rp [PV.fn 262 [],PV.rs 4 k,f],a,(az ((az (a-1)).tdiv 2))] fun m=>some m) fun m=>if m then if an (az ((az (a-1)).tdiv 2)) k.length then k[(az ((az (a-1)).tdiv 2)).toNat]?.bind fun m=>Er k a fun n=>if an a k.length then k[a.toNat]?.bind fun _=>if an (az ((az (a-1)).tdiv 2)) (k.set a.toNat (oB m)).length then(k.set a.toNat (oB m))[(az ((az (a-1)).tdiv 2)).toNat]?.bind fun _=>l (az ((az (a-1)).tdiv 2),b,c,d,e,f,g,h,i,j,(k.set a.toNat (oB m)).set (az ((az (a-1)).tdiv 2)).toNat (oB n),())else none else none else none else zZ (b,c,d,az (e+1),g,f,h,i,j,k,())
def cH(L:bD)(dt:PV×List PV×Int×List PV×Unit→Option PV):iT (TY2):=fun(a,b,c,d,e,f,g,h,i,j,_)=>fun k=>if decide (d<c)then cM b d fun l=>aJ l 1 fun m=>Er e m fun m=>aJ m 2 fun m=>if decide (m<0)then aJ l 1 fun m=>dA h fun n=>aJ l 2 fun l=>dA i fun o=>if(j++[PV.agg [m,(az (n+l)),(az (o+1)),f]]).length*32≤ae∧0<32 then L.run (mP k) (az ((↑(j++[PV.agg [m,(az (n+l)),(az (o+1)),f]]).length:Int)-1),a,b,c,d,az (f+1),e,g,h,i,j++[PV.agg [m,(az (n+l)),(az (o+1)),f]],())else none else k (a,b,c,az (d+1),e,f,g,h,i,j,())
else dt (a,e,f,j,())
def dW(L:bD)(dt:PV×List PV×Int×List PV×Unit→Option PV):iT (TY4):=fun(a,b,c,d,e,f,g,h,i,j,k,_)=>fun l=>if decide (az (az (2*a)+1)≥(↑k.length:Int))then dA g fun m=>Er j m fun m=>aJ m 2 fun m=>if decide (m≥0)then dt (b,j,c,k,())else dA g fun m=>Er j m fun _=>dA g fun n=>cD 3 b (L.run (mV dt) (b,[],(↑0:Int),0,j.set m.toNat (PV.agg [g,h,i]),c,g,h,i,k,())) fun o p=>(aw 3 (b9 (PV.int .i64 n) (PV.rs 0 []) (o.zip p))).bind fun p=>L.run (cH L dt) (b,p,(↑p.length:Int),0,j.set m.toNat (PV.agg [g,h,i]),c,g,h,i,k,())
else eO (decide (az (az (az (2*a)+1)+1)<(↑k.length:Int))) (gL aK [PV.rp [PV.fn 262 [],PV.rs 4 k,c],(az (az (az (2*a)+1)+1)),(az (az (2*a)+1))] fun p=>some p) fun p=>if p then gL aK [PV.rp [PV.fn 262 [],PV.rs 4 k,c],(az (az (az (2*a)+1)+1)),a] fun p=>if(!p)then dA g fun p=>Er j p fun p=>aJ p 2 fun p=>if decide (p≥0)then dt (b,j,c,k,())else dA g fun p=>Er j p fun _=>dA g fun m=>cD 3 b (L.run (mV dt) (b,[],(↑0:Int),0,j.set p.toNat (PV.agg [g,h,i]),c,g,h,i,k,())) fun o n=>(aw 3 (b9 (PV.int .i64 m) (PV.rs 0 []) (o.zip n))).bind fun n=>L.run (cH L dt) (b,n,(↑n.length:Int),0,j.set p.toNat (PV.agg [g,h,i]),c,g,h,i,k,())else if an (az (az (az (2*a)+1)+1)) k.length then k[(az (az (az (2*a)+1)+1)).toNat]?.bind fun n=>Er k a fun p=>if an a k.length then k[a.toNat]?.bind fun _=>if an (az (az (az (2*a)+1)+1)) (k.set a.toNat (oB n)).length then(k.set a.toNat (oB n))[(az (az (az (2*a)+1)+1)).toNat]?.bind fun _=>l (az (az (az (2*a)+1)+1),b,c,d,e,f,g,h,i,j,(k.set a.toNat (oB n)).set (az (az (az (2*a)+1)+1)).toNat (oB p),())else none else none else none else gL aK [PV.rp [PV.fn 262 [],PV.rs 4 k,c],(az (az (2*a)+1)),a] fun p=>if(!p)then dA g fun p=>Er j p fun p=>aJ p 2 fun p=>if decide (p≥0)then dt (b,j,c,k,())else dA g fun p=>Er j p fun _=>dA g fun n=>cD 3 b (L.run (mV dt) (b,[],(↑0:Int),0,j.set p.toNat (PV.agg [g,h,i]),c,g,h,i,k,())) fun o m=>(aw 3 (b9 (PV.int .i64 n) (PV.rs 0 []) (o.zip m))).bind fun m=>L.run (cH L dt) (b,m,(↑m.length:Int),0,j.set p.toNat (PV.agg [g,h,i]),c,g,h,i,k,())else if an (az (az (2*a)+1)) k.length then k[(az (az (2*a)+1)).toNat]?.bind fun m=>Er k a fun p=>if an a k.length then k[a.toNat]?.bind fun _=>if an (az (az (2*a)+1)) (k.set a.toNat (oB m)).length then(k.set a.toNat (oB m))[(az (az (2*a)+1)).toNat]?.bind fun _=>l (az (az (2*a)+1),b,c,d,e,f,g,h,i,j,(k.set a.toNat (oB m)).set (az (az (2*a)+1)).toNat (oB p),())else none else none else none
def fq(L:bD):iT (PV×List PV×Int×List PV×Unit):=fun(a,b,c,d,_)=>fun e=>if((↑d.length:Int)==0)then some (PV.rs 3 b)
else if an 0 d.length then d[Int.toNat 0]?.bind fun f=>if an (az ((↑d.length:Int)-1)) d.length then d[(az ((↑d.length:Int)-1)).toNat]?.bind fun g=>if an 0 d.length then d[Int.toNat 0]?.bind fun h=>if an 0 d.length then d[Int.toNat 0]?.bind fun _=>if an (az ((↑d.length:Int)-1)) (d.set (Int.toNat 0) (oB g)).length then(d.set (Int.toNat 0) (oB g))[(az ((↑d.length:Int)-1)).toNat]?.bind fun _=>if(0:Int)≤0∧0≤az ((↑d.length:Int)-1)∧az ((↑d.length:Int)-1)≤(↑((d.set (Int.toNat 0) (oB g)).set (az ((↑d.length:Int)-1)).toNat (oB h)).length:Int)∧4=4 then L.run (dW L e) (0,a,c,0,0,0,f 0,f 1,f 2,b,List.take ((az ((↑d.length:Int)-1)).toNat-Int.toNat 0) ((d.set (Int.toNat 0) (oB g)).set (az ((↑d.length:Int)-1)).toNat (oB h)),())else none else none else none else none else none else none
def zA(L:bD):iT (TY5):=fun(a,b,c,d,e,_)=>fun f=>eO (decide (a>0)) (gL aK [PV.rp [PV.fn 262 [],PV.rs 4 e,c],a,(az ((az (a-1)).tdiv 2))] fun g=>some g) fun g=>if g then if an (az ((az (a-1)).tdiv 2)) e.length then e[(az ((az (a-1)).tdiv 2)).toNat]?.bind fun g=>Er e a fun h=>if an a e.length then e[a.toNat]?.bind fun _=>if an (az ((az (a-1)).tdiv 2)) (e.set a.toNat (oB g)).length then(e.set a.toNat (oB g))[(az ((az (a-1)).tdiv 2)).toNat]?.bind fun _=>f (az ((az (a-1)).tdiv 2),b,c,d,(e.set a.toNat (oB g)).set (az ((az (a-1)).tdiv 2)).toNat (oB h),())else none else none else none else L.run (fq L) (b,d,c,e,())
def gY(L:bD):iT (PV×Int×Int×Int×List PV×Unit):=fun(a,b,c,d,e,_)=>fun f=>if decide (d<c)then Er e d fun _=>f (a,b,c,az (d+1),e.set d.toNat (PV.agg [d,.int .i64 (-1),.int .i64 (-1)]),())
else L.run (zA L) (az ((↑1:Int)-1),a,az (0+1),e,[PV.agg [b,.int .i64 0,.int .i64 0,.int .i64 0]],())
def qw(L:bD)(p0 p1 p2:PV):Option PV:=dA p0 fun a=>cD 3 p1 (dA p2 fun b=>if 0≤a∧a≤a∧a.toNat*24≤ae∧0<24∧0<3 then L.run (gY L) (PV.vq,b,(↑(List.replicate a.toNat (PV.agg [.int .i64 0,.int .i64 0,.int .i64 0])).length:Int),0,List.replicate a.toNat (PV.agg [.int .i64 0,.int .i64 0,.int .i64 0]),())else none) fun b c=>dA p2 fun d=>if 0≤a∧a≤a∧a.toNat*24≤ae∧0<24∧0<3 then L.run (gY L) (PV.rm 3 b c,d,(↑(List.replicate a.toNat (PV.agg [.int .i64 0,.int .i64 0,.int .i64 0])).length:Int),0,List.replicate a.toNat (PV.agg [.int .i64 0,.int .i64 0,.int .i64 0]),())else none
def gE:List PV→Option PV|[p0,p1,p2]=>qw bk p0 p1 p2|_=>none
def lT:iT (List PV×Int×Int×List PV×Unit):=fun(a,b,c,d,_)=>fun e=>if decide (c<b)then cM a c fun f=>aJ f 1 fun f=>Er d c fun _=>e (a,b,az (c+1),d.set c.toNat (PV.int .i64 f),())
else some (PV.rs 1 d)
def pk(L:bD)(p0:PV):Option PV:=(aw 3 p0).bind fun a=>if 0≤(↑a.length:Int)∧(↑a.length:Int)≤(↑a.length:Int)∧(↑a.length:Int).toNat*8≤ae∧0<8∧0<1 then L.run lT (a,(↑a.length:Int),0,List.replicate (↑a.length:Int).toNat (PV.int .i64 0),())else none
def jx:List PV→Option PV|[p0]=>pk bk p0|_=>none
def jN(L:bD):iT (TY6):=fun(a,b,c,d,e,_)=>fun f=>if decide (d<c)then cM b d fun g=>if a then aJ g 1 fun h=>aJ g 0 fun i=>(KJ 3 (PV.int .i64 h) e).bind fun j=>if(j++[PV.agg [h,i,g 2]]).length*24≤ae∧0<24 then f (a,b,c,az (d+1),dh (PV.int .i64 h) (PV.qS 3 (j++[PV.agg [h,i,g 2]])) (uG (PV.int .i64 h) e),())else none else aJ g 0 fun j=>aJ g 0 fun i=>(KJ 3 (PV.int .i64 i) e).bind fun h=>if(h++[kq g]).length*24≤ae∧0<24 then f (a,b,c,az (d+1),dh (PV.int .i64 j) (PV.qS 3 (h++[kq g])) (uG (PV.int .i64 i) e),())else none
else some (PV.rm 3 (List.map (fun x=>x.fst) e) (List.map (fun x=>x.snd.oM) e))
def mQ(L:bD)(p0 p1:PV):Option PV:=(aw 3 p0).bind fun a=>mcb p1 fun b=>L.run (jN L) (b,a,(↑a.length:Int),0,[],())
def gF:List PV→Option PV|[p0,p1]=>mQ bk p0 p1|_=>none
def mw:iT (Int×PV×Int×Int×List PV×Unit):=fun(a,b,c,d,e,_)=>fun f=>if decide (d<c)then eY gE [a,b,d] fun g=>(aw 3 g).bind fun g=>eY jx [.rs 3 g] fun g=>(aw 1 g).bind fun g=>Er e d fun _=>f (a,b,c,az (d+1),e.set d.toNat (PV.rs 1 g),())
else some (PV.aO [.rs 1 e,.int .i64 0])
def we(L:bD)(p0 p1:PV):Option PV:=dA p0 fun a=>(aw 3 p1).bind fun b=>zz lv [a,.rs 3 b,.rs 0 []] fun c=>if(c !=0)then some (PV.aO [.rs 1 [],c])else eY gF [.rs 3 b,.bool false] fun c=>cD 3 c (if 0≤a∧a≤a∧a.toNat*24≤ae∧0<24∧0<1 then L.run mw (a,PV.vq,(↑(List.replicate a.toNat (PV.rs 0 [])).length:Int),0,List.replicate a.toNat (PV.rs 0 []),())else none) fun c b=>if 0≤a∧a≤a∧a.toNat*24≤ae∧0<24∧0<1 then L.run mw (a,PV.rm 3 c b,(↑(List.replicate a.toNat (PV.rs 0 [])).length:Int),0,List.replicate a.toNat (PV.rs 0 []),())else none
def iP:List PV→Option PV|[p0,p1]=>we bk p0 p1|_=>none
def eh(L:bD):iT (Int×List PV×List (PV×PV)×Unit):=fun(a,b,c,_)=>fun d=>if c.isEmpty then eY iP [a,.rs 3 b] fun e=>(dn 2 e).bind fun e=>(aw 1 (e.getD 0 .bad)).bind fun f=>mcG e 1 fun _=>some (PV.rs 1 f)
else tA c.length fun f=>c[f]?.bind fun e=>lV 3 e.fst fun _=>dA e.snd fun g=>aJ e.fst 0 fun h=>aJ e.fst 1 fun e=>if(b++[PV.agg [h,e,g]]).length*24≤ae∧0<24 then d (a,b++[PV.agg [h,e,g]],c.eraseIdx f,())else none
def jO(L:bD):iT (TY7):=fun(a,b,c,d,e,f,_)=>fun g=>if decide (e<d)then cM c e fun h=>eO b (kO h 3 fun i=>some !i) fun i=>if i then g (a,b,c,d,az (e+1),f,())else aJ h 0 fun i=>aJ h 1 fun j=>(Ab.asInt .i64 (b9 (PV.agg [i,j,.bool false]) (PV.int .i64 0) f)).bind fun k=>dB (!th (PV.agg [i,j,.bool false]) f) (aJ h 2 fun l=>some (decide (l<k))) fun l=>if l then aJ h 2 fun l=>g (a,b,c,d,az (e+1),dh (PV.agg [i,j,.bool false]) (PV.int .i64 l) f,())else g (a,b,c,d,az (e+1),f,())
else if f.length≤maxLen then if(0:Int)≤0∧0≤(↑f.length:Int)∧(↑f.length:Int).toNat*24≤ae∧0<24∧0<3 then L.run (eh L) (a,List.replicate (Int.toNat 0) (PV.agg [.int .i64 0,.int .i64 0,.int .i64 0]),f,())else none else none
def mR(L:bD)(p0 p1 p2:PV):Option PV:=(aw 4 p0).bind fun a=>dA p1 fun b=>mcb p2 fun c=>L.run (jO L) (b,c,a,(↑a.length:Int),0,[],())
def eN:List PV→Option PV|[p0,p1,p2]=>mR bk p0 p1 p2|_=>none
def gZ(L:bD)(Ke:TY8→Option PV):iT (TY9):=fun(a,b,c,d,e,f,g,h,i,_)=>fun j=>if decide (h<g)then cM f h fun k=>aJ k 0 fun k=>if(c==h)then j (a,b,c,d,e,f,g,az (h+1),i,())else cM b c fun l=>gS 1 l 0 fun l=>cM l h fun l=>aJ l 0 fun l=>eO (decide (k>0)) (some (decide (k≤14400))) fun m=>if m then if(i++[PV.agg [c,h,k,.bool (l==k)]]).length*32≤ae∧0<32 then if(l !=k)then eO (decide (l>0)) (some (decide (l≤14400))) fun m=>if m then if(i++[PV.agg [c,h,k,.bool (l==k)]]++[PV.agg [c,h,l,.bool true]]).length*32≤ae∧0<32 then j (a,b,c,d,e,f,g,az (h+1),i++[PV.agg [c,h,k,.bool (l==k)]]++[PV.agg [c,h,l,.bool true]],())else none else j (a,b,c,d,e,f,g,az (h+1),i++[PV.agg [c,h,k,.bool (l==k)]],())else j (a,b,c,d,e,f,g,az (h+1),i++[PV.agg [c,h,k,.bool (l==k)]],())else none else if(l !=k)then eO (decide (l>0)) (some (decide (l≤14400))) fun m=>if m then if(i++[PV.agg [c,h,l,.bool true]]).length*32≤ae∧0<32 then j (a,b,c,d,e,f,g,az (h+1),i++[PV.agg [c,h,l,.bool true]],())else none else j (a,b,c,d,e,f,g,az (h+1),i,())else j (a,b,c,d,e,f,g,az (h+1),i,())
else Ke (a,b,d,az (e+1),i,())
def hU(L:bD):iT (TY8):=fun(d,e,f,g,h,_)=>fun i=>if decide (g<f)then cM d g fun j=>gS 1 j 0 fun j=>L.run (gZ L i) (d,e,g,f,g,j,(↑j.length:Int),0,h,())
else if 4=4∧h.length≤ae∧Nat.blt 236 Eu then(xW 4 (fun c a b=>cd [a,b]) h).bind fun ahH=>some (PV.rs 4 ahH)else none
def pn(L:bD)(p0 p1:PV):Option PV:=(aw 4 p0).bind fun a=>dA p1 fun b=>eY eN [.rs 4 a,b,.bool false] fun c=>(aw 1 c).bind fun c=>eY eN [.rs 4 a,b,.bool true] fun b=>(aw 1 b).bind fun b=>L.run (hU L) (c,b,(↑c.length:Int),0,[],())
def ga:List PV→Option PV|[p0,p1]=>pn bk p0 p1|_=>none
def n9:iT (ahD):=fun(a,b,c,d,e,_)=>fun f=>if decide (d<c)then cM b d fun g=>aJ g 0 fun h=>aJ g 1 fun i=>kO g 3 fun j=>aJ g 0 fun k=>if decide (k<0)then some (PV.aO [d,.int .i64 9])else aJ g 0 fun k=>if decide (k≥a)then some (PV.aO [d,.int .i64 9])else aJ g 1 fun k=>if decide (k<0)then some (PV.aO [d,.int .i64 9])else aJ g 1 fun k=>if decide (k≥a)then some (PV.aO [d,.int .i64 9])else aJ g 0 fun k=>aJ g 1 fun l=>if(k==l)then some (PV.aO [d,.int .i64 9])else aJ g 2 fun l=>if decide (l<1)then some (PV.aO [d,.int .i64 2])else aJ g 2 fun l=>if decide (l>14400)then some (PV.aO [d,.int .i64 2])else(Ab.asBool (b9 (PV.agg [h,i,.bool j]) (PV.bool false) e)).bind fun l=>if l then some (PV.aO [d,.int .i64 6])else f (a,b,c,az (d+1),dh (PV.agg [h,i,.bool j]) (PV.bool true) e,())
else some (PV.aO [.int .i64 0,.int .i64 0])
def sW(L:bD)(p0 p1:PV):Option PV:=(aw 4 p0).bind fun a=>dA p1 fun b=>L.run n9 (b,a,(↑a.length:Int),0,[],())
def iO:List PV→Option PV|[p0,p1]=>sW bk p0 p1|_=>none
def kK:iT (List PV×List PV×Int×Int×Unit):=fun(a,b,c,d,_)=>fun e=>if decide (d<c)then cM b d fun f=>cM a d fun g=>if lK (Kd.int .i64::[].append (Kd.int .i64::[].append (Kd.int .i64::[].append (Kd.bool::[].append [])))) [f 0,f 1,f 2,f 3]=true∧lK (Kd.int .i64::[].append (Kd.int .i64::[].append (Kd.int .i64::[].append (Kd.bool::[].append [])))) [g 0,g 1,g 2,g 3]then if(!cu [f 0,f 1,f 2,f 3] [g 0,g 1,g 2,g 3])then some (PV.bool false)else e (a,b,c,az (d+1),())else none
else some (PV.bool true)
def ob(L:bD)(p0 p1:PV):Option PV:=(aw 4 p0).bind fun a=>dA p1 fun b=>if decide (b>64)then some (PV.bool false)else kM iO [.rs 4 a,b] fun _ c=>if(c !=0)then some (PV.bool false)else eY ga [.rs 4 a,.int .i64 (if 0>b then 0 else b)] fun c=>(aw 4 c).bind fun c=>if((↑c.length:Int) !=(↑a.length:Int))then some (PV.bool false)else L.run kK (a,c,(↑c.length:Int),0,())
def gW:List PV→Option PV|[p0,p1]=>ob bk p0 p1|_=>none
def cy:iT (abb):=fun(a,b,c,d,e,f,g,h,i,j,k,l,m,n,o,p,_)=>fun q=>if decide (c<b)then cM a c fun r=>aJ r 0 fun s=>aJ r 1 fun t=>kO r 3 fun u=>aJ r 0 fun v=>gL cR [v,(↑d.length:Int)] fun v=>dB (!v) (aJ r 1 fun v=>gL cR [v,(↑d.length:Int)] fun v=>some !v) fun v=>dB v (aJ r 0 fun v=>aJ r 1 fun w=>some (v==w)) fun w=>if w then eY aZ [.int .i64 4,c,.int .i64 9] fun w=>lV 3 w fun _=>some (kq w)else aJ r 2 fun w=>dB (decide (w<1)) (aJ r 2 fun w=>some (decide (w>14400))) fun w=>if w then eY aZ [.int .i64 4,c,.int .i64 2] fun w=>lV 3 w fun _=>some (kq w)else(Ab.asBool (b9 (PV.agg [s,t,.int .i64 0,.bool u]) (PV.bool false) p)).bind fun w=>if w then eY aZ [.int .i64 4,c,.int .i64 6] fun w=>lV 3 w fun _=>some (kq w)else q (a,b,az (c+1),d,e,f,g,h,i,j,k,l,m,n,o,dh (PV.agg [s,t,.int .i64 0,.bool u]) (PV.bool true) p,())
else gL gW [.rs 4 h,(↑d.length:Int)] fun w=>if(!w)then eY aZ [.int .i64 4,.int .i64 0,.int .i64 18] fun w=>lV 3 w fun _=>some (kq w)else some (PV.agg [.int .i64 0,.int .i64 0,.int .i64 0])
def mN(L:bD)(p0:PV):Option PV:=xg p0 fun a b c d e f g h i=>L.run cy (e,(↑e.length:Int),0,a,b,c,d,e,f,g,h,i,0,0,0,[],())
def cG:List PV→Option PV|[p0]=>mN bk p0|_=>none
def Gv(L:bD)(p0 p1 p2 p3 p4:PV):Option PV:=(aw 5 p0).bind fun a=>dA p1 fun b=>dA p2 fun c=>dA p3 fun d=>dA p4 fun e=>cM a b fun f=>aJ f 0 fun g=>dB (decide (g<0)) (aJ f 0 fun g=>some (decide (g≥c))) fun g=>if g then some (PV.int .i64 9)else eO (decide (b>0)) (cM a (az (b-1)) fun g=>aJ g 0 fun g=>aJ f 0 fun c=>some (g==c)) fun c=>if c then some (PV.int .i64 13)else aJ f 1 fun c=>dB (decide (c<d)) (aJ f 1 fun c=>aJ f 2 fun d=>some (decide (c>d))) fun d=>dB d (aJ f 2 fun d=>some (decide (d>e))) fun d=>dB d (eO (decide (b>0)) (aJ f 1 fun d=>cM a (az (b-1)) fun b=>aJ b 2 fun b=>some (decide (d<b))) fun b=>some b) fun b=>if b then some (PV.int .i64 10)else some (PV.int .i64 0)
def vY:List PV→Option PV|[p0,p1,p2,p3,p4]=>Gv bk p0 p1 p2 p3 p4|_=>none
def uo:iT (ahE):=fun(a,b,c,d,e,f,_)=>fun g=>if decide (f<e)then zz vY [.rs 5 a,f,b,c,d] fun h=>if(h !=0)then some (PV.aO [f,h])else g (a,b,c,d,e,az (f+1),())
else some (PV.aO [.int .i64 0,.int .i64 0])
def AH(L:bD)(p0 p1 p2 p3:PV):Option PV:=(aw 5 p0).bind fun a=>dA p1 fun b=>dA p2 fun c=>dA p3 fun d=>dB (decide ((↑a.length:Int)<2)) (some (decide ((↑a.length:Int)>32))) fun e=>if e then some (PV.aO [.int .i64 0,.int .i64 5])else L.run uo (a,b,c,d,(↑a.length:Int),0,())
def nZ:List PV→Option PV|[p0,p1,p2,p3]=>AH bk p0 p1 p2 p3|_=>none
def sS:iT (Bytes×Int×Unit):=fun(a,b,_)=>fun c=>if decide (b<(↑(List.length a):Int))then(Zy a b).bind fun d=>eO (decide (97≤(↑d.toNat:Int))) (some (decide ((↑d.toNat:Int)≤122))) fun e=>if e then c (a,az (b+1),())else eO (decide (65≤(↑d.toNat:Int))) (some (decide ((↑d.toNat:Int)≤90))) fun e=>if e then c (a,az (b+1),())else eO (decide (48≤(↑d.toNat:Int))) (some (decide ((↑d.toNat:Int)≤57))) fun e=>if e then c (a,az (b+1),())else if((↑d.toNat:Int)==45)then c (a,az (b+1),())else if((↑d.toNat:Int)==95)then c (a,az (b+1),())else if((↑d.toNat:Int)==46)then c (a,az (b+1),())else some (PV.bool false)
else eO (decide ((↑(List.length a):Int)>0)) (some (decide ((↑(List.length a):Int)≤32))) fun e=>some (PV.bool e)
def yu(L:bD)(p0:PV):Option PV:=(bu p0).bind fun a=>L.run sS (a,0,())
def eB:List PV→Option PV|[p0]=>yu bk p0|_=>none
def gD:iT (abb):=fun(a,b,c,d,e,f,g,h,i,j,k,l,m,n,o,p,_)=>fun q=>if decide (c<b)then cM a c fun r=>(bu (r 3)).bind fun s=>gL eB [.str s] fun s=>if(!s)then eY aZ [.int .i64 2,c,.int .i64 12] fun s=>lV 3 s fun _=>some (kq s)else aJ r 0 fun s=>dB (decide (s< -1)) (aJ r 2 fun s=>some (decide (s<0))) fun s=>if s then eY aZ [.int .i64 2,c,.int .i64 2] fun s=>lV 3 s fun _=>some (kq s)else aJ r 1 fun s=>dB (decide (s<0)) (aJ r 1 fun s=>some (decide (s>36524))) fun s=>if s then eY aZ [.int .i64 2,c,.int .i64 11] fun s=>lV 3 s fun _=>some (kq s)else aJ r 4 fun s=>dB (decide (s<0)) (aJ r 4 fun s=>some (decide (s≥(↑e.length:Int)))) fun s=>if s then eY aZ [.int .i64 2,c,.int .i64 9] fun s=>lV 3 s fun _=>some (kq s)else gS 5 r 7 fun s=>kM nZ [.rs 5 s,(↑d.length:Int),.int .i64 0,.int .i64 3155932800] fun _ s=>if(s !=0)then eY aZ [.int .i64 2,c,s] fun s=>lV 3 s fun _=>some (kq s)else(bu (r 3)).bind fun s=>aJ r 1 fun t=>aJ r 2 fun r=>(Ab.asBool (b9 (PV.agg [.str s,t,r]) (PV.bool false) p)).bind fun u=>if u then eY aZ [.int .i64 2,c,.int .i64 6] fun u=>lV 3 u fun _=>some (kq u)else q (a,b,az (c+1),d,e,f,g,h,i,j,k,l,m,n,o,dh (PV.agg [.str s,t,r]) (PV.bool true) p,())
else some (PV.agg [.int .i64 0,.int .i64 0,.int .i64 0])
def od(L:bD)(p0:PV):Option PV:=xg p0 fun a b c d e f g h i=>if decide ((↑c.length:Int)>1024)then eY aZ [.int .i64 2,.int .i64 0,.int .i64 5] fun j=>lV 3 j fun _=>some (kq j)else L.run gD (c,(↑c.length:Int),0,a,b,c,d,e,f,g,h,i,0,0,0,[],())
def gX:List PV→Option PV|[p0]=>od bk p0|_=>none
def lu:iT (ahE):=fun(a,b,c,d,e,f,_)=>fun g=>if decide (c<b)then cM a c fun h=>aJ h 2 fun i=>if(i !=0)then some (kq h)else g (a,b,az (c+1),d,e,f,())
else some (PV.agg [.int .i64 0,.int .i64 0,.int .i64 0])
def uu(L:bD)(p0:PV):Option PV:=(aw 3 p0).bind fun a=>L.run lu (a,(↑a.length:Int),0,0,0,0,())
def dZ:List PV→Option PV|[p0]=>uu bk p0|_=>none
def sU(L:bD)(p0 p1 p2:PV):Option PV:=dA p0 fun a=>dA p1 fun b=>dA p2 fun c=>eO (decide (a≥b)) (some (decide (a≤c))) fun c=>some (PV.bool c)
def bV:List PV→Option PV|[p0,p1,p2]=>sU bk p0 p1 p2|_=>none
def pg:iT (Y0):=fun(a,b,c,d,_)=>fun e=>if decide (c<b)then cM a c fun f=>(bu (f 0)).bind fun g=>gL eB [.str g] fun g=>if(!g)then some (PV.aO [c,.int .i64 12])else(bu (f 0)).bind fun g=>(Ab.asBool (b9 (PV.str g) (PV.bool false) d)).bind fun g=>if g then some (PV.aO [c,.int .i64 6])else aJ f 1 fun g=>gL bV [g,.int .i64 0,.int .i64 1000000] fun g=>dB (!g) (aJ f 2 fun g=>gL bV [g,.int .i64 1,.int .i64 8] fun g=>some !g) fun g=>dB g (aJ f 3 fun g=>gL bV [g,.int .i64 1,.int .i64 16] fun g=>some !g) fun g=>dB g (aJ f 4 fun g=>gL bV [g,.int .i64 0,.int .i64 86400] fun g=>some !g) fun g=>dB g (aJ f 5 fun g=>gL bV [g,.int .i64 1,.int .i64 255] fun g=>some !g) fun g=>if g then some (PV.aO [c,.int .i64 2])else(bu (f 0)).bind fun g=>e (a,b,az (c+1),dh (PV.str g) (PV.bool true) d,())
else some (PV.aO [.int .i64 0,.int .i64 0])
def uk(L:bD)(p0:PV):Option PV:=Ug p0 fun a b c d=>gL bV [b,.int .i64 0,.int .i64 1000000] fun b=>dB (!b) (gL bV [c,.int .i64 0,.int .i64 86400] fun b=>some !b) fun b=>dB b (gL bV [d,.int .i64 0,.int .i64 1000000] fun b=>some !b) fun b=>if b then some (PV.aO [.int .i64 (-1),.int .i64 2])else if decide ((↑a.length:Int)>16)then some (PV.aO [.int .i64 0,.int .i64 5])else L.run pg (a,(↑a.length:Int),0,[],())
def dr:List PV→Option PV|[p0]=>uk bk p0|_=>none
def yy(L:bD)(p0:PV):Option PV:=dA p0 fun a=>eO (decide (a≥0)) (some (decide (a<8))) fun a=>some (PV.bool a)
def uj:List PV→Option PV|[p0]=>yy bk p0|_=>none
def sT:iT (Y0):=fun(a,b,c,d,_)=>fun e=>if decide (c<b)then cM a c fun f=>(bu (f 0)).bind fun g=>gL eB [.str g] fun g=>if(!g)then some (PV.aO [c,.int .i64 12])else(bu (f 0)).bind fun g=>(Ab.asBool (b9 (PV.str g) (PV.bool false) d)).bind fun g=>if g then some (PV.aO [c,.int .i64 6])else aJ f 1 fun g=>gL uj [g] fun g=>if(!g)then some (PV.aO [c,.int .i64 2])else(bu (f 0)).bind fun g=>e (a,b,az (c+1),dh (PV.str g) (PV.bool true) d,())
else some (PV.aO [.int .i64 0,.int .i64 0])
def yw(L:bD)(p0:PV):Option PV:=(aw 3 p0).bind fun a=>if decide ((↑a.length:Int)>64)then some (PV.aO [.int .i64 0,.int .i64 5])else L.run sT (a,(↑a.length:Int),0,[],())
def l8:List PV→Option PV|[p0]=>yw bk p0|_=>none
def ui:iT (Y0):=fun(a,b,c,d,_)=>fun e=>if decide (c<b)then cM a c fun f=>(bu (f 0)).bind fun g=>gL eB [.str g] fun g=>if(!g)then some (PV.aO [c,.int .i64 12])else(bu (f 0)).bind fun g=>(Ab.asBool (b9 (PV.str g) (PV.bool false) d)).bind fun g=>if g then some (PV.aO [c,.int .i64 6])else aJ f 1 fun g=>dB (decide (g<0)) (aJ f 1 fun g=>some (decide (g≥16))) fun g=>dB g (aJ f 3 fun g=>some (decide (g<0))) fun g=>dB g (aJ f 3 fun g=>some (decide (g>3600))) fun g=>if g then some (PV.aO [c,.int .i64 2])else(bu (f 0)).bind fun g=>e (a,b,az (c+1),dh (PV.str g) (PV.bool true) d,())
else some (PV.aO [.int .i64 0,.int .i64 0])
def AG(L:bD)(p0:PV):Option PV:=(aw 4 p0).bind fun a=>if decide ((↑a.length:Int)>64)then some (PV.aO [.int .i64 0,.int .i64 5])else L.run ui (a,(↑a.length:Int),0,[],())
def nY:List PV→Option PV|[p0]=>AG bk p0|_=>none
def uv(L:bD)(p0:PV):Option PV:=xg p0 fun a b c d e f g h i=>kM nY [.rs 4 a] fun j k=>kM l8 [.rs 3 b] fun l m=>eY aZ [.int .i64 0,j,k] fun k=>lV 3 k fun _=>eY aZ [.int .i64 1,l,m] fun m=>lV 3 m fun _=>eY dZ [.rs 3 [kq k,kq m]] fun m=>lV 3 m fun _=>aJ m 2 fun k=>if(k==0)then eY gX [oC a b c d e f g h i] fun k=>lV 3 k fun _=>aJ k 2 fun l=>if(l==0)then eY eM [oC a b c d e f g h i] fun l=>lV 3 l fun _=>aJ l 2 fun j=>if(j==0)then kM dr [.agg [.rs 6 f,g,h,i]] fun j n=>eY cG [oC a b c d e f g h i] fun o=>lV 3 o fun _=>eY aZ [.int .i64 5,j,n] fun n=>lV 3 n fun _=>eY dZ [.rs 3 [kq o,kq n]] fun n=>Uf n fun n o j=>some (PV.aO [n,o,j])else aJ l 0 fun j=>aJ l 1 fun o=>aJ l 2 fun l=>some (PV.aO [j,o,l])else aJ k 2 fun l=>if(l==0)then kM dr [.agg [.rs 6 f,g,h,i]] fun l o=>eY cG [oC a b c d e f g h i] fun j=>lV 3 j fun _=>eY aZ [.int .i64 5,l,o] fun o=>lV 3 o fun _=>eY dZ [.rs 3 [kq j,kq o]] fun o=>Uf o fun o j l=>some (PV.aO [o,j,l])else aJ k 0 fun l=>aJ k 1 fun j=>aJ k 2 fun k=>some (PV.aO [l,j,k])else aJ m 2 fun k=>if(k==0)then eY eM [oC a b c d e f g h i] fun k=>lV 3 k fun _=>aJ k 2 fun j=>if(j==0)then kM dr [.agg [.rs 6 f,g,h,i]] fun j l=>eY cG [oC a b c d e f g h i] fun o=>lV 3 o fun _=>eY aZ [.int .i64 5,j,l] fun l=>lV 3 l fun _=>eY dZ [.rs 3 [kq o,kq l]] fun l=>Uf l fun l o j=>some (PV.aO [l,o,j])else aJ k 0 fun j=>aJ k 1 fun o=>aJ k 2 fun k=>some (PV.aO [j,o,k])else aJ m 2 fun k=>if(k==0)then kM dr [.agg [.rs 6 f,g,h,i]] fun k o=>eY cG [oC a b c d e f g h i] fun i=>lV 3 i fun _=>eY aZ [.int .i64 5,k,o] fun o=>lV 3 o fun _=>eY dZ [.rs 3 [kq i,kq o]] fun o=>Uf o fun o i k=>some (PV.aO [o,i,k])else aJ m 0 fun k=>aJ m 1 fun i=>aJ m 2 fun m=>some (PV.aO [k,i,m])
def ff:List PV→Option PV|[p0]=>uv bk p0|_=>none
def gU(L:bD)(p0 p1:PV):Option PV:=xg p0 fun a b c d e f g h i=>PG p1 fun j k l m n o _ _ p q=>abt ff [oC a b c d e f g h i] fun _ _ i=>if(i !=0)then some (PV.int .i64 21)else gL bl [j,.int .i64 0,(az ((↑a.length:Int)-1))] fun i=>dB (!i) (gL bl [k,.int .i64 0,(az ((↑a.length:Int)-1))] fun i=>some !i) fun i=>dB i (gL bl [l,.int .i64 0,.int .i64 3155932800] fun i=>some !i) fun i=>dB i (gL bl [n,.int .i64 0,.int .i64 8] fun i=>some !i) fun i=>dB i (gL bl [o,.int .i64 0,.int .i64 86400] fun i=>some !i) fun i=>dB i (gL bl [p,.int .i64 0,.int .i64 255] fun i=>some !i) fun i=>dB i (eO q (some m) fun i=>some i) fun i=>if i then some (PV.int .i64 22)else some (PV.int .i64 0)
def dm:List PV→Option PV|[p0,p1]=>gU bk p0 p1|_=>none
def yq(L:bD)(p0 p1:PV):Option PV:=Ug p0 fun _ _ _ a=>dA p1 fun b=>eO (decide (a>0)) (some (decide (b>a))) fun c=>if c then some (a)else some (b)
def pI:List PV→Option PV|[p0,p1]=>yq bk p0 p1|_=>none
def pf(L:bD)(p0 p1 p2:PV):Option PV:=lV 7 p0 fun _=>kO p0 0 fun a=>aJ p0 1 fun b=>aJ p0 2 fun c=>aJ p0 3 fun _=>aJ p0 4 fun _=>aJ p0 5 fun _=>aJ p0 6 fun _=>dA p1 fun d=>dA p2 fun e=>dB (!a) (some (decide (d<b))) fun a=>dB a (eO (d==b) (some (decide (e<c))) fun a=>some a) fun a=>some (PV.bool a)
def ju:List PV→Option PV|[p0,p1,p2]=>pf bk p0 p1 p2|_=>none
def yn(L:bD)(p0 p1 p2:PV):Option PV:=dA p0 fun a=>dA p1 fun b=>dA p2 fun c=>dB (decide (b≤a)) (some (decide (IntKind.u64.wrap (IntKind.u64.wrap b-IntKind.u64.wrap a)≤IntKind.u64.wrap c))) fun c=>some (PV.bool c)
def pH:List PV→Option PV|[p0,p1,p2]=>yn bk p0 p1 p2|_=>none
def pe(L:bD)(p0 p1 p2 p3:PV):Option PV:=Ug p0 fun _ a b _=>acH p1 fun _ c _ _ _ _=>(aw 4 p2).bind fun d=>dA p3 fun e=>eO (decide (e>0)) (cM d (az (e-1)) fun f=>aJ f 1 fun f=>cM d e fun e=>aJ e 0 fun e=>gL pH [f,e,b] fun e=>some e) fun e=>if e then some (PV.int .i64 (if az (c-a)>0 then az (c-a)else 0))else some (c)
def jt:List PV→Option PV|[p0,p1,p2,p3]=>pe bk p0 p1 p2 p3|_=>none
def pd(L:bD)(p0 p1:PV):Option PV:=(Ab.asInt IntKind.u64 p0).bind fun a=>(Ab.asInt IntKind.u64 p1).bind fun b=>some (PV.int IntKind.u64 (IntKind.u64.wrap (↑(BitVec.ofInt IntKind.u64.bits a|||BitVec.ofInt IntKind.u64.bits b).toNat:Int)))
def fZ:List PV→Option PV|[p0,p1]=>pd bk p0 p1|_=>none
def nU(L:bD)(p0 p1:PV):Option PV:=(Ab.asInt IntKind.u64 p0).bind fun a=>(Ab.asInt IntKind.u64 p1).bind fun b=>some (PV.bool (IntKind.u64.wrap (↑(BitVec.ofInt IntKind.u64.bits a&&& ~~~BitVec.ofInt IntKind.u64.bits b).toNat:Int)==0))
def gV:List PV→Option PV|[p0,p1]=>nU bk p0 p1|_=>none
def uh(L:bD)(p0 p1 p2:PV):Option PV:=dA p0 fun a=>dA p1 fun b=>dA p2 fun c=>if decide (b≥a)then dB (decide (c<0)) (some (decide (IntKind.u64.wrap (IntKind.u64.wrap b-IntKind.u64.wrap a)>IntKind.u64.wrap c))) fun d=>some (PV.bool d)else eO (decide (c<0)) (some (decide (IntKind.u64.wrap (IntKind.u64.wrap a-IntKind.u64.wrap b)<IntKind.u64.wrap (0-IntKind.u64.wrap c)))) fun d=>some (PV.bool d)
def mo:List PV→Option PV|[p0,p1,p2]=>uh bk p0 p1 p2|_=>none
def nV:iT (ajh):=fun(a,b,c,d,e,f,g,h,i,j,k,_)=>fun l=>if decide (c<b)then cM a c fun m=>aJ m 2 fun n=>eY fZ [.int IntKind.u64 j,.int IntKind.u64 (IntKind.u64.wrap n)] fun n=>(Ab.asInt IntKind.u64 n).bind fun n=>aJ m 3 fun m=>eY fZ [.int IntKind.u64 k,.int IntKind.u64 (IntKind.u64.wrap m)] fun m=>(Ab.asInt IntKind.u64 m).bind fun m=>l (a,b,az (c+1),d,e,f,g,h,i,n,m,())
else zz Lz [.int IntKind.u64 j] fun m=>eO (decide (m≤g)) (gL gV [.int IntKind.u64 k,.int IntKind.u64 (IntKind.u64.wrap i)] fun m=>some m) fun m=>some (PV.bool m)
def sQ(L:bD)(p0 p1:PV):Option PV:=acH p0 fun a b c d e f=>(aw 4 p1).bind fun g=>dB ((↑g.length:Int)==0) (some (decide ((↑g.length:Int)>c))) fun h=>dB h (cM g 0 fun h=>aJ h 0 fun h=>cM g (az ((↑g.length:Int)-1)) fun i=>aJ i 0 fun i=>gL mo [h,i,e] fun i=>some i) fun i=>if i then some (PV.bool false)else L.run nV (g,(↑g.length:Int),0,a,b,c,d,e,f,0,0,())
def iN:List PV→Option PV|[p0,p1]=>sQ bk p0 p1|_=>none
def nW(L:bD)(BI:adB→Option PV):iT (aji):=fun(a,b,c,d,e,f,g,h,i,j,k,l,_)=>fun m=>if decide (e<d)then if an (az (c+1)) 9∧0<7 then k[(az (c+1)).toNat+0]?.bind fun n=>kO n 0 fun n=>if n then cM f e fun n=>if 0≤b∧b≤az (c+1)∧az (c+1)≤(↑l.length:Int)∧4=4∧4≠0 then gL iN [ahx n,.rs 4 (List.drop b.toNat (List.take (az (c+1)).toNat l))] fun n=>if(!n)then m (a,b,c,d,az (e+1),f,g,h,i,j,k,l,())else cM f e fun n=>zz jt [.agg [.rs 6 f,g,h,i],ahx n,.rs 4 l,b] fun n=>if an (az (c+1)) 9∧0<7 then k[(az (c+1)).toNat+0]?.bind fun o=>aJ o 1 fun o=>if an (az (c+1)) 9∧0<7 then k[(az (c+1)).toNat+0]?.bind fun p=>aJ p 2 fun p=>if an b 9∧0<7 then k[b.toNat+0]?.bind fun q=>gL ju [PF q,(az (n+o)),(az (p+1))] fun q=>if q then if an b 9∧0<7 then k[b.toNat+0]?.bind fun _=>m (a,b,c,d,az (e+1),f,g,h,i,j,k.set (b.toNat+0) (PV.agg [.bool true,(az (n+o)),(az (p+1)),e,b,c,n]),l,())else none else m (a,b,c,d,az (e+1),f,g,h,i,j,k,l,())else none else none else none else none else m (a,b,c,d,az (e+1),f,g,h,i,j,k,l,())else none
else BI (a,b,az (c+1),f,g,h,i,j,k,l,())
def nX(L:bD)(aa7:adC→Option PV):iT (adB):=fun(a,b,c,d,e,f,g,h,i,j,_)=>fun k=>if decide (c<a)then L.run (nW L k) (a,b,c,(↑d.length:Int),0,d,e,f,g,h,i,j,())
else aa7 (a,az (b-1),d,e,f,g,h,i,j,())
def sR(L:bD):iT (adC):=fun(a,b,c,d,e,f,g,h,i,_)=>fun j=>if decide (b≥0)then L.run (nX L j) (a,b,b,c,d,e,f,g,h,i,())
else if h.length*7=63 then(Ab.asAgg 63 (PV.agg (fS 7 h))).bind fun _=>if g.length*7=63∧0<63 then if(fu 7 g.length (PV.agg (fS 7 h))).length*7=63 then some (PV.agg (fS 7 (fu 7 g.length (PV.agg (fS 7 h)))))else none else none else none
def yt(L:bD)(p0 p1:PV):Option PV:=Ug p0 fun a b c d=>(aw 4 p1).bind fun e=>if an (↑e.length:Int) 9∧0<7 then(fu 7 9 (PV.agg [.bool false,.int .i64 0,.int .i64 0,.int .i64 0,.int .i64 0,.int .i64 0,.int .i64 0,.bool false,.int .i64 0,.int .i64 0,.int .i64 0,.int .i64 0,.int .i64 0,.int .i64 0,.bool false,.int .i64 0,.int .i64 0,.int .i64 0,.int .i64 0,.int .i64 0,.int .i64 0,.bool false,.int .i64 0,.int .i64 0,.int .i64 0,.int .i64 0,.int .i64 0,.int .i64 0,.bool false,.int .i64 0,.int .i64 0,.int .i64 0,.int .i64 0,.int .i64 0,.int .i64 0,.bool false,.int .i64 0,.int .i64 0,.int .i64 0,.int .i64 0,.int .i64 0,.int .i64 0,.bool false,.int .i64 0,.int .i64 0,.int .i64 0,.int .i64 0,.int .i64 0,.int .i64 0,.bool false,.int .i64 0,.int .i64 0,.int .i64 0,.int .i64 0,.int .i64 0,.int .i64 0,.bool false,.int .i64 0,.int .i64 0,.int .i64 0,.int .i64 0,.int .i64 0,.int .i64 0]))[(↑e.length:Int).toNat+0]?.bind fun f=>L.run (sR L) ((↑e.length:Int),az ((↑e.length:Int)-1),a,b,c,d,fu 7 9 (PV.agg [.bool false,.int .i64 0,.int .i64 0,.int .i64 0,.int .i64 0,.int .i64 0,.int .i64 0,.bool false,.int .i64 0,.int .i64 0,.int .i64 0,.int .i64 0,.int .i64 0,.int .i64 0,.bool false,.int .i64 0,.int .i64 0,.int .i64 0,.int .i64 0,.int .i64 0,.int .i64 0,.bool false,.int .i64 0,.int .i64 0,.int .i64 0,.int .i64 0,.int .i64 0,.int .i64 0,.bool false,.int .i64 0,.int .i64 0,.int .i64 0,.int .i64 0,.int .i64 0,.int .i64 0,.bool false,.int .i64 0,.int .i64 0,.int .i64 0,.int .i64 0,.int .i64 0,.int .i64 0,.bool false,.int .i64 0,.int .i64 0,.int .i64 0,.int .i64 0,.int .i64 0,.int .i64 0,.bool false,.int .i64 0,.int .i64 0,.int .i64 0,.int .i64 0,.int .i64 0,.int .i64 0,.bool false,.int .i64 0,.int .i64 0,.int .i64 0,.int .i64 0,.int .i64 0,.int .i64 0]),(fu 7 9 (PV.agg [.bool false,.int .i64 0,.int .i64 0,.int .i64 0,.int .i64 0,.int .i64 0,.int .i64 0,.bool false,.int .i64 0,.int .i64 0,.int .i64 0,.int .i64 0,.int .i64 0,.int .i64 0,.bool false,.int .i64 0,.int .i64 0,.int .i64 0,.int .i64 0,.int .i64 0,.int .i64 0,.bool false,.int .i64 0,.int .i64 0,.int .i64 0,.int .i64 0,.int .i64 0,.int .i64 0,.bool false,.int .i64 0,.int .i64 0,.int .i64 0,.int .i64 0,.int .i64 0,.int .i64 0,.bool false,.int .i64 0,.int .i64 0,.int .i64 0,.int .i64 0,.int .i64 0,.int .i64 0,.bool false,.int .i64 0,.int .i64 0,.int .i64 0,.int .i64 0,.int .i64 0,.int .i64 0,.bool false,.int .i64 0,.int .i64 0,.int .i64 0,.int .i64 0,.int .i64 0,.int .i64 0,.bool false,.int .i64 0,.int .i64 0,.int .i64 0,.int .i64 0,.int .i64 0,.int .i64 0])).set ((↑e.length:Int).toNat+0) (PV.agg (PV.bool true::over [] [f 1,f 2,f 3,f 4,f 5,f 6])),e,())else none
def pJ:List PV→Option PV|[p0,p1]=>yt bk p0 p1|_=>none
def vV(L:bD)(p0 p1:PV):Option PV:=Ug p0 fun a b c d=>(aw 4 p1).bind fun e=>kM dr [.agg [.rs 6 a,b,c,d]] fun _ d=>if(d !=0)then some (PV.int .i64 20)else if decide ((↑e.length:Int)>8)then some (PV.int .i64 33)else some (PV.int .i64 0)
def ll:List PV→Option PV|[p0,p1]=>vV bk p0 p1|_=>none
def jJ(L:bD):iT (ajj):=fun(a,b,c,d,e,f,g,h,_)=>fun i=>if decide (b<(↑a.length:Int))then if an b 9∧0<7 then g[b.toNat+0]?.bind fun j=>if(h++[PV.agg [j 3,j 4,j 5,j 6]]).length*32≤ae∧0<32 then if an b 9∧0<7 then g[b.toNat+0]?.bind fun k=>aJ k 5 fun k=>i (a,az (k+1),c,d,e,f,g,h++[PV.agg [j 3,j 4,j 5,j 6]],())else none else none else none
else g[Int.toNat 0+0]?.bind fun k=>aJ k 1 fun k=>zz pI [.agg [.rs 6 c,d,e,f],k] fun k=>some (PV.aO [k,.rs 4 h,.int .i64 0])
def vX(L:bD)(p0 p1:PV):Option PV:=Ug p0 fun a b c d=>(aw 4 p1).bind fun e=>zz ll [.agg [.rs 6 a,b,c,d],.rs 4 e] fun f=>if(f !=0)then some (PV.aO [.int .i64 0,.rs 4 [],f])else eY pJ [.agg [.rs 6 a,b,c,d],.rs 4 e] fun f=>lV 63 f fun _=>kO f 0 fun g=>if(!g)then some (PV.aO [.int .i64 0,.rs 4 [],.int .i64 34])else L.run (jJ L) (e,0,a,b,c,d,fu 7 9 (ahz f),[],())
def jw:List PV→Option PV|[p0,p1]=>vX bk p0 p1|_=>none
def AF(L:bD)(p0:PV):Option PV:=dA p0 fun a=>dB (decide (a<0)) (some (decide (a>63))) fun b=>if b then some (PV.int IntKind.u64 0)else if a<0 then none else some (PV.int IntKind.u64 (IntKind.u64.wrap (1*2^min a.toNat IntKind.u64.bits)))
def nT:List PV→Option PV|[p0]=>AF bk p0|_=>none
def BF:iT (Int×List PV×Int×Int×Unit):=fun(a,b,c,d,_)=>fun e=>if decide (d<c)then cM b d fun f=>aJ f 0 fun f=>eY nT [f] fun f=>(Ab.asInt IntKind.u64 f).bind fun f=>e (IntKind.u64.wrap (↑(BitVec.ofInt IntKind.u64.bits a|||BitVec.ofInt IntKind.u64.bits f).toNat:Int),b,c,az (d+1),())
else some (PV.int IntKind.u64 a)
def CF(L:bD)(p0:PV):Option PV:=(aw 1 p0).bind fun a=>L.run BF (0,a,(↑a.length:Int),0,())
def tI:List PV→Option PV|[p0]=>CF bk p0|_=>none
def sP(L:bD)(p0 p1:PV):Option PV:=xg p0 fun _ _ a _ _ _ _ _ _=>Hl p1 fun _ b c d _ _ _ _ _=>eO (decide (0≤b)) (some (decide (b<(↑a.length:Int)))) fun e=>eO e (some (decide (0≤c))) fun e=>eO e (some (decide (c<d))) fun e=>eO e (cM a b fun e=>gS 5 e 7 fun e=>some (decide (d<(↑e.length:Int)))) fun e=>some (PV.bool e)
def lj:List PV→Option PV|[p0,p1]=>sP bk p0 p1|_=>none
def qv(L:bD)(p0 p1:PV):Option PV:=(Ab.asInt IntKind.u64 p0).bind fun a=>dA p1 fun b=>eY nT [b] fun b=>(Ab.asInt IntKind.u64 b).bind fun b=>some (PV.int IntKind.u64 (IntKind.u64.wrap (↑(BitVec.ofInt IntKind.u64.bits a|||BitVec.ofInt IntKind.u64.bits b).toNat:Int)))
def j2:List PV→Option PV|[p0,p1]=>qv bk p0 p1|_=>none
def oY:iT (ajk):=fun(a,b,c,d,e,f,g,h,i,j,k,l,m,_)=>fun n=>if decide (d<c)then cM b d fun o=>aJ o 0 fun o=>cM e o fun o=>aJ o 1 fun o=>eY j2 [.int IntKind.u64 a,o] fun o=>(Ab.asInt IntKind.u64 o).bind fun o=>n (o,b,c,az (d+1),e,f,g,h,i,j,k,l,m,())
else some (PV.int IntKind.u64 a)
def ug(L:bD)(p0 p1:PV):Option PV:=xg p0 fun a b c d e f g h i=>Hl p1 fun _ j k l _ _ _ _ _=>cM c j fun j=>gS 5 j 7 fun j=>if 0≤k∧k≤az (l+1)∧az (l+1)≤(↑j.length:Int)∧5=5∧5≠0 then L.run oY (0,List.drop k.toNat (List.take (az (l+1)).toNat j),(↑(List.drop k.toNat (List.take (az (l+1)).toNat j)).length:Int),0,a,b,c,d,e,f,g,h,i,())else none
def mn:List PV→Option PV|[p0,p1]=>ug bk p0 p1|_=>none
def oZ(L:bD):iT (ajl):=fun(a,b,c,d,e,f,g,h,i,j,k,l,m,n,_)=>fun o=>if decide (d<c)then cM b d fun p=>kO p 0 fun q=>eO q (gL lj [oC e f g h i j k l m,D3 p] fun q=>some !q) fun q=>if q then some (PV.aO [.rs 4 [],.int .i64 9])else kO p 8 fun q=>eO q (kO p 0 fun q=>dB (!q) (some !a) fun q=>some q) fun q=>if q then some (PV.aO [.rs 4 [],.int .i64 19])else kO p 0 fun q=>if q then eY mn [oC e f g h i j k l m,D3 p] fun q=>(Ab.asInt IntKind.u64 q).bind fun q=>aJ p 1 fun r=>cM g r fun r=>aJ r 4 fun r=>cM f r fun r=>aJ r 1 fun r=>eY tI [.rs 1 [r]] fun r=>(Ab.asInt IntKind.u64 r).bind fun r=>kO p 8 fun s=>if(!s)then aJ p 6 fun s=>aJ p 7 fun t=>if(n++[PV.agg [s,t,(az q),(az r)]]).length*32≤ae∧0<32 then kO p 0 fun u=>o (u,b,c,az (d+1),e,f,g,h,i,j,k,l,m,n++[PV.agg [s,t,(az q),(az r)]],())else none else if an (az ((↑n.length:Int)-1)) n.length then aJ p 7 fun u=>n[(az ((↑n.length:Int)-1)).toNat]?.bind fun t=>(n.set (az ((↑n.length:Int)-1)).toNat (PV.agg (t 0::PV.int .i64 u::over [] [t 2,t 3])))[(az ((↑n.length:Int)-1)).toNat]?.bind fun s=>aJ s 2 fun s=>(n.set (az ((↑n.length:Int)-1)).toNat (PV.agg (t 0::PV.int .i64 u::over [] [t 2,t 3])))[(az ((↑n.length:Int)-1)).toNat]?.bind fun v=>((n.set (az ((↑n.length:Int)-1)).toNat (PV.agg (t 0::PV.int .i64 u::over [] [t 2,t 3]))).set (az ((↑n.length:Int)-1)).toNat (PV.agg (v 0::v 1::PV.int .i64 (az (↑(BitVec.ofInt IntKind.i64.bits s|||BitVec.ofInt IntKind.i64.bits (az q)).toNat:Int))::over [] [v 3])))[(az ((↑n.length:Int)-1)).toNat]?.bind fun w=>aJ w 3 fun w=>((n.set (az ((↑n.length:Int)-1)).toNat (PV.agg (t 0::PV.int .i64 u::over [] [t 2,t 3]))).set (az ((↑n.length:Int)-1)).toNat (PV.agg (v 0::v 1::PV.int .i64 (az (↑(BitVec.ofInt IntKind.i64.bits s|||BitVec.ofInt IntKind.i64.bits (az q)).toNat:Int))::over [] [v 3])))[(az ((↑n.length:Int)-1)).toNat]?.bind fun x=>kO p 0 fun y=>o (y,b,c,az (d+1),e,f,g,h,i,j,k,l,m,((n.set (az ((↑n.length:Int)-1)).toNat (PV.agg (t 0::PV.int .i64 u::over [] [t 2,t 3]))).set (az ((↑n.length:Int)-1)).toNat (PV.agg (v 0::v 1::PV.int .i64 (az (↑(BitVec.ofInt IntKind.i64.bits s|||BitVec.ofInt IntKind.i64.bits (az q)).toNat:Int))::over [] [v 3]))).set (az ((↑n.length:Int)-1)).toNat (PV.agg (x 0::x 1::x 2::PV.int .i64 (az (↑(BitVec.ofInt IntKind.i64.bits w|||BitVec.ofInt IntKind.i64.bits (az r)).toNat:Int))::over [] [])),())else none else kO p 0 fun y=>o (y,b,c,az (d+1),e,f,g,h,i,j,k,l,m,n,())
else some (PV.aO [.rs 4 n,.int .i64 0])
def pG(L:bD)(p0 p1:PV):Option PV:=xg p0 fun a b c d e f g h i=>lV 1 p1 fun _=>gS 9 p1 0 fun j=>abt ff [oC a b c d e f g h i] fun _ _ k=>if(k !=0)then some (PV.aO [.rs 4 [],.int .i64 21])else L.run (oZ L) (false,j,(↑j.length:Int),0,a,b,c,d,e,f,g,h,i,[],())
def gr:List PV→Option PV|[p0,p1]=>pG bk p0 p1|_=>none
def qu:iT (Int×List PV×Int×Int×Unit):=fun(a,b,c,d,_)=>fun e=>if decide (d<c)then cM b d fun f=>kO f 0 fun g=>dB g (aJ f 6 fun g=>some (decide (g<0))) fun g=>dB g (aJ f 7 fun g=>aJ f 6 fun h=>some (decide (g<h))) fun h=>dB h (aJ f 7 fun h=>aJ f 6 fun g=>some (decide (az (h-g)>14400))) fun g=>if g then e (a,b,c,az (d+1),())else aJ f 7 fun g=>aJ f 6 fun f=>e (az (a+az (g-f)),b,c,az (d+1),())
else some (a)
def vU(L:bD)(p0:PV):Option PV:=lV 1 p0 fun _=>gS 9 p0 0 fun a=>L.run qu (0,a,(↑a.length:Int),0,())
def iJ:List PV→Option PV|[p0]=>vU bk p0|_=>none
def rz(L:bD)(p0 p1 p2:PV):Option PV:=xg p0 fun a b c d e f g h i=>PG p1 fun _ _ j _ _ _ _ _ _ _=>lV 1 p2 fun _=>gS 9 p2 0 fun k=>eY gr [oC a b c d e f g h i,.agg [.rs 9 k]] fun e=>(dn 2 e).bind fun e=>(aw 4 (e.getD 0 .bad)).bind fun d=>mcG e 1 fun e=>if(e !=0)then some (PV.aO [.agg [.int .i64 0,.int .i64 0,.int .i64 0,.int .i64 0,.int .i64 0],.rs 4 [],e])else eY jw [.agg [.rs 6 f,g,h,i],.rs 4 d] fun e=>(dn 3 e).bind fun e=>mcG e 0 fun i=>(aw 4 (e.getD 1 .bad)).bind fun h=>mcG e 2 fun e=>if(e !=0)then some (PV.aO [.agg [.int .i64 0,.int .i64 0,.int .i64 0,.int .i64 0,.int .i64 0],.rs 4 [],e])else zz iJ [.agg [.rs 9 k]] fun e=>if decide ((↑k.length:Int)>0)then cM k 0 fun g=>aJ g 6 fun g=>cM k (az ((↑k.length:Int)-1)) fun k=>aJ k 7 fun k=>some (PV.aO [.agg [g,k,(↑d.length:Int),i,e],.rs 4 h,.int .i64 0])else some (PV.aO [.agg [j,j,(↑d.length:Int),i,e],.rs 4 h,.int .i64 0])
def eL:List PV→Option PV|[p0,p1,p2]=>rz bk p0 p1 p2|_=>none
def mj:iT (ajm):=fun(a,b,c,d,e,f,g,h,i,j,k,l,m,n,o,p,q,r,s,t,u,v,w,y,z,A,B,C,D,E,F,G,H,_)=>fun x=>if decide (d<c)then cM b d fun I=>kO I 0 fun J=>eO J (kO I 8 fun J=>some !J) fun J=>if J then x (az (a+1),b,c,az (d+1),e,f,g,h,i,j,k,l,m,n,o,p,q,r,s,t,u,v,w,y,z,A,B,C,D,E,F,G,H,())else x (a,b,c,az (d+1),e,f,g,h,i,j,k,l,m,n,o,p,q,r,s,t,u,v,w,y,z,A,B,C,D,E,F,G,H,())
else dA E fun J=>if(J !=o)then some (PV.int .i64 24)else eO q (dA G fun J=>some (decide (J>p))) fun J=>if J then some (PV.int .i64 10)else if decide (a>r)then some (PV.int .i64 33)else zz iJ [.agg [.rs 9 y]] fun J=>if decide (J>s)then some (PV.int .i64 32)else eY eL [oC e f g h i j k l m,D4 n o p q r s t u v w,.agg [.rs 9 y]] fun J=>(dn 3 J).bind fun J=>(Ab.asAgg 5 (J.getD 0 .bad)).bind fun _=>(aw 4 (J.getD 1 .bad)).bind fun _=>mcG J 2 fun J=>some (J)
def rA(L:bD)(p0 p1 p2:PV):Option PV:=xg p0 fun a b c d e f g h i=>PG p1 fun j k l m n o p q r s=>lV 1 p2 fun _=>gS 9 p2 0 fun t=>cM t (az ((↑t.length:Int)-1)) fun u=>L.run mj (0,t,(↑t.length:Int),0,a,b,c,d,e,f,g,h,i,j,k,l,m,n,o,p,q,r,s,t,u 0,u 1,u 2,u 3,u 4,u 5,u 6,u 7,u 8,())
def iI:List PV→Option PV|[p0,p1,p2]=>rA bk p0 p1 p2|_=>none
def kF(L:bD)(p0:PV):Option PV:=qR p0 fun _ _ _ _ _ _ _ _ _ _ _ _ _ _ _ _ _ _ _ a b=>cM a b fun b=>some (D3 b)
def aF:List PV→Option PV|[p0]=>kF bk p0|_=>none
def gm(L:bD)(p0:PV):Option PV:=qR p0 fun _ _ _ _ _ _ _ _ _ _ _ _ _ _ _ _ _ _ _ a b=>cM a (az (b-1)) fun b=>some (D3 b)
def bP:List PV→Option PV|[p0]=>gm bk p0|_=>none
def fY:iT (ajn):=fun(a,b,c,d,e,f,g,h,i,j,k,l,m,n,o,p,q,r,s,t,u,v,_)=>fun w=>if decide (d<c)then cM b d fun x=>kO x 4 fun y=>eO (y==a) (aJ x 0 fun y=>dA f fun z=>some (y==z)) fun z=>eO z (aJ x 1 fun z=>dA h fun y=>some (z==y)) fun y=>eO y (aJ x 2 fun y=>dA o fun z=>some (y==z)) fun z=>eO z (aJ x 3 fun z=>dA p fun x=>some (z==x)) fun x=>if x then some (PV.bool true)else w (a,b,c,az (d+1),e,f,g,h,i,j,k,l,m,n,o,p,q,r,s,t,u,v,())
else some (PV.bool false)
def iL(L:bD)(p0 p1:PV):Option PV:=qR p0 fun a b c d e f g h i j k l m n o p q r s t u=>mcb p1 fun v=>eY bP [kN a b c d e f g h i j k l m n o p q r s t u] fun w=>lV 9 w fun _=>eY aF [kN a b c d e f g h i j k l m n o p q r s t u] fun u=>lV 9 u fun _=>L.run fY (v,d,(↑d.length:Int),0,w 0,w 1,w 2,w 3,w 4,w 5,w 6,w 7,w 8,u 0,u 1,u 2,u 3,u 4,u 5,u 6,u 7,u 8,())
def cV:List PV→Option PV|[p0,p1]=>iL bk p0 p1|_=>none
def iM(L:bD)(p0:PV):Option PV:=qR p0 fun a b c d e f g h i j k l m n o p q r s t u=>bif Hv false (u==0)then eY aF [kN a b c d e f g h i j k l m n o p q r s t u] fun v=>lV 9 v fun _=>kO v 0 fun v=>bif Hv false !v then eY aF [kN a b c d e f g h i j k l m n o p q r s t u] fun v=>lV 9 v fun _=>kO v 8 fun v=>if v then some (PV.int .i64 0)else eY bP [kN a b c d e f g h i j k l m n o p q r s t u] fun v=>lV 9 v fun _=>eY aF [kN a b c d e f g h i j k l m n o p q r s t u] fun w=>lV 9 w fun _=>kO v 0 fun x=>if(!x)then aJ w 6 fun x=>aJ v 7 fun y=>if decide (x<y)then some (PV.int .i64 28)else some (PV.int .i64 0)else aJ w 6 fun y=>aJ v 7 fun x=>aJ w 4 fun z=>cM a z fun z=>aJ z 3 fun z=>dB (decide (y≥az (x+z))) (aJ w 6 fun z=>aJ v 7 fun v=>eO (decide (z≥v)) (gL cV [kN a b c d e f g h i j k l m n o p q r s t u,.bool false] fun v=>some v) fun v=>some v) fun v=>if v then some (PV.int .i64 0)else some (PV.int .i64 28)else some (PV.int .i64 0)else some (PV.int .i64 0)
def cW:List PV→Option PV|[p0]=>iM bk p0|_=>none
def fD(L:bD)(p0:PV):Option PV:=qR p0 fun a b c d e f g h i j k l m n o p q r s t u=>if decide (u>0)then some (PV.int .i64 0)else eY aF [kN a b c d e f g h i j k l m n o p q r s t u] fun u=>lV 9 u fun _=>aJ u 4 fun r=>if(r !=j)then some (PV.int .i64 24)else kO u 8 fun r=>if r then some (PV.int .i64 19)else kO u 0 fun r=>eO (!r) (some !(↑t.length:Int)==1) fun r=>eO r (cM t 1 fun r=>kO r 0 fun r=>some r) fun r=>eO r (cM t 1 fun r=>aJ r 6 fun r=>aJ u 7 fun q=>some (r !=q)) fun q=>if q then some (PV.int .i64 10)else kO u 0 fun q=>eO (!q) (some ((↑t.length:Int)==1)) fun q=>eO q (eO (!m) (aJ u 6 fun q=>some (q !=l)) fun q=>dB q (eO m (aJ u 7 fun q=>some (q !=l)) fun q=>some q) fun q=>some q) fun q=>if q then some (PV.int .i64 10)else eO (!m) (aJ u 6 fun q=>some (decide (q<l))) fun q=>if q then some (PV.int .i64 10)else eO (!m) (some s) fun q=>eO q (kO u 0 fun q=>some q) fun q=>eO q (aJ u 6 fun q=>cM a j fun j=>aJ j 3 fun j=>some (decide (q<az (l+j)))) fun j=>if j then some (PV.int .i64 28)else some (PV.int .i64 0)
def cq:List PV→Option PV|[p0]=>fD bk p0|_=>none
end
end Go.Ab
