import Derived.Test.YtbjldjihpekhaaaGreatTc
/- kin.Copy; commands carried out: told by functions on data. No conditions. -/
set_option linter.unusedVariables false
set_option maxRecDepth 100000
set_option maxHeartbeats 0
noncomputable section
namespace Go.DI.S
open Go.Proofs
def c_82:Code:=Tryz.f187.body.getD .skip
def T_82:Tb:=mkTb tyT mpT [E_90,E_46]
theorem T_82_ok:T_82.Ok CT.P:=mkTb_ok (⟨e_90,e_46,trivial⟩)
def l_82_3:Code:=atLoop c_82 3
abbrev LD_82_3:LayD:=⟨23,[(0,.own tThing 0),(7,.own tThing 0),(8,.data I),(9,.data I)],[.row 68 tThing],fun s=>[slotR s 0]⟩
abbrev LA_82_3:LayD:=⟨23,[(0,.own tThing 0)],[.row 68 tThing],fun s=>[slotR s 0]⟩
abbrev LB_82_3:LayD:=⟨23,[],[],fun _=>[]⟩
def EX_82_3:Exits 0 LA_82_3.El LB_82_3.El:=⟨.exit 0,LA_82_3.lay [],.ret,LB_82_3.lay []⟩
def G_82_3 (r8:Ty.El I)(r9:Ty.El I)(b0:List (Ty.El tThing)):Option (LD_82_3.El⊕(LA_82_3.El⊕LB_82_3.El)):=bif decide (r9<r8) then bif decide ((0:Int)≤r9∧r9<(↑b0.length:Int)) then(F_46 (b0.getD (Int.toNat r9) tThing.dflt).2.2.2.2).bind fun v2=>bif decide ((0:Int)≤r9∧r9<(↑b0.length:Int)) then some (Sum.inl (((),(),r8,IntKind.i64.wrap (r9+(1:Int)),()),b0.set (Int.toNat r9) ((b0.getD (Int.toNat r9) tThing.dflt).1,(b0.getD (Int.toNat r9) tThing.dflt).2.1,(b0.getD (Int.toNat r9) tThing.dflt).2.2.1,(b0.getD (Int.toNat r9) tThing.dflt).2.2.2.1,v2.1),())) else none else none else some (Sum.inr (Sum.inl (((),()),b0,())))
theorem g_82_3 (x:LD_82_3.El):codeT CT T_82 (drT CT T_82) lp0 l_82_3 (LD_82_3.enc x) (bodyK (LD_82_3.lay []) EX_82_3)=G_82_3 x.1.2.2.1 x.1.2.2.2.1 x.2.1:=by kernel_rfl
def R_82_3:LD_82_3.El→Option (LA_82_3.El⊕LB_82_3.El):=roundsT (fun x=>G_82_3 x.1.2.2.1 x.1.2.2.2.1 x.2.1) fuel
def lp_82 {β:Type}:LpT β:=fun k s K=>if Nat.beq k 3 then lpOne (LD_82_3.lay []) EX_82_3 R_82_3 s K else none
theorem lp_82_ok {β:Type}:LpTOk CT (lp_82 (β:=β)) (loopsOf c_82):=LpTOk.is [(3,l_82_3)] (by kernel_rfl) (LpTOk.cons (fun s K z h=>lpG CT_ok T_82_ok (lp0_ok (by kernel_rfl)) (L:=LD_82_3.lay []) (E:=EX_82_3) g_82_3 rfl rfl rfl rfl h) (LpTOk.nil))
def F_82 (a1:Ty.El (.list tThing)):Option (List (Ty.El tThing)):=(F_90 a1).bind fun v2=>(R_82_3 (((),(),(↑v2.length:Int),(0:Int),()),v2,())).bind fun v4=>Sum.elim (fun v5=>some v5.2.1) (fun v6=>none) v4
theorem f_82 (x:Ps [.ty (.list tThing)]):funcO CT T_82 68 tThing (drT CT T_82) lp_82 Tryz.f187 c_82 (encPs [.ty (.list tThing)] x)=F_82 x.1:=by kernel_rfl
def E_82:Ent:=.own 187 [] ⟨[.ty (.list tThing)],68,tThing,fun x=>F_82 x.1⟩
theorem e_82:E_82.Ok CT.P:=Ent.ofOwn CT_ok T_82_ok (by kernel_rfl) (by kernel_rfl) lp_82_ok f_82
def F_37o (a1:Ty.El tScene)(a2:Ty.El I):Option (List (Ty.El I)):=(F_20 a1).bind fun v2=>bif !v2.1 then some [] else(F_73 a1 a2).bind fun v4=>(F_74 v4).bind fun v6=>some v6.2.1
def E_37o:Ent:=.own 173 [] ⟨[.ty tScene,.ty I],3,I,fun x=>F_37o x.1 x.2.1⟩
theorem e_37o:E_37o.Ok CT.P:=own0 CT_ok (tb (l:=[E_20,E_73,E_74]) ⟨e_20,e_73,e_74,trivial⟩) Tryz.f173 (by kernel_rfl) (by kernel_rfl) (by kernel_rfl) fun x=>by kernel_rfl
def c_81:Code:=Tryz.f186.body.getD .skip
def T_81:Tb:=mkTb tyT mpT [E_59]
theorem T_81_ok:T_81.Ok CT.P:=mkTb_ok (⟨e_59,trivial⟩)
def l_81_3:Code:=atLoop c_81 3
abbrev LD_81_3:LayD:=⟨46,[(1,.data (.list I)),(5,.own I 0),(9,.data (.list tThing)),(10,.data I),(11,.data I)],[.row 3 I],fun s=>[slotR s 5]⟩
abbrev LA_81_3:LayD:=⟨46,[(5,.own I 0)],[.row 3 I],fun s=>[slotR s 5]⟩
abbrev LB_81_3:LayD:=⟨46,[],[],fun _=>[]⟩
def EX_81_3:Exits 0 LA_81_3.El LB_81_3.El:=⟨.exit 0,LA_81_3.lay [.nilReg 5 3 I],.ret,LB_81_3.lay []⟩
def G_81_3 (r1:Ty.El (.list I))(r9:Ty.El (.list tThing))(r10:Ty.El I)(r11:Ty.El I)(b0:List (Ty.El I)):Option (LD_81_3.El⊕(LA_81_3.El⊕LB_81_3.El)):=bif decide (r11<r10) then bif decide ((0:Int)≤r11∧r11<(↑(List.length r9):Int)) then bif(List.getD r9 (Int.toNat r11) tThing.dflt).2.1==(2:Int) then(F_59 r1 (List.getD r9 (Int.toNat r11) tThing.dflt).1).bind fun v2=>bif !v2.1 then(F_59 r1 (List.getD r9 (Int.toNat r11) tThing.dflt).2.2.2.1.1).bind fun v4=>bif v4.1 then(F_59 r1 (List.getD r9 (Int.toNat r11) tThing.dflt).2.2.2.1.2.1).bind fun v6=>bif v6.1 then bif((b0.length+[(List.getD r9 (Int.toNat r11) tThing.dflt).1].length)*(8:Nat)).ble (70368744177664:Nat) then some (Sum.inl ((r1,(),r9,r10,IntKind.i64.wrap (r11+(1:Int)),()),b0++[(List.getD r9 (Int.toNat r11) tThing.dflt).1],())) else none else some (Sum.inl ((r1,(),r9,r10,IntKind.i64.wrap (r11+(1:Int)),()),b0,())) else some (Sum.inl ((r1,(),r9,r10,IntKind.i64.wrap (r11+(1:Int)),()),b0,())) else some (Sum.inl ((r1,(),r9,r10,IntKind.i64.wrap (r11+(1:Int)),()),b0,())) else some (Sum.inl ((r1,(),r9,r10,IntKind.i64.wrap (r11+(1:Int)),()),b0,())) else none else some (Sum.inr (Sum.inl (((),()),b0,())))
theorem g_81_3 (x:LD_81_3.El):codeT CT T_81 (drT CT T_81) lp0 l_81_3 (LD_81_3.enc x) (bodyK (LD_81_3.lay [.nilReg 5 3 I]) EX_81_3)=G_81_3 x.1.1 x.1.2.2.1 x.1.2.2.2.1 x.1.2.2.2.2.1 x.2.1:=by kernel_rfl
def R_81_3:LD_81_3.El→Option (LA_81_3.El⊕LB_81_3.El):=roundsT (fun x=>G_81_3 x.1.1 x.1.2.2.1 x.1.2.2.2.1 x.1.2.2.2.2.1 x.2.1) fuel
def lp_81 {β:Type}:LpT β:=fun k s K=>if Nat.beq k 3 then lpOne (LD_81_3.lay [.nilReg 5 3 I]) EX_81_3 R_81_3 s K else none
theorem lp_81_ok {β:Type}:LpTOk CT (lp_81 (β:=β)) (loopsOf c_81):=LpTOk.is [(3,l_81_3)] (by kernel_rfl) (LpTOk.cons (fun s K z h=>lpG CT_ok T_81_ok (lp0_ok (by kernel_rfl)) (L:=LD_81_3.lay [.nilReg 5 3 I]) (E:=EX_81_3) g_81_3 rfl rfl rfl rfl h) (LpTOk.nil))
def F_81 (a1:Ty.El tScene)(a2:Ty.El (.list I)):Option (List (Ty.El I)):=(R_81_3 ((a2,(),a1.2.2,(↑(List.length a1.2.2):Int),(0:Int),()),[],())).bind fun v1=>Sum.elim (fun v2=>some v2.2.1) (fun v3=>none) v1
theorem f_81 (x:Ps [.ty tScene,.ty (.list I)]):funcO CT T_81 3 I (drT CT T_81) lp_81 Tryz.f186 c_81 (encPs [.ty tScene,.ty (.list I)] x)=F_81 x.1 x.2.1:=by kernel_rfl
def E_81:Ent:=.own 186 [] ⟨[.ty tScene,.ty (.list I)],3,I,fun x=>F_81 x.1 x.2.1⟩
theorem e_81:E_81.Ok CT.P:=Ent.ofOwn CT_ok T_81_ok (by kernel_rfl) (by kernel_rfl) lp_81_ok f_81
abbrev IN_123:LayD:=⟨2,[(0,.map 0),(1,.data I)],[.tmap I I],fun s=>[slotR s 0]⟩
abbrev OUT_123:LayD:=⟨1,[(0,.data I)],[.tmap I I],fun _=>[0]⟩
def F_123 (a1:Ty.El I)(b0:List (Ty.El I×Ty.El I)):Option OUT_123.El:=bif(tget I I a1 b0).isSome then some (((tget I I a1 b0).getD (0:Int),()),b0,()) else some ((a1,()),b0,())
def E_123:Ent:=.mkGen 230 [] ⟨1,[],IN_123,OUT_123,fun x=>F_123 x.1.2.1 x.2.1⟩
theorem e_123:E_123.Ok CT.P:=gen0 (C:=(CTp 1)) (CTp_ok 1) (tb (l:=[]) trivial) [] Tryz.f230 (by kernel_rfl) (by kernel_rfl) (by kernel_rfl) fun x=>by kernel_rfl
def c_85:Code:=Tryz.f189.body.getD .skip
abbrev IN_85:LayD:=⟨3,[(0,.map 0),(1,.data tThing),(2,.data tVec)],[.tmap I I],fun s=>[slotR s 0]⟩
abbrev OUT_85:LayD:=⟨1,[(0,.data tThing)],[.tmap I I],fun _=>[0]⟩
def T_85:Tb:=mkTb tyT mpT [E_46o,E_123,E_124,E_88]
theorem T_85_ok:T_85.Ok CT.P:=mkTb_ok (⟨e_46o,e_123,e_124,e_88,trivial⟩)
def l_85_11:Code:=atLoop c_85 11
abbrev LD_85_11:LayD:=⟨68,[(0,.map 0),(4,.ptr 1),(6,.ptr 3),(52,.own I 2),(53,.data I),(54,.data I)],[.tmap I I,.var 68 [.data I,.data I,.data tBody,.data tJoint,.own I 2],.row 3 I,.var 68 [.data tThing]],fun s=>[0,slotR s 4,slotC s 4 13,slotR s 6]⟩
abbrev LA_85_11:LayD:=⟨68,[(4,.ptr 1),(6,.ptr 3)],[.tmap I I,.var 68 [.data I,.data I,.data tBody,.data tJoint,.own I 2],.row 3 I,.var 68 [.data tThing]],fun s=>[0,slotR s 4,slotC s 4 13,slotR s 6]⟩
abbrev LB_85_11:LayD:=⟨68,[],[],fun _=>[]⟩
def EX_85_11:Exits 1 LA_85_11.El LB_85_11.El:=⟨.exit 1,LA_85_11.lay [.nilCell 4 13 3 I],.ret,LB_85_11.lay []⟩
def G_85_11 (r53:Ty.El I)(r54:Ty.El I)(b0:List (Ty.El I×Ty.El I))(b1:Ty.El I×Ty.El I×Ty.El tBody×Ty.El tJoint×Unit×Unit)(b2:List (Ty.El I))(b3:Ty.El tThing×Unit):Option (LD_85_11.El⊕((LA_85_11.El⊕LB_85_11.El)⊕Int)):=bif decide (r54<r53) then bif decide ((0:Int)≤r54∧r54<(↑b2.length:Int)) then(F_123 (b2.getD (Int.toNat r54) (0:Int)) b0).bind fun v2=>bif decide ((0:Int)≤r54∧r54<(↑b2.length:Int)) then some (Sum.inl (((),(),(),(),r53,IntKind.i64.wrap (r54+(1:Int)),()),v2.2.1,(b1.1,b1.2.1,b1.2.2.1,b1.2.2.2.1,(),()),b2.set (Int.toNat r54) v2.1.1,(b3.1,()),())) else none else none else some (Sum.inr (Sum.inl (Sum.inl (((),(),()),b0,(b1.1,b1.2.1,b1.2.2.1,b1.2.2.2.1,(),()),b2,(b3.1,()),()))))
theorem g_85_11 (x:LD_85_11.El):codeT (CTp 1) T_85 (drT (CTp 1) T_85) lp0 l_85_11 (LD_85_11.enc x) (bodyKP (LD_85_11.lay [.nilCell 4 13 3 I]) EX_85_11 239 68)=G_85_11 x.1.2.2.2.2.1 x.1.2.2.2.2.2.1 x.2.1 x.2.2.1 x.2.2.2.1 x.2.2.2.2.1:=by kernel_rfl
def R_85_11:LD_85_11.El→Option ((LA_85_11.El⊕LB_85_11.El)⊕Int):=roundsT (fun x=>G_85_11 x.1.2.2.2.2.1 x.1.2.2.2.2.2.1 x.2.1 x.2.2.1 x.2.2.2.1 x.2.2.2.2.1) fuel
def lp_85 {β:Type}:LpT β:=fun k s K=>if Nat.beq k 11 then lpOneP (LD_85_11.lay [.nilCell 4 13 3 I]) EX_85_11 239 68 R_85_11 s K else none
theorem lp_85_ok {β:Type}:LpTOk (CTp 1) (lp_85 (β:=β)) (loopsOf c_85):=LpTOk.is [(11,l_85_11)] (by kernel_rfl) (LpTOk.cons (fun s K z h=>lpGP (CTp_ok 1) T_85_ok (lp0_ok (by kernel_rfl)) (L:=LD_85_11.lay [.nilCell 4 13 3 I]) (E:=EX_85_11) g_85_11 rfl rfl rfl rfl h) (LpTOk.nil))
def F_85 (a1:Ty.El tThing)(a2:Ty.El tVec)(b0:List (Ty.El I×Ty.El I)):Option (OUT_85.El⊕Int):=(F_123 a1.1 b0).bind fun v2=>bif a1.2.1==(1:Int) then(F_124 a1.2.2.1.2.2.2.1 a2).bind fun v4=>Sum.elim (fun v6=>(F_88 (a1.2.2.1.1,a1.2.2.1.2.1,a1.2.2.1.2.2.1,v6.1,a1.2.2.1.2.2.2.2)).bind fun v8=>bif !v8.1 then some (Sum.inr (3:Int)) else(F_46o a1.2.2.2.2).bind fun v10=>(R_85_11 (((),(),(),(),(↑v10.length:Int),(0:Int),()),v2.2.1,(v2.1.1,a1.2.1,(a1.2.2.1.1,a1.2.2.1.2.1,a1.2.2.1.2.2.1,v6.1,a1.2.2.1.2.2.2.2),a1.2.2.2.1,(),()),v10,(((0:Int),(0:Int),((0:Int),((0:Int),(0:Int)),(0:Int),((0:Int),(0:Int)),(0:Int),(0:Int)),((0:Int),(0:Int),(0:Int)),[]),()),())).bind fun v16=>Sum.elim (fun v17=>Sum.elim (fun v18=>some (Sum.inl (((v18.2.2.1.1,v18.2.2.1.2.1,v18.2.2.1.2.2.1,v18.2.2.1.2.2.2.1,v18.2.2.2.1),()),v18.2.1,()))) (fun v19=>none) v17) (fun v20=>some (Sum.inr v20)) v16) (fun v21=>some (Sum.inr v21)) v4 else bif a1.2.1==(2:Int) then(F_123 a1.2.2.2.1.1 v2.2.1).bind fun v25=>(F_123 a1.2.2.2.1.2.1 v25.2.1).bind fun v29=>(F_46o a1.2.2.2.2).bind fun v31=>(R_85_11 (((),(),(),(),(↑v31.length:Int),(0:Int),()),v29.2.1,(v2.1.1,a1.2.1,a1.2.2.1,(v25.1.1,v29.1.1,a1.2.2.2.1.2.2),(),()),v31,(((0:Int),(0:Int),((0:Int),((0:Int),(0:Int)),(0:Int),((0:Int),(0:Int)),(0:Int),(0:Int)),((0:Int),(0:Int),(0:Int)),[]),()),())).bind fun v41=>Sum.elim (fun v42=>Sum.elim (fun v43=>some (Sum.inl (((v43.2.2.1.1,v43.2.2.1.2.1,v43.2.2.1.2.2.1,v43.2.2.1.2.2.2.1,v43.2.2.2.1),()),v43.2.1,()))) (fun v44=>none) v42) (fun v45=>some (Sum.inr v45)) v41 else(F_46o a1.2.2.2.2).bind fun v47=>(R_85_11 (((),(),(),(),(↑v47.length:Int),(0:Int),()),v2.2.1,(v2.1.1,a1.2.1,a1.2.2.1,a1.2.2.2.1,(),()),v47,(((0:Int),(0:Int),((0:Int),((0:Int),(0:Int)),(0:Int),((0:Int),(0:Int)),(0:Int),(0:Int)),((0:Int),(0:Int),(0:Int)),[]),()),())).bind fun v53=>Sum.elim (fun v54=>Sum.elim (fun v55=>some (Sum.inl (((v55.2.2.1.1,v55.2.2.1.2.1,v55.2.2.1.2.2.1,v55.2.2.1.2.2.2.1,v55.2.2.2.1),()),v55.2.1,()))) (fun v56=>none) v54) (fun v57=>some (Sum.inr v57)) v53
theorem f_85 (x:IN_85.El):funcXP (CTp 1) T_85 239 IN_85 OUT_85 [.frzReg 0 tThing] (drT (CTp 1) T_85) lp_85 Tryz.f189 c_85 x=F_85 x.1.2.1 x.1.2.2.1 x.2.1:=by kernel_rfl
def E_85:Ent:=.mkGenP 189 [] ⟨239,1,[],IN_85,OUT_85,fun x=>F_85 x.1.2.1 x.1.2.2.1 x.2.1⟩
theorem e_85:E_85.Ok CT.P:=Ent.ofGenP (C:=(CTp 1)) (steps:=[]) (osteps:=[.frzReg 0 tThing]) (CTp_ok 1) T_85_ok (by kernel_rfl) (by kernel_rfl) lp_85_ok f_85
def c_84:Code:=Tryz.f188.body.getD .skip
theorem hb_84:Tryz.f188.body=some c_84:=by kernel_rfl
theorem hf_84:CT.P.funcs[188]?=some Tryz.f188:=by kernel_rfl
abbrev IN_84:LayD:=⟨5,[(0,.ptr 0),(1,.ptr 1),(2,.ptr 2),(3,.ptr 3),(4,.ptr 4)],[.var 23 [.data (.list I)],.var 51 [.data tScene],.var 49 [.own tThing 5],.var 244 [.map 6],.var 48 [.data tVec],.row 68 tThing,.tmap I I],fun s=>[slotR s 0,slotR s 1,slotR s 2,slotR s 3,slotR s 4,slotC s 2 0,slotC s 3 0]⟩
abbrev OUT_84:LayD:=⟨0,[],[.var 23 [.data (.list I)],.var 51 [.data tScene],.var 49 [.own tThing 5],.var 244 [.map 6],.var 48 [.data tVec],.row 68 tThing,.tmap I I],fun s=>[0,1,2,3,4,slotH s 2 0,slotH s 3 0]⟩
def T_84:Tb:=mkTb tyT mpT [E_23,E_85]
theorem T_84_ok:T_84.Ok CT.P:=mkTb_ok (⟨e_23,e_85,trivial⟩)
def l_84_1:Code:=atLoop c_84 1
abbrev LD_84_1:LayD:=⟨29,[(1,.ptr 1),(2,.ptr 2),(3,.ptr 3),(4,.ptr 4),(9,.data (.list I)),(10,.data I),(11,.data I)],[.var 23 [.data (.list I)],.var 51 [.data tScene],.var 49 [.own tThing 5],.var 244 [.map 6],.var 48 [.data tVec],.row 68 tThing,.tmap I I],fun s=>[0,1,2,3,4,slotH s 2 0,slotH s 3 0]⟩
abbrev LA_84_1:LayD:=⟨29,[],[.var 23 [.data (.list I)],.var 51 [.data tScene],.var 49 [.own tThing 5],.var 244 [.map 6],.var 48 [.data tVec],.row 68 tThing,.tmap I I],fun s=>[0,1,2,3,4,slotH s 2 0,slotH s 3 0]⟩
abbrev LB_84_1:LayD:=⟨29,[],[],fun _=>[]⟩
def EX_84_1:Exits 5 LA_84_1.El LB_84_1.El:=⟨.exit 0,LA_84_1.lay [],.ret,LB_84_1.lay []⟩
def G_84_1 (r9:Ty.El (.list I))(r10:Ty.El I)(r11:Ty.El I)(b0:Ty.El (.list I)×Unit)(b1:Ty.El tScene×Unit)(b2:Unit×Unit)(b3:Unit×Unit)(b4:Ty.El tVec×Unit)(b5:List (Ty.El tThing))(b6:List (Ty.El I×Ty.El I)):Option (LD_84_1.El⊕((LA_84_1.El⊕LB_84_1.El)⊕Int)):=bif decide (r11<r10) then bif decide ((0:Int)≤r11∧r11<(↑(List.length r9):Int)) then(F_23 b1.1 (List.getD r9 (Int.toNat r11) (0:Int))).bind fun v2=>(F_85 v2.1 b4.1 b6).bind fun v4=>Sum.elim (fun v6=>bif((b5.length+[v6.1.1].length)*(128:Nat)).ble (70368744177664:Nat) then some (Sum.inl (((),(),(),(),r9,r10,IntKind.i64.wrap (r11+(1:Int)),()),(b0.1,()),(b1.1,()),((),()),((),()),(b4.1,()),b5++[v6.1.1],v6.2.1,())) else none) (fun v13=>some (Sum.inr (Sum.inr v13))) v4 else none else some (Sum.inr (Sum.inl (Sum.inl ((),(b0.1,()),(b1.1,()),((),()),((),()),(b4.1,()),b5,b6,()))))
theorem g_84_1 (x:LD_84_1.El):codeT (CTp 5) T_84 (drT (CTp 5) T_84) lp0 l_84_1 (LD_84_1.enc x) (bodyKP (LD_84_1.lay []) EX_84_1 239 29)=G_84_1 x.1.2.2.2.2.1 x.1.2.2.2.2.2.1 x.1.2.2.2.2.2.2.1 x.2.1 x.2.2.1 x.2.2.2.1 x.2.2.2.2.1 x.2.2.2.2.2.1 x.2.2.2.2.2.2.1 x.2.2.2.2.2.2.2.1:=by kernel_rfl
def R_84_1:LD_84_1.El→Option ((LA_84_1.El⊕LB_84_1.El)⊕Int):=roundsT (fun x=>G_84_1 x.1.2.2.2.2.1 x.1.2.2.2.2.2.1 x.1.2.2.2.2.2.2.1 x.2.1 x.2.2.1 x.2.2.2.1 x.2.2.2.2.1 x.2.2.2.2.2.1 x.2.2.2.2.2.2.1 x.2.2.2.2.2.2.2.1) fuel
def lp_84 {β:Type}:LpT β:=fun k s K=>if Nat.beq k 1 then lpOneP (LD_84_1.lay []) EX_84_1 239 29 R_84_1 s K else none
theorem lp_84_ok {β:Type}:LpTOk (CTp 5) (lp_84 (β:=β)) (loopsOf c_84):=LpTOk.is [(1,l_84_1)] (by kernel_rfl) (LpTOk.cons (fun s K z h=>lpGP (CTp_ok 5) T_84_ok (lp0_ok (by kernel_rfl)) (L:=LD_84_1.lay []) (E:=EX_84_1) g_84_1 rfl rfl rfl rfl h) (LpTOk.nil))
def F_84 (b0:Ty.El (.list I)×Unit)(b1:Ty.El tScene×Unit)(b2:Unit×Unit)(b3:Unit×Unit)(b4:Ty.El tVec×Unit)(b5:List (Ty.El tThing))(b6:List (Ty.El I×Ty.El I)):Option (OUT_84.El⊕Int):=(R_84_1 (((),(),(),(),b0.1,(↑(List.length b0.1):Int),(0:Int),()),(b0.1,()),(b1.1,()),((),()),((),()),(b4.1,()),b5,b6,())).bind fun v1=>Sum.elim (fun v2=>Sum.elim (fun v3=>some (Sum.inl ((),(v3.2.1.1,()),(v3.2.2.1.1,()),((),()),((),()),(v3.2.2.2.2.2.1.1,()),v3.2.2.2.2.2.2.1,v3.2.2.2.2.2.2.2.1,()))) (fun v4=>none) v2) (fun v5=>some (Sum.inr v5)) v1
theorem f_84 (x:IN_84.El):funcXP (CTp 5) T_84 239 IN_84 OUT_84 [] (drT (CTp 5) T_84) lp_84 Tryz.f188 c_84 x=F_84 x.2.1 x.2.2.1 x.2.2.2.1 x.2.2.2.2.1 x.2.2.2.2.2.1 x.2.2.2.2.2.2.1 x.2.2.2.2.2.2.2.1:=by kernel_rfl
abbrev IN_83:LayD:=⟨1,[(0,.cloP 188 [0,1,2,3,4])],[.var 23 [.data (.list I)],.var 51 [.data tScene],.var 49 [.own tThing 5],.var 244 [.map 6],.var 48 [.data tVec],.row 68 tThing,.tmap I I],fun s=>[slotFk s 0 0,slotFk s 0 1,slotFk s 0 2,slotFk s 0 3,slotFk s 0 4,slotH s (slotFk s 0 2) 0,slotH s (slotFk s 0 3) 0]⟩
abbrev OUT_83:LayD:=⟨1,[(0,.data I)],[.var 23 [.data (.list I)],.var 51 [.data tScene],.var 49 [.own tThing 5],.var 244 [.map 6],.var 48 [.data tVec],.row 68 tThing,.tmap I I],fun s=>[0,1,2,3,4,slotH s 2 0,slotH s 3 0]⟩
def F_83 (b0:Ty.El (.list I)×Unit)(b1:Ty.El tScene×Unit)(b2:Unit×Unit)(b3:Unit×Unit)(b4:Ty.El tVec×Unit)(b5:List (Ty.El tThing))(b6:List (Ty.El I×Ty.El I)):Option (OUT_83.El⊕Int):=(F_84 b0 b1 b2 b3 b4 b5 b6).bind fun y=>Sum.elim (fun y=>some (.inl ((0,()),y.2))) (fun e=>some (.inr e)) y
def E_83:Ent:=.mkTry 178 [188] ⟨5,[],IN_83,OUT_83,fun x=>F_83 x.2.1 x.2.2.1 x.2.2.2.1 x.2.2.2.2.1 x.2.2.2.2.2.1 x.2.2.2.2.2.2.1 x.2.2.2.2.2.2.2.1⟩
theorem ge_84:GenPE.Ok CT.P 188 ⟨239,5,[],IN_84,OUT_84,fun x=>F_84 x.2.1 x.2.2.1 x.2.2.2.1 x.2.2.2.2.1 x.2.2.2.2.2.1 x.2.2.2.2.2.2.1 x.2.2.2.2.2.2.2.1⟩:=
 funcXP_ok (C:=CTp 5) (osteps:=[]) (CTp_ok 5) T_84_ok (drT_ok (CTp_ok 5) T_84_ok) hf_84 hb_84 lp_84_ok f_84
theorem e_83:E_83.Ok CT.P:=Ent.mkTry_ok (by
 refine tryE_188 (is:=[0,1,2,3,4]) (F2:=fun x=>F_83 x.2.1 x.2.2.1 x.2.2.2.1 x.2.2.2.2.1 x.2.2.2.2.2.1 x.2.2.2.2.2.2.1 x.2.2.2.2.2.2.2.1) (fun x b=>rfl) ((),(),(),(),(),()) (fun x y h=>?_) (fun x e h=>?_) ge_84
 ·have h:F_83 x.2.1 x.2.2.1 x.2.2.2.1 x.2.2.2.2.1 x.2.2.2.2.2.1 x.2.2.2.2.2.2.1 x.2.2.2.2.2.2.2.1=some (.inl y):=h
  unfold F_83 at h
  obtain⟨z,hz,h⟩:=Option.bind_eq_some_iff.1 h
  cases z with
  | inl z=>cases h;exact⟨hz,rfl⟩
  | inr e=>cases h
 ·have h:F_83 x.2.1 x.2.2.1 x.2.2.2.1 x.2.2.2.2.1 x.2.2.2.2.2.1 x.2.2.2.2.2.2.1 x.2.2.2.2.2.2.2.1=some (.inr e):=h
  unfold F_83 at h
  obtain⟨z,hz,h⟩:=Option.bind_eq_some_iff.1 h
  cases z with
  | inl z=>cases h
  | inr e=>cases h;exact hz)
def c_42:Code:=Tryz.f138.body.getD .skip
def T_42:Tb:=mkTb tyT mpT [E_20,E_23h,E_37o,E_81,E_82,E_83]
theorem T_42_ok:T_42.Ok CT.P:=mkTb_ok (⟨e_20,e_23,e_37o,e_81,e_82,e_83,trivial⟩)
def l_42_14:Code:=atLoop c_42 14
abbrev LD_42_14:LayD:=⟨97,[(1,.data I),(3,.ptr 0),(5,.ptr 1),(6,.ptr 2),(11,.ptr 3),(12,.ptr 5),(62,.own I 4),(63,.data I),(64,.data I)],[.var 51 [.data tScene],.var 48 [.data tVec],.var 51 [.data tScene],.var 23 [.own I 4],.row 3 I,.var 244 [.map 6],.tmap I I],fun s=>[slotR s 3,slotR s 5,slotR s 6,slotR s 11,slotC s 11 0,slotR s 12,slotC s 12 0]⟩
abbrev LA_42_14:LayD:=⟨97,[(1,.data I),(3,.ptr 0),(5,.ptr 1),(6,.ptr 2),(11,.ptr 3),(12,.ptr 4)],[.var 51 [.data tScene],.var 48 [.data tVec],.var 51 [.data tScene],.var 23 [.data (.list I)],.var 244 [.map 5],.tmap I I],fun s=>[slotR s 3,slotR s 5,slotR s 6,slotR s 11,slotR s 12,slotC s 12 0]⟩
abbrev LB_42_14:LayD:=⟨97,[],[],fun _=>[]⟩
def EX_42_14:Exits 0 LA_42_14.El LB_42_14.El:=⟨.exit 1,LA_42_14.lay [.frzCell 11 0 (.list I)],.ret,LB_42_14.lay []⟩
def G_42_14 (r1:Ty.El I)(r63:Ty.El I)(r64:Ty.El I)(b0:Ty.El tScene×Unit)(b1:Ty.El tVec×Unit)(b2:Ty.El tScene×Unit)(b3:Unit×Unit)(b4:List (Ty.El I))(b5:Unit×Unit)(b6:List (Ty.El I×Ty.El (I))):Option (LD_42_14.El⊕(LA_42_14.El⊕LB_42_14.El)):=bif decide (r64<r63) then bif decide ((0:Int)≤r64∧r64<(↑b4.length:Int)) then some (Sum.inl ((r1,(),(),(),(),(),(),r63,IntKind.i64.wrap (r64+(1:Int)),()),(b0.1,()),(b1.1,()),(b2.1,()),((),()),b4,((),()),tput I I (b4.getD (Int.toNat r64) (0:Int)) (IntKind.i64.wrap (b0.1.2.1+r64)) b6,())) else none else some (Sum.inr (Sum.inl ((r1,(),(),(),(),(),()),(b0.1,()),(b1.1,()),(b2.1,()),(b4,()),((),()),b6,())))
theorem g_42_14 (x:LD_42_14.El):codeT CT T_42 (drT CT T_42) lp0 l_42_14 (LD_42_14.enc x) (bodyK (LD_42_14.lay []) EX_42_14)=G_42_14 x.1.1 x.1.2.2.2.2.2.2.2.1 x.1.2.2.2.2.2.2.2.2.1 x.2.1 x.2.2.1 x.2.2.2.1 x.2.2.2.2.1 x.2.2.2.2.2.1 x.2.2.2.2.2.2.1 x.2.2.2.2.2.2.2.1:=by kernel_rfl
def R_42_14:LD_42_14.El→Option (LA_42_14.El⊕LB_42_14.El):=roundsT (fun x=>G_42_14 x.1.1 x.1.2.2.2.2.2.2.2.1 x.1.2.2.2.2.2.2.2.2.1 x.2.1 x.2.2.1 x.2.2.2.1 x.2.2.2.2.1 x.2.2.2.2.2.1 x.2.2.2.2.2.2.1 x.2.2.2.2.2.2.2.1) fuel
def lp_42 {β:Type}:LpT β:=fun k s K=>if Nat.beq k 14 then lpOne (LD_42_14.lay []) EX_42_14 R_42_14 s K else none
theorem lp_42_ok {β:Type}:LpTOk CT (lp_42 (β:=β)) (loopsOf c_42):=LpTOk.is [(14,l_42_14)] (by kernel_rfl) (LpTOk.cons (fun s K z h=>lpG CT_ok T_42_ok (lp0_ok (by kernel_rfl)) (L:=LD_42_14.lay []) (E:=EX_42_14) g_42_14 rfl rfl rfl rfl h) (LpTOk.nil))
def F_42 (a1:Ty.El tScene)(a2:Ty.El I)(a3:Ty.El tVec):Option (Els [tScene,I,I]):=(F_23 a1 a2).bind fun v2=>(F_20 a1).bind fun v4=>bif !v4.1 then some ((((0:Int),(0:Int)),(0:Int),[]),(0:Int),(9:Int),()) else bif !v2.2.1 then some ((((0:Int),(0:Int)),(0:Int),[]),(0:Int),(10:Int),()) else bif v2.1.2.1==(2:Int) then some ((((0:Int),(0:Int)),(0:Int),[]),(0:Int),(9:Int),()) else(F_37o a1 a2).bind fun v6=>(F_81 a1 v6).bind fun v8=>bif((v6.length+v8.length)*(8:Nat)).ble (70368744177664:Nat) then bif decide (IntKind.i64.wrap ((↑(List.length a1.2.2):Int)+(↑(v6++v8).length:Int))>(40:Int)) then some ((((0:Int),(0:Int)),(0:Int),[]),(0:Int),(12:Int),()) else bif decide (IntKind.i64.wrap (a1.2.1+(↑(v6++v8).length:Int))>(1000001:Int)) then some ((((0:Int),(0:Int)),(0:Int),[]),(0:Int),(12:Int),()) else(R_42_14 ((a2,(),(),(),(),(),(),(↑(v6++v8).length:Int),(0:Int),()),(a1,()),(a3,()),((((0:Int),(0:Int)),(0:Int),[]),()),((),()),v6++v8,((),()),[],())).bind fun v46=>Sum.elim (fun v47=>(F_82 v47.2.1.1.2.2).bind fun v49=>(F_83 (v47.2.2.2.2.1.1,()) (v47.2.1.1,()) ((),()) ((),()) (v47.2.2.1.1,()) v49 v47.2.2.2.2.2.2.1).bind fun v51=>Sum.elim (fun v53=>bif v53.1.1 != (0:Int) then some ((((0:Int),(0:Int)),(0:Int),[]),(0:Int),v53.1.1,()) else some ((v53.2.2.1.1.1,IntKind.i64.wrap (v53.2.2.1.1.2.1+(↑(List.length v53.2.1.1):Int)),v53.2.2.2.2.2.2.1),(tget I I v47.1.1 v53.2.2.2.2.2.2.2.1).getD (0:Int),(0:Int),())) (fun v68=>bif v68 != (0:Int) then some ((((0:Int),(0:Int)),(0:Int),[]),(0:Int),v68,()) else none) v51) (fun v69=>none) v46 else none
theorem f_42 (x:Ps [.ty tScene,.ty I,.ty tVec]):funcT CT T_42 [tScene,I,I] (drT CT T_42) lp_42 Tryz.f138 c_42 (encPs [.ty tScene,.ty I,.ty tVec] x)=F_42 x.1 x.2.1 x.2.2.1:=by kernel_rfl
def E_42:Ent:=.fn 138 [] ⟨[.ty tScene,.ty I,.ty tVec],[tScene,I,I],fun x=>F_42 x.1 x.2.1 x.2.2.1,false⟩
theorem e_42:E_42.Ok CT.P:=Ent.ofFn CT_ok T_42_ok (by kernel_rfl) (by kernel_rfl) lp_42_ok f_42
end Go.DI.S
end
