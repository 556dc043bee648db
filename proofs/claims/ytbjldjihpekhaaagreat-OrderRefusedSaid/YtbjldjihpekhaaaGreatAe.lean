import Derived.Test.YtbjldjihpekhaaaGreatAd
/- What a step of a world does: told by functions on data. No conditions. -/
set_option linter.unusedVariables false
set_option maxRecDepth 100000
set_option maxHeartbeats 0
noncomputable section
namespace Go.DI.S
open Go.Proofs
def c_w74:Code:=Tryz.f265.body.getD .skip
abbrev IN_w74:LayD:=⟨1,[(0,.comp [.dat tVec,.row tBody 0,.dat (.list tJoint)])],[.row 64 tBody],fun s=>[slotA s 0 2]⟩
abbrev OUT_w74:LayD:=⟨0,[],[.row 64 tBody],fun _=>[0]⟩
def T_w74:Tb:=mkTb tyT mpT [E_w162,E_w161,E_124]
theorem T_w74_ok:T_w74.Ok CT.P:=mkTb_ok (⟨e_w162,e_w161,e_124,trivial⟩)
def l_w74_2:Code:=atLoop c_w74 2
abbrev LD_w74_2:LayD:=⟨30,[(1,.ptr 1),(5,.own tBody 0),(6,.data I),(7,.data I)],[.row 64 tBody,.var 186 [.data tVec,.own tBody 0,.data (.list tJoint)]],fun s=>[0,slotR s 1]⟩
abbrev LA_w74_2:LayD:=⟨30,[],[.row 64 tBody],fun s=>[0]⟩
abbrev LB_w74_2:LayD:=⟨30,[],[],fun _=>[]⟩
def EX_w74_2:Exits 1 LA_w74_2.El LB_w74_2.El:=⟨.exit 0,LA_w74_2.lay [],.ret,LB_w74_2.lay []⟩
def G_w74_2 (r6:Ty.El I)(r7:Ty.El I)(b0:List (Ty.El tBody))(b1:Ty.El tVec×Unit×Ty.El (.list tJoint)×Unit):Option (LD_w74_2.El⊕((LA_w74_2.El⊕LB_w74_2.El)⊕Int)):=bif decide (r7<r6) then bif decide ((0:Int)≤r7∧r7<(↑b0.length:Int)) then bif(b0.getD (Int.toNat r7) tBody.dflt).2.2.1 != (0:Int) then(F_w162 b1.1 (b0.getD (Int.toNat r7) tBody.dflt).2.2.1).bind fun v2=>Sum.elim (fun v4=>(F_w161 v4.1 (64:Int)).bind fun v6=>Sum.elim (fun v8=>(F_124 (b0.getD (Int.toNat r7) tBody.dflt).2.2.2.2 v8.1).bind fun v10=>Sum.elim (fun v12=>bif decide ((0:Int)≤r7∧r7<(↑b0.length:Int)) then some (Sum.inl (((),(),r6,IntKind.i64.wrap (r7+(1:Int)),()),b0.set (Int.toNat r7) ((b0.getD (Int.toNat r7) tBody.dflt).1,(b0.getD (Int.toNat r7) tBody.dflt).2.1,(b0.getD (Int.toNat r7) tBody.dflt).2.2.1,(b0.getD (Int.toNat r7) tBody.dflt).2.2.2.1,v12.1),(b1.1,(),b1.2.2.1,()),())) else none) (fun v13=>some (Sum.inr (Sum.inr v13))) v10) (fun v14=>some (Sum.inr (Sum.inr v14))) v6) (fun v15=>some (Sum.inr (Sum.inr v15))) v2 else some (Sum.inl (((),(),r6,IntKind.i64.wrap (r7+(1:Int)),()),b0,(b1.1,(),b1.2.2.1,()),())) else none else some (Sum.inr (Sum.inl (Sum.inl ((),b0,()))))
theorem g_w74_2 (x:LD_w74_2.El):codeT (CTp 1) T_w74 (drT (CTp 1) T_w74) lp0 l_w74_2 (LD_w74_2.enc x) (bodyKP (LD_w74_2.lay []) EX_w74_2 239 30)=G_w74_2 x.1.2.2.1 x.1.2.2.2.1 x.2.1 x.2.2.1:=by kernel_rfl
def R_w74_2:LD_w74_2.El→Option ((LA_w74_2.El⊕LB_w74_2.El)⊕Int):=roundsT (fun x=>G_w74_2 x.1.2.2.1 x.1.2.2.2.1 x.2.1 x.2.2.1) fuel
def lp_w74 {β:Type}:LpT β:=fun k s K=>if Nat.beq k 2 then lpOneP (LD_w74_2.lay []) EX_w74_2 239 30 R_w74_2 s K else none
theorem lp_w74_ok {β:Type}:LpTOk (CTp 1) (lp_w74 (β:=β)) (loopsOf c_w74):=LpTOk.is [(2,l_w74_2)] (by kernel_rfl) (LpTOk.cons (fun s K z h=>lpGP (CTp_ok 1) T_w74_ok (lp0_ok (by kernel_rfl)) (L:=LD_w74_2.lay []) (E:=EX_w74_2) g_w74_2 rfl rfl rfl rfl h) (LpTOk.nil))
def F_w74 (a0:Ty.El tVec×Unit×Ty.El (.list tJoint)×Unit)(b0:List (Ty.El tBody)):Option (OUT_w74.El⊕Int):=(R_w74_2 (((),(),(↑b0.length:Int),(0:Int),()),b0,(a0.1,(),a0.2.2.1,()),())).bind fun v1=>Sum.elim (fun v2=>Sum.elim (fun v3=>some (Sum.inl ((),v3.2.1,()))) (fun v4=>none) v2) (fun v5=>some (Sum.inr v5)) v1
theorem f_w74 (x:IN_w74.El):funcXP (CTp 1) T_w74 239 IN_w74 OUT_w74 [] (drT (CTp 1) T_w74) lp_w74 Tryz.f265 c_w74 x=F_w74 x.1.1 x.2.1:=by kernel_rfl
def E_w74:Ent:=.mkGenP 265 [] ⟨239,1,[],IN_w74,OUT_w74,fun x=>F_w74 x.1.1 x.2.1⟩
theorem e_w74:E_w74.Ok CT.P:=Ent.ofGenP (C:=(CTp 1)) (steps:=[]) (osteps:=[]) (CTp_ok 1) T_w74_ok (by kernel_rfl) (by kernel_rfl) lp_w74_ok f_w74
def c_w75:Code:=Tryz.f266.body.getD .skip
abbrev IN_w75:LayD:=⟨1,[(0,.comp [.dat tVec,.row tBody 0,.dat (.list tJoint)])],[.row 64 tBody],fun s=>[slotA s 0 2]⟩
abbrev OUT_w75:LayD:=⟨0,[],[.row 64 tBody],fun _=>[0]⟩
def T_w75:Tb:=mkTb tyT mpT [E_w163]
theorem T_w75_ok:T_w75.Ok CT.P:=mkTb_ok (⟨e_w163,trivial⟩)
def l_w75_2:Code:=atLoop c_w75 2
def l_w75_4:Code:=atLoop l_w75_2 4
abbrev LD_w75_4:LayD:=⟨43,[(1,.ptr 1),(4,.data I),(7,.data (.list tJoint)),(8,.data I),(9,.data I)],[.row 64 tBody,.var 186 [.data tVec,.own tBody 0,.data (.list tJoint)]],fun s=>[0,slotR s 1]⟩
abbrev LA_w75_4:LayD:=⟨43,[(1,.ptr 1),(4,.data I)],[.row 64 tBody,.var 186 [.data tVec,.own tBody 0,.data (.list tJoint)]],fun s=>[0,slotR s 1]⟩
abbrev LB_w75_4:LayD:=⟨43,[],[],fun _=>[]⟩
def EX_w75_4:Exits 1 LA_w75_4.El LB_w75_4.El:=⟨.exit 2,LA_w75_4.lay [],.ret,LB_w75_4.lay []⟩
def G_w75_4 (r4:Ty.El I)(r7:Ty.El (.list tJoint))(r8:Ty.El I)(r9:Ty.El I)(b0:List (Ty.El tBody))(b1:Ty.El tVec×Unit×Ty.El (.list tJoint)×Unit):Option (LD_w75_4.El⊕((LA_w75_4.El⊕LB_w75_4.El)⊕Int)):=bif decide (r9<r8) then bif decide ((0:Int)≤r9∧r9<(↑(List.length r7):Int)) then bif decide ((0:Int)≤(List.getD r7 (Int.toNat r9) tJoint.dflt).1∧(List.getD r7 (Int.toNat r9) tJoint.dflt).1<(↑b0.length:Int)) then bif decide ((0:Int)≤(List.getD r7 (Int.toNat r9) tJoint.dflt).2.1∧(List.getD r7 (Int.toNat r9) tJoint.dflt).2.1<(↑b0.length:Int)) then(F_w163 (b0.getD (Int.toNat (List.getD r7 (Int.toNat r9) tJoint.dflt).1) tBody.dflt) (b0.getD (Int.toNat (List.getD r7 (Int.toNat r9) tJoint.dflt).2.1) tBody.dflt) (List.getD r7 (Int.toNat r9) tJoint.dflt).2.2).bind fun v2=>Sum.elim (fun v4=>bif decide ((0:Int)≤(List.getD r7 (Int.toNat r9) tJoint.dflt).1∧(List.getD r7 (Int.toNat r9) tJoint.dflt).1<(↑b0.length:Int)) then bif decide ((0:Int)≤(List.getD r7 (Int.toNat r9) tJoint.dflt).2.1∧(List.getD r7 (Int.toNat r9) tJoint.dflt).2.1<(↑(b0.set (Int.toNat (List.getD r7 (Int.toNat r9) tJoint.dflt).1) v4.1).length:Int)) then some (Sum.inl (((),r4,r7,r8,IntKind.i64.wrap (r9+(1:Int)),()),(b0.set (Int.toNat (List.getD r7 (Int.toNat r9) tJoint.dflt).1) v4.1).set (Int.toNat (List.getD r7 (Int.toNat r9) tJoint.dflt).2.1) v4.2.1,(b1.1,(),b1.2.2.1,()),())) else none else none) (fun v5=>some (Sum.inr (Sum.inr v5))) v2 else none else none else none else some (Sum.inr (Sum.inl (Sum.inl (((),r4,()),b0,(b1.1,(),b1.2.2.1,()),()))))
theorem g_w75_4 (x:LD_w75_4.El):codeT (CTp 1) T_w75 (drT (CTp 1) T_w75) lp0 l_w75_4 (LD_w75_4.enc x) (bodyKP (LD_w75_4.lay []) EX_w75_4 239 43)=G_w75_4 x.1.2.1 x.1.2.2.1 x.1.2.2.2.1 x.1.2.2.2.2.1 x.2.1 x.2.2.1:=by kernel_rfl
def R_w75_4:LD_w75_4.El→Option ((LA_w75_4.El⊕LB_w75_4.El)⊕Int):=roundsT (fun x=>G_w75_4 x.1.2.1 x.1.2.2.1 x.1.2.2.2.1 x.1.2.2.2.2.1 x.2.1 x.2.2.1) fuel
abbrev LD_w75_2:LayD:=⟨43,[(1,.ptr 1),(4,.data I)],[.row 64 tBody,.var 186 [.data tVec,.own tBody 0,.data (.list tJoint)]],fun s=>[0,slotR s 1]⟩
abbrev LA_w75_2:LayD:=⟨43,[],[.row 64 tBody],fun s=>[0]⟩
abbrev LB_w75_2:LayD:=⟨43,[],[],fun _=>[]⟩
def EX_w75_2:Exits 1 LA_w75_2.El LB_w75_2.El:=⟨.exit 0,LA_w75_2.lay [],.ret,LB_w75_2.lay []⟩
def lpi_w75_2 {β:Type}:LpT β:=fun k s K=>if Nat.beq k 4 then lpOneP (LD_w75_4.lay []) EX_w75_4 239 43 R_w75_4 s K else none
theorem lpi_w75_2_ok {β:Type}:LpTOk (CTp 1) (lpi_w75_2 (β:=β)) (loopsOf l_w75_2):=LpTOk.is [(4,l_w75_4)] (by kernel_rfl) (LpTOk.cons (fun s K z h=>lpGP (CTp_ok 1) T_w75_ok (lp0_ok (by kernel_rfl)) (L:=LD_w75_4.lay []) (E:=EX_w75_4) g_w75_4 rfl rfl rfl rfl h) (LpTOk.nil))
def G_w75_2 (r4:Ty.El I)(b0:List (Ty.El tBody))(b1:Ty.El tVec×Unit×Ty.El (.list tJoint)×Unit):Option (LD_w75_2.El⊕((LA_w75_2.El⊕LB_w75_2.El)⊕Int)):=bif decide (r4<(4:Int)) then(R_w75_4 (((),r4,b1.2.2.1,(↑(List.length b1.2.2.1):Int),(0:Int),()),b0,(b1.1,(),b1.2.2.1,()),())).bind fun v1=>Sum.elim (fun v2=>Sum.elim (fun v3=>some (Sum.inl (((),IntKind.i64.wrap (v3.1.2.1+(1:Int)),()),v3.2.1,(v3.2.2.1.1,(),v3.2.2.1.2.2.1,()),()))) (fun v4=>none) v2) (fun v5=>some (Sum.inr (Sum.inr v5))) v1 else some (Sum.inr (Sum.inl (Sum.inl ((),b0,()))))
theorem g_w75_2 (x:LD_w75_2.El):codeT (CTp 1) T_w75 (drT (CTp 1) T_w75) lpi_w75_2 l_w75_2 (LD_w75_2.enc x) (bodyKP (LD_w75_2.lay []) EX_w75_2 239 43)=G_w75_2 x.1.2.1 x.2.1 x.2.2.1:=by kernel_rfl
def R_w75_2:LD_w75_2.El→Option ((LA_w75_2.El⊕LB_w75_2.El)⊕Int):=roundsT (fun x=>G_w75_2 x.1.2.1 x.2.1 x.2.2.1) fuel
def lp_w75 {β:Type}:LpT β:=fun k s K=>if Nat.beq k 2 then lpOneP (LD_w75_2.lay []) EX_w75_2 239 43 R_w75_2 s K else none
theorem lp_w75_ok {β:Type}:LpTOk (CTp 1) (lp_w75 (β:=β)) (loopsOf c_w75):=LpTOk.is [(2,l_w75_2)] (by kernel_rfl) (LpTOk.cons (fun s K z h=>lpGP (CTp_ok 1) T_w75_ok lpi_w75_2_ok (L:=LD_w75_2.lay []) (E:=EX_w75_2) g_w75_2 rfl rfl rfl rfl h) (LpTOk.nil))
def F_w75 (a0:Ty.El tVec×Unit×Ty.El (.list tJoint)×Unit)(b0:List (Ty.El tBody)):Option (OUT_w75.El⊕Int):=(R_w75_2 (((),(0:Int),()),b0,(a0.1,(),a0.2.2.1,()),())).bind fun v1=>Sum.elim (fun v2=>Sum.elim (fun v3=>some (Sum.inl ((),v3.2.1,()))) (fun v4=>none) v2) (fun v5=>some (Sum.inr v5)) v1
theorem f_w75 (x:IN_w75.El):funcXP (CTp 1) T_w75 239 IN_w75 OUT_w75 [] (drT (CTp 1) T_w75) lp_w75 Tryz.f266 c_w75 x=F_w75 x.1.1 x.2.1:=by kernel_rfl
def E_w75:Ent:=.mkGenP 266 [] ⟨239,1,[],IN_w75,OUT_w75,fun x=>F_w75 x.1.1 x.2.1⟩
theorem e_w75:E_w75.Ok CT.P:=Ent.ofGenP (C:=(CTp 1)) (steps:=[]) (osteps:=[]) (CTp_ok 1) T_w75_ok (by kernel_rfl) (by kernel_rfl) lp_w75_ok f_w75
def c_w76:Code:=Tryz.f267.body.getD .skip
theorem hb_w76:Tryz.f267.body=some c_w76:=by kernel_rfl
theorem hf_w76:CT.P.funcs[267]?=some Tryz.f267:=by kernel_rfl
abbrev IN_w76:LayD:=⟨1,[(0,.comp [.dat tVec,.row tBody 0,.dat (.list tJoint)])],[.row 64 tBody],fun s=>[slotA s 0 2]⟩
abbrev OUT_w76:LayD:=⟨0,[],[.row 64 tBody],fun _=>[0]⟩
def tyB:TypeId→Option Ty:=fun t=>bif Nat.beq t 319 then some tBox else tyT t
def T_w76:Tb:=mkTb tyB mpT [E_w164,E_w165,E_w166,E_w167]
theorem T_w76_ok:T_w76.Ok CT.P:=mkTb_ok (⟨e_w164,e_w165,e_w166,e_w167,trivial⟩)
def l_w76_8:Code:=atLoop c_w76 8
def l_w76_3:Code:=atLoop c_w76 3
abbrev LD_w76_3:LayD:=⟨68,[(1,.ptr 1),(2,.own tBox 2),(12,.own tBody 0),(13,.data I),(14,.data I)],[.row 64 tBody,.var 186 [.data tVec,.own tBody 0,.data (.list tJoint)],.row 319 tBox],fun s=>[0,slotR s 1,slotR s 2]⟩
abbrev LA_w76_3:LayD:=⟨68,[(1,.ptr 1),(2,.own tBox 2)],[.row 64 tBody,.var 186 [.data tVec,.own tBody 0,.data (.list tJoint)],.row 319 tBox],fun s=>[0,slotR s 1,slotR s 2]⟩
abbrev LB_w76_3:LayD:=⟨68,[],[],fun _=>[]⟩
def EX_w76_3:Exits 1 LA_w76_3.El LB_w76_3.El:=⟨.exit 0,LA_w76_3.lay [.nilReg 2 319 tBox],.ret,LB_w76_3.lay []⟩
def G_w76_3 (r13:Ty.El I)(r14:Ty.El I)(b0:List (Ty.El tBody))(b1:Ty.El tVec×Unit×Ty.El (.list tJoint)×Unit)(b2:List (Ty.El tBox)):Option (LD_w76_3.El⊕((LA_w76_3.El⊕LB_w76_3.El)⊕Int)):=bif decide (r14<r13) then bif decide ((0:Int)≤r14∧r14<(↑b0.length:Int)) then(F_w164 (b0.getD (Int.toNat r14) tBody.dflt)).bind fun v2=>Sum.elim (fun v4=>bif((b2.length+[v4.1].length)*(32:Nat)).ble (70368744177664:Nat) then some (Sum.inl (((),(),(),r13,IntKind.i64.wrap (r14+(1:Int)),()),b0,(b1.1,(),b1.2.2.1,()),b2++[v4.1],())) else none) (fun v5=>some (Sum.inr (Sum.inr v5))) v2 else none else some (Sum.inr (Sum.inl (Sum.inl (((),(),()),b0,(b1.1,(),b1.2.2.1,()),b2,()))))
theorem g_w76_3 (x:LD_w76_3.El):codeT (CTp 1) T_w76 (drT (CTp 1) T_w76) lp0 l_w76_3 (LD_w76_3.enc x) (bodyKP (LD_w76_3.lay [.nilReg 2 319 tBox]) EX_w76_3 239 68)=G_w76_3 x.1.2.2.2.1 x.1.2.2.2.2.1 x.2.1 x.2.2.1 x.2.2.2.1:=by kernel_rfl
def R_w76_3:LD_w76_3.El→Option ((LA_w76_3.El⊕LB_w76_3.El)⊕Int):=roundsT (fun x=>G_w76_3 x.1.2.2.2.1 x.1.2.2.2.2.1 x.2.1 x.2.2.1 x.2.2.2.1) fuel
abbrev LD_w76_8:LayD:=⟨68,[(1,.ptr 1),(25,.data (.list tPair)),(26,.data I),(27,.data I)],[.row 64 tBody,.var 186 [.data tVec,.own tBody 0,.data (.list tJoint)]],fun s=>[0,slotR s 1]⟩
abbrev LA_w76_8:LayD:=⟨68,[],[.row 64 tBody],fun s=>[0]⟩
abbrev LB_w76_8:LayD:=⟨68,[],[],fun _=>[]⟩
def EX_w76_8:Exits 1 LA_w76_8.El LB_w76_8.El:=⟨.exit 2,LA_w76_8.lay [],.ret,LB_w76_8.lay []⟩
def G_w76_8 (r25:Ty.El (.list tPair))(r26:Ty.El I)(r27:Ty.El I)(b0:List (Ty.El tBody))(b1:Ty.El tVec×Unit×Ty.El (.list tJoint)×Unit):Option (LD_w76_8.El⊕((LA_w76_8.El⊕LB_w76_8.El)⊕Int)):=bif decide (r27<r26) then bif decide ((0:Int)≤r27∧r27<(↑(List.length r25):Int)) then bif decide ((0:Int)≤(List.getD r25 (Int.toNat r27) tPair.dflt).1∧(List.getD r25 (Int.toNat r27) tPair.dflt).1<(↑b0.length:Int)) then bif decide ((0:Int)≤(List.getD r25 (Int.toNat r27) tPair.dflt).2∧(List.getD r25 (Int.toNat r27) tPair.dflt).2<(↑b0.length:Int)) then(F_w166 (b0.getD (Int.toNat (List.getD r25 (Int.toNat r27) tPair.dflt).1) tBody.dflt) (b0.getD (Int.toNat (List.getD r25 (Int.toNat r27) tPair.dflt).2) tBody.dflt)).bind fun v2=>Sum.elim (fun v4=>bif v4.2.1 then(F_w167 (b0.getD (Int.toNat (List.getD r25 (Int.toNat r27) tPair.dflt).1) tBody.dflt) (b0.getD (Int.toNat (List.getD r25 (Int.toNat r27) tPair.dflt).2) tBody.dflt) v4.1).bind fun v6=>Sum.elim (fun v8=>bif decide ((0:Int)≤(List.getD r25 (Int.toNat r27) tPair.dflt).1∧(List.getD r25 (Int.toNat r27) tPair.dflt).1<(↑b0.length:Int)) then bif decide ((0:Int)≤(List.getD r25 (Int.toNat r27) tPair.dflt).2∧(List.getD r25 (Int.toNat r27) tPair.dflt).2<(↑(b0.set (Int.toNat (List.getD r25 (Int.toNat r27) tPair.dflt).1) v8.1).length:Int)) then some (Sum.inl (((),r25,r26,IntKind.i64.wrap (r27+(1:Int)),()),(b0.set (Int.toNat (List.getD r25 (Int.toNat r27) tPair.dflt).1) v8.1).set (Int.toNat (List.getD r25 (Int.toNat r27) tPair.dflt).2) v8.2.1,(b1.1,(),b1.2.2.1,()),())) else none else none) (fun v9=>some (Sum.inr (Sum.inr v9))) v6 else some (Sum.inl (((),r25,r26,IntKind.i64.wrap (r27+(1:Int)),()),b0,(b1.1,(),b1.2.2.1,()),()))) (fun v10=>some (Sum.inr (Sum.inr v10))) v2 else none else none else none else some (Sum.inr (Sum.inl (Sum.inl ((),b0,()))))
theorem g_w76_8 (x:LD_w76_8.El):codeT (CTp 1) T_w76 (drT (CTp 1) T_w76) lp0 l_w76_8 (LD_w76_8.enc x) (bodyKP (LD_w76_8.lay []) EX_w76_8 239 68)=G_w76_8 x.1.2.1 x.1.2.2.1 x.1.2.2.2.1 x.2.1 x.2.2.1:=by kernel_rfl
def R_w76_8:LD_w76_8.El→Option ((LA_w76_8.El⊕LB_w76_8.El)⊕Int):=roundsT (fun x=>G_w76_8 x.1.2.1 x.1.2.2.1 x.1.2.2.2.1 x.2.1 x.2.2.1) fuel
def lp_w76 {β:Type}:LpT β:=fun k s K=>if Nat.beq k 3 then lpOneP (LD_w76_3.lay [.nilReg 2 319 tBox]) EX_w76_3 239 68 R_w76_3 s K else if Nat.beq k 8 then lpOneP (LD_w76_8.lay []) EX_w76_8 239 68 R_w76_8 s K else none
theorem lp_w76_ok {β:Type}:LpTOk (CTp 1) (lp_w76 (β:=β)) (loopsOf c_w76):=LpTOk.is [(3,l_w76_3),(8,l_w76_8)] (by kernel_rfl) (LpTOk.cons (fun s K z h=>lpGP (CTp_ok 1) T_w76_ok (lp0_ok (by kernel_rfl)) (L:=LD_w76_3.lay [.nilReg 2 319 tBox]) (E:=EX_w76_3) g_w76_3 rfl rfl rfl rfl h) (LpTOk.cons (fun s K z h=>lpGP (CTp_ok 1) T_w76_ok (lp0_ok (by kernel_rfl)) (L:=LD_w76_8.lay []) (E:=EX_w76_8) g_w76_8 rfl rfl rfl rfl h) (LpTOk.nil)))
def F_w76 (a0:Ty.El tVec×Unit×Ty.El (.list tJoint)×Unit)(b0:List (Ty.El tBody)):Option (OUT_w76.El⊕Int):=(R_w76_3 (((),(),(),(↑b0.length:Int),(0:Int),()),b0,(a0.1,(),a0.2.2.1,()),[],())).bind fun v1=>Sum.elim (fun v2=>Sum.elim (fun v3=>(F_w165 v3.2.2.2.1).bind fun v5=>(R_w76_8 (((),v5.1,(↑(List.length v5.1):Int),(0:Int),()),v3.2.1,(v3.2.2.1.1,(),v3.2.2.1.2.2.1,()),())).bind fun v6=>Sum.elim (fun v7=>Sum.elim (fun v8=>some (Sum.inl ((),v8.2.1,()))) (fun v9=>none) v7) (fun v10=>some (Sum.inr v10)) v6) (fun v11=>none) v2) (fun v12=>some (Sum.inr v12)) v1
theorem f_w76 (x:IN_w76.El):funcXP (CTp 1) T_w76 239 IN_w76 OUT_w76 [] (drT (CTp 1) T_w76) lp_w76 Tryz.f267 c_w76 x=F_w76 x.1.1 x.2.1:=by kernel_rfl
def E_w76:Ent:=.mkGenP 267 [] ⟨239,1,[],IN_w76,OUT_w76,fun x=>F_w76 x.1.1 x.2.1⟩
theorem e_w76:E_w76.Ok CT.P:=Ent.ofGenP (C:=(CTp 1)) (steps:=[]) (osteps:=[]) (CTp_ok 1) T_w76_ok hf_w76 hb_w76 lp_w76_ok f_w76
def c_w77:Code:=Tryz.f268.body.getD .skip
abbrev IN_w77:LayD:=⟨1,[(0,.comp [.dat tVec,.row tBody 0,.dat (.list tJoint)])],[.row 64 tBody],fun s=>[slotA s 0 2]⟩
abbrev OUT_w77:LayD:=⟨0,[],[.row 64 tBody],fun _=>[0]⟩
def T_w77:Tb:=mkTb tyT mpT [E_w168,E_w161,E_124]
theorem T_w77_ok:T_w77.Ok CT.P:=mkTb_ok (⟨e_w168,e_w161,e_124,trivial⟩)
def l_w77_2:Code:=atLoop c_w77 2
abbrev LD_w77_2:LayD:=⟨27,[(1,.ptr 1),(5,.own tBody 0),(6,.data I),(7,.data I)],[.row 64 tBody,.var 186 [.data tVec,.own tBody 0,.data (.list tJoint)]],fun s=>[0,slotR s 1]⟩
abbrev LA_w77_2:LayD:=⟨27,[],[.row 64 tBody],fun s=>[0]⟩
abbrev LB_w77_2:LayD:=⟨27,[],[],fun _=>[]⟩
def EX_w77_2:Exits 1 LA_w77_2.El LB_w77_2.El:=⟨.exit 0,LA_w77_2.lay [],.ret,LB_w77_2.lay []⟩
def G_w77_2 (r6:Ty.El I)(r7:Ty.El I)(b0:List (Ty.El tBody))(b1:Ty.El tVec×Unit×Ty.El (.list tJoint)×Unit):Option (LD_w77_2.El⊕((LA_w77_2.El⊕LB_w77_2.El)⊕Int)):=bif decide (r7<r6) then bif decide ((0:Int)≤r7∧r7<(↑b0.length:Int)) then bif(b0.getD (Int.toNat r7) tBody.dflt).2.2.1 != (0:Int) then(F_w168 (b0.getD (Int.toNat r7) tBody.dflt)).bind fun v2=>Sum.elim (fun v4=>(F_w161 v4.1 (64:Int)).bind fun v6=>Sum.elim (fun v8=>(F_124 (b0.getD (Int.toNat r7) tBody.dflt).2.2.2.1 v8.1).bind fun v10=>Sum.elim (fun v12=>bif decide ((0:Int)≤r7∧r7<(↑b0.length:Int)) then some (Sum.inl (((),(),r6,IntKind.i64.wrap (r7+(1:Int)),()),b0.set (Int.toNat r7) ((b0.getD (Int.toNat r7) tBody.dflt).1,(b0.getD (Int.toNat r7) tBody.dflt).2.1,(b0.getD (Int.toNat r7) tBody.dflt).2.2.1,v12.1,(b0.getD (Int.toNat r7) tBody.dflt).2.2.2.2),(b1.1,(),b1.2.2.1,()),())) else none) (fun v13=>some (Sum.inr (Sum.inr v13))) v10) (fun v14=>some (Sum.inr (Sum.inr v14))) v6) (fun v15=>some (Sum.inr (Sum.inr v15))) v2 else some (Sum.inl (((),(),r6,IntKind.i64.wrap (r7+(1:Int)),()),b0,(b1.1,(),b1.2.2.1,()),())) else none else some (Sum.inr (Sum.inl (Sum.inl ((),b0,()))))
theorem g_w77_2 (x:LD_w77_2.El):codeT (CTp 1) T_w77 (drT (CTp 1) T_w77) lp0 l_w77_2 (LD_w77_2.enc x) (bodyKP (LD_w77_2.lay []) EX_w77_2 239 27)=G_w77_2 x.1.2.2.1 x.1.2.2.2.1 x.2.1 x.2.2.1:=by kernel_rfl
def R_w77_2:LD_w77_2.El→Option ((LA_w77_2.El⊕LB_w77_2.El)⊕Int):=roundsT (fun x=>G_w77_2 x.1.2.2.1 x.1.2.2.2.1 x.2.1 x.2.2.1) fuel
def lp_w77 {β:Type}:LpT β:=fun k s K=>if Nat.beq k 2 then lpOneP (LD_w77_2.lay []) EX_w77_2 239 27 R_w77_2 s K else none
theorem lp_w77_ok {β:Type}:LpTOk (CTp 1) (lp_w77 (β:=β)) (loopsOf c_w77):=LpTOk.is [(2,l_w77_2)] (by kernel_rfl) (LpTOk.cons (fun s K z h=>lpGP (CTp_ok 1) T_w77_ok (lp0_ok (by kernel_rfl)) (L:=LD_w77_2.lay []) (E:=EX_w77_2) g_w77_2 rfl rfl rfl rfl h) (LpTOk.nil))
def F_w77 (a0:Ty.El tVec×Unit×Ty.El (.list tJoint)×Unit)(b0:List (Ty.El tBody)):Option (OUT_w77.El⊕Int):=(R_w77_2 (((),(),(↑b0.length:Int),(0:Int),()),b0,(a0.1,(),a0.2.2.1,()),())).bind fun v1=>Sum.elim (fun v2=>Sum.elim (fun v3=>some (Sum.inl ((),v3.2.1,()))) (fun v4=>none) v2) (fun v5=>some (Sum.inr v5)) v1
theorem f_w77 (x:IN_w77.El):funcXP (CTp 1) T_w77 239 IN_w77 OUT_w77 [] (drT (CTp 1) T_w77) lp_w77 Tryz.f268 c_w77 x=F_w77 x.1.1 x.2.1:=by kernel_rfl
def E_w77:Ent:=.mkGenP 268 [] ⟨239,1,[],IN_w77,OUT_w77,fun x=>F_w77 x.1.1 x.2.1⟩
theorem e_w77:E_w77.Ok CT.P:=Ent.ofGenP (C:=(CTp 1)) (steps:=[]) (osteps:=[]) (CTp_ok 1) T_w77_ok (by kernel_rfl) (by kernel_rfl) lp_w77_ok f_w77
end Go.DI.S
end
