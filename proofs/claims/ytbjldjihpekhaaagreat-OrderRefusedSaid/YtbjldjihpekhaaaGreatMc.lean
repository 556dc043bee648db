import Derived.Test.YtbjldjihpekhaaaGreatMb
/- Groups; what a command's worker does: told by functions on data. No conditions. -/
set_option linter.unusedVariables false
set_option maxRecDepth 100000
set_option maxHeartbeats 0
noncomputable section
namespace Go.DI.S
open Go.Proofs
def c_101:Code:=Tryz.f227.body.getD .skip
def T_101:Tb:=mkTb tyT mpT []
theorem T_101_ok:T_101.Ok CT.P:=mkTb_ok (trivial)
def l_101_2:Code:=atLoop c_101 2
abbrev LD_101_2:LayD:=⟨19,[(0,.data (.list I)),(1,.data I),(7,.data I),(8,.data I)],[],fun _=>[]⟩
abbrev LA_101_2:LayD:=⟨19,[],[],fun _=>[]⟩
abbrev LB_101_2:LayD:=⟨19,[(4,.data I)],[],fun _=>[]⟩
def EX_101_2:Exits 0 LA_101_2.El LB_101_2.El:=⟨.exit 0,LA_101_2.lay [],.ret,LB_101_2.lay []⟩
def G_101_2 (r0:Ty.El (.list I))(r1:Ty.El I)(r7:Ty.El I)(r8:Ty.El I):Option (LD_101_2.El⊕(LA_101_2.El⊕LB_101_2.El)):=bif decide (r8<r7) then bif decide ((0:Int)≤r8∧r8<(↑(List.length r0):Int)) then bif r1==List.getD r0 (Int.toNat r8) (0:Int) then some (Sum.inr (Sum.inr ((r8,()),()))) else some (Sum.inl ((r0,r1,r7,IntKind.i64.wrap (r8+(1:Int)),()),())) else none else some (Sum.inr (Sum.inl ((),())))
theorem g_101_2 (x:LD_101_2.El):codeT CT T_101 (drT CT T_101) lp0 l_101_2 (LD_101_2.enc x) (bodyK (LD_101_2.lay []) EX_101_2)=G_101_2 x.1.1 x.1.2.1 x.1.2.2.1 x.1.2.2.2.1:=by kernel_rfl
def R_101_2:LD_101_2.El→Option (LA_101_2.El⊕LB_101_2.El):=roundsT (fun x=>G_101_2 x.1.1 x.1.2.1 x.1.2.2.1 x.1.2.2.2.1) fuel
def lp_101 {β:Type}:LpT β:=fun k s K=>if Nat.beq k 2 then lpOne (LD_101_2.lay []) EX_101_2 R_101_2 s K else none
theorem lp_101_ok {β:Type}:LpTOk CT (lp_101 (β:=β)) (loopsOf c_101):=LpTOk.is [(2,l_101_2)] (by kernel_rfl) (LpTOk.cons (fun s K z h=>lpG CT_ok T_101_ok (lp0_ok (by kernel_rfl)) (L:=LD_101_2.lay []) (E:=EX_101_2) g_101_2 rfl rfl rfl rfl h) (LpTOk.nil))
def F_101 (a1:Ty.El (.list I))(a2:Ty.El I):Option (Els [I]):=(R_101_2 ((a1,a2,(↑(List.length a1):Int),(0:Int),()),())).bind fun v1=>Sum.elim (fun v2=>some ((-1:Int),())) (fun v3=>some (v3.1.1,())) v1
theorem f_101 (x:Ps [.ty (.list I),.ty I]):funcT CT T_101 [I] (drT CT T_101) lp_101 Tryz.f227 c_101 (encPs [.ty (.list I),.ty I] x)=F_101 x.1 x.2.1:=by kernel_rfl
def E_101:Ent:=.fn 227 [] ⟨[.ty (.list I),.ty I],[I],fun x=>F_101 x.1 x.2.1,false⟩
theorem e_101:E_101.Ok CT.P:=Ent.ofFn CT_ok T_101_ok (by kernel_rfl) (by kernel_rfl) lp_101_ok f_101
def F_59 (a1:Ty.El (.list I))(a2:Ty.El I):Option (Els [.bool]):=(F_101 a1 a2).bind fun v2=>some (decide (v2.1≥(0:Int)),())
def E_59:Ent:=.fn 180 [] ⟨[.ty (.list I),.ty I],[.bool],fun x=>F_59 x.1 x.2.1,false⟩
theorem e_59:E_59.Ok CT.P:=fn0 CT_ok (tb (l:=[E_101]) ⟨e_101,trivial⟩) Tryz.f180 (by kernel_rfl) (by kernel_rfl) (by kernel_rfl) fun x=>by kernel_rfl
def c_73:Code:=Tryz.f222.body.getD .skip
theorem hb_73:Tryz.f222.body=some c_73:=by kernel_rfl
theorem hf_73:CT.P.funcs[222]?=some Tryz.f222:=by kernel_rfl
abbrev FT_73:=(Ty.El tScene)→(Ty.El I)→Option (List (Ty.El I))
def E_73x (f:FT_73):Ent:=.own 222 [] ⟨[.ty tScene,.ty I],3,I,fun x=>f x.1 x.2.1⟩
def T_73 (f:FT_73):Tb:=mkTb tyT mpT [E_23,(E_73x f)]
theorem T_73_ok {f:FT_73}(hf:(E_73x f).Ok CT.P):(T_73 f).Ok CT.P:=mkTb_ok (⟨e_23,hf,trivial⟩)
def l_73_6:Code:=atLoop c_73 6
abbrev LD_73_6:LayD:=⟨34,[(2,.ptr 0),(7,.own I 1),(21,.data (.list I)),(22,.data I),(23,.data I)],[.var 51 [.data tScene],.row 3 I],fun s=>[slotR s 2,slotR s 7]⟩
abbrev LA_73_6:LayD:=⟨34,[(7,.own I 0)],[.row 3 I],fun s=>[slotR s 7]⟩
abbrev LB_73_6:LayD:=⟨34,[],[],fun _=>[]⟩
def EX_73_6:Exits 0 LA_73_6.El LB_73_6.El:=⟨.exit 0,LA_73_6.lay [.rowReg 7 3 I],.ret,LB_73_6.lay []⟩
def lpi_73_6 {β:Type}:LpT β:=fun _ _ _=>none
theorem lpi_73_6_ok {β:Type}:LpTOk CT (lpi_73_6 (β:=β)) (loopsOf l_73_6):=LpTOk.is [] (by kernel_rfl) (LpTOk.nil)
def G_73_6 (f:FT_73)(r21:Ty.El (.list I))(r22:Ty.El I)(r23:Ty.El I)(b0:Ty.El tScene×Unit)(b1:List (Ty.El I)):Option (LD_73_6.El⊕(LA_73_6.El⊕LB_73_6.El)):=bif decide (r23<r22) then bif decide ((0:Int)≤r23∧r23<(↑(List.length r21):Int)) then(f b0.1 (List.getD r21 (Int.toNat r23) (0:Int))).bind fun v2=>bif((b1.length+v2.length)*(8:Nat)).ble (70368744177664:Nat) then some (Sum.inl (((),(),r21,r22,IntKind.i64.wrap (r23+(1:Int)),()),(b0.1,()),b1++v2,())) else none else none else some (Sum.inr (Sum.inl (((),()),b1,())))
theorem g_73_6 (f:FT_73)(x:LD_73_6.El):codeT CT (T_73 f) (drT CT (T_73 f)) lpi_73_6 l_73_6 (LD_73_6.enc x) (bodyK (LD_73_6.lay [.rowReg 7 3 I]) EX_73_6)=(G_73_6 f) x.1.2.2.1 x.1.2.2.2.1 x.1.2.2.2.2.1 x.2.1 x.2.2.1:=by kernel_rfl
def R_73_6 (f:FT_73):LD_73_6.El→Option (LA_73_6.El⊕LB_73_6.El):=roundsT (fun x=>(G_73_6 f) x.1.2.2.1 x.1.2.2.2.1 x.1.2.2.2.2.1 x.2.1 x.2.2.1) fuel
theorem r_73_6 {f:FT_73}(hf:(E_73x f).Ok CT.P):∀ x y,(R_73_6 f) x=some y→CL CT l_73_6 (LD_73_6.enc x) (Sum.elim (fun _=>EX_73_6.xa) (fun _=>EX_73_6.xb) y) (Sum.elim EX_73_6.la.enc EX_73_6.lb.enc y):=
 rounds_ok (L:=LD_73_6.lay [.rowReg 7 3 I]) (E:=EX_73_6) CT_ok (T_73_ok hf) (drT_ok CT_ok (T_73_ok hf)) lpi_73_6_ok (g_73_6 f) rfl rfl (fun v h=>by have hh:(.exit 0:AX)=.pan v:=h;cases hh) (fun v h=>by have hh:(.ret:AX)=.pan v:=h;cases hh) fuel
def lp_73 (f:FT_73){β:Type}:LpT β:=fun k s K=>if Nat.beq k 6 then lpOne (LD_73_6.lay [.rowReg 7 3 I]) EX_73_6 (R_73_6 f) s K else none
theorem lp_73_ok {f:FT_73}(hf:(E_73x f).Ok CT.P){β:Type}:LpTOk CT (lp_73 f (β:=β)) (loopsOf c_73):=by
 have h:loopsOf c_73=[(6,l_73_6)]:=by kernel_rfl
 rw [h]
 exact LpTOk.cons (fun s K z h=>lpOne_ok (r_73_6 hf) h) (LpTOk.nil)
def F_73b (f:FT_73)(a1:Ty.El tScene)(a2:Ty.El I):Option (List (Ty.El I)):=(F_23 a1 a2).bind fun v2=>bif !v2.2.1 then some [] else((R_73_6 f) (((),(),v2.1.2.2.2.2,(↑(List.length v2.1.2.2.2.2):Int),(0:Int),()),(a1,()),[a2],())).bind fun v3=>Sum.elim (fun v4=>some v4.2.1) (fun v5=>none) v3
theorem f_73 (f:FT_73)(x:Ps [.ty tScene,.ty I]):funcO CT (T_73 f) 3 I (drT CT (T_73 f)) (lp_73 f) Tryz.f222 c_73 (encPs [.ty tScene,.ty I] x)=F_73b f x.1 x.2.1:=by kernel_rfl
def F_73n:Nat→FT_73
 | 0,_,_=>none
 | n+1,a1,a2=>F_73b (F_73n n) a1 a2
def F_73:FT_73:=F_73n 100
theorem e_73n:∀ n,(E_73x (F_73n n)).Ok CT.P
 | 0=>fun x y h=>by cases h
 | n+1=>Ent.ofOwn CT_ok (T_73_ok (e_73n n)) hf_73 hb_73 (lp_73_ok (e_73n n)) (f_73 (F_73n n))
def E_73:Ent:=E_73x F_73
theorem e_73:E_73.Ok CT.P:=e_73n 100
def F_37 (a1:Ty.El tScene)(a2:Ty.El I):Option (Els [.list I]):=(F_20 a1).bind fun v2=>bif !v2.1 then some ([],()) else(F_73 a1 a2).bind fun v4=>(F_74 v4).bind fun v6=>some (v6.2.1,())
def E_37:Ent:=.fn 173 [] ⟨[.ty tScene,.ty I],[.list I],fun x=>F_37 x.1 x.2.1,false⟩
theorem e_37:E_37.Ok CT.P:=fn0 CT_ok (tb (l:=[E_20,E_73,E_74]) ⟨e_20,e_73,e_74,trivial⟩) Tryz.f173 (by kernel_rfl) (by kernel_rfl) (by kernel_rfl) fun x=>by kernel_rfl
def c_43:Code:=Tryz.f177.body.getD .skip
def T_43:Tb:=mkTb tyT mpT [E_20,E_23h,E_37]
theorem T_43_ok:T_43.Ok CT.P:=mkTb_ok (⟨e_20,e_23,e_37,trivial⟩)
def l_43_10:Code:=atLoop c_43 10
abbrev LD_43_10:LayD:=⟨65,[(2,.ptr 0),(8,.own I 1),(44,.data (.list I)),(45,.data I),(46,.data I)],[.var 51 [.data tScene],.row 3 I],fun s=>[slotR s 2,slotR s 8]⟩
abbrev LA_43_10:LayD:=⟨65,[(8,.own I 0)],[.row 3 I],fun s=>[slotR s 8]⟩
abbrev LB_43_10:LayD:=⟨65,[],[],fun _=>[]⟩
def EX_43_10:Exits 0 LA_43_10.El LB_43_10.El:=⟨.exit 0,LA_43_10.lay [.nilReg 8 3 I],.ret,LB_43_10.lay []⟩
def G_43_10 (r44:Ty.El (.list I))(r45:Ty.El I)(r46:Ty.El I)(b0:Ty.El tScene×Unit)(b1:List (Ty.El I)):Option (LD_43_10.El⊕(LA_43_10.El⊕LB_43_10.El)):=bif decide (r46<r45) then bif decide ((0:Int)≤r46∧r46<(↑(List.length r44):Int)) then(F_23 b0.1 (List.getD r44 (Int.toNat r46) (0:Int))).bind fun v2=>bif v2.1.2.1==(1:Int) then bif((b1.length+[List.getD r44 (Int.toNat r46) (0:Int)].length)*(8:Nat)).ble (70368744177664:Nat) then some (Sum.inl (((),(),r44,r45,IntKind.i64.wrap (r46+(1:Int)),()),(b0.1,()),b1++[List.getD r44 (Int.toNat r46) (0:Int)],())) else none else some (Sum.inl (((),(),r44,r45,IntKind.i64.wrap (r46+(1:Int)),()),(b0.1,()),b1,())) else none else some (Sum.inr (Sum.inl (((),()),b1,())))
theorem g_43_10 (x:LD_43_10.El):codeT CT T_43 (drT CT T_43) lp0 l_43_10 (LD_43_10.enc x) (bodyK (LD_43_10.lay [.nilReg 8 3 I]) EX_43_10)=G_43_10 x.1.2.2.1 x.1.2.2.2.1 x.1.2.2.2.2.1 x.2.1 x.2.2.1:=by kernel_rfl
def R_43_10:LD_43_10.El→Option (LA_43_10.El⊕LB_43_10.El):=roundsT (fun x=>G_43_10 x.1.2.2.1 x.1.2.2.2.1 x.1.2.2.2.2.1 x.2.1 x.2.2.1) fuel
def lp_43 {β:Type}:LpT β:=fun k s K=>if Nat.beq k 10 then lpOne (LD_43_10.lay [.nilReg 8 3 I]) EX_43_10 R_43_10 s K else none
theorem lp_43_ok {β:Type}:LpTOk CT (lp_43 (β:=β)) (loopsOf c_43):=LpTOk.is [(10,l_43_10)] (by kernel_rfl) (LpTOk.cons (fun s K z h=>lpG CT_ok T_43_ok (lp0_ok (by kernel_rfl)) (L:=LD_43_10.lay [.nilReg 8 3 I]) (E:=EX_43_10) g_43_10 rfl rfl rfl rfl h) (LpTOk.nil))
def F_43 (a1:Ty.El tScene)(a2:Ty.El I):Option (Els [.list I,I]):=(F_20 a1).bind fun v2=>bif !v2.1 then some ([],(9:Int),()) else(F_23 a1 a2).bind fun v4=>bif !v4.2.1 then some ([],(10:Int),()) else bif v4.1.2.1==(2:Int) then some ([if v4.1.2.2.2.1.2.1<v4.1.2.2.2.1.1 then v4.1.2.2.2.1.2.1 else v4.1.2.2.2.1.1,if v4.1.2.2.2.1.2.1>v4.1.2.2.2.1.1 then v4.1.2.2.2.1.2.1 else v4.1.2.2.2.1.1],(0:Int),()) else(F_37 a1 a2).bind fun v6=>(R_43_10 (((),(),v6.1,(↑(List.length v6.1):Int),(0:Int),()),(a1,()),[],())).bind fun v7=>Sum.elim (fun v8=>some (v8.2.1,(0:Int),())) (fun v9=>none) v7
theorem f_43 (x:Ps [.ty tScene,.ty I]):funcT CT T_43 [.list I,I] (drT CT T_43) lp_43 Tryz.f177 c_43 (encPs [.ty tScene,.ty I] x)=F_43 x.1 x.2.1:=by kernel_rfl
def E_43:Ent:=.fn 177 [] ⟨[.ty tScene,.ty I],[.list I,I],fun x=>F_43 x.1 x.2.1,false⟩
theorem e_43:E_43.Ok CT.P:=Ent.ofFn CT_ok T_43_ok (by kernel_rfl) (by kernel_rfl) lp_43_ok f_43
def F_80 (a1:Ty.El I)(a2:Ty.El tScene):Option (Els [.bool]):=bif decide (a1<(1:Int)) then some (true,()) else bif decide (a1>(1000000:Int)) then some (true,()) else some (a1==a2.2.1,())
def E_80:Ent:=.fn 183 [] ⟨[.ty I,.roa tScene],[.bool],fun x=>F_80 x.1 x.2.1,false⟩
theorem e_80:E_80.Ok CT.P:=fn0 CT_ok (tb (l:=[]) trivial) Tryz.f183 (by kernel_rfl) (by kernel_rfl) (by kernel_rfl) fun x=>by kernel_rfl
def c_120_80:Code:=Tryz.f224.body.getD .skip
def T_120_80:Tb:=mkTb tyT mpT [E_80]
theorem T_120_80_ok:T_120_80.Ok CT.P:=mkTb_ok (⟨e_80,trivial⟩)
def l_120_80_2:Code:=atLoop c_120_80 2
abbrev LD_120_80_2:LayD:=⟨19,[(0,.data (.list I)),(1,.clo 183 [tScene]),(7,.data I),(8,.data I)],[],fun _=>[]⟩
abbrev LA_120_80_2:LayD:=⟨19,[],[],fun _=>[]⟩
abbrev LB_120_80_2:LayD:=⟨19,[(4,.data I)],[],fun _=>[]⟩
def EX_120_80_2:Exits 0 LA_120_80_2.El LB_120_80_2.El:=⟨.exit 0,LA_120_80_2.lay [],.ret,LB_120_80_2.lay []⟩
def G_120_80_2 (r0:Ty.El (.list I))(r1:Els [tScene])(r7:Ty.El I)(r8:Ty.El I):Option (LD_120_80_2.El⊕(LA_120_80_2.El⊕LB_120_80_2.El)):=bif decide (r8<r7) then bif decide ((0:Int)≤r8∧r8<(↑(List.length r0):Int)) then(F_80 (List.getD r0 (Int.toNat r8) (0:Int)) r1.1).bind fun v2=>bif v2.1 then some (Sum.inr (Sum.inr ((r8,()),()))) else some (Sum.inl ((r0,(r1.1,()),r7,IntKind.i64.wrap (r8+(1:Int)),()),())) else none else some (Sum.inr (Sum.inl ((),())))
theorem g_120_80_2 (x:LD_120_80_2.El):codeT CT T_120_80 (drT CT T_120_80) lp0 l_120_80_2 (LD_120_80_2.enc x) (bodyK (LD_120_80_2.lay []) EX_120_80_2)=G_120_80_2 x.1.1 x.1.2.1 x.1.2.2.1 x.1.2.2.2.1:=by kernel_rfl
def R_120_80_2:LD_120_80_2.El→Option (LA_120_80_2.El⊕LB_120_80_2.El):=roundsT (fun x=>G_120_80_2 x.1.1 x.1.2.1 x.1.2.2.1 x.1.2.2.2.1) fuel
def lp_120_80 {β:Type}:LpT β:=fun k s K=>if Nat.beq k 2 then lpOne (LD_120_80_2.lay []) EX_120_80_2 R_120_80_2 s K else none
theorem lp_120_80_ok {β:Type}:LpTOk CT (lp_120_80 (β:=β)) (loopsOf c_120_80):=LpTOk.is [(2,l_120_80_2)] (by kernel_rfl) (LpTOk.cons (fun s K z h=>lpG CT_ok T_120_80_ok (lp0_ok (by kernel_rfl)) (L:=LD_120_80_2.lay []) (E:=EX_120_80_2) g_120_80_2 rfl rfl rfl rfl h) (LpTOk.nil))
def F_120_80 (a1:Ty.El (.list I))(a2:Els [tScene]):Option (Els [I]):=(R_120_80_2 ((a1,(a2.1,()),(↑(List.length a1):Int),(0:Int),()),())).bind fun v1=>Sum.elim (fun v2=>some ((-1:Int),())) (fun v3=>some (v3.1.1,())) v1
theorem f_120_80 (x:Ps [.ty (.list I),.clo 183 [tScene]]):funcT CT T_120_80 [I] (drT CT T_120_80) lp_120_80 Tryz.f224 c_120_80 (encPs [.ty (.list I),.clo 183 [tScene]] x)=F_120_80 x.1 x.2.1:=by kernel_rfl
def E_120_80:Ent:=.fn 224 [183] ⟨[.ty (.list I),.clo 183 [tScene]],[I],fun x=>F_120_80 x.1 x.2.1,false⟩
theorem e_120_80:E_120_80.Ok CT.P:=Ent.ofFn CT_ok T_120_80_ok (by kernel_rfl) (by kernel_rfl) lp_120_80_ok f_120_80
def F_79_80 (a1:Ty.El (.list I))(a2:Els [tScene]):Option (Els [.bool]):=(F_120_80 a1 (a2.1,())).bind fun v2=>some (decide (v2.1≥(0:Int)),())
def E_79_80:Ent:=.fn 182 [183] ⟨[.ty (.list I),.clo 183 [tScene]],[.bool],fun x=>F_79_80 x.1 x.2.1,false⟩
theorem e_79_80:E_79_80.Ok CT.P:=fn0 CT_ok (tb (l:=[E_120_80]) ⟨e_120_80,trivial⟩) Tryz.f182 (by kernel_rfl) (by kernel_rfl) (by kernel_rfl) fun x=>by kernel_rfl
def F_41w (a1:Ty.El tScene)(a2:Ty.El (.list I)):Option (Els [tScene,I,I]):=(F_46o a2).bind fun v2=>(F_74 v2).bind fun v4=>(F_20 a1).bind fun v6=>bif !v6.1 then some ((((0:Int),(0:Int)),(0:Int),[]),(0:Int),(9:Int),()) else bif decide ((↑(List.length v4.2.1):Int)<(1:Int)) then some ((((0:Int),(0:Int)),(0:Int),[]),(0:Int),(9:Int),()) else bif decide ((↑(List.length v4.2.1):Int)>(8:Int)) then some ((((0:Int),(0:Int)),(0:Int),[]),(0:Int),(9:Int),()) else(F_46o v4.2.1).bind fun v18=>(F_78 v18).bind fun v21=>bif decide ((↑v21.length:Int)<(↑(List.length v4.2.1):Int)) then some ((((0:Int),(0:Int)),(0:Int),[]),(0:Int),(9:Int),()) else(F_79_80 v4.2.1 (a1,())).bind fun v33=>bif v33.1 then some ((((0:Int),(0:Int)),(0:Int),[]),(0:Int),(9:Int),()) else bif decide (a1.2.1>(1000000:Int)) then some ((((0:Int),(0:Int)),(0:Int),[]),(0:Int),(12:Int),()) else(F_18w (a1.1,IntKind.i64.wrap (a1.2.1+(1:Int)),a1.2.2) (a1.2.1,(3:Int),((0:Int),((0:Int),(0:Int)),(0:Int),((0:Int),(0:Int)),(0:Int),(0:Int)),((0:Int),(0:Int),(0:Int)),v4.2.1)).bind fun v37=>bif v37.2.1 != (0:Int) then some ((((0:Int),(0:Int)),(0:Int),[]),(0:Int),v37.2.1,()) else some (v37.1,a1.2.1,(0:Int),())
def E_41w:Ent:=.fn 136 [] ⟨[.ty tScene,.ty (.list I)],[tScene,I,I],fun x=>F_41w x.1 x.2.1,false⟩
theorem e_41w:E_41w.Ok CT.P:=fn0 CT_ok (tb (l:=[E_18w,E_20,E_46o,E_74,E_78,E_79_80]) ⟨e_18w,e_20,e_46o,e_74,e_78,e_79_80,trivial⟩) Tryz.f136 (by kernel_rfl) (by kernel_rfl) (by kernel_rfl) fun x=>by kernel_rfl
def F_by (a1:Ty.El tWorker):Option (Els [tVec]):=some ((a1.2.2.1,a1.2.2.2.1),())
def E_by:Ent:=.fn 139 [] ⟨[.roa tWorker],[tVec],fun x=>F_by x.1,false⟩
theorem e_by:E_by.Ok CT.P:=fn0 CT_ok (tb (l:=[]) trivial) Tryz.f139 (by kernel_rfl) (by kernel_rfl) (by kernel_rfl) fun x=>by kernel_rfl
abbrev IN_body:LayD:=⟨1,[(0,.ptr 0)],[.var 140 [.data tWorker]],fun s=>[slotR s 0]⟩
abbrev OUT_body:LayD:=⟨1,[(0,.data tThing)],[.var 140 [.data tWorker]],fun _=>[0]⟩
def F_body (b0:Ty.El tWorker×Unit):Option OUT_body.El:=(F_by b0.1).bind fun v2=>some ((((0:Int),(1:Int),(b0.1.2.1.2.2.2.1,(b0.1.2.2.2.2.1,b0.1.2.2.2.2.2.1),b0.1.2.2.2.2.2.2,v2.1,(0:Int),(0:Int)),((0:Int),(0:Int),(0:Int)),[]),()),(b0.1,()),())
def E_body:Ent:=.mkGen 132 [] ⟨1,[],IN_body,OUT_body,fun x=>F_body x.2.1⟩
theorem e_body:E_body.Ok CT.P:=gen0 (C:=(CTp 1)) (CTp_ok 1) (tb (l:=[E_by]) ⟨e_by,trivial⟩) [] Tryz.f132 (by kernel_rfl) (by kernel_rfl) (by kernel_rfl) fun x=>by kernel_rfl
abbrev IN_make:LayD:=⟨2,[(0,.ptr 0),(1,.data tThing)],[.var 140 [.data tWorker]],fun s=>[slotR s 0]⟩
abbrev OUT_make:LayD:=⟨3,[(0,.data tScene),(1,.data I),(2,.data I)],[.var 140 [.data tWorker]],fun _=>[0]⟩
def F_make (a1:Ty.El tThing)(b0:Ty.El tWorker×Unit):Option OUT_make.El:=(F_45 (if(1000000:Int)<b0.1.1.2.1 then(1000000:Int) else b0.1.1.2.1,a1.2)).bind fun v2=>bif !v2.1 then some ((b0.1.1,(0:Int),(9:Int),()),(b0.1,()),()) else bif decide (b0.1.1.2.1>(1000000:Int)) then some ((b0.1.1,(0:Int),(12:Int),()),(b0.1,()),()) else(F_18w (b0.1.1.1,IntKind.i64.wrap (b0.1.1.2.1+(1:Int)),b0.1.1.2.2) (if(1000000:Int)<b0.1.1.2.1 then(1000000:Int) else b0.1.1.2.1,a1.2)).bind fun v4=>some ((v4.1,if(1000000:Int)<b0.1.1.2.1 then(1000000:Int) else b0.1.1.2.1,v4.2.1,()),(b0.1,()),())
def E_make:Ent:=.mkGen 131 [] ⟨1,[],IN_make,OUT_make,fun x=>F_make x.1.2.1 x.2.1⟩
theorem e_make:E_make.Ok CT.P:=gen0 (C:=(CTp 1)) (CTp_ok 1) (tb (l:=[E_45,E_18w]) ⟨e_45,e_18w,trivial⟩) [] Tryz.f131 (by kernel_rfl) (by kernel_rfl) (by kernel_rfl) fun x=>by kernel_rfl
def c_readw:Code:=Tryz.f89.body.getD .skip
abbrev IN_readw:LayD:=⟨1,[(0,.ptr 0)],[.var 140 [.data tWorker]],fun s=>[slotR s 0]⟩
abbrev OUT_readw:LayD:=⟨1,[(0,.data I)],[.var 140 [.data tWorker]],fun _=>[0]⟩
def T_readw:Tb:=mkTb tyT mpT [E_realsw,E_get]
theorem T_readw_ok:T_readw.Ok CT.P:=mkTb_ok (⟨e_realsw,e_get,trivial⟩)
def l_readw_4:Code:=atLoop c_readw 4
def lpi_readw_4 {β:Type}:LpT β:=fun _ _ _=>none
theorem lpi_readw_4_ok {β:Type}:LpTOk (CTp 1) (lpi_readw_4 (β:=β)) (loopsOf l_readw_4):=LpTOk.is [] (by kernel_rfl) (LpTOk.nil)
def lp_readw {β:Type}:LpT β:=fun k s K=>if Nat.beq k 4 then lpUn (CTp 1) T_readw (drT (CTp 1) T_readw) (lpi_readw_4) l_readw_4 7 s K else none
theorem lp_readw_ok {β:Type}:LpTOk (CTp 1) (lp_readw (β:=β)) (loopsOf c_readw):=LpTOk.is [(4,l_readw_4)] (by kernel_rfl) (LpTOk.cons (fun s K z h=>lpUn_ok (CTp_ok 1) T_readw_ok (drT_ok (CTp_ok 1) T_readw_ok) lpi_readw_4_ok h) (LpTOk.nil))
def F_readw (b0:Ty.El tWorker×Unit):Option OUT_readw.El:=bif b0.1.2.1.1==(1:Int) then(F_realsw (b0.1,())).bind fun v2=>(F_get v2.2.1.1.2.1.2.2.2.2.1).bind fun v6=>bif v6.2.1 != (0:Int) then some ((v6.2.1,()),(v2.2.1.1,()),()) else(F_get v2.2.1.1.2.1.2.2.2.2.2.1).bind fun v12=>bif v12.2.1 != (0:Int) then some ((v12.2.1,()),((v2.2.1.1.1,v2.2.1.1.2.1,v6.1,v2.2.1.1.2.2.2),()),()) else(F_get v2.2.1.1.2.1.2.2.2.2.2.2.1).bind fun v22=>bif v22.2.1 != (0:Int) then some ((v22.2.1,()),((v2.2.1.1.1,v2.2.1.1.2.1,v6.1,v12.1,v2.2.1.1.2.2.2.2),()),()) else bif v2.2.1.1.2.1.2.2.2.1==(1:Int) then(F_get v2.2.1.1.2.1.2.2.2.2.2.2.2.2.1).bind fun v34=>bif v34.2.1 != (0:Int) then some ((v34.2.1,()),((v2.2.1.1.1,v2.2.1.1.2.1,v6.1,v12.1,v22.1,v2.2.1.1.2.2.2.2.2),()),()) else some (((0:Int),()),((v2.2.1.1.1,v2.2.1.1.2.1,v6.1,v12.1,v22.1,v2.2.1.1.2.2.2.2.2.1,v34.1),()),()) else(F_get v2.2.1.1.2.1.2.2.2.2.2.2.2.1).bind fun v50=>bif v50.2.1 != (0:Int) then some ((v50.2.1,()),((v2.2.1.1.1,v2.2.1.1.2.1,v6.1,v12.1,v22.1,v2.2.1.1.2.2.2.2.2),()),()) else(F_get v2.2.1.1.2.1.2.2.2.2.2.2.2.2.1).bind fun v60=>bif v60.2.1 != (0:Int) then some ((v60.2.1,()),((v2.2.1.1.1,v2.2.1.1.2.1,v6.1,v12.1,v22.1,v50.1,v2.2.1.1.2.2.2.2.2.2),()),()) else some (((0:Int),()),((v2.2.1.1.1,v2.2.1.1.2.1,v6.1,v12.1,v22.1,v50.1,v60.1),()),()) else bif b0.1.2.1.1==(3:Int) then(F_realsw (b0.1,())).bind fun v72=>(F_get v72.2.1.1.2.1.2.2.2.2.1).bind fun v76=>bif v76.2.1 != (0:Int) then some ((v76.2.1,()),(v72.2.1.1,()),()) else(F_get v72.2.1.1.2.1.2.2.2.2.2.1).bind fun v82=>bif v82.2.1 != (0:Int) then some ((v82.2.1,()),((v72.2.1.1.1,v72.2.1.1.2.1,v76.1,v72.2.1.1.2.2.2),()),()) else some (((0:Int),()),((v72.2.1.1.1,v72.2.1.1.2.1,v76.1,v82.1,v72.2.1.1.2.2.2.2),()),()) else bif b0.1.2.1.1==(4:Int) then(F_realsw (b0.1,())).bind fun v96=>(F_get v96.2.1.1.2.1.2.2.2.2.2.2.1).bind fun v100=>bif v100.2.1 != (0:Int) then some ((v100.2.1,()),(v96.2.1.1,()),()) else some (((0:Int),()),((v96.2.1.1.1,v96.2.1.1.2.1,v96.2.1.1.2.2.1,v96.2.1.1.2.2.2.1,v100.1,v96.2.1.1.2.2.2.2.2),()),()) else bif b0.1.2.1.1==(7:Int) then(F_realsw (b0.1,())).bind fun v114=>(F_get v114.2.1.1.2.1.2.2.2.2.1).bind fun v118=>bif v118.2.1 != (0:Int) then some ((v118.2.1,()),(v114.2.1.1,()),()) else(F_get v114.2.1.1.2.1.2.2.2.2.2.1).bind fun v124=>bif v124.2.1 != (0:Int) then some ((v124.2.1,()),((v114.2.1.1.1,v114.2.1.1.2.1,v118.1,v114.2.1.1.2.2.2),()),()) else some (((0:Int),()),((v114.2.1.1.1,v114.2.1.1.2.1,v118.1,v124.1,v114.2.1.1.2.2.2.2),()),()) else bif b0.1.2.1.1==(8:Int) then(F_realsw (b0.1,())).bind fun v138=>(F_get v138.2.1.1.2.1.2.2.2.2.1).bind fun v142=>bif v142.2.1 != (0:Int) then some ((v142.2.1,()),(v138.2.1.1,()),()) else(F_get v138.2.1.1.2.1.2.2.2.2.2.1).bind fun v148=>bif v148.2.1 != (0:Int) then some ((v148.2.1,()),((v138.2.1.1.1,v138.2.1.1.2.1,v142.1,v138.2.1.1.2.2.2),()),()) else some (((0:Int),()),((v138.2.1.1.1,v138.2.1.1.2.1,v142.1,v148.1,v138.2.1.1.2.2.2.2),()),()) else(F_realsw (b0.1,())).bind fun v162=>some (((0:Int),()),(v162.2.1.1,()),())
theorem f_readw (x:IN_readw.El):funcX (CTp 1) T_readw IN_readw OUT_readw [] (drT (CTp 1) T_readw) lp_readw Tryz.f89 c_readw x=F_readw x.2.1:=by kernel_rfl
def E_readw:Ent:=.mkGen 89 [] ⟨1,[],IN_readw,OUT_readw,fun x=>F_readw x.2.1⟩
theorem e_readw:E_readw.Ok CT.P:=Ent.ofGen (C:=(CTp 1)) (steps:=[]) (osteps:=[]) (CTp_ok 1) T_readw_ok (by kernel_rfl) (by kernel_rfl) lp_readw_ok f_readw
def c_oown:Code:=Tryz.f140.body.getD .skip
def T_oown:Tb:=mkTb tyT mpT [E_90,E_46]
theorem T_oown_ok:T_oown.Ok CT.P:=mkTb_ok (⟨e_90,e_46,trivial⟩)
def l_oown_3:Code:=atLoop c_oown 3
abbrev LD_oown_3:LayD:=⟨23,[(0,.own tThing 0),(7,.own tThing 0),(8,.data I),(9,.data I)],[.row 68 tThing],fun s=>[slotR s 0]⟩
abbrev LA_oown_3:LayD:=⟨23,[(0,.own tThing 0)],[.row 68 tThing],fun s=>[slotR s 0]⟩
abbrev LB_oown_3:LayD:=⟨23,[],[],fun _=>[]⟩
def EX_oown_3:Exits 0 LA_oown_3.El LB_oown_3.El:=⟨.exit 0,LA_oown_3.lay [],.ret,LB_oown_3.lay []⟩
def G_oown_3 (r8:Ty.El I)(r9:Ty.El I)(b0:List (Ty.El tThing)):Option (LD_oown_3.El⊕(LA_oown_3.El⊕LB_oown_3.El)):=bif decide (r9<r8) then bif decide ((0:Int)≤r9∧r9<(↑b0.length:Int)) then(F_46 (b0.getD (Int.toNat r9) tThing.dflt).2.2.2.2).bind fun v2=>bif decide ((0:Int)≤r9∧r9<(↑b0.length:Int)) then some (Sum.inl (((),(),r8,IntKind.i64.wrap (r9+(1:Int)),()),b0.set (Int.toNat r9) ((b0.getD (Int.toNat r9) tThing.dflt).1,(b0.getD (Int.toNat r9) tThing.dflt).2.1,(b0.getD (Int.toNat r9) tThing.dflt).2.2.1,(b0.getD (Int.toNat r9) tThing.dflt).2.2.2.1,v2.1),())) else none else none else some (Sum.inr (Sum.inl (((),()),b0,())))
theorem g_oown_3 (x:LD_oown_3.El):codeT CT T_oown (drT CT T_oown) lp0 l_oown_3 (LD_oown_3.enc x) (bodyK (LD_oown_3.lay []) EX_oown_3)=G_oown_3 x.1.2.2.1 x.1.2.2.2.1 x.2.1:=by kernel_rfl
def R_oown_3:LD_oown_3.El→Option (LA_oown_3.El⊕LB_oown_3.El):=roundsT (fun x=>G_oown_3 x.1.2.2.1 x.1.2.2.2.1 x.2.1) fuel
def lp_oown {β:Type}:LpT β:=fun k s K=>if Nat.beq k 3 then lpOne (LD_oown_3.lay []) EX_oown_3 R_oown_3 s K else none
theorem lp_oown_ok {β:Type}:LpTOk CT (lp_oown (β:=β)) (loopsOf c_oown):=LpTOk.is [(3,l_oown_3)] (by kernel_rfl) (LpTOk.cons (fun s K z h=>lpG CT_ok T_oown_ok (lp0_ok (by kernel_rfl)) (L:=LD_oown_3.lay []) (E:=EX_oown_3) g_oown_3 rfl rfl rfl rfl h) (LpTOk.nil))
def F_oown (a1:Ty.El (.list tThing)):Option (List (Ty.El tThing)):=(F_90 a1).bind fun v2=>(R_oown_3 (((),(),(↑v2.length:Int),(0:Int),()),v2,())).bind fun v4=>Sum.elim (fun v5=>some v5.2.1) (fun v6=>none) v4
theorem f_oown (x:Ps [.ty (.list tThing)]):funcO CT T_oown 68 tThing (drT CT T_oown) lp_oown Tryz.f140 c_oown (encPs [.ty (.list tThing)] x)=F_oown x.1:=by kernel_rfl
def E_oown:Ent:=.own 140 [] ⟨[.ty (.list tThing)],68,tThing,fun x=>F_oown x.1⟩
theorem e_oown:E_oown.Ok CT.P:=Ent.ofOwn CT_ok T_oown_ok (by kernel_rfl) (by kernel_rfl) lp_oown_ok f_oown
def c_cat:Code:=Tryz.f184.body.getD .skip
def T_cat:Tb:=mkTb tyT mpT [E_growi]
theorem T_cat_ok:T_cat.Ok CT.P:=mkTb_ok (⟨e_growi,trivial⟩)
def l_cat_11:Code:=atLoop c_cat 11
def l_cat_3:Code:=atLoop c_cat 3
abbrev LD_cat_3:LayD:=⟨36,[(0,.data (.list (.list I))),(3,.data I),(9,.data (.list (.list I))),(10,.data I),(11,.data I)],[],fun _=>[]⟩
abbrev LA_cat_3:LayD:=⟨36,[(0,.data (.list (.list I))),(3,.data I)],[],fun _=>[]⟩
abbrev LB_cat_3:LayD:=⟨36,[],[],fun _=>[]⟩
def EX_cat_3:Exits 0 LA_cat_3.El LB_cat_3.El:=⟨.exit 0,LA_cat_3.lay [],.ret,LB_cat_3.lay []⟩
def G_cat_3 (r0:Ty.El (.list (.list I)))(r3:Ty.El I)(r9:Ty.El (.list (.list I)))(r10:Ty.El I)(r11:Ty.El I):Option (LD_cat_3.El⊕(LA_cat_3.El⊕LB_cat_3.El)):=bif decide (r11<r10) then bif decide ((0:Int)≤r11∧r11<(↑(List.length r9):Int)) then bif decide (IntKind.i64.wrap (r3+(↑(List.length (List.getD r9 (Int.toNat r11) I.list.dflt)):Int))<(0:Int)) then none else some (Sum.inl ((r0,IntKind.i64.wrap (r3+(↑(List.length (List.getD r9 (Int.toNat r11) I.list.dflt)):Int)),r9,r10,IntKind.i64.wrap (r11+(1:Int)),()),())) else none else some (Sum.inr (Sum.inl ((r0,r3,()),())))
theorem g_cat_3 (x:LD_cat_3.El):codeT CT T_cat (drT CT T_cat) lp0 l_cat_3 (LD_cat_3.enc x) (bodyK (LD_cat_3.lay []) EX_cat_3)=G_cat_3 x.1.1 x.1.2.1 x.1.2.2.1 x.1.2.2.2.1 x.1.2.2.2.2.1:=by kernel_rfl
def R_cat_3:LD_cat_3.El→Option (LA_cat_3.El⊕LB_cat_3.El):=roundsT (fun x=>G_cat_3 x.1.1 x.1.2.1 x.1.2.2.1 x.1.2.2.2.1 x.1.2.2.2.2.1) fuel
abbrev LD_cat_11:LayD:=⟨36,[(6,.own I 0),(25,.data (.list (.list I))),(26,.data I),(27,.data I)],[.row 3 I],fun s=>[slotR s 6]⟩
abbrev LA_cat_11:LayD:=⟨36,[(6,.own I 0)],[.row 3 I],fun s=>[slotR s 6]⟩
abbrev LB_cat_11:LayD:=⟨36,[],[],fun _=>[]⟩
def EX_cat_11:Exits 0 LA_cat_11.El LB_cat_11.El:=⟨.exit 2,LA_cat_11.lay [],.ret,LB_cat_11.lay []⟩
def G_cat_11 (r25:Ty.El (.list (.list I)))(r26:Ty.El I)(r27:Ty.El I)(b0:List (Ty.El I)):Option (LD_cat_11.El⊕(LA_cat_11.El⊕LB_cat_11.El)):=bif decide (r27<r26) then bif decide ((0:Int)≤r27∧r27<(↑(List.length r25):Int)) then bif((b0.length+List.length (List.getD r25 (Int.toNat r27) I.list.dflt))*(8:Nat)).ble (70368744177664:Nat) then some (Sum.inl (((),r25,r26,IntKind.i64.wrap (r27+(1:Int)),()),b0++List.getD r25 (Int.toNat r27) I.list.dflt,())) else none else none else some (Sum.inr (Sum.inl (((),()),b0,())))
theorem g_cat_11 (x:LD_cat_11.El):codeT CT T_cat (drT CT T_cat) lp0 l_cat_11 (LD_cat_11.enc x) (bodyK (LD_cat_11.lay []) EX_cat_11)=G_cat_11 x.1.2.1 x.1.2.2.1 x.1.2.2.2.1 x.2.1:=by kernel_rfl
def R_cat_11:LD_cat_11.El→Option (LA_cat_11.El⊕LB_cat_11.El):=roundsT (fun x=>G_cat_11 x.1.2.1 x.1.2.2.1 x.1.2.2.2.1 x.2.1) fuel
def lp_cat {β:Type}:LpT β:=fun k s K=>if Nat.beq k 3 then lpOne (LD_cat_3.lay []) EX_cat_3 R_cat_3 s K else if Nat.beq k 11 then lpOne (LD_cat_11.lay []) EX_cat_11 R_cat_11 s K else none
theorem lp_cat_ok {β:Type}:LpTOk CT (lp_cat (β:=β)) (loopsOf c_cat):=LpTOk.is [(3,l_cat_3),(11,l_cat_11)] (by kernel_rfl) (LpTOk.cons (fun s K z h=>lpG CT_ok T_cat_ok (lp0_ok (by kernel_rfl)) (L:=LD_cat_3.lay []) (E:=EX_cat_3) g_cat_3 rfl rfl rfl rfl h) (LpTOk.cons (fun s K z h=>lpG CT_ok T_cat_ok (lp0_ok (by kernel_rfl)) (L:=LD_cat_11.lay []) (E:=EX_cat_11) g_cat_11 rfl rfl rfl rfl h) (LpTOk.nil)))
def F_cat (a1:Ty.El (.list (.list I))):Option (List (Ty.El I)):=(R_cat_3 ((a1,(0:Int),a1,(↑(List.length a1):Int),(0:Int),()),())).bind fun v1=>Sum.elim (fun v2=>(F_growi () v2.1.2.1).bind fun v4=>(R_cat_11 (((),v2.1.1,(↑(List.length v2.1.1):Int),(0:Int),()),v4,())).bind fun v5=>Sum.elim (fun v6=>some v6.2.1) (fun v7=>none) v5) (fun v8=>none) v1
theorem f_cat (x:Ps [.ty (.list (.list I))]):funcO CT T_cat 3 I (drT CT T_cat) lp_cat Tryz.f184 c_cat (encPs [.ty (.list (.list I))] x)=F_cat x.1:=by kernel_rfl
def E_cat:Ent:=.own 184 [] ⟨[.ty (.list (.list I))],3,I,fun x=>F_cat x.1⟩
theorem e_cat:E_cat.Ok CT.P:=Ent.ofOwn CT_ok T_cat_ok (by kernel_rfl) (by kernel_rfl) lp_cat_ok f_cat
abbrev IN_free1:LayD:=⟨2,[(0,.data I),(1,.ptr 0)],[.var 68 [.data tThing]],fun s=>[slotR s 1]⟩
abbrev OUT_free1:LayD:=⟨1,[(0,.data .bool)],[.var 68 [.data tThing]],fun _=>[0]⟩
def F_free1 (a0:Ty.El I)(b0:Ty.El tThing×Unit):Option OUT_free1.El:=some ((a0==b0.1.1,()),(b0.1,()),())
def E_free1:Ent:=.mkGen 185 [] ⟨1,[],IN_free1,OUT_free1,fun x=>F_free1 x.1.1 x.2.1⟩
theorem e_free1:E_free1.Ok CT.P:=gen0 (C:=(CTp 1)) (CTp_ok 1) (tb (l:=[]) trivial) [] Tryz.f185 (by kernel_rfl) (by kernel_rfl) (by kernel_rfl) fun x=>by kernel_rfl
def c_idxf:Code:=Tryz.f224.body.getD .skip
abbrev IN_idxf:LayD:=⟨2,[(0,.own I 1),(1,.cloP 185 [0])],[.var 68 [.data tThing],.row 3 I],fun s=>[slotF s 1,slotR s 0]⟩
abbrev OUT_idxf:LayD:=⟨1,[(0,.data I)],[.var 68 [.data tThing],.row 3 I],fun _=>[0,1]⟩
def T_idxf:Tb:=mkTb tyT mpT [E_free1]
theorem T_idxf_ok:T_idxf.Ok CT.P:=mkTb_ok (⟨e_free1,trivial⟩)
def l_idxf_2:Code:=atLoop c_idxf 2
abbrev LD_idxf_2:LayD:=⟨19,[(0,.own I 1),(1,.cloP 185 [0]),(7,.data I),(8,.data I)],[.var 68 [.data tThing],.row 3 I],fun s=>[0,1]⟩
abbrev LA_idxf_2:LayD:=⟨19,[],[.var 68 [.data tThing],.row 3 I],fun s=>[0,1]⟩
abbrev LB_idxf_2:LayD:=⟨19,[(4,.data I)],[.var 68 [.data tThing],.row 3 I],fun s=>[0,1]⟩
def EX_idxf_2:Exits 2 LA_idxf_2.El LB_idxf_2.El:=⟨.exit 0,LA_idxf_2.lay [],.ret,LB_idxf_2.lay []⟩
def G_idxf_2 (r7:Ty.El I)(r8:Ty.El I)(b0:Ty.El tThing×Unit)(b1:List (Ty.El I)):Option (LD_idxf_2.El⊕(LA_idxf_2.El⊕LB_idxf_2.El)):=bif decide (r8<r7) then bif decide ((0:Int)≤r8∧r8<(↑b1.length:Int)) then(F_free1 (b1.getD (Int.toNat r8) (0:Int)) (b0.1,())).bind fun v2=>bif v2.1.1 then some (Sum.inr (Sum.inr ((r8,()),(v2.2.1.1,()),b1,()))) else some (Sum.inl (((),(),r7,IntKind.i64.wrap (r8+(1:Int)),()),(v2.2.1.1,()),b1,())) else none else some (Sum.inr (Sum.inl ((),(b0.1,()),b1,())))
theorem g_idxf_2 (x:LD_idxf_2.El):codeT (CTp 2) T_idxf (drT (CTp 2) T_idxf) lp0 l_idxf_2 (LD_idxf_2.enc x) (bodyK (LD_idxf_2.lay []) EX_idxf_2)=G_idxf_2 x.1.2.2.1 x.1.2.2.2.1 x.2.1 x.2.2.1:=by kernel_rfl
def R_idxf_2:LD_idxf_2.El→Option (LA_idxf_2.El⊕LB_idxf_2.El):=roundsT (fun x=>G_idxf_2 x.1.2.2.1 x.1.2.2.2.1 x.2.1 x.2.2.1) fuel
def lp_idxf {β:Type}:LpT β:=fun k s K=>if Nat.beq k 2 then lpOne (LD_idxf_2.lay []) EX_idxf_2 R_idxf_2 s K else none
theorem lp_idxf_ok {β:Type}:LpTOk (CTp 2) (lp_idxf (β:=β)) (loopsOf c_idxf):=LpTOk.is [(2,l_idxf_2)] (by kernel_rfl) (LpTOk.cons (fun s K z h=>lpG (CTp_ok 2) T_idxf_ok (lp0_ok (by kernel_rfl)) (L:=LD_idxf_2.lay []) (E:=EX_idxf_2) g_idxf_2 rfl rfl rfl rfl h) (LpTOk.nil))
def F_idxf (b0:Ty.El tThing×Unit)(b1:List (Ty.El I)):Option OUT_idxf.El:=(R_idxf_2 (((),(),(↑b1.length:Int),(0:Int),()),(b0.1,()),b1,())).bind fun v1=>Sum.elim (fun v2=>some (((-1:Int),()),(v2.2.1.1,()),v2.2.2.1,())) (fun v3=>some ((v3.1.1,()),(v3.2.1.1,()),v3.2.2.1,())) v1
theorem f_idxf (x:IN_idxf.El):funcX (CTp 2) T_idxf IN_idxf OUT_idxf [] (drT (CTp 2) T_idxf) lp_idxf Tryz.f224 c_idxf x=F_idxf x.2.1 x.2.2.1:=by kernel_rfl
def E_idxf:Ent:=.mkGen 224 [185] ⟨2,[.nilReg 0 3 I,.rowReg 0 3 I],IN_idxf,OUT_idxf,fun x=>F_idxf x.2.1 x.2.2.1⟩
theorem e_idxf:E_idxf.Ok CT.P:=Ent.ofGen (C:=(CTp 2)) (steps:=[.nilReg 0 3 I,.rowReg 0 3 I]) (osteps:=[]) (CTp_ok 2) T_idxf_ok (by kernel_rfl) (by kernel_rfl) lp_idxf_ok f_idxf
def c_delf:Code:=Tryz.f175.body.getD .skip
abbrev IN_delf:LayD:=⟨2,[(0,.own I 1),(1,.cloP 185 [0])],[.var 68 [.data tThing],.row 3 I],fun s=>[slotF s 1,slotR s 0]⟩
abbrev OUT_delf:LayD:=⟨1,[(0,.own I 1)],[.var 68 [.data tThing],.row 3 I],fun s=>[0,slotR s 0]⟩
def T_delf:Tb:=mkTb tyT mpT [E_idxf,E_free1]
theorem T_delf_ok:T_delf.Ok CT.P:=mkTb_ok (⟨e_idxf,e_free1,trivial⟩)
def l_delf_5:Code:=atLoop c_delf 5
abbrev LD_delf_5:LayD:=⟨42,[(0,.own I 1),(1,.cloP 185 [0]),(5,.data I),(6,.data I)],[.var 68 [.data tThing],.row 3 I],fun s=>[0,1]⟩
abbrev LA_delf_5:LayD:=⟨42,[(0,.own I 1),(5,.data I)],[.var 68 [.data tThing],.row 3 I],fun s=>[0,1]⟩
abbrev LB_delf_5:LayD:=⟨42,[],[],fun _=>[]⟩
def EX_delf_5:Exits 1 LA_delf_5.El LB_delf_5.El:=⟨.exit 0,LA_delf_5.lay [],.ret,LB_delf_5.lay []⟩
def G_delf_5 (r5:Ty.El I)(r6:Ty.El I)(b0:Ty.El tThing×Unit)(b1:List (Ty.El I)):Option (LD_delf_5.El⊕(LA_delf_5.El⊕LB_delf_5.El)):=bif decide (r6<(↑b1.length:Int)) then bif decide ((0:Int)≤r6∧r6<(↑b1.length:Int)) then(F_free1 (b1.getD (Int.toNat r6) (0:Int)) (b0.1,())).bind fun v2=>bif !v2.1.1 then bif decide ((0:Int)≤r5∧r5<(↑b1.length:Int)) then some (Sum.inl (((),(),IntKind.i64.wrap (r5+(1:Int)),IntKind.i64.wrap (r6+(1:Int)),()),(v2.2.1.1,()),b1.set (Int.toNat r5) (b1.getD (Int.toNat r6) (0:Int)),())) else none else some (Sum.inl (((),(),r5,IntKind.i64.wrap (r6+(1:Int)),()),(v2.2.1.1,()),b1,())) else none else some (Sum.inr (Sum.inl (((),r5,()),(b0.1,()),b1,())))
theorem g_delf_5 (x:LD_delf_5.El):codeT (CTp 1) T_delf (drT (CTp 1) T_delf) lp0 l_delf_5 (LD_delf_5.enc x) (bodyK (LD_delf_5.lay []) EX_delf_5)=G_delf_5 x.1.2.2.1 x.1.2.2.2.1 x.2.1 x.2.2.1:=by kernel_rfl
def R_delf_5:LD_delf_5.El→Option (LA_delf_5.El⊕LB_delf_5.El):=roundsT (fun x=>G_delf_5 x.1.2.2.1 x.1.2.2.2.1 x.2.1 x.2.2.1) fuel
def lp_delf {β:Type}:LpT β:=fun k s K=>if Nat.beq k 5 then lpOne (LD_delf_5.lay []) EX_delf_5 R_delf_5 s K else none
theorem lp_delf_ok {β:Type}:LpTOk (CTp 1) (lp_delf (β:=β)) (loopsOf c_delf):=LpTOk.is [(5,l_delf_5)] (by kernel_rfl) (LpTOk.cons (fun s K z h=>lpG (CTp_ok 1) T_delf_ok (lp0_ok (by kernel_rfl)) (L:=LD_delf_5.lay []) (E:=EX_delf_5) g_delf_5 rfl rfl rfl rfl h) (LpTOk.nil))
def F_delf (b0:Ty.El tThing×Unit)(b1:List (Ty.El I)):Option OUT_delf.El:=(F_idxf (b0.1,()) b1).bind fun v2=>bif v2.1.1==(-1:Int) then some (((),()),(v2.2.1.1,()),v2.2.2.1,()) else(R_delf_5 (((),(),v2.1.1,IntKind.i64.wrap (v2.1.1+(1:Int)),()),(v2.2.1.1,()),v2.2.2.1,())).bind fun v17=>Sum.elim (fun v18=>bif decide ((0:Int)≤v18.1.2.1∧v18.1.2.1≤(↑(List.length v18.2.2.1):Int)) then bif(Int.toNat v18.1.2.1).blt (List.length v18.2.2.1) then bif true&&((Int.toNat v18.1.2.1*(1:Nat)+(List.length v18.2.2.1-Int.toNat v18.1.2.1)).beq (List.length v18.2.2.1)&&(Nat.blt (0:Nat) (List.length v18.2.2.1)&&true)) then bif decide ((0:Int)≤v18.1.2.1∧v18.1.2.1≤(↑(List.take (Int.toNat v18.1.2.1*(1:Nat)) v18.2.2.1++List.replicate (List.length v18.2.2.1-Int.toNat v18.1.2.1) (0:Int)).length:Int)) then bif Nat.blt (0:Nat) (List.take (Int.toNat v18.1.2.1*(1:Nat)) v18.2.2.1++List.replicate (List.length v18.2.2.1-Int.toNat v18.1.2.1) (0:Int)).length then some (((),()),(v18.2.1.1,()),List.take (Int.toNat v18.1.2.1) (List.take (Int.toNat v18.1.2.1*(1:Nat)) v18.2.2.1++List.replicate (List.length v18.2.2.1-Int.toNat v18.1.2.1) (0:Int)),()) else none else none else none else none else none) (fun v19=>none) v17
theorem f_delf (x:IN_delf.El):funcX (CTp 1) T_delf IN_delf OUT_delf [.nilReg 0 3 I,.rowReg 0 3 I] (drT (CTp 1) T_delf) lp_delf Tryz.f175 c_delf x=F_delf x.2.1 x.2.2.1:=by kernel_rfl
def E_delf:Ent:=.mkGen 175 [185] ⟨1,[.nilReg 0 3 I,.rowReg 0 3 I],IN_delf,OUT_delf,fun x=>F_delf x.2.1 x.2.2.1⟩
theorem e_delf:E_delf.Ok CT.P:=Ent.ofGen (C:=(CTp 1)) (steps:=[.nilReg 0 3 I,.rowReg 0 3 I]) (osteps:=[.nilReg 0 3 I,.rowReg 0 3 I]) (CTp_ok 1) T_delf_ok (by kernel_rfl) (by kernel_rfl) lp_delf_ok f_delf
def c_free:Code:=Tryz.f137.body.getD .skip
abbrev IN_free:LayD:=⟨1,[(0,.ptr 0)],[.var 140 [.data tWorker]],fun s=>[slotR s 0]⟩
abbrev OUT_free:LayD:=⟨3,[(0,.data tScene),(1,.data I),(2,.data I)],[.var 140 [.data tWorker]],fun _=>[0]⟩
def T_free:Tb:=mkTb tyT mpT [E_23,E_oown,E_59,E_cat,E_delf,E_74]
theorem T_free_ok:T_free.Ok CT.P:=mkTb_ok (⟨e_23,e_oown,e_59,e_cat,e_delf,e_74,trivial⟩)
def l_free_9:Code:=atLoop c_free 9
abbrev LD_free_9:LayD:=⟨92,[(0,.ptr 0),(2,.ptr 1),(5,.ptr 2),(7,.ptr 3),(48,.own tThing 5),(49,.data I),(50,.data I)],[.var 140 [.data tWorker],.var 51 [.data tScene],.var 68 [.data tThing],.var 51 [.data tVec,.data I,.own tThing 4],.row 68 tThing,.row 68 tThing],fun s=>[slotR s 0,slotR s 2,slotR s 5,slotR s 7,slotC s 7 3,slotR s 48]⟩
abbrev LA_free_9:LayD:=⟨92,[(0,.ptr 0),(2,.ptr 1),(7,.ptr 2)],[.var 140 [.data tWorker],.var 51 [.data tScene],.var 51 [.data tVec,.data I,.own tThing 3],.row 68 tThing],fun s=>[slotR s 0,slotR s 2,slotR s 7,slotC s 7 3]⟩
abbrev LB_free_9:LayD:=⟨92,[(0,.ptr 0),(2,.ptr 1),(3,.data I),(4,.data I)],[.var 140 [.data tWorker],.var 51 [.data tScene]],fun s=>[slotR s 0,slotR s 2]⟩
def EX_free_9:Exits 1 LA_free_9.El LB_free_9.El:=⟨.exit 1,LA_free_9.lay [.nilCell 7 3 68 tThing],.ret,LB_free_9.lay []⟩
def G_free_9 (r49:Ty.El I)(r50:Ty.El I)(b0:Ty.El tWorker×Unit)(b1:Ty.El tScene×Unit)(b2:Ty.El tThing×Unit)(b3:Ty.El tVec×Ty.El I×Unit×Unit)(b4:List (Ty.El tThing))(b5:List (Ty.El tThing)):Option (LD_free_9.El⊕(LA_free_9.El⊕LB_free_9.El)):=bif decide (r50<r49) then bif decide ((0:Int)≤r50∧r50<(↑b5.length:Int)) then(F_59 (b5.getD (Int.toNat r50) tThing.dflt).2.2.2.2 b2.1.1).bind fun v2=>bif v2.1 then(F_cat [(b5.getD (Int.toNat r50) tThing.dflt).2.2.2.2,b2.1.2.2.2.2]).bind fun v4=>(F_delf (b2.1,()) v4).bind fun v6=>(F_74 v6.2.2.1).bind fun v10=>bif decide ((↑(List.length v10.2.1):Int)>(8:Int)) then some (Sum.inr (Sum.inr (((),(),(0:Int),(12:Int),()),(b0.1,()),(b0.1.1,()),()))) else bif(b5.getD (Int.toNat r50) tThing.dflt).1 != v6.2.1.1.1 then bif((b4.length+[((b5.getD (Int.toNat r50) tThing.dflt).1,(b5.getD (Int.toNat r50) tThing.dflt).2.1,(b5.getD (Int.toNat r50) tThing.dflt).2.2.1,(b5.getD (Int.toNat r50) tThing.dflt).2.2.2.1,v10.2.1)].length)*(128:Nat)).ble (70368744177664:Nat) then some (Sum.inl (((),(),(),(),(),r49,IntKind.i64.wrap (r50+(1:Int)),()),(b0.1,()),(b1.1,()),(v6.2.1.1,()),(b3.1,b3.2.1,(),()),b4++[((b5.getD (Int.toNat r50) tThing.dflt).1,(b5.getD (Int.toNat r50) tThing.dflt).2.1,(b5.getD (Int.toNat r50) tThing.dflt).2.2.1,(b5.getD (Int.toNat r50) tThing.dflt).2.2.2.1,v10.2.1)],b5,())) else none else some (Sum.inl (((),(),(),(),(),r49,IntKind.i64.wrap (r50+(1:Int)),()),(b0.1,()),(b1.1,()),(v6.2.1.1,()),(b3.1,b3.2.1,(),()),b4,b5,())) else bif(b5.getD (Int.toNat r50) tThing.dflt).1 != b2.1.1 then bif((b4.length+[b5.getD (Int.toNat r50) tThing.dflt].length)*(128:Nat)).ble (70368744177664:Nat) then some (Sum.inl (((),(),(),(),(),r49,IntKind.i64.wrap (r50+(1:Int)),()),(b0.1,()),(b1.1,()),(b2.1,()),(b3.1,b3.2.1,(),()),b4++[b5.getD (Int.toNat r50) tThing.dflt],b5,())) else none else some (Sum.inl (((),(),(),(),(),r49,IntKind.i64.wrap (r50+(1:Int)),()),(b0.1,()),(b1.1,()),(b2.1,()),(b3.1,b3.2.1,(),()),b4,b5,())) else none else some (Sum.inr (Sum.inl (((),(),(),()),(b0.1,()),(b1.1,()),(b3.1,b3.2.1,(),()),b4,())))
theorem g_free_9 (x:LD_free_9.El):codeT (CTp 1) T_free (drT (CTp 1) T_free) lp0 l_free_9 (LD_free_9.enc x) (bodyK (LD_free_9.lay [.nilCell 7 3 68 tThing]) EX_free_9)=G_free_9 x.1.2.2.2.2.2.1 x.1.2.2.2.2.2.2.1 x.2.1 x.2.2.1 x.2.2.2.1 x.2.2.2.2.1 x.2.2.2.2.2.1 x.2.2.2.2.2.2.1:=by kernel_rfl
def R_free_9:LD_free_9.El→Option (LA_free_9.El⊕LB_free_9.El):=roundsT (fun x=>G_free_9 x.1.2.2.2.2.2.1 x.1.2.2.2.2.2.2.1 x.2.1 x.2.2.1 x.2.2.2.1 x.2.2.2.2.1 x.2.2.2.2.2.1 x.2.2.2.2.2.2.1) fuel
def lp_free {β:Type}:LpT β:=fun k s K=>if Nat.beq k 9 then lpOne (LD_free_9.lay [.nilCell 7 3 68 tThing]) EX_free_9 R_free_9 s K else none
theorem lp_free_ok {β:Type}:LpTOk (CTp 1) (lp_free (β:=β)) (loopsOf c_free):=LpTOk.is [(9,l_free_9)] (by kernel_rfl) (LpTOk.cons (fun s K z h=>lpG (CTp_ok 1) T_free_ok (lp0_ok (by kernel_rfl)) (L:=LD_free_9.lay [.nilCell 7 3 68 tThing]) (E:=EX_free_9) g_free_9 rfl rfl rfl rfl h) (LpTOk.nil))
def F_free (b0:Ty.El tWorker×Unit):Option OUT_free.El:=(F_23 b0.1.1 b0.1.2.1.2.1).bind fun v2=>bif !v2.2.1 then some ((b0.1.1,(0:Int),(10:Int),()),(b0.1,()),()) else bif v2.1.2.1 != (3:Int) then some ((b0.1.1,(0:Int),(9:Int),()),(b0.1,()),()) else(F_oown b0.1.1.2.2).bind fun v4=>(R_free_9 (((),(),(),(),(),(↑v4.length:Int),(0:Int),()),(b0.1,()),((((0:Int),(0:Int)),(0:Int),[]),()),(v2.1,()),(b0.1.1.1,b0.1.1.2.1,(),()),[],v4,())).bind fun v6=>Sum.elim (fun v7=>some (((v7.2.2.2.1.1,v7.2.2.2.1.2.1,v7.2.2.2.2.1),(0:Int),(0:Int),()),(v7.2.1.1,()),())) (fun v8=>some ((v8.2.2.1.1,v8.1.2.2.1,v8.1.2.2.2.1,()),(v8.2.1.1,()),())) v6
theorem f_free (x:IN_free.El):funcX (CTp 1) T_free IN_free OUT_free [.frzReg 0 tScene] (drT (CTp 1) T_free) lp_free Tryz.f137 c_free x=F_free x.2.1:=by kernel_rfl
def E_free:Ent:=.mkGen 137 [] ⟨1,[],IN_free,OUT_free,fun x=>F_free x.2.1⟩
theorem e_free:E_free.Ok CT.P:=Ent.ofGen (C:=(CTp 1)) (steps:=[]) (osteps:=[.frzReg 0 tScene]) (CTp_ok 1) T_free_ok (by kernel_rfl) (by kernel_rfl) lp_free_ok f_free
end Go.DI.S
end
