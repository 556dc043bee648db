import Derived.Test.YtbjldjihpekhaaaGreatNe
/- kin.Drop, told by functions on data. No conditions. -/
set_option linter.unusedVariables false
set_option maxRecDepth 100000
set_option maxHeartbeats 0
noncomputable section
namespace Go.DI.S
open Go.Proofs
abbrev IN_119:LayD:=⟨2,[(0,.data I),(1,.ptr 0)],[.var 189 [.map 1],.tmap I .bool],fun s=>[slotR s 1,slotC s 1 0]⟩
abbrev OUT_119:LayD:=⟨1,[(0,.data .bool)],[.var 189 [.map 1],.tmap I .bool],fun _=>[0,1]⟩
def F_119 (a0:Ty.El I)(b0:Unit×Unit)(b1:List (Ty.El I×Ty.El (.bool))):Option OUT_119.El:=some ((!(tget I Ty.bool a0 b1).getD false,()),((),()),b1,())
def E_119:Ent:=.mkGen 223 [] ⟨2,[],IN_119,OUT_119,fun x=>F_119 x.1.1 x.2.1 x.2.2.1⟩
theorem e_119:E_119.Ok CT.P:=gen0 (C:=(CTp 2)) (CTp_ok 2) (tb (l:=[]) trivial) [] Tryz.f223 (by kernel_rfl) (by kernel_rfl) (by kernel_rfl) fun x=>by kernel_rfl
abbrev IN_77:LayD:=⟨2,[(0,.data I),(1,.ptr 0)],[.var 189 [.map 1],.tmap I .bool],fun s=>[slotR s 1,slotC s 1 0]⟩
abbrev OUT_77:LayD:=⟨1,[(0,.data .bool)],[.var 189 [.map 1],.tmap I .bool],fun _=>[0,1]⟩
def F_77 (a0:Ty.El I)(b0:Unit×Unit)(b1:List (Ty.El I×Ty.El (.bool))):Option OUT_77.El:=some (((tget I Ty.bool a0 b1).getD false,()),((),()),b1,())
def E_77:Ent:=.mkGen 176 [] ⟨2,[],IN_77,OUT_77,fun x=>F_77 x.1.1 x.2.1 x.2.2.1⟩
theorem e_77:E_77.Ok CT.P:=gen0 (C:=(CTp 2)) (CTp_ok 2) (tb (l:=[]) trivial) [] Tryz.f176 (by kernel_rfl) (by kernel_rfl) (by kernel_rfl) fun x=>by kernel_rfl
def c_120_119:Code:=Tryz.f224.body.getD .skip
abbrev IN_120_119:LayD:=⟨2,[(0,.data (.list I)),(1,.cloP 223 [0])],[.var 189 [.map 1],.tmap I .bool],fun s=>[slotF s 1,slotG s 1]⟩
abbrev OUT_120_119:LayD:=⟨1,[(0,.data I)],[.var 189 [.map 1],.tmap I .bool],fun _=>[0,1]⟩
def T_120_119:Tb:=mkTb tyT mpT [E_119]
theorem T_120_119_ok:T_120_119.Ok CT.P:=mkTb_ok (⟨e_119,trivial⟩)
def l_120_119_2:Code:=atLoop c_120_119 2
abbrev LD_120_119_2:LayD:=⟨19,[(0,.data (.list I)),(1,.cloP 223 [0]),(7,.data I),(8,.data I)],[.var 189 [.map 1],.tmap I .bool],fun s=>[0,1]⟩
abbrev LA_120_119_2:LayD:=⟨19,[],[.var 189 [.map 1],.tmap I .bool],fun s=>[0,1]⟩
abbrev LB_120_119_2:LayD:=⟨19,[(4,.data I)],[.var 189 [.map 1],.tmap I .bool],fun s=>[0,1]⟩
def EX_120_119_2:Exits 2 LA_120_119_2.El LB_120_119_2.El:=⟨.exit 0,LA_120_119_2.lay [],.ret,LB_120_119_2.lay []⟩
def G_120_119_2 (r0:Ty.El (.list I))(r7:Ty.El I)(r8:Ty.El I)(b0:Unit×Unit)(b1:List (Ty.El I×Ty.El (.bool))):Option (LD_120_119_2.El⊕(LA_120_119_2.El⊕LB_120_119_2.El)):=bif decide (r8<r7) then bif decide ((0:Int)≤r8∧r8<(↑(List.length r0):Int)) then(F_119 (List.getD r0 (Int.toNat r8) (0:Int)) ((),()) b1).bind fun v2=>bif v2.1.1 then some (Sum.inr (Sum.inr ((r8,()),((),()),v2.2.2.1,()))) else some (Sum.inl ((r0,(),r7,IntKind.i64.wrap (r8+(1:Int)),()),((),()),v2.2.2.1,())) else none else some (Sum.inr (Sum.inl ((),((),()),b1,())))
theorem g_120_119_2 (x:LD_120_119_2.El):codeT (CTp 2) T_120_119 (drT (CTp 2) T_120_119) lp0 l_120_119_2 (LD_120_119_2.enc x) (bodyK (LD_120_119_2.lay []) EX_120_119_2)=G_120_119_2 x.1.1 x.1.2.2.1 x.1.2.2.2.1 x.2.1 x.2.2.1:=by kernel_rfl
def R_120_119_2:LD_120_119_2.El→Option (LA_120_119_2.El⊕LB_120_119_2.El):=roundsT (fun x=>G_120_119_2 x.1.1 x.1.2.2.1 x.1.2.2.2.1 x.2.1 x.2.2.1) fuel
def lp_120_119 {β:Type}:LpT β:=fun k s K=>if Nat.beq k 2 then lpOne (LD_120_119_2.lay []) EX_120_119_2 R_120_119_2 s K else none
theorem lp_120_119_ok {β:Type}:LpTOk (CTp 2) (lp_120_119 (β:=β)) (loopsOf c_120_119):=LpTOk.is [(2,l_120_119_2)] (by kernel_rfl) (LpTOk.cons (fun s K z h=>lpG (CTp_ok 2) T_120_119_ok (lp0_ok (by kernel_rfl)) (L:=LD_120_119_2.lay []) (E:=EX_120_119_2) g_120_119_2 rfl rfl rfl rfl h) (LpTOk.nil))
def F_120_119 (a0:Ty.El (.list I))(b0:Unit×Unit)(b1:List (Ty.El I×Ty.El (.bool))):Option OUT_120_119.El:=(R_120_119_2 ((a0,(),(↑(List.length a0):Int),(0:Int),()),((),()),b1,())).bind fun v1=>Sum.elim (fun v2=>some (((-1:Int),()),((),()),v2.2.2.1,())) (fun v3=>some ((v3.1.1,()),((),()),v3.2.2.1,())) v1
theorem f_120_119 (x:IN_120_119.El):funcX (CTp 2) T_120_119 IN_120_119 OUT_120_119 [] (drT (CTp 2) T_120_119) lp_120_119 Tryz.f224 c_120_119 x=F_120_119 x.1.1 x.2.1 x.2.2.1:=by kernel_rfl
def E_120_119:Ent:=.mkGen 224 [223] ⟨2,[],IN_120_119,OUT_120_119,fun x=>F_120_119 x.1.1 x.2.1 x.2.2.1⟩
theorem e_120_119:E_120_119.Ok CT.P:=Ent.ofGen (C:=(CTp 2)) (steps:=[]) (osteps:=[]) (CTp_ok 2) T_120_119_ok (by kernel_rfl) (by kernel_rfl) lp_120_119_ok f_120_119
abbrev IN_79_119:LayD:=⟨2,[(0,.data (.list I)),(1,.cloP 223 [0])],[.var 189 [.map 1],.tmap I .bool],fun s=>[slotF s 1,slotG s 1]⟩
abbrev OUT_79_119:LayD:=⟨1,[(0,.data .bool)],[.var 189 [.map 1],.tmap I .bool],fun _=>[0,1]⟩
def F_79_119 (a0:Ty.El (.list I))(b0:Unit×Unit)(b1:List (Ty.El I×Ty.El (.bool))):Option OUT_79_119.El:=(F_120_119 a0 ((),()) b1).bind fun v2=>some ((decide (v2.1.1≥(0:Int)),()),((),()),v2.2.2.1,())
def E_79_119:Ent:=.mkGen 182 [223] ⟨2,[],IN_79_119,OUT_79_119,fun x=>F_79_119 x.1.1 x.2.1 x.2.2.1⟩
theorem e_79_119:E_79_119.Ok CT.P:=gen0 (C:=(CTp 2)) (CTp_ok 2) (tb (l:=[E_120_119]) ⟨e_120_119,trivial⟩) [] Tryz.f182 (by kernel_rfl) (by kernel_rfl) (by kernel_rfl) fun x=>by kernel_rfl
abbrev IN_75:LayD:=⟨2,[(0,.data tThing),(1,.map 0)],[.tmap I .bool],fun s=>[slotR s 1]⟩
abbrev OUT_75:LayD:=⟨1,[(0,.data .bool)],[.tmap I .bool],fun _=>[0]⟩
def F_75 (a0:Ty.El tThing)(b0:List (Ty.El I×Ty.El (.bool))):Option OUT_75.El:=bif a0.2.1==(2:Int) then bif(tget I Ty.bool a0.2.2.2.1.1 b0).getD false then some ((true,()),b0,()) else some (((tget I Ty.bool a0.2.2.2.1.2.1 b0).getD false,()),b0,()) else bif a0.2.1==(3:Int) then(F_79_119 a0.2.2.2.2 ((),()) b0).bind fun v2=>some ((!v2.1.1,()),v2.2.2.1,()) else some ((false,()),b0,())
def E_75:Ent:=.mkGen 174 [] ⟨1,[],IN_75,OUT_75,fun x=>F_75 x.1.1 x.2.1⟩
theorem e_75:E_75.Ok CT.P:=gen0 (C:=(CTp 1)) (CTp_ok 1) (tb (l:=[E_79_119]) ⟨e_79_119,trivial⟩) [] Tryz.f174 (by kernel_rfl) (by kernel_rfl) (by kernel_rfl) fun x=>by kernel_rfl
def c_120_77o:Code:=Tryz.f224.body.getD .skip
abbrev IN_120_77o:LayD:=⟨2,[(0,.own I 2),(1,.cloP 176 [0])],[.var 189 [.map 1],.tmap I .bool,.row 3 I],fun s=>[slotF s 1,slotG s 1,slotR s 0]⟩
abbrev OUT_120_77o:LayD:=⟨1,[(0,.data I)],[.var 189 [.map 1],.tmap I .bool,.row 3 I],fun _=>[0,1,2]⟩
def T_120_77o:Tb:=mkTb tyT mpT [E_77]
theorem T_120_77o_ok:T_120_77o.Ok CT.P:=mkTb_ok (⟨e_77,trivial⟩)
def l_120_77o_2:Code:=atLoop c_120_77o 2
abbrev LD_120_77o_2:LayD:=⟨19,[(0,.own I 2),(1,.cloP 176 [0]),(7,.data I),(8,.data I)],[.var 189 [.map 1],.tmap I .bool,.row 3 I],fun s=>[0,1,2]⟩
abbrev LA_120_77o_2:LayD:=⟨19,[],[.var 189 [.map 1],.tmap I .bool,.row 3 I],fun s=>[0,1,2]⟩
abbrev LB_120_77o_2:LayD:=⟨19,[(4,.data I)],[.var 189 [.map 1],.tmap I .bool,.row 3 I],fun s=>[0,1,2]⟩
def EX_120_77o_2:Exits 3 LA_120_77o_2.El LB_120_77o_2.El:=⟨.exit 0,LA_120_77o_2.lay [],.ret,LB_120_77o_2.lay []⟩
def G_120_77o_2 (r7:Ty.El I)(r8:Ty.El I)(b0:Unit×Unit)(b1:List (Ty.El I×Ty.El (.bool)))(b2:List (Ty.El I)):Option (LD_120_77o_2.El⊕(LA_120_77o_2.El⊕LB_120_77o_2.El)):=bif decide (r8<r7) then bif decide ((0:Int)≤r8∧r8<(↑b2.length:Int)) then(F_77 (b2.getD (Int.toNat r8) (0:Int)) ((),()) b1).bind fun v2=>bif v2.1.1 then some (Sum.inr (Sum.inr ((r8,()),((),()),v2.2.2.1,b2,()))) else some (Sum.inl (((),(),r7,IntKind.i64.wrap (r8+(1:Int)),()),((),()),v2.2.2.1,b2,())) else none else some (Sum.inr (Sum.inl ((),((),()),b1,b2,())))
theorem g_120_77o_2 (x:LD_120_77o_2.El):codeT (CTp 3) T_120_77o (drT (CTp 3) T_120_77o) lp0 l_120_77o_2 (LD_120_77o_2.enc x) (bodyK (LD_120_77o_2.lay []) EX_120_77o_2)=G_120_77o_2 x.1.2.2.1 x.1.2.2.2.1 x.2.1 x.2.2.1 x.2.2.2.1:=by kernel_rfl
def R_120_77o_2:LD_120_77o_2.El→Option (LA_120_77o_2.El⊕LB_120_77o_2.El):=roundsT (fun x=>G_120_77o_2 x.1.2.2.1 x.1.2.2.2.1 x.2.1 x.2.2.1 x.2.2.2.1) fuel
def lp_120_77o {β:Type}:LpT β:=fun k s K=>if Nat.beq k 2 then lpOne (LD_120_77o_2.lay []) EX_120_77o_2 R_120_77o_2 s K else none
theorem lp_120_77o_ok {β:Type}:LpTOk (CTp 3) (lp_120_77o (β:=β)) (loopsOf c_120_77o):=LpTOk.is [(2,l_120_77o_2)] (by kernel_rfl) (LpTOk.cons (fun s K z h=>lpG (CTp_ok 3) T_120_77o_ok (lp0_ok (by kernel_rfl)) (L:=LD_120_77o_2.lay []) (E:=EX_120_77o_2) g_120_77o_2 rfl rfl rfl rfl h) (LpTOk.nil))
def F_120_77o (b0:Unit×Unit)(b1:List (Ty.El I×Ty.El (.bool)))(b2:List (Ty.El I)):Option OUT_120_77o.El:=(R_120_77o_2 (((),(),(↑b2.length:Int),(0:Int),()),((),()),b1,b2,())).bind fun v1=>Sum.elim (fun v2=>some (((-1:Int),()),((),()),v2.2.2.1,v2.2.2.2.1,())) (fun v3=>some ((v3.1.1,()),((),()),v3.2.2.1,v3.2.2.2.1,())) v1
theorem f_120_77o (x:IN_120_77o.El):funcX (CTp 3) T_120_77o IN_120_77o OUT_120_77o [] (drT (CTp 3) T_120_77o) lp_120_77o Tryz.f224 c_120_77o x=F_120_77o x.2.1 x.2.2.1 x.2.2.2.1:=by kernel_rfl
def E_120_77o:Ent:=.mkGen 224 [176] ⟨3,[.nilReg 0 3 I,.rowReg 0 3 I],IN_120_77o,OUT_120_77o,fun x=>F_120_77o x.2.1 x.2.2.1 x.2.2.2.1⟩
theorem e_120_77o:E_120_77o.Ok CT.P:=Ent.ofGen (C:=(CTp 3)) (steps:=[.nilReg 0 3 I,.rowReg 0 3 I]) (osteps:=[]) (CTp_ok 3) T_120_77o_ok (by kernel_rfl) (by kernel_rfl) lp_120_77o_ok f_120_77o
def c_76o:Code:=Tryz.f175.body.getD .skip
abbrev IN_76o:LayD:=⟨2,[(0,.own I 2),(1,.cloP 176 [0])],[.var 189 [.map 1],.tmap I .bool,.row 3 I],fun s=>[slotF s 1,slotG s 1,slotR s 0]⟩
abbrev OUT_76o:LayD:=⟨1,[(0,.data (.list I))],[.var 189 [.map 1],.tmap I .bool],fun _=>[0,1]⟩
def T_76o:Tb:=mkTb tyT mpT [E_120_77o,E_77]
theorem T_76o_ok:T_76o.Ok CT.P:=mkTb_ok (⟨e_120_77o,e_77,trivial⟩)
def l_76o_5:Code:=atLoop c_76o 5
abbrev LD_76o_5:LayD:=⟨42,[(0,.own I 2),(1,.cloP 176 [0]),(5,.data I),(6,.data I)],[.var 189 [.map 1],.tmap I .bool,.row 3 I],fun s=>[0,1,2]⟩
abbrev LA_76o_5:LayD:=⟨42,[(0,.own I 2),(5,.data I)],[.var 189 [.map 1],.tmap I .bool,.row 3 I],fun s=>[0,1,2]⟩
abbrev LB_76o_5:LayD:=⟨42,[],[],fun _=>[]⟩
def EX_76o_5:Exits 2 LA_76o_5.El LB_76o_5.El:=⟨.exit 0,LA_76o_5.lay [],.ret,LB_76o_5.lay []⟩
def G_76o_5 (r5:Ty.El I)(r6:Ty.El I)(b0:Unit×Unit)(b1:List (Ty.El I×Ty.El (.bool)))(b2:List (Ty.El I)):Option (LD_76o_5.El⊕(LA_76o_5.El⊕LB_76o_5.El)):=bif decide (r6<(↑b2.length:Int)) then bif decide ((0:Int)≤r6∧r6<(↑b2.length:Int)) then(F_77 (b2.getD (Int.toNat r6) (0:Int)) ((),()) b1).bind fun v2=>bif !v2.1.1 then bif decide ((0:Int)≤r5∧r5<(↑b2.length:Int)) then some (Sum.inl (((),(),IntKind.i64.wrap (r5+(1:Int)),IntKind.i64.wrap (r6+(1:Int)),()),((),()),v2.2.2.1,b2.set (Int.toNat r5) (b2.getD (Int.toNat r6) (0:Int)),())) else none else some (Sum.inl (((),(),r5,IntKind.i64.wrap (r6+(1:Int)),()),((),()),v2.2.2.1,b2,())) else none else some (Sum.inr (Sum.inl (((),r5,()),((),()),b1,b2,())))
theorem g_76o_5 (x:LD_76o_5.El):codeT (CTp 2) T_76o (drT (CTp 2) T_76o) lp0 l_76o_5 (LD_76o_5.enc x) (bodyK (LD_76o_5.lay []) EX_76o_5)=G_76o_5 x.1.2.2.1 x.1.2.2.2.1 x.2.1 x.2.2.1 x.2.2.2.1:=by kernel_rfl
def R_76o_5:LD_76o_5.El→Option (LA_76o_5.El⊕LB_76o_5.El):=roundsT (fun x=>G_76o_5 x.1.2.2.1 x.1.2.2.2.1 x.2.1 x.2.2.1 x.2.2.2.1) fuel
def lp_76o {β:Type}:LpT β:=fun k s K=>if Nat.beq k 5 then lpOne (LD_76o_5.lay []) EX_76o_5 R_76o_5 s K else none
theorem lp_76o_ok {β:Type}:LpTOk (CTp 2) (lp_76o (β:=β)) (loopsOf c_76o):=LpTOk.is [(5,l_76o_5)] (by kernel_rfl) (LpTOk.cons (fun s K z h=>lpG (CTp_ok 2) T_76o_ok (lp0_ok (by kernel_rfl)) (L:=LD_76o_5.lay []) (E:=EX_76o_5) g_76o_5 rfl rfl rfl rfl h) (LpTOk.nil))
def F_76o (b0:Unit×Unit)(b1:List (Ty.El I×Ty.El (.bool)))(b2:List (Ty.El I)):Option OUT_76o.El:=(F_120_77o ((),()) b1 b2).bind fun v2=>bif v2.1.1==(-1:Int) then some ((v2.2.2.2.1,()),((),()),v2.2.2.1,()) else(R_76o_5 (((),(),v2.1.1,IntKind.i64.wrap (v2.1.1+(1:Int)),()),((),()),v2.2.2.1,v2.2.2.2.1,())).bind fun v17=>Sum.elim (fun v18=>bif decide ((0:Int)≤v18.1.2.1∧v18.1.2.1≤(↑(List.length v18.2.2.2.1):Int)) then bif(Int.toNat v18.1.2.1).blt (List.length v18.2.2.2.1) then bif true&&((Int.toNat v18.1.2.1*(1:Nat)+(List.length v18.2.2.2.1-Int.toNat v18.1.2.1)).beq (List.length v18.2.2.2.1)&&(Nat.blt (0:Nat) (List.length v18.2.2.2.1)&&true)) then bif decide ((0:Int)≤v18.1.2.1∧v18.1.2.1≤(↑(List.take (Int.toNat v18.1.2.1*(1:Nat)) v18.2.2.2.1++List.replicate (List.length v18.2.2.2.1-Int.toNat v18.1.2.1) (0:Int)).length:Int)) then bif Nat.blt (0:Nat) (List.take (Int.toNat v18.1.2.1*(1:Nat)) v18.2.2.2.1++List.replicate (List.length v18.2.2.2.1-Int.toNat v18.1.2.1) (0:Int)).length then some ((List.take (Int.toNat v18.1.2.1) (List.take (Int.toNat v18.1.2.1*(1:Nat)) v18.2.2.2.1++List.replicate (List.length v18.2.2.2.1-Int.toNat v18.1.2.1) (0:Int)),()),((),()),v18.2.2.1,()) else none else none else none else none else none) (fun v24=>none) v17
theorem f_76o (x:IN_76o.El):funcX (CTp 2) T_76o IN_76o OUT_76o [.frzReg 0 (.list I)] (drT (CTp 2) T_76o) lp_76o Tryz.f175 c_76o x=F_76o x.2.1 x.2.2.1 x.2.2.2.1:=by kernel_rfl
def E_76o:Ent:=.mkGen 175 [176] ⟨2,[.nilReg 0 3 I,.rowReg 0 3 I],IN_76o,OUT_76o,fun x=>F_76o x.2.1 x.2.2.1 x.2.2.2.1⟩
theorem e_76o:E_76o.Ok CT.P:=Ent.ofGen (C:=(CTp 2)) (steps:=[.nilReg 0 3 I,.rowReg 0 3 I]) (osteps:=[.frzReg 0 (.list I)]) (CTp_ok 2) T_76o_ok (by kernel_rfl) (by kernel_rfl) lp_76o_ok f_76o
def c_39:Code:=Tryz.f133.body.getD .skip
def T_39:Tb:=mkTb tyT mpT [E_20,E_23h,E_37,E_46o,E_75,E_76o]
theorem T_39_ok:T_39.Ok CT.P:=mkTb_ok (⟨e_20,e_23,e_37,e_46o,e_75,e_76o,trivial⟩)
def l_39_22:Code:=atLoop c_39 22
def l_39_13:Code:=atLoop c_39 13
def l_39_8:Code:=atLoop c_39 8
def l_39_15:Code:=atLoop l_39_13 15
abbrev LD_39_15:LayD:=⟨93,[(2,.ptr 0),(4,.ptr 1),(8,.ptr 2),(43,.data I),(44,.data I),(47,.data (.list tThing)),(48,.data I),(49,.data I)],[.var 51 [.data tScene],.var 51 [.data tScene],.var 189 [.map 3],.tmap I .bool],fun s=>[slotR s 2,slotR s 4,slotR s 8,slotC s 8 0]⟩
abbrev LA_39_15:LayD:=⟨93,[(2,.ptr 0),(4,.ptr 1),(8,.ptr 2),(43,.data I),(44,.data I)],[.var 51 [.data tScene],.var 51 [.data tScene],.var 189 [.map 3],.tmap I .bool],fun s=>[slotR s 2,slotR s 4,slotR s 8,slotC s 8 0]⟩
abbrev LB_39_15:LayD:=⟨93,[],[],fun _=>[]⟩
def EX_39_15:Exits 0 LA_39_15.El LB_39_15.El:=⟨.exit 4,LA_39_15.lay [],.ret,LB_39_15.lay []⟩
def G_39_15 (r43:Ty.El I)(r44:Ty.El I)(r47:Ty.El (.list tThing))(r48:Ty.El I)(r49:Ty.El I)(b0:Ty.El tScene×Unit)(b1:Ty.El tScene×Unit)(b2:Unit×Unit)(b3:List (Ty.El I×Ty.El (.bool))):Option (LD_39_15.El⊕(LA_39_15.El⊕LB_39_15.El)):=bif decide (r49<r48) then bif decide ((0:Int)≤r49∧r49<(↑(List.length r47):Int)) then bif(tget I Ty.bool (List.getD r47 (Int.toNat r49) tThing.dflt).1 b3).getD false then some (Sum.inl (((),(),(),r43,r44,r47,r48,IntKind.i64.wrap (r49+(1:Int)),()),(b0.1,()),(b1.1,()),((),()),tput I Ty.bool (List.getD r47 (Int.toNat r49) tThing.dflt).1 true b3,())) else(F_75 (List.getD r47 (Int.toNat r49) tThing.dflt) b3).bind fun v2=>some (Sum.inl (((),(),(),r43,r44,r47,r48,IntKind.i64.wrap (r49+(1:Int)),()),(b0.1,()),(b1.1,()),((),()),tput I Ty.bool (List.getD r47 (Int.toNat r49) tThing.dflt).1 v2.1.1 v2.2.1,())) else none else some (Sum.inr (Sum.inl (((),(),(),r43,r44,()),(b0.1,()),(b1.1,()),((),()),b3,())))
theorem g_39_15 (x:LD_39_15.El):codeT CT T_39 (drT CT T_39) lp0 l_39_15 (LD_39_15.enc x) (bodyK (LD_39_15.lay []) EX_39_15)=G_39_15 x.1.2.2.2.1 x.1.2.2.2.2.1 x.1.2.2.2.2.2.1 x.1.2.2.2.2.2.2.1 x.1.2.2.2.2.2.2.2.1 x.2.1 x.2.2.1 x.2.2.2.1 x.2.2.2.2.1:=by kernel_rfl
def R_39_15:LD_39_15.El→Option (LA_39_15.El⊕LB_39_15.El):=roundsT (fun x=>G_39_15 x.1.2.2.2.1 x.1.2.2.2.2.1 x.1.2.2.2.2.2.1 x.1.2.2.2.2.2.2.1 x.1.2.2.2.2.2.2.2.1 x.2.1 x.2.2.1 x.2.2.2.1 x.2.2.2.2.1) fuel
abbrev LD_39_8:LayD:=⟨93,[(2,.ptr 0),(4,.ptr 1),(8,.ptr 2),(32,.data (.list I)),(33,.data I),(34,.data I)],[.var 51 [.data tScene],.var 51 [.data tScene],.var 189 [.map 3],.tmap I .bool],fun s=>[slotR s 2,slotR s 4,slotR s 8,slotC s 8 0]⟩
abbrev LA_39_8:LayD:=⟨93,[(2,.ptr 0),(4,.ptr 1),(8,.ptr 2)],[.var 51 [.data tScene],.var 51 [.data tScene],.var 189 [.map 3],.tmap I .bool],fun s=>[slotR s 2,slotR s 4,slotR s 8,slotC s 8 0]⟩
abbrev LB_39_8:LayD:=⟨93,[],[],fun _=>[]⟩
def EX_39_8:Exits 0 LA_39_8.El LB_39_8.El:=⟨.exit 0,LA_39_8.lay [],.ret,LB_39_8.lay []⟩
def G_39_8 (r32:Ty.El (.list I))(r33:Ty.El I)(r34:Ty.El I)(b0:Ty.El tScene×Unit)(b1:Ty.El tScene×Unit)(b2:Unit×Unit)(b3:List (Ty.El I×Ty.El (.bool))):Option (LD_39_8.El⊕(LA_39_8.El⊕LB_39_8.El)):=bif decide (r34<r33) then bif decide ((0:Int)≤r34∧r34<(↑(List.length r32):Int)) then some (Sum.inl (((),(),(),r32,r33,IntKind.i64.wrap (r34+(1:Int)),()),(b0.1,()),(b1.1,()),((),()),tput I Ty.bool (List.getD r32 (Int.toNat r34) (0:Int)) true b3,())) else none else some (Sum.inr (Sum.inl (((),(),(),()),(b0.1,()),(b1.1,()),((),()),b3,())))
theorem g_39_8 (x:LD_39_8.El):codeT CT T_39 (drT CT T_39) lp0 l_39_8 (LD_39_8.enc x) (bodyK (LD_39_8.lay []) EX_39_8)=G_39_8 x.1.2.2.2.1 x.1.2.2.2.2.1 x.1.2.2.2.2.2.1 x.2.1 x.2.2.1 x.2.2.2.1 x.2.2.2.2.1:=by kernel_rfl
def R_39_8:LD_39_8.El→Option (LA_39_8.El⊕LB_39_8.El):=roundsT (fun x=>G_39_8 x.1.2.2.2.1 x.1.2.2.2.2.1 x.1.2.2.2.2.2.1 x.2.1 x.2.2.1 x.2.2.2.1 x.2.2.2.2.1) fuel
abbrev LD_39_13:LayD:=⟨93,[(2,.ptr 0),(4,.ptr 1),(8,.ptr 2),(43,.data I),(44,.data I)],[.var 51 [.data tScene],.var 51 [.data tScene],.var 189 [.map 3],.tmap I .bool],fun s=>[slotR s 2,slotR s 4,slotR s 8,slotC s 8 0]⟩
abbrev LA_39_13:LayD:=⟨93,[(2,.ptr 0),(4,.ptr 1),(8,.ptr 2)],[.var 51 [.data tScene],.var 51 [.data tScene],.var 189 [.map 3],.tmap I .bool],fun s=>[slotR s 2,slotR s 4,slotR s 8,slotC s 8 0]⟩
abbrev LB_39_13:LayD:=⟨93,[],[],fun _=>[]⟩
def EX_39_13:Exits 0 LA_39_13.El LB_39_13.El:=⟨.exit 2,LA_39_13.lay [],.ret,LB_39_13.lay []⟩
def lpi_39_13 {β:Type}:LpT β:=fun k s K=>if Nat.beq k 15 then lpOne (LD_39_15.lay []) EX_39_15 R_39_15 s K else none
theorem lpi_39_13_ok {β:Type}:LpTOk CT (lpi_39_13 (β:=β)) (loopsOf l_39_13):=LpTOk.is [(15,l_39_15)] (by kernel_rfl) (LpTOk.cons (fun s K z h=>lpG CT_ok T_39_ok (lp0_ok (by kernel_rfl)) (L:=LD_39_15.lay []) (E:=EX_39_15) g_39_15 rfl rfl rfl rfl h) (LpTOk.nil))
def G_39_13 (r43:Ty.El I)(r44:Ty.El I)(b0:Ty.El tScene×Unit)(b1:Ty.El tScene×Unit)(b2:Unit×Unit)(b3:List (Ty.El I×Ty.El (.bool))):Option (LD_39_13.El⊕(LA_39_13.El⊕LB_39_13.El)):=bif decide (r44<r43) then(R_39_15 (((),(),(),r43,r44,b0.1.2.2,(↑(List.length b0.1.2.2):Int),(0:Int),()),(b0.1,()),(b1.1,()),((),()),b3,())).bind fun v1=>Sum.elim (fun v2=>some (Sum.inl (((),(),(),v2.1.2.2.2.1,IntKind.i64.wrap (v2.1.2.2.2.2.1+(1:Int)),()),(v2.2.1.1,()),(v2.2.2.1.1,()),((),()),v2.2.2.2.2.1,()))) (fun v3=>some (Sum.inr (Sum.inr ((),())))) v1 else some (Sum.inr (Sum.inl (((),(),(),()),(b0.1,()),(b1.1,()),((),()),b3,())))
theorem g_39_13 (x:LD_39_13.El):codeT CT T_39 (drT CT T_39) lpi_39_13 l_39_13 (LD_39_13.enc x) (bodyK (LD_39_13.lay []) EX_39_13)=G_39_13 x.1.2.2.2.1 x.1.2.2.2.2.1 x.2.1 x.2.2.1 x.2.2.2.1 x.2.2.2.2.1:=by kernel_rfl
def R_39_13:LD_39_13.El→Option (LA_39_13.El⊕LB_39_13.El):=roundsT (fun x=>G_39_13 x.1.2.2.2.1 x.1.2.2.2.2.1 x.2.1 x.2.2.1 x.2.2.2.1 x.2.2.2.2.1) fuel
abbrev LD_39_22:LayD:=⟨93,[(2,.ptr 0),(4,.ptr 1),(8,.ptr 2),(13,.own tThing 4),(68,.data (.list tThing)),(69,.data I),(70,.data I)],[.var 51 [.data tScene],.var 51 [.data tScene],.var 189 [.map 3],.tmap I .bool,.row 68 tThing],fun s=>[slotR s 2,slotR s 4,slotR s 8,slotC s 8 0,slotR s 13]⟩
abbrev LA_39_22:LayD:=⟨93,[(2,.ptr 0),(4,.ptr 1),(13,.own tThing 2)],[.var 51 [.data tScene],.var 51 [.data tScene],.row 68 tThing],fun s=>[slotR s 2,slotR s 4,slotR s 13]⟩
abbrev LB_39_22:LayD:=⟨93,[],[],fun _=>[]⟩
def EX_39_22:Exits 0 LA_39_22.El LB_39_22.El:=⟨.exit 6,LA_39_22.lay [.nilReg 13 68 tThing],.ret,LB_39_22.lay []⟩
def G_39_22 (r68:Ty.El (.list tThing))(r69:Ty.El I)(r70:Ty.El I)(b0:Ty.El tScene×Unit)(b1:Ty.El tScene×Unit)(b2:Unit×Unit)(b3:List (Ty.El I×Ty.El (.bool)))(b4:List (Ty.El tThing)):Option (LD_39_22.El⊕(LA_39_22.El⊕LB_39_22.El)):=bif decide (r70<r69) then bif decide ((0:Int)≤r70∧r70<(↑(List.length r68):Int)) then bif !(tget I Ty.bool (List.getD r68 (Int.toNat r70) tThing.dflt).1 b3).getD false then(F_46o (List.getD r68 (Int.toNat r70) tThing.dflt).2.2.2.2).bind fun v2=>(F_76o ((),()) b3 v2).bind fun v4=>bif((b4.length+[((List.getD r68 (Int.toNat r70) tThing.dflt).1,(List.getD r68 (Int.toNat r70) tThing.dflt).2.1,(List.getD r68 (Int.toNat r70) tThing.dflt).2.2.1,(List.getD r68 (Int.toNat r70) tThing.dflt).2.2.2.1,v4.1.1)].length)*(128:Nat)).ble (70368744177664:Nat) then some (Sum.inl (((),(),(),(),r68,r69,IntKind.i64.wrap (r70+(1:Int)),()),(b0.1,()),(b1.1,()),((),()),v4.2.2.1,b4++[((List.getD r68 (Int.toNat r70) tThing.dflt).1,(List.getD r68 (Int.toNat r70) tThing.dflt).2.1,(List.getD r68 (Int.toNat r70) tThing.dflt).2.2.1,(List.getD r68 (Int.toNat r70) tThing.dflt).2.2.2.1,v4.1.1)],())) else none else some (Sum.inl (((),(),(),(),r68,r69,IntKind.i64.wrap (r70+(1:Int)),()),(b0.1,()),(b1.1,()),((),()),b3,b4,())) else none else some (Sum.inr (Sum.inl (((),(),(),()),(b0.1,()),(b1.1,()),b4,())))
theorem g_39_22 (x:LD_39_22.El):codeT CT T_39 (drT CT T_39) lp0 l_39_22 (LD_39_22.enc x) (bodyK (LD_39_22.lay [.nilReg 13 68 tThing]) EX_39_22)=G_39_22 x.1.2.2.2.2.1 x.1.2.2.2.2.2.1 x.1.2.2.2.2.2.2.1 x.2.1 x.2.2.1 x.2.2.2.1 x.2.2.2.2.1 x.2.2.2.2.2.1:=by kernel_rfl
def R_39_22:LD_39_22.El→Option (LA_39_22.El⊕LB_39_22.El):=roundsT (fun x=>G_39_22 x.1.2.2.2.2.1 x.1.2.2.2.2.2.1 x.1.2.2.2.2.2.2.1 x.2.1 x.2.2.1 x.2.2.2.1 x.2.2.2.2.1 x.2.2.2.2.2.1) fuel
def lp_39 {β:Type}:LpT β:=fun k s K=>if Nat.beq k 8 then lpOne (LD_39_8.lay []) EX_39_8 R_39_8 s K else if Nat.beq k 13 then lpOne (LD_39_13.lay []) EX_39_13 R_39_13 s K else if Nat.beq k 22 then lpOne (LD_39_22.lay [.nilReg 13 68 tThing]) EX_39_22 R_39_22 s K else none
theorem lp_39_ok {β:Type}:LpTOk CT (lp_39 (β:=β)) (loopsOf c_39):=LpTOk.is [(8,l_39_8),(13,l_39_13),(22,l_39_22)] (by kernel_rfl) (LpTOk.cons (fun s K z h=>lpG CT_ok T_39_ok (lp0_ok (by kernel_rfl)) (L:=LD_39_8.lay []) (E:=EX_39_8) g_39_8 rfl rfl rfl rfl h) (LpTOk.cons (fun s K z h=>lpG CT_ok T_39_ok lpi_39_13_ok (L:=LD_39_13.lay []) (E:=EX_39_13) g_39_13 rfl rfl rfl rfl h) (LpTOk.cons (fun s K z h=>lpG CT_ok T_39_ok (lp0_ok (by kernel_rfl)) (L:=LD_39_22.lay [.nilReg 13 68 tThing]) (E:=EX_39_22) g_39_22 rfl rfl rfl rfl h) (LpTOk.nil))))
def F_39 (a1:Ty.El tScene)(a2:Ty.El I):Option (Els [tScene,I]):=(F_20 a1).bind fun v2=>bif !v2.1 then some ((((0:Int),(0:Int)),(0:Int),[]),(9:Int),()) else(F_23 a1 a2).bind fun v4=>bif !v4.2.1 then some ((((0:Int),(0:Int)),(0:Int),[]),(10:Int),()) else(F_37 a1 a2).bind fun v6=>(R_39_8 (((),(),(),v6.1,(↑(List.length v6.1):Int),(0:Int),()),(a1,()),((((0:Int),(0:Int)),(0:Int),[]),()),((),()),[],())).bind fun v7=>Sum.elim (fun v8=>(R_39_13 (((),(),(),(↑(List.length v8.2.1.1.2.2):Int),(0:Int),()),(v8.2.1.1,()),(v8.2.2.1.1,()),((),()),v8.2.2.2.2.1,())).bind fun v9=>Sum.elim (fun v10=>(R_39_22 (((),(),(),(),v10.2.1.1.2.2,(↑(List.length v10.2.1.1.2.2):Int),(0:Int),()),(v10.2.1.1,()),(v10.2.2.1.1,()),((),()),v10.2.2.2.2.1,[],())).bind fun v11=>Sum.elim (fun v12=>some ((v12.2.1.1.1,v12.2.1.1.2.1,v12.2.2.2.1),(0:Int),())) (fun v13=>none) v11) (fun v14=>none) v9) (fun v15=>none) v7
theorem f_39 (x:Ps [.ty tScene,.ty I]):funcT CT T_39 [tScene,I] (drT CT T_39) lp_39 Tryz.f133 c_39 (encPs [.ty tScene,.ty I] x)=F_39 x.1 x.2.1:=by kernel_rfl
def E_39:Ent:=.fn 133 [] ⟨[.ty tScene,.ty I],[tScene,I],fun x=>F_39 x.1 x.2.1,false⟩
theorem e_39:E_39.Ok CT.P:=Ent.ofFn CT_ok T_39_ok (by kernel_rfl) (by kernel_rfl) lp_39_ok f_39
end Go.DI.S
end
