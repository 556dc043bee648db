import Derived.Test.YtbjldjihpekhaaaGreatTc
/- kin.Copy; commands carried out: told by functions on data. No conditions. -/
set_option linter.unusedVariables false
set_option maxRecDepth 100000
set_option maxHeartbeats 0
noncomputable section
namespace Go.DI.S
open Go.Proofs
def a58:Code:=Tryz.f187.body.getD .skip
def aUq:Tb:=cC iL iM [aYQ,aPb]
theorem aMI:aUq.Ok CT.P:=aQ (⟨a4E,aPc,trivial⟩)
def aUr:Code:=aX a58 3
abbrev AL:aF:=⟨23,[(0,.own aA 0),(7,.own aA 0),(8,.data I),(9,.data I)],[.row 68 aA],fun s=>[aG s 0]⟩
abbrev aCB:aF:=⟨23,[(0,.own aA 0)],[.row 68 aA],fun s=>[aG s 0]⟩
abbrev aCC:aF:=l0 23
def aMJ:=ex 0 0 aCB aCC [] []
def D3 (r8:Ty.El I)(r9:Ty.El I)(b0:List (Ty.El aA)):Option (AL.El⊕(aCB.El⊕aCC.El)):=bif decide (r9<r8) then bif decide ((0:Int)≤r9∧r9<(↑b0.length:Int)) then(QX (b0.getD (Int.toNat r9) aA.dflt).2.2.2.2).bind fun v2=>bif decide ((0:Int)≤r9∧r9<(↑b0.length:Int)) then some (Sum.inl (((),(),r8,IntKind.i64.wrap (r9+(1:Int)),()),b0.set (Int.toNat r9) ((b0.getD (Int.toNat r9) aA.dflt).1,(b0.getD (Int.toNat r9) aA.dflt).2.1,(b0.getD (Int.toNat r9) aA.dflt).2.2.1,(b0.getD (Int.toNat r9) aA.dflt).2.2.2.1,v2.1),())) else none else none else some (Sum.inr (Sum.inl (((),()),b0,())))
theorem a59 (x:AL.El):aV CT aUq (cB CT aUq) iI aUr (AL.enc x) (bG (AL.lay []) aMJ)=D3 x.1.2.2.1 x.1.2.2.2.1 x.2.1:=by kernel_rfl
def aJE:AL.El→Option (aCB.El⊕aCC.El):=aH (fun x=>D3 x.1.2.2.1 x.1.2.2.2.1 x.2.1) fuel
def a2Q {β:Type}:dK β:=fun k s K=>if Nat.beq k 3 then bO (AL.lay []) aMJ aJE s K else none
theorem aUs {β:Type}:aC CT (a2Q (β:=β)) (aJ a58):=aC.is [(3,aUr)] (by kernel_rfl) (aC.cons (iW aL aMI (bC (by kernel_rfl)) a59 rfl rfl) (aC.nil))
def aUt (a1:Ty.El (.list aA)):Option (List (Ty.El aA)):=(QY a1).bind fun v2=>(aJE (((),(),(↑v2.length:Int),(0:Int),()),v2,())).bind fun v4=>Sum.elim (fun v5=>some v5.2.1) (fun v6=>none) v4
theorem bGW (x:Ps [.ty (.list aA)]):B7 CT aUq 68 aA (cB CT aUq) a2Q Tryz.f187 a58 (bQ [.ty (.list aA)] x)=aUt x.1:=by kernel_rfl
def bCl:aW:=.own 187 [] ⟨[.ty (.list aA)],68,aA,fun x=>aUt x.1⟩
theorem bGX:bCl.Ok CT.P:=aW.LY aL aMI (by kernel_rfl) (by kernel_rfl) aUs bGW
def aMK (a1:Ty.El aD)(a2:Ty.El I):Option (List (Ty.El I)):=(pR a1).bind fun v2=>bif !v2.1 then some [] else(aTQ a1 a2).bind fun v4=>(xD v4).bind fun v6=>some v6.2.1
def a2R:aW:=.own 173 [] ⟨[.ty aD,.ty I],3,I,fun x=>aMK x.1 x.2.1⟩
theorem bCm:a2R.Ok CT.P:=bAb aL (tb3 JF bB0 aSO) Tryz.f173 (by kernel_rfl) fun x=>by kernel_rfl
def a6a:Code:=Tryz.f186.body.getD .skip
def aUu:Tb:=cC iL iM [aTM]
theorem aML:aUu.Ok CT.P:=aQ (⟨aZp,trivial⟩)
def aUv:Code:=aX a6a 3
abbrev AM:aF:=⟨46,[(1,.data (.list I)),(5,.own I 0),(9,.data (.list aA)),(10,.data I),(11,.data I)],[.row 3 I],fun s=>[aG s 5]⟩
abbrev N5:aF:=⟨46,[(5,.own I 0)],[.row 3 I],fun s=>[aG s 5]⟩
abbrev N6:aF:=l0 46
def aMM:=ex 0 0 N5 N6 [.bU 5 3 I] []
def TA (r1:Ty.El (.list I))(r9:Ty.El (.list aA))(eD:Ty.El I)(eM:Ty.El I)(b0:List (Ty.El I)):Option (AM.El⊕(N5.El⊕N6.El)):=bif decide (eM<eD) then bif decide ((0:Int)≤eM∧eM<(↑(List.length r9):Int)) then bif(List.getD r9 (Int.toNat eM) aA.dflt).2.1==(2:Int) then(RV r1 (List.getD r9 (Int.toNat eM) aA.dflt).1).bind fun v2=>bif !v2.1 then(RV r1 (List.getD r9 (Int.toNat eM) aA.dflt).2.2.2.1.1).bind fun v4=>bif v4.1 then(RV r1 (List.getD r9 (Int.toNat eM) aA.dflt).2.2.2.1.2.1).bind fun v6=>bif v6.1 then bif((b0.length+[(List.getD r9 (Int.toNat eM) aA.dflt).1].length)*(8:Nat)).ble (70368744177664:Nat) then some (Sum.inl ((r1,(),r9,eD,IntKind.i64.wrap (eM+(1:Int)),()),b0++[(List.getD r9 (Int.toNat eM) aA.dflt).1],())) else none else some (Sum.inl ((r1,(),r9,eD,IntKind.i64.wrap (eM+(1:Int)),()),b0,())) else some (Sum.inl ((r1,(),r9,eD,IntKind.i64.wrap (eM+(1:Int)),()),b0,())) else some (Sum.inl ((r1,(),r9,eD,IntKind.i64.wrap (eM+(1:Int)),()),b0,())) else some (Sum.inl ((r1,(),r9,eD,IntKind.i64.wrap (eM+(1:Int)),()),b0,())) else none else some (Sum.inr (Sum.inl (((),()),b0,())))
theorem a6b (x:AM.El):aV CT aUu (cB CT aUu) iI aUv (AM.enc x) (bG (AM.lay [.bU 5 3 I]) aMM)=TA x.1.1 x.1.2.2.1 x.1.2.2.2.1 x.1.2.2.2.2.1 x.2.1:=by kernel_rfl
def aJF:AM.El→Option (N5.El⊕N6.El):=aH (fun x=>TA x.1.1 x.1.2.2.1 x.1.2.2.2.1 x.1.2.2.2.2.1 x.2.1) fuel
def a2S {β:Type}:dK β:=fun k s K=>if Nat.beq k 3 then bO (AM.lay [.bU 5 3 I]) aMM aJF s K else none
theorem aUw {β:Type}:aC CT (a2S (β:=β)) (aJ a6a):=aC.is [(3,aUv)] (by kernel_rfl) (aC.cons (iW aL aML (bC (by kernel_rfl)) a6b rfl rfl) (aC.nil))
def aUx (a1:Ty.El aD)(a2:Ty.El (.list I)):Option (List (Ty.El I)):=(aJF ((a2,(),a1.2.2,(↑(List.length a1.2.2):Int),(0:Int),()),[],())).bind fun v1=>Sum.elim (fun v2=>some v2.2.1) (fun v3=>none) v1
theorem bGY (x:Ps [.ty aD,.ty (.list I)]):B7 CT aUu 3 I (cB CT aUu) a2S Tryz.f186 a6a (bQ [.ty aD,.ty (.list I)] x)=aUx x.1 x.2.1:=by kernel_rfl
def bCn:aW:=.own 186 [] ⟨[.ty aD,.ty (.list I)],3,I,fun x=>aUx x.1 x.2.1⟩
theorem bGZ:bCn.Ok CT.P:=aW.LY aL aML (by kernel_rfl) (by kernel_rfl) aUw bGY
abbrev a6c:aF:=⟨2,[(0,.map 0),(1,.data I)],[.cE I I],fun s=>[aG s 0]⟩
abbrev aMN:aF:=⟨1,[(0,.data I)],[.cE I I],fun _=>[0]⟩
def TB (a1:Ty.El I)(b0:List (Ty.El I×Ty.El I)):Option aMN.El:=bif(fV I I a1 b0).isSome then some (((fV I I a1 b0).getD (0:Int),()),b0,()) else some ((a1,()),b0,())
def a2T:aW:=.dV 230 [] ⟨1,[],a6c,aMN,fun x=>TB x.1.2.1 x.2.1⟩
theorem bCo:a2T.Ok CT.P:=BV (C:=(bY 1)) (aY 1) zN [] Tryz.f230 (by kernel_rfl) fun x=>by kernel_rfl
def a6d:Code:=Tryz.f189.body.getD .skip
abbrev aUy:aF:=⟨3,[(0,.map 0),(1,.data aA),(2,.data aU)],[.cE I I],fun s=>[aG s 0]⟩
abbrev aJG:aF:=⟨1,[(0,.data aA)],[.cE I I],fun _=>[0]⟩
def aUz:Tb:=cC iL iM [aSM,a2T,aMy,aR9]
theorem aMO:aUz.Ok CT.P:=aQ (⟨aSN,bCo,SX,aO4,trivial⟩)
def aMP:Code:=aX a6d 11
abbrev tI:aF:=⟨68,[(0,.map 0),(4,.ptr 1),(6,.ptr 3),(52,.own I 2),(53,.data I),(54,.data I)],[.cE I I,.var 68 [.data I,.data I,.data aM,.data aP,.own I 2],.row 3 I,.var 68 [.data aA]],fun s=>[0,aG s 4,dL s 4 13,aG s 6]⟩
abbrev TC:aF:=⟨68,[(4,.ptr 1),(6,.ptr 3)],[.cE I I,.var 68 [.data I,.data I,.data aM,.data aP,.own I 2],.row 3 I,.var 68 [.data aA]],fun s=>[0,aG s 4,dL s 4 13,aG s 6]⟩
abbrev TD:aF:=l0 68
def aGo:=ex 1 1 TC TD [.cG 4 13 3 I] []
def wA (r53:Ty.El I)(r54:Ty.El I)(b0:List (Ty.El I×Ty.El I))(b1:Ty.El I×Ty.El I×Ty.El aM×Ty.El aP×Unit×Unit)(b2:List (Ty.El I))(b3:Ty.El aA×Unit):Option (tI.El⊕((TC.El⊕TD.El)⊕Int)):=bif decide (r54<r53) then bif decide ((0:Int)≤r54∧r54<(↑b2.length:Int)) then(TB (b2.getD (Int.toNat r54) (0:Int)) b0).bind fun v2=>bif decide ((0:Int)≤r54∧r54<(↑b2.length:Int)) then some (Sum.inl (((),(),(),(),r53,IntKind.i64.wrap (r54+(1:Int)),()),v2.2.1,(b1.1,b1.2.1,b1.2.2.1,b1.2.2.2.1,(),()),b2.set (Int.toNat r54) v2.1.1,(b3.1,()),())) else none else none else some (Sum.inr (Sum.inl (Sum.inl (((),(),()),b0,(b1.1,b1.2.1,b1.2.2.1,b1.2.2.2.1,(),()),b2,(b3.1,()),()))))
theorem aZM (x:tI.El):aV (bY 1) aUz (cB (bY 1) aUz) iI aMP (tI.enc x) (nJ (tI.lay [.cG 4 13 3 I]) aGo 239 68)=wA x.1.2.2.2.2.1 x.1.2.2.2.2.2.1 x.2.1 x.2.2.1 x.2.2.2.1 x.2.2.2.2.1:=by kernel_rfl
def F9:tI.El→Option ((TC.El⊕TD.El)⊕Int):=aH (fun x=>wA x.1.2.2.2.2.1 x.1.2.2.2.2.2.1 x.2.1 x.2.2.1 x.2.2.2.1 x.2.2.2.2.1) fuel
def a2V {β:Type}:dK β:=fun k s K=>if Nat.beq k 11 then pP (tI.lay [.cG 4 13 3 I]) aGo 239 68 F9 s K else none
theorem aUA {β:Type}:aC (bY 1) (a2V (β:=β)) (aJ a6d):=aC.is [(11,aMP)] (by kernel_rfl) (aC.cons (aFi (aY 1) aMO (bC (by kernel_rfl)) aZM rfl rfl) (aC.nil))
def aUB (a1:Ty.El aA)(a2:Ty.El aU)(b0:List (Ty.El I×Ty.El I)):Option (aJG.El⊕Int):=(TB a1.1 b0).bind fun v2=>bif a1.2.1==(1:Int) then(rA a1.2.2.1.2.2.2.1 a2).bind fun v4=>Sum.elim (fun v6=>(l5 (a1.2.2.1.1,a1.2.2.1.2.1,a1.2.2.1.2.2.1,v6.1,a1.2.2.1.2.2.2.2)).bind fun v8=>bif !v8.1 then some (Sum.inr (3:Int)) else(FL a1.2.2.2.2).bind fun v10=>(F9 (((),(),(),(),(↑v10.length:Int),(0:Int),()),v2.2.1,(v2.1.1,a1.2.1,(a1.2.2.1.1,a1.2.2.1.2.1,a1.2.2.1.2.2.1,v6.1,a1.2.2.1.2.2.2.2),a1.2.2.2.1,(),()),v10,(((0:Int),(0:Int),((0:Int),((0:Int),(0:Int)),(0:Int),((0:Int),(0:Int)),(0:Int),(0:Int)),((0:Int),(0:Int),(0:Int)),[]),()),())).bind fun sW=>Sum.elim (fun v17=>Sum.elim (fun fL=>some (Sum.inl (((fL.2.2.1.1,fL.2.2.1.2.1,fL.2.2.1.2.2.1,fL.2.2.1.2.2.2.1,fL.2.2.2.1),()),fL.2.1,()))) (fun rV=>none) v17) (fun v20=>some (Sum.inr v20)) sW) (fun v21=>some (Sum.inr v21)) v4 else bif a1.2.1==(2:Int) then(TB a1.2.2.2.1.1 v2.2.1).bind fun v25=>(TB a1.2.2.2.1.2.1 v25.2.1).bind fun v29=>(FL a1.2.2.2.2).bind fun v31=>(F9 (((),(),(),(),(↑v31.length:Int),(0:Int),()),v29.2.1,(v2.1.1,a1.2.1,a1.2.2.1,(v25.1.1,v29.1.1,a1.2.2.2.1.2.2),(),()),v31,(((0:Int),(0:Int),((0:Int),((0:Int),(0:Int)),(0:Int),((0:Int),(0:Int)),(0:Int),(0:Int)),((0:Int),(0:Int),(0:Int)),[]),()),())).bind fun v41=>Sum.elim (fun v42=>Sum.elim (fun v43=>some (Sum.inl (((v43.2.2.1.1,v43.2.2.1.2.1,v43.2.2.1.2.2.1,v43.2.2.1.2.2.2.1,v43.2.2.2.1),()),v43.2.1,()))) (fun v44=>none) v42) (fun v45=>some (Sum.inr v45)) v41 else(FL a1.2.2.2.2).bind fun v47=>(F9 (((),(),(),(),(↑v47.length:Int),(0:Int),()),v2.2.1,(v2.1.1,a1.2.1,a1.2.2.1,a1.2.2.2.1,(),()),v47,(((0:Int),(0:Int),((0:Int),((0:Int),(0:Int)),(0:Int),((0:Int),(0:Int)),(0:Int),(0:Int)),((0:Int),(0:Int),(0:Int)),[]),()),())).bind fun v53=>Sum.elim (fun v54=>Sum.elim (fun v55=>some (Sum.inl (((v55.2.2.1.1,v55.2.2.1.2.1,v55.2.2.1.2.2.1,v55.2.2.1.2.2.2.1,v55.2.2.2.1),()),v55.2.1,()))) (fun v56=>none) v54) (fun v57=>some (Sum.inr v57)) v53
theorem bG0 (x:aUy.El):vO (bY 1) aUz 239 aUy aJG [.jX 0 aA] (cB (bY 1) aUz) a2V Tryz.f189 a6d x=aUB x.1.2.1 x.1.2.2.1 x.2.1:=by kernel_rfl
def bCp:aW:=.DG 189 [] ⟨239,1,[],aUy,aJG,fun x=>aUB x.1.2.1 x.1.2.2.1 x.2.1⟩
theorem bG1:bCp.Ok CT.P:=aW.QB (C:=(bY 1)) (steps:=[]) (cN:=[.jX 0 aA]) (aY 1) aMO (by kernel_rfl) (by kernel_rfl) aUA bG0
def aZN:Code:=Tryz.f188.body.getD .skip
theorem bCq:Tryz.f188.body=some aZN:=by kernel_rfl
theorem bCr:CT.P.funcs[188]?=some Tryz.f188:=by kernel_rfl
abbrev aUC:aF:=⟨5,[(0,.ptr 0),(1,.ptr 1),(2,.ptr 2),(3,.ptr 3),(4,.ptr 4)],[.var 23 [.data (.list I)],.var 51 [.data aD],.var 49 [.own aA 5],.var 244 [.map 6],.var 48 [.data aU],.row 68 aA,.cE I I],fun s=>[aG s 0,aG s 1,aG s 2,aG s 3,aG s 4,dL s 2 0,dL s 3 0]⟩
abbrev aJH:aF:=⟨0,[],[.var 23 [.data (.list I)],.var 51 [.data aD],.var 49 [.own aA 5],.var 244 [.map 6],.var 48 [.data aU],.row 68 aA,.cE I I],fun s=>[0,1,2,3,4,fO s 2 0,fO s 3 0]⟩
def aUD:Tb:=cC iL iM [aPe,bCp]
theorem aCD:aUD.Ok CT.P:=aQ (⟨Q0,bG1,trivial⟩)
def aUE:Code:=aX aZN 1
abbrev AO:aF:=⟨29,[(1,.ptr 1),(2,.ptr 2),(3,.ptr 3),(4,.ptr 4),(9,.data (.list I)),(10,.data I),(11,.data I)],[.var 23 [.data (.list I)],.var 51 [.data aD],.var 49 [.own aA 5],.var 244 [.map 6],.var 48 [.data aU],.row 68 aA,.cE I I],fun s=>[0,1,2,3,4,fO s 2 0,fO s 3 0]⟩
abbrev aCE:aF:=⟨29,[],[.var 23 [.data (.list I)],.var 51 [.data aD],.var 49 [.own aA 5],.var 244 [.map 6],.var 48 [.data aU],.row 68 aA,.cE I I],fun s=>[0,1,2,3,4,fO s 2 0,fO s 3 0]⟩
abbrev aCF:aF:=l0 29
def aMQ:=ex 5 0 aCE aCF [] []
def J5 (r9:Ty.El (.list I))(eD:Ty.El I)(eM:Ty.El I)(b0:Ty.El (.list I)×Unit)(b1:Ty.El aD×Unit)(b2:Unit×Unit)(b3:Unit×Unit)(b4:Ty.El aU×Unit)(b5:List (Ty.El aA))(b6:List (Ty.El I×Ty.El I)):Option (AO.El⊕((aCE.El⊕aCF.El)⊕Int)):=bif decide (eM<eD) then bif decide ((0:Int)≤eM∧eM<(↑(List.length r9):Int)) then(rM b1.1 (List.getD r9 (Int.toNat eM) (0:Int))).bind fun v2=>(aUB v2.1 b4.1 b6).bind fun v4=>Sum.elim (fun v6=>bif((b5.length+[v6.1.1].length)*(128:Nat)).ble (70368744177664:Nat) then some (Sum.inl (((),(),(),(),r9,eD,IntKind.i64.wrap (eM+(1:Int)),()),(b0.1,()),(b1.1,()),((),()),((),()),(b4.1,()),b5++[v6.1.1],v6.2.1,())) else none) (fun DM=>some (Sum.inr (Sum.inr DM))) v4 else none else some (Sum.inr (Sum.inl (Sum.inl ((),(b0.1,()),(b1.1,()),((),()),((),()),(b4.1,()),b5,b6,()))))
theorem a6e (x:AO.El):aV (bY 5) aUD (cB (bY 5) aUD) iI aUE (AO.enc x) (nJ (AO.lay []) aMQ 239 29)=J5 x.1.2.2.2.2.1 x.1.2.2.2.2.2.1 x.1.2.2.2.2.2.2.1 x.2.1 x.2.2.1 x.2.2.2.1 x.2.2.2.2.1 x.2.2.2.2.2.1 x.2.2.2.2.2.2.1 x.2.2.2.2.2.2.2.1:=by kernel_rfl
def aJI:AO.El→Option ((aCE.El⊕aCF.El)⊕Int):=aH (fun x=>J5 x.1.2.2.2.2.1 x.1.2.2.2.2.2.1 x.1.2.2.2.2.2.2.1 x.2.1 x.2.2.1 x.2.2.2.1 x.2.2.2.2.1 x.2.2.2.2.2.1 x.2.2.2.2.2.2.1 x.2.2.2.2.2.2.2.1) fuel
def a2W {β:Type}:dK β:=fun k s K=>if Nat.beq k 1 then pP (AO.lay []) aMQ 239 29 aJI s K else none
theorem aUF {β:Type}:aC (bY 5) (a2W (β:=β)) (aJ aZN):=aC.is [(1,aUE)] (by kernel_rfl) (aC.cons (aFi (aY 5) aCD (bC (by kernel_rfl)) a6e rfl rfl) (aC.nil))
def aUG (b0:Ty.El (.list I)×Unit)(b1:Ty.El aD×Unit)(b2:Unit×Unit)(b3:Unit×Unit)(b4:Ty.El aU×Unit)(b5:List (Ty.El aA))(b6:List (Ty.El I×Ty.El I)):Option (aJH.El⊕Int):=(aJI (((),(),(),(),b0.1,(↑(List.length b0.1):Int),(0:Int),()),(b0.1,()),(b1.1,()),((),()),((),()),(b4.1,()),b5,b6,())).bind fun v1=>Sum.elim (fun v2=>Sum.elim (fun v3=>some (Sum.inl ((),(v3.2.1.1,()),(v3.2.2.1.1,()),((),()),((),()),(v3.2.2.2.2.2.1.1,()),v3.2.2.2.2.2.2.1,v3.2.2.2.2.2.2.2.1,()))) (fun v4=>none) v2) (fun v5=>some (Sum.inr v5)) v1
theorem bG2 (x:aUC.El):vO (bY 5) aUD 239 aUC aJH [] (cB (bY 5) aUD) a2W Tryz.f188 aZN x=aUG x.2.1 x.2.2.1 x.2.2.2.1 x.2.2.2.2.1 x.2.2.2.2.2.1 x.2.2.2.2.2.2.1 x.2.2.2.2.2.2.2.1:=by kernel_rfl
abbrev bCs:aF:=⟨1,[(0,.eG 188 [0,1,2,3,4])],[.var 23 [.data (.list I)],.var 51 [.data aD],.var 49 [.own aA 5],.var 244 [.map 6],.var 48 [.data aU],.row 68 aA,.cE I I],fun s=>[iA s 0 0,iA s 0 1,iA s 0 2,iA s 0 3,iA s 0 4,fO s (iA s 0 2) 0,fO s (iA s 0 3) 0]⟩
abbrev aUH:aF:=⟨1,[(0,.data I)],[.var 23 [.data (.list I)],.var 51 [.data aD],.var 49 [.own aA 5],.var 244 [.map 6],.var 48 [.data aU],.row 68 aA,.cE I I],fun s=>[0,1,2,3,4,fO s 2 0,fO s 3 0]⟩
def aCG (b0:Ty.El (.list I)×Unit)(b1:Ty.El aD×Unit)(b2:Unit×Unit)(b3:Unit×Unit)(b4:Ty.El aU×Unit)(b5:List (Ty.El aA))(b6:List (Ty.El I×Ty.El I)):Option (aUH.El⊕Int):=(aUG b0 b1 b2 b3 b4 b5 b6).bind fun y=>Sum.elim (fun y=>some (.inl ((0,()),y.2))) (fun e=>some (.inr e)) y
def bCt:aW:=.aR3 178 [188] ⟨5,[],bCs,aUH,fun x=>aCG x.2.1 x.2.2.1 x.2.2.2.1 x.2.2.2.2.1 x.2.2.2.2.2.1 x.2.2.2.2.2.2.1 x.2.2.2.2.2.2.2.1⟩
theorem bCu:pO.Ok CT.P 188 ⟨239,5,[],aUC,aJH,fun x=>aUG x.2.1 x.2.2.1 x.2.2.2.1 x.2.2.2.2.1 x.2.2.2.2.2.1 x.2.2.2.2.2.2.1 x.2.2.2.2.2.2.2.1⟩:=
 JA (C:=bY 5) (cN:=[]) (aY 5) aCD (eZ (aY 5) aCD) bCr bCq aUF bG2
theorem bG3:bCt.Ok CT.P:=aW.aFg (by
 refine aUn (is:=[0,1,2,3,4]) (F2:=fun x=>aCG x.2.1 x.2.2.1 x.2.2.2.1 x.2.2.2.2.1 x.2.2.2.2.2.1 x.2.2.2.2.2.2.1 x.2.2.2.2.2.2.2.1) (fun x b=>rfl) ((),(),(),(),(),()) (fun x y h=>?_) (fun x e h=>?_) bCu
 ·have h:aCG x.2.1 x.2.2.1 x.2.2.2.1 x.2.2.2.2.1 x.2.2.2.2.2.1 x.2.2.2.2.2.2.1 x.2.2.2.2.2.2.2.1=some (.inl y):=h;unfold aCG at h;obtain⟨z,hz,h⟩:=aXE.1 h;cases z with
  | inl z=>cases h;exact⟨hz,rfl⟩
  | inr e=>cases h
 ·have h:aCG x.2.1 x.2.2.1 x.2.2.2.1 x.2.2.2.2.1 x.2.2.2.2.2.1 x.2.2.2.2.2.2.1 x.2.2.2.2.2.2.2.1=some (.inr e):=h;unfold aCG at h;obtain⟨z,hz,h⟩:=aXE.1 h;cases z with
  | inl z=>cases h
  | inr e=>cases h;exact hz)
def a6f:Code:=Tryz.f138.body.getD .skip
def aUI:Tb:=cC iL iM [aBV,Y2,a2R,bCn,bCl,bCt]
theorem aMR:aUI.Ok CT.P:=aQ (⟨JF,Q0,bCm,bGZ,bGX,bG3,trivial⟩)
def aMS:Code:=aX a6f 14
abbrev tJ:aF:=⟨97,[(1,.data I),(3,.ptr 0),(5,.ptr 1),(6,.ptr 2),(11,.ptr 3),(12,.ptr 5),(62,.own I 4),(63,.data I),(64,.data I)],[.var 51 [.data aD],.var 48 [.data aU],.var 51 [.data aD],.var 23 [.own I 4],.row 3 I,.var 244 [.map 6],.cE I I],fun s=>[aG s 3,aG s 5,aG s 6,aG s 11,dL s 11 0,aG s 12,dL s 12 0]⟩
abbrev TE:aF:=⟨97,[(1,.data I),(3,.ptr 0),(5,.ptr 1),(6,.ptr 2),(11,.ptr 3),(12,.ptr 4)],[.var 51 [.data aD],.var 48 [.data aU],.var 51 [.data aD],.var 23 [.data (.list I)],.var 244 [.map 5],.cE I I],fun s=>[aG s 3,aG s 5,aG s 6,aG s 11,aG s 12,dL s 12 0]⟩
abbrev TF:aF:=l0 97
def aGp:=ex 0 1 TE TF [.nT 11 0 (.list I)] []
def wB (r1:Ty.El I)(r63:Ty.El I)(r64:Ty.El I)(b0:Ty.El aD×Unit)(b1:Ty.El aU×Unit)(b2:Ty.El aD×Unit)(b3:Unit×Unit)(b4:List (Ty.El I))(b5:Unit×Unit)(b6:List (Ty.El I×Ty.El (I))):Option (tJ.El⊕(TE.El⊕TF.El)):=bif decide (r64<r63) then bif decide ((0:Int)≤r64∧r64<(↑b4.length:Int)) then some (Sum.inl ((r1,(),(),(),(),(),(),r63,IntKind.i64.wrap (r64+(1:Int)),()),(b0.1,()),(b1.1,()),(b2.1,()),((),()),b4,((),()),lG I I (b4.getD (Int.toNat r64) (0:Int)) (IntKind.i64.wrap (b0.1.2.1+r64)) b6,())) else none else some (Sum.inr (Sum.inl ((r1,(),(),(),(),(),()),(b0.1,()),(b1.1,()),(b2.1,()),(b4,()),((),()),b6,())))
theorem aZO (x:tJ.El):aV CT aUI (cB CT aUI) iI aMS (tJ.enc x) (bG (tJ.lay []) aGp)=wB x.1.1 x.1.2.2.2.2.2.2.2.1 x.1.2.2.2.2.2.2.2.2.1 x.2.1 x.2.2.1 x.2.2.2.1 x.2.2.2.2.1 x.2.2.2.2.2.1 x.2.2.2.2.2.2.1 x.2.2.2.2.2.2.2.1:=by kernel_rfl
def aCH:tJ.El→Option (TE.El⊕TF.El):=aH (fun x=>wB x.1.1 x.1.2.2.2.2.2.2.2.1 x.1.2.2.2.2.2.2.2.2.1 x.2.1 x.2.2.1 x.2.2.2.1 x.2.2.2.2.1 x.2.2.2.2.2.1 x.2.2.2.2.2.2.1 x.2.2.2.2.2.2.2.1) fuel
def a2X {β:Type}:dK β:=fun k s K=>if Nat.beq k 14 then bO (tJ.lay []) aGp aCH s K else none
theorem aUJ {β:Type}:aC CT (a2X (β:=β)) (aJ a6f):=aC.is [(14,aMS)] (by kernel_rfl) (aC.cons (iW aL aMR (bC (by kernel_rfl)) aZO rfl rfl) (aC.nil))
def aJJ (a1:Ty.El aD)(a2:Ty.El I)(a3:Ty.El aU):Option (aS [aD,I,I]):=(rM a1 a2).bind fun v2=>(pR a1).bind fun v4=>bif !v4.1 then some ((((0:Int),(0:Int)),(0:Int),[]),(0:Int),(9:Int),()) else bif !v2.2.1 then some ((((0:Int),(0:Int)),(0:Int),[]),(0:Int),(10:Int),()) else bif v2.1.2.1==(2:Int) then some ((((0:Int),(0:Int)),(0:Int),[]),(0:Int),(9:Int),()) else(aMK a1 a2).bind fun v6=>(aUx a1 v6).bind fun v8=>bif((v6.length+v8.length)*(8:Nat)).ble (70368744177664:Nat) then bif decide (IntKind.i64.wrap ((↑(List.length a1.2.2):Int)+(↑(v6++v8).length:Int))>(40:Int)) then some ((((0:Int),(0:Int)),(0:Int),[]),(0:Int),(12:Int),()) else bif decide (IntKind.i64.wrap (a1.2.1+(↑(v6++v8).length:Int))>(1000001:Int)) then some ((((0:Int),(0:Int)),(0:Int),[]),(0:Int),(12:Int),()) else(aCH ((a2,(),(),(),(),(),(),(↑(v6++v8).length:Int),(0:Int),()),(a1,()),(a3,()),((((0:Int),(0:Int)),(0:Int),[]),()),((),()),v6++v8,((),()),[],())).bind fun v46=>Sum.elim (fun v47=>(aUt v47.2.1.1.2.2).bind fun v49=>(aCG (v47.2.2.2.2.1.1,()) (v47.2.1.1,()) ((),()) ((),()) (v47.2.2.1.1,()) v49 v47.2.2.2.2.2.2.1).bind fun v51=>Sum.elim (fun v53=>bif v53.1.1 != (0:Int) then some ((((0:Int),(0:Int)),(0:Int),[]),(0:Int),v53.1.1,()) else some ((v53.2.2.1.1.1,IntKind.i64.wrap (v53.2.2.1.1.2.1+(↑(List.length v53.2.1.1):Int)),v53.2.2.2.2.2.2.1),(fV I I v47.1.1 v53.2.2.2.2.2.2.2.1).getD (0:Int),(0:Int),())) (fun v68=>bif v68 != (0:Int) then some ((((0:Int),(0:Int)),(0:Int),[]),(0:Int),v68,()) else none) v51) (fun v69=>none) v46 else none
theorem bG4 (x:Ps [.ty aD,.ty I,.ty aU]):dA CT aUI [aD,I,I] (cB CT aUI) a2X Tryz.f138 a6f (bQ [.ty aD,.ty I,.ty aU] x)=aJJ x.1 x.2.1 x.2.2.1:=by kernel_rfl
def bG5:aW:=.fn 138 [] ⟨[.ty aD,.ty I,.ty aU],[aD,I,I],fun x=>aJJ x.1 x.2.1 x.2.2.1,false⟩
theorem bG6:bG5.Ok CT.P:=aW.ofFn aL aMR (by kernel_rfl) (by kernel_rfl) aUJ bG4
end Go.DI.S
end
