import Derived.Test.YtbjldjihpekhaaaGreatTa
import Derived.Test.YtbjldjihpekhaaaGreatMd
/- Turning; a command carried out; OrderTurns: told by functions on data. No conditions. -/
set_option linter.unusedVariables false
set_option maxRecDepth 100000
set_option maxHeartbeats 0
noncomputable section
namespace Go.DI.S
open Go.Proofs
def aCz:Code:=Tryz.f209.body.getD .skip
def F7:Tb:=cC iL iM []
theorem aJA:F7.Ok CT.P:=aQ (trivial)
def SZ {β:Type}:dK β:=fun _ _ _=>none
theorem aGj {β:Type}:aC CT (SZ (β:=β)) (aJ aCz):=aC.is [] (by kernel_rfl) (aC.nil)
def F8 (a1:Ty.El (.int .u64)):Option (aS [I]):=dA CT F7 [I] (cB CT F7) SZ Tryz.f209 aCz (bQ [.ty (.int .u64)] (a1,()))
theorem aZE (x:Ps [.ty (.int .u64)]):dA CT F7 [I] (cB CT F7) SZ Tryz.f209 aCz (bQ [.ty (.int .u64)] x)=F8 x.1:=rfl
def aZF:aW:=.fn 209 [] ⟨[.ty (.int .u64)],[I],fun x=>F8 x.1,false⟩
theorem aZG:aZF.Ok CT.P:=aW.ofFn aL aJA (by kernel_rfl) (by kernel_rfl) aGj aZE
def aCA (a1:Ty.El (.int .u64)):Option (aS [I]):=(F8 a1).bind fun v2=>some (IntKind.i64.wrap ((64:Int)-v2.1),())
def aUd:aW:=.fn 274 [] ⟨[.ty (.int .u64)],[I],fun x=>aCA x.1,false⟩
theorem a5W:aUd.Ok CT.P:=fn0 aL (B8 aZG) Tryz.f274 (by kernel_rfl) fun x=>by kernel_rfl
def k9 (a1:Ty.El (.int .u64))(a2:Ty.El (.int .u64)):Option (aS [.int .u64,.int .u64]):=some (IntKind.u64.wrap (IntKind.u64.wrap (IntKind.u64.wrap (Int.fdiv a1 (4294967296:Int)*Int.fdiv a2 (4294967296:Int))+(IntKind.u64.wrap (IntKind.u64.wrap (Int.fdiv a1 (4294967296:Int)*xC IntKind.u64 a2 (4294967295:Int))+(IntKind.u64.wrap (xC IntKind.u64 a1 (4294967295:Int)*xC IntKind.u64 a2 (4294967295:Int))).fdiv (4294967296:Int))).fdiv (4294967296:Int))+(IntKind.u64.wrap (xC IntKind.u64 (IntKind.u64.wrap (IntKind.u64.wrap (Int.fdiv a1 (4294967296:Int)*xC IntKind.u64 a2 (4294967295:Int))+(IntKind.u64.wrap (xC IntKind.u64 a1 (4294967295:Int)*xC IntKind.u64 a2 (4294967295:Int))).fdiv (4294967296:Int))) (4294967295:Int)+IntKind.u64.wrap (xC IntKind.u64 a1 (4294967295:Int)*Int.fdiv a2 (4294967296:Int)))).fdiv (4294967296:Int)),IntKind.u64.wrap (a1*a2),())
def aMz:aW:=.fn 260 [] ⟨[.ty (.int .u64),.ty (.int .u64)],[.int .u64,.int .u64],fun x=>k9 x.1 x.2.1,false⟩
theorem NZ:aMz.Ok CT.P:=fn0 aL zN Tryz.f260 (by kernel_rfl) fun x=>by kernel_rfl
def N0:Code:=Tryz.f261.body.getD .skip
def vX:Tb:=cC iL iM [aUd]
theorem DY:vX.Ok CT.P:=aQ (⟨a5W,trivial⟩)
def S7:Code:=aX N0 24
def S8:Code:=aX N0 17
abbrev gX:aF:=⟨135,[(2,.data (.int .u64)),(8,.data (.int .u64)),(9,.data (.int .u64)),(10,.data (.int .u64)),(11,.data (.int .u64)),(13,.data (.int .u64)),(14,.data (.int .u64)),(15,.data (.int .u64)),(16,.data (.int .u64))],[],fun _=>[]⟩
abbrev m5:aF:=⟨135,[(2,.data (.int .u64)),(8,.data (.int .u64)),(9,.data (.int .u64)),(10,.data (.int .u64)),(11,.data (.int .u64)),(13,.data (.int .u64)),(14,.data (.int .u64)),(15,.data (.int .u64))],[],fun _=>[]⟩
abbrev m6:aF:=l0 135
def L9:=ex 0 0 m5 m6 [] []
def l7 (r2:Ty.El (.int .u64))(r8:Ty.El (.int .u64))(r9:Ty.El (.int .u64))(eD:Ty.El (.int .u64))(eM:Ty.El (.int .u64))(gV:Ty.El (.int .u64))(fQ:Ty.El (.int .u64))(jR:Ty.El (.int .u64))(l6:Ty.El (.int .u64)):Option (gX.El⊕(m5.El⊕m6.El)):=bif decide (jR≥(4294967296:Int)) then bif decide (IntKind.u64.wrap (l6+r9)≥(4294967296:Int)) then some (Sum.inr (Sum.inl ((r2,r8,r9,eD,eM,gV,fQ,IntKind.u64.wrap (jR-(1:Int)),()),()))) else some (Sum.inl ((r2,r8,r9,eD,eM,gV,fQ,IntKind.u64.wrap (jR-(1:Int)),IntKind.u64.wrap (l6+r9),()),())) else bif decide (IntKind.u64.wrap (jR*eD)>IntKind.u64.wrap (IntKind.u64.wrap ((4294967296:Int)*l6)+gV)) then bif decide (IntKind.u64.wrap (l6+r9)≥(4294967296:Int)) then some (Sum.inr (Sum.inl ((r2,r8,r9,eD,eM,gV,fQ,IntKind.u64.wrap (jR-(1:Int)),()),()))) else some (Sum.inl ((r2,r8,r9,eD,eM,gV,fQ,IntKind.u64.wrap (jR-(1:Int)),IntKind.u64.wrap (l6+r9),()),())) else some (Sum.inr (Sum.inl ((r2,r8,r9,eD,eM,gV,fQ,jR,()),())))
theorem aJB (x:gX.El):aV CT vX (cB CT vX) iI S8 (gX.enc x) (bG (gX.lay []) L9)=l7 x.1.1 x.1.2.1 x.1.2.2.1 x.1.2.2.2.1 x.1.2.2.2.2.1 x.1.2.2.2.2.2.1 x.1.2.2.2.2.2.2.1 x.1.2.2.2.2.2.2.2.1 x.1.2.2.2.2.2.2.2.2.1:=by kernel_rfl
def DZ:gX.El→Option (m5.El⊕m6.El):=aH (fun x=>l7 x.1.1 x.1.2.1 x.1.2.2.1 x.1.2.2.2.1 x.1.2.2.2.2.1 x.1.2.2.2.2.2.1 x.1.2.2.2.2.2.2.1 x.1.2.2.2.2.2.2.2.1 x.1.2.2.2.2.2.2.2.2.1) fuel
abbrev gY:aF:=⟨135,[(2,.data (.int .u64)),(8,.data (.int .u64)),(9,.data (.int .u64)),(10,.data (.int .u64)),(14,.data (.int .u64)),(15,.data (.int .u64)),(16,.data (.int .u64)),(17,.data (.int .u64)),(18,.data (.int .u64))],[],fun _=>[]⟩
abbrev m7:aF:=⟨135,[(2,.data (.int .u64)),(8,.data (.int .u64)),(14,.data (.int .u64)),(15,.data (.int .u64)),(17,.data (.int .u64)),(18,.data (.int .u64))],[],fun _=>[]⟩
abbrev m8:aF:=l0 135
def MC:=ex 0 2 m7 m8 [] []
def aA0 (r2:Ty.El (.int .u64))(r8:Ty.El (.int .u64))(r9:Ty.El (.int .u64))(eD:Ty.El (.int .u64))(fQ:Ty.El (.int .u64))(jR:Ty.El (.int .u64))(l6:Ty.El (.int .u64))(sI:Ty.El (.int .u64))(Y0:Ty.El (.int .u64)):Option (gY.El⊕(m7.El⊕m8.El)):=bif decide (Y0≥(4294967296:Int)) then bif decide (IntKind.u64.wrap (l6+r9)≥(4294967296:Int)) then some (Sum.inr (Sum.inl ((r2,r8,fQ,jR,sI,IntKind.u64.wrap (Y0-(1:Int)),()),()))) else some (Sum.inl ((r2,r8,r9,eD,fQ,jR,IntKind.u64.wrap (l6+r9),sI,IntKind.u64.wrap (Y0-(1:Int)),()),())) else bif decide (IntKind.u64.wrap (Y0*eD)>IntKind.u64.wrap (IntKind.u64.wrap ((4294967296:Int)*l6)+fQ)) then bif decide (IntKind.u64.wrap (l6+r9)≥(4294967296:Int)) then some (Sum.inr (Sum.inl ((r2,r8,fQ,jR,sI,IntKind.u64.wrap (Y0-(1:Int)),()),()))) else some (Sum.inl ((r2,r8,r9,eD,fQ,jR,IntKind.u64.wrap (l6+r9),sI,IntKind.u64.wrap (Y0-(1:Int)),()),())) else some (Sum.inr (Sum.inl ((r2,r8,fQ,jR,sI,Y0,()),())))
theorem aJC (x:gY.El):aV CT vX (cB CT vX) iI S7 (gY.enc x) (bG (gY.lay []) MC)=aA0 x.1.1 x.1.2.1 x.1.2.2.1 x.1.2.2.2.1 x.1.2.2.2.2.1 x.1.2.2.2.2.2.1 x.1.2.2.2.2.2.2.1 x.1.2.2.2.2.2.2.2.1 x.1.2.2.2.2.2.2.2.2.1:=by kernel_rfl
def D1:gY.El→Option (m7.El⊕m8.El):=aH (fun x=>aA0 x.1.1 x.1.2.1 x.1.2.2.1 x.1.2.2.2.1 x.1.2.2.2.2.1 x.1.2.2.2.2.2.1 x.1.2.2.2.2.2.2.1 x.1.2.2.2.2.2.2.2.1 x.1.2.2.2.2.2.2.2.2.1) fuel
def aGk {β:Type}:dK β:=fun k s K=>if Nat.beq k 17 then bO (gX.lay []) L9 DZ s K else if Nat.beq k 24 then bO (gY.lay []) MC D1 s K else none
theorem aGl {β:Type}:aC CT (aGk (β:=β)) (aJ N0):=aC.is [(17,S8),(24,S7)] (by kernel_rfl) (aC.cons (iW aL DY (bC (by kernel_rfl)) aJB rfl rfl) (aC.cons (iW aL DY (bC (by kernel_rfl)) aJC rfl rfl) (aC.nil)))
def vY (a1:Ty.El (.int .u64))(a2:Ty.El (.int .u64))(a3:Ty.El (.int .u64)):Option (aS [.int .u64,.int .u64]):=bif a3==(0:Int) then none else bif decide (a3≤a1) then none else bif a1==(0:Int) then bif decide (a3=(0:Int)) then none else bif decide (a3=(0:Int)) then none else some (IntKind.u64.wrap (Int.tdiv a2 a3),Int.tmod a2 a3,()) else(aCA a3).bind fun v2=>bif decide (IntKind.u64.wrap v2.1<(0:Int)) then none else bif decide (IntKind.u64.wrap v2.1<(0:Int)) then none else bif decide (IntKind.u64.wrap ((64:Int)-IntKind.u64.wrap v2.1)<(0:Int)) then none else bif decide (IntKind.u64.wrap v2.1<(0:Int)) then none else bif decide ((IntKind.u64.wrap (a3*(2:Int)^Min.min (IntKind.u64.wrap v2.1).toNat (64:Nat))).fdiv (4294967296:Int)=(0:Int)) then none else(DZ ((IntKind.u64.wrap (a3*(2:Int)^Min.min (IntKind.u64.wrap v2.1).toNat (64:Nat)),IntKind.u64.wrap v2.1,(IntKind.u64.wrap (a3*(2:Int)^Min.min (IntKind.u64.wrap v2.1).toNat (64:Nat))).fdiv (4294967296:Int),xC IntKind.u64 (IntKind.u64.wrap (a3*(2:Int)^Min.min (IntKind.u64.wrap v2.1).toNat (64:Nat))) (4294967295:Int),bOr IntKind.u64 (IntKind.u64.wrap (a1*(2:Int)^Min.min (IntKind.u64.wrap v2.1).toNat (64:Nat))) (Int.fdiv a2 ((2:Int)^Min.min (IntKind.u64.wrap ((64:Int)-IntKind.u64.wrap v2.1)).toNat (64:Nat))),(IntKind.u64.wrap (a2*(2:Int)^Min.min (IntKind.u64.wrap v2.1).toNat (64:Nat))).fdiv (4294967296:Int),xC IntKind.u64 (IntKind.u64.wrap (a2*(2:Int)^Min.min (IntKind.u64.wrap v2.1).toNat (64:Nat))) (4294967295:Int),IntKind.u64.wrap ((bOr IntKind.u64 (IntKind.u64.wrap (a1*(2:Int)^Min.min (IntKind.u64.wrap v2.1).toNat (64:Nat))) (Int.fdiv a2 ((2:Int)^Min.min (IntKind.u64.wrap ((64:Int)-IntKind.u64.wrap v2.1)).toNat (64:Nat)))).tdiv ((IntKind.u64.wrap (a3*(2:Int)^Min.min (IntKind.u64.wrap v2.1).toNat (64:Nat))).fdiv (4294967296:Int))),IntKind.u64.wrap (bOr IntKind.u64 (IntKind.u64.wrap (a1*(2:Int)^Min.min (IntKind.u64.wrap v2.1).toNat (64:Nat))) (Int.fdiv a2 ((2:Int)^Min.min (IntKind.u64.wrap ((64:Int)-IntKind.u64.wrap v2.1)).toNat (64:Nat)))-IntKind.u64.wrap (IntKind.u64.wrap ((bOr IntKind.u64 (IntKind.u64.wrap (a1*(2:Int)^Min.min (IntKind.u64.wrap v2.1).toNat (64:Nat))) (Int.fdiv a2 ((2:Int)^Min.min (IntKind.u64.wrap ((64:Int)-IntKind.u64.wrap v2.1)).toNat (64:Nat)))).tdiv ((IntKind.u64.wrap (a3*(2:Int)^Min.min (IntKind.u64.wrap v2.1).toNat (64:Nat))).fdiv (4294967296:Int)))*(IntKind.u64.wrap (a3*(2:Int)^Min.min (IntKind.u64.wrap v2.1).toNat (64:Nat))).fdiv (4294967296:Int))),()),())).bind fun v3=>Sum.elim (fun v4=>bif decide (v4.1.2.2.1=(0:Int)) then none else(D1 ((v4.1.1,v4.1.2.1,v4.1.2.2.1,v4.1.2.2.2.1,v4.1.2.2.2.2.2.2.1,v4.1.2.2.2.2.2.2.2.1,IntKind.u64.wrap (IntKind.u64.wrap (IntKind.u64.wrap (IntKind.u64.wrap (v4.1.2.2.2.2.1*(4294967296:Int))+v4.1.2.2.2.2.2.1)-IntKind.u64.wrap (v4.1.2.2.2.2.2.2.2.1*v4.1.1))-IntKind.u64.wrap (IntKind.u64.wrap ((IntKind.u64.wrap (IntKind.u64.wrap (IntKind.u64.wrap (v4.1.2.2.2.2.1*(4294967296:Int))+v4.1.2.2.2.2.2.1)-IntKind.u64.wrap (v4.1.2.2.2.2.2.2.2.1*v4.1.1))).tdiv v4.1.2.2.1)*v4.1.2.2.1)),IntKind.u64.wrap (IntKind.u64.wrap (IntKind.u64.wrap (v4.1.2.2.2.2.1*(4294967296:Int))+v4.1.2.2.2.2.2.1)-IntKind.u64.wrap (v4.1.2.2.2.2.2.2.2.1*v4.1.1)),IntKind.u64.wrap ((IntKind.u64.wrap (IntKind.u64.wrap (IntKind.u64.wrap (v4.1.2.2.2.2.1*(4294967296:Int))+v4.1.2.2.2.2.2.1)-IntKind.u64.wrap (v4.1.2.2.2.2.2.2.2.1*v4.1.1))).tdiv v4.1.2.2.1),()),())).bind fun v5=>Sum.elim (fun v6=>bif decide (v6.1.2.1<(0:Int)) then none else some (IntKind.u64.wrap (IntKind.u64.wrap (v6.1.2.2.2.1*(4294967296:Int))+v6.1.2.2.2.2.2.1),(IntKind.u64.wrap (IntKind.u64.wrap (IntKind.u64.wrap (v6.1.2.2.2.2.1*(4294967296:Int))+v6.1.2.2.1)-IntKind.u64.wrap (v6.1.2.2.2.2.2.1*v6.1.1))).fdiv ((2:Int)^Min.min (Int.toNat v6.1.2.1) (64:Nat)),())) (fun v7=>none) v5) (fun v8=>none) v3
theorem aZH (x:Ps [.ty (.int .u64),.ty (.int .u64),.ty (.int .u64)]):dA CT vX [.int .u64,.int .u64] (cB CT vX) aGk Tryz.f261 N0 (bQ [.ty (.int .u64),.ty (.int .u64),.ty (.int .u64)] x)=vY x.1 x.2.1 x.2.2.1:=by kernel_rfl
def aMA:aW:=.fn 261 [] ⟨[.ty (.int .u64),.ty (.int .u64),.ty (.int .u64)],[.int .u64,.int .u64],fun x=>vY x.1 x.2.1 x.2.2.1,false⟩
theorem aMB:aMA.Ok CT.P:=aW.ofFn aL DY (by kernel_rfl) (by kernel_rfl) aGl aZH
def rB (a1:Ty.El I):Option (aS [.bool,.int .u64]):=bif decide (a1<(0:Int)) then some (true,IntKind.u64.wrap ((0:Int)-IntKind.u64.wrap a1),()) else some (false,IntKind.u64.wrap a1,())
def aZI:aW:=.fn 262 [] ⟨[.ty I],[.bool,.int .u64],fun x=>rB x.1,false⟩
theorem aMC:aZI.Ok CT.P:=fn0 aL zN Tryz.f262 (by kernel_rfl) fun x=>by kernel_rfl
def AK (a1:Ty.El .bool)(a2:Ty.El (.int .u64)):Option (aS [I,I]):=bif a1 then bif decide (a2≤(9223372036854775808:Int)) then some (IntKind.i64.wrap (IntKind.u64.wrap ((0:Int)-a2)),(0:Int),()) else bif !a1 then bif decide (a2<(9223372036854775808:Int)) then some (IntKind.i64.wrap a2,(0:Int),()) else some ((0:Int),(3:Int),()) else some ((0:Int),(3:Int),()) else bif !a1 then bif decide (a2<(9223372036854775808:Int)) then some (IntKind.i64.wrap a2,(0:Int),()) else some ((0:Int),(3:Int),()) else some ((0:Int),(3:Int),())
def aZJ:aW:=.fn 263 [] ⟨[.ty .bool,.ty (.int .u64)],[I,I],fun x=>AK x.1 x.2.1,false⟩
theorem aMD:aZJ.Ok CT.P:=fn0 aL zN Tryz.f263 (by kernel_rfl) fun x=>by kernel_rfl
def vZ (a1:Ty.El I)(a2:Ty.El I):Option (aS [I,I]):=(rB a1).bind fun v2=>(rB a2).bind fun v4=>(k9 v2.2.1 v4.2.1).bind fun v6=>bif decide (v6.1≥(4294967296:Int)) then some ((0:Int),(3:Int),()) else(AK (!v2.1==v4.1) (bOr IntKind.u64 (IntKind.u64.wrap (v6.1*(4294967296:Int))) (Int.fdiv v6.2.1 (4294967296:Int)))).bind fun v8=>some (v8.1,v8.2.1,())
def a5X:aW:=.fn 234 [] ⟨[.ty I,.ty I],[I,I],fun x=>vZ x.1 x.2.1,false⟩
theorem aUe:a5X.Ok CT.P:=fn0 aL (tb3 NZ aMC aMD) Tryz.f234 (by kernel_rfl) fun x=>by kernel_rfl
def JZ (a1:Ty.El I)(a2:Ty.El I):Option (aS [I,I]):=bif !decide (a1<(0:Int))==decide (a2<(0:Int)) then bif !decide (IntKind.i64.wrap (a1-a2)<(0:Int))==decide (a1<(0:Int)) then some ((0:Int),(3:Int),()) else some (IntKind.i64.wrap (a1-a2),(0:Int),()) else some (IntKind.i64.wrap (a1-a2),(0:Int),())
def a5Y:aW:=.fn 235 [] ⟨[.ty I,.ty I],[I,I],fun x=>JZ x.1 x.2.1,false⟩
theorem aUf:a5Y.Ok CT.P:=fn0 aL zN Tryz.f235 (by kernel_rfl) fun x=>by kernel_rfl
def J2 (a1:Ty.El I):Option (aS [I]):=some ((IntKind.i64.wrap (Int.tmod a1 (65536:Int)+(65536:Int))).tmod (65536:Int),())
def aUg:aW:=.fn 259 [] ⟨[.ty I],[I],fun x=>J2 x.1,false⟩
theorem aUh:aUg.Ok CT.P:=fn0 aL zN Tryz.f259 (by kernel_rfl) fun x=>by kernel_rfl
def aME:Code:=Tryz.f232.body.getD .skip
theorem a5Z:Tryz.f232.body=some aME:=by kernel_rfl
theorem a52:CT.P.funcs[232]?=some Tryz.f232:=by kernel_rfl
abbrev rR:=(Ty.El I)→Option (aS [I])
def S9 (f:rR):aW:=.fn 232 [] ⟨[.ty I],[I],fun x=>f x.1,false⟩
def aUi (f:rR):Tb:=cC iL iM [aUg,(S9 f),aMz,aMA]
theorem aUj {f:rR}(hf:(S9 f).Ok CT.P):(aUi f).Ok CT.P:=aQ (⟨aUh,hf,NZ,aMB,trivial⟩)
def aUk (f:rR){β:Type}:dK β:=fun _ _ _=>none
theorem aPI {f:rR}(hf:(S9 f).Ok CT.P){β:Type}:aC CT (aUk f (β:=β)) (aJ aME):=by
 have h:aJ aME=[]:=by kernel_rfl
 rw [h];exact aC.nil
def D2 (f:rR)(a1:Ty.El I):Option (aS [I]):=(J2 a1).bind fun v2=>bif decide (v2.1>(32768:Int)) then(f (IntKind.i64.wrap (v2.1-(32768:Int)))).bind fun v4=>some (IntKind.i64.wrap ((0:Int)-v4.1),()) else(k9 (IntKind.u64.wrap ((16:Int)*IntKind.u64.wrap (IntKind.i64.wrap (v2.1*IntKind.i64.wrap ((32768:Int)-v2.1))))) (4294967296:Int)).bind fun v6=>(vY v6.1 v6.2.1 (IntKind.u64.wrap ((5368709120:Int)-IntKind.u64.wrap ((4:Int)*IntKind.u64.wrap (IntKind.i64.wrap (v2.1*IntKind.i64.wrap ((32768:Int)-v2.1))))))).bind fun v8=>some (IntKind.i64.wrap v8.1,())
theorem bCd (f:rR)(x:Ps [.ty I]):dA CT (aUi f) [I] (cB CT (aUi f)) (aUk f) Tryz.f232 aME (bQ [.ty I] x)=D2 f x.1:=by kernel_rfl
def J3:Nat→rR
 | 0,_=>none
 | n+1,a1=>D2 (J3 n) a1
def aGm:rR:=J3 3
theorem aJD:∀ n,(S9 (J3 n)).Ok CT.P
 | 0=>fun x y h=>by cases h
 | n+1=>aW.ofFn aL (aUj (aJD n)) a52 a5Z (aPI (aJD n)) (bCd (J3 n))
def bCe:aW:=S9 aGm
theorem a2N:bCe.Ok CT.P:=aJD 3
def aMF (a1:Ty.El I):Option (aS [I]):=(J2 a1).bind fun v2=>(aGm (IntKind.i64.wrap (v2.1+(16384:Int)))).bind fun v4=>some (v4.1,())
def bCf:aW:=.fn 233 [] ⟨[.ty I],[I],fun x=>aMF x.1,false⟩
theorem bCg:bCf.Ok CT.P:=fn0 aL (JB aUh a2N) Tryz.f233 (by kernel_rfl) fun x=>by kernel_rfl
abbrev a54:aF:=⟨3,[(0,.data I),(1,.data I),(2,.ptr 0)],[.var 56 [.data I]],fun s=>[aG s 2]⟩
abbrev aMG:aF:=⟨1,[(0,.data I)],[.var 56 [.data I]],fun _=>[0]⟩
def ME (a0:Ty.El I)(a1:Ty.El I)(b0:Ty.El I×Unit):Option aMG.El:=bif b0.1==(0:Int) then some ((a0,()),(a1,()),()) else some ((a0,()),(b0.1,()),())
def bCh:aW:=.dV 231 [] ⟨1,[],a54,aMG,fun x=>ME x.1.1 x.1.2.1 x.2.1⟩
theorem bCi:bCh.Ok CT.P:=BV (C:=(bY 1)) (aY 1) zN [] Tryz.f231 (by kernel_rfl) fun x=>by kernel_rfl
def aMH (a1:Ty.El I)(a2:Ty.El I)(a3:Ty.El I):Option (aS [I,I,I]):=(aGm a3).bind fun v2=>(aMF a3).bind fun v4=>(vZ a1 v4.1).bind fun v6=>(ME v6.1 v6.2.1 ((0:Int),())).bind fun v8=>(vZ a2 v2.1).bind fun v10=>(ME v10.1 v10.2.1 (v8.2.1.1,())).bind fun pX=>(JZ v8.1.1 pX.1.1).bind fun v20=>(ME v20.1 v20.2.1 (pX.2.1.1,())).bind fun v24=>(vZ a1 v2.1).bind fun v26=>(ME v26.1 v26.2.1 (v24.2.1.1,())).bind fun v30=>(vZ a2 v4.1).bind fun v32=>(ME v32.1 v32.2.1 (v30.2.1.1,())).bind fun v36=>(SS v30.1.1 v36.1.1).bind fun v42=>(ME v42.1 v42.2.1 (v36.2.1.1,())).bind fun v46=>bif v46.2.1.1 != (0:Int) then some ((0:Int),(0:Int),v46.2.1.1,()) else some (v24.1.1,v46.1.1,(0:Int),())
def bCj:aW:=.fn 191 [] ⟨[.ty I,.ty I,.ty I],[I,I,I],fun x=>aMH x.1 x.2.1 x.2.2.1,false⟩
theorem bCk:bCj.Ok CT.P:=fn0 aL (tb6 a2N bCg aUe aUf a2M bCi) Tryz.f191 (by kernel_rfl) fun x=>by kernel_rfl
def J4 (a1:Ty.El aR)(a2:Ty.El aU):Option (aS [aU]⊕Int):=(aMH a2.1 a2.2 a1.2.1.2.2.2.2.2.2.2.2.2.1).bind fun v2=>bif v2.2.2.1 != (0:Int) then some (Sum.inr (3:Int)) else some (Sum.inl ((v2.1,v2.2.1),()))
def aUl:aW:=.e9 141 [] ⟨239,[.jL aR,.ty aU],[aU],fun x=>J4 x.1 x.2.1,false⟩
theorem a56:aUl.Ok CT.P:=kO aL (B8 bCk) Tryz.f141 (by kernel_rfl) fun x=>by kernel_rfl
end Go.DI.S
end
