import Derived.Test.YtbjldjihpekhaaaGreatNb
import Derived.Laws.Externs
/- Arithmetic of places: told by functions on data. No conditions. -/
set_option linter.unusedSimpArgs false
set_option linter.unusedVariables false
set_option maxRecDepth 100000
set_option maxHeartbeats 0
noncomputable section
namespace Go.DI.S
open Go.Proofs
def aJ7 {β:Type}(args:List AV)(K:AV→Option β):Option β:=match args with
 | [.int .u64 x,.int .u64 y,.int .u64 c]=>bif decide (0≤x∧0≤y∧0≤c∧c≤1) then K (.xF [.int .u64 ((x+y+c) % 18446744073709551616),.int .u64 ((x+y+c) / 18446744073709551616)]) else none
 | _=>none
def a6J:aW:=.ext 329 ⟨fun args K=>aJ7 args K⟩
theorem a6K:a6J.Ok CT.P:=by
 intro β args K z h;have h:aJ7 args K=some z:=h;unfold aJ7 at h
 split at h
 ·rename_i x y c _;cases hc:decide (0≤x∧0≤y∧0≤c∧c≤1) with
  | false=>rw [hc] at h;cases h
  | true=>
   rw [hc] at h;have hc:=aXU hc;refine⟨_,h,fun w R ρ us hv=>?_⟩;obtain⟨u1,us1,e1,v1,k1⟩:=hv.cons_inv;obtain⟨u2,us2,rfl,v2,k2⟩:=k1.cons_inv;obtain⟨u3,us3,rfl,v3,k3⟩:=k2.cons_inv;obtain rfl:=k3.bE;cases v1;cases v2;cases v3;have hu:us=#[.int .u64 x,.int .u64 y,.int .u64 c]:=aRl.1 (by simpa using e1);subst hu;refine⟨_,?_,.mU (us:=#[_,_]) (.cons (.int _ _) (.cons (.int _ _) .nil))⟩;show(callFunc 329 _).run Tryz.prog w=_;rw [run_callFunc_extern Tryz.func329 (by kernel_rfl) (by kernel_rfl) (by kernel_rfl) (e:=add64Entry) (by kernel_rfl),run_add64 x y c hc.1 hc.2.1 hc.2.2.1 hc.2.2.2];rfl
 ·cases h
def aVv:List UInt8:=[0,1,2,2,3,3,3,3,4,4,4,4,4,4,4,4,5,5,5,5,5,5,5,5,5,5,5,5,5,5,5,5,6,6,6,6,6,6,6,6,6,6,6,6,6,6,6,6,6,6,6,6,6,6,6,6,6,6,6,6,6,6,6,6,7,7,7,7,7,7,7,7,7,7,7,7,7,7,7,7,7,7,7,7,7,7,7,7,7,7,7,7,7,7,7,7,7,7,7,7,7,7,7,7,7,7,7,7,7,7,7,7,7,7,7,7,7,7,7,7,7,7,7,7,7,7,7,7,8,8,8,8,8,8,8,8,8,8,8,8,8,8,8,8,8,8,8,8,8,8,8,8,8,8,8,8,8,8,8,8,8,8,8,8,8,8,8,8,8,8,8,8,8,8,8,8,8,8,8,8,8,8,8,8,8,8,8,8,8,8,8,8,8,8,8,8,8,8,8,8,8,8,8,8,8,8,8,8,8,8,8,8,8,8,8,8,8,8,8,8,8,8,8,8,8,8,8,8,8,8,8,8,8,8,8,8,8,8,8,8,8,8,8,8,8,8,8,8,8,8,8,8,8,8,8,8]
def len8 (n x:Int):Option (aS [I]):=
 bif Decidable.decide ((0:Int)≤Go.IntKind.u8.wrap x∧Go.IntKind.u8.wrap x<(256:Int)) then
  Option.some (Go.IntKind.i64.wrap (n+Go.IntKind.i64.wrap (((aVv.getD (Go.IntKind.u8.wrap x).toNat (0:UInt8)).toBitVec.toFin.1:Nat):Int)),())
 else Option.none
def aNk (n x:Int):Option (aS [I]):=bif Decidable.decide (x≥(256:Int)) then len8 (Go.IntKind.i64.wrap (n+8)) (Int.fdiv x (256:Int)) else len8 n x
def Z1 (n x:Int):Option (aS [I]):=bif Decidable.decide (x≥(65536:Int)) then aNk (Go.IntKind.i64.wrap (n+16)) (Int.fdiv x (65536:Int)) else aNk n x
def aC2 (a1:Ty.El I)(a2:Ty.El I):Option (aS [I,I]):=(rB a1).bind fun v2=>(rB a2).bind fun v4=>bif v4.2.1==(0:Int) then some ((0:Int),(4:Int),()) else bif decide (Int.fdiv v2.2.1 (4294967296:Int)≥v4.2.1) then some ((0:Int),(3:Int),()) else(vY (Int.fdiv v2.2.1 (4294967296:Int)) (IntKind.u64.wrap (v2.2.1*(4294967296:Int))) v4.2.1).bind fun v6=>(AK (!v2.1==v4.1) v6.1).bind fun v8=>some (v8.1,v8.2.1,())
def a6L:aW:=.fn 307 [] ⟨[.ty I,.ty I],[I,I],fun x=>aC2 x.1 x.2.1,false⟩
theorem a6M:a6L.Ok CT.P:=fn0 aL (tb3 aMB aMC aMD) Tryz.f307 (by kernel_rfl) fun x=>by kernel_rfl
def mE (a1:Ty.El I)(a2:Ty.El I):Option (aS [I]⊕Int):=(JZ a1 a2).bind fun v2=>(L8 v2.1 v2.2.1).bind fun v4=>Sum.elim (fun v6=>some (Sum.inl (v6.1,()))) (fun v7=>some (Sum.inr v7)) v4
def a6N:aW:=.e9 291 [] ⟨239,[.ty I,.ty I],[I],fun x=>mE x.1 x.2.1,false⟩
theorem KI:a6N.Ok CT.P:=kO aL (JB aMx aUf) Tryz.f291 (by kernel_rfl) fun x=>by kernel_rfl
def qC (a1:Ty.El I)(a2:Ty.El I):Option (aS [I]⊕Int):=(vZ a1 a2).bind fun v2=>(L8 v2.1 v2.2.1).bind fun v4=>Sum.elim (fun v6=>some (Sum.inl (v6.1,()))) (fun v7=>some (Sum.inr v7)) v4
def a6O:aW:=.e9 286 [] ⟨239,[.ty I,.ty I],[I],fun x=>qC x.1 x.2.1,false⟩
theorem aC3:a6O.Ok CT.P:=kO aL (JB aMx aUe) Tryz.f286 (by kernel_rfl) fun x=>by kernel_rfl
def wM (a1:Ty.El I)(a2:Ty.El I):Option (aS [I]⊕Int):=(aC2 a1 a2).bind fun v2=>(L8 v2.1 v2.2.1).bind fun v4=>Sum.elim (fun v6=>some (Sum.inl (v6.1,()))) (fun v7=>some (Sum.inr v7)) v4
def a6P:aW:=.e9 292 [] ⟨239,[.ty I,.ty I],[I],fun x=>wM x.1 x.2.1,false⟩
theorem aC4:a6P.Ok CT.P:=kO aL (JB aMx a6M) Tryz.f292 (by kernel_rfl) fun x=>by kernel_rfl
def mF (a1:Ty.El aU)(a2:Ty.El aU):Option (aS [aU]⊕Int):=(mE a1.1 a2.1).bind fun v2=>Sum.elim (fun v4=>(mE a1.2 a2.2).bind fun v6=>Sum.elim (fun v8=>some (Sum.inl ((v4.1,v8.1),()))) (fun v9=>some (Sum.inr v9)) v6) (fun v10=>some (Sum.inr v10)) v2
def a6Q:aW:=.e9 288 [] ⟨239,[.ty aU,.ty aU],[aU],fun x=>mF x.1 x.2.1,false⟩
theorem wN:a6Q.Ok CT.P:=kO aL (B8 KI) Tryz.f288 (by kernel_rfl) fun x=>by kernel_rfl
def wO (a1:Ty.El aU)(a2:Ty.El I):Option (aS [aU]⊕Int):=(qC a1.1 a2).bind fun v2=>Sum.elim (fun v4=>(qC a1.2 a2).bind fun v6=>Sum.elim (fun v8=>some (Sum.inl ((v4.1,v8.1),()))) (fun v9=>some (Sum.inr v9)) v6) (fun v10=>some (Sum.inr v10)) v2
def aVw:aW:=.e9 276 [] ⟨239,[.ty aU,.ty I],[aU],fun x=>wO x.1 x.2.1,false⟩
theorem aJ8:aVw.Ok CT.P:=kO aL (B8 aC3) Tryz.f276 (by kernel_rfl) fun x=>by kernel_rfl
def aC5 (a1:Ty.El aU)(a2:Ty.El I):Option (aS [aU]⊕Int):=(wM a1.1 a2).bind fun v2=>Sum.elim (fun v4=>(wM a1.2 a2).bind fun v6=>Sum.elim (fun v8=>some (Sum.inl ((v4.1,v8.1),()))) (fun v9=>some (Sum.inr v9)) v6) (fun v10=>some (Sum.inr v10)) v2
def a6R:aW:=.e9 304 [] ⟨239,[.ty aU,.ty I],[aU],fun x=>aC5 x.1 x.2.1,false⟩
theorem aVx:a6R.Ok CT.P:=kO aL (B8 aC4) Tryz.f304 (by kernel_rfl) fun x=>by kernel_rfl
def aJ9 (a1:Ty.El aU)(a2:Ty.El aU):Option (aS [I]⊕Int):=(qC a1.1 a2.1).bind fun v2=>Sum.elim (fun v4=>(qC a1.2 a2.2).bind fun v6=>Sum.elim (fun v8=>(q9 v4.1 v8.1).bind fun v10=>Sum.elim (fun v12=>some (Sum.inl (v12.1,()))) (fun DM=>some (Sum.inr DM)) v10) (fun pX=>some (Sum.inr pX)) v6) (fun QE=>some (Sum.inr QE)) v2
def a6S:aW:=.e9 306 [] ⟨239,[.ty aU,.ty aU],[I],fun x=>aJ9 x.1 x.2.1,false⟩
theorem a6T:a6S.Ok CT.P:=kO aL (JB SV aC3) Tryz.f306 (by kernel_rfl) fun x=>by kernel_rfl
def UC (a1:Ty.El I)(a2:Ty.El I):Option (aS [I]⊕Int):=bif a2==(0:Int) then some (Sum.inr (4:Int)) else bif a2==(-1:Int) then bif a1==(-9223372036854775808:Int) then some (Sum.inr (3:Int)) else bif decide (a2=(0:Int)) then none else some (Sum.inl (IntKind.i64.wrap (Int.tdiv a1 a2),())) else bif decide (a2=(0:Int)) then none else some (Sum.inl (IntKind.i64.wrap (Int.tdiv a1 a2),()))
def a6U:aW:=.e9 285 [] ⟨239,[.ty I,.ty I],[I],fun x=>UC x.1 x.2.1,false⟩
theorem a6V:a6U.Ok CT.P:=kO aL zN Tryz.f285 (by kernel_rfl) fun x=>by kernel_rfl
def aC6 (a1:Ty.El aU)(a2:Ty.El I):Option (aS [aU]⊕Int):=(UC a1.1 a2).bind fun v2=>Sum.elim (fun v4=>(UC a1.2 a2).bind fun v6=>Sum.elim (fun v8=>some (Sum.inl ((v4.1,v8.1),()))) (fun v9=>some (Sum.inr v9)) v6) (fun v10=>some (Sum.inr v10)) v2
def aKa:aW:=.e9 275 [] ⟨239,[.ty aU,.ty I],[aU],fun x=>aC6 x.1 x.2.1,false⟩
theorem aVy:aKa.Ok CT.P:=kO aL (B8 a6V) Tryz.f275 (by kernel_rfl) fun x=>by kernel_rfl
def aC7 (a1:Ty.El (.int .u64))(a2:Ty.El (.int .u64))(a3:Ty.El (.int .u64)):Option (aS [.bool]):=(k9 a1 a1).bind fun v2=>bif decide (v2.1>a2) then some (true,()) else bif v2.1==a2 then some (decide (v2.2.1>a3),()) else some (false,())
def aVz:aW:=.fn 336 [] ⟨[.ty (.int .u64),.ty (.int .u64),.ty (.int .u64)],[.bool],fun x=>aC7 x.1 x.2.1 x.2.2.1,false⟩
theorem a6W:aVz.Ok CT.P:=fn0 aL (B8 NZ) Tryz.f336 (by kernel_rfl) fun x=>by kernel_rfl
def aKb:Code:=Tryz.f330.body.getD .skip
def UD:Tb:=cC iL iM [aVz]
theorem Z2:UD.Ok CT.P:=aQ (⟨a6W,trivial⟩)
def aGY:Code:=aX aKb 3
abbrev oS:aF:=⟨22,[(0,.data (.int .u64)),(1,.data (.int .u64)),(5,.data (.int .u64)),(6,.data (.int .u64))],[],fun _=>[]⟩
abbrev KJ:aF:=⟨22,[(5,.data (.int .u64))],[],fun _=>[]⟩
abbrev KK:aF:=l0 22
def Z3:=ex 0 0 KJ KK [] []
def uA (r0:Ty.El (.int .u64))(r1:Ty.El (.int .u64))(r5:Ty.El (.int .u64))(r6:Ty.El (.int .u64)):Option (oS.El⊕(KJ.El⊕KK.El)):=bif decide (r6>(0:Int)) then(aC7 (bOr IntKind.u64 r5 r6) r0 r1).bind fun v2=>bif !v2.1 then some (Sum.inl ((r0,r1,bOr IntKind.u64 r5 r6,Int.fdiv r6 (2:Int),()),())) else some (Sum.inl ((r0,r1,r5,Int.fdiv r6 (2:Int),()),())) else some (Sum.inr (Sum.inl ((r5,()),())))
theorem aVA (x:oS.El):aV CT UD (cB CT UD) iI aGY (oS.enc x) (bG (oS.lay []) Z3)=uA x.1.1 x.1.2.1 x.1.2.2.1 x.1.2.2.2.1:=by kernel_rfl
def UE:oS.El→Option (KJ.El⊕KK.El):=aH (fun x=>uA x.1.1 x.1.2.1 x.1.2.2.1 x.1.2.2.2.1) fuel
def aNl {β:Type}:dK β:=fun k s K=>if Nat.beq k 3 then bO (oS.lay []) Z3 UE s K else none
theorem aKc {β:Type}:aC CT (aNl (β:=β)) (aJ aKb):=aC.is [(3,aGY)] (by kernel_rfl) (aC.cons (iW aL Z2 (bC (by kernel_rfl)) aVA rfl rfl) (aC.nil))
def UF (a1:Ty.El (.int .u64))(a2:Ty.El (.int .u64)):Option (aS [.int .u64]):=(UE ((a1,a2,(0:Int),(9223372036854775808:Int),()),())).bind fun v1=>Sum.elim (fun v2=>some (v2.1.1,())) (fun v3=>none) v1
theorem a6X (x:Ps [.ty (.int .u64),.ty (.int .u64)]):dA CT UD [.int .u64] (cB CT UD) aNl Tryz.f330 aKb (bQ [.ty (.int .u64),.ty (.int .u64)] x)=UF x.1 x.2.1:=by kernel_rfl
def a6Y:aW:=.fn 330 [] ⟨[.ty (.int .u64),.ty (.int .u64)],[.int .u64],fun x=>UF x.1 x.2.1,false⟩
theorem a6Z:a6Y.Ok CT.P:=aW.ofFn aL Z2 (by kernel_rfl) (by kernel_rfl) aKc a6X
def KL (a1:Ty.El I):Option (aS [.int .u64]):=bif decide (a1<(0:Int)) then some (IntKind.u64.wrap ((0:Int)-IntKind.u64.wrap a1),()) else some (IntKind.u64.wrap a1,())
def a60:aW:=.fn 328 [] ⟨[.ty I],[.int .u64],fun x=>KL x.1,false⟩
theorem a61:a60.Ok CT.P:=fn0 aL zN Tryz.f328 (by kernel_rfl) fun x=>by kernel_rfl
end Go.DI.S
end
