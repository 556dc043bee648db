import Derived.Test.YtbjldjihpekhaaaGreatNb
import Derived.Laws.Externs
/- Arithmetic of places: told by functions on data. No conditions. -/
set_option linter.unusedSimpArgs false
set_option linter.unusedVariables false
set_option maxRecDepth 100000
set_option maxHeartbeats 0
noncomputable section
namespace Go.DI.S
open Go.Proofs
def add64A {β:Type}(args:List AV)(K:AV→Option β):Option β:=match args with
 | [.int .u64 x,.int .u64 y,.int .u64 c]=>bif decide (0≤x∧0≤y∧0≤c∧c≤1) then K (.tup [.int .u64 ((x+y+c) % 18446744073709551616),.int .u64 ((x+y+c) / 18446744073709551616)]) else none
 | _=>none
def E_w220:Ent:=.ext 329 ⟨fun args K=>add64A args K⟩
theorem e_w220:E_w220.Ok CT.P:=by
 intro β args K z h
 have h:add64A args K=some z:=h
 unfold add64A at h
 split at h
 ·rename_i x y c _
  cases hc:decide (0≤x∧0≤y∧0≤c∧c≤1) with
  | false=>rw [hc] at h;cases h
  | true=>
   rw [hc] at h
   have hc:=of_decide_eq_true hc
   refine⟨_,h,fun w R ρ us hv=>?_⟩
   obtain⟨u1,us1,e1,v1,k1⟩:=hv.cons_inv
   obtain⟨u2,us2,rfl,v2,k2⟩:=k1.cons_inv
   obtain⟨u3,us3,rfl,v3,k3⟩:=k2.cons_inv
   obtain rfl:=k3.nil_inv
   cases v1
   cases v2
   cases v3
   have hu:us=#[.int .u64 x,.int .u64 y,.int .u64 c]:=Array.toList_inj.1 (by simpa using e1)
   subst hu
   refine⟨_,?_,.tup' (us:=#[_,_]) (.cons (.int _ _) (.cons (.int _ _) .nil))⟩
   show(callFunc 329 _).run Tryz.prog w=_
   rw [run_callFunc_extern Tryz.func329 (by kernel_rfl) (by kernel_rfl) (by kernel_rfl) (e:=add64Entry) (by kernel_rfl),run_add64 x y c hc.1 hc.2.1 hc.2.2.1 hc.2.2.2]
   rfl
 ·cases h
def tab8:List UInt8:=[0,1,2,2,3,3,3,3,4,4,4,4,4,4,4,4,5,5,5,5,5,5,5,5,5,5,5,5,5,5,5,5,6,6,6,6,6,6,6,6,6,6,6,6,6,6,6,6,6,6,6,6,6,6,6,6,6,6,6,6,6,6,6,6,7,7,7,7,7,7,7,7,7,7,7,7,7,7,7,7,7,7,7,7,7,7,7,7,7,7,7,7,7,7,7,7,7,7,7,7,7,7,7,7,7,7,7,7,7,7,7,7,7,7,7,7,7,7,7,7,7,7,7,7,7,7,7,7,8,8,8,8,8,8,8,8,8,8,8,8,8,8,8,8,8,8,8,8,8,8,8,8,8,8,8,8,8,8,8,8,8,8,8,8,8,8,8,8,8,8,8,8,8,8,8,8,8,8,8,8,8,8,8,8,8,8,8,8,8,8,8,8,8,8,8,8,8,8,8,8,8,8,8,8,8,8,8,8,8,8,8,8,8,8,8,8,8,8,8,8,8,8,8,8,8,8,8,8,8,8,8,8,8,8,8,8,8,8,8,8,8,8,8,8,8,8,8,8,8,8,8,8,8,8,8,8]
def len8 (n x:Int):Option (Els [I]):=
 bif Decidable.decide ((0:Int)≤Go.IntKind.u8.wrap x∧Go.IntKind.u8.wrap x<(256:Int)) then
  Option.some (Go.IntKind.i64.wrap (n+Go.IntKind.i64.wrap (((tab8.getD (Go.IntKind.u8.wrap x).toNat (0:UInt8)).toBitVec.toFin.1:Nat):Int)),())
 else Option.none
def len16 (n x:Int):Option (Els [I]):=bif Decidable.decide (x≥(256:Int)) then len8 (Go.IntKind.i64.wrap (n+8)) (Int.fdiv x (256:Int)) else len8 n x
def len32 (n x:Int):Option (Els [I]):=bif Decidable.decide (x≥(65536:Int)) then len16 (Go.IntKind.i64.wrap (n+16)) (Int.fdiv x (65536:Int)) else len16 n x
def F_w285 (a1:Ty.El I)(a2:Ty.El I):Option (Els [I,I]):=(F_parts a1).bind fun v2=>(F_parts a2).bind fun v4=>bif v4.2.1==(0:Int) then some ((0:Int),(4:Int),()) else bif decide (Int.fdiv v2.2.1 (4294967296:Int)≥v4.2.1) then some ((0:Int),(3:Int),()) else(F_div64 (Int.fdiv v2.2.1 (4294967296:Int)) (IntKind.u64.wrap (v2.2.1*(4294967296:Int))) v4.2.1).bind fun v6=>(F_whole (!v2.1==v4.1) v6.1).bind fun v8=>some (v8.1,v8.2.1,())
def E_w285:Ent:=.fn 307 [] ⟨[.ty I,.ty I],[I,I],fun x=>F_w285 x.1 x.2.1,false⟩
theorem e_w285:E_w285.Ok CT.P:=fn0 CT_ok (tb (l:=[E_div64,E_parts,E_whole]) ⟨e_div64,e_parts,e_whole,trivial⟩) Tryz.f307 (by kernel_rfl) (by kernel_rfl) (by kernel_rfl) fun x=>by kernel_rfl
def F_w230 (a1:Ty.El I)(a2:Ty.El I):Option (Els [I]⊕Int):=(F_fsub a1 a2).bind fun v2=>(F_161 v2.1 v2.2.1).bind fun v4=>Sum.elim (fun v6=>some (Sum.inl (v6.1,()))) (fun v7=>some (Sum.inr v7)) v4
def E_w230:Ent:=.mkFnP 291 [] ⟨239,[.ty I,.ty I],[I],fun x=>F_w230 x.1 x.2.1,false⟩
theorem e_w230:E_w230.Ok CT.P:=fnP0 CT_ok (tb (l:=[E_161,E_fsub]) ⟨e_161,e_fsub,trivial⟩) Tryz.f291 (by kernel_rfl) (by kernel_rfl) (by kernel_rfl) fun x=>by kernel_rfl
def F_w225 (a1:Ty.El I)(a2:Ty.El I):Option (Els [I]⊕Int):=(F_fmul a1 a2).bind fun v2=>(F_161 v2.1 v2.2.1).bind fun v4=>Sum.elim (fun v6=>some (Sum.inl (v6.1,()))) (fun v7=>some (Sum.inr v7)) v4
def E_w225:Ent:=.mkFnP 286 [] ⟨239,[.ty I,.ty I],[I],fun x=>F_w225 x.1 x.2.1,false⟩
theorem e_w225:E_w225.Ok CT.P:=fnP0 CT_ok (tb (l:=[E_161,E_fmul]) ⟨e_161,e_fmul,trivial⟩) Tryz.f286 (by kernel_rfl) (by kernel_rfl) (by kernel_rfl) fun x=>by kernel_rfl
def F_w231 (a1:Ty.El I)(a2:Ty.El I):Option (Els [I]⊕Int):=(F_w285 a1 a2).bind fun v2=>(F_161 v2.1 v2.2.1).bind fun v4=>Sum.elim (fun v6=>some (Sum.inl (v6.1,()))) (fun v7=>some (Sum.inr v7)) v4
def E_w231:Ent:=.mkFnP 292 [] ⟨239,[.ty I,.ty I],[I],fun x=>F_w231 x.1 x.2.1,false⟩
theorem e_w231:E_w231.Ok CT.P:=fnP0 CT_ok (tb (l:=[E_161,E_w285]) ⟨e_161,e_w285,trivial⟩) Tryz.f292 (by kernel_rfl) (by kernel_rfl) (by kernel_rfl) fun x=>by kernel_rfl
def F_w227 (a1:Ty.El tVec)(a2:Ty.El tVec):Option (Els [tVec]⊕Int):=(F_w230 a1.1 a2.1).bind fun v2=>Sum.elim (fun v4=>(F_w230 a1.2 a2.2).bind fun v6=>Sum.elim (fun v8=>some (Sum.inl ((v4.1,v8.1),()))) (fun v9=>some (Sum.inr v9)) v6) (fun v10=>some (Sum.inr v10)) v2
def E_w227:Ent:=.mkFnP 288 [] ⟨239,[.ty tVec,.ty tVec],[tVec],fun x=>F_w227 x.1 x.2.1,false⟩
theorem e_w227:E_w227.Ok CT.P:=fnP0 CT_ok (tb (l:=[E_w230]) ⟨e_w230,trivial⟩) Tryz.f288 (by kernel_rfl) (by kernel_rfl) (by kernel_rfl) fun x=>by kernel_rfl
def F_w162 (a1:Ty.El tVec)(a2:Ty.El I):Option (Els [tVec]⊕Int):=(F_w225 a1.1 a2).bind fun v2=>Sum.elim (fun v4=>(F_w225 a1.2 a2).bind fun v6=>Sum.elim (fun v8=>some (Sum.inl ((v4.1,v8.1),()))) (fun v9=>some (Sum.inr v9)) v6) (fun v10=>some (Sum.inr v10)) v2
def E_w162:Ent:=.mkFnP 276 [] ⟨239,[.ty tVec,.ty I],[tVec],fun x=>F_w162 x.1 x.2.1,false⟩
theorem e_w162:E_w162.Ok CT.P:=fnP0 CT_ok (tb (l:=[E_w225]) ⟨e_w225,trivial⟩) Tryz.f276 (by kernel_rfl) (by kernel_rfl) (by kernel_rfl) fun x=>by kernel_rfl
def F_w244 (a1:Ty.El tVec)(a2:Ty.El I):Option (Els [tVec]⊕Int):=(F_w231 a1.1 a2).bind fun v2=>Sum.elim (fun v4=>(F_w231 a1.2 a2).bind fun v6=>Sum.elim (fun v8=>some (Sum.inl ((v4.1,v8.1),()))) (fun v9=>some (Sum.inr v9)) v6) (fun v10=>some (Sum.inr v10)) v2
def E_w244:Ent:=.mkFnP 304 [] ⟨239,[.ty tVec,.ty I],[tVec],fun x=>F_w244 x.1 x.2.1,false⟩
theorem e_w244:E_w244.Ok CT.P:=fnP0 CT_ok (tb (l:=[E_w231]) ⟨e_w231,trivial⟩) Tryz.f304 (by kernel_rfl) (by kernel_rfl) (by kernel_rfl) fun x=>by kernel_rfl
def F_w283 (a1:Ty.El tVec)(a2:Ty.El tVec):Option (Els [I]⊕Int):=(F_w225 a1.1 a2.1).bind fun v2=>Sum.elim (fun v4=>(F_w225 a1.2 a2.2).bind fun v6=>Sum.elim (fun v8=>(F_146 v4.1 v8.1).bind fun v10=>Sum.elim (fun v12=>some (Sum.inl (v12.1,()))) (fun v13=>some (Sum.inr v13)) v10) (fun v14=>some (Sum.inr v14)) v6) (fun v15=>some (Sum.inr v15)) v2
def E_w283:Ent:=.mkFnP 306 [] ⟨239,[.ty tVec,.ty tVec],[I],fun x=>F_w283 x.1 x.2.1,false⟩
theorem e_w283:E_w283.Ok CT.P:=fnP0 CT_ok (tb (l:=[E_146,E_w225]) ⟨e_146,e_w225,trivial⟩) Tryz.f306 (by kernel_rfl) (by kernel_rfl) (by kernel_rfl) fun x=>by kernel_rfl
def F_w224 (a1:Ty.El I)(a2:Ty.El I):Option (Els [I]⊕Int):=bif a2==(0:Int) then some (Sum.inr (4:Int)) else bif a2==(-1:Int) then bif a1==(-9223372036854775808:Int) then some (Sum.inr (3:Int)) else bif decide (a2=(0:Int)) then none else some (Sum.inl (IntKind.i64.wrap (Int.tdiv a1 a2),())) else bif decide (a2=(0:Int)) then none else some (Sum.inl (IntKind.i64.wrap (Int.tdiv a1 a2),()))
def E_w224:Ent:=.mkFnP 285 [] ⟨239,[.ty I,.ty I],[I],fun x=>F_w224 x.1 x.2.1,false⟩
theorem e_w224:E_w224.Ok CT.P:=fnP0 CT_ok (tb (l:=[]) trivial) Tryz.f285 (by kernel_rfl) (by kernel_rfl) (by kernel_rfl) fun x=>by kernel_rfl
def F_w161 (a1:Ty.El tVec)(a2:Ty.El I):Option (Els [tVec]⊕Int):=(F_w224 a1.1 a2).bind fun v2=>Sum.elim (fun v4=>(F_w224 a1.2 a2).bind fun v6=>Sum.elim (fun v8=>some (Sum.inl ((v4.1,v8.1),()))) (fun v9=>some (Sum.inr v9)) v6) (fun v10=>some (Sum.inr v10)) v2
def E_w161:Ent:=.mkFnP 275 [] ⟨239,[.ty tVec,.ty I],[tVec],fun x=>F_w161 x.1 x.2.1,false⟩
theorem e_w161:E_w161.Ok CT.P:=fnP0 CT_ok (tb (l:=[E_w224]) ⟨e_w224,trivial⟩) Tryz.f275 (by kernel_rfl) (by kernel_rfl) (by kernel_rfl) fun x=>by kernel_rfl
def F_w330 (a1:Ty.El (.int .u64))(a2:Ty.El (.int .u64))(a3:Ty.El (.int .u64)):Option (Els [.bool]):=(F_mul64 a1 a1).bind fun v2=>bif decide (v2.1>a2) then some (true,()) else bif v2.1==a2 then some (decide (v2.2.1>a3),()) else some (false,())
def E_w330:Ent:=.fn 336 [] ⟨[.ty (.int .u64),.ty (.int .u64),.ty (.int .u64)],[.bool],fun x=>F_w330 x.1 x.2.1 x.2.2.1,false⟩
theorem e_w330:E_w330.Ok CT.P:=fn0 CT_ok (tb (l:=[E_mul64]) ⟨e_mul64,trivial⟩) Tryz.f336 (by kernel_rfl) (by kernel_rfl) (by kernel_rfl) fun x=>by kernel_rfl
def c_w324:Code:=Tryz.f330.body.getD .skip
def T_w324:Tb:=mkTb tyT mpT [E_w330]
theorem T_w324_ok:T_w324.Ok CT.P:=mkTb_ok (⟨e_w330,trivial⟩)
def l_w324_3:Code:=atLoop c_w324 3
abbrev LD_w324_3:LayD:=⟨22,[(0,.data (.int .u64)),(1,.data (.int .u64)),(5,.data (.int .u64)),(6,.data (.int .u64))],[],fun _=>[]⟩
abbrev LA_w324_3:LayD:=⟨22,[(5,.data (.int .u64))],[],fun _=>[]⟩
abbrev LB_w324_3:LayD:=⟨22,[],[],fun _=>[]⟩
def EX_w324_3:Exits 0 LA_w324_3.El LB_w324_3.El:=⟨.exit 0,LA_w324_3.lay [],.ret,LB_w324_3.lay []⟩
def G_w324_3 (r0:Ty.El (.int .u64))(r1:Ty.El (.int .u64))(r5:Ty.El (.int .u64))(r6:Ty.El (.int .u64)):Option (LD_w324_3.El⊕(LA_w324_3.El⊕LB_w324_3.El)):=bif decide (r6>(0:Int)) then(F_w330 (bOr IntKind.u64 r5 r6) r0 r1).bind fun v2=>bif !v2.1 then some (Sum.inl ((r0,r1,bOr IntKind.u64 r5 r6,Int.fdiv r6 (2:Int),()),())) else some (Sum.inl ((r0,r1,r5,Int.fdiv r6 (2:Int),()),())) else some (Sum.inr (Sum.inl ((r5,()),())))
theorem g_w324_3 (x:LD_w324_3.El):codeT CT T_w324 (drT CT T_w324) lp0 l_w324_3 (LD_w324_3.enc x) (bodyK (LD_w324_3.lay []) EX_w324_3)=G_w324_3 x.1.1 x.1.2.1 x.1.2.2.1 x.1.2.2.2.1:=by kernel_rfl
def R_w324_3:LD_w324_3.El→Option (LA_w324_3.El⊕LB_w324_3.El):=roundsT (fun x=>G_w324_3 x.1.1 x.1.2.1 x.1.2.2.1 x.1.2.2.2.1) fuel
def lp_w324 {β:Type}:LpT β:=fun k s K=>if Nat.beq k 3 then lpOne (LD_w324_3.lay []) EX_w324_3 R_w324_3 s K else none
theorem lp_w324_ok {β:Type}:LpTOk CT (lp_w324 (β:=β)) (loopsOf c_w324):=LpTOk.is [(3,l_w324_3)] (by kernel_rfl) (LpTOk.cons (fun s K z h=>lpG CT_ok T_w324_ok (lp0_ok (by kernel_rfl)) (L:=LD_w324_3.lay []) (E:=EX_w324_3) g_w324_3 rfl rfl rfl rfl h) (LpTOk.nil))
def F_w324 (a1:Ty.El (.int .u64))(a2:Ty.El (.int .u64)):Option (Els [.int .u64]):=(R_w324_3 ((a1,a2,(0:Int),(9223372036854775808:Int),()),())).bind fun v1=>Sum.elim (fun v2=>some (v2.1.1,())) (fun v3=>none) v1
theorem f_w324 (x:Ps [.ty (.int .u64),.ty (.int .u64)]):funcT CT T_w324 [.int .u64] (drT CT T_w324) lp_w324 Tryz.f330 c_w324 (encPs [.ty (.int .u64),.ty (.int .u64)] x)=F_w324 x.1 x.2.1:=by kernel_rfl
def E_w324:Ent:=.fn 330 [] ⟨[.ty (.int .u64),.ty (.int .u64)],[.int .u64],fun x=>F_w324 x.1 x.2.1,false⟩
theorem e_w324:E_w324.Ok CT.P:=Ent.ofFn CT_ok T_w324_ok (by kernel_rfl) (by kernel_rfl) lp_w324_ok f_w324
def F_w323 (a1:Ty.El I):Option (Els [.int .u64]):=bif decide (a1<(0:Int)) then some (IntKind.u64.wrap ((0:Int)-IntKind.u64.wrap a1),()) else some (IntKind.u64.wrap a1,())
def E_w323:Ent:=.fn 328 [] ⟨[.ty I],[.int .u64],fun x=>F_w323 x.1,false⟩
theorem e_w323:E_w323.Ok CT.P:=fn0 CT_ok (tb (l:=[]) trivial) Tryz.f328 (by kernel_rfl) (by kernel_rfl) (by kernel_rfl) fun x=>by kernel_rfl
end Go.DI.S
end
